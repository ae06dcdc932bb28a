import PyProof.Rows.All
import Wide.All
import OpenK.AllK
import Wide.FinOn
import KE.KStateDown
import KE.SortData
import Lean
import HandS.ForMost
import HandS.More
import HandS.Wide
import HandS.Flow
import HandS.Slots
import HandS.Style
import HandS.IsInst
import HandS.Defaults
import HandS.SetKeys
import HandS.TupAny
import HandS.Zip
import HandS.Conv
import HandS.Strs
import HandS.Star
import HandS.Walk
import HandS.SortOrd
import HandS.Deep
import HandS.DictComp
import HandS.SetFor
import HandS.AnyAll
import HandS.JoinGen
import HandS.GenList
import HandS.Nested
import KE.KDictIter
import KE.GoesMore
import HandS.WordsExc
import HandS.Head0
import HandS.Head1
import HandS.Head2
import HandS.HeadEnd
import HandS.HeadHook1
import HandS.HeadHook2
import HandS.HeadHook4
import HandS.HeadWalk
import PySem.Challenge.RW_probed_k17_lists_names_and_the_same_agai
set_option Elab.async false
set_option linter.all false
set_option maxRecDepth 100000
set_option maxHeartbeats 4000000
/-! Pure values, stores, and how they lie in the abstract heap of the hand layer. -/
namespace Py
open PySem PySem.Spec PyProof.Rows L2

inductive D where
  | und | non | bl (b : Bool) | int (i : Int) | str (x : Str) | ty (n : String) | ref (a : Addr) | glo (x : Str) | tup (xs : List D) | kl (xs : List D)
  | sl (xs : List D) | kd (ks : List Key) (ds : List D) | ob (c : Str) (ds : List D)

inductive O where
  | lst (xs : List D)
  | dct (kvs : List (Key × D))
  | set (ks : List Str)
  | ins (c : Str) (fs : List (Str × D))

abbrev Sto := Addr → Option O
def put (st : Sto) (a : Addr) (o : O) : Sto := fun b => if b = a then some o else st b
theorem put_same {st : Sto} {a : Addr} {o : O} : put st a o a = some o := by unfold put; rw [if_pos rfl]
theorem put_ne {st : Sto} {a b : Addr} {o : O} (h : b ≠ a) : put st a o b = st b := by unfold put; rw [if_neg h]
theorem put_put {st : Sto} {a : Addr} {o u : O} : put (put st a o) a u = put st a u := by
  funext b; unfold put; split <;> rfl
/-- part of a store -/
def Sub (st st' : Sto) : Prop := ∀ a o, st a = some o → st' a = some o
theorem Sub.refl (st : Sto) : Sub st st := fun _ _ h => h
theorem Sub.trans {a b c : Sto} (h : Sub a b) (k : Sub b c) : Sub a c := fun x o q => k x o (h x o q)
theorem Sub.put {st : Sto} {a : Addr} {o : O} (h : st a = none) : Sub st (put st a o) := fun b u q => by
  have : b ≠ a := fun e => by rw [e, h] at q; cases q
  rw [put_ne this]; exact q
theorem sto_ne {st : Sto} {a b : Addr} {o : O} (h : st a = some o) (k : st b = none) : a ≠ b := fun e => by rw [e, k] at h; cases h

/-- a list that nobody writes: locked, or of the written part -/
def SqF (K : PySem.W.Frag) (H : Hp) (a : Addr) (xs : List V) : Prop := (∃ o, H a = some (.frz o (.lst xs))) ∨
    ∃ (o : Obj) (its : Array Value) (n : Nat), K.lookup a = some o ∧ o.cls = .type "list" ∧ o.dict = none ∧ o.data = .seq its n ∧ its.size ≤ sizeLine ∧ Vals xs its.toList
theorem SqF.sq {K : PySem.W.Frag} {H : Hp} {a : Addr} {xs : List V} (h : SqF K H a xs) : SqL K H a xs := h.elim (fun ⟨o, e⟩ => .inl (.inr ⟨o, e⟩)) .inr
mutual
inductive Rep (K : PySem.W.Frag) (mg : Str → Option Value) (H : Hp) : D → V → Prop
  | non : Rep K mg H .non .non
  | bl (b : Bool) : Rep K mg H (.bl b) (.bl b)
  | int (i : Int) : Rep K mg H (.int i) (.int i)
  | str (x : Str) : Rep K mg H (.str x) (.str x)
  | ty (n : String) : Rep K mg H (.ty n) (.ty n)
  | ref (a : Addr) : Rep K mg H (.ref a) (.ref a)
  | glo {x : Str} {a : Addr} : mg x = some (.ref a) → Rep K mg H (.glo x) (.ref a)
  | tup {a : Addr} {ds : List D} {vs : List V} : ds.length ≤ sizeLine → SqT K H a vs → Reps K mg H ds vs → Rep K mg H (.tup ds) (.ref a)
  | kl {a : Addr} {o : Obj} {ds : List D} {vs : List V} : ds.length ≤ sizeLine → H a = some (.frz o (.lst vs)) → Reps K mg H ds vs → Rep K mg H (.kl ds) (.ref a)
  | sl {a : Addr} {ds : List D} {vs : List V} : ds.length ≤ sizeLine → SqF K H a vs → Reps K mg H ds vs → Rep K mg H (.sl ds) (.ref a)
  | kd {a : Addr} {o : Obj} {ks : List Key} {ds : List D} {vs : List V} : ks.length ≤ sizeLine → ks.length = ds.length → H a = some (.frz o (.dK (ks.zip vs))) → Reps K mg H ds vs → Rep K mg H (.kd ks ds) (.ref a)
  | ob {a C dx : Addr} {o : Obj} {c : Str} {ds : List D} {us : List (Option V)} : mg c = some (.ref C) → dx ≠ a → H a = some (.frz o (SlX.SlO a C dx us)) → H dx = some (.xd []) → RepSl K mg H ds us → Rep K mg H (.ob c ds) (.ref a)
inductive Reps (K : PySem.W.Frag) (mg : Str → Option Value) (H : Hp) : List D → List V → Prop
  | nil : Reps K mg H [] []
  | cons {d : D} {v : V} {ds : List D} {vs : List V} : Rep K mg H d v → Reps K mg H ds vs → Reps K mg H (d :: ds) (v :: vs)
/-- slots: what is not known is und -/
inductive RepSl (K : PySem.W.Frag) (mg : Str → Option Value) (H : Hp) : List D → List (Option V) → Prop
  | nil {us : List (Option V)} : RepSl K mg H [] us
  | cons {d : D} {v : V} {ds : List D} {us : List (Option V)} : Rep K mg H d v → RepSl K mg H ds us → RepSl K mg H (d :: ds) (some v :: us)
  | skip {ds : List D} {u : Option V} {us : List (Option V)} : RepSl K mg H ds us → RepSl K mg H (.und :: ds) (u :: us)
  | skip0 {ds : List D} : RepSl K mg H ds [] → RepSl K mg H (.und :: ds) []
end

/-- what is locked stays, and the empty dicts of slotted things -/
def FzM (H H' : Hp) : Prop := (∀ a o u, H a = some (.frz o u) → H' a = some (.frz o u)) ∧ ∀ b, H b = some (.xd []) → H' b = some (.xd [])
section
variable {K : PySem.W.Frag} {mg : Str → Option Value} {H H' : Hp}
theorem FzM.lf (f : FzM H H') {a : Addr} {xs : List V} (h : SqF K H a xs) : SqF K H' a xs := h.elim (fun ⟨o, e⟩ => .inl ⟨o, f.1 _ _ _ e⟩) .inr
mutual
theorem Rep.mono (t : ∀ a xs, SqT K H a xs → SqT K H' a xs) (f : FzM H H') : ∀ {d : D} {v : V}, Rep K mg H d v → Rep K mg H' d v
  | _, _, .non => .non
  | _, _, .bl b => .bl b
  | _, _, .int i => .int i
  | _, _, .str x => .str x
  | _, _, .ty x => .ty x
  | _, _, .ref a => .ref a
  | _, _, .glo h => .glo h
  | _, _, .tup z s r => .tup z (t _ _ s) (Reps.mono t f r)
  | _, _, .kl z s r => .kl z (f.1 _ _ _ s) (Reps.mono t f r)
  | _, _, .sl z s r => .sl z (f.lf s) (Reps.mono t f r)
  | _, _, .kd z e h r => .kd z e (f.1 _ _ _ h) (Reps.mono t f r)
  | _, _, .ob g n h x r => .ob g n (f.1 _ _ _ h) (f.2 _ x) (RepSl.mono t f r)
theorem Reps.mono (t : ∀ a xs, SqT K H a xs → SqT K H' a xs) (f : FzM H H') : ∀ {ds : List D} {vs : List V}, Reps K mg H ds vs → Reps K mg H' ds vs
  | _, _, .nil => .nil
  | _, _, .cons h r => .cons (Rep.mono t f h) (Reps.mono t f r)
theorem RepSl.mono (t : ∀ a xs, SqT K H a xs → SqT K H' a xs) (f : FzM H H') : ∀ {ds : List D} {us : List (Option V)}, RepSl K mg H ds us → RepSl K mg H' ds us
  | _, _, .nil => .nil
  | _, _, .cons h r => .cons (Rep.mono t f h) (RepSl.mono t f r)
  | _, _, .skip r => .skip (RepSl.mono t f r)
  | _, _, .skip0 r => .skip0 (RepSl.mono t f r)
end
theorem RepSl.get : ∀ {ds : List D} {us : List (Option V)} {i : Nat} {d : D}, RepSl K mg H ds us → ds[i]? = some d → d ≠ .und → ∃ v, us[i]? = some (some v) ∧ Rep K mg H d v
  | _, _, _, _, .nil, e, _ => by simp at e
  | _, _, 0, _, .cons h _, e, _ => by simp at e; subst e; exact ⟨_, rfl, h⟩
  | _, _, 0, _, .skip _, e, n => by simp at e; exact (n e.symm).elim
  | _, _, 0, _, .skip0 _, e, n => by simp at e; exact (n e.symm).elim
  | _, _, i + 1, d, .cons _ r, e, n => by
    obtain ⟨v, h1, h2⟩ := RepSl.get (i := i) (d := d) r (by simpa using e) n
    exact ⟨v, by simpa using h1, h2⟩
  | _, _, i + 1, d, .skip r, e, n => by
    obtain ⟨v, h1, h2⟩ := RepSl.get (i := i) (d := d) r (by simpa using e) n
    exact ⟨v, by simpa using h1, h2⟩
  | _, _, i + 1, d, .skip0 r, e, n => by
    obtain ⟨v, h1, h2⟩ := RepSl.get (i := i) (d := d) r (by simpa using e) n
    simp at h1
theorem Reps.length : ∀ {ds : List D} {vs : List V}, Reps K mg H ds vs → ds.length = vs.length
  | _, _, .nil => rfl
  | _, _, .cons _ r => by simp [r.length]
theorem Reps.get : ∀ {ds : List D} {vs : List V} {i : Nat} {d : D}, Reps K mg H ds vs → ds[i]? = some d → ∃ v, vs[i]? = some v ∧ Rep K mg H d v
  | _, _, _, _, .nil, e => by simp at e
  | _, _, 0, _, .cons h _, e => by simp at e; subst e; exact ⟨_, rfl, h⟩
  | _, _, i + 1, d, .cons _ r, e => by
    obtain ⟨v, h1, h2⟩ := Reps.get (i := i) (d := d) r (by simpa using e)
    exact ⟨v, by simpa using h1, h2⟩
theorem Reps.append : ∀ {ds es : List D} {vs ws : List V}, Reps K mg H ds vs → Reps K mg H es ws → Reps K mg H (ds ++ es) (vs ++ ws)
  | _, _, _, _, .nil, s => s
  | _, _, _, _, .cons h r, s => .cons h (Reps.append r s)
theorem Reps.take : ∀ {ds : List D} {vs : List V} (n : Nat), Reps K mg H ds vs → Reps K mg H (ds.take n) (vs.take n)
  | _, _, 0, _ => .nil
  | _, _, _ + 1, .nil => .nil
  | _, _, n + 1, .cons h r => .cons h (Reps.take n r)
theorem Reps.drop : ∀ {ds : List D} {vs : List V} (n : Nat), Reps K mg H ds vs → Reps K mg H (ds.drop n) (vs.drop n)
  | _, _, 0, r => r
  | _, _, _ + 1, .nil => .nil
  | _, _, n + 1, .cons _ r => Reps.drop n r
theorem Reps.set {d : D} {v : V} (h : Rep K mg H d v) : ∀ {ds : List D} {vs : List V} (i : Nat), Reps K mg H ds vs → Reps K mg H (ds.set i d) (vs.set i v)
  | _, _, _, .nil => .nil
  | _, _, 0, .cons _ r => .cons h r
  | _, _, i + 1, .cons q r => .cons q (Reps.set h i r)
theorem Reps.erase : ∀ {ds : List D} {vs : List V} (i : Nat), Reps K mg H ds vs → Reps K mg H (ds.eraseIdx i) (vs.eraseIdx i)
  | _, _, _, .nil => .nil
  | _, _, 0, .cons _ r => r
  | _, _, i + 1, .cons q r => .cons q (Reps.erase i r)
theorem Reps.reverse : ∀ {ds : List D} {vs : List V}, Reps K mg H ds vs → Reps K mg H ds.reverse vs.reverse
  | _, _, .nil => .nil
  | _, _, .cons h r => by simpa using (Reps.reverse r).append (.cons h .nil)
theorem Reps.replicate (n : Nat) {d : D} {v : V} (h : Rep K mg H d v) : Reps K mg H (List.replicate n d) (List.replicate n v) := by
  induction n with
  | zero => exact .nil
  | succ n ih => exact .cons h ih
theorem Reps.one {d : D} {vs : List V} (r : Reps K mg H [d] vs) : ∃ v, vs = [v] ∧ Rep K mg H d v := by
  cases r with
  | cons h r => cases r; exact ⟨_, rfl, h⟩
theorem Reps.two {d e : D} {vs : List V} (r : Reps K mg H [d, e] vs) : ∃ v w, vs = [v, w] ∧ Rep K mg H d v ∧ Rep K mg H e w := by
  cases r with
  | cons h r => obtain ⟨w, rfl, q⟩ := r.one; exact ⟨_, _, rfl, h, q⟩
theorem Rep.int_inv {i : Int} {v : V} (h : Rep K mg H (.int i) v) : v = .int i := by cases h; rfl
theorem Rep.bl_inv {i : Bool} {v : V} (h : Rep K mg H (.bl i) v) : v = .bl i := by cases h; rfl
theorem Rep.str_inv {i : Str} {v : V} (h : Rep K mg H (.str i) v) : v = .str i := by cases h; rfl
theorem Rep.ref_inv {i : Addr} {v : V} (h : Rep K mg H (.ref i) v) : v = .ref i := by cases h; rfl
theorem Rep.non_inv {v : V} (h : Rep K mg H .non v) : v = .non := by cases h; rfl
theorem Rep.tup_inv {ds : List D} {v : V} (h : Rep K mg H (.tup ds) v) : ∃ a vs, v = .ref a ∧ ds.length ≤ sizeLine ∧ SqT K H a vs ∧ Reps K mg H ds vs := by
  cases h with
  | tup z s r => exact ⟨_, _, rfl, z, s, r⟩
end
end Py

set_option Elab.async false
set_option linter.all false
set_option maxRecDepth 100000
set_option maxHeartbeats 4000000
/-! Sets of texts: made of a list or a tuple, their number, their sorted list. -/
namespace Py
open PySem PySem.Spec PyProof.Rows L2
def keyT (e : Int × Value) : Str := match e.2 with
  | .str x _ => x
  | _ => Str.empty
def GoodT (w : World) (e : Int × Value) : Prop := ∃ x tk, e.2 = Value.str x tk ∧ e.1 = hashStr w x
/-- the set of texts at a: S its members, n their number; its table can be walked -/
def SetT (w : World) (h : Heap) (a : Addr) (S : Str → Bool) (n : Nat) : Prop :=
  ∃ o es ep t, h.get? a = some o ∧ o.ExactSet ∧ o.data = .set es ep t ∧ (∀ e ∈ es.toList, GoodT w e) ∧ (es.toList.map keyT).Nodup ∧ (∀ k, S k = true ↔ k ∈ es.toList.map keyT) ∧
    es.size < scanBound ∧ t.fits es.size = true ∧ es.size = n ∧ Ris t.place.toList ∧ (w.params.followText "set-order" = true ∨ t.led = true)
section
variable {P : Program} {w : World} {h h' : Heap} {a : Addr} {S : Str → Bool} {n : Nat}
theorem SetT.at (R : SetT w h a S n) (k : ∀ o, h.get? a = some o → h'.get? a = some o) : SetT w h' a S n := by
  obtain ⟨o, es, ep, t, ho, r⟩ := R
  exact ⟨o, es, ep, t, k o ho, r⟩
theorem SetT.congr {S' : Str → Bool} (R : SetT w h a S n) (e : ∀ k, S' k = S k) : SetT w h a S' n := by
  have q : S' = S := funext e
  rw [q]; exact R
theorem goodT_elems {l : List (Int × Value)} (g : ∀ e ∈ l, GoodT w e) : ElemsOf (PySem.strKind P w) l := fun e he => by
  obtain ⟨k, tk, h1, h2⟩ := g e he
  exact ⟨⟨k, by rw [h1]; exact strKind_is P w k tk, h2⟩, by rw [h1] <;> rfl⟩
theorem goodT_is {e : Int × Value} (g : GoodT w e) (k : Str) : (PySem.strKind P w).is k e.2 = true ↔ keyT e = k := by
  obtain ⟨x, tk, h1, _⟩ := g
  unfold keyT
  rw [h1]
  constructor
  · intro z
    have z : Value.isStrOf k (Value.str x tk) = true := z
    obtain ⟨t, e⟩ := Value.isStrOf_shape z
    cases e
    rfl
  · rintro rfl
    exact strKind_is P w _ tk
theorem goodT_mem {l : List (Int × Value)} (g : ∀ e ∈ l, GoodT w e) (k : Str) : k ∈ l.map keyT ↔ ∃ e ∈ l, (PySem.strKind P w).is k e.2 = true := by
  rw [List.mem_map]
  exact ⟨fun ⟨e, he, q⟩ => ⟨e, he, (goodT_is (g e he) k).2 q⟩, fun ⟨e, he, q⟩ => ⟨e, he, (goodT_is (g e he) k).1 q⟩⟩
theorem SetT.setOf (R : SetT w h a S n) : h.SetOf (PySem.strKind P w) a S n := by
  obtain ⟨o, es, ep, t, ho, hx, hd, g, nd, hm, hb, hf, hn, _⟩ := R
  exact ⟨o, es, ep, t, ho, hx, hd, goodT_elems g, fun k => (hm k).trans (goodT_mem g k), hb, hf, hn⟩
end
section
variable {P : Program} {w : World} {A : Around} {E : Value → Shared → Prop} {s : Shared} {a : Addr} {S : Str → Bool} {n : Nat}
theorem setT_tail {g : Bool → Sem Unit} (hg : ∀ (b : Bool) (s₁ : Shared) (Q' : Unit → Shared → Prop), Q' () s₁ → wpAny (model P w) A (g b) Q' E s₁)
    {o : Obj} {es : Array (Int × Value)} {ep : Nat} {t : SetTable} (ho : s.heap.get? a = some o) (hex : o.ExactSet) (hd : o.data = .set es ep t)
    {es1 : Array (Int × Value)} {t2 : SetTable} {S' : Str → Bool} (g1 : ∀ e ∈ es1.toList, GoodT w e) (nd1 : (es1.toList.map keyT).Nodup) (m1 : ∀ k, S' k = true ↔ k ∈ es1.toList.map keyT)
    (hb1 : es1.size < scanBound) (hf2 : t2.fits es1.size = true) (hr : Ris t2.place.toList) (hl : w.params.followText "set-order" = true ∨ t2.led = true) {wasDummy : Bool} {R : Option Bool → Shared → Prop}
    (hR : ∀ h', Heap.SameBut a s.heap h' → SetT w h' a S' es1.size → R (some true) { s with heap := h' }) :
    wpAny (model P w) A (do
        storeSet a es1 t2
        if (!wasDummy && t2.tooFull) = true then do
            g (relayAll t2 es1 (SetTable.grown es1.size)).2.2
            storeSet a (relayAll t2 es1 (SetTable.grown es1.size)).1 (relayAll t2 es1 (SetTable.grown es1.size)).2.1
            pure (some true)
          else pure (some true)) R E s := by
  refine wpAny_bind (wpAny_storeSet_of ho hd ?_ (fits_of_scanBound hb1))
  have ho1 := store_at (es' := es1) (t' := t2) ho hd
  have sb1 := Heap.SameBut.update s.heap a (Obj.putSet es1 t2)
  split
  · have pm := relayAll_perm t2 es1 (SetTable.grown es1.size)
    have hf3 := relayAll_fits t2 es1 (SetTable.grown es1.size)
    have hr3 := relayAll_ris t2 es1 (SetTable.grown es1.size)
    have hl3 := relayAll_led t2 es1 (SetTable.grown es1.size)
    generalize relayAll t2 es1 (SetTable.grown es1.size) = Z at pm hf3 hr3 hl3 ⊢
    obtain ⟨es2, t3, gave⟩ := Z
    dsimp only at pm hf3 hr3 hl3 ⊢
    have hsz : es2.size = es1.size := by rw [← Array.length_toList, pm.length_eq, Array.length_toList]
    have hb2 : es2.size < scanBound := by rw [hsz]; exact hb1
    refine wpAny_bind (hg _ _ _ ?_)
    refine wpAny_bind (wpAny_storeSet_of ho1 rfl ?_ (fits_of_scanBound hb2))
    have ho2 := store_at (es' := es2) (t' := t3) ho1 rfl
    refine wpAny_pure (hR _ (sb1.trans (Heap.SameBut.update _ a _)) ?_)
    exact ⟨_, es2, _, t3, ho2, hex, rfl, fun e he => g1 e (pm.mem_iff.mp he), (pm.map keyT).nodup_iff.mpr nd1, fun k => (m1 k).trans (pm.map keyT).mem_iff.symm, hb2, hf3, hsz, hr3,
      hl.imp id fun z => by rw [hl3]; exact z⟩
  · exact wpAny_pure (hR _ sb1 ⟨_, es1, _, t2, ho1, hex, rfl, g1, nd1, m1, hb1, hf2, rfl, hr, hl⟩)
theorem setT_add {k : Str} {tk : Tok} {Q : Bool → Shared → Prop} (R : SetT w s.heap a S n) (room : n + 1 < scanBound)
    (hQ : ∀ h', Heap.SameBut a s.heap h' → SetT w h' a (fun j => S j || decide (j = k)) (if S k = true then n else n + 1) → Q (!S k) { s with heap := h' }) :
    wpAny (model P w) A (setAddHashed a (.str k tk) ((PySem.strKind P w).hash k)) Q E s := by
  obtain ⟨o, es, ep, t, ho, hex, hd, g, nd, hm, hb, hf, hn, hr, hl⟩ := R
  have hkey : (PySem.strKind P w).is k (.str k tk) = true := strKind_is P w k tk
  have hsc : (Value.str k tk).scannable = true := rfl
  have hel : ElemsOf (PySem.strKind P w) es.toList := goodT_elems g
  unfold setAddHashed setAddHashedIn
  refine wpAny_holding (wpAny_bind (wpAny_setState_of ho hd hf ?_))
  dsimp only
  rw [byScan_of hsc hb hel]
  simp only [↓reduceIte]
  unfold setAddByScan
  refine wpAny_bind ?_
  refine wpAny_bind (wpAny_rule ?_)
  refine wpAny_bind (wpAny_setScan_of hkey ho hd hf hel ?_)
  cases hfi : List.findIdx? (fun e => (PySem.strKind P w).is k e.2) es.toList with
  | some j =>
    dsimp only
    obtain ⟨hj, pj, _⟩ := List.findIdx?_eq_some_iff_getElem.mp hfi
    have hSk : S k = true := (hm k).2 ((goodT_mem (P := P) (w := w) g k).2 ⟨es.toList[j], List.getElem_mem hj, pj⟩)
    refine wpAny_pure (wpAny_pure ?_)
    have q := hQ s.heap (Heap.SameBut.refl a s.heap) ⟨o, es, ep, t, ho, hex, hd, g, nd, fun i => by
      rw [Bool.or_eq_true, decide_eq_true_eq, ← hm i]
      exact ⟨fun z => z.elim id (fun e => e ▸ hSk), .inl⟩, hb, hf, by rw [if_pos hSk]; exact hn, hr, hl⟩
    rw [hSk] at q
    exact q
  | none =>
    dsimp only
    have hnk : k ∉ es.toList.map keyT := fun z => by
      obtain ⟨e, he, q⟩ := (goodT_mem (P := P) (w := w) g k).1 z
      have c := List.findIdx?_eq_none_iff.mp hfi e he
      rw [q] at c
      cases c
    have hSk : S k = false := by
      cases q : S k with
      | false => rfl
      | true => exact absurd ((hm k).1 q) hnk
    have hgw : ∀ (b : Bool) {s₁ : Shared} {Q' : Unit → Shared → Prop}, Q' () s₁ → wpAny (model P w) A (match b with | true => rule "set.scan.the-table-gave-way" | false => pure ()) Q' E s₁ :=
      fun b s₁ Q' q => by cases b <;> first | exact wpAny_pure q | exact wpAny_rule q
    have pm := layNew_perm t es ((PySem.strKind P w).hash k) (.str k tk)
    have hf1 := layNew_fits t es ((PySem.strKind P w).hash k) (.str k tk)
    have hr1 := layNew_ris t es ((PySem.strKind P w).hash k) (.str k tk) hr
    have hl1 := layNew_led t es ((PySem.strKind P w).hash k) (.str k tk)
    generalize layNew t es ((PySem.strKind P w).hash k) (.str k tk) = Z at pm hf1 hr1 hl1 ⊢
    obtain ⟨es1, t1, wasDummy, gave⟩ := Z
    dsimp only at pm hf1 hr1 hl1 ⊢
    rw [Array.toList_push] at pm
    have pc : es1.toList.Perm (((PySem.strKind P w).hash k, Value.str k tk) :: es.toList) := pm.trans (List.perm_append_singleton _ _)
    have pk : (es1.toList.map keyT).Perm (k :: es.toList.map keyT) := pc.map keyT
    have g1 : ∀ e ∈ es1.toList, GoodT w e := fun e he => by
      rcases List.mem_cons.mp (pc.mem_iff.mp he) with z | z
      · rw [z]; exact ⟨k, tk, rfl, rfl⟩
      · exact g e z
    have nd1 : (es1.toList.map keyT).Nodup := pk.nodup_iff.mpr (List.nodup_cons.mpr ⟨hnk, nd⟩)
    have m1 : ∀ i, (S i || decide (i = k)) = true ↔ i ∈ es1.toList.map keyT := fun i => by
      rw [Bool.or_eq_true, decide_eq_true_eq, hm i, pk.mem_iff, List.mem_cons]
      exact Or.comm
    have hsz : es1.size = n + 1 := by rw [← Array.length_toList, pc.length_eq, List.length_cons, Array.length_toList, hn]
    have hb1 : es1.size < scanBound := by rw [hsz]; exact room
    have hled : w.params.followText "set-order" = true ∨ t1.led = true := hl.imp id fun z => by rw [hl1]; exact z
    have fin : ∀ h', Heap.SameBut a s.heap h' → SetT w h' a (fun j => S j || decide (j = k)) es1.size → Q true { s with heap := h' } := fun h' sb r => by
      have q := hQ h' sb
      rw [hSk] at q
      rw [hsz] at r
      exact q r
    refine wpAny_bind (hgw _ ?_)
    split
    · refine wpAny_bind ?_
      rw [hashByValue_scannable 8 hsc]
      refine wpAny_pure ?_
      refine setT_tail ?_ ho hex hd g1 nd1 m1 hb1 ?_ ?_ ?_ ?_
      · intro b s₁ Q' q; cases b <;> first | exact wpAny_pure q | exact wpAny_rule q
      · first | (split <;> first | exact hf1 | exact SetTable.fits_plain_off hf1) | exact hf1
      · first | (split <;> exact hr1) | exact hr1
      · first | (split <;> exact hled) | exact hled
      · intro h' sb r; dsimp only; exact wpAny_pure (fin h' sb r)
    · refine wpAny_bind (wpAny_pure ?_)
      simp only [↓reduceIte]
      refine setT_tail ?_ ho hex hd g1 nd1 m1 hb1 hf1 hr1 hled ?_
      · intro b s₁ Q' q; cases b <;> first | exact wpAny_pure q | exact wpAny_rule q
      · intro h' sb r; dsimp only; exact wpAny_pure (fin h' sb r)
end
end Py

set_option Elab.async false
set_option linter.all false
set_option maxRecDepth 100000
set_option maxHeartbeats 4000000
/-! Sets of texts: set(list), set(tuple). -/
namespace Py
open PySem PySem.Spec PyProof.Rows L2
theorem setT_new_at {w : World} {h : Heap} {a : Addr} {ns : List Str} (ho : h.get? a = some { cls := .type "set", dict := none, data := .set #[] 0 (.fresh 0 0 (!w.params.followText "set-order")) }) : SetT w h a (fun j => decide (j ∈ ns.take 0)) 0 :=
  ⟨_, #[], 0, _, ho, ⟨rfl, rfl, rfl⟩, rfl, (fun e he => by simp at he), (by simp), (fun k => by simp), (by decide), (by rfl), rfl, List.Pairwise.nil, by
    show _ ∨ (!w.params.followText "set-order") = true
    cases w.params.followText "set-order"
    · exact .inr rfl
    · exact .inl rfl⟩
/-- each once -/
def ddp : List Str → List Str
  | [] => []
  | x :: r => if x ∈ r then ddp r else x :: ddp r
theorem mem_ddp {y : Str} : ∀ {l : List Str}, y ∈ ddp l ↔ y ∈ l
  | [] => by simp [ddp]
  | x :: r => by
    unfold ddp
    split
    · rename_i h
      rw [mem_ddp, List.mem_cons]
      exact ⟨.inr, fun z => z.elim (fun e => by rw [e]; exact h) id⟩
    · rw [List.mem_cons, List.mem_cons, mem_ddp]
theorem nodup_ddp : ∀ l : List Str, (ddp l).Nodup
  | [] => List.Pairwise.nil
  | x :: r => by
    unfold ddp
    split
    · exact nodup_ddp r
    · rename_i h
      exact List.nodup_cons.mpr ⟨fun z => h (mem_ddp.mp z), nodup_ddp r⟩
theorem ddp_le : ∀ l : List Str, (ddp l).length ≤ l.length
  | [] => Nat.le_refl _
  | x :: r => by
    unfold ddp
    have := ddp_le r
    split <;> simp <;> omega
theorem nodup_len {l m : List Str} (h1 : l.Nodup) (h2 : m.Nodup) (h : ∀ x, x ∈ l ↔ x ∈ m) : l.length = m.length :=
  ((List.perm_ext_iff_of_nodup h1 h2).mpr h).length_eq
theorem setT_count {w : World} {h : Heap} {a : Addr} {ns : List Str} {c : Nat} (R : SetT w h a (fun j => decide (j ∈ ns)) c) : SetT w h a (fun j => decide (j ∈ ns)) (ddp ns).length := by
  obtain ⟨o, es, ep, t, ho, hx, hd, g, nd, hm, hb, hf, hn, r⟩ := R
  have e : es.size = (ddp ns).length := by
    rw [← Array.length_toList, ← List.length_map (f := keyT)]
    refine nodup_len nd (nodup_ddp ns) fun x => ?_
    rw [← hm x, decide_eq_true_eq, mem_ddp]
  exact ⟨o, es, ep, t, ho, hx, hd, g, nd, hm, hb, hf, e, r⟩
section
variable {P : Program} {w : World} {A : Around} {E : Value → Shared → Prop} {s : Shared}
theorem set_update_strs {I : Addr} {fp wr : List Addr} {G : Array GenState → Array GenState → Prop} {n : Nat} {Pv : Nat → Value → Prop} {St : Nat → Shared → Prop} {R : Result → Shared → Prop}
    (W : WalksS P w A.in1 I fp wr G n Pv St) (S : Addr) (hSf : S ∉ fp) (ns : List Str) (hn : n = ns.length) (hb : ns.length + 1 < scanBound) (hval : ∀ i v, Pv i v → ∃ k t, ns[i]? = some k ∧ v = .str k t) :
    ∀ (k i : Nat) (s : Shared), n - i = k → i ≤ n → St i s → (∃ c, SetT w s.heap S (fun j => decide (j ∈ ns.take i)) c) →
      (∀ s' c, Moved (S :: wr) G s s' → SetT w s'.heap S (fun j => decide (j ∈ ns)) c → R (.ok (.ret .none)) s') →
      codeAny (model P w) A (.builtin "set.update.loop" ⟨[.ref S, .ref I], []⟩) R s := by
  have hSw : S ∉ wr := fun h => hSf (W.sub _ h)
  have hsub : ∀ b ∈ wr, b ∈ S :: wr := fun b hb => List.mem_cons_of_mem _ hb
  intro k
  induction k with
  | zero =>
    intro i s hk' hi hst ⟨c, hS⟩ hR
    have hin : i = n := by omega
    subst hin
    refine codeAny_builtin F.entry_set_update_loop ?_
    rw [Around.under_plainId F.plain_set_update_loop _]
    show wpAny _ A.in1 (pyNext (.ref I) >>= _) _ _ s
    refine wpAny_bind (W.done s _ _ hst fun s' hm => ?_)
    show wpAny _ A.in1 (ret Value.none) _ _ s'
    have e : ns.take i = ns := List.take_of_length_le (by omega)
    rw [e] at hS
    exact wpAny_pure (hR s' c (hm.mono hsub) (hS.at fun o e => hm.heap S o hSw e))
  | succ k ih =>
    intro i s hk' hi hst ⟨c, hS⟩ hR
    have hlt : i < n := by omega
    refine codeAny_builtin F.entry_set_update_loop ?_
    rw [Around.under_plainId F.plain_set_update_loop _]
    show wpAny _ A.in1 (pyNext (.ref I) >>= _) _ _ s
    refine wpAny_bind (W.item i s _ _ hlt hst fun v s' hP hst' hm => ?_)
    obtain ⟨z, t, hz, rfl⟩ := hval i v hP
    have hS' : SetT w s'.heap S (fun j => decide (j ∈ ns.take i)) c := hS.at fun o e => hm.heap S o hSw e
    have hc : c ≤ i := by
      have e := hS'
      obtain ⟨o, es, ep, tb, ho, hx, hd, g, nd, hmm, hbb, hf, hnn, r⟩ := e
      have : (es.toList.map keyT).length ≤ (ns.take i).length := by
        rw [nodup_len nd (nodup_ddp (ns.take i)) fun x => by rw [← hmm x, decide_eq_true_eq, mem_ddp]]
        exact ddp_le _
      rw [List.length_map, Array.length_toList, List.length_take] at this
      omega
    show wpAny _ A.in1 (holding [Value.str z t] (setAdd S (.str z t)) >>= _) _ _ s'
    refine wpAny_bind (wpAny_holding ?_)
    unfold setAdd
    refine wpAny_holding ?_
    refine wpAny_bind ((PySem.strKind P w).pyHash (k := z) (strKind_is _ _ _ _) ?_)
    refine setT_add (s := { s' with toks := s'.toks + 1 }) hS' (by omega) fun h' hsb hS2 => ?_
    have hS3 : SetT w h' S (fun j => decide (j ∈ ns.take (i + 1))) (if decide (z ∈ ns.take i) = true then c else c + 1) := hS2.congr fun j => by
      rw [List.take_add_one, hz]
      simp [List.mem_append]
    refine wpAny_pure ⟨plainId_quiet F.plain_set_update_loop _, ih (i + 1) _ (by omega) hlt (W.frame _ s' _ _ hst' (Nat.le_succ _) fun b hb o e => ?_) ⟨_, hS3⟩ fun s'' c2 hm'' hS'' => ?_⟩
    · rw [hsb.2 b (fun h : b = S => hSf (by rw [← h]; exact hb))]; exact e
    · refine hR s'' c2 (Moved.trans W.gtrans ((hm.mono hsub).then_heap (Nat.le_succ _) fun b o hb e => ?_) hm'') hS''
      rw [hsb.2 b (fun h : b = S => hb (by rw [h]; exact List.mem_cons_self))]; exact e
end
end Py

set_option Elab.async false
set_option linter.all false
set_option maxRecDepth 100000
set_option maxHeartbeats 4000000
/-! A small language and what it means (predicate transformers over pure values and stores). -/
namespace Py
open PySem PySem.Spec PyProof.Rows L2

inductive Bop where
  | add | sub | mul | fdiv | mod | pow
inductive Cop where
  | eq | ne | lt | le | gt | ge | is | isnot | mem | nmem
/-- built-in functions and types that are called -/
inductive Bf where
  | len | abs | int | all | any | sorted | tuple | list | min | max | set | str | isinstance | dict
/-- methods of built-in types -/
inductive Bm where
  | append | extend | pop | index | tindex | remove | insert | reverse | join | split | partition | replace | get | items

/-- targets: a name's slot; a tuple of names; a tuple with a star behind some names -/
inductive Tg where
  | nm (i : Nat) | tp (is : List Nat) | st (is : List Nat) (j : Nat)

mutual
inductive Ex where
  | non | bl (b : Bool) | int (i : Int) | str (x : Str) | var (i : Nat) | glo (x : Str) | bty (n : String)
  | bin (o : Bop) (a b : Ex) | neg (a : Ex)
  | cmp (o : Cop) (a b : Ex) | chn (o p : Cop) (a b c : Ex)
  | and (a b : Ex) | or (a b : Ex) | not (a : Ex) | ite (c a b : Ex)
  | tup (es : Exs) | lst (es : Exs) | dnew
  | call (f : Str) (es : Exs) (ks : List Str) | new (c : Str) (es : Exs) (ks : List Str)
  | blt (f : Bf) (es : Exs) | bm (m : Bm) (o : Ex) (es : Exs) | mth (o : Ex) (m : Str) (es : Exs)
  | att (o : Ex) (f : Str) | idx (o i : Ex)
  | slc (o : Ex) (lo hi : Exs) | rev (o : Ex)
  | lc (elt : Ex) (vs : List Nat) (t : Tg) (it : It) (ifs : Exs)
  | lc2 (elt : Ex) (vs : List Nat) (t : Tg) (it : It) (ifs : Exs) (vs1 : List Nat) (t1 : Tg) (it1 : It) (ifs1 : Exs)
  | dc (k v : Ex) (vs : List Nat) (t : Tg) (it : It) (ifs : Exs)
  /-- next((x for x in texts if x in others), constant): the names of texts and others -/
  | nxt (i j : Nat) (g : Str)
  | frz (e : Ex)
inductive Exs where
  | nil | cons (e : Ex) (r : Exs) | star (e : Ex) (r : Exs)
/-- what is walked -/
inductive It where
  | of (e : Ex) | rng1 (a : Ex) | rng2 (a b : Ex) | enum (e : Ex) | zip (a b : Ex)
end

mutual
inductive Sm where
  | exp (e : Ex) | ret (e : Ex) | pass | brk | cnt
  | asg (t : Tg) (e : Ex) | par (is : List Nat) (es : Exs)
  | satt (o : Ex) (f : Str) (e : Ex) | ssub (o i e : Ex)
  | aug (i : Nat) (o : Bop) (e : Ex) | augA (ob : Ex) (f : Str) (o : Bop) (e : Ex)
  | iff (c : Ex) (a b : Sms) | whl (c : Ex) (b : Sms) | for_ (t : Tg) (it : It) (b : Sms)
  | never
inductive Sms where
  | nil | cons (s : Sm) (r : Sms)
end

structure Fd where
  ps : List Str
  n : Nat
  dfl : List D
  body : Sms
structure Cd where
  slots : List Str
  slotted : Bool
structure Prog where
  blt : List Str
  fns : List ((Str × Str) × Fd)
  cls : List (Str × Cd)
  cons : List (Str × D)

def ixOf (f : Str) : List Str → Option Nat
  | [] => none
  | g :: r => if g = f then some 0 else (ixOf f r).map (· + 1)
abbrev Loc := List (Option D)
abbrev QD := D → Sto → Prop
/-- of an exception: its class, its attributes, the store -/
abbrev XD := Str → List (Str × D) → Sto → Prop
/-- what a call means: class ("" for a def), name, arguments -/
abbrev Cal := Str → Str → List D → Sto → QD → XD → Prop

def rdL (st : Sto) : D → Option (List D)
  | .ref a => match st a with
    | some (.lst xs) => some xs
    | _ => none
  | .kl xs => some xs
  | .sl xs => some xs
  | _ => none
/-- a list that is no script -/
def rdM (st : Sto) : D → Option (List D)
  | .ref a => match st a with
    | some (.lst xs) => some xs
    | _ => none
  | .kl xs => some xs
  | _ => none
/-- a list or a tuple -/
def rdS (st : Sto) : D → Option (List D)
  | .tup xs => some xs
  | d => rdL st d

mutual
inductive Dt (st : Sto) : D → PyData → Prop
  | non : Dt st .non .none
  | bl (b : Bool) : Dt st (.bl b) (.bool b)
  | int (i : Int) : Dt st (.int i) (.int i)
  | str (x : Str) : Dt st (.str x) (.str x)
  | lst {d : D} {xs : List D} {ds : List PyData} : rdL st d = some xs → Dts st xs ds → Dt st d (.list ds)
  | tup {xs : List D} {ds : List PyData} : Dts st xs ds → Dt st (.tup xs) (.tuple ds)
inductive Dts (st : Sto) : List D → List PyData → Prop
  | nil : Dts st [] []
  | cons {x : D} {d : PyData} {xs : List D} {ds : List PyData} : Dt st x d → Dts st xs ds → Dts st (x :: xs) (d :: ds)
end

def keyD : Key → D
  | .inl i => .int i
  | .inr x => .str x
def keyOf : D → Option Key
  | .int i => some (.inl i)
  | .str x => some (.inr x)
  | _ => none
def valD {κ : Type} [DecidableEq κ] (kvs : List (κ × D)) (k : κ) : Option D := (kvs.find? fun kv => decide (kv.1 = k)).map (·.2)
def putD {κ : Type} [DecidableEq κ] (kvs : List (κ × D)) (k : κ) (v : D) : List (κ × D) :=
  if (kvs.any fun kv => decide (kv.1 = k)) = true then kvs.map (fun kv => if kv.1 = k then (kv.1, v) else kv) else kvs ++ [(k, v)]
/-- the pairs of the dict at a -/
def rdD (st : Sto) : D → Option (List (Key × D))
  | .ref a => match st a with
    | some (.dct kvs) => some kvs
    | _ => none
  | .kd ks ds => some (ks.zip ds)
  | _ => none

def setF (f : Str) (d : D) : List (Str × D) → List (Str × D)
  | [] => [(f, d)]
  | (g, e) :: r => if g = f then (g, d) :: r else (g, e) :: setF f d r
/-- a new list -/
def newL (xs : List D) (st : Sto) (Q : QD) : Prop := xs.length ≤ sizeLine ∧ ∀ p, st p = none → Q (.ref p) (put st p (.lst xs))
def newT (xs : List D) (st : Sto) (Q : QD) : Prop := xs.length ≤ sizeLine ∧ Q (.tup xs) st

def bopR (o : Bop) (a b : D) (st : Sto) (Q : QD) : Prop := match o with
  | .add => (match a, b with
    | .int i, .int j => Q (.int (i + j)) st
    | .str x, .str y => x.length + y.length ≤ sizeLine ∧ Q (.str (x ++ y)) st
    | .tup xs, .tup ys => newT (xs ++ ys) st Q
    | a, b => ∃ xs ys, rdM st a = some xs ∧ rdM st b = some ys ∧ newL (xs ++ ys) st Q)
  | .sub => (match a, b with
    | .int i, .int j => Q (.int (i - j)) st
    | _, _ => False)
  | .mul => (match a, b with
    | .int i, .int j => CMul i j ∧ Q (.int (i * j)) st
    | .ref p, .int k => ∃ xs, st p = some (.lst xs) ∧ -(2 ^ 63) ≤ k ∧ k < 2 ^ 63 ∧ xs.length * k.toNat ≤ sizeLine ∧ newL (List.replicate k.toNat xs).flatten st Q
    | _, _ => False)
  | .fdiv => (match a, b with
    | .int i, .int j => CDiv i j ∧ Q (.int (i / j)) st
    | _, _ => False)
  | .mod => (match a, b with
    | .int i, .int j => 0 < j ∧ Q (.int (i % j)) st
    | _, _ => False)
  | .pow => (match a, b with
    | .int i, .int j => CPow i j ∧ Q (.int (i ^ j.toNat)) st
    | _, _ => False)

def memR (neg : Bool) (a b : D) (st : Sto) (Q : QD) : Prop := match b with
  | .str y => ∃ c, a = .str ⟨#[c]⟩ ∧ Q (.bl (neg ^^ decide (c ∈ y.cps.toList))) st
  | .tup ys => ∃ d ds, Dt st a d ∧ Dts st ys ds ∧ SeqAt.shaped d = true ∧ SeqAt.shaped (.tuple ds) = true ∧ Q (.bl (neg ^^ ds.any fun z => PyData.eqv z d)) st
  | b => (match rdD st b with
    | some kvs => ∃ k, keyOf a = some k ∧ Q (.bl (neg ^^ (valD kvs k).isSome)) st
    | none => ∃ ys d ds, rdL st b = some ys ∧ Dt st a d ∧ Dts st ys ds ∧ SeqAt.shaped d = true ∧ SeqAt.shaped (.list ds) = true ∧ Q (.bl (neg ^^ ds.any fun z => PyData.eqv z d)) st)

def copR (o : Cop) (a b : D) (st : Sto) (Q : QD) : Prop := match o with
  | .eq => ∃ d e, Dt st a d ∧ Dt st b e ∧ SeqAt.shaped d = true ∧ SeqAt.shaped e = true ∧ Q (.bl (PyData.eqv d e)) st
  | .ne => ∃ d e, Dt st a d ∧ Dt st b e ∧ SeqAt.shaped d = true ∧ SeqAt.shaped e = true ∧ Q (.bl (!PyData.eqv d e)) st
  | .lt => (match a, b with
    | .int i, .int j => Q (.bl (decide (i < j))) st
    | .str x, .str y => Q (.bl (decide (x.cps.toList < y.cps.toList))) st
    | _, _ => False)
  | .le => (match a, b with
    | .int i, .int j => Q (.bl (decide (i ≤ j))) st
    | .str x, .str y => Q (.bl (!decide (y.cps.toList < x.cps.toList))) st
    | _, _ => False)
  | .gt => (match a, b with
    | .int i, .int j => Q (.bl (decide (j < i))) st
    | .str x, .str y => Q (.bl (decide (y.cps.toList < x.cps.toList))) st
    | _, _ => False)
  | .ge => (match a, b with
    | .int i, .int j => Q (.bl (decide (j ≤ i))) st
    | _, _ => False)
  | .is => (match b with
    | .non => (match a with
      | .non => Q (.bl true) st
      | _ => Q (.bl false) st)
    | _ => False)
  | .isnot => (match b with
    | .non => (match a with
      | .non => Q (.bl false) st
      | _ => Q (.bl true) st)
    | _ => False)
  | .mem => memR false a b st Q
  | .nmem => memR true a b st Q

/-- truth -/
def truR (d : D) (st : Sto) (Q : Bool → Sto → Prop) : Prop := match d with
  | .non => Q false st
  | .bl b => Q b st
  | .int i => Q (i != 0) st
  | .str x => x.length ≤ sizeLine ∧ Q (x.length != 0) st
  | .tup xs => Q (!xs.isEmpty) st
  | d => ∃ xs, rdL st d = some xs ∧ Q (!xs.isEmpty) st

/-- values in the order of their data -/
def srtD (xs : List D) (ds : List PyData) : List D := ((xs.zip ds).mergeSort (PySem.W.dataLe false fun p : D × PyData => p.2)).map (·.1)
/-- data that can be sorted -/
structure SrtOk (ds : List PyData) : Prop where
  al : PySem.W.AllAlike ds
  so : PySem.W.Sortable ds
  dp : ∀ d ∈ ds, d.depth ≤ 60

/-- the built-in class of a value -/
def tyN (st : Sto) (d : D) : Option String := match d with
  | .non => some "NoneType"
  | .bl _ => some "bool"
  | .int _ => some "int"
  | .str _ => some "str"
  | .tup _ => some "tuple"
  | .kl _ => some "list"
  | .sl _ => some "list"
  | .kd _ _ => some "dict"
  | .ref a => (match st a with
    | some (.lst _) => some "list"
    | some (.dct _) => some "dict"
    | _ => none)
  | _ => none
/-- isinstance of a value and a built-in class -/
def isiB (st : Sto) (d : D) (n : String) : Option Bool := (tyN st d).bind fun t => kitB t n

def allB : List D → Option (List Bool)
  | [] => some []
  | .bl b :: r => (allB r).map (b :: ·)
  | _ :: _ => none

def bltR (f : Bf) (ds : List D) (st : Sto) (Q : QD) : Prop := match f, ds with
  | .len, [.str x] => x.length ≤ sizeLine ∧ Q (.int x.length) st
  | .len, [.tup xs] => Q (.int xs.length) st
  | .len, [.kl xs] => Q (.int xs.length) st
  | .len, [.sl xs] => Q (.int xs.length) st
  | .len, [.kd ks _] => Q (.int ks.length) st
  | .len, [.ref a] => (match st a with
    | some (.lst xs) => Q (.int xs.length) st
    | some (.dct kvs) => Q (.int kvs.length) st
    | some (.set ks) => Q (.int ks.length) st
    | _ => False)
  | .abs, [.int i] => Q (.int (if i < 0 then -i else i)) st
  | .int, [.int i] => Q (.int i) st
  | .int, [.bl b] => Q (.int (if b then 1 else 0)) st
  | .int, [.str x] => ∃ n, PySem.intText? x = some n ∧ x.length ≤ 640 ∧ Q (.int n) st
  | .str, [.int i] => i.natAbs.log2 < 1920 ∧ Q (.str (toString i)) st
  | .all, [d] => ∃ xs bs, rdL st d = some xs ∧ allB xs = some bs ∧ Q (.bl (bs.all id)) st
  | .any, [d] => ∃ xs bs, rdL st d = some xs ∧ allB xs = some bs ∧ Q (.bl (bs.any id)) st
  | .sorted, [d] => (match rdS st d with
    | some xs => ∃ ds, Dts st xs ds ∧ SrtOk ds ∧ newL (srtD xs ds) st Q
    | none => (match rdD st d with
      | some kvs => ∃ ks : List Str, kvs.map (·.1) = ks.map Sum.inr ∧ ks.length < 64 ∧ ∀ ys : List Str, ys.Perm ks → PyProof.Rows.sortedS ys = true → newL (ys.map D.str) st Q
      | none => ∃ a ks, d = .ref a ∧ st a = some (.set ks) ∧ ∀ ys : List Str, ys.Perm ks → PyProof.Rows.sortedS ys = true → newL (ys.map D.str) st Q))
  | .tuple, [.tup xs] => Q (.tup xs) st
  | .tuple, [d] => ∃ xs, rdL st d = some xs ∧ newT xs st Q
  | .list, [.tup xs] => newL xs st Q
  | .list, [.kl xs] => newL xs st Q
  | .list, [.sl xs] => newL xs st Q
  | .list, [.kd ks _] => newL (ks.map keyD) st Q
  | .list, [.ref a] => (match st a with
    | some (.lst xs) => newL xs st Q
    | some (.dct kvs) => newL (kvs.map fun p => keyD p.1) st Q
    | _ => False)
  | .min, [.int i, .int j] => Q (.int (if j < i then j else i)) st
  | .max, [.int i, .int j] => Q (.int (if j > i then j else i)) st
  | .isinstance, [d, .ty n] => ∃ b, isiB st d n = some b ∧ Q (.bl b) st
  | .isinstance, [d, .tup [.ty n, .ty m]] => ∃ b c, isiB st d n = some b ∧ isiB st d m = some c ∧ Q (.bl (b || c)) st
  | .set, [d] => ∃ (xs : List D) (ks : List Str), rdS st d = some xs ∧ xs = ks.map D.str ∧ ks.length + 1 < scanBound ∧ ∀ p, st p = none → Q (.ref p) (put st p (.set (ddp ks)))
  | _, _ => False

def strsOf (xs : List D) : Option (List Str) := match xs with
  | [] => some []
  | .str x :: r => (strsOf r).map (x :: ·)
  | _ :: _ => none

/-- methods of lists, texts, dicts -/
def bmR (m : Bm) (o : D) (ds : List D) (st : Sto) (Q : QD) : Prop := match m, o, ds with
  | .append, .ref a, [d] => ∃ xs, st a = some (.lst xs) ∧ xs.length < sizeLine ∧ Q .non (put st a (.lst (xs ++ [d])))
  | .extend, .ref a, [b] => ∃ xs ys, st a = some (.lst xs) ∧ rdM st b = some ys ∧ xs.length + ys.length ≤ sizeLine ∧ Q .non (put st a (.lst (xs ++ ys)))
  | .pop, .ref a, [] => ∃ xs y, st a = some (.lst xs) ∧ xs[xs.length - 1]? = some y ∧ Q y (put st a (.lst xs.dropLast))
  | .pop, .ref a, [.int i] => ∃ xs y, st a = some (.lst xs) ∧ 0 ≤ i ∧ xs[i.toNat]? = some y ∧ Q y (put st a (.lst (xs.eraseIdx i.toNat)))
  | .reverse, .ref a, [] => ∃ xs, st a = some (.lst xs) ∧ Q .non (put st a (.lst xs.reverse))
  | _, _, _ => False

inductive Bk where
  | lst | str | dct | tup
def bmK : Bm → Bk
  | .append => .lst | .extend => .lst | .pop => .lst | .index => .lst | .remove => .lst | .insert => .lst | .reverse => .lst
  | .tindex => .tup
  | .join => .str | .split => .str | .partition => .str | .replace => .str
  | .get => .dct | .items => .dct
/-- the receiver's kind -/
def bmOk (m : Bm) (x : D) (s : Sto) : Prop := match bmK m with
  | .lst => (rdL s x).isSome = true
  | .str => ∃ z, x = .str z
  | .dct => (rdD s x).isSome = true
  | .tup => ∃ xs, x = .tup xs
def wipeL (L : Loc) : List Nat → Loc
  | [] => L
  | v :: vs => (wipeL L vs).set v none
def setAll (L : Loc) : List Nat → List D → Option Loc
  | [], [] => some L
  | i :: is, d :: ds => setAll (L.set i (some d)) is ds
  | _, _ => none
/-- a target takes a value -/
def tgR (t : Tg) (d : D) (L : Loc) (Q : Loc → Prop) : Prop := match t, d with
  | .nm i, d => Q (L.set i (some d))
  | .tp is, .tup xs => ∃ L', setAll L is xs = some L' ∧ Q L'
  | _, _ => False

/-- what a statement is to reach -/
structure EndD where
  nx : Loc → Sto → Prop
  rt : QD
  bk : Loc → Sto → Prop := fun _ _ => False
  ct : Loc → Sto → Prop := fun _ _ => False

/-- forget a part of the store -/
def Dr (st : Sto) (Q : Sto → Prop) : Prop := ∃ st', Sub st' st ∧ Q st'
theorem Dr.refl {st : Sto} {Q : Sto → Prop} (h : Q st) : Dr st Q := ⟨st, Sub.refl st, h⟩
theorem Dr.to {st : Sto} (st' : Sto) {Q : Sto → Prop} (s : Sub st' st) (h : Q st') : Dr st Q := ⟨st', s, h⟩

/-- the turns of a for -/
def forL (stays : Sto → Prop) (turn : D → Loc → Sto → (Loc → Sto → Prop) → Prop) (fin : Loc → Sto → Prop) : List D → Loc → Sto → Prop
  | [], L, st => fin L st
  | x :: r, L, st => turn x L st fun L' st' => Dr st' fun s => stays s ∧ forL stays turn fin r L' s
/-- the turns of a comprehension -/
def lcL (stays : Sto → Prop) (turn : D → Sto → (Option D → Sto → Prop) → Prop) (fin : List D → Sto → Prop) : List D → List D → Sto → Prop
  | [], acc, st => fin acc st
  | x :: r, acc, st => turn x st fun o st' => Dr st' fun s => stays s ∧ lcL stays turn fin r (match o with
    | some d => acc ++ [d]
    | none => acc) s
/-- the turns of a comprehension with two clauses -/
def lc2L (stays : Sto → Prop) (turn : D → Sto → List D → (List D → Sto → Prop) → Prop) (fin : List D → Sto → Prop) : List D → List D → Sto → Prop
  | [], acc, st => fin acc st
  | x :: r, acc, st => turn x st acc fun acc' st' => Dr st' fun s => stays s ∧ lc2L stays turn fin r acc' s
def X0 : XD := fun _ _ _ => False

/-- what is read as an int, or nothing -/
def optI : List D → Option (Option Int)
  | [] => some none
  | [.int i] => some (some i)
  | _ => none
def cutD (xs : List D) (lo hi : Option Int) : List D := (xs.drop (HT.sIx xs.length 0 lo)).take (HT.sIx xs.length xs.length hi - HT.sIx xs.length 0 lo)
def slcR (o : D) (lo hi : Option Int) (st : Sto) (Q : QD) : Prop := match o with
  | .str x => x.length ≤ sizeLine ∧ Q (.str (cutS x lo hi)) st
  | .tup xs => Q (.tup (cutD xs lo hi)) st
  | o => ∃ xs, rdL st o = some xs ∧ newL (cutD xs lo hi) st Q
def idxR (o i : D) (st : Sto) (Q : QD) : Prop := match o with
  | .str x => ∃ k c, i = .int k ∧ x.length ≤ sizeLine ∧ atI x.cps.toList k = some c ∧ Q (.str ⟨#[c]⟩) st
  | .tup xs => ∃ k d, i = .int k ∧ atI xs k = some d ∧ Q d st
  | o => (match rdD st o with
    | some kvs => ∃ k d, keyOf i = some k ∧ valD kvs k = some d ∧ Q d st
    | none => ∃ xs k d, rdL st o = some xs ∧ i = .int k ∧ atI xs k = some d ∧ Q d st)

/-- the dict of some pairs -/
def stepK (m : List (Key × D)) (q : D) : List (Key × D) := match q with
  | .tup [kd, e] => (match keyOf kd with
    | some ky => putD m ky e
    | none => m)
  | _ => m
def foldK (acc : List D) : List (Key × D) := acc.foldl stepK []
/-- the values of slots, as far as they are there -/
def pre (fs : List (Str × D)) (slots : List Str) : List D := slots.map fun f => (fs.lookup f).getD .und
def preOk (fs : List (Str × D)) (slots : List Str) : Bool := slots.any fun f => (fs.lookup f).isSome
def del (st : Sto) (a : Addr) : Sto := fun b => if b = a then none else st b
mutual
/-- no locked list or dict within -/
def noKl : D → Bool
  | .kl _ => false
  | .sl _ => false
  | .kd _ _ => false
  | .ob _ _ => false
  | .tup xs => noKls xs
  | _ => true
def noKls : List D → Bool
  | [] => true
  | x :: r => noKl x && noKls r
end
mutual
/-- no locked thing of a class within -/
def noOb : D → Bool
  | .ob _ _ => false
  | .kl xs => noObs xs
  | .sl xs => noObs xs
  | .kd _ xs => noObs xs
  | .tup xs => noObs xs
  | _ => true
def noObs : List D → Bool
  | [] => true
  | x :: r => noOb x && noObs r
end
section
variable (P : Prog) (G : Cal)
/-- arguments: the keywords' values stand last; the defaults fill up -/
def bindK (ps : List Str) (dfl : List D) (ds : List D) (ks : List Str) : Option (List D) :=
  if ks = [] then (if ps.length - dfl.length ≤ ds.length ∧ ds.length ≤ ps.length then some (ds ++ dfl.drop (ds.length - (ps.length - dfl.length))) else none)
  else if ds.length = ks.length ∧ dfl.isEmpty = true ∧ ks.Nodup ∧ (∀ k ∈ ks, k ∈ ps) then ps.mapM fun p => (ks.zip ds).lookup p else none
/-- a thing of the store as it is while it is locked -/
def lockD (st : Sto) (d : D) : D := match d with
  | .ref a => (match st a with
    | some (.lst xs) => .kl xs
    | some (.dct kvs) => .kd (kvs.map (·.1)) (kvs.map (·.2))
    | some (.ins c fs) => (match P.cls.lookup c with
      | some cd => if cd.slotted = true ∧ cd.slots.Nodup ∧ preOk fs cd.slots = true then .ob c (pre fs cd.slots) else d
      | none => d)
    | _ => d)
  | d => d
def lkL (st : Sto) (d : D) : Bool := match d with
  | .ref a => (match st a with
    | some (.lst _) => true
    | some (.dct _) => true
    | _ => false)
  | _ => false
/-- what a call with locked arguments may give -/
def resOk (st : Sto) (ds : List D) (v : D) : Bool := noKl v || (!(ds.any (lkL st)) && noOb v)
def nost : Sto := fun _ => none
/-- a def runs: as it is, or with its arguments locked and nothing else in sight -/
def runR (c f : Str) (fd : Fd) (ds : List D) (ks : List Str) (st : Sto) (Q : QD) (E : XD) : Prop :=
  (∃ xs, bindK fd.ps fd.dfl ds ks = some xs ∧ G c f xs st Q E) ∨
  ∃ xs, bindK fd.ps fd.dfl (ds.map (lockD P st)) ks = some xs ∧ G c f xs nost (fun v _ => resOk st ds v = true ∧ Q v st) (fun _ _ _ => False)
/-- an attribute's value -/
def attV (x : D) (f : Str) (s : Sto) : Option D := match x with
  | .ref a => (match s a with
    | some (.ins _ fs) => fs.lookup f
    | _ => none)
  | .ob c ds => (match P.cls.lookup c with
    | some cd => if cd.slotted = true then (match ixOf f cd.slots with
      | some i => (match ds[i]? with
        | some .und => none
        | o => o)
      | none => none) else none
    | none => none)
  | _ => none
/-- the class whose method is called -/
def mthC (x : D) (m : Str) (s : Sto) (c : Str) : Prop := match x with
  | .ref a => ∃ fs, s a = some (.ins c fs) ∧ fs.lookup m = none
  | .ob c' _ => c' = c ∧ ∃ cd, P.cls.lookup c = some cd ∧ cd.slotted = true ∧ ixOf m cd.slots = none
  | _ => False
/-- a thing is locked for good -/
def frzR (x : D) (s : Sto) (Q : QD) : Prop := match x with
  | .ref a => (match s a with
    | some (.lst xs) => Q (.kl xs) (del s a)
    | some (.dct kvs) => Q (.kd (kvs.map (·.1)) (kvs.map (·.2))) (del s a)
    | some (.ins c fs) => ∃ cd, P.cls.lookup c = some cd ∧ cd.slotted = true ∧ cd.slots.Nodup ∧ preOk fs cd.slots = true ∧ Q (.ob c (pre fs cd.slots)) (del s a)
    | _ => False)
  | x => Q x s
def callR (c f : Str) (ds : List D) (ks : List Str) (st : Sto) (Q : QD) (E : XD) : Prop := ∃ fd, P.fns.lookup (c, f) = some fd ∧ runR P G c f fd ds ks st Q E
def newR (c : Str) (ds : List D) (ks : List Str) (st : Sto) (Q : QD) (E : XD) : Prop := ∃ fd, P.fns.lookup (c, ("__init__" : Str)) = some fd ∧
  ∀ p, st p = none → ∃ xs, bindK fd.ps fd.dfl (.ref p :: ds) ks = some xs ∧ G c "__init__" xs (put st p (.ins c [])) (fun v s => v = .non ∧ Q (.ref p) s) E

/-- the first of some texts that is among others -/
def nxtR (i j : Nat) (g : Str) (L : Loc) (st : Sto) (Q : QD) : Prop := ∃ (os cs : List Str) (y d : D), L[i]? = some (some (.tup (os.map D.str))) ∧ L[j]? = some (some y) ∧ rdS st y = some (cs.map D.str) ∧ (∀ x ∈ os, PyData.strOk x = true) ∧ (∀ x ∈ cs, PyData.strOk x = true) ∧ P.cons.lookup g = some d ∧
  Q (match os.find? fun a => decide (a ∈ cs) with | some a => .str a | none => d) st
mutual
def wpE : Ex → Loc → Sto → QD → XD → Prop
  | .non, _, st, Q, _ => Q .non st
  | .bl b, _, st, Q, _ => Q (.bl b) st
  | .int i, _, st, Q, _ => Q (.int i) st
  | .str x, _, st, Q, _ => Q (.str x) st
  | .bty n, _, st, Q, _ => Q (.ty n) st
  | .glo x, _, st, Q, _ => ∃ d, P.cons.lookup x = some d ∧ Q d st
  | .var i, L, st, Q, _ => ∃ d, L[i]? = some (some d) ∧ Q d st
  | .bin o a b, L, st, Q, E => wpE a L st (fun x s => wpE b L s (fun y t => bopR o x y t Q) E) E
  | .neg a, L, st, Q, E => wpE a L st (fun x s => ∃ i, x = .int i ∧ Q (.int (-i)) s) E
  | .cmp o a b, L, st, Q, E => wpE a L st (fun x s => wpE b L s (fun y t => copR o x y t Q) E) E
  | .chn o p a b c, L, st, Q, E => wpE a L st (fun x s => wpE b L s (fun y t => copR o x y t fun z u => ∃ k, z = .bl k ∧
      if k = true then wpE c L u (fun w v => copR p y w v Q) E else Q (.bl false) u) E) E
  | .and a b, L, st, Q, E => wpE a L st (fun x s => truR x s fun k t => if k = true then wpE b L t Q E else Q x t) E
  | .or a b, L, st, Q, E => wpE a L st (fun x s => truR x s fun k t => if k = true then Q x t else wpE b L t Q E) E
  | .not a, L, st, Q, E => wpE a L st (fun x s => truR x s fun k t => Q (.bl (!k)) t) E
  | .ite c a b, L, st, Q, E => wpE c L st (fun x r => truR x r fun k s => if k = true then wpE a L s Q E else wpE b L s Q E) E
  | .tup es, L, st, Q, E => wpA es L st (fun ds s => newT ds s Q) E
  | .lst es, L, st, Q, E => wpA es L st (fun ds s => newL ds s Q) E
  | .dnew, _, st, Q, _ => ∀ p, st p = none → Q (.ref p) (put st p (.dct []))
  | .call f es ks, L, st, Q, E => wpA es L st (fun ds s => callR P G "" f ds ks s Q E) E
  | .new c es ks, L, st, Q, E => wpA es L st (fun ds s => newR P G c ds ks s Q E) E
  | .blt f es, L, st, Q, E => wpA es L st (fun ds s => bltR f ds s Q) E
  | .bm m o es, L, st, Q, E => wpE o L st (fun x s => bmOk m x s ∧ wpA es L s (fun ds t => bmR m x ds t Q) E) E
  | .mth o m es, L, st, Q, E => wpE o L st (fun x s => ∃ c fd, mthC P x m s c ∧ P.fns.lookup (c, m) = some fd ∧ wpA es L s (fun ds t => runR P G c m fd (x :: ds) [] t Q E) E) E
  | .att o f, L, st, Q, E => wpE o L st (fun x s => ∃ d, attV P x f s = some d ∧ Q d s) E
  | .idx o i, L, st, Q, E => wpE o L st (fun x s => wpE i L s (fun y t => idxR x y t Q) E) E
  | .slc o lo hi, L, st, Q, E => wpE o L st (fun x s => wpA lo L s (fun l t => ∃ i, optI l = some i ∧ wpA hi L t (fun h u => ∃ j, optI h = some j ∧ slcR x i j u Q) E) E) E
  | .rev o, L, st, Q, E => wpE o L st (fun x s => ∃ xs, rdL s x = some xs ∧ newL xs.reverse s Q) E
  | .lc elt vs tg it ifs, L, st, Q, E => wpI it L st (fun items stays s back => lcL stays
      (fun x s nx => tgR tg x (wipeL L vs) fun L1 => wpTs ifs L1 s (fun b t => if b = true then wpE elt L1 t (fun d u => nx (some d) u) X0 else nx none t) X0)
      (fun acc s => newL acc (back s) Q) items [] s) E
  | .lc2 elt vs tg it ifs vs1 tg1 it1 ifs1, L, st, Q, E => wpI it L st (fun items stays s back => lc2L stays
      (fun x s acc nx => tgR tg x (wipeL L vs) fun L1 => wpTs ifs L1 s (fun b t => if b = true then
          wpI it1 L1 t (fun items1 stays1 s1 back1 => acc.length + items1.length ≤ sizeLine ∧ lcL stays1
            (fun x1 s nx1 => tgR tg1 x1 (wipeL L1 vs1) fun L2 => wpTs ifs1 L2 s (fun b t => if b = true then wpE elt L2 t (fun d u => nx1 (some d) u) X0 else nx1 none t) X0)
            (fun acc' s => nx acc' (back1 s)) items1 acc s1) X0
        else nx acc t) X0)
      (fun acc s => newL acc (back s) Q) items [] s) E
  | .dc k v vs tg it ifs, L, st, Q, E => wpI it L st (fun items stays s back => lcL stays
      (fun x s nx => tgR tg x (wipeL L vs) fun L1 => wpTs ifs L1 s (fun b t => if b = true then wpE k L1 t (fun d u => ∃ ky, keyOf d = some ky ∧ wpE v L1 u (fun e w => nx (some (.tup [keyD ky, e])) w) X0) X0 else nx none t) X0)
      (fun acc s => ∀ p, back s p = none → Q (.ref p) (put (back s) p (.dct (foldK acc)))) items [] s) E
  | .frz e, L, st, Q, E => wpE e L st (fun x s => frzR P x s Q) E
  | .nxt i j g, L, st, Q, _ => nxtR P i j g L st Q
def wpA : Exs → Loc → Sto → (List D → Sto → Prop) → XD → Prop
  | .nil, _, st, Q, _ => Q [] st
  | .cons e r, L, st, Q, E => wpE e L st (fun d s => wpA r L s (fun ds t => Q (d :: ds) t) E) E
  | .star e r, L, st, Q, E => wpE e L st (fun d s => ∃ xs, rdS s d = some xs ∧ wpA r L s (fun ds t => Q (xs ++ ds) t) E) E
def wpTs : Exs → Loc → Sto → (Bool → Sto → Prop) → XD → Prop
  | .nil, _, st, Q, _ => Q true st
  | .cons e r, L, st, Q, E => wpE e L st (fun x q => truR x q fun b s => if b = true then wpTs r L s Q E else Q false s) E
  | .star _ _, _, _, _, _ => False
/-- items, that the source stays, the store, the way back behind the walk -/
def wpI : It → Loc → Sto → (List D → (Sto → Prop) → Sto → (Sto → Sto) → Prop) → XD → Prop
  | .of e, L, st, Q, E => wpE e L st (fun x s => match x with
    | .tup xs => Q xs (fun _ => True) s id
    | .str z => z.length ≤ sizeLine ∧ Q (z.cps.toList.map fun c => D.str ⟨#[c]⟩) (fun _ => True) s id
    | .kd ks _ => Q (ks.map keyD) (fun _ => True) s id
    | x => ∃ xs, rdL s x = some xs ∧ Q xs (fun t => rdL t x = some xs) s id) E
  | .rng1 a, L, st, Q, E => wpE a L st (fun x s => ∃ hi : Int, x = .int hi ∧ -(2 ^ 62) ≤ hi ∧ hi < 2 ^ 62 ∧ hi.toNat ≤ sizeLine ∧ Q ((List.range hi.toNat).map fun i : Nat => D.int ((0 : Int) + ((i : Nat) : Int))) (fun _ => True) s id) E
  | .rng2 a b, L, st, Q, E => wpE a L st (fun x s => wpE b L s (fun y t => ∃ lo hi : Int, x = .int lo ∧ y = .int hi ∧ (-(2 ^ 62) ≤ lo ∧ lo < 2 ^ 62 ∧ -(2 ^ 62) ≤ hi ∧ hi < 2 ^ 62) ∧ (hi - lo).toNat ≤ sizeLine ∧
      Q ((List.range (hi - lo).toNat).map fun i : Nat => D.int (lo + ((i : Nat) : Int))) (fun _ => True) t id) E) E
  | .enum e, L, st, Q, E => wpE e L st (fun x s => (∃ xs, x = .tup xs ∧ Q (xs.zipIdx.map fun p => D.tup [.int (p.2 : Nat), p.1]) (fun _ => True) s id) ∨ (∃ xs, rdL s x = some xs ∧ Q (xs.zipIdx.map fun p => D.tup [.int (p.2 : Nat), p.1]) (fun t => rdL t x = some xs) s id)) E
  | .zip a b, L, st, Q, E => wpE a L st (fun x s => wpE b L s (fun y t => (∃ xs ys, x = .tup xs ∧ y = .tup ys ∧ Q ((xs.zip ys).map fun p => D.tup [p.1, p.2]) (fun _ => True) t id) ∨ (∃ xs ys, rdL t x = some xs ∧ rdL t y = some ys ∧
      Q ((xs.zip ys).map fun p => D.tup [p.1, p.2]) (fun u => rdL u x = some xs ∧ rdL u y = some ys) t id)) E) E
end

/-- a test -/
def wpT (e : Ex) (L : Loc) (st : Sto) (Q : Bool → Sto → Prop) (E : XD) : Prop := wpE P G e L st (fun x s => truR x s Q) E
def dropN (D : EndD) : EndD := { D with nx := fun L st => Dr st (D.nx L) }
mutual
def wpS : Sm → Loc → Sto → EndD → XD → Prop
  | .exp e, L, st, D, E => wpE P G e L st (fun _ s => D.nx L s) E
  | .ret e, L, st, D, E => wpE P G e L st D.rt E
  | .pass, L, st, D, _ => D.nx L st
  | .brk, L, st, D, _ => D.bk L st
  | .cnt, L, st, D, _ => D.ct L st
  | .asg t e, L, st, D, E => wpE P G e L st (fun d s => tgR t d L fun L' => D.nx L' s) E
  | .par is es, L, st, D, E => wpA P G es L st (fun ds s => ∃ L', setAll L is ds = some L' ∧ D.nx L' s) E
  | .satt o f e, L, st, D, E => wpE P G e L st (fun d s => wpE P G o L s (fun x t => ∃ a c fs cd i, x = .ref a ∧ t a = some (.ins c fs) ∧ fs.length < 900 ∧ P.cls.lookup c = some cd ∧ ixOf f cd.slots = some i ∧ D.nx L (put t a (.ins c (setF f d fs)))) E) E
  | .ssub o i e, L, st, D, E => wpE P G e L st (fun d s => wpE P G o L s (fun x t => wpE P G i L t (fun y u => ∃ a, x = .ref a ∧ match u a with
      | some (.lst xs) => ∃ k j, y = .int k ∧ ixN xs.length k = some j ∧ D.nx L (put u a (.lst (xs.set j d)))
      | some (.dct kvs) => ∃ k, keyOf y = some k ∧ kvs.length < sizeLine ∧ D.nx L (put u a (.dct (putD kvs k d)))
      | _ => False) E) E) E
  | .aug i o e, L, st, D, E => ∃ x, L[i]? = some (some x) ∧ wpE P G e L st (fun y s => ∃ a b, x = .int a ∧ y = .int b ∧ o = .add ∧ D.nx (L.set i (some (.int (a + b)))) s) E
  | .augA ob f o e, L, st, D, E => wpE P G ob L st (fun x s => ∃ a c fs v cd, x = .ref a ∧ s a = some (.ins c fs) ∧ fs.lookup f = some v ∧ P.cls.lookup c = some cd ∧ cd.slotted = false ∧ wpE P G e L s (fun y t => ∃ i j, v = .int i ∧ y = .int j ∧ o = .add ∧
      ∃ fs', t a = some (.ins c fs') ∧ fs'.length < 900 ∧ D.nx L (put t a (.ins c (setF f (.int (i + j)) fs')))) E) E
  | .iff c a b, L, st, D, E => wpT P G c L st (fun k s => if k = true then wpSs a L s D E else wpSs b L s D E) E
  | .whl c b, L, st, D, E => ∃ W : Nat → Loc → Sto → Prop, (∃ m, W m L st) ∧ ∀ m L st, W m L st → wpT P G c L st (fun k s => if k = true then
      wpSs b L s { D with nx := fun L' s' => Dr s' fun s'' => ∃ m', m' < m ∧ W m' L' s'', ct := fun L' s' => Dr s' fun s'' => ∃ m', m' < m ∧ W m' L' s'', bk := D.nx } E else D.nx L s) E
  | .for_ t it b, L, st, D, E => wpI P G it L st (fun items stays s back => forL stays
      (fun x L s nx => tgR t x L fun L1 => wpSs b L1 s { nx := nx, ct := nx, bk := fun L s => stays s ∧ D.nx L (back s), rt := fun d s => stays s ∧ D.rt d (back s) } E)
      (fun L s => D.nx L (back s)) items L s) E
  | .never, _, _, _, _ => False
def wpSs : Sms → Loc → Sto → EndD → XD → Prop
  | .nil, L, st, D, _ => D.nx L st
  | .cons s r, L, st, D, E => wpS s L st { D with nx := fun L' st' => Dr st' fun s' => wpSs r L' s' D E } E
end
end

/-- what calls mean, by depth -/
def cal (P : Prog) : Nat → Cal
  | 0 => fun _ _ _ _ _ _ => False
  | k + 1 => fun c f ds st Q E => ∃ fd, P.fns.lookup (c, f) = some fd ∧ ds.length = fd.ps.length ∧
      wpSs P (cal P k) fd.body (ds.map some ++ List.replicate (fd.n - ds.length) none) st { nx := fun _ s => Dr s (Q .non), rt := fun d s => Dr s (Q d) } E
end Py

set_option Elab.async false
set_option linter.all false
set_option maxRecDepth 100000
set_option maxHeartbeats 4000000
/-! Monotonicity. -/
namespace Py
open PySem PySem.Spec PyProof.Rows L2
section
variable {Q Q' : QD} (h : ∀ d s, Q d s → Q' d s)
include h
theorem newL_mono {xs : List D} {st : Sto} (k : newL xs st Q) : newL xs st Q' := ⟨k.1, fun p hp => h _ _ (k.2 p hp)⟩
theorem newT_mono {xs : List D} {st : Sto} (k : newT xs st Q) : newT xs st Q' := ⟨k.1, h _ _ k.2⟩
theorem bopR_mono {o : Bop} {a b : D} {st : Sto} (k : bopR o a b st Q) : bopR o a b st Q' := by
  unfold bopR at k ⊢
  cases o <;> dsimp only at k ⊢ <;> split at k <;> first
    | exact k.elim
    | exact h _ _ k
    | exact ⟨k.1, h _ _ k.2⟩
    | exact newT_mono h k
    | (obtain ⟨xs, ys, k1, k2, k3⟩ := k; exact ⟨xs, ys, k1, k2, newL_mono h k3⟩)
    | (obtain ⟨xs, k1, k2, k3, k4, k5⟩ := k; exact ⟨xs, k1, k2, k3, k4, newL_mono h k5⟩)
theorem memR_mono {n : Bool} {a b : D} {st : Sto} (k : memR n a b st Q) : memR n a b st Q' := by
  unfold memR at k ⊢
  cases b with
  | tup ys => obtain ⟨d, ds, k2, k3, k4, k5, k6⟩ := k; exact ⟨d, ds, k2, k3, k4, k5, h _ _ k6⟩
  | str y => obtain ⟨c, e, k⟩ := k; exact ⟨c, e, h _ _ k⟩
  | _ =>
    dsimp only at k ⊢
    split at k <;> first
      | exact k.elim
      | exact h _ _ k
      | (obtain ⟨k1, k2, k3⟩ := k; exact ⟨k1, k2, h _ _ k3⟩)
      | (obtain ⟨ys, d, ds, k1, k2, k3, k4, k5, k6⟩ := k; exact ⟨ys, d, ds, k1, k2, k3, k4, k5, h _ _ k6⟩)
theorem copR_mono {o : Cop} {a b : D} {st : Sto} (k : copR o a b st Q) : copR o a b st Q' := by
  unfold copR at k ⊢
  cases o <;> dsimp only at k ⊢ <;> first
    | exact memR_mono h k
    | (obtain ⟨d, e, k2, k3, k4, k5, k6⟩ := k; exact ⟨d, e, k2, k3, k4, k5, h _ _ k6⟩)
    | (split at k <;> first
      | exact k.elim
      | exact h _ _ k
      | (split at k <;> exact h _ _ k))
theorem bltR_mono {f : Bf} {ds : List D} {st : Sto} (k : bltR f ds st Q) : bltR f ds st Q' := by
  unfold bltR at k ⊢
  split at k <;> first
    | exact k.elim
    | exact h _ _ k
    | exact newL_mono h k
    | exact ⟨k.1, h _ _ k.2⟩
    | exact ⟨k.1, newL_mono h k.2⟩
    | (obtain ⟨xs, bs, k1, k2, k3⟩ := k; first | exact ⟨xs, bs, k1, k2, h _ _ k3⟩ | exact ⟨xs, bs, k1, k2, fun p hp => h _ _ (k3 p hp)⟩)
    | (obtain ⟨n, k1, k2, k3⟩ := k; exact ⟨n, k1, k2, h _ _ k3⟩)
    | (obtain ⟨n, k1, k2⟩ := k; first | exact ⟨n, k1, h _ _ k2⟩ | exact ⟨n, k1, newT_mono h k2⟩)
    | (obtain ⟨xs, bs, k1, k2, k4, k3⟩ := k; exact ⟨xs, bs, k1, k2, k4, fun p hp => h _ _ (k3 p hp)⟩)
    | (split at k <;> first
      | exact k.elim
      | exact h _ _ k
      | exact newL_mono h k
      | exact ⟨k.1, newL_mono h k.2⟩
      | (obtain ⟨ds, k1, k2, k3⟩ := k; exact ⟨ds, k1, k2, newL_mono h k3⟩)
      | (split at k
         · obtain ⟨ks, k1, k2, k3⟩ := k; exact ⟨ks, k1, k2, fun ys p1 p2 => newL_mono h (k3 ys p1 p2)⟩
         · obtain ⟨a, ks, k1, k2, k3⟩ := k; exact ⟨a, ks, k1, k2, fun ys p1 p2 => newL_mono h (k3 ys p1 p2)⟩))
theorem bmR_mono {m : Bm} {o : D} {ds : List D} {st : Sto} (k : bmR m o ds st Q) : bmR m o ds st Q' := by
  unfold bmR at k ⊢
  split at k <;> first
    | exact k.elim
    | (obtain ⟨xs, k1, k2⟩ := k; exact ⟨xs, k1, h _ _ k2⟩)
    | (obtain ⟨xs, k1, k2, k3⟩ := k; exact ⟨xs, k1, k2, h _ _ k3⟩)
    | (obtain ⟨xs, k1, k2, k3, k4⟩ := k; exact ⟨xs, k1, k2, k3, h _ _ k4⟩)
    | (obtain ⟨xs, k1, k2, k3, k4, k5⟩ := k; exact ⟨xs, k1, k2, k3, k4, h _ _ k5⟩)
theorem slcR_mono {o : D} {lo hi : Option Int} {st : Sto} (k : slcR o lo hi st Q) : slcR o lo hi st Q' := by
  unfold slcR at k ⊢
  cases o <;> dsimp only at k ⊢ <;> first
    | exact h _ _ k
    | exact ⟨k.1, h _ _ k.2⟩
    | (obtain ⟨xs, k1, k2⟩ := k; exact ⟨xs, k1, newL_mono h k2⟩)
theorem idxR_mono {o i : D} {st : Sto} (k : idxR o i st Q) : idxR o i st Q' := by
  unfold idxR at k ⊢
  cases o <;> dsimp only at k ⊢ <;> first
    | (obtain ⟨x, c, k1, k2, k3, k4⟩ := k; exact ⟨x, c, k1, k2, k3, h _ _ k4⟩)
    | (obtain ⟨x, c, k1, k2, k3⟩ := k; exact ⟨x, c, k1, k2, h _ _ k3⟩)
    | (split at k
       · obtain ⟨x, c, k1, k2, k3⟩ := k; exact ⟨x, c, k1, k2, h _ _ k3⟩
       · obtain ⟨xs, x, c, k1, k2, k3, k4⟩ := k; exact ⟨xs, x, c, k1, k2, k3, h _ _ k4⟩)
end
theorem truR_mono {Q Q' : Bool → Sto → Prop} (h : ∀ d s, Q d s → Q' d s) {d : D} {st : Sto} (k : truR d st Q) : truR d st Q' := by
  unfold truR at k ⊢
  cases d <;> dsimp only at k ⊢ <;> first
    | exact h _ _ k
    | exact ⟨k.1, h _ _ k.2⟩
    | (obtain ⟨xs, k1, k2⟩ := k; exact ⟨xs, k1, h _ _ k2⟩)
theorem tgR_mono {t : Tg} {d : D} {L : Loc} {Q Q' : Loc → Prop} (h : ∀ L, Q L → Q' L) (k : tgR t d L Q) : tgR t d L Q' := by
  unfold tgR at k ⊢
  split at k <;> first
    | exact h _ k
    | (obtain ⟨L', k1, k2⟩ := k; exact ⟨L', k1, h _ k2⟩)
    | exact k.elim
theorem Dr.mono {st : Sto} {Q Q' : Sto → Prop} (h : ∀ s, Q s → Q' s) (k : Dr st Q) : Dr st Q' := let ⟨s, a, b⟩ := k; ⟨s, a, h s b⟩
theorem lcL_mono {stays : Sto → Prop} {turn turn' : D → Sto → (Option D → Sto → Prop) → Prop} {fin fin' : List D → Sto → Prop}
    (ht : ∀ x s (nx nx' : Option D → Sto → Prop), (∀ o s, nx o s → nx' o s) → turn x s nx → turn' x s nx') (hf : ∀ acc s, fin acc s → fin' acc s) :
    ∀ {items acc : List D} {st : Sto}, lcL stays turn fin items acc st → lcL stays turn' fin' items acc st
  | [], _, _, k => hf _ _ k
  | x :: r, acc, st, k => ht x st _ _ (fun o s q => q.mono fun s' ⟨a, b⟩ => ⟨a, lcL_mono ht hf b⟩) k
theorem lc2L_mono {stays : Sto → Prop} {turn turn' : D → Sto → List D → (List D → Sto → Prop) → Prop} {fin fin' : List D → Sto → Prop}
    (ht : ∀ x s acc (nx nx' : List D → Sto → Prop), (∀ o s, nx o s → nx' o s) → turn x s acc nx → turn' x s acc nx') (hf : ∀ acc s, fin acc s → fin' acc s) :
    ∀ {items acc : List D} {st : Sto}, lc2L stays turn fin items acc st → lc2L stays turn' fin' items acc st
  | [], _, _, k => hf _ _ k
  | x :: r, acc, st, k => ht x st acc _ _ (fun o s q => q.mono fun s' ⟨a, b⟩ => ⟨a, lc2L_mono ht hf b⟩) k
theorem forL_mono {stays : Sto → Prop} {turn turn' : D → Loc → Sto → (Loc → Sto → Prop) → Prop} {fin fin' : Loc → Sto → Prop}
    (ht : ∀ x L s (nx nx' : Loc → Sto → Prop), (∀ o s, nx o s → nx' o s) → turn x L s nx → turn' x L s nx') (hf : ∀ acc s, fin acc s → fin' acc s) :
    ∀ {items : List D} {L : Loc} {st : Sto}, forL stays turn fin items L st → forL stays turn' fin' items L st
  | [], _, _, k => hf _ _ k
  | x :: r, L, st, k => ht x L st _ _ (fun o s q => q.mono fun s' ⟨a, b⟩ => ⟨a, forL_mono ht hf b⟩) k

theorem frzR_mono {P : Prog} {Q Q' : QD} (h : ∀ d s, Q d s → Q' d s) {d : D} {st : Sto} (k : frzR P d st Q) : frzR P d st Q' := by
  unfold frzR at k ⊢
  cases d with
  | ref a =>
    dsimp only at k ⊢
    split at k
    · exact h _ _ k
    · exact h _ _ k
    · obtain ⟨cd, k1, k2, k3, k4, k⟩ := k; exact ⟨cd, k1, k2, k3, k4, h _ _ k⟩
    · exact k.elim
  | _ => exact h _ _ k
/-- calls are monotone -/
def CalMono (G : Cal) : Prop := ∀ c f ds st Q Q' E, (∀ d s, Q d s → Q' d s) → G c f ds st Q E → G c f ds st Q' E
section
variable {P : Prog} {G : Cal} (hG : CalMono G)
include hG
theorem runR_mono {c f : Str} {fd : Fd} {ds : List D} {ks : List Str} {st : Sto} {Q Q' : QD} {E : XD} (h : ∀ d s, Q d s → Q' d s) (k : runR P G c f fd ds ks st Q E) : runR P G c f fd ds ks st Q' E := by
  rcases k with ⟨xs, k1, k2⟩ | ⟨xs, k1, k2⟩
  · exact .inl ⟨xs, k1, hG _ _ _ _ _ _ _ h k2⟩
  · exact .inr ⟨xs, k1, hG _ _ _ _ _ _ _ (fun d s ⟨a, b⟩ => ⟨a, h _ _ b⟩) k2⟩
theorem callR_mono {c f : Str} {ds : List D} {ks : List Str} {st : Sto} {Q Q' : QD} {E : XD} (h : ∀ d s, Q d s → Q' d s) (k : callR P G c f ds ks st Q E) : callR P G c f ds ks st Q' E := by
  obtain ⟨fd, k1, k2⟩ := k
  exact ⟨fd, k1, runR_mono hG h k2⟩
theorem newR_mono {c : Str} {ds : List D} {ks : List Str} {st : Sto} {Q Q' : QD} {E : XD} (h : ∀ d s, Q d s → Q' d s) (k : newR P G c ds ks st Q E) : newR P G c ds ks st Q' E := by
  obtain ⟨fd, k1, k2⟩ := k
  refine ⟨fd, k1, fun p hp => ?_⟩
  obtain ⟨xs, k3, k4⟩ := k2 p hp
  exact ⟨xs, k3, hG _ _ _ _ _ _ _ (fun d s ⟨a, b⟩ => ⟨a, h _ _ b⟩) k4⟩
mutual
theorem wpE_mono : ∀ (e : Ex) {L : Loc} {st : Sto} {Q Q' : QD} {E : XD}, (∀ d s, Q d s → Q' d s) → wpE P G e L st Q E → wpE P G e L st Q' E
  | .non, _, _, _, _, _, h, k => h _ _ k
  | .bl _, _, _, _, _, _, h, k => h _ _ k
  | .int _, _, _, _, _, _, h, k => h _ _ k
  | .str _, _, _, _, _, _, h, k => h _ _ k
  | .bty _, _, _, _, _, _, h, k => h _ _ k
  | .glo _, _, _, _, _, _, h, k => by obtain ⟨d, k1, k2⟩ := k; exact ⟨d, k1, h _ _ k2⟩
  | .var _, _, _, _, _, _, h, k => by obtain ⟨d, k1, k2⟩ := k; exact ⟨d, k1, h _ _ k2⟩
  | .bin o a b, _, _, _, _, _, h, k => wpE_mono a (fun _ _ q => wpE_mono b (fun _ _ q => bopR_mono h q) q) k
  | .neg a, _, _, _, _, _, h, k => wpE_mono a (fun _ _ ⟨i, e, q⟩ => ⟨i, e, h _ _ q⟩) k
  | .cmp o a b, _, _, _, _, _, h, k => wpE_mono a (fun _ _ q => wpE_mono b (fun _ _ q => copR_mono h q) q) k
  | .chn o p a b c, _, _, _, _, _, h, k => wpE_mono a (fun _ _ q => wpE_mono b (fun _ _ q => copR_mono (fun z u ⟨k, e, q⟩ => ⟨k, e, by
      split at q
      · rename_i e; rw [if_pos e]; exact wpE_mono c (fun _ _ q => copR_mono h q) q
      · rename_i e; rw [if_neg e]; exact h _ _ q⟩) q) q) k
  | .and a b, _, _, _, _, _, h, k => wpE_mono a (fun _ _ q => truR_mono (fun k t q => by
      split at q
      · rename_i e; rw [if_pos e]; exact wpE_mono b h q
      · rename_i e; rw [if_neg e]; exact h _ _ q) q) k
  | .or a b, _, _, _, _, _, h, k => wpE_mono a (fun _ _ q => truR_mono (fun k t q => by
      split at q
      · rename_i e; rw [if_pos e]; exact h _ _ q
      · rename_i e; rw [if_neg e]; exact wpE_mono b h q) q) k
  | .not a, _, _, _, _, _, h, k => wpE_mono a (fun _ _ q => truR_mono (fun k t q => h _ _ q) q) k
  | .ite c a b, _, _, _, _, _, h, k => wpE_mono c (fun _ _ q => truR_mono (fun k t q => by
      split at q
      · rename_i e; rw [if_pos e]; exact wpE_mono a h q
      · rename_i e; rw [if_neg e]; exact wpE_mono b h q) q) k
  | .tup es, _, _, _, _, _, h, k => wpA_mono es (fun _ _ q => newT_mono h q) k
  | .lst es, _, _, _, _, _, h, k => wpA_mono es (fun _ _ q => newL_mono h q) k
  | .dnew, _, _, _, _, _, h, k => fun p hp => h _ _ (k p hp)
  | .call f es ks, _, _, _, _, _, h, k => wpA_mono es (fun _ _ q => callR_mono hG h q) k
  | .new f es ks, _, _, _, _, _, h, k => wpA_mono es (fun _ _ q => newR_mono hG h q) k
  | .blt f es, _, _, _, _, _, h, k => wpA_mono es (fun _ _ q => bltR_mono h q) k
  | .bm m o es, _, _, _, _, _, h, k => wpE_mono o (fun _ _ ⟨a, q⟩ => ⟨a, wpA_mono es (fun _ _ q => bmR_mono h q) q⟩) k
  | .mth o m es, _, _, _, _, _, h, k => wpE_mono o (fun _ _ ⟨c, fd, k1, k2, q⟩ => ⟨c, fd, k1, k2, wpA_mono es (fun _ _ q => runR_mono hG h q) q⟩) k
  | .att o f, _, _, _, _, _, h, k => wpE_mono o (fun _ _ ⟨d, k1, q⟩ => ⟨d, k1, h _ _ q⟩) k
  | .frz e, _, _, _, _, _, h, k => wpE_mono e (fun _ _ q => frzR_mono h q) k
  | .idx o i, _, _, _, _, _, h, k => wpE_mono o (fun _ _ q => wpE_mono i (fun _ _ q => idxR_mono h q) q) k
  | .slc o lo hi, _, _, _, _, _, h, k => wpE_mono o (fun _ _ q => wpA_mono lo (fun _ _ ⟨i, e, q⟩ => ⟨i, e, wpA_mono hi (fun _ _ ⟨j, e, q⟩ => ⟨j, e, slcR_mono h q⟩) q⟩) q) k
  | .rev o, _, _, _, _, _, h, k => wpE_mono o (fun _ _ ⟨xs, k1, q⟩ => ⟨xs, k1, newL_mono h q⟩) k
  | .lc elt vs tg it ifs, _, _, _, _, _, h, k => wpI_mono it (fun items stays s back q => lcL_mono (fun x s nx nx' hn q => tgR_mono (fun L1 q => wpTs_mono ifs (fun b t q => by
      split at q
      · rename_i e; rw [if_pos e]; exact wpE_mono elt (fun d u q => hn _ _ q) q
      · rename_i e; rw [if_neg e]; exact hn _ _ q) q) q) (fun acc s q => newL_mono h q) q) k
  | .lc2 elt vs tg it ifs vs1 tg1 it1 ifs1, _, _, _, _, _, h, k => wpI_mono it (fun items stays s back q => lc2L_mono (fun x s acc nx nx' hn q => tgR_mono (fun L1 q => wpTs_mono ifs (fun b t q => by
      split at q
      · rename_i e; rw [if_pos e]
        exact wpI_mono it1 (fun items1 stays1 s1 back1 q => ⟨q.1, lcL_mono (fun x1 s nx1 nx1' hn1 q => tgR_mono (fun L2 q => wpTs_mono ifs1 (fun b t q => by
          split at q
          · rename_i e; rw [if_pos e]; exact wpE_mono elt (fun d u q => hn1 _ _ q) q
          · rename_i e; rw [if_neg e]; exact hn1 _ _ q) q) q) (fun acc s q => hn _ _ q) q.2⟩) q
      · rename_i e; rw [if_neg e]; exact hn _ _ q) q) q) (fun acc s q => newL_mono h q) q) k
  | .dc kk v vs tg it ifs, _, _, _, _, _, h, k => wpI_mono it (fun items stays s back q => lcL_mono (fun x s nx nx' hn q => tgR_mono (fun L1 q => wpTs_mono ifs (fun b t q => by
      split at q
      · rename_i e; rw [if_pos e]; exact wpE_mono kk (fun d u ⟨ky, e, q⟩ => ⟨ky, e, wpE_mono v (fun e w q => hn _ _ q) q⟩) q
      · rename_i e; rw [if_neg e]; exact hn _ _ q) q) q) (fun acc s q p hp => h _ _ (q p hp)) q) k
  | .nxt i j g, _, _, _, _, _, h, k => let ⟨os, cs, y, d, h1, h2, h3, h4, h5, h6, q⟩ := k; ⟨os, cs, y, d, h1, h2, h3, h4, h5, h6, h _ _ q⟩
theorem wpA_mono : ∀ (es : Exs) {L : Loc} {st : Sto} {Q Q' : List D → Sto → Prop} {E : XD}, (∀ d s, Q d s → Q' d s) → wpA P G es L st Q E → wpA P G es L st Q' E
  | .nil, _, _, _, _, _, h, k => h _ _ k
  | .cons e r, _, _, _, _, _, h, k => wpE_mono e (fun _ _ q => wpA_mono r (fun _ _ q => h _ _ q) q) k
  | .star e r, _, _, _, _, _, h, k => wpE_mono e (fun _ _ ⟨xs, k1, q⟩ => ⟨xs, k1, wpA_mono r (fun _ _ q => h _ _ q) q⟩) k
theorem wpTs_mono : ∀ (es : Exs) {L : Loc} {st : Sto} {Q Q' : Bool → Sto → Prop} {E : XD}, (∀ d s, Q d s → Q' d s) → wpTs P G es L st Q E → wpTs P G es L st Q' E
  | .nil, _, _, _, _, _, h, k => h _ _ k
  | .cons e r, _, _, _, _, _, h, k => wpE_mono e (fun _ _ q => truR_mono (fun b _ q => by
      split at q
      · rename_i e; rw [if_pos e]; exact wpTs_mono r h q
      · rename_i e; rw [if_neg e]; exact h _ _ q) q) k
  | .star e r, _, _, _, _, _, h, k => False.elim k
theorem wpI_mono : ∀ (i : It) {L : Loc} {st : Sto} {Q Q' : List D → (Sto → Prop) → Sto → (Sto → Sto) → Prop} {E : XD}, (∀ a b c d, Q a b c d → Q' a b c d) → wpI P G i L st Q E → wpI P G i L st Q' E
  | .of e, _, _, _, _, _, h, k => wpE_mono e (fun x s q => by
      cases x <;> first
        | exact h _ _ _ _ q
        | exact ⟨q.1, h _ _ _ _ q.2⟩
        | (obtain ⟨xs, k1, q⟩ := q; exact ⟨xs, k1, h _ _ _ _ q⟩)) k
  | .rng1 a, _, _, _, _, _, h, k => wpE_mono a (fun _ _ ⟨hi, a, b, c, d, q⟩ => ⟨hi, a, b, c, d, h _ _ _ _ q⟩) k
  | .rng2 a b, _, _, _, _, _, h, k => wpE_mono a (fun _ _ q => wpE_mono b (fun _ _ ⟨lo, hi, a, b, c, d, q⟩ => ⟨lo, hi, a, b, c, d, h _ _ _ _ q⟩) q) k
  | .enum e, _, _, _, _, _, h, k => wpE_mono e (fun x s q => q.imp (fun ⟨xs, a, q⟩ => ⟨xs, a, h _ _ _ _ q⟩) fun ⟨xs, a, q⟩ => ⟨xs, a, h _ _ _ _ q⟩) k
  | .zip a b, _, _, _, _, _, h, k => wpE_mono a (fun x s q => wpE_mono b (fun y t q => q.elim (fun ⟨xs, ys, k1, k2, q⟩ => .inl ⟨xs, ys, k1, k2, h _ _ _ _ q⟩) fun ⟨xs, ys, k1, k2, q⟩ => .inr ⟨xs, ys, k1, k2, h _ _ _ _ q⟩) q) k
end
theorem wpT_mono (e : Ex) {L : Loc} {st : Sto} {Q Q' : Bool → Sto → Prop} {E : XD} (h : ∀ d s, Q d s → Q' d s) (k : wpT P G e L st Q E) : wpT P G e L st Q' E :=
  wpE_mono hG e (fun _ _ q => truR_mono h q) k
/-- ends are weakened -/
structure EndLe (D D' : EndD) : Prop where
  nx : ∀ L s, D.nx L s → D'.nx L s
  rt : ∀ d s, D.rt d s → D'.rt d s
  bk : ∀ L s, D.bk L s → D'.bk L s
  ct : ∀ L s, D.ct L s → D'.ct L s
mutual
theorem wpS_mono : ∀ (e : Sm) {L : Loc} {st : Sto} {D D' : EndD} {E : XD}, EndLe D D' → wpS P G e L st D E → wpS P G e L st D' E
  | .exp e, _, _, _, _, _, h, k => wpE_mono hG e (fun _ _ q => h.nx _ _ q) k
  | .ret e, _, _, _, _, _, h, k => wpE_mono hG e h.rt k
  | .pass, _, _, _, _, _, h, k => h.nx _ _ k
  | .brk, _, _, _, _, _, h, k => h.bk _ _ k
  | .cnt, _, _, _, _, _, h, k => h.ct _ _ k
  | .asg t e, _, _, _, _, _, h, k => wpE_mono hG e (fun _ _ q => tgR_mono (fun _ q => h.nx _ _ q) q) k
  | .par is es, _, _, _, _, _, h, k => wpA_mono hG es (fun _ _ ⟨L', a, q⟩ => ⟨L', a, h.nx _ _ q⟩) k
  | .satt o f e, _, _, _, _, _, h, k => wpE_mono hG e (fun _ _ q => wpE_mono hG o (fun _ _ ⟨a, c, fs, cd, i, k1, k2, k3, k4, k5, q⟩ => ⟨a, c, fs, cd, i, k1, k2, k3, k4, k5, h.nx _ _ q⟩) q) k
  | .ssub o i e, _, _, _, _, _, h, k => wpE_mono hG e (fun _ _ q => wpE_mono hG o (fun _ _ q => wpE_mono hG i (fun _ _ ⟨a, e, q⟩ => ⟨a, e, by
      split at q
      · obtain ⟨k, j, k1, k2, q⟩ := q; exact ⟨k, j, k1, k2, h.nx _ _ q⟩
      · obtain ⟨k, k1, k2, q⟩ := q; exact ⟨k, k1, k2, h.nx _ _ q⟩
      · exact q⟩) q) q) k
  | .aug i o e, _, _, _, _, _, h, k => by
    obtain ⟨x, k1, k2⟩ := k
    exact ⟨x, k1, wpE_mono hG e (fun _ _ ⟨a, b, k3, k4, k5, q⟩ => ⟨a, b, k3, k4, k5, h.nx _ _ q⟩) k2⟩
  | .augA ob f o e, _, _, _, _, _, h, k => wpE_mono hG ob (fun _ _ ⟨a, c, fs, v, cd, k1, k2, k3, k4, k5, q⟩ => ⟨a, c, fs, v, cd, k1, k2, k3, k4, k5, wpE_mono hG e (fun _ _ ⟨i, j, k4, k5, k6, fs', k7, k8, q⟩ => ⟨i, j, k4, k5, k6, fs', k7, k8, h.nx _ _ q⟩) q⟩) k
  | .iff c a b, _, _, _, _, _, h, k => wpT_mono hG c (fun k _ q => by
      split at q
      · rename_i e; rw [if_pos e]; exact wpSs_mono a h q
      · rename_i e; rw [if_neg e]; exact wpSs_mono b h q) k
  | .whl c b, _, _, _, _, _, h, k => by
    obtain ⟨W, w0, hw⟩ := k
    refine ⟨W, w0, fun m L st w => wpT_mono hG c (fun k s q => ?_) (hw m L st w)⟩
    split at q
    · rename_i e; rw [if_pos e]
      refine wpSs_mono b ?_ q
      exact ⟨fun _ _ z => z, h.rt, h.nx, fun _ _ z => z⟩
    · rename_i e; rw [if_neg e]; exact h.nx _ _ q
  | .for_ t it b, _, _, _, _, _, h, k => by
    refine wpI_mono hG it (fun items stays s back q => ?_) k
    refine forL_mono (fun x L s nx nx' hn q => ?_) (fun _ _ q => h.nx _ _ q) q
    refine tgR_mono (fun L1 q => ?_) q
    refine wpSs_mono b ?_ q
    exact ⟨hn, fun _ _ ⟨a, q⟩ => ⟨a, h.rt _ _ q⟩, fun _ _ ⟨a, q⟩ => ⟨a, h.nx _ _ q⟩, hn⟩
  | .never, _, _, _, _, _, _, k => k
theorem wpSs_mono : ∀ (e : Sms) {L : Loc} {st : Sto} {D D' : EndD} {E : XD}, EndLe D D' → wpSs P G e L st D E → wpSs P G e L st D' E
  | .nil, _, _, _, _, _, h, k => h.nx _ _ k
  | .cons s r, _, _, _, _, _, h, k => by
    refine wpS_mono s ?_ k
    exact ⟨fun _ _ q => Dr.mono (fun _ q => wpSs_mono r h q) q, h.rt, h.bk, h.ct⟩
end
end
theorem cal_mono (P : Prog) : ∀ k, CalMono (cal P k)
  | 0 => fun _ _ _ _ _ _ _ _ k => k
  | k + 1 => fun c f ds st Q Q' E h q => by
    obtain ⟨fd, k1, k2, k3⟩ := q
    refine ⟨fd, k1, k2, wpSs_mono (cal_mono P k) fd.body ?_ k3⟩
    exact ⟨fun _ _ q => Dr.mono (fun _ q => h _ _ q) q, fun _ _ q => Dr.mono (fun _ q => h _ _ q) q, fun _ _ z => z, fun _ _ z => z⟩
end Py

set_option Elab.async false
set_option linter.all false
set_option maxRecDepth 100000
set_option maxHeartbeats 4000000
/-! Sets of texts: sorted. -/
namespace Py
open PySem PySem.Spec PyProof.Rows L2
theorem each_strs : ∀ (vs : List Value), (∀ v ∈ vs, ∃ x tk, v = Value.str x tk) → ∃ xs : List Str, PySem.W.EachIs (fun v x => ∃ tk, v = Value.str x tk) vs xs ∧ vs.map (fun v => keyT (0, v)) = xs
  | [], _ => ⟨[], .nil, rfl⟩
  | v :: vs, h => by
    obtain ⟨x, tk, rfl⟩ := h v List.mem_cons_self
    obtain ⟨xs, h1, h2⟩ := each_strs vs fun u hu => h u (List.mem_cons_of_mem _ hu)
    exact ⟨x :: xs, .cons ⟨tk, rfl⟩ h1, by rw [List.map_cons, h2]; rfl⟩
theorem strsAre_of : ∀ {vs : List Value} {xs : List Str}, PySem.W.EachIs (fun v x => ∃ tk, v = Value.str x tk) vs xs → Vals (xs.map V.str) vs
  | _, _, .nil => .nil
  | _, _, .cons ⟨tk, e⟩ r => .cons ⟨tk, e⟩ (strsAre_of r)
section
variable {P : Program} {w : World} {A : Around} {E : Value → Shared → Prop} {s : Shared} {a : Addr}
theorem sorted_setT {S : Str → Bool} {n : Nat} {Q : Value → Shared → Prop} (R : SetT w s.heap a S n) (hh : A.handled = none) (hun : A.units + 10 < cLine)
    (hQ : ∀ s' p (out : List Value) (c : Nat) (ys : List Str), (∀ b o, s.heap.get? b = some o → s'.heap.get? b = some o) → s'.gens = s.gens → s'.os = s.os → s.heap.objs.size ≤ p →
      s'.heap.get? p = some (seqObj "list" out.toArray c) → Vals (ys.map V.str) out → sortedS ys = true → ys.Nodup → (∀ k, k ∈ ys ↔ S k = true) → ys.length = n → n ≤ sizeLine → Q (.ref p) s') :
    wpAny (model P w) A (call (.builtin "sorted") [.ref a]) Q E s := by
  obtain ⟨o, es, ep, t, ho, hex, hd, g, nd, hm, hb, hf, hn, hr, hl⟩ := R
  refine Calls.call_function_entry kind_sorted plain_sorted entry_sorted (args_sorted1 _) ?_
  unfold Builtin.«sorted»
  refine wpAny_bind (m := checkCount "sorted" 1 1 _) (wpAny_pure ?_)
  refine wpAny_bind (collect_set (A := A.in1) hh ⟨o, ho, hex.1, hd⟩ hf hb hr hl fun s1 vs k1 hz g1 o1 pm => ?_)
  have hvl : vs.length = n := by rw [pm.length_eq, List.length_map, Array.length_toList]; exact hn
  have hsl : n ≤ sizeLine := by rw [← hn]; exact fits_of_scanBound hb
  have hstr : ∀ v ∈ vs, ∃ x tk, v = Value.str x tk := fun v hv => by
    obtain ⟨e, he, q⟩ := List.mem_map.mp (pm.mem_iff.mp hv)
    obtain ⟨k, tk, h1, _⟩ := g e he
    exact ⟨k, tk, by rw [← q]; exact h1⟩
  obtain ⟨xs, hx1, hx2⟩ := each_strs vs hstr
  have pk : xs.Perm (es.toList.map keyT) := by
    have q := pm.map (fun v => keyT (0, v))
    rw [List.map_map, hx2] at q
    exact q
  refine wpAny_bind (wpAny_newList ?_ (by rw [hvl]; exact hsl))
  have hoL : (s1.heap.push (seqObj "list" vs.toArray 0)).get? s1.heap.objs.size = some (seqObj "list" vs.toArray 0) := Heap.get?_push_size _ rfl
  have er : PySem.W.EachIs (fun v (x : Str) => ∃ as, Reads (s1.heap.push (seqObj "list" vs.toArray 0)) v (PyData.str x) as ∧ s1.heap.objs.size ∉ as) vs xs := hx1.mono fun v x ⟨tk, e⟩ => ⟨[], by rw [e]; exact .str x tk, by simp⟩
  refine wpAny_bind (wpAny_holding (PySem.W.list_sort_data (s := { s1 with heap := s1.heap.push (seqObj "list" vs.toArray 0) }) (enc := fun x : Str => PyData.str x) hoL hx1 er (PySem.W.AllAlike.of fun _ _ => rfl) (PySem.W.Sortable.others fun b => ⟨nofun, fun _ => nofun⟩) (by rw [← hx1.length, hvl]; exact hsl) (fun b _ => ?_) fun out hlo he => ?_))
  · show A.in1.units + 1 + 0 < cLine
    have : A.in1.units = A.units + 1 := rfl
    omega
  · obtain ⟨c, hc⟩ := sortedHeap_at (vs := vs) (out := out.toArray) hoL
    have py : (xs.mergeSort (PySem.W.dataLe false fun x : Str => PyData.str x)).Perm xs := List.mergeSort_perm _ _
    have pn := py.trans pk
    have ps : sortedS (xs.mergeSort (PySem.W.dataLe false fun x : Str => PyData.str x)) = true := by
      refine sortedS_of_pairwise _ ?_
      refine (PySem.W.sort_pairwise (PySem.W.sortLe_total _ false _) xs).imp fun {x y} q => ?_
      have q : PySem.W.dataLe false (fun x : Str => PyData.str x) x y = true := q
      rw [PySem.W.dataLe_str (fun x : Str => x)] at q
      rw [ltCps_eq]
      simpa using q
    refine wpAny_pure ⟨_, rfl, hQ _ s1.heap.objs.size out c _ (fun b u e => ?_) g1 o1 hz hc (strsAre_of he) ps (pn.nodup_iff.mpr nd) (fun k => by rw [pn.mem_iff, ← hm k]) ?_ hsl⟩
    · have q := k1 b u e
      have hlt := Heap.lt_size q
      show (sortedHeap (s1.heap.push (seqObj "list" vs.toArray 0)) s1.heap.objs.size vs out.toArray).get? b = some u
      rw [sortedHeap_old (Nat.ne_of_lt hlt) (by rw [size_push']; exact Nat.lt_succ_of_lt hlt)]
      exact Heap.get?_push_of_some _ q
    · rw [pn.length_eq, List.length_map, Array.length_toList]; exact hn
end
end Py

set_option Elab.async false
set_option linter.all false
set_option maxRecDepth 100000
set_option maxHeartbeats 4000000
/-! Sets of texts: set(list), set(tuple). -/
namespace Py
open PySem PySem.Spec PyProof.Rows L2
section
variable {P : Program} {w : World} {A : Around} {E : Value → Shared → Prop} {s : Shared}

set_option maxHeartbeats 3200000 in
theorem call_set_listT {l : Addr} {items : Array Value} (ns : List Str) {Q : Value → Shared → Prop} (hh : A.handled = none) (hl : s.heap.IsList l items) (hit : PyProof.Rows.StrsAre items.toList ns) (hb : ns.length + 1 < scanBound)
    (h : ∀ (h' : Heap) (tk : Nat), SetT w h' s.heap.objs.size (fun j => decide (j ∈ ns)) (ddp ns).length → (∀ b o, s.heap.get? b = some o → h'.get? b = some o) → Q (.ref s.heap.objs.size) { s with heap := h', toks := tk }) :
    wpAny (model P w) A (call (.type "set") [.ref l]) Q E s := by
  have hisz : items.size = ns.length := by
    have q := StrsAre.len_eq hit
    rw [Array.length_toList] at q
    exact q
  obtain ⟨c, tl, hmro⟩ := F.called_set.mro
  have hmade := F.called_set.made
  have hsub := F.called_set.sub
  refine wpAny_call (codeAny_of_tree ?_)
  show wpAny _ _ (callAny (.type "set") _) _ _ _
  refine wpAny_pure ⟨Code.quiet_builtin _ (by decide +kernel), codeAny_builtin F.entry_type_call ?_⟩
  rw [Around.under_plain (weight_type_call_type "set" [.ref l] []) rfl]
  have h1 := F.called_set.notType
  have h2 := F.called_set.canCreate
  have hct := F.typeCall_set_1 (.ref l)
  repeat (any_goals (first | assumption | wp_step))

  refine codeAny_mono (code_set_led1 (.ref l) (E := E) (Q₁ := fun obj s₁ => obj = .ref s.heap.objs.size ∧ s₁ = { s with heap := s.heap.push { cls := .type "set", dict := none, data := .set #[] 0 (.fresh 0 0 (!w.params.followText "set-order")) } }) ⟨rfl, rfl⟩) fun r s₁ hr => ?_
  cases r with
  | error e => exact hr
  | ok fl =>
    cases fl with
    | ret obj =>
      obtain ⟨rfl, rfl⟩ := hr
      have hS : (s.heap.push { cls := .type "set", dict := none, data := .set #[] 0 (.fresh 0 0 (!w.params.followText "set-order")) }).get? s.heap.objs.size = some { cls := .type "set", dict := none, data := .set #[] 0 (.fresh 0 0 (!w.params.followText "set-order")) } := Heap.get?_push_size _ rfl
      have hT : Shared.TypeIs { s with heap := s.heap.push { cls := .type "set", dict := none, data := .set #[] 0 (.fresh 0 0 (!w.params.followText "set-order")) } } (.ref s.heap.objs.size) "set" := ⟨_, hS, rfl⟩
      have hli := F.called_set.init.lookup
      have hbi := F.called_set.init.bind (.ref s.heap.objs.size)
      repeat (any_goals (first | assumption | wp_step))

      refine codeAny_mono (codeAny_call_builtin (R := wants (fun r s₂ => r = .none ∧ ∃ h' tk, s₂ = { s with heap := h', toks := tk } ∧ SetT w h' s.heap.objs.size (fun j => decide (j ∈ ns)) (ddp ns).length ∧
          (∀ b o, s.heap.get? b = some o → h'.get? b = some o)) E) F.called_set.init.plain F.entry_set_init (check_set_init_1 hT ?_)) fun r₂ s₂ hr₂ => ?_
      · obtain ⟨ol, hol, hcl, nl, hdl⟩ := hl
        obtain ⟨ocls, odict, odata, oslots⟩ := ol
        simp only at hcl hdl
        subst hcl; subst hdl
        have hol' : (s.heap.push { cls := .type "set", dict := none, data := .set #[] 0 (.fresh 0 0 (!w.params.followText "set-order")) }).get? l = some { cls := .type "list", dict := odict, data := .seq items nl, slots := oslots } := Heap.get?_push_of_some _ hol
        have hsls := F.sub_list_set
        have hslf := F.sub_list_frozenset
        have hne : (Value.type "list" == Value.type "dict") = false := by decide
        have hl1 : (s.heap.push { cls := .type "set", dict := none, data := .set #[] 0 (.fresh 0 0 (!w.params.followText "set-order")) }).IsList l items := ⟨_, hol', rfl, nl, rfl⟩
        unfold Builtin.«set.__init__» noKeywords Builtin.Frozenset.updateFrom
        generalize hPI : pyIter = PI
        wp_walk
        subst hPI

        refine wpAny_pyIter_list hl1 ?_
        refine wpAny_bind (wpAny_runValue ?_)
        have hlS : l < s.heap.objs.size := Heap.lt_size hol
        have hh3 : A.in1.in1.in1.handled = none := by simp [hh]
        have hneI : l ≠ (s.heap.push { cls := .type "set", dict := none, data := .set #[] 0 (.fresh 0 0 (!w.params.followText "set-order")) }).objs.size := by
          rw [Heap.size_push]; exact Nat.ne_of_lt (Nat.lt_succ_of_lt hlS)
        have hSf : s.heap.objs.size ∉ [(s.heap.push { cls := .type "set", dict := none, data := .set #[] 0 (.fresh 0 0 (!w.params.followText "set-order")) }).objs.size, l] := by
          rw [Heap.size_push]; simp only [List.mem_cons, List.mem_singleton, List.not_mem_nil, or_false, not_or]
          exact ⟨Nat.ne_of_lt (Nat.lt_succ_self _), Nat.ne_of_gt hlS⟩
        have hval : ∀ (i : Nat) (v : Value), items[i]? = some v → ∃ k t, ns[i]? = some k ∧ v = .str k t := fun i v hv => by
          have hi : i < ns.length := by rw [← hisz]; exact (Array.getElem?_eq_some_iff.mp hv).1
          obtain ⟨t, e⟩ := SS.strs_at hit i v (by rw [Array.getElem?_toList]; exact hv)
          refine ⟨ns[i], t, List.getElem?_eq_getElem hi, ?_⟩
          rw [e, List.getD_eq_getElem?_getD, List.getElem?_eq_getElem hi] <;> rfl
        refine set_update_strs ((Walks.list hh3 _ l hneI items).toS) s.heap.objs.size
          hSf ns hisz hb hval (items.size - 0) 0 _ (by omega) (Nat.zero_le _)
          ⟨⟨_, Heap.get?_push_size _ rfl, rfl, rfl⟩, (hl1.push _)⟩ ?hS0 ?hR
        case hS0 =>
          have hget : ((s.heap.push { cls := .type "set", dict := none, data := .set #[] 0 (.fresh 0 0 (!w.params.followText "set-order")) }).push { cls := .type "list_iterator", data := .fields #[.ref l, .int 0 0] }).get? s.heap.objs.size
              = some { cls := .type "set", dict := none, data := .set #[] 0 (.fresh 0 0 (!w.params.followText "set-order")) } := Heap.get?_push_of_some _ hS
          exact ⟨0, setT_new_at hget⟩
        case hR =>
          intro s' c' hm hS'
          obtain ⟨h', g2, d', tk', os'⟩ := s'
          have eg : g2 = s.gens := hm.gens
          have ed : d' = s.drawn := hm.drawn
          have eo : os' = s.os := hm.os
          subst eg; subst ed; subst eo
          show wpAny _ _ _ _ _ _
          refine wpAny_pure ?_
          show wpAny _ _ (ret Value.none) _ _ _
          refine wpAny_pure ⟨rfl, h', tk', rfl, setT_count hS', fun b o e => ?_⟩
          have hb0 : b < s.heap.objs.size := Heap.lt_size e
          have hb1 : b ≠ s.heap.objs.size := Nat.ne_of_lt hb0
          have hb2 : b ≠ (s.heap.push { cls := .type "set", dict := none, data := .set #[] 0 (.fresh 0 0 (!w.params.followText "set-order")) }).objs.size := by
            rw [Heap.size_push]; exact Nat.ne_of_lt (Nat.lt_succ_of_lt hb0)
          exact hm.heap b o (by simp only [List.mem_cons, List.mem_singleton, List.not_mem_nil, or_false, not_or]; exact ⟨hb1, hb2⟩) (Heap.get?_push_of_some _ (Heap.get?_push_of_some _ e))

      · cases r₂ with
        | error e => exact hr₂
        | ok fl₂ =>
          cases fl₂ with
          | ret r =>
            obtain ⟨rfl, h', tk, rfl, hS', hk'⟩ := hr₂
            repeat (any_goals (first | assumption | wp_step))
            exact h _ _ hS' hk'
          | _ => exact hr₂.elim
    | _ => exact hr.elim
end
end Py

set_option Elab.async false
set_option linter.all false
set_option maxRecDepth 100000
set_option maxHeartbeats 4000000
/-! Sets of texts: set(list), set(tuple). -/
namespace Py
open PySem PySem.Spec PyProof.Rows L2
section
variable {P : Program} {w : World} {A : Around} {E : Value → Shared → Prop} {s : Shared}

set_option maxHeartbeats 3200000 in
theorem call_set_tupT {l : Addr} {items : Array Value} (ns : List Str) {Q : Value → Shared → Prop} (hh : A.handled = none) (hl : s.heap.IsTuple l items) (hit : PyProof.Rows.StrsAre items.toList ns) (hb : ns.length + 1 < scanBound)
    (h : ∀ (h' : Heap) (tk : Nat), SetT w h' s.heap.objs.size (fun j => decide (j ∈ ns)) (ddp ns).length → (∀ b o, s.heap.get? b = some o → h'.get? b = some o) → Q (.ref s.heap.objs.size) { s with heap := h', toks := tk }) :
    wpAny (model P w) A (call (.type "set") [.ref l]) Q E s := by
  have hisz : items.size = ns.length := by
    have q := StrsAre.len_eq hit
    rw [Array.length_toList] at q
    exact q
  obtain ⟨c, tl, hmro⟩ := F.called_set.mro
  have hmade := F.called_set.made
  have hsub := F.called_set.sub
  refine wpAny_call (codeAny_of_tree ?_)
  show wpAny _ _ (callAny (.type "set") _) _ _ _
  refine wpAny_pure ⟨Code.quiet_builtin _ (by decide +kernel), codeAny_builtin F.entry_type_call ?_⟩
  rw [Around.under_plain (weight_type_call_type "set" [.ref l] []) rfl]
  have h1 := F.called_set.notType
  have h2 := F.called_set.canCreate
  have hct := F.typeCall_set_1 (.ref l)
  repeat (any_goals (first | assumption | wp_step))

  refine codeAny_mono (code_set_led1 (.ref l) (E := E) (Q₁ := fun obj s₁ => obj = .ref s.heap.objs.size ∧ s₁ = { s with heap := s.heap.push { cls := .type "set", dict := none, data := .set #[] 0 (.fresh 0 0 (!w.params.followText "set-order")) } }) ⟨rfl, rfl⟩) fun r s₁ hr => ?_
  cases r with
  | error e => exact hr
  | ok fl =>
    cases fl with
    | ret obj =>
      obtain ⟨rfl, rfl⟩ := hr
      have hS : (s.heap.push { cls := .type "set", dict := none, data := .set #[] 0 (.fresh 0 0 (!w.params.followText "set-order")) }).get? s.heap.objs.size = some { cls := .type "set", dict := none, data := .set #[] 0 (.fresh 0 0 (!w.params.followText "set-order")) } := Heap.get?_push_size _ rfl
      have hT : Shared.TypeIs { s with heap := s.heap.push { cls := .type "set", dict := none, data := .set #[] 0 (.fresh 0 0 (!w.params.followText "set-order")) } } (.ref s.heap.objs.size) "set" := ⟨_, hS, rfl⟩
      have hli := F.called_set.init.lookup
      have hbi := F.called_set.init.bind (.ref s.heap.objs.size)
      repeat (any_goals (first | assumption | wp_step))

      refine codeAny_mono (codeAny_call_builtin (R := wants (fun r s₂ => r = .none ∧ ∃ h' tk, s₂ = { s with heap := h', toks := tk } ∧ SetT w h' s.heap.objs.size (fun j => decide (j ∈ ns)) (ddp ns).length ∧
          (∀ b o, s.heap.get? b = some o → h'.get? b = some o)) E) F.called_set.init.plain F.entry_set_init (check_set_init_1 hT ?_)) fun r₂ s₂ hr₂ => ?_
      · obtain ⟨ol, hol, hcl, nl, hdl⟩ := hl
        obtain ⟨ocls, odict, odata, oslots⟩ := ol
        simp only at hcl hdl
        subst hcl; subst hdl
        have hol' : (s.heap.push { cls := .type "set", dict := none, data := .set #[] 0 (.fresh 0 0 (!w.params.followText "set-order")) }).get? l = some { cls := .type "tuple", dict := odict, data := .seq items nl, slots := oslots } := Heap.get?_push_of_some _ hol
        have hsls := F.sub_tuple_set
        have hslf := F.sub_tuple_frozenset
        have hne : (Value.type "tuple" == Value.type "dict") = false := by decide
        have hl1 : (s.heap.push { cls := .type "set", dict := none, data := .set #[] 0 (.fresh 0 0 (!w.params.followText "set-order")) }).IsTuple l items := ⟨_, hol', rfl, nl, rfl⟩
        unfold Builtin.«set.__init__» noKeywords Builtin.Frozenset.updateFrom
        generalize hPI : pyIter = PI
        wp_walk
        subst hPI

        refine wpAny_pyIter_tuple hl1 ?_
        refine wpAny_bind (wpAny_runValue ?_)
        have hlS : l < s.heap.objs.size := Heap.lt_size hol
        have hh3 : A.in1.in1.in1.handled = none := by simp [hh]
        have hneI : l ≠ (s.heap.push { cls := .type "set", dict := none, data := .set #[] 0 (.fresh 0 0 (!w.params.followText "set-order")) }).objs.size := by
          rw [Heap.size_push]; exact Nat.ne_of_lt (Nat.lt_succ_of_lt hlS)
        have hSf : s.heap.objs.size ∉ [(s.heap.push { cls := .type "set", dict := none, data := .set #[] 0 (.fresh 0 0 (!w.params.followText "set-order")) }).objs.size, l] := by
          rw [Heap.size_push]; simp only [List.mem_cons, List.mem_singleton, List.not_mem_nil, or_false, not_or]
          exact ⟨Nat.ne_of_lt (Nat.lt_succ_self _), Nat.ne_of_gt hlS⟩
        have hval : ∀ (i : Nat) (v : Value), items[i]? = some v → ∃ k t, ns[i]? = some k ∧ v = .str k t := fun i v hv => by
          have hi : i < ns.length := by rw [← hisz]; exact (Array.getElem?_eq_some_iff.mp hv).1
          obtain ⟨t, e⟩ := SS.strs_at hit i v (by rw [Array.getElem?_toList]; exact hv)
          refine ⟨ns[i], t, List.getElem?_eq_getElem hi, ?_⟩
          rw [e, List.getD_eq_getElem?_getD, List.getElem?_eq_getElem hi] <;> rfl
        refine set_update_strs ((Walks.tuple hh3 _ l hneI items).toS) s.heap.objs.size
          hSf ns hisz hb hval (items.size - 0) 0 _ (by omega) (Nat.zero_le _)
          ⟨⟨_, Heap.get?_push_size _ rfl, rfl, rfl⟩, (hl1.push _)⟩ ?hS0 ?hR
        case hS0 =>
          have hget : ((s.heap.push { cls := .type "set", dict := none, data := .set #[] 0 (.fresh 0 0 (!w.params.followText "set-order")) }).push { cls := .type "tuple_iterator", data := .fields #[.ref l, .int 0 0] }).get? s.heap.objs.size
              = some { cls := .type "set", dict := none, data := .set #[] 0 (.fresh 0 0 (!w.params.followText "set-order")) } := Heap.get?_push_of_some _ hS
          exact ⟨0, setT_new_at hget⟩
        case hR =>
          intro s' c' hm hS'
          obtain ⟨h', g2, d', tk', os'⟩ := s'
          have eg : g2 = s.gens := hm.gens
          have ed : d' = s.drawn := hm.drawn
          have eo : os' = s.os := hm.os
          subst eg; subst ed; subst eo
          show wpAny _ _ _ _ _ _
          refine wpAny_pure ?_
          show wpAny _ _ (ret Value.none) _ _ _
          refine wpAny_pure ⟨rfl, h', tk', rfl, setT_count hS', fun b o e => ?_⟩
          have hb0 : b < s.heap.objs.size := Heap.lt_size e
          have hb1 : b ≠ s.heap.objs.size := Nat.ne_of_lt hb0
          have hb2 : b ≠ (s.heap.push { cls := .type "set", dict := none, data := .set #[] 0 (.fresh 0 0 (!w.params.followText "set-order")) }).objs.size := by
            rw [Heap.size_push]; exact Nat.ne_of_lt (Nat.lt_succ_of_lt hb0)
          exact hm.heap b o (by simp only [List.mem_cons, List.mem_singleton, List.not_mem_nil, or_false, not_or]; exact ⟨hb1, hb2⟩) (Heap.get?_push_of_some _ (Heap.get?_push_of_some _ e))

      · cases r₂ with
        | error e => exact hr₂
        | ok fl₂ =>
          cases fl₂ with
          | ret r =>
            obtain ⟨rfl, h', tk, rfl, hS', hk'⟩ := hr₂
            repeat (any_goals (first | assumption | wp_step))
            exact h _ _ hS' hk'
          | _ => exact hr₂.elim
    | _ => exact hr.elim
end
end Py

set_option Elab.async false
set_option linter.all false
set_option maxRecDepth 100000
set_option maxHeartbeats 4000000
/-! How a store lies in the abstract heap. -/
namespace Py
open PySem PySem.Spec PyProof.Rows L2

structure Mo where
  p : Program
  w : World
  K : PySem.W.Frag
  mg : Str → Option Value
  P : Prog
  /-- code objects whose tables may grow, and these -/
  tabs : List (Addr × Addr)
def TabsOk (M : Mo) (H : Hp) : Prop := ∀ p ∈ M.tabs, GxR.TabG H p.2
/-- a thing that stays as it is while nobody writes it -/
def Stab : HO → Prop
  | .own _ => False
  | .tbl _ => False
  | _ => True
abbrev Mo.Rep (M : Mo) (H : Hp) : D → V → Prop := Py.Rep M.K M.mg H
abbrev Mo.Reps (M : Mo) (H : Hp) : List D → List V → Prop := Py.Reps M.K M.mg H
/-- a dict's pairs -/
def KReps (M : Mo) (H : Hp) : List (Key × D) → List (Key × V) → Prop := Paired fun p q => p.1 = q.1 ∧ M.Rep H p.2 q.2
def clsAt (M : Mo) (c : Str) (C : Addr) : Prop := M.mg c = some (.ref C)

/-- a set of texts -/
def SetTO (w : World) (a : Addr) (S : Str → Bool) (n : Nat) : HO := .ext fun h => SetT w h a S n

def RepO (M : Mo) (H : Hp) (a : Addr) : O → Prop
  | .lst ds => ds.length ≤ sizeLine ∧ ∃ vs, H a = some (.lst vs) ∧ M.Reps H ds vs
  | .dct kvs => kvs.length ≤ sizeLine ∧ ∃ vs, H a = some (.dK vs) ∧ KReps M H kvs vs
  | .set ks => ks.Nodup ∧ H a = some (SetTO M.w a (fun k => decide (k ∈ ks)) ks.length)
  | .ins c fs => ∃ C cd, M.mg c = some (.ref C) ∧ M.P.cls.lookup c = some cd ∧
      (if cd.slotted = true then ∃ dx vs, dx ≠ a ∧ SlX.Slt H a C dx vs ∧ ∀ f d, fs.lookup f = some d → ∃ i v, ixOf f cd.slots = some i ∧ vs[i]? = some (some v) ∧ M.Rep H d v
       else ∃ dx vfs, H a = some (.ins C dx vfs) ∧ vfs.map (·.1) = fs.map (·.1) ∧ ∀ f d, fs.lookup f = some d → ∃ i v, ixOf f cd.slots = some i ∧ vfs.lookup f = some v ∧ M.Rep H d v)

def RelS (M : Mo) (st : Sto) (H : Hp) : Prop := (∀ a o, st a = some o → RepO M H a o) ∧ TabsOk M H
structure RelL (M : Mo) (H : Hp) (L : Loc) (σ : L2.St) : Prop where
  len : L.length = σ.length
  get : ∀ (i : Nat) d, L[i]? = some (some d) → ∃ v, σ[i]? = some (some v) ∧ M.Rep H d v

/-- what is not in the store stays, tuples stay -/
structure Ext (M : Mo) (st : Sto) (H : Hp) (st' : Sto) (H' : Hp) : Prop where
  fr : ∀ b o, H b = some o → st b = none → Stab o → H' b = some o ∧ st' b = none
  tp : ∀ a xs, SqT M.K H a xs → SqT M.K H' a xs
  lf : FzM H H'
theorem Ext.refl {M : Mo} {st : Sto} {H : Hp} : Ext M st H st H := ⟨fun _ _ h k _ => ⟨h, k⟩, fun _ _ h => h, ⟨fun _ _ _ h => h, fun _ h => h⟩⟩
theorem Ext.trans {M : Mo} {s1 s2 s3 : Sto} {H1 H2 H3 : Hp} (a : Ext M s1 H1 s2 H2) (b : Ext M s2 H2 s3 H3) : Ext M s1 H1 s3 H3 :=
  ⟨fun c o h k n => let ⟨h2, k2⟩ := a.fr c o h k n; b.fr c o h2 k2 n, fun c xs h => b.tp c xs (a.tp c xs h), ⟨fun c o u h => b.lf.1 c o u (a.lf.1 c o u h), fun c h => b.lf.2 c (a.lf.2 c h)⟩⟩
/-- a part of the later store -/
theorem Ext.sub {M : Mo} {s1 s2 s3 : Sto} {H1 H2 : Hp} (a : Ext M s1 H1 s2 H2) (h : Sub s3 s2) : Ext M s1 H1 s3 H2 :=
  ⟨fun c o e k n => let ⟨h2, k2⟩ := a.fr c o e k n; ⟨h2, by
    cases q : s3 c with
    | none => rfl
    | some u => rw [h c u q] at k2; cases k2⟩, a.tp, a.lf⟩
theorem RelS.sub {M : Mo} {s s' : Sto} {H : Hp} (r : RelS M s H) (h : Sub s' s) : RelS M s' H := ⟨fun a o q => r.1 a o (h a o q), r.2⟩

section
variable {M : Mo} {H H' : Hp} {st st' : Sto} {a : Addr}
theorem KReps.mono (t : ∀ a xs, SqT M.K H a xs → SqT M.K H' a xs) (lf : FzM H H') {kvs : List (Key × D)} {vs : List (Key × V)} (r : KReps M H kvs vs) : KReps M H' kvs vs :=
  Paired.mapP r fun _ _ ⟨h1, h2⟩ => ⟨h1, Rep.mono t lf h2⟩
theorem RelL.mono (t : ∀ a xs, SqT M.K H a xs → SqT M.K H' a xs) (lf : FzM H H') {L : Loc} {σ : L2.St} (r : RelL M H L σ) : RelL M H' L σ :=
  ⟨r.len, fun i d h => let ⟨v, h1, h2⟩ := r.get i d h; ⟨v, h1, Rep.mono t lf h2⟩⟩
theorem sqL_keep {K : PySem.W.Frag} {xs : List V} (h : SqL K H a xs) (k : ∀ u, H a = some u → H' a = some u) : SqL K H' a xs := by
  rcases h with (h | ⟨o, h⟩) | h
  · exact .inl (.inl (k _ h))
  · exact .inl (.inr ⟨o, k _ h⟩)
  · exact .inr h
theorem sqT_keep {K : PySem.W.Frag} {xs : List V} (h : SqT K H a xs) (k : ∀ u, H a = some u → H' a = some u) : SqT K H' a xs := by
  rcases h with (h | ⟨o, h⟩) | h
  · exact .inl (.inl (k _ h))
  · exact .inl (.inr ⟨o, k _ h⟩)
  · exact .inr h
theorem slt_keep {C dx : Addr} {vs : List (Option V)} (h : SlX.Slt H a C dx vs) (k : ∀ u, H a = some u → H' a = some u) (x : ∀ b, H b = some (.xd []) → H' b = some (.xd [])) : SlX.Slt H' a C dx vs := by
  rcases h with ⟨h1, h2⟩ | ⟨h1, h2⟩
  · exact .inl ⟨k _ h1, h2⟩
  · exact .inr ⟨k _ h1, x _ h2⟩
theorem RepO.mono {o : O} (r : RepO M H a o) (k : ∀ u, H a = some u → H' a = some u) (t : ∀ a xs, SqT M.K H a xs → SqT M.K H' a xs) (lf : FzM H H') (x : ∀ b, H b = some (.xd []) → H' b = some (.xd [])) : RepO M H' a o := by
  cases o with
  | lst ds => obtain ⟨z, vs, h1, h2⟩ := r; exact ⟨z, vs, k _ h1, Reps.mono t lf h2⟩
  | dct kvs => obtain ⟨z, vs, h1, h2⟩ := r; exact ⟨z, vs, k _ h1, h2.mono t lf⟩
  | set ks => obtain ⟨z, h1⟩ := r; exact ⟨z, k _ h1⟩
  | ins c fs =>
    obtain ⟨C, cd, h1, h2, h3⟩ := r
    refine ⟨C, cd, h1, h2, ?_⟩
    split at h3
    · rename_i e; rw [if_pos e]
      obtain ⟨dx, vs, h4, h5, h6⟩ := h3
      refine ⟨dx, vs, h4, slt_keep h5 k x, fun f d q => ?_⟩
      obtain ⟨i, v, q1, q2, q3⟩ := h6 f d q
      exact ⟨i, v, q1, q2, Rep.mono t lf q3⟩
    · rename_i e; rw [if_neg e]
      obtain ⟨dx, vfs, h4, h5, h6⟩ := h3
      refine ⟨dx, vfs, k _ h4, h5, fun f d q => ?_⟩
      obtain ⟨i, v, q1, q2, q3⟩ := h6 f d q
      exact ⟨i, v, q1, q2, Rep.mono t lf q3⟩
/-- a tracked object stands in the heap, is no tuple, no exception's dict -/
theorem RepO.there {o : O} (r : RepO M H a o) : ∃ u, H a = some u ∧ (∀ xs, u ≠ .tup xs) ∧ u ≠ .xd [] ∧ (∀ ob y, u ≠ .frz ob y) ∧ Stab u := by
  cases o with
  | lst ds => obtain ⟨_, vs, h1, h2⟩ := r; exact ⟨_, h1, fun _ => nofun, nofun, fun _ _ => nofun, trivial⟩
  | dct kvs => obtain ⟨_, vs, h1, h2⟩ := r; exact ⟨_, h1, fun _ => nofun, nofun, fun _ _ => nofun, trivial⟩
  | set ks => obtain ⟨_, h1⟩ := r; exact ⟨_, h1, fun _ => nofun, nofun, fun _ _ => nofun, trivial⟩
  | ins c fs =>
    obtain ⟨C, cd, h1, h2, h3⟩ := r
    split at h3
    · obtain ⟨dx, vs, h4, h5, h6⟩ := h3
      rcases h5 with ⟨h5, _⟩ | ⟨h5, _⟩
      · exact ⟨_, h5, fun _ => nofun, nofun, fun _ _ => nofun, trivial⟩
      · exact ⟨_, h5, fun _ => nofun, nofun, fun _ _ => nofun, trivial⟩
    · obtain ⟨dx, vfs, h4, h5, h6⟩ := h3
      exact ⟨_, h4, fun _ => nofun, nofun, fun _ _ => nofun, trivial⟩
end
end Py

set_option Elab.async false
set_option linter.all false
set_option maxRecDepth 100000
set_option maxHeartbeats 4000000
/-! Soundness, by values: allocation, writing, operators. -/
namespace Py
open PySem PySem.Spec PyProof.Rows L2
section
variable {M : Mo} {H H' : Hp} {st st' : Sto} {a p : Addr}
theorem fresh_sto (r : RelS M st H) (h : H p = none) : st p = none := by
  cases q : st p with
  | none => rfl
  | some o => obtain ⟨u, e, _⟩ := (r.1 p o q).there; rw [h] at e; cases e
theorem sub_tp (k : ∀ b u, H b = some u → H' b = some u) : ∀ a xs, SqT M.K H a xs → SqT M.K H' a xs := fun a xs h => sqT_keep h (k a)
theorem sub_lf (k : ∀ b u, H b = some u → H' b = some u) : FzM H H' := ⟨fun a o u h => k _ _ h, fun b h => k _ _ h⟩
theorem upd_keeps {o : HO} (h : H p = none) : ∀ b u, H b = some u → upd H p o b = some u := fun b u e => by rw [upd_ne (ne_of_none e h)]; exact e
/-- the heap grows, the store does not -/
theorem RelS.grow (r : RelS M st H) (k : ∀ b u, H b = some u → H' b = some u) : RelS M st H' := ⟨fun a o q => (r.1 a o q).mono (k a) (sub_tp k) (sub_lf k) fun b e => k b _ e, fun p hp => let ⟨ps, h1, h2⟩ := r.2 p hp; ⟨ps, k _ _ h1, h2⟩⟩
theorem Ext.grow (k : ∀ b u, H b = some u → H' b = some u) : Ext M st H st H' := ⟨fun b o e n _ => ⟨k b o e, n⟩, sub_tp k, sub_lf k⟩
/-- a new object -/
theorem RelS.alloc {u : HO} {o : O} (r : RelS M st H) (h : H p = none) (new : RepO M (upd H p u) p o) : RelS M (put st p o) (upd H p u) := ⟨fun b ob q => by
  by_cases e : b = p
  · subst e; rw [put_same] at q; cases q; exact new
  · rw [put_ne e] at q; exact (r.grow (upd_keeps h)).1 b ob q, (r.grow (upd_keeps h)).2⟩
theorem Ext.alloc {u : HO} {o : O} (h : H p = none) : Ext M st H (put st p o) (upd H p u) :=
  ⟨fun b ob e n _ => ⟨upd_keeps h b ob e, by rw [put_ne (ne_of_none e h)]; exact n⟩, sub_tp (upd_keeps h), sub_lf (upd_keeps h)⟩
/-- an object of the store is written -/
theorem wr_keep {u : HO} {o : O} (r : RelS M st H) (ha : st a = some o) : (∀ b xs, SqT M.K H b xs → SqT M.K (upd H a u) b xs) ∧ FzM H (upd H a u) ∧ (∀ b, H b = some (.xd []) → upd H a u b = some (.xd [])) := by
  obtain ⟨w, hw, n1, n3, n2, n5⟩ := (r.1 a o ha).there
  have x3 : ∀ b, H b = some (.xd []) → upd H a u b = some (.xd []) := fun b h => by
    rw [upd_ne (fun e => by rw [e, hw] at h; exact n3 (Option.some.inj h))]; exact h
  have x2 : ∀ b ob y, H b = some (.frz ob y) → upd H a u b = some (.frz ob y) := fun b ob y h => by
    rw [upd_ne (fun e => by rw [e, hw] at h; exact n2 _ _ (Option.some.inj h))]; exact h
  refine ⟨fun b xs h => ?_, ⟨x2, x3⟩, x3⟩
  rcases h with (h | ⟨ob, h⟩) | h
  · exact .inl (.inl (by rw [upd_ne (fun e => by rw [e, hw] at h; exact n1 _ (Option.some.inj h))]; exact h))
  · exact .inl (.inr ⟨ob, x2 _ _ _ h⟩)
  · exact .inr h
theorem tab_upd {w u : HO} (t : TabsOk M H) (hw : H a = some w) (n : Stab w) : TabsOk M (upd H a u) := fun p hp => by
  obtain ⟨ps, h1, h2⟩ := t p hp
  have : p.2 ≠ a := fun e => by rw [e, hw] at h1; cases h1; exact n
  exact ⟨ps, by rw [upd_ne this]; exact h1, h2⟩
theorem tab_write {u : HO} {o : O} (r : RelS M st H) (ha : st a = some o) : TabsOk M (upd H a u) := by
  obtain ⟨w, hw, n1, n3, n2, n5⟩ := (r.1 a o ha).there
  exact tab_upd r.2 hw n5
theorem RelS.write {u : HO} {o o' : O} (r : RelS M st H) (ha : st a = some o) (new : RepO M (upd H a u) a o') : RelS M (put st a o') (upd H a u) := ⟨fun b ob q => by
  obtain ⟨k1, k2, k3⟩ := wr_keep (u := u) r ha
  by_cases e : b = a
  · subst e; rw [put_same] at q; cases q; exact new
  · rw [put_ne e] at q; exact (r.1 b ob q).mono (fun w hw => by rw [upd_ne e]; exact hw) k1 k2 k3, tab_write r ha⟩
theorem Ext.write {u : HO} {o o' : O} (r : RelS M st H) (ha : st a = some o) : Ext M st H (put st a o') (upd H a u) := by
  obtain ⟨k1, k2, k3⟩ := wr_keep (u := u) r ha
  refine ⟨fun b ob e n _ => ?_, k1, k2⟩
  have : b ≠ a := fun z => by rw [z, ha] at n; cases n
  exact ⟨by rw [upd_ne this]; exact e, by rw [put_ne this]; exact n⟩

/-- what is wanted behind, in the pure world -/
def QL (M : Mo) (st : Sto) (H : Hp) (Q : VK) : QD := fun d st' => ∀ v H', Ext M st H st' H' → RelS M st' H' → M.Rep H' d v → Q v H'
def QLb (M : Mo) (st : Sto) (H : Hp) (Q : Bool → Hp → Prop) : Bool → Sto → Prop := fun b st' => ∀ H', Ext M st H st' H' → RelS M st' H' → Q b H'
def QLs (M : Mo) (st : Sto) (H : Hp) (Q : List V → Hp → Prop) : List D → Sto → Prop := fun ds st' => ∀ vs H', Ext M st H st' H' → RelS M st' H' → M.Reps H' ds vs → Q vs H'
theorem QL.here {Q : VK} {d : D} {v : V} (q : QL M st H Q d st) (r : RelS M st H) (h : M.Rep H d v) : Q v H := q v H .refl r h
/-- behind a further step -/
theorem QL.step {Q : VK} (e : Ext M st H st' H') : ∀ d s, QL M st H Q d s → QL M st' H' Q d s := fun d s q v H2 e2 r h => q v H2 (e.trans e2) r h
/-- a new list, from the pure world -/
theorem newL_ok {Q : VK} {ds : List D} {vs : List V} (r : RelS M st H) (k : newL ds st (QL M st H Q)) (h : M.Reps H ds vs) : ∀ p, H p = none → Q (.ref p) (upd H p (.lst vs)) := fun p hp =>
  k.2 p (fresh_sto r hp) _ _ (.alloc hp) (r.alloc hp ⟨k.1, vs, upd_same, Reps.mono (sub_tp (upd_keeps hp)) (sub_lf (upd_keeps hp)) h⟩) (.ref p)
theorem newT_ok {Q : VK} {ds : List D} {vs : List V} (r : RelS M st H) (k : newT ds st (QL M st H Q)) (h : M.Reps H ds vs) : ∀ p, H p = none → Q (.ref p) (upd H p (.tup vs)) := fun p hp =>
  k.2 _ _ (.grow (upd_keeps hp)) (r.grow (upd_keeps hp)) (.tup k.1 (.inl (.inl upd_same)) (Reps.mono (sub_tp (upd_keeps hp)) (sub_lf (upd_keeps hp)) h))
/-- a list that is read -/
theorem rdL_ok {d : D} {xs : List D} {v : V} (r : RelS M st H) (h : M.Rep H d v) (e : rdL st d = some xs) : ∃ b vs, v = .ref b ∧ SqL M.K H b vs ∧ M.Reps H xs vs ∧ xs.length ≤ sizeLine := by
  cases h with
  | ref b =>
    unfold rdL at e
    dsimp only at e
    split at e
    · rename_i ys q
      cases e
      obtain ⟨z, vs, h1, h2⟩ := r.1 b _ q
      exact ⟨b, vs, rfl, .inl (.inl h1), h2, z⟩
    · cases e
  | kl z s h2 =>
    cases e
    exact ⟨_, _, rfl, .inl (.inr ⟨_, s⟩), h2, z⟩
  | sl z s h2 =>
    cases e
    exact ⟨_, _, rfl, s.sq, h2, z⟩
  | _ => cases e
theorem rdM_ok {d : D} {xs : List D} {v : V} (r : RelS M st H) (h : M.Rep H d v) (e : rdM st d = some xs) : ∃ b vs, v = .ref b ∧ Rd H b (.lst vs) ∧ M.Reps H xs vs ∧ xs.length ≤ sizeLine := by
  cases h with
  | ref b =>
    unfold rdM at e
    dsimp only at e
    split at e
    · rename_i ys q
      cases e
      obtain ⟨z, vs, h1, h2⟩ := r.1 b _ q
      exact ⟨b, vs, rfl, .inl h1, h2, z⟩
    · cases e
  | kl z s h2 =>
    cases e
    exact ⟨_, _, rfl, .inr ⟨_, s⟩, h2, z⟩
  | _ => cases e
theorem lst_ok {xs : List D} (r : RelS M st H) (e : st a = some (.lst xs)) : xs.length ≤ sizeLine ∧ ∃ vs, H a = some (.lst vs) ∧ M.Reps H xs vs := r.1 a _ e
mutual
theorem Dt.ok (r : RelS M st H) : ∀ {d : D} {x : PyData} {v : V}, Dt st d x → M.Rep H d v → Dp M.K H v x
  | _, _, _, .non, h => by cases h; exact .non
  | _, _, _, .bl b, h => by cases h; exact .bl b
  | _, _, _, .int i, h => by cases h; exact .int i
  | _, _, _, .str x, h => by cases h; exact .str x
  | _, _, _, .lst e q, h => by
    obtain ⟨b, vs, rfl, s, rs, _⟩ := rdL_ok r h e
    exact .lst s (Dts.ok r q rs)
  | _, _, _, .tup q, h => by
    obtain ⟨b, vs, rfl, _, s, rs⟩ := h.tup_inv
    exact .tup s (Dts.ok r q rs)
theorem Dts.ok (r : RelS M st H) : ∀ {ds : List D} {xs : List PyData} {vs : List V}, Dts st ds xs → M.Reps H ds vs → DpAll M.K H vs xs
  | _, _, _, .nil, h => by cases h; exact .nil
  | _, _, _, .cons q r', h => by
    cases h with
    | cons h1 h2 => exact .cons (Dt.ok r q h1) (Dts.ok r r' h2)
end
end

def lift2 (M : Mo) (r : D → D → Sto → QD → Prop) : R2 := fun x y H Q => ∃ a b st, M.Rep H a x ∧ M.Rep H b y ∧ RelS M st H ∧ r a b st (QL M st H Q)
def lift1 (M : Mo) (r : D → Sto → QD → Prop) : V → Hp → VK → Prop := fun x H Q => ∃ a st, M.Rep H a x ∧ RelS M st H ∧ r a st (QL M st H Q)
def liftN (M : Mo) (r : List D → Sto → QD → Prop) : List V → Hp → VK → Prop := fun xs H Q => ∃ ds st, M.Reps H ds xs ∧ RelS M st H ∧ r ds st (QL M st H Q)
def liftM (M : Mo) (r : D → List D → Sto → QD → Prop) : V → List V → Hp → VK → Prop := fun x xs H Q => ∃ a ds st, M.Rep H a x ∧ M.Reps H ds xs ∧ RelS M st H ∧ r a ds st (QL M st H Q)

/-- the module of a context -/
structure XOf (M : Mo) (X : Cx) : Prop where
  p : X.prog = M.p
  w : X.w = M.w
  K : X.K = M.K
  mg : X.mg = M.mg
  calm : X.calm = true
  un : X.A.units + 120 < cLine

section
variable {M : Mo} {X : Cx} (hX : XOf M X)
include hX
omit hX in
theorem lstR {pins : List (Addr × Obj)} {s : Shared} {σ : L2.St} {H : Hp} {l : Addr} {xs : List V} (I : Inv X pins σ H s) (hH : Rd H l (.lst xs)) : xs.length ≤ sizeLine ∧ ∃ (its : List Value) (n : Nat), Vals xs its ∧ xs.length = its.length ∧ s.heap.get? l = some { cls := .type "list", data := .seq its.toArray n } := by
  obtain ⟨z, its, n, r, e⟩ := hH.ok I.hok
  exact ⟨z, its, n, r, r.length, e⟩
def rCatR : R2 := fun x y H Q => ∃ l b xs zs, x = .ref l ∧ y = .ref b ∧ Rd H l (.lst xs) ∧ Rd H b (.lst zs) ∧ xs.length + zs.length ≤ sizeLine ∧ ∀ p, H p = none → Q (.ref p) (upd H p (.lst (xs ++ zs)))
omit hX in
theorem op_catR : OpR X (binaryOp .Add) rCatR := by
  intro pins s σ H x y v u Q I rx ry h
  obtain ⟨l, b, xs, zs, rfl, rfl, hH, hB, hz, q⟩ := h
  obtain ⟨z, as, n, r, hl, e⟩ := lstR I hH
  obtain ⟨z2, bs, n2, r2, hl2, e2⟩ := lstR I hB
  cases rx; cases ry
  have size : as.toArray.size + bs.toArray.size ≤ sizeLine := by rw [List.size_toArray, List.size_toArray, ← hl, ← hl2]; exact hz
  have both : as.toArray ++ bs.toArray = (as ++ bs).toArray := List.append_toArray _ _
  refine PySem.P.add_list e e2 ?_ size
  rw [both]
  have len : (xs ++ zs).length ≤ sizeLine := by simpa using hz
  exact ⟨.ref _, _, I.lnew (t' := s.toks) (r.append r2) len, rfl, q _ I.fresh⟩
theorem snd_add : OpR X (binaryOp .Add) (lift2 M (bopR .add)) := by
  intro pins s σ H x y v u Q I rx ry h
  obtain ⟨a, b, st, ra, rb, rs, k⟩ := h
  unfold bopR at k
  dsimp only at k
  split at k
  · rename_i i j
    cases ra; cases rb
    exact op_add pins s σ H _ _ v u Q I rx ry ⟨i, j, rfl, rfl, k.here rs (.int _)⟩
  · rename_i i j
    cases ra; cases rb
    exact op_add_str pins s σ H _ _ v u Q I rx ry ⟨i, j, rfl, rfl, k.1, k.2.here rs (.str _)⟩
  · rename_i xs ys
    obtain ⟨p, vs, rfl, z1, s1, r1⟩ := ra.tup_inv
    obtain ⟨q, ws, rfl, z2, s2, r2⟩ := rb.tup_inv
    refine op_catA pins s σ H _ _ v u Q I rx ry ⟨p, q, vs, ws, rfl, rfl, by rw [hX.K]; exact s1, by rw [hX.K]; exact s2, ?_, fun e => ?_, fun _ e => ?_, fun _ e => newT_ok rs k (r1.append r2)⟩
    · have := k.1
      rw [List.length_append, r1.length, r2.length] at this
      exact this
    · subst e
      cases r1
      exact QL.here k.2 rs rb
    · subst e
      cases r2
      have k2 := k.2
      rw [List.append_nil] at k2
      exact QL.here k2 rs ra
  · obtain ⟨xs, ys, h1, h2, k⟩ := k
    obtain ⟨p, vs, rfl, i1, r1, z1⟩ := rdM_ok rs ra h1
    obtain ⟨q, ws, rfl, i2, r2, z2⟩ := rdM_ok rs rb h2
    refine op_catR pins s σ H _ _ v u Q I rx ry ⟨p, q, vs, ws, rfl, rfl, i1, i2, ?_, newL_ok rs k (r1.append r2)⟩
    have := k.1
    rw [List.length_append, r1.length, r2.length] at this
    exact this
theorem snd_sub : OpR X (binaryOp .Sub) (lift2 M (bopR .sub)) := by
  intro pins s σ H x y v u Q I rx ry h
  obtain ⟨a, b, st, ra, rb, rs, k⟩ := h
  unfold bopR at k
  dsimp only at k
  split at k
  · cases ra; cases rb
    exact op_sub pins s σ H _ _ v u Q I rx ry ⟨_, _, rfl, rfl, k.here rs (.int _)⟩
  · exact k.elim
theorem snd_mul : OpR X (binaryOp .Mult) (lift2 M (bopR .mul)) := by
  intro pins s σ H x y v u Q I rx ry h
  obtain ⟨a, b, st, ra, rb, rs, k⟩ := h
  unfold bopR at k
  dsimp only at k
  split at k
  · cases ra; cases rb
    exact op_mul pins s σ H _ _ v u Q I rx ry ⟨_, _, rfl, rfl, k.1, k.2.here rs (.int _)⟩
  · rename_i p n
    cases ra; cases rb
    obtain ⟨xs, h1, h2, h3, h4, k⟩ := k
    obtain ⟨z1, vs, e1, r1⟩ := lst_ok rs h1
    refine op_rep pins s σ H _ _ v u Q I rx ry ⟨p, n, vs, rfl, rfl, e1, h2, h3, by rw [← r1.length]; exact h4, newL_ok rs k ?_⟩
    have : ∀ m, M.Reps H (List.replicate m xs).flatten (List.replicate m vs).flatten := fun m => by
      induction m with
      | zero => exact .nil
      | succ m ih => simpa [List.replicate_succ] using r1.append ih
    exact this _
  · exact k.elim
theorem snd_fdiv : OpR X (binaryOp .FloorDiv) (lift2 M (bopR .fdiv)) := by
  intro pins s σ H x y v u Q I rx ry h
  obtain ⟨a, b, st, ra, rb, rs, k⟩ := h
  unfold bopR at k
  dsimp only at k
  split at k
  · cases ra; cases rb
    exact op_fdiv pins s σ H _ _ v u Q I rx ry ⟨_, _, rfl, rfl, k.1, k.2.here rs (.int _)⟩
  · exact k.elim
theorem snd_mod : OpR X (binaryOp .Mod) (lift2 M (bopR .mod)) := by
  intro pins s σ H x y v u Q I rx ry h
  obtain ⟨a, b, st, ra, rb, rs, k⟩ := h
  unfold bopR at k
  dsimp only at k
  split at k
  · cases ra; cases rb
    exact op_mod pins s σ H _ _ v u Q I rx ry ⟨_, _, rfl, rfl, k.1, k.2.here rs (.int _)⟩
  · exact k.elim
theorem snd_pow : OpR X (binaryOp .Pow) (lift2 M (bopR .pow)) := by
  intro pins s σ H x y v u Q I rx ry h
  obtain ⟨a, b, st, ra, rb, rs, k⟩ := h
  unfold bopR at k
  dsimp only at k
  split at k
  · cases ra; cases rb
    exact op_pow pins s σ H _ _ v u Q I rx ry ⟨_, _, rfl, rfl, k.1, k.2.here rs (.int _)⟩
  · exact k.elim
end
end Py

set_option Elab.async false
set_option linter.all false
set_option maxRecDepth 100000
set_option maxHeartbeats 4000000
/-! Soundness, by values: comparisons, truth, items, slices. -/
namespace Py
open PySem PySem.Spec PyProof.Rows L2
section
variable {M : Mo} {X : Cx} (hX : XOf M X)
include hX
theorem XOf.u64 : X.A.units + 64 < cLine := by have := hX.un; omega
theorem XOf.u65 : X.A.units + 65 < cLine := by have := hX.un; omega
theorem XOf.u1 : X.A.units + 1 < cLine := by have := hX.un; omega
theorem snd_eq : OpR X (compareOp .Eq) (lift2 M (copR .eq)) := by
  intro pins s σ H x y v u Q I rx ry h
  obtain ⟨a, b, st, ra, rb, rs, d, e, h1, h2, h3, h4, k⟩ := h
  exact op_eqD hX.u64 pins s σ H _ _ v u Q I rx ry ⟨d, e, by rw [hX.K]; exact h1.ok rs ra, by rw [hX.K]; exact h2.ok rs rb, h3, h4, QL.here k rs (.bl _)⟩
theorem snd_ne : OpR X (compareOp .NotEq) (lift2 M (copR .ne)) := by
  intro pins s σ H x y v u Q I rx ry h
  obtain ⟨a, b, st, ra, rb, rs, d, e, h1, h2, h3, h4, k⟩ := h
  exact op_neD hX.u64 pins s σ H _ _ v u Q I rx ry ⟨d, e, by rw [hX.K]; exact h1.ok rs ra, by rw [hX.K]; exact h2.ok rs rb, h3, h4, QL.here k rs (.bl _)⟩
theorem snd_lt : OpR X (compareOp .Lt) (lift2 M (copR .lt)) := by
  intro pins s σ H x y v u Q I rx ry h
  obtain ⟨a, b, st, ra, rb, rs, k⟩ := h
  unfold copR at k
  dsimp only at k
  split at k
  · cases ra; cases rb
    exact op_lt pins s σ H _ _ v u Q I rx ry ⟨_, _, rfl, rfl, k.here rs (.bl _)⟩
  · cases ra; cases rb
    exact op_lt_str pins s σ H _ _ v u Q I rx ry ⟨_, _, rfl, rfl, k.here rs (.bl _)⟩
  · exact k.elim
theorem snd_le : OpR X (compareOp .LtE) (lift2 M (copR .le)) := by
  intro pins s σ H x y v u Q I rx ry h
  obtain ⟨a, b, st, ra, rb, rs, k⟩ := h
  unfold copR at k
  dsimp only at k
  split at k
  · cases ra; cases rb
    exact op_le pins s σ H _ _ v u Q I rx ry ⟨_, _, rfl, rfl, k.here rs (.bl _)⟩
  · cases ra; cases rb
    exact op_le_str pins s σ H _ _ v u Q I rx ry ⟨_, _, rfl, rfl, k.here rs (.bl _)⟩
  · exact k.elim
theorem snd_gt : OpR X (compareOp .Gt) (lift2 M (copR .gt)) := by
  intro pins s σ H x y v u Q I rx ry h
  obtain ⟨a, b, st, ra, rb, rs, k⟩ := h
  unfold copR at k
  dsimp only at k
  split at k
  · cases ra; cases rb
    exact op_gt pins s σ H _ _ v u Q I rx ry ⟨_, _, rfl, rfl, k.here rs (.bl _)⟩
  · cases ra; cases rb
    exact op_gt_str pins s σ H _ _ v u Q I rx ry ⟨_, _, rfl, rfl, k.here rs (.bl _)⟩
  · exact k.elim
theorem snd_ge : OpR X (compareOp .GtE) (lift2 M (copR .ge)) := by
  intro pins s σ H x y v u Q I rx ry h
  obtain ⟨a, b, st, ra, rb, rs, k⟩ := h
  unfold copR at k
  dsimp only at k
  split at k
  · cases ra; cases rb
    exact op_ge pins s σ H _ _ v u Q I rx ry ⟨_, _, rfl, rfl, k.here rs (.bl _)⟩
  · exact k.elim
theorem rep_non {H : Hp} {d : D} {v : V} (r : M.Rep H d v) : decide (v = .non) = (match d with | .non => true | _ => false) := by
  cases r <;> simp
theorem snd_is : OpR X (compareOp .Is) (lift2 M (copR .is)) := by
  intro pins s σ H x y v u Q I rx ry h
  obtain ⟨a, b, st, ra, rb, rs, k⟩ := h
  unfold copR at k
  dsimp only at k
  split at k
  · cases rb
    refine op_isN pins s σ H _ _ v u Q I rx ry ⟨rfl, ?_⟩
    rw [rep_non hX ra]
    split at k
    · exact k.here rs (.bl _)
    · split
      · exact absurd rfl (by assumption)
      · exact k.here rs (.bl _)
  · exact k.elim
theorem snd_isnot : OpR X (compareOp .IsNot) (lift2 M (copR .isnot)) := by
  intro pins s σ H x y v u Q I rx ry h
  obtain ⟨a, b, st, ra, rb, rs, k⟩ := h
  unfold copR at k
  dsimp only at k
  split at k
  · cases rb
    refine op_notN pins s σ H _ _ v u Q I rx ry ⟨rfl, ?_⟩
    rw [rep_non hX ra]
    split at k
    · exact k.here rs (.bl _)
    · split
      · exact absurd rfl (by assumption)
      · exact k.here rs (.bl _)
  · exact k.elim
end
/-! dicts -/
section
variable {M : Mo} {H : Hp} {st : Sto}
theorem kreps_val : ∀ {kvs : List (Key × D)} {vs : List (Key × V)}, KReps M H kvs vs → ∀ k : Key, (∀ d, valD kvs k = some d → ∃ v, valV vs k = some v ∧ M.Rep H d v) ∧ (valD kvs k = none → valV vs k = none)
  | _, _, .nil, k => ⟨fun d h => by simp [valD] at h, fun _ => rfl⟩
  | p :: r, q :: t, .cons h rr, k => by
    obtain ⟨i1, i2⟩ := kreps_val rr k
    obtain ⟨e, rv⟩ := h
    by_cases hk : p.1 = k
    · have a1 : valD (p :: r) k = some p.2 := by unfold valD; rw [List.find?_cons_of_pos (by simpa using hk)]; rfl
      have a2 : valV (q :: t) k = some q.2 := valV_pos (e ▸ hk)
      rw [a1, a2]
      exact ⟨fun d hd => ⟨_, rfl, by cases hd; exact rv⟩, fun z => by cases z⟩
    · have a1 : valD (p :: r) k = valD r k := by unfold valD; rw [List.find?_cons_of_neg (by simpa using hk)]
      have a2 : valV (q :: t) k = valV t k := valV_neg (fun z => hk (e.trans z))
      rw [a1, a2]
      exact ⟨i1, i2⟩
theorem kreps_some {kvs : List (Key × D)} {vs : List (Key × V)} (r : KReps M H kvs vs) (k : Key) : (valD kvs k).isSome = (valV vs k).isSome := by
  obtain ⟨h1, h2⟩ := kreps_val r k
  cases e : valD kvs k with
  | none => rw [h2 e]; rfl
  | some d => obtain ⟨v, h, _⟩ := h1 d e; rw [h]; rfl
theorem kreps_put {kvs : List (Key × D)} {vs : List (Key × V)} (r : KReps M H kvs vs) (k : Key) {d : D} {v : V} (h : M.Rep H d v) : KReps M H (putD kvs k d) (putK vs k v) := by
  have any_eq : ∀ {kvs : List (Key × D)} {vs : List (Key × V)}, KReps M H kvs vs → (kvs.any fun kv => decide (kv.1 = k)) = (vs.any fun kv => decide (kv.1 = k)) := by
    intro kvs vs r
    induction r with
    | nil => rfl
    | cons h _ ih => rw [List.any_cons, List.any_cons, ih, h.1]
  unfold putD putK
  rw [any_eq r]
  split
  · induction r with
    | nil => exact .nil
    | cons hh _ ih =>
      rw [List.map_cons, List.map_cons]
      refine .cons ?_ ?_
      · first | dsimp only | skip
        rw [← hh.1]
        split
        · exact ⟨rfl, h⟩
        · exact ⟨hh.1, hh.2⟩
      · rename_i a b l1 l2 _ _
        clear ih hh
        have : ∀ {kvs : List (Key × D)} {vs : List (Key × V)}, KReps M H kvs vs → KReps M H (kvs.map fun kv => if kv.1 = k then (kv.1, d) else kv) (vs.map fun kv => if kv.1 = k then (kv.1, v) else kv) := by
          intro kvs vs r
          induction r with
          | nil => exact .nil
          | cons hh _ ih =>
            refine .cons ?_ ih
            first | dsimp only | skip
            rw [← hh.1]
            split
            · exact ⟨rfl, h⟩
            · exact ⟨hh.1, hh.2⟩
        exact this (by assumption)
  · have : ∀ {kvs : List (Key × D)} {vs : List (Key × V)}, KReps M H kvs vs → KReps M H (kvs ++ [(k, d)]) (vs ++ [(k, v)]) := by
      intro kvs vs r
      induction r with
      | nil => exact .cons ⟨rfl, h⟩ .nil
      | cons hh _ ih => exact .cons hh ih
    exact this r
theorem kreps_zip : ∀ {ks : List Key} {ds : List D} {vs : List V}, ks.length = ds.length → M.Reps H ds vs → KReps M H (ks.zip ds) (ks.zip vs)
  | [], _, _, _, _ => .nil
  | _ :: _, _, _, e, .nil => by simp at e
  | k :: ks, _, _, e, .cons h r => .cons ⟨rfl, h⟩ (kreps_zip (by simpa using e) r)
theorem rdD_ok {d : D} {kvs : List (Key × D)} {v : V} (r : RelS M st H) (h : M.Rep H d v) (e : rdD st d = some kvs) : ∃ b vs, v = .ref b ∧ Rd H b (.dK vs) ∧ KReps M H kvs vs ∧ kvs.length ≤ sizeLine := by
  cases h with
  | ref b =>
    unfold rdD at e
    dsimp only at e
    split at e
    · rename_i q
      cases e
      obtain ⟨z, vs, h1, h2⟩ := r.1 b _ q
      exact ⟨b, vs, rfl, .inl h1, h2, z⟩
    · cases e
  | kd z e2 h1 rr =>
    cases e
    refine ⟨_, _, rfl, .inr ⟨_, h1⟩, kreps_zip e2 rr, ?_⟩
    rw [List.length_zip]
    exact Nat.le_trans (Nat.min_le_left _ _) z
  | _ => cases e
theorem keyOf_ok {d : D} {k : Key} {v : V} (h : M.Rep H d v) (e : keyOf d = some k) : v = kV k := by
  cases h <;> (unfold keyOf at e; cases e) <;> rfl
end
section
variable {M : Mo} {X : Cx} (hX : XOf M X)
include hX
theorem snd_mem (neg : Bool) : OpR X (compareOp (if neg then .NotIn else .In)) (lift2 M (memR neg)) := by
  intro pins s σ H x y v u Q I rx ry h
  obtain ⟨a, b, st, ra, rb, rs, k⟩ := h
  have dict : ∀ kvs, rdD st b = some kvs → (∃ k, keyOf a = some k ∧ (QL M st H Q) (.bl (neg ^^ (valD kvs k).isSome)) st) → wpAny (model X.prog X.w) X.A (compareOp (if neg then .NotIn else .In) v u) (EP X pins σ Q) X.xe s := by
    rintro kvs e ⟨k, ek, k2⟩
    obtain ⟨c, vs, rfl, rd, kr, _⟩ := rdD_ok rs rb e
    have ea := keyOf_ok ra ek
    subst ea
    have g : DGet H c (kV k) (valV vs k) := .inl ⟨vs, k, rd, rfl, rfl⟩
    obtain rfl : u = Value.ref c := ry
    rw [kreps_some kr k] at k2
    cases neg with
    | true => exact d_notIn hX.u1 I g rx fun s3 I3 => ⟨.bl _, H, I3, rfl, by have := QL.here k2 rs (.bl _); simpa using this⟩
    | false => exact d_in hX.u1 I g rx fun s3 I3 => ⟨.bl _, H, I3, rfl, by have := QL.here k2 rs (.bl _); simpa using this⟩
  have lst : (∃ ys d ds, rdL st b = some ys ∧ Dt st a d ∧ Dts st ys ds ∧ SeqAt.shaped d = true ∧ SeqAt.shaped (.list ds) = true ∧ (QL M st H Q) (.bl (neg ^^ ds.any fun z => PyData.eqv z d)) st) → wpAny (model X.prog X.w) X.A (compareOp (if neg then .NotIn else .In) v u) (EP X pins σ Q) X.xe s := by
    rintro ⟨ys, d, ds, e, hd, hds, s1, s2, k2⟩
    obtain ⟨c, vs, rfl, sq, rr, _⟩ := rdL_ok rs rb e
    have h1 := hd.ok rs ra
    have h2 : Dp M.K H (.ref c) (.list ds) := .lst sq (hds.ok rs rr)
    cases neg with
    | true => exact op_notInD hX.u65 pins s σ H _ _ v u Q I rx ry ⟨d, ds, by rw [hX.K]; exact h1, by rw [hX.K]; exact h2, s1, s2, by have := QL.here k2 rs (.bl _); simpa using this⟩
    | false => exact op_inD hX.u65 pins s σ H _ _ v u Q I rx ry ⟨d, ds, by rw [hX.K]; exact h1, by rw [hX.K]; exact h2, s1, s2, by have := QL.here k2 rs (.bl _); simpa using this⟩
  unfold memR at k
  cases b with
  | str z =>
    obtain ⟨c, rfl, k⟩ := k
    cases ra; cases rb
    cases neg with
    | true => exact op_notIn_sign pins s σ H _ _ v u Q I rx ry ⟨c, z, rfl, rfl, by have := QL.here k rs (.bl _); simpa using this⟩
    | false => exact op_in_sign pins s σ H _ _ v u Q I rx ry ⟨c, z, rfl, rfl, by have := QL.here k rs (.bl _); simpa using this⟩
  | tup ys =>
    obtain ⟨c, vs, rfl, _, sq, rr⟩ := rb.tup_inv
    obtain ⟨d, ds, hd, hds, s1, s2, k2⟩ := k
    have h1 : Dp X.K H x d := by rw [hX.K]; exact hd.ok rs ra
    have h2 : Dp X.K H (.ref c) (.tuple ds) := by rw [hX.K]; exact .tup sq (hds.ok rs rr)
    obtain ⟨as, r1⟩ := Dp.reads I d _ v h1 rx
    obtain ⟨bs, r2⟩ := Dp.reads I (.tuple ds) _ u h2 ry
    have q := QL.here k2 rs (.bl _)
    cases neg with
    | true => exact SeqAt.notIn_tuple_reads r2 r1 (SeqAt.canLay_of_shaped s2) (SeqAt.canLay_of_shaped s1) (room_in_shaped s1 hX.u65) ⟨.bl _, H, I, rfl, by simpa using q⟩
    | false => exact SeqAt.in_tuple_reads r2 r1 (SeqAt.canLay_of_shaped s2) (SeqAt.canLay_of_shaped s1) (room_in_shaped s1 hX.u65) ⟨.bl _, H, I, rfl, by simpa using q⟩
  | ref c =>
    dsimp only at k
    split at k
    · exact dict _ (by assumption) k
    · exact lst k
  | kl c =>
    dsimp only at k
    split at k
    · exact dict _ (by assumption) k
    · exact lst k
  | _ => dsimp only at k; split at k; exact dict _ (by assumption) k; exact lst k

/-- truth -/
theorem snd_tru : TruR X (fun x H Q => ∃ a st, M.Rep H a x ∧ RelS M st H ∧ truR a st (QLb M st H Q)) := by
  intro pins s σ H x v Q I rx h
  obtain ⟨a, st, ra, rs, k⟩ := h
  have go : ∀ b, TruV X.K x H b → Q b H → wpAny (model X.prog X.w) X.A (truthy v) (TP X pins σ Q) X.xe s := fun b hb q => tru_ok pins s σ H x v Q I rx ⟨b, hb, q⟩
  have here : ∀ {b : Bool}, QLb M st H Q b st → Q b H := fun q => q H .refl rs
  unfold truR at k
  cases ra with
  | non => exact go false rfl (here k)
  | bl b => exact go b rfl (here k)
  | int i => exact go _ rfl (here k)
  | str y =>
    refine go _ ⟨k.1, ?_⟩ (here k.2)
    rw [bne, bne, Bool.beq_eq_decide_eq, Bool.beq_eq_decide_eq]
    congr 1
    exact decide_eq_decide.mpr (by omega)
  | tup z sq rr =>
    refine go _ (.inr (.inl ⟨_, by rw [hX.K]; exact sq, rfl⟩)) ?_
    have := here k
    rw [show (!(List.isEmpty _)) = _ from rfl] at this
    cases rr <;> exact this
  | ref p =>
    obtain ⟨xs, e, k⟩ := k
    obtain ⟨b, vs, eb, sq, rr, _⟩ := rdL_ok rs (.ref p) e
    cases eb
    refine go _ (.inl ⟨_, by rw [hX.K]; exact sq, rfl⟩) ?_
    have := here k
    cases rr <;> exact this
  | kl z sq rr =>
    obtain ⟨xs, e, k⟩ := k
    cases e
    refine go _ (.inl ⟨_, .inl (.inr ⟨_, sq⟩), rfl⟩) ?_
    have := here k
    cases rr <;> exact this
  | sl z sq rr =>
    obtain ⟨xs, e, k⟩ := k
    cases e
    refine go _ (.inl ⟨_, by rw [hX.K]; exact sq.sq, rfl⟩) ?_
    have := here k
    cases rr <;> exact this
  | _ => obtain ⟨xs, e, k⟩ := k; cases e
theorem ixN_len {n m : Nat} (h : n = m) (i : Int) : ixN n i = ixN m i := by rw [h]
theorem atI_ok {H : Hp} {ds : List D} {vs : List V} (r : M.Reps H ds vs) {i : Int} {d : D} (e : atI ds i = some d) : ∃ v, atI vs i = some v ∧ M.Rep H d v := by
  unfold atI at e ⊢
  rw [← r.length]
  cases h : ixN ds.length i with
  | none => rw [h] at e; cases e
  | some j => rw [h] at e; exact r.get e
/-- o[i] -/
theorem snd_idx : IxR X (lift2 M idxR) := by
  intro value slice pins s σ H x y v u Q I rx ry h hs
  obtain ⟨a, b, st, ra, rb, rs, k⟩ := h
  have lst : (∃ xs k d, rdL st a = some xs ∧ b = .int k ∧ atI xs k = some d ∧ QL M st H Q d st) → wpAny (model X.prog X.w) X.A (subscriptTail value slice v u) (EP X pins σ Q) X.xe s := by
    rintro ⟨xs, i, d, e, rfl, ei, q⟩
    obtain ⟨c, vs, rfl, sq, rr, _⟩ := rdL_ok rs ra e
    obtain ⟨w, e1, rw1⟩ := atI_ok hX rr ei
    cases rb
    exact ix_list value slice pins s σ H _ _ v u Q I rx ry ⟨c, vs, i, w, rfl, rfl, by rw [hX.K]; exact sq, e1, QL.here q rs rw1⟩ hs
  have dict : ∀ kvs, rdD st a = some kvs → (∃ k d, keyOf b = some k ∧ valD kvs k = some d ∧ QL M st H Q d st) → wpAny (model X.prog X.w) X.A (subscriptTail value slice v u) (EP X pins σ Q) X.xe s := by
    rintro kvs e ⟨k, d, ek, ed, q⟩
    obtain ⟨c, vs, rfl, rd, kr, _⟩ := rdD_ok rs ra e
    have ey := keyOf_ok rb ek
    subst ey
    obtain ⟨w, e1, rw1⟩ := (kreps_val kr k).1 d ed
    have g : DGet H c (kV k) (some w) := .inl ⟨vs, k, rd, rfl, e1.symm⟩
    obtain rfl : v = Value.ref c := rx
    exact tail_any (dict_typeIs I g) PySem.F.slot_dict_getitem.lookup (d_getItem hX.u1 I g ry fun w' s3 I3 rw' => ⟨w, H, I3, rw', QL.here q rs rw1⟩) hs
  unfold idxR at k
  cases a with
  | str z =>
    obtain ⟨i, c, rfl, z1, e, q⟩ := k
    cases ra; cases rb
    exact ix_str value slice pins s σ H _ _ v u Q I rx ry ⟨z, i, c, rfl, rfl, z1, e, QL.here q rs (.str _)⟩ hs
  | tup xs =>
    obtain ⟨i, d, rfl, e, q⟩ := k
    obtain ⟨c, vs, rfl, _, sq, rr⟩ := ra.tup_inv
    obtain ⟨w, e1, rw1⟩ := atI_ok hX rr e
    cases rb
    exact ix_tup value slice pins s σ H _ _ v u Q I rx ry ⟨c, vs, i, w, rfl, rfl, by rw [hX.K]; exact sq, e1, QL.here q rs rw1⟩ hs
  | ref c => dsimp only at k; split at k; exact dict _ (by assumption) k; exact lst k
  | kl c => dsimp only at k; split at k; exact dict _ (by assumption) k; exact lst k
  | _ => dsimp only at k; split at k; exact dict _ (by assumption) k; exact lst k
theorem cut_ok {H : Hp} {ds : List D} {vs : List V} (r : M.Reps H ds vs) (lo hi : Option Int) : M.Reps H (cutD ds lo hi) (cutV vs lo hi) := by
  unfold cutD cutV
  rw [← r.length]
  exact (r.drop _).take _
/-- o[lo:hi] -/
theorem snd_slc : SlR X (fun x lo hi H Q => ∃ a st, M.Rep H a x ∧ RelS M st H ∧ slcR a lo hi st (QL M st H Q)) := by
  intro pins s σ H x v vl vu lo hi sl Q I rx hs pl pu h
  obtain ⟨a, st, ra, rs, k⟩ := h
  have lst : (∃ xs, rdL st a = some xs ∧ newL (cutD xs lo hi) st (QL M st H Q)) → ∃ T id, typeLookup (.type T) "__getitem__" = pure (some (.builtin id)) ∧ s.TypeIs v T ∧ wpAny (model X.prog X.w) X.A (getItem v (.ref sl)) (EP X pins σ Q) X.xe s := by
    rintro ⟨xs, e, q⟩
    obtain ⟨c, vs, rfl, sq, rr, _⟩ := rdL_ok rs ra e
    exact sl_list pins s σ H _ v vl vu lo hi sl Q I rx hs pl pu ⟨c, vs, rfl, by rw [hX.K]; exact sq, newL_ok rs q (cut_ok hX rr lo hi)⟩
  unfold slcR at k
  cases a with
  | str z => cases ra; exact sl_str pins s σ H _ v vl vu lo hi sl Q I rx hs pl pu ⟨z, rfl, k.1, QL.here k.2 rs (.str _)⟩
  | tup xs =>
    obtain ⟨c, vs, rfl, z1, sq, rr⟩ := ra.tup_inv
    have zc : (cutD xs lo hi).length ≤ sizeLine := Nat.le_trans (by unfold cutD; rw [List.length_take, List.length_drop]; omega) z1
    refine sl_tupA pins s σ H _ v vl vu lo hi sl Q I rx hs pl pu ⟨c, vs, rfl, by rw [hX.K]; exact sq, fun e => ?_, fun _ => newT_ok rs ⟨zc, k⟩ (cut_ok hX rr lo hi)⟩
    have e2 : cutD xs lo hi = xs := by
      unfold cutD
      rw [rr.length, e.1, e.2, List.drop_zero, Nat.sub_zero, ← rr.length, List.take_length]
    have k2 : QL M st H Q (.tup (cutD xs lo hi)) st := k
    rw [e2] at k2
    exact QL.here k2 rs ra
  | _ => exact lst k
end
end Py

set_option Elab.async false
set_option linter.all false
set_option maxRecDepth 100000
set_option maxHeartbeats 4000000
/-! Soundness, by values: built-in functions and methods. -/
namespace Py
open PySem PySem.Spec PyProof.Rows L2
section
variable {M : Mo} {X : Cx}
theorem allB_ok {H : Hp} : ∀ {ds : List D} {vs : List V} {bs : List Bool}, M.Reps H ds vs → allB ds = some bs → vs = bs.map V.bl
  | _, _, bs, .nil, e => by cases e; rfl
  | d :: ds, v :: vs, bs, .cons h r, e => by
    cases h with
    | bl b =>
      unfold allB at e
      cases q : allB ds with
      | none => rw [q] at e; cases e
      | some cs =>
        rw [q] at e
        cases e
        rw [List.map_cons, allB_ok r q]
    | _ => cases e
theorem rd_tyx {st : Sto} {H : Hp} {d : D} {v : V} {n : String} (rs : RelS M st H) (h : M.Rep H d v) (e : tyN st d = some n) : TyX M.K H v (.type n) := by
  cases h with
  | non => cases e; exact .base .non
  | bl b => cases e; exact .base (.bl b)
  | int b => cases e; exact .base (.int b)
  | str b => cases e; exact .base (.str b)
  | ty b => cases e
  | glo b => cases e
  | tup z s r =>
    cases e
    rcases s with (s | ⟨o, s⟩) | ⟨o, its, m, k1, k2, _⟩
    · exact .base (.tup s)
    · exact .fTuple s
    · exact .kTuple k1 k2
  | kl z s r =>
    cases e
    exact .base (.frz s)
  | sl z s r =>
    cases e
    rcases s with ⟨o, s⟩ | ⟨o, its, m, k1, k2, _⟩
    · exact .base (.frz s)
    · exact .kList k1 k2
  | kd z e2 s r =>
    cases e
    exact .fDict s
  | ob => cases e
  | ref a =>
    unfold tyN at e
    dsimp only at e
    split at e
    · rename_i q; cases e
      obtain ⟨_, vs, h1, _⟩ := rs.1 a _ q
      exact .base (.lst h1)
    · rename_i q; cases e
      obtain ⟨_, vs, h1, _⟩ := rs.1 a _ q
      exact .base (.dK h1)
    · cases e
end
section
variable {M : Mo} {X : Cx} (hX : XOf M X)
include hX
theorem snd_len : CallR X (.builtin "len") (liftN M (bltR .len)) := by
  intro pins s σ H xs us Q I r h
  obtain ⟨ds, st, rr, rs, k⟩ := h
  unfold bltR at k
  split at k <;> first | cases (by assumption : Bf.len = _) | skip
  · obtain ⟨v, rfl, rv⟩ := rr.one
    cases rv
    exact call_len pins s σ H _ us Q I r ⟨_, _, rfl, ⟨k.1, rfl⟩, QL.here k.2 rs (.int _)⟩
  · obtain ⟨v, rfl, rv⟩ := rr.one
    obtain ⟨c, vs, rfl, _, sq, r2⟩ := rv.tup_inv
    exact call_len pins s σ H _ us Q I r ⟨_, _, rfl, .inr ⟨vs, by rw [hX.K]; exact sq, rfl⟩, by rw [← r2.length]; exact QL.here k rs (.int _)⟩
  · obtain ⟨v, rfl, rv⟩ := rr.one
    obtain ⟨c, vs, rfl, sq, r2, _⟩ := rdL_ok rs rv rfl
    exact call_len pins s σ H _ us Q I r ⟨_, _, rfl, .inl ⟨vs, by rw [hX.K]; exact sq, rfl⟩, by rw [← r2.length]; exact QL.here k rs (.int _)⟩
  · obtain ⟨v, rfl, rv⟩ := rr.one
    obtain ⟨c, vs, rfl, sq, r2, _⟩ := rdL_ok rs rv rfl
    exact call_len pins s σ H _ us Q I r ⟨_, _, rfl, .inl ⟨vs, by rw [hX.K]; exact sq, rfl⟩, by rw [← r2.length]; exact QL.here k rs (.int _)⟩
  · obtain ⟨v, rfl, rv⟩ := rr.one
    obtain ⟨u, rfl, ru⟩ := vals1 r
    cases rv with
    | kd z e2 h1 r2 =>
      rename_i ks _ a o vs
      cases ru
      have kk := QL.here k rs (.int _)
      have hl : (ks.zip vs).length = ks.length := by rw [List.length_zip, ← r2.length, ← e2]; exact Nat.min_self _
      exact d_len I (.inr ⟨o, h1⟩) fun t s' I' => ⟨.int ks.length, H, I', ⟨t, by rw [hl]⟩, kk⟩
  · obtain ⟨v, rfl, rv⟩ := rr.one
    cases rv
    split at k
    · rename_i q
      obtain ⟨_, vs, h1, r2⟩ := rs.1 _ _ q
      exact call_len pins s σ H _ us Q I r ⟨_, _, rfl, .inl ⟨vs, .inl (.inl h1), rfl⟩, by rw [← r2.length]; exact QL.here k rs (.int _)⟩
    · rename_i q
      obtain ⟨_, vs, h1, r2⟩ := rs.1 _ _ q
      obtain ⟨u, rfl, ru⟩ := vals1 r
      cases ru
      have len : ∀ {kvs : List (Key × D)} {vs : List (Key × V)}, KReps M H kvs vs → kvs.length = vs.length := by
        intro kvs vs r
        induction r with
        | nil => rfl
        | cons _ _ ih => simp [ih]
      have kk := QL.here k rs (.int _)
      rw [len r2] at kk
      exact d_len I (.inl h1) fun t s' I' => ⟨.int vs.length, H, I', ⟨t, rfl⟩, kk⟩
    · rename_i ks q
      obtain ⟨nd, h1⟩ := rs.1 _ _ q
      obtain ⟨u, rfl, ru⟩ := vals1 r
      cases ru
      obtain ⟨⟨ob, es, ep, t, ho, hex, hd, hg, hnd, hm, hb, hf, hn, _⟩, _⟩ := I.hok _ _ h1
      have kk := QL.here k rs (.int _)
      have sb : scanBound < 2 ^ 63 := by decide
      exact PySem.call_len_set ho hex hd hf (by omega) ⟨.int ks.length, H, I.tok _, ⟨_, by rw [hn]⟩, kk⟩
    · exact k.elim
  · exact k.elim
theorem snd_abs : CallR X (.builtin "abs") (liftN M (bltR .abs)) := by
  intro pins s σ H xs us Q I r h
  obtain ⟨ds, st, rr, rs, k⟩ := h
  unfold bltR at k
  split at k <;> first | cases (by assumption : Bf.abs = _) | skip
  · obtain ⟨v, rfl, rv⟩ := rr.one
    cases rv
    exact call_abs pins s σ H _ us Q I r ⟨_, rfl, QL.here k rs (.int _)⟩
  · exact k.elim
theorem snd_int : CallR X (.type "int") (liftN M (bltR .int)) := by
  intro pins s σ H xs us Q I r h
  obtain ⟨ds, st, rr, rs, k⟩ := h
  unfold bltR at k
  split at k <;> first | cases (by assumption : Bf.int = _) | skip
  · obtain ⟨v, rfl, rv⟩ := rr.one
    cases rv
    exact call_int1 pins s σ H _ us Q I r (.inl ⟨_, rfl, QL.here k rs (.int _)⟩)
  · obtain ⟨v, rfl, rv⟩ := rr.one
    cases rv
    exact call_int1 pins s σ H _ us Q I r (.inr ⟨_, rfl, QL.here k rs (.int _)⟩)
  · obtain ⟨v, rfl, rv⟩ := rr.one
    cases rv
    obtain ⟨n, h1, h2, k⟩ := k
    exact call_int_str pins s σ H _ us Q I r ⟨_, n, rfl, h1, h2, QL.here k rs (.int _)⟩
  · exact k.elim
theorem snd_str : CallR X (.type "str") (liftN M (bltR .str)) := by
  intro pins s σ H xs us Q I r h
  obtain ⟨ds, st, rr, rs, k⟩ := h
  unfold bltR at k
  split at k <;> first | cases (by assumption : Bf.str = _) | skip
  · obtain ⟨v, rfl, rv⟩ := rr.one
    cases rv
    exact call_str_int pins s σ H _ us Q I r ⟨_, rfl, k.1, QL.here k.2 rs (.str _)⟩
  · exact k.elim
theorem snd_all : CallR X (.builtin "all") (liftN M (bltR .all)) := by
  intro pins s σ H xs us Q I r h
  obtain ⟨ds, st, rr, rs, k⟩ := h
  unfold bltR at k
  split at k <;> first | cases (by assumption : Bf.all = _) | skip
  · obtain ⟨v, rfl, rv⟩ := rr.one
    obtain ⟨xs, bs, e1, e2, k⟩ := k
    obtain ⟨c, vs, rfl, sq, r2, _⟩ := rdL_ok rs rv e1
    have e := allB_ok r2 e2
    subst e
    exact cr_all hX.calm pins s σ H _ us Q I r ⟨c, bs, rfl, by rw [hX.K]; exact sq, QL.here k rs (.bl _)⟩
  · exact k.elim
theorem snd_any : CallR X (.builtin "any") (liftN M (bltR .any)) := by
  intro pins s σ H xs us Q I r h
  obtain ⟨ds, st, rr, rs, k⟩ := h
  unfold bltR at k
  split at k <;> first | cases (by assumption : Bf.any = _) | skip
  · obtain ⟨v, rfl, rv⟩ := rr.one
    obtain ⟨xs, bs, e1, e2, k⟩ := k
    obtain ⟨c, vs, rfl, sq, r2, _⟩ := rdL_ok rs rv e1
    have e := allB_ok r2 e2
    subst e
    exact cr_any hX.calm pins s σ H _ us Q I r ⟨c, bs, rfl, by rw [hX.K]; exact sq, QL.here k rs (.bl _)⟩
  · exact k.elim
theorem snd_tuple : CallR X (.type "tuple") (liftN M (bltR .tuple)) := by
  intro pins s σ H xs us Q I r h
  obtain ⟨ds, st, rr, rs, k⟩ := h
  unfold bltR at k
  split at k <;> first | cases (by assumption : Bf.tuple = _) | skip
  · obtain ⟨v, rfl, rv⟩ := rr.one
    obtain ⟨c, vs, rfl, _, sq, r2⟩ := rv.tup_inv
    exact call_tuple_of pins s σ H _ us Q I r ⟨c, vs, rfl, .inr ⟨by rw [hX.K]; exact sq, QL.here k rs rv⟩⟩
  · obtain ⟨v, rfl, rv⟩ := rr.one
    obtain ⟨xs, e1, k⟩ := k
    obtain ⟨c, vs, rfl, sq, r2, _⟩ := rdL_ok rs rv e1
    exact call_tuple_of pins s σ H _ us Q I r ⟨c, vs, rfl, .inl ⟨by rw [hX.K]; exact sq, newT_ok rs k r2⟩⟩
  · exact k.elim
theorem snd_min : CallR X (.builtin "min") (liftN M (bltR .min)) := by
  intro pins s σ H xs us Q I r h
  obtain ⟨ds, st, rr, rs, k⟩ := h
  unfold bltR at k
  split at k <;> first | cases (by assumption : Bf.min = _) | skip
  · obtain ⟨v, w, rfl, rv, rw1⟩ := rr.two
    cases rv; cases rw1
    exact call_min2 hX.calm pins s σ H _ us Q I r ⟨_, _, rfl, QL.here k rs (.int _)⟩
  · exact k.elim
theorem snd_max : CallR X (.builtin "max") (liftN M (bltR .max)) := by
  intro pins s σ H xs us Q I r h
  obtain ⟨ds, st, rr, rs, k⟩ := h
  unfold bltR at k
  split at k <;> first | cases (by assumption : Bf.max = _) | skip
  · obtain ⟨v, w, rfl, rv, rw1⟩ := rr.two
    cases rv; cases rw1
    exact call_max2 hX.calm pins s σ H _ us Q I r ⟨_, _, rfl, QL.here k rs (.int _)⟩
  · exact k.elim
theorem snd_isinstance : CallR X (.builtin "isinstance") (liftN M (bltR .isinstance)) := by
  intro pins s σ H xs us Q I r h
  obtain ⟨ds, st, rr, rs, k⟩ := h
  unfold bltR at k
  split at k <;> first | cases (by assumption : Bf.isinstance = _) | skip
  · rename_i d n
    obtain ⟨v, w, rfl, rv, rw1⟩ := rr.two
    cases rw1
    obtain ⟨b, e, k⟩ := k
    unfold isiB at e
    obtain ⟨t, e1, e2⟩ := Option.bind_eq_some_iff.mp e
    exact call_isi pins s σ H _ us Q I r ⟨v, .ty n, .type t, .type n, b, rfl, .ty n, by rw [hX.K]; exact rd_tyx rs rv e1, kit_ty e2, QL.here k rs (.bl _)⟩
  · rename_i d n m
    obtain ⟨v, w, rfl, rv, rw1⟩ := rr.two
    obtain ⟨c, vs, rfl, _, sq, r2⟩ := rw1.tup_inv
    obtain ⟨x, y, rfl, rx, ry⟩ := r2.two
    cases rx; cases ry
    obtain ⟨b, b', e, e', k⟩ := k
    unfold isiB at e e'
    obtain ⟨t, e1, e2⟩ := Option.bind_eq_some_iff.mp e
    obtain ⟨t', e1', e2'⟩ := Option.bind_eq_some_iff.mp e'
    rw [e1] at e1'; cases e1'
    have ty : TyX X.K H v (.type t) := by rw [hX.K]; exact rd_tyx rs rv e1
    obtain ⟨u1, u2, rfl, r1, r2⟩ := vals2 r
    cases (show u2 = Value.ref c from r2)
    obtain ⟨P, Z, p, hx⟩ := kit_of I r1 ty
    obtain ⟨its, rv', ⟨o, h1, h2, n', h3⟩, _⟩ := I.tuple (show SqT X.K H c _ by rw [hX.K]; exact sq)
    have e3 : its = [.type n, .type m] := ClsV.all (.cons (.ty n) (.cons (.ty m) .nil)) rv'
    subst e3
    obtain ⟨oc, od, dt, sl⟩ := o
    simp only at h2 h3
    subst h2 h3
    refine PySem.W.kia_tup (b := (b || b')) Z I.kIn p h1 ?_ hx fun tk => ⟨.bl _, H, I.tok tk, rfl, QL.here k rs (.bl _)⟩
    exact kitAny_cons (kit_ty e2) (fun hb => kitAny_cons (kit_ty e2') (fun hb' => by rw [kitAny_nil, hb, hb']; rfl) fun hb' => by rw [hb']; simp) fun hb => by rw [hb]; rfl
  · exact k.elim
def rListR : List V → Hp → VK → Prop := fun xs H Q => ∃ p kvs, xs = [.ref p] ∧ Rd H p (.dK kvs) ∧ ∀ q, H q = none → Q (.ref q) (upd H q (.lst (kvs.map fun kv => kV kv.1)))
omit hX in
/-- list of a dict, known or not -/
theorem call_listR (hc : X.calm = true) : CallR X (.type "list") rListR := by
  intro pins s σ H xs us Q I r h
  obtain ⟨p, kvs, rfl, hk, q⟩ := h
  obtain ⟨u, rfl, rx⟩ := vals1 r
  cases rx
  obtain ⟨z, lo, vs, rk, hd⟩ := (show ObjOk X.prog X.w H s.heap p (.dK kvs) from hk.ok I.hok)
  obtain ⟨ep, at_⟩ := hd.dictAt
  have hl : kvs.length = vs.length := Paired.length rk
  refine PySem.W.kdl_call (PySem.W.kdl_dict (knd := mixKind X.prog X.w) (kvs := vs) (ep := ep) lo) (I.ok.hd hc) at_ (by omega) fun h' tk acc c keep hS hacc => ?_
  have ok : ObjOk X.prog X.w (upd H s.heap.objs.size (.lst (kvs.map fun kv => kV kv.1))) h' s.heap.objs.size (.lst (kvs.map fun kv => kV kv.1)) := by
    refine ⟨by rw [List.length_map]; exact z, acc.toList, c, ?_, by simpa using hS⟩
    have el : (kvs.map fun kv => kV kv.1).length = acc.toList.length := by simp [hacc.1, hl]
    refine vals_of_at el fun j x u g1 g2 => ?_
    obtain ⟨k, y, e1, e2⟩ := hacc.2 j u (by simpa using g2)
    have e4 := congrArg (fun l => (l[j]?).map kV) (KV.keys rk)
    simp only [List.getElem?_map, e1, Option.map_map, Option.map_some] at e4 g1
    rw [show (kV ∘ fun x : Key × V => x.1) = fun kv => kV kv.1 from rfl, g1] at e4
    cases e4
    exact keyIs_rel e2
  exact ⟨.ref _, _, I.laid keep (Nat.le_refl _) ok, rfl, q _ I.fresh⟩
theorem snd_list : CallR X (.type "list") (liftN M (bltR .list)) := by
  intro pins s σ H xs us Q I r h
  obtain ⟨ds, st, rr, rs, k⟩ := h
  unfold bltR at k
  split at k <;> first | cases (by assumption : Bf.list = _) | skip
  · obtain ⟨v, rfl, rv⟩ := rr.one
    obtain ⟨c, vs, rfl, _, sq, r2⟩ := rv.tup_inv
    exact call_list_of pins s σ H _ us Q I r ⟨c, vs, rfl, .inr (by rw [hX.K]; exact sq), newL_ok rs k r2⟩
  · obtain ⟨v, rfl, rv⟩ := rr.one
    obtain ⟨c, vs, rfl, sq, r2, _⟩ := rdL_ok rs rv rfl
    exact call_list_of pins s σ H _ us Q I r ⟨c, vs, rfl, .inl (by rw [hX.K]; exact sq), newL_ok rs k r2⟩
  · obtain ⟨v, rfl, rv⟩ := rr.one
    obtain ⟨c, vs, rfl, sq, r2, _⟩ := rdL_ok rs rv rfl
    exact call_list_of pins s σ H _ us Q I r ⟨c, vs, rfl, .inl (by rw [hX.K]; exact sq), newL_ok rs k r2⟩
  · obtain ⟨v, rfl, rv⟩ := rr.one
    cases rv with
    | kd z e2 h1 r2 =>
      rename_i ks _ a o vs
      have hz : (ks.zip vs).map (fun kv => kV kv.1) = ks.map kV := by
        have e3 : ks.length ≤ vs.length := by rw [← r2.length, ← e2]; exact Nat.le_refl _
        rw [show (fun kv : Key × V => kV kv.1) = kV ∘ Prod.fst from rfl, ← List.map_map, List.map_fst_zip e3]
      have key : ∀ l : List Key, M.Reps H (l.map keyD) (l.map kV) := fun l => by
        induction l with
        | nil => exact .nil
        | cons y l ih =>
          refine .cons ?_ ih
          cases y with
          | inl i => exact .int i
          | inr x => exact .str x
      refine call_listR hX.calm pins s σ H _ us Q I r ⟨a, ks.zip vs, rfl, .inr ⟨o, h1⟩, ?_⟩
      rw [hz]
      exact newL_ok rs k (key ks)
  · obtain ⟨v, rfl, rv⟩ := rr.one
    cases rv
    split at k
    · rename_i q
      obtain ⟨_, vs, h1, r2⟩ := rs.1 _ _ q
      exact call_list_of pins s σ H _ us Q I r ⟨_, vs, rfl, .inl (.inl (.inl h1)), newL_ok rs k r2⟩
    · rename_i q
      obtain ⟨_, vs, h1, r2⟩ := rs.1 _ _ q
      have keys : ∀ {kvs : List (Key × D)} {vs : List (Key × V)}, KReps M H kvs vs → M.Reps H (kvs.map fun p => keyD p.1) (vs.map fun p => kV p.1) := by
        intro kvs vs r
        induction r with
        | nil => exact .nil
        | cons h _ ih =>
          refine .cons ?_ ih
          dsimp only
          rw [h.1]
          rename_i a b _ _ _
          cases b.1 with
          | inl i => exact .int i
          | inr x => exact .str x
      exact call_list_dK hX.calm pins s σ H _ us Q I r ⟨_, vs, rfl, h1, newL_ok rs k (keys r2)⟩
    · exact k.elim
  · exact k.elim
/-- methods of lists -/
theorem snd_append : MtR X "list.append" (liftM M (bmR .append)) := by
  intro pins s σ H x xs v us Q I rx r h
  obtain ⟨a, ds, st, ra, rr, rs, k⟩ := h
  unfold bmR at k
  split at k <;> first | cases (by assumption : Bm.append = _) | skip
  · cases ra
    obtain ⟨w, rfl, rw1⟩ := rr.one
    obtain ⟨ys, e, z, k⟩ := k
    obtain ⟨_, vs, h1, r2⟩ := lst_ok rs e
    refine mt_append pins s σ H _ _ v us Q I rx r ⟨_, vs, w, rfl, rfl, h1, by rw [← r2.length]; exact z, ?_⟩
    have wk := wr_keep (u := .lst (vs ++ [w])) rs e
    exact k _ _ (.write rs e) (rs.write e ⟨by rw [List.length_append]; exact z, _, upd_same, (Reps.mono wk.1 wk.2.1 r2).append (.cons (Rep.mono wk.1 wk.2.1 rw1) .nil)⟩) .non
  · exact k.elim
def rExtR : V → List V → Hp → VK → Prop := fun x vs H Q => ∃ l b xs zs, x = .ref l ∧ vs = [.ref b] ∧ H l = some (.lst xs) ∧ Rd H b (.lst zs) ∧ xs.length + zs.length ≤ sizeLine ∧ Q .non (upd H l (.lst (xs ++ zs)))
omit hX in
/-- a list is prolonged by another one, known or not -/
theorem mt_extendR : MtM X "list.extend" rExtR := by
  intro pins s σ H x vs v us Q I rx rv h
  obtain ⟨l, b, xs, zs, rfl, rfl, hH, hB, hz, q⟩ := h
  obtain ⟨u, rfl, ru⟩ := rv.one
  cases rx; cases ru
  obtain ⟨_, as, n, r, hl, e⟩ := I.lstM hH
  obtain ⟨_, bs, m, r2, hl2, e2⟩ := lstR I hB
  have size : as.toArray.size + bs.toArray.size ≤ sizeLine := by rw [List.size_toArray, List.size_toArray, ← hl, ← hl2]; exact hz
  have s1 : as.toArray.size ≤ sizeLine := by omega
  have no : ¬ (!as.toArray.isEmpty && Builtin.List.listTooLong (as.toArray.size + bs.toArray.size)) = true := by rw [notLongL size]; simp
  have auto := AutoSeq1.list_extend_list_list_0 l as.toArray n b bs.toArray m no s1 (by omega)
  refine call_meets F.slot_list_extend ⟨_, e, rfl⟩ F.entry_list_extend (F.args_list_extend_2 _ _) auto ⟨e, e2, ?_⟩
  exact ⟨.non, _, I.lset (its' := as ++ bs) hH e (by simp) (r.append r2) (by rw [List.length_append]; omega), rfl, q⟩
theorem snd_extend : MtR X "list.extend" (liftM M (bmR .extend)) := by
  intro pins s σ H x xs v us Q I rx r h
  obtain ⟨a, ds, st, ra, rr, rs, k⟩ := h
  unfold bmR at k
  split at k <;> first | cases (by assumption : Bm.extend = _) | skip
  · cases ra
    obtain ⟨w, rfl, rw1⟩ := rr.one
    obtain ⟨ys, zs, e, e2, z, k⟩ := k
    obtain ⟨_, vs, h1, r2⟩ := lst_ok rs e
    obtain ⟨b, ws, rfl, h3, r3, _⟩ := rdM_ok rs rw1 e2
    refine mt_extendR pins s σ H _ _ v us Q I rx r ⟨_, _, vs, ws, rfl, rfl, h1, h3, by rw [← r2.length, ← r3.length]; exact z, ?_⟩
    have wk := wr_keep (u := .lst (vs ++ ws)) rs e
    exact k _ _ (.write rs e) (rs.write e ⟨by rw [List.length_append]; exact z, _, upd_same, (Reps.mono wk.1 wk.2.1 r2).append (Reps.mono wk.1 wk.2.1 r3)⟩) .non
  · exact k.elim
theorem snd_pop : MtR X "list.pop" (liftM M (bmR .pop)) := by
  intro pins s σ H x xs v us Q I rx r h
  obtain ⟨a, ds, st, ra, rr, rs, k⟩ := h
  unfold bmR at k
  split at k <;> first | cases (by assumption : Bm.pop = _) | skip
  · cases ra
    cases rr
    obtain ⟨ys, y, e, z, k⟩ := k
    obtain ⟨zz, vs, h1, r2⟩ := lst_ok rs e
    obtain ⟨w, e3, rw1⟩ := r2.get z
    rw [r2.length] at e3
    refine mt_pop pins s σ H _ _ v us Q I rx r ⟨_, vs, w, rfl, rfl, h1, e3, ?_⟩
    have wk := wr_keep (u := .lst vs.dropLast) rs e
    refine k _ _ (.write rs e) (rs.write e ⟨by rw [List.length_dropLast]; omega, _, upd_same, ?_⟩) (Rep.mono wk.1 wk.2.1 rw1)
    have := (Reps.mono wk.1 wk.2.1 r2).take (ys.length - 1)
    rw [← List.dropLast_eq_take] at this
    rw [r2.length, ← List.dropLast_eq_take] at this
    exact this
  · rename_i i
    cases ra
    obtain ⟨w, rfl, rw1⟩ := rr.one
    cases rw1
    obtain ⟨ys, y, e, z0, z, k⟩ := k
    obtain ⟨zz, vs, h1, r2⟩ := lst_ok rs e
    obtain ⟨w, e3, rw1⟩ := r2.get z
    have lt : i.toNat < ys.length := (List.getElem?_eq_some_iff.mp z).1
    have hz := sizeLine_eq
    refine mt_popAt pins s σ H _ _ v us Q I rx r ⟨_, vs, i, i.toNat, w, rfl, rfl, h1, by omega, by omega, ?_, e3, ?_⟩
    · have q : ixN vs.length i = some i.toNat := by
        unfold ixN
        rw [if_pos z0, if_pos (by rw [← r2.length]; omega)]
      exact (ixN_seq q).1
    · have wk := wr_keep (u := .lst (vs.eraseIdx i.toNat)) rs e
      exact k _ _ (.write rs e) (rs.write e ⟨Nat.le_trans (List.length_eraseIdx_le _ _) zz, _, upd_same, (Reps.mono wk.1 wk.2.1 r2).erase _⟩) (Rep.mono wk.1 wk.2.1 rw1)
  · exact k.elim
theorem snd_reverse : MtR X "list.reverse" (liftM M (bmR .reverse)) := by
  intro pins s σ H x xs v us Q I rx r h
  obtain ⟨a, ds, st, ra, rr, rs, k⟩ := h
  unfold bmR at k
  split at k <;> first | cases (by assumption : Bm.reverse = _) | skip
  · cases ra
    cases rr
    obtain ⟨ys, e, k⟩ := k
    obtain ⟨zz, vs, h1, r2⟩ := lst_ok rs e
    refine mt_reverse pins s σ H _ _ v us Q I rx r ⟨_, vs, rfl, rfl, h1, ?_⟩
    have wk := wr_keep (u := .lst vs.reverse) rs e
    exact k _ _ (.write rs e) (rs.write e ⟨by rw [List.length_reverse]; exact zz, _, upd_same, (Reps.mono wk.1 wk.2.1 r2).reverse⟩) .non
  · exact k.elim
end
end Py

set_option Elab.async false
set_option linter.all false
set_option maxRecDepth 100000
set_option maxHeartbeats 4000000
/-! The check that a small term is a given piece of syntax. -/
namespace Py
open PySem PySem.Spec PyProof.Rows L2

structure Cfg where
  N : List Str
  sc : Scope
  fn : Str → Bool
  /-- the def's own table of code is known -/
  gen : Bool

def visB (sc : Scope) (x : Str) : Bool := match sc.names.lookup x with
  | some .local => true
  | some .cell => true
  | some .free => true
  | _ => false
def locB (c : Cfg) (x : Str) : Bool := match c.sc.names.lookup x with
  | some .local => true
  | some .cell => c.fn x
  | _ => false
def glB (sc : Scope) (x : Str) : Bool := match sc.names.lookup x with
  | some .globalImplicit => true
  | _ => false
/-- no name with a meaning of its own -/
def okN (x : Str) : Bool := !(x == ("__debug__" : Str)) && (!(x == ("__classdict__" : Str)) && !decide (x = ("__name__" : Str)))
def notStar : Expr → Bool
  | .Starred _ _ => false
  | _ => true
def notSet : Expr → Bool
  | .Set _ _ _ => false
  | _ => true
/-- no call without arguments (super() is one) -/
def notC0 : Expr → Bool
  | .Call (.Name _ _) [] [] _ => false
  | _ => true
/-- a plain index -/
def notSlice : Expr → Bool
  | .Slice _ _ _ _ => false
  | _ => true
def bopB : Bop → Operator → Bool
  | .add, .Add => true
  | .sub, .Sub => true
  | .mul, .Mult => true
  | .fdiv, .FloorDiv => true
  | .mod, .Mod => true
  | .pow, .Pow => true
  | _, _ => false
def copB : Cop → CmpOp → Bool
  | .eq, .Eq => true
  | .ne, .NotEq => true
  | .lt, .Lt => true
  | .le, .LtE => true
  | .gt, .Gt => true
  | .ge, .GtE => true
  | .is, .Is => true
  | .isnot, .IsNot => true
  | .mem, .In => true
  | .nmem, .NotIn => true
  | _, _ => false
def bfN : Bf → Str
  | .len => "len" | .abs => "abs" | .int => "int" | .all => "all" | .any => "any" | .sorted => "sorted" | .tuple => "tuple" | .list => "list"
  | .min => "min" | .max => "max" | .set => "set" | .str => "str" | .isinstance => "isinstance" | .dict => "dict"
def bmN : Bm → Str
  | .append => "append" | .extend => "extend" | .pop => "pop" | .index => "index" | .tindex => "index" | .remove => "remove" | .insert => "insert" | .reverse => "reverse"
  | .join => "join" | .split => "split" | .partition => "partition" | .replace => "replace" | .get => "get" | .items => "items"
/-- methods that have a meaning here -/
def bmSup : Bm → Bool
  | .append => true | .extend => true | .pop => true | .reverse => true
  | _ => false
/-- the own names of a comprehension's block, with their places -/
def ownOf (N : List Str) (sc : Scope) : List (Str × Nat) := sc.names.filterMap fun p => match p.2 with
  | .local => (ixOf p.1 N).map fun i => (p.1, i)
  | .cell => (ixOf p.1 N).map fun i => (p.1, i)
  | _ => none
def Cfg.blk (c : Cfg) (scope : Scope) : Cfg := { N := c.N, sc := relS scope c.sc, fn := fun x => scope.names.lookup x == some .cell, gen := false }
def nmB (c : Cfg) (i : Nat) (e : Expr) : Bool := match e with
  | .Name x _ => decide (c.N[i]? = some x) && locB c x
  | _ => false
def nmsB (c : Cfg) : List Nat → List Expr → Bool
  | [], [] => true
  | i :: is, e :: es => nmB c i e && nmsB c is es
  | _, _ => false
def tgB (c : Cfg) (t : Tg) (e : Expr) : Bool := match t, e with
  | .nm i, e => nmB c i e
  | .tp is, .Tuple es _ _ => nmsB c is es
  | _, _ => false
def tgSl : Tg → List Nat
  | .nm i => [i]
  | .tp is => is
  | .st is j => is ++ [j]
def isTupE : Expr → Bool
  | .Tuple _ _ _ => true
  | _ => false
def plainA : Exs → Bool
  | .nil => true
  | .cons _ r => plainA r
  | .star _ _ => false
def plainA0 : Exs → Bool
  | .nil => true
  | _ => false
def notKey (_ : It) : Bool := true
/-- no and, or, not, comparison, if-else -/
def valB : Expr → Bool
  | .Call _ _ _ _ => true
  | .Name _ _ => true
  | .List _ _ => true
  | .Tuple _ _ _ => true
  | .BinOp _ _ _ _ => true
  | .Subscript _ _ _ => true
  | .Attribute _ _ _ => true
  | .ListComp _ _ _ _ => true
  | .DictComp _ _ _ _ _ => true
  | .Dict _ _ _ => true
  | _ => false
/-- a generator expression's own scope: its name x, the captured name cn -/
def genB (sc0 sc : Scope) (x cn : Str) : Bool := (sc.kind == .function) && (!sc.isCoroutine && ((sc.names.all fun y => !(y.2 == .cell)) && (decide (sc.names.lookup (".0" : Str) = some .local) && (decide (sc.names.lookup x = some .local) && (decide (sc.names.lookup cn = some .free) && (decide (sc0.names.lookup cn = some .cell) &&
  sc.names.all fun y => !(y.2 == .free) || decide (sc0.names.lookup y.1 = some .cell)))))))
section
variable (P : Prog)
mutual
def chkE : Ex → Cfg → Expr → Bool
  | .frz x, c, e => valB e && chkE x c e
  | .non, _, e => (match e with
    | .Constant .none _ _ => true
    | _ => false)
  | .bl b, _, e => (match e with
    | .Constant (.bool b') _ _ => b == b'
    | _ => false)
  | .int i, _, e => (match e with
    | .Constant (.int j) _ _ => decide (i = j)
    | _ => false)
  | .str x, _, e => (match e with
    | .Constant (.str y) _ _ => decide (x = y)
    | _ => false)
  | .var i, c, e => (match e with
    | .Name x _ => decide (c.N[i]? = some x) && (visB c.sc x && okN x)
    | _ => false)
  | .glo x, c, e => (match e with
    | .Name y _ => decide (x = y) && (glB c.sc y && okN y)
    | _ => false)
  | .bty n, c, e => (match e with
    | .Name y _ => glB c.sc y && (okN y && (P.blt.contains y && (match bootBuiltins y with
      | some (.type m) => n == m
      | _ => false)))
    | _ => false)
  | .bin o a b, c, e => (match e with
    | .BinOp a' op b' _ => bopB o op && (chkE a c a' && chkE b c b')
    | _ => false)
  | .neg a, c, e => (match e with
    | .UnaryOp .USub a' _ => chkE a c a'
    | _ => false)
  | .cmp o a b, c, e => (match e with
    | .Compare a' [op] [b'] _ => copB o op && (chkE a c a' && (chkE b c b' && notSet b'))
    | _ => false)
  | .chn o p a b d, c, e => (match e with
    | .Compare a' [op, op'] [b', d'] _ => copB o op && (copB p op' && (chkE a c a' && (chkE b c b' && (chkE d c d' && (notSet b' && notSet d')))))
    | _ => false)
  | .and a b, c, e => (match e with
    | .BoolOp .And (a' :: b' :: r') pos => chkE a c a' && (match r' with
      | [] => chkE b c b'
      | _ => chkE b c (.BoolOp .And (b' :: r') pos))
    | _ => false)
  | .or a b, c, e => (match e with
    | .BoolOp .Or (a' :: b' :: r') pos => chkE a c a' && (match r' with
      | [] => chkE b c b'
      | _ => chkE b c (.BoolOp .Or (b' :: r') pos))
    | _ => false)
  | .not a, c, e => (match e with
    | .UnaryOp .Not a' _ => chkE a c a'
    | _ => false)
  | .ite t a b, c, e => (match e with
    | .IfExp t' a' b' _ => chkE t c t' && (chkE a c a' && chkE b c b')
    | _ => false)
  | .tup es, c, e => (match e with
    | .Tuple es' _ _ => chkA es c es'
    | _ => false)
  | .lst es, c, e => (match e with
    | .List es' _ => chkA es c es'
    | _ => false)
  | .dnew, _, e => (match e with
    | .Dict [] [] _ => true
    | _ => false)
  | .call f es ks, c, e => (match e with
    | .Call (.Name x _) es' [] _ => decide (f = x) && (glB c.sc x && (okN x && (chkA es c es' && (plainA es && (ks.isEmpty && (P.fns.lookup (("" : Str), f)).isSome)))))
    | .Call (.Name x _) [] (kw :: kws) _ => decide (f = x) && (glB c.sc x && (okN x && (chkA es c ((kw :: kws).map (·.value)) && (plainA es && (decide ((kw :: kws).map (·.arg) = ks.map some) && (P.fns.lookup (("" : Str), f)).isSome)))))
    | _ => false)
  | .new f es ks, c, e => (match e with
    | .Call (.Name x _) es' [] _ => decide (f = x) && (glB c.sc x && (okN x && (chkA es c es' && (plainA es && (ks.isEmpty && ((P.fns.lookup (f, ("__init__" : Str))).isSome && !decide (f = ("" : Str))))))))
    | _ => false)
  | .blt f es, c, e => (match e with
    | .Call (.Name x _) (a :: r) [] _ => decide (bfN f = x) && (glB c.sc x && (P.blt.contains x && (chkA es c (a :: r) && plainA es)))
    | _ => false)
  | .bm m o es, c, e => (match e with
    | .Call (.Attribute o' n apos) es' [] pos => decide (bmN m = n) && (bmSup m && (chkE o c o' && (notC0 o' && ((apos.endLine == pos.line) && (chkA es c es' && (plainA es && decide (es'.length < 20)))))))
    | _ => false)
  | .mth o m es, c, e => (match e with
    | .Call (.Attribute o' n apos) es' [] pos => decide (m = n) && (chkE o c o' && (notC0 o' && ((apos.endLine == pos.line) && (chkA es c es' && (plainA es && decide (es'.length < 20))))))
    | _ => false)
  | .att o f, c, e => (match e with
    | .Attribute o' n _ => decide (f = n) && (chkE o c o' && notC0 o')
    | _ => false)
  | .idx o i, c, e => (match e with
    | .Subscript o' i' _ => chkE o c o' && (chkE i c i' && notSlice i')
    | _ => false)
  | .slc o lo hi, c, e => (match e with
    | .Subscript o' (.Slice lo' hi' none _) _ => chkE o c o' && (chkO lo c lo' && chkO hi c hi')
    | _ => false)
  | .rev o, c, e => (match e with
    | .Subscript o' (.Slice none none (some (.UnaryOp .USub (.Constant (.int 1) _ _) _)) _) _ => chkE o c o'
    | _ => false)
  | .lc elt vs tg it ifs, c, e => (match e with
    | .ListComp elt' [⟨tg', it', ifs', 0⟩] sc _ => decide (vs = (ownOf c.N sc).map (·.2)) && (blkC c.N c.sc sc (ownOf c.N sc) && ((tgSl tg).all vs.contains && (notSet it' &&
        (tgB (c.blk sc) tg tg' && (chkI it c tg' it' && (chkTs ifs (c.blk sc) ifs' && chkE elt (c.blk sc) elt'))))))
    | _ => false)
  | .lc2 elt vs tg it ifs vs1 tg1 it1 ifs1, c, e => (match e with
    | .ListComp elt' [⟨tg', it', ifs', 0⟩, ⟨tg1', it1', ifs1', 0⟩] sc _ => decide (vs = (ownOf c.N sc).map (·.2)) && (blkC c.N c.sc sc (ownOf c.N sc) && ((tgSl tg).all vs.contains && ((tgSl tg1).all vs1.contains && (vs1.all vs.contains && (notSet it' && (notSet it1' &&
        (tgB (c.blk sc) tg tg' && (chkI it c tg' it' && (chkTs ifs (c.blk sc) ifs' && (tgB (c.blk sc) tg1 tg1' && (chkI it1 (c.blk sc) tg1' it1' && (chkTs ifs1 (c.blk sc) ifs1' && chkE elt (c.blk sc) elt'))))))))))))
    | _ => false)
  | .dc kk v vs tg it ifs, c, e => (match e with
    | .DictComp k' v' [⟨tg', it', ifs', 0⟩] sc _ => decide (vs = (ownOf c.N sc).map (·.2)) && (blkC c.N c.sc sc (ownOf c.N sc) && ((tgSl tg).all vs.contains && (notSet it' && (notKey it &&
        (tgB (c.blk sc) tg tg' && (chkI it c tg' it' && (chkTs ifs (c.blk sc) ifs' && (chkE kk (c.blk sc) k' && chkE v (c.blk sc) v'))))))))
    | _ => false)
  | .nxt i j g, c, e => (match e with
    | .Call (.Name nx _) [.GeneratorExp (.Name x1 _) [⟨.Name x2 _, .Name o _, [.Compare (.Name x3 _) [.In] [.Name cn _] _], 0⟩] sc _, .Name gg _] [] _ =>
      decide (nx = ("next" : Str)) && (glB c.sc nx && (P.blt.contains nx && (decide (x1 = x2) && (decide (x3 = x2) && (decide (c.N[i]? = some o) && (visB c.sc o && (okN o && (decide (c.N[j]? = some cn) && (okN cn && (okN x2 && (!decide (cn = x2) && (decide (g = gg) && (glB c.sc gg && (okN gg && (genB c.sc sc x2 cn && c.gen)))))))))))))))
    | _ => false)
def chkA : Exs → Cfg → List Expr → Bool
  | .nil, _, es => es.isEmpty
  | .cons e r, c, es => (match es with
    | e' :: r' => notStar e' && (chkE e c e' && chkA r c r')
    | [] => false)
  | .star e r, c, es => (match es with
    | .Starred e' _ :: r' => chkE e c e' && chkA r c r'
    | _ => false)
def chkO : Exs → Cfg → Option Expr → Bool
  | .nil, _, o => o.isNone
  | .cons e r, c, o => (match o with
    | some e' => chkE e c e' && plainA0 r
    | none => false)
  | .star _ _, _, _ => false
def chkTs : Exs → Cfg → List Expr → Bool
  | .nil, _, es => es.isEmpty
  | .cons e r, c, es => (match es with
    | [e'] => chkE e c e' && plainA0 r
    | _ => false)
  | .star _ _, _, _ => false
def chkI : It → Cfg → Expr → Expr → Bool
  | .of e, c, _, i => chkE e c i
  | .rng1 a, c, _, i => (match i with
    | .Call (.Name x _) [a'] [] _ => decide (x = ("range" : Str)) && (glB c.sc x && (P.blt.contains x && (chkE a c a' && notStar a')))
    | _ => false)
  | .rng2 a b, c, _, i => (match i with
    | .Call (.Name x _) [a', b'] [] _ => decide (x = ("range" : Str)) && (glB c.sc x && (P.blt.contains x && (chkE a c a' && (notStar a' && (chkE b c b' && notStar b')))))
    | _ => false)
  | .enum e, c, t, i => (match i with
    | .Call (.Name x _) [e'] [] _ => decide (x = ("enumerate" : Str)) && (glB c.sc x && (P.blt.contains x && (chkE e c e' && (notStar e' && isTupE t))))
    | _ => false)
  | .zip a b, c, t, i => (match i with
    | .Call (.Name x _) [a', b'] [] _ => decide (x = ("zip" : Str)) && (glB c.sc x && (P.blt.contains x && (chkE a c a' && (chkE b c b' && (notStar a' && (notStar b' && isTupE t))))))
    | _ => false)
end
end
end Py

set_option Elab.async false
set_option linter.all false
set_option maxRecDepth 100000
set_option maxHeartbeats 4000000
/-! Soundness of expressions. -/
namespace Py
open PySem PySem.Spec PyProof.Rows L2

theorem PE.mono {X : Cx} {e : Expr} {t t' : TE} (h : PE X e t) (k : ∀ σ H Q, t' σ H Q → t σ H Q) : PE X e t' := ⟨fun pins s σ H Q I q => h.run pins s σ H Q I (k σ H Q q)⟩
theorem PT.mono {X : Cx} {e : Expr} {t t' : TT} (h : PT X e t) (k : ∀ σ H Q, t' σ H Q → t σ H Q) : PT X e t' := ⟨fun pins s σ H Q I q => h.run pins s σ H Q I (k σ H Q q)⟩
theorem PA.mono {X : Cx} {e : List Expr} {t t' : TA} (h : PA X e t) (k : ∀ σ H Q, t' σ H Q → t σ H Q) : PA X e t' := ⟨fun pos pins s σ H Q I q => h.run pos pins s σ H Q I (k σ H Q q)⟩
theorem PI.mono {X : Cx} {tg e : Expr} {t t' : TI} (h : PI X tg e t) (k : ∀ σ H Q, t' σ H Q → t σ H Q) : PI X tg e t' := ⟨fun pins s σ H Q I q => h.run pins s σ H Q I (k σ H Q q)⟩
theorem PG.mono {X : Cx} {e : Expr} {t t' : TG} (h : PG X e t) (k : ∀ v σ H Q, t' v σ H Q → t v σ H Q) : PG X e t' := ⟨fun pins s σ H v u Q I r q => h.run pins s σ H v u Q I r (k v σ H Q q)⟩
theorem PS.mono {X : Cx} {e : Stmt} {t t' : TS} (h : PS X e t) (k : ∀ D σ H, t' D σ H → t D σ H) : PS X e t' := ⟨fun pins s σ H D I q => h.run pins s σ H D I (k D σ H q)⟩
theorem PSs.mono {X : Cx} {e : List Stmt} {t t' : TS} (h : PSs X e t) (k : ∀ D σ H, t' D σ H → t D σ H) : PSs X e t' := ⟨fun pins s σ H D I q => h.run pins s σ H D I (k D σ H q)⟩

section
variable (M : Mo) (G : Cal)
def semE (x : Ex) : TE := fun σ H Q => ∃ L st, RelL M H L σ ∧ RelS M st H ∧ wpE M.P G x L st (QL M st H Q) X0
def semT (x : Ex) : TT := fun σ H Q => ∃ L st, RelL M H L σ ∧ RelS M st H ∧ wpT M.P G x L st (QLb M st H Q) X0
def semA (x : Exs) : TA := fun σ H Q => ∃ L st, RelL M H L σ ∧ RelS M st H ∧ wpA M.P G x L st (QLs M st H Q) X0
def semTs (x : Exs) : TT := fun σ H Q => ∃ L st, RelL M H L σ ∧ RelS M st H ∧ wpTs M.P G x L st (QLb M st H Q) X0
/-- tuples, locked lists persist -/
structure TpLe (H H' : Hp) : Prop where
  tp : ∀ a xs, SqT M.K H a xs → SqT M.K H' a xs
  lf : FzM H H'
/-- a walk over items -/
def WalkD (H0 : Hp) (J : L2.It) (items : List D) (stays : Sto → Prop) : Prop :=
  Walk J items.length (fun H => ∃ st, RelS M st H ∧ stays st ∧ TpLe M H0 H) fun i H x H' => (∀ b u, H b = some u → H' b = some u) ∧ ∃ d, items[i]? = some d ∧ M.Rep H' d x
def semI (x : It) : TI := fun σ H R => ∃ L st, RelL M H L σ ∧ RelS M st H ∧ wpI M.P G x L st (fun items stays s back => ∀ J H', Ext M st H s H' → RelS M s H' → stays s → WalkD M H' J items stays → (∀ t, back t = t) → items.length ≤ sizeLine → R J H') X0
/-- a target: the slots, what the wiped slots are -/
def semG (t : Tg) : TG := fun v σ H Q => ∃ d L st, M.Rep H d v ∧ RelL M H L σ ∧ RelS M st H ∧ tgR t d L fun L' => ∀ σ', RelL M H L' σ' → (∀ vs : List Nat, (∀ i ∈ tgSl t, i ∈ vs) → wipe σ' vs = wipe σ vs) → Q σ' H
end

section
variable {M : Mo} {G : Cal} (hG : CalMono G) {L : Loc} {σ : L2.St} {H : Hp} {st : Sto}
include hG
theorem semE_of {x : Ex} {Q1 : QD} {R : VK} (rl : RelL M H L σ) (rs : RelS M st H) (k : wpE M.P G x L st Q1 X0) (h : ∀ d s v H1, Q1 d s → Ext M st H s H1 → RelS M s H1 → M.Rep H1 d v → R v H1) : semE M G x σ H R :=
  ⟨L, st, rl, rs, wpE_mono hG x (fun d s q v H' e r rep => h d s v H' q e r rep) k⟩
theorem semA_of {x : Exs} {Q1 : List D → Sto → Prop} {R : List V → Hp → Prop} (rl : RelL M H L σ) (rs : RelS M st H) (k : wpA M.P G x L st Q1 X0) (h : ∀ d s v H1, Q1 d s → Ext M st H s H1 → RelS M s H1 → M.Reps H1 d v → R v H1) : semA M G x σ H R :=
  ⟨L, st, rl, rs, wpA_mono hG x (fun d s q v H' e r rep => h d s v H' q e r rep) k⟩
theorem semT_of {x : Ex} {Q1 : Bool → Sto → Prop} {R : Bool → Hp → Prop} (rl : RelL M H L σ) (rs : RelS M st H) (k : wpT M.P G x L st Q1 X0) (h : ∀ d s H1, Q1 d s → Ext M st H s H1 → RelS M s H1 → R d H1) : semT M G x σ H R :=
  ⟨L, st, rl, rs, wpT_mono hG x (fun d s q H' e r => h d s H' q e r) k⟩
theorem semTs_of {x : Exs} {Q1 : Bool → Sto → Prop} {R : Bool → Hp → Prop} (rl : RelL M H L σ) (rs : RelS M st H) (k : wpTs M.P G x L st Q1 X0) (h : ∀ d s H1, Q1 d s → Ext M st H s H1 → RelS M s H1 → R d H1) : semTs M G x σ H R :=
  ⟨L, st, rl, rs, wpTs_mono hG x (fun d s q H' e r => h d s H' q e r) k⟩
omit hG
theorem RelL.ext {H' : Hp} {st' : Sto} (r : RelL M H L σ) (e : Ext M st H st' H') : RelL M H' L σ := r.mono e.tp e.lf
theorem Rep.ext {H' : Hp} {st' : Sto} {d : D} {v : V} (r : M.Rep H d v) (e : Ext M st H st' H') : M.Rep H' d v := Rep.mono e.tp e.lf r
theorem Reps.ext {H' : Hp} {st' : Sto} {d : List D} {v : List V} (r : M.Reps H d v) (e : Ext M st H st' H') : M.Reps H' d v := Reps.mono e.tp e.lf r
end

/-- a context fits a configuration -/
structure Fits (M : Mo) (c : Cfg) (X : Cx) : Prop where
  of : XOf M X
  N : X.N = c.N
  sc : X.env.scope = c.sc
  fn : X.fn = c.fn
  nd : c.N.Nodup
  gen : c.gen = true → ∃ p ∈ M.tabs, X.env.code = .ref p.1

/-- module facts -/
structure ModOk (M : Mo) : Prop where
  blt : ∀ x, M.P.blt.contains x = true → M.mg x = none
  cons : ∀ x d, M.P.cons.lookup x = some d → ∃ v u, M.mg x = some u ∧ RelV v u ∧ ∀ H, M.Rep H d v

section
variable {M : Mo} {c : Cfg} {X : Cx}
theorem okN1 {x : Str} (h : okN x = true) : (x == ("__debug__" : Str)) = false := by
  unfold okN at h
  simp only [Bool.and_eq_true, Bool.not_eq_true'] at h
  exact h.1
theorem okN2 {x : Str} (h : okN x = true) : (x == ("__classdict__" : Str)) = false := by
  unfold okN at h
  simp only [Bool.and_eq_true, Bool.not_eq_true'] at h
  exact h.2.1
theorem okN3 {x : Str} (h : okN x = true) : x ≠ ("__name__" : Str) := by
  unfold okN at h
  simp only [Bool.and_eq_true, Bool.not_eq_true', decide_eq_false_iff_not] at h
  exact h.2.2
theorem vis_of (F : Fits M c X) {x : Str} (h : visB c.sc x = true) : Vis X.env.scope x := by
  rw [F.sc]
  unfold visB at h
  unfold Vis
  split at h <;> first | (rename_i e; exact .inl e) | (rename_i e; exact .inr (.inl e)) | (rename_i e; exact .inr (.inr e)) | cases h
theorem gl_of (F : Fits M c X) {x : Str} (h : glB c.sc x = true) : Gl X x := by
  unfold Gl Env.kindOf
  rw [F.sc]
  unfold glB at h
  split at h
  · assumption
  · cases h
theorem loc_of (F : Fits M c X) {x : Str} (h : locB c x = true) : L2.Loc X.env.scope x ∧ (X.fn x = true ∨ X.env.scope.names.lookup x = some .local) := by
  rw [F.sc, F.fn]
  unfold locB at h
  split at h
  · rename_i e; exact ⟨.inl e, .inr e⟩
  · rename_i e; exact ⟨.inr e, .inl h⟩
  · cases h
theorem base_of {o : Expr} {f : Str} {env : Env} {w : Sem Value} (h : notC0 o = true) : attributeBase o f env w = w := by
  unfold attributeBase
  cases o with
  | Call fn as ks p =>
    cases fn with
    | Name x q =>
      cases as with
      | nil =>
        cases ks with
        | nil => cases h
        | cons _ _ => rfl
      | cons _ _ => rfl
    | _ => rfl
  | _ => rfl
theorem star_of {e : Expr} {es : List Expr} {env : Env} (h : notStar e = true) : starEach (e :: es) env = (false, eval e env) :: starEach es env := by
  cases e with
  | Starred _ _ => cases h
  | _ => rfl
theorem marks_of {op : CmpOp} {b : Expr} (h : notSet b = true) : behindInMarks op b = false := by
  cases b with
  | Set _ _ _ => cases h
  | _ => rfl
theorem fold_of {e : Expr} {env : Env} (h : notSet e = true) : ∀ x, foldedSetIterable e env x = pure x := by
  intro x
  cases e with
  | Set _ _ _ => cases h
  | _ => rfl
theorem plainIx_of {b : Expr} (h : notSlice b = true) : PlainIx b := by
  intro o i
  cases b with
  | Slice _ _ _ _ => cases h
  | _ => rfl
end
end Py

set_option Elab.async false
set_option linter.all false
set_option maxRecDepth 100000
set_option maxHeartbeats 4000000
/-! Soundness of expressions: the pieces. -/
namespace Py
open PySem PySem.Spec PyProof.Rows L2

/-- a def's promise: what its body means -/
def spOf (M : Mo) (G : Cal) (c f : Str) (fd : Fd) : Sp := fun vs H Q _ => ∃ ds st, M.Reps H ds vs ∧ RelS M st H ∧ ds.length = fd.ps.length ∧ G c f ds st (QL M st H Q) X0
structure FnIn (M : Mo) (base : Heap) (k : Nat) (c f : Str) (fd : Fd) (a : Addr) (fdat : FuncData) : Prop where
  ok : FnOk M.p M.w M.K M.mg base CX0 (2 * k) a fdat fd.ps (spOf M (cal M.P k) c f fd)
  kp : PySem.W.keepIn M.K (.ref a) = true
  dl : fd.dfl.length ≤ fd.ps.length
  bnd : ∀ n, fd.ps.length - fd.dfl.length ≤ n → n ≤ fd.ps.length → ∃ dvs ds, Vals dvs ds ∧ (∀ H, M.Reps H (fd.dfl.drop (n - (fd.ps.length - fd.dfl.length))) dvs) ∧ Binds M.K fdat fd.ps ds
  kbd : ∀ (s : Shared) (ks : List Str) (ws us : List Value), ks.Nodup → (∀ k ∈ ks, k ∈ fd.ps) → ws.length = ks.length → (fd.ps.mapM fun p => (ks.zip ws).lookup p) = some us → BindsTo s fdat ⟨[], ks.zip ws⟩ (fd.ps.zip us)
structure FnsOk (M : Mo) (base : Heap) (k : Nat) : Prop where
  dfn : ∀ f fd, M.P.fns.lookup (("" : Str), f) = some fd → ∃ a fdat, M.mg f = some (.ref a) ∧ FnIn M base k "" f fd a fdat
  mth : ∀ c f fd C, c ≠ ("" : Str) → M.P.fns.lookup (c, f) = some fd → M.mg c = some (.ref C) → ∃ a fdat, Meth M.K C f a ∧ FnIn M base k c f fd a fdat
structure ClsOk (M : Mo) : Prop where
  cls : ∀ c cd C, M.P.cls.lookup c = some cd → M.mg c = some (.ref C) → c ≠ ("" : Str) ∧ (if cd.slotted = true then SlX.SCls M.K C ∧ ∀ i f, ixOf f cd.slots = some i → ∃ p, SlX.Slot1 M.K C f p i
    else Cls M.K C ∧ ∀ i f, ixOf f cd.slots = some i → NoAttr M.K C f)
  mkr : ∀ c fd, M.P.fns.lookup (c, ("__init__" : Str)) = some fd → c ≠ ("" : Str) → ∃ C cd, M.mg c = some (.ref C) ∧ M.P.cls.lookup c = some cd ∧ PySem.W.makesIn M.K C = true ∧ PySem.W.keepIn M.K (.ref C) = true

structure Okx (M : Mo) (k : Nat) (c : Cfg) (X : Cx) : Prop where
  fit : Fits M c X
  nox : X.xe = fun _ _ => False
  room : Room (2 * k + 1) X.A
  mod : ModOk M
  fns : FnsOk M X.base k
  cls : ClsOk M
  tab : ∀ p ∈ M.tabs, GxR.TabB X.base M.mg p.1 p.2

section
variable {M : Mo} {k : Nat} {c : Cfg} {X : Cx}
theorem Okx.of (o : Okx M k c X) : XOf M X := o.fit.of
/-- within a comprehension's block -/
theorem Okx.blk (o : Okx M k c X) (s : Shared) (H : Hp) (scope : Scope) (C : Addr) (cl : List (Str × Addr)) (fp : List Addr) : Okx M k (c.blk scope) (X.blk s H scope (compEnvC scope cl C X.env) fp) :=
  ⟨⟨⟨o.of.p, o.of.w, o.of.K, o.of.mg, o.of.calm, o.of.un⟩, o.fit.N, by
    show relS scope X.env.scope = relS scope c.sc
    rw [o.fit.sc], rfl, o.fit.nd, nofun⟩, rfl, o.room, o.mod, o.fns, o.cls, o.tab⟩
end

section
variable {M : Mo} {k : Nat} {c : Cfg} {X : Cx} (o : Okx M k c X)
include o
theorem p_const {e : Expr} {d : D} {v : V} {x : Ex} (h : PE X e (tC v)) (hx : ∀ L st Q E, wpE M.P (cal M.P k) x L st Q E = Q d st) (r : ∀ H, M.Rep H d v) : PE X e (semE M (cal M.P k) x) :=
  PE.mono h fun σ H Q ⟨L, st, rl, rs, q⟩ => by
    rw [hx] at q
    exact QL.here q rs (r H)
theorem p_var {i : Nat} {x : Str} {pos : Pos} (h : (decide (c.N[i]? = some x) && (visB c.sc x && okN x)) = true) : PE X (.Name x pos) (semE M (cal M.P k) (.var i)) := by
  simp only [Bool.and_eq_true, decide_eq_true_eq] at h
  refine PE.mono (pe_var (i := i) (by rw [o.fit.N]; exact h.1) (vis_of o.fit h.2.1) (okN1 h.2.2) (okN2 h.2.2)) fun σ H Q ⟨L, st, rl, rs, d, e, q⟩ => ?_
  obtain ⟨v, e2, r⟩ := rl.get i d e
  exact ⟨v, e2, QL.here q rs r⟩
theorem p_glo {x : Str} {pos : Pos} (h : (glB c.sc x && okN x) = true) : PE X (.Name x pos) (semE M (cal M.P k) (.glo x)) := by
  simp only [Bool.and_eq_true] at h
  refine ⟨fun pins s σ H Q I ⟨L, st, rl, rs, d, e, q⟩ => ?_⟩
  obtain ⟨v, u, hm, rv, rep⟩ := o.mod.cons x d e
  exact (pe_glob (gl_of o.fit h.1) (by rw [o.of.mg]; exact hm) rv (okN1 h.2)).run pins s σ H Q I (QL.here q rs (rep H))
theorem p_bin {a b : Ex} {a' b' : Expr} {op : Bop} {op' : Operator} {pos : Pos} (h : bopB op op' = true) (ha : PE X a' (semE M (cal M.P k) a)) (hb : PE X b' (semE M (cal M.P k) b)) : PE X (.BinOp a' op' b' pos) (semE M (cal M.P k) (.bin op a b)) := by
  have key : OpR X (binaryOp op') (lift2 M (bopR op)) := by
    cases op <;> cases op' <;> first | (cases h; done) | exact snd_add o.of | exact snd_sub o.of | exact snd_mul o.of | exact snd_fdiv o.of | exact snd_mod o.of | exact snd_pow o.of
  refine PE.mono (pe_op key ha hb) fun σ H Q ⟨L, st, rl, rs, q⟩ => ?_
  refine semE_of (cal_mono _ _) rl rs q fun d s v H1 q1 e1 r1 v1 => ?_
  refine semE_of (cal_mono _ _) (rl.ext e1) r1 q1 fun d2 s2 v2 H2 q2 e2 r2 w2 => ?_
  exact ⟨d, d2, s2, v1.ext e2, w2, r2, bopR_mono (QL.step (e1.trans e2)) q2⟩
theorem p_neg {a : Ex} {a' : Expr} {pos : Pos} (ha : PE X a' (semE M (cal M.P k) a)) : PE X (.UnaryOp .USub a' pos) (semE M (cal M.P k) (.neg a)) := by
  refine PE.mono (pe_un un_neg ha) fun σ H Q ⟨L, st, rl, rs, q⟩ => ?_
  refine semE_of (cal_mono _ _) rl rs q fun d s v H1 q1 e1 r1 v1 => ?_
  obtain ⟨i, rfl, q1⟩ := q1
  cases v1
  exact ⟨i, rfl, q1 _ _ e1 r1 (.int _)⟩
theorem copR_bl {op : Cop} {a b : D} {st : Sto} {Q : QD} (h : copR op a b st Q) : copR op a b st fun d s => (∃ k, d = .bl k) ∧ Q d s := by
  unfold copR at h ⊢
  cases op <;> dsimp only at h ⊢ <;> first
    | (obtain ⟨d, e, k2, k3, k4, k5, k6⟩ := h; exact ⟨d, e, k2, k3, k4, k5, ⟨_, rfl⟩, k6⟩)
    | (split at h <;> first
      | exact h.elim
      | exact ⟨⟨_, rfl⟩, h⟩
      | (split at h <;> exact ⟨⟨_, rfl⟩, h⟩))
    | (unfold memR at h ⊢
       cases b with
       | tup ys => obtain ⟨d, ds, k2, k3, k4, k5, k6⟩ := h; exact ⟨d, ds, k2, k3, k4, k5, ⟨_, rfl⟩, k6⟩
       | str y => obtain ⟨c, e, k⟩ := h; exact ⟨c, e, ⟨_, rfl⟩, k⟩
       | _ =>
         dsimp only at h ⊢
         split at h <;> first
           | (obtain ⟨k1, k2, k3⟩ := h; exact ⟨k1, k2, ⟨_, rfl⟩, k3⟩)
           | (obtain ⟨ys, d, ds, k1, k2, k3, k4, k5, k6⟩ := h; exact ⟨ys, d, ds, k1, k2, k3, k4, k5, ⟨_, rfl⟩, k6⟩))
theorem cop_key {op : Cop} {op' : CmpOp} (h : copB op op' = true) : OpR X (compareOp op') (lift2 M (copR op)) := by
  cases op <;> cases op' <;> first | (cases h; done) | exact snd_eq o.of | exact snd_ne o.of | exact snd_lt o.of | exact snd_le o.of | exact snd_gt o.of | exact snd_ge o.of | exact snd_is o.of | exact snd_isnot o.of | exact snd_mem o.of false | exact snd_mem o.of true
theorem p_cmp {a b : Ex} {a' b' : Expr} {op : Cop} {op' : CmpOp} {pos : Pos} (h : copB op op' = true) (hs : notSet b' = true) (ha : PE X a' (semE M (cal M.P k) a)) (hb : PE X b' (semE M (cal M.P k) b)) : PE X (.Compare a' [op'] [b'] pos) (semE M (cal M.P k) (.cmp op a b)) := by
  refine PE.mono (pe_cmpR (cop_key o h) ha hb (marks_of hs)) fun σ H Q ⟨L, st, rl, rs, q⟩ => ?_
  refine semE_of (cal_mono _ _) rl rs q fun d s v H1 q1 e1 r1 v1 => ?_
  refine semE_of (cal_mono _ _) (rl.ext e1) r1 q1 fun d2 s2 v2 H2 q2 e2 r2 w2 => ?_
  exact ⟨d, d2, s2, v1.ext e2, w2, r2, copR_mono (QL.step (e1.trans e2)) q2⟩
theorem q_cmp {a b : Ex} {a' b' : Expr} {op : Cop} {op' : CmpOp} {pos : Pos} (h : copB op op' = true) (hs : notSet b' = true) (ha : PE X a' (semE M (cal M.P k) a)) (hb : PE X b' (semE M (cal M.P k) b)) : PT X (.Compare a' [op'] [b'] pos) (semT M (cal M.P k) (.cmp op a b)) := by
  refine PT.mono (pt_cmpR (cop_key o h) ha hb (marks_of hs)) fun σ H Q ⟨L, st, rl, rs, q⟩ => ?_
  refine semE_of (cal_mono _ _) rl rs q fun d s v H1 q1 e1 r1 v1 => ?_
  refine semE_of (cal_mono _ _) (rl.ext e1) r1 q1 fun d2 s2 v2 H2 q2 e2 r2 w2 => ?_
  refine ⟨d, d2, s2, v1.ext e2, w2, r2, copR_mono (fun z u q v3 H3 e3 r3 w3 => ?_) (copR_bl o q2)⟩
  obtain ⟨⟨b, rfl⟩, q⟩ := q
  cases w3
  exact ⟨b, rfl, q H3 (e1.trans (e2.trans e3)) r3⟩
theorem p_chn {a b d : Ex} {a' b' d' : Expr} {op p : Cop} {op' p' : CmpOp} {pos : Pos} (h : copB op op' = true) (hp : copB p p' = true) (hs : notSet b' = true) (hs2 : notSet d' = true) (ha : PE X a' (semE M (cal M.P k) a)) (hb : PE X b' (semE M (cal M.P k) b)) (hd : PE X d' (semE M (cal M.P k) d)) :
    PE X (.Compare a' [op', p'] [b', d'] pos) (semE M (cal M.P k) (.chn op p a b d)) := by
  refine PE.mono (pe_chain (cop_key o h) (cop_key o hp) ha hb hd (marks_of (op := p') hs2)) fun σ H Q ⟨L, st, rl, rs, q⟩ => ?_
  refine semE_of (cal_mono _ _) rl rs q fun x s v H1 q1 e1 r1 v1 => ?_
  refine semE_of (cal_mono _ _) (rl.ext e1) r1 q1 fun x2 s2 v2 H2 q2 e2 r2 w2 => ?_
  refine ⟨x, x2, s2, v1.ext e2, w2, r2, copR_mono (fun z u q v3 H3 e3 r3 w3 => ?_) q2⟩
  obtain ⟨b, rfl, q⟩ := q
  cases w3
  refine ⟨b, rfl, ?_⟩
  cases b with
  | true =>
    simp only [if_true] at q ⊢
    refine semE_of (cal_mono _ _) (rl.ext (e1.trans (e2.trans e3))) r3 q fun x4 s4 v4 H4 q4 e4 r4 w4 => ?_
    exact ⟨x2, x4, s4, w2.ext (e3.trans e4), w4, r4, copR_mono (QL.step (e1.trans (e2.trans (e3.trans e4)))) q4⟩
  | false =>
    simp only [Bool.false_eq_true, if_false] at q ⊢
    exact q _ _ (e1.trans (e2.trans e3)) r3 (.bl _)
/-- a test of any value -/
theorem q_val {x : Ex} {e : Expr} (ha : PE X e (semE M (cal M.P k) x)) (he : ∀ whole, isTrue e X.env whole = (do let v ← whole; standAt e.pos; holding [v] (truthy v))) : PT X e (semT M (cal M.P k) x) := by
  refine ⟨fun pins s σ H Q I ⟨L, st, rl, rs, q⟩ => ?_⟩
  refine isTrue_plain (thn (ha.run pins s σ H _ I (semE_of (R := fun v H1 => ∃ d s1, M.Rep H1 d v ∧ RelS M s1 H1 ∧ truR d s1 (QLb M s1 H1 Q)) (cal_mono _ _) rl rs q fun d s1 v H1 q1 e1 r1 v1 => ⟨d, s1, v1, r1, truR_mono (fun b t q H2 e2 r2 => q H2 (e1.trans e2) r2) q1⟩)) fun v s1 ⟨w, H1, I1, r1, q1⟩ => ?_) (he _)
  exact snd_tru o.of pins s1 σ H1 w v Q I1 r1 q1
theorem truR_and {x : D} {s : Sto} {A : Sto → Prop} {Q : Bool → Sto → Prop} (h : truR x s fun k t => if k = true then A t else truR x t Q) : truR x s fun k t => if k = true then A t else Q false t := by
  unfold truR at h ⊢
  cases x <;> dsimp only at h ⊢ <;> first
    | (simp only [Bool.false_eq_true, if_false] at h ⊢; exact h)
    | (split at h
       · rename_i e; rw [if_pos e]; exact h
       · rename_i e; rw [if_neg e]; simp only [Bool.not_eq_true] at e; rw [e] at h; exact h)
    | (refine ⟨h.1, ?_⟩
       have h := h.2
       split at h
       · rename_i e; rw [if_pos e]; exact h
       · rename_i e; rw [if_neg e]; simp only [Bool.not_eq_true] at e; have := h.2; rw [e] at this; exact this)
    | (obtain ⟨xs, e1, h⟩ := h
       refine ⟨xs, e1, ?_⟩
       split at h
       · rename_i e; rw [if_pos e]; exact h
       · rename_i e; rw [if_neg e]; simp only [Bool.not_eq_true] at e; obtain ⟨ys, e2, h⟩ := h; rw [e1] at e2; cases e2; rw [e] at h; exact h)
theorem truR_or {x : D} {s : Sto} {A : Sto → Prop} {Q : Bool → Sto → Prop} (h : truR x s fun k t => if k = true then truR x t Q else A t) : truR x s fun k t => if k = true then Q true t else A t := by
  unfold truR at h ⊢
  cases x <;> dsimp only at h ⊢ <;> first
    | (simp only [Bool.false_eq_true, if_false] at h ⊢; exact h)
    | (split at h
       · rename_i e; rw [if_pos e]; rw [e] at h; exact h
       · rename_i e; rw [if_neg e]; exact h)
    | (refine ⟨h.1, ?_⟩
       have h := h.2
       split at h
       · rename_i e; rw [if_pos e]; have := h.2; rw [e] at this; exact this
       · rename_i e; rw [if_neg e]; exact h)
    | (obtain ⟨xs, e1, h⟩ := h
       refine ⟨xs, e1, ?_⟩
       split at h
       · rename_i e; rw [if_pos e]; obtain ⟨ys, e2, h⟩ := h; rw [e1] at e2; cases e2; rw [e] at h; exact h
       · rename_i e; rw [if_neg e]; exact h)
theorem sem_and {a b : Ex} {σ : L2.St} {H : Hp} {Q : Bool → Hp → Prop} (h : semT M (cal M.P k) (.and a b) σ H Q) : tAnd (semT M (cal M.P k) a) (semT M (cal M.P k) b) σ H Q := by
  obtain ⟨L, st, rl, rs, q⟩ := h
  have q2 : wpT M.P (cal M.P k) a L st (fun j t => if j = true then wpT M.P (cal M.P k) b L t (QLb M st H Q) X0 else QLb M st H Q false t) X0 := by
    refine wpE_mono (cal_mono _ _) a (fun x s q => truR_and o ?_) q
    exact truR_mono (fun j t q => q) q
  refine semT_of (cal_mono _ _) rl rs q2 fun j s H1 q1 e1 r1 => ?_
  cases j with
  | true =>
    simp only [if_true] at q1 ⊢
    exact semT_of (cal_mono _ _) (rl.ext e1) r1 q1 fun j2 s2 H2 q3 e2 r2 => q3 H2 (e1.trans e2) r2
  | false =>
    simp only [Bool.false_eq_true, if_false] at q1 ⊢
    exact q1 H1 e1 r1
theorem sem_or {a b : Ex} {σ : L2.St} {H : Hp} {Q : Bool → Hp → Prop} (h : semT M (cal M.P k) (.or a b) σ H Q) : tOr (semT M (cal M.P k) a) (semT M (cal M.P k) b) σ H Q := by
  obtain ⟨L, st, rl, rs, q⟩ := h
  have q2 : wpT M.P (cal M.P k) a L st (fun j t => if j = true then QLb M st H Q true t else wpT M.P (cal M.P k) b L t (QLb M st H Q) X0) X0 := by
    refine wpE_mono (cal_mono _ _) a (fun x s q => truR_or o ?_) q
    exact truR_mono (fun j t q => q) q
  refine semT_of (cal_mono _ _) rl rs q2 fun j s H1 q1 e1 r1 => ?_
  cases j with
  | true =>
    simp only [if_true] at q1 ⊢
    exact q1 H1 e1 r1
  | false =>
    simp only [Bool.false_eq_true, if_false] at q1 ⊢
    exact semT_of (cal_mono _ _) (rl.ext e1) r1 q1 fun j2 s2 H2 q3 e2 r2 => q3 H2 (e1.trans e2) r2
theorem sem_not {a : Ex} {σ : L2.St} {H : Hp} {Q : Bool → Hp → Prop} (h : semT M (cal M.P k) (.not a) σ H Q) : tNot (semT M (cal M.P k) a) σ H Q := by
  obtain ⟨L, st, rl, rs, q⟩ := h
  refine ⟨L, st, rl, rs, wpE_mono (cal_mono _ _) a (fun x s q => ?_) q⟩
  exact truR_mono (fun j t q => q) q
theorem q_not {a : Ex} {a' : Expr} {pos : Pos} (ha : PT X a' (semT M (cal M.P k) a)) : PT X (.UnaryOp .Not a' pos) (semT M (cal M.P k) (.not a)) := PT.mono (pt_not ha) fun σ H Q h => sem_not o h
theorem p_ite {t a b : Ex} {t' a' b' : Expr} {pos : Pos} (ht : PT X t' (semT M (cal M.P k) t)) (ha : PE X a' (semE M (cal M.P k) a)) (hb : PE X b' (semE M (cal M.P k) b)) : PE X (.IfExp t' a' b' pos) (semE M (cal M.P k) (.ite t a b)) := by
  refine PE.mono (pe_ifExp ht ha hb) fun σ H Q ⟨L, st, rl, rs, q⟩ => ?_
  refine semT_of (cal_mono _ _) rl rs q fun j s H1 q1 e1 r1 => ?_
  cases j with
  | true =>
    simp only [if_true] at q1 ⊢
    exact semE_of (cal_mono _ _) (rl.ext e1) r1 q1 fun d2 s2 v2 H2 q3 e2 r2 w2 => q3 _ _ (e1.trans e2) r2 w2
  | false =>
    simp only [Bool.false_eq_true, if_false] at q1 ⊢
    exact semE_of (cal_mono _ _) (rl.ext e1) r1 q1 fun d2 s2 v2 H2 q3 e2 r2 w2 => q3 _ _ (e1.trans e2) r2 w2
end
end Py

set_option Elab.async false
set_option linter.all false
set_option maxRecDepth 100000
set_option maxHeartbeats 4000000
/-! Soundness of expressions: arguments, displays, calls. -/
namespace Py
open PySem PySem.Spec PyProof.Rows L2
section
variable {M : Mo} {k : Nat} {c : Cfg} {X : Cx} (o : Okx M k c X)
include o
theorem a_nil : PA X [] (semA M (cal M.P k) .nil) := PA.mono pa_nil fun σ H Q ⟨L, st, rl, rs, q⟩ => q _ _ .refl rs .nil
theorem a_cons {e : Ex} {r : Exs} {e' : Expr} {r' : List Expr} (hs : notStar e' = true) (he : PE X e' (semE M (cal M.P k) e)) (hr : PA X r' (semA M (cal M.P k) r)) : PA X (e' :: r') (semA M (cal M.P k) (.cons e r)) := by
  refine PA.mono (pa_cons he hr (star_of hs)) fun σ H Q ⟨L, st, rl, rs, q⟩ => ?_
  refine semE_of (cal_mono _ _) rl rs q fun d s v H1 q1 e1 r1 v1 => ?_
  refine semA_of (cal_mono _ _) (rl.ext e1) r1 q1 fun d2 s2 v2 H2 q2 e2 r2 w2 => ?_
  exact q2 _ _ (e1.trans e2) r2 (.cons (v1.ext e2) w2)
theorem k_nil : PK X [] (semA M (cal M.P k) .nil) := ⟨fun pos pins s σ H Q I ⟨L, st, rl, rs, q⟩ => pk_nil.run pos pins s σ H Q I (q _ _ .refl rs .nil)⟩
theorem k_cons {e : Ex} {r : Exs} {kw : Keyword} {r' : List Keyword} (he : PE X kw.value (semE M (cal M.P k) e)) (hr : PK X r' (semA M (cal M.P k) r)) : PK X (kw :: r') (semA M (cal M.P k) (.cons e r)) := by
  obtain ⟨nm, e', kp⟩ := kw
  refine ⟨fun pos pins s σ H Q I ⟨L, st, rl, rs, q⟩ => (pk_cons he hr).run pos pins s σ H Q I ?_⟩
  refine semE_of (cal_mono _ _) rl rs q fun d s v H1 q1 e1 r1 v1 => ?_
  refine semA_of (cal_mono _ _) (rl.ext e1) r1 q1 fun d2 s2 v2 H2 q2 e2 r2 w2 => ?_
  exact q2 _ _ (e1.trans e2) r2 (.cons (v1.ext e2) w2)
theorem rdS_ok {st : Sto} {H : Hp} {d : D} {xs : List D} {v : V} (r : RelS M st H) (h : M.Rep H d v) (e : rdS st d = some xs) : ∃ b vs, v = .ref b ∧ (SqT M.K H b vs ∨ SqL M.K H b vs) ∧ M.Reps H xs vs ∧ xs.length ≤ sizeLine := by
  unfold rdS at e
  split at e
  · cases e
    obtain ⟨b, vs, rfl, z, s, rr⟩ := h.tup_inv
    exact ⟨b, vs, rfl, .inl s, rr, z⟩
  · obtain ⟨b, vs, rfl, s, rr, z⟩ := rdL_ok r h e
    exact ⟨b, vs, rfl, .inr s, rr, z⟩
theorem a_star {e : Ex} {r : Exs} {e' : Expr} {r' : List Expr} {p : Pos} (he : PE X e' (semE M (cal M.P k) e)) (hr : PA X r' (semA M (cal M.P k) r)) : PA X (.Starred e' p :: r') (semA M (cal M.P k) (.star e r)) := by
  refine PA.mono (StX.pa_star he hr) fun σ H Q ⟨L, st, rl, rs, q⟩ => ?_
  refine semE_of (cal_mono _ _) rl rs q fun d s v H1 q1 e1 r1 v1 => ?_
  obtain ⟨xs, e, q1⟩ := q1
  obtain ⟨b, vs, rfl, sq, rr, _⟩ := rdS_ok o r1 v1 e
  refine ⟨b, vs, rfl, by rw [o.of.K]; exact sq, ?_⟩
  refine semA_of (cal_mono _ _) (rl.ext e1) r1 q1 fun d2 s2 v2 H2 q2 e2 r2 w2 => ?_
  exact q2 _ _ (e1.trans e2) r2 ((rr.ext e2).append w2)
theorem p_tup {es : Exs} {es' : List Expr} {pos : Pos} {n : Nat} (h : PA X es' (semA M (cal M.P k) es)) : PE X (.Tuple es' n pos) (semE M (cal M.P k) (.tup es)) := by
  refine PE.mono (pe_tup h) fun σ H Q ⟨L, st, rl, rs, q⟩ => ?_
  refine semA_of (cal_mono _ _) rl rs q fun ds s vs H1 q1 e1 r1 v1 => ?_
  exact ⟨by rw [← v1.length]; exact q1.1, newT_ok r1 (newT_mono (QL.step e1) q1) v1⟩
theorem p_lst {es : Exs} {es' : List Expr} {pos : Pos} (h : PA X es' (semA M (cal M.P k) es)) : PE X (.List es' pos) (semE M (cal M.P k) (.lst es)) := by
  refine PE.mono (pe_lst h) fun σ H Q ⟨L, st, rl, rs, q⟩ => ?_
  refine semA_of (cal_mono _ _) rl rs q fun ds s vs H1 q1 e1 r1 v1 => ?_
  exact ⟨by rw [← v1.length]; exact q1.1, newL_ok r1 (newL_mono (QL.step e1) q1) v1⟩
theorem p_dnew {pos : Pos} : PE X (.Dict [] [] pos) (semE M (cal M.P k) .dnew) :=
  PE.mono pe_dnewK fun σ H Q ⟨L, st, rl, rs, q⟩ p hp => q p (fresh_sto rs hp) _ _ (.alloc hp) (rs.alloc hp ⟨Nat.zero_le _, [], upd_same, .nil⟩) (.ref p)
/-- a value's truth -/
theorem tru_val {st : Sto} {H : Hp} {d : D} {v : V} {Q : Bool → Sto → Prop} (rs : RelS M st H) (h : M.Rep H d v) (q : truR d st Q) : ∃ b, TruV X.K v H b ∧ Q b st := by
  unfold truR at q
  cases h with
  | non => exact ⟨false, rfl, q⟩
  | bl b => exact ⟨b, rfl, q⟩
  | int i => exact ⟨_, rfl, q⟩
  | str y =>
    refine ⟨_, ⟨q.1, ?_⟩, q.2⟩
    rw [bne, bne, Bool.beq_eq_decide_eq, Bool.beq_eq_decide_eq]
    congr 1
    exact decide_eq_decide.mpr (by omega)
  | tup z sq rr => exact ⟨_, .inr (.inl ⟨_, by rw [o.of.K]; exact sq, by cases rr <;> rfl⟩), q⟩
  | ref p =>
    obtain ⟨xs, e, q⟩ := q
    obtain ⟨b, vs, eb, sq, rr, _⟩ := rdL_ok rs (.ref p) e
    cases eb
    exact ⟨_, .inl ⟨_, by rw [o.of.K]; exact sq, by cases rr <;> rfl⟩, q⟩
  | kl z sq rr =>
    obtain ⟨xs, e, q⟩ := q
    cases e
    exact ⟨_, .inl ⟨_, .inl (.inr ⟨_, sq⟩), by cases rr <;> rfl⟩, q⟩
  | sl z sq rr =>
    obtain ⟨xs, e, q⟩ := q
    cases e
    exact ⟨_, .inl ⟨_, by rw [o.of.K]; exact sq.sq, by cases rr <;> rfl⟩, q⟩
  | _ => obtain ⟨xs, e, q⟩ := q; cases e
theorem p_and {a b : Ex} {a' b' : Expr} {r' : List Expr} {pos : Pos} (ha : PE X a' (semE M (cal M.P k) a)) (hb : PE X (.BoolOp .And (b' :: r') pos) (semE M (cal M.P k) b)) : PE X (.BoolOp .And (a' :: b' :: r') pos) (semE M (cal M.P k) (.and a b)) := by
  refine PE.mono (pe_andT ha hb) fun σ H Q ⟨L, st, rl, rs, q⟩ => ?_
  refine semE_of (cal_mono _ _) rl rs q fun d s v H1 q1 e1 r1 v1 => ?_
  obtain ⟨j, t, q1⟩ := tru_val o r1 v1 q1
  refine ⟨j, t, ?_⟩
  cases j with
  | true =>
    simp only [if_true] at q1 ⊢
    exact semE_of (cal_mono _ _) (rl.ext e1) r1 q1 fun d2 s2 v2 H2 q3 e2 r2 w2 => q3 _ _ (e1.trans e2) r2 w2
  | false =>
    simp only [Bool.false_eq_true, if_false] at q1 ⊢
    exact q1 _ _ e1 r1 v1
theorem p_or {a b : Ex} {a' b' : Expr} {r' : List Expr} {pos : Pos} (ha : PE X a' (semE M (cal M.P k) a)) (hb : PE X (.BoolOp .Or (b' :: r') pos) (semE M (cal M.P k) b)) : PE X (.BoolOp .Or (a' :: b' :: r') pos) (semE M (cal M.P k) (.or a b)) := by
  refine PE.mono (pe_orT ha hb) fun σ H Q ⟨L, st, rl, rs, q⟩ => ?_
  refine semE_of (cal_mono _ _) rl rs q fun d s v H1 q1 e1 r1 v1 => ?_
  obtain ⟨j, t, q1⟩ := tru_val o r1 v1 q1
  refine ⟨j, t, ?_⟩
  cases j with
  | true =>
    simp only [if_true] at q1 ⊢
    exact q1 _ _ e1 r1 v1
  | false =>
    simp only [Bool.false_eq_true, if_false] at q1 ⊢
    exact semE_of (cal_mono _ _) (rl.ext e1) r1 q1 fun d2 s2 v2 H2 q3 e2 r2 w2 => q3 _ _ (e1.trans e2) r2 w2
theorem p_not {a : Ex} {a' : Expr} {pos : Pos} (ha : PE X a' (semE M (cal M.P k) a)) : PE X (.UnaryOp .Not a' pos) (semE M (cal M.P k) (.not a)) := by
  refine PE.mono (pe_notT ha) fun σ H Q ⟨L, st, rl, rs, q⟩ => ?_
  refine semE_of (cal_mono _ _) rl rs q fun d s v H1 q1 e1 r1 v1 => ?_
  obtain ⟨j, t, q1⟩ := tru_val o r1 v1 q1
  exact ⟨j, t, q1 _ _ e1 r1 (.bl _)⟩
theorem p_idx {a b : Ex} {a' b' : Expr} {pos : Pos} (hs : notSlice b' = true) (ha : PE X a' (semE M (cal M.P k) a)) (hb : PE X b' (semE M (cal M.P k) b)) : PE X (.Subscript a' b' pos) (semE M (cal M.P k) (.idx a b)) := by
  refine PE.mono (pe_ix (snd_idx o.of) ha hb (plainIx_of hs)) fun σ H Q ⟨L, st, rl, rs, q⟩ => ?_
  refine semE_of (cal_mono _ _) rl rs q fun d s v H1 q1 e1 r1 v1 => ?_
  refine semE_of (cal_mono _ _) (rl.ext e1) r1 q1 fun d2 s2 v2 H2 q2 e2 r2 w2 => ?_
  exact ⟨d, d2, s2, v1.ext e2, w2, r2, idxR_mono (QL.step (e1.trans e2)) q2⟩
end
/-- an optional part of a slice -/
def tOptI (M : Mo) (G : Cal) (x : Exs) : TO := fun σ H Q => ∃ L st, RelL M H L σ ∧ RelS M st H ∧ wpA M.P G x L st (fun ds s => ∃ i, optI ds = some i ∧ ∀ H', Ext M st H s H' → RelS M s H' → Q i H') X0
theorem PO.mono {X : Cx} {e : Option Expr} {t t' : TO} (h : PO X e t) (k : ∀ σ H Q, t' σ H Q → t σ H Q) : PO X e t' := ⟨fun pins s σ H Q I q => h.run pins s σ H Q I (k σ H Q q)⟩
section
variable {M : Mo} {k : Nat} {c : Cfg} {X : Cx} (o : Okx M k c X)
include o
theorem o_nil : PO X none (tOptI M (cal M.P k) .nil) := PO.mono po_none fun σ H Q ⟨L, st, rl, rs, i, e, q⟩ => by cases e; exact q H .refl rs
theorem o_some {e : Ex} {e' : Expr} (he : PE X e' (semE M (cal M.P k) e)) : PO X (some e') (tOptI M (cal M.P k) (.cons e .nil)) := by
  refine PO.mono (po_some he) fun σ H Q ⟨L, st, rl, rs, q⟩ => ?_
  refine semE_of (cal_mono _ _) rl rs q fun d s v H1 q1 e1 r1 v1 => ?_
  obtain ⟨i, e, q1⟩ := q1
  unfold optI at e
  split at e
  · rename_i h; cases h
  · rename_i j h
    cases h
    cases e
    cases v1
    exact ⟨j, rfl, q1 H1 e1 r1⟩
  · cases e
theorem p_slc {a : Ex} {lo hi : Exs} {a' : Expr} {lo' hi' : Option Expr} {p pos : Pos} (ha : PE X a' (semE M (cal M.P k) a)) (hl : PO X lo' (tOptI M (cal M.P k) lo)) (hh : PO X hi' (tOptI M (cal M.P k) hi)) : PE X (.Subscript a' (.Slice lo' hi' none p) pos) (semE M (cal M.P k) (.slc a lo hi)) := by
  refine PE.mono (pe_slice (snd_slc o.of) ha hl hh) fun σ H Q ⟨L, st, rl, rs, q⟩ => ?_
  refine semE_of (cal_mono _ _) rl rs q fun d s v H1 q1 e1 r1 v1 => ?_
  refine ⟨L, s, rl.ext e1, r1, wpA_mono (cal_mono _ _) lo (fun l t ⟨i, ei, q3⟩ => ⟨i, ei, fun H2 e2 r2 => ?_⟩) q1⟩
  refine ⟨L, t, rl.ext (e1.trans e2), r2, wpA_mono (cal_mono _ _) hi (fun h u ⟨j, ej, q4⟩ => ⟨j, ej, fun H3 e3 r3 => ?_⟩) q3⟩
  exact ⟨d, u, v1.ext (e2.trans e3), r3, slcR_mono (QL.step (e1.trans (e2.trans e3))) q4⟩
theorem p_rev {a : Ex} {a' : Expr} {kk : Nat} {p1 p2 p3 pos : Pos} (ha : PE X a' (semE M (cal M.P k) a)) : PE X (.Subscript a' (.Slice none none (some (.UnaryOp .USub (.Constant (.int 1) kk p1) p2)) p3) pos) (semE M (cal M.P k) (.rev a)) := by
  refine PE.mono (pe_revL ha) fun σ H Q ⟨L, st, rl, rs, q⟩ => ?_
  refine semE_of (cal_mono _ _) rl rs q fun d s v H1 q1 e1 r1 v1 => ?_
  obtain ⟨xs, e, q2⟩ := q1
  obtain ⟨b, vs, rfl, sq, rr, _⟩ := rdL_ok r1 v1 e
  exact ⟨b, vs, rfl, by rw [o.of.K]; exact sq, newL_ok r1 (newL_mono (QL.step e1) q2) rr.reverse⟩
end
end Py

set_option Elab.async false
set_option linter.all false
set_option maxRecDepth 100000
set_option maxHeartbeats 4000000
/-! Locking the things that a call is handed. -/
namespace Py
open PySem PySem.Spec PyProof.Rows L2
theorem ixOf_at {f : Str} : ∀ {l : List Str} {i : Nat}, l.Nodup → l[i]? = some f → ixOf f l = some i
  | [], i, _, e => by simp at e
  | g :: r, 0, _, e => by
    simp only [List.getElem?_cons_zero, Option.some.injEq] at e
    unfold ixOf; rw [if_pos e]
  | g :: r, i + 1, nd, e => by
    have e' : r[i]? = some f := by simpa using e
    have hm : f ∈ r := List.mem_of_getElem? e'
    have hne : g ≠ f := fun z => by rw [z] at nd; exact (List.nodup_cons.mp nd).1 hm
    unfold ixOf
    rw [if_neg hne, ixOf_at (List.nodup_cons.mp nd).2 e']
    rfl
section
variable {M : Mo} {H : Hp}
theorem pre_from {fs : List (Str × D)} {slots : List Str} {vs : List (Option V)} (h : ∀ f d, fs.lookup f = some d → ∃ i v, ixOf f slots = some i ∧ vs[i]? = some (some v) ∧ M.Rep H d v) :
    ∀ (l : List Str) (n : Nat), (∀ j f, l[j]? = some f → ixOf f slots = some (n + j)) → RepSl M.K M.mg H (pre fs l) (vs.drop n)
  | [], n, _ => .nil
  | f :: r, n, hl => by
    have ih := pre_from h r (n + 1) fun j g e => by
      have := hl (j + 1) g (by simpa using e)
      rw [this]; congr 1; omega
    have hp : pre fs (f :: r) = (fs.lookup f).getD .und :: pre fs r := rfl
    rw [hp]
    cases q : fs.lookup f with
    | none =>
      by_cases lt : n < vs.length
      · rw [List.drop_eq_getElem_cons lt]; exact .skip ih
      · rw [List.drop_eq_nil_of_le (by omega)]
        rw [List.drop_eq_nil_of_le (by omega)] at ih
        exact .skip0 ih
    | some d =>
      obtain ⟨i, v, h1, h2, h3⟩ := h f d q
      have h0 := hl 0 f rfl
      rw [h1] at h0
      have hi : i = n := by simpa using h0
      subst hi
      have lt := (List.getElem?_eq_some_iff.mp h2).1
      rw [List.drop_eq_getElem_cons lt, (List.getElem?_eq_some_iff.mp h2).2]
      exact .cons h3 ih
theorem pre_ok {fs : List (Str × D)} {slots : List Str} {vs : List (Option V)} (nd : slots.Nodup) (h : ∀ f d, fs.lookup f = some d → ∃ i v, ixOf f slots = some i ∧ vs[i]? = some (some v) ∧ M.Rep H d v) : RepSl M.K M.mg H (pre fs slots) vs := by
  have := pre_from h slots 0 fun j f e => by rw [ixOf_at nd e]; simp
  simpa using this
end
/-- the address of a thing that can be locked -/
def lkA (P : Prog) (st : Sto) (d : D) : Option Addr := match d with
  | .ref a => (match lockD P st (.ref a) with
    | .ref _ => none
    | _ => some a)
  | _ => none
theorem lk_none {P : Prog} {st : Sto} {d : D} (h : lkA P st d = none) : lockD P st d = d := by
  unfold lkA at h
  cases d with
  | ref a =>
    dsimp only at h
    unfold lockD at h ⊢
    dsimp only at h ⊢
    split at h <;> first | rfl | cases h
    rename_i heq
    split at heq <;> first | cases heq | skip
    · split at heq
      · split at heq
        · cases heq
        · rename_i h1 h2 h3 ; simp_all
      · simp_all
    · simp_all
  | _ => rfl
/-- what is locked at an address, and what it reads as -/
structure LkAt (M : Mo) (st : Sto) (H : Hp) (d : D) (a : Addr) (u : HO) : Prop where
  eq : d = .ref a
  at_ : H a = some u
  mu : Mut (some u)
  ntup : ∀ xs, u ≠ .tup xs
  nfrz : ∀ o y, u ≠ .frz o y
  nxd : u ≠ .xd []
  nown : Stab u
  kind : lkL st d = false → (∀ xs, u ≠ .lst xs) ∧ ∀ xs, u ≠ .dK xs
  rep : ∀ {Hl : Hp} {o : Obj}, (∀ a xs, SqT M.K H a xs → SqT M.K Hl a xs) → FzM H Hl → Hl a = some (.frz o u) → M.Rep Hl (lockD M.P st d) (.ref a)
theorem lk_at {M : Mo} {st : Sto} {H : Hp} {d : D} {a : Addr} (rs : RelS M st H) (h : lkA M.P st d = some a) : ∃ u, LkAt M st H d a u := by
  unfold lkA at h
  cases d with
  | ref b =>
    dsimp only at h
    split at h
    · cases h
    · rename_i hne
      cases h
      unfold lockD at hne
      dsimp only at hne
      cases q : st a with
      | none => rw [q] at hne; exact (hne a rfl).elim
      | some ob =>
        obtain ⟨u, hu, n1, n3, n2, n5⟩ := (rs.1 a _ q).there
        cases ob with
        | lst xs =>
          obtain ⟨z, vs, h1, rr⟩ := rs.1 a _ q
          rw [h1] at hu; cases hu
          refine ⟨_, rfl, h1, trivial, n1, n2, n3, n5, fun hk => ?_, fun t f e => ?_⟩
          · unfold lkL at hk; simp [q] at hk
          · unfold lockD; simp only [q]
            exact .kl z e (Reps.mono t f rr)
        | dct kvs =>
          obtain ⟨z, vs, h1, kr⟩ := rs.1 a _ q
          rw [h1] at hu; cases hu
          refine ⟨_, rfl, h1, trivial, n1, n2, n3, n5, fun hk => ?_, fun t f e => ?_⟩
          · unfold lkL at hk; simp [q] at hk
          · unfold lockD; simp only [q]
            have all : ∀ {kvs : List (Key × D)} {vs : List (Key × V)}, KReps M H kvs vs → (kvs.map (·.1)).zip (vs.map (·.2)) = vs ∧ M.Reps H (kvs.map (·.2)) (vs.map (·.2)) := by
              intro kvs vs r
              induction r with
              | nil => exact ⟨rfl, .nil⟩
              | cons p _ ih => exact ⟨by simp only [List.map_cons, List.zip_cons_cons, ih.1, p.1], .cons p.2 ih.2⟩
            obtain ⟨e1, e2⟩ := all kr
            exact .kd (by rw [List.length_map]; exact z) (by simp) (by rw [e1]; exact e) (Reps.mono t f e2)
        | set ks => rw [q] at hne; exact (hne a rfl).elim
        | ins c fs =>
          rw [q] at hne
          dsimp only at hne
          obtain ⟨C, cd, hm, hcd, h3⟩ := rs.1 a _ q
          rw [hcd] at hne
          dsimp only at hne
          by_cases hc : cd.slotted = true ∧ cd.slots.Nodup ∧ preOk fs cd.slots = true
          · rw [if_pos hc.1] at h3
            obtain ⟨dx, vs, h4, h5, h6⟩ := h3
            have g2 := pre_ok hc.2.1 h6
            rcases h5 with ⟨h5, e5⟩ | ⟨h5, h7⟩
            · exfalso
              obtain ⟨f, hf1, hf2⟩ := List.any_eq_true.mp hc.2.2
              obtain ⟨z, hz⟩ := Option.isSome_iff_exists.mp hf2
              obtain ⟨i, v, _, q2, _⟩ := h6 f z hz
              rw [e5] at q2; simp at q2
            · rw [h5] at hu; cases hu
              refine ⟨_, rfl, h5, trivial, n1, n2, n3, n5, fun _ => ⟨fun _ => nofun, fun _ => nofun⟩, fun t f e => ?_⟩
              unfold lockD; simp only [q, hcd]
              rw [if_pos hc]
              exact .ob hm h4 e (f.2 _ h7) (RepSl.mono t f g2)
          · rw [if_neg hc] at hne
            exact (hne a rfl).elim
  | _ => cases h
def lkH (od : Addr → Obj) (as : List Addr) (H : Hp) : Hp := fun b => if b ∈ as then (H b).map (HO.frz (od b)) else H b
section
variable {X : Cx} {pins : List (Addr × Obj)} {σ : L2.St} {H : Hp} {s : Shared}
theorem lock_all (I : Inv X pins σ H s) : ∀ as : List Addr, (∀ a ∈ as, ∃ u, H a = some u ∧ Mut (some u)) → ∃ od, Inv X pins σ (lkH od as H) s
  | [], _ => ⟨fun _ => { cls := .type "list", data := .seq #[] 0 }, by
      have : lkH (fun _ => { cls := .type "list", data := .seq #[] 0 }) [] H = H := by funext b; unfold lkH; simp
      rw [this]; exact I⟩
  | a :: r, h => by
    obtain ⟨od, I1⟩ := lock_all I r fun b hb => h b (List.mem_cons_of_mem _ hb)
    by_cases ha : a ∈ r
    · refine ⟨od, ?_⟩
      have : lkH od (a :: r) H = lkH od r H := by
        funext b; unfold lkH
        by_cases hb : b = a
        · subst hb; simp [ha]
        · simp [hb]
      rw [this]; exact I1
    · obtain ⟨u, hu, mu⟩ := h a (List.mem_cons_self ..)
      have hl : lkH od r H a = some u := by unfold lkH; rw [if_neg ha]; exact hu
      obtain ⟨o1, I2⟩ := I1.lock hl mu
      refine ⟨fun b => if b = a then o1 else od b, ?_⟩
      have : lkH (fun b => if b = a then o1 else od b) (a :: r) H = upd (lkH od r H) a (.frz o1 u) := by
        funext b
        by_cases hb : b = a
        · subst hb; rw [upd_same]; unfold lkH; simp [hu]
        · rw [upd_ne hb]; unfold lkH; simp [hb]
      rw [this]; exact I2
theorem unlock_all {H' : Hp} {s' : Shared} (I : Inv X pins σ H' s') (U : Addr → Option HO) : ∀ as : List Addr, (∀ a ∈ as, ∃ o u, U a = some u ∧ H' a = some (.frz o u) ∧ ∀ o' u', X.H_0 a ≠ some (.frz o' u')) → Inv X pins σ (fun b => if b ∈ as then U b else H' b) s'
  | [], _ => by
    have : (fun b => if b ∈ ([] : List Addr) then U b else H' b) = H' := by funext b; simp
    rw [this]; exact I
  | a :: r, h => by
    have I1 := unlock_all I U r fun b hb => h b (List.mem_cons_of_mem _ hb)
    by_cases ha : a ∈ r
    · have : (fun b => if b ∈ a :: r then U b else H' b) = (fun b => if b ∈ r then U b else H' b) := by
        funext b
        by_cases hb : b = a
        · subst hb; simp [ha]
        · simp [hb]
      rw [this]; exact I1
    · obtain ⟨o, u, h1, h2, h3⟩ := h a (List.mem_cons_self ..)
      have I2 := I1.unlock (d := a) (od := o) (u := u) (by rw [if_neg ha]; exact h2) h3
      have : (fun b => if b ∈ a :: r then U b else H' b) = upd (fun b => if b ∈ r then U b else H' b) a u := by
        funext b
        by_cases hb : b = a
        · subst hb; rw [upd_same]; simp [h1]
        · rw [upd_ne hb]; simp [hb]
      rw [this]; exact I2
end
end Py

set_option Elab.async false
set_option linter.all false
set_option maxRecDepth 100000
set_option maxHeartbeats 4000000
/-! Soundness of expressions: calls, attributes. -/
namespace Py
open PySem PySem.Spec PyProof.Rows L2
section
variable {M : Mo} {k : Nat} {c : Cfg} {X : Cx}
theorem FnIn.at {c f : Str} {fd : Fd} {a : Addr} {fdat : FuncData} {base : Heap} (F : FnIn M base k c f fd a fdat) (hX : XOf M X) (hb : X.base = base) : FnOk X.prog X.w X.K X.mg X.base CX0 (2 * k) a fdat fd.ps (spOf M (cal M.P k) c f fd) := by
  rw [hX.p, hX.w, hX.K, hX.mg, hb]
  exact F.ok
theorem bindK_nil {ps : List Str} {dfl ds xs : List D} (h : bindK ps dfl ds [] = some xs) : ps.length - dfl.length ≤ ds.length ∧ ds.length ≤ ps.length ∧ xs = ds ++ dfl.drop (ds.length - (ps.length - dfl.length)) := by
  unfold bindK at h
  rw [if_pos rfl] at h
  split at h
  · rename_i e
    cases h
    exact ⟨e.1, e.2, rfl⟩
  · cases h
theorem bindK_cons {ps ks : List Str} {dfl ds xs : List D} {k0 : Str} (h : bindK ps dfl ds (k0 :: ks) = some xs) : ds.length = (k0 :: ks).length ∧ (k0 :: ks).Nodup ∧ (∀ k ∈ k0 :: ks, k ∈ ps) ∧ (ps.mapM fun p => ((k0 :: ks).zip ds).lookup p) = some xs := by
  unfold bindK at h
  rw [if_neg (fun z => nomatch z)] at h
  split at h
  · rename_i e
    exact ⟨e.1, e.2.2.1, e.2.2.2, h⟩
  · cases h
theorem look_reps {H : Hp} {p : Str} {d : D} : ∀ {ks : List Str} {ds : List D} {vs : List V}, M.Reps H ds vs → (ks.zip ds).lookup p = some d → ∃ v, (ks.zip vs).lookup p = some v ∧ M.Rep H d v
  | [], _, _, _, h => by cases h
  | _ :: _, _, _, .nil, h => by cases h
  | k :: ks, _, _, .cons h1 r, h => by
    rw [List.zip_cons_cons, List.lookup_cons] at h ⊢
    split
    · rename_i e; rw [e] at h; cases h; exact ⟨_, rfl, h1⟩
    · rename_i e; rw [e] at h; exact look_reps r h
theorem look_vals {p : Str} {d : V} : ∀ {ks : List Str} {ds : List V} {vs : List Value}, Vals ds vs → (ks.zip ds).lookup p = some d → ∃ v, (ks.zip vs).lookup p = some v ∧ RelV d v
  | [], _, _, _, h => by cases h
  | _ :: _, _, _, .nil, h => by cases h
  | k :: ks, _, _, .cons h1 r, h => by
    rw [List.zip_cons_cons, List.lookup_cons] at h ⊢
    split
    · rename_i e; rw [e] at h; cases h; exact ⟨_, rfl, h1⟩
    · rename_i e; rw [e] at h; exact look_vals r h
theorem mapM_len {α β : Type} {f : α → Option β} : ∀ {l : List α} {r : List β}, l.mapM f = some r → r.length = l.length
  | [], r, h => by cases h; rfl
  | a :: l, r, h => by
    rw [List.mapM_cons] at h
    cases e : f a with
    | none => rw [e] at h; cases h
    | some b =>
      rw [e] at h
      cases e2 : l.mapM f with
      | none => rw [e2] at h; cases h
      | some bs => rw [e2] at h; cases h; rw [List.length_cons, List.length_cons, mapM_len e2]
theorem picks {H : Hp} {ks : List Str} {ds : List D} {vs : List V} {us : List Value} (rr : M.Reps H ds vs) (r : Vals vs us) : ∀ {ps : List Str} {xs : List D}, (ps.mapM fun p => (ks.zip ds).lookup p) = some xs →
    ∃ ys zs, (ps.mapM fun p => (ks.zip us).lookup p) = some zs ∧ Vals ys zs ∧ M.Reps H xs ys
  | [], xs, h => by cases h; exact ⟨[], [], rfl, .nil, .nil⟩
  | p :: ps, xs, h => by
    rw [List.mapM_cons] at h
    cases e : (ks.zip ds).lookup p with
    | none => rw [e] at h; cases h
    | some d =>
      rw [e] at h
      cases e2 : ps.mapM fun p => (ks.zip ds).lookup p with
      | none => rw [e2] at h; cases h
      | some ds' =>
        rw [e2] at h
        cases h
        obtain ⟨ys, zs, h1, h2, h3⟩ := picks rr r e2
        obtain ⟨v, k1, k2⟩ := look_reps rr e
        obtain ⟨u, k3, k4⟩ := look_vals r k1
        exact ⟨v :: ys, u :: zs, by rw [List.mapM_cons, k3, h1]; rfl, .cons k4 h2, .cons k2 h3⟩
/-- the positional values of a call, its keywords: a call has one of both -/
def posOf : List Str → List Value → List Value
  | [], us => us
  | _ :: _, _ => []
def kwOf : List Str → List Value → List (Str × Value)
  | [], _ => []
  | k :: ks, us => (k :: ks).zip us
/-- the callee runs -/
theorem run_sem {cc f : Str} {fd : Fd} {a : Addr} {fdat : FuncData} {pins : List (Addr × Obj)} {σ : L2.St} {H : Hp} {s : Shared} {Q : VK} {us : List Value} {vs : List V} {ds xs : List D} {ks : List Str} {st : Sto} (o : Okx M k c X) (F : FnIn M X.base k cc f fd a fdat)
    (I : Inv X pins σ H s) (r : Vals vs us) (rr : M.Reps H ds vs) (rs : RelS M st H) (hb : bindK fd.ps fd.dfl ds ks = some xs) (q : cal M.P k cc f xs st (QL M st H Q) X0) (hl : 0 < k) : wpAny (model X.prog X.w) X.A (call (.ref a) (posOf ks us) (kwOf ks us)) (EP X pins σ Q) X.xe s := by
  cases ks with
  | nil =>
    obtain ⟨h1, h2, rfl⟩ := bindK_nil hb
    obtain ⟨dvs, dz, hd, hr, hB⟩ := F.bnd ds.length h1 h2
    have len : (ds ++ fd.dfl.drop (ds.length - (fd.ps.length - fd.dfl.length))).length = fd.ps.length := by
      have := F.dl
      rw [List.length_append, List.length_drop]; omega
    exact run_fn (F.at o.of rfl) (o.room.mono (by omega)) (by rw [o.of.K]; exact hB) hd pass0 I r ⟨_, st, rr.append (hr H), rs, len, q⟩
  | cons k0 ks =>
    obtain ⟨h1, h2, h3, h4⟩ := bindK_cons hb
    obtain ⟨ys, zs, g1, g2, g3⟩ := picks rr r h4
    have hu : us.length = (k0 :: ks).length := by rw [← r.length, ← rr.length]; exact h1
    refine wpAny_call (codeAny_mono ((F.at o.of rfl).run X.A X.stack s H ⟨[], (k0 :: ks).zip us⟩ zs ys Q (fun _ _ _ => False) (o.room.mono (by omega)) I.env0 (F.kbd s _ _ _ h2 h3 hu g1) g2 ⟨_, st, g3, rs, mapM_len h4, q⟩) fun r s' hq => ?_)
    cases r with
    | error e => exact pass0 pins σ H s e s' I hq
    | ok fl =>
      cases fl with
      | ret u => exact I.after hq
      | next => exact False.elim hq
      | brk => exact False.elim hq
      | cont => exact False.elim hq
theorem noKl_mono {H H' : Hp} (t : ∀ a xs, SqT M.K H a xs → SqT M.K H' a xs) : (∀ {d : D} {v : V}, noKl d = true → M.Rep H d v → M.Rep H' d v) ∧ ∀ {ds : List D} {vs : List V}, noKls ds = true → M.Reps H ds vs → M.Reps H' ds vs := by
  have go : ∀ n : Nat, (∀ {d : D} {v : V}, sizeOf d < n → noKl d = true → M.Rep H d v → M.Rep H' d v) ∧ ∀ {ds : List D} {vs : List V}, sizeOf ds < n → noKls ds = true → M.Reps H ds vs → M.Reps H' ds vs := by
    intro n
    induction n with
    | zero => exact ⟨fun h => absurd h (Nat.not_lt_zero _), fun h => absurd h (Nat.not_lt_zero _)⟩
    | succ n ih =>
      refine ⟨fun {d v} hn h r => ?_, fun {ds vs} hn h r => ?_⟩
      · cases r with
        | tup z s r =>
          unfold noKl at h
          refine .tup z (t _ _ s) (ih.2 ?_ h r)
          simp only [D.tup.sizeOf_spec] at hn; omega
        | non => exact .non
        | bl b => exact .bl b
        | int b => exact .int b
        | str b => exact .str b
        | ty b => exact .ty b
        | ref b => exact .ref b
        | glo b => exact .glo b
        | _ => unfold noKl at h; cases h
      · cases r with
        | nil => exact .nil
        | cons h1 r1 =>
          unfold noKls at h
          rw [Bool.and_eq_true] at h
          simp only [List.cons.sizeOf_spec] at hn
          exact .cons (ih.1 (by omega) h.1 h1) (ih.2 (by omega) h.2 r1)
  exact ⟨fun h r => (go _).1 (Nat.lt_succ_self _) h r, fun h r => (go _).2 (Nat.lt_succ_self _) h r⟩
theorem noOb_mono {H H' : Hp} (t : ∀ a xs, SqT M.K H a xs → SqT M.K H' a xs) (l : ∀ a o xs, H a = some (.frz o (.lst xs)) → H' a = some (.frz o (.lst xs))) (dk : ∀ a o xs, H a = some (.frz o (.dK xs)) → H' a = some (.frz o (.dK xs))) :
    (∀ {d : D} {v : V}, noOb d = true → M.Rep H d v → M.Rep H' d v) ∧ ∀ {ds : List D} {vs : List V}, noObs ds = true → M.Reps H ds vs → M.Reps H' ds vs := by
  have go : ∀ n : Nat, (∀ {d : D} {v : V}, sizeOf d < n → noOb d = true → M.Rep H d v → M.Rep H' d v) ∧ ∀ {ds : List D} {vs : List V}, sizeOf ds < n → noObs ds = true → M.Reps H ds vs → M.Reps H' ds vs := by
    intro n
    induction n with
    | zero => exact ⟨fun h => absurd h (Nat.not_lt_zero _), fun h => absurd h (Nat.not_lt_zero _)⟩
    | succ n ih =>
      refine ⟨fun {d v} hn h r => ?_, fun {ds vs} hn h r => ?_⟩
      · cases r with
        | tup z s r =>
          unfold noOb at h
          refine .tup z (t _ _ s) (ih.2 ?_ h r)
          simp only [D.tup.sizeOf_spec] at hn; omega
        | kl z s r =>
          unfold noOb at h
          refine .kl z (l _ _ _ s) (ih.2 ?_ h r)
          simp only [D.kl.sizeOf_spec] at hn; omega
        | sl z s r =>
          unfold noOb at h
          refine .sl z (s.elim (fun ⟨o, e⟩ => .inl ⟨o, l _ _ _ e⟩) .inr) (ih.2 ?_ h r)
          simp only [D.sl.sizeOf_spec] at hn; omega
        | kd z e s r =>
          unfold noOb at h
          refine .kd z e (dk _ _ _ s) (ih.2 ?_ h r)
          simp only [D.kd.sizeOf_spec] at hn; omega
        | non => exact .non
        | bl b => exact .bl b
        | int b => exact .int b
        | str b => exact .str b
        | ty b => exact .ty b
        | ref b => exact .ref b
        | glo b => exact .glo b
        | ob _ _ _ _ _ => unfold noOb at h; cases h
      · cases r with
        | nil => exact .nil
        | cons h1 r1 =>
          unfold noObs at h
          rw [Bool.and_eq_true] at h
          simp only [List.cons.sizeOf_spec] at hn
          exact .cons (ih.1 (by omega) h.1 h1) (ih.2 (by omega) h.2 r1)
  exact ⟨fun h r => (go _).1 (Nat.lt_succ_self _) h r, fun h r => (go _).2 (Nat.lt_succ_self _) h r⟩
/-- the callee runs with its arguments locked -/
theorem run_semB {cc f : Str} {fd : Fd} {a : Addr} {fdat : FuncData} {pins : List (Addr × Obj)} {σ : L2.St} {H : Hp} {s : Shared} {Q : VK} {us : List Value} {vs : List V} {ds xs : List D} {ks : List Str} {st : Sto} (o : Okx M k c X) (F : FnIn M X.base k cc f fd a fdat)
    (I : Inv X pins σ H s) (r : Vals vs us) (rr : M.Reps H ds vs) (rs : RelS M st H) (hb : bindK fd.ps fd.dfl (ds.map (lockD M.P st)) ks = some xs) (q : cal M.P k cc f xs nost (fun v _ => resOk st ds v = true ∧ QL M st H Q v st) X0) (hl : 0 < k) : wpAny (model X.prog X.w) X.A (call (.ref a) (posOf ks us) (kwOf ks us)) (EP X pins σ Q) X.xe s := by
  have hlk : ∀ b ∈ ds.filterMap (lkA M.P st), ∃ d ∈ ds, ∃ u, LkAt M st H d b u := fun b hb => by
    obtain ⟨d, h1, h2⟩ := List.mem_filterMap.mp hb
    exact ⟨d, h1, lk_at rs h2⟩
  generalize has : ds.filterMap (lkA M.P st) = as at hlk
  obtain ⟨od, I1⟩ := lock_all I as fun b hb => let ⟨d, _, u, h⟩ := hlk b hb; ⟨u, h.at_, h.mu⟩
  have x2 : ∀ b ob y, H b = some (.frz ob y) → lkH od as H b = some (.frz ob y) := fun b ob y h => by
    unfold lkH
    by_cases hb : b ∈ as
    · obtain ⟨d, _, u, hu⟩ := hlk b hb
      rw [hu.at_] at h; cases h; exact (hu.nfrz _ _ rfl).elim
    · rw [if_neg hb]; exact h
  have x3 : ∀ b, H b = some (.xd []) → lkH od as H b = some (.xd []) := fun b h => by
    unfold lkH
    by_cases hb : b ∈ as
    · obtain ⟨d, _, u, hu⟩ := hlk b hb
      rw [hu.at_] at h; cases h; exact (hu.nxd rfl).elim
    · rw [if_neg hb]; exact h
  have x1 : ∀ b ys, SqT M.K H b ys → SqT M.K (lkH od as H) b ys := fun b ys h => by
    rcases h with (h | ⟨ob, h⟩) | h
    · refine .inl (.inl ?_)
      unfold lkH
      by_cases hb : b ∈ as
      · obtain ⟨d, _, u, hu⟩ := hlk b hb
        rw [hu.at_] at h; cases h; exact (hu.ntup _ rfl).elim
      · rw [if_neg hb]; exact h
    · exact .inl (.inr ⟨ob, x2 _ _ _ h⟩)
    · exact .inr h
  have rr2 : M.Reps (lkH od as H) (ds.map (lockD M.P st)) vs := by
    have go : ∀ {es : List D} {ws : List V}, (∀ d ∈ es, d ∈ ds) → M.Reps H es ws → M.Reps (lkH od as H) (es.map (lockD M.P st)) ws := by
      intro es ws hs r
      induction es generalizing ws with
      | nil => cases r; exact .nil
      | cons d es ih =>
        cases r with
        | cons h1 r1 =>
          refine .cons ?_ (ih (fun e he => hs e (List.mem_cons_of_mem _ he)) r1)
          cases hk : lkA M.P st d with
          | none => rw [lk_none hk]; exact Rep.mono x1 ⟨x2, x3⟩ h1
          | some b =>
            obtain ⟨u, hu⟩ := lk_at rs hk
            have hm : b ∈ as := by rw [← has]; exact List.mem_filterMap.mpr ⟨d, hs d (List.mem_cons_self ..), hk⟩
            have e0 := hu.eq
            subst e0
            cases h1
            refine hu.rep (o := od b) x1 ⟨x2, x3⟩ ?_
            unfold lkH; rw [if_pos hm, hu.at_]; rfl
    exact go (fun _ h => h) rr
  have nas : ∀ p ∈ M.tabs, p.2 ∉ as := fun p hp hm => by
    obtain ⟨ps, h1, _⟩ := rs.2 p hp
    obtain ⟨d, _, u, hu⟩ := hlk p.2 hm
    have h2 := hu.at_
    rw [h1] at h2; cases h2
    exact hu.nown
  have tlk : TabsOk M (lkH od as H) := fun p hp => by
    obtain ⟨ps, h1, h2⟩ := rs.2 p hp
    exact ⟨ps, by unfold lkH; rw [if_neg (nas p hp)]; exact h1, h2⟩
  have main := run_sem (Q := fun v H' => (∀ b ∈ as, H' b = lkH od as H b) ∧ Q v (fun b => if b ∈ as then H b else H' b)) (st := nost) o F I1 r rr2 ⟨(fun b ob h => by unfold nost at h; cases h), tlk⟩ hb (cal_mono _ _ _ _ _ _ _ _ _ (fun v s0 q0 w H' e' rs' rw' => ?_) q) hl
  · refine thn main fun v s1 ⟨w, H1, I2, rv, h1, h2⟩ => ?_
    refine ⟨w, _, unlock_all I2 H as (fun b hb => ?_), rv, h2⟩
    obtain ⟨d, _, u, hu⟩ := hlk b hb
    refine ⟨od b, u, hu.at_, ?_, I.nofrz hu.at_ hu.mu⟩
    rw [h1 b hb]; unfold lkH; rw [if_pos hb, hu.at_]; rfl
  · obtain ⟨q1, q2⟩ := q0
    have same : ∀ b ob, lkH od as H b = some ob → Stab ob → H' b = some ob := fun b ob h n => (e'.fr b ob h rfl n).1
    have lkeq : ∀ b ∈ as, H' b = lkH od as H b ∧ ∃ u, H b = some u ∧ lkH od as H b = some (.frz (od b) u) := fun b hb => by
      obtain ⟨d, _, u, hu⟩ := hlk b hb
      have e0 : lkH od as H b = some (.frz (od b) u) := by unfold lkH; rw [if_pos hb, hu.at_]; rfl
      exact ⟨by rw [e0]; exact same b _ e0 trivial, u, hu.at_, e0⟩
    refine ⟨fun b hb => (lkeq b hb).1, ?_⟩
    have back : ∀ b ob, H b = some ob → Stab ob → (fun b => if b ∈ as then H b else H' b) b = some ob := fun b ob h n => by
      dsimp only
      by_cases hb : b ∈ as
      · rw [if_pos hb]; exact h
      · rw [if_neg hb]
        exact same b ob (by unfold lkH; rw [if_neg hb]; exact h) n
    have y2 : ∀ b ob y, H b = some (.frz ob y) → (fun b => if b ∈ as then H b else H' b) b = some (.frz ob y) := fun b ob y h => back b _ h trivial
    have y3 : ∀ b, H b = some (.xd []) → (fun b => if b ∈ as then H b else H' b) b = some (.xd []) := fun b h => back b _ h trivial
    have y1 : ∀ b ys, SqT M.K H b ys → SqT M.K (fun b => if b ∈ as then H b else H' b) b ys := fun b ys h => by
      rcases h with (h | ⟨ob, h⟩) | h
      · exact .inl (.inl (back b _ h trivial))
      · exact .inl (.inr ⟨ob, y2 _ _ _ h⟩)
      · exact .inr h
    have un1 : ∀ b ys, SqT M.K H' b ys → SqT M.K (fun b => if b ∈ as then H b else H' b) b ys := fun b ys h => by
      have nin : ∀ y, H' b = some y → (∀ ob u, (∃ d ∈ ds, LkAt M st H d b u) → y ≠ .frz ob u) → b ∉ as := fun y hy hn hb => by
        obtain ⟨d, hd, u, hu⟩ := hlk b hb
        obtain ⟨e1, u', e2, e3⟩ := lkeq b hb
        rw [e1, e3] at hy
        rw [hu.at_] at e2; cases e2
        exact hn _ _ ⟨d, hd, hu⟩ (Option.some.inj hy).symm
      rcases h with (h | ⟨ob, h⟩) | h
      · refine .inl (.inl ?_)
        dsimp only
        rw [if_neg (nin _ h fun _ _ _ => nofun)]; exact h
      · refine .inl (.inr ⟨ob, ?_⟩)
        dsimp only
        rw [if_neg (nin _ h fun ob' u ⟨d, hd, hu⟩ z => by cases z; exact hu.ntup _ rfl)]; exact h
      · exact .inr h
    refine q2 w _ ⟨fun b ob h1 h2 h3 => ⟨back b ob h1 h3, h2⟩, y1, ⟨y2, y3⟩⟩ ⟨fun b ob hq => ?_, fun p hp => by
      obtain ⟨ps, h1, h2⟩ := rs'.2 p hp
      exact ⟨ps, by show (if p.2 ∈ as then H p.2 else H' p.2) = _; rw [if_neg (nas p hp)]; exact h1, h2⟩⟩ ?_
    · obtain ⟨u, hu, _, _, _, n5⟩ := (rs.1 b ob hq).there
      exact (rs.1 b ob hq).mono (fun u' hu' => by rw [hu] at hu'; cases hu'; exact back b _ hu n5) y1 ⟨y2, y3⟩ y3
    · unfold resOk at q1
      rw [Bool.or_eq_true] at q1
      rcases q1 with q1 | q1
      · exact (noKl_mono un1).1 q1 rw'
      · rw [Bool.and_eq_true] at q1
        have nolk : ∀ b u, (∃ d ∈ ds, LkAt M st H d b u) → (∀ xs, u ≠ .lst xs) ∧ ∀ xs, u ≠ .dK xs := fun b u ⟨d, hd, hu⟩ => by
          have := q1.1
          rw [Bool.not_eq_true', List.any_eq_false] at this
          have h0 := this d hd
          exact hu.kind (by simpa using h0)
        refine (noOb_mono un1 (fun b ob ys h => ?_) fun b ob ys h => ?_).1 q1.2 rw'
        · show (if b ∈ as then H b else H' b) = _
          rw [if_neg]; exact h
          intro hb
          obtain ⟨d, hd, u, hu⟩ := hlk b hb
          obtain ⟨e1, u', e2, e3⟩ := lkeq b hb
          rw [e1, e3] at h; cases h
          rw [hu.at_] at e2; cases e2
          exact (nolk b _ ⟨d, hd, hu⟩).1 _ rfl
        · show (if b ∈ as then H b else H' b) = _
          rw [if_neg]; exact h
          intro hb
          obtain ⟨d, hd, u, hu⟩ := hlk b hb
          obtain ⟨e1, u', e2, e3⟩ := lkeq b hb
          rw [e1, e3] at h; cases h
          rw [hu.at_] at e2; cases e2
          exact (nolk b _ ⟨d, hd, hu⟩).2 _ rfl
theorem run_semK {cc f : Str} {fd : Fd} {a : Addr} {fdat : FuncData} {pins : List (Addr × Obj)} {σ : L2.St} {H : Hp} {s : Shared} {Q : VK} {us : List Value} {vs : List V} {ds : List D} {ks : List Str} {st : Sto} (o : Okx M k c X) (F : FnIn M X.base k cc f fd a fdat)
    (I : Inv X pins σ H s) (r : Vals vs us) (rr : M.Reps H ds vs) (rs : RelS M st H) (q : runR M.P (cal M.P k) cc f fd ds ks st (QL M st H Q) X0) : wpAny (model X.prog X.w) X.A (call (.ref a) (posOf ks us) (kwOf ks us)) (EP X pins σ Q) X.xe s := by
  have pos : ∀ {xs : List D} {t : Sto} {Q' : QD} {E' : XD}, cal M.P k cc f xs t Q' E' → 0 < k := fun h => by
    cases k with
    | zero => exact h.elim
    | succ _ => exact Nat.succ_pos _
  rcases q with ⟨xs, h1, h2⟩ | ⟨xs, h1, h2⟩
  · exact run_sem o F I r rr rs h1 h2 (pos h2)
  · exact run_semB o F I r rr rs h1 h2 (pos h2)
theorem run_semR {cc f : Str} {fd : Fd} {a : Addr} {fdat : FuncData} {pins : List (Addr × Obj)} {σ : L2.St} {H : Hp} {s : Shared} {Q : VK} {us : List Value} {vs : List V} {ds : List D} {st : Sto} (o : Okx M k c X) (F : FnIn M X.base k cc f fd a fdat)
    (I : Inv X pins σ H s) (r : Vals vs us) (rr : M.Reps H ds vs) (rs : RelS M st H) (q : runR M.P (cal M.P k) cc f fd ds [] st (QL M st H Q) X0) : wpAny (model X.prog X.w) X.A (call (.ref a) us) (EP X pins σ Q) X.xe s := run_semK (ks := []) o F I r rr rs q
theorem starEach_plain : ∀ {es : Exs} {c : Cfg} {es' : List Expr} {env : Env} {pos : Pos}, chkA M.P es c es' = true → plainA es = true → (backTo pos (starEach es' env)).any (·.1) = false
  | .nil, _, [], _, _, _, _ => rfl
  | .nil, _, _ :: _, _, _, h, _ => by unfold chkA at h; cases h
  | .cons e r, _, [], _, _, h, _ => by unfold chkA at h; cases h
  | .cons e r, c, e' :: r', env, pos, h, hp => by
    unfold chkA at h
    simp only [Bool.and_eq_true] at h
    rw [star_of h.1]
    unfold backTo
    rw [List.map_cons, List.any_cons]
    have := starEach_plain (es := r) (env := env) (pos := pos) h.2.2 (by unfold plainA at hp; exact hp)
    unfold backTo at this
    rw [this]
    rfl
  | .star _ _, _, _, _, _, _, hp => by unfold plainA at hp; cases hp
theorem cal_pos {cc f : Str} {xs : List D} {st : Sto} {Q : QD} {E : XD} (h : cal M.P k cc f xs st Q E) : 0 < k := by
  cases k with
  | zero => exact h.elim
  | succ _ => exact Nat.succ_pos _
end
section
variable {M : Mo} {k : Nat} {c : Cfg} {X : Cx} (o : Okx M k c X)
include o
theorem p_call {f : Str} {es : Exs} {es' : List Expr} {x : Str} {p pos : Pos} (hf : f = x) (hg : glB c.sc x = true) (hn : okN x = true) (hp : plainA es = true) (hc : chkA M.P es c es' = true) (hs : (M.P.fns.lookup (("" : Str), f)).isSome = true) (ha : PA X es' (semA M (cal M.P k) es)) :
    PE X (.Call (.Name x p) es' [] pos) (semE M (cal M.P k) (.call f es [])) := by
  subst hf
  obtain ⟨fd, hfd⟩ := Option.isSome_iff_exists.mp hs
  obtain ⟨a, fdat, hm, F⟩ := o.fns.dfn f fd hfd
  refine ⟨fun pins s σ H Q I ⟨L, st, rl, rs, q⟩ => ?_⟩
  refine wpAny_Call_Name_kw (ld_glob I (gl_of o.fit hg) (by rw [o.of.mg]; exact hm) ?_ (okN1 hn))
  have fin : ∀ {us : List Value} {s1 : Shared} {vs : List V} {H1 : Hp} {ds : List D} {st1 : Sto}, Inv X pins σ H1 s1 → Vals vs us → M.Reps H1 ds vs → RelS M st1 H1 → Ext M st H st1 H1 → callR M.P (cal M.P k) "" f ds [] st1 (QL M st H Q) X0 →
      wpAny (model X.prog X.w) X.A (call (.ref a) us) (EP X pins σ Q) X.xe s1 := by
    intro us s1 vs H1 ds st1 I1 r1 rr1 rs1 e1 q1
    obtain ⟨fd', h1, h2⟩ := q1
    rw [hfd] at h1; cases h1
    exact run_semR o F I1 r1 rr1 rs1 (runR_mono (cal_mono _ _) (QL.step e1) h2)
  cases es' with
  | nil =>
    have : es = .nil := by
      cases es with
      | nil => rfl
      | cons _ _ => unfold chkA at hc; cases hc
      | star _ _ => unfold plainA at hp; cases hp
    subst this
    exact PySem.W.callWith_K0 I.kIn (by rw [o.of.K]; exact F.kp) (fin (us := []) (vs := []) I .nil .nil rs .refl q)
  | cons e' r' =>
    have hst : notStar e' = true := by
      cases es with
      | nil => unfold chkA at hc; cases hc
      | cons _ _ => unfold chkA at hc; simp only [Bool.and_eq_true] at hc; exact hc.1
      | star _ _ => unfold plainA at hp; cases hp
    have hpl : (backTo pos (starEach r' X.env)).any (·.1) = false := by
      cases es with
      | nil => unfold chkA at hc; cases hc
      | cons _ r => unfold chkA at hc; simp only [Bool.and_eq_true] at hc; unfold plainA at hp; exact starEach_plain hc.2.2 hp
      | star _ _ => unfold plainA at hp; cases hp
    refine PySem.W.callWith_K (h₀ := X.base) I.ok.mod.kin (by rw [o.of.K]; exact F.kp) (thn (ha.run pos pins s σ H _ I (semA_of (R := fun vs H1 => ∃ ds st1, M.Reps H1 ds vs ∧ RelS M st1 H1 ∧ Ext M st H st1 H1 ∧ callR M.P (cal M.P k) "" f ds [] st1 (QL M st H Q) X0) (cal_mono _ _) rl rs q fun ds s1 vs H1 q1 e1 r1 v1 => ⟨ds, s1, v1, r1, e1, q1⟩)) fun us s1 ⟨vs, H1, I1, r, ds, st1, v1, r1, e1, q1⟩ => ⟨I1.kIn, ?_⟩) (star_of hst) hpl
    exact fin I1 r v1 r1 e1 q1
omit o in
theorem kw_names {pos : Pos} {env : Env} : ∀ {kws : List Keyword} {ks : List Str}, kws.map (·.arg) = ks.map some → (backToKw pos (keywordEach kws env)).all (·.1.isSome) = true ∧ (backToKw pos (keywordEach kws env)).filterMap (·.1) = ks ∧ (backToKw pos (keywordEach kws env)).any (·.1.isNone) = false
  | [], [], _ => ⟨rfl, rfl, rfl⟩
  | [], _ :: _, h => by cases h
  | _ :: _, [], h => by cases h
  | ⟨nm, e, p⟩ :: kws, n :: ks, h => by
    rw [List.map_cons, List.map_cons] at h
    injection h with h1 h2
    obtain ⟨a, b, c⟩ := kw_names (pos := pos) (env := env) h2
    have h1 : nm = some n := h1
    subst h1
    exact ⟨a, by show n :: (backToKw pos (keywordEach kws env)).filterMap (·.1) = _; rw [b], c⟩
theorem p_callK {f : Str} {es : Exs} {ks : List Str} {kw : Keyword} {kws : List Keyword} {x : Str} {p pos : Pos} (hf : f = x) (hg : glB c.sc x = true) (hn : okN x = true) (hks : (kw :: kws).map (·.arg) = ks.map some) (hs : (M.P.fns.lookup (("" : Str), f)).isSome = true) (ha : PK X (kw :: kws) (semA M (cal M.P k) es)) :
    PE X (.Call (.Name x p) [] (kw :: kws) pos) (semE M (cal M.P k) (.call f es ks)) := by
  subst hf
  obtain ⟨fd, hfd⟩ := Option.isSome_iff_exists.mp hs
  obtain ⟨a, fdat, hm, F⟩ := o.fns.dfn f fd hfd
  refine ⟨fun pins s σ H Q I ⟨L, st, rl, rs, q⟩ => ?_⟩
  refine wpAny_Call_Name_kw (ld_glob I (gl_of o.fit hg) (by rw [o.of.mg]; exact hm) ?_ (okN1 hn))
  obtain ⟨n1, n2, n3⟩ := kw_names (pos := pos) (env := X.env) hks
  refine PySem.W.callWith_KW0 (h₀ := X.base) I.ok.mod.kin (by rw [o.of.K]; exact F.kp) n1 (thn (ha.run pos pins s σ H _ I (semA_of (R := fun vs H1 => ∃ ds st1, M.Reps H1 ds vs ∧ RelS M st1 H1 ∧ Ext M st H st1 H1 ∧ callR M.P (cal M.P k) "" f ds ks st1 (QL M st H Q) X0) (cal_mono _ _) rl rs q fun ds s1 vs H1 q1 e1 r1 v1 => ⟨ds, s1, v1, r1, e1, q1⟩)) fun us s1 ⟨vs, H1, I1, r, ds, st1, v1, r1, e1, q1⟩ => ⟨I1.kIn, ?_⟩) (by rw [n3]; rfl)
  rw [n2]
  obtain ⟨fd', h1, h2⟩ := q1
  rw [hfd] at h1; cases h1
  have main := run_semK o F I1 r v1 r1 (runR_mono (cal_mono _ _) (QL.step e1) h2)
  cases ks with
  | nil => cases hks
  | cons k0 ks => exact main
theorem put_ins {cc : Str} {C : Addr} {cd : Cd} {st : Sto} {H : Hp} {x dx : Addr} (hm : M.mg cc = some (.ref C)) (hcd : M.P.cls.lookup cc = some cd) (rs : RelS M st H) (hx : H x = none) (hd : H dx = none) (ne : dx ≠ x) :
    RelS M (put st x (.ins cc [])) (upd (upd H dx (.own x)) x (.ins C dx [])) ∧ Ext M st H (put st x (.ins cc [])) (upd (upd H dx (.own x)) x (.ins C dx [])) := by
  have k1 := upd_keeps (o := .own x) hd
  have hx1 : upd H dx (.own x) x = none := by rw [upd_ne (Ne.symm ne)]; exact hx
  have r1 : RelS M st (upd H dx (.own x)) := rs.grow k1
  refine ⟨r1.alloc hx1 ⟨C, cd, hm, hcd, ?_⟩, (Ext.grow k1).trans (.alloc hx1)⟩
  split
  · exact ⟨dx, [], ne, .inl ⟨upd_same, rfl⟩, fun f d q => by cases q⟩
  · exact ⟨dx, [], upd_same, rfl, fun f d q => by cases q⟩
theorem p_new {f : Str} {es : Exs} {es' : List Expr} {x : Str} {p pos : Pos} (hf : f = x) (hg : glB c.sc x = true) (hn : okN x = true) (hp : plainA es = true) (hc : chkA M.P es c es' = true) (hs : (M.P.fns.lookup (f, ("__init__" : Str))).isSome = true) (hne : f ≠ ("" : Str)) (ha : PA X es' (semA M (cal M.P k) es)) :
    PE X (.Call (.Name x p) es' [] pos) (semE M (cal M.P k) (.new f es [])) := by
  subst hf
  obtain ⟨fd, hfd⟩ := Option.isSome_iff_exists.mp hs
  obtain ⟨C, cd, hm, hcd, mk1, mk2⟩ := o.cls.mkr f fd hfd hne
  obtain ⟨a, fdat, mt, F⟩ := o.fns.mth f "__init__" fd C hne hfd hm
  have MK : Mk X.K C a := by rw [o.of.K]; exact ⟨mk1, mt.at_, mt.fn, mk2⟩
  refine ⟨fun pins s σ H Q I ⟨L, st, rl, rs, q⟩ => ?_⟩
  refine wpAny_Call_Name_kw (ld_glob I (gl_of o.fit hg) (by rw [o.of.mg]; exact hm) ?_ (okN1 hn))
  have fin : ∀ {us : List Value} {s1 : Shared} {vs : List V} {H1 : Hp} {ds : List D} {st1 : Sto}, Inv X pins σ H1 s1 → Vals vs us → M.Reps H1 ds vs → RelS M st1 H1 → Ext M st H st1 H1 → newR M.P (cal M.P k) f ds [] st1 (QL M st H Q) X0 →
      wpAny (model X.prog X.w) X.A (call (.ref C) us) (EP X pins σ Q) X.xe s1 := by
    intro us s1 vs H1 ds st1 I1 r1 rr1 rs1 e1 q1
    obtain ⟨fd', h1, h2⟩ := q1
    rw [hfd] at h1; cases h1
    have hx0 : H1 s1.heap.objs.size = none := I1.hok.fresh (Nat.le_refl _)
    obtain ⟨xs0, hb0, _⟩ := h2 s1.heap.objs.size (fresh_sto rs1 hx0)
    obtain ⟨g1, g2, _⟩ := bindK_nil hb0
    obtain ⟨dvs, dz, hd, hr, hB⟩ := F.bnd (ds.length + 1) (by simpa using g1) (by simpa using g2)
    refine run_make MK (F.at o.of rfl) o.room (by rw [o.of.K]; exact hB) hd pass0 I1 r1 fun x dx hx hdx ne => ?_
    obtain ⟨xs, hb, q2⟩ := h2 x (fresh_sto rs1 hx)
    obtain ⟨_, _, rfl⟩ := bindK_nil hb
    obtain ⟨rs2, e2⟩ := put_ins o hm hcd rs1 hx hdx ne
    refine ⟨_, _, ((Reps.cons (.ref x) (rr1.ext e2)).append (hr _)), rs2, ?_, ?_⟩
    · have := F.dl
      rw [List.length_append, List.length_drop]
      simp only [List.length_cons] at g1 g2 ⊢
      omega
    · refine cal_mono _ _ _ _ _ _ _ _ _ (fun d s3 ⟨z, q3⟩ v H3 e3 r3 w3 => ?_) q2
      subst z
      cases w3
      exact ⟨rfl, q3 _ _ (e1.trans (e2.trans e3)) r3 (.ref x)⟩
  cases es' with
  | nil =>
    have : es = .nil := by
      cases es with
      | nil => rfl
      | cons _ _ => unfold chkA at hc; cases hc
      | star _ _ => unfold plainA at hp; cases hp
    subst this
    exact PySem.W.callWith_K0 I.kIn (by rw [o.of.K]; exact mk2) (fin (us := []) (vs := []) I .nil .nil rs .refl q)
  | cons e' r' =>
    have hst : notStar e' = true := by
      cases es with
      | nil => unfold chkA at hc; cases hc
      | cons _ _ => unfold chkA at hc; simp only [Bool.and_eq_true] at hc; exact hc.1
      | star _ _ => unfold plainA at hp; cases hp
    have hpl : (backTo pos (starEach r' X.env)).any (·.1) = false := by
      cases es with
      | nil => unfold chkA at hc; cases hc
      | cons _ r => unfold chkA at hc; simp only [Bool.and_eq_true] at hc; unfold plainA at hp; exact starEach_plain hc.2.2 hp
      | star _ _ => unfold plainA at hp; cases hp
    refine PySem.W.callWith_K (h₀ := X.base) I.ok.mod.kin (by rw [o.of.K]; exact mk2) (thn (ha.run pos pins s σ H _ I (semA_of (R := fun vs H1 => ∃ ds st1, M.Reps H1 ds vs ∧ RelS M st1 H1 ∧ Ext M st H st1 H1 ∧ newR M.P (cal M.P k) f ds [] st1 (QL M st H Q) X0) (cal_mono _ _) rl rs q fun ds s1 vs H1 q1 e1 r1 v1 => ⟨ds, s1, v1, r1, e1, q1⟩)) fun us s1 ⟨vs, H1, I1, r, ds, st1, v1, r1, e1, q1⟩ => ⟨I1.kIn, ?_⟩) (star_of hst) hpl
    exact fin I1 r v1 r1 e1 q1
end
end Py

set_option Elab.async false
set_option linter.all false
set_option maxRecDepth 100000
set_option maxHeartbeats 4000000
/-! sorted of any list or tuple of alike data; fields and methods of locked things; locking. -/
namespace Py
open PySem PySem.Spec PyProof.Rows L2
mutual
theorem reads_lt {h : Heap} : ∀ {v : Value} {d : PyData} {as : List Addr}, Reads h v d as → ∀ a ∈ as, a < h.objs.size
  | _, _, _, .none, _, q => by simp at q
  | _, _, _, .bool _, _, q => by simp at q
  | _, _, _, .int _ _, _, q => by simp at q
  | _, _, _, .str _ _, _, q => by simp at q
  | _, _, _, .list h1 _ _ r, b, q => by
    rcases List.mem_cons.mp q with rfl | q
    · exact Heap.lt_size h1
    · exact readsAll_lt r b q
  | _, _, _, .tuple _ _ _ r, b, q => readsAll_lt r b q
  | _, _, _, .dict h1 _ _ r1 r2, b, q => by
    rcases List.mem_append.mp q with q | q
    · rcases List.mem_cons.mp q with rfl | q
      · exact Heap.lt_size h1
      · exact readsAll_lt r1 b q
    · exact readsAll_lt r2 b q
theorem readsAll_lt {h : Heap} : ∀ {vs : List Value} {ds : List PyData} {as : List Addr}, ReadsAll h vs ds as → ∀ a ∈ as, a < h.objs.size
  | _, _, _, .nil, _, q => by simp at q
  | _, _, _, .cons r rs, b, q => by
    rcases List.mem_append.mp q with q | q
    · exact reads_lt r b q
    · exact readsAll_lt rs b q
end
section
variable {P : Program} {w : World} {A : Around} {E : Value → Shared → Prop} {s : Shared} {a : Addr}
theorem sorted_seq {β : Type} {R : Value → β → Prop} {enc : β → PyData} {bs : List β} {vs : List Value} {T : String} {o : Obj} {n : Nat} {Q : Value → Shared → Prop}
    (hT : T = "list" ∨ T = "tuple") (ho : s.heap.get? a = some o) (hc : o.cls = .type T) (hd : o.data = .seq vs.toArray n) (e : PySem.W.EachIs R vs bs) (er : PySem.W.EachIs (fun v b => ∃ as, Reads s.heap v (enc b) as) vs bs)
    (hal : PySem.W.AllAlike (bs.map enc)) (hk : PySem.W.Sortable (bs.map enc)) (hL : bs.length ≤ sizeLine) (hu : ∀ b, b ∈ bs → A.units + 2 + (enc b).depth < cLine)
    (hQ : ∀ (h1 h2 : Heap) p (out : List Value) (c : Nat), (∀ b o, s.heap.get? b = some o → h1.get? b = some o) → (∀ b o, h1.get? b = some o → h2.get? b = some o) → h1.objs.size ≤ p →
      h2.get? p = some (seqObj "list" out.toArray c) → out.length = bs.length → PySem.W.EachIs R out (bs.mergeSort (PySem.W.dataLe false enc)) → Q (.ref p) { s with heap := h2 }) :
    wpAny (model P w) A (call (.builtin "sorted") [.ref a]) Q E s := by
  have hvl : vs.length ≤ sizeLine := by rw [e.length]; exact hL
  refine Calls.call_function_entry kind_sorted plain_sorted entry_sorted (args_sorted1 _) ?_
  unfold Builtin.«sorted»
  refine wpAny_bind (m := checkCount "sorted" 1 1 _) (wpAny_pure ?_)
  refine wpAny_bind (wpAny_collect_seq (A := A.in1) a hT ho hc hd (fun h' kp => ?_) (by rw [List.size_toArray]; exact hvl))
  rw [List.toList_toArray]
  refine wpAny_bind (wpAny_newList ?_ hvl)
  have hoL : (h'.push (seqObj "list" vs.toArray 0)).get? h'.objs.size = some (seqObj "list" vs.toArray 0) := Heap.get?_push_size _ rfl
  have er2 : PySem.W.EachIs (fun v b => ∃ as, Reads (h'.push (seqObj "list" vs.toArray 0)) v (enc b) as ∧ h'.objs.size ∉ as) vs bs := er.mono fun v b ⟨as, r⟩ =>
    ⟨as, PyProof.Rows.Reads.keeps (fun b u q => Heap.get?_push_of_some _ (kp b u q)) r, fun hm => Nat.lt_irrefl _ (reads_lt (PyProof.Rows.Reads.keeps kp r) _ hm)⟩
  refine wpAny_bind (wpAny_holding (PySem.W.list_sort_data (s := { s with heap := h'.push (seqObj "list" vs.toArray 0) }) (enc := enc) hoL e er2 hal hk hL (fun b hb => ?_) fun out hlo he => ?_))
  · have := hu b hb
    show A.in1.units + 1 + (enc b).depth < cLine
    have : A.in1.units = A.units + 1 := rfl
    omega
  · obtain ⟨c, hc⟩ := sortedHeap_at (vs := vs) (out := out.toArray) hoL
    refine wpAny_pure ⟨_, rfl, hQ h' _ h'.objs.size out c kp (fun b u q => ?_) (Nat.le_refl _) hc hlo he⟩
    have hlt := Heap.lt_size q
    show (sortedHeap (h'.push (seqObj "list" vs.toArray 0)) h'.objs.size vs out.toArray).get? b = some u
    rw [sortedHeap_old (Nat.ne_of_lt hlt) (by rw [size_push']; exact Nat.lt_succ_of_lt hlt)]
    exact Heap.get?_push_of_some _ q
end
section
variable {X : Cx} {pins : List (Addr × Obj)} {σ : L2.St} {H : Hp} {s : Shared} {a C dx p : Addr} {ob : Obj} {vs : List (Option V)} {f m : Str} {i : Nat} {v : V} {A : Around} {E : Value → Shared → Prop}
/-- a locked thing's object -/
theorem frz_inst (I : Inv X pins σ H s) (h : H a = some (.frz ob (SlX.SlO a C dx vs))) (hx : H dx = some (.xd [])) : ∃ (sl : Array (Option Value)) (od : Obj), SlX.SlR vs sl ∧ PySem.W.InstAt s.heap a { PySem.W.instObj C dx with slots := sl } C (some od) ∧ ∀ f, PySem.W.lookIn f od = some Option.none := by
  obtain ⟨_, ⟨sl, e, r⟩, _, _⟩ := I.hok a _ h
  obtain ⟨mA, n, r2⟩ := I.hok dx _ hx
  obtain ⟨od, ho, hl⟩ := lookIn_ns n
  exact ⟨sl, od, r, ⟨e, rfl, rfl, ho⟩, fun f => by rw [hl f, RelO.none_of (r2 f)]⟩
theorem frz_slot {b : Bool} {Q : Value → Shared → Prop} (I : Inv X pins σ H s) (h : H a = some (.frz ob (SlX.SlO a C dx vs))) (hx : H dx = some (.xd [])) (c : SlX.SCls X.K C) (t : SlX.Slot1 X.K C f p i) (l : vs[i]? = some (some v)) (q : ∀ u s', Inv X pins σ H s' → RelV v u → Q u s') :
    wpAny (model X.prog X.w) A (getAttr (.ref a) f b) Q E s := by
  obtain ⟨sl, od, r, J, _⟩ := frz_inst I h hx
  obtain ⟨u, eu, ru⟩ := r i v l
  obtain ⟨m, F⟩ := I.fr
  have hj : (sl[i]?).join = some u := by rw [eu]; rfl
  exact PySem.W.get_slot F I.mod.kin J (c.get f) c.ic t.at_ t.get t.tk t.ix (v := u) hj (handed_of ru) (q u _ (I.tok _) ru)
theorem frz_meth {g : Addr} {pl : Sem Bool} {Q : Value × List Value → Shared → Prop} (I : Inv X pins σ H s) (h : H a = some (.frz ob (SlX.SlO a C dx vs))) (hx : H dx = some (.xd [])) (c : SlX.SCls X.K C) (k : Meth X.K C m g) (q : Q (.ref g, [.ref a]) s) :
    wpAny (model X.prog X.w) A (getMethod (.ref a) m pl) Q E s := by
  obtain ⟨sl, od, r, J, hl⟩ := frz_inst I h hx
  have hn : (PySem.W.lookIn m od).map (·.isSome) = some false := by rw [hl m]; rfl
  exact PySem.W.method_fn I.kIn J (PySem.W.plainGet_of (c.get m)).1 (PySem.W.plainGet_of (c.get m)).2 k.at_ (beq_iff_eq.mp k.fn) hn q
end
/-- what follows, or what follows with one thing locked -/
def FrzK (Q : VK) : VK := fun v H => Q v H ∨ ∃ d u, H d = some u ∧ Mut (some u) ∧ ∀ o, Q v (upd H d (.frz o u))
section
variable {X : Cx}
theorem pe_frzK {e : Expr} {t : TE} (h : PE X e t) : PE X e (fun σ H Q => t σ H (FrzK Q)) := by
  refine ⟨fun pins s σ H Q I hw => ?_⟩
  refine thn (h.run pins s σ H _ I hw) fun v s1 ⟨x, H1, I1, r, q⟩ => ?_
  rcases q with q | ⟨d, u, hd, mu, q⟩
  · exact ⟨x, H1, I1, r, q⟩
  · obtain ⟨od, I2⟩ := I1.lock hd mu
    exact ⟨x, _, I2, r, q od⟩
end
end Py

set_option Elab.async false
set_option linter.all false
set_option maxRecDepth 100000
set_option maxHeartbeats 4000000
/-! Soundness of expressions: built-ins, methods, attributes. -/
namespace Py
open PySem PySem.Spec PyProof.Rows L2
section
variable {M : Mo} {k : Nat} {c : Cfg} {X : Cx} (o : Okx M k c X)
include o
omit o in
theorem reps_strs {H : Hp} : ∀ ys : List Str, M.Reps H (ys.map D.str) (ys.map V.str)
  | [] => .nil
  | y :: ys => .cons (.str y) (reps_strs ys)
omit o in
theorem each_out {H : Hp} : ∀ {out : List Value} {bs : List (D × PyData)}, PySem.W.EachIs (fun v b => ∃ w, M.Rep H b.1 w ∧ RelV w v) out bs → ∃ ws, Vals ws out ∧ M.Reps H (bs.map (·.1)) ws
  | _, _, .nil => ⟨[], .nil, .nil⟩
  | _, _, .cons ⟨w, h1, h2⟩ r => by
    obtain ⟨ws, g1, g2⟩ := each_out r
    exact ⟨w :: ws, .cons h2 g1, .cons h1 g2⟩
omit o in
theorem each_in {H : Hp} {P : Value → PyData → Prop} : ∀ {xs : List D} {vs : List V} {us : List Value} {ds : List PyData}, M.Reps H xs vs → Vals vs us → DpAll M.K H vs ds → (∀ v u d, Dp M.K H v d → RelV v u → P u d) →
    PySem.W.EachIs (fun v (b : D × PyData) => ∃ w, M.Rep H b.1 w ∧ RelV w v) us (xs.zip ds) ∧ PySem.W.EachIs (fun v (b : D × PyData) => P v b.2) us (xs.zip ds) ∧ (xs.zip ds).map (·.2) = ds
  | _, _, _, _, .nil, .nil, .nil, _ => ⟨.nil, .nil, rfl⟩
  | _, _, _, _, .cons h r, .cons q s, .cons t z, k => by
    obtain ⟨g1, g2, g3⟩ := each_in r s z k
    exact ⟨.cons ⟨_, h, q⟩ g1, .cons (k _ _ _ t q) g2, by simp [g3]⟩
theorem snd_sorted : CallR X (.builtin "sorted") (liftN M (bltR .sorted)) := by
  intro pins s σ H xs us Q I r h
  obtain ⟨ds, st, rr, rs, k⟩ := h
  unfold bltR at k
  split at k <;> first | cases (by assumption : Bf.sorted = _) | exact k.elim | skip
  rename_i d0
  obtain ⟨v, rfl, rv⟩ := rr.one
  split at k
  · rename_i ys ea
    obtain ⟨es, k1, k2, k3⟩ := k
    have seq : ∃ (b : Addr) (vs : List V) (its : List Value) (T : String) (ob : Obj) (n : Nat), v = .ref b ∧ M.Reps H ys vs ∧ ys.length ≤ sizeLine ∧ Vals vs its ∧ (T = "list" ∨ T = "tuple") ∧ s.heap.get? b = some ob ∧ ob.cls = .type T ∧ ob.data = .seq its.toArray n := by
      have lst : rdL st d0 = some ys → ∃ (b : Addr) (vs : List V) (its : List Value) (T : String) (ob : Obj) (n : Nat), v = .ref b ∧ M.Reps H ys vs ∧ ys.length ≤ sizeLine ∧ Vals vs its ∧ (T = "list" ∨ T = "tuple") ∧ s.heap.get? b = some ob ∧ ob.cls = .type T ∧ ob.data = .seq its.toArray n := fun e => by
        obtain ⟨b, vs, rfl, sq, r1, z⟩ := rdL_ok rs rv e
        obtain ⟨its, rv1, hl, _⟩ := I.list (show SqL X.K H b vs by rw [o.of.K]; exact sq)
        obtain ⟨ob, h1, h2, n, h3⟩ := hl.isList
        exact ⟨b, vs, its, "list", ob, n, rfl, r1, z, rv1, .inl rfl, h1, h2, h3⟩
      cases d0 with
      | tup zs =>
        cases ea
        obtain ⟨b, vs, rfl, z, sq, r1⟩ := rv.tup_inv
        obtain ⟨its, rv1, ⟨ob, h1, h2, n, h3⟩, _⟩ := I.tuple (show SqT X.K H b vs by rw [o.of.K]; exact sq)
        exact ⟨b, vs, its, "tuple", ob, n, rfl, r1, z, rv1, .inr rfl, h1, h2, h3⟩
      | _ => exact lst ea
    obtain ⟨b, vs, its, T, ob, n, rfl, rr1, z, rv1, hT, ho, hc, hd⟩ := seq
    rw [Vals.ref1 r]
    have dp := Dts.ok rs k1 rr1
    obtain ⟨g1, g2, g3⟩ := each_in (M := M) (P := fun u d => ∃ as, Reads s.heap u d as) rr1 rv1 dp fun v u d h1 h2 => Dp.reads I d v u (by rw [o.of.K]; exact h1) h2
    have hlen : (ys.zip es).length = ys.length := by
      have e1 := g1.length
      have e2 := rv1.length
      have e3 := rr1.length
      omega
    refine sorted_seq (enc := fun b : D × PyData => b.2) hT ho hc hd g1 g2 (by rw [g3]; exact k2.al) (by rw [g3]; exact k2.so) (by rw [hlen]; exact z) (fun b hb => ?_) fun h1 h2 p out cc kp1 kp2 hp hat ho he => ?_
    · have hd := k2.dp b.2 (by rw [← g3]; exact List.mem_map.mpr ⟨b, hb, rfl⟩)
      have := o.of.un
      omega
    · obtain ⟨ws, w1, w2⟩ := each_out he
      have hwl : ws.length ≤ sizeLine := by
        rw [w1.length, ho, hlen]; exact z
      have I1 : Inv X pins σ H { s with heap := h1 } := I.kept (t' := s.toks) kp1
      have hfr : H p = none := I1.hok.fresh hp
      refine ⟨.ref _, upd H p (.lst ws), I1.laid (t' := s.toks) kp2 hp ⟨hwl, out, cc, w1, hat⟩, rfl, ?_⟩
      exact newL_ok rs k3 w2 _ hfr
  · split at k
    · rename_i kvs ea
      obtain ⟨ks, k1, k2, k3⟩ := k
      obtain ⟨b, vs, rfl, hH, kr, _⟩ := rdD_ok rs rv ea
      have hk : vs.map (·.1) = ks.map Sum.inr := by
        rw [← k1]
        have : ∀ {kvs : List (Key × D)} {vs : List (Key × V)}, KReps M H kvs vs → vs.map (·.1) = kvs.map (·.1) := by
          intro kvs vs h
          induction h with
          | nil => rfl
          | cons p _ ih => simp [ih, p.1]
        exact this kr
      refine call_sortedD o.of.calm pins s σ H _ us Q I r ⟨_, vs, ks, rfl, hH, hk, k2, fun ys p p1 p2 hp => ?_⟩
      exact newL_ok rs (k3 ys p1 p2) (reps_strs ys) p hp
    · obtain ⟨a, ks, rfl, ea, k3⟩ := k
      cases rv
      obtain ⟨nd, hH⟩ := rs.1 _ _ ea
      rw [Vals.ref1 r]
      have hw : M.w = X.w := o.of.w.symm
      rw [hw] at hH
      obtain ⟨R, _, _⟩ := I.hok a _ hH
      refine sorted_setT R (I.ok.hd o.of.calm) (by have := o.of.un; omega) fun s' p out cc ys kp hg hos hp hat vy so ny hm hl hs => ?_
      have pm : ys.Perm ks := (List.perm_ext_iff_of_nodup ny nd).mpr fun y => by rw [hm y]; simp
      have hn : H p = none := I.hok.fresh hp
      have same : s' = { s with heap := s'.heap, gens := s'.gens, drawn := s'.drawn, toks := s'.toks } := by
        cases s'; cases s; cases hos; rfl
      have hlen : (ys.map V.str).length ≤ sizeLine := by rw [List.length_map, hl]; exact hs
      rw [same]
      refine ⟨.ref p, _, I.call (ch := []) (Un.laid kp hp hn) (I.hok.laid (o := .lst (ys.map V.str)) kp hp ⟨hlen, out, cc, vy, hat⟩) (by rw [hg]; exact I.bare) (fun _ z => nomatch z), rfl, ?_⟩
      exact newL_ok rs (k3 ys pm so) (reps_strs ys) p hn
theorem snd_set : CallR X (.type "set") (liftN M (bltR .set)) := by
  intro pins s σ H xs us Q I r h
  obtain ⟨ds, st, rr, rs, k⟩ := h
  unfold bltR at k
  split at k <;> first | cases (by assumption : Bf.set = _) | exact k.elim | skip
  rename_i d0
  obtain ⟨v, rfl, rv⟩ := rr.one
  obtain ⟨ys, ks, e1, rfl, z, k⟩ := k
  have sts : ∀ {vs : List V} {its : List Value}, M.Reps H (ks.map D.str) vs → Vals vs its → PyProof.Rows.StrsAre its ks := by
    clear e1 k z
    induction ks with
    | nil => intro vs its h1 h2; cases h1; cases h2; exact .nil
    | cons x ks ih =>
      intro vs its h1 h2
      cases h1 with
      | cons h1 r1 =>
        cases h1
        cases h2 with
        | cons h2 r2 =>
          obtain ⟨t, rfl⟩ := h2
          exact .cons _ _ (ih r1 r2)
  have fin : ∀ (h' : Heap) (tk : Nat), SetT X.w h' s.heap.objs.size (fun j => decide (j ∈ ks)) (ddp ks).length → (∀ b ob, s.heap.get? b = some ob → h'.get? b = some ob) → EP X pins σ Q (.ref s.heap.objs.size) { s with heap := h', toks := tk } := fun h' tk R kp => by
    have hfr : H s.heap.objs.size = none := I.hok.fresh (Nat.le_refl _)
    have R2 : SetT X.w h' s.heap.objs.size (fun j => decide (j ∈ ddp ks)) (ddp ks).length := R.congr fun j => by simp [mem_ddp]
    have ok : ObjOk X.prog X.w (upd H s.heap.objs.size (SetTO X.w s.heap.objs.size (fun j => decide (j ∈ ddp ks)) (ddp ks).length)) h' s.heap.objs.size (SetTO X.w s.heap.objs.size (fun j => decide (j ∈ ddp ks)) (ddp ks).length) := by
      obtain ⟨ob, _, _, _, ho, _⟩ := id R2
      exact ⟨R2, ⟨ob, ho⟩, fun h1 h2 q kk => q.at kk⟩
    refine ⟨.ref _, _, I.laid (t' := tk) kp (Nat.le_refl _) ok, rfl, ?_⟩
    have al := RelS.alloc (M := M) (o := .set (ddp ks)) rs hfr (u := SetTO X.w s.heap.objs.size (fun j => decide (j ∈ ddp ks)) (ddp ks).length) ⟨nodup_ddp ks, by rw [upd_same, o.of.w]⟩
    exact k _ (fresh_sto rs hfr) _ _ (.alloc hfr) al (.ref _)
  have lst : rdL st d0 = some (ks.map D.str) → wpAny (model X.prog X.w) X.A (call (.type "set") us) (EP X pins σ Q) X.xe s := fun e => by
    obtain ⟨b, vs, rfl, sq, r1, _⟩ := rdL_ok rs rv e
    obtain ⟨its, rv1, hl, _⟩ := I.list (show SqL X.K H b vs by rw [o.of.K]; exact sq)
    rw [Vals.ref1 r]
    exact call_set_listT (P := X.prog) (w := X.w) (A := X.A) (E := X.xe) ks (I.ok.hd o.of.calm) hl.isList (by simpa using sts r1 rv1) z fin
  cases d0 with
  | tup zs =>
    cases e1
    obtain ⟨b, vs, rfl, _, sq, r1⟩ := rv.tup_inv
    obtain ⟨its, rv1, p, _⟩ := I.tuple (show SqT X.K H b vs by rw [o.of.K]; exact sq)
    rw [Vals.ref1 r]
    exact call_set_tupT (P := X.prog) (w := X.w) (A := X.A) (E := X.xe) ks (I.ok.hd o.of.calm) p (by simpa using sts r1 rv1) z fin
  | _ => exact lst e1
theorem snd_dict : CallR X (.type "dict") (liftN M (bltR .dict)) := by
  intro pins s σ H xs us Q I r h
  obtain ⟨ds, st, rr, rs, k⟩ := h
  unfold bltR at k
  split at k <;> first | cases (by assumption : Bf.dict = _) | exact k.elim
theorem b_call {f : Bf} {es : Exs} {σ : L2.St} {H : Hp} {Q : VK} (h : semE M (cal M.P k) (.blt f es) σ H Q) : tCB (liftN M (bltR f)) (semA M (cal M.P k) es) σ H Q := by
  obtain ⟨L, st, rl, rs, q⟩ := h
  refine semA_of (cal_mono _ _) rl rs q fun ds s vs H1 q1 e1 r1 v1 => ?_
  exact ⟨ds, s, v1, r1, bltR_mono (QL.step e1) q1⟩
theorem p_blt {f : Bf} {es : Exs} {e' : Expr} {r' : List Expr} {x : Str} {p pos : Pos} (hf : bfN f = x) (hg : glB c.sc x = true) (hb : M.P.blt.contains x = true) (hp : plainA es = true) (hc : chkA M.P es c (e' :: r') = true) (ha : PA X (e' :: r') (semA M (cal M.P k) es)) :
    PE X (.Call (.Name x p) (e' :: r') [] pos) (semE M (cal M.P k) (.blt f es)) := by
  subst hf
  have hm : X.mg (bfN f) = none := by rw [o.of.mg]; exact o.mod.blt _ hb
  have hst : notStar e' = true := by
    cases es with
    | nil => unfold chkA at hc; cases hc
    | cons _ _ => unfold chkA at hc; simp only [Bool.and_eq_true] at hc; exact hc.1
    | star _ _ => unfold plainA at hp; cases hp
  have hpl : (backTo pos (starEach r' X.env)).any (·.1) = false := by
    cases es with
    | nil => unfold chkA at hc; cases hc
    | cons _ r => unfold chkA at hc; simp only [Bool.and_eq_true] at hc; unfold plainA at hp; exact starEach_plain hc.2.2 hp
    | star _ _ => unfold plainA at hp; cases hp
  refine PE.mono ?_ fun σ H Q h => b_call o h
  have B : ∀ {id : String}, CallR X (.builtin id) (liftN M (bltR f)) → bootBuiltins (bfN f) = some (.builtin id) → bfN f ≠ ("__name__" : Str) → (bfN f == ("__debug__" : Str)) = false → PE X (.Call (.Name (bfN f) p) (e' :: r') [] pos) (tCB (liftN M (bltR f)) (semA M (cal M.P k) es)) :=
    fun h1 h2 h3 h4 => pe_callB h1 (gl_of o.fit hg) hm h2 ha h3 h4 (star_of hst) hpl
  have T : ∀ {id : String}, CallR X (.type id) (liftN M (bltR f)) → bootBuiltins (bfN f) = some (.type id) → bfN f ≠ ("__name__" : Str) → (bfN f == ("__debug__" : Str)) = false → PE X (.Call (.Name (bfN f) p) (e' :: r') [] pos) (tCB (liftN M (bltR f)) (semA M (cal M.P k) es)) :=
    fun h1 h2 h3 h4 => pe_callTy h1 (gl_of o.fit hg) hm h2 ha h3 h4 (star_of hst) hpl
  cases f with
  | len => exact B (snd_len o.of) (by decide +kernel) (by decide +kernel) (by decide +kernel)
  | abs => exact B (snd_abs o.of) (by decide +kernel) (by decide +kernel) (by decide +kernel)
  | int => exact T (snd_int o.of) (by decide +kernel) (by decide +kernel) (by decide +kernel)
  | all => exact B (snd_all o.of) (by decide +kernel) (by decide +kernel) (by decide +kernel)
  | any => exact B (snd_any o.of) (by decide +kernel) (by decide +kernel) (by decide +kernel)
  | sorted => exact B (snd_sorted o) (by decide +kernel) (by decide +kernel) (by decide +kernel)
  | tuple => exact T (snd_tuple o.of) (by decide +kernel) (by decide +kernel) (by decide +kernel)
  | list => exact T (snd_list o.of) (by decide +kernel) (by decide +kernel) (by decide +kernel)
  | min => exact B (snd_min o.of) (by decide +kernel) (by decide +kernel) (by decide +kernel)
  | max => exact B (snd_max o.of) (by decide +kernel) (by decide +kernel) (by decide +kernel)
  | set => exact T (snd_set o) (by decide +kernel) (by decide +kernel) (by decide +kernel)
  | str => exact T (snd_str o.of) (by decide +kernel) (by decide +kernel) (by decide +kernel)
  | isinstance => exact B (snd_isinstance o.of) (by decide +kernel) (by decide +kernel) (by decide +kernel)
  | dict => exact T (snd_dict o) (by decide +kernel) (by decide +kernel) (by decide +kernel)
theorem p_bty {n : String} {x : Str} {pos : Pos} (hg : glB c.sc x = true) (hn : okN x = true) (hb : M.P.blt.contains x = true) (h : bootBuiltins x = some (.type n)) : PE X (.Name x pos) (semE M (cal M.P k) (.bty n)) :=
  PE.mono (pe_bltn (v := .ty n) (gl_of o.fit hg) (by rw [o.of.mg]; exact o.mod.blt _ hb) h rfl (okN3 hn) (okN1 hn)) fun σ H Q ⟨L, st, rl, rs, q⟩ => QL.here q rs (.ty n)
/-- methods of lists -/
theorem bm_rd {m : Bm} {obj : Ex} {es : Exs} {T : String} {σ : L2.St} {H : Hp} {Q : VK} (hT : ∀ d v s H1, bmOk m d s → M.Rep H1 d v → RelS M s H1 → tyV X.K T v H1) (h : semE M (cal M.P k) (.bm m obj es) σ H Q) : tBM X.K T (liftM M (bmR m)) (semE M (cal M.P k) obj) (semA M (cal M.P k) es) σ H Q := by
  obtain ⟨L, st, rl, rs, q⟩ := h
  refine semE_of (cal_mono _ _) rl rs q fun d s v H1 q1 e1 r1 v1 => ⟨hT d v s H1 q1.1 v1 r1, ?_⟩
  refine semA_of (cal_mono _ _) (rl.ext e1) r1 q1.2 fun ds s2 vs H2 q2 e2 r2 w2 => ?_
  exact ⟨d, ds, s2, v1.ext e2, w2, r2, bmR_mono (QL.step (e1.trans e2)) q2⟩
theorem bm_rd0 {m : Bm} {obj : Ex} {T : String} {σ : L2.St} {H : Hp} {Q : VK} (hT : ∀ d v s H1, bmOk m d s → M.Rep H1 d v → RelS M s H1 → tyV X.K T v H1) (h : semE M (cal M.P k) (.bm m obj .nil) σ H Q) : tBM0 X.K T (liftM M (bmR m)) (semE M (cal M.P k) obj) σ H Q := by
  obtain ⟨L, st, rl, rs, q⟩ := h
  refine semE_of (cal_mono _ _) rl rs q fun d s v H1 q1 e1 r1 v1 => ⟨hT d v s H1 q1.1 v1 r1, ?_⟩
  exact ⟨d, [], s, v1, .nil, r1, bmR_mono (QL.step e1) q1.2⟩
theorem ty_lst {m : Bm} (hm : bmK m = .lst) : ∀ d v s H1, bmOk m d s → M.Rep H1 d v → RelS M s H1 → tyV X.K "list" v H1 := by
  intro d v s H1 h r rs
  unfold bmOk at h
  rw [hm] at h
  obtain ⟨xs, e⟩ := Option.isSome_iff_exists.mp h
  obtain ⟨b, vs, rfl, sq, _, _⟩ := rdL_ok rs r e
  exact .inl ⟨rfl, vs, by rw [o.of.K]; exact sq⟩
theorem p_bmL {m : Bm} {id : String} {obj : Ex} {es : Exs} {o' : Expr} {es' : List Expr} {apos pos : Pos} (hK : bmK m = .lst) (hm : MtR X id (liftM M (bmR m))) (slot : Slot "list" (bmN m) id) (hty : typeOf (.builtin id) = pure (.type "method_descriptor"))
    (h0 : notC0 o' = true) (hl : (apos.endLine == pos.line) = true) (hp : plainA es = true) (hc : chkA M.P es c es' = true) (hlen : es'.length < 20) (ho : PE X o' (semE M (cal M.P k) obj)) (ha : PA X es' (semA M (cal M.P k) es)) :
    PE X (.Call (.Attribute o' (bmN m) apos) es' [] pos) (semE M (cal M.P k) (.bm m obj es)) := by
  cases es' with
  | nil =>
    have : es = .nil := by
      cases es with
      | nil => rfl
      | cons _ _ => unfold chkA at hc; cases hc
      | star _ _ => unfold plainA at hp; cases hp
    subst this
    exact PE.mono (pe_bm0 PySem.F.plainAttrs_list slot hty hm ho (base_of h0) hl) fun σ H Q h => bm_rd0 o (ty_lst o hK) h
  | cons e' r' =>
    have hst : notStar e' = true := by
      cases es with
      | nil => unfold chkA at hc; cases hc
      | cons _ _ => unfold chkA at hc; simp only [Bool.and_eq_true] at hc; exact hc.1
      | star _ _ => unfold plainA at hp; cases hp
    have hpl : (backTo pos (starEach r' X.env)).any (·.1) = false := by
      cases es with
      | nil => unfold chkA at hc; cases hc
      | cons _ r => unfold chkA at hc; simp only [Bool.and_eq_true] at hc; unfold plainA at hp; exact starEach_plain hc.2.2 hp
      | star _ _ => unfold plainA at hp; cases hp
    refine PE.mono (pe_bm PySem.F.plainAttrs_list slot hty hm ho ha (base_of h0) ?_ hl (star_of hst) hpl) fun σ H Q h => bm_rd o (ty_lst o hK) h
    have h1 : (backTo pos (starEach (e' :: r') X.env)).all (fun x => !x.1) = true := by
      rw [star_of hst]
      unfold backTo at hpl ⊢
      rw [List.map_cons, List.all_cons]
      refine Bool.and_eq_true_iff.mpr ⟨rfl, ?_⟩
      rw [List.all_eq_true]
      intro x hx
      have := List.any_eq_false.mp hpl x hx
      simpa using this
    rw [h1]
    have h2 : decide ((e' :: r').length + ([] : List Keyword).length + (if ([] : List Keyword).isEmpty then 0 else 1) < 30) = true := decide_eq_true (by simp only [List.isEmpty_nil, List.length_nil, if_true]; omega)
    rw [h2]
    rfl
theorem p_bm {m : Bm} {obj : Ex} {es : Exs} {o' : Expr} {es' : List Expr} {n : Str} {apos pos : Pos} (hn : bmN m = n) (hsup : bmSup m = true) (h0 : notC0 o' = true) (hl : (apos.endLine == pos.line) = true) (hp : plainA es = true) (hc : chkA M.P es c es' = true) (hlen : es'.length < 20) (ho : PE X o' (semE M (cal M.P k) obj)) (ha : PA X es' (semA M (cal M.P k) es)) :
    PE X (.Call (.Attribute o' n apos) es' [] pos) (semE M (cal M.P k) (.bm m obj es)) := by
  subst hn
  cases m with
  | append => exact p_bmL o rfl (snd_append o.of) PySem.F.slot_list_append PySem.F.type_list_append h0 hl hp hc hlen ho ha
  | extend => exact p_bmL o rfl (snd_extend o.of) PySem.F.slot_list_extend PySem.F.type_list_extend h0 hl hp hc hlen ho ha
  | pop => exact p_bmL o rfl (snd_pop o.of) PySem.F.slot_list_pop PySem.F.type_list_pop h0 hl hp hc hlen ho ha
  | reverse => exact p_bmL o rfl (snd_reverse o.of) PySem.F.slot_list_reverse PySem.F.type_list_reverse h0 hl hp hc hlen ho ha
  | _ => cases hsup
/-- a field -/
theorem p_att {obj : Ex} {o' : Expr} {f : Str} {pos : Pos} (h0 : notC0 o' = true) (ho : PE X o' (semE M (cal M.P k) obj)) : PE X (.Attribute o' f pos) (semE M (cal M.P k) (.att obj f)) := by
  refine ⟨fun pins s σ H Q I ⟨L, st, rl, rs, q⟩ => ?_⟩
  refine attr_of (base_of h0) (thn (ho.run pins s σ H _ I (semE_of (R := fun v H1 => ∃ d s1, M.Rep H1 d v ∧ RelS M s1 H1 ∧ Ext M st H s1 H1 ∧ ∃ z, attV M.P d f s1 = some z ∧ QL M st H Q z s1) (cal_mono _ _) rl rs q fun d s1 v H1 q1 e1 r1 v1 => ⟨d, s1, v1, r1, e1, q1⟩)) fun u s1 ⟨v, H1, I1, rv, d, t1, v1, r1, e1, z, el, q1⟩ => ?_)
  unfold attV at el
  cases v1 with
  | ref a =>
    dsimp only at el
    split at el
    · rename_i cc fs ea
      obtain rfl : u = Value.ref a := rv
      obtain ⟨C, cd, hm, hcd, h3⟩ := r1.1 a _ ea
      have hcl := (o.cls.cls cc cd C hcd hm).2
      split at h3
      · rename_i e; rw [if_pos e] at hcl
        obtain ⟨dx, vs, h4, h5, h6⟩ := h3
        obtain ⟨i, w, g1, g2, g3⟩ := h6 f z el
        obtain ⟨p, hs⟩ := hcl.2 i f g1
        exact SlX.getslot_ok I1 h5 (by rw [o.of.K]; exact hcl.1) (by rw [o.of.K]; exact hs) g2 fun u' s2 I2 ru => ⟨w, H1, I2, ru, q1 _ _ e1 r1 g3⟩
      · rename_i e; rw [if_neg e] at hcl
        obtain ⟨dx, vfs, h4, h5, h6⟩ := h3
        obtain ⟨i, w, g1, g2, g3⟩ := h6 f z el
        exact getattr_ok I1 h4 (by rw [o.of.K]; exact hcl.1) (by rw [o.of.K]; exact hcl.2 i f g1) g2 fun u' s2 I2 ru => ⟨w, H1, I2, ru, q1 _ _ e1 r1 g3⟩
    · cases el
  | ob hm ne hH hx rr =>
    rename_i a C dx ob0 c0 ds vs
    obtain rfl : u = Value.ref a := rv
    dsimp only at el
    split at el
    · rename_i cd hcd
      split at el
      · rename_i hsl
        split at el
        · rename_i i hi
          have hcl := (o.cls.cls c0 cd C hcd hm).2
          rw [if_pos hsl] at hcl
          obtain ⟨p, hs⟩ := hcl.2 i f hi
          have el' : ds[i]? = some z ∧ z ≠ .und := by
            split at el
            · cases el
            · rename_i hnu
              exact ⟨el, fun e => hnu (by rw [el, e])⟩
          obtain ⟨w, g1, g2⟩ := rr.get el'.1 el'.2
          exact frz_slot I1 hH hx (by rw [o.of.K]; exact hcl.1) (by rw [o.of.K]; exact hs) g1 fun u' s2 I2 ru => ⟨w, H1, I2, ru, q1 _ _ e1 r1 g2⟩
        · cases el
      · cases el
    · cases el
  | _ => cases el
theorem lkp_none {β γ : Type} : ∀ {fs : List (Str × β)} {vfs : List (Str × γ)} {m : Str}, vfs.map (·.1) = fs.map (·.1) → fs.lookup m = none → vfs.lookup m = none
  | [], [], _, _, _ => rfl
  | [], _ :: _, _, e, _ => by cases e
  | _ :: _, [], _, e, _ => by cases e
  | (f, d) :: fs, (g, v) :: vfs, m, e, h => by
    simp only [List.map_cons, List.cons.injEq] at e
    rw [List.lookup_cons] at h ⊢
    rw [e.1]
    cases q : m == f with
    | true => rw [q] at h; cases h
    | false => rw [q] at h; exact lkp_none e.2 h
/-- a method of an own class -/
theorem p_mth {obj : Ex} {es : Exs} {o' : Expr} {es' : List Expr} {m : Str} {apos pos : Pos} (h0 : notC0 o' = true) (hl : (apos.endLine == pos.line) = true) (hp : plainA es = true) (hc : chkA M.P es c es' = true) (hlen : es'.length < 20) (ho : PE X o' (semE M (cal M.P k) obj)) (ha : PA X es' (semA M (cal M.P k) es)) :
    PE X (.Call (.Attribute o' m apos) es' [] pos) (semE M (cal M.P k) (.mth obj m es)) := by
  refine ⟨fun pins s σ H Q I ⟨L, st, rl, rs, q⟩ => ?_⟩
  have hall : (backTo pos (starEach es' X.env)).all (fun x => !x.1) = true := by
    rw [List.all_eq_true]
    intro x hx
    have := List.any_eq_false.mp (starEach_plain (env := X.env) (pos := pos) hc hp) x hx
    simpa using this
  have hform : methodCallForm (es'.length + ([] : List Keyword).length) (backTo pos (starEach es' X.env)) (backToKw pos (keywordEach [] X.env)) = true := by
    unfold methodCallForm
    rw [hall]
    have h2 : decide (es'.length + ([] : List Keyword).length + (if (backToKw pos (keywordEach [] X.env)).isEmpty then 0 else 1) < 30) = true := decide_eq_true (by simp only [List.length_nil]; split <;> omega)
    rw [h2]
    rfl
  have hpos : methodCallPos true o' X.env apos pos = pure pos := by unfold methodCallPos; simp [hl]
  rw [arm_eval_Call, base_of h0]
  refine wpAny_bind (thn (ho.run pins s σ H _ I (semE_of (R := fun v H1 => ∃ d s1, M.Rep H1 d v ∧ RelS M s1 H1 ∧ Ext M st H s1 H1 ∧ ∃ cc fd, mthC M.P d m s1 cc ∧ M.P.fns.lookup (cc, m) = some fd ∧
      wpA M.P (cal M.P k) es L s1 (fun ds t => runR M.P (cal M.P k) cc m fd (d :: ds) [] t (QL M st H Q) X0) X0) (cal_mono _ _) rl rs q fun d s1 v H1 q1 e1 r1 v1 => ⟨d, s1, v1, r1, e1, q1⟩)) fun u s1 ⟨v, H1, I1, rv, d, t1, v1, r1, e1, cc, fd, em, ef, q1⟩ => ?_)
  have ha0 : ∃ a C cd, v = .ref a ∧ M.mg cc = some (.ref C) ∧ M.P.cls.lookup cc = some cd := by
    unfold mthC at em
    cases v1 with
    | ref a =>
      obtain ⟨fs, ea, _⟩ := em
      obtain ⟨C, cd, hm, hcd, _⟩ := r1.1 a _ ea
      exact ⟨a, C, cd, rfl, hm, hcd⟩
    | ob hm ne hH hx rr =>
      obtain ⟨rfl, cd, hcd, _⟩ := em
      exact ⟨_, _, cd, rfl, hm, hcd⟩
    | _ => exact em.elim
  obtain ⟨a, C, cd, rfl, hm, hcd⟩ := ha0
  obtain rfl : u = Value.ref a := rv
  refine wpAny_bind (wpAny_standAt ?_)
  unfold methodCall
  rw [hform]
  obtain ⟨hne, hcl⟩ := o.cls.cls cc cd C hcd hm
  obtain ⟨g, fdat, mt, F⟩ := o.fns.mth cc m fd C hne ef hm
  refine wpAny_bind (wpAny_holding ?_)
  have go : wpAny (model X.prog X.w) X.A (do let callPos ← methodCallPos true o' X.env apos pos; callWith callPos (.ref g) [.ref a] (backTo pos (starEach es' X.env)) (backToKw pos (keywordEach [] X.env))) (EP X pins σ Q) X.xe s1 := by
    refine wpAny_bind (wpAny_of_eq hpos ?_)
    have fin : ∀ {us : List Value} {s2 : Shared} {vs : List V} {H2 : Hp} {ds : List D} {st2 : Sto}, Inv X pins σ H2 s2 → Vals vs us → M.Reps H2 ds vs → RelS M st2 H2 → Ext M t1 H1 st2 H2 → runR M.P (cal M.P k) cc m fd (d :: ds) [] st2 (QL M st H Q) X0 →
        wpAny (model X.prog X.w) X.A (call (.ref g) (.ref a :: us)) (EP X pins σ Q) X.xe s2 := by
      intro us s2 vs H2 ds st2 I2 r2 rr2 rs2 e2 q2
      exact run_semR (vs := .ref a :: vs) o F I2 (.cons rfl r2) (.cons (v1.ext e2) rr2) rs2 (runR_mono (cal_mono _ _) (QL.step (e1.trans e2)) q2)
    cases es' with
    | nil =>
      have : es = .nil := by
        cases es with
        | nil => rfl
        | cons _ _ => unfold chkA at hc; cases hc
        | star _ _ => unfold plainA at hp; cases hp
      subst this
      exact PySem.W.callWith_K0 (first := [.ref a]) I1.kIn (by rw [o.of.K]; exact mt.kp) (fin (us := []) (vs := []) I1 .nil .nil r1 .refl q1)
    | cons e' r' =>
      have hst : notStar e' = true := by
        cases es with
        | nil => unfold chkA at hc; cases hc
        | cons _ _ => unfold chkA at hc; simp only [Bool.and_eq_true] at hc; exact hc.1
        | star _ _ => unfold plainA at hp; cases hp
      have hpl : (backTo pos (starEach r' X.env)).any (·.1) = false := by
        cases es with
        | nil => unfold chkA at hc; cases hc
        | cons _ r => unfold chkA at hc; simp only [Bool.and_eq_true] at hc; unfold plainA at hp; exact starEach_plain hc.2.2 hp
        | star _ _ => unfold plainA at hp; cases hp
      refine PySem.W.callWith_K (first := [.ref a]) (h₀ := X.base) I.ok.mod.kin (by rw [o.of.K]; exact mt.kp) (thn (ha.run pos pins s1 σ H1 _ I1 (semA_of (R := fun vs H2 => ∃ ds st2, M.Reps H2 ds vs ∧ RelS M st2 H2 ∧ Ext M t1 H1 st2 H2 ∧ runR M.P (cal M.P k) cc m fd (d :: ds) [] st2 (QL M st H Q) X0) (cal_mono _ _) (rl.ext e1) r1 q1 fun ds s2 vs H2 q2 e2 r2 v2 => ⟨ds, s2, v2, r2, e2, q2⟩)) fun us s2 ⟨vs, H2, I2, r, ds, st2, v2, r2, e2, q2⟩ => ⟨I2.kIn, ?_⟩) (star_of hst) hpl
      exact fin I2 r v2 r2 e2 q2
  unfold mthC at em
  cases v1 with
  | ref a =>
    obtain ⟨fs, ea, el⟩ := em
    obtain ⟨C', cd', hm', hcd', h3⟩ := r1.1 a _ ea
    rw [hm] at hm'; cases hm'
    rw [hcd] at hcd'; cases hcd'
    split at h3
    · rename_i e; rw [if_pos e] at hcl
      obtain ⟨dx, vs, h4, h5, h6⟩ := h3
      exact SlX.getmethsl_ok I1 h5 (by rw [o.of.K]; exact hcl.1) (by rw [o.of.K]; exact mt) go
    · rename_i e; rw [if_neg e] at hcl
      obtain ⟨dx, vfs, h4, h5, h6⟩ := h3
      exact getmeth_ok I1 h4 (by rw [o.of.K]; exact hcl.1) (by rw [o.of.K]; exact mt) (lkp_none o h5 el) go
  | ob hm' ne hH hx rr =>
    obtain ⟨rfl, cd', hcd', hsl, _⟩ := em
    rw [hm] at hm'; cases hm'
    rw [hcd] at hcd'; cases hcd'
    rw [if_pos hsl] at hcl
    exact frz_meth I1 hH hx (by rw [o.of.K]; exact hcl.1) (by rw [o.of.K]; exact mt) go
  | _ => exact em.elim
omit o in
theorem del_rel {st : Sto} {H : Hp} {a : Addr} {ob : O} {u : HO} (r : RelS M st H) (h : st a = some ob) : RelS M (del st a) (upd H a u) ∧ Ext M st H (del st a) (upd H a u) := by
  have wk := wr_keep (u := u) r h
  refine ⟨⟨fun b o' q => ?_, tab_write r h⟩, ⟨fun b o' e n _ => ?_, wk.1, wk.2.1⟩⟩
  · have : b ≠ a := fun z => by unfold del at q; rw [if_pos z] at q; cases q
    unfold del at q; rw [if_neg this] at q
    exact (r.1 b o' q).mono (fun w hw => by rw [upd_ne this]; exact hw) wk.1 wk.2.1 wk.2.2
  · have : b ≠ a := fun z => by rw [z, h] at n; cases n
    refine ⟨by rw [upd_ne this]; exact e, ?_⟩
    unfold del; rw [if_neg this]; exact n
/-- locked for good -/
theorem frz_sem {x : Ex} {σ : L2.St} {H : Hp} {Q : VK} (h : semE M (cal M.P k) (.frz x) σ H Q) : semE M (cal M.P k) x σ H (FrzK Q) := by
  obtain ⟨L, st, rl, rs, q⟩ := h
  refine semE_of (cal_mono _ _) rl rs q fun d s1 v H1 q1 e1 r1 v1 => ?_
  unfold frzR at q1
  cases v1 with
  | ref a =>
    dsimp only at q1
    cases q : s1 a with
    | none => rw [q] at q1; exact q1.elim
    | some ob =>
      rw [q] at q1
      have lock : ∀ d', lockD M.P s1 (.ref a) = d' → (∀ b, d' ≠ .ref b) → QL M st H Q d' (del s1 a) → FrzK Q (.ref a) H1 := fun d' hd hn q2 => by
        have hk : lkA M.P s1 (.ref a) = some a := by
          unfold lkA; dsimp only; rw [hd]
          split
          · exact (hn _ rfl).elim
          · rfl
        obtain ⟨u, hu⟩ := lk_at r1 hk
        refine .inr ⟨a, u, hu.at_, hu.mu, fun oo => ?_⟩
        obtain ⟨r2, e2⟩ := del_rel (u := .frz oo u) r1 q
        refine q2 _ _ (e1.trans e2) r2 ?_
        rw [← hd]
        exact hu.rep e2.tp e2.lf upd_same
      cases ob with
      | lst xs => exact lock (.kl xs) (by unfold lockD; simp only [q]) (fun _ => nofun) q1
      | dct kvs => exact lock (.kd _ _) (by unfold lockD; simp only [q]) (fun _ => nofun) q1
      | set ks => exact q1.elim
      | ins cc fs =>
        obtain ⟨cd, h1, h2, h3, h4, q1⟩ := q1
        exact lock (.ob cc (pre fs cd.slots)) (by unfold lockD; simp only [q, h1]; rw [if_pos ⟨h2, h3, h4⟩]) (fun _ => nofun) q1
  | non => exact .inl (q1 _ _ e1 r1 .non)
  | bl b => exact .inl (q1 _ _ e1 r1 (.bl b))
  | int b => exact .inl (q1 _ _ e1 r1 (.int b))
  | str b => exact .inl (q1 _ _ e1 r1 (.str b))
  | ty b => exact .inl (q1 _ _ e1 r1 (.ty b))
  | glo b => exact .inl (q1 _ _ e1 r1 (.glo b))
  | tup z s r => exact .inl (q1 _ _ e1 r1 (.tup z s r))
  | kl z s r => exact .inl (q1 _ _ e1 r1 (.kl z s r))
  | sl z s r => exact .inl (q1 _ _ e1 r1 (.sl z s r))
  | kd z e s r => exact .inl (q1 _ _ e1 r1 (.kd z e s r))
  | ob a b c d e => exact .inl (q1 _ _ e1 r1 (.ob a b c d e))
theorem p_frz {x : Ex} {e' : Expr} (h : PE X e' (semE M (cal M.P k) x)) : PE X e' (semE M (cal M.P k) (.frz x)) := PE.mono (pe_frzK h) fun _ _ _ h => frz_sem o h
end
end Py

set_option Elab.async false
set_option linter.all false
set_option maxRecDepth 100000
set_option maxHeartbeats 4000000
/-! next((x for x in texts if x in others), d). -/
namespace Py
open PySem PySem.Spec PyProof.Rows L2
section
variable {prog : Program} {w : World} {A : Around} {E : Value → Shared → Prop} {s : Shared}
/-- next(g, d) of a generator that is walked -/
theorem call_next2 {g : Addr} {d : Value} {fp wr : List Addr} {G : Array GenState → Array GenState → Prop} {n : Nat} {F : Nat → Value → Prop} {St : Nat → Shared → Prop} {Q : Value → Shared → Prop} (W : WalksS prog w A.in1 g fp wr G n F St) (h0 : St 0 s) (ht : s.TypeIs (.ref g) "generator")
    (hi : ∀ v s', 0 < n → F 0 v → Moved wr G s s' → Q v s') (hd : n = 0 → ∀ s', Moved wr G s s' → Q d s') : wpAny (model prog w) A (call (.builtin "next") [.ref g, d]) Q E s := by
  refine Calls.call_function_entry (by decide +kernel) (by decide +kernel) PySem.W.kdk_entry_next (PySem.W.kdk_args_next2 _ _) ?_
  unfold Builtin.«next»
  refine wpAny_bind (m := someArgs "next" 1 2 _) (wpAny_of_eq (a := [Value.ref g, d]) (by first | rfl | kernel_rfl!) ?_)
  dsimp only
  refine wpAny_bind (wpAny_specialOf (name := Str.ofString "__next__") ht slot_gen_next.lookup ?_)
  refine wpAny_ite_split (fun hab => absurd hab (by decide)) (fun _ => ?_)
  by_cases hn : 0 < n
  · exact wpAny_bind (W.item 0 s _ _ hn h0 fun v s' h1 h2 h3 => wpAny_pure ⟨_, rfl, hi v s' hn h1 h3⟩)
  · obtain rfl : n = 0 := by omega
    exact wpAny_bind (W.done s _ _ h0 fun s' h3 => wpAny_pure ⟨_, rfl, hd rfl s' h3⟩)
end
/-- the place of the first text that is among the others -/
def hitB (ws cs : List Str) (i : Nat) : Bool := match ws[i]? with
  | some a => decide (a ∈ cs)
  | none => false
theorem passing_find (ws cs : List Str) : (ws.find? fun a => decide (a ∈ cs)) = ((passing (hitB ws cs) ws.length 0)[0]?).bind fun i => ws[i]? := by
  have key : ∀ (zs pre : List Str), ws = pre ++ zs → (zs.find? fun a => decide (a ∈ cs)) = (((List.range' pre.length zs.length).filter (hitB ws cs))[0]?).bind fun i => ws[i]? := by
    intro zs
    induction zs with
    | nil => intro pre h; simp
    | cons z zs ih =>
      intro pre h
      have hz : ws[pre.length]? = some z := by rw [h]; simp
      rw [List.find?_cons, List.length_cons, List.range'_succ, List.filter_cons]
      have hb : hitB ws cs pre.length = decide (z ∈ cs) := by unfold hitB; rw [hz]
      by_cases hc : z ∈ cs
      · simp [hb, hc, hz]
      · have := ih (pre ++ [z]) (by rw [h]; simp)
        simp only [hb, hc, decide_false, Bool.false_eq_true, if_false]
        rw [this]
        simp
  have h := key ws [] rfl
  unfold passing
  rw [h]
  congr 3
  simp [List.range_eq_range']
section
variable {X : Cx} {pins : List (Addr × Obj)} {σ : L2.St} {H : Hp} {s : Shared}
theorem look_memG {β : Type} {x : Str} {y : β} : ∀ {l : List (Str × β)}, l.lookup x = some y → (x, y) ∈ l
  | [], h => by cases h
  | (z, w) :: r, h => by
    rw [List.lookup_cons] at h
    split at h
    · rename_i q
      have q := beq_iff_eq.mp q
      subst q
      cases h
      exact List.mem_cons_self
    · exact List.mem_cons_of_mem _ (look_memG h)
theorem kindFnX {k : ScopeKind} (h : (k == .function) = true) : k = .function := by cases k <;> first | rfl | cases h
theorem nbX {b : Bool} (h : (!b) = true) : b = false := by cases b <;> first | rfl | cases h
abbrev sc0K (sc : Scope) (x : Str) : Prop := sc.names.lookup x = some .cell
/-- the others, as the heap reads them -/
def CamR (h : Heap) (u : Value) (cs : List Str) : Prop := ∃ as, Reads h u (.list (cs.map PyData.str)) as ∨ Reads h u (.tuple (cs.map PyData.str)) as
theorem reads_but {h h' : Heap} {P : Addr} {ps : Array Value} (hP : h.get? P = some { cls := .none, data := .fields ps }) (k : ∀ b o, b ≠ P → h.get? b = some o → h'.get? b = some o) {u : Value} {cs : List Str} (r : CamR h u cs) : CamR h' u cs := by
  have hst : ∀ {vs : List Value} {ds : List Str} {as : List Addr}, ReadsAll h vs (ds.map PyData.str) as → ∃ as', ReadsAll h' vs (ds.map PyData.str) as' := by
    intro vs ds
    induction ds generalizing vs with
    | nil => intro as r; cases r; exact ⟨_, .nil⟩
    | cons d ds ih =>
      intro as r
      cases r with
      | cons h1 h2 =>
        obtain ⟨as', h3⟩ := ih h2
        cases h1 with
        | str y t => exact ⟨_, .cons (.str _ t) h3⟩
  have ne : ∀ {a : Addr} {o : Obj} {n : String}, h.get? a = some o → o.cls = .type n → a ≠ P := fun e1 e2 z => by
    rw [z, hP] at e1; cases e1; cases e2
  obtain ⟨as, r | r⟩ := r
  · cases r with
    | list h1 h2 h3 h4 =>
      obtain ⟨as', h5⟩ := hst h4
      exact ⟨_, .inl (.list (k _ _ (ne h1 h2) h1) h2 h3 h5)⟩
  · cases r with
    | tuple h1 h2 h3 h4 =>
      obtain ⟨as', h5⟩ := hst h4
      exact ⟨_, .inr (.tuple (k _ _ (ne h1 h2) h1) h2 h3 h5)⟩
theorem any_in (cs : List Str) (a : Str) : ((cs.map PyData.str).any fun z => PyData.eqv z (.str a)) = decide (a ∈ cs) := by
  induction cs with
  | nil => rfl
  | cons s ss ih =>
    rw [List.map_cons, List.any_cons, ih]
    have : PyData.eqv (.str s) (.str a) = decide (s = a) := by
      show (s == a) = _
      by_cases h : s = a
      · subst h; simp
      · simp [h]
    rw [this]
    by_cases h : s = a
    · subst h; simp
    · have : a ≠ s := fun z => h z.symm
      simp [h, this]
theorem lay_strs {cs : List Str} (h : ∀ x ∈ cs, PyData.strOk x = true) : PyData.canLayAll0 (cs.map PyData.str) = true := by
  induction cs with
  | nil => rfl
  | cons c cs ih =>
    show (PyData.canLay0 (.str c) && PyData.canLayAll0 (cs.map PyData.str)) = true
    rw [ih fun x hx => h x (List.mem_cons_of_mem _ hx)]
    show (PyData.strOk c && true) = true
    rw [h c (List.mem_cons_self ..)]; rfl
theorem dep_strs (cs : List Str) : PyData.depthAll (cs.map PyData.str) = 0 := by
  induction cs with
  | nil => rfl
  | cons c cs ih =>
    show max (PyData.depth (.str c)) (PyData.depthAll (cs.map PyData.str)) = 0
    rw [ih]; rfl
theorem in_cam {prog : Program} {w : World} {A : Around} {E : Value → Shared → Prop} {u : Value} {cs : List Str} {a : Str} {t : Tok} {Q : Value → Shared → Prop} (r : CamR s.heap u cs) (hc : ∀ x ∈ cs, PyData.strOk x = true) (ha : PyData.strOk a = true) (hu : A.units + 1 < cLine) (q : Q (.bool (decide (a ∈ cs))) s) : wpAny (model prog w) A (compareOp .In (.str a t) u) Q E s := by
  rw [← any_in] at q
  obtain ⟨as, r | r⟩ := r
  · exact SeqAt.in_list_reads r (.str a t) (lay_strs hc) ha (by rw [dep_strs, Nat.zero_min]; exact hu) q
  · exact SeqAt.in_tuple_reads r (.str a t) (lay_strs hc) ha (by rw [dep_strs, Nat.zero_min]; exact hu) q
/-- the generator g over the texts ws that are among cs, ready to be walked, in the state s5 -/
def ReadyN (X : Cx) (pins : List (Addr × Obj)) (σ : L2.St) (H1 : Hp) (P : Addr) (ws cs : List Str) (g : Addr) (s5 : Shared) : Prop :=
  ∃ (fp wr : List Addr) (G : Array GenState → Array GenState → Prop) (F : Nat → Value → Prop) (St : Nat → Shared → Prop),
    WalksS X.prog X.w X.A.in1 g fp wr G (passing (hitB ws cs) ws.length 0).length F St ∧ St 0 s5 ∧ s5.TypeIs (.ref g) "generator" ∧
    (∀ j v, F j v → ∃ (i : Nat) (a : Str) (t : Tok), (passing (hitB ws cs) ws.length 0)[j]? = some i ∧ ws[i]? = some a ∧ v = .str a t) ∧
    ∀ s', Moved wr G s5 s' → ∃ H2, GxR.Tabbed P H1 H2 ∧ Inv X pins σ H2 s'
theorem gen_nx {c P cc : Addr} {x cn : Str} {iter : Expr} {px p1 p2 p3 p4 gpos : Pos} {scope : Scope} {te : TE} {k : Nat} {Q' : Value → Shared → Prop} {ws cs : List Str} {u : Value} {R : Hp → Prop}
    (hr : Room k X.A) (hu : X.A.units + 60 < cLine) (TB : GxR.TabB X.base X.mg c P) (hcode : X.env.code = .ref c) (S : GxR.GenS X.env scope x) (hcn : scope.names.lookup cn = some .free) (hcc : X.env.cells.lookup cn = some cc) (hi : PE X iter te)
    (hs : ∀ v, genFold iter X.env v = pure v) (I : Inv X pins σ H s)
    (h : te σ H fun v H1 => ∃ yl : Addr, v = .ref yl ∧ SqT X.K H1 yl (ws.map V.str) ∧ GxR.TabG H1 P ∧ (∀ s1, Inv X pins σ H1 s1 → s1.heap.IsCell cc (some u) ∧ CamR s1.heap u cs) ∧ R H1)
    (hws : ∀ x ∈ ws, PyData.strOk x = true) (hcs : ∀ x ∈ cs, PyData.strOk x = true) (n1 : (x == ("__debug__" : Str)) = false) (n2 : (cn == ("__debug__" : Str)) = false) (n3 : (cn == ("__classdict__" : Str)) = false) (nxc : cn ≠ x)
    (hQ : ∀ H1 g s5, R H1 → ReadyN X pins σ H1 P ws cs g s5 → Q' (.ref g) s5) :
    wpAny (model X.prog X.w) X.A (eval (.GeneratorExp (.Name x p1) [⟨.Name x px, iter, [.Compare (.Name x p2) [.In] [.Name cn p3] p4], 0⟩] scope gpos) X.env) Q' X.xe s := by
  refine wpAny_GeneratorExp_walksQD hr.hd S.co (closure_ok S.free) S.cell S.dot S.loc S.kind (by have := hr.dp; omega) ?_ hs
  refine thn (hi.run pins s σ H _ I h) fun xv s1 ⟨v, H1, I1, r1, q1⟩ => ?_
  obtain ⟨yl, rfl, hyl, ⟨ps, hP, ht⟩, hcam, q1⟩ := q1
  obtain ⟨hcell, hcr⟩ := hcam s1 I1
  obtain rfl : xv = Value.ref yl := r1
  obtain ⟨its, rv, hl, hz⟩ := I1.tuple hyl
  have hIL : s1.heap.IsTuple yl its.toArray := hl
  have hlen : its.length = ws.length := by rw [← rv.length, List.length_map]
  have hat : ∀ (i : Nat) (v : Value), its.toArray[i]? = some v → ∃ (a : Str) (u : Tok), ws[i]? = some a ∧ v = .str a u := fun i v hv => by
    have hv2 : its[i]? = some v := by simpa using hv
    have hi2 : i < its.length := (List.getElem?_eq_some_iff.mp hv2).1
    obtain ⟨a, ha⟩ : ∃ a, ws[i]? = some a := ⟨ws[i]'(by omega), List.getElem?_eq_getElem _⟩
    have hb : (ws.map V.str)[i]? = some (V.str a) := by rw [List.getElem?_map, ha] <;> rfl
    obtain ⟨u, hu, ru⟩ := rv.get hb
    rw [hv2] at hu
    cases hu
    obtain ⟨t, e⟩ := (show ∃ t, v = Value.str a t from ru)
    exact ⟨a, t, ha, e⟩
  refine wpAny_pyIter_tuple hIL ?_
  generalize ho : ({ cls := .type "tuple_iterator", data := .fields #[.ref yl, .int 0 0] } : Obj) = o
  have hitr : (s1.heap.push o).IsTupleIter s1.heap.objs.size yl 0 := by
    subst ho
    exact ⟨_, Heap.get?_push_size _ rfl, rfl, rfl⟩
  have hylt : yl < s1.heap.objs.size := by
    obtain ⟨_, e, _⟩ := _root_.id hIL
    exact Heap.lt_size e
  have hPs : s1.heap.get? P = some { cls := .none, data := .fields ps } := I1.hok P _ hP
  have hPlt : P < s1.heap.objs.size := Heap.lt_size hPs
  have hP2 : (s1.heap.push o).get? P = some { cls := .none, data := .fields ps } := Heap.get?_push_of_some _ hPs
  have cd : PySem.W.CodeHd (s1.heap.push o) c P := TB.code.keeps fun b u e => Heap.get?_push_of_some _ (I1.bk b u e)
  have lim2 : (s1.heap.push o).NoLimit := I1.nolimit.push o
  have cont : ∀ (code : Value) (h3 : Heap) (tk : Nat) (ps' : Array Value), Heap.ExtBut P (s1.heap.push o) h3 → (s1.heap.push o).objs.size ≤ h3.objs.size → h3.get? P = some { cls := .none, data := .fields ps' } → (∃ more, ps' = ps ++ more) → TriplesOk ps'.toList →
      wpAny (model X.prog X.w) X.A (builtinsFor X.env.globals X.env.builtins) (fun bi s₄ =>
        ∃ Ia fp wr n₀ Pf St₀ pz F, Value.ref s1.heap.objs.size = .ref Ia ∧ (∀ A' : Around, A'.handled = none → Walks X.prog X.w A' Ia fp wr n₀ Pf St₀) ∧ St₀ 0 s₄.heap ∧ (∀ b ∈ fp, b < s₄.heap.objs.size) ∧ s₄.heap.NoLimit ∧ cStatics ∉ wr ∧
          (∀ href : Heap, (∀ b o, s₄.heap.get? b = some o → href.get? b = some o) →
            QuietGenD X.prog X.w (genEnv scope (cloFrom X.env.cells scope.names []) s₄.heap.objs.size code bi X.env) x [.Compare (.Name x p2) [.In] [.Name cn p3] p4] (.Name x p1) (List.range s₄.heap.objs.size) wr Pf pz F href (X.A.depth + 1) (X.A.units + 8)) ∧
          (∀ a h₅ tk gs, gs.bare = true → s₄.heap.objs.size < a → h₅.objs.size = a + 1 → (∀ b o, s₄.heap.get? b = some o → h₅.get? b = some o) →
            WalksS X.prog X.w X.A.in4 a (a :: s₄.heap.objs.size :: List.range s₄.heap.objs.size) (s₄.heap.objs.size :: wr) (GenOnlyQ s₄.gens.size) (passing pz n₀ 0).length
              (fun j y => ∃ i, (passing pz n₀ 0)[j]? = some i ∧ F i y) (GenAt X.prog X.w X.A.in4 a s₄.gens.size s₄.heap.objs.size (List.range s₄.heap.objs.size) wr pz n₀ F) →
            GenAt X.prog X.w X.A.in4 a s₄.gens.size s₄.heap.objs.size (List.range s₄.heap.objs.size) wr pz n₀ F 0 { s₄ with gens := s₄.gens.push gs, toks := tk, heap := h₅ } →
            Q' (.ref a) { s₄ with gens := s₄.gens.push gs, toks := tk, heap := h₅ })) X.xe { s1 with heap := h3, toks := tk } := by
    intro code h3 tk ps' hx hsz hP3 hmore ht3
    obtain ⟨bm, ob, e1, e2, e3, e4, e5, e6, e7, e8⟩ := TB.bm
    have hcP : cStatics ≠ P := fun e => by
      obtain ⟨_, hns, _⟩ := I1.nolimit
      obtain ⟨o', es, ep, ho, hd, _⟩ := hns
      rw [e, hPs] at ho
      cases ho
      cases hd
    have hcl : cStatics < s1.heap.objs.size := let ⟨_, hns, _⟩ := I1.nolimit; hns.lt
    have sz2 : (s1.heap.push o).objs.size = s1.heap.objs.size + 1 := Heap.size_push ..
    have keep3 : ∀ b u, b ≠ P → s1.heap.get? b = some u → h3.get? b = some u := fun b u hb e => hx b u hb (Heap.get?_push_of_some _ e)
    refine wpAny_builtinsFor (m := X.mg) (by rw [I1.ok.glob]; exact ((I1.mod.glob.keeps I1.bk).push o).extBut hx TB.gP) e1 e2 (keep3 _ _ e4 (I1.bk _ _ e5)) e6 e7 e8 ?_
    have hylP : yl ≠ P := fun z => by
      obtain ⟨_, e, hc1, _, hd1⟩ := _root_.id hIL
      rw [z, hPs] at e
      cases e
      cases hd1
    have hIL3 : h3.IsTuple yl its.toArray := by
      obtain ⟨ob, e, r⟩ := _root_.id hIL
      exact ⟨ob, keep3 _ _ hylP e, r⟩
    have hItr3 : h3.IsTupleIter s1.heap.objs.size yl 0 := hitr.at fun u e => hx _ u (Nat.ne_of_gt hPlt) e
    refine ⟨s1.heap.objs.size, [s1.heap.objs.size, yl], [s1.heap.objs.size], its.toArray.size, (fun i v => its.toArray[i]? = some v), (fun i h => h.IsTupleIter s1.heap.objs.size yl i ∧ h.IsTuple yl its.toArray), hitB ws cs,
      (fun i y => ∃ (a : Str) (t : Tok), ws[i]? = some a ∧ y = .str a t), rfl, (fun A' hA => Walks.tuple hA _ _ (Nat.ne_of_lt hylt) _), ⟨hItr3, hIL3⟩, ?_, lim2.extBut hx hcP, ?_, ?_, ?_⟩
    · intro b hb
      rcases List.mem_cons.mp hb with z | z
      · rw [z]
        show s1.heap.objs.size < h3.objs.size
        omega
      · rcases List.mem_cons.mp z with z | z
        · rw [z]
          have e9 : s1.heap.objs.size ≤ h3.objs.size := by omega
          exact Nat.lt_of_lt_of_le hylt e9
        · cases z
    · intro z
      rcases List.mem_cons.mp z with z | z
      · exact Nat.ne_of_lt hcl z
      · cases z
    · intro href hhref
      have hck : (cloFrom X.env.cells scope.names []).lookup cn = some cc := NdefX.clo_has S.free (look_memG hcn) hcc
      refine ⟨fun A' E' i v s₂ m₂ hA hD hU hPv hn hm hk => ?_, fun A' E' i v s₂ m₂ hA hD hU hPv hp hn hm hk => ?_⟩
      · obtain ⟨a, t, ha, rfl⟩ := hat i v hPv
        have kp : ∀ b o, b ≠ P → s1.heap.get? b = some o → s₂.heap.get? b = some o := fun b o hb e => by
          have hb1 := keep3 b o hb e
          have hlt := Heap.lt_size e
          refine hk b (List.mem_range.mpr (Heap.lt_size hb1)) (fun z => ?_) o (hhref b o hb1)
          rcases List.mem_cons.mp z with z | z
          · rw [z] at hlt; exact Nat.lt_irrefl _ hlt
          · cases z
        have hc2 : s₂.heap.IsCell cc (some u) := by
          obtain ⟨oc, ho1, ho2⟩ := hcell
          refine ⟨oc, kp _ _ (fun z => ?_) ho1, ho2⟩
          rw [z, hPs] at ho1; cases ho1; cases ho2
        have hr2 := reads_but hPs kp hcr
        have hpz : hitB ws cs i = decide (a ∈ cs) := by unfold hitB; rw [ha]
        have hu' : A'.units + 1 < cLine := by omega
        simp only [List.forIn_cons, List.forIn_nil, if_true, bind_assoc]
        refine wpAny_bind (wpAny_isTrue_Compare1 ?_)
        refine wpAny_Name (wpAny_loadName_local S.kind S.loc hn hm ?_) n1
        refine wpAny_Name (wpAny_loadName_free S.kind hcn hck hc2 ?_ n3) n2
        refine in_cam hr2 hcs (hws a (List.mem_of_getElem? ha)) hu' ?_
        refine wpAny_truthy_bool ?_
        simp only [pure_bind]
        exact wpAny_pure ⟨hpz.symm, GxR.keeps_refl _⟩
      · obtain ⟨a, t, ha, rfl⟩ := hat i v hPv
        exact wpAny_Name (wpAny_loadName_local S.kind S.loc hn hm ⟨⟨a, t, ha, rfl⟩, GxR.keeps_refl _⟩) n1
    · intro g h5 tk5 gs hgb hag hsz5 hk5 W5 hgat
      have hn5 : its.toArray.size = ws.length := by rw [List.size_toArray, hlen]
      rw [hn5] at W5 hgat
      refine hQ H1 g _ q1 ⟨_, _, _, _, _, W5.in4_1, hgat, hgat.1.typeIs, ?_, fun s' hm => ?_⟩
      · intro j v hv
        obtain ⟨i, hij, a, t, ha, e⟩ := hv
        exact ⟨i, a, t, hij, ha, e⟩
      · obtain ⟨more, em⟩ := hmore
        have nwr : ∀ b u, s1.heap.get? b = some u → b ∉ h3.objs.size :: [s1.heap.objs.size] := fun b u e hb => by
          have hl := Heap.lt_size e
          rcases List.mem_cons.mp hb with z | z
          · rw [z] at hl
            have h9 : (h3.objs.size : Nat) < s1.heap.objs.size := hl
            omega
          · rcases List.mem_cons.mp z with z | z
            · rw [z] at hl
              exact Nat.lt_irrefl _ hl
            · cases z
        have J := GxR.inv_tab (more := more) (h' := s'.heap) (g' := s'.gens) (d' := s'.drawn) (t' := s'.toks) I1 hP (fun b u hb e => hm.heap b u (nwr b u e) (hk5 b u (keep3 b u hb e)))
          (by rw [← em]; exact hm.heap P _ (nwr P _ hPs) (hk5 P _ hP3)) (AllBare.movedS (I1.bare.push hgb) hm)
        rw [GxR.sh_eta s1 s' hm.os] at J
        refine ⟨upd H1 P (.tbl (ps ++ more)), ⟨⟨ps ++ more, upd_same, by rw [← em]; exact ht3⟩, fun b hb => upd_ne hb⟩, J⟩
  refine ⟨lim2, ?_⟩
  cases hf : codeAmong gpos ps.toList with
  | none =>
    refine wpAny_genexprCodeX hcode (cd.code hP2 ht) (cd.tab hP2) hf fun c' h' tk hx hge hlt hco' _ htab' _ => ?_
    obtain ⟨o1, vs, f1, tf, fl, tg, inF, tx, tt, op, _, _, _, _, _, _, _, _, _, htr, _⟩ := hco'
    exact cont _ h' tk _ hx (Nat.le_trans hge (Nat.le_of_lt hlt)) htab'.2 ⟨_, rfl⟩ htr
  | some cv =>
    refine wpAny_genexprCode_hit hcode (cd.code hP2 ht) hf ?_
    exact cont cv (s1.heap.push o) s1.toks ps (Heap.ExtBut.refl _ _) (Nat.le_refl _) hP2 ⟨#[], by simp⟩ ht
end
section
variable {M : Mo} {k : Nat} {c : Cfg} {X : Cx} (o : Okx M k c X)
include o
theorem gen_s {sc : Scope} {x cn : Str} (h : genB c.sc sc x cn = true) : (∀ pins σ H s, Inv X pins σ H s → GxR.GenS X.env sc x) ∧ sc.names.lookup cn = some .free ∧ X.env.scope.names.lookup cn = some .cell := by
  unfold genB at h
  simp only [Bool.and_eq_true] at h
  obtain ⟨h1, h2, h3, h4, h5, h6, h7, h8⟩ := h
  refine ⟨fun pins σ H s I => ⟨kindFnX h1, nbX h2, fun y hy z => ?_, of_decide_eq_true h4, of_decide_eq_true h5, fun y hy z => ?_⟩, of_decide_eq_true h6, by rw [o.fit.sc]; exact of_decide_eq_true h7⟩
  · have := List.all_eq_true.mp h3 y hy
    rw [z] at this
    cases this
  · have h9 := List.all_eq_true.mp h8 y hy
    rw [z] at h9
    have h10 : sc0K c.sc y.1 := by
      rw [Bool.or_eq_true] at h9
      rcases h9 with h9 | h9
      · cases h9
      · exact of_decide_eq_true h9
    exact I.ok.has y.1 (.inl (by show X.env.scope.names.lookup y.1 = _; rw [o.fit.sc]; exact h10))
theorem p_nxt {i j : Nat} {g o' cn x : Str} {p0 p1 px po p2 p3 p4 gpos pg pos : Pos} {sc : Scope} (hg : glB c.sc ("next" : Str) = true) (hb : M.P.blt.contains ("next" : Str) = true) (ho : (decide (c.N[i]? = some o') && (visB c.sc o' && okN o')) = true) (hj : c.N[j]? = some cn) (kcn : okN cn = true) (kx : okN x = true) (ncx : ¬ cn = x)
    (hgg : (glB c.sc g && okN g) = true) (hs : genB c.sc sc x cn = true) (hgen : c.gen = true) :
    PE X (.Call (.Name "next" p0) [.GeneratorExp (.Name x p1) [⟨.Name x px, .Name o' po, [.Compare (.Name x p2) [.In] [.Name cn p3] p4], 0⟩] sc gpos, .Name g pg] [] pos) (semE M (cal M.P k) (.nxt i j g)) := by
  obtain ⟨P0, hP0, hcode⟩ := o.fit.gen hgen
  have hm : X.mg "next" = none := by rw [o.of.mg]; exact o.mod.blt _ hb
  obtain ⟨hS, hcn, hcc⟩ := gen_s o hs
  refine ⟨fun pins s σ H Q I ⟨L, st, rl, rs, os, cs, y, d, e1, e2, e3, h4, h5, e6, q⟩ => ?_⟩
  obtain ⟨cc, hcl⟩ := I.ok.has cn (.inl hcc)
  obtain ⟨vo, eo, ro⟩ := rl.get i _ e1
  obtain ⟨vy, ey, ry⟩ := rl.get j _ e2
  obtain ⟨a, vs, rfl, _, sq, rr⟩ := ro.tup_inv
  have hvs : vs = os.map V.str := by
    have go : ∀ {l : List Str} {ws : List V}, M.Reps H (l.map D.str) ws → ws = l.map V.str := by
      intro l
      induction l with
      | nil => intro ws r; cases r; rfl
      | cons b l ih => intro ws r; cases r with | cons r1 r2 => rw [ih r2, r1.str_inv]; rfl
    exact go rr
  subst hvs
  have iter : PE X (.Name o' po) (fun σ' H' Q' => σ' = σ ∧ H' = H ∧ Q' (.ref a) H) := by
    simp only [Bool.and_eq_true, decide_eq_true_eq] at ho
    refine PE.mono (pe_var (i := i) (by rw [o.fit.N]; exact ho.1) (vis_of o.fit ho.2.1) (okN1 ho.2.2) (okN2 ho.2.2)) fun σ' H' Q' ⟨z1, z2, z3⟩ => ?_
    subst z1 z2
    exact ⟨_, eo, z3⟩
  -- the others
  obtain ⟨b, rfl⟩ : ∃ b, vy = .ref b := by
    cases y with
    | tup ys => obtain ⟨b, _, e, _⟩ := ry.tup_inv; exact ⟨b, e⟩
    | ref b => cases ry; exact ⟨_, rfl⟩
    | kl _ => cases ry; exact ⟨_, rfl⟩
    | sl _ => cases ry; exact ⟨_, rfl⟩
    | _ => cases e3
  have dts : ∀ l : List Str, Dts st (l.map D.str) (l.map PyData.str) := fun l => by
    induction l with
    | nil => exact .nil
    | cons b l ih => exact .cons (.str b) ih
  have cam : ∀ s1, Inv X pins σ H s1 → s1.heap.IsCell cc (some (.ref b)) ∧ CamR s1.heap (.ref b) cs := fun s1 I1 => by
    obtain ⟨m, _, hl⟩ := I1.loc
    obtain ⟨u, ru, lk⟩ := hl j cn _ (by rw [o.fit.N]; exact hj) ey (.inr (.inl hcc))
    obtain rfl : u = Value.ref b := ru
    have hkind : X.env.kindOf cn = some .cell := hcc
    rcases lk with ⟨z, _⟩ | ⟨_, c', z1, z2⟩
    · rw [hkind] at z; cases z
    · rw [hcl] at z1; cases z1
      refine ⟨z2, ?_⟩
      have hd : Dp M.K H (.ref b) (.list (cs.map PyData.str)) ∨ Dp M.K H (.ref b) (.tuple (cs.map PyData.str)) := by
        cases y with
        | tup ys =>
          cases e3
          exact .inr (Dt.ok rs (.tup (dts cs)) ry)
        | _ => exact .inl (Dt.ok rs (Dt.lst (xs := cs.map D.str) (by unfold rdS at e3; exact e3) (dts cs)) ry)
      rcases hd with hd | hd
      · obtain ⟨as, r⟩ := Dp.reads I1 _ (V.ref b) (.ref b) (by rw [o.of.K]; exact hd) (show L2.RelV (V.ref b) (.ref b) from rfl)
        exact ⟨as, .inl r⟩
      · obtain ⟨as, r⟩ := Dp.reads I1 _ (V.ref b) (.ref b) (by rw [o.of.K]; exact hd) (show L2.RelV (V.ref b) (.ref b) from rfl)
        exact ⟨as, .inr r⟩
  obtain ⟨vd, ud, hmd, rvd, repd⟩ := o.mod.cons g d e6
  have TB : GxR.TabB X.base X.mg P0.1 P0.2 := by rw [o.of.mg]; exact o.tab P0 hP0
  simp only [Bool.and_eq_true] at hgg
  have hu60 : X.A.units + 60 < cLine := by have := o.of.un; omega
  refine wpAny_Call_Name_kw (ld_blt (u := .builtin "next") I (gl_of o.fit hg) hm (by first | rfl | decide +kernel) ?_ (by decide) (by decide))
  refine PyProof.Rows.callWith_builtin1 ?_ rfl rfl
  show wpAny _ _ (spliced ((false, eval (.GeneratorExp (.Name x p1) [⟨.Name x px, .Name o' po, [.Compare (.Name x p2) [.In] [.Name cn p3] p4], 0⟩] sc gpos) X.env) :: backTo pos (starEach [.Name g pg] X.env))) _ _ s
  refine Calls.spliced_cons (gen_nx (ws := os) (cs := cs) (u := .ref b) (R := fun H1 => H1 = H) (o.room) hu60 TB hcode (hS _ _ _ _ I) hcn hcl iter (fun v => rfl) I ⟨rfl, rfl, a, rfl, by rw [o.of.K]; exact sq, rs.2 P0 hP0, cam, rfl⟩ h4 h5 (okN1 kx) (okN1 kcn) (okN2 kcn) ncx fun H1 gg s5 hR hG => ?_)
  subst hR
  obtain ⟨fp, wr, G, F, St, W, hst, hT, hF, hI⟩ := hG
  obtain ⟨H2, hT2, I5⟩ := hI s5 ⟨fun _ _ _ e => e, W.grefl _, rfl, rfl, Nat.le_refl _⟩
  show wpAny _ _ (spliced ((false, eval (.Name g pg) X.env) :: [])) _ _ s5
  refine Calls.spliced_cons (ld_glob I5 (gl_of o.fit hgg.1) (by rw [o.of.mg]; exact hmd) ?_ (okN1 hgg.2))
  refine Calls.spliced_nil ?_
  -- what is held behind
  have fin : ∀ (s' : Shared) (dd : D) (v : V) (u : Value), Moved wr G s5 s' → RelV v u → (∀ H, M.Rep H dd v) → QL M st H1 Q dd st → EP X pins σ Q u s' := fun s' dd v u hmv rvu rep qq => by
    obtain ⟨H3, ⟨tg, ot⟩, I3⟩ := hI s' hmv
    obtain ⟨ps0, hp0, _⟩ := rs.2 P0 hP0
    obtain ⟨ps3, hp3, _⟩ := tg
    have other : ∀ b u, H1 b = some u → Stab u → H3 b = some u := fun b u e n => by
      have : b ≠ P0.2 := fun z => by rw [z, hp0] at e; cases e; exact n
      rw [ot b this]; exact e
    have tp3 : ∀ b xs, SqT M.K H1 b xs → SqT M.K H3 b xs := fun b xs h => by
      rcases h with (h | ⟨ob, h⟩) | h
      · exact .inl (.inl (other _ _ h trivial))
      · exact .inl (.inr ⟨ob, other _ _ h trivial⟩)
      · exact .inr h
    have lf3 : FzM H1 H3 := ⟨fun b ob y h => other _ _ h trivial, fun b h => other _ _ h trivial⟩
    have rs3 : RelS M st H3 := ⟨fun b ob hb => by
      obtain ⟨w, hw, _, _, _, n5⟩ := (rs.1 b ob hb).there
      exact (rs.1 b ob hb).mono (fun u hu => by rw [hw] at hu; cases hu; exact other _ _ hw n5) tp3 lf3 fun c hc => other _ _ hc trivial, fun p hp => by
      by_cases z : p.2 = P0.2
      · rw [z]; exact ⟨ps3, hp3, by assumption⟩
      · obtain ⟨ps, h1, h2⟩ := rs.2 p hp
        exact ⟨ps, by rw [ot p.2 z]; exact h1, h2⟩⟩
    have ex3 : Ext M st H1 st H3 := ⟨fun b ob e n st' => ⟨other b ob e st', n⟩, tp3, lf3⟩
    exact ⟨v, H3, I3, rvu, qq v H3 ex3 rs3 (rep H3)⟩
  have hfind := passing_find os cs
  refine call_next2 W hst hT (fun v s' hn hv hmv => ?_) fun hn s' hmv => ?_
  · obtain ⟨i', a', t', g1, g2, rfl⟩ := hF 0 v hv
    rw [g1] at hfind
    have hf2 : (os.find? fun a => decide (a ∈ cs)) = some a' := by rw [hfind]; exact g2
    rw [hf2] at q
    exact fin s' (.str a') (.str a') _ hmv ⟨t', rfl⟩ (fun H => .str a') q
  · have hl : (passing (hitB os cs) os.length 0) = [] := List.length_eq_zero_iff.mp hn
    rw [hl] at hfind
    have hf2 : (os.find? fun a => decide (a ∈ cs)) = none := by rw [hfind]; rfl
    rw [hf2] at q
    exact fin s' d vd ud hmv rvd repd q
end
end Py

set_option Elab.async false
set_option linter.all false
set_option maxRecDepth 100000
set_option maxHeartbeats 4000000
/-! enumerate(tuple). -/
namespace PySem
open Sem (wp)
open AutoSeq1 (wpAny_loadPart')
theorem meets_enumT (l : Addr) (items : Array Value) (n : Nat) (dct : Option Addr) (sl : Array (Option Value)) :
    Meets (Builtin.«enumerate.__new__» ⟨[.type "enumerate", .ref l], []⟩) (fun _ R s => s.heap.get? l = some { cls := .type "tuple", dict := dct, data := .seq items n, slots := sl } ∧
      R (.ok (.ret (.ref (s.heap.push { cls := .type "tuple_iterator", data := .fields #[.ref l, .int 0 0] }).objs.size)))
        { s with heap := (s.heap.push { cls := .type "tuple_iterator", data := .fields #[.ref l, .int 0 0] }).push { cls := .type "enumerate", data := .fields #[.none, .bool false, .ref s.heap.objs.size, rawInt 0, .none, .none] } }) :=
  .of_wp fun prog w A R s h => by
    obtain ⟨hp, g, d, tk, os⟩ := s; obtain ⟨hl, h⟩ := h
    have hsub := sub_enumerate
    have hL : Heap.IsTuple (Shared.heap ⟨hp, g, d, tk, os⟩) l items := ⟨_, hl, rfl, n, rfl⟩
    wp_walk using wpAny_loadPart' hl
    refine wpAny_stack_any fun st => wpAny_pure ?_
    split
    · rename_i c _ _ _ _ _
      cases (c == Value.type "enumerate")
      · wp_walk using wpAny_loadPart' hl, wpAny_pyIter_tuple hL
        exact ⟨_, rfl, h⟩
      · wp_walk using wpAny_loadPart' hl, wpAny_pyIter_tuple hL
        exact ⟨_, rfl, h⟩
    · wp_walk using wpAny_loadPart' hl, wpAny_pyIter_tuple hL
      exact ⟨_, rfl, h⟩
section
variable {prog : Program} {w : World} {A : Around} {E : Value → Shared → Prop} {s : Shared}
theorem call_enumT {l : Addr} {items : Array Value} {Q : Value → Shared → Prop} (hL : s.heap.IsTuple l items)
    (h : ∀ h', IsEnum h' (s.heap.objs.size + 1) s.heap.objs.size 0 .none → h'.IsTupleIter s.heap.objs.size l 0 → h'.objs.size = s.heap.objs.size + 2 →
      (∀ b o, s.heap.get? b = some o → h'.get? b = some o) → Q (.ref (s.heap.objs.size + 1)) { s with heap := h' }) :
    wpAny (model prog w) A (call (.type "enumerate") [.ref l]) Q E s := by
  obtain ⟨⟨c, dct, dt, sl⟩, hl, hc, n, hd⟩ := hL
  replace hc : c = .type "tuple" := hc
  replace hd : dt = .seq items n := hd
  subst hc hd
  refine callType_new F.called_enumerate (by decide) (F.typeCall_enumerate_1 _) (F.newCall_enumerate_1 _) (fun obj => F.args_object_init_2 obj _) F.entry_enumerate_new
    (meets_enumT l items n dct sl) ⟨hl, ?_⟩
  have hz : (s.heap.push { cls := .type "tuple_iterator", data := .fields #[.ref l, .int 0 0] }).objs.size = s.heap.objs.size + 1 := Heap.size_push ..
  show _ ∧ _
  rw [hz]
  have he : IsEnum ((s.heap.push { cls := .type "tuple_iterator", data := .fields #[.ref l, .int 0 0] }).push
      { cls := .type "enumerate", data := .fields #[.none, .bool false, .ref s.heap.objs.size, rawInt 0, .none, .none] }) (s.heap.objs.size + 1) s.heap.objs.size 0 .none := by
    have := Heap.get?_push_size (s.heap.push { cls := .type "tuple_iterator", data := .fields #[.ref l, .int 0 0] })
      (o := { cls := .type "enumerate", data := .fields #[.none, .bool false, .ref s.heap.objs.size, rawInt 0, .none, .none] }) rfl
    rw [hz] at this; exact this
  refine ⟨⟨_, he, rfl⟩, h _ he ⟨_, Heap.get?_push_of_some _ (Heap.get?_push_size _ rfl), rfl, rfl⟩ (by rw [Heap.size_push, hz]) fun b o x => Heap.get?_push_of_some _ (Heap.get?_push_of_some _ x)⟩
end
end PySem
namespace Py
open PySem PySem.Spec PyProof.Rows L2
/-- the tuple at a, each item in a new pair -/
def IteT (K : PySem.W.Frag) (a : Addr) : L2.It :=
  ⟨fun i H => ∃ (xs : List V) (x : V), SqT K H a xs ∧ xs[i]? = some x, fun i H v H' => ∃ T x, v = .ref T ∧ H T = none ∧ H' = upd H T (.tup [.int (i : Nat), x]) ∧ ∀ xs, SqT K H a xs → xs[i]? = some x, fun i H => ∃ xs : List V, SqT K H a xs ∧ xs.length = i⟩
theorem turn_enumT {P : Program} {w : World} {K : PySem.W.Frag} {elts : List Expr} {kk : Nat} {tpos : Pos} (a e it : Addr) :
    Turn P w K (.Tuple elts kk tpos) (IteT K a) [e, it] e (fun i h => (∃ old, IsEnum h e it ((i : Nat) : Int) old) ∧ h.IsTupleIter it a i ∧ e ≠ it ∧ a ≠ it ∧ a ≠ e) where
  mem := by simp
  obj := fun i h st b hb => by
    obtain ⟨⟨old, he⟩, ⟨o, ho, hc, hd⟩, _⟩ := st
    have e' : b = e ∨ b = it := by simpa using hb
    rcases e' with z | z
    · rw [z]; exact ⟨_, he, fun v q => nomatch q⟩
    · rw [z]; exact ⟨o, ho, fun v q => by rw [hd] at q; cases q⟩
  keep := fun i h h' st k => let ⟨⟨old, he⟩, hi, hne⟩ := st; ⟨⟨old, k e (by simp) _ he⟩, hi.at fun o q => k it (by simp) o q, hne⟩
  item := by
    intro X hP hw hK hc i pins s σ H E I hf st hg
    subst hP hw hK
    obtain ⟨⟨old, he⟩, hit, hne, hai, hae⟩ := st
    obtain ⟨xs, x, hq, hx⟩ := hg
    obtain ⟨its, rv, p, hz⟩ := I.tuple hq
    obtain ⟨u, hu, ru⟩ := rv.get hx
    have hel : e < s.heap.objs.size := Heap.lt_size he
    have hil : it < s.heap.objs.size := by obtain ⟨_, q, _⟩ := hit; exact Heap.lt_size q
    have hlt : i < its.toArray.size := by rw [List.size_toArray]; exact (List.getElem?_eq_some_iff.mp hu).1
    refine wpAny_pyNext_enum_itemD (Draws.tuple (A := X.A.in1) (I.ok.hd hc) it a hai its.toArray) he ⟨hit, p⟩ hlt hne (by simp [hne, Ne.symm hae]) fun y h' tk hy ho hst' hT hsz hk => ?_
    obtain rfl : y = u := by
      have hy' : its.toArray[i]? = some y := hy
      have e9 : its.toArray[i]? = some u := by simpa using hu
      rw [e9] at hy'; cases hy'; rfl
    obtain ⟨hit', _⟩ := hst'
    refine ⟨_, rfl, wpAny_letOwnedTupleGo_enum (s := { s with heap := h', toks := tk + 1 }) ho fun h'' he' sb => ?_⟩
    have hT2 : h''.get? s.heap.objs.size = some { cls := .type "tuple", data := .seq #[.int i tk, y] } := (sb.2 _ (Nat.ne_of_gt hel)).trans hT
    have new : ObjOk X.prog X.w (upd H s.heap.objs.size (.tup [.int (i : Nat), x])) h'' s.heap.objs.size (.tup [.int (i : Nat), x]) :=
      ⟨by show 2 ≤ sizeLine; decide, [.int i tk, y], .cons ⟨_, rfl⟩ (.cons ru .nil), ⟨_, hT2, rfl, _, rfl⟩⟩
    have I1 : Inv X pins σ (upd H s.heap.objs.size (.tup [.int (i : Nat), x])) { s with heap := h'', toks := tk + 1 } :=
      I.turnedNew (ch := [e, it]) (fun b ob hb q => (sb.2 b (fun z => hb (by simp [z]))).trans (hk b ob (fun z => hb (by simp [z])) (fun z => hb (by simp [z])) q)) hf (Nat.le_refl _) new
    refine ⟨.ref s.heap.objs.size, _, I1, rfl, ⟨_, x, rfl, I.hok.fresh (Nat.le_refl _), rfl, fun ys hy => by rw [I.tuple_inj hy hq]; exact hx⟩, ⟨⟨y, ?_⟩, hit'.at fun o q => (sb.2 it (Ne.symm hne)).trans q, hne, hai, hae⟩, fun b hb => ?_⟩
    · have e1 : ((i + 1 : Nat) : Int) = (i : Int) + 1 := by omega
      rw [e1]; exact he'
    · have hb' : b < s.heap.objs.size := by
        have e' : b = e ∨ b = it := by simpa using hb
        rcases e' with z | z
        · rw [z]; exact hel
        · rw [z]; exact hil
      rw [upd_ne (Nat.ne_of_lt hb')]
      exact (hf b hb).1
  done := by
    intro X hP hw hK hc i pins s σ H E I hf st hg
    subst hP hw hK
    obtain ⟨⟨old, he⟩, hit, hne, hai, hae⟩ := st
    obtain ⟨xs, hq, hx⟩ := hg
    obtain ⟨its, rv, p, hz⟩ := I.tuple hq
    obtain ⟨f0, f1, f2, f3, f4, f5⟩ := hf it (by simp)
    have hl := rv.length
    have hi : its.toArray.size = i := by rw [List.size_toArray]; omega
    refine wpAny_pyNext_enum_endD (Draws.tuple (A := X.A.in1) (I.ok.hd hc) it a hai its.toArray) he (by rw [hi]; exact ⟨hit, p⟩) fun h' eb => ⟨rfl, I.turned (t' := s.toks) (fun b o hb q => eb b o hb q) f0 f1 f3 f4 f5⟩
  self := fun A i s Q E st h => let ⟨⟨_, he⟩, _⟩ := st; wpAny_pyIter_enum he h
def iEnum2 (K : PySem.W.Frag) (ta : TA) : TI := fun σ H R => ta σ H fun vs H1 => ∃ a xs, vs = [.ref a] ∧ ((SqL K H1 a xs ∧ R (Ite K a) H1) ∨ (SqT K H1 a xs ∧ R (IteT K a) H1))
theorem pi_enum2 {X : Cx} {e : Expr} {ta : TA} {p pos tpos : Pos} {elts : List Expr} {kk : Nat} (hg : Gl X "enumerate") (hm : X.mg "enumerate" = none) (ha : PA X [e] ta) (hs : starEach [e] X.env = [(false, eval e X.env)] := by rfl) :
    PI X (.Tuple elts kk tpos) (.Call (.Name "enumerate" p) [e] [] pos) (iEnum2 X.K ta) := by
  refine ⟨fun pins s σ H R I h => ?_⟩
  refine Call_ (ld_blt I hg hm boot_enumerate (PyProof.Rows.callWith_type1 (thn (ha.run pos pins s σ H _ I h) fun us s1 ⟨vs, H1, I1, r1, q1⟩ => ?_) hs rfl))
  obtain ⟨a, xs, ex, q⟩ := q1
  subst ex
  cases r1 with
  | cons r rr =>
    cases rr
    cases r
    have fp : ∀ b ∈ [s1.heap.objs.size + 1, s1.heap.objs.size], FpOk X pins H1 b := fun b hb => by
      have e' : b = s1.heap.objs.size + 1 ∨ b = s1.heap.objs.size := by simpa using hb
      have hle : s1.heap.objs.size ≤ b := by
        rcases e' with z | z
        · rw [z]; exact Nat.le_add_right _ _
        · rw [z]; exact Nat.le_refl _
      exact I1.fpOk hle (I1.hok.fresh hle)
    rcases q with ⟨hq, q⟩ | ⟨hq, q⟩
    · obtain ⟨its, rv, p', hz⟩ := I1.list hq
      refine call_enumerate_list p'.isList fun h' he hit hsz hk => wpAny_pyIter_enum he ?_
      have I2 : Inv X pins σ H1 { s1 with heap := h' } := I1.kept (t' := s1.toks) hk
      exact ⟨s1.heap.objs.size + 1, [s1.heap.objs.size + 1, s1.heap.objs.size], _, _, H1, rfl, I2, turn_enum a (s1.heap.objs.size + 1) s1.heap.objs.size, ⟨⟨.none, he⟩, hit, Nat.succ_ne_self _⟩, fp, q⟩
    · obtain ⟨its, rv, p', hz⟩ := I1.tuple hq
      have hal : a < s1.heap.objs.size := by obtain ⟨_, q, _⟩ := p'; exact Heap.lt_size q
      refine call_enumT p' fun h' he hit hsz hk => wpAny_pyIter_enum he ?_
      have I2 : Inv X pins σ H1 { s1 with heap := h' } := I1.kept (t' := s1.toks) hk
      exact ⟨s1.heap.objs.size + 1, [s1.heap.objs.size + 1, s1.heap.objs.size], _, _, H1, rfl, I2, turn_enumT a (s1.heap.objs.size + 1) s1.heap.objs.size, ⟨⟨.none, he⟩, hit, Nat.succ_ne_self _, Nat.ne_of_lt hal, Nat.ne_of_lt (Nat.lt_succ_of_lt hal)⟩, fp, q⟩
end Py

set_option Elab.async false
set_option linter.all false
set_option maxRecDepth 100000
set_option maxHeartbeats 4000000
/-! Soundness: targets, walks, comprehensions. -/
namespace Py
open PySem PySem.Spec PyProof.Rows L2
/-! ### slots -/
theorem wipe_set {σ : L2.St} {i : Nat} {v : Option V} : ∀ {vs : List Nat}, i ∈ vs → wipe (σ.set i v) vs = wipe σ vs
  | [], h => by cases h
  | j :: vs, h => by
    unfold wipe
    by_cases e : i ∈ vs
    · rw [wipe_set e]
    · have : i = j := by
        rcases List.mem_cons.mp h with h | h
        · exact h
        · exact absurd h e
      subst this
      clear h
      have aux : ∀ {ws : List Nat}, i ∉ ws → wipe (σ.set i v) ws = (wipe σ ws).set i v := by
        intro ws hw
        induction ws with
        | nil => rfl
        | cons w ws ih =>
          unfold wipe
          rw [ih (fun z => hw (List.mem_cons_of_mem _ z)), List.set_comm _ _ (fun z => hw (by rw [z]; exact List.mem_cons_self))]
      rw [aux e, List.set_set]
theorem wipe_comm {σ : L2.St} {i : Nat} {v : Option V} : ∀ {vs : List Nat}, i ∉ vs → wipe (σ.set i v) vs = (wipe σ vs).set i v
  | [], _ => rfl
  | j :: vs, h => by
    unfold wipe
    rw [wipe_comm (fun z => h (List.mem_cons_of_mem _ z)), List.set_comm _ _ (fun z => h (by rw [z]; exact List.mem_cons_self))]
theorem wipe_wipe {σ : L2.St} : ∀ {ws vs : List Nat}, (∀ i ∈ ws, i ∈ vs) → wipe (wipe σ ws) vs = wipe σ vs
  | [], _, _ => rfl
  | w :: ws, vs, h => by
    show wipe ((wipe σ ws).set w none) vs = _
    rw [wipe_set (h w List.mem_cons_self), wipe_wipe fun i hi => h i (List.mem_cons_of_mem _ hi)]
section
variable {M : Mo} {H : Hp} {L : Loc} {σ : L2.St}
theorem RelL.set (r : RelL M H L σ) {d : D} {v : V} (h : M.Rep H d v) (i : Nat) : RelL M H (L.set i (some d)) (σ.set i (some v)) := by
  refine ⟨by simp [r.len], fun j e q => ?_⟩
  by_cases hj : i = j
  · subst hj
    by_cases hi : i < L.length
    · rw [List.getElem?_set_self hi] at q
      cases q
      exact ⟨v, by rw [List.getElem?_set_self (by rw [← r.len]; exact hi)], h⟩
    · rw [List.getElem?_eq_none (by simpa using hi)] at q; cases q
  · rw [List.getElem?_set_ne hj] at q
    obtain ⟨w, h1, h2⟩ := r.get j e q
    exact ⟨w, by rw [List.getElem?_set_ne hj]; exact h1, h2⟩
theorem RelL.none (r : RelL M H L σ) (i : Nat) : RelL M H (L.set i Option.none) (σ.set i Option.none) := by
  refine ⟨by simp [r.len], fun j e q => ?_⟩
  by_cases hj : i = j
  · subst hj
    by_cases hi : i < L.length
    · rw [List.getElem?_set_self hi] at q; cases q
    · rw [List.getElem?_eq_none (by simpa using hi)] at q; cases q
  · rw [List.getElem?_set_ne hj] at q
    obtain ⟨w, h1, h2⟩ := r.get j e q
    exact ⟨w, by rw [List.getElem?_set_ne hj]; exact h1, h2⟩
theorem RelL.wipe (r : RelL M H L σ) : ∀ vs : List Nat, RelL M H (wipeL L vs) (L2.wipe σ vs)
  | [] => r
  | v :: vs => (RelL.wipe r vs).none v
end
/-! ### targets -/
section
variable {M : Mo} {k : Nat} {c : Cfg} {X : Cx} (o : Okx M k c X)
include o
theorem g_name {i : Nat} {e : Expr} (h : nmB c i e = true) : PG X e (gName i) := by
  unfold nmB at h
  split at h
  · simp only [Bool.and_eq_true, decide_eq_true_eq] at h
    obtain ⟨h1, h2⟩ := loc_of o.fit h.2
    exact pg_name (by rw [o.fit.N]; exact o.fit.nd) (by rw [o.fit.N]; exact h.1) h1 h2
  · cases h
theorem nm_notStar {i : Nat} {e : Expr} (h : nmB c i e = true) : ∃ x p, e = .Name x p := by
  unfold nmB at h
  split at h
  · exact ⟨_, _, rfl⟩
  · cases h
/-- several names -/
def gNames : List Nat → TGs
  | [] => gNil
  | i :: is => gCons (gName i) (gNames is)
theorem g_names : ∀ {is : List Nat} {es : List Expr}, nmsB c is es = true → PGs X es (gNames is) ∧ (assignEach es X.env).length = is.length ∧ (assignEach es X.env).findIdx? (·.1) = none
  | [], [], _ => ⟨pgs_nil, rfl, rfl⟩
  | [], _ :: _, h => by unfold nmsB at h; cases h
  | _ :: _, [], h => by unfold nmsB at h; cases h
  | i :: is, e :: es, h => by
    unfold nmsB at h
    simp only [Bool.and_eq_true] at h
    obtain ⟨h1, h2, h3⟩ := g_names h.2
    obtain ⟨x, p, rfl⟩ := nm_notStar o h.1
    refine ⟨pgs_cons (g_name o h.1) h1, ?_, ?_⟩
    · show (assignEach es X.env).length + 1 = _
      rw [h2]; rfl
    · show ((false, assign (.Name x p) X.env) :: assignEach es X.env).findIdx? (·.1) = none
      rw [List.findIdx?_cons, h3]
      rfl
theorem setAll_ok {H : Hp} : ∀ {is : List Nat} {ds : List D} {vs : List V} {L L' : Loc} {σ : L2.St} {Q : L2.St → Hp → Prop}, M.Reps H ds vs → setAll L is ds = some L' → RelL M H L σ →
    (∀ σ', RelL M H L' σ' → (∀ ws : List Nat, (∀ i ∈ is, i ∈ ws) → L2.wipe σ' ws = L2.wipe σ ws) → Q σ' H) → gNames is vs σ H Q
  | [], _, _, L, L', σ, Q, .nil, e, r, q => by
    unfold setAll at e; cases e
    exact ⟨rfl, q σ r fun _ _ => rfl⟩
  | [], _, _, _, _, _, _, .cons _ _, e, _, _ => by unfold setAll at e; cases e
  | _ :: _, _, _, _, _, _, _, .nil, e, _, _ => by unfold setAll at e; cases e
  | i :: is, _, _, L, L', σ, Q, .cons h r, e, rl, q => by
    unfold setAll at e
    refine ⟨_, _, rfl, ?_⟩
    refine setAll_ok r e (rl.set h i) fun σ' r' hw => q σ' r' fun ws hs => ?_
    rw [hw ws fun j hj => hs j (List.mem_cons_of_mem _ hj), wipe_set (hs i List.mem_cons_self)]
theorem g_tg {t : Tg} {e : Expr} (h : tgB c t e = true) : PG X e (semG M t) := by
  unfold tgB at h
  split at h
  · rename_i i
    refine PG.mono (g_name o h) fun v σ H Q ⟨d, L, st, rd, rl, rs, q⟩ => ?_
    exact q _ (rl.set rd i) fun vs hs => wipe_set (hs i (by simp [tgSl]))
  · rename_i is es n p
    obtain ⟨h1, h2, h3⟩ := g_names o h
    refine PG.mono (pg_tup o.of.calm h1 h2 h3) fun v σ H Q ⟨d, L, st, rd, rl, rs, q⟩ => ?_
    unfold tgR at q
    cases d with
    | tup xs =>
      obtain ⟨L', e, q⟩ := q
      obtain ⟨a, vs, rfl, _, sq, rr⟩ := rd.tup_inv
      have len : ∀ {is : List Nat} {ds : List D} {L L' : Loc}, setAll L is ds = some L' → ds.length = is.length := by
        intro is
        induction is with
        | nil => intro ds L L' e; cases ds with
          | nil => rfl
          | cons _ _ => unfold setAll at e; cases e
        | cons i is ih => intro ds L L' e; cases ds with
          | nil => unfold setAll at e; cases e
          | cons _ _ => unfold setAll at e; simp [ih e]
      exact ⟨a, vs, rfl, by rw [o.of.K]; exact sq, by rw [← rr.length]; exact len e, setAll_ok o rr e rl q⟩
    | _ => exact q.elim
  · cases h
end
end Py

set_option Elab.async false
set_option linter.all false
set_option maxRecDepth 100000
set_option maxHeartbeats 4000000
/-! Soundness: walks, list comprehensions. -/
namespace Py
open PySem PySem.Spec PyProof.Rows L2
section
variable {M : Mo} {H0 : Hp}
theorem w_list {a : Addr} {x : D} {xs : List D} (hr : ∀ H, TpLe M H0 H → M.Rep H x (.ref a)) : WalkD M H0 (Itl M.K a) xs (fun t => rdL t x = some xs) := by
  have get : ∀ H, (∃ st, RelS M st H ∧ rdL st x = some xs ∧ TpLe M H0 H) → ∃ vs, SqL M.K H a vs ∧ M.Reps H xs vs := by
    rintro H ⟨st, rs, e, tp⟩
    obtain ⟨b, vs, eb, sq, rr, _⟩ := rdL_ok rs (hr H tp) e
    cases eb
    exact ⟨vs, sq, rr⟩
  refine ⟨fun i H hi g => ?_, fun H g => ?_, fun i H v H' hi g y => ?_⟩
  · obtain ⟨vs, sq, rr⟩ := get H g
    exact ⟨vs, vs[i]'(by rw [← rr.length]; exact hi), sq, by simp⟩
  · obtain ⟨vs, sq, rr⟩ := get H g
    exact ⟨vs, sq, by rw [rr.length]; exact Nat.le_refl _⟩
  · obtain ⟨vs, sq, rr⟩ := get H g
    obtain ⟨e, y⟩ := y
    subst e
    refine ⟨fun _ _ h => h, xs[i], by simp, ?_⟩
    obtain ⟨w, h1, h2⟩ := rr.get (i := i) (d := xs[i]) (by simp)
    have := y vs sq
    rw [h1] at this
    cases this
    exact h2
theorem w_tup {a : Addr} {xs : List D} {vs : List V} (sq : SqT M.K H0 a vs) (rr : M.Reps H0 xs vs) : WalkD M H0 (Itt M.K a) xs (fun _ => True) := by
  refine ⟨fun i H hi ⟨st, rs, _, tp⟩ => ⟨vs, vs[i]'(by rw [← rr.length]; exact hi), tp.tp _ _ sq, by simp⟩, fun H ⟨st, rs, _, tp⟩ => ⟨vs, tp.tp _ _ sq, by rw [rr.length]; exact Nat.le_refl _⟩, fun i H v H' hi ⟨st, rs, _, tp⟩ y => ?_⟩
  obtain ⟨e, y⟩ := y
  subst e
  refine ⟨fun _ _ h => h, xs[i], by simp, ?_⟩
  obtain ⟨w, h1, h2⟩ := rr.get (i := i) (d := xs[i]) (by simp)
  have := y vs (tp.tp _ _ sq)
  rw [h1] at this
  cases this
  exact Rep.mono tp.tp tp.lf h2
theorem w_range (lo : Int) (n : Nat) : WalkD M H0 (Itr lo n) ((List.range n).map fun i : Nat => D.int (lo + ((i : Nat) : Int))) (fun _ => True) := by
  refine ⟨fun i H hi _ => ?_, fun H _ => ?_, fun i H v H' hi _ y => ?_⟩
  · show i < n
    simpa using hi
  · show n ≤ _
    simp
  · obtain ⟨e, y⟩ := y
    subst e y
    have hi' : i < n := by simpa using hi
    exact ⟨fun _ _ h => h, D.int (lo + (i : Nat)), by simp [hi'], .int _⟩
theorem rep_key {M : Mo} {H : Hp} (k : Key) : M.Rep H (keyD k) (kV k) := by
  cases k with
  | inl i => exact .int i
  | inr x => exact .str x
theorem w_keysF {a : Addr} {ob : Obj} {ks : List Key} {vs : List V} (h1 : H0 a = some (.frz ob (.dK (ks.zip vs)))) (hl : ks.length ≤ vs.length) : WalkD M H0 (Itk a ob (ks.zip vs)) (ks.map keyD) (fun _ => True) := by
  have hz : (ks.zip vs).length = ks.length := by rw [List.length_zip]; omega
  refine ⟨fun i H hi ⟨st, rs, _, tp⟩ => ⟨tp.lf.1 _ _ _ h1, by rw [hz]; simpa using hi⟩, fun H ⟨st, rs, _, tp⟩ => ⟨tp.lf.1 _ _ _ h1, by rw [hz]; simp⟩, fun i H v H' hi ⟨st, rs, _, tp⟩ y => ?_⟩
  obtain ⟨rfl, ky, z, y1, rfl⟩ := y
  refine ⟨fun _ _ h => h, keyD ky, ?_, rep_key ky⟩
  have := (List.getElem?_zip_eq_some.mp y1).1
  rw [List.getElem?_map, this]; rfl
theorem w_str (z : Str) : WalkD M H0 (Its z) (z.cps.toList.map fun c => D.str ⟨#[c]⟩) (fun _ => True) := by
  refine ⟨fun i H hi _ => ?_, fun H _ => ?_, fun i H v H' hi _ y => ?_⟩
  · show i < z.cps.size
    simpa using hi
  · show z.cps.size ≤ _
    simp
  · obtain ⟨e, c, y1, y2⟩ := y
    subst e y2
    exact ⟨fun _ _ h => h, D.str ⟨#[c]⟩, by simp [y1], .str _⟩
end
section
variable {M : Mo} {k : Nat} {c : Cfg} {X : Cx} (o : Okx M k c X)
include o
theorem i_of {x : Ex} {tg e : Expr} (he : PE X e (semE M (cal M.P k) x)) : PI X tg e (semI M (cal M.P k) (.of x)) := by
  refine ⟨fun pins s σ H R I ⟨L, st, rl, rs, q⟩ => ?_⟩
  refine thn (he.run pins s σ H _ I (semE_of (R := fun v H1 => ∃ d s1, M.Rep H1 d v ∧ RelS M s1 H1 ∧ Ext M st H s1 H1 ∧ (match d with
      | .tup xs => (∀ J H', Ext M st H s1 H' → RelS M s1 H' → True → WalkD M H' J xs (fun _ => True) → (∀ t : Sto, t = t) → xs.length ≤ sizeLine → R J H')
      | .str z => z.length ≤ sizeLine ∧ (∀ J H', Ext M st H s1 H' → RelS M s1 H' → True → WalkD M H' J (z.cps.toList.map fun c => D.str ⟨#[c]⟩) (fun _ => True) → (∀ t : Sto, t = t) → (z.cps.toList.map fun c => D.str ⟨#[c]⟩).length ≤ sizeLine → R J H')
      | .kd ks _ => (∀ J H', Ext M st H s1 H' → RelS M s1 H' → True → WalkD M H' J (ks.map keyD) (fun _ => True) → (∀ t : Sto, t = t) → (ks.map keyD).length ≤ sizeLine → R J H')
      | d => ∃ xs, rdL s1 d = some xs ∧ (∀ J H', Ext M st H s1 H' → RelS M s1 H' → rdL s1 d = some xs → WalkD M H' J xs (fun t => rdL t d = some xs) → (∀ t : Sto, t = t) → xs.length ≤ sizeLine → R J H'))) (cal_mono _ _) rl rs q fun d s1 v H1 q1 e1 r1 v1 => ⟨d, s1, v1, r1, e1, by
        cases d <;> exact q1⟩)) fun v s1 ⟨w, H1, I1, r1, d, t1, rd, rs1, e1, q1⟩ => ?_
  have lst : (∃ xs, rdL t1 d = some xs ∧ (∀ J H', Ext M st H t1 H' → RelS M t1 H' → rdL t1 d = some xs → WalkD M H' J xs (fun t => rdL t d = some xs) → (∀ t : Sto, t = t) → xs.length ≤ sizeLine → R J H')) → wpAny (model X.prog X.w) X.A (pyIter v) (PIE X pins σ tg R) X.xe s1 := by
    rintro ⟨xs, e, q1⟩
    obtain ⟨a, vs, rfl, sq, rr, z⟩ := rdL_ok rs1 rd e
    cases r1
    obtain ⟨its, rv, p, hz⟩ := I1.list (show SqL X.K H1 a vs by rw [o.of.K]; exact sq)
    refine wpAny_pyIter_list p.isList ?_
    refine ⟨s1.heap.objs.size, [s1.heap.objs.size], _, _, H1, rfl, I1.kept (t' := s1.toks) fun b ob eb => Heap.get?_push_of_some _ eb, turn_list a _, ⟨_, Heap.get?_push_size _ rfl, rfl, rfl⟩, fun b hb => ?_, ?_⟩
    · have eb : b = s1.heap.objs.size := by simpa using hb
      subst eb
      exact I1.fpOk (Nat.le_refl _) (I1.hok.fresh (Nat.le_refl _))
    · rw [o.of.K]
      exact q1 _ _ e1 rs1 e (w_list fun H' tp => Rep.mono tp.tp tp.lf rd) (fun _ => rfl) z
  cases d with
  | tup xs =>
    obtain ⟨a, vs, rfl, z, sq, rr⟩ := rd.tup_inv
    cases r1
    have sq' : SqT X.K H1 a vs := by rw [o.of.K]; exact sq
    obtain ⟨its, rv, p, hz⟩ := I1.tuple sq'
    refine wpAny_pyIter_tuple (show s1.heap.IsTuple a its.toArray from p) ?_
    refine ⟨s1.heap.objs.size, [s1.heap.objs.size], _, _, H1, rfl, I1.kept (t' := s1.toks) fun b ob eb => Heap.get?_push_of_some _ eb, turn_tuple a _, ⟨_, Heap.get?_push_size _ rfl, rfl, rfl⟩, fun b hb => ?_, ?_⟩
    · have eb : b = s1.heap.objs.size := by simpa using hb
      subst eb
      exact I1.fpOk (Nat.le_refl _) (I1.hok.fresh (Nat.le_refl _))
    · rw [o.of.K]
      exact q1 _ _ e1 rs1 trivial (w_tup sq rr) (fun _ => rfl) z
  | str z =>
    cases rd
    obtain ⟨t, rfl⟩ := r1
    have q2 : (z.cps.toList.map fun c => D.str ⟨#[c]⟩).length ≤ sizeLine := by rw [List.length_map]; exact q1.1
    have fin := q1.2 (Its z) H1 e1 rs1 trivial (w_str z) (fun _ => rfl)
    cases ha : z.cps.all (· < 128)
    · exact wpAny_pyIter_wide ha (pi_one (tk := s1.toks) I1 _ (turn_str _ z t "str_iterator" (.inr rfl)) ⟨_, Heap.get?_push_size _ rfl, rfl, rfl⟩ (fin q2))
    · exact wpAny_pyIter_ascii ha (pi_one (tk := s1.toks) I1 _ (turn_str _ z t "str_ascii_iterator" (.inl rfl)) ⟨_, Heap.get?_push_size _ rfl, rfl, rfl⟩ (fin q2))
  | kd ks ds =>
    cases rd with
    | kd z e2 h1 rr =>
      rename_i a ob vs
      cases r1
      obtain ⟨hs, hgd, hx, es, ep, us, hdt, hsz, kv, hm⟩ := I1.frzK h1
      have hl : (ks.zip vs).length = ks.length := by rw [List.length_zip, ← rr.length, ← e2]; exact Nat.min_self _
      have fin := q1 (Itk a ob (ks.zip vs)) H1 e1 rs1 trivial (w_keysF h1 (by rw [← rr.length, ← e2]; exact Nat.le_refl _)) (fun _ => rfl) (by rw [List.length_map]; exact z)
      refine iter_keys hs hgd hx hdt (pi_one (tk := s1.toks) I1 _ (turn_keys _ hdt) ⟨_, Heap.get?_push_size _ rfl, rfl, ?_⟩ fin)
      rw [hsz]; rfl
  | _ => exact lst q1
theorem i_rng1 {a : Ex} {a' : Expr} {tg : Expr} {x : Str} {p pos : Pos} (hx : x = ("range" : Str)) (hg : glB c.sc x = true) (hb : M.P.blt.contains x = true) (hs : notStar a' = true) (ha : PE X a' (semE M (cal M.P k) a)) :
    PI X tg (.Call (.Name x p) [a'] [] pos) (semI M (cal M.P k) (.rng1 a)) := by
  subst hx
  have hm : X.mg "range" = none := by rw [o.of.mg]; exact o.mod.blt _ hb
  refine PI.mono (pi_range1 (gl_of o.fit hg) hm (pa_cons ha pa_nil (star_of hs)) (by rw [star_of hs]; rfl)) fun σ H R ⟨L, st, rl, rs, q⟩ => ?_
  refine semE_of (cal_mono _ _) rl rs q fun d s1 v H1 q1 e1 r1 v1 => ?_
  obtain ⟨hi, rfl, h1, h2, h3, q1⟩ := q1
  cases v1
  exact ⟨hi, rfl, h1, h2, q1 _ _ e1 r1 trivial (w_range 0 _) (fun _ => rfl) (by simpa using h3)⟩
theorem i_rng2 {a b : Ex} {a' b' : Expr} {tg : Expr} {x : Str} {p pos : Pos} (hx : x = ("range" : Str)) (hg : glB c.sc x = true) (hb : M.P.blt.contains x = true) (hs : notStar a' = true) (hs2 : notStar b' = true) (ha : PE X a' (semE M (cal M.P k) a)) (hbb : PE X b' (semE M (cal M.P k) b)) :
    PI X tg (.Call (.Name x p) [a', b'] [] pos) (semI M (cal M.P k) (.rng2 a b)) := by
  subst hx
  have hm : X.mg "range" = none := by rw [o.of.mg]; exact o.mod.blt _ hb
  refine PI.mono (pi_range2 (gl_of o.fit hg) hm (pa_cons ha (pa_cons hbb pa_nil (star_of hs2)) (star_of hs)) (by rw [star_of hs, star_of hs2]; rfl) (by rw [star_of hs2]; rfl)) fun σ H R ⟨L, st, rl, rs, q⟩ => ?_
  refine semE_of (cal_mono _ _) rl rs q fun d s1 v H1 q1 e1 r1 v1 => ?_
  refine semE_of (cal_mono _ _) (rl.ext e1) r1 q1 fun d2 s2 v2 H2 q2 e2 r2 w2 => ?_
  obtain ⟨lo, hi, rfl, rfl, h1, h3, q2⟩ := q2
  cases v1; cases w2
  exact ⟨lo, hi, rfl, h1, q2 _ _ (e1.trans e2) r2 trivial (w_range lo _) (fun _ => rfl) (by simpa using h3)⟩
theorem w_enum {H0 : Hp} {a : Addr} {x : D} {xs : List D} (hr : ∀ H, TpLe M H0 H → M.Rep H x (.ref a)) : WalkD M H0 (Ite M.K a) (xs.zipIdx.map fun p => D.tup [.int (p.2 : Nat), p.1]) (fun t => rdL t x = some xs) := by
  have get : ∀ H, (∃ st, RelS M st H ∧ rdL st x = some xs ∧ TpLe M H0 H) → ∃ vs, SqL M.K H a vs ∧ M.Reps H xs vs := by
    rintro H ⟨st, rs, e, tp⟩
    obtain ⟨b, vs, eb, sq, rr, _⟩ := rdL_ok rs (hr H tp) e
    cases eb
    exact ⟨vs, sq, rr⟩
  refine ⟨fun i H hi g => ?_, fun H g => ?_, fun i H v H' hi g y => ?_⟩
  · obtain ⟨vs, sq, rr⟩ := get H g
    exact ⟨vs, vs[i]'(by rw [← rr.length]; simpa using hi), sq, by simp⟩
  · obtain ⟨vs, sq, rr⟩ := get H g
    exact ⟨vs, sq, by rw [← rr.length]; simp⟩
  · obtain ⟨vs, sq, rr⟩ := get H g
    obtain ⟨T, w, rfl, hT, rfl, y⟩ := y
    have hi' : i < xs.length := by simpa using hi
    obtain ⟨w', h1, h2⟩ := rr.get (i := i) (d := xs[i]) (by simp [hi'])
    have := y vs sq
    rw [h1] at this
    cases this
    have kp := upd_keeps (o := .tup [.int (i : Nat), w]) hT
    refine ⟨kp, D.tup [.int (i : Nat), xs[i]], by simp [hi'], .tup (by show 2 ≤ sizeLine; decide) (.inl (.inl upd_same)) (.cons (.int _) (.cons (Rep.mono (sub_tp kp) (sub_lf kp) h2) .nil))⟩
theorem w_enumT {H0 : Hp} {a : Addr} {xs : List D} {vs : List V} (sq : SqT M.K H0 a vs) (rr : M.Reps H0 xs vs) : WalkD M H0 (IteT M.K a) (xs.zipIdx.map fun p => D.tup [.int (p.2 : Nat), p.1]) (fun _ => True) := by
  have hl := rr.length
  refine ⟨fun i H hi g => ?_, fun H g => ?_, fun i H v H' hi g y => ?_⟩
  · obtain ⟨st, rs, _, tp⟩ := g
    exact ⟨vs, vs[i]'(by rw [← hl]; simpa using hi), tp.tp _ _ sq, by simp⟩
  · obtain ⟨st, rs, _, tp⟩ := g
    exact ⟨vs, tp.tp _ _ sq, by rw [← hl]; simp⟩
  · obtain ⟨st, rs, _, tp⟩ := g
    obtain ⟨T, w, rfl, hT, rfl, y⟩ := y
    have hi' : i < xs.length := by simpa using hi
    obtain ⟨w', h1, h2⟩ := rr.get (i := i) (d := xs[i]) (by simp [hi'])
    have := y vs (tp.tp _ _ sq)
    rw [h1] at this
    cases this
    have kp := upd_keeps (o := .tup [.int (i : Nat), w]) hT
    refine ⟨kp, D.tup [.int (i : Nat), xs[i]], by simp [hi'], .tup (by show 2 ≤ sizeLine; decide) (.inl (.inl upd_same)) (.cons (.int _) (.cons (Rep.mono (sub_tp kp) (sub_lf kp) (Rep.mono tp.tp tp.lf h2)) .nil))⟩
theorem i_enum {a : Ex} {a' : Expr} {tg : Expr} {x : Str} {p pos : Pos} (hx : x = ("enumerate" : Str)) (hg : glB c.sc x = true) (hb : M.P.blt.contains x = true) (hs : notStar a' = true) (ht : isTupE tg = true) (ha : PE X a' (semE M (cal M.P k) a)) :
    PI X tg (.Call (.Name x p) [a'] [] pos) (semI M (cal M.P k) (.enum a)) := by
  subst hx
  have hm : X.mg "enumerate" = none := by rw [o.of.mg]; exact o.mod.blt _ hb
  cases tg with
  | Tuple es n tp =>
    refine PI.mono (pi_enum2 (gl_of o.fit hg) hm (pa_cons ha pa_nil (star_of hs)) (by rw [star_of hs]; rfl)) fun σ H R ⟨L, st, rl, rs, q⟩ => ?_
    refine semE_of (cal_mono _ _) rl rs q fun d s1 v H1 q1 e1 r1 v1 => ?_
    rcases q1 with ⟨xs, rfl, q1⟩ | ⟨xs, e, q1⟩
    · obtain ⟨b, vs, rfl, z, sq, rr⟩ := v1.tup_inv
      refine ⟨b, vs, rfl, .inr ⟨by rw [o.of.K]; exact sq, ?_⟩⟩
      rw [o.of.K]
      exact q1 _ _ e1 r1 trivial (w_enumT o sq rr) (fun _ => rfl) (by simpa using z)
    · obtain ⟨b, vs, rfl, sq, rr, z⟩ := rdL_ok r1 v1 e
      refine ⟨b, vs, rfl, .inl ⟨by rw [o.of.K]; exact sq, ?_⟩⟩
      rw [o.of.K]
      exact q1 _ _ e1 r1 e (w_enum o fun H' tp => Rep.mono tp.tp tp.lf v1) (fun _ => rfl) (by simpa using z)
  | _ => cases ht
theorem w_zipL {H0 : Hp} {a b : Addr} {x y : D} {xs ys : List D} (hx : ∀ H, TpLe M H0 H → M.Rep H x (.ref a)) (hy : ∀ H, TpLe M H0 H → M.Rep H y (.ref b)) : WalkD M H0 (Itz M.K a b) ((xs.zip ys).map fun p => D.tup [p.1, p.2]) (fun t => rdL t x = some xs ∧ rdL t y = some ys) := by
  have get : ∀ H, (∃ st, RelS M st H ∧ (rdL st x = some xs ∧ rdL st y = some ys) ∧ TpLe M H0 H) → ∃ vs ws, SqL M.K H a vs ∧ M.Reps H xs vs ∧ SqL M.K H b ws ∧ M.Reps H ys ws := by
    rintro H ⟨st, rs, ⟨e, e'⟩, tp⟩
    obtain ⟨a', vs, ea, sq, rr, _⟩ := rdL_ok rs (hx H tp) e
    obtain ⟨b', ws, eb, sq', rr', _⟩ := rdL_ok rs (hy H tp) e'
    cases ea; cases eb
    exact ⟨vs, ws, sq, rr, sq', rr'⟩
  refine ⟨fun i H hi g => ?_, fun H g => ?_, fun i H v H' hi g y => ?_⟩
  · obtain ⟨vs, ws, sq, rr, sq', rr'⟩ := get H g
    have hi' : i < xs.length ∧ i < ys.length := by simp at hi; omega
    exact ⟨vs, ws, vs[i]'(by rw [← rr.length]; exact hi'.1), ws[i]'(by rw [← rr'.length]; exact hi'.2), sq, sq', by simp, by simp⟩
  · obtain ⟨vs, ws, sq, rr, sq', rr'⟩ := get H g
    refine ⟨vs, ws, sq, sq', ?_⟩
    rw [← rr.length, ← rr'.length]
    simp
    omega
  · obtain ⟨vs, ws, sq, rr, sq', rr'⟩ := get H g
    obtain ⟨T, u, w, rfl, hT, rfl, y1, y2⟩ := y
    have hi' : i < xs.length ∧ i < ys.length := by simp at hi; omega
    obtain ⟨u', h1, h2⟩ := rr.get (i := i) (d := xs[i]'hi'.1) (by simp [hi'.1])
    obtain ⟨w', h3, h4⟩ := rr'.get (i := i) (d := ys[i]'hi'.2) (by simp [hi'.2])
    have t1 := y1 vs sq
    have t2 := y2 ws sq'
    rw [h1] at t1
    rw [h3] at t2
    cases t1; cases t2
    have kp := upd_keeps (o := .tup [u, w]) hT
    refine ⟨kp, D.tup [xs[i]'hi'.1, ys[i]'hi'.2], ?_, .tup (by show 2 ≤ sizeLine; decide) (.inl (.inl upd_same)) (.cons (Rep.mono (sub_tp kp) (sub_lf kp) h2) (.cons (Rep.mono (sub_tp kp) (sub_lf kp) h4) .nil))⟩
    simp [List.getElem?_zip_eq_some, hi'.1, hi'.2]
theorem w_zipT {H0 : Hp} {a b : Addr} {xs ys : List D} {vs ws : List V} (sq : SqT M.K H0 a vs) (rr : M.Reps H0 xs vs) (sq' : SqT M.K H0 b ws) (rr' : M.Reps H0 ys ws) : WalkD M H0 (RZ.ItzT M.K a b) ((xs.zip ys).map fun p => D.tup [p.1, p.2]) (fun _ => True) := by
  refine ⟨fun i H hi ⟨st, rs, _, tp⟩ => ?_, fun H ⟨st, rs, _, tp⟩ => ?_, fun i H v H' hi ⟨st, rs, _, tp⟩ y => ?_⟩
  · have hi' : i < xs.length ∧ i < ys.length := by simp at hi; omega
    exact ⟨vs, ws, vs[i]'(by rw [← rr.length]; exact hi'.1), ws[i]'(by rw [← rr'.length]; exact hi'.2), tp.tp _ _ sq, tp.tp _ _ sq', by simp, by simp⟩
  · refine ⟨vs, ws, tp.tp _ _ sq, tp.tp _ _ sq', ?_⟩
    rw [← rr.length, ← rr'.length]
    simp
    omega
  · obtain ⟨T, u, w, rfl, hT, rfl, y1, y2⟩ := y
    have hi' : i < xs.length ∧ i < ys.length := by simp at hi; omega
    obtain ⟨u', h1, h2⟩ := rr.get (i := i) (d := xs[i]'hi'.1) (by simp [hi'.1])
    obtain ⟨w', h3, h4⟩ := rr'.get (i := i) (d := ys[i]'hi'.2) (by simp [hi'.2])
    have t1 := y1 vs (tp.tp _ _ sq)
    have t2 := y2 ws (tp.tp _ _ sq')
    rw [h1] at t1
    rw [h3] at t2
    cases t1; cases t2
    have kp := upd_keeps (o := .tup [u, w]) hT
    refine ⟨kp, D.tup [xs[i]'hi'.1, ys[i]'hi'.2], ?_, .tup (by show 2 ≤ sizeLine; decide) (.inl (.inl upd_same)) (.cons (Rep.mono (sub_tp kp) (sub_lf kp) (Rep.mono tp.tp tp.lf h2)) (.cons (Rep.mono (sub_tp kp) (sub_lf kp) (Rep.mono tp.tp tp.lf h4)) .nil))⟩
    simp [List.getElem?_zip_eq_some, hi'.1, hi'.2]
theorem i_zip {a b : Ex} {a' b' : Expr} {tg : Expr} {x : Str} {p pos : Pos} (hx : x = ("zip" : Str)) (hg : glB c.sc x = true) (hb : M.P.blt.contains x = true) (hs : notStar a' = true) (hs2 : notStar b' = true) (ht : isTupE tg = true) (ha : PE X a' (semE M (cal M.P k) a)) (hbb : PE X b' (semE M (cal M.P k) b)) :
    PI X tg (.Call (.Name x p) [a', b'] [] pos) (semI M (cal M.P k) (.zip a b)) := by
  subst hx
  have hm : X.mg "zip" = none := by rw [o.of.mg]; exact o.mod.blt _ hb
  cases tg with
  | Tuple es n tp =>
    refine PI.mono (RZ.pi_zipA (gl_of o.fit hg) hm (pa_cons ha (pa_cons hbb pa_nil (star_of hs2)) (star_of hs)) (by rw [star_of hs, star_of hs2]) (by rw [star_of hs2]; rfl)) fun σ H R ⟨L, st, rl, rs, q⟩ => ?_
    refine semE_of (cal_mono _ _) rl rs q fun d s1 v H1 q1 e1 r1 v1 => ?_
    refine semE_of (cal_mono _ _) (rl.ext e1) r1 q1 fun d2 s2 v2 H2 q2 e2 r2 w2 => ?_
    have v1' := v1.ext e2
    rcases q2 with ⟨xs, ys, rfl, rfl, q2⟩ | ⟨xs, ys, h1, h2, q2⟩
    · obtain ⟨a0, vs, rfl, z1, sq, rr⟩ := v1'.tup_inv
      obtain ⟨b0, ws, rfl, z2, sq', rr'⟩ := w2.tup_inv
      refine ⟨a0, b0, vs, ws, rfl, .inr ⟨by rw [o.of.K]; exact sq, by rw [o.of.K]; exact sq', ?_⟩⟩
      rw [o.of.K]
      exact q2 _ _ (e1.trans e2) r2 trivial (w_zipT o sq rr sq' rr') (fun _ => rfl) (by simp; omega)
    · obtain ⟨a0, vs, rfl, sq, rr, z1⟩ := rdL_ok r2 v1' h1
      obtain ⟨b0, ws, rfl, sq', rr', z2⟩ := rdL_ok r2 w2 h2
      refine ⟨a0, b0, vs, ws, rfl, .inl ⟨by rw [o.of.K]; exact sq, by rw [o.of.K]; exact sq', ?_⟩⟩
      rw [o.of.K]
      exact q2 _ _ (e1.trans e2) r2 ⟨h1, h2⟩ (w_zipL o (fun H' tp => Rep.mono tp.tp tp.lf v1') fun H' tp => Rep.mono tp.tp tp.lf w2) (fun _ => rfl) (by simp; omega)
  | _ => cases ht
end
end Py

set_option Elab.async false
set_option linter.all false
set_option maxRecDepth 100000
set_option maxHeartbeats 4000000
/-! Soundness: comprehensions. -/
namespace Py
open PySem PySem.Spec PyProof.Rows L2
section
variable {M : Mo} {st : Sto} {H : Hp} {D0 : Addr}
/-- an object that is not in the store is written -/
theorem other_keep {vs ws : HO} (hD : H D0 = some vs) (n1 : ∀ xs, vs ≠ .tup xs) (n2 : ∀ ob y, vs ≠ .frz ob y) (n3 : vs ≠ .xd []) :
    (∀ b xs, SqT M.K H b xs → SqT M.K (upd H D0 ws) b xs) ∧ FzM H (upd H D0 ws) ∧ (∀ b, H b = some (.xd []) → upd H D0 ws b = some (.xd [])) := by
  have x3 : ∀ b, H b = some (.xd []) → upd H D0 ws b = some (.xd []) := fun b h => by
    rw [upd_ne (fun e => by rw [e, hD] at h; exact n3 (Option.some.inj h))]; exact h
  have x2 : ∀ b ob y, H b = some (.frz ob y) → upd H D0 ws b = some (.frz ob y) := fun b ob y h => by
    rw [upd_ne (fun e => by rw [e, hD] at h; exact n2 _ _ (Option.some.inj h))]; exact h
  refine ⟨fun b xs h => ?_, ⟨x2, x3⟩, x3⟩
  rcases h with (h | ⟨ob, h⟩) | h
  · exact .inl (.inl (by rw [upd_ne (fun e => by rw [e, hD] at h; exact n1 _ (Option.some.inj h))]; exact h))
  · exact .inl (.inr ⟨ob, x2 _ _ _ h⟩)
  · exact .inr h
theorem RelS.other {vs ws : HO} (r : RelS M st H) (hn : st D0 = none) (hD : H D0 = some vs) (n : Stab vs) (k : (∀ b xs, SqT M.K H b xs → SqT M.K (upd H D0 ws) b xs) ∧ FzM H (upd H D0 ws) ∧ (∀ b, H b = some (.xd []) → upd H D0 ws b = some (.xd []))) : RelS M st (upd H D0 ws) := ⟨fun a o q => by
  have : a ≠ D0 := fun e => by rw [e, hn] at q; cases q
  exact (r.1 a o q).mono (fun u hu => by rw [upd_ne this]; exact hu) k.1 k.2.1 k.2.2, tab_upd r.2 hD n⟩
theorem Ext.other {s1 : Sto} {H1 : Hp} {ws : HO} (e : Ext M s1 H1 st H) (h1 : H1 D0 = none) (k : (∀ b xs, SqT M.K H b xs → SqT M.K (upd H D0 ws) b xs) ∧ FzM H (upd H D0 ws) ∧ (∀ b, H b = some (.xd []) → upd H D0 ws b = some (.xd []))) : Ext M s1 H1 st (upd H D0 ws) :=
  ⟨fun b o eb nb no => by
    obtain ⟨h2, h3⟩ := e.fr b o eb nb no
    exact ⟨by rw [upd_ne (fun z => by rw [z, h1] at eb; cases eb)]; exact h2, h3⟩, fun b xs h => k.1 _ _ (e.tp b xs h), ⟨fun b o u h => k.2.1.1 _ _ _ (e.lf.1 b o u h), fun b h => k.2.1.2 _ (e.lf.2 b h)⟩⟩
theorem Ext.tl {s1 : Sto} {H1 : Hp} (e : Ext M s1 H1 st H) : TpLe M H1 H := ⟨e.tp, e.lf⟩
theorem TpLe.trans {H1 H2 H3 : Hp} (a : TpLe M H1 H2) (b : TpLe M H2 H3) : TpLe M H1 H3 := ⟨fun c xs h => b.tp c xs (a.tp c xs h), ⟨fun c o u h => b.lf.1 c o u (a.lf.1 c o u h), fun c h => b.lf.2 c (a.lf.2 c h)⟩⟩
end
section
variable {M : Mo} {k : Nat} {c : Cfg} {X : Cx} (o : Okx M k c X)
include o
/-- a comprehension's turns over a walk -/
theorem lc_sem {elt : Ex} {vs : List Nat} {tg : Tg} {ifs : Exs} {items : List D} {stays : Sto → Prop} {J : L2.It} {s1 : Sto} {H1 : Hp} {L : Loc} {σ : L2.St} {fin : List D → Sto → Prop} {Qd : Addr → Hp → Prop} (hv : ∀ i ∈ tgSl tg, i ∈ vs) (rl : RelL M H1 L σ) (r1 : RelS M s1 H1) (h0 : stays s1)
    (W : WalkD M H1 J items stays) (hz : items.length ≤ sizeLine)
    (hf : ∀ D acc vacc t H', H1 D = none → RelS M t H' → Ext M s1 H1 t H' → stays t → H' D = some (.lst vacc) → t D = none → M.Reps H' acc vacc → fin acc t → Qd D H')
    (q : lcL stays (fun x s nx => tgR tg x (wipeL L vs) fun L1 => wpTs M.P (cal M.P k) ifs L1 s (fun b t => if b = true then wpE M.P (cal M.P k) elt L1 t (fun d u => nx (some d) u) X0 else nx none t) X0) fin items [] s1) :
    ∀ D, H1 D = none → ∃ W : Nat → Nat → Hp → Prop, (∃ m, W 0 m (upd H1 D (.lst []))) ∧ ∀ i m H, W i m H →
      (J.stop i H ∧ Qd D H) ∨ (J.go i H ∧ ∃ Nx : Hp → Prop, (∀ H', Nx H' → ∃ m', m' < m ∧ W (i + 1) m' H') ∧ ∀ x H', J.yld i H x H' → semG M tg x (wipe σ vs) H' fun σ2 H2 => wipe σ2 vs = wipe σ vs ∧ semTs M (cal M.P k) ifs σ2 H2 fun b H3 =>
        if b = true then semE M (cal M.P k) elt σ2 H3 fun y H4 => ∃ acc, H4 D = some (.lst acc) ∧ acc.length < sizeLine ∧ Nx (upd H4 D (.lst (acc ++ [y]))) else Nx H3) := by
  intro D hD
  refine lc_it W (fun i H' => ∃ t acc vacc, RelS M t H' ∧ stays t ∧ Ext M s1 H1 t H' ∧ H' D = some (.lst vacc) ∧ t D = none ∧ M.Reps H' acc vacc ∧ acc.length ≤ i ∧
    lcL stays (fun x s nx => tgR tg x (wipeL L vs) fun L1 => wpTs M.P (cal M.P k) ifs L1 s (fun b t => if b = true then wpE M.P (cal M.P k) elt L1 t (fun d u => nx (some d) u) X0 else nx none t) X0) fin (items.drop i) acc t) ?_ ?_ ?_ ?_
  · exact ⟨s1, [], [], r1.grow (upd_keeps hD), h0, .grow (upd_keeps hD), upd_same, fresh_sto r1 hD, .nil, Nat.le_refl _, q⟩
  · rintro i H' _ ⟨t, acc, vacc, g1, g2, g3, _⟩
    exact ⟨t, g1, g2, g3.tl⟩
  · rintro i x Ha Hb hi ⟨t, acc, vacc, g1, g2, g3, g4, g5, g6, g7, g8⟩ ⟨kp, d, ed, rd⟩
    have dr : items.drop i = d :: items.drop (i + 1) := by
      obtain ⟨h1, h2⟩ := List.getElem?_eq_some_iff.mp ed
      rw [← h2, List.drop_eq_getElem_cons h1]
    rw [dr] at g8
    unfold lcL at g8
    have rb : RelS M t Hb := g1.grow kp
    have eb : Ext M s1 H1 t Hb := g3.trans (.grow kp)
    have rlb : RelL M Hb (wipeL L vs) (wipe σ vs) := (rl.mono eb.tp eb.lf).wipe vs
    refine ⟨d, wipeL L vs, t, rd, rlb, rb, tgR_mono (fun L1 q1 σ' rl1 hw => ⟨by rw [hw vs hv, wipe_wipe fun _ h => h], ?_⟩) g8⟩
    have turn : ∀ (o' : Option Py.D) (t' : Sto) (H4 : Hp) (vacc' : List V), Ext M s1 H1 t' H4 → RelS M t' H4 → H4 D = some (.lst vacc') → M.Reps H4 (match o' with | some d => acc ++ [d] | none => acc) vacc' →
        Dr t' (fun s => stays s ∧ lcL stays (fun x s nx => tgR tg x (wipeL L vs) fun L1 => wpTs M.P (cal M.P k) ifs L1 s (fun b t => if b = true then wpE M.P (cal M.P k) elt L1 t (fun d u => nx (some d) u) X0 else nx none t) X0) fin (items.drop (i + 1)) (match o' with | some d => acc ++ [d] | none => acc) s) →
        t' D = none → ∃ t acc vacc, RelS M t H4 ∧ stays t ∧ Ext M s1 H1 t H4 ∧ H4 D = some (.lst vacc) ∧ t D = none ∧ M.Reps H4 acc vacc ∧ acc.length ≤ i + 1 ∧
          lcL stays (fun x s nx => tgR tg x (wipeL L vs) fun L1 => wpTs M.P (cal M.P k) ifs L1 s (fun b t => if b = true then wpE M.P (cal M.P k) elt L1 t (fun d u => nx (some d) u) X0 else nx none t) X0) fin (items.drop (i + 1)) acc t := by
      rintro o' t' H4 vacc' e4 r4 hD4 rr4 ⟨s5, sub, hs5, q5⟩ hn
      refine ⟨s5, _, vacc', r4.sub sub, hs5, e4.sub sub, hD4, ?_, rr4, ?_, q5⟩
      · cases z : s5 D with
        | none => rfl
        | some u => rw [sub D u z] at hn; cases hn
      · cases o' with
        | none => exact Nat.le_succ_of_le g7
        | some d => rw [List.length_append]; exact Nat.succ_le_succ g7
    refine semTs_of (cal_mono _ _) rl1 rb q1 fun b t3 H3 q3 e3 r3 => ?_
    have hDb : Hb D = some (.lst vacc) := kp D _ g4
    obtain ⟨hD3, hn3⟩ := e3.fr D _ hDb g5 trivial
    cases b with
    | true =>
      simp only [if_true] at q3 ⊢
      refine semE_of (cal_mono _ _) (rl1.mono e3.tp e3.lf) r3 q3 fun y t4 vy H4 q4 e4 r4 v4 => ?_
      obtain ⟨hD4, hn4⟩ := e4.fr D _ hD3 hn3 trivial
      have lt : vacc.length < sizeLine := by rw [← g6.length]; omega
      refine ⟨vacc, hD4, lt, ?_⟩
      have ok := other_keep (M := M) (ws := .lst (vacc ++ [vy])) hD4 (fun _ => nofun) (fun _ _ => nofun) nofun
      have rr : M.Reps H4 (acc ++ [y]) (vacc ++ [vy]) := (Reps.mono e4.tp e4.lf (Reps.mono e3.tp e3.lf (Reps.mono (sub_tp kp) (sub_lf kp) g6))).append (.cons v4 .nil)
      exact turn (some y) t4 _ (vacc ++ [vy]) ((eb.trans (e3.trans e4)).other hD ok) (r4.other (vs := .lst vacc) hn4 hD4 trivial ok) upd_same (Reps.mono ok.1 ok.2.1 rr) q4 hn4
    | false =>
      simp only [Bool.false_eq_true, if_false] at q3 ⊢
      exact turn none t3 H3 vacc (eb.trans e3) r3 hD3 (Reps.mono e3.tp e3.lf (Reps.mono (sub_tp kp) (sub_lf kp) g6)) q3 hn3
  · rintro H' ⟨t, acc, vacc, g1, g2, g3, g4, g5, g6, g7, g8⟩
    rw [List.drop_length] at g8
    exact hf D acc vacc t H' hD g1 g3 g2 g4 g5 g6 g8
/-- a new list behind a comprehension -/
theorem lc_fin {st s1 t : Sto} {H H1 H' : Hp} {Q : VK} {acc : List D} {vacc : List V} {D : Addr} (e1 : Ext M st H s1 H1) (hD : H1 D = none) (g1 : RelS M t H') (g3 : Ext M s1 H1 t H') (g4 : H' D = some (.lst vacc)) (g5 : t D = none) (g6 : M.Reps H' acc vacc) (g8 : newL acc t (QL M st H Q)) : Q (.ref D) H' := by
  obtain ⟨g9, g10⟩ := g8
  refine g10 D g5 _ _ ?_ ?_ (.ref D)
  · refine e1.trans ⟨fun b ob h1 h2 h3 => ?_, g3.tp, g3.lf⟩
    obtain ⟨z1, z2⟩ := g3.fr b ob h1 h2 h3
    have : b ≠ D := fun z => by rw [z, hD] at h1; cases h1
    exact ⟨z1, by rw [put_ne this]; exact z2⟩
  · refine ⟨fun b ob qb => ?_, g1.2⟩
    by_cases z : b = D
    · subst z; rw [put_same] at qb; cases qb; exact ⟨g9, vacc, g4, g6⟩
    · rw [put_ne z] at qb; exact g1.1 b ob qb
/-- the reading of a comprehension -/
theorem lc_read {elt : Ex} {vs : List Nat} {tg : Tg} {it : It} {ifs : Exs} {σ : L2.St} {H : Hp} {Q : VK} (hv : ∀ i ∈ tgSl tg, i ∈ vs) (h : semE M (cal M.P k) (.lc elt vs tg it ifs) σ H Q) : tLc (semI M (cal M.P k) it) (semG M tg) (semTs M (cal M.P k) ifs) (semE M (cal M.P k) elt) vs σ H Q := by
  obtain ⟨L, st, rl, rs, q⟩ := h
  refine ⟨L, st, rl, rs, wpI_mono (cal_mono _ _) it (fun items stays s1 back q1 J H1 e1 r1 h0 W hb hz => ?_) q⟩
  refine lc_sem o (Qd := fun D H' => Q (.ref D) H') hv (rl.mono e1.tp e1.lf) r1 h0 W hz (fun D acc vacc t H' hD g1 g3 _ g4 g5 g6 g8 => ?_) q1
  rw [hb] at g8
  exact lc_fin o e1 hD g1 g3 g4 g5 g6 g8
/-- a list comprehension as a value -/
theorem p_lc {elt : Ex} {vs : List Nat} {tg : Tg} {it : It} {ifs : Exs} {elt' tg' it' : Expr} {ifs' : List Expr} {sc : Scope} {pos : Pos} (h1 : vs = (ownOf c.N sc).map (·.2)) (h2 : blkC c.N c.sc sc (ownOf c.N sc) = true) (h3 : (tgSl tg).all vs.contains = true) (h4 : notSet it' = true)
    (hi : PI X tg' it' (semI M (cal M.P k) it))
    (hg : ∀ (s : Shared) (H : Hp) (C : Addr) (cl : List (Str × Addr)) (fp : List Addr), PG (X.blk s H sc (compEnvC sc cl C X.env) fp) tg' (semG M tg)) (ht : ∀ (s : Shared) (H : Hp) (C : Addr) (cl : List (Str × Addr)) (fp : List Addr), PTs (X.blk s H sc (compEnvC sc cl C X.env) fp) ifs' (semTs M (cal M.P k) ifs))
    (he : ∀ (s : Shared) (H : Hp) (C : Addr) (cl : List (Str × Addr)) (fp : List Addr), PE (X.blk s H sc (compEnvC sc cl C X.env) fp) elt' (semE M (cal M.P k) elt)) :
    PE X (.ListComp elt' [⟨tg', it', ifs', 0⟩] sc pos) (semE M (cal M.P k) (.lc elt vs tg it ifs)) := by
  subst h1
  refine PE.mono (pe_lc o.of.calm (by rw [o.fit.N]; exact o.fit.nd) hi (blkOk_by (by rw [o.fit.N, o.fit.sc]; exact h2)) hg ht he (fold_of h4)) fun σ H Q h => lc_read o (fun i hi => ?_) h
  have := List.all_eq_true.mp h3 i hi
  simpa using this
/-- name = a list comprehension -/
theorem s_lc {i : Nat} {y : Str} {py spos : Pos} {elt : Ex} {vs : List Nat} {tg : Tg} {it : It} {ifs : Exs} {elt' tg' it' : Expr} {ifs' : List Expr} {sc : Scope} {pos : Pos} (hy : c.N[i]? = some y) (hyl : c.sc.names.lookup y = some .local) (hk : c.sc.kind = .function) (hl : (py.line == pos.line) = true)
    (hn : (sc.names.any fun (n, k) => n == y && (k == .local || k == .cell)) = false)
    (h1 : vs = (ownOf c.N sc).map (·.2)) (h2 : blkC c.N c.sc sc (ownOf c.N sc) = true) (h3 : (tgSl tg).all vs.contains = true) (h4 : notSet it' = true)
    (hi : PI X tg' it' (semI M (cal M.P k) it))
    (hg : ∀ (s : Shared) (H : Hp) (C : Addr) (cl : List (Str × Addr)) (fp : List Addr), PG (X.blk s H sc (compEnvC sc cl C X.env) fp) tg' (semG M tg)) (ht : ∀ (s : Shared) (H : Hp) (C : Addr) (cl : List (Str × Addr)) (fp : List Addr), PTs (X.blk s H sc (compEnvC sc cl C X.env) fp) ifs' (semTs M (cal M.P k) ifs))
    (he : ∀ (s : Shared) (H : Hp) (C : Addr) (cl : List (Str × Addr)) (fp : List Addr), PE (X.blk s H sc (compEnvC sc cl C X.env) fp) elt' (semE M (cal M.P k) elt)) :
    PS X (.Assign [.Name y py] (.ListComp elt' [⟨tg', it', ifs', 0⟩] sc pos) spos) (tAsg (semE M (cal M.P k) (.lc elt vs tg it ifs)) (gName i)) := by
  subst h1
  refine PS.mono (ps_setLc (i := i) o.of.calm (by rw [o.fit.N]; exact o.fit.nd) (by rw [o.fit.N]; exact hy) (by rw [o.fit.sc]; exact hyl) (sw_true (by rw [o.fit.sc]; exact hk) (by rw [o.fit.sc]; exact hyl) hl hn) hi (blkOk_by (by rw [o.fit.N, o.fit.sc]; exact h2)) hg ht he (fold_of h4)) fun D σ H h => lc_read o (fun i hi => ?_) h
  have := List.all_eq_true.mp h3 i hi
  simpa using this
omit o in
theorem it_any {J : L2.It} {n : Nat} {G : Hp → Prop} {Y : Nat → Hp → V → Hp → Prop} (w : Walk J n G Y) {B : V → Hp → (Hp → Prop) → Prop} {Hs : Hp} {Qd : Hp → Prop} (Pv : Nat → Hp → Prop) (h0 : Pv 0 Hs) (hG : ∀ i H, i ≤ n → Pv i H → G H)
    (hs : ∀ i x H H', i < n → Pv i H → Y i H x H' → B x H' (Pv (i + 1))) (hd : ∀ H, Pv n H → Qd H) :
    ∃ W : Nat → Nat → Hp → Prop, (∃ m, W 0 m Hs) ∧ ∀ i m H, W i m H → (J.stop i H ∧ Qd H) ∨ (J.go i H ∧ ∃ Nx : Hp → Prop, (∀ H', Nx H' → ∃ m', m' < m ∧ W (i + 1) m' H') ∧ ∀ x H', J.yld i H x H' → B x H' Nx) := by
  refine ⟨fun i m H => m + i = n ∧ Pv i H, ⟨n, by omega, h0⟩, ?_⟩
  rintro i m H ⟨hm, p⟩
  have q := hG i H (by omega) p
  rcases Nat.lt_or_ge i n with lt | ge
  · exact .inr ⟨w.goes i H lt q, Pv (i + 1), fun H' p' => ⟨m - 1, by omega, by omega, p'⟩, fun x H' y => hs i x H H' lt p (w.yields i H x H' lt q y)⟩
  · obtain rfl : i = n := by omega
    exact .inl ⟨w.stops H q, hd H p⟩
omit o in
/-- what is added to the list at D, tracked by nobody -/
theorem app_other {t : Sto} {H H1 : Hp} {s1 : Sto} {D : Addr} {acc : List Py.D} {vacc : List V} {y : Py.D} {vy : V} (e : Ext M s1 H1 t H) (r : RelS M t H) (hD1 : H1 D = none) (hD : H D = some (.lst vacc)) (hn : t D = none) (rr : M.Reps H acc vacc) (ry : M.Rep H y vy) :
    Ext M s1 H1 t (upd H D (.lst (vacc ++ [vy]))) ∧ RelS M t (upd H D (.lst (vacc ++ [vy]))) ∧ M.Reps (upd H D (.lst (vacc ++ [vy]))) (acc ++ [y]) (vacc ++ [vy]) := by
  have ok := other_keep (M := M) (ws := .lst (vacc ++ [vy])) hD (fun _ => nofun) (fun _ _ => nofun) nofun
  exact ⟨e.other hD1 ok, r.other (vs := .lst vacc) hn hD trivial ok, Reps.mono ok.1 ok.2.1 (rr.append (.cons ry .nil))⟩
abbrev turn1 (M : Mo) (k : Nat) (elt : Ex) (vs1 : List Nat) (tg1 : Tg) (ifs1 : Exs) (L1 : Loc) : Py.D → Sto → (Option Py.D → Sto → Prop) → Prop := fun x1 s nx1 => tgR tg1 x1 (wipeL L1 vs1) fun L2 => wpTs M.P (cal M.P k) ifs1 L2 s (fun b t => if b = true then wpE M.P (cal M.P k) elt L2 t (fun d u => nx1 (some d) u) X0 else nx1 none t) X0
/-- the inner turns -/
theorem lc2_inner {elt : Ex} {vs1 : List Nat} {tg1 : Tg} {ifs1 : Exs} {items1 acc : List D} {vacc : List V} {stays1 : Sto → Prop} {J1 : L2.It} {s0 s1 : Sto} {H0 H4 : Hp} {L1 : Loc} {σ2 : L2.St} {fin1 : List D → Sto → Prop} {D : Addr} {Nx : Hp → Prop} (hv : ∀ i ∈ tgSl tg1, i ∈ vs1) (rl : RelL M H4 L1 σ2) (r1 : RelS M s1 H4) (h0 : stays1 s1)
    (e0 : Ext M s0 H0 s1 H4) (hD0 : H0 D = none) (hD : H4 D = some (.lst vacc)) (hn : s1 D = none) (rr : M.Reps H4 acc vacc) (W : WalkD M H4 J1 items1 stays1) (hz : acc.length + items1.length ≤ sizeLine)
    (hf : ∀ acc' vacc' t H', RelS M t H' → Ext M s0 H0 t H' → H' D = some (.lst vacc') → t D = none → M.Reps H' acc' vacc' → fin1 acc' t → Nx H')
    (q : lcL stays1 (turn1 M k elt vs1 tg1 ifs1 L1) fin1 items1 acc s1) :
    ∃ W1 : Nat → Nat → Hp → Prop, (∃ m, W1 0 m H4) ∧ ∀ j kk H, W1 j kk H →
      (J1.stop j H ∧ Nx H) ∨ (J1.go j H ∧ ∃ Nx1 : Hp → Prop, (∀ H', Nx1 H' → ∃ k', k' < kk ∧ W1 (j + 1) k' H') ∧ ∀ x H', J1.yld j H x H' → semG M tg1 x (wipe σ2 vs1) H' fun σ3 H5 => wipe σ3 vs1 = wipe σ2 vs1 ∧ semTs M (cal M.P k) ifs1 σ3 H5 fun b H6 =>
        if b = true then semE M (cal M.P k) elt σ3 H6 fun y H7 => ∃ acc, H7 D = some (.lst acc) ∧ acc.length < sizeLine ∧ Nx1 (upd H7 D (.lst (acc ++ [y]))) else Nx1 H6) := by
  refine it_any W (B := fun x H' Nx1 => semG M tg1 x (wipe σ2 vs1) H' fun σ3 H5 => wipe σ3 vs1 = wipe σ2 vs1 ∧ semTs M (cal M.P k) ifs1 σ3 H5 fun b H6 =>
        if b = true then semE M (cal M.P k) elt σ3 H6 fun y H7 => ∃ acc, H7 D = some (.lst acc) ∧ acc.length < sizeLine ∧ Nx1 (upd H7 D (.lst (acc ++ [y]))) else Nx1 H6)
    (fun j H' => ∃ t acc' vacc', RelS M t H' ∧ stays1 t ∧ Ext M s0 H0 t H' ∧ TpLe M H4 H' ∧ H' D = some (.lst vacc') ∧ t D = none ∧ M.Reps H' acc' vacc' ∧ acc'.length ≤ acc.length + j ∧ lcL stays1 (turn1 M k elt vs1 tg1 ifs1 L1) fin1 (items1.drop j) acc' t) ?_ ?_ ?_ ?_
  · exact ⟨s1, acc, vacc, r1, h0, e0, Ext.tl (.refl (st := s1)), hD, hn, rr, Nat.le_refl _, q⟩
  · rintro i H' _ ⟨t, acc', vacc', g1, g2, _, g3, _⟩
    exact ⟨t, g1, g2, g3⟩
  · rintro i x Ha Hb hi ⟨t, acc', vacc', g1, g2, g3, g3', g4, g5, g6, g7, g8⟩ ⟨kp, d, ed, rd⟩
    have dr : items1.drop i = d :: items1.drop (i + 1) := by
      obtain ⟨h1, h2⟩ := List.getElem?_eq_some_iff.mp ed
      rw [← h2, List.drop_eq_getElem_cons h1]
    rw [dr] at g8
    unfold lcL at g8
    have rb : RelS M t Hb := g1.grow kp
    have eb : Ext M s0 H0 t Hb := g3.trans (.grow kp)
    have eb' : TpLe M H4 Hb := g3'.trans ⟨sub_tp kp, sub_lf kp⟩
    have rlb : RelL M Hb (wipeL L1 vs1) (wipe σ2 vs1) := (rl.mono eb'.tp eb'.lf).wipe vs1
    refine ⟨d, wipeL L1 vs1, t, rd, rlb, rb, tgR_mono (fun L2 q1 σ' rl1 hw => ⟨by rw [hw vs1 hv, wipe_wipe fun _ h => h], ?_⟩) g8⟩
    refine semTs_of (cal_mono _ _) rl1 rb q1 fun b t3 H3 q3 e3 r3 => ?_
    have hDb : Hb D = some (.lst vacc') := kp D _ g4
    obtain ⟨hD3, hn3⟩ := e3.fr D _ hDb g5 trivial
    have rr3 := Reps.mono e3.tp e3.lf (Reps.mono (sub_tp kp) (sub_lf kp) g6)
    have sub_none : ∀ {s5 t4 : Sto}, Sub s5 t4 → t4 D = none → s5 D = none := fun {s5 t4} sub hn => by
      cases z : s5 D with
      | none => rfl
      | some u => rw [sub D u z] at hn; cases hn
    cases b with
    | true =>
      simp only [if_true] at q3 ⊢
      refine semE_of (cal_mono _ _) (rl1.mono e3.tp e3.lf) r3 q3 fun y t4 vy H7 q4 e4 r4 v4 => ?_
      obtain ⟨hD4, hn4⟩ := e4.fr D _ hD3 hn3 trivial
      have lt : vacc'.length < sizeLine := by rw [← g6.length]; omega
      refine ⟨vacc', hD4, lt, ?_⟩
      obtain ⟨s5, sub, hs5, q5⟩ := q4
      obtain ⟨a1, a2, a3⟩ := app_other (eb.trans (e3.trans e4)) r4 hD0 hD4 hn4 (Reps.mono e4.tp e4.lf rr3) v4
      have ok := other_keep (M := M) (ws := .lst (vacc' ++ [vy])) hD4 (fun _ => nofun) (fun _ _ => nofun) nofun
      exact ⟨s5, acc' ++ [y], vacc' ++ [vy], a2.sub sub, hs5, a1.sub sub, (eb'.trans (e3.tl.trans e4.tl)).trans ⟨ok.1, ok.2.1⟩, upd_same, sub_none sub hn4, a3, by rw [List.length_append]; simp only [List.length_cons, List.length_nil]; omega, q5⟩
    | false =>
      simp only [Bool.false_eq_true, if_false] at q3 ⊢
      obtain ⟨s5, sub, hs5, q5⟩ := q3
      exact ⟨s5, acc', vacc', r3.sub sub, hs5, (eb.trans e3).sub sub, eb'.trans e3.tl, hD3, sub_none sub hn3, rr3, by omega, q5⟩
  · rintro H' ⟨t, acc', vacc', g1, g2, g3, g3', g4, g5, g6, g7, g8⟩
    rw [List.drop_length] at g8
    exact hf acc' vacc' t H' g1 g3 g4 g5 g6 g8
abbrev turn2 (M : Mo) (k : Nat) (elt : Ex) (vs : List Nat) (tg : Tg) (ifs : Exs) (vs1 : List Nat) (tg1 : Tg) (it1 : It) (ifs1 : Exs) (L : Loc) : Py.D → Sto → List Py.D → (List Py.D → Sto → Prop) → Prop := fun x s acc nx => tgR tg x (wipeL L vs) fun L1 => wpTs M.P (cal M.P k) ifs L1 s (fun b t => if b = true then
          wpI M.P (cal M.P k) it1 L1 t (fun items1 stays1 s1 back1 => acc.length + items1.length ≤ sizeLine ∧ lcL stays1 (turn1 M k elt vs1 tg1 ifs1 L1) (fun acc' s => nx acc' (back1 s)) items1 acc s1) X0
        else nx acc t) X0
/-- the reading of a comprehension with two clauses -/
theorem lc2_read {elt : Ex} {vs vs1 : List Nat} {tg tg1 : Tg} {it it1 : It} {ifs ifs1 : Exs} {σ : L2.St} {H : Hp} {Q : VK} (hv : ∀ i ∈ tgSl tg, i ∈ vs) (hv1 : ∀ i ∈ tgSl tg1, i ∈ vs1) (h : semE M (cal M.P k) (.lc2 elt vs tg it ifs vs1 tg1 it1 ifs1) σ H Q) :
    tLc2 (semI M (cal M.P k) it) (semG M tg) (semTs M (cal M.P k) ifs) (semI M (cal M.P k) it1) (semG M tg1) (semTs M (cal M.P k) ifs1) (semE M (cal M.P k) elt) vs vs1 σ H Q := by
  obtain ⟨L, st, rl0, rs, q⟩ := h
  refine ⟨L, st, rl0, rs, wpI_mono (cal_mono _ _) it (fun items stays s1 back q1 J H1 e1 r1 h0 W hb hz => ?_) q⟩
  have rl := rl0.mono e1.tp e1.lf
  have q1 : lc2L stays (turn2 M k elt vs tg ifs vs1 tg1 it1 ifs1 L) (fun acc s => newL acc (back s) (QL M st H Q)) items [] s1 := q1
  intro D hD
  refine it_any W (B := fun x H' Nx => semG M tg x (wipe σ vs) H' fun σ2 H2 => wipe σ2 vs = wipe σ vs ∧ semTs M (cal M.P k) ifs σ2 H2 fun b H3 =>
    if b = true then semI M (cal M.P k) it1 σ2 H3 fun J1 H4 => ∃ W1 : Nat → Nat → Hp → Prop, (∃ m, W1 0 m H4) ∧ ∀ j k' H, W1 j k' H →
      (J1.stop j H ∧ Nx H) ∨ (J1.go j H ∧ ∃ Nx1 : Hp → Prop, (∀ H', Nx1 H' → ∃ kk, kk < k' ∧ W1 (j + 1) kk H') ∧ ∀ x H', J1.yld j H x H' → semG M tg1 x (wipe σ2 vs1) H' fun σ3 H5 => wipe σ3 vs1 = wipe σ2 vs1 ∧ semTs M (cal M.P k) ifs1 σ3 H5 fun b H6 =>
        if b = true then semE M (cal M.P k) elt σ3 H6 fun y H7 => ∃ acc, H7 D = some (.lst acc) ∧ acc.length < sizeLine ∧ Nx1 (upd H7 D (.lst (acc ++ [y]))) else Nx1 H6)
    else Nx H3)
    (fun i H' => ∃ t acc vacc, RelS M t H' ∧ stays t ∧ Ext M s1 H1 t H' ∧ H' D = some (.lst vacc) ∧ t D = none ∧ M.Reps H' acc vacc ∧
      lc2L stays (turn2 M k elt vs tg ifs vs1 tg1 it1 ifs1 L) (fun acc s => newL acc (back s) (QL M st H Q)) (items.drop i) acc t) ?_ ?_ ?_ ?_
  · exact ⟨s1, [], [], r1.grow (upd_keeps hD), h0, .grow (upd_keeps hD), upd_same, fresh_sto r1 hD, .nil, q1⟩
  · rintro i H' _ ⟨t, acc, vacc, g1, g2, g3, _⟩
    exact ⟨t, g1, g2, g3.tl⟩
  · rintro i x Ha Hb hi ⟨t, acc, vacc, g1, g2, g3, g4, g5, g6, g8⟩ ⟨kp, d, ed, rd⟩
    have dr : items.drop i = d :: items.drop (i + 1) := by
      obtain ⟨h1, h2⟩ := List.getElem?_eq_some_iff.mp ed
      rw [← h2, List.drop_eq_getElem_cons h1]
    rw [dr] at g8
    unfold lc2L at g8
    have rb : RelS M t Hb := g1.grow kp
    have eb : Ext M s1 H1 t Hb := g3.trans (.grow kp)
    have rlb : RelL M Hb (wipeL L vs) (wipe σ vs) := (rl.mono eb.tp eb.lf).wipe vs
    have sub_none : ∀ {s5 t4 : Sto}, Sub s5 t4 → t4 D = none → s5 D = none := fun {s5 t4} sub hn => by
      cases z : s5 D with
      | none => rfl
      | some u => rw [sub D u z] at hn; cases hn
    have nxt : ∀ (acc' : List Py.D) (t' : Sto) (H4 : Hp) (vacc' : List V), Ext M s1 H1 t' H4 → RelS M t' H4 → H4 D = some (.lst vacc') → M.Reps H4 acc' vacc' → t' D = none →
        Dr t' (fun s => stays s ∧ lc2L stays (turn2 M k elt vs tg ifs vs1 tg1 it1 ifs1 L) (fun acc s => newL acc (back s) (QL M st H Q)) (items.drop (i + 1)) acc' s) →
        ∃ t acc vacc, RelS M t H4 ∧ stays t ∧ Ext M s1 H1 t H4 ∧ H4 D = some (.lst vacc) ∧ t D = none ∧ M.Reps H4 acc vacc ∧
          lc2L stays (turn2 M k elt vs tg ifs vs1 tg1 it1 ifs1 L) (fun acc s => newL acc (back s) (QL M st H Q)) (items.drop (i + 1)) acc t := by
      rintro acc' t' H4 vacc' e4 r4 hD4 rr4 hn ⟨s5, sub, hs5, q5⟩
      exact ⟨s5, acc', vacc', r4.sub sub, hs5, e4.sub sub, hD4, sub_none sub hn, rr4, q5⟩
    refine ⟨d, wipeL L vs, t, rd, rlb, rb, tgR_mono (fun L1 q1 σ' rl1 hw => ⟨by rw [hw vs hv, wipe_wipe fun _ h => h], ?_⟩) g8⟩
    refine semTs_of (cal_mono _ _) rl1 rb q1 fun b t3 H3 q3 e3 r3 => ?_
    have hDb : Hb D = some (.lst vacc) := kp D _ g4
    obtain ⟨hD3, hn3⟩ := e3.fr D _ hDb g5 trivial
    have rr3 := Reps.mono e3.tp e3.lf (Reps.mono (sub_tp kp) (sub_lf kp) g6)
    cases b with
    | true =>
      simp only [if_true] at q3 ⊢
      refine ⟨L1, t3, rl1.mono e3.tp e3.lf, r3, wpI_mono (cal_mono _ _) it1 (fun items1 stays1 s4 back1 q4 J1 H4 e4 r4 h4 W1 hb1 hz1 => ?_) q3⟩
      obtain ⟨hD4, hn4⟩ := e4.fr D _ hD3 hn3 trivial
      refine lc2_inner o (fin1 := fun acc' s => _) hv1 ((rl1.mono e3.tp e3.lf).mono e4.tp e4.lf) r4 h4 (eb.trans (e3.trans e4)) hD hD4 hn4 (Reps.mono e4.tp e4.lf rr3) W1 q4.1 (fun acc' vacc' t5 H5 r5 e5 hD5 hn5 rr5 q5 => ?_) q4.2
      rw [hb1] at q5
      exact nxt acc' t5 H5 vacc' e5 r5 hD5 rr5 hn5 q5
    | false =>
      simp only [Bool.false_eq_true, if_false] at q3 ⊢
      exact nxt acc t3 H3 vacc (eb.trans e3) r3 hD3 rr3 hn3 q3
  · rintro H' ⟨t, acc, vacc, g1, g2, g3, g4, g5, g6, g8⟩
    rw [List.drop_length] at g8
    unfold lc2L at g8
    rw [hb] at g8
    exact lc_fin o e1 hD g1 g3 g4 g5 g6 g8
omit o in
theorem all_mem {xs ys : List Nat} (h : xs.all ys.contains = true) : ∀ i ∈ xs, i ∈ ys := fun i hi => by
  have := List.all_eq_true.mp h i hi
  simpa using this
/-- a list comprehension with two clauses as a value -/
theorem p_lc2 {elt : Ex} {vs vs1 : List Nat} {tg tg1 : Tg} {it it1 : It} {ifs ifs1 : Exs} {elt' tg' it' tg1' it1' : Expr} {ifs' ifs1' : List Expr} {sc : Scope} {pos : Pos} (h1 : vs = (ownOf c.N sc).map (·.2)) (h2 : blkC c.N c.sc sc (ownOf c.N sc) = true) (h3 : (tgSl tg).all vs.contains = true) (h31 : (tgSl tg1).all vs1.contains = true) (h32 : vs1.all vs.contains = true) (h4 : notSet it' = true) (h41 : notSet it1' = true)
    (hi : PI X tg' it' (semI M (cal M.P k) it))
    (hg : ∀ (s : Shared) (H : Hp) (C : Addr) (cl : List (Str × Addr)) (fp : List Addr), PG (X.blk s H sc (compEnvC sc cl C X.env) fp) tg' (semG M tg)) (ht : ∀ (s : Shared) (H : Hp) (C : Addr) (cl : List (Str × Addr)) (fp : List Addr), PTs (X.blk s H sc (compEnvC sc cl C X.env) fp) ifs' (semTs M (cal M.P k) ifs))
    (hi1 : ∀ (s : Shared) (H : Hp) (C : Addr) (cl : List (Str × Addr)) (fp : List Addr), PI (X.blk s H sc (compEnvC sc cl C X.env) fp) tg1' it1' (semI M (cal M.P k) it1))
    (hg1 : ∀ (s : Shared) (H : Hp) (C : Addr) (cl : List (Str × Addr)) (fp : List Addr), PG (X.blk s H sc (compEnvC sc cl C X.env) fp) tg1' (semG M tg1)) (ht1 : ∀ (s : Shared) (H : Hp) (C : Addr) (cl : List (Str × Addr)) (fp : List Addr), PTs (X.blk s H sc (compEnvC sc cl C X.env) fp) ifs1' (semTs M (cal M.P k) ifs1))
    (he : ∀ (s : Shared) (H : Hp) (C : Addr) (cl : List (Str × Addr)) (fp : List Addr), PE (X.blk s H sc (compEnvC sc cl C X.env) fp) elt' (semE M (cal M.P k) elt)) :
    PE X (.ListComp elt' [⟨tg', it', ifs', 0⟩, ⟨tg1', it1', ifs1', 0⟩] sc pos) (semE M (cal M.P k) (.lc2 elt vs tg it ifs vs1 tg1 it1 ifs1)) := by
  subst h1
  exact PE.mono (pe_lc2 (vs1 := vs1) o.of.calm (by rw [o.fit.N]; exact o.fit.nd) hi (blkOk_by (by rw [o.fit.N, o.fit.sc]; exact h2)) (all_mem h32) hg ht hi1 hg1 ht1 he (fold_of h4) (fun env => fold_of h41)) fun σ H Q h => lc2_read o (all_mem h3) (all_mem h31) h
/-- name = a list comprehension with two clauses -/
theorem s_lc2 {i : Nat} {y : Str} {py spos : Pos} {elt : Ex} {vs vs1 : List Nat} {tg tg1 : Tg} {it it1 : It} {ifs ifs1 : Exs} {elt' tg' it' tg1' it1' : Expr} {ifs' ifs1' : List Expr} {sc : Scope} {pos : Pos} (hy : c.N[i]? = some y) (hyl : c.sc.names.lookup y = some .local) (hk : c.sc.kind = .function) (hl : (py.line == pos.line) = true)
    (hn : (sc.names.any fun (n, k) => n == y && (k == .local || k == .cell)) = false)
    (h1 : vs = (ownOf c.N sc).map (·.2)) (h2 : blkC c.N c.sc sc (ownOf c.N sc) = true) (h3 : (tgSl tg).all vs.contains = true) (h31 : (tgSl tg1).all vs1.contains = true) (h32 : vs1.all vs.contains = true) (h4 : notSet it' = true) (h41 : notSet it1' = true)
    (hi : PI X tg' it' (semI M (cal M.P k) it))
    (hg : ∀ (s : Shared) (H : Hp) (C : Addr) (cl : List (Str × Addr)) (fp : List Addr), PG (X.blk s H sc (compEnvC sc cl C X.env) fp) tg' (semG M tg)) (ht : ∀ (s : Shared) (H : Hp) (C : Addr) (cl : List (Str × Addr)) (fp : List Addr), PTs (X.blk s H sc (compEnvC sc cl C X.env) fp) ifs' (semTs M (cal M.P k) ifs))
    (hi1 : ∀ (s : Shared) (H : Hp) (C : Addr) (cl : List (Str × Addr)) (fp : List Addr), PI (X.blk s H sc (compEnvC sc cl C X.env) fp) tg1' it1' (semI M (cal M.P k) it1))
    (hg1 : ∀ (s : Shared) (H : Hp) (C : Addr) (cl : List (Str × Addr)) (fp : List Addr), PG (X.blk s H sc (compEnvC sc cl C X.env) fp) tg1' (semG M tg1)) (ht1 : ∀ (s : Shared) (H : Hp) (C : Addr) (cl : List (Str × Addr)) (fp : List Addr), PTs (X.blk s H sc (compEnvC sc cl C X.env) fp) ifs1' (semTs M (cal M.P k) ifs1))
    (he : ∀ (s : Shared) (H : Hp) (C : Addr) (cl : List (Str × Addr)) (fp : List Addr), PE (X.blk s H sc (compEnvC sc cl C X.env) fp) elt' (semE M (cal M.P k) elt)) :
    PS X (.Assign [.Name y py] (.ListComp elt' [⟨tg', it', ifs', 0⟩, ⟨tg1', it1', ifs1', 0⟩] sc pos) spos) (tAsg (semE M (cal M.P k) (.lc2 elt vs tg it ifs vs1 tg1 it1 ifs1)) (gName i)) := by
  subst h1
  exact PS.mono (ps_setLc2 (i := i) (vs1 := vs1) o.of.calm (by rw [o.fit.N]; exact o.fit.nd) (by rw [o.fit.N]; exact hy) (by rw [o.fit.sc]; exact hyl) (sw_true (by rw [o.fit.sc]; exact hk) (by rw [o.fit.sc]; exact hyl) hl hn) hi (blkOk_by (by rw [o.fit.N, o.fit.sc]; exact h2)) (all_mem h32) hg ht hi1 hg1 ht1 he (fold_of h4) (fun env => fold_of h41)) fun D σ H h => lc2_read o (all_mem h3) (all_mem h31) h
end
end Py

set_option Elab.async false
set_option linter.all false
set_option maxRecDepth 100000
set_option maxHeartbeats 4000000
/-! Soundness: comprehensions over a dict, dict comprehensions. -/
namespace Py
open PySem PySem.Spec PyProof.Rows L2
theorem KReps.length {M : Mo} {H : Hp} : ∀ {kvs : List (Key × D)} {vs : List (Key × V)}, KReps M H kvs vs → kvs.length = vs.length
  | _, _, .nil => rfl
  | _, _, .cons _ r => by simp [KReps.length r]
theorem KReps.get {M : Mo} {H : Hp} : ∀ {kvs : List (Key × D)} {vs : List (Key × V)} {i : Nat} {p : Key × V}, KReps M H kvs vs → vs[i]? = some p → ∃ q, kvs[i]? = some q ∧ q.1 = p.1 ∧ M.Rep H q.2 p.2
  | _, _, _, _, .nil, e => by simp at e
  | _, _, 0, _, .cons h _, e => by simp at e; subst e; exact ⟨_, rfl, h⟩
  | _, _, i + 1, p, .cons _ r, e => by
    obtain ⟨q, h1, h2⟩ := KReps.get (i := i) (p := p) r (by simpa using e)
    exact ⟨q, by simpa using h1, h2⟩
section
variable {M : Mo} {k : Nat} {c : Cfg} {X : Cx} (o : Okx M k c X)
include o
theorem foldK_snoc (acc : List D) (d : D) : foldK (acc ++ [d]) = stepK (foldK acc) d := by
  unfold foldK
  rw [List.foldl_append]
  rfl
theorem keyOf_keyD (ky : Key) : keyOf (keyD ky) = some ky := by
  cases ky <;> rfl
theorem stepK_pair (m : List (Key × D)) (ky : Key) (e : D) : stepK m (.tup [keyD ky, e]) = putD m ky e := by
  unfold stepK
  dsimp only
  rw [keyOf_keyD o]
theorem putD_le (m : List (Key × D)) (ky : Key) (e : D) : (putD m ky e).length ≤ m.length + 1 := by
  unfold putD
  split
  · rw [List.length_map]; exact Nat.le_succ _
  · rw [List.length_append]; exact Nat.le_refl _
/-- the turns of a dict comprehension -/
theorem dc_read {kk v : Ex} {vs : List Nat} {tg : Tg} {it : It} {ifs : Exs} {σ : L2.St} {H : Hp} {Q : VK} (hv : ∀ i ∈ tgSl tg, i ∈ vs) (h : semE M (cal M.P k) (.dc kk v vs tg it ifs) σ H Q) : tDc (semI M (cal M.P k) it) (semG M tg) (semTs M (cal M.P k) ifs) (semE M (cal M.P k) kk) (semE M (cal M.P k) v) vs σ H Q := by
  obtain ⟨L, st, rl, rs, q⟩ := h
  refine ⟨L, st, rl, rs, wpI_mono (cal_mono _ _) it (fun items stays s1 back q1 J H1 e1 r1 h0 W hb hz => ?_) q⟩
  intro D hD
  have rl1 : RelL M H1 L σ := rl.mono e1.tp e1.lf
  generalize hT : (fun (x : Py.D) (s : Sto) (nx : Option Py.D → Sto → Prop) => tgR tg x (wipeL L vs) fun L1 => wpTs M.P (cal M.P k) ifs L1 s (fun b t => if b = true then wpE M.P (cal M.P k) kk L1 t (fun d u => ∃ ky, keyOf d = some ky ∧ wpE M.P (cal M.P k) v L1 u (fun e w => nx (some (.tup [keyD ky, e])) w) X0) X0 else nx none t) X0) = turn at q1
  let Pv : Nat → Hp → Prop := fun i H' => ∃ t acc vacc, RelS M t H' ∧ stays t ∧ Ext M s1 H1 t H' ∧ H' D = some (.dK vacc) ∧ t D = none ∧ KReps M H' (foldK acc) vacc ∧ (foldK acc).length ≤ i ∧ lcL stays turn (fun acc s => ∀ p, back s p = none → QL M st H Q (.ref p) (put (back s) p (.dct (foldK acc)))) (items.drop i) acc t
  refine ⟨fun i m H' => m = items.length - i ∧ i ≤ items.length ∧ Pv i H', ⟨items.length, by simp, Nat.zero_le _, s1, [], [], r1.grow (upd_keeps hD), h0, .grow (upd_keeps hD), upd_same, fresh_sto r1 hD, .nil, Nat.le_refl _, q1⟩, ?_⟩
  rintro i m Ha ⟨rfl, hi, t, acc, vacc, g1, g2, g3, g4, g5, g6, g7, g8⟩
  have G : ∃ st, RelS M st Ha ∧ stays st ∧ TpLe M H1 Ha := ⟨t, g1, g2, g3.tl⟩
  by_cases hlt : i < items.length
  · refine .inr ⟨W.goes i Ha hlt G, Pv (i + 1), fun H' p' => ⟨items.length - (i + 1), by omega, rfl, hlt, p'⟩, fun x Hb y => ?_⟩
    obtain ⟨kp, d, ed, rd⟩ := W.yields i Ha x Hb hlt G y
    have dr : items.drop i = d :: items.drop (i + 1) := by
      obtain ⟨h1, h2⟩ := List.getElem?_eq_some_iff.mp ed
      rw [← h2, List.drop_eq_getElem_cons h1]
    rw [dr] at g8
    unfold lcL at g8
    rw [← hT] at g8
    have rb : RelS M t Hb := g1.grow kp
    have eb : Ext M s1 H1 t Hb := g3.trans (.grow kp)
    have rlb : RelL M Hb (wipeL L vs) (wipe σ vs) := (rl1.mono eb.tp eb.lf).wipe vs
    refine ⟨d, wipeL L vs, t, rd, rlb, rb, tgR_mono (fun L1 q1 σ' rl1 hw => ⟨by rw [hw vs hv, wipe_wipe fun _ h => h], ?_⟩) g8⟩
    refine semTs_of (cal_mono _ _) rl1 rb q1 fun b t3 H3 q3 e3 r3 => ?_
    have hDb : Hb D = some (.dK vacc) := kp D _ g4
    obtain ⟨hD3, hn3⟩ := e3.fr D _ hDb g5 trivial
    have kr3 : KReps M H3 (foldK acc) vacc := (g6.mono (sub_tp kp) (sub_lf kp)).mono e3.tp e3.lf
    cases b with
    | true =>
      simp only [if_true] at q3 ⊢
      refine semE_of (cal_mono _ _) (rl1.mono e3.tp e3.lf) r3 q3 fun y t4 vy H4 q4 e4 r4 v4 => ?_
      obtain ⟨hD4, hn4⟩ := e4.fr D _ hD3 hn3 trivial
      obtain ⟨ky, eky, q4⟩ := q4
      refine semE_of (cal_mono _ _) ((rl1.mono e3.tp e3.lf).mono e4.tp e4.lf) r4 q4 fun z t5 vz H5 q5 e5 r5 v5 => ?_
      obtain ⟨hD5, hn5⟩ := e5.fr D _ hD4 hn4 trivial
      have evy := keyOf_ok v4 eky
      have ok := other_keep (M := M) (ws := .dK (putK vacc ky vz)) hD5 (fun _ => nofun) (fun _ _ => nofun) nofun
      have kr5 : KReps M H5 (foldK acc) vacc := (kr3.mono e4.tp e4.lf).mono e5.tp e5.lf
      refine ⟨vacc, ky, evy, hD5, by rw [← kr5.length]; omega, ?_⟩
      obtain ⟨s6, sub, hs6, q6⟩ := q5
      refine ⟨s6, acc ++ [.tup [keyD ky, z]], _, (r5.other (vs := .dK vacc) hn5 hD5 trivial ok).sub sub, hs6, ((eb.trans (e3.trans (e4.trans e5))).other hD ok).sub sub, upd_same, ?_, ?_, ?_, by rw [← hT]; exact q6⟩
      · cases w : s6 D with
        | none => rfl
        | some u => rw [sub D u w] at hn5; cases hn5
      · rw [foldK_snoc o, stepK_pair o]
        exact (kreps_put kr5 ky v5).mono ok.1 ok.2.1
      · rw [foldK_snoc o, stepK_pair o]
        exact Nat.le_trans (putD_le o _ _ _) (Nat.succ_le_succ g7)
    | false =>
      simp only [Bool.false_eq_true, if_false] at q3 ⊢
      obtain ⟨s6, sub, hs6, q6⟩ := q3
      refine ⟨s6, acc, vacc, r3.sub sub, hs6, (eb.trans e3).sub sub, hD3, ?_, kr3, Nat.le_succ_of_le g7, by rw [← hT]; exact q6⟩
      cases w : s6 D with
      | none => rfl
      | some u => rw [sub D u w] at hn3; cases hn3
  · have e : i = items.length := by omega
    subst e
    refine .inl ⟨W.stops Ha G, ?_⟩
    rw [List.drop_length] at g8
    have g9 : ∀ p, t p = none → QL M st H Q (.ref p) (put t p (.dct (foldK acc))) := fun p hp => by
      have := g8 p (by rw [hb]; exact hp)
      rw [hb] at this
      exact this
    refine g9 D g5 _ _ ?_ ?_ (.ref D)
    · refine e1.trans ⟨fun b ob h1 h2 h3 => ?_, g3.tp, g3.lf⟩
      obtain ⟨z1, z2⟩ := g3.fr b ob h1 h2 h3
      have : b ≠ D := fun z => by rw [z, hD] at h1; cases h1
      exact ⟨z1, by rw [put_ne this]; exact z2⟩
    · refine ⟨fun b ob qb => ?_, g1.2⟩
      by_cases z : b = D
      · subst z; rw [put_same] at qb; cases qb; exact ⟨by omega, vacc, g4, g6⟩
      · rw [put_ne z] at qb; exact g1.1 b ob qb
theorem p_dc {kk v : Ex} {vs : List Nat} {tg : Tg} {it : It} {ifs : Exs} {k' v' tg' it' : Expr} {ifs' : List Expr} {sc : Scope} {pos : Pos} (h1 : vs = (ownOf c.N sc).map (·.2)) (h2 : blkC c.N c.sc sc (ownOf c.N sc) = true) (h3 : (tgSl tg).all vs.contains = true) (h4 : notSet it' = true)
    (hi : PI X tg' it' (semI M (cal M.P k) it))
    (hg : ∀ (s : Shared) (H : Hp) (C : Addr) (cl : List (Str × Addr)) (fp : List Addr), PG (X.blk s H sc (compEnvC sc cl C X.env) fp) tg' (semG M tg)) (ht : ∀ (s : Shared) (H : Hp) (C : Addr) (cl : List (Str × Addr)) (fp : List Addr), PTs (X.blk s H sc (compEnvC sc cl C X.env) fp) ifs' (semTs M (cal M.P k) ifs))
    (hk : ∀ (s : Shared) (H : Hp) (C : Addr) (cl : List (Str × Addr)) (fp : List Addr), PE (X.blk s H sc (compEnvC sc cl C X.env) fp) k' (semE M (cal M.P k) kk))
    (he : ∀ (s : Shared) (H : Hp) (C : Addr) (cl : List (Str × Addr)) (fp : List Addr), PE (X.blk s H sc (compEnvC sc cl C X.env) fp) v' (semE M (cal M.P k) v)) :
    PE X (.DictComp k' v' [⟨tg', it', ifs', 0⟩] sc pos) (semE M (cal M.P k) (.dc kk v vs tg it ifs)) := by
  subst h1
  refine PE.mono (pe_dc o.of.calm (by rw [o.fit.N]; exact o.fit.nd) hi (blkOk_by (by rw [o.fit.N, o.fit.sc]; exact h2)) hg ht hk he (fold_of h4)) fun σ H Q h => dc_read o (fun i hi => ?_) h
  have := List.all_eq_true.mp h3 i hi
  simpa using this
end
end Py

set_option Elab.async false
set_option linter.all false
set_option maxRecDepth 100000
set_option maxHeartbeats 4000000
/-! Soundness of expressions: all together. -/
namespace Py
open PySem PySem.Spec PyProof.Rows L2
theorem PTs.mono {X : Cx} {e : List Expr} {t t' : TT} (h : PTs X e t) (k : ∀ σ H Q, t' σ H Q → t σ H Q) : PTs X e t' := ⟨fun pins s σ H Q I q => h.run pins s σ H Q I (k σ H Q q)⟩
theorem ba {a b : Bool} (h : (a && b) = true) : a = true ∧ b = true := Bool.and_eq_true_iff.mp h
section
variable {M : Mo} {k : Nat} {c : Cfg} {X : Cx} (o : Okx M k c X)
include o
theorem ts_nil : PTs X [] (semTs M (cal M.P k) .nil) := PTs.mono pts_nil fun σ H Q ⟨L, st, rl, rs, q⟩ => q H .refl rs
theorem ts_one {e : Ex} {e' : Expr} (h : PT X e' (semT M (cal M.P k) e)) : PTs X [e'] (semTs M (cal M.P k) (.cons e .nil)) := by
  refine PTs.mono (pts_one h) fun σ H Q ⟨L, st, rl, rs, q⟩ => ?_
  refine semT_of (cal_mono _ _) rl rs q fun b s H1 q1 e1 r1 => ?_
  cases b with
  | true => simp only [if_true] at q1; exact q1 H1 e1 r1
  | false => simp only [Bool.false_eq_true, if_false] at q1; exact q1 H1 e1 r1
theorem q_chn {a b d : Ex} {a' b' d' : Expr} {op p : Cop} {op' p' : CmpOp} {pos : Pos} (h : copB op op' = true) (hp : copB p p' = true) (hs2 : notSet d' = true) (ha : PE X a' (semE M (cal M.P k) a)) (hb : PE X b' (semE M (cal M.P k) b)) (hd : PE X d' (semE M (cal M.P k) d)) :
    PT X (.Compare a' [op', p'] [b', d'] pos) (semT M (cal M.P k) (.chn op p a b d)) := by
  refine PT.mono (pt_chain (cop_key o h) (cop_key o hp) ha hb hd (marks_of (op := p') hs2)) fun σ H Q ⟨L, st, rl, rs, q⟩ => ?_
  refine semE_of (cal_mono _ _) rl rs q fun x s v H1 q1 e1 r1 v1 => ?_
  refine semE_of (cal_mono _ _) (rl.ext e1) r1 q1 fun x2 s2 v2 H2 q2 e2 r2 w2 => ?_
  refine ⟨x, x2, s2, v1.ext e2, w2, r2, copR_mono (fun z u q v3 H3 e3 r3 w3 => ?_) q2⟩
  obtain ⟨b, rfl, q⟩ := q
  cases w3
  refine ⟨b, rfl, ?_⟩
  cases b with
  | true =>
    simp only [if_true] at q ⊢
    refine semE_of (cal_mono _ _) (rl.ext (e1.trans (e2.trans e3))) r3 q fun x4 s4 v4 H4 q4 e4 r4 w4 => ?_
    refine ⟨x2, x4, s4, w2.ext (e3.trans e4), w4, r4, copR_mono (fun z5 u5 q5 v5 H5 e5 r5 w5 => ?_) (copR_bl o q4)⟩
    obtain ⟨⟨b5, rfl⟩, q5⟩ := q5
    cases w5
    exact ⟨b5, rfl, q5 H5 (e1.trans (e2.trans (e3.trans (e4.trans e5)))) r5⟩
  | false =>
    simp only [Bool.false_eq_true, if_false] at q ⊢
    exact ⟨false, rfl, q H3 (e1.trans (e2.trans e3)) r3⟩
theorem q_ite {t a b : Ex} {t' a' b' : Expr} {pos : Pos} (ht : PT X t' (semT M (cal M.P k) t)) (ha : PT X a' (semT M (cal M.P k) a)) (hb : PT X b' (semT M (cal M.P k) b)) : PT X (.IfExp t' a' b' pos) (semT M (cal M.P k) (.ite t a b)) := by
  refine ⟨fun pins s σ H Q I ⟨L, st, rl, rs, q⟩ => ?_⟩
  show wpAny _ _ (do if ← isTrue t' X.env (eval t' X.env) then isTrue a' X.env (eval a' X.env) else isTrue b' X.env (eval b' X.env)) _ _ s
  refine wpAny_bind (thn (ht.run pins s σ H _ I (semT_of (R := fun j H1 => if j = true then semT M (cal M.P k) a σ H1 Q else semT M (cal M.P k) b σ H1 Q) (cal_mono _ _) rl rs q fun j s1 H1 q1 e1 r1 => ?_)) fun j s1 ⟨H1, I1, q1⟩ => ?_)
  · cases j with
    | true =>
      simp only [if_true] at q1 ⊢
      exact semT_of (cal_mono _ _) (rl.ext e1) r1 q1 fun j2 s2 H2 q3 e2 r2 => q3 H2 (e1.trans e2) r2
    | false =>
      simp only [Bool.false_eq_true, if_false] at q1 ⊢
      exact semT_of (cal_mono _ _) (rl.ext e1) r1 q1 fun j2 s2 H2 q3 e2 r2 => q3 H2 (e1.trans e2) r2
  · cases j with
    | true => simp only [if_true] at q1 ⊢; exact ha.run pins s1 σ H1 Q I1 q1
    | false => simp only [Bool.false_eq_true, if_false] at q1 ⊢; exact hb.run pins s1 σ H1 Q I1 q1
end
section
variable {M : Mo} {k : Nat}
/-- what is shown of an expression: as a value, as a test -/
def Snd (M : Mo) (k : Nat) (x : Ex) : Prop := ∀ (c : Cfg) (X : Cx) (e : Expr), Okx M k c X → chkE M.P x c e = true → PE X e (semE M (cal M.P k) x) ∧ PT X e (semT M (cal M.P k) x) ∧ ∀ op vs pos, e = .BoolOp op vs pos → PW X e (semT M (cal M.P k) x)
def SndA (M : Mo) (k : Nat) (x : Exs) : Prop := (∀ (c : Cfg) (X : Cx) (es : List Expr), Okx M k c X → chkA M.P x c es = true → PA X es (semA M (cal M.P k) x)) ∧
  (∀ (c : Cfg) (X : Cx) (es : Option Expr), Okx M k c X → chkO M.P x c es = true → PO X es (tOptI M (cal M.P k) x)) ∧ (∀ (c : Cfg) (X : Cx) (es : List Expr), Okx M k c X → chkTs M.P x c es = true → PTs X es (semTs M (cal M.P k) x)) ∧ (∀ (c : Cfg) (X : Cx) (kws : List Keyword), Okx M k c X → chkA M.P x c (kws.map (·.value)) = true → plainA x = true → PK X kws (semA M (cal M.P k) x))
def SndI (M : Mo) (k : Nat) (x : It) : Prop := ∀ (c : Cfg) (X : Cx) (tg i : Expr), Okx M k c X → chkI M.P x c tg i = true → (notKey x = true → PI X tg i (semI M (cal M.P k) x)) ∧ ∀ _ : Ex, True
/-- a value that is no and, or, not, comparison, if-else -/
theorem snd_val {x : Ex} {c : Cfg} {X : Cx} {e : Expr} (o : Okx M k c X) (h : PE X e (semE M (cal M.P k) x)) (he : ∀ whole, isTrue e X.env whole = (do let v ← whole; standAt e.pos; holding [v] (truthy v))) (hb : ∀ op vs pos, e ≠ .BoolOp op vs pos) :
    PE X e (semE M (cal M.P k) x) ∧ PT X e (semT M (cal M.P k) x) ∧ ∀ op vs pos, e = .BoolOp op vs pos → PW X e (semT M (cal M.P k) x) := ⟨h, q_val o h he, fun op vs pos z => absurd z (hb op vs pos)⟩
mutual
theorem sndE : ∀ x : Ex, Snd M k x
  | .frz x => fun c X e o h => by
    unfold chkE at h
    obtain ⟨h1, h2⟩ := ba h
    have p := p_frz o (sndE x c X e o h2).1
    cases e <;> first | (unfold valB at h1; cases h1; done) | exact snd_val o p (fun _ => rfl) (fun _ _ _ => nofun)
  | .non => fun c X e o h => by
    unfold chkE at h
    split at h
    · exact snd_val o (p_const o (d := .non) (v := .non) pe_non (fun _ _ _ _ => rfl) fun _ => .non) (fun _ => rfl) (fun _ _ _ => nofun)
    · cases h
  | .bl b => fun c X e o h => by
    unfold chkE at h
    split at h
    · have := eq_of_beq h; subst this
      exact snd_val o (p_const o (d := .bl b) (v := .bl b) pe_bl (fun _ _ _ _ => rfl) fun _ => .bl b) (fun _ => rfl) (fun _ _ _ => nofun)
    · cases h
  | .int i => fun c X e o h => by
    unfold chkE at h
    split at h
    · have := of_decide_eq_true h; subst this
      exact snd_val o (p_const o (d := .int i) (v := .int i) pe_int (fun _ _ _ _ => rfl) fun _ => .int i) (fun _ => rfl) (fun _ _ _ => nofun)
    · cases h
  | .str x => fun c X e o h => by
    unfold chkE at h
    split at h
    · have := of_decide_eq_true h; subst this
      exact snd_val o (p_const o (d := .str x) (v := .str x) pe_str (fun _ _ _ _ => rfl) fun _ => .str x) (fun _ => rfl) (fun _ _ _ => nofun)
    · cases h
  | .var i => fun c X e o h => by
    unfold chkE at h
    split at h
    · exact snd_val o (p_var o h) (fun _ => rfl) (fun _ _ _ => nofun)
    · cases h
  | .glo x => fun c X e o h => by
    unfold chkE at h
    split at h
    · obtain ⟨h1, h2⟩ := ba h
      have := of_decide_eq_true h1; subst this
      exact snd_val o (p_glo o h2) (fun _ => rfl) (fun _ _ _ => nofun)
    · cases h
  | .bty n => fun c X e o h => by
    unfold chkE at h
    split at h
    · obtain ⟨h1, h2⟩ := ba h
      obtain ⟨h2, h3⟩ := ba h2
      obtain ⟨h3, h4⟩ := ba h3
      split at h4
      · rename_i m hm
        have := eq_of_beq h4; subst this
        exact snd_val o (p_bty o h1 h2 h3 hm) (fun _ => rfl) (fun _ _ _ => nofun)
      · cases h4
    · cases h
  | .bin op a b => fun c X e o h => by
    unfold chkE at h
    split at h
    · obtain ⟨h1, h2⟩ := ba h
      obtain ⟨h2, h3⟩ := ba h2
      exact snd_val o (p_bin o h1 (sndE a c X _ o h2).1 (sndE b c X _ o h3).1) (fun _ => rfl) (fun _ _ _ => nofun)
    · cases h
  | .neg a => fun c X e o h => by
    unfold chkE at h
    split at h
    · exact snd_val o (p_neg o (sndE a c X _ o h).1) (fun _ => rfl) (fun _ _ _ => nofun)
    · cases h
  | .cmp op a b => fun c X e o h => by
    unfold chkE at h
    split at h
    · obtain ⟨h1, h2⟩ := ba h
      obtain ⟨h2, h3⟩ := ba h2
      obtain ⟨h3, h4⟩ := ba h3
      exact ⟨p_cmp o h1 h4 (sndE a c X _ o h2).1 (sndE b c X _ o h3).1, q_cmp o h1 h4 (sndE a c X _ o h2).1 (sndE b c X _ o h3).1, fun _ _ _ => nofun⟩
    · cases h
  | .chn op p a b d => fun c X e o h => by
    unfold chkE at h
    split at h
    · obtain ⟨h1, h⟩ := ba h
      obtain ⟨h2, h⟩ := ba h
      obtain ⟨h3, h⟩ := ba h
      obtain ⟨h4, h⟩ := ba h
      obtain ⟨h5, h⟩ := ba h
      obtain ⟨h6, h7⟩ := ba h
      exact ⟨p_chn o h1 h2 h6 h7 (sndE a c X _ o h3).1 (sndE b c X _ o h4).1 (sndE d c X _ o h5).1, q_chn o h1 h2 h7 (sndE a c X _ o h3).1 (sndE b c X _ o h4).1 (sndE d c X _ o h5).1, fun _ _ _ => nofun⟩
    · cases h
  | .and a b => fun c X e o h => by
    unfold chkE at h
    split at h
    · rename_i a' b' r' pos
      obtain ⟨h1, h2⟩ := ba h
      have A := sndE a c X _ o h1
      have B : PE X (.BoolOp .And (b' :: r') pos) (semE M (cal M.P k) b) ∧ PW X (.BoolOp .And (b' :: r') pos) (semT M (cal M.P k) b) := by
        split at h2
        · have B := sndE b c X _ o h2
          exact ⟨pe_one B.1, pw_and1 B.2.1⟩
        · have B := sndE b c X _ o h2
          exact ⟨B.1, B.2.2 _ _ _ rfl⟩
      have w : PW X (.BoolOp .And (a' :: b' :: r') pos) (semT M (cal M.P k) (.and a b)) := ⟨fun wh pins s σ H Q I q => (pw_and A.2.1 B.2).run wh pins s σ H Q I (sem_and o q)⟩
      exact ⟨p_and o A.1 B.1, w.pt, fun _ _ _ _ => w⟩
    · cases h
  | .or a b => fun c X e o h => by
    unfold chkE at h
    split at h
    · rename_i a' b' r' pos
      obtain ⟨h1, h2⟩ := ba h
      have A := sndE a c X _ o h1
      have B : PE X (.BoolOp .Or (b' :: r') pos) (semE M (cal M.P k) b) ∧ PW X (.BoolOp .Or (b' :: r') pos) (semT M (cal M.P k) b) := by
        split at h2
        · have B := sndE b c X _ o h2
          exact ⟨pe_one B.1, pw_or1 B.2.1⟩
        · have B := sndE b c X _ o h2
          exact ⟨B.1, B.2.2 _ _ _ rfl⟩
      have w : PW X (.BoolOp .Or (a' :: b' :: r') pos) (semT M (cal M.P k) (.or a b)) := ⟨fun wh pins s σ H Q I q => (pw_or A.2.1 B.2).run wh pins s σ H Q I (sem_or o q)⟩
      exact ⟨p_or o A.1 B.1, w.pt, fun _ _ _ _ => w⟩
    · cases h
  | .not a => fun c X e o h => by
    unfold chkE at h
    split at h
    · have A := sndE a c X _ o h
      exact ⟨p_not o A.1, q_not o A.2.1, fun _ _ _ => nofun⟩
    · cases h
  | .ite t a b => fun c X e o h => by
    unfold chkE at h
    split at h
    · obtain ⟨h1, h2⟩ := ba h
      obtain ⟨h2, h3⟩ := ba h2
      have T := sndE t c X _ o h1
      have A := sndE a c X _ o h2
      have B := sndE b c X _ o h3
      exact ⟨p_ite o T.2.1 A.1 B.1, q_ite o T.2.1 A.2.1 B.2.1, fun _ _ _ => nofun⟩
    · cases h
  | .tup es => fun c X e o h => by
    unfold chkE at h
    split at h
    · exact snd_val o (p_tup o ((sndA es).1 c X _ o h)) (fun _ => rfl) (fun _ _ _ => nofun)
    · cases h
  | .lst es => fun c X e o h => by
    unfold chkE at h
    split at h
    · exact snd_val o (p_lst o ((sndA es).1 c X _ o h)) (fun _ => rfl) (fun _ _ _ => nofun)
    · cases h
  | .dnew => fun c X e o h => by
    unfold chkE at h
    split at h
    · exact snd_val o (p_dnew o) (fun _ => rfl) (fun _ _ _ => nofun)
    · cases h
  | .call f es ks => fun c X e o h => by
    unfold chkE at h
    split at h
    · obtain ⟨h1, h⟩ := ba h
      obtain ⟨h2, h⟩ := ba h
      obtain ⟨h3, h⟩ := ba h
      obtain ⟨h4, h⟩ := ba h
      obtain ⟨h5, h⟩ := ba h
      obtain ⟨h6, h7⟩ := ba h
      have : ks = [] := List.isEmpty_iff.mp h6
      subst this
      exact snd_val o (p_call o (of_decide_eq_true h1) h2 h3 h5 h4 h7 ((sndA es).1 c X _ o h4)) (fun _ => rfl) (fun _ _ _ => nofun)
    · obtain ⟨h1, h⟩ := ba h
      obtain ⟨h2, h⟩ := ba h
      obtain ⟨h3, h⟩ := ba h
      obtain ⟨h4, h⟩ := ba h
      obtain ⟨h5, h⟩ := ba h
      obtain ⟨h6, h7⟩ := ba h
      exact snd_val o (p_callK o (of_decide_eq_true h1) h2 h3 (of_decide_eq_true h6) h7 ((sndA es).2.2.2 c X _ o h4 h5)) (fun _ => rfl) (fun _ _ _ => nofun)
    · cases h
  | .new f es ks => fun c X e o h => by
    unfold chkE at h
    split at h
    · obtain ⟨h1, h⟩ := ba h
      obtain ⟨h2, h⟩ := ba h
      obtain ⟨h3, h⟩ := ba h
      obtain ⟨h4, h⟩ := ba h
      obtain ⟨h5, h⟩ := ba h
      obtain ⟨h6, h⟩ := ba h
      obtain ⟨h7, h8⟩ := ba h
      have : ks = [] := List.isEmpty_iff.mp h6
      subst this
      exact snd_val o (p_new o (of_decide_eq_true h1) h2 h3 h5 h4 h7 (by simpa using h8) ((sndA es).1 c X _ o h4)) (fun _ => rfl) (fun _ _ _ => nofun)
    · cases h
  | .blt f es => fun c X e o h => by
    unfold chkE at h
    split at h
    · obtain ⟨h1, h⟩ := ba h
      obtain ⟨h2, h⟩ := ba h
      obtain ⟨h3, h⟩ := ba h
      obtain ⟨h4, h5⟩ := ba h
      exact snd_val o (p_blt o (of_decide_eq_true h1) h2 h3 h5 h4 ((sndA es).1 c X _ o h4)) (fun _ => rfl) (fun _ _ _ => nofun)
    · cases h
  | .bm m obj es => fun c X e o h => by
    unfold chkE at h
    split at h
    · obtain ⟨h1, h⟩ := ba h
      obtain ⟨h2, h⟩ := ba h
      obtain ⟨h3, h⟩ := ba h
      obtain ⟨h4, h⟩ := ba h
      obtain ⟨h5, h⟩ := ba h
      obtain ⟨h6, h⟩ := ba h
      obtain ⟨h7, h8⟩ := ba h
      exact snd_val o (p_bm o (of_decide_eq_true h1) h2 h4 h5 h7 h6 (of_decide_eq_true h8) (sndE obj c X _ o h3).1 ((sndA es).1 c X _ o h6)) (fun _ => rfl) (fun _ _ _ => nofun)
    · cases h
  | .mth obj m es => fun c X e o h => by
    unfold chkE at h
    split at h
    · obtain ⟨h1, h⟩ := ba h
      obtain ⟨h2, h⟩ := ba h
      obtain ⟨h3, h⟩ := ba h
      obtain ⟨h4, h⟩ := ba h
      obtain ⟨h5, h⟩ := ba h
      obtain ⟨h6, h7⟩ := ba h
      have := of_decide_eq_true h1; subst this
      exact snd_val o (p_mth o h3 h4 h6 h5 (of_decide_eq_true h7) (sndE obj c X _ o h2).1 ((sndA es).1 c X _ o h5)) (fun _ => rfl) (fun _ _ _ => nofun)
    · cases h
  | .att obj f => fun c X e o h => by
    unfold chkE at h
    split at h
    · obtain ⟨h1, h⟩ := ba h
      obtain ⟨h2, h3⟩ := ba h
      have := of_decide_eq_true h1; subst this
      exact snd_val o (p_att o h3 (sndE obj c X _ o h2).1) (fun _ => rfl) (fun _ _ _ => nofun)
    · cases h
  | .idx a b => fun c X e o h => by
    unfold chkE at h
    split at h
    · obtain ⟨h1, h⟩ := ba h
      obtain ⟨h2, h3⟩ := ba h
      exact snd_val o (p_idx o h3 (sndE a c X _ o h1).1 (sndE b c X _ o h2).1) (fun _ => rfl) (fun _ _ _ => nofun)
    · cases h
  | .slc a lo hi => fun c X e o h => by
    unfold chkE at h
    split at h
    · obtain ⟨h1, h⟩ := ba h
      obtain ⟨h2, h3⟩ := ba h
      exact snd_val o (p_slc o (sndE a c X _ o h1).1 ((sndA lo).2.1 c X _ o h2) ((sndA hi).2.1 c X _ o h3)) (fun _ => rfl) (fun _ _ _ => nofun)
    · cases h
  | .rev a => fun c X e o h => by
    unfold chkE at h
    split at h
    · exact snd_val o (p_rev o (sndE a c X _ o h).1) (fun _ => rfl) (fun _ _ _ => nofun)
    · cases h
  | .lc elt vs tg it ifs => fun c X e o h => by
    unfold chkE at h
    split at h
    · obtain ⟨h1, h⟩ := ba h
      obtain ⟨h2, h⟩ := ba h
      obtain ⟨h3, h⟩ := ba h
      obtain ⟨h4, h⟩ := ba h
      obtain ⟨h5, h⟩ := ba h
      obtain ⟨h6, h⟩ := ba h
      obtain ⟨h7, h8⟩ := ba h
      have I := sndI it c X _ _ o h6
      have G := fun s H C cl fp => g_tg (o.blk s H _ C cl fp) h5
      have T := fun s H C cl fp => (sndA ifs).2.2.1 _ _ _ (o.blk s H _ C cl fp) h7
      have E := fun s H C cl fp => (sndE elt _ _ _ (o.blk s H _ C cl fp) h8).1
      exact snd_val o (p_lc o (of_decide_eq_true h1) h2 h3 h4 (I.1 rfl) G T E) (fun _ => rfl) (fun _ _ _ => nofun)
    · cases h
  | .lc2 elt vs tg it ifs vs1 tg1 it1 ifs1 => fun c X e o h => by
    unfold chkE at h
    split at h
    · obtain ⟨a1, h⟩ := ba h
      obtain ⟨a2, h⟩ := ba h
      obtain ⟨a3, h⟩ := ba h
      obtain ⟨a31, h⟩ := ba h
      obtain ⟨a32, h⟩ := ba h
      obtain ⟨a4, h⟩ := ba h
      obtain ⟨a41, h⟩ := ba h
      obtain ⟨b1, h⟩ := ba h
      obtain ⟨b2, h⟩ := ba h
      obtain ⟨b3, h⟩ := ba h
      obtain ⟨b4, h⟩ := ba h
      obtain ⟨b5, h⟩ := ba h
      obtain ⟨b6, b7⟩ := ba h
      have I := sndI it c X _ _ o b2
      have G := fun s H C cl fp => g_tg (o.blk s H _ C cl fp) b1
      have T := fun s H C cl fp => (sndA ifs).2.2.1 _ _ _ (o.blk s H _ C cl fp) b3
      have I1 := fun s H C cl fp => (sndI it1 _ _ _ _ (o.blk s H _ C cl fp) b5).1 rfl
      have G1 := fun s H C cl fp => g_tg (o.blk s H _ C cl fp) b4
      have T1 := fun s H C cl fp => (sndA ifs1).2.2.1 _ _ _ (o.blk s H _ C cl fp) b6
      have E2 := fun s H C cl fp => (sndE elt _ _ _ (o.blk s H _ C cl fp) b7).1
      exact snd_val o (p_lc2 o (of_decide_eq_true a1) a2 a3 a31 a32 a4 a41 (I.1 rfl) G T I1 G1 T1 E2) (fun _ => rfl) (fun _ _ _ => nofun)
    · cases h
  | .dc kk v vs tg it ifs => fun c X e o h => by
    unfold chkE at h
    split at h
    · obtain ⟨h1, h⟩ := ba h
      obtain ⟨h2, h⟩ := ba h
      obtain ⟨h3, h⟩ := ba h
      obtain ⟨h4, h⟩ := ba h
      obtain ⟨hk, h⟩ := ba h
      obtain ⟨h5, h⟩ := ba h
      obtain ⟨h6, h⟩ := ba h
      obtain ⟨h7, h⟩ := ba h
      obtain ⟨h8, h9⟩ := ba h
      have I := sndI it c X _ _ o h6
      have G := fun s H C cl fp => g_tg (o.blk s H _ C cl fp) h5
      have T := fun s H C cl fp => (sndA ifs).2.2.1 _ _ _ (o.blk s H _ C cl fp) h7
      have E := fun s H C cl fp => (sndE kk _ _ _ (o.blk s H _ C cl fp) h8).1
      have E2 := fun s H C cl fp => (sndE v _ _ _ (o.blk s H _ C cl fp) h9).1
      exact snd_val o (p_dc o (of_decide_eq_true h1) h2 h3 h4 (I.1 hk) G T E E2) (fun _ => rfl) (fun _ _ _ => nofun)
    · cases h
  | .nxt i j g => fun c X e o h => by
    unfold chkE at h
    split at h
    · obtain ⟨h1, h⟩ := ba h
      obtain ⟨h2, h⟩ := ba h
      obtain ⟨h3, h⟩ := ba h
      obtain ⟨h4, h⟩ := ba h
      obtain ⟨h5, h⟩ := ba h
      obtain ⟨h6, h⟩ := ba h
      obtain ⟨h7, h⟩ := ba h
      obtain ⟨h8, h⟩ := ba h
      obtain ⟨h9, h⟩ := ba h
      obtain ⟨h10, h⟩ := ba h
      obtain ⟨h11, h⟩ := ba h
      obtain ⟨h12, h⟩ := ba h
      obtain ⟨h13, h⟩ := ba h
      obtain ⟨h14, h⟩ := ba h
      obtain ⟨h15, h⟩ := ba h
      obtain ⟨h16, h17⟩ := ba h
      have e1 := of_decide_eq_true h1
      have e4 := of_decide_eq_true h4
      have e5 := of_decide_eq_true h5
      have e13 := of_decide_eq_true h13
      subst e1 e4 e5 e13
      exact snd_val o (p_nxt o h2 h3 (by rw [h6, h7, h8]; rfl) (of_decide_eq_true h9) h10 h11 (by simpa using h12) (by rw [h14, h15]; rfl) h16 h17) (fun _ => rfl) (fun _ _ _ => nofun)
    · cases h
theorem sndA : ∀ x : Exs, SndA M k x
  | .nil => ⟨fun c X es o h => by
      unfold chkA at h
      have := List.isEmpty_iff.mp h; subst this
      exact a_nil o, fun c X es o h => by
      unfold chkO at h
      cases es with
      | none => exact o_nil o
      | some _ => (cases h), fun c X es o h => by
      unfold chkTs at h
      have := List.isEmpty_iff.mp h; subst this
      exact ts_nil o, fun c X kws o h _ => by
      unfold chkA at h
      have := List.isEmpty_iff.mp h
      have := List.map_eq_nil_iff.mp this; subst this
      exact k_nil o⟩
  | .cons e r => ⟨fun c X es o h => by
      unfold chkA at h
      split at h
      · obtain ⟨h1, h⟩ := ba h
        obtain ⟨h2, h3⟩ := ba h
        exact a_cons o h1 (sndE e c X _ o h2).1 ((sndA r).1 c X _ o h3)
      · (cases h), fun c X es o h => by
      unfold chkO at h
      split at h
      · obtain ⟨h1, h2⟩ := ba h
        cases r with
        | nil => exact o_some o (sndE e c X _ o h1).1
        | _ => cases h2
      · (cases h), fun c X es o h => by
      unfold chkTs at h
      split at h
      · obtain ⟨h1, h2⟩ := ba h
        cases r with
        | nil => exact ts_one o (sndE e c X _ o h1).2.1
        | _ => cases h2
      · (cases h), fun c X kws o h hp => by
      cases kws with
      | nil => unfold chkA at h; cases h
      | cons kw kws =>
        rw [List.map_cons] at h
        unfold chkA at h
        obtain ⟨h1, h⟩ := ba h
        obtain ⟨h2, h3⟩ := ba h
        exact k_cons o (sndE e c X _ o h2).1 ((sndA r).2.2.2 c X _ o h3 (by unfold plainA at hp; exact hp))⟩
  | .star e r => ⟨fun c X es o h => by
      unfold chkA at h
      split at h
      · obtain ⟨h1, h2⟩ := ba h
        exact a_star o (sndE e c X _ o h1).1 ((sndA r).1 c X _ o h2)
      · (cases h), fun c X es o h => by unfold chkO at h; (cases h), fun c X es o h => by unfold chkTs at h; (cases h), fun c X kws o h hp => by unfold plainA at hp; cases hp⟩
theorem sndI : ∀ x : It, SndI M k x
  | .of e => fun c X tg i o h => ⟨fun _ => by unfold chkI at h; exact i_of o (sndE e c X _ o h).1, fun _ => trivial⟩
  | .rng1 a => fun c X tg i o h => ⟨fun _ => by
      unfold chkI at h
      split at h
      · obtain ⟨h1, h⟩ := ba h
        obtain ⟨h2, h⟩ := ba h
        obtain ⟨h3, h⟩ := ba h
        obtain ⟨h4, h5⟩ := ba h
        exact i_rng1 o (of_decide_eq_true h1) h2 h3 h5 (sndE a c X _ o h4).1
      · (cases h), fun _ => trivial⟩
  | .rng2 a b => fun c X tg i o h => ⟨fun _ => by
      unfold chkI at h
      split at h
      · obtain ⟨h1, h⟩ := ba h
        obtain ⟨h2, h⟩ := ba h
        obtain ⟨h3, h⟩ := ba h
        obtain ⟨h4, h⟩ := ba h
        obtain ⟨h5, h⟩ := ba h
        obtain ⟨h6, h7⟩ := ba h
        exact i_rng2 o (of_decide_eq_true h1) h2 h3 h5 h7 (sndE a c X _ o h4).1 (sndE b c X _ o h6).1
      · (cases h), fun _ => trivial⟩
  | .enum a => fun c X tg i o h => ⟨fun _ => by
      unfold chkI at h
      split at h
      · obtain ⟨h1, h⟩ := ba h
        obtain ⟨h2, h⟩ := ba h
        obtain ⟨h3, h⟩ := ba h
        obtain ⟨h4, h⟩ := ba h
        obtain ⟨h5, h6⟩ := ba h
        exact i_enum o (of_decide_eq_true h1) h2 h3 h5 h6 (sndE a c X _ o h4).1
      · (cases h), fun _ => trivial⟩
  | .zip a b => fun c X tg i o h => ⟨fun _ => by
      unfold chkI at h
      split at h
      · obtain ⟨h1, h⟩ := ba h
        obtain ⟨h2, h⟩ := ba h
        obtain ⟨h3, h⟩ := ba h
        obtain ⟨h4, h⟩ := ba h
        obtain ⟨h5, h⟩ := ba h
        obtain ⟨h6, h⟩ := ba h
        obtain ⟨h7, h8⟩ := ba h
        exact i_zip o (of_decide_eq_true h1) h2 h3 h6 h7 h8 (sndE a c X _ o h4).1 (sndE b c X _ o h5).1
      · (cases h), fun _ => trivial⟩
end
end
end Py

set_option Elab.async false
set_option linter.all false
set_option maxRecDepth 100000
set_option maxHeartbeats 4000000
/-! Soundness of statements: how tuples of names take written tuples. -/
namespace Py
open PySem PySem.Spec PyProof.Rows L2
def notComp : Expr → Bool
  | .ListComp _ _ _ _ => false
  | .SetComp _ _ _ _ => false
  | .DictComp _ _ _ _ _ => false
  | _ => true
def locN (sc : Scope) (x : Str) : Bool := match sc.names.lookup x with
  | some .local => true
  | _ => false
theorem locN_iff {env : Env} {x : Str} : (env.kindOf x == some NameKind.local) = locN env.scope x := by
  unfold locN Env.kindOf
  cases h : env.scope.names.lookup x with
  | none => rfl
  | some k => cases k <;> rfl
section
variable {env : Env} {x y z : Str} {px py pz : Pos} {a b d : Expr} {k k2 : Nat} {p p2 : Pos}
theorem star_any2 (ha : notStar a = true) : (match a with | .Starred _ _ => true | _ => false) = false := by
  cases a <;> first | rfl | cases ha
theorem sw2 (hk : env.scope.kind = .function) (hx : locN env.scope x = true) (hy : locN env.scope y = true) (hl : (py.line == px.line) = true) (hne : x ≠ y) (ha : notStar a = true) (hb : notStar b = true) (hf : (foldedForSure 8 a && foldedForSure 8 b) = false) (hc : (constantsAlone 8 a && constantsAlone 8 b) = false) :
    swappedStores [.Tuple [.Name x px, .Name y py] k p] (.Tuple [a, b] k2 p2) env = pure (some [x, y]) := by
  have hbk : env.blockKind = .function := by unfold Env.blockKind; rw [hk]; rfl
  have ne2 : (y == x) = false := by simpa using Ne.symm hne
  unfold swappedStores
  simp only [List.length_cons, List.length_nil, hbk, List.any_cons, List.any_nil, star_any2 ha, star_any2 hb, List.head?_cons, Option.map_some, Option.getD_some, Expr.pos, List.filterMap_cons, List.filterMap_nil, locN_iff, hx, hy, hl, beq_self_eq_true, Bool.and_self, List.all_cons, List.all_nil, Bool.and_true, hf, hc]
  simp [List.eraseDups, List.eraseDupsBy, List.eraseDupsBy.loop, ne2, hne]
  intro h
  rcases h with h | h
  · cases a <;> first | (cases h; done) | (cases ha; done)
  · cases b <;> first | (cases h; done) | (cases hb; done)
theorem sw3 (hk : env.scope.kind = .function) (hx : locN env.scope x = true) (hy : locN env.scope y = true) (hz : locN env.scope z = true) (hl : (py.line == px.line) = true) (hl2 : (pz.line == px.line) = true) (hne : x ≠ y) (hne2 : x ≠ z) (hne3 : y ≠ z) (ha : notStar a = true) (hb : notStar b = true) (hd : notStar d = true)
    (hf : (foldedForSure 8 a && (foldedForSure 8 b && foldedForSure 8 d)) = false) (hc : (constantsAlone 8 a && (constantsAlone 8 b && constantsAlone 8 d)) = false) :
    swappedStores [.Tuple [.Name x px, .Name y py, .Name z pz] k p] (.Tuple [a, b, d] k2 p2) env = pure (some [x, y, z]) := by
  have hbk : env.blockKind = .function := by unfold Env.blockKind; rw [hk]; rfl
  have ne1 : (y == x) = false := by simpa using Ne.symm hne
  have ne2 : (z == x) = false := by simpa using Ne.symm hne2
  have ne3 : (z == y) = false := by simpa using Ne.symm hne3
  unfold swappedStores
  simp only [List.length_cons, List.length_nil, hbk, List.any_cons, List.any_nil, List.head?_cons, Option.map_some, Option.getD_some, Expr.pos, List.filterMap_cons, List.filterMap_nil, locN_iff, hx, hy, hz, hl, hl2, beq_self_eq_true, Bool.and_self, List.all_cons, List.all_nil, Bool.and_true, hf, hc]
  simp [List.eraseDups, List.eraseDupsBy, List.eraseDupsBy.loop, ne1, ne2, ne3, hne, hne2, hne3, Ne.symm hne, Ne.symm hne2, Ne.symm hne3]
  intro h
  rcases h with h | h | h
  · cases a <;> first | (cases h; done) | (cases ha; done)
  · cases b <;> first | (cases h; done) | (cases hb; done)
  · cases d <;> first | (cases h; done) | (cases hd; done)
/-- some name is no plain local, or all is written out, or there are many -/
theorem sw2N (hk : env.scope.kind = .function) (h : (locN env.scope x && locN env.scope y) = false ∨ (foldedForSure 8 a && foldedForSure 8 b) = true) :
    swappedStores [.Tuple [.Name x px, .Name y py] k p] (.Tuple [a, b] k2 p2) env = pure none := by
  have hbk : env.blockKind = .function := by unfold Env.blockKind; rw [hk]; rfl
  unfold swappedStores
  simp only [List.length_cons, List.length_nil, hbk, List.any_cons, List.any_nil, List.head?_cons, Option.map_some, Option.getD_some, Expr.pos, List.filterMap_cons, List.filterMap_nil, locN_iff, beq_self_eq_true, Bool.and_self, List.all_cons, List.all_nil, Bool.and_true]
  rcases h with h | h
  · cases hx : locN env.scope x <;> cases hy : locN env.scope y <;> simp [hx, hy] at h ⊢
    all_goals (by_cases l1 : py.line = px.line <;> simp [l1])
  · simp [h]
theorem sw3N (hk : env.scope.kind = .function) (h : (locN env.scope x && (locN env.scope y && locN env.scope z)) = false ∨ (foldedForSure 8 a && (foldedForSure 8 b && foldedForSure 8 d)) = true) :
    swappedStores [.Tuple [.Name x px, .Name y py, .Name z pz] k p] (.Tuple [a, b, d] k2 p2) env = pure none := by
  have hbk : env.blockKind = .function := by unfold Env.blockKind; rw [hk]; rfl
  unfold swappedStores
  simp only [List.length_cons, List.length_nil, hbk, List.any_cons, List.any_nil, List.head?_cons, Option.map_some, Option.getD_some, Expr.pos, List.filterMap_cons, List.filterMap_nil, locN_iff, beq_self_eq_true, Bool.and_self, List.all_cons, List.all_nil, Bool.and_true]
  rcases h with h | h
  · cases hx : locN env.scope x <;> cases hy : locN env.scope y <;> cases hz : locN env.scope z <;> simp [hx, hy, hz] at h ⊢
    all_goals (by_cases l1 : py.line = px.line <;> by_cases l2 : pz.line = px.line <;> simp [l1, l2])
  · simp [h]
theorem swMany {ts vs : List Expr} (h : 4 ≤ ts.length) : swappedStores [.Tuple ts k p] (.Tuple vs k2 p2) env = pure none := by
  unfold swappedStores
  have h1 : (ts.length == 2) = false := by simp; omega
  have h2 : (ts.length == 3) = false := by simp; omega
  simp only [h1, h2, Bool.or_self, Bool.not_false, Bool.true_or, if_true]
theorem swNoTup {t : Expr} {e : Expr} (h : isTupE e = false) : swappedStores [t] e env = pure none := by
  unfold swappedStores
  cases t <;> cases e <;> first | rfl | cases h
theorem swaps_plain {e : Expr} {t : Option Expr} {l : Nat} (h : notComp e = true) : swapsWith e t l env = pure false := by
  cases e <;> first | rfl | cases h
theorem swaps_att {e o : Expr} {f : Str} {l : Nat} : swapsWith e (some (.Attribute o f p)) l env = pure false := by
  cases e <;> rfl
theorem swaps_sub {e o i : Expr} {l : Nat} : swapsWith e (some (.Subscript o i p)) l env = pure false := by
  cases e <;> rfl
theorem swaps_tup {e : Expr} {ts : List Expr} {l : Nat} : swapsWithSole [.Tuple ts k p] e l env = pure false := by
  unfold swapsWithSole
  cases e <;> rfl
/-- a name that is no plain local -/
theorem swaps_cell {elt : Expr} {gs : List Comprehension} {scope : Scope} {pos : Pos} {l : Nat} (h : locN env.scope x = false) : swapsWith (.ListComp elt gs scope pos) (some (.Name x p)) l env = pure false := by
  unfold swapsWith
  simp only [locN_iff, h, Bool.and_false, Bool.false_and]
end
end Py

set_option Elab.async false
set_option linter.all false
set_option maxRecDepth 100000
set_option maxHeartbeats 4000000
/-! Soundness of statements. -/
namespace Py
open PySem PySem.Spec PyProof.Rows L2
/-- the pure ends answer the ends -/
structure EndOk (M : Mo) (st : Sto) (H : Hp) (DD : EndD) (D : Ends) : Prop where
  nx : ∀ L' s', DD.nx L' s' → ∀ σ' H', Ext M st H s' H' → RelS M s' H' → RelL M H' L' σ' → D.nx σ' H'
  rt : ∀ d s', DD.rt d s' → ∀ v H', Ext M st H s' H' → RelS M s' H' → M.Rep H' d v → D.rt v H'
  bk : ∀ L' s', DD.bk L' s' → ∀ σ' H', Ext M st H s' H' → RelS M s' H' → RelL M H' L' σ' → D.bk σ' H'
  ct : ∀ L' s', DD.ct L' s' → ∀ σ' H', Ext M st H s' H' → RelS M s' H' → RelL M H' L' σ' → D.ct σ' H'
theorem EndOk.step {M : Mo} {st st' : Sto} {H H' : Hp} {DD : EndD} {D : Ends} (h : EndOk M st H DD D) (e : Ext M st H st' H') : EndOk M st' H' DD D :=
  ⟨fun L s q σ H2 e2 => h.nx L s q σ H2 (e.trans e2), fun d s q v H2 e2 => h.rt d s q v H2 (e.trans e2), fun L s q σ H2 e2 => h.bk L s q σ H2 (e.trans e2), fun L s q σ H2 e2 => h.ct L s q σ H2 (e.trans e2)⟩
section
variable (M : Mo) (G : Cal)
def semS (x : Sm) : TS := fun D σ H => ∃ L st DD, RelL M H L σ ∧ RelS M st H ∧ EndOk M st H DD D ∧ wpS M.P G x L st DD X0
def semSs (x : Sms) : TS := fun D σ H => ∃ L st DD, RelL M H L σ ∧ RelS M st H ∧ EndOk M st H DD D ∧ wpSs M.P G x L st DD X0
end
theorem lookup_setF (f g : Str) (v : D) : ∀ fs : List (Str × D), (setF f v fs).lookup g = if g = f then some v else fs.lookup g
  | [] => by
    show List.lookup g [(f, v)] = _
    by_cases h : g = f
    · have hb : (g == f) = true := beq_iff_eq.mpr h
      simp only [List.lookup, hb, if_pos h]
    · have hb : (g == f) = false := beq_eq_false_iff_ne.mpr h
      simp only [List.lookup, hb, if_neg h]
  | (k, x) :: r => by
    have ih := lookup_setF f g v r
    rw [show setF f v ((k, x) :: r) = (if k = f then (k, v) :: r else (k, x) :: setF f v r) from rfl]
    by_cases hk : k = f
    · rw [if_pos hk]
      by_cases h : g = k
      · have hb : (g == k) = true := beq_iff_eq.mpr h
        simp only [List.lookup, hb, if_pos (h.trans hk)]
      · have hb : (g == k) = false := beq_eq_false_iff_ne.mpr h
        simp only [List.lookup, hb, if_neg (fun e : g = f => h (e.trans hk.symm))]
    · rw [if_neg hk]
      by_cases h : g = k
      · have hb : (g == k) = true := beq_iff_eq.mpr h
        simp only [List.lookup, hb, if_neg (fun e : g = f => hk (h.symm.trans e))]
      · have hb : (g == k) = false := beq_eq_false_iff_ne.mpr h
        simp only [List.lookup, hb]
        exact ih
theorem keys_setF {f : Str} {v : V} {d : D} : ∀ {vfs : List (Str × V)} {fs : List (Str × D)}, vfs.map (·.1) = fs.map (·.1) → (putF f v vfs).map (·.1) = (setF f d fs).map (·.1)
  | [], [], _ => rfl
  | [], _ :: _, e => by cases e
  | _ :: _, [], e => by cases e
  | (g, x) :: vfs, (h, y) :: fs, e => by
    simp only [List.map_cons, List.cons.injEq] at e
    obtain ⟨rfl, e⟩ := e
    unfold putF setF
    by_cases z : g = f
    · rw [if_pos z, if_pos z]; simp [e]
    · rw [if_neg z, if_neg z]; simp [keys_setF (f := f) (v := v) (d := d) e]
theorem ixOf_inj {f g : Str} : ∀ {l : List Str} {i : Nat}, ixOf f l = some i → ixOf g l = some i → f = g
  | [], _, h, _ => by cases h
  | x :: l, i, h, k => by
    unfold ixOf at h k
    split at h
    · rename_i e; subst e; cases h
      split at k
      · rename_i e; exact e
      · cases q : ixOf g l with
        | none => rw [q] at k; cases k
        | some j => rw [q] at k; simp at k
    · split at k
      · cases k
        cases q : ixOf f l with
        | none => rw [q] at h; cases h
        | some j => rw [q] at h; simp at h
      · cases q : ixOf f l with
        | none => rw [q] at h; cases h
        | some j =>
          rw [q] at h
          cases q2 : ixOf g l with
          | none => rw [q2] at k; cases k
          | some j2 =>
            rw [q2] at k
            simp at h k
            exact ixOf_inj q (by rw [q2]; simp; omega)
theorem putS_other {i j : Nat} {v w : V} {vs : List (Option V)} (ne : i ≠ j) (h : vs[j]? = some (some w)) : (SlX.putS i v vs)[j]? = some (some w) := by
  unfold SlX.putS
  rw [List.getElem?_set_ne ne]
  obtain ⟨hl, e⟩ := List.getElem?_eq_some_iff.mp h
  rw [List.getElem?_append_left hl, h]
section
variable {M : Mo} {k : Nat} {c : Cfg} {X : Cx} (o : Okx M k c X)
include o
theorem ss_nil : PSs X [] (semSs M (cal M.P k) .nil) := PSs.mono pss_nil fun D σ H ⟨L, st, DD, rl, rs, ok, q⟩ => ok.nx L st q σ H .refl rs rl
theorem ss_cons {s : Sm} {r : Sms} {s' : Stmt} {r' : List Stmt} (h1 : PS X s' (semS M (cal M.P k) s)) (h2 : PSs X r' (semSs M (cal M.P k) r)) : PSs X (s' :: r') (semSs M (cal M.P k) (.cons s r)) := by
  refine PSs.mono (pss_cons h1 h2) fun D σ H ⟨L, st, DD, rl, rs, ok, q⟩ => ⟨L, st, _, rl, rs, ?_, q⟩
  refine ⟨?_, ok.rt, ok.bk, ok.ct⟩
  rintro L' s' ⟨s2, sub, q2⟩ σ' H' e' rs' rl'
  exact ⟨L', s2, DD, rl', rs'.sub sub, ok.step (e'.sub sub), q2⟩
theorem s_exp {e : Ex} {e' : Expr} {pos : Pos} (hn : notComp e' = true) (he : PE X e' (semE M (cal M.P k) e)) : PS X (.Expr e' pos) (semS M (cal M.P k) (.exp e)) := by
  refine PS.mono (ps_expr he (swaps_plain hn)) fun D σ H ⟨L, st, DD, rl, rs, ok, q⟩ => ?_
  exact semE_of (cal_mono _ _) rl rs q fun d s v H1 q1 e1 r1 v1 => ok.nx _ _ q1 σ H1 e1 r1 (rl.ext e1)
theorem s_ret {e : Ex} {e' : Expr} {pos : Pos} (he : PE X e' (semE M (cal M.P k) e)) : PS X (.Return (some e') pos) (semS M (cal M.P k) (.ret e)) := by
  refine PS.mono (ps_ret he) fun D σ H ⟨L, st, DD, rl, rs, ok, q⟩ => ?_
  exact semE_of (cal_mono _ _) rl rs q fun d s v H1 q1 e1 r1 v1 => ok.rt _ _ q1 v H1 e1 r1 v1
theorem s_retN {pos : Pos} : PS X (.Return none pos) (semS M (cal M.P k) (.ret .non)) :=
  PS.mono ps_retN fun D σ H ⟨L, st, DD, rl, rs, ok, q⟩ => ok.rt _ _ q _ H .refl rs .non
theorem s_if {t : Ex} {a b : Sms} {t' : Expr} {a' b' : List Stmt} {pos : Pos} (ht : PT X t' (semT M (cal M.P k) t)) (ha : PSs X a' (semSs M (cal M.P k) a)) (hb : PSs X b' (semSs M (cal M.P k) b)) : PS X (.If t' a' b' pos) (semS M (cal M.P k) (.iff t a b)) := by
  refine PS.mono (ps_if ht ha hb) fun D σ H ⟨L, st, DD, rl, rs, ok, q⟩ => ?_
  refine semT_of (cal_mono _ _) rl rs q fun j s H1 q1 e1 r1 => ?_
  cases j with
  | true =>
    simp only [if_true] at q1 ⊢
    exact ⟨L, s, DD, rl.ext e1, r1, ok.step e1, q1⟩
  | false =>
    simp only [Bool.false_eq_true, if_false] at q1 ⊢
    exact ⟨L, s, DD, rl.ext e1, r1, ok.step e1, q1⟩
theorem own_x : PassesOwn (model X.prog X.w) X.A X.env X.xe := by
  rw [o.nox]
  exact PassesOwn.never
theorem s_while {t : Ex} {b : Sms} {t' : Expr} {b' : List Stmt} {pos : Pos} (ht : PT X t' (semT M (cal M.P k) t)) (hb : PSs X b' (semSs M (cal M.P k) b)) : PS X (.While t' b' [] pos) (semS M (cal M.P k) (.whl t b)) := by
  refine PS.mono (ps_while (own_x o) ht hb) fun D σ H ⟨L, st, DD, rl, rs, ok, W, ⟨m0, w0⟩, turn⟩ => ?_
  refine ⟨fun m σ' H' => ∃ L' s', RelL M H' L' σ' ∧ RelS M s' H' ∧ Ext M st H s' H' ∧ W m L' s', ⟨m0, L, st, rl, rs, .refl, w0⟩, ?_⟩
  rintro m σ1 H1 ⟨L1, s1, rl1, rs1, e1, w1⟩
  refine semT_of (cal_mono _ _) rl1 rs1 (turn m L1 s1 w1) fun j s2 H2 q2 e2 r2 => ?_
  cases j with
  | true =>
    simp only [if_true] at q2 ⊢
    refine ⟨_, fun σ' H' h => h, L1, s2, _, rl1.ext e2, r2, ?_, q2⟩
    refine ⟨?_, (ok.step (e1.trans e2)).rt, (ok.step (e1.trans e2)).nx, ?_⟩
    · rintro L' s' ⟨s3, sub, m', lt, w⟩ σ' H' e' rs' rl'
      exact ⟨m', lt, L', s3, rl', rs'.sub sub, (e1.trans (e2.trans e')).sub sub, w⟩
    · rintro L' s' ⟨s3, sub, m', lt, w⟩ σ' H' e' rs' rl'
      exact ⟨m', lt, L', s3, rl', rs'.sub sub, (e1.trans (e2.trans e')).sub sub, w⟩
  | false =>
    simp only [Bool.false_eq_true, if_false] at q2 ⊢
    exact ok.nx _ _ q2 σ1 H2 (e1.trans e2) r2 (rl1.ext e2)
theorem s_for {t : Tg} {it : It} {b : Sms} {t' it' : Expr} {b' : List Stmt} {pos : Pos} (hs : notSet it' = true) (hi : PI X t' it' (semI M (cal M.P k) it)) (hg : PG X t' (semG M t)) (hb : PSs X b' (semSs M (cal M.P k) b)) : PS X (.For t' it' b' [] pos) (semS M (cal M.P k) (.for_ t it b)) := by
  refine PS.mono (ps_for (own_x o) o.of.calm hi hg hb (fold_of hs)) fun D σ H ⟨L, st, DD, rl, rs, ok, q⟩ => ?_
  refine ⟨L, st, rl, rs, wpI_mono (cal_mono _ _) it (fun items stays s1 back q1 J H1 e1 r1 h0 W hb hz => ?_) q⟩
  refine for_it W (fun i σ' H' => ∃ L' t', RelL M H' L' σ' ∧ RelS M t' H' ∧ stays t' ∧ Ext M s1 H1 t' H' ∧ forL stays
    (fun x L s nx => tgR t x L fun L1 => wpSs M.P (cal M.P k) b L1 s { nx := nx, ct := nx, bk := fun L s => stays s ∧ DD.nx L (back s), rt := fun d s => stays s ∧ DD.rt d (back s) } X0)
    (fun L s => DD.nx L (back s)) (items.drop i) L' t') ?_ ?_ ?_ ?_
  · exact ⟨L, s1, rl.ext e1, r1, h0, .refl, q1⟩
  · rintro i σ' H' _ ⟨L', t', g1, g2, g3, g4, _⟩
    exact ⟨t', g2, g3, g4.tl⟩
  · rintro i x σ' Ha Hb hi ⟨L', t', g1, g2, g3, g4, g5⟩ ⟨kp, d, ed, rd⟩
    have dr : items.drop i = d :: items.drop (i + 1) := by
      obtain ⟨h1, h2⟩ := List.getElem?_eq_some_iff.mp ed
      rw [← h2, List.drop_eq_getElem_cons h1]
    rw [dr] at g5
    unfold forL at g5
    have rb : RelS M t' Hb := g2.grow kp
    have eb : Ext M s1 H1 t' Hb := g4.trans (.grow kp)
    refine ⟨d, L', t', rd, g1.mono (sub_tp kp) (sub_lf kp), rb, tgR_mono (fun L1 q2 σ2 rl2 _ => ⟨L1, t', _, rl2, rb, ?_, q2⟩) g5⟩
    have okb := ok.step (e1.trans eb)
    refine ⟨?_, fun d s ⟨_, q3⟩ v H3 e3 r3 v3 => okb.rt d s (by rw [← hb s]; exact q3) v H3 e3 r3 v3, fun L s ⟨_, q3⟩ σ3 H3 e3 r3 rl3 => okb.nx L s (by rw [← hb s]; exact q3) σ3 H3 e3 r3 rl3, ?_⟩
    · rintro L2 s2 ⟨s3, sub, hs3, q3⟩ σ3 H3 e3 r3 rl3
      exact ⟨L2, s3, rl3, r3.sub sub, hs3, (eb.trans e3).sub sub, q3⟩
    · rintro L2 s2 ⟨s3, sub, hs3, q3⟩ σ3 H3 e3 r3 rl3
      exact ⟨L2, s3, rl3, r3.sub sub, hs3, (eb.trans e3).sub sub, q3⟩
  · rintro σ' H' ⟨L', t', g1, g2, g3, g4, g5⟩
    rw [List.drop_length] at g5
    unfold forL at g5
    rw [hb] at g5
    exact ok.nx _ _ g5 σ' H' (e1.trans g4) g2 g1
/-- name = value -/
theorem asg_read {i : Nat} {e : Ex} {D : Ends} {σ : L2.St} {H : Hp} (h : semS M (cal M.P k) (.asg (.nm i) e) D σ H) : tAsg (semE M (cal M.P k) e) (gName i) D σ H := by
  obtain ⟨L, st, DD, rl, rs, ok, q⟩ := h
  exact semE_of (cal_mono _ _) rl rs q fun d s v H1 q1 e1 r1 v1 => ok.nx _ _ q1 _ H1 e1 r1 ((rl.ext e1).set v1 i)
theorem s_setT {i : Nat} {x : Str} {e : Ex} {e' : Expr} {pos pos' : Pos} (hx : (decide (c.N[i]? = some x) && locB c x) = true) (he : PE X e' (semE M (cal M.P k) e)) (hs : swapsWith e' (some (.Name x pos')) pos.line X.env = pure false) : PS X (.Assign [.Name x pos'] e' pos) (tAsg (semE M (cal M.P k) e) (gName i)) := by
  simp only [Bool.and_eq_true, decide_eq_true_eq] at hx
  obtain ⟨h1, h2⟩ := loc_of o.fit hx.2
  exact ps_set (i := i) (by rw [o.fit.N]; exact o.fit.nd) (by rw [o.fit.N]; exact hx.1) h1 he hs h2
theorem s_frzT {i : Nat} {x : Ex} {stm : Stmt} (h : PS X stm (tAsg (semE M (cal M.P k) x) (gName i))) : PS X stm (tAsg (semE M (cal M.P k) (.frz x)) (gName i)) := by
  refine ⟨fun pins s σ H D I hw => ?_⟩
  have hw2 : tAsg (semE M (cal M.P k) x) (gName i) { D with nx := fun σ' H' => D.nx σ' H' ∨ ∃ d u, H' d = some u ∧ Mut (some u) ∧ ∀ o, D.nx σ' (upd H' d (.frz o u)) } σ H := by
    have := frz_sem o (show semE M (cal M.P k) (.frz x) σ H _ from hw)
    exact this
  refine thn (h.run pins s σ H _ I hw2) fun f s1 q => ?_
  cases f with
  | next =>
    obtain ⟨σ', H', I2, q⟩ := q
    rcases q with q | ⟨d, u, hd, mu, q⟩
    · exact ⟨σ', H', I2, q⟩
    · obtain ⟨od, I3⟩ := I2.lock hd mu
      exact ⟨σ', _, I3, q od⟩
  | _ => exact q
theorem s_set {i : Nat} {x : Str} {e : Ex} {e' : Expr} {pos pos' : Pos} (hx : (decide (c.N[i]? = some x) && locB c x) = true) (he : PE X e' (semE M (cal M.P k) e)) (hs : swapsWith e' (some (.Name x pos')) pos.line X.env = pure false) : PS X (.Assign [.Name x pos'] e' pos) (semS M (cal M.P k) (.asg (.nm i) e)) := by
  simp only [Bool.and_eq_true, decide_eq_true_eq] at hx
  obtain ⟨h1, h2⟩ := loc_of o.fit hx.2
  exact PS.mono (ps_set (i := i) (by rw [o.fit.N]; exact o.fit.nd) (by rw [o.fit.N]; exact hx.1) h1 he hs h2) fun D σ H h => asg_read o h
theorem s_tup {is : List Nat} {e : Ex} {ts : List Expr} {n : Nat} {p : Pos} {e' : Expr} {pos : Pos} (ht : tgB c (.tp is) (.Tuple ts n p) = true) (hn : isTupE e' = false) (he : PE X e' (semE M (cal M.P k) e)) : PS X (.Assign [.Tuple ts n p] e' pos) (semS M (cal M.P k) (.asg (.tp is) e)) := by
  refine PS.mono (ps_asg he (g_tg o ht) swaps_tup (swNoTup hn)) fun D σ H ⟨L, st, DD, rl, rs, ok, q⟩ => ?_
  refine semE_of (cal_mono _ _) rl rs q fun d s v H1 q1 e1 r1 v1 => ?_
  exact ⟨d, L, s, v1, rl.ext e1, r1, tgR_mono (fun L' q2 σ' rl' _ => ok.nx _ _ q2 σ' H1 e1 r1 rl') q1⟩
theorem setAll_len : ∀ {is : List Nat} {ds : List D} {L L' : Loc}, setAll L is ds = some L' → ds.length = is.length
  | [], [], _, _, _ => rfl
  | [], _ :: _, _, _, e => by unfold setAll at e; cases e
  | _ :: _, [], _, _, e => by unfold setAll at e; cases e
  | _ :: is, _ :: ds, _, _, e => by unfold setAll at e; simp [setAll_len e]
/-- names = a written tuple, by the tuple -/
theorem s_parT {is : List Nat} {es : Exs} {ts es' : List Expr} {n n2 : Nat} {p p2 : Pos} {pos : Pos} (ht : nmsB c is ts = true) (hl : is.length ≤ 20) (he : PA X es' (semA M (cal M.P k) es)) (hw : swappedStores [.Tuple ts n p] (.Tuple es' n2 p2) X.env = pure none) : PS X (.Assign [.Tuple ts n p] (.Tuple es' n2 p2) pos) (semS M (cal M.P k) (.par is es)) := by
  have ht' : tgB c (.tp is) (.Tuple ts n p) = true := ht
  refine PS.mono (ps_asg (p_tup o he) (g_tg o ht') swaps_tup hw) fun D σ H ⟨L, st, DD, rl, rs, ok, q⟩ => ?_
  have q' : wpE M.P (cal M.P k) (.tup es) L st (fun d s => ∃ ds L', d = .tup ds ∧ setAll L is ds = some L' ∧ DD.nx L' s) X0 :=
    wpA_mono (cal_mono _ _) es (fun ds s ⟨L', e, q⟩ => ⟨by rw [setAll_len o e]; exact Nat.le_trans hl (by decide), ds, L', rfl, e, q⟩) q
  refine semE_of (cal_mono _ _) rl rs q' fun d s v H1 q1 e1 r1 v1 => ?_
  obtain ⟨ds, L', rfl, e, q1⟩ := q1
  exact ⟨.tup ds, L, s, v1, rl.ext e1, r1, L', e, fun σ' rl' _ => ok.nx _ _ q1 σ' H1 e1 r1 rl'⟩
theorem locN_look {x : Str} (h : locN c.sc x = true) : X.env.scope.names.lookup x = some .local := by
  rw [o.fit.sc]
  unfold locN at h
  split at h
  · assumption
  · cases h
theorem s_par2 {i j : Nat} {es : Exs} {x y : Str} {a b : Expr} {n n2 : Nat} {p p2 px py : Pos} {pos : Pos} (hi : c.N[i]? = some x) (hj : c.N[j]? = some y) (hij : i ≠ j) (hx : locN c.sc x = true) (hy : locN c.sc y = true) (he : PA X [a, b] (semA M (cal M.P k) es))
    (hw : swappedStores [.Tuple [.Name x px, .Name y py] n p] (.Tuple [a, b] n2 p2) X.env = pure (some [x, y])) : PS X (.Assign [.Tuple [.Name x px, .Name y py] n p] (.Tuple [a, b] n2 p2) pos) (semS M (cal M.P k) (.par [i, j] es)) := by
  refine PS.mono (ps_par (i := i) (j := j) o.of.calm (by rw [o.fit.N]; exact o.fit.nd) (by rw [o.fit.N]; exact hi) (by rw [o.fit.N]; exact hj) hij (locN_look o hx) (locN_look o hy) he hw) fun D σ H ⟨L, st, DD, rl, rs, ok, q⟩ => ?_
  refine semA_of (cal_mono _ _) rl rs q fun ds s vs H1 q1 e1 r1 v1 => ?_
  obtain ⟨L', e, q1⟩ := q1
  have := setAll_len o e
  cases v1 with
  | nil => cases this
  | cons w1 v1 =>
    cases v1 with
    | nil => cases this
    | cons w2 v1 =>
      cases v1 with
      | cons _ _ => cases this
      | nil =>
        cases e
        exact ⟨_, _, rfl, ok.nx _ _ q1 _ H1 e1 r1 (((rl.ext e1).set w1 i).set w2 j)⟩
theorem s_par3 {i j l : Nat} {es : Exs} {x y z : Str} {a b d : Expr} {n n2 : Nat} {p p2 px py pz : Pos} {pos : Pos} (hi : c.N[i]? = some x) (hj : c.N[j]? = some y) (hl : c.N[l]? = some z) (hij : i ≠ j) (hil : i ≠ l) (hjl : j ≠ l) (hx : locN c.sc x = true) (hy : locN c.sc y = true) (hz : locN c.sc z = true) (he : PA X [a, b, d] (semA M (cal M.P k) es))
    (hw : swappedStores [.Tuple [.Name x px, .Name y py, .Name z pz] n p] (.Tuple [a, b, d] n2 p2) X.env = pure (some [x, y, z])) : PS X (.Assign [.Tuple [.Name x px, .Name y py, .Name z pz] n p] (.Tuple [a, b, d] n2 p2) pos) (semS M (cal M.P k) (.par [i, j, l] es)) := by
  refine PS.mono (ps_par3 (i := i) (j := j) (l := l) o.of.calm (by rw [o.fit.N]; exact o.fit.nd) (by rw [o.fit.N]; exact hi) (by rw [o.fit.N]; exact hj) (by rw [o.fit.N]; exact hl) hij hil hjl (locN_look o hx) (locN_look o hy) (locN_look o hz) he hw) fun D σ H ⟨L, st, DD, rl, rs, ok, q⟩ => ?_
  refine semA_of (cal_mono _ _) rl rs q fun ds s vs H1 q1 e1 r1 v1 => ?_
  obtain ⟨L', e, q1⟩ := q1
  have := setAll_len o e
  cases v1 with
  | nil => cases this
  | cons w1 v1 =>
    cases v1 with
    | nil => cases this
    | cons w2 v1 =>
      cases v1 with
      | nil => cases this
      | cons w3 v1 =>
        cases v1 with
        | cons _ _ => cases this
        | nil =>
          cases e
          exact ⟨_, _, _, rfl, ok.nx _ _ q1 _ H1 e1 r1 ((((rl.ext e1).set w1 i).set w2 j).set w3 l)⟩
theorem s_aug {i : Nat} {x : Str} {e : Ex} {e' : Expr} {pos pos' : Pos} (hx : (decide (c.N[i]? = some x) && locB c x) = true) (he : PE X e' (semE M (cal M.P k) e)) : PS X (.AugAssign (.Name x pos') .Add e' pos) (semS M (cal M.P k) (.aug i .add e)) := by
  simp only [Bool.and_eq_true, decide_eq_true_eq] at hx
  obtain ⟨h1, h2⟩ := loc_of o.fit hx.2
  refine PS.mono (ps_aug (i := i) (by rw [o.fit.N]; exact o.fit.nd) (by rw [o.fit.N]; exact hx.1) h1 he ip_add h2) fun D σ H ⟨L, st, DD, rl, rs, ok, d, ed, q⟩ => ?_
  obtain ⟨v, ev, rv⟩ := rl.get i d ed
  refine ⟨v, ev, semE_of (cal_mono _ _) rl rs q fun y s w H1 q1 e1 r1 v1 => ?_⟩
  obtain ⟨a, b, rfl, rfl, _, q1⟩ := q1
  cases rv
  cases v1
  exact ⟨a, b, rfl, rfl, ok.nx _ _ q1 _ H1 e1 r1 ((rl.ext e1).set (.int _) i)⟩
end
end Py

set_option Elab.async false
set_option linter.all false
set_option maxRecDepth 100000
set_option maxHeartbeats 4000000
/-! Soundness of statements: stores into objects; the check of statements. -/
namespace Py
open PySem PySem.Spec PyProof.Rows L2
section
variable {M : Mo} {k : Nat} {c : Cfg} {X : Cx} (o : Okx M k c X)
include o
/-- a slot is stored -/
theorem sl_write {pins : List (Addr × Obj)} {σ : L2.St} {s : Shared} {st : Sto} {H : Hp} {a C dx : Addr} {cc : Str} {cd : Cd} {fs : List (Str × D)} {vs : List (Option V)} {f : Str} {i : Nat} {d : D} {v : V} (I : Inv X pins σ H s) (rs : RelS M st H) (ea : st a = some (.ins cc fs)) (hm : M.mg cc = some (.ref C)) (hcd : M.P.cls.lookup cc = some cd) (hsl : cd.slotted = true)
    (ne : dx ≠ a) (h5 : SlX.Slt H a C dx vs) (h6 : ∀ f d, fs.lookup f = some d → ∃ i v, ixOf f cd.slots = some i ∧ vs[i]? = some (some v) ∧ M.Rep H d v) (hi : ixOf f cd.slots = some i) (rv : M.Rep H d v) :
    RelS M (put st a (.ins cc (setF f d fs))) (SlX.slH H a C dx (SlX.putS i v vs)) ∧ Ext M st H (put st a (.ins cc (setF f d fs))) (SlX.slH H a C dx (SlX.putS i v vs)) := by
  obtain ⟨ua, ha, a1, a3, a2, a5⟩ := (rs.1 a _ ea).there
  have hd : ∃ u, H dx = some u ∧ (∀ xs, u ≠ .tup xs) ∧ (∀ ob y, u ≠ .frz ob y) ∧ (u = .xd [] ∨ ∃ x, u = .own x) := by
    rcases h5 with ⟨h1, _⟩ | ⟨_, h2⟩
    · obtain ⟨_, _, _, _, _, ho⟩ := ins_get I.hok h1
      exact ⟨_, ho, fun _ => nofun, fun _ _ => nofun, .inr ⟨_, rfl⟩⟩
    · exact ⟨_, h2, fun _ => nofun, fun _ _ => nofun, .inl rfl⟩
  obtain ⟨ud, hdx, d1, d2, d3⟩ := hd
  have keep : ∀ b u, H b = some u → u ≠ ua → u ≠ ud → SlX.slH H a C dx (SlX.putS i v vs) b = some u := fun b u q z1 z2 => by
    rw [SlX.slH_ne (fun e => by rw [e, ha] at q; exact z1 (Option.some.inj q).symm) (fun e => by rw [e, hdx] at q; exact z2 (Option.some.inj q).symm)]
    exact q
  have tp : ∀ b xs, SqT M.K H b xs → SqT M.K (SlX.slH H a C dx (SlX.putS i v vs)) b xs := by
    intro b xs h
    rcases h with (h | ⟨ob, h⟩) | h
    · exact .inl (.inl (keep b _ h (fun z => a1 _ z.symm) (fun z => d1 _ z.symm)))
    · exact .inl (.inr ⟨ob, keep b _ h (fun z => a2 _ _ z.symm) (fun z => d2 _ _ z.symm)⟩)
    · exact .inr h
  have xd : ∀ b, H b = some (.xd []) → SlX.slH H a C dx (SlX.putS i v vs) b = some (.xd []) := by
    intro b h
    by_cases z : b = dx
    · subst z
      unfold SlX.slH
      rw [upd_ne ne, upd_same]
    · rw [SlX.slH_ne (fun e => by rw [e, ha] at h; exact a3 (Option.some.inj h)) z]
      exact h
  have lf : FzM H (SlX.slH H a C dx (SlX.putS i v vs)) := ⟨fun b ob y h => keep b _ h (fun z => a2 _ _ z.symm) (fun z => d2 _ _ z.symm), xd⟩
  have tb : TabsOk M (SlX.slH H a C dx (SlX.putS i v vs)) := fun p hp => by
    obtain ⟨ps, h1, h2⟩ := rs.2 p hp
    refine ⟨ps, keep p.2 _ h1 (fun z => ?_) (fun z => ?_), h2⟩
    · rw [← z] at a5; exact a5
    · rcases d3 with d3 | ⟨x, d3⟩
      · rw [d3] at z; cases z
      · rw [d3] at z; cases z
  refine ⟨⟨fun b ob q => ?_, tb⟩, ⟨fun b ob hb sb no => ?_, tp, lf⟩⟩
  · by_cases z : b = a
    · subst z
      rw [put_same] at q
      cases q
      refine ⟨C, cd, hm, hcd, ?_⟩
      rw [if_pos hsl]
      refine ⟨dx, _, ne, SlX.slH_slt ne, fun g e q => ?_⟩
      rw [lookup_setF] at q
      split at q
      · rename_i z; subst z
        cases q
        exact ⟨i, v, hi, SlX.putS_get _ _ _, Rep.mono tp lf rv⟩
      · rename_i z
        obtain ⟨j, w, g1, g2, g3⟩ := h6 g e q
        exact ⟨j, w, g1, putS_other (fun z2 => z (by subst z2; exact ixOf_inj g1 hi)) g2, Rep.mono tp lf g3⟩
    · rw [put_ne z] at q
      refine (rs.1 b ob q).mono (fun u hu => ?_) tp lf xd
      obtain ⟨ub, hb, b1, b3, b2, b5⟩ := (rs.1 b ob q).there
      rw [hb] at hu; cases hu
      rw [SlX.slH_ne z (fun e => by
        rw [e, hdx] at hb
        have := Option.some.inj hb
        subst this
        rcases d3 with d3 | ⟨x, d3⟩
        · exact b3 d3
        · rw [d3] at b5; exact b5)]
      exact hb
  · have z : b ≠ a := fun e => by rw [e, ea] at sb; cases sb
    refine ⟨?_, by rw [put_ne z]; exact sb⟩
    by_cases z2 : b = dx
    · subst z2
      rw [hdx] at hb
      have := Option.some.inj hb
      subst this
      rcases d3 with d3 | ⟨x, d3⟩
      · rw [d3]
        unfold SlX.slH
        rw [upd_ne ne, upd_same]
      · rw [d3] at no; exact no.elim
    · rw [SlX.slH_ne z z2]; exact hb
/-- an attribute is stored -/
theorem at_write {st : Sto} {H : Hp} {a C dx : Addr} {cc : Str} {cd : Cd} {fs : List (Str × D)} {vfs : List (Str × V)} {f : Str} {i : Nat} {d : D} {v : V} (rs : RelS M st H) (ea : st a = some (.ins cc fs)) (hm : M.mg cc = some (.ref C)) (hcd : M.P.cls.lookup cc = some cd) (hsl : ¬ cd.slotted = true)
    (h5 : vfs.map (·.1) = fs.map (·.1)) (h6 : ∀ f d, fs.lookup f = some d → ∃ i v, ixOf f cd.slots = some i ∧ vfs.lookup f = some v ∧ M.Rep H d v) (hi : ixOf f cd.slots = some i) (rv : M.Rep H d v) :
    RelS M (put st a (.ins cc (setF f d fs))) (upd H a (.ins C dx (putF f v vfs))) ∧ Ext M st H (put st a (.ins cc (setF f d fs))) (upd H a (.ins C dx (putF f v vfs))) := by
  have wk := wr_keep (u := .ins C dx (putF f v vfs)) rs ea
  refine ⟨rs.write ea ⟨C, cd, hm, hcd, ?_⟩, .write rs ea⟩
  rw [if_neg hsl]
  refine ⟨dx, _, upd_same, keys_setF h5, fun g e q => ?_⟩
  rw [lookup_setF] at q
  rw [lookup_putF]
  split at q
  · rename_i z; subst z
    cases q
    exact ⟨i, v, hi, by rw [if_pos rfl], Rep.mono wk.1 wk.2.1 rv⟩
  · rename_i z
    obtain ⟨j, w, g1, g2, g3⟩ := h6 g e q
    exact ⟨j, w, g1, by rw [if_neg z]; exact g2, Rep.mono wk.1 wk.2.1 g3⟩
theorem s_satt {ob e : Ex} {o' e' : Expr} {f : Str} {pos pos' : Pos} (ho : PE X o' (semE M (cal M.P k) ob)) (he : PE X e' (semE M (cal M.P k) e)) : PS X (.Assign [.Attribute o' f pos'] e' pos) (semS M (cal M.P k) (.satt ob f e)) := by
  refine ⟨fun pins s σ H D I ⟨L, st, DD, rl, rs, ok, q⟩ => ?_⟩
  refine plainObj_wpAny_Assign_Attribute (thn (he.run pins s σ H _ I (semE_of (R := fun v H1 => ∃ d s1, M.Rep H1 d v ∧ RelS M s1 H1 ∧ Ext M st H s1 H1 ∧ _) (cal_mono _ _) rl rs q fun d s1 v H1 q1 e1 r1 v1 => ⟨d, s1, v1, r1, e1, q1⟩)) fun u s1 ⟨v, H1, I1, rv, d, t1, v1, r1, e1, q1⟩ => ?_) swaps_att
  refine thn (ho.run pins s1 σ H1 _ I1 (semE_of (R := fun v H2 => ∃ d s2, M.Rep H2 d v ∧ RelS M s2 H2 ∧ Ext M t1 H1 s2 H2 ∧ _) (cal_mono _ _) (rl.ext e1) r1 q1 fun d s1 v H1 q1 e1 r1 v1 => ⟨d, s1, v1, r1, e1, q1⟩)) fun ov s2 ⟨x, H2, I2, rx, d2, t2, v2, r2, e2, a, cc, fs, cd, i, ed, ea, hl, hcd, hi, q2⟩ => ?_
  subst ed
  cases v2
  obtain rfl : ov = Value.ref a := rx
  obtain ⟨C, cd', hm, hcd', h3⟩ := r2.1 a _ ea
  rw [hcd] at hcd'; cases hcd'
  have hcl := (o.cls.cls cc cd C hcd hm).2
  have v1' := Rep.ext v1 e2
  split at h3
  · rename_i e; rw [if_pos e] at hcl
    obtain ⟨dx, vs, h4, h5, h6⟩ := h3
    obtain ⟨p, hs⟩ := hcl.2 i f hi
    obtain ⟨g1, g2⟩ := sl_write o I2 r2 ea hm hcd e h4 h5 h6 hi v1'
    exact SlX.setslot_ok I2 h5 (by rw [o.of.K]; exact hcl.1) (by rw [o.of.K]; exact hs) rv fun s3 I3 => ⟨σ, _, I3, ok.nx _ _ q2 σ _ (e1.trans (e2.trans g2)) g1 (rl.ext (e1.trans (e2.trans g2)))⟩
  · rename_i e; rw [if_neg e] at hcl
    obtain ⟨dx, vfs, h4, h5, h6⟩ := h3
    obtain ⟨g1, g2⟩ := at_write o (dx := dx) r2 ea hm hcd e h5 h6 hi v1'
    have hl' : vfs.length < 1000 := by
      have := congrArg List.length h5
      simp at this
      omega
    exact setattr_ok I2 h4 (by rw [o.of.K]; exact hcl.1) (by rw [o.of.K]; exact hcl.2 i f hi) hl' rv fun s3 I3 => ⟨σ, _, I3, ok.nx _ _ q2 σ _ (e1.trans (e2.trans g2)) g1 (rl.ext (e1.trans (e2.trans g2)))⟩
theorem s_augA {ob e : Ex} {o' e' : Expr} {f : Str} {pos pos' : Pos} (ho : PE X o' (semE M (cal M.P k) ob)) (he : PE X e' (semE M (cal M.P k) e)) : PS X (.AugAssign (.Attribute o' f pos') .Add e' pos) (semS M (cal M.P k) (.augA ob f .add e)) := by
  refine PS.mono (ps_fldaug ho he in_add) fun D σ H ⟨L, st, DD, rl, rs, ok, q⟩ => ?_
  refine semE_of (cal_mono _ _) rl rs q fun d s1 v H1 q1 e1 r1 v1 => ?_
  obtain ⟨a, cc, fs, z, cd, rfl, ea, hz, hcd, hsl, q1⟩ := q1
  cases v1
  obtain ⟨C, cd', hm, hcd', h3⟩ := r1.1 a _ ea
  rw [hcd] at hcd'; cases hcd'
  have hcl := (o.cls.cls cc cd C hcd hm).2
  have hn : ¬ cd.slotted = true := by rw [hsl]; exact nofun
  rw [if_neg hn] at h3 hcl
  obtain ⟨dx, vfs, h4, h5, h6⟩ := h3
  obtain ⟨i, w, g1, g2, g3⟩ := h6 f z hz
  refine ⟨a, C, dx, vfs, w, rfl, h4, by rw [o.of.K]; exact hcl.1, by rw [o.of.K]; exact hcl.2 i f g1, g2, ?_⟩
  refine semE_of (cal_mono _ _) (rl.ext e1) r1 q1 fun y s2 v2 H2 q2 e2 r2 v2' => ?_
  obtain ⟨p, q, rfl, rfl, _, fs', ea', hl, q2⟩ := q2
  cases g3
  cases v2'
  refine ⟨p, q, rfl, rfl, ?_⟩
  obtain ⟨C', cd', hm', hcd', h3'⟩ := r2.1 a _ ea'
  rw [hcd] at hcd'; cases hcd'
  rw [hm] at hm'; cases hm'
  rw [if_neg hn] at h3'
  obtain ⟨dx', vfs', h4', h5', h6'⟩ := h3'
  obtain ⟨w1, w2⟩ := at_write o (dx := dx') r2 ea' hm hcd hn h5' h6' g1 (.int (p + q))
  refine ⟨dx', vfs', h4', ?_, ok.nx _ _ q2 σ _ (e1.trans (e2.trans w2)) w1 (rl.ext (e1.trans (e2.trans w2)))⟩
  have := congrArg List.length h5'
  simp at this
  omega
theorem reps_set {H : Hp} {d : D} {v : V} (h : M.Rep H d v) : ∀ {ds : List D} {vs : List V} (j : Nat), M.Reps H ds vs → M.Reps H (ds.set j d) (vs.set j v)
  | _, _, _, .nil => .nil
  | _, _, 0, .cons _ r => .cons h r
  | _, _, j + 1, .cons g r => .cons g (reps_set h j r)
theorem s_ssub {ob ix e : Ex} {o' i' e' : Expr} {pos pos' : Pos} (ho : PE X o' (semE M (cal M.P k) ob)) (hi : PE X i' (semE M (cal M.P k) ix)) (he : PE X e' (semE M (cal M.P k) e)) : PS X (.Assign [.Subscript o' i' pos'] e' pos) (semS M (cal M.P k) (.ssub ob ix e)) := by
  refine ⟨fun pins s σ H D I ⟨L, st, DD, rl, rs, ok, q⟩ => ?_⟩
  refine wpAny_Assign_Subscript (thn (he.run pins s σ H _ I (semE_of (R := fun v H1 => ∃ d s1, M.Rep H1 d v ∧ RelS M s1 H1 ∧ Ext M st H s1 H1 ∧ _) (cal_mono _ _) rl rs q fun d s1 v H1 q1 e1 r1 v1 => ⟨d, s1, v1, r1, e1, q1⟩)) fun u s1 ⟨v, H1, I1, rv, d, t1, v1, r1, e1, q1⟩ => ?_) swaps_sub
  refine thn (ho.run pins s1 σ H1 _ I1 (semE_of (R := fun v H2 => ∃ d s2, M.Rep H2 d v ∧ RelS M s2 H2 ∧ Ext M t1 H1 s2 H2 ∧ _) (cal_mono _ _) (rl.ext e1) r1 q1 fun d s1 v H1 q1 e1 r1 v1 => ⟨d, s1, v1, r1, e1, q1⟩)) fun ov s2 ⟨x, H2, I2, rx, d2, t2, v2, r2, e2, q2⟩ => ?_
  refine thn (hi.run pins s2 σ H2 _ I2 (semE_of (R := fun v H3 => ∃ d s3, M.Rep H3 d v ∧ RelS M s3 H3 ∧ Ext M t2 H2 s3 H3 ∧ _) (cal_mono _ _) (rl.ext (e1.trans e2)) r2 q2 fun d s1 v H1 q1 e1 r1 v1 => ⟨d, s1, v1, r1, e1, q1⟩)) fun iv s3 ⟨y, H3, I3, ry, d3, t3, v3, r3, e3, a, ed, q3⟩ => ?_
  subst ed
  cases v2
  obtain rfl : ov = Value.ref a := rx
  have e13 := e1.trans (e2.trans e3)
  have v1' := Rep.ext v1 (e2.trans e3)
  split at q3
  · rename_i xs ea
    obtain ⟨kk, j, rfl, hj, q3⟩ := q3
    cases v3
    obtain ⟨hl, vs, hH, rr⟩ := r3.1 a _ ea
    have wk := wr_keep (u := .lst (vs.set j v)) r3 ea
    have g1 : RelS M (put t3 a (.lst (xs.set j d))) (upd H3 a (.lst (vs.set j v))) := r3.write ea ⟨by simpa using hl, _, upd_same, Reps.mono wk.1 wk.2.1 (reps_set o v1' j rr)⟩
    have g2 : Ext M t3 H3 (put t3 a (.lst (xs.set j d))) (upd H3 a (.lst (vs.set j v))) := .write r3 ea
    refine thn (set_list pins s3 σ H3 (.ref a) (.int kk) v (.ref a) iv u (fun H4 => D.nx σ H4) I3 rfl ry rv ⟨a, vs, kk, j, rfl, rfl, hH, by rw [← rr.length]; exact hj, ?_⟩) fun _ s4 ⟨H4, I4, q4⟩ => ⟨σ, H4, I4, q4⟩
    exact ok.nx _ _ q3 σ _ (e13.trans g2) g1 (rl.ext (e13.trans g2))
  · rename_i kvs ea
    obtain ⟨ky, hk, hl, q3⟩ := q3
    obtain ⟨_, vs, hH, kr⟩ := r3.1 a _ ea
    have wk := wr_keep (u := .dK (putK vs ky v)) r3 ea
    have hle := putD_le o kvs ky d
    have g1 : RelS M (put t3 a (.dct (putD kvs ky d))) (upd H3 a (.dK (putK vs ky v))) := r3.write ea ⟨by omega, _, upd_same, (kreps_put kr ky v1').mono wk.1 wk.2.1⟩
    have g2 : Ext M t3 H3 (put t3 a (.dct (putD kvs ky d))) (upd H3 a (.dK (putK vs ky v))) := .write r3 ea
    have ey : y = kV ky := by
      cases d3 <;> first | (cases hk; done) | (cases hk; cases v3; rfl)
    subst ey
    exact d_setItem (by have := o.of.un; omega) I3 (DPut.k hH (by rw [← kr.length]; exact hl)) ry rv fun s4 I4 => ⟨σ, _, I4, ok.nx _ _ q3 σ _ (e13.trans g2) g1 (rl.ext (e13.trans g2))⟩
  · exact q3.elim
end
end Py

set_option Elab.async false
set_option linter.all false
set_option maxRecDepth 100000
set_option maxHeartbeats 4000000
/-! The check of statements, and that it is enough. -/
namespace L2
open PySem PySem.Spec PyProof.Rows
section
variable {X : Cx}
/-- name = {..} on one line, the name a local -/
theorem ps_setDc {i : Nat} {y : Str} {py : Pos} {kx vx tg iter : Expr} {ifs : List Expr} {scope : Scope} {own : List (Str × Nat)} {pos spos : Pos} {wi : TI} {g : TG} {tt : TT} {tk tv : TE} (hc : X.calm = true) (hN : X.N.Nodup) (hy : X.N[i]? = some y) (hyl : X.env.scope.names.lookup y = some .local)
    (hsw : swapsWith (.DictComp kx vx [⟨tg, iter, ifs, 0⟩] scope pos) (some (.Name y py)) spos.line X.env = pure true) (hi : PI X tg iter wi) (ok : BlkOk X.N X.env.scope scope own)
    (hg : ∀ (s : Shared) (H : Hp) (C : Addr) (cl : List (Str × Addr)) (fp : List Addr), PG (X.blk s H scope (compEnvC scope cl C X.env) fp) tg g) (ht : ∀ (s : Shared) (H : Hp) (C : Addr) (cl : List (Str × Addr)) (fp : List Addr), PTs (X.blk s H scope (compEnvC scope cl C X.env) fp) ifs tt)
    (hk : ∀ (s : Shared) (H : Hp) (C : Addr) (cl : List (Str × Addr)) (fp : List Addr), PE (X.blk s H scope (compEnvC scope cl C X.env) fp) kx tk)
    (he : ∀ (s : Shared) (H : Hp) (C : Addr) (cl : List (Str × Addr)) (fp : List Addr), PE (X.blk s H scope (compEnvC scope cl C X.env) fp) vx tv) (hs : ∀ x, foldedSetIterable iter X.env x = pure x := by intro _; rfl) :
    PS X (.Assign [.Name y py] (.DictComp kx vx [⟨tg, iter, ifs, 0⟩] scope pos) spos) (tAsg (tDc wi g tt tk tv (own.map (·.2))) (gName i)) := by
  refine ⟨fun pins s σ H D I h => ?_⟩
  rw [exec_Assign_Name_used _ _ _ _ hsw]
  refine wpAny_bind (wpAny_standAt (wpAny_bind ?_))
  show wpAny _ X.A (do let _ ← comprehension (.DictComp kx vx [⟨tg, iter, ifs, 0⟩] scope pos) scope X.env (firstIterPos [⟨tg, iter, ifs, 0⟩] pos) newDict false (eval iter X.env) (some (assign (.Name y py) X.env))) _ _ s
  have h : tDc wi g tt tk tv (own.map (·.2)) σ H (fun x H1 => gName i x σ H1 D.nx) := h
  refine wpAny_bind (thn (dc_core (Qf := fun _ s' => SP X pins D .next s') hc hN I hi ok hg ht hk he hs h fun L C s' m H' I' q hn f => ?_) fun _ s' hq => wpAny_pure (wpAny_pure hq))
  show wpAny _ _ (assign (.Name y py) X.env (.ref L)) _ _ _
  refine wpAny_assign_Name (store_ok2 (v := V.ref L) I' hN hy (.inl hyl) rfl (fun s2 I2 ⟨a, sb, ha⟩ => ?_) (.inr hyl))
  obtain ⟨f0, f1, f2, f3, f4, f5⟩ := f
  have haC : C ≠ a := by
    rcases ha with z | z
    · rw [z]; exact f1
    · exact fun e => f4 y a z e.symm
  refine ⟨m, hn.sameBut sb haC, fun h3 sb3 => ?_⟩
  exact ⟨_, H', I2.turned (t' := s2.toks) (fun b o hb e => (sb3.2 b hb).trans e) f0 f1 f3 f4 f5, q⟩
theorem sw_trueD {kx vx : Expr} {gs : List Comprehension} {scope : Scope} {pos py : Pos} {y : Str} {l : Nat} {env : Env} (hk : env.scope.kind = .function) (hy : env.scope.names.lookup y = some .local) (hl : (py.line == pos.line) = true)
    (ha : (scope.names.any fun (n, k) => n == y && (k == .local || k == .cell)) = false) : swapsWith (.DictComp kx vx gs scope pos) (some (.Name y py)) l env = pure true := by
  have ky : env.kindOf y = some .local := hy
  have hb : env.blockKind = .function := by unfold Env.blockKind; rw [hk]; rfl
  unfold swapsWith
  simp only [hb, ky, ha, Expr.pos, hl]
  rfl
end
end L2
namespace Py
open PySem PySem.Spec PyProof.Rows L2
theorem swaps_cellD {env : Env} {x : Str} {kx vx : Expr} {gs : List Comprehension} {scope : Scope} {pos p : Pos} {l : Nat} (h : locN env.scope x = false) : swapsWith (.DictComp kx vx gs scope pos) (some (.Name x p)) l env = pure false := by
  unfold swapsWith
  simp only [locN_iff, h, Bool.and_false, Bool.false_and]
section
variable {M : Mo} {k : Nat} {c : Cfg} {X : Cx} (o : Okx M k c X)
include o
/-- name = a dict comprehension -/
theorem s_dc {i : Nat} {y : Str} {py spos : Pos} {kk v : Ex} {vs : List Nat} {tg : Tg} {it : It} {ifs : Exs} {k' v' tg' it' : Expr} {ifs' : List Expr} {sc : Scope} {pos : Pos} (hy : c.N[i]? = some y) (hyl : c.sc.names.lookup y = some .local) (hk : c.sc.kind = .function) (hl : (py.line == pos.line) = true)
    (hn : (sc.names.any fun (n, k) => n == y && (k == .local || k == .cell)) = false)
    (h1 : vs = (ownOf c.N sc).map (·.2)) (h2 : blkC c.N c.sc sc (ownOf c.N sc) = true) (h3 : (tgSl tg).all vs.contains = true) (h4 : notSet it' = true)
    (hi : PI X tg' it' (semI M (cal M.P k) it))
    (hg : ∀ (s : Shared) (H : Hp) (C : Addr) (cl : List (Str × Addr)) (fp : List Addr), PG (X.blk s H sc (compEnvC sc cl C X.env) fp) tg' (semG M tg)) (ht : ∀ (s : Shared) (H : Hp) (C : Addr) (cl : List (Str × Addr)) (fp : List Addr), PTs (X.blk s H sc (compEnvC sc cl C X.env) fp) ifs' (semTs M (cal M.P k) ifs))
    (hkk : ∀ (s : Shared) (H : Hp) (C : Addr) (cl : List (Str × Addr)) (fp : List Addr), PE (X.blk s H sc (compEnvC sc cl C X.env) fp) k' (semE M (cal M.P k) kk))
    (he : ∀ (s : Shared) (H : Hp) (C : Addr) (cl : List (Str × Addr)) (fp : List Addr), PE (X.blk s H sc (compEnvC sc cl C X.env) fp) v' (semE M (cal M.P k) v)) :
    PS X (.Assign [.Name y py] (.DictComp k' v' [⟨tg', it', ifs', 0⟩] sc pos) spos) (tAsg (semE M (cal M.P k) (.dc kk v vs tg it ifs)) (gName i)) := by
  subst h1
  refine PS.mono (ps_setDc (i := i) o.of.calm (by rw [o.fit.N]; exact o.fit.nd) (by rw [o.fit.N]; exact hy) (by rw [o.fit.sc]; exact hyl) (sw_trueD (by rw [o.fit.sc]; exact hk) (by rw [o.fit.sc]; exact hyl) hl hn) hi (blkOk_by (by rw [o.fit.N, o.fit.sc]; exact h2)) hg ht hkk he (fold_of h4)) fun D σ H h => dc_read o (fun i hi => ?_) h
  have := List.all_eq_true.mp h3 i hi
  simpa using this
end
/-- how a name takes a value -/
def compOk (c : Cfg) (x : Str) (px : Pos) (e : Expr) : Bool := match e with
  | .ListComp _ _ sc pos => !(locN c.sc x) || ((c.sc.kind == .function) && ((px.line == pos.line) && !(sc.names.any fun (n, k) => n == x && (k == .local || k == .cell))))
  | .DictComp _ _ _ sc pos => !(locN c.sc x) || ((c.sc.kind == .function) && ((px.line == pos.line) && !(sc.names.any fun (n, k) => n == x && (k == .local || k == .cell))))
  | .SetComp _ _ _ _ => false
  | _ => true
/-- how names take a written tuple -/
def parOk (c : Cfg) (is : List Nat) (ts es : List Expr) : Bool := (c.sc.kind == .function) && (match ts, es with
  | [.Name x px, .Name y py], [a, b] => (!(locN c.sc x && locN c.sc y) || (foldedForSure 8 a && foldedForSure 8 b)) ||
      (!(is.getD 0 0 == is.getD 1 0) && (!(decide (x = y)) && ((py.line == px.line) && (notStar a && (notStar b && (!(foldedForSure 8 a && foldedForSure 8 b) && !(constantsAlone 8 a && constantsAlone 8 b)))))))
  | [.Name x px, .Name y py, .Name z pz], [a, b, d] => (!(locN c.sc x && (locN c.sc y && locN c.sc z)) || (foldedForSure 8 a && (foldedForSure 8 b && foldedForSure 8 d))) ||
      (!(is.getD 0 0 == is.getD 1 0) && (!(is.getD 0 0 == is.getD 2 0) && (!(is.getD 1 0 == is.getD 2 0) && (!(decide (x = y)) && (!(decide (x = z)) && (!(decide (y = z)) && ((py.line == px.line) && ((pz.line == px.line) && (notStar a && (notStar b && (notStar d && (!(foldedForSure 8 a && (foldedForSure 8 b && foldedForSure 8 d)) && !(constantsAlone 8 a && (constantsAlone 8 b && constantsAlone 8 d))))))))))))))
  | ts, _ => decide (4 ≤ ts.length))
section
variable (P : Prog)
mutual
def chkS : Sm → Cfg → Stmt → Bool
  | .exp e, c, s => (match s with
    | .Expr e' _ => chkE P e c e' && notComp e'
    | _ => false)
  | .ret e, c, s => (match s with
    | .Return (some e') _ => chkE P e c e'
    | .Return none _ => (match e with
      | .non => true
      | _ => false)
    | _ => false)
  | .pass, _, s => (match s with
    | .Pass _ => true
    | .Expr (.Constant (.str _) _ _) _ => true
    | _ => false)
  | .brk, _, s => (match s with
    | .Break _ => true
    | _ => false)
  | .cnt, _, s => (match s with
    | .Continue _ => true
    | _ => false)
  | .asg t e, c, s => (match t, s with
    | .nm i, .Assign [.Name x px] e' _ => (decide (c.N[i]? = some x) && locB c x) && (chkE P e c e' && compOk c x px e')
    | .tp is, .Assign [.Tuple ts n p] e' _ => tgB c (.tp is) (.Tuple ts n p) && (chkE P e c e' && !isTupE e')
    | _, _ => false)
  | .par is es, c, s => (match s with
    | .Assign [.Tuple ts _ _] (.Tuple es' _ _) _ => nmsB c is ts && (decide (is.length ≤ 20) && (chkA P es c es' && parOk c is ts es'))
    | _ => false)
  | .satt o f e, c, s => (match s with
    | .Assign [.Attribute o' f' _] e' _ => decide (f = f') && (chkE P o c o' && chkE P e c e')
    | _ => false)
  | .ssub o i e, c, s => (match s with
    | .Assign [.Subscript o' i' _] e' _ => chkE P o c o' && (chkE P i c i' && chkE P e c e')
    | _ => false)
  | .aug i op e, c, s => (match op, s with
    | .add, .AugAssign (.Name x _) .Add e' _ => (decide (c.N[i]? = some x) && locB c x) && chkE P e c e'
    | _, _ => false)
  | .augA ob f op e, c, s => (match op, s with
    | .add, .AugAssign (.Attribute o' f' _) .Add e' _ => decide (f = f') && (chkE P ob c o' && chkE P e c e')
    | _, _ => false)
  | .iff t a b, c, s => (match s with
    | .If t' a' b' _ => chkE P t c t' && (chkSs a c a' && chkSs b c b')
    | _ => false)
  | .whl t b, c, s => (match s with
    | .While t' b' [] _ => chkE P t c t' && chkSs b c b'
    | _ => false)
  | .for_ t it b, c, s => (match s with
    | .For t' it' b' [] _ => notKey it && (notSet it' && (tgB c t t' && (chkI P it c t' it' && chkSs b c b')))
    | _ => false)
  | .never, _, _ => true
def chkSs : Sms → Cfg → List Stmt → Bool
  | .nil, _, ss => ss.isEmpty
  | .cons s r, c, ss => (match ss with
    | s' :: r' => chkS s c s' && chkSs r c r'
    | [] => false)
end
end
section
variable {M : Mo} {k : Nat}
theorem nb {a : Bool} (h : (!a) = true) : a = false := by simpa using h
theorem kindFn {sc : Scope} (h : (sc.kind == .function) = true) : sc.kind = .function := by
  cases hk : sc.kind <;> rw [hk] at h <;> first | rfl | cases h
theorem locN_l {sc : Scope} {x : Str} (h : locN sc x = true) : sc.names.lookup x = some .local := by
  unfold locN at h
  split at h
  · assumption
  · cases h
theorem nms2 {c : Cfg} {is : List Nat} {x y : Str} {px py : Pos} (h : nmsB c is [.Name x px, .Name y py] = true) : ∃ i j, is = [i, j] ∧ c.N[i]? = some x ∧ c.N[j]? = some y := by
  match is, h with
  | [i, j], h =>
    simp only [nmsB, nmB, Bool.and_eq_true, decide_eq_true_eq] at h
    exact ⟨i, j, rfl, h.1.1, h.2.1.1⟩
  | [], h => simp [nmsB] at h
  | [_], h => simp [nmsB] at h
  | _ :: _ :: _ :: _, h => simp [nmsB] at h
theorem nms3 {c : Cfg} {is : List Nat} {x y z : Str} {px py pz : Pos} (h : nmsB c is [.Name x px, .Name y py, .Name z pz] = true) : ∃ i j l, is = [i, j, l] ∧ c.N[i]? = some x ∧ c.N[j]? = some y ∧ c.N[l]? = some z := by
  match is, h with
  | [i, j, l], h =>
    simp only [nmsB, nmB, Bool.and_eq_true, decide_eq_true_eq] at h
    exact ⟨i, j, l, rfl, h.1.1, h.2.1.1, h.2.2.1.1⟩
  | [], h => simp [nmsB] at h
  | [_], h => simp [nmsB] at h
  | [_, _], h => simp [nmsB] at h
  | _ :: _ :: _ :: _ :: _, h => simp [nmsB] at h
/-- a name takes a value -/
theorem snd_asgT {i : Nat} (e : Ex) {c : Cfg} {X : Cx} {x : Str} {px : Pos} {e' : Expr} {pos : Pos} (o : Okx M k c X) (h1 : (decide (c.N[i]? = some x) && locB c x) = true) (h2 : chkE M.P e c e' = true) (h3 : compOk c x px e' = true) : PS X (.Assign [.Name x px] e' pos) (tAsg (semE M (cal M.P k) e) (gName i)) := by
  have h3' := h3
  have E := (sndE e c X e' o h2).1
  have hN := of_decide_eq_true (ba h1).1
  by_cases hc : notComp e' = true
  · exact s_setT o h1 E (swaps_plain hc)
  · by_cases hx : locN c.sc x = true
    · have hxl := locN_l hx
      cases e' with
      | ListComp elt' gs sc lp =>
        unfold compOk at h3
        simp only [hx, Bool.not_true, Bool.false_or] at h3
        obtain ⟨g1, g2⟩ := ba h3
        obtain ⟨g2, g3⟩ := ba g2
        have g1 := kindFn g1
        have g3 := nb g3
        cases e with
        | lc elt vs tg it ifs =>
          unfold chkE at h2
          split at h2
          · rename_i heq
            cases heq
            obtain ⟨h1', h⟩ := ba h2
            obtain ⟨h2', h⟩ := ba h
            obtain ⟨h3', h⟩ := ba h
            obtain ⟨h4, h⟩ := ba h
            obtain ⟨h5, h⟩ := ba h
            obtain ⟨h6, h⟩ := ba h
            obtain ⟨h7, h8⟩ := ba h
            have I := sndI it c X _ _ o h6
            have G := fun s H C cl fp => g_tg (o.blk s H _ C cl fp) h5
            have T := fun s H C cl fp => (sndA ifs).2.2.1 _ _ _ (o.blk s H _ C cl fp) h7
            have E2 := fun s H C cl fp => (sndE elt _ _ _ (o.blk s H _ C cl fp) h8).1
            exact s_lc o hN hxl g1 g2 g3 (of_decide_eq_true h1') h2' h3' h4 (I.1 rfl) G T E2
          · cases h2
        | lc2 elt vs tg it ifs vs1 tg1 it1 ifs1 =>
          unfold chkE at h2
          split at h2
          · rename_i heq
            cases heq
            obtain ⟨a1, h⟩ := ba h2
            obtain ⟨a2, h⟩ := ba h
            obtain ⟨a3, h⟩ := ba h
            obtain ⟨a31, h⟩ := ba h
            obtain ⟨a32, h⟩ := ba h
            obtain ⟨a4, h⟩ := ba h
            obtain ⟨a41, h⟩ := ba h
            obtain ⟨b1, h⟩ := ba h
            obtain ⟨b2, h⟩ := ba h
            obtain ⟨b3, h⟩ := ba h
            obtain ⟨b4, h⟩ := ba h
            obtain ⟨b5, h⟩ := ba h
            obtain ⟨b6, b7⟩ := ba h
            have I := sndI it c X _ _ o b2
            have G := fun s H C cl fp => g_tg (o.blk s H _ C cl fp) b1
            have T := fun s H C cl fp => (sndA ifs).2.2.1 _ _ _ (o.blk s H _ C cl fp) b3
            have I1 := fun s H C cl fp => (sndI it1 _ _ _ _ (o.blk s H _ C cl fp) b5).1 rfl
            have G1 := fun s H C cl fp => g_tg (o.blk s H _ C cl fp) b4
            have T1 := fun s H C cl fp => (sndA ifs1).2.2.1 _ _ _ (o.blk s H _ C cl fp) b6
            have E2 := fun s H C cl fp => (sndE elt _ _ _ (o.blk s H _ C cl fp) b7).1
            exact s_lc2 o hN hxl g1 g2 g3 (of_decide_eq_true a1) a2 a3 a31 a32 a4 a41 (I.1 rfl) G T I1 G1 T1 E2
          · cases h2
        | frz y => unfold chkE at h2; exact s_frzT o (snd_asgT y o h1 (ba h2).2 h3')
        | _ => unfold chkE at h2; cases h2
      | DictComp kx vx gs sc lp =>
        unfold compOk at h3
        simp only [hx, Bool.not_true, Bool.false_or] at h3
        obtain ⟨g1, g2⟩ := ba h3
        obtain ⟨g2, g3⟩ := ba g2
        have g1 := kindFn g1
        have g3 := nb g3
        cases e with
        | dc kk v vs tg it ifs =>
          unfold chkE at h2
          split at h2
          · rename_i heq
            cases heq
            obtain ⟨h1', h⟩ := ba h2
            obtain ⟨h2', h⟩ := ba h
            obtain ⟨h3', h⟩ := ba h
            obtain ⟨h4, h⟩ := ba h
            obtain ⟨hk, h⟩ := ba h
            obtain ⟨h5, h⟩ := ba h
            obtain ⟨h6, h⟩ := ba h
            obtain ⟨h7, h⟩ := ba h
            obtain ⟨h8, h9⟩ := ba h
            have I := sndI it c X _ _ o h6
            have G := fun s H C cl fp => g_tg (o.blk s H _ C cl fp) h5
            have T := fun s H C cl fp => (sndA ifs).2.2.1 _ _ _ (o.blk s H _ C cl fp) h7
            have KE := fun s H C cl fp => (sndE kk _ _ _ (o.blk s H _ C cl fp) h8).1
            have E := fun s H C cl fp => (sndE v _ _ _ (o.blk s H _ C cl fp) h9).1
            exact s_dc o hN hxl g1 g2 g3 (of_decide_eq_true h1') h2' h3' h4 (I.1 hk) G T KE E
          · cases h2
        | frz y => unfold chkE at h2; exact s_frzT o (snd_asgT y o h1 (ba h2).2 h3')
        | _ => unfold chkE at h2; cases h2
      | SetComp _ _ _ _ => unfold compOk at h3; cases h3
      | _ => exact absurd rfl hc
    · have hx' : locN X.env.scope x = false := by rw [o.fit.sc]; simpa using hx
      cases e' with
      | ListComp elt' gs sc lp => exact s_setT o h1 E (swaps_cell hx')
      | DictComp kx vx gs sc lp => exact s_setT o h1 E (swaps_cellD hx')
      | SetComp _ _ _ _ => unfold compOk at h3; cases h3
      | _ => exact absurd rfl hc
termination_by sizeOf e
theorem snd_asg {i : Nat} {e : Ex} {c : Cfg} {X : Cx} {x : Str} {px : Pos} {e' : Expr} {pos : Pos} (o : Okx M k c X) (h1 : (decide (c.N[i]? = some x) && locB c x) = true) (h2 : chkE M.P e c e' = true) (h3 : compOk c x px e' = true) : PS X (.Assign [.Name x px] e' pos) (semS M (cal M.P k) (.asg (.nm i) e)) :=
  PS.mono (snd_asgT e o h1 h2 h3) fun D σ H h => asg_read o h
theorem snd_par {is : List Nat} {es : Exs} {c : Cfg} {X : Cx} {ts es' : List Expr} {n n2 : Nat} {p p2 : Pos} {pos : Pos} (o : Okx M k c X) (h1 : nmsB c is ts = true) (h2 : is.length ≤ 20) (h3 : chkA M.P es c es' = true) (h4 : parOk c is ts es' = true) : PS X (.Assign [.Tuple ts n p] (.Tuple es' n2 p2) pos) (semS M (cal M.P k) (.par is es)) := by
  have A := (sndA es).1 c X es' o h3
  unfold parOk at h4
  obtain ⟨hk, h4⟩ := ba h4
  have hk : X.env.scope.kind = .function := by rw [o.fit.sc]; exact kindFn hk
  split at h4
  · rename_i x px y py a b _
    obtain ⟨i, j, rfl, hi, hj⟩ := nms2 h1
    rcases Bool.or_eq_true_iff.mp h4 with h4 | h4
    · refine s_parT o h1 h2 A (sw2N hk ?_)
      rw [o.fit.sc]
      rcases Bool.or_eq_true_iff.mp h4 with h | h
      · exact .inl (nb h)
      · exact .inr h
    · obtain ⟨g1, g⟩ := ba h4
      obtain ⟨g2, g⟩ := ba g
      obtain ⟨g3, g⟩ := ba g
      obtain ⟨g4, g⟩ := ba g
      obtain ⟨g5, g⟩ := ba g
      obtain ⟨g6, g7⟩ := ba g
      by_cases hxy : (locN c.sc x && locN c.sc y) = true
      · obtain ⟨lx, ly⟩ := ba hxy
        refine s_par2 o hi hj (by simpa using g1) lx ly A (sw2 hk (by rw [o.fit.sc]; exact lx) (by rw [o.fit.sc]; exact ly) g3 (by simpa using g2) g4 g5 (nb g6) (nb g7))
      · exact s_parT o h1 h2 A (sw2N hk (.inl (by rw [o.fit.sc]; simpa using hxy)))
  · rename_i x px y py z pz a b d _
    obtain ⟨i, j, l, rfl, hi, hj, hl⟩ := nms3 h1
    rcases Bool.or_eq_true_iff.mp h4 with h4 | h4
    · refine s_parT o h1 h2 A (sw3N hk ?_)
      rw [o.fit.sc]
      rcases Bool.or_eq_true_iff.mp h4 with h | h
      · exact .inl (nb h)
      · exact .inr h
    · obtain ⟨g1, g⟩ := ba h4
      obtain ⟨g1b, g⟩ := ba g
      obtain ⟨g1c, g⟩ := ba g
      obtain ⟨g2, g⟩ := ba g
      obtain ⟨g2b, g⟩ := ba g
      obtain ⟨g2c, g⟩ := ba g
      obtain ⟨g3, g⟩ := ba g
      obtain ⟨g3b, g⟩ := ba g
      obtain ⟨g4, g⟩ := ba g
      obtain ⟨g5, g⟩ := ba g
      obtain ⟨g5b, g⟩ := ba g
      obtain ⟨g6, g7⟩ := ba g
      by_cases hxy : (locN c.sc x && (locN c.sc y && locN c.sc z)) = true
      · obtain ⟨lx, ly⟩ := ba hxy
        obtain ⟨ly, lz⟩ := ba ly
        refine s_par3 o hi hj hl (by simpa using g1) (by simpa using g1b) (by simpa using g1c) lx ly lz A (sw3 hk (by rw [o.fit.sc]; exact lx) (by rw [o.fit.sc]; exact ly) (by rw [o.fit.sc]; exact lz) g3 g3b (by simpa using g2) (by simpa using g2b) (by simpa using g2c) g4 g5 g5b (nb g6) (nb g7))
      · refine s_parT o h1 h2 A (sw3N hk (.inl ?_))
        rw [o.fit.sc]
        cases q : (locN c.sc x && (locN c.sc y && locN c.sc z)) with
        | true => exact absurd q hxy
        | false => rfl
  · exact s_parT o h1 h2 A (swMany (of_decide_eq_true h4))
mutual
theorem sndS : ∀ (x : Sm) (c : Cfg) (X : Cx) (s : Stmt), Okx M k c X → chkS M.P x c s = true → PS X s (semS M (cal M.P k) x)
  | .exp e, c, X, s, o, h => by
    unfold chkS at h
    split at h
    · obtain ⟨h1, h2⟩ := ba h
      exact s_exp o h2 (sndE e c X _ o h1).1
    · cases h
  | .ret e, c, X, s, o, h => by
    unfold chkS at h
    split at h
    · exact s_ret o (sndE e c X _ o h).1
    · split at h
      · exact s_retN o
      · cases h
    · cases h
  | .pass, c, X, s, o, h => by
    unfold chkS at h
    split at h
    · exact PS.mono ps_pass fun D σ H ⟨L, st, DD, rl, rs, ok, q⟩ => ok.nx L st q σ H .refl rs rl
    · exact PS.mono ps_doc fun D σ H ⟨L, st, DD, rl, rs, ok, q⟩ => ok.nx L st q σ H .refl rs rl
    · cases h
  | .brk, c, X, s, o, h => by
    unfold chkS at h
    split at h
    · exact PS.mono ps_break fun D σ H ⟨L, st, DD, rl, rs, ok, q⟩ => ok.bk L st q σ H .refl rs rl
    · cases h
  | .cnt, c, X, s, o, h => by
    unfold chkS at h
    split at h
    · exact PS.mono ps_continue fun D σ H ⟨L, st, DD, rl, rs, ok, q⟩ => ok.ct L st q σ H .refl rs rl
    · cases h
  | .asg t e, c, X, s, o, h => by
    unfold chkS at h
    split at h
    · obtain ⟨h1, h2⟩ := ba h
      obtain ⟨h2, h3⟩ := ba h2
      exact snd_asg o h1 h2 h3
    · obtain ⟨h1, h2⟩ := ba h
      obtain ⟨h2, h3⟩ := ba h2
      exact s_tup o h1 (nb h3) (sndE e c X _ o h2).1
    · cases h
  | .par is es, c, X, s, o, h => by
    unfold chkS at h
    split at h
    · obtain ⟨h1, h2⟩ := ba h
      obtain ⟨h2, h3⟩ := ba h2
      obtain ⟨h3, h4⟩ := ba h3
      exact snd_par o h1 (of_decide_eq_true h2) h3 h4
    · cases h
  | .satt ob f e, c, X, s, o, h => by
    unfold chkS at h
    split at h
    · obtain ⟨h1, h2⟩ := ba h
      obtain ⟨h2, h3⟩ := ba h2
      have := of_decide_eq_true h1; subst this
      exact s_satt o (sndE ob c X _ o h2).1 (sndE e c X _ o h3).1
    · cases h
  | .ssub ob i e, c, X, s, o, h => by
    unfold chkS at h
    split at h
    · obtain ⟨h1, h2⟩ := ba h
      obtain ⟨h2, h3⟩ := ba h2
      exact s_ssub o (sndE ob c X _ o h1).1 (sndE i c X _ o h2).1 (sndE e c X _ o h3).1
    · cases h
  | .aug i op e, c, X, s, o, h => by
    unfold chkS at h
    split at h
    · obtain ⟨h1, h2⟩ := ba h
      exact s_aug o h1 (sndE e c X _ o h2).1
    · cases h
  | .augA ob f op e, c, X, s, o, h => by
    unfold chkS at h
    split at h
    · obtain ⟨h1, h2⟩ := ba h
      obtain ⟨h2, h3⟩ := ba h2
      have := of_decide_eq_true h1; subst this
      exact s_augA o (sndE ob c X _ o h2).1 (sndE e c X _ o h3).1
    · cases h
  | .iff t a b, c, X, s, o, h => by
    unfold chkS at h
    split at h
    · obtain ⟨h1, h2⟩ := ba h
      obtain ⟨h2, h3⟩ := ba h2
      exact s_if o (sndE t c X _ o h1).2.1 (sndSs a c X _ o h2) (sndSs b c X _ o h3)
    · cases h
  | .whl t b, c, X, s, o, h => by
    unfold chkS at h
    split at h
    · obtain ⟨h1, h2⟩ := ba h
      exact s_while o (sndE t c X _ o h1).2.1 (sndSs b c X _ o h2)
    · cases h
  | .for_ t it b, c, X, s, o, h => by
    unfold chkS at h
    split at h
    · obtain ⟨h1, h⟩ := ba h
      obtain ⟨h2, h⟩ := ba h
      obtain ⟨h3, h⟩ := ba h
      obtain ⟨h4, h5⟩ := ba h
      exact s_for o h2 ((sndI it c X _ _ o h4).1 h1) (g_tg o h3) (sndSs b c X _ o h5)
    · cases h
  | .never, c, X, s, o, h => PS.mono ps_never fun D σ H ⟨L, st, DD, rl, rs, ok, q⟩ => q
theorem sndSs : ∀ (x : Sms) (c : Cfg) (X : Cx) (s : List Stmt), Okx M k c X → chkSs M.P x c s = true → PSs X s (semSs M (cal M.P k) x)
  | .nil, c, X, s, o, h => by
    unfold chkSs at h
    cases s with
    | nil => exact ss_nil o
    | cons _ _ => cases h
  | .cons s r, c, X, ss, o, h => by
    unfold chkSs at h
    split at h
    · obtain ⟨h1, h2⟩ := ba h
      exact ss_cons o (sndS s c X _ o h1) (sndSs r c X _ o h2)
    · cases h
end
end
end Py

set_option Elab.async false
set_option linter.all false
set_option maxRecDepth 100000
set_option maxHeartbeats 4000000
/-! How plain parameters are bound. -/
namespace Py
open PySem PySem.Spec PyProof.Rows L2
theorem zip_look {ps : List Str} {us : List Value} (nd : ps.Nodup) (hl : us.length = ps.length) : ∀ {i : Nat} {p : Str}, ps[i]? = some p → ∃ u, us[i]? = some u ∧ (ps.zip us).lookup p = some u := by
  induction ps generalizing us with
  | nil => intro i p h; simp at h
  | cons q ps ih =>
    intro i p h
    cases us with
    | nil => simp at hl
    | cons u us =>
      cases i with
      | zero => simp at h; subst h; exact ⟨u, rfl, by simp [List.lookup]⟩
      | succ i =>
        obtain ⟨w, h1, h2⟩ := ih (List.nodup_cons.mp nd).2 (by simpa using hl) (i := i) (p := p) (by simpa using h)
        have ne : (p == q) = false := by
          refine beq_eq_false_iff_ne.mpr fun e => (List.nodup_cons.mp nd).1 ?_
          rw [← e]
          exact List.mem_of_getElem? (by simpa using h)
        exact ⟨w, by simpa using h1, by simp only [List.zip_cons_cons, List.lookup, ne]; exact h2⟩
theorem zip_missing {ps : List Str} {us : List Value} (nd : ps.Nodup) (hl : us.length = ps.length) : ps.filter (fun n => ((ps.zip us).lookup n).isNone) = [] := by
  refine List.filter_eq_nil_iff.mpr fun p hp => ?_
  obtain ⟨i, hi⟩ := List.mem_iff_getElem?.mp hp
  obtain ⟨u, _, e⟩ := zip_look nd hl hi
  rw [e]; simp
theorem zip_binds {ps : List Str} {us : List Value} (nd : ps.Nodup) (hl : us.length = ps.length) : ps.filterMap (fun n => ((ps.zip us).lookup n).map (n, ·)) = ps.zip us := by
  have key : ∀ (qs : List Str) (ws : List Value), ws.length = qs.length → (∀ (i : Nat) (q : Str), qs[i]? = some q → ∃ u, ws[i]? = some u ∧ (ps.zip us).lookup q = some u) → qs.filterMap (fun n => ((ps.zip us).lookup n).map (n, ·)) = qs.zip ws := by
    intro qs
    induction qs with
    | nil => intro ws h _; cases ws with
      | nil => rfl
      | cons _ _ => simp at h
    | cons q qs ih =>
      intro ws h hq
      cases ws with
      | nil => simp at h
      | cons w ws =>
        obtain ⟨u, h1, h2⟩ := hq 0 q rfl
        simp at h1; subst h1
        rw [List.filterMap_cons, h2]
        simp only [Option.map_some, List.zip_cons_cons]
        rw [ih ws (by simpa using h) fun i p hp => by
          obtain ⟨u, k1, k2⟩ := hq (i + 1) p (by simpa using hp)
          exact ⟨u, by simpa using k1, k2⟩]
  exact key ps us hl fun i q h => zip_look nd hl h
theorem bind_plain {x qual : Str} {as : List Arg} {kd : List (Option Expr)} {body : List Stmt} {scope : Scope} {kV doc pm : Value} {an : Option Addr} {cdv ct : Value} {us : List Value} (nd : (as.map (·.arg)).Nodup) (hl : us.length = (as.map (·.arg)).length) :
    bindArgs (PySem.W.fnOf x qual ⟨[], as, none, [], kd, none, []⟩ body scope .none kV doc pm an cdv ct) ⟨us, []⟩ = pure ((as.map (·.arg)).zip us) := by
  have hm := zip_missing nd hl
  have hb := zip_binds nd hl
  have hg : ¬ us.length > (as.map (·.arg)).length := by omega
  unfold bindArgs PySem.W.fnOf
  simp only [List.map_nil, List.nil_append, List.append_nil]
  generalize as.map (fun x => x.arg) = ns at *
  have h0 : seqItems? (.none : Value) = pure none := rfl
  simp only [h0, List.forIn_nil, pure_bind]
  have hm2 : List.filter (fun n => (List.lookup n (ns.zip us)).isNone) (List.take ns.length ns) = [] := by rw [List.take_length]; exact hm
  simp [hm, hb, hg, hl, hm2]
theorem look_binds {l : List (Str × Value)} : ∀ (qs : List Str) (ws : List Value), qs.mapM (fun n => l.lookup n) = some ws → qs.filterMap (fun n => (l.lookup n).map (n, ·)) = qs.zip ws ∧ qs.filter (fun n => (l.lookup n).isNone) = []
  | [], ws, h => by cases h; exact ⟨rfl, rfl⟩
  | q :: qs, ws, h => by
    rw [List.mapM_cons] at h
    cases e : l.lookup q with
    | none => rw [e] at h; cases h
    | some u =>
      rw [e] at h
      cases e2 : qs.mapM (fun n => l.lookup n) with
      | none => rw [e2] at h; cases h
      | some us =>
        rw [e2] at h
        cases h
        obtain ⟨h1, h2⟩ := look_binds qs us e2
        exact ⟨by rw [List.filterMap_cons, e]; simp only [Option.map_some, List.zip_cons_cons]; rw [h1], by rw [List.filter_cons, e]; exact h2⟩
theorem look_app {l m : List (Str × Value)} {k : Str} : (l ++ m).lookup k = (l.lookup k).or (m.lookup k) := by
  induction l with
  | nil => rfl
  | cons a l ih =>
    rw [List.cons_append, List.lookup_cons, List.lookup_cons]
    split
    · rfl
    · exact ih
theorem forIn_kw {ns : List Str} {f : Str × Value → List (Str × Value) × List (Str × Value) → Sem (ForInStep (List (Str × Value) × List (Str × Value)))} (hf : ∀ x s, x.1 ∈ ns → s.1.lookup x.1 = none → f x s = pure (.yield (s.1 ++ [(x.1, x.2)], s.2))) :
    ∀ (l : List (Str × Value)) (s : List (Str × Value) × List (Str × Value)), (l.map (·.1)).Nodup → (∀ x ∈ l, x.1 ∈ ns) → (∀ x ∈ l, s.1.lookup x.1 = none) → forIn l s f = pure (s.1 ++ l, s.2)
  | [], s, _, _, _ => by rw [List.forIn_nil, List.append_nil]
  | x :: l, s, nd, hn, hs => by
    rw [List.forIn_cons, hf x s (hn x List.mem_cons_self) (hs x List.mem_cons_self), pure_bind]
    show forIn l (s.1 ++ [(x.1, x.2)], s.2) f = _
    rw [List.map_cons, List.nodup_cons] at nd
    rw [forIn_kw hf l _ nd.2 (fun y hy => hn y (List.mem_cons_of_mem _ hy)) fun y hy => ?_]
    · simp
    · rw [look_app, hs y (List.mem_cons_of_mem _ hy)]
      have : (y.1 == x.1) = false := beq_eq_false_iff_ne.mpr fun e => nd.1 (e ▸ List.mem_map_of_mem hy)
      simp only [List.lookup, this, Option.or]
theorem bind_kw {x qual : Str} {as : List Arg} {kd : List (Option Expr)} {body : List Stmt} {scope : Scope} {kV doc pm : Value} {an : Option Addr} {cdv ct : Value} {ks : List Str} {ws us : List Value} (nd : ks.Nodup) (hk : ∀ k ∈ ks, k ∈ as.map (·.arg)) (hl : ws.length = ks.length)
    (hm : (as.map (·.arg)).mapM (fun n => (ks.zip ws).lookup n) = some us) :
    bindArgs (PySem.W.fnOf x qual ⟨[], as, none, [], kd, none, []⟩ body scope .none kV doc pm an cdv ct) ⟨[], ks.zip ws⟩ = pure ((as.map (·.arg)).zip us) := by
  obtain ⟨hb, hf⟩ := look_binds _ _ hm
  unfold bindArgs PySem.W.fnOf
  simp only [List.map_nil, List.nil_append, List.append_nil]
  generalize as.map (fun x => x.arg) = ns at *
  have h0 : seqItems? (.none : Value) = pure none := rfl
  simp only [h0, List.zip_nil_right]
  have hz : (ks.zip ws).map (·.1) = ks := List.map_fst_zip (Nat.le_of_eq hl.symm)
  rw [forIn_kw (ns := ns) (fun x s h1 h2 => ?_) (ks.zip ws) ([], []) (by rw [hz]; exact nd) (fun x hx => hk _ (List.of_mem_zip hx).1) (fun _ _ => rfl)]
  · have hm2 : List.filter (fun n => (List.lookup n (ks.zip ws)).isNone) (List.take ns.length ns) = [] := by rw [List.take_length]; exact hf
    simp [hb, hm2, hf]
  · simp [h1, h2]
end Py

set_option Elab.async false
set_option linter.all false
set_option maxRecDepth 100000
set_option maxHeartbeats 4000000
/-! From the head's facts to the law. -/
namespace Py
open PySem PySem.Spec PyProof.Rows L2
/-- a def: its small form, its names, where it stands -/
structure Ent where
  c : Str
  f : Str
  fd : Fd
  N : List Str
  d : He.DefD
  /-- it holds a generator expression: its table of code may grow -/
  gen : Bool := false
def plainPs (a : Arguments) : Option (List Str) := match a with
  | ⟨[], as, none, [], _, none, []⟩ => some (as.map (·.arg))
  | _ => none
def entB (P : Prog) (e : Ent) : Bool :=
  decide (e.d.at_ = if e.c = ("" : Str) then (e.f, none) else (e.c, some e.f)) && ((decide (e.c = ("" : Str)) || (P.cls.lookup e.c).isSome) &&
  (decide (plainPs e.d.params = some e.fd.ps) && (e.fd.dfl.isEmpty && (e.d.dfl.isEmpty && (e.d.kwd.isEmpty &&
  (decide e.N.Nodup && (decide (e.N.take e.fd.ps.length = e.fd.ps) && ((e.d.scope.kind == .function) && (!e.d.scope.isCoroutine && (!e.d.scope.isGenerator &&
  ((e.fd.ps.all fun x => (e.d.scope.names.lookup x == some .local) || (e.d.scope.names.lookup x == some .cell)) && ((e.d.scope.names.all fun y => !(y.2 == .free)) &&
  (decide (e.fd.n = e.N.length) && chkSs P e.fd.body ⟨e.N, e.d.scope, fun _ => true, e.gen⟩ e.d.body)))))))))))))
theorem kindL {o : Option NameKind} (h : (o == some .local) = true) : o = some .local := by
  cases o with
  | none => cases h
  | some k => cases k <;> first | rfl | cases h
theorem kindC {o : Option NameKind} (h : (o == some .cell) = true) : o = some .cell := by
  cases o with
  | none => cases h
  | some k => cases k <;> first | rfl | cases h
section
variable {M : Mo} {base : Heap} {e : Ent} {a : Addr} {fdat : FuncData}
theorem ent_scope {P : Prog} (h : entB P e = true) : FnScope e.N e.fd.ps e.d.scope := by
  unfold entB at h
  obtain ⟨_, h⟩ := ba h
  obtain ⟨_, h⟩ := ba h
  obtain ⟨_, h⟩ := ba h
  obtain ⟨_, h⟩ := ba h
  obtain ⟨_, h⟩ := ba h
  obtain ⟨_, h⟩ := ba h
  obtain ⟨h1, h⟩ := ba h
  obtain ⟨h2, h⟩ := ba h
  obtain ⟨h3, h⟩ := ba h
  obtain ⟨h4, h⟩ := ba h
  obtain ⟨h5, h⟩ := ba h
  obtain ⟨h6, h⟩ := ba h
  obtain ⟨h7, h⟩ := ba h
  refine ⟨kindFn h3, nb h4, nb h5, of_decide_eq_true h1, of_decide_eq_true h2, fun x hx => ?_, fun y hy z => ?_⟩
  · rcases Bool.or_eq_true_iff.mp (List.all_eq_true.mp h6 x hx) with q | q
    · exact .inl (kindL q)
    · exact .inr (kindC q)
  · have := List.all_eq_true.mp h7 y hy
    rw [z] at this
    cases this
theorem ent_body {P : Prog} (h : entB P e = true) : e.fd.n = e.N.length ∧ chkSs P e.fd.body ⟨e.N, e.d.scope, fun _ => true, e.gen⟩ e.d.body = true := by
  unfold entB at h
  obtain ⟨_, h⟩ := ba h
  obtain ⟨_, h⟩ := ba h
  obtain ⟨_, h⟩ := ba h
  obtain ⟨_, h⟩ := ba h
  obtain ⟨_, h⟩ := ba h
  obtain ⟨_, h⟩ := ba h
  obtain ⟨_, h⟩ := ba h
  obtain ⟨_, h⟩ := ba h
  obtain ⟨_, h⟩ := ba h
  obtain ⟨_, h⟩ := ba h
  obtain ⟨_, h⟩ := ba h
  obtain ⟨_, h⟩ := ba h
  obtain ⟨_, h⟩ := ba h
  obtain ⟨h1, h2⟩ := ba h
  exact ⟨of_decide_eq_true h1, h2⟩
theorem ent_at {P : Prog} (h : entB P e = true) : e.d.at_ = (if e.c = ("" : Str) then (e.f, none) else (e.c, some e.f)) ∧ (e.c = ("" : Str) ∨ ∃ cd, P.cls.lookup e.c = some cd) := by
  unfold entB at h
  obtain ⟨h1, h⟩ := ba h
  obtain ⟨h2, h⟩ := ba h
  refine ⟨of_decide_eq_true h1, ?_⟩
  rcases Bool.or_eq_true_iff.mp h2 with q | q
  · exact .inl (of_decide_eq_true q)
  · exact .inr (Option.isSome_iff_exists.mp q)
theorem ent_ps {P : Prog} (h : entB P e = true) : plainPs e.d.params = some e.fd.ps ∧ e.fd.dfl = [] ∧ e.d.dfl = [] ∧ e.d.kwd = [] := by
  unfold entB at h
  obtain ⟨_, h⟩ := ba h
  obtain ⟨_, h⟩ := ba h
  obtain ⟨h1, h⟩ := ba h
  obtain ⟨h2, h⟩ := ba h
  obtain ⟨h3, h⟩ := ba h
  obtain ⟨h4, h⟩ := ba h
  exact ⟨of_decide_eq_true h1, List.isEmpty_iff.mp h2, List.isEmpty_iff.mp h3, List.isEmpty_iff.mp h4⟩
theorem ent_binds {P : Prog} {K : PySem.W.Frag} (h : entB P e = true) (F : FunD K e.d.name e.d.qual e.d.params e.d.body e.d.scope (e.d.dvs K) (e.d.kws K) a fdat) : Binds K fdat e.fd.ps [] := by
  obtain ⟨h1, h2, h3, h4⟩ := ent_ps h
  have S := ent_scope h
  have hd : e.d.dvs K = [] := by unfold He.DefD.dvs; rw [h3]; rfl
  rw [hd] at F
  refine F.bindsN fun kV doc pm an cdv ct us hl => ?_
  unfold plainPs at h1
  split at h1
  · rename_i as kd heq
    have h1 := Option.some.inj h1
    rw [heq, ← h1]
    have nd : e.fd.ps.Nodup := by rw [← S.pre]; exact S.nd.sublist (List.take_sublist _ _)
    rw [← h1] at nd hl
    exact bind_plain nd hl
  · cases h1
theorem ent_kbinds {P : Prog} {K : PySem.W.Frag} (h : entB P e = true) (F : FunD K e.d.name e.d.qual e.d.params e.d.body e.d.scope (e.d.dvs K) (e.d.kws K) a fdat) (s : Shared) (ks : List Str) (ws us : List Value) (nd : ks.Nodup) (hk : ∀ k ∈ ks, k ∈ e.fd.ps) (hl : ws.length = ks.length) (hm : (e.fd.ps.mapM fun p => (ks.zip ws).lookup p) = some us) : BindsTo s fdat ⟨[], ks.zip ws⟩ (e.fd.ps.zip us) := by
  obtain ⟨h1, h2, h3, h4⟩ := ent_ps h
  have hd : e.d.dvs K = [] := by unfold He.DefD.dvs; rw [h3]; rfl
  rw [hd] at F
  obtain ⟨oc, od, dV, kV, doc, pm, an, cdv, ct, osl, rfl, lk, hcd, hD, hK⟩ := F.ex
  rcases hD with ⟨_, rfl⟩ | ⟨e, _⟩
  · refine .of_eq ?_
    unfold plainPs at h1
    split at h1
    · rename_i as kd heq
      have h1 := Option.some.inj h1
      rw [heq, ← h1]
      rw [← h1] at hk hm
      exact bind_kw nd hk hl hm
    · cases h1
  · exact absurd rfl e
theorem start_rel {H : Hp} {ds : List D} {vs : List V} {n : Nat} {N : List Str} (hn : n = N.length) (r : M.Reps H ds vs) : RelL M H (ds.map some ++ List.replicate (n - ds.length) none) (L2.start N vs) := by
  subst hn
  have hl := r.length
  refine ⟨by simp [L2.start, hl], fun i d q => ?_⟩
  unfold L2.start
  by_cases hi : i < ds.length
  · rw [List.getElem?_append_left (by simpa using hi), List.getElem?_map] at q
    cases z : ds[i]? with
    | none => rw [z] at q; cases q
    | some d' =>
      rw [z] at q
      cases q
      obtain ⟨v, h1, h2⟩ := Reps.get r z
      exact ⟨v, by rw [List.getElem?_append_left (by rw [List.length_map, ← hl]; exact hi), List.getElem?_map, h1]; rfl, h2⟩
  · rw [List.getElem?_append_right (by simpa using hi), List.getElem?_replicate] at q
    split at q <;> cases q
theorem ent_in {k : Nat} (hP : M.P.fns.lookup (e.c, e.f) = some e.fd) (hB : entB M.P e = true) (F : FunD M.K e.d.name e.d.qual e.d.params e.d.body e.d.scope (e.d.dvs M.K) (e.d.kws M.K) a fdat)
    (mod : ModOk M) (cls : ClsOk M) (tab : ∀ p ∈ M.tabs, GxR.TabB base M.mg p.1 p.2) (gen : e.gen = true → ∃ p ∈ M.tabs, fdat.code = .ref p.1) (fns : k = 0 ∨ ∃ j, k = j + 1 ∧ FnsOk M base j) : FnIn M base k e.c e.f e.fd a fdat := by
  obtain ⟨h1, h2, h3, h4⟩ := ent_ps hB
  have hbn := ent_binds hB F
  refine ⟨?_, F.kp, by rw [h2]; exact Nat.zero_le _, fun n hn hn2 => ⟨[], [], .nil, fun H => by rw [h2, List.drop_nil]; exact .nil, hbn⟩, fun s ks ws us n1 n2 n3 n4 => ent_kbinds hB F s ks ws us n1 n2 n3 n4⟩
  rcases fns with rfl | ⟨j, rfl, fns⟩
  · exact ⟨fun vs H Q E ⟨ds, st, _, _, _, q⟩ => q.elim, fun A outer s H args us vs Q E _ _ _ _ ⟨ds, st, _, _, _, q⟩ => q.elim⟩
  · have S := ent_scope hB
    obtain ⟨hn, hc⟩ := ent_body hB
    obtain ⟨oc, od, dV, kV, doc, pm, an, cdv, ct, osl, rfl, lk, hcd, _, _⟩ := F.ex
    refine fn_of (k := 2 * j + 1) lk hcd S (fun vs H Q E ⟨ds, st, r, _, l, _⟩ => by rw [← r.length]; exact l) fun A outer s H vs Q E hr ⟨ds, st, r, rs, l, q⟩ => ⟨semSs M (cal M.P j) e.fd.body, PSs.nox ?_, ?_⟩
    · refine sndSs e.fd.body ⟨e.N, e.d.scope, fun _ => true, e.gen⟩ _ _ ⟨⟨⟨rfl, rfl, rfl, rfl, rfl, ?_⟩, rfl, rfl, rfl, S.nd, gen⟩, rfl, hr, mod, fns, cls, tab⟩ hc
      have := hr.un
      show (A.deeper _).units + 120 < cLine
      omega
    · obtain ⟨fd', q1, q2, q3⟩ := q
      rw [hP] at q1; cases q1
      refine ⟨_, st, _, start_rel hn r, rs, ?_, q3⟩
      refine ⟨?_, ?_, fun _ _ z => z.elim, fun _ _ z => z.elim⟩
      · rintro L' s' ⟨s2, sub, q4⟩ σ' H' e' rs' rl'
        exact q4 _ _ (e'.sub sub) (rs'.sub sub) .non
      · rintro d s' ⟨s2, sub, q4⟩ v H' e' rs' v'
        exact q4 _ _ (e'.sub sub) (rs'.sub sub) v'
end
/-- what the head says of a program's defs -/
structure HeadOk (M : Mo) (ents : List Ent) : Prop where
  fns : M.P.fns = ents.map fun e => ((e.c, e.f), e.fd)
  all : ents.all (entB M.P) = true
  dfn : ∀ e ∈ ents, e.c = ("" : Str) → ∃ a fdat, M.mg e.f = some (.ref a) ∧ FunD M.K e.d.name e.d.qual e.d.params e.d.body e.d.scope (e.d.dvs M.K) (e.d.kws M.K) a fdat ∧ (e.gen = true → ∃ p ∈ M.tabs, fdat.code = .ref p.1)
  mth : ∀ e ∈ ents, e.c ≠ ("" : Str) → ∀ C, M.mg e.c = some (.ref C) → ∃ a fdat, Meth M.K C e.f a ∧ FunD M.K e.d.name e.d.qual e.d.params e.d.body e.d.scope (e.d.dvs M.K) (e.d.kws M.K) a fdat ∧ (e.gen = true → ∃ p ∈ M.tabs, fdat.code = .ref p.1)
theorem look_ent {c f : Str} {fd : Fd} : ∀ {ents : List Ent}, (ents.map fun e => ((e.c, e.f), e.fd)).lookup (c, f) = some fd → ∃ e ∈ ents, e.c = c ∧ e.f = f ∧ e.fd = fd
  | [], h => by cases h
  | e :: r, h => by
    rw [List.map_cons, List.lookup_cons] at h
    split at h
    · rename_i q
      have q := beq_iff_eq.mp q
      injection q with q1 q2
      exact ⟨e, List.mem_cons_self, q1.symm, q2.symm, Option.some.inj h⟩
    · obtain ⟨e', h1, h2⟩ := look_ent h
      exact ⟨e', List.mem_cons_of_mem _ h1, h2⟩
theorem fns_ok {M : Mo} {ents : List Ent} (h : HeadOk M ents) (mod : ModOk M) (cls : ClsOk M) (base : Heap) (tab : ∀ p ∈ M.tabs, GxR.TabB base M.mg p.1 p.2) : ∀ k, FnsOk M base k := by
  have step : ∀ k, (k = 0 ∨ ∃ j, k = j + 1 ∧ FnsOk M base j) → FnsOk M base k := by
    intro k hk
    refine ⟨fun f fd q => ?_, fun c f fd C hc q hm => ?_⟩
    · have q' := q
      rw [h.fns] at q'
      obtain ⟨e, he, rfl', rfl, rfl⟩ := look_ent q'
      obtain ⟨a, fdat, g1, g2, g3⟩ := h.dfn e he rfl'
      refine ⟨a, fdat, g1, ?_⟩
      have := ent_in (base := base) (k := k) (by rw [rfl']; exact q) (List.all_eq_true.mp h.all e he) g2 mod cls tab g3 hk
      rw [rfl'] at this
      exact this
    · have q' := q
      rw [h.fns] at q'
      obtain ⟨e, he, rfl, rfl, rfl⟩ := look_ent q'
      obtain ⟨a, fdat, g1, g2, g3⟩ := h.mth e he hc C hm
      exact ⟨a, fdat, g1, ent_in q (List.all_eq_true.mp h.all e he) g2 mod cls tab g3 hk⟩
  intro k
  induction k with
  | zero => exact step 0 (.inl rfl)
  | succ k ih => exact step (k + 1) (.inr ⟨k, rfl, ih⟩)
/-! ### the facts of the head -/
def slB (K : PySem.W.Frag) (x f : Str) (i : Nat) : Bool := match PySem.W.findIn K (.ref (He.ga K x)) f with
  | some (some (.ref p)) => He.eqO (PySem.W.specialIn K (.ref p) "__get__") (some (some (.builtin "member_descriptor.__get__"))) && (decide (PySem.W.takesIn K (.ref p) = some true) && (decide (PySem.W.typeIn K (.ref p) = some (.type "member_descriptor")) && (decide (PySem.W.slotIn K p (He.ga K x) = some i) && decide (i < 1000))))
  | _ => false
def sclsB (K : PySem.W.Frag) (x : Str) : Bool := PySem.W.plainGet K (He.ga K x) Str.empty && (PySem.W.isClsIn K (He.ga K x) && (PySem.W.plainOver K (He.ga K x) && He.eqO (PySem.W.findIn K (.ref (He.ga K x)) "__setattr__") (some (some (.builtin "object.__setattr__")))))
theorem slB_ok {K : PySem.W.Frag} {x f : Str} {i : Nat} (h : slB K x f i = true) : ∃ p, SlX.Slot1 K (He.ga K x) f p i := by
  unfold slB at h
  split at h
  · rename_i p q
    obtain ⟨h1, h⟩ := ba h
    obtain ⟨h2, h⟩ := ba h
    obtain ⟨h3, h⟩ := ba h
    obtain ⟨h4, h5⟩ := ba h
    exact ⟨p, q, He.eqO_ok h1, of_decide_eq_true h2, of_decide_eq_true h3, of_decide_eq_true h4, of_decide_eq_true h5⟩
  · cases h
theorem sclsB_ok {K : PySem.W.Frag} {x : Str} (h : sclsB K x = true) : SlX.SCls K (He.ga K x) := by
  obtain ⟨h1, h⟩ := ba h
  obtain ⟨h2, h⟩ := ba h
  obtain ⟨h3, h4⟩ := ba h
  exact ⟨h1, h2, h3, He.eqO_ok h4⟩
def exB (P : Prog) (K : PySem.W.Frag) : Bool := P.cls.all fun p => if p.2.slotted = true then sclsB K p.1 && p.2.slots.zipIdx.all fun q => slB K p.1 q.1 q.2 else true
def entFa (e : Ent) : He.Fa := if e.c = ("" : Str) then .glo e.f else .meth e.c e.f
def clsFa (p : Str × Cd) : List He.Fa := .glo p.1 :: .mkr p.1 :: (if p.2.slotted = true then [] else .cls p.1 :: p.2.slots.map (He.Fa.noat p.1))
def conFa (p : Str × D) : He.Fa := match p.2 with
  | .str z => .str p.1 z
  | .int i => .int p.1 i
  | _ => .free p.1
def faOf (P : Prog) (ents : List Ent) : List He.Fa := ents.map entFa ++ (P.cls.flatMap clsFa ++ (P.blt.map He.Fa.free ++ P.cons.map conFa))
/-- the program's data fit -/
def progB (P : Prog) (ents : List Ent) : Bool := (P.cls.all fun p => !decide (p.1 = ("" : Str))) && ((P.cons.all fun p => match p.2 with
  | .str _ => true
  | .int _ => true
  | _ => false) && ents.all (entB P))
def defsOf (ents : List Ent) : List He.DefD := ents.map Ent.d
/-- the defs whose tables may grow -/
def tfOf (ents : List Ent) : List He.Defn := (ents.filter Ent.gen).map fun e => e.d.at_
abbrev AlE : Type := He.AlX
def obsE (n : Nat) (P : Prog) (ents : List Ent) (g : Addr → Option Obj) : AlE := He.obsX n (faOf P ents) (defsOf ents) [] (tfOf ents) (exB P) g
abbrev hookE (n : Nat) (P : Prog) (ents : List Ent) : PySem.W.Hook := He.hookX n (faOf P ents) (defsOf ents) [] (tfOf ents) (exB P)
theorem obsE_eq {n : Nat} {P : Prog} {ents : List Ent} {g : Addr → Option Obj} {s : Shared} (h : ∀ a, g a = s.heap.get? a) : obsE n P ents g = (hookE n P ents).obs s := He.obsX_eq h
theorem look_mem {β : Type} {x : Str} {y : β} : ∀ {l : List (Str × β)}, l.lookup x = some y → (x, y) ∈ l
  | [], h => by cases h
  | (z, w) :: r, h => by
    rw [List.lookup_cons] at h
    split at h
    · rename_i q
      have q := beq_iff_eq.mp q
      subst q
      cases h
      exact List.mem_cons_self
    · exact List.mem_cons_of_mem _ (look_mem h)
theorem ixOf_get {f : Str} : ∀ {l : List Str} {i : Nat}, ixOf f l = some i → l[i]? = some f
  | [], _, h => by cases h
  | x :: l, i, h => by
    unfold ixOf at h
    split at h
    · rename_i e; subst e; cases h; rfl
    · cases q : ixOf f l with
      | none => rw [q] at h; cases h
      | some j => rw [q] at h; cases h; simpa using ixOf_get q
section
variable {M : Mo} {ents : List Ent} {h : Heap} (X : M.K.In h) (G : h.Ns mainGlobals M.mg) (c : He.SaysD (faOf M.P ents) (defsOf ents) M.K) (ex : exB M.P M.K = true) (pb : progB M.P ents = true)
include X G c ex pb
theorem head_cls (hf : M.P.fns = ents.map fun e => ((e.c, e.f), e.fd)) : ClsOk M := by
  obtain ⟨p1, p2⟩ := ba pb
  have facts : ∀ p ∈ M.P.cls, ∀ f ∈ clsFa p, f.ok M.K = true := fun p hp f hf => c.facts (List.mem_append_right _ (List.mem_append_left _ (List.mem_flatMap.mpr ⟨p, hp, hf⟩)))
  have glo : ∀ p ∈ M.P.cls, M.mg p.1 = some (.ref (He.ga M.K p.1)) := fun p hp => He.glo_ok X G (facts p hp _ List.mem_cons_self)
  refine ⟨fun x cd C hl hm => ?_, fun x fd hfd hx => ?_⟩
  · have hp := look_mem hl
    have e := hm.symm.trans (glo _ hp)
    cases e
    refine ⟨of_decide_eq_false (nb (List.all_eq_true.mp p1 _ hp)), ?_⟩
    have hx := List.all_eq_true.mp ex _ hp
    split
    · rename_i hs
      dsimp only at hx
      rw [if_pos hs] at hx
      obtain ⟨h1, h2⟩ := ba hx
      refine ⟨sclsB_ok h1, fun i f hi => slB_ok (List.all_eq_true.mp h2 (f, i) ?_)⟩
      have := ixOf_get hi
      exact List.mem_zipIdx_iff_getElem?.mpr this
    · rename_i hs
      have mem : ∀ f ∈ He.Fa.cls x :: cd.slots.map (He.Fa.noat x), f.ok M.K = true := fun f hf => facts _ hp f (by
        unfold clsFa
        dsimp only
        rw [if_neg hs]
        exact List.mem_cons_of_mem _ (List.mem_cons_of_mem _ hf))
      refine ⟨He.cls_ok (mem _ List.mem_cons_self), fun i f hi => He.noat_ok (mem _ (List.mem_cons_of_mem _ (List.mem_map.mpr ⟨f, List.mem_of_getElem? (ixOf_get hi), rfl⟩)))⟩
  · obtain ⟨p3, p4⟩ := ba p2
    have hf' := hf
    rw [hf'] at hfd
    obtain ⟨e, he, rfl, _, _⟩ := look_ent hfd
    obtain ⟨_, hcl⟩ := ent_at (List.all_eq_true.mp p4 e he)
    obtain ⟨cd, hl⟩ := hcl.resolve_left hx
    have hp := look_mem hl
    obtain ⟨m1, _, _, m4⟩ := He.mkr_ok (facts _ hp (.mkr e.c) (List.mem_cons_of_mem _ List.mem_cons_self))
    exact ⟨_, cd, glo _ hp, hl, m1, m4⟩
theorem head_mod : ModOk M := by
  obtain ⟨p1, p2⟩ := ba pb
  obtain ⟨p2, p3⟩ := ba p2
  refine ⟨fun x hx => ?_, fun x d hl => ?_⟩
  · exact He.free_ok X G (c.facts (List.mem_append_right _ (List.mem_append_right _ (List.mem_append_left _ (List.mem_map.mpr ⟨x, by simpa using hx, rfl⟩)))))
  · have hp := look_mem hl
    have hf := c.facts (f := conFa (x, d)) (List.mem_append_right _ (List.mem_append_right _ (List.mem_append_right _ (List.mem_map.mpr ⟨_, hp, rfl⟩))))
    have hk := List.all_eq_true.mp p2 _ hp
    cases d with
    | str z =>
      obtain ⟨t, e⟩ := He.str_ok X G hf
      exact ⟨.str z, _, e, ⟨t, rfl⟩, fun H => .str z⟩
    | int z =>
      obtain ⟨t, e⟩ := He.int_ok X G hf
      exact ⟨.int z, _, e, ⟨t, rfl⟩, fun H => .int z⟩
    | _ => cases hk
theorem head_fns (hf : M.P.fns = ents.map fun e => ((e.c, e.f), e.fd)) (ht : M.tabs = (tfOf ents).map (He.cT M.K)) : HeadOk M ents := by
  have gen : ∀ e ∈ ents, ∀ fd, FunD M.K e.d.name e.d.qual e.d.params e.d.body e.d.scope (e.d.dvs M.K) (e.d.kws M.K) (He.fAd M.K e.d.at_) fd → e.gen = true → ∃ p ∈ M.tabs, fd.code = .ref p.1 := fun e he fd F hg => by
    obtain ⟨oc, od, dV, kV, doc, pm, an, cdv, ct, osl, rfl, lk, hcd, _, _⟩ := F.ex
    obtain ⟨c, hc⟩ := He.codeIn_ref hcd
    refine ⟨He.cT M.K e.d.at_, by rw [ht]; exact List.mem_map_of_mem (List.mem_map.mpr ⟨e, List.mem_filter.mpr ⟨he, hg⟩, rfl⟩), ?_⟩
    have := He.codeOf_eq lk (c := c) hc
    show cdv = .ref (He.codeOf M.K e.d.at_)
    rw [this, hc]
  obtain ⟨p1, p2⟩ := ba pb
  obtain ⟨p2, p3⟩ := ba p2
  have fact : ∀ e ∈ ents, (entFa e).ok M.K = true := fun e he => c.facts (List.mem_append_left _ (List.mem_map.mpr ⟨e, he, rfl⟩))
  refine ⟨hf, p3, fun e he hc => ?_, fun e he hc C hm => ?_⟩
  · obtain ⟨fd, F⟩ := c.defs (List.mem_map.mpr ⟨e, he, rfl⟩)
    have ha := (ent_at (List.all_eq_true.mp p3 e he)).1
    rw [if_pos hc] at ha
    have h1 := fact e he
    unfold entFa at h1
    rw [if_pos hc] at h1
    have gg := gen e he fd F
    refine ⟨_, fd, He.glo_ok X G h1, ?_, gg⟩
    rw [ha] at F
    exact F
  · obtain ⟨fd, F⟩ := c.defs (List.mem_map.mpr ⟨e, he, rfl⟩)
    obtain ⟨ha, hcl⟩ := ent_at (List.all_eq_true.mp p3 e he)
    rw [if_neg hc] at ha
    have h1 := fact e he
    unfold entFa at h1
    rw [if_neg hc] at h1
    obtain ⟨cd, hl⟩ := hcl.resolve_left hc
    have hg : M.mg e.c = some (.ref (He.ga M.K e.c)) := He.glo_ok X G (c.facts (List.mem_append_right _ (List.mem_append_left _ (List.mem_flatMap.mpr ⟨_, look_mem hl, List.mem_cons_self⟩))))
    have z := hm.symm.trans hg
    cases z
    have gg := gen e he fd F
    refine ⟨_, fd, He.meth_ok h1, ?_, gg⟩
    rw [ha] at F
    exact F
end
end Py

set_option Elab.async false
set_option linter.all false
set_option maxRecDepth 100000
set_option maxHeartbeats 4000000
/-! The law's walk. -/
namespace Py
open PySem PySem.Spec PyProof.Rows L2
def st0 : Sto := fun _ => none
theorem reps_ints {K : PySem.W.Frag} {mg : Str → Option Value} {H : Hp} : ∀ ns : List Int, Reps K mg H (ns.map D.int) (ns.map V.int)
  | [] => .nil
  | n :: ns => .cons (.int n) (reps_ints ns)
theorem law_facts {prog : Program} {P : Prog} {ents : List Ent} {k n : Nat} {x : Str} {eL : Ent} {l : PySem.W.OpenLaw} (hlp : l.prog = prog) (pb : progB P ents = true) (hf : P.fns = ents.map fun e => ((e.c, e.f), e.fd)) (hl : P.fns.lookup (("" : Str), ("law" : Str)) = some eL.fd) (heL : eL ∈ ents) (hc : eL.c = ("" : Str)) (hnm : eL.f = ("law" : Str)) (hps : eL.fd.ps = [x]) (hn : n ≤ sizeLine)
    (pure_ : ∀ (ns : List Int) (d : D) (st : Sto), ns.length ≤ n → rdL st d = some (ns.map D.int) → cal P k "" "law" [d] st (fun d _ => d = .bl true) X0)
    (w : World) (mg : Str → Option Value) (fa : Addr) (h : Heap) (Y : ∃ K : PySem.W.Frag, K.In h ∧ He.SaysX (faOf P ents) (defsOf ents) [] (tfOf ents) (exB P) w h K) (G : h.Ns mainGlobals mg) (hmg : mg ("law" : Str) = some (.ref fa)) :
    ∃ K : PySem.W.Frag, K.In h ∧ LamX.LawAtS l w K CX0 (2 * k) n x mg fa h := by
  obtain ⟨K, KX, says⟩ := Y
  have c := says.t.d
  have ex := says.more
  let M : Mo := ⟨prog, w, K, mg, P, (tfOf ents).map (He.cT K)⟩
  have cl : ClsOk M := head_cls (M := M) KX G c ex pb hf
  have md : ModOk M := head_mod (M := M) KX G c ex pb
  have hd : HeadOk M ents := head_fns (M := M) KX G c ex pb hf rfl
  obtain ⟨a, fdat, g1, F, gg⟩ := hd.dfn eL heL hc
  have hB : entB P eL = true := by
    obtain ⟨_, p2⟩ := ba pb
    exact List.all_eq_true.mp (ba p2).2 eL heL
  rw [hnm] at g1
  have e := hmg.symm.trans g1
  cases e
  obtain ⟨h1, h2, h3, h4⟩ := ent_ps hB
  have tabs : ∀ p ∈ M.tabs, ∃ q ∈ tfOf ents, He.cT K q = p := fun p hp => List.mem_map.mp hp
  refine ⟨K, KX, fdat, M.tabs, spOf M (cal P k) "" "law" eL.fd, fun p hp => ?_, fun p hp => ?_, fun p hp => ?_, fun s u => ?_, fun H a ns hlen hbits hT hS => ?_, fun base KB GB TB => ?_⟩
  · obtain ⟨q, hq, rfl⟩ := tabs p hp
    exact says.empty q hq
  · obtain ⟨q, hq, rfl⟩ := tabs p hp
    exact says.out q hq
  · obtain ⟨q, hq, rfl⟩ := tabs p hp
    exact PySem.W.codeHd_of_K KX (says.hd q hq)
  · have hdv : eL.d.dvs K = [] := by unfold He.DefD.dvs; rw [h3]; rfl
    have F' : FunD K eL.d.name eL.d.qual eL.d.params eL.d.body eL.d.scope [] (eL.d.kws K) fa fdat := by rw [← hdv]; exact F
    refine FunD.bindsA (ps := [x]) F' (fun kV doc pm an cdv ct us hl => ?_) s [u] rfl
    unfold plainPs at h1
    split at h1
    · rename_i as kd heq
      have h1 := Option.some.inj h1
      rw [hps] at h1
      rw [heq, ← h1]
      exact bind_plain (by rw [h1]; simp) (by rw [h1]; exact hl)
    · cases h1
  · have hz : (ns.map D.int).length ≤ sizeLine := by rw [List.length_map]; exact Nat.le_trans hlen hn
    have tb : TabsOk M H := fun p hp => ⟨#[], hT p hp, trivial⟩
    have fin : ∀ (d : D) (st : Sto), M.Rep H d (.ref a) → RelS M st H → rdL st d = some (ns.map D.int) → spOf M (cal P k) "" "law" eL.fd [.ref a] H (fun v _ => v = .bl true) fun _ _ _ => False := fun d st rp rs er => by
      refine ⟨[d], st, .cons rp .nil, rs, by rw [hps]; rfl, ?_⟩
      refine cal_mono _ _ _ _ _ _ _ _ _ (fun d s q v H' _ _ r => ?_) (pure_ ns d st hlen er)
      subst q
      cases r
      rfl
    have rs0 : RelS M st0 H := ⟨(fun b o q => by unfold st0 at q; cases q), tb⟩
    rcases hS with (hS | hS) | hS
    · refine fin (.ref a) (put st0 a (.lst (ns.map D.int))) (.ref a) ⟨fun b o q => ?_, tb⟩ (by unfold rdL; simp only [put_same])
      by_cases z : b = a
      · subst z
        rw [put_same] at q
        cases q
        exact ⟨hz, _, hS, reps_ints ns⟩
      · rw [put_ne z] at q; unfold st0 at q; cases q
    · exact fin _ st0 (.sl hz (.inl hS) (reps_ints ns)) rs0 rfl
    · exact fin _ st0 (.sl hz (.inr hS) (reps_ints ns)) rs0 rfl
  · subst hlp
    have TB : ∀ p ∈ M.tabs, GxR.TabB base M.mg p.1 p.2 := fun p hp => let t := TB p hp; ⟨t.code, t.bm, t.gP⟩
    have fi := fns_ok hd md cl base TB k
    obtain ⟨a', fdat', g2, I⟩ := fi.dfn "law" eL.fd hl
    have e := g1.symm.trans g2
    cases e
    have hIn := ent_in (M := M) (base := base) (k := k) (e := eL) (by rw [hc, hnm]; exact hl) hB F md cl TB gg (by
      cases k with
      | zero => exact .inl rfl
      | succ j => exact .inr ⟨j, rfl, fns_ok hd md cl base TB j⟩)
    have ok := hIn.ok
    rw [hc, hnm, hps] at ok
    exact ok
end Py

set_option Elab.async false
set_option linter.all false
set_option maxRecDepth 100000
set_option maxHeartbeats 4000000
/-! Rules for proofs in the small language. -/
namespace Py
open PySem PySem.Spec PyProof.Rows L2
/-- a program has this def -/
abbrev Has (P : Prog) (c f : Str) (fd : Fd) : Prop := P.fns.lookup (c, f) = some fd
theorem del_put {st : Sto} {p : Addr} {o : O} (h : st p = none) : del (put st p o) p = st := by
  funext b; unfold del put
  by_cases e : b = p
  · rw [if_pos e, e, h]
  · rw [if_neg e, if_neg e]
theorem put_swap {st : Sto} {a b : Addr} {o u : O} (h : a ≠ b) : put (put st a o) b u = put (put st b u) a o := by
  funext c; unfold put
  by_cases e : c = b
  · have : c ≠ a := fun z => h (z.symm.trans e)
    rw [if_pos e, if_neg this, if_pos e]
  · rw [if_neg e]
    by_cases e2 : c = a
    · rw [if_pos e2, if_pos e2]
    · rw [if_neg e2, if_neg e2, if_neg e]
theorem put_id {st : Sto} {a : Addr} {o : O} (h : st a = some o) : put st a o = st := by
  funext c; unfold put
  by_cases e : c = a
  · rw [if_pos e, e, h]
  · rw [if_neg e]
theorem sub_put_new {st : Sto} {p : Addr} {o : O} (h : st p = none) : Sub st (put st p o) := Sub.put h
theorem sub_put2 {s t : Sto} {a : Addr} {o : O} (h : Sub s t) : Sub (put s a o) (put t a o) := fun b u q => by
  by_cases e : b = a
  · subst e; rw [put_same] at q ⊢; exact q
  · rw [put_ne e] at q ⊢; exact h b u q
section
variable {P : Prog} {G : Cal}
/-- a new list that is locked at once -/
theorem newL_frz {xs : List D} {st : Sto} {Q : QD} (h : xs.length ≤ sizeLine) (q : Q (.kl xs) st) : newL xs st (fun x s => frzR P x s Q) := by
  refine ⟨h, fun p hp => ?_⟩
  unfold frzR
  simp only [put_same]
  rw [del_put hp]
  exact q
/-- the turns of a comprehension that change nothing -/
theorem lcL_pure {stays : Sto → Prop} {turn : D → Sto → (Option D → Sto → Prop) → Prop} {fin : List D → Sto → Prop} {st : Sto} (f : D → Option D) (hs : stays st) :
    ∀ (items acc : List D), (∀ x ∈ items, ∀ nx : Option D → Sto → Prop, nx (f x) st → turn x st nx) → fin (acc ++ items.filterMap f) st → lcL stays turn fin items acc st
  | [], acc, _, h => by simpa [lcL] using h
  | x :: r, acc, ht, h => by
    show turn x st _
    refine ht x (List.mem_cons_self ..) _ (Dr.refl ⟨hs, ?_⟩)
    cases hf : f x with
    | none =>
      refine lcL_pure f hs r acc (fun y hy => ht y (List.mem_cons_of_mem _ hy)) ?_
      rw [List.filterMap_cons, hf] at h; exact h
    | some d =>
      refine lcL_pure f hs r (acc ++ [d]) (fun y hy => ht y (List.mem_cons_of_mem _ hy)) ?_
      rw [List.filterMap_cons, hf] at h; simpa using h
/-- the turns of a for by an invariant over what is left -/
theorem forL_inv {stays : Sto → Prop} {turn : D → Loc → Sto → (Loc → Sto → Prop) → Prop} {fin : Loc → Sto → Prop} (I : List D → Loc → Sto → Prop)
    (step : ∀ x r L s (nx : Loc → Sto → Prop), I (x :: r) L s → (∀ L' s', (Dr s' fun t => stays t ∧ I r L' t) → nx L' s') → turn x L s nx) (done : ∀ L s, I [] L s → fin L s) : ∀ {items : List D} {L : Loc} {st : Sto}, I items L st → forL stays turn fin items L st
  | [], L, st, h => done L st h
  | x :: r, L, st, h => step x r L st _ h fun L' s' ⟨t, h1, h2, h3⟩ => ⟨t, h1, h2, forL_inv I step done h3⟩
/-- a call by what is known of the def -/
theorem call_of {c f : Str} {ds : List D} {st : Sto} {Q : QD} {E : XD} {fd : Fd} (h : P.fns.lookup (c, f) = some fd) (hd : fd.dfl = []) (hl : ds.length = fd.ps.length) (g : G c f ds st Q E) : callR P G c f ds [] st Q E := by
  refine ⟨fd, h, .inl ⟨ds, ?_, g⟩⟩
  unfold bindK
  rw [if_pos rfl, hd]
  simp [hl]
/-- a call with locked arguments -/
theorem run_lk {c f : Str} {ds xs : List D} {st : Sto} {Q : QD} {E : XD} {fd : Fd} (hd : fd.dfl = []) (hl : ds.length = fd.ps.length) (hx : ds.map (lockD P st) = xs) (g : G c f xs nost (fun v _ => resOk st ds v = true ∧ Q v st) (fun _ _ _ => False)) : runR P G c f fd ds [] st Q E := by
  refine .inr ⟨xs, ?_, g⟩
  unfold bindK
  rw [if_pos rfl, hd, hx]
  simp [← hx, hl]
theorem run_of {c f : Str} {ds : List D} {st : Sto} {Q : QD} {E : XD} {fd : Fd} (hd : fd.dfl = []) (hl : ds.length = fd.ps.length) (g : G c f ds st Q E) : runR P G c f fd ds [] st Q E := by
  refine .inl ⟨ds, ?_, g⟩
  unfold bindK
  rw [if_pos rfl, hd]
  simp [hl]
/-- a call by keywords -/
theorem call_kw {c f : Str} {ds xs : List D} {ks : List Str} {st : Sto} {Q : QD} {E : XD} {fd : Fd} (h : P.fns.lookup (c, f) = some fd) (hb : bindK fd.ps fd.dfl ds ks = some xs) (g : G c f xs st Q E) : callR P G c f ds ks st Q E := ⟨fd, h, .inl ⟨xs, hb, g⟩⟩
theorem cal_of {k : Nat} {c f : Str} {ds : List D} {st : Sto} {Q : QD} {E : XD} {fd : Fd} (h : P.fns.lookup (c, f) = some fd) (hl : ds.length = fd.ps.length)
    (g : wpSs P (cal P k) fd.body (ds.map some ++ List.replicate (fd.n - ds.length) none) st ⟨fun _ s => Dr s (Q .non), fun d s => Dr s (Q d), fun _ _ => False, fun _ _ => False⟩ E) : cal P (k + 1) c f ds st Q E := ⟨fd, h, hl, g⟩
end
end Py

set_option Elab.async false
set_option linter.all false
set_option maxRecDepth 100000
set_option maxHeartbeats 4000000
/-! Steps, one for each form. -/
namespace Py
open PySem PySem.Spec PyProof.Rows L2
section
variable {P : Prog} {k : Nat} {L : Loc} {st : Sto} {E : XD} {Q : QD}
variable {n : Loc → Sto → Prop} {r : QD} {bb cc : Loc → Sto → Prop}
theorem wSs_nil (h : n L st) : wpSs P (cal P k) .nil L st ⟨n, r, bb, cc⟩ E := h
theorem wSs_cons {s : Sm} {t : Sms} (h : wpS P (cal P k) s L st ⟨fun L' st' => wpSs P (cal P k) t L' st' ⟨n, r, bb, cc⟩ E, r, bb, cc⟩ E) : wpSs P (cal P k) (.cons s t) L st ⟨n, r, bb, cc⟩ E := by
  refine wpS_mono (cal_mono P k) s ?_ h
  exact ⟨fun _ _ q => Dr.refl q, fun _ _ q => q, fun _ _ q => q, fun _ _ q => q⟩
/-- with a smaller store behind -/
theorem wSs_drop {s : Sm} {t : Sms} (h : wpS P (cal P k) s L st ⟨fun L' st' => Dr st' fun s' => wpSs P (cal P k) t L' s' ⟨n, r, bb, cc⟩ E, r, bb, cc⟩ E) : wpSs P (cal P k) (.cons s t) L st ⟨n, r, bb, cc⟩ E := h
theorem wS_exp {e : Ex} (h : wpE P (cal P k) e L st (fun _ s => n L s) E) : wpS P (cal P k) (.exp e) L st ⟨n, r, bb, cc⟩ E := h
theorem wS_ret {e : Ex} (h : wpE P (cal P k) e L st r E) : wpS P (cal P k) (.ret e) L st ⟨n, r, bb, cc⟩ E := h
theorem wS_pass (h : n L st) : wpS P (cal P k) .pass L st ⟨n, r, bb, cc⟩ E := h
theorem wS_brk (h : bb L st) : wpS P (cal P k) .brk L st ⟨n, r, bb, cc⟩ E := h
theorem wS_cnt (h : cc L st) : wpS P (cal P k) .cnt L st ⟨n, r, bb, cc⟩ E := h
theorem wS_asg {t : Tg} {e : Ex} (h : wpE P (cal P k) e L st (fun d s => tgR t d L fun L' => n L' s) E) : wpS P (cal P k) (.asg t e) L st ⟨n, r, bb, cc⟩ E := h
theorem wS_par {is : List Nat} {es : Exs} (h : wpA P (cal P k) es L st (fun ds s => ∃ L', setAll L is ds = some L' ∧ n L' s) E) : wpS P (cal P k) (.par is es) L st ⟨n, r, bb, cc⟩ E := h
theorem par_of {is : List Nat} {ds : List D} {L' : Loc} {R : Loc → Prop} (h : setAll L is ds = some L') (q : R L') : ∃ L', setAll L is ds = some L' ∧ R L' := ⟨L', h, q⟩
theorem wS_iff {c : Ex} {a b : Sms} (h : wpE P (cal P k) c L st (fun x s => truR x s fun j s => if j = true then wpSs P (cal P k) a L s ⟨n, r, bb, cc⟩ E else wpSs P (cal P k) b L s ⟨n, r, bb, cc⟩ E) E) : wpS P (cal P k) (.iff c a b) L st ⟨n, r, bb, cc⟩ E := h
def ssubR (x y d : D) (u : Sto) (R : Sto → Prop) : Prop := ∃ a, x = .ref a ∧ match u a with
  | some (.lst xs) => ∃ k j, y = .int k ∧ ixN xs.length k = some j ∧ R (put u a (.lst (xs.set j d)))
  | some (.dct kvs) => ∃ k, keyOf y = some k ∧ kvs.length < sizeLine ∧ R (put u a (.dct (putD kvs k d)))
  | _ => False
theorem wS_ssub {o i e : Ex} (h : wpE P (cal P k) e L st (fun d s => wpE P (cal P k) o L s (fun x t => wpE P (cal P k) i L t (fun y u => ssubR x y d u (fun s => n L s)) E) E) E) : wpS P (cal P k) (.ssub o i e) L st ⟨n, r, bb, cc⟩ E := h
theorem ssub_ref {a : Addr} {xs : List D} {i : Int} {j : Nat} {d : D} {R : Sto → Prop} (hs : st a = some (.lst xs)) (hj : ixN xs.length i = some j) (q : R (put st a (.lst (xs.set j d)))) : ssubR (.ref a) (.int i) d st R := by
  refine ⟨a, rfl, ?_⟩
  rw [hs]
  exact ⟨i, j, rfl, hj, q⟩
def sattR (P : Prog) (x d : D) (f : Str) (t : Sto) (R : Sto → Prop) : Prop := ∃ a c fs cd i, x = .ref a ∧ t a = some (.ins c fs) ∧ fs.length < 900 ∧ P.cls.lookup c = some cd ∧ ixOf f cd.slots = some i ∧ R (put t a (.ins c (setF f d fs)))
theorem wS_satt {o e : Ex} {f : Str} (h : wpE P (cal P k) e L st (fun d s => wpE P (cal P k) o L s (fun x t => sattR P x d f t (fun s => n L s)) E) E) : wpS P (cal P k) (.satt o f e) L st ⟨n, r, bb, cc⟩ E := h
theorem wS_for {t : Tg} {it : It} {b : Sms} (h : wpI P (cal P k) it L st (fun items stays s back => forL stays
      (fun x L s nx => tgR t x L fun L1 => wpSs P (cal P k) b L1 s ⟨nx, fun d s => stays s ∧ r d (back s), fun L s => stays s ∧ n L (back s), nx⟩ E)
      (fun L s => n L (back s)) items L s) E) : wpS P (cal P k) (.for_ t it b) L st ⟨n, r, bb, cc⟩ E := h
theorem wE_non (q : Q .non st) : wpE P (cal P k) .non L st Q E := q
theorem wE_bl {b : Bool} (q : Q (.bl b) st) : wpE P (cal P k) (.bl b) L st Q E := q
theorem wE_int {i : Int} (q : Q (.int i) st) : wpE P (cal P k) (.int i) L st Q E := q
theorem wE_str {x : Str} (q : Q (.str x) st) : wpE P (cal P k) (.str x) L st Q E := q
theorem wE_bty {x : String} (q : Q (.ty x) st) : wpE P (cal P k) (.bty x) L st Q E := q
theorem wE_glo {x : Str} {d : D} (h : P.cons.lookup x = some d) (q : Q d st) : wpE P (cal P k) (.glo x) L st Q E := ⟨d, h, q⟩
theorem wE_var {i : Nat} {d : D} (h : L[i]? = some (some d)) (q : Q d st) : wpE P (cal P k) (.var i) L st Q E := ⟨d, h, q⟩
theorem wE_bin {o : Bop} {a b : Ex} (h : wpE P (cal P k) a L st (fun x s => wpE P (cal P k) b L s (fun y t => bopR o x y t Q) E) E) : wpE P (cal P k) (.bin o a b) L st Q E := h
theorem wE_neg {a : Ex} (h : wpE P (cal P k) a L st (fun x s => ∃ i, x = .int i ∧ Q (.int (-i)) s) E) : wpE P (cal P k) (.neg a) L st Q E := h
theorem wE_negI {i : Int} (q : Q (.int (-i)) st) : wpE P (cal P k) (.neg (.int i)) L st Q E := ⟨i, rfl, q⟩
theorem wE_cmp {o : Cop} {a b : Ex} (h : wpE P (cal P k) a L st (fun x s => wpE P (cal P k) b L s (fun y t => copR o x y t Q) E) E) : wpE P (cal P k) (.cmp o a b) L st Q E := h
theorem wE_and {a b : Ex} (h : wpE P (cal P k) a L st (fun x s => truR x s fun j t => if j = true then wpE P (cal P k) b L t Q E else Q x t) E) : wpE P (cal P k) (.and a b) L st Q E := h
theorem wE_or {a b : Ex} (h : wpE P (cal P k) a L st (fun x s => truR x s fun j t => if j = true then Q x t else wpE P (cal P k) b L t Q E) E) : wpE P (cal P k) (.or a b) L st Q E := h
theorem wE_not {a : Ex} (h : wpE P (cal P k) a L st (fun x s => truR x s fun j t => Q (.bl (!j)) t) E) : wpE P (cal P k) (.not a) L st Q E := h
theorem wE_ite {c a b : Ex} (h : wpE P (cal P k) c L st (fun x r => truR x r fun j s => if j = true then wpE P (cal P k) a L s Q E else wpE P (cal P k) b L s Q E) E) : wpE P (cal P k) (.ite c a b) L st Q E := h
theorem wE_tup {es : Exs} (h : wpA P (cal P k) es L st (fun ds s => newT ds s Q) E) : wpE P (cal P k) (.tup es) L st Q E := h
theorem wE_lst {es : Exs} (h : wpA P (cal P k) es L st (fun ds s => newL ds s Q) E) : wpE P (cal P k) (.lst es) L st Q E := h
theorem wE_call {f : Str} {es : Exs} {ks : List Str} (h : wpA P (cal P k) es L st (fun ds s => callR P (cal P k) "" f ds ks s Q E) E) : wpE P (cal P k) (.call f es ks) L st Q E := h
theorem wE_new {f : Str} {es : Exs} {ks : List Str} (h : wpA P (cal P k) es L st (fun ds s => newR P (cal P k) f ds ks s Q E) E) : wpE P (cal P k) (.new f es ks) L st Q E := h
theorem wE_blt {f : Bf} {es : Exs} (h : wpA P (cal P k) es L st (fun ds s => bltR f ds s Q) E) : wpE P (cal P k) (.blt f es) L st Q E := h
def mthR (P : Prog) (x : D) (m : Str) (s : Sto) (R : Str → Fd → Prop) : Prop := ∃ c fd, mthC P x m s c ∧ P.fns.lookup (c, m) = some fd ∧ R c fd
theorem wE_mth {o : Ex} {m : Str} {es : Exs} (h : wpE P (cal P k) o L st (fun x s => mthR P x m s fun c fd => wpA P (cal P k) es L s (fun ds t => runR P (cal P k) c m fd (x :: ds) [] t Q E) E) E) : wpE P (cal P k) (.mth o m es) L st Q E := h
def attR (P : Prog) (x : D) (f : Str) (s : Sto) (Q : QD) : Prop := ∃ d, attV P x f s = some d ∧ Q d s
theorem wE_att {o : Ex} {f : Str} (h : wpE P (cal P k) o L st (fun x s => attR P x f s Q) E) : wpE P (cal P k) (.att o f) L st Q E := h
theorem wE_idx {o i : Ex} (h : wpE P (cal P k) o L st (fun x s => wpE P (cal P k) i L s (fun y t => idxR x y t Q) E) E) : wpE P (cal P k) (.idx o i) L st Q E := h
def optR (l : List D) (R : Option Int → Prop) : Prop := ∃ i, optI l = some i ∧ R i
theorem opt_n {R : Option Int → Prop} (q : R none) : optR [] R := ⟨none, rfl, q⟩
theorem opt_i {i : Int} {R : Option Int → Prop} (q : R (some i)) : optR [.int i] R := ⟨some i, rfl, q⟩
theorem wE_slc {o : Ex} {lo hi : Exs} (h : wpE P (cal P k) o L st (fun x s => wpA P (cal P k) lo L s (fun l t => optR l fun i => wpA P (cal P k) hi L t (fun h u => optR h fun j => slcR x i j u Q) E) E) E) : wpE P (cal P k) (.slc o lo hi) L st Q E := h
theorem wE_frz {e : Ex} (h : wpE P (cal P k) e L st (fun x s => frzR P x s Q) E) : wpE P (cal P k) (.frz e) L st Q E := h
theorem wE_frzB {o : Bop} {a b : Ex} (h : wpE P (cal P k) (.bin o a b) L st (fun x s => frzR P x s Q) E) : wpE P (cal P k) (.frz (.bin o a b)) L st Q E := h
theorem wE_frzC {f : Bf} {es : Exs} (h : wpE P (cal P k) (.blt f es) L st (fun x s => frzR P x s Q) E) : wpE P (cal P k) (.frz (.blt f es)) L st Q E := h
theorem wE_frzL {es : Exs} (h : wpE P (cal P k) (.lst es) L st (fun x s => frzR P x s Q) E) : wpE P (cal P k) (.frz (.lst es)) L st Q E := h
theorem wE_frzS {o : Ex} {lo hi : Exs} (h : wpE P (cal P k) (.slc o lo hi) L st (fun x s => frzR P x s Q) E) : wpE P (cal P k) (.frz (.slc o lo hi)) L st Q E := h
theorem wE_frzV {i : Nat} (h : wpE P (cal P k) (.var i) L st (fun x s => frzR P x s Q) E) : wpE P (cal P k) (.frz (.var i)) L st Q E := h
theorem wA_nil {R : List D → Sto → Prop} (q : R [] st) : wpA P (cal P k) .nil L st R E := q
theorem wA_cons {R : List D → Sto → Prop} {e : Ex} {r : Exs} (h : wpE P (cal P k) e L st (fun d s => wpA P (cal P k) r L s (fun ds t => R (d :: ds) t) E) E) : wpA P (cal P k) (.cons e r) L st R E := h
theorem wA_star {R : List D → Sto → Prop} {e : Ex} {r : Exs} (h : wpE P (cal P k) e L st (fun d s => ∃ xs, rdS s d = some xs ∧ wpA P (cal P k) r L s (fun ds t => R (xs ++ ds) t) E) E) : wpA P (cal P k) (.star e r) L st R E := h
theorem wTs_nil {R : Bool → Sto → Prop} (q : R true st) : wpTs P (cal P k) .nil L st R E := q
theorem wTs_cons {R : Bool → Sto → Prop} {e : Ex} {r : Exs} (h : wpE P (cal P k) e L st (fun x q => truR x q fun b s => if b = true then wpTs P (cal P k) r L s R E else R false s) E) : wpTs P (cal P k) (.cons e r) L st R E := h
/-- a comprehension that only reads: f tells what becomes of each item -/
theorem wE_lcF {elt : Ex} {vs : List Nat} {tg : Tg} {it : It} {ifs : Exs} (items : List D) (f : D → Option D)
    (hi : ∀ R : List D → (Sto → Prop) → Sto → (Sto → Sto) → Prop, (∀ stays : Sto → Prop, stays st → R items stays st id) → wpI P (cal P k) it L st R E)
    (ht : ∀ x ∈ items, ∀ nx : Option D → Sto → Prop, nx (f x) st → tgR tg x (wipeL L vs) fun L1 => wpTs P (cal P k) ifs L1 st (fun b t => if b = true then wpE P (cal P k) elt L1 t (fun d u => nx (some d) u) X0 else nx none t) X0)
    (hl : items.length ≤ sizeLine) (q : Q (.kl (items.filterMap f)) st) : wpE P (cal P k) (.frz (.lc elt vs tg it ifs)) L st Q E := by
  refine wE_frz (hi _ fun stays hs => ?_)
  refine lcL_pure f hs items [] ht ?_
  exact newL_frz (Nat.le_trans (List.length_filterMap_le _ _) hl) (by simpa using q)
theorem wI_tup {e : Ex} {xs : List D} {R : List D → (Sto → Prop) → Sto → (Sto → Sto) → Prop} (h : ∀ R : QD, R (.tup xs) st → wpE P (cal P k) e L st R E) (q : ∀ stays : Sto → Prop, stays st → R xs stays st id) : wpI P (cal P k) (.of e) L st R E := h _ (q _ trivial)
theorem wI_kl {e : Ex} {xs : List D} {R : List D → (Sto → Prop) → Sto → (Sto → Sto) → Prop} (h : ∀ R : QD, R (.kl xs) st → wpE P (cal P k) e L st R E) (q : ∀ stays : Sto → Prop, stays st → R xs stays st id) : wpI P (cal P k) (.of e) L st R E := h _ ⟨xs, rfl, q _ rfl⟩
theorem wI_kd {e : Ex} {ks : List Key} {ds : List D} {R : List D → (Sto → Prop) → Sto → (Sto → Sto) → Prop} (h : ∀ R : QD, R (.kd ks ds) st → wpE P (cal P k) e L st R E) (q : ∀ stays : Sto → Prop, stays st → R (ks.map keyD) stays st id) : wpI P (cal P k) (.of e) L st R E := h _ (q _ trivial)
theorem wI_rng {e : Ex} {n : Nat} {R : List D → (Sto → Prop) → Sto → (Sto → Sto) → Prop} (h : ∀ R : QD, R (.int (n : Nat)) st → wpE P (cal P k) e L st R E) (hn : n ≤ 16777216) (q : ∀ stays : Sto → Prop, stays st → R ((List.range n).map fun i : Nat => D.int (i : Int)) stays st id) : wpI P (cal P k) (.rng1 e) L st R E := by
  refine h _ ⟨(n : Int), rfl, by omega, by omega, ?_, ?_⟩
  · show (n : Int).toNat ≤ sizeLine
    rw [Int.toNat_natCast]; exact hn
  · have := q (fun _ => True) trivial
    simpa using this
theorem wI_tupT {e : Ex} {xs : List D} {R : List D → (Sto → Prop) → Sto → (Sto → Sto) → Prop} (h : ∀ R : QD, R (.tup xs) st → wpE P (cal P k) e L st R E) (q : R xs (fun _ => True) st id) : wpI P (cal P k) (.of e) L st R E := h _ q
theorem wI_klT {e : Ex} {xs : List D} {R : List D → (Sto → Prop) → Sto → (Sto → Sto) → Prop} (h : ∀ R : QD, R (.kl xs) st → wpE P (cal P k) e L st R E) (q : R xs (fun _ => some xs = some xs) st id) : wpI P (cal P k) (.of e) L st R E := h _ ⟨xs, rfl, q⟩
theorem wI_rngT {e : Ex} {n : Nat} {R : List D → (Sto → Prop) → Sto → (Sto → Sto) → Prop} (h : ∀ R : QD, R (.int (n : Nat)) st → wpE P (cal P k) e L st R E) (hn : n ≤ 16777216) (q : R ((List.range n).map fun i : Nat => D.int (i : Int)) (fun _ => True) st id) : wpI P (cal P k) (.rng1 e) L st R E := by
  refine h _ ⟨(n : Int), rfl, by omega, by omega, ?_, ?_⟩
  · show (n : Int).toNat ≤ sizeLine
    rw [Int.toNat_natCast]; exact hn
  · simpa using q
theorem wI_rngS {e : Ex} {R : List D → (Sto → Prop) → Sto → (Sto → Sto) → Prop} (h : wpE P (cal P k) e L st (fun x s => ∃ n : Nat, x = .int (n : Nat) ∧ n ≤ 16777216 ∧ R ((List.range n).map fun i : Nat => D.int (i : Int)) (fun _ => True) s id) E) : wpI P (cal P k) (.rng1 e) L st R E := by
  refine wpE_mono (cal_mono P k) e (fun x s ⟨n, e1, hn, q⟩ => ?_) h
  refine ⟨(n : Int), e1, by omega, by omega, ?_, ?_⟩
  · show (n : Int).toNat ≤ sizeLine
    rw [Int.toNat_natCast]; exact hn
  · simpa using q
theorem wSs_mid {s : Sm} {t : Sms} (Mid : Loc → Sto → Prop) (h1 : wpS P (cal P k) s L st ⟨fun L' st' => Dr st' (Mid L'), r, bb, cc⟩ E) (h2 : ∀ L' s', Mid L' s' → wpSs P (cal P k) t L' s' ⟨n, r, bb, cc⟩ E) : wpSs P (cal P k) (.cons s t) L st ⟨n, r, bb, cc⟩ E := by
  refine wpS_mono (cal_mono P k) s ?_ h1
  exact ⟨fun _ _ q => q.mono fun s hs => h2 _ s hs, fun _ _ q => q, fun _ _ q => q, fun _ _ q => q⟩
theorem wI_zip {a b : Ex} {x y : D} {xs ys : List D} {R : List D → (Sto → Prop) → Sto → (Sto → Sto) → Prop} (h : ∀ R : QD, R x st → wpE P (cal P k) a L st R E) (h2 : ∀ R : QD, R y st → wpE P (cal P k) b L st R E)
    (hx : (x = .tup xs ∧ y = .tup ys) ∨ (x = .kl xs ∧ y = .kl ys)) (q : ∀ stays : Sto → Prop, stays st → R ((xs.zip ys).map fun p => D.tup [p.1, p.2]) stays st id) : wpI P (cal P k) (.zip a b) L st R E := by
  refine h _ (h2 _ ?_)
  rcases hx with ⟨rfl, rfl⟩ | ⟨rfl, rfl⟩
  · exact .inl ⟨xs, ys, rfl, rfl, q _ trivial⟩
  · exact .inr ⟨xs, ys, rfl, rfl, q _ ⟨rfl, rfl⟩⟩
theorem tg_nm {i : Nat} {d : D} {R : Loc → Prop} (q : R (L.set i (some d))) : tgR (.nm i) d L R := q
theorem tg_tp {is : List Nat} {xs : List D} {L' : Loc} {R : Loc → Prop} (h : setAll L is xs = some L') (q : R L') : tgR (.tp is) (.tup xs) L R := ⟨L', h, q⟩
theorem tru_bl {b : Bool} {R : Bool → Sto → Prop} (q : R b st) : truR (.bl b) st R := q
theorem tru_int {i : Int} {R : Bool → Sto → Prop} (q : R (i != 0) st) : truR (.int i) st R := q
theorem tru_non {R : Bool → Sto → Prop} (q : R false st) : truR .non st R := q
theorem tru_tup {xs : List D} {R : Bool → Sto → Prop} (q : R (!xs.isEmpty) st) : truR (.tup xs) st R := q
theorem tru_kl {xs : List D} {R : Bool → Sto → Prop} (q : R (!xs.isEmpty) st) : truR (.kl xs) st R := ⟨xs, rfl, q⟩
theorem tru_ref {a : Addr} {xs : List D} {R : Bool → Sto → Prop} (hs : st a = some (.lst xs)) (q : R (!xs.isEmpty) st) : truR (.ref a) st R := ⟨xs, by unfold rdL; simp only [hs], q⟩
theorem wI_enumT {e : Ex} {xs : List D} {R : List D → (Sto → Prop) → Sto → (Sto → Sto) → Prop} (h : ∀ R : QD, R (.kl xs) st → wpE P (cal P k) e L st R E) (q : R (xs.zipIdx.map fun p => D.tup [.int (p.2 : Nat), p.1]) (fun _ => some xs = some xs) st id) : wpI P (cal P k) (.enum e) L st R E := h _ (.inr ⟨xs, rfl, q⟩)
theorem op_addI {i j : Int} (q : Q (.int (i + j)) st) : bopR .add (.int i) (.int j) st Q := q
theorem op_subI {i j : Int} (q : Q (.int (i - j)) st) : bopR .sub (.int i) (.int j) st Q := q
theorem op_mulI {i j : Int} (h : CMul i j) (q : Q (.int (i * j)) st) : bopR .mul (.int i) (.int j) st Q := ⟨h, q⟩
theorem op_mulL {i j : Int} (h : -(2 ^ 64) < i ∧ i < 2 ^ 64) (q : Q (.int (i * j)) st) : bopR .mul (.int i) (.int j) st Q := ⟨.inl h, q⟩
theorem op_mulR {i j : Int} (h : -(2 ^ 64) < j ∧ j < 2 ^ 64) (q : Q (.int (i * j)) st) : bopR .mul (.int i) (.int j) st Q := ⟨.inr h, q⟩
theorem op_powI {i j : Int} (h : CPow i j) (q : Q (.int (i ^ j.toNat)) st) : bopR .pow (.int i) (.int j) st Q := ⟨h, q⟩
theorem op_fdivI {i j : Int} (h : 0 < j ∧ j < 1073741824) (q : Q (.int (i / j)) st) : bopR .fdiv (.int i) (.int j) st Q := ⟨h, q⟩
theorem op_modI {i j : Int} (h : 0 < j) (q : Q (.int (i % j)) st) : bopR .mod (.int i) (.int j) st Q := ⟨h, q⟩
theorem op_addT {xs ys : List D} (h : (xs ++ ys).length ≤ sizeLine) (q : Q (.tup (xs ++ ys)) st) : bopR .add (.tup xs) (.tup ys) st Q := ⟨h, q⟩
theorem op_addK {xs ys : List D} (h : (xs ++ ys).length ≤ sizeLine) (q : Q (.kl (xs ++ ys)) st) : bopR .add (.kl xs) (.kl ys) st (fun x s => frzR P x s Q) := ⟨xs, ys, rfl, rfl, newL_frz h q⟩
theorem op_mulRef {a : Addr} {xs : List D} {j : Nat} (hs : st a = some (.lst xs)) (hj : j ≤ 1) (hl : xs.length ≤ 1000) (q : Q (.kl (List.replicate j xs).flatten) st) : bopR .mul (.ref a) (.int (j : Nat)) st (fun x s => frzR P x s Q) := by
  refine ⟨xs, hs, by omega, by omega, ?_, ?_⟩
  · rw [Int.toNat_natCast]
    have : xs.length * j ≤ xs.length * 1 := Nat.mul_le_mul_left _ hj
    show _ ≤ 16777216
    omega
  · rw [Int.toNat_natCast]
    refine newL_frz ?_ q
    show _ ≤ 16777216
    rcases Nat.lt_or_ge 0 j with h | h
    · have : j = 1 := by omega
      subst this; simp; omega
    · have : j = 0 := by omega
      subst this; simp
theorem c_gtI {i j : Int} (q : Q (.bl (decide (i > j))) st) : copR .gt (.int i) (.int j) st Q := q
theorem c_ltI {i j : Int} (q : Q (.bl (decide (i < j))) st) : copR .lt (.int i) (.int j) st Q := q
theorem c_geI {i j : Int} (q : Q (.bl (decide (i ≥ j))) st) : copR .ge (.int i) (.int j) st Q := q
theorem c_leI {i j : Int} (q : Q (.bl (decide (i ≤ j))) st) : copR .le (.int i) (.int j) st Q := q
theorem ix_tup {xs : List D} {i : Int} {d : D} (h : atI xs i = some d) (q : Q d st) : idxR (.tup xs) (.int i) st Q := ⟨i, d, rfl, h, q⟩
theorem ix_kl {xs : List D} {i : Int} {d : D} (h : atI xs i = some d) (q : Q d st) : idxR (.kl xs) (.int i) st Q := ⟨xs, i, d, rfl, rfl, h, q⟩
theorem ix_sl {xs : List D} {i : Int} {d : D} (h : atI xs i = some d) (q : Q d st) : idxR (.sl xs) (.int i) st Q := ⟨xs, i, d, rfl, rfl, h, q⟩
theorem ix_ref {a : Addr} {xs : List D} {i : Int} {d : D} (hs : st a = some (.lst xs)) (h : atI xs i = some d) (q : Q d st) : idxR (.ref a) (.int i) st Q := by
  unfold idxR rdD; simp only [hs]
  exact ⟨xs, i, d, by unfold rdL; simp only [hs], rfl, h, q⟩
theorem ix_kd {ks : List Key} {ds : List D} {y : D} {ky : Key} {d : D} (hk : keyOf y = some ky) (h : valD (ks.zip ds) ky = some d) (q : Q d st) : idxR (.kd ks ds) y st Q := ⟨ky, d, hk, h, q⟩
theorem atI_nat {xs : List D} {i : Nat} {d : D} (h : xs[i]? = some d) : atI xs (i : Nat) = some d := by
  have lt := (List.getElem?_eq_some_iff.mp h).1
  unfold atI ixN
  rw [if_pos (by omega), if_pos (by omega)]
  simpa using h
theorem put_none {a b : Addr} {o : O} (h : put st a o b = none) : b ≠ a ∧ st b = none := by
  have : b ≠ a := fun e => by rw [e, put_same] at h; cases h
  exact ⟨this, by rw [put_ne this] at h; exact h⟩
theorem some_ne {a b : Addr} {o : O} (h : st a = some o) (h2 : st b = none) : a ≠ b := sto_ne h h2
def bmA (m : Bm) (x : D) (s : Sto) (R : Prop) : Prop := bmOk m x s ∧ R
theorem bmA_ref {m : Bm} {a : Addr} {xs : List D} {R : Prop} (hs : st a = some (.lst xs)) (hm : bmK m = .lst) (q : R) : bmA m (.ref a) st R := ⟨by unfold bmOk; rw [hm]; unfold rdL; simp [hs], q⟩
theorem wE_bm {m : Bm} {o : Ex} {es : Exs} (h : wpE P (cal P k) o L st (fun x s => bmA m x s (wpA P (cal P k) es L s (fun ds t => bmR m x ds t Q) E)) E) : wpE P (cal P k) (.bm m o es) L st Q E := h
theorem bm_append {a : Addr} {xs : List D} {d : D} (hs : st a = some (.lst xs)) (h : xs.length < sizeLine) (q : Q .non (put st a (.lst (xs ++ [d])))) : bmR .append (.ref a) [d] st Q := ⟨xs, hs, h, q⟩
theorem bm_extend {a : Addr} {xs ys : List D} (hs : st a = some (.lst xs)) (h : xs.length + ys.length ≤ sizeLine) (q : Q .non (put st a (.lst (xs ++ ys)))) : bmR .extend (.ref a) [.kl ys] st Q := ⟨xs, ys, hs, rfl, h, q⟩
theorem bm_popi {a : Addr} {xs : List D} {i : Nat} {y : D} (hs : st a = some (.lst xs)) (hy : xs[i]? = some y) (q : Q y (put st a (.lst (xs.eraseIdx i)))) : bmR .pop (.ref a) [.int (i : Nat)] st Q := ⟨xs, y, hs, by omega, by simpa using hy, by simpa using q⟩
theorem b_listN {w : D} {xs : List D} (hw : w = .kl xs ∨ w = .tup xs) (q : newL xs st Q) : bltR .list [w] st Q := by
  rcases hw with rfl | rfl <;> exact q
theorem b_isi2 {d : D} {n m : String} {b c : Bool} (h1 : isiB st d n = some b) (h2 : isiB st d m = some c) (q : Q (.bl (b || c)) st) : bltR .isinstance [d, .tup [.ty n, .ty m]] st Q := ⟨b, c, h1, h2, q⟩
theorem b_isi {d : D} {n : String} {b : Bool} (h1 : isiB st d n = some b) (q : Q (.bl b) st) : bltR .isinstance [d, .ty n] st Q := ⟨b, h1, q⟩
theorem at_of {x d : D} {f : Str} (h : attV P x f st = some d) (q : Q d st) : attR P x f st Q := ⟨d, h, q⟩
theorem mth_of {x : D} {m c : Str} {fd : Fd} {R : Str → Fd → Prop} (h1 : mthC P x m st c) (h2 : P.fns.lookup (c, m) = some fd) (q : R c fd) : mthR P x m st R := ⟨c, fd, h1, h2, q⟩
theorem wS_whl {c : Ex} {b : Sms} (W : Nat → Loc → Sto → Prop) (m : Nat) (h0 : W m L st)
    (h : ∀ m L st, W m L st → wpE P (cal P k) c L st (fun x s => truR x s fun j s => if j = true then wpSs P (cal P k) b L s ⟨fun L' s' => Dr s' fun s'' => ∃ m', m' < m ∧ W m' L' s'', r, n, fun L' s' => Dr s' fun s'' => ∃ m', m' < m ∧ W m' L' s''⟩ E else n L s) E) : wpS P (cal P k) (.whl c b) L st ⟨n, r, bb, cc⟩ E := ⟨W, ⟨m, h0⟩, h⟩
theorem satt_of {a : Addr} {c f : Str} {fs fs' : List (Str × D)} {cd : Cd} {i : Nat} {d : D} {R : Sto → Prop} (hs : st a = some (.ins c fs)) (hl : fs.length < 900) (hc : P.cls.lookup c = some cd) (hi : ixOf f cd.slots = some i) (he : setF f d fs = fs') (q : R (put st a (.ins c fs'))) : sattR P (.ref a) d f st R := ⟨a, c, fs, cd, i, rfl, hs, hl, hc, hi, by rw [he]; exact q⟩
theorem new_of {c : Str} {ds : List D} {fd : Fd} (h : P.fns.lookup (c, ("__init__" : Str)) = some fd) (hd : fd.dfl = []) (hl : ds.length + 1 = fd.ps.length) (q : ∀ p, st p = none → cal P k c "__init__" (.ref p :: ds) (put st p (.ins c [])) (fun v s => v = .non ∧ Q (.ref p) s) E) : newR P (cal P k) c ds [] st Q E := by
  refine ⟨fd, h, fun p hp => ⟨.ref p :: ds, ?_, q p hp⟩⟩
  unfold bindK
  rw [if_pos rfl, hd]
  simp [hl]
theorem cal_non {k : Nat} {c f : Str} {ds : List D} {fd : Fd} (h : P.fns.lookup (c, f) = some fd) (hl : ds.length = fd.ps.length)
    (g : wpSs P (cal P k) fd.body (ds.map some ++ List.replicate (fd.n - ds.length) none) st ⟨fun _ s => Dr s (Q .non), fun d s => Dr s (Q d), fun _ _ => False, fun _ _ => False⟩ E) : cal P (k + 1) c f ds st Q E := ⟨fd, h, hl, g⟩
theorem b_len_kl {xs : List D} (q : Q (.int xs.length) st) : bltR .len [.kl xs] st Q := q
theorem b_len_tup {xs : List D} (q : Q (.int xs.length) st) : bltR .len [.tup xs] st Q := q
theorem b_len_sl {xs : List D} (q : Q (.int xs.length) st) : bltR .len [.sl xs] st Q := q
theorem b_len_kd {ks : List Key} {xs : List D} (q : Q (.int ks.length) st) : bltR .len [.kd ks xs] st Q := q
theorem b_len_ref {a : Addr} {xs : List D} (hs : st a = some (.lst xs)) (q : Q (.int xs.length) st) : bltR .len [.ref a] st Q := by
  unfold bltR; simp only [hs]; exact q
theorem b_int_int {i : Int} (q : Q (.int i) st) : bltR .int [.int i] st Q := q
theorem b_int_bl {b : Bool} (q : Q (.int (if b then 1 else 0)) st) : bltR .int [.bl b] st Q := q
theorem b_abs {i : Int} (q : Q (.int (if i < 0 then -i else i)) st) : bltR .abs [.int i] st Q := q
theorem b_min {i j : Int} (q : Q (.int (if j < i then j else i)) st) : bltR .min [.int i, .int j] st Q := q
theorem b_all {xs : List D} {bs : List Bool} (h : allB xs = some bs) (q : Q (.bl (bs.all id)) st) : bltR .all [.kl xs] st Q := ⟨xs, bs, rfl, h, q⟩
theorem b_any {xs : List D} {bs : List Bool} (h : allB xs = some bs) (q : Q (.bl (bs.any id)) st) : bltR .any [.kl xs] st Q := ⟨xs, bs, rfl, h, q⟩
theorem b_tuple_kl {xs : List D} (h : xs.length ≤ sizeLine) (q : Q (.tup xs) st) : bltR .tuple [.kl xs] st Q := ⟨xs, rfl, h, q⟩
theorem b_tuple_ref {a : Addr} {xs : List D} (hs : st a = some (.lst xs)) (h : xs.length ≤ sizeLine) (q : Q (.tup xs) st) : bltR .tuple [.ref a] st Q := ⟨xs, by unfold rdL; simp only [hs], h, q⟩
theorem b_list_kl {xs : List D} (h : xs.length ≤ sizeLine) (q : Q (.kl xs) st) : bltR .list [.kl xs] st (fun x s => frzR P x s Q) := newL_frz h q
theorem b_list_tup {xs : List D} (h : xs.length ≤ sizeLine) (q : Q (.kl xs) st) : bltR .list [.tup xs] st (fun x s => frzR P x s Q) := newL_frz h q
theorem b_list_kd {ks : List Key} {ds : List D} (h : ks.length ≤ sizeLine) (q : Q (.kl (ks.map keyD)) st) : bltR .list [.kd ks ds] st (fun x s => frzR P x s Q) := newL_frz (by simpa using h) q
theorem slc_kl {xs : List D} {lo hi : Option Int} (h : xs.length ≤ sizeLine) (q : Q (.kl (cutD xs lo hi)) st) : slcR (.kl xs) lo hi st (fun x s => frzR P x s Q) :=
  ⟨xs, rfl, newL_frz (Nat.le_trans (by unfold cutD; rw [List.length_take, List.length_drop]; omega) h) q⟩
theorem slc_sl {xs : List D} {lo hi : Option Int} (h : xs.length ≤ sizeLine) (q : Q (.kl (cutD xs lo hi)) st) : slcR (.sl xs) lo hi st (fun x s => frzR P x s Q) :=
  ⟨xs, rfl, newL_frz (Nat.le_trans (by unfold cutD; rw [List.length_take, List.length_drop]; omega) h) q⟩
theorem slc_tup {xs : List D} {lo hi : Option Int} (q : Q (.tup (cutD xs lo hi)) st) : slcR (.tup xs) lo hi st Q := q
theorem b_set {w : D} {ss : List Str} (hw : rdS st w = some (ss.map D.str)) (hl : ss.length < 4000) (q : ∀ p, st p = none → Q (.ref p) (put st p (.set (ddp ss)))) : bltR .set [w] st Q := ⟨_, ss, hw, rfl, by rw [show scanBound = 4096 from rfl]; omega, q⟩
theorem b_sort_set {a : Addr} {ks : List Str} (hs : st a = some (.set ks)) (q : ∀ ys : List Str, ys.Perm ks → PyProof.Rows.sortedS ys = true → newL (ys.map D.str) st Q) : bltR .sorted [.ref a] st Q := by
  have h1 : rdS st (.ref a) = none := by unfold rdS rdL; simp [hs]
  have h2 : rdD st (.ref a) = none := by unfold rdD; simp [hs]
  unfold bltR
  simp only [h1, h2]
  exact ⟨a, ks, rfl, hs, q⟩
theorem newT_of {xs : List D} (h : xs.length ≤ sizeLine) (q : Q (.tup xs) st) : newT xs st Q := ⟨h, q⟩
theorem newL_of {xs : List D} (h : xs.length ≤ sizeLine) (q : ∀ p, st p = none → Q (.ref p) (put st p (.lst xs))) : newL xs st Q := ⟨h, q⟩
theorem frz_kl {xs : List D} (q : Q (.kl xs) st) : frzR P (.kl xs) st Q := q
theorem frz_tup {xs : List D} (q : Q (.tup xs) st) : frzR P (.tup xs) st Q := q
theorem frz_int {i : Int} (q : Q (.int i) st) : frzR P (.int i) st Q := q
theorem frz_ref {a : Addr} {xs : List D} (hs : st a = some (.lst xs)) (q : Q (.kl xs) (del st a)) : frzR P (.ref a) st Q := by
  unfold frzR; simp only [hs]; exact q
theorem len_fits (n : Nat) {xs : List D} (h : xs.length ≤ n) (hn : n ≤ 16777216 := by decide) : xs.length ≤ sizeLine := Nat.le_trans h hn
end
end Py

set_option Elab.async false
set_option linter.all false
set_option maxRecDepth 100000
set_option maxHeartbeats 4000000
/-! The laws' own draws. -/
namespace Py
open PySem PySem.Spec PyProof.Rows L2
local macro_rules | `(tactic| trace "K") => `(tactic| first | assumption | exact put_same | exact (put_ne (by assumption)).trans put_same | exact (put_ne (by assumption)).trans (by assumption) | exact (put_ne (by assumption)).trans ((put_ne (by assumption)).trans put_same) | exact (put_ne (by assumption)).trans ((put_ne (by assumption)).trans (by assumption)))
local macro_rules | `(tactic| trace "V") => `(tactic| repeat (first | (with_reducible first | refine wSs_cons ?_ | refine wSs_nil ?_ | refine wS_exp ?_ | refine wS_ret ?_ | refine wS_pass ?_ | refine wS_asg ?_ | refine wS_par ?_ | refine wS_iff ?_ | refine wS_brk ?_ | refine wS_cnt ?_ | refine wE_non ?_ | refine wE_bl ?_ | refine wE_int ?_ | refine wE_str ?_ | refine wE_bty ?_ | refine wE_bin ?_ | refine wE_cmp ?_ | refine wE_and ?_ | refine wE_or ?_ | refine wE_not ?_ | refine wE_ite ?_ | refine wE_tup ?_ | refine wE_lst ?_ | refine wE_call ?_ | refine wE_blt ?_ | refine wE_att ?_ | refine wE_idx ?_ | refine wE_slc ?_ | refine wE_frzB ?_ | refine wE_frzC ?_ | refine wE_frzL ?_ | refine wE_frzS ?_ | refine wE_frzV ?_ | refine wA_nil ?_ | refine wA_cons ?_ | refine wTs_nil ?_ | refine wTs_cons ?_ | refine tg_nm ?_ | refine tru_bl ?_ | refine tru_int ?_ | refine tru_non ?_ | refine tru_tup ?_ | refine tru_kl ?_ | refine op_addI ?_ | refine op_subI ?_ | refine frz_kl ?_ | refine frz_tup ?_ | refine frz_int ?_ | refine c_gtI ?_ | refine c_ltI ?_ | refine c_geI ?_ | refine c_leI ?_ | refine b_len_kl ?_ | refine b_len_tup ?_ | refine b_len_sl ?_ | refine b_len_kd ?_ | refine b_int_int ?_ | refine b_int_bl ?_ | refine b_abs ?_ | refine b_min ?_ | refine wS_ssub ?_ | refine wE_mth ?_ | refine wE_bm ?_ | refine wE_negI ?_ | refine wE_new ?_ | refine wS_satt ?_ | refine opt_n ?_ | refine opt_i ?_) | ((with_reducible apply wE_var); (rfl)) | ((with_reducible apply tg_tp); (rfl)) | ((with_reducible apply par_of); (rfl)) | ((with_reducible apply newT_of); (exact Nat.le_of_ble_eq_true rfl)) | ((with_reducible apply newL_frz); (exact Nat.le_of_ble_eq_true rfl)) | ((with_reducible apply ix_ref); (first | assumption | exact put_same | exact (put_ne (by assumption)).trans put_same | exact (put_ne (by assumption)).trans (by assumption) | exact (put_ne (by assumption)).trans ((put_ne (by assumption)).trans put_same) | exact (put_ne (by assumption)).trans ((put_ne (by assumption)).trans (by assumption))); (rfl)) | ((with_reducible apply ssub_ref); (first | assumption | exact put_same | exact (put_ne (by assumption)).trans put_same | exact (put_ne (by assumption)).trans (by assumption) | exact (put_ne (by assumption)).trans ((put_ne (by assumption)).trans put_same) | exact (put_ne (by assumption)).trans ((put_ne (by assumption)).trans (by assumption))); (rfl)) | ((with_reducible apply ix_tup); (rfl)) | ((with_reducible apply ix_kl); (rfl)) | ((with_reducible apply op_modI); (first | assumption | decide)) | ((with_reducible apply op_fdivI); (first | (constructor <;> assumption) | decide)) | ((with_reducible apply op_mulL); (decide)) | ((with_reducible apply op_mulR); (decide)) | ((with_reducible apply b_len_ref); (first | assumption | exact put_same | exact (put_ne (by assumption)).trans put_same | exact (put_ne (by assumption)).trans (by assumption) | exact (put_ne (by assumption)).trans ((put_ne (by assumption)).trans put_same) | exact (put_ne (by assumption)).trans ((put_ne (by assumption)).trans (by assumption)))) | ((with_reducible apply bmA_ref); (first | assumption | exact put_same | exact (put_ne (by assumption)).trans put_same | exact (put_ne (by assumption)).trans (by assumption) | exact (put_ne (by assumption)).trans ((put_ne (by assumption)).trans put_same) | exact (put_ne (by assumption)).trans ((put_ne (by assumption)).trans (by assumption))); (rfl))))
def f_i_law_box_b17dc2 : Fd := ⟨["_law_script", "_law_k"], 3, [], (.cons (.asg (.nm 2) (.ite (.cmp .lt (.var 1) (.blt .len (.cons (.var 0) .nil))) (.idx (.var 0) (.var 1)) (.int 0))) (.cons (.ret (.lst (.cons (.bin .mul (.blt .abs (.cons (.var 2) .nil)) (.blt .int (.cons (.cmp .ge (.blt .abs (.cons (.var 2) .nil)) (.bin .pow (.int 10) (.int 18))) .nil))) (.cons (.bin .add (.bin .add (.bin .mod (.blt .int (.cons (.var 2) .nil)) (.int 2305843009213693951)) (.bin .mul (.int 39373) (.var 1))) (.int 211)) (.cons (.int 0) .nil))))) .nil))⟩
def f_i_law_take_3a2ad2 : Fd := ⟨["_law_box_here", "_law_below"], 6, [], (.cons (.iff (.cmp .gt (.idx (.var 0) (.int 0)) (.int 0)) (.cons (.asg (.nm 2) (.bin .mod (.blt .int (.cons (.idx (.var 0) (.int 0)) .nil)) (.var 1))) (.cons (.ssub (.var 0) (.int 0) (.bin .fdiv (.idx (.var 0) (.int 0)) (.var 1))) (.cons (.ret (.var 2)) .nil))) .nil) (.cons (.ssub (.var 0) (.int 2) (.bin .add (.idx (.var 0) (.int 2)) (.int 1))) (.cons (.asg (.nm 3) (.bin .mod (.blt .int (.cons (.bin .mul (.bin .add (.idx (.var 0) (.int 1)) (.bin .mul (.int 48271) (.idx (.var 0) (.int 2)))) (.bin .add (.int 39373) (.idx (.var 0) (.int 2)))) .nil)) (.int 2147483647))) (.cons (.asg (.nm 4) (.bin .add (.bin .mod (.blt .int (.cons (.var 3) .nil)) (.int 40009)) (.int 7))) (.cons (.asg (.nm 5) (.bin .mod (.blt .int (.cons (.bin .mul (.bin .add (.frz (.bin .add (.var 3) (.idx (.var 0) (.int 2)))) (.bin .fdiv (.idx (.var 0) (.int 1)) (.int 1000003))) (.var 4)) .nil)) (.int 2147483629))) (.cons (.ret (.bin .mod (.blt .int (.cons (.bin .fdiv (.bin .mod (.blt .int (.cons (.frz (.bin .add (.frz (.bin .mul (.var 5) (.int 48271))) (.var 3))) .nil)) (.int 2147483587)) (.int 64)) .nil)) (.var 1))) .nil))))))⟩
def f_i_law_cells_2580d9 : Fd := ⟨["_law_script", "_law_most"], 6, [], (.cons (.asg (.nm 2) (.or (.blt .list (.cons (.frz (.slc (.var 0) .nil (.cons (.var 1) .nil))) .nil)) (.lst (.cons (.int 0) .nil)))) (.cons (.for_ (.tp [3, 4]) (.enum (.frz (.slc (.var 0) (.cons (.var 1) .nil) (.cons (.int 63) .nil)))) (.cons (.asg (.nm 5) (.bin .mod (.blt .int (.cons (.var 3) .nil)) (.var 1))) (.cons (.ssub (.var 2) (.var 5) (.bin .add (.idx (.var 2) (.var 5)) (.bin .mul (.var 4) (.bin .add (.var 3) (.int 2))))) .nil))) (.cons (.ret (.frz (.var 2))) .nil)))⟩
def f_i_law_of_0f7692 : Fd := ⟨["_law_box_here", "_law_some_here"], 2, [], (.cons (.ret (.idx (.var 1) (.call "_law_take" (.cons (.var 0) (.cons (.blt .len (.cons (.var 1) .nil)) .nil)) []))) .nil)⟩
def f_i_law_names_1e383e : Fd := ⟨["_law_box_here", "_law_many_so"], 5, [], (.cons (.par [2, 3] (.cons (.lst (.cons (.str "a") (.cons (.str "ab") (.cons (.str "b") (.cons (.str "bus") (.cons (.str "c") (.cons (.str "clk") (.cons (.str "d") (.cons (.str "e") (.cons (.str "gpio") (.cons (.str "x") .nil))))))))))) (.cons (.lst .nil) .nil))) (.cons (.for_ (.nm 4) (.rng1 (.var 1)) (.cons (.exp (.bm .append (.var 3) (.cons (.bm .pop (.var 2) (.cons (.call "_law_take" (.cons (.var 0) (.cons (.blt .len (.cons (.var 2) .nil)) .nil)) []) .nil)) .nil))) .nil)) (.cons (.ret (.frz (.blt .sorted (.cons (.var 3) .nil)))) .nil)))⟩
def f_i_law_some_c1ed9a : Fd := ⟨["_law_box_here", "_law_names_so", "_law_many_so"], 6, [], (.cons (.par [3, 4] (.cons (.blt .list (.cons (.var 1) .nil)) (.cons (.lst .nil) .nil))) (.cons (.for_ (.nm 5) (.rng1 (.blt .min (.cons (.var 2) (.cons (.blt .len (.cons (.var 3) .nil)) .nil)))) (.cons (.exp (.bm .append (.var 4) (.cons (.bm .pop (.var 3) (.cons (.call "_law_take" (.cons (.var 0) (.cons (.blt .len (.cons (.var 3) .nil)) .nil)) []) .nil)) .nil))) .nil)) (.cons (.ret (.frz (.var 4))) .nil)))⟩
/-- the list of draws: there are m more -/
def BxO (m : Nat) (o : O) : Prop := ∃ a b c : Int, o = .lst [.int a, .int b, .int c] ∧ 0 ≤ a ∧ 0 ≤ c ∧ c + m ≤ 2 ^ 60
theorem BxO.le {m n : Nat} {o : O} (h : BxO m o) (l : n ≤ m) : BxO n o := by
  obtain ⟨a, b, c, e, h1, h2, h3⟩ := h
  exact ⟨a, b, c, e, h1, h2, by omega⟩
section
variable {P : Prog} {E : XD}
theorem take_ok {k : Nat} {st : Sto} {p : Addr} {o : O} {m : Nat} {n : Int} {Q : QD} (hP : Has P "" "_law_take" f_i_law_take_3a2ad2) (hb : BxO (m + 1) o) (hst : st p = some o) (hn : 0 < n) (hn2 : n < 1073741824)
    (q : ∀ (r : Nat) (o' : O), r < n.toNat → BxO m o' → Q (.int r) (put st p o')) : cal P (k + 1) "" "_law_take" [.ref p, .int n] st Q E := by
  obtain ⟨a, b, c, rfl, h1, h2, h3⟩ := hb
  refine cal_of hP rfl ?_
  simp only [f_i_law_take_3a2ad2, List.map_cons, List.map_nil, List.length_cons, List.length_nil, Nat.reduceAdd, Nat.reduceSub, Nat.zero_add, List.replicate, List.cons_append, List.nil_append]
  trace "V"
  by_cases ha : a > 0
  · rw [if_pos (decide_eq_true ha)]
    trace "V"
    refine Dr.refl ?_
    have h5 : 0 ≤ a % n := Int.emod_nonneg _ (by omega)
    have h6 : a % n < n := Int.emod_lt_of_pos _ hn
    have h7 := q (a % n).toNat (.lst [.int (a / n), .int b, .int c]) (by omega) ⟨a / n, b, c, rfl, Int.ediv_nonneg h1 (by omega), h2, by omega⟩
    rw [Int.toNat_of_nonneg h5] at h7
    exact h7
  · rw [if_neg (by simpa using ha)]
    trace "V"
    refine op_mulI (.inr ⟨by omega, by omega⟩) ?_
    trace "V"
    refine op_mulI (.inr ⟨by omega, by omega⟩) ?_
    trace "V"
    refine Dr.refl ?_
    generalize (((b + 48271 * (c + 1)) * (39373 + (c + 1)) % 2147483647 + (c + 1) + b / 1000003) * ((b + 48271 * (c + 1)) * (39373 + (c + 1)) % 2147483647 % 40009 + 7) % 2147483629 * 48271 + (b + 48271 * (c + 1)) * (39373 + (c + 1)) % 2147483647) % 2147483587 / 64 = z
    have h5 : 0 ≤ z % n := Int.emod_nonneg _ (by omega)
    have h6 : z % n < n := Int.emod_lt_of_pos _ hn
    have h7 := q (z % n).toNat (.lst [.int a, .int b, .int (c + 1)]) (by omega) ⟨a, b, c + 1, rfl, h1, by omega, by omega⟩
    rw [Int.toNat_of_nonneg h5] at h7
    exact h7
/-- some_here[take(box, len)] -/
theorem of_ok {k : Nat} {st : Sto} {p : Addr} {o : O} {m : Nat} {xs : List D} {Q : QD} (hT : Has P "" "_law_take" f_i_law_take_3a2ad2) (hP : Has P "" "_law_of" f_i_law_of_0f7692) (hb : BxO (m + 1) o) (hst : st p = some o) (hn : 0 < xs.length) (hn2 : xs.length < 1073741824)
    (q : ∀ (r : Nat) (d : D) (o' : O), xs[r]? = some d → BxO m o' → Q d (put st p o')) : cal P (k + 2) "" "_law_of" [.ref p, .kl xs] st Q E := by
  refine cal_of hP rfl ?_
  simp only [f_i_law_of_0f7692, List.map_cons, List.map_nil, List.length_cons, List.length_nil, Nat.reduceAdd, Nat.reduceSub, Nat.zero_add, List.replicate, List.cons_append, List.nil_append]
  trace "V"
  refine call_of hT rfl rfl (take_ok hT hb hst (by omega) (by omega) fun r o' h1 h2 => ?_)
  obtain ⟨d, hd⟩ : ∃ d, xs[r]? = some d := ⟨xs[r]'(by omega), by simp⟩
  refine ix_kl (atI_nat hd) (Dr.refl (q r d o' hd h2))
theorem put3 {st : Sto} {p p1 p2 : Addr} {o o' a b : O} (h1 : p ≠ p1) (h2 : p ≠ p2) : put (put (put (put st p o) p1 a) p2 b) p o' = put (put (put st p o') p1 a) p2 b := by
  rw [put_swap h2.symm, put_swap h1.symm, put_put]
theorem erase_perm0 : ∀ {xs : List D} {r : Nat} {d : D}, xs[r]? = some d → (d :: xs.eraseIdx r).Perm xs
  | [], _, _, h => by simp at h
  | x :: xs, 0, d, h => by
    simp only [List.getElem?_cons_zero, Option.some.injEq] at h
    subst h; exact List.Perm.refl _
  | x :: xs, r + 1, d, h => by
    have ih := erase_perm0 (xs := xs) (r := r) (d := d) (by simpa using h)
    rw [List.eraseIdx_cons_succ]
    exact (List.Perm.swap _ _ _).trans (ih.cons x)
theorem erase_perm {xs ys : List D} {r : Nat} {d : D} (h : xs[r]? = some d) : (ys ++ [d] ++ xs.eraseIdx r).Perm (ys ++ xs) := by
  rw [List.append_assoc]
  exact List.Perm.append_left _ (erase_perm0 h)
/-- up to so many of some names, drawn -/
theorem some_ok {k : Nat} {st : Sto} {p : Addr} {o : O} {m : Nat} {xs : List D} {w : D} {n : Int} {Q : QD} (hT : Has P "" "_law_take" f_i_law_take_3a2ad2) (hP : Has P "" "_law_some" f_i_law_some_c1ed9a) (hb : BxO (m + xs.length) o) (hst : st p = some o) (hw : w = .kl xs ∨ w = .tup xs) (hn2 : xs.length < 1000) (hn : 0 ≤ n)
    (q : ∀ (ys : List D) (o' : O), (∃ zs, (ys ++ zs).Perm xs) → ys.length = min n.toNat xs.length → BxO m o' → Q (.kl ys) (put st p o')) : cal P (k + 2) "" "_law_some" [.ref p, w, .int n] st Q E := by
  refine cal_of hP rfl ?_
  simp only [f_i_law_some_c1ed9a, List.map_cons, List.map_nil, List.length_cons, List.length_nil, Nat.reduceAdd, Nat.reduceSub, Nat.zero_add, List.replicate, List.cons_append, List.nil_append]
  trace "V"
  refine b_listN hw (newL_of (len_fits 1000 (by omega)) fun p1 hp1 => ?_)
  trace "V"
  refine newL_of (Nat.zero_le _) fun p2 hp2 => ?_
  obtain ⟨n21, hp2⟩ := put_none hp2
  have np1 := some_ne hst hp1
  have np2 := some_ne hst hp2
  have n12 := n21.symm
  trace "V"
  refine wS_for (wI_rngT (n := min n.toNat xs.length) (fun R hR => ?_) (by omega) ?_)
  · trace "V"
    have e : (if (xs.length : Int) < n then (xs.length : Int) else n) = ((min n.toNat xs.length : Nat) : Int) := by split <;> omega
    rw [e]; exact hR
  refine forL_inv (fun r L s => ∃ (ys left : List D) (o' : O) (y : Option D), s = put (put (put st p o') p1 (.lst left)) p2 (.lst ys) ∧ L = [some (.ref p), some w, some (.int n), some (.ref p1), some (.ref p2), y] ∧ (ys ++ left).Perm xs ∧ ys.length + r.length = min n.toNat xs.length ∧ BxO (m + left.length) o') ?_ ?_ ⟨[], xs, o, none, ?_, rfl, by simp, by simp, hb⟩
  · rintro x r L s nx ⟨ys, left, o', y, rfl, rfl, hp, hl, hb⟩ hnx
    have hlen := hp.length_eq
    rw [List.length_append] at hlen
    have hl0 : 0 < left.length := by rw [List.length_cons] at hl; omega
    refine tg_nm ?_
    trace "V"
    obtain ⟨m', hm'⟩ : ∃ m', m + left.length = m' + 1 := ⟨m + left.length - 1, by omega⟩
    rw [hm'] at hb
    refine call_of hT rfl rfl (take_ok hT hb (by trace "K") (by omega) (by omega) fun i o2 hi hb2 => ?_)
    rw [put3 np1 np2]
    trace "V"
    obtain ⟨d, hd⟩ : ∃ d, left[i]? = some d := ⟨left[i]'(by omega), by simp⟩
    refine bm_popi (by trace "K") hd ?_
    trace "V"
    refine bm_append (by trace "K") (by rw [show sizeLine = 16777216 from rfl]; omega) ?_
    trace "V"
    refine hnx _ _ (Dr.refl ⟨trivial, ?_⟩)
    · refine ⟨ys ++ [d], left.eraseIdx i, o2, some x, ?_, rfl, (erase_perm hd).trans hp, ?_, ?_⟩
      · rw [put_swap n12, put_put, put_swap n21, put_put, put_swap n12]
      · simp only [List.length_append, List.length_cons, List.length_nil] at hl ⊢; omega
      · rw [List.length_eraseIdx, if_pos (by omega)]
        have : m + (left.length - 1) = m' := by omega
        rw [this]; exact hb2
  · rintro L s ⟨ys, left, o', y, rfl, rfl, hp, hl, hb⟩
    trace "V"
    refine frz_ref put_same ?_
    have f2 : put (put st p o') p1 (.lst left) p2 = none := by rw [put_ne n21, put_ne np2.symm]; exact hp2
    have f1 : put st p o' p1 = none := by rw [put_ne np1.symm]; exact hp1
    rw [id_eq, del_put f2]
    exact ⟨_, Sub.put f1, q ys o' ⟨left, hp⟩ (by simpa using hl) (hb.le (by omega))⟩
  · rw [put_id hst]
theorem perm_map {ys : List D} {l : List Str} (h : ys.Perm (l.map D.str)) : ∃ ts : List Str, ts.map D.str = ys := by
  have : ∀ y ∈ ys, ∃ s, y = D.str s := fun y hy => by
    obtain ⟨s, _, e⟩ := List.mem_map.mp (h.mem_iff.mp hy)
    exact ⟨s, e.symm⟩
  clear h
  induction ys with
  | nil => exact ⟨[], rfl⟩
  | cons y ys ih =>
    obtain ⟨ts, e⟩ := ih fun z hz => this z (List.mem_cons_of_mem _ hz)
    obtain ⟨s, e2⟩ := this y (List.mem_cons_self ..)
    exact ⟨s :: ts, by rw [List.map_cons, e, e2]⟩
theorem map_perm_inv {a b : List Str} (h : (a.map D.str).Perm (b.map D.str)) : a.Perm b := by
  have := h.map (fun d => match d with | .str s => s | _ => Str.empty)
  rw [List.map_map, List.map_map] at this
  have e : ((fun d : D => match d with | .str s => s | _ => Str.empty) ∘ D.str) = id := rfl
  rw [e, List.map_id, List.map_id] at this
  exact this
theorem len_fits_s {l : List Str} {n : Nat} (h : l.length = n) (hn : n ≤ 10) : l.length ≤ sizeLine := by
  rw [h]; exact Nat.le_trans hn (by decide)
/-- so many names, drawn, ascending -/
def pool : List Str := ["a", "ab", "b", "bus", "c", "clk", "d", "e", "gpio", "x"]
theorem dts_strs {st : Sto} : ∀ ss : List Str, Dts st (ss.map D.str) (ss.map PyData.str)
  | [] => .nil
  | s :: ss => .cons (.str s) (dts_strs ss)
def leS (a b : Str) : Bool := decide (a.cps.toList ≤ b.cps.toList)
def srtS (ss : List Str) : List Str := ss.mergeSort leS
theorem srt_strs (ss : List Str) : srtD (ss.map D.str) (ss.map PyData.str) = (srtS ss).map D.str := by
  unfold srtD srtS
  have e : (ss.map D.str).zip (ss.map PyData.str) = ss.map fun s => (D.str s, PyData.str s) := by
    induction ss with
    | nil => rfl
    | cons s ss ih => simp [ih]
  rw [e]
  have h := List.map_mergeSort (r := leS) (s := PySem.W.dataLe false fun p : D × PyData => p.2) (f := fun s => (D.str s, PyData.str s)) (l := ss) (fun a _ b _ => by
    show leS a b = PySem.W.dataLe false (fun p : D × PyData => p.2) (D.str a, PyData.str a) (D.str b, PyData.str b)
    have := congrFun (congrFun (PySem.W.dataLe_str (fun x : Str => x)) a) b
    exact this.symm)
  rw [← h, List.map_map]
  rfl
theorem srtS_perm (ss : List Str) : (srtS ss).Perm ss := List.mergeSort_perm _ _
theorem srt_ok (ss : List Str) : SrtOk (ss.map PyData.str) := ⟨PySem.W.AllAlike.of fun _ _ => rfl, PySem.W.Sortable.others fun b => ⟨nofun, fun _ => nofun⟩, fun d hd => by
  obtain ⟨s, _, rfl⟩ := List.mem_map.mp hd
  exact Nat.zero_le _⟩
theorem b_sortS {st : Sto} {w : D} {ss : List Str} {Q : QD} (hw : rdS st w = some (ss.map D.str)) (hl : ss.length ≤ sizeLine) (q : Q (.kl ((srtS ss).map D.str)) st) : bltR .sorted [w] st (fun x s => frzR P x s Q) := by
  unfold bltR
  simp only [hw]
  refine ⟨ss.map PyData.str, dts_strs ss, srt_ok ss, ?_⟩
  rw [srt_strs]
  exact newL_frz (by rw [List.length_map, (srtS_perm ss).length_eq]; exact hl) q
theorem names_ok {k : Nat} {st : Sto} {p : Addr} {o : O} {m : Nat} {n : Nat} {Q : QD} (hT : Has P "" "_law_take" f_i_law_take_3a2ad2) (hP : Has P "" "_law_names" f_i_law_names_1e383e) (hb : BxO (m + 10) o) (hst : st p = some o) (hn : n ≤ 10)
    (q : ∀ (ss : List Str) (o' : O), (∃ zs, (ss ++ zs).Perm pool) → ss.length = n → BxO m o' → Q (.kl ((srtS ss).map D.str)) (put st p o')) : cal P (k + 2) "" "_law_names" [.ref p, .int (n : Nat)] st Q E := by
  refine cal_of hP rfl ?_
  simp only [f_i_law_names_1e383e, List.map_cons, List.map_nil, List.length_cons, List.length_nil, Nat.reduceAdd, Nat.reduceSub, Nat.zero_add, List.replicate, List.cons_append, List.nil_append]
  trace "V"
  refine newL_of (Nat.le_of_ble_eq_true rfl) fun p1 hp1 => ?_
  trace "V"
  refine newL_of (Nat.zero_le _) fun p2 hp2 => ?_
  obtain ⟨n21, hp2⟩ := put_none hp2
  have np1 := some_ne hst hp1
  have np2 := some_ne hst hp2
  have n12 := n21.symm
  trace "V"
  refine wS_for (wI_rngT (n := n) (fun R hR => ?_) (by omega) ?_)
  · trace "V"
    exact hR
  refine forL_inv (fun r L s => ∃ (ys left : List D) (o' : O) (y : Option D), s = put (put (put st p o') p1 (.lst left)) p2 (.lst ys) ∧ L = [some (.ref p), some (.int n), some (.ref p1), some (.ref p2), y] ∧ (ys ++ left).Perm (pool.map D.str) ∧ ys.length + r.length = n ∧ BxO (m + left.length) o') ?_ ?_ ⟨[], pool.map D.str, o, none, ?_, rfl, by simp, by simp, hb⟩
  · rintro x r L s nx ⟨ys, left, o', y, rfl, rfl, hp, hl, hb⟩ hnx
    have hlen := hp.length_eq
    rw [List.length_append, List.length_map, show pool.length = 10 from rfl] at hlen
    have hl0 : 0 < left.length := by rw [List.length_cons] at hl; omega
    refine tg_nm ?_
    trace "V"
    obtain ⟨m', hm'⟩ : ∃ m', m + left.length = m' + 1 := ⟨m + left.length - 1, by omega⟩
    rw [hm'] at hb
    refine call_of hT rfl rfl (take_ok hT hb (by trace "K") (by omega) (by omega) fun i o2 hi hb2 => ?_)
    rw [put3 np1 np2]
    trace "V"
    obtain ⟨d, hd⟩ : ∃ d, left[i]? = some d := ⟨left[i]'(by omega), by simp⟩
    refine bm_popi (by trace "K") hd ?_
    trace "V"
    refine bm_append (by trace "K") (by rw [show sizeLine = 16777216 from rfl]; omega) ?_
    trace "V"
    refine hnx _ _ (Dr.refl ⟨trivial, ?_⟩)
    refine ⟨ys ++ [d], left.eraseIdx i, o2, some x, ?_, rfl, (erase_perm hd).trans hp, ?_, ?_⟩
    · rw [put_swap n12, put_put, put_swap n21, put_put, put_swap n12]
    · simp only [List.length_append, List.length_cons, List.length_nil] at hl ⊢; omega
    · rw [List.length_eraseIdx, if_pos (by omega)]
      have : m + (left.length - 1) = m' := by omega
      rw [this]; exact hb2
  · rintro L s ⟨ys, left, o', y, rfl, rfl, hp, hl, hb⟩
    trace "V"
    obtain ⟨ts, ht⟩ : ∃ ts : List Str, ts.map D.str = ys ++ left := perm_map hp
    obtain ⟨ss, zs, rfl, e1, e2⟩ : ∃ ss zs : List Str, ts = ss ++ zs ∧ ss.map D.str = ys ∧ zs.map D.str = left := by
      obtain ⟨a, b, h1, h2, h3⟩ := List.map_eq_append_iff.mp ht
      exact ⟨a, b, h1, h2, h3⟩
    have hp2 : (ss ++ zs).Perm pool := by
      rw [← ht] at hp
      exact map_perm_inv hp
    subst e1
    refine b_sortS (ss := ss) (by unfold rdS rdL; simp only [id_eq, put_same]) (len_fits_s (by simpa using hl) hn) ?_
    have f2 : put (put st p o') p1 (.lst left) p2 = none := by rw [put_ne n21, put_ne np2.symm]; assumption
    have f1 : put st p o' p1 = none := by rw [put_ne np1.symm]; exact hp1
    refine ⟨put st p o', ?_, q ss o' ⟨zs, hp2⟩ (by simpa using hl) (hb.le (by omega))⟩
    exact (Sub.put f1).trans (Sub.put f2)
  · rw [put_id hst]; rfl
end
end Py

set_option Elab.async false
set_option linter.all false
set_option maxRecDepth 100000
set_option maxHeartbeats 4000000
/-! Devices and worlds as plain data; comparisons. -/
namespace Py
open PySem PySem.Spec PyProof.Rows L2
def f_i_law_world_b8d4d3 : Fd := ⟨["_law_box_here", "_law_many_so", "_law_musts"], 15, [], (.cons (.asg (.nm 3) (.call "_law_names" (.cons (.var 0) (.cons (.var 1) .nil)) [])) (.cons (.par [4, 5] (.cons (.call "_law_some" (.cons (.var 0) (.cons (.var 3) (.cons (.var 1) .nil))) []) (.cons (.lst .nil) .nil))) (.cons (.for_ (.nm 6) (.rng1 (.var 1)) (.cons (.par [7, 8, 9] (.cons (.idx (.var 4) (.var 6)) (.cons (.call "_law_of" (.cons (.var 0) (.cons (.frz (.lst (.cons (.int 0) (.cons (.int 0) (.cons (.int 0) (.cons (.int 1) (.cons (.int 1) (.cons (.int 2) .nil)))))))) .nil)) []) (.cons (.lst .nil) .nil)))) (.cons (.asg (.nm 10) (.call "_law_some" (.cons (.var 0) (.cons (.frz (.slc (.var 4) .nil (.cons (.var 6) .nil))) (.cons (.var 8) .nil))) [])) (.cons (.iff (.cmp .eq (.call "_law_take" (.cons (.var 0) (.cons (.int 12) .nil)) []) (.int 0)) (.cons (.asg (.nm 10) (.frz (.bin .add (.var 10) (.frz (.lst (.cons (.call "_law_of" (.cons (.var 0) (.cons (.frz (.bin .add (.frz (.lc (.var 14) [14] (.nm 14) (.of (.var 3)) (.cons (.cmp .ne (.var 14) (.var 7)) .nil))) (.frz (.lst (.cons (.str "none") .nil))))) .nil)) []) .nil)))))) .nil) .nil) (.cons (.for_ (.nm 11) (.rng1 (.call "_law_of" (.cons (.var 0) (.cons (.frz (.lst (.cons (.int 0) (.cons (.int 1) (.cons (.int 1) (.cons (.int 2) .nil)))))) .nil)) [])) (.cons (.asg (.nm 12) (.frz (.lc (.var 14) [14] (.nm 14) (.of (.frz (.bin .add (.var 3) (.frz (.bin .mul (.lst (.cons (.str "none") .nil)) (.blt .int (.cons (.cmp .eq (.call "_law_take" (.cons (.var 0) (.cons (.int 6) .nil)) []) (.int 0)) .nil))))))) (.cons (.cmp .ne (.var 14) (.var 7)) .nil)))) (.cons (.asg (.nm 13) (.call "_law_some" (.cons (.var 0) (.cons (.var 12) (.cons (.bin .add (.int 1) (.call "_law_take" (.cons (.var 0) (.cons (.int 3) .nil)) [])) .nil))) [])) (.cons (.iff (.cmp .ne (.var 13) (.frz (.lst .nil))) (.cons (.exp (.bm .append (.var 9) (.cons (.tup (.cons (.blt .tuple (.cons (.var 13) .nil)) (.cons (.and (.var 2) (.cmp .eq (.call "_law_take" (.cons (.var 0) (.cons (.int 4) .nil)) []) (.int 0))) .nil))) .nil))) .nil) .nil) .nil)))) (.cons (.exp (.bm .append (.var 5) (.cons (.tup (.cons (.var 7) (.cons (.blt .tuple (.cons (.frz (.blt .sorted (.cons (.blt .set (.cons (.var 10) .nil)) .nil))) .nil)) (.cons (.blt .tuple (.cons (.var 9) .nil)) .nil)))) .nil))) .nil)))))) (.cons (.ret (.blt .tuple (.cons (.frz (.blt .sorted (.cons (.var 5) .nil))) .nil))) .nil))))⟩
structure Dev where
  name : Str
  needs : List Str
  wishes : List (List Str × Bool)
abbrev Wld := List Dev
def sD (l : List Str) : List D := l.map D.str
def wishD (w : List Str × Bool) : D := .tup [.tup (sD w.1), .bl w.2]
def devD (d : Dev) : D := .tup [.str d.name, .tup (sD d.needs), .tup (d.wishes.map wishD)]
def worldD (W : Wld) : D := .tup (W.map devD)
def nms (W : Wld) : List Str := W.map Dev.name
def ltS (a b : Str) : Prop := a.cps.toList < b.cps.toList
/-- what is drawn -/
structure DevOk (ns : List Str) (mu : Bool) (d : Dev) : Prop where
  asc : d.needs.Pairwise ltS
  nin : ∀ x ∈ d.needs, x ≠ d.name ∧ (x ∈ ns ∨ x = "none")
  nle : d.needs.length ≤ 3
  wle : d.wishes.length ≤ 2
  wne : ∀ w ∈ d.wishes, w.1 ≠ [] ∧ w.1.length ≤ 3 ∧ w.1.Nodup
  win : ∀ w ∈ d.wishes, ∀ x ∈ w.1, x ≠ d.name ∧ (x ∈ ns ∨ x = "none")
  mus : mu = false → ∀ w ∈ d.wishes, w.2 = false
structure WldOk (n : Nat) (mu : Bool) (W : Wld) : Prop where
  len : W.length = n
  asc : (nms W).Pairwise ltS
  pool : ∀ x ∈ nms W, x ∈ pool
  dev : ∀ d ∈ W, DevOk (nms W) mu d
section
variable {P : Prog} {E : XD} {st : Sto} {Q : QD}
def SOk (x : Str) : Prop := PyData.strOk x = true
theorem beq_dec {α : Type} [DecidableEq α] (x y : α) : (x == y) = decide (x = y) := by
  by_cases h : x = y
  · subst h; simp
  · simp [h]
theorem shaped_str {x : Str} (h : SOk x) : SeqAt.shaped (.str x) = true := by
  unfold SeqAt.shaped PyData.canLay0
  rw [show PyData.strOk x = true from h]; rfl
theorem canLay_strs : ∀ {ss : List Str}, (∀ x ∈ ss, SOk x) → PyData.canLayAll0 (ss.map PyData.str) = true
  | [], _ => rfl
  | s :: ss, h => by
    show (PyData.canLay0 (.str s) && PyData.canLayAll0 (ss.map PyData.str)) = true
    rw [canLay_strs fun x hx => h x (List.mem_cons_of_mem _ hx)]
    show (PyData.strOk s && true) = true
    rw [show PyData.strOk s = true from h s (List.mem_cons_self ..)]; rfl
theorem c_eqI {i j : Int} (q : Q (.bl (decide (i = j))) st) : copR .eq (.int i) (.int j) st Q := ⟨_, _, .int i, .int j, rfl, rfl, by
  have : PyData.eqv (.int i) (.int j) = decide (i = j) := beq_dec i j
  rw [this]; exact q⟩
theorem c_eqS {x y : Str} (hx : SOk x) (hy : SOk y) (q : Q (.bl (decide (x = y))) st) : copR .eq (.str x) (.str y) st Q := ⟨_, _, .str x, .str y, shaped_str hx, shaped_str hy, by
  have : PyData.eqv (.str x) (.str y) = decide (x = y) := beq_dec x y
  rw [this]; exact q⟩
theorem c_neS {x y : Str} (hx : SOk x) (hy : SOk y) (q : Q (.bl (!decide (x = y))) st) : copR .ne (.str x) (.str y) st Q := ⟨_, _, .str x, .str y, shaped_str hx, shaped_str hy, by
  have : PyData.eqv (.str x) (.str y) = decide (x = y) := beq_dec x y
  rw [this]; exact q⟩
theorem depth_strs : ∀ ss : List Str, PyData.depthAll (ss.map PyData.str) = 0
  | [] => rfl
  | s :: ss => by
    show max (PyData.depth (.str s)) (PyData.depthAll (ss.map PyData.str)) = 0
    rw [depth_strs ss]; rfl
theorem shaped_list {ss : List Str} (h : ∀ x ∈ ss, SOk x) : SeqAt.shaped (.list (ss.map PyData.str)) = true := by
  unfold SeqAt.shaped
  have h1 : PyData.canLay0 (.list (ss.map PyData.str)) = true := canLay_strs h
  have h2 : PyData.depth (.list (ss.map PyData.str)) = 1 := by show PyData.depthAll (ss.map PyData.str) + 1 = 1; rw [depth_strs]
  rw [h1, h2]; rfl
theorem shaped_tup {ss : List Str} (h : ∀ x ∈ ss, SOk x) : SeqAt.shaped (.tuple (ss.map PyData.str)) = true := by
  unfold SeqAt.shaped
  have h1 : PyData.canLay0 (.tuple (ss.map PyData.str)) = true := canLay_strs h
  have h2 : PyData.depth (.tuple (ss.map PyData.str)) = 1 := by show PyData.depthAll (ss.map PyData.str) + 1 = 1; rw [depth_strs]
  rw [h1, h2]; rfl
theorem c_neNil {ss : List Str} (h : ∀ x ∈ ss, SOk x) (q : Q (.bl (!ss.isEmpty)) st) : copR .ne (.kl (sD ss)) (.kl []) st Q := by
  refine ⟨.list (ss.map PyData.str), .list [], .lst rfl (dts_strs ss), .lst rfl .nil, shaped_list h, rfl, ?_⟩
  cases ss with
  | nil => exact q
  | cons _ _ => exact q
theorem any_strs (ss : List Str) (x : Str) : ((ss.map PyData.str).any fun z => PyData.eqv z (.str x)) = decide (x ∈ ss) := by
  induction ss with
  | nil => rfl
  | cons s ss ih =>
    rw [List.map_cons, List.any_cons, ih]
    have : PyData.eqv (.str s) (.str x) = decide (s = x) := beq_dec s x
    rw [this]
    by_cases h : s = x
    · subst h; simp
    · have : x ≠ s := fun z => h z.symm
      simp [h, this]
theorem c_inS {ss : List Str} {x : Str} {w : D} {neg : Bool} (hw : w = .kl (sD ss) ∨ w = .tup (sD ss)) (hs : ∀ x ∈ ss, SOk x) (hx : SOk x) (q : Q (.bl (neg ^^ decide (x ∈ ss))) st) : memR neg (.str x) w st Q := by
  rcases hw with rfl | rfl
  · refine ⟨sD ss, .str x, ss.map PyData.str, rfl, .str x, dts_strs ss, shaped_str hx, shaped_list hs, ?_⟩
    rw [any_strs]; exact q
  · refine ⟨.str x, ss.map PyData.str, .str x, dts_strs ss, shaped_str hx, shaped_tup hs, ?_⟩
    rw [any_strs]; exact q
theorem pool_ok : ∀ x ∈ pool, SOk x := by
  have : pool.all (fun x => PyData.strOk x) = true := by decide +kernel
  intro x hx
  exact List.all_eq_true.mp this x hx
theorem none_ok : SOk "none" := by show PyData.strOk "none" = true; decide +kernel
theorem pool_nodup : pool.Nodup := by decide +kernel
theorem none_pool : ("none" : Str) ∉ pool := by decide +kernel
theorem rng_drop {n j : Nat} {x : D} {r : List D} (h : ((List.range n).map fun i : Nat => D.int (i : Int)).drop j = x :: r) : j < n ∧ x = .int (j : Nat) ∧ r = ((List.range n).map fun i : Nat => D.int (i : Int)).drop (j + 1) := by
  have lt : j < n := by
    have := congrArg List.length h
    simp at this; omega
  rw [List.drop_eq_getElem_cons (by simpa using lt)] at h
  simp only [List.getElem_map, List.getElem_range, List.cons.injEq] at h
  exact ⟨lt, h.1.symm, h.2.symm⟩
theorem c_eqI0 {r : Nat} (q : Q (.bl (decide (r = 0))) st) : copR .eq (.int (r : Nat)) (.int 0) st Q := by
  refine c_eqI ?_
  have : decide ((r : Int) = 0) = decide (r = 0) := decide_eq_decide.mpr (by omega)
  rw [this]; exact q
theorem fm_map {α : Type} (c : α → D) (f : D → Option D) (p : α → Bool) (g : α → D) : ∀ l : List α, (∀ y ∈ l, f (c y) = if p y = true then some (g y) else none) → (l.map c).filterMap f = (l.filter p).map g
  | [], _ => rfl
  | y :: l, h => by
    have ih := fm_map c f p g l fun z hz => h z (List.mem_cons_of_mem _ hz)
    rw [List.map_cons, List.filterMap_cons, h y (List.mem_cons_self ..), List.filter_cons]
    by_cases e : p y = true
    · rw [if_pos e, if_pos e]; simp [ih]
    · rw [if_neg e, if_neg e]; simp [ih]
/-- [own for own in names if own != name] -/
theorem lc_other {k : Nat} {L : Loc} {e : Ex} {ss : List Str} {x : Str} {v w : Nat} (hv : v < L.length) (hvw : v ≠ w) (hw : L[w]? = some (some (.str x))) (hs : ∀ y ∈ ss, SOk y) (hx : SOk x) (hl : ss.length ≤ 1000)
    (he : ∀ R : QD, R (.kl (sD ss)) st → wpE P (cal P k) e L st R E) (q : Q (.kl (sD (ss.filter fun y => decide (y ≠ x)))) st) :
    wpE P (cal P k) (.frz (.lc (.var v) [v] (.nm v) (.of e) (.cons (.cmp .ne (.var v) (.var w)) .nil))) L st Q E := by
  refine wE_lcF (sD ss) (fun d => match d with | .str y => if y ≠ x then some (.str y) else none | _ => none) (fun R hR => wI_kl he hR) ?_ (by unfold sD; rw [List.length_map]; exact Nat.le_trans hl (by decide)) ?_
  · intro d hd nx hn
    obtain ⟨y, hy, rfl⟩ := List.mem_map.mp hd
    have g1 : (((L.set v none).set v (some (D.str y))))[v]? = some (some (.str y)) := by simp [hv]
    have g2 : (((L.set v none).set v (some (D.str y))))[w]? = some (some (.str x)) := by
      rw [List.getElem?_set_ne hvw, List.getElem?_set_ne hvw]; exact hw
    refine tg_nm (wTs_cons (wE_cmp (wE_var g1 (wE_var g2 (c_neS (hs y hy) hx (tru_bl ?_))))))
    by_cases h : y = x
    · rw [if_neg (by simp [h])]
      dsimp only at hn
      rw [if_neg (by simp [h])] at hn; exact hn
    · rw [if_pos (by simp [h])]
      dsimp only at hn
      rw [if_pos h] at hn
      refine wTs_nil ?_
      rw [if_pos rfl]
      exact wE_var g1 hn
  · have := fm_map D.str (fun d => match d with | .str y => if y ≠ x then some (.str y) else none | _ => none) (fun y => decide (y ≠ x)) D.str ss fun y _ => by
      by_cases h : y = x <;> simp [h]
    unfold sD at this ⊢
    unfold sD at q
    rw [this]; exact q
theorem cut_take {xs : List D} {j : Nat} : cutD xs none (some (j : Nat)) = xs.take j := by
  unfold cutD
  rw [HT.sIx_nat]
  show (xs.drop 0).take (min j xs.length - 0) = xs.take j
  rw [List.drop_zero, Nat.sub_zero]
  rcases Nat.le_total j xs.length with h | h
  · rw [Nat.min_eq_left h]
  · rw [Nat.min_eq_right h, List.take_length, List.take_of_length_le h]
/-- [own for own in .. if own != name], the source is drawn -/
theorem lc_otherS {k : Nat} {L : Loc} {e : Ex} {x : Str} {v w : Nat} (hv : v < L.length) (hvw : v ≠ w) (hw : L[w]? = some (some (.str x))) (hx : SOk x)
    (he : wpE P (cal P k) e L st (fun d s => ∃ ss : List Str, d = .kl (sD ss) ∧ (∀ y ∈ ss, SOk y) ∧ ss.length ≤ 1000 ∧ Q (.kl (sD (ss.filter fun y => decide (y ≠ x)))) s) E) :
    wpE P (cal P k) (.frz (.lc (.var v) [v] (.nm v) (.of e) (.cons (.cmp .ne (.var v) (.var w)) .nil))) L st Q E := by
  refine wE_frz (wpE_mono (cal_mono P k) e (fun d s ⟨ss, e1, hs, hl, q⟩ => ?_) he)
  subst e1
  refine ⟨sD ss, rfl, ?_⟩
  refine lcL_pure (fun d => match d with | .str y => if y ≠ x then some (.str y) else none | _ => none) (stays := fun t => rdL t (.kl (sD ss)) = some (sD ss)) rfl (sD ss) [] ?_ ?_
  · intro d hd nx hn
    obtain ⟨y, hy, rfl⟩ := List.mem_map.mp hd
    have g1 : (((L.set v none).set v (some (D.str y))))[v]? = some (some (.str y)) := by simp [hv]
    have g2 : (((L.set v none).set v (some (D.str y))))[w]? = some (some (.str x)) := by
      rw [List.getElem?_set_ne hvw, List.getElem?_set_ne hvw]; exact hw
    refine tg_nm (wTs_cons (wE_cmp (wE_var g1 (wE_var g2 (c_neS (hs y hy) hx (tru_bl ?_))))))
    by_cases h : y = x
    · rw [if_neg (by simp [h])]
      dsimp only at hn
      rw [if_neg (by simp [h])] at hn; exact hn
    · rw [if_pos (by simp [h])]
      dsimp only at hn
      rw [if_pos h] at hn
      refine wTs_nil ?_
      rw [if_pos rfl]
      exact wE_var g1 hn
  · have := fm_map D.str (fun d => match d with | .str y => if y ≠ x then some (.str y) else none | _ => none) (fun y => decide (y ≠ x)) D.str ss fun y _ => by
      by_cases h : y = x <;> simp [h]
    unfold sD at this ⊢
    unfold sD at q
    rw [List.nil_append, this]
    exact newL_frz (by rw [List.length_map]; exact Nat.le_trans (List.length_filter_le _ _) (Nat.le_trans hl (by decide))) q
def wishP (w : List Str × Bool) : PyData := .tuple [.tuple (w.1.map PyData.str), .bool w.2]
def devP (d : Dev) : PyData := .tuple [.str d.name, .tuple (d.needs.map PyData.str), .tuple (d.wishes.map wishP)]
theorem dts_of {α : Type} (c : α → D) (f : α → PyData) : ∀ (l : List α), (∀ x ∈ l, Dt st (c x) (f x)) → Dts st (l.map c) (l.map f)
  | [], _ => .nil
  | x :: l, h => .cons (h x (List.mem_cons_self ..)) (dts_of c f l fun y hy => h y (List.mem_cons_of_mem _ hy))
theorem dt_wish (w : List Str × Bool) : Dt st (wishD w) (wishP w) := .tup (.cons (.tup (dts_strs _)) (.cons (.bl _) .nil))
theorem dt_dev (d : Dev) : Dt st (devD d) (devP d) := .tup (.cons (.str _) (.cons (.tup (dts_strs _)) (.cons (.tup (dts_of _ _ _ fun w _ => dt_wish w)) .nil)))
def srtW (W : Wld) : Wld := W.mergeSort (PySem.W.dataLe false devP)
theorem srtW_perm (W : Wld) : (srtW W).Perm W := List.mergeSort_perm _ _
theorem srt_map {α : Type} (c : α → D) (f : α → PyData) (l : List α) : srtD (l.map c) (l.map f) = (l.mergeSort (PySem.W.dataLe false f)).map c := by
  unfold srtD
  have e : (l.map c).zip (l.map f) = l.map fun s => (c s, f s) := by
    induction l with
    | nil => rfl
    | cons s ss ih => simp [ih]
  rw [e]
  have h := List.map_mergeSort (r := PySem.W.dataLe false f) (s := PySem.W.dataLe false fun p : D × PyData => p.2) (f := fun s => (c s, f s)) (l := l) (fun a _ b _ => rfl)
  rw [← h, List.map_map]
  rfl
theorem alike_strs : ∀ a b : List Str, PySem.W.alikeAll (a.map PyData.str) (b.map PyData.str) = true
  | [], _ => by cases ‹List Str› <;> rfl
  | _ :: _, [] => rfl
  | _ :: a, _ :: b => by
    show (PySem.W.alike _ _ && PySem.W.alikeAll (a.map PyData.str) (b.map PyData.str)) = true
    rw [alike_strs a b]; rfl
theorem alike_wish (a b : List Str × Bool) : PySem.W.alike (wishP a) (wishP b) = true := by
  show (PySem.W.alikeAll (a.1.map PyData.str) (b.1.map PyData.str) && _) = true
  rw [alike_strs]; rfl
theorem alike_wishes : ∀ a b : List (List Str × Bool), PySem.W.alikeAll (a.map wishP) (b.map wishP) = true
  | [], b => by cases b <;> rfl
  | _ :: _, [] => rfl
  | x :: a, y :: b => by
    show (PySem.W.alike (wishP x) (wishP y) && PySem.W.alikeAll (a.map wishP) (b.map wishP)) = true
    rw [alike_wishes a b, alike_wish]; rfl
theorem alike_dev (a b : Dev) : PySem.W.alike (devP a) (devP b) = true := by
  show (PySem.W.alike (.str a.name) (.str b.name) && (PySem.W.alikeAll (a.needs.map PyData.str) (b.needs.map PyData.str) && (PySem.W.alikeAll (a.wishes.map wishP) (b.wishes.map wishP) && true))) = true
  rw [alike_strs, alike_wishes]; rfl
theorem depth_wish (w : List Str × Bool) : PyData.depth (wishP w) = 2 := by
  show PyData.depthAll [.tuple (w.1.map PyData.str), .bool w.2] + 1 = 2
  show max (PyData.depthAll (w.1.map PyData.str) + 1) (max 0 0) + 1 = 2
  rw [depth_strs]; rfl
theorem depth_wishes : ∀ ws : List (List Str × Bool), PyData.depthAll (ws.map wishP) ≤ 2
  | [] => Nat.zero_le _
  | w :: ws => by
    show max (PyData.depth (wishP w)) (PyData.depthAll (ws.map wishP)) ≤ 2
    rw [depth_wish]
    have := depth_wishes ws
    omega
theorem depth_dev (d : Dev) : PyData.depth (devP d) ≤ 4 := by
  show max 0 (max (PyData.depthAll (d.needs.map PyData.str) + 1) (max (PyData.depthAll (d.wishes.map wishP) + 1) 0)) + 1 ≤ 4
  rw [depth_strs]
  have := depth_wishes d.wishes
  omega
theorem srt_dev (W : Wld) : SrtOk (W.map devP) := by
  refine ⟨PySem.W.AllAlike.of alike_dev, .inl fun d hd => ?_, fun d hd => ?_⟩
  · obtain ⟨x, _, rfl⟩ := List.mem_map.mp hd
    exact ⟨_, _, rfl⟩
  · obtain ⟨x, _, rfl⟩ := List.mem_map.mp hd
    exact Nat.le_trans (depth_dev x) (by decide)
theorem tri : ∀ a b : List Nat, a < b ∨ a = b ∨ b < a
  | [], [] => .inr (.inl rfl)
  | [], _ :: _ => .inl (List.nil_lt_cons _ _)
  | _ :: _, [] => .inr (.inr (List.nil_lt_cons _ _))
  | x :: a, y :: b => by
    rcases Nat.lt_trichotomy x y with h | h | h
    · exact .inl (List.cons_lt_cons_iff.mpr (.inl h))
    · subst h
      rcases tri a b with z | z | z
      · exact .inl (List.cons_lt_cons_iff.mpr (.inr ⟨rfl, z⟩))
      · subst z; exact .inr (.inl rfl)
      · exact .inr (.inr (List.cons_lt_cons_iff.mpr (.inr ⟨rfl, z⟩)))
    · exact .inr (.inr (List.cons_lt_cons_iff.mpr (.inl h)))
theorem str_ext {a b : Str} (h : a.cps.toList = b.cps.toList) : a = b := by
  cases a; cases b
  simp only at h
  congr 1
  exact Array.toList_inj.mp h
theorem ltS_ne {a b : Str} (h : ltS a b) : a ≠ b := fun e => by subst e; exact List.lt_irrefl _ h
theorem sortedS_pw : ∀ {l : List Str}, PyProof.Rows.sortedS l = true → l.Pairwise fun a b => ¬ b.cps.toList < a.cps.toList := by
  have go : ∀ (r : List Str) (x : Str), PyProof.Rows.risingS x r = true → (x :: r).Pairwise fun a b => ¬ b.cps.toList < a.cps.toList := by
    intro r
    induction r with
    | nil => intro x _; exact List.pairwise_singleton _ _
    | cons y r ih =>
      intro x h
      unfold PyProof.Rows.risingS at h
      rw [Bool.and_eq_true] at h
      have hy := ih y h.2
      have hxy : ¬ y.cps.toList < x.cps.toList := by
        have := h.1
        rw [ltCps_eq] at this
        simpa using this
      refine List.pairwise_cons.mpr ⟨fun z hz => ?_, hy⟩
      rcases List.mem_cons.mp hz with rfl | hz
      · exact hxy
      · have h2 := (List.pairwise_cons.mp hy).1 z hz
        exact List.not_lt.mpr (List.le_trans (List.not_lt.mp hxy) (List.not_lt.mp h2))
  intro l h
  cases l with
  | nil => exact .nil
  | cons x r => exact go r x h
theorem sorted_lt : ∀ {l : List Str}, PyProof.Rows.sortedS l = true → l.Nodup → l.Pairwise ltS := by
  intro l h nd
  have hp := sortedS_pw h
  refine (hp.and nd).imp fun {x y} ⟨h1, h2⟩ => ?_
  rcases tri x.cps.toList y.cps.toList with z | z | z
  · exact z
  · exact absurd (str_ext z) h2
  · exact absurd z h1
theorem srtS_lt {ss : List Str} (nd : ss.Nodup) : (srtS ss).Pairwise ltS := by
  have hp : (srtS ss).Pairwise fun a b => leS a b = true := PySem.W.sort_pairwise ⟨fun a b c h1 h2 => ?_, fun a b => ?_⟩ ss
  · refine (hp.and ((srtS_perm ss).nodup_iff.mpr nd)).imp fun {x y} ⟨h1, h2⟩ => ?_
    have h1 : x.cps.toList ≤ y.cps.toList := of_decide_eq_true h1
    rcases tri x.cps.toList y.cps.toList with z | z | z
    · exact z
    · exact absurd (str_ext z) h2
    · exact absurd z (List.not_lt.mpr h1)
  · exact decide_eq_true (List.le_trans (of_decide_eq_true h1) (of_decide_eq_true h2))
  · rcases tri a.cps.toList b.cps.toList with z | z | z
    · exact .inl (decide_eq_true (List.le_of_lt z))
    · exact .inl (decide_eq_true (by rw [z]; exact List.le_refl _))
    · exact .inr (decide_eq_true (List.le_of_lt z))
theorem le_dev {a b : Dev} (h : PySem.W.dataLe false devP a b = true) (n : a.name ≠ b.name) : ltS a.name b.name := by
  rw [PySem.W.dataLe_eq] at h
  have h : (!PySem.W.dataLt (devP b) (devP a)) = true := h
  unfold devP at h
  rw [PySem.W.dataLt_tuple, PySem.W.dataLt_cons (by rfl)] at h
  have e : PyData.eqv (.str b.name) (.str a.name) = false := by
    show (b.name == a.name) = false
    simp [Ne.symm n]
  rw [e, if_neg Bool.false_ne_true, PySem.W.dataLt_str] at h
  have h1 : ¬ (b.name.cps.toList < a.name.cps.toList) := by simpa using h
  rcases tri a.name.cps.toList b.name.cps.toList with z | z | z
  · exact z
  · exact absurd (str_ext z) n
  · exact absurd z h1
end
end Py

set_option Elab.async false
set_option linter.all false
set_option maxRecDepth 100000
set_option maxHeartbeats 4000000
/-! A drawn world. -/
namespace Py
open PySem PySem.Spec PyProof.Rows L2
local macro_rules | `(tactic| trace "K") => `(tactic| first | assumption | exact put_same | exact (put_ne (by assumption)).trans put_same | exact (put_ne (by assumption)).trans (by assumption) | exact (put_ne (by assumption)).trans ((put_ne (by assumption)).trans put_same) | exact (put_ne (by assumption)).trans ((put_ne (by assumption)).trans (by assumption)))
local macro_rules | `(tactic| trace "V") => `(tactic| repeat (first | (with_reducible first | refine wSs_cons ?_ | refine wSs_nil ?_ | refine wS_exp ?_ | refine wS_ret ?_ | refine wS_pass ?_ | refine wS_asg ?_ | refine wS_par ?_ | refine wS_iff ?_ | refine wS_brk ?_ | refine wS_cnt ?_ | refine wE_non ?_ | refine wE_bl ?_ | refine wE_int ?_ | refine wE_str ?_ | refine wE_bty ?_ | refine wE_bin ?_ | refine wE_cmp ?_ | refine wE_and ?_ | refine wE_or ?_ | refine wE_not ?_ | refine wE_ite ?_ | refine wE_tup ?_ | refine wE_lst ?_ | refine wE_call ?_ | refine wE_blt ?_ | refine wE_att ?_ | refine wE_idx ?_ | refine wE_slc ?_ | refine wE_frzB ?_ | refine wE_frzC ?_ | refine wE_frzL ?_ | refine wE_frzS ?_ | refine wE_frzV ?_ | refine wA_nil ?_ | refine wA_cons ?_ | refine wTs_nil ?_ | refine wTs_cons ?_ | refine tg_nm ?_ | refine tru_bl ?_ | refine tru_int ?_ | refine tru_non ?_ | refine tru_tup ?_ | refine tru_kl ?_ | refine op_addI ?_ | refine op_subI ?_ | refine frz_kl ?_ | refine frz_tup ?_ | refine frz_int ?_ | refine c_gtI ?_ | refine c_ltI ?_ | refine c_geI ?_ | refine c_leI ?_ | refine b_len_kl ?_ | refine b_len_tup ?_ | refine b_len_sl ?_ | refine b_len_kd ?_ | refine b_int_int ?_ | refine b_int_bl ?_ | refine b_abs ?_ | refine b_min ?_ | refine wS_ssub ?_ | refine wE_mth ?_ | refine wE_bm ?_ | refine wE_negI ?_ | refine wE_new ?_ | refine wS_satt ?_ | refine opt_n ?_ | refine opt_i ?_) | ((with_reducible apply wE_var); (rfl)) | ((with_reducible apply tg_tp); (rfl)) | ((with_reducible apply par_of); (rfl)) | ((with_reducible apply newT_of); (exact Nat.le_of_ble_eq_true rfl)) | ((with_reducible apply newL_frz); (exact Nat.le_of_ble_eq_true rfl)) | ((with_reducible apply ix_ref); (first | assumption | exact put_same | exact (put_ne (by assumption)).trans put_same | exact (put_ne (by assumption)).trans (by assumption) | exact (put_ne (by assumption)).trans ((put_ne (by assumption)).trans put_same) | exact (put_ne (by assumption)).trans ((put_ne (by assumption)).trans (by assumption))); (rfl)) | ((with_reducible apply ssub_ref); (first | assumption | exact put_same | exact (put_ne (by assumption)).trans put_same | exact (put_ne (by assumption)).trans (by assumption) | exact (put_ne (by assumption)).trans ((put_ne (by assumption)).trans put_same) | exact (put_ne (by assumption)).trans ((put_ne (by assumption)).trans (by assumption))); (rfl)) | ((with_reducible apply ix_tup); (rfl)) | ((with_reducible apply ix_kl); (rfl)) | ((with_reducible apply op_modI); (first | assumption | decide)) | ((with_reducible apply op_fdivI); (first | (constructor <;> assumption) | decide)) | ((with_reducible apply op_mulL); (decide)) | ((with_reducible apply op_mulR); (decide)) | ((with_reducible apply b_len_ref); (first | assumption | exact put_same | exact (put_ne (by assumption)).trans put_same | exact (put_ne (by assumption)).trans (by assumption) | exact (put_ne (by assumption)).trans ((put_ne (by assumption)).trans put_same) | exact (put_ne (by assumption)).trans ((put_ne (by assumption)).trans (by assumption)))) | ((with_reducible apply bmA_ref); (first | assumption | exact put_same | exact (put_ne (by assumption)).trans put_same | exact (put_ne (by assumption)).trans (by assumption) | exact (put_ne (by assumption)).trans ((put_ne (by assumption)).trans put_same) | exact (put_ne (by assumption)).trans ((put_ne (by assumption)).trans (by assumption))); (rfl))))
section
variable {P : Prog} {E : XD} {st : Sto} {Q : QD}
theorem perm_part {ys zs : List D} {ss : List Str} (h : (ys ++ zs).Perm (sD ss)) : ∃ ts us : List Str, ys = sD ts ∧ zs = sD us ∧ (ts ++ us).Perm ss := by
  obtain ⟨l, hl⟩ := perm_map h
  obtain ⟨a, b, h1, h2, h3⟩ := List.map_eq_append_iff.mp hl
  refine ⟨a, b, h2.symm, h3.symm, ?_⟩
  rw [← h1]
  exact map_perm_inv (by rw [hl]; exact h)
theorem small_int {r : Nat} {d : D} (l : List Nat) (h : (l.map fun i : Nat => D.int (i : Int))[r]? = some d) : ∃ c ∈ l, d = .int (c : Nat) := by
  obtain ⟨c, h1, h2⟩ := List.mem_map.mp (List.mem_of_getElem? h)
  exact ⟨c, h1, h2.symm⟩
theorem put2 {p p1 : Addr} {o o' a : O} (h1 : p ≠ p1) : put (put (put st p o) p1 a) p o' = put (put st p o') p1 a := by
  rw [put_swap h1.symm, put_put]
theorem b_sortD {w : D} {xs : List D} {ds : List PyData} (hw : rdS st w = some xs) (hd : Dts st xs ds) (ho : SrtOk ds) (hl : xs.length ≤ sizeLine) (q : Q (.kl (srtD xs ds)) st) : bltR .sorted [w] st (fun x s => frzR P x s Q) := by
  unfold bltR
  simp only [hw]
  refine ⟨ds, hd, ho, newL_frz (Nat.le_trans ?_ hl) q⟩
  unfold srtD
  rw [List.length_map, List.length_mergeSort, List.length_zip]
  exact Nat.min_le_left _ _
theorem world_ok {k : Nat} {p : Addr} {o : O} {m n : Nat} {mu : Bool} (hT : Has P "" "_law_take" f_i_law_take_3a2ad2) (hO : Has P "" "_law_of" f_i_law_of_0f7692) (hN : Has P "" "_law_names" f_i_law_names_1e383e) (hS : Has P "" "_law_some" f_i_law_some_c1ed9a) (hW : Has P "" "_law_world" f_i_law_world_b8d4d3)
    (hb : BxO (m + 1000) o) (hst : st p = some o) (hn : n ≤ 10)
    (q : ∀ (W : Wld) (o' : O), WldOk n mu W → BxO m o' → Q (worldD W) (put st p o')) : cal P (k + 4) "" "_law_world" [.ref p, .int (n : Nat), .bl mu] st Q E := by
  refine cal_of hW rfl ?_
  simp only [f_i_law_world_b8d4d3, List.map_cons, List.map_nil, List.length_cons, List.length_nil, Nat.reduceAdd, Nat.reduceSub, Nat.zero_add, List.replicate, List.cons_append, List.nil_append]
  trace "V"
  refine call_of hN rfl rfl (names_ok (m := m + 990) hT hN hb hst hn fun ss o1 ⟨zs, hp1⟩ hl1 hb1 => ?_)
  have hnd : ss.Nodup := by
    have := hp1.nodup_iff.mpr pool_nodup
    exact (List.nodup_append.mp this).1
  have hsub : ∀ x ∈ ss, x ∈ pool := fun x hx => hp1.mem_iff.mp (List.mem_append_left _ hx)
  have hnl : (srtS ss).length = n := by rw [(srtS_perm ss).length_eq]; exact hl1
  have hnn : (srtS ss).Nodup := (srtS_perm ss).nodup_iff.mpr hnd
  have hnp : ∀ x ∈ srtS ss, x ∈ pool := fun x hx => hsub x ((srtS_perm ss).mem_iff.mp hx)
  generalize srtS ss = ns at hnl hnn hnp
  have hnok : ∀ x ∈ ns, SOk x := fun x hx => pool_ok x (hnp x hx)
  clear hnd hsub hp1
  trace "V"
  refine call_of hS rfl rfl (some_ok (m := m + 980) (xs := sD ns) hT hS (hb1.le (by unfold sD; rw [List.length_map]; omega)) put_same (.inl rfl) (by unfold sD; rw [List.length_map]; omega) (by omega) fun ys o2 ⟨zs2, hp2⟩ hl2 hb2 => ?_)
  obtain ⟨os, us, rfl, rfl, hp3⟩ := perm_part hp2
  clear hp2
  have hp2 := hp3
  have hus : us = [] := by
    have h1 := hp2.length_eq
    rw [List.length_append] at h1
    unfold sD at hl2
    simp only [List.length_map] at hl2
    exact List.length_eq_zero_iff.mp (by omega)
  subst hus
  rw [List.append_nil] at hp2
  have hol : os.length = n := by rw [hp2.length_eq]; exact hnl
  have hon : os.Nodup := hp2.nodup_iff.mpr hnn
  rw [put_put]
  trace "V"
  refine newL_of (Nat.zero_le _) fun p5 hp5 => ?_
  obtain ⟨n5, hp5⟩ := put_none hp5
  have n5' := n5.symm
  trace "V"
  refine wS_for (wI_rngT (n := n) (fun R hR => ?_) (by omega) ?_)
  · trace "V"
    exact hR
  refine forL_inv (fun r L s => ∃ (ds : List Dev) (o' : O) (a6 a7 a8 a9 a10 a11 a12 a13 a14 : Option D), r = ((List.range n).map fun i : Nat => D.int (i : Int)).drop ds.length ∧ s = put (put st p o') p5 (.lst (ds.map devD)) ∧
    L = [some (.ref p), some (.int n), some (.bl mu), some (.kl (sD ns)), some (.kl (sD os)), some (.ref p5), a6, a7, a8, a9, a10, a11, a12, a13, a14] ∧ ds.map Dev.name = os.take ds.length ∧ ds.length ≤ n ∧ (∀ d ∈ ds, DevOk ns mu d) ∧ BxO (m + 60 * (n - ds.length)) o') ?_ ?_ ⟨[], o2, none, none, none, none, none, none, none, none, none, rfl, rfl, rfl, rfl, Nat.zero_le _, nofun, hb2.le (by simp; omega)⟩
  · rintro x r L s nx ⟨ds, o', a6, a7, a8, a9, a10, a11, a12, a13, a14, hr, rfl, rfl, hds, hdn, hok, hb⟩ hnx
    obtain ⟨lt, rfl, rfl⟩ := rng_drop hr.symm
    refine tg_nm ?_
    trace "V"
    obtain ⟨nm, hnm⟩ : ∃ nm, os[ds.length]? = some nm := ⟨os[ds.length]'(by omega), by simp⟩
    have hnm2 : (sD os)[ds.length]? = some (.str nm) := by unfold sD; rw [List.getElem?_map, hnm]; rfl
    have hnmn : nm ∈ ns := hp2.mem_iff.mp (List.mem_of_getElem? hnm)
    refine ix_kl (atI_nat hnm2) ?_
    trace "V"
    have hnmo : SOk nm := hnok nm hnmn
    have hb' : BxO (m + 60 * (n - (ds.length + 1)) + 60) o' := by
      have : m + 60 * (n - (ds.length + 1)) + 60 = m + 60 * (n - ds.length) := by omega
      rw [this]; exact hb
    obtain ⟨M, hM⟩ : ∃ M, m + 60 * (n - (ds.length + 1)) = M := ⟨_, rfl⟩
    rw [hM] at hb'
    refine call_of hO rfl rfl (of_ok (m := M + 59) hT hO hb' (by trace "K") (by decide) (by decide) fun r1 d1 o3 hd1 hb3 => ?_)
    obtain ⟨c, hc, rfl⟩ := small_int [0, 0, 0, 1, 1, 2] hd1
    have hc2 : c ≤ 2 := by simp at hc; omega
    rw [put2 n5']
    trace "V"
    refine newL_of (Nat.zero_le _) fun p9 hp9 => ?_
    obtain ⟨n95, hp9⟩ := put_none hp9
    obtain ⟨n9p, hp9⟩ := put_none hp9
    have np9 := n9p.symm
    have n59 := n95.symm
    trace "V"
    have htk : (sD os).take ds.length = sD (os.take ds.length) := by unfold sD; rw [List.map_take]
    refine slc_kl (by unfold sD; rw [List.length_map, hol]; exact Nat.le_trans hn (by decide)) ?_
    rw [cut_take, htk]
    trace "V"
    refine call_of hS rfl rfl (some_ok (m := M + 45) (xs := sD (os.take ds.length)) hT hS (hb3.le (by unfold sD; rw [List.length_map, List.length_take]; omega)) (by trace "K") (.inl rfl) (by unfold sD; rw [List.length_map, List.length_take]; omega) (by omega) fun ys o4 ⟨zs4, hp4⟩ hl4 hb4 => ?_)
    obtain ⟨ts0, us4, rfl, rfl, hp5'⟩ := perm_part hp4
    clear hp4
    rw [put3 n5' np9]
    have hts0 : ∀ x ∈ ts0, x ≠ nm ∧ (x ∈ ns ∨ x = "none") := fun x hx => by
      have h1 : x ∈ os.take ds.length := hp5'.mem_iff.mp (List.mem_append_left _ hx)
      refine ⟨fun e => ?_, .inl (hp2.mem_iff.mp (List.mem_of_mem_take h1))⟩
      subst e
      obtain ⟨i, hi, e⟩ := List.getElem_of_mem h1
      rw [List.length_take] at hi
      rw [List.getElem_take] at e
      have h2 := (List.getElem?_eq_some_iff.mp hnm).2
      have := (List.getElem_inj hon).mp (e.trans h2.symm)
      omega
    have htl0 : ts0.length ≤ 2 := by
      have : (sD ts0).length = ts0.length := by unfold sD; rw [List.length_map]
      omega
    have hts_ok : ∀ {ts : List Str}, (∀ x ∈ ts, x ≠ nm ∧ (x ∈ ns ∨ x = "none")) → ∀ x ∈ ts, SOk x := fun h x hx => by
      rcases (h x hx).2 with h1 | rfl
      · exact hnok x h1
      · exact none_ok
    refine tg_nm ?_
    refine wSs_mid (fun L s => ∃ (ts : List Str) (o5 : O), s = put (put (put st p o5) p5 (.lst (ds.map devD))) p9 (.lst []) ∧
      L = [some (.ref p), some (.int n), some (.bl mu), some (.kl (sD ns)), some (.kl (sD os)), some (.ref p5), some (.int (ds.length : Nat)), some (.str nm), some (.int (c : Nat)), some (.ref p9), some (.kl (sD ts)), a11, a12, a13, a14] ∧
      (∀ x ∈ ts, x ≠ nm ∧ (x ∈ ns ∨ x = "none")) ∧ ts.length ≤ 3 ∧ BxO (M + 40) o5) ?_ ?_
    · trace "V"
      refine call_of hT rfl rfl (take_ok (m := M + 44) hT hb4 (by trace "K") (by decide) (by decide) fun r2 o5 hr2 hb5 => ?_)
      rw [put3 n5' np9]
      trace "V"
      refine c_eqI0 ?_
      trace "V"
      by_cases h0 : r2 = 0
      · rw [if_pos (decide_eq_true h0)]
        trace "V"
        refine lc_otherS (x := nm) (by simp) (by decide) rfl hnmo ?_
        trace "V"
        refine ⟨ns, rfl, hnok, by omega, ?_⟩
        trace "V"
        refine op_addK (by unfold sD; rw [List.length_append, List.length_map]; exact Nat.le_trans (Nat.add_le_add_right (List.length_filter_le _ _) _) (by rw [hnl]; simp only [List.length_cons, List.length_nil]; exact Nat.le_trans (Nat.succ_le_succ hn) (by decide))) ?_
        trace "V"
        refine call_of hO rfl rfl (of_ok (m := M + 43) hT hO hb5 (by trace "K") (by simp) (by unfold sD; rw [List.length_append, List.length_map]; have := List.length_filter_le (fun y => decide (y ≠ nm)) ns; simp only [List.length_cons, List.length_nil]; omega) fun r3 d3 o6 hd3 hb6 => ?_)
        rw [put3 n5' np9]
        obtain ⟨y, rfl, hy⟩ : ∃ y, d3 = .str y ∧ (y ≠ nm ∧ (y ∈ ns ∨ y = "none")) := by
          rcases List.mem_append.mp (List.mem_of_getElem? hd3) with h | h
          · obtain ⟨y, hy, rfl⟩ := List.mem_map.mp h
            have := List.mem_filter.mp hy
            exact ⟨y, rfl, by simpa using this.2, .inl this.1⟩
          · refine ⟨"none", by simpa using h, fun e => ?_, .inr rfl⟩
            rw [← e] at hnmn
            exact none_pool (hnp _ hnmn)
        trace "V"
        refine op_addK (by unfold sD; rw [List.length_append, List.length_map]; simp only [List.length_cons, List.length_nil]; exact Nat.le_trans (Nat.add_le_add_right htl0 1) (by decide)) ?_
        trace "V"
        refine Dr.refl ⟨ts0 ++ [y], o6, rfl, ?_, ?_, ?_, hb6.le (by omega)⟩
        · unfold sD; rw [List.map_append]; rfl
        · intro x hx
          rcases List.mem_append.mp hx with h | h
          · exact hts0 x h
          · rw [List.mem_singleton.mp h]; exact hy
        · rw [List.length_append]; simp only [List.length_cons, List.length_nil]; omega
      · rw [if_neg (by simp [h0])]
        trace "V"
        exact Dr.refl ⟨ts0, o5, rfl, rfl, hts0, by omega, hb5.le (by omega)⟩
    · rintro L s ⟨ts, o5, rfl, rfl, hts, htl, hb5⟩
      refine wSs_mid (fun L s => ∃ (ws : List (List Str × Bool)) (o6 : O) (b11 b12 b13 b14 : Option D), s = put (put (put st p o6) p5 (.lst (ds.map devD))) p9 (.lst (ws.map wishD)) ∧
        L = [some (.ref p), some (.int n), some (.bl mu), some (.kl (sD ns)), some (.kl (sD os)), some (.ref p5), some (.int (ds.length : Nat)), some (.str nm), some (.int (c : Nat)), some (.ref p9), some (.kl (sD ts)), b11, b12, b13, b14] ∧
        ws.length ≤ 2 ∧ (∀ w ∈ ws, w.1 ≠ [] ∧ w.1.length ≤ 3 ∧ w.1.Nodup) ∧ (∀ w ∈ ws, ∀ x ∈ w.1, x ≠ nm ∧ (x ∈ ns ∨ x = "none")) ∧ (mu = false → ∀ w ∈ ws, w.2 = false) ∧ BxO M o6) ?_ ?_
      · refine wS_for (wI_rngS ?_)
        trace "V"
        refine call_of hO rfl rfl (of_ok (m := M + 39) hT hO hb5 (by trace "K") (by decide) (by decide) fun r3 d3 o6 hd3 hb6 => ?_)
        rw [put3 n5' np9]
        obtain ⟨c2, hc2', rfl⟩ := small_int [0, 1, 1, 2] hd3
        have hc3 : c2 ≤ 2 := by simp at hc2'; omega
        refine ⟨c2, rfl, by omega, ?_⟩
        refine forL_inv (fun r L s => ∃ (ws : List (List Str × Bool)) (o6 : O) (b11 b12 b13 b14 : Option D), s = put (put (put st p o6) p5 (.lst (ds.map devD))) p9 (.lst (ws.map wishD)) ∧
          L = [some (.ref p), some (.int n), some (.bl mu), some (.kl (sD ns)), some (.kl (sD os)), some (.ref p5), some (.int (ds.length : Nat)), some (.str nm), some (.int (c : Nat)), some (.ref p9), some (.kl (sD ts)), b11, b12, b13, b14] ∧
          ws.length + r.length ≤ 2 ∧ (∀ w ∈ ws, w.1 ≠ [] ∧ w.1.length ≤ 3 ∧ w.1.Nodup) ∧ (∀ w ∈ ws, ∀ x ∈ w.1, x ≠ nm ∧ (x ∈ ns ∨ x = "none")) ∧ (mu = false → ∀ w ∈ ws, w.2 = false) ∧ BxO (M + 19 * r.length) o6) ?_ ?_ ⟨[], o6, a11, a12, a13, a14, rfl, rfl, by simpa using hc3, nofun, nofun, fun _ => nofun, hb6.le (by simp; omega)⟩
        · rintro x r L s nx2 ⟨ws, o6, b11, b12, b13, b14, rfl, rfl, hwl, hw1, hw2, hw3, hb6⟩ hnx2
          rw [List.length_cons] at hwl hb6
          have hb7 : BxO (M + 19 * r.length + 19) o6 := hb6.le (by omega)
          generalize M + 19 * r.length = M2 at hb7 hnx2
          refine tg_nm (wSs_mid (fun L s => ∃ (fs : List Str) (o7 : O), s = put (put (put st p o7) p5 (.lst (ds.map devD))) p9 (.lst (ws.map wishD)) ∧
            L = [some (.ref p), some (.int n), some (.bl mu), some (.kl (sD ns)), some (.kl (sD os)), some (.ref p5), some (.int (ds.length : Nat)), some (.str nm), some (.int (c : Nat)), some (.ref p9), some (.kl (sD ts)), some x, some (.kl (sD fs)), b13, b14] ∧
            (∀ x ∈ fs, x ≠ nm ∧ (x ∈ ns ∨ x = "none")) ∧ fs.Nodup ∧ fs.length ≤ 11 ∧ BxO (M2 + 18) o7) ?_ ?_)
          · refine wS_asg ?_
            refine lc_otherS (x := nm) (by simp) (by decide) rfl hnmo ?_
            trace "V"
            refine newL_of (by decide) fun pt hpt => ?_
            obtain ⟨nt9, hpt⟩ := put_none hpt
            obtain ⟨nt5, hpt⟩ := put_none hpt
            obtain ⟨ntp, hpt⟩ := put_none hpt
            have npt := ntp.symm
            trace "V"
            refine call_of hT rfl rfl (take_ok (m := M2 + 18) hT hb7 ((put_ne npt).trans ((put_ne np9).trans ((put_ne n5').trans put_same))) (by decide) (by decide) fun r4 o7 hr4 hb8 => ?_)
            rw [put_swap npt.symm, put3 n5' np9]
            have fpt : put (put (put st p o7) p5 (.lst (ds.map devD))) p9 (.lst (ws.map wishD)) pt = none := by rw [put_ne nt9, put_ne nt5, put_ne ntp]; exact hpt
            trace "V"
            refine c_eqI0 ?_
            trace "V"
            obtain ⟨j, hj, hj1⟩ : ∃ j : Nat, (if decide (r4 = 0) = true then (1 : Int) else 0) = (j : Nat) ∧ j ≤ 1 := by
              by_cases h : r4 = 0
              · exact ⟨1, by simp [h], by omega⟩
              · exact ⟨0, by simp [h], by omega⟩
            rw [hj]
            refine op_mulRef put_same hj1 (by decide) ?_
            have hfl : (List.replicate j [D.str "none"]).flatten = sD (List.replicate j ("none" : Str)) := by
              unfold sD
              rcases Nat.lt_or_ge 0 j with h | h
              · have : j = 1 := by omega
                subst this; rfl
              · have : j = 0 := by omega
                subst this; rfl
            rw [hfl]
            have happ : sD ns ++ sD (List.replicate j ("none" : Str)) = sD (ns ++ List.replicate j ("none" : Str)) := by unfold sD; rw [List.map_append]
            have hlen : (ns ++ List.replicate j ("none" : Str)).length ≤ 11 := by rw [List.length_append, List.length_replicate, hnl]; omega
            refine op_addK (by rw [happ]; unfold sD; rw [List.length_map]; exact Nat.le_trans hlen (by decide)) ?_
            rw [happ]
            have hmem : ∀ y ∈ ns ++ List.replicate j ("none" : Str), y ∈ ns ∨ y = "none" := fun y hy => by
              rcases List.mem_append.mp hy with h | h
              · exact .inl h
              · exact .inr (List.eq_of_mem_replicate h)
            refine ⟨ns ++ List.replicate j ("none" : Str), rfl, fun y hy => ?_, Nat.le_trans hlen (by decide), ?_⟩
            · rcases hmem y hy with h | rfl
              · exact hnok y h
              · exact none_ok
            · trace "V"
              refine ⟨_, Sub.put fpt, _, o7, rfl, rfl, fun y hy => ?_, ?_, ?_, hb8⟩
              · have := List.mem_filter.mp hy
                exact ⟨by simpa using this.2, hmem y this.1⟩
              · refine List.Nodup.sublist List.filter_sublist (List.nodup_append.mpr ⟨hnn, ?_, fun a ha b hb e => ?_⟩)
                · rcases Nat.lt_or_ge 0 j with h | h
                  · have : j = 1 := by omega
                    subst this; simp
                  · have : j = 0 := by omega
                    subst this; simp
                · rw [List.eq_of_mem_replicate hb] at e
                  rw [e] at ha
                  exact none_pool (hnp _ ha)
              · exact Nat.le_trans (List.length_filter_le _ _) hlen
          · rintro L s ⟨fs, o7, rfl, rfl, hf1, hf2, hf3, hb8⟩
            have hfok : ∀ x ∈ fs, SOk x := hts_ok hf1
            trace "V"
            refine call_of hT rfl rfl (take_ok (m := M2 + 17) hT hb8 (by trace "K") (by decide) (by decide) fun r5 o8 hr5 hb9 => ?_)
            rw [put3 n5' np9]
            trace "V"
            refine call_of hS rfl rfl (some_ok (m := M2 + 6) (xs := sD fs) hT hS (hb9.le (by unfold sD; rw [List.length_map]; omega)) (by trace "K") (.inl rfl) (by unfold sD; rw [List.length_map]; omega) (by omega) fun ys o9 ⟨zs9, hp9'⟩ hl9 hb10 => ?_)
            rw [put3 n5' np9]
            obtain ⟨gs, us9, rfl, rfl, hp10⟩ := perm_part hp9'
            clear hp9'
            have hgl : gs.length ≤ 3 := by
              have : (sD gs).length = gs.length := by unfold sD; rw [List.length_map]
              have h3 : r5 < 3 := hr5
              omega
            have hg1 : ∀ x ∈ gs, x ≠ nm ∧ (x ∈ ns ∨ x = "none") := fun x hx => hf1 x (hp10.mem_iff.mp (List.mem_append_left _ hx))
            have hg2 : gs.Nodup := (List.nodup_append.mp (hp10.nodup_iff.mpr hf2)).1
            trace "V"
            refine c_neNil (hts_ok hg1) ?_
            trace "V"
            by_cases hg : gs = []
            · subst hg
              rw [if_neg (by simp)]
              trace "V"
              exact hnx2 _ _ (Dr.refl ⟨trivial, ws, o9, _, _, _, _, rfl, rfl, by omega, hw1, hw2, hw3, hb10.le (by omega)⟩)
            · rw [if_pos (by cases gs with | nil => exact absurd rfl hg | cons _ _ => rfl)]
              trace "V"
              refine b_tuple_kl (by unfold sD; rw [List.length_map]; exact Nat.le_trans hgl (by decide)) ?_
              trace "V"
              have fin : ∀ (b : Bool) (o10 : O), (mu = false → b = false) → BxO M2 o10 → bmR .append (.ref p9) [.tup [.tup (sD gs), .bl b]] (put (put (put st p o10) p5 (.lst (ds.map devD))) p9 (.lst (ws.map wishD))) (fun _ s => nx2 [some (.ref p), some (.int n), some (.bl mu), some (.kl (sD ns)), some (.kl (sD os)), some (.ref p5), some (.int (ds.length : Nat)), some (.str nm), some (.int (c : Nat)), some (.ref p9), some (.kl (sD ts)), some x, some (.kl (sD fs)), some (.kl (sD gs)), b14] s) := fun b o10 hbm hb11 => by
                refine bm_append put_same (by rw [List.length_map]; exact Nat.lt_of_le_of_lt (show ws.length ≤ 2 by omega) (by decide)) ?_
                rw [put_put]
                refine hnx2 _ _ (Dr.refl ⟨trivial, ws ++ [(gs, b)], o10, _, _, _, _, ?_, rfl, ?_, ?_, ?_, ?_, hb11⟩)
                · rw [List.map_append]; rfl
                · rw [List.length_append]; simp only [List.length_cons, List.length_nil]; omega
                · intro w hw
                  rcases List.mem_append.mp hw with h | h
                  · exact hw1 w h
                  · rw [List.mem_singleton.mp h]; exact ⟨hg, hgl, hg2⟩
                · intro w hw
                  rcases List.mem_append.mp hw with h | h
                  · exact hw2 w h
                  · rw [List.mem_singleton.mp h]; exact hg1
                · intro hm w hw
                  rcases List.mem_append.mp hw with h | h
                  · exact hw3 hm w h
                  · rw [List.mem_singleton.mp h]; exact hbm hm
              by_cases hm : mu = true
              · rw [if_pos hm]
                trace "V"
                refine call_of hT rfl rfl (take_ok (m := M2 + 5) hT hb10 (by trace "K") (by decide) (by decide) fun r6 o10 hr6 hb11 => ?_)
                rw [put3 n5' np9]
                trace "V"
                refine c_eqI0 ?_
                trace "V"
                exact fin _ o10 (fun h => by rw [hm] at h; cases h) (hb11.le (by omega))
              · rw [if_neg hm]
                trace "V"
                exact fin mu o9 (fun h => h) (hb10.le (by omega))
        · rintro L s ⟨ws, o6, b11, b12, b13, b14, rfl, rfl, hwl, hw1, hw2, hw3, hb6⟩
          exact Dr.refl ⟨ws, o6, b11, b12, b13, b14, rfl, rfl, by simpa using hwl, hw1, hw2, hw3, hb6.le (by omega)⟩
      · rintro L s ⟨ws, o6, b11, b12, b13, b14, rfl, rfl, hwl, hw1, hw2, hw3, hb6⟩
        refine wSs_drop ?_
        trace "V"
        refine b_set (ss := ts) rfl (by omega) fun ps hps => ?_
        obtain ⟨ns9, hps1⟩ := put_none hps
        obtain ⟨ns5, hps1⟩ := put_none hps1
        obtain ⟨nsp, hps1⟩ := put_none hps1
        have n9s := ns9.symm
        have n5s := ns5.symm
        trace "V"
        refine b_sort_set put_same fun ys hpy hsy => ?_
        have hyl : ys.length ≤ 3 := by rw [hpy.length_eq]; exact Nat.le_trans (ddp_le ts) htl
        have hyn : ys.Nodup := hpy.nodup_iff.mpr (nodup_ddp ts)
        have hym : ∀ x ∈ ys, x ∈ ts := fun x hx => mem_ddp.mp (hpy.mem_iff.mp hx)
        refine newL_frz (by rw [List.length_map]; exact Nat.le_trans hyl (by decide)) ?_
        trace "V"
        refine b_tuple_kl (by rw [List.length_map]; exact Nat.le_trans hyl (by decide)) ?_
        trace "V"
        refine b_tuple_ref (xs := ws.map wishD) ((put_ne n9s).trans put_same) (by rw [List.length_map]; exact Nat.le_trans hwl (by decide)) ?_
        trace "V"
        refine bm_append (xs := ds.map devD) ((put_ne n5s).trans ((put_ne n59).trans put_same)) (by rw [List.length_map]; exact Nat.lt_of_le_of_lt hdn (Nat.lt_of_le_of_lt hn (by decide))) ?_
        let dv : Dev := ⟨nm, ys, ws⟩
        have hdv : DevOk ns mu dv := ⟨sorted_lt hsy hyn, fun x hx => hts x (hym x hx), hyl, hwl, hw1, hw2, hw3⟩
        have e1 : ds.map devD ++ [D.tup [.str nm, .tup (ys.map D.str), .tup (ws.map wishD)]] = (ds ++ [dv]).map devD := by rw [List.map_append]; rfl
        rw [e1]
        have f9 : put (put st p o6) p5 (.lst ((ds ++ [dv]).map devD)) p9 = none := by rw [put_ne n95, put_ne n9p]; exact hp9
        have fs : put (put (put st p o6) p5 (.lst ((ds ++ [dv]).map devD))) p9 (.lst (ws.map wishD)) ps = none := by rw [put_ne ns9, put_ne ns5, put_ne nsp]; exact hps1
        refine ⟨put (put st p o6) p5 (.lst ((ds ++ [dv]).map devD)), ?_, ?_⟩
        · rw [put_swap n5s.symm, put_swap n59.symm, put_put]
          exact (Sub.put f9).trans (Sub.put fs)
        · refine wSs_nil (hnx _ _ (Dr.refl ⟨trivial, ds ++ [dv], o6, _, _, _, _, _, _, _, _, _, ?_, rfl, rfl, ?_, ?_, ?_, ?_⟩))
          · rw [List.length_append]; rfl
          · rw [List.map_append, List.length_append, hds]
            show os.take ds.length ++ [nm] = os.take (ds.length + 1)
            rw [List.take_add_one, hnm]; rfl
          · rw [List.length_append]; simp only [List.length_cons, List.length_nil]; omega
          · intro d hd
            rcases List.mem_append.mp hd with h | h
            · exact hok d h
            · rw [List.mem_singleton.mp h]; exact hdv
          · rw [List.length_append]; simp only [List.length_cons, List.length_nil, Nat.zero_add]
            rw [hM]; exact hb6
  · rintro L s ⟨ds, o', a6, a7, a8, a9, a10, a11, a12, a13, a14, hr, rfl, rfl, hds, hdn, hok, hb⟩
    have hdl : ds.length = n := by
      have := congrArg List.length hr
      simp at this; omega
    trace "V"
    have hrd : rdS (put (put st p o') p5 (.lst (ds.map devD))) (.ref p5) = some (ds.map devD) := by unfold rdS rdL; simp only [put_same]
    refine b_sortD hrd (dts_of devD devP ds fun d _ => dt_dev d) (srt_dev ds) (by rw [List.length_map, hdl]; exact Nat.le_trans hn (by decide)) ?_
    rw [srt_map devD devP]
    have hpm := srtW_perm ds
    trace "V"
    refine b_tuple_kl (by rw [List.length_map]; show (srtW ds).length ≤ _; rw [hpm.length_eq, hdl]; exact Nat.le_trans hn (by decide)) ?_
    have f5 : put st p o' p5 = none := by rw [put_ne n5]; exact hp5
    refine ⟨put st p o', Sub.put f5, q (srtW ds) o' ?_ (hb.le (by omega))⟩
    have hnames : (nms (srtW ds)).Perm os := by
      have : (nms (srtW ds)).Perm (ds.map Dev.name) := hpm.map _
      rw [hds, hdl, ← hol, List.take_length] at this
      exact this
    have hns2 : ∀ x, x ∈ nms (srtW ds) ↔ x ∈ ns := fun x => by rw [hnames.mem_iff, hp2.mem_iff]
    refine ⟨by rw [hpm.length_eq]; exact hdl, ?_, fun x hx => hnp x ((hns2 x).mp hx), fun d hd => ?_⟩
    · have hpw : (srtW ds).Pairwise fun a b => PySem.W.dataLe false devP a b = true := PySem.W.sort_pairwise (PySem.W.sortLe_total _ false _) ds
      have hnd : (nms (srtW ds)).Nodup := hnames.nodup_iff.mpr hon
      unfold nms at hnd ⊢
      rw [List.pairwise_map]
      have hnd2 : (srtW ds).Pairwise fun a b => a.name ≠ b.name := List.pairwise_map.mp hnd
      exact (hpw.and hnd2).imp fun {a b} ⟨h1, h2⟩ => le_dev h1 h2
    · have h := hok d (hpm.mem_iff.mp hd)
      exact ⟨h.asc, fun x hx => ⟨(h.nin x hx).1, (h.nin x hx).2.imp (hns2 x).mpr id⟩, h.nle, h.wle, h.wne, fun w hw x hx => ⟨(h.win w hw x hx).1, (h.win w hw x hx).2.imp (hns2 x).mpr id⟩, h.mus⟩
end
end Py

set_option Elab.async false
set_option linter.all false
set_option maxRecDepth 100000
set_option maxHeartbeats 4000000
/-! The script's cells, the list of draws. -/
namespace Py
open PySem PySem.Spec PyProof.Rows L2
local macro_rules | `(tactic| trace "K") => `(tactic| first | assumption | exact put_same | exact (put_ne (by assumption)).trans put_same | exact (put_ne (by assumption)).trans (by assumption) | exact (put_ne (by assumption)).trans ((put_ne (by assumption)).trans put_same) | exact (put_ne (by assumption)).trans ((put_ne (by assumption)).trans (by assumption)))
local macro_rules | `(tactic| trace "V") => `(tactic| repeat (first | (with_reducible first | refine wSs_cons ?_ | refine wSs_nil ?_ | refine wS_exp ?_ | refine wS_ret ?_ | refine wS_pass ?_ | refine wS_asg ?_ | refine wS_par ?_ | refine wS_iff ?_ | refine wS_brk ?_ | refine wS_cnt ?_ | refine wE_non ?_ | refine wE_bl ?_ | refine wE_int ?_ | refine wE_str ?_ | refine wE_bty ?_ | refine wE_bin ?_ | refine wE_cmp ?_ | refine wE_and ?_ | refine wE_or ?_ | refine wE_not ?_ | refine wE_ite ?_ | refine wE_tup ?_ | refine wE_lst ?_ | refine wE_call ?_ | refine wE_blt ?_ | refine wE_att ?_ | refine wE_idx ?_ | refine wE_slc ?_ | refine wE_frzB ?_ | refine wE_frzC ?_ | refine wE_frzL ?_ | refine wE_frzS ?_ | refine wE_frzV ?_ | refine wA_nil ?_ | refine wA_cons ?_ | refine wTs_nil ?_ | refine wTs_cons ?_ | refine tg_nm ?_ | refine tru_bl ?_ | refine tru_int ?_ | refine tru_non ?_ | refine tru_tup ?_ | refine tru_kl ?_ | refine op_addI ?_ | refine op_subI ?_ | refine frz_kl ?_ | refine frz_tup ?_ | refine frz_int ?_ | refine c_gtI ?_ | refine c_ltI ?_ | refine c_geI ?_ | refine c_leI ?_ | refine b_len_kl ?_ | refine b_len_tup ?_ | refine b_len_sl ?_ | refine b_len_kd ?_ | refine b_int_int ?_ | refine b_int_bl ?_ | refine b_abs ?_ | refine b_min ?_ | refine wS_ssub ?_ | refine wE_mth ?_ | refine wE_bm ?_ | refine wE_negI ?_ | refine wE_new ?_ | refine wS_satt ?_ | refine opt_n ?_ | refine opt_i ?_) | ((with_reducible apply wE_var); (rfl)) | ((with_reducible apply tg_tp); (rfl)) | ((with_reducible apply par_of); (rfl)) | ((with_reducible apply newT_of); (exact Nat.le_of_ble_eq_true rfl)) | ((with_reducible apply newL_frz); (exact Nat.le_of_ble_eq_true rfl)) | ((with_reducible apply ix_ref); (first | assumption | exact put_same | exact (put_ne (by assumption)).trans put_same | exact (put_ne (by assumption)).trans (by assumption) | exact (put_ne (by assumption)).trans ((put_ne (by assumption)).trans put_same) | exact (put_ne (by assumption)).trans ((put_ne (by assumption)).trans (by assumption))); (rfl)) | ((with_reducible apply ssub_ref); (first | assumption | exact put_same | exact (put_ne (by assumption)).trans put_same | exact (put_ne (by assumption)).trans (by assumption) | exact (put_ne (by assumption)).trans ((put_ne (by assumption)).trans put_same) | exact (put_ne (by assumption)).trans ((put_ne (by assumption)).trans (by assumption))); (rfl)) | ((with_reducible apply ix_tup); (rfl)) | ((with_reducible apply ix_kl); (rfl)) | ((with_reducible apply op_modI); (first | assumption | decide)) | ((with_reducible apply op_fdivI); (first | (constructor <;> assumption) | decide)) | ((with_reducible apply op_mulL); (decide)) | ((with_reducible apply op_mulR); (decide)) | ((with_reducible apply b_len_ref); (first | assumption | exact put_same | exact (put_ne (by assumption)).trans put_same | exact (put_ne (by assumption)).trans (by assumption) | exact (put_ne (by assumption)).trans ((put_ne (by assumption)).trans put_same) | exact (put_ne (by assumption)).trans ((put_ne (by assumption)).trans (by assumption)))) | ((with_reducible apply bmA_ref); (first | assumption | exact put_same | exact (put_ne (by assumption)).trans put_same | exact (put_ne (by assumption)).trans (by assumption) | exact (put_ne (by assumption)).trans ((put_ne (by assumption)).trans put_same) | exact (put_ne (by assumption)).trans ((put_ne (by assumption)).trans (by assumption))); (rfl))))
section
variable {P : Prog} {E : XD} {st : Sto} {Q : QD}
theorem slc_rd {w : D} {xs : List D} {lo hi : Option Int} (hw : rdL st w = some xs) (h : xs.length ≤ sizeLine) (q : Q (.kl (cutD xs lo hi)) st) : slcR w lo hi st (fun x s => frzR P x s Q) := by
  have g : newL (cutD xs lo hi) st (fun x s => frzR P x s Q) := newL_frz (Nat.le_trans (by unfold cutD; rw [List.length_take, List.length_drop]; omega) h) q
  cases w with
  | str _ => cases hw
  | tup _ => cases hw
  | _ => exact ⟨xs, hw, g⟩
theorem rdL_put {w : D} {xs : List D} {a : Addr} {o : O} (h : rdL st w = some xs) (ha : st a = none) : rdL (put st a o) w = some xs := by
  unfold rdL at h ⊢
  split at h
  · rename_i b
    have : b ≠ a := fun e => by rw [e, ha] at h; cases h
    rw [put_ne this]; exact h
  · exact h
  · exact h
  · cases h
theorem cells_ok {k : Nat} {w : D} {ns : List Int} {mo : Nat} (hw : rdL st w = some (ns.map D.int)) (hC : Has P "" "_law_cells" f_i_law_cells_2580d9) (hl : ns.length ≤ 63) (h0 : 0 < mo) (h3 : mo ≤ 3)
    (q : ∀ cs : List Int, 0 < cs.length → cs.length ≤ 3 → Q (.kl (cs.map D.int)) st) : cal P (k + 1) "" "_law_cells" [w, .int (mo : Nat)] st Q E := by
  have hsz : (ns.map D.int).length ≤ sizeLine := by rw [List.length_map]; exact Nat.le_trans hl (by decide)
  refine cal_of hC rfl ?_
  simp only [f_i_law_cells_2580d9, List.map_cons, List.map_nil, List.length_cons, List.length_nil, Nat.reduceAdd, Nat.reduceSub, Nat.zero_add, List.replicate, List.cons_append, List.nil_append]
  refine wSs_mid (fun L s => ∃ (pc : Addr) (cs : List Int), st pc = none ∧ s = put st pc (.lst (cs.map D.int)) ∧ L = [some w, some (.int mo), some (.ref pc), none, none, none] ∧ 0 < cs.length ∧ cs.length ≤ 3 ∧ (mo < ns.length → cs.length = mo)) ?_ ?_
  · trace "V"
    refine slc_rd hw hsz ?_
    rw [cut_take]
    trace "V"
    refine b_listN (.inl rfl) (newL_of (Nat.le_trans (Nat.le_trans (Nat.le_of_eq (List.length_take ..)) (Nat.min_le_right _ _)) hsz) fun p1 hp1 => ?_)
    refine tru_ref put_same ?_
    have e1 : (ns.map D.int).take mo = (ns.take mo).map D.int := List.map_take.symm
    by_cases hn : ns = []
    · subst hn
      rw [if_neg (by simp)]
      trace "V"
      refine newL_of (by decide) fun p2 hp2 => ?_
      obtain ⟨n21, hp2⟩ := put_none hp2
      trace "V"
      refine ⟨put st p2 (.lst [.int 0]), ?_, p2, [0], hp2, rfl, rfl, by decide, by decide, fun h => by simp at h⟩
      exact sub_put2 (Sub.put hp1)
    · have hne : ns.take mo ≠ [] := fun h => by
        have := congrArg List.length h
        rw [List.length_take] at this
        cases ns with
        | nil => exact hn rfl
        | cons _ _ => simp at this; omega
      rw [if_pos (by rw [e1]; cases hh : ns.take mo with | nil => exact absurd hh hne | cons _ _ => rfl)]
      trace "V"
      rw [e1]
      refine Dr.refl ⟨p1, ns.take mo, hp1, rfl, rfl, List.length_pos_iff.mpr hne, by rw [List.length_take]; omega, fun h => by rw [List.length_take]; omega⟩
  · rintro L s ⟨pc, cs, hpc, rfl, rfl, hc0, hc3, hcm⟩
    refine wSs_cons (wS_for (wI_enumT (xs := cutD (ns.map D.int) (some (mo : Nat)) (some 63)) (fun R hR => ?_) ?_))
    · trace "V"
      exact slc_rd (rdL_put hw hpc) hsz hR
    refine forL_inv (fun r L s => ∃ (cs : List Int) (a3 a4 a5 : Option D), s = put st pc (.lst (cs.map D.int)) ∧ L = [some w, some (.int mo), some (.ref pc), a3, a4, a5] ∧ 0 < cs.length ∧ cs.length ≤ 3 ∧ (r ≠ [] → cs.length = mo) ∧ ∀ x ∈ r, ∃ (i : Nat) (c : Int), x = .tup [.int (i : Nat), .int c] ∧ i < 64) ?_ ?_ ⟨cs, none, none, none, rfl, rfl, hc0, hc3, ?_, ?_⟩
    · rintro x r L s nx ⟨cs, a3, a4, a5, rfl, rfl, hc0, hc3, hcm, hx⟩ hnx
      obtain ⟨i, c, rfl, hi⟩ := hx x (List.mem_cons_self ..)
      have hcl := hcm nofun
      refine tg_tp rfl ?_
      trace "V"
      refine op_modI (by omega) ?_
      have e0 : ((i : Nat) : Int) % ((mo : Nat) : Int) = ((i % mo : Nat) : Int) := by omega
      rw [e0]
      have lt : i % mo < cs.length := by rw [hcl]; exact Nat.mod_lt _ h0
      obtain ⟨d, hd⟩ : ∃ d, cs[i % mo]? = some d := ⟨cs[i % mo], by simp⟩
      trace "V"
      refine ix_ref put_same (atI_nat (d := .int d) (by rw [List.getElem?_map, hd]; rfl)) ?_
      trace "V"
      refine op_mulI (.inr ⟨by omega, by omega⟩) ?_
      trace "V"
      refine ssub_ref put_same (j := i % mo) (by unfold ixN; rw [if_pos (by omega), List.length_map, if_pos (by omega)]; congr 1) ?_
      rw [put_put]
      refine wSs_nil (hnx _ _ (Dr.refl ⟨rfl, cs.set (i % mo) (d + c * ((i : Nat) + 2)), _, _, _, ?_, rfl, ?_, ?_, fun _ => ?_, fun y hy => hx y (List.mem_cons_of_mem _ hy)⟩))
      · rw [List.map_set]
      · rw [List.length_set]; exact hc0
      · rw [List.length_set]; exact hc3
      · rw [List.length_set]; exact hcl
    · rintro L s ⟨cs, a3, a4, a5, rfl, rfl, hc0, hc3, hcm, hx⟩
      trace "V"
      refine frz_ref put_same ?_
      rw [id_eq, del_put hpc]
      exact Dr.refl (q cs hc0 hc3)
    · intro hne
      refine hcm ?_
      have : (cutD (ns.map D.int) (some (mo : Nat)) (some 63)) ≠ [] := fun h => by rw [h] at hne; exact hne rfl
      have hlen : 0 < (cutD (ns.map D.int) (some (mo : Nat)) (some 63)).length := List.length_pos_iff.mpr this
      unfold cutD at hlen
      rw [List.length_take, List.length_drop, List.length_map, HT.sIx_nat] at hlen
      omega
    · intro x hx
      obtain ⟨⟨d, i⟩, h1, rfl⟩ := List.mem_map.mp hx
      have h2 := List.mem_zipIdx h1
      have hlen : (cutD (ns.map D.int) (some (mo : Nat)) (some 63)).length ≤ 63 := by
        unfold cutD
        rw [List.length_take, List.length_drop, List.length_map]; omega
      have hd : d ∈ ns.map D.int := by
        have h3 : d ∈ cutD (ns.map D.int) (some (mo : Nat)) (some 63) := by
          have := h2.2.2
          rw [this]; exact List.getElem_mem _
        unfold cutD at h3
        exact List.mem_of_mem_drop (List.mem_of_mem_take h3)
      obtain ⟨c, _, rfl⟩ := List.mem_map.mp hd
      exact ⟨i, c, rfl, by omega⟩
theorem box_ok {k : Nat} {cs : List Int} {j : Nat} (hB : Has P "" "_law_box" f_i_law_box_b17dc2) (hj : j < cs.length) (hc : cs.length ≤ 3)
    (q : ∀ p o, st p = none → BxO (2 ^ 59) o → Q (.ref p) (put st p o)) : cal P (k + 1) "" "_law_box" [.kl (cs.map D.int), .int (j : Nat)] st Q E := by
  refine cal_of hB rfl ?_
  simp only [f_i_law_box_b17dc2, List.map_cons, List.map_nil, List.length_cons, List.length_nil, Nat.reduceAdd, Nat.reduceSub, Nat.zero_add, List.replicate, List.cons_append, List.nil_append]
  trace "V"
  rw [if_pos (decide_eq_true (by rw [List.length_map]; omega))]
  obtain ⟨c, hcj⟩ : ∃ c, cs[j]? = some c := ⟨cs[j], by simp⟩
  trace "V"
  refine ix_kl (atI_nat (d := .int c) (by rw [List.getElem?_map, hcj]; rfl)) ?_
  trace "V"
  refine op_powI ⟨by decide, by decide, by decide⟩ ?_
  trace "V"
  refine op_mulI ?_ ?_
  · have hb : ∀ b : Bool, -(2 ^ 64) < (if b = true then (1 : Int) else 0) ∧ (if b = true then (1 : Int) else 0) < 2 ^ 64 := by decide
    exact .inr (hb _)
  trace "V"
  refine newL_of (Nat.le_of_ble_eq_true rfl) fun p hp => ?_
  refine Dr.refl (q p _ hp ⟨_, _, _, rfl, ?_, by decide, by decide⟩)
  refine Int.mul_nonneg ?_ ?_
  · split <;> omega
  · have hb : ∀ b : Bool, 0 ≤ (if b = true then (1 : Int) else 0) := by decide
    exact hb _
end
end Py

set_option Elab.async false
set_option linter.all false
set_option maxRecDepth 100000
set_option maxHeartbeats 4000000
/-! Who can come, by the laws' own look; tuples in place of lists. -/
namespace Py
open PySem PySem.Spec PyProof.Rows L2
local macro_rules | `(tactic| trace "K") => `(tactic| first | assumption | exact put_same | exact (put_ne (by assumption)).trans put_same | exact (put_ne (by assumption)).trans (by assumption) | exact (put_ne (by assumption)).trans ((put_ne (by assumption)).trans put_same) | exact (put_ne (by assumption)).trans ((put_ne (by assumption)).trans (by assumption)))
local macro_rules | `(tactic| trace "V") => `(tactic| repeat (first | (with_reducible first | refine wSs_cons ?_ | refine wSs_nil ?_ | refine wS_exp ?_ | refine wS_ret ?_ | refine wS_pass ?_ | refine wS_asg ?_ | refine wS_par ?_ | refine wS_iff ?_ | refine wS_brk ?_ | refine wS_cnt ?_ | refine wE_non ?_ | refine wE_bl ?_ | refine wE_int ?_ | refine wE_str ?_ | refine wE_bty ?_ | refine wE_bin ?_ | refine wE_cmp ?_ | refine wE_and ?_ | refine wE_or ?_ | refine wE_not ?_ | refine wE_ite ?_ | refine wE_tup ?_ | refine wE_lst ?_ | refine wE_call ?_ | refine wE_blt ?_ | refine wE_att ?_ | refine wE_idx ?_ | refine wE_slc ?_ | refine wE_frzB ?_ | refine wE_frzC ?_ | refine wE_frzL ?_ | refine wE_frzS ?_ | refine wE_frzV ?_ | refine wA_nil ?_ | refine wA_cons ?_ | refine wTs_nil ?_ | refine wTs_cons ?_ | refine tg_nm ?_ | refine tru_bl ?_ | refine tru_int ?_ | refine tru_non ?_ | refine tru_tup ?_ | refine tru_kl ?_ | refine op_addI ?_ | refine op_subI ?_ | refine frz_kl ?_ | refine frz_tup ?_ | refine frz_int ?_ | refine c_gtI ?_ | refine c_ltI ?_ | refine c_geI ?_ | refine c_leI ?_ | refine b_len_kl ?_ | refine b_len_tup ?_ | refine b_len_sl ?_ | refine b_len_kd ?_ | refine b_int_int ?_ | refine b_int_bl ?_ | refine b_abs ?_ | refine b_min ?_ | refine wS_ssub ?_ | refine wE_mth ?_ | refine wE_bm ?_ | refine wE_negI ?_ | refine wE_new ?_ | refine wS_satt ?_ | refine opt_n ?_ | refine opt_i ?_) | ((with_reducible apply wE_var); (rfl)) | ((with_reducible apply tg_tp); (rfl)) | ((with_reducible apply par_of); (rfl)) | ((with_reducible apply newT_of); (exact Nat.le_of_ble_eq_true rfl)) | ((with_reducible apply newL_frz); (exact Nat.le_of_ble_eq_true rfl)) | ((with_reducible apply ix_ref); (first | assumption | exact put_same | exact (put_ne (by assumption)).trans put_same | exact (put_ne (by assumption)).trans (by assumption) | exact (put_ne (by assumption)).trans ((put_ne (by assumption)).trans put_same) | exact (put_ne (by assumption)).trans ((put_ne (by assumption)).trans (by assumption))); (rfl)) | ((with_reducible apply ssub_ref); (first | assumption | exact put_same | exact (put_ne (by assumption)).trans put_same | exact (put_ne (by assumption)).trans (by assumption) | exact (put_ne (by assumption)).trans ((put_ne (by assumption)).trans put_same) | exact (put_ne (by assumption)).trans ((put_ne (by assumption)).trans (by assumption))); (rfl)) | ((with_reducible apply ix_tup); (rfl)) | ((with_reducible apply ix_kl); (rfl)) | ((with_reducible apply op_modI); (first | assumption | decide)) | ((with_reducible apply op_fdivI); (first | (constructor <;> assumption) | decide)) | ((with_reducible apply op_mulL); (decide)) | ((with_reducible apply op_mulR); (decide)) | ((with_reducible apply b_len_ref); (first | assumption | exact put_same | exact (put_ne (by assumption)).trans put_same | exact (put_ne (by assumption)).trans (by assumption) | exact (put_ne (by assumption)).trans ((put_ne (by assumption)).trans put_same) | exact (put_ne (by assumption)).trans ((put_ne (by assumption)).trans (by assumption)))) | ((with_reducible apply bmA_ref); (first | assumption | exact put_same | exact (put_ne (by assumption)).trans put_same | exact (put_ne (by assumption)).trans (by assumption) | exact (put_ne (by assumption)).trans ((put_ne (by assumption)).trans put_same) | exact (put_ne (by assumption)).trans ((put_ne (by assumption)).trans (by assumption))); (rfl))))
def f_i_law_can_c73f16 : Fd := ⟨["_law_world_so", "_law_name_so", "_law_came_so"], 6, [], (.cons (.asg (.nm 3) (.idx (.frz (.lc (.var 4) [4] (.nm 4) (.of (.var 0)) (.cons (.cmp .eq (.idx (.var 4) (.int 0)) (.var 1)) .nil))) (.int 0))) (.cons (.iff (.cmp .ne (.frz (.lc (.var 4) [4] (.nm 4) (.of (.idx (.var 3) (.int 1))) (.cons (.cmp .nmem (.var 4) (.var 2)) .nil))) (.frz (.lst .nil))) (.cons (.ret (.bl false)) .nil) .nil) (.cons (.ret (.cmp .eq (.frz (.lc (.var 4) [4] (.nm 4) (.of (.idx (.var 3) (.int 2))) (.cons (.and (.idx (.var 4) (.int 1)) (.cmp .eq (.frz (.lc (.var 5) [5] (.nm 5) (.of (.idx (.var 4) (.int 0))) (.cons (.cmp .mem (.var 5) (.var 2)) .nil))) (.frz (.lst .nil)))) .nil))) (.frz (.lst .nil)))) .nil)))⟩
def f_tupled_251813 : Fd := ⟨["thing"], 2, [], (.cons (.ret (.ite (.blt .isinstance (.cons (.var 0) (.cons (.tup (.cons (.bty "list") (.cons (.bty "tuple") .nil))) .nil))) (.blt .tuple (.cons (.frz (.lc (.call "tupled" (.cons (.var 1) .nil) []) [1] (.nm 1) (.of (.var 0)) .nil)) .nil)) (.var 0))) .nil)⟩
/-- can a device come when these have come -/
def devCan (d : Dev) (cs : List Str) : Bool := d.needs.all (fun x => decide (x ∈ cs)) && d.wishes.all fun w => !w.2 || w.1.any fun x => decide (x ∈ cs)
structure DevStr (d : Dev) : Prop where
  nm : SOk d.name
  ne : ∀ x ∈ d.needs, SOk x
  wi : ∀ w ∈ d.wishes, ∀ x ∈ w.1, SOk x
/-- a world whose names are different, of good texts, not too great -/
structure WStr (W : Wld) : Prop where
  dev : ∀ d ∈ W, DevStr d
  nd : (nms W).Nodup
  len : W.length ≤ 100
  nle : ∀ d ∈ W, d.needs.length ≤ 100
  wle : ∀ d ∈ W, d.wishes.length ≤ 100
  ole : ∀ d ∈ W, ∀ w ∈ d.wishes, w.1.length ≤ 100
theorem WldOk.str {n : Nat} {mu : Bool} {W : Wld} (h : WldOk n mu W) (hn : n ≤ 100) : WStr W := by
  have ok : ∀ x, x ∈ nms W ∨ x = "none" → SOk x := fun x hx => by
    rcases hx with h1 | rfl
    · exact pool_ok x (h.pool x h1)
    · exact none_ok
  refine ⟨fun d hd => ⟨pool_ok _ (h.pool _ (List.mem_map_of_mem hd)), fun x hx => ok x ((h.dev d hd).nin x hx).2, fun w hw x hx => ok x ((h.dev d hd).win w hw x hx).2⟩, ?_, by rw [h.len]; exact hn, fun d hd => Nat.le_trans (h.dev d hd).nle (by decide), fun d hd => Nat.le_trans (h.dev d hd).wle (by decide), fun d hd w hw => Nat.le_trans ((h.dev d hd).wne w hw).2.1 (by decide)⟩
  exact h.asc.imp fun {a b} h => ltS_ne h
section
variable {P : Prog} {E : XD} {st : Sto} {Q : QD}
theorem lcL_pureG {α : Type} {stays : Sto → Prop} {turn : D → Sto → (Option D → Sto → Prop) → Prop} {fin : List D → Sto → Prop} (c : α → D) (p : α → Bool) (g : α → D) (hs : stays st) :
    ∀ (l : List α) (acc : List D), (∀ y ∈ l, ∀ nx : Option D → Sto → Prop, nx (if p y = true then some (g y) else none) st → turn (c y) st nx) → fin (acc ++ (l.filter p).map g) st → lcL stays turn fin (l.map c) acc st
  | [], acc, _, h => by simpa [lcL] using h
  | y :: l, acc, ht, h => by
    show turn (c y) st _
    refine ht y (List.mem_cons_self ..) _ (Dr.refl ⟨hs, ?_⟩)
    by_cases e : p y = true
    · rw [if_pos e]
      refine lcL_pureG c p g hs l (acc ++ [g y]) (fun z hz => ht z (List.mem_cons_of_mem _ hz)) ?_
      rw [List.filter_cons, if_pos e] at h; simpa using h
    · rw [if_neg e]
      refine lcL_pureG c p g hs l acc (fun z hz => ht z (List.mem_cons_of_mem _ hz)) ?_
      rw [List.filter_cons, if_neg e] at h; exact h
theorem wE_lcG {α : Type} {k : Nat} {L : Loc} {elt : Ex} {vs : List Nat} {tg : Tg} {it : It} {ifs : Exs} (l : List α) (c : α → D) (p : α → Bool) (g : α → D)
    (hi : ∀ R : List D → (Sto → Prop) → Sto → (Sto → Sto) → Prop, (∀ stays : Sto → Prop, stays st → R (l.map c) stays st id) → wpI P (cal P k) it L st R E)
    (ht : ∀ y ∈ l, ∀ nx : Option D → Sto → Prop, nx (if p y = true then some (g y) else none) st → tgR tg (c y) (wipeL L vs) fun L1 => wpTs P (cal P k) ifs L1 st (fun b t => if b = true then wpE P (cal P k) elt L1 t (fun d u => nx (some d) u) X0 else nx none t) X0)
    (hl : l.length ≤ 1000000) (q : Q (.kl ((l.filter p).map g)) st) : wpE P (cal P k) (.frz (.lc elt vs tg it ifs)) L st Q E := by
  refine wE_frz (hi _ fun stays hs => ?_)
  have hf := List.length_filter_le p l
  refine lcL_pureG c p g hs l [] ht ?_
  exact newL_frz (by rw [List.nil_append, List.length_map]; exact Nat.le_trans hf (Nat.le_trans hl (by decide))) (by simpa using q)
theorem c_eqNil {xs : List D} {ds : List PyData} (hd : Dts st xs ds) (hs : SeqAt.shaped (.list ds) = true) (q : Q (.bl xs.isEmpty) st) : copR .eq (.kl xs) (.kl []) st Q := by
  refine ⟨.list ds, .list [], .lst rfl hd, .lst rfl .nil, hs, rfl, ?_⟩
  cases hd with
  | nil => exact q
  | cons _ _ => exact q
theorem shaped_of {d : PyData} (h1 : PyData.canLay0 d = true) (h2 : PyData.depth d ≤ 64) : SeqAt.shaped d = true := by
  unfold SeqAt.shaped; rw [h1]; simpa using h2
theorem canLay_map {α : Type} (f : α → PyData) : ∀ l : List α, (∀ x ∈ l, PyData.canLay0 (f x) = true) → PyData.canLayAll0 (l.map f) = true
  | [], _ => rfl
  | x :: l, h => by
    show (PyData.canLay0 (f x) && PyData.canLayAll0 (l.map f)) = true
    rw [h x (List.mem_cons_self ..), canLay_map f l fun y hy => h y (List.mem_cons_of_mem _ hy)]; rfl
theorem canLay_wish {w : List Str × Bool} (h : ∀ x ∈ w.1, SOk x) : PyData.canLay0 (wishP w) = true := by
  show (PyData.canLayAll0 (w.1.map PyData.str) && _) = true
  rw [canLay_strs h]; rfl
theorem c_eqNilS {ss : List Str} (h : ∀ x ∈ ss, SOk x) (q : Q (.bl ss.isEmpty) st) : copR .eq (.kl (sD ss)) (.kl []) st Q := c_eqNil (dts_strs ss) (shaped_list h) (by cases ss <;> exact q)
theorem c_eqNilW {ws : List (List Str × Bool)} (h : ∀ w ∈ ws, ∀ x ∈ w.1, SOk x) (q : Q (.bl ws.isEmpty) st) : copR .eq (.kl (ws.map wishD)) (.kl []) st Q := by
  refine c_eqNil (dts_of wishD wishP ws fun w _ => dt_wish w) (shaped_of (canLay_map wishP ws fun w hw => canLay_wish (h w hw)) ?_) (by cases ws <;> exact q)
  show PyData.depthAll (ws.map wishP) + 1 ≤ 64
  have := depth_wishes ws
  omega
theorem filter_one {W : Wld} (nd : (nms W).Nodup) {d : Dev} (hd : d ∈ W) : W.filter (fun x => decide (x.name = d.name)) = [d] := by
  induction W with
  | nil => simp at hd
  | cons x W ih =>
    unfold nms at nd ih
    rw [List.map_cons, List.nodup_cons] at nd
    rcases List.mem_cons.mp hd with rfl | h
    · rw [List.filter_cons, if_pos (by simp)]
      congr 1
      refine List.filter_eq_nil_iff.mpr fun y hy => ?_
      have : y.name ≠ d.name := fun e => nd.1 (e ▸ List.mem_map_of_mem hy)
      simpa using this
    · have : x.name ≠ d.name := fun e => nd.1 (e ▸ List.mem_map_of_mem h)
      rw [List.filter_cons, if_neg (by simpa using this)]
      exact ih nd.2 h
theorem can_ok {k : Nat} {W : Wld} {d : Dev} {cs : List Str} {w : D} (hC : Has P "" "_law_can" f_i_law_can_c73f16) (hW : WStr W) (hd : d ∈ W) (hw : w = .kl (sD cs) ∨ w = .tup (sD cs)) (hcs : ∀ x ∈ cs, SOk x)
    (q : Q (.bl (devCan d cs)) st) : cal P (k + 1) "" "_law_can" [worldD W, .str d.name, w] st Q E := by
  have ds := hW.dev d hd
  refine cal_of hC rfl ?_
  simp only [f_i_law_can_c73f16, List.map_cons, List.map_nil, List.length_cons, List.length_nil, Nat.reduceAdd, Nat.reduceSub, Nat.zero_add, List.replicate, List.cons_append, List.nil_append]
  trace "V"
  refine wE_lcG W devD (fun x => decide (x.name = d.name)) devD (fun R hR => wI_tup (fun R hR => wE_var rfl hR) hR) ?_ (Nat.le_trans hW.len (by decide)) ?_
  · intro y hy nx hn
    refine tg_nm ?_
    trace "V"
    refine ix_tup (d := .str y.name) rfl ?_
    trace "V"
    refine c_eqS (hW.dev y hy).nm ds.nm ?_
    trace "V"
    by_cases h : y.name = d.name
    · rw [if_pos (decide_eq_true h)] at hn ⊢
      trace "V"
      rw [if_pos rfl]
      trace "V"
      exact hn
    · rw [if_neg (by simpa using h)] at hn ⊢
      rw [if_neg (by simp)]
      exact hn
  rw [filter_one hW.nd hd]
  trace "V"
  have nin : ∀ y, SOk y → ∀ (Q' : QD), Q' (.bl (!decide (y ∈ cs))) st → copR .nmem (.str y) w st Q' := fun y hy Q' h => c_inS (neg := true) hw hcs hy (by simpa using h)
  have cin : ∀ y, SOk y → ∀ (Q' : QD), Q' (.bl (decide (y ∈ cs))) st → copR .mem (.str y) w st Q' := fun y hy Q' h => c_inS (neg := false) hw hcs hy (by simpa using h)
  refine wE_lcG d.needs D.str (fun x => !decide (x ∈ cs)) D.str (fun R hR => wI_tup (fun R hR => wE_idx (wE_var rfl (wE_int (ix_tup (d := .tup (sD d.needs)) rfl hR)))) hR) ?_ (Nat.le_trans (hW.nle d hd) (by decide)) ?_
  · intro y hy nx hn
    refine tg_nm ?_
    trace "V"
    refine nin y (ds.ne y hy) _ ?_
    refine tru_bl ?_
    by_cases h : y ∈ cs
    · rw [if_neg (by simp [h])] at hn
      rw [if_neg (by simp [h])]
      exact hn
    · rw [if_pos (by simp [h])] at hn
      rw [if_pos (by simp [h])]
      trace "V"
      rw [if_pos rfl]
      trace "V"
      exact hn
  have hfok : ∀ x ∈ d.needs.filter (fun x => !decide (x ∈ cs)), SOk x := fun x hx => ds.ne x (List.mem_filter.mp hx).1
  trace "V"
  refine c_neNil hfok ?_
  trace "V"
  have hne : (d.needs.filter (fun x => !decide (x ∈ cs))).isEmpty = d.needs.all (fun x => decide (x ∈ cs)) := by
    rw [Bool.eq_iff_iff, List.isEmpty_iff, List.filter_eq_nil_iff, List.all_eq_true]
    simp
  by_cases hA : d.needs.all (fun x => decide (x ∈ cs)) = true
  · rw [hne, hA, if_neg (by simp)]
    trace "V"
    refine wE_lcG d.wishes wishD (fun w => w.2 && !(w.1.any fun x => decide (x ∈ cs))) wishD (fun R hR => wI_tup (fun R hR => wE_idx (wE_var rfl (wE_int (ix_tup (d := .tup (d.wishes.map wishD)) rfl hR)))) hR) ?_ (Nat.le_trans (hW.wle d hd) (by decide)) ?_
    · intro v hv nx hn
      refine tg_nm ?_
      trace "V"
      refine ix_tup (d := .bl v.2) rfl ?_
      trace "V"
      cases h2 : v.2 with
      | false =>
        rw [h2] at hn
        rw [if_neg (by simp)]
        trace "V"
        rw [if_neg (by simp)]
        simpa using hn
      | true =>
        rw [if_pos rfl]
        trace "V"
        refine wE_lcG v.1 D.str (fun x => decide (x ∈ cs)) D.str (fun R hR => wI_tup (fun R hR => wE_idx (wE_var rfl (wE_int (ix_tup (d := .tup (sD v.1)) rfl hR)))) hR) ?_ (Nat.le_trans (hW.ole d hd v hv) (by decide)) ?_
        · intro y hy nx hn
          refine tg_nm ?_
          trace "V"
          refine cin y (ds.wi v hv y hy) _ ?_
          refine tru_bl ?_
          by_cases h : y ∈ cs
          · rw [if_pos (by simp [h])] at hn
            rw [if_pos (by simp [h])]
            trace "V"
            rw [if_pos rfl]
            trace "V"
            exact hn
          · rw [if_neg (by simp [h])] at hn
            rw [if_neg (by simp [h])]
            exact hn
        trace "V"
        refine c_eqNilS (fun x hx => ds.wi v hv x (List.mem_filter.mp hx).1) (tru_bl ?_)
        have he : (v.1.filter fun x => decide (x ∈ cs)).isEmpty = !(v.1.any fun x => decide (x ∈ cs)) := by
          rw [Bool.eq_iff_iff, List.isEmpty_iff, List.filter_eq_nil_iff]
          simp
        rw [he]
        rw [h2, Bool.true_and] at hn
        by_cases h : (!(v.1.any fun x => decide (x ∈ cs))) = true
        · rw [if_pos h] at hn ⊢
          trace "V"
          rw [if_pos rfl]
          trace "V"
          exact hn
        · rw [if_neg h] at hn ⊢
          rw [if_neg (by simp)]
          exact hn
    trace "V"
    refine c_eqNilW (fun v hv x hx => ds.wi v (List.mem_filter.mp hv).1 x hx) (Dr.refl ?_)
    have he : (d.wishes.filter fun w => w.2 && !(w.1.any fun x => decide (x ∈ cs))).isEmpty = d.wishes.all fun w => !w.2 || w.1.any fun x => decide (x ∈ cs) := by
      rw [Bool.eq_iff_iff, List.isEmpty_iff, List.filter_eq_nil_iff, List.all_eq_true]
      refine forall_congr' fun a => forall_congr' fun _ => ?_
      cases a.2 <;> simp
    rw [he]
    unfold devCan at q
    rw [hA, Bool.true_and] at q
    exact q
  · rw [hne, if_pos (by simpa using hA)]
    trace "V"
    refine Dr.refl ?_
    unfold devCan at q
    have hA' : d.needs.all (fun x => decide (x ∈ cs)) = false := by simpa using hA
    rw [hA', Bool.false_and] at q
    exact q
end
end Py

set_option Elab.async false
set_option linter.all false
set_option maxRecDepth 100000
set_option maxHeartbeats 4000000
/-! Summaries over plain data, seen through the store. -/
namespace Py
open PySem PySem.Spec PyProof.Rows L2
local macro_rules | `(tactic| trace "K") => `(tactic| first | assumption | exact put_same | exact (put_ne (by assumption)).trans put_same | exact (put_ne (by assumption)).trans (by assumption) | exact (put_ne (by assumption)).trans ((put_ne (by assumption)).trans put_same) | exact (put_ne (by assumption)).trans ((put_ne (by assumption)).trans (by assumption)))
local macro_rules | `(tactic| trace "V") => `(tactic| repeat (first | (with_reducible first | refine wSs_cons ?_ | refine wSs_nil ?_ | refine wS_exp ?_ | refine wS_ret ?_ | refine wS_pass ?_ | refine wS_asg ?_ | refine wS_par ?_ | refine wS_iff ?_ | refine wS_brk ?_ | refine wS_cnt ?_ | refine wE_non ?_ | refine wE_bl ?_ | refine wE_int ?_ | refine wE_str ?_ | refine wE_bty ?_ | refine wE_bin ?_ | refine wE_cmp ?_ | refine wE_and ?_ | refine wE_or ?_ | refine wE_not ?_ | refine wE_ite ?_ | refine wE_tup ?_ | refine wE_lst ?_ | refine wE_call ?_ | refine wE_blt ?_ | refine wE_att ?_ | refine wE_idx ?_ | refine wE_slc ?_ | refine wE_frzB ?_ | refine wE_frzC ?_ | refine wE_frzL ?_ | refine wE_frzS ?_ | refine wE_frzV ?_ | refine wA_nil ?_ | refine wA_cons ?_ | refine wTs_nil ?_ | refine wTs_cons ?_ | refine tg_nm ?_ | refine tru_bl ?_ | refine tru_int ?_ | refine tru_non ?_ | refine tru_tup ?_ | refine tru_kl ?_ | refine op_addI ?_ | refine op_subI ?_ | refine frz_kl ?_ | refine frz_tup ?_ | refine frz_int ?_ | refine c_gtI ?_ | refine c_ltI ?_ | refine c_geI ?_ | refine c_leI ?_ | refine b_len_kl ?_ | refine b_len_tup ?_ | refine b_len_sl ?_ | refine b_len_kd ?_ | refine b_int_int ?_ | refine b_int_bl ?_ | refine b_abs ?_ | refine b_min ?_ | refine wS_ssub ?_ | refine wE_mth ?_ | refine wE_bm ?_ | refine wE_negI ?_ | refine wE_new ?_ | refine wS_satt ?_ | refine opt_n ?_ | refine opt_i ?_) | ((with_reducible apply wE_var); (rfl)) | ((with_reducible apply tg_tp); (rfl)) | ((with_reducible apply par_of); (rfl)) | ((with_reducible apply newT_of); (exact Nat.le_of_ble_eq_true rfl)) | ((with_reducible apply newL_frz); (exact Nat.le_of_ble_eq_true rfl)) | ((with_reducible apply ix_ref); (first | assumption | exact put_same | exact (put_ne (by assumption)).trans put_same | exact (put_ne (by assumption)).trans (by assumption) | exact (put_ne (by assumption)).trans ((put_ne (by assumption)).trans put_same) | exact (put_ne (by assumption)).trans ((put_ne (by assumption)).trans (by assumption))); (rfl)) | ((with_reducible apply ssub_ref); (first | assumption | exact put_same | exact (put_ne (by assumption)).trans put_same | exact (put_ne (by assumption)).trans (by assumption) | exact (put_ne (by assumption)).trans ((put_ne (by assumption)).trans put_same) | exact (put_ne (by assumption)).trans ((put_ne (by assumption)).trans (by assumption))); (rfl)) | ((with_reducible apply ix_tup); (rfl)) | ((with_reducible apply ix_kl); (rfl)) | ((with_reducible apply op_modI); (first | assumption | decide)) | ((with_reducible apply op_fdivI); (first | (constructor <;> assumption) | decide)) | ((with_reducible apply op_mulL); (decide)) | ((with_reducible apply op_mulR); (decide)) | ((with_reducible apply b_len_ref); (first | assumption | exact put_same | exact (put_ne (by assumption)).trans put_same | exact (put_ne (by assumption)).trans (by assumption) | exact (put_ne (by assumption)).trans ((put_ne (by assumption)).trans put_same) | exact (put_ne (by assumption)).trans ((put_ne (by assumption)).trans (by assumption)))) | ((with_reducible apply bmA_ref); (first | assumption | exact put_same | exact (put_ne (by assumption)).trans put_same | exact (put_ne (by assumption)).trans (by assumption) | exact (put_ne (by assumption)).trans ((put_ne (by assumption)).trans put_same) | exact (put_ne (by assumption)).trans ((put_ne (by assumption)).trans (by assumption))); (rfl))))
def f_i_law_same_0ba4f5 : Fd := ⟨["_law_got", "_law_due"], 5, [], (.cons (.iff (.blt .isinstance (.cons (.var 1) (.cons (.tup (.cons (.bty "list") (.cons (.bty "tuple") .nil))) .nil))) (.cons (.iff (.or (.cmp .ne (.blt .isinstance (.cons (.var 0) (.cons (.bty "list") .nil))) (.blt .isinstance (.cons (.var 1) (.cons (.bty "list") .nil)))) (.cmp .ne (.blt .isinstance (.cons (.var 0) (.cons (.bty "tuple") .nil))) (.blt .isinstance (.cons (.var 1) (.cons (.bty "tuple") .nil))))) (.cons (.ret (.bl false)) .nil) .nil) (.cons (.ret (.and (.cmp .eq (.blt .len (.cons (.var 0) .nil)) (.blt .len (.cons (.var 1) .nil))) (.blt .all (.cons (.frz (.lc (.call "_law_same" (.cons (.var 3) (.cons (.var 4) .nil)) []) [3, 4] (.tp [3, 4]) (.zip (.var 0) (.var 1)) .nil)) .nil)))) .nil)) .nil) (.cons (.iff (.blt .isinstance (.cons (.var 1) (.cons (.bty "dict") .nil))) (.cons (.iff (.or (.not (.blt .isinstance (.cons (.var 0) (.cons (.bty "dict") .nil)))) (.or (.cmp .ne (.blt .len (.cons (.var 0) .nil)) (.blt .len (.cons (.var 1) .nil))) (.cmp .ne (.frz (.lc (.var 2) [2] (.nm 2) (.of (.var 1)) (.cons (.cmp .nmem (.var 2) (.var 0)) .nil))) (.frz (.lst .nil))))) (.cons (.ret (.bl false)) .nil) .nil) (.cons (.ret (.blt .all (.cons (.frz (.lc (.call "_law_same" (.cons (.idx (.var 0) (.var 2)) (.cons (.idx (.var 1) (.var 2)) .nil)) []) [2] (.nm 2) (.of (.var 1)) .nil)) .nil))) .nil)) .nil) (.cons (.iff (.or (.cmp .is (.var 1) .non) (.blt .isinstance (.cons (.var 1) (.cons (.tup (.cons (.bty "bool") (.cons (.bty "str") .nil))) .nil)))) (.cons (.ret (.and (.cmp .eq (.var 0) (.var 1)) (.and (.cmp .eq (.blt .isinstance (.cons (.var 0) (.cons (.bty "bool") .nil))) (.blt .isinstance (.cons (.var 1) (.cons (.bty "bool") .nil)))) (.cmp .eq (.cmp .is (.var 0) .non) (.cmp .is (.var 1) .non))))) .nil) .nil) (.cons (.ret (.and (.blt .isinstance (.cons (.var 0) (.cons (.bty "int") .nil))) (.and (.not (.blt .isinstance (.cons (.var 0) (.cons (.bty "bool") .nil)))) (.cmp .eq (.var 0) (.var 1))))) .nil))))⟩
def f_i_law_lists_e25d27 : Fd := ⟨["_law_matter"], 2, [], (.cons (.ret (.ite (.blt .isinstance (.cons (.var 0) (.cons (.tup (.cons (.bty "list") (.cons (.bty "tuple") .nil))) .nil))) (.frz (.lc (.call "_law_lists" (.cons (.var 1) .nil) []) [1] (.nm 1) (.of (.var 0)) .nil)) (.var 0))) .nil)⟩
mutual
/-- lists in place of tuples -/
def lisP : PyData → PyData
  | .list xs | .tuple xs => .list (lisPs xs)
  | p => p
def lisPs : List PyData → List PyData
  | [] => []
  | x :: r => lisP x :: lisPs r
end
mutual
/-- no sequence is too wide -/
def wideP : PyData → Bool
  | .list xs | .tuple xs => decide (xs.length ≤ 1000000) && widePs xs
  | _ => true
def widePs : List PyData → Bool
  | [] => true
  | x :: r => wideP x && widePs r
end
mutual
/-- all as tuples -/
def tupD : PyData → D
  | .list xs | .tuple xs => .tup (tupDs xs)
  | .none => .non | .bool b => .bl b | .int i => .int i | .str x => .str x
  | .dict _ => .non
def tupDs : List PyData → List D
  | [] => []
  | x :: r => tupD x :: tupDs r
end
mutual
/-- all as lists -/
def lisD : PyData → D
  | .list xs | .tuple xs => .kl (lisDs xs)
  | .none => .non | .bool b => .bl b | .int i => .int i | .str x => .str x
  | .dict _ => .non
def lisDs : List PyData → List D
  | [] => []
  | x :: r => lisD x :: lisDs r
end
section
variable {P : Prog} {E : XD} {st : Sto} {Q : QD}
theorem tupDs_map : ∀ l : List PyData, tupDs l = l.map tupD
  | [] => rfl
  | x :: r => by unfold tupDs; rw [tupDs_map r]; rfl
theorem lisDs_map : ∀ l : List PyData, lisDs l = l.map lisD
  | [] => rfl
  | x :: r => by unfold lisDs; rw [lisDs_map r]; rfl
theorem lisPs_map : ∀ l : List PyData, lisPs l = l.map lisP
  | [] => rfl
  | x :: r => by unfold lisPs; rw [lisPs_map r]; rfl
mutual
theorem Dt.mono {st' : Sto} (s : Sub st st') : ∀ {d : D} {p : PyData}, Dt st d p → Dt st' d p
  | _, _, .non => .non
  | _, _, .bl b => .bl b
  | _, _, .int b => .int b
  | _, _, .str b => .str b
  | d, _, .lst h r => .lst (by
      unfold rdL at h ⊢
      split at h
      · rename_i a
        split at h
        · rename_i e
          rw [s _ _ e]; exact h
        · cases h
      · exact h
      · exact h
      · cases h) (Dts.mono s r)
  | _, _, .tup r => .tup (Dts.mono s r)
theorem Dts.mono {st' : Sto} (s : Sub st st') : ∀ {d : List D} {p : List PyData}, Dts st d p → Dts st' d p
  | _, _, .nil => .nil
  | _, _, .cons h r => .cons (Dt.mono s h) (Dts.mono s r)
end
mutual
/-- no dict within -/
def noDc : PyData → Bool
  | .list xs | .tuple xs => noDcs xs
  | .dict _ => false
  | _ => true
def noDcs : List PyData → Bool
  | [] => true
  | x :: r => noDc x && noDcs r
end
mutual
theorem dt_lis : ∀ p : PyData, noDc p = true → Dt st (lisD p) (lisP p)
  | .none, _ => .non
  | .bool b, _ => .bl b
  | .int b, _ => .int b
  | .str b, _ => .str b
  | .list xs, h => .lst rfl (dts_lis xs h)
  | .tuple xs, h => .lst rfl (dts_lis xs h)
theorem dts_lis : ∀ p : List PyData, noDcs p = true → Dts st (lisDs p) (lisPs p)
  | [], _ => .nil
  | x :: r, h => .cons (dt_lis x (Bool.and_eq_true_iff.mp h).1) (dts_lis r (Bool.and_eq_true_iff.mp h).2)
end
mutual
theorem tup_lis : ∀ p : PyData, tupD (lisP p) = tupD p
  | .none => rfl
  | .bool b => rfl
  | .int b => rfl
  | .str b => rfl
  | .list xs => by show D.tup (tupDs (lisPs xs)) = D.tup (tupDs xs); rw [tups_lis xs]
  | .tuple xs => by show D.tup (tupDs (lisPs xs)) = D.tup (tupDs xs); rw [tups_lis xs]
  | .dict _ => rfl
theorem tups_lis : ∀ p : List PyData, tupDs (lisPs p) = tupDs p
  | [] => rfl
  | x :: r => by show tupD (lisP x) :: tupDs (lisPs r) = tupD x :: tupDs r; rw [tup_lis x, tups_lis r]
end
mutual
theorem depth_lis : ∀ p : PyData, PyData.depth (lisP p) = PyData.depth p
  | .none => rfl
  | .bool b => rfl
  | .int b => rfl
  | .str b => rfl
  | .list xs => by show PyData.depthAll (lisPs xs) + 1 = PyData.depthAll xs + 1; rw [depths_lis xs]
  | .tuple xs => by show PyData.depthAll (lisPs xs) + 1 = PyData.depthAll xs + 1; rw [depths_lis xs]
  | .dict _ => rfl
theorem depths_lis : ∀ p : List PyData, PyData.depthAll (lisPs p) = PyData.depthAll p
  | [] => rfl
  | x :: r => by show max (PyData.depth (lisP x)) (PyData.depthAll (lisPs r)) = max (PyData.depth x) (PyData.depthAll r); rw [depth_lis x, depths_lis r]
end
mutual
theorem wide_lis : ∀ p : PyData, wideP (lisP p) = wideP p
  | .none => rfl
  | .bool b => rfl
  | .int b => rfl
  | .str b => rfl
  | .list xs => by show (decide ((lisPs xs).length ≤ 1000000) && widePs (lisPs xs)) = (decide (xs.length ≤ 1000000) && widePs xs); rw [wides_lis xs, lisPs_map, List.length_map]
  | .tuple xs => by show (decide ((lisPs xs).length ≤ 1000000) && widePs (lisPs xs)) = (decide (xs.length ≤ 1000000) && widePs xs); rw [wides_lis xs, lisPs_map, List.length_map]
  | .dict _ => rfl
theorem wides_lis : ∀ p : List PyData, widePs (lisPs p) = widePs p
  | [] => rfl
  | x :: r => by show (wideP (lisP x) && widePs (lisPs r)) = (wideP x && widePs r); rw [wide_lis x, wides_lis r]
end
theorem widePs_of {l : List PyData} (h : ∀ x ∈ l, wideP x = true) : widePs l = true := by
  induction l with
  | nil => rfl
  | cons x l ih =>
    unfold widePs
    rw [h x (List.mem_cons_self ..), ih fun y hy => h y (List.mem_cons_of_mem _ hy)]; rfl
theorem noDcs_of {l : List PyData} (h : ∀ x ∈ l, noDc x = true) : noDcs l = true := by
  induction l with
  | nil => rfl
  | cons x l ih =>
    unfold noDcs
    rw [h x (List.mem_cons_self ..), ih fun y hy => h y (List.mem_cons_of_mem _ hy)]; rfl
theorem widePs_all {l : List PyData} (h : widePs l = true) : ∀ x ∈ l, wideP x = true := by
  induction l with
  | nil => intro x hx; cases hx
  | cons y l ih =>
    unfold widePs at h
    rw [Bool.and_eq_true] at h
    intro x hx
    rcases List.mem_cons.mp hx with rfl | hx
    · exact h.1
    · exact ih h.2 x hx
theorem depth_mem {l : List PyData} {n : Nat} (h : PyData.depthAll l ≤ n) : ∀ x ∈ l, PyData.depth x ≤ n := by
  induction l with
  | nil => intro x hx; cases hx
  | cons y l ih =>
    unfold PyData.depthAll at h
    intro x hx
    rcases List.mem_cons.mp hx with rfl | hx
    · omega
    · exact ih (by omega) x hx
/-- the parts and what they are seen as -/
theorem dts_zip : ∀ {xs : List D} {ds : List PyData}, Dts st xs ds → (xs.zip ds).map (·.1) = xs ∧ (xs.zip ds).map (·.2) = ds ∧ (∀ p ∈ xs.zip ds, Dt st p.1 p.2) ∧ xs.length = ds.length
  | _, _, .nil => ⟨rfl, rfl, (fun _ h => nomatch h), rfl⟩
  | _, _, .cons h r => by
    obtain ⟨a, b, c, d⟩ := dts_zip r
    refine ⟨by rw [List.zip_cons_cons, List.map_cons, a], by rw [List.zip_cons_cons, List.map_cons, b], fun p hp => ?_, by rw [List.length_cons, List.length_cons, d]⟩
    rw [List.zip_cons_cons] at hp
    rcases List.mem_cons.mp hp with rfl | hp
    · exact h
    · exact c p hp
theorem isi_lst {d : D} {xs : List D} {n : String} (h : rdL st d = some xs) : isiB st d n = kitB "list" n := by
  unfold rdL at h
  split at h
  · split at h
    · rename_i e
      unfold isiB tyN
      simp only [e]
      rfl
    · cases h
  · rfl
  · rfl
  · cases h
theorem wI_rd {k : Nat} {L : Loc} {e : Ex} {d : D} {xs : List D} {R : List D → (Sto → Prop) → Sto → (Sto → Sto) → Prop} (hr : rdL st d = some xs) (h : ∀ R : QD, R d st → wpE P (cal P k) e L st R E) (q : ∀ stays : Sto → Prop, stays st → R xs stays st id) : wpI P (cal P k) (.of e) L st R E := by
  refine h _ ?_
  have hr' := hr
  unfold rdL at hr'
  split at hr'
  · exact ⟨xs, hr, q _ hr⟩
  · exact ⟨xs, hr, q _ hr⟩
  · exact ⟨xs, hr, q _ hr⟩
  · cases hr'
/-- a thing that is no list and no tuple -/
def atomP : PyData → Bool
  | .list _ | .tuple _ | .dict _ => false
  | _ => true
theorem tupled_atomG {k : Nat} {d : D} {p : PyData} (hP : Has P "" "tupled" f_tupled_251813) (h : Dt st d p) (ha : atomP p = true) (q : Q (tupD p) st) : cal P (k + 1) "" "tupled" [d] st Q E := by
  have key : isiB st d "list" = some false ∧ isiB st d "tuple" = some false ∧ tupD p = d := by
    cases h with
    | non => exact ⟨by show kitB "NoneType" "list" = _; decide +kernel, by show kitB "NoneType" "tuple" = _; decide +kernel, rfl⟩
    | bl b => exact ⟨by show kitB "bool" "list" = _; decide +kernel, by show kitB "bool" "tuple" = _; decide +kernel, rfl⟩
    | int b => exact ⟨by show kitB "int" "list" = _; decide +kernel, by show kitB "int" "tuple" = _; decide +kernel, rfl⟩
    | str b => exact ⟨by show kitB "str" "list" = _; decide +kernel, by show kitB "str" "tuple" = _; decide +kernel, rfl⟩
    | lst _ _ => cases ha
    | tup _ => cases ha
  rw [key.2.2] at q
  refine cal_of hP rfl ?_
  simp only [f_tupled_251813, List.map_cons, List.map_nil, List.length_cons, List.length_nil, Nat.reduceAdd, Nat.reduceSub, Nat.zero_add, List.replicate, List.cons_append, List.nil_append]
  trace "V"
  refine b_isi2 key.1 key.2.1 ?_
  trace "V"
  rw [if_neg (by simp)]
  trace "V"
  exact Dr.refl q
theorem tupled_seqG {k : Nat} {w : D} {xs : List D} {ds : List PyData} (hP : Has P "" "tupled" f_tupled_251813) (hw : w = .tup xs ∨ rdL st w = some xs) (hd : Dts st xs ds) (hl : ds.length ≤ 1000000) (h : ∀ y ∈ xs.zip ds, ∀ Q' : QD, Q' (tupD y.2) st → cal P k "" "tupled" [y.1] st Q' X0) (q : Q (.tup (tupDs ds)) st) : cal P (k + 1) "" "tupled" [w] st Q E := by
  obtain ⟨z1, z2, z3, z4⟩ := dts_zip hd
  refine cal_of hP rfl ?_
  simp only [f_tupled_251813, List.map_cons, List.map_nil, List.length_cons, List.length_nil, Nat.reduceAdd, Nat.reduceSub, Nat.zero_add, List.replicate, List.cons_append, List.nil_append]
  trace "V"
  have main : wpE P (cal P k) (.blt .tuple (.cons (.frz (.lc (.call "tupled" (.cons (.var 1) .nil) []) [1] (.nm 1) (.of (.var 0)) .nil)) .nil)) [some w, none] st (fun d s => Dr s (Q d)) E := by
    trace "V"
    refine wE_lcG (xs.zip ds) (·.1) (fun _ => true) (fun y => tupD y.2) (fun R hR => ?_) ?_ (by rw [List.length_zip]; omega) ?_
    · rw [z1] at hR
      rcases hw with rfl | hw
      · exact wI_tup (fun R hR => wE_var rfl hR) hR
      · exact wI_rd hw (fun R hR => wE_var rfl hR) hR
    · intro y hy nx hn
      refine tg_nm ?_
      trace "V"
      rw [if_pos rfl]
      trace "V"
      refine call_of hP rfl rfl (h y hy _ ?_)
      rw [if_pos rfl] at hn
      exact hn
    · rw [List.filter_eq_self.mpr (fun _ _ => rfl)]
      have e : (xs.zip ds).map (fun y => tupD y.2) = tupDs ds := by
        rw [tupDs_map, ← z2, List.map_map, z2]; rfl
      rw [e]
      trace "V"
      refine b_tuple_kl (by rw [tupDs_map, List.length_map]; exact Nat.le_trans hl (by decide)) ?_
      exact Dr.refl q
  rcases hw with rfl | hw
  · refine b_isi2 (b := false) (c := true) (by show kitB "tuple" "list" = some false; decide +kernel) (by show kitB "tuple" "tuple" = some true; decide +kernel) ?_
    trace "V"
    rw [if_pos (show (false || true) = true from rfl)]
    exact main
  · refine b_isi2 (b := true) (c := false) (by rw [isi_lst hw]; decide +kernel) (by rw [isi_lst hw]; decide +kernel) ?_
    trace "V"
    rw [if_pos (show (true || false) = true from rfl)]
    exact main
theorem tupled_gen (hP : Has P "" "tupled" f_tupled_251813) : ∀ (n : Nat) {d : D} {p : PyData}, PyData.depth p ≤ n → wideP p = true → Dt st d p → ∀ {k : Nat} {Q : QD} {E : XD}, Q (tupD p) st → cal P (k + n + 1) "" "tupled" [d] st Q E := by
  intro n
  induction n with
  | zero =>
    intro d p hn hw h k Q E q
    refine tupled_atomG hP h ?_ q
    cases p with
    | list _ => simp [PyData.depth] at hn
    | tuple _ => simp [PyData.depth] at hn
    | dict _ => simp [PyData.depth] at hn
    | _ => rfl
  | succ n ih =>
    intro d p hn hw h k Q E q
    by_cases ha : atomP p = true
    · exact tupled_atomG hP h ha q
    · cases h with
      | @lst d xs ds hr hd =>
        unfold PyData.depth at hn
        unfold wideP at hw
        rw [Bool.and_eq_true] at hw
        obtain ⟨z1, z2, z3, z4⟩ := dts_zip hd
        exact tupled_seqG hP (.inr hr) hd (of_decide_eq_true hw.1) (fun y hy Q' q' => ih (depth_mem (Nat.le_of_succ_le_succ hn) _ (List.of_mem_zip hy).2) (widePs_all hw.2 _ (List.of_mem_zip hy).2) (z3 y hy) q') q
      | @tup xs ds hd =>
        unfold PyData.depth at hn
        unfold wideP at hw
        rw [Bool.and_eq_true] at hw
        obtain ⟨z1, z2, z3, z4⟩ := dts_zip hd
        exact tupled_seqG hP (.inl rfl) hd (of_decide_eq_true hw.1) (fun y hy Q' q' => ih (depth_mem (Nat.le_of_succ_le_succ hn) _ (List.of_mem_zip hy).2) (widePs_all hw.2 _ (List.of_mem_zip hy).2) (z3 y hy) q') q
      | _ => exact absurd rfl ha
/-- a world as data -/
def worldP (W : Wld) : PyData := .tuple (W.map devP)
theorem tupD_strs (ss : List Str) : tupDs (ss.map PyData.str) = sD ss := by
  rw [tupDs_map, List.map_map]; rfl
theorem tupD_wish (w : List Str × Bool) : tupD (wishP w) = wishD w := by
  show D.tup [.tup (tupDs (w.1.map PyData.str)), .bl w.2] = _
  rw [tupD_strs]; rfl
theorem tupD_dev (d : Dev) : tupD (devP d) = devD d := by
  show D.tup [.str d.name, .tup (tupDs (d.needs.map PyData.str)), .tup (tupDs (d.wishes.map wishP))] = _
  rw [tupD_strs, tupDs_map, List.map_map]
  unfold devD
  congr 4
  refine congrArg D.tup (List.map_congr_left fun w _ => tupD_wish w)
theorem tupD_world (W : Wld) : tupD (worldP W) = worldD W := by
  show D.tup (tupDs (W.map devP)) = _
  rw [tupDs_map, List.map_map]
  exact congrArg D.tup (List.map_congr_left fun d _ => tupD_dev d)
theorem dt_world (W : Wld) : Dt st (worldD W) (worldP W) := .tup (dts_of devD devP W fun d _ => dt_dev d)
theorem depth_world (W : Wld) : PyData.depth (worldP W) ≤ 5 := by
  show PyData.depthAll (W.map devP) + 1 ≤ 5
  have : PyData.depthAll (W.map devP) ≤ 4 := by
    induction W with
    | nil => exact Nat.zero_le _
    | cons d W ih =>
      show max (PyData.depth (devP d)) (PyData.depthAll (W.map devP)) ≤ 4
      have := depth_dev d
      omega
  omega
theorem wide_strs {ss : List Str} (h : ss.length ≤ 1000000) : wideP (.tuple (ss.map PyData.str)) = true := by
  unfold wideP
  rw [widePs_of (fun x hx => by obtain ⟨s, _, rfl⟩ := List.mem_map.mp hx; rfl), List.length_map, decide_eq_true h]; rfl
theorem wide_world {W : Wld} (hW : WStr W) : wideP (worldP W) = true := by
  unfold worldP wideP
  rw [List.length_map, decide_eq_true (Nat.le_trans hW.len (by decide)), Bool.true_and]
  refine widePs_of fun x hx => ?_
  obtain ⟨d, hd, rfl⟩ := List.mem_map.mp hx
  unfold devP wideP
  rw [Bool.and_eq_true]
  refine ⟨rfl, widePs_of fun x hx => ?_⟩
  rcases List.mem_cons.mp hx with rfl | hx
  · rfl
  · rcases List.mem_cons.mp hx with rfl | hx
    · exact wide_strs (Nat.le_trans (hW.nle d hd) (by decide))
    · rw [List.mem_singleton.mp hx]
      unfold wideP
      rw [List.length_map, decide_eq_true (Nat.le_trans (hW.wle d hd) (by decide)), Bool.true_and]
      refine widePs_of fun x hx => ?_
      obtain ⟨w, hw, rfl⟩ := List.mem_map.mp hx
      unfold wishP wideP
      rw [Bool.and_eq_true]
      refine ⟨rfl, widePs_of fun x hx => ?_⟩
      rcases List.mem_cons.mp hx with rfl | hx
      · exact wide_strs (Nat.le_trans (hW.ole d hd w hw) (by decide))
      · rw [List.mem_singleton.mp hx]; rfl
theorem noDc_strs {ss : List Str} : noDcs (ss.map PyData.str) = true := noDcs_of fun x hx => by obtain ⟨s, _, rfl⟩ := List.mem_map.mp hx; rfl
theorem noDc_world (W : Wld) : noDc (worldP W) = true := by
  unfold worldP noDc
  refine noDcs_of fun x hx => ?_
  obtain ⟨d, hd, rfl⟩ := List.mem_map.mp hx
  unfold devP noDc
  refine noDcs_of fun x hx => ?_
  rcases List.mem_cons.mp hx with rfl | hx
  · rfl
  · rcases List.mem_cons.mp hx with rfl | hx
    · exact noDc_strs
    · rw [List.mem_singleton.mp hx]
      refine noDcs_of fun x hx => ?_
      obtain ⟨w, hw, rfl⟩ := List.mem_map.mp hx
      refine noDcs_of fun x hx => ?_
      rcases List.mem_cons.mp hx with rfl | hx
      · exact noDc_strs
      · rw [List.mem_singleton.mp hx]; rfl
/-- a value that is a world, as tuples or as lists -/
def WSeen (st : Sto) (d : D) (W : Wld) : Prop := ∃ p, Dt st d p ∧ tupD p = worldD W ∧ PyData.depth p ≤ 5 ∧ wideP p = true
theorem WSeen.tup {W : Wld} (hW : WStr W) : WSeen st (worldD W) W := ⟨worldP W, dt_world W, tupD_world W, depth_world W, wide_world hW⟩
theorem WSeen.lis {W : Wld} (hW : WStr W) {d : D} (h : Dt st d (lisP (worldP W))) : WSeen st d W := ⟨_, h, (tup_lis _).trans (tupD_world W), by rw [depth_lis]; exact depth_world W, by rw [wide_lis]; exact wide_world hW⟩
theorem WSeen.mono {W : Wld} {st' : Sto} {d : D} (s : Sub st st') (h : WSeen st d W) : WSeen st' d W := let ⟨p, h1, h2⟩ := h; ⟨p, h1.mono s, h2⟩
theorem tupled_seen {k : Nat} {W : Wld} {d : D} (hP : Has P "" "tupled" f_tupled_251813) (h : WSeen st d W) (q : Q (worldD W) st) : cal P (k + 6) "" "tupled" [d] st Q E := by
  obtain ⟨p, h1, h2, h3, h4⟩ := h
  rw [← h2] at q
  exact tupled_gen hP 5 h3 h4 h1 q
end
end Py

set_option Elab.async false
set_option linter.all false
set_option maxRecDepth 100000
set_option maxHeartbeats 4000000
/-! The program's World: who can come, who comes. -/
namespace Py
open PySem PySem.Spec PyProof.Rows L2
local macro_rules | `(tactic| trace "K") => `(tactic| first | assumption | exact put_same | exact (put_ne (by assumption)).trans put_same | exact (put_ne (by assumption)).trans (by assumption) | exact (put_ne (by assumption)).trans ((put_ne (by assumption)).trans put_same) | exact (put_ne (by assumption)).trans ((put_ne (by assumption)).trans (by assumption)))
local macro_rules | `(tactic| trace "V") => `(tactic| repeat (first | (with_reducible first | refine wSs_cons ?_ | refine wSs_nil ?_ | refine wS_exp ?_ | refine wS_ret ?_ | refine wS_pass ?_ | refine wS_asg ?_ | refine wS_par ?_ | refine wS_iff ?_ | refine wS_brk ?_ | refine wS_cnt ?_ | refine wE_non ?_ | refine wE_bl ?_ | refine wE_int ?_ | refine wE_str ?_ | refine wE_bty ?_ | refine wE_bin ?_ | refine wE_cmp ?_ | refine wE_and ?_ | refine wE_or ?_ | refine wE_not ?_ | refine wE_ite ?_ | refine wE_tup ?_ | refine wE_lst ?_ | refine wE_call ?_ | refine wE_blt ?_ | refine wE_att ?_ | refine wE_idx ?_ | refine wE_slc ?_ | refine wE_frzB ?_ | refine wE_frzC ?_ | refine wE_frzL ?_ | refine wE_frzS ?_ | refine wE_frzV ?_ | refine wA_nil ?_ | refine wA_cons ?_ | refine wTs_nil ?_ | refine wTs_cons ?_ | refine tg_nm ?_ | refine tru_bl ?_ | refine tru_int ?_ | refine tru_non ?_ | refine tru_tup ?_ | refine tru_kl ?_ | refine op_addI ?_ | refine op_subI ?_ | refine frz_kl ?_ | refine frz_tup ?_ | refine frz_int ?_ | refine c_gtI ?_ | refine c_ltI ?_ | refine c_geI ?_ | refine c_leI ?_ | refine b_len_kl ?_ | refine b_len_tup ?_ | refine b_len_sl ?_ | refine b_len_kd ?_ | refine b_int_int ?_ | refine b_int_bl ?_ | refine b_abs ?_ | refine b_min ?_ | refine wS_ssub ?_ | refine wE_mth ?_ | refine wE_bm ?_ | refine wE_negI ?_ | refine wE_new ?_ | refine wS_satt ?_ | refine opt_n ?_ | refine opt_i ?_) | ((with_reducible apply wE_var); (rfl)) | ((with_reducible apply tg_tp); (rfl)) | ((with_reducible apply par_of); (rfl)) | ((with_reducible apply newT_of); (exact Nat.le_of_ble_eq_true rfl)) | ((with_reducible apply newL_frz); (exact Nat.le_of_ble_eq_true rfl)) | ((with_reducible apply ix_ref); (first | assumption | exact put_same | exact (put_ne (by assumption)).trans put_same | exact (put_ne (by assumption)).trans (by assumption) | exact (put_ne (by assumption)).trans ((put_ne (by assumption)).trans put_same) | exact (put_ne (by assumption)).trans ((put_ne (by assumption)).trans (by assumption))); (rfl)) | ((with_reducible apply ssub_ref); (first | assumption | exact put_same | exact (put_ne (by assumption)).trans put_same | exact (put_ne (by assumption)).trans (by assumption) | exact (put_ne (by assumption)).trans ((put_ne (by assumption)).trans put_same) | exact (put_ne (by assumption)).trans ((put_ne (by assumption)).trans (by assumption))); (rfl)) | ((with_reducible apply ix_tup); (rfl)) | ((with_reducible apply ix_kl); (rfl)) | ((with_reducible apply op_modI); (first | assumption | decide)) | ((with_reducible apply op_fdivI); (first | (constructor <;> assumption) | decide)) | ((with_reducible apply op_mulL); (decide)) | ((with_reducible apply op_mulR); (decide)) | ((with_reducible apply b_len_ref); (first | assumption | exact put_same | exact (put_ne (by assumption)).trans put_same | exact (put_ne (by assumption)).trans (by assumption) | exact (put_ne (by assumption)).trans ((put_ne (by assumption)).trans put_same) | exact (put_ne (by assumption)).trans ((put_ne (by assumption)).trans (by assumption)))) | ((with_reducible apply bmA_ref); (first | assumption | exact put_same | exact (put_ne (by assumption)).trans put_same | exact (put_ne (by assumption)).trans (by assumption) | exact (put_ne (by assumption)).trans ((put_ne (by assumption)).trans put_same) | exact (put_ne (by assumption)).trans ((put_ne (by assumption)).trans (by assumption))); (rfl))))
def c_World_i__init_i__6ae04a : Fd := ⟨["self", "world"], 6, [], (.cons (.asg (.nm 2) (.call "tupled" (.cons (.var 1) .nil) [])) (.cons (.satt (.var 0) "own_needs" (.frz (.dc (.var 3) (.var 4) [3, 4, 5] (.tp [3, 4, 5]) (.of (.var 2)) .nil))) (.cons (.satt (.var 0) "own_wishes" (.frz (.dc (.var 3) (.var 5) [3, 4, 5] (.tp [3, 4, 5]) (.of (.var 2)) .nil))) (.cons (.satt (.var 0) "own_comers" (.mth (.var 0) "found_comers" .nil)) .nil))))⟩
def c_World_found_comers_abd271 : Fd := ⟨["self"], 4, [], (.cons (.par [1, 2] (.cons (.lst .nil) (.cons (.neg (.int 1)) .nil))) (.cons (.whl (.cmp .lt (.var 2) (.blt .len (.cons (.var 1) .nil))) (.cons (.asg (.nm 2) (.blt .len (.cons (.var 1) .nil))) (.cons (.exp (.bm .extend (.var 1) (.cons (.frz (.lc (.var 3) [3] (.nm 3) (.of (.att (.var 0) "own_needs")) (.cons (.and (.cmp .nmem (.var 3) (.var 1)) (.mth (.var 0) "can_come" (.cons (.var 3) (.cons (.var 1) .nil)))) .nil))) .nil))) .nil))) (.cons (.ret (.frz (.blt .sorted (.cons (.var 1) .nil)))) .nil)))⟩
def c_World_can_come_0c313d : Fd := ⟨["self", "name", "came"], 6, [], (.cons (.iff (.not (.blt .all (.cons (.frz (.lc (.cmp .mem (.var 5) (.var 2)) [5] (.nm 5) (.of (.idx (.att (.var 0) "own_needs") (.var 1))) .nil)) .nil))) (.cons (.ret (.bl false)) .nil) .nil) (.cons (.ret (.blt .all (.cons (.frz (.lc (.blt .any (.cons (.frz (.lc (.cmp .mem (.var 5) (.var 2)) [5] (.nm 5) (.of (.var 3)) .nil)) .nil)) [3, 4] (.tp [3, 4]) (.of (.idx (.att (.var 0) "own_wishes") (.var 1))) (.cons (.var 4) .nil))) .nil))) .nil))⟩
def c_World_comers_530c9e : Fd := ⟨["self"], 1, [], (.cons (.ret (.blt .list (.cons (.att (.var 0) "own_comers") .nil))) .nil)⟩
def f_comers_599d99 : Fd := ⟨["world"], 1, [], (.cons (.ret (.mth (.frz (.new "World" (.cons (.var 0) .nil) [])) "comers" .nil)) .nil)⟩
section
variable {P : Prog} {E : XD} {st : Sto} {Q : QD}
theorem isi_str {x : Str} {n : String} : isiB st (.str x) n = kitB "str" n := rfl
/-- a World as it stands -/
def wKeys (W : Wld) : List Key := W.map fun d => Sum.inr d.name
def wNeeds (W : Wld) : D := .kd (wKeys W) (W.map fun d => .tup (sD d.needs))
def wWish (W : Wld) : D := .kd (wKeys W) (W.map fun d => .tup (d.wishes.map wishD))
def wObj (W : Wld) (x : D) : D := .ob "World" [x, wNeeds W, wWish W]
def wCd : Cd := ⟨["own_comers", "own_needs", "own_wishes"], true⟩
def WCls (P : Prog) : Prop := P.cls.lookup ("World" : Str) = some wCd
theorem wat_needs {W : Wld} {x : D} (hc : WCls P) : attV P (wObj W x) "own_needs" st = some (wNeeds W) := by
  unfold attV wObj
  dsimp only
  rw [show P.cls.lookup ("World" : Str) = some wCd from hc]
  dsimp only
  rw [if_pos (show wCd.slotted = true from rfl), show ixOf "own_needs" wCd.slots = some 1 by decide +kernel]
  rfl
theorem wat_wish {W : Wld} {x : D} (hc : WCls P) : attV P (wObj W x) "own_wishes" st = some (wWish W) := by
  unfold attV wObj
  dsimp only
  rw [show P.cls.lookup ("World" : Str) = some wCd from hc]
  dsimp only
  rw [if_pos (show wCd.slotted = true from rfl), show ixOf "own_wishes" wCd.slots = some 2 by decide +kernel]
  rfl
theorem val_world {W : Wld} (v : Dev → D) (nd : (nms W).Nodup) {d : Dev} (hd : d ∈ W) : valD ((wKeys W).zip (W.map v)) (Sum.inr d.name) = some (v d) := by
  unfold valD wKeys
  induction W with
  | nil => simp at hd
  | cons x W ih =>
    unfold nms at nd ih
    rw [List.map_cons, List.nodup_cons] at nd
    rw [List.map_cons, List.map_cons, List.zip_cons_cons, List.find?_cons]
    rcases List.mem_cons.mp hd with rfl | h
    · simp
    · have : x.name ≠ d.name := fun e => nd.1 (e ▸ List.mem_map_of_mem h)
      have e : decide ((Sum.inr x.name : Key) = Sum.inr d.name) = false := by simp [this]
      simp only [e]
      exact ih nd.2 h
theorem allB_map {α : Type} (f : α → Bool) : ∀ l : List α, allB (l.map fun x => D.bl (f x)) = some (l.map f)
  | [] => rfl
  | x :: l => by
    show (allB (l.map fun x => D.bl (f x))).map _ = _
    rw [allB_map f l]; rfl
theorem can_come_ok {k : Nat} {W : Wld} {x : D} {d : Dev} {cs : List Str} {w : D} (hC : Has P "World" "can_come" c_World_can_come_0c313d) (hc : WCls P) (hW : WStr W) (hd : d ∈ W) (hw : w = .kl (sD cs) ∨ w = .tup (sD cs)) (hcs : ∀ x ∈ cs, SOk x)
    (q : Q (.bl (devCan d cs)) st) : cal P (k + 1) "World" "can_come" [wObj W x, .str d.name, w] st Q E := by
  have ds := hW.dev d hd
  have cin : ∀ y, SOk y → ∀ (Q' : QD), Q' (.bl (decide (y ∈ cs))) st → copR .mem (.str y) w st Q' := fun y hy Q' h => c_inS (neg := false) hw hcs hy (by simpa using h)
  refine cal_of hC rfl ?_
  simp only [c_World_can_come_0c313d, List.map_cons, List.map_nil, List.length_cons, List.length_nil, Nat.reduceAdd, Nat.reduceSub, Nat.zero_add, List.replicate, List.cons_append, List.nil_append]
  trace "V"
  refine wE_lcG d.needs D.str (fun _ => true) (fun y => .bl (decide (y ∈ cs))) (fun R hR => wI_tup (xs := sD d.needs) (fun R hR => wE_idx (wE_att (wE_var rfl (at_of (wat_needs hc) (wE_var rfl (ix_kd rfl (val_world _ hW.nd hd) hR)))))) hR) ?_ (Nat.le_trans (hW.nle d hd) (by decide)) ?_
  · intro y hy nx hn
    refine tg_nm ?_
    trace "V"
    rw [if_pos rfl]
    trace "V"
    refine cin y (ds.ne y hy) _ ?_
    rw [if_pos rfl] at hn
    exact hn
  rw [List.filter_eq_self.mpr (fun _ _ => rfl)]
  trace "V"
  refine b_all (allB_map (fun y => decide (y ∈ cs)) d.needs) ?_
  trace "V"
  have e1 : (d.needs.map fun y => decide (y ∈ cs)).all id = d.needs.all fun y => decide (y ∈ cs) := by rw [List.all_map]; rfl
  rw [e1]
  by_cases hA : d.needs.all (fun x => decide (x ∈ cs)) = true
  · rw [hA, if_neg (by simp)]
    trace "V"
    refine wE_lcG d.wishes wishD (fun w => w.2) (fun v => .bl (v.1.any fun y => decide (y ∈ cs))) (fun R hR => wI_tup (xs := d.wishes.map wishD) (fun R hR => wE_idx (wE_att (wE_var rfl (at_of (wat_wish hc) (wE_var rfl (ix_kd rfl (val_world _ hW.nd hd) hR)))))) hR) ?_ (Nat.le_trans (hW.wle d hd) (by decide)) ?_
    · intro v hv nx hn
      refine tg_tp rfl ?_
      trace "V"
      by_cases h2 : v.2 = true
      · rw [if_pos h2] at hn ⊢
        trace "V"
        rw [if_pos rfl]
        trace "V"
        refine wE_lcG v.1 D.str (fun _ => true) (fun y => .bl (decide (y ∈ cs))) (fun R hR => wI_tup (xs := sD v.1) (fun R hR => wE_var rfl hR) hR) ?_ (Nat.le_trans (hW.ole d hd v hv) (by decide)) ?_
        · intro y hy nx hn
          refine tg_nm ?_
          trace "V"
          rw [if_pos rfl]
          trace "V"
          refine cin y (ds.wi v hv y hy) _ ?_
          rw [if_pos rfl] at hn
          exact hn
        rw [List.filter_eq_self.mpr (fun _ _ => rfl)]
        trace "V"
        refine b_any (allB_map (fun y => decide (y ∈ cs)) v.1) ?_
        have e2 : (v.1.map fun y => decide (y ∈ cs)).any id = v.1.any fun y => decide (y ∈ cs) := by rw [List.any_map]; rfl
        rw [e2]
        exact hn
      · rw [if_neg h2] at hn ⊢
        rw [if_neg (by simp)]
        exact hn
    trace "V"
    refine b_all (allB_map (fun v : List Str × Bool => v.1.any fun y => decide (y ∈ cs)) (d.wishes.filter fun w => w.2)) (Dr.refl ?_)
    have e3 : ((d.wishes.filter fun w => w.2).map fun v : List Str × Bool => v.1.any fun y => decide (y ∈ cs)).all id = d.wishes.all fun w => !w.2 || w.1.any fun x => decide (x ∈ cs) := by
      rw [List.all_map, List.all_filter]; rfl
    rw [e3]
    unfold devCan at q
    rw [hA, Bool.true_and] at q
    exact q
  · have hA' : d.needs.all (fun x => decide (x ∈ cs)) = false := by simpa using hA
    rw [hA', if_pos (by simp)]
    trace "V"
    refine Dr.refl ?_
    unfold devCan at q
    rw [hA', Bool.false_and] at q
    exact q
end
end Py

set_option Elab.async false
set_option linter.all false
set_option maxRecDepth 100000
set_option maxHeartbeats 4000000
/-! Who comes, by the program. -/
namespace Py
open PySem PySem.Spec PyProof.Rows L2
local macro_rules | `(tactic| trace "K") => `(tactic| first | assumption | exact put_same | exact (put_ne (by assumption)).trans put_same | exact (put_ne (by assumption)).trans (by assumption) | exact (put_ne (by assumption)).trans ((put_ne (by assumption)).trans put_same) | exact (put_ne (by assumption)).trans ((put_ne (by assumption)).trans (by assumption)))
local macro_rules | `(tactic| trace "V") => `(tactic| repeat (first | (with_reducible first | refine wSs_cons ?_ | refine wSs_nil ?_ | refine wS_exp ?_ | refine wS_ret ?_ | refine wS_pass ?_ | refine wS_asg ?_ | refine wS_par ?_ | refine wS_iff ?_ | refine wS_brk ?_ | refine wS_cnt ?_ | refine wE_non ?_ | refine wE_bl ?_ | refine wE_int ?_ | refine wE_str ?_ | refine wE_bty ?_ | refine wE_bin ?_ | refine wE_cmp ?_ | refine wE_and ?_ | refine wE_or ?_ | refine wE_not ?_ | refine wE_ite ?_ | refine wE_tup ?_ | refine wE_lst ?_ | refine wE_call ?_ | refine wE_blt ?_ | refine wE_att ?_ | refine wE_idx ?_ | refine wE_slc ?_ | refine wE_frzB ?_ | refine wE_frzC ?_ | refine wE_frzL ?_ | refine wE_frzS ?_ | refine wE_frzV ?_ | refine wA_nil ?_ | refine wA_cons ?_ | refine wTs_nil ?_ | refine wTs_cons ?_ | refine tg_nm ?_ | refine tru_bl ?_ | refine tru_int ?_ | refine tru_non ?_ | refine tru_tup ?_ | refine tru_kl ?_ | refine op_addI ?_ | refine op_subI ?_ | refine frz_kl ?_ | refine frz_tup ?_ | refine frz_int ?_ | refine c_gtI ?_ | refine c_ltI ?_ | refine c_geI ?_ | refine c_leI ?_ | refine b_len_kl ?_ | refine b_len_tup ?_ | refine b_len_sl ?_ | refine b_len_kd ?_ | refine b_int_int ?_ | refine b_int_bl ?_ | refine b_abs ?_ | refine b_min ?_ | refine wS_ssub ?_ | refine wE_mth ?_ | refine wE_bm ?_ | refine wE_negI ?_ | refine wE_new ?_ | refine wS_satt ?_ | refine opt_n ?_ | refine opt_i ?_) | ((with_reducible apply wE_var); (rfl)) | ((with_reducible apply tg_tp); (rfl)) | ((with_reducible apply par_of); (rfl)) | ((with_reducible apply newT_of); (exact Nat.le_of_ble_eq_true rfl)) | ((with_reducible apply newL_frz); (exact Nat.le_of_ble_eq_true rfl)) | ((with_reducible apply ix_ref); (first | assumption | exact put_same | exact (put_ne (by assumption)).trans put_same | exact (put_ne (by assumption)).trans (by assumption) | exact (put_ne (by assumption)).trans ((put_ne (by assumption)).trans put_same) | exact (put_ne (by assumption)).trans ((put_ne (by assumption)).trans (by assumption))); (rfl)) | ((with_reducible apply ssub_ref); (first | assumption | exact put_same | exact (put_ne (by assumption)).trans put_same | exact (put_ne (by assumption)).trans (by assumption) | exact (put_ne (by assumption)).trans ((put_ne (by assumption)).trans put_same) | exact (put_ne (by assumption)).trans ((put_ne (by assumption)).trans (by assumption))); (rfl)) | ((with_reducible apply ix_tup); (rfl)) | ((with_reducible apply ix_kl); (rfl)) | ((with_reducible apply op_modI); (first | assumption | decide)) | ((with_reducible apply op_fdivI); (first | (constructor <;> assumption) | decide)) | ((with_reducible apply op_mulL); (decide)) | ((with_reducible apply op_mulR); (decide)) | ((with_reducible apply b_len_ref); (first | assumption | exact put_same | exact (put_ne (by assumption)).trans put_same | exact (put_ne (by assumption)).trans (by assumption) | exact (put_ne (by assumption)).trans ((put_ne (by assumption)).trans put_same) | exact (put_ne (by assumption)).trans ((put_ne (by assumption)).trans (by assumption)))) | ((with_reducible apply bmA_ref); (first | assumption | exact put_same | exact (put_ne (by assumption)).trans put_same | exact (put_ne (by assumption)).trans (by assumption) | exact (put_ne (by assumption)).trans ((put_ne (by assumption)).trans put_same) | exact (put_ne (by assumption)).trans ((put_ne (by assumption)).trans (by assumption))); (rfl))))
/-- each one could come when those ahead of it had come -/
structure PreC (W : Wld) (cs : List Str) : Prop where
  nd : cs.Nodup
  sub : ∀ x ∈ cs, x ∈ nms W
  can : ∀ i x, cs[i]? = some x → ∃ d ∈ W, d.name = x ∧ devCan d (cs.take i) = true
structure ComersOf (W : Wld) (cs : List Str) : Prop extends PreC W cs where
  all : ∀ d ∈ W, devCan d cs = true → d.name ∈ cs
theorem devCan_mono {d : Dev} {a b : List Str} (h : ∀ x ∈ a, x ∈ b) (q : devCan d a = true) : devCan d b = true := by
  unfold devCan at q ⊢
  rw [Bool.and_eq_true, List.all_eq_true, List.all_eq_true] at q ⊢
  refine ⟨fun x hx => decide_eq_true (h x (of_decide_eq_true (q.1 x hx))), fun w hw => ?_⟩
  have := q.2 w hw
  rw [Bool.or_eq_true] at this ⊢
  refine this.imp id fun h2 => ?_
  rw [List.any_eq_true] at h2 ⊢
  obtain ⟨x, h3, h4⟩ := h2
  exact ⟨x, h3, decide_eq_true (h x (of_decide_eq_true h4))⟩
def newC (W : Wld) (cs : List Str) : List Str := (W.filter fun d => !decide (d.name ∈ cs) && devCan d cs).map Dev.name
theorem PreC.step {W : Wld} {cs : List Str} (h : PreC W cs) (nd : (nms W).Nodup) : PreC W (cs ++ newC W cs) := by
  have hn : (newC W cs).Nodup := by
    unfold newC
    exact List.Nodup.sublist (List.Sublist.map _ List.filter_sublist) nd
  have hm : ∀ x ∈ newC W cs, ∃ d ∈ W, d.name = x ∧ x ∉ cs ∧ devCan d cs = true := fun x hx => by
    unfold newC at hx
    obtain ⟨d, hd, rfl⟩ := List.mem_map.mp hx
    have := List.mem_filter.mp hd
    simp at this
    exact ⟨d, this.1, rfl, this.2.1, this.2.2⟩
  refine ⟨List.nodup_append.mpr ⟨h.nd, hn, fun a ha b hb e => ?_⟩, fun x hx => ?_, fun i x hi => ?_⟩
  · obtain ⟨_, _, _, h2, _⟩ := hm b hb
    exact h2 (e ▸ ha)
  · rcases List.mem_append.mp hx with h1 | h1
    · exact h.sub x h1
    · obtain ⟨d, h2, rfl, _⟩ := hm x h1
      exact List.mem_map_of_mem h2
  · by_cases lt : i < cs.length
    · rw [List.getElem?_append_left lt] at hi
      obtain ⟨d, h1, h2, h3⟩ := h.can i x hi
      refine ⟨d, h1, h2, ?_⟩
      rw [List.take_append_of_le_length (by omega)]; exact h3
    · rw [List.getElem?_append_right (by omega)] at hi
      obtain ⟨d, h1, h2, _, h3⟩ := hm x (List.mem_of_getElem? hi)
      refine ⟨d, h1, h2, devCan_mono (fun y hy => ?_) h3⟩
      rw [List.take_append, List.take_of_length_le (by omega)]
      exact List.mem_append_left _ hy
theorem nodup_sub_len : ∀ {l m : List Str}, l.Nodup → (∀ x ∈ l, x ∈ m) → l.length ≤ m.length
  | [], _, _, _ => Nat.zero_le _
  | x :: l, m, nd, h => by
    have hx := h x (List.mem_cons_self ..)
    have nd' := List.nodup_cons.mp nd
    have := nodup_sub_len (l := l) (m := m.erase x) nd'.2 fun y hy => (List.mem_erase_of_ne (fun (e : y = x) => nd'.1 (by rw [← e]; exact hy))).mpr (h y (List.mem_cons_of_mem _ hy))
    rw [List.length_erase_of_mem hx] at this
    have := List.length_pos_of_mem hx
    rw [List.length_cons]; omega
theorem PreC.len {W : Wld} {cs : List Str} (h : PreC W cs) : cs.length ≤ W.length := by
  have : cs.length ≤ (nms W).length := nodup_sub_len h.nd h.sub
  unfold nms at this
  rw [List.length_map] at this
  exact this
section
variable {P : Prog} {E : XD} {st : Sto} {Q : QD}
theorem c_inRef {a : Addr} {ss : List Str} {x : Str} {neg : Bool} (ha : st a = some (.lst (sD ss))) (hs : ∀ x ∈ ss, SOk x) (hx : SOk x) (q : Q (.bl (neg ^^ decide (x ∈ ss))) st) : memR neg (.str x) (.ref a) st Q := by
  unfold memR
  have h1 : rdD st (.ref a) = none := by unfold rdD; simp [ha]
  simp only [h1]
  refine ⟨sD ss, .str x, ss.map PyData.str, by unfold rdL; simp [ha], .str x, dts_strs ss, shaped_str hx, shaped_list hs, ?_⟩
  rw [any_strs]; exact q
theorem c_ninRef {a : Addr} {ss : List Str} {x : Str} (ha : st a = some (.lst (sD ss))) (hs : ∀ x ∈ ss, SOk x) (hx : SOk x) (q : Q (.bl (!decide (x ∈ ss))) st) : copR .nmem (.str x) (.ref a) st Q := c_inRef (neg := true) ha hs hx (by simpa using q)
theorem mth_world {W : Wld} {x : D} {m : Str} (hc : WCls P) (hm : ixOf m wCd.slots = none) : mthC P (wObj W x) m st "World" := ⟨rfl, wCd, hc, rfl, hm⟩
theorem found_ok {k : Nat} {W : Wld} {x : D} (hF : Has P "World" "found_comers" c_World_found_comers_abd271) (hC : Has P "World" "can_come" c_World_can_come_0c313d) (hc : WCls P) (hW : WStr W)
    (q : ∀ cs, ComersOf W cs → Q (.kl (sD (srtS cs))) st) : cal P (k + 2) "World" "found_comers" [wObj W x] st Q E := by
  refine cal_of hF rfl ?_
  simp only [c_World_found_comers_abd271, List.map_cons, List.map_nil, List.length_cons, List.length_nil, Nat.reduceAdd, Nat.reduceSub, Nat.zero_add, List.replicate, List.cons_append, List.nil_append]
  trace "V"
  refine newL_of (Nat.zero_le _) fun p1 hp1 => ?_
  trace "V"
  refine wS_whl (fun m L s => ∃ (cs : List Str) (many : Int) (a3 : Option D), s = put st p1 (.lst (sD cs)) ∧ L = [some (wObj W x), some (.ref p1), some (.int many), a3] ∧ PreC W cs ∧ (many < cs.length ∨ (many = cs.length ∧ ∀ d ∈ W, devCan d cs = true → d.name ∈ cs)) ∧ m = 2 * (W.length - cs.length) + (if many < cs.length then 1 else 0)) _ ⟨[], -1, none, rfl, rfl, ⟨List.nodup_nil, nofun, fun i x h => by simp at h⟩, .inl (by decide), rfl⟩ ?_
  rintro m L s ⟨cs, many, a3, rfl, rfl, hp, hcl, rfl⟩
  have hok : ∀ x ∈ cs, SOk x := fun x hx => by
    obtain ⟨d, hd, rfl⟩ := List.mem_map.mp (hp.sub x hx)
    exact (hW.dev d hd).nm
  have hlen := hp.len
  have hl2 : (sD cs).length = cs.length := by unfold sD; rw [List.length_map]
  have hW100 := hW.len
  trace "V"
  rw [hl2]
  by_cases h : many < cs.length
  · rw [if_pos (decide_eq_true h)]
    trace "V"
    refine wE_lcG W (fun d => .str d.name) (fun d => !decide (d.name ∈ cs) && devCan d cs) (fun d => .str d.name) (fun R hR => wI_kd (ks := wKeys W) (fun R hR => wE_att (wE_var rfl (at_of (wat_needs hc) hR))) (fun stays hs => by
      have : (wKeys W).map keyD = W.map fun d => D.str d.name := by unfold wKeys; rw [List.map_map]; rfl
      rw [this]; exact hR stays hs)) ?_ (Nat.le_trans hW.len (by decide)) ?_
    · intro d hd nx hn
      refine tg_nm ?_
      trace "V"
      refine c_ninRef put_same hok (hW.dev d hd).nm ?_
      refine tru_bl ?_
      by_cases hm : d.name ∈ cs
      · rw [if_neg (by simp [hm])]
        rw [if_neg (by simp [hm])] at hn
        refine tru_bl ?_
        rw [if_neg (by simp [hm])]
        exact hn
      · rw [if_pos (by simp [hm])]
        trace "V"
        refine mth_of (mth_world hc (by decide +kernel)) hC ?_
        trace "V"
        refine run_lk (xs := [wObj W x, .str d.name, .kl (sD cs)]) rfl rfl (by simp only [List.map_cons, List.map_nil]; unfold lockD; simp only [put_same, wObj]) (can_come_ok hC hc hW hd (.inl rfl) hok ⟨rfl, ?_⟩)
        refine tru_bl ?_
        by_cases hd2 : devCan d cs = true
        · rw [if_pos hd2]
          rw [if_pos (by simp [hm, hd2])] at hn
          trace "V"
          rw [if_pos rfl]
          trace "V"
          exact hn
        · rw [if_neg hd2]
          rw [if_neg (by simp [hm, hd2])] at hn
          rw [if_neg (by simp)]
          exact hn
    have e1 : ((W.filter fun d => !decide (d.name ∈ cs) && devCan d cs).map fun d => D.str d.name) = sD (newC W cs) := by unfold sD newC; rw [List.map_map]; rfl
    rw [e1]
    trace "V"
    have hp2 := hp.step hW.nd
    have hlen2 := hp2.len
    have hl3 : (sD (newC W cs)).length = (newC W cs).length := by unfold sD; rw [List.length_map]
    rw [List.length_append] at hlen2
    refine bm_extend put_same (by rw [hl2, hl3]; show _ ≤ 16777216; omega) ?_
    rw [put_put]
    refine wSs_nil (Dr.refl ⟨_, ?_, cs ++ newC W cs, cs.length, a3, ?_, by rw [hl2]; rfl, hp2, ?_, rfl⟩)
    · rw [if_pos h, List.length_append]
      split <;> omega
    · unfold sD; rw [List.map_append]
    · by_cases hz : newC W cs = []
      · refine .inr ⟨by rw [hz, List.append_nil], fun d hd hcan => ?_⟩
        rw [hz, List.append_nil] at hcan ⊢
        false_or_by_contra
        rename_i hnot
        have : d.name ∈ newC W cs := by
          unfold newC
          refine List.mem_map_of_mem (List.mem_filter.mpr ⟨hd, ?_⟩)
          simp [hnot, hcan]
        rw [hz] at this
        cases this
      · left
        rw [List.length_append]
        have := List.length_pos_iff.mpr hz
        omega
  · rw [if_neg (by simpa using h)]
    trace "V"
    have hfin : ComersOf W cs := ⟨hp, (hcl.resolve_left h).2⟩
    refine b_sortS (ss := cs) (by unfold rdS rdL; simp only [put_same]; rfl) (by show _ ≤ 16777216; omega) ?_
    exact ⟨st, Sub.put hp1, q cs hfin⟩
end
end Py

set_option Elab.async false
set_option linter.all false
set_option maxRecDepth 100000
set_option maxHeartbeats 4000000
/-! The making of a World; comers. -/
namespace Py
open PySem PySem.Spec PyProof.Rows L2
local macro_rules | `(tactic| trace "K") => `(tactic| first | assumption | exact put_same | exact (put_ne (by assumption)).trans put_same | exact (put_ne (by assumption)).trans (by assumption) | exact (put_ne (by assumption)).trans ((put_ne (by assumption)).trans put_same) | exact (put_ne (by assumption)).trans ((put_ne (by assumption)).trans (by assumption)))
local macro_rules | `(tactic| trace "V") => `(tactic| repeat (first | (with_reducible first | refine wSs_cons ?_ | refine wSs_nil ?_ | refine wS_exp ?_ | refine wS_ret ?_ | refine wS_pass ?_ | refine wS_asg ?_ | refine wS_par ?_ | refine wS_iff ?_ | refine wS_brk ?_ | refine wS_cnt ?_ | refine wE_non ?_ | refine wE_bl ?_ | refine wE_int ?_ | refine wE_str ?_ | refine wE_bty ?_ | refine wE_bin ?_ | refine wE_cmp ?_ | refine wE_and ?_ | refine wE_or ?_ | refine wE_not ?_ | refine wE_ite ?_ | refine wE_tup ?_ | refine wE_lst ?_ | refine wE_call ?_ | refine wE_blt ?_ | refine wE_att ?_ | refine wE_idx ?_ | refine wE_slc ?_ | refine wE_frzB ?_ | refine wE_frzC ?_ | refine wE_frzL ?_ | refine wE_frzS ?_ | refine wE_frzV ?_ | refine wA_nil ?_ | refine wA_cons ?_ | refine wTs_nil ?_ | refine wTs_cons ?_ | refine tg_nm ?_ | refine tru_bl ?_ | refine tru_int ?_ | refine tru_non ?_ | refine tru_tup ?_ | refine tru_kl ?_ | refine op_addI ?_ | refine op_subI ?_ | refine frz_kl ?_ | refine frz_tup ?_ | refine frz_int ?_ | refine c_gtI ?_ | refine c_ltI ?_ | refine c_geI ?_ | refine c_leI ?_ | refine b_len_kl ?_ | refine b_len_tup ?_ | refine b_len_sl ?_ | refine b_len_kd ?_ | refine b_int_int ?_ | refine b_int_bl ?_ | refine b_abs ?_ | refine b_min ?_ | refine wS_ssub ?_ | refine wE_mth ?_ | refine wE_bm ?_ | refine wE_negI ?_ | refine wE_new ?_ | refine wS_satt ?_ | refine opt_n ?_ | refine opt_i ?_) | ((with_reducible apply wE_var); (rfl)) | ((with_reducible apply tg_tp); (rfl)) | ((with_reducible apply par_of); (rfl)) | ((with_reducible apply newT_of); (exact Nat.le_of_ble_eq_true rfl)) | ((with_reducible apply newL_frz); (exact Nat.le_of_ble_eq_true rfl)) | ((with_reducible apply ix_ref); (first | assumption | exact put_same | exact (put_ne (by assumption)).trans put_same | exact (put_ne (by assumption)).trans (by assumption) | exact (put_ne (by assumption)).trans ((put_ne (by assumption)).trans put_same) | exact (put_ne (by assumption)).trans ((put_ne (by assumption)).trans (by assumption))); (rfl)) | ((with_reducible apply ssub_ref); (first | assumption | exact put_same | exact (put_ne (by assumption)).trans put_same | exact (put_ne (by assumption)).trans (by assumption) | exact (put_ne (by assumption)).trans ((put_ne (by assumption)).trans put_same) | exact (put_ne (by assumption)).trans ((put_ne (by assumption)).trans (by assumption))); (rfl)) | ((with_reducible apply ix_tup); (rfl)) | ((with_reducible apply ix_kl); (rfl)) | ((with_reducible apply op_modI); (first | assumption | decide)) | ((with_reducible apply op_fdivI); (first | (constructor <;> assumption) | decide)) | ((with_reducible apply op_mulL); (decide)) | ((with_reducible apply op_mulR); (decide)) | ((with_reducible apply b_len_ref); (first | assumption | exact put_same | exact (put_ne (by assumption)).trans put_same | exact (put_ne (by assumption)).trans (by assumption) | exact (put_ne (by assumption)).trans ((put_ne (by assumption)).trans put_same) | exact (put_ne (by assumption)).trans ((put_ne (by assumption)).trans (by assumption)))) | ((with_reducible apply bmA_ref); (first | assumption | exact put_same | exact (put_ne (by assumption)).trans put_same | exact (put_ne (by assumption)).trans (by assumption) | exact (put_ne (by assumption)).trans ((put_ne (by assumption)).trans put_same) | exact (put_ne (by assumption)).trans ((put_ne (by assumption)).trans (by assumption))); (rfl))))
section
variable {P : Prog} {E : XD} {st : Sto} {Q : QD}
theorem foldK_go {α : Type} (kk : α → Key) (vv : α → D) : ∀ (l : List α) (m : List (Key × D)), (m.map (·.1) ++ l.map kk).Nodup → (l.map fun y => D.tup [keyD (kk y), vv y]).foldl stepK m = m ++ l.map fun y => (kk y, vv y)
  | [], m, _ => by simp
  | y :: l, m, nd => by
    rw [List.map_cons, List.foldl_cons]
    have h1 : stepK m (.tup [keyD (kk y), vv y]) = m ++ [(kk y, vv y)] := by
      unfold stepK
      have hk : keyOf (keyD (kk y)) = some (kk y) := by cases kk y <;> rfl
      simp only [hk]
      unfold putD
      rw [if_neg]
      rw [List.any_eq_true]
      rintro ⟨p, hp, e⟩
      have e := of_decide_eq_true e
      rw [List.map_cons, List.nodup_append] at nd
      exact nd.2.2 _ (List.mem_map_of_mem hp) _ (List.mem_cons_self ..) e
    rw [h1, foldK_go kk vv l (m ++ [(kk y, vv y)]) (by simpa using nd)]
    simp
theorem foldK_map {α : Type} (kk : α → Key) (vv : α → D) (l : List α) (nd : (l.map kk).Nodup) : foldK (l.map fun y => D.tup [keyD (kk y), vv y]) = l.map fun y => (kk y, vv y) := by
  have := foldK_go kk vv l [] (by simpa using nd)
  simpa [foldK] using this
/-- a dict comprehension that only reads, locked -/
theorem wE_dcG {α : Type} {k : Nat} {L : Loc} {ke ve : Ex} {vs : List Nat} {tg : Tg} {it : It} {ifs : Exs} (l : List α) (c : α → D) (kk : α → Key) (vv : α → D)
    (hi : ∀ R : List D → (Sto → Prop) → Sto → (Sto → Sto) → Prop, (∀ stays : Sto → Prop, stays st → R (l.map c) stays st id) → wpI P (cal P k) it L st R E)
    (ht : ∀ y ∈ l, ∀ nx : Option D → Sto → Prop, nx (some (.tup [keyD (kk y), vv y])) st → tgR tg (c y) (wipeL L vs) fun L1 => wpTs P (cal P k) ifs L1 st (fun b t => if b = true then wpE P (cal P k) ke L1 t (fun d u => ∃ ky, keyOf d = some ky ∧ wpE P (cal P k) ve L1 u (fun e w => nx (some (.tup [keyD ky, e])) w) X0) X0 else nx none t) X0)
    (nd : (l.map kk).Nodup) (q : Q (.kd (l.map kk) (l.map vv)) st) : wpE P (cal P k) (.frz (.dc ke ve vs tg it ifs)) L st Q E := by
  refine wE_frz (hi _ fun stays hs => ?_)
  refine lcL_pureG c (fun _ => true) (fun y => .tup [keyD (kk y), vv y]) hs l [] (fun y hy nx hn => ht y hy nx (by simpa using hn)) ?_
  rw [List.filter_eq_self.mpr (fun _ _ => rfl), List.nil_append, foldK_map kk vv l nd]
  intro p hp
  have hp : st p = none := hp
  unfold frzR
  simp only [id_eq, put_same, List.map_map]
  rw [del_put hp]
  exact q
theorem wE_frzN {k : Nat} {L : Loc} {c : Str} {es : Exs} {ks : List Str} (h : wpE P (cal P k) (.new c es ks) L st (fun x s => frzR P x s Q) E) : wpE P (cal P k) (.frz (.new c es ks)) L st Q E := h
theorem comersP_len {W : Wld} {cs : List Str} (h : ComersOf W cs) : cs.length ≤ W.length := h.toPreC.len
/-- the fields of a World -/
def wFs (W : Wld) (cs : List Str) : List (Str × D) := [("own_needs", wNeeds W), ("own_wishes", wWish W), ("own_comers", .kl (sD (srtS cs)))]
theorem noOb_strs : ∀ ss : List Str, noObs (sD ss) = true
  | [] => rfl
  | s :: ss => by
    show (noOb (.str s) && noObs (sD ss)) = true
    rw [noOb_strs ss]; rfl
theorem lk_two {f a b : Str} (x y : D) (h1 : (f == a) = false) (h2 : (f == b) = false) : ([(a, x), (b, y)] : List (Str × D)).lookup f = none := by
  rw [List.lookup_cons, h1]; dsimp only; rw [List.lookup_cons, h2]; rfl
structure HasW (P : Prog) : Prop where
  tup : Has P "" "tupled" f_tupled_251813
  ini : Has P "World" "__init__" c_World_i__init_i__6ae04a
  fnd : Has P "World" "found_comers" c_World_found_comers_abd271
  can : Has P "World" "can_come" c_World_can_come_0c313d
  cls : WCls P
/-- who comes, by rounds -/
def iterC (W : Wld) : Nat → List Str → List Str
  | 0, cs => cs
  | n + 1, cs => iterC W n (cs ++ newC W cs)
def cw (W : Wld) : List Str := srtS (iterC W W.length [])
theorem ltS_trans {a b c : Str} (h : ltS a b) (h2 : ltS b c) : ltS a c := List.lt_trans h h2
theorem ltS_asymm {a b : Str} (h : ltS a b) (h2 : ltS b a) : False := List.lt_irrefl _ (List.lt_trans h h2)
theorem asc_sub : ∀ {a b : List Str}, a.Pairwise ltS → b.Pairwise ltS → (∀ x ∈ a, x ∈ b) → a.Sublist b
  | [], b, _, _, _ => List.nil_sublist b
  | x :: a, [], _, _, h => absurd (h x (List.mem_cons_self ..)) (by simp)
  | x :: a, y :: b, ha, hb, h => by
    have ha' := List.pairwise_cons.mp ha
    have hb' := List.pairwise_cons.mp hb
    by_cases e : x = y
    · subst e
      refine List.Sublist.cons_cons _ (asc_sub ha'.2 hb'.2 fun z hz => ?_)
      rcases List.mem_cons.mp (h z (List.mem_cons_of_mem _ hz)) with rfl | h1
      · exact (ltS_ne (ha'.1 z hz) rfl).elim
      · exact h1
    · have hx : x ∈ b := (List.mem_cons.mp (h x (List.mem_cons_self ..))).resolve_left e
      refine List.Sublist.cons _ (asc_sub ha hb'.2 fun z hz => ?_)
      rcases List.mem_cons.mp (h z hz) with rfl | h1
      · rcases List.mem_cons.mp hz with rfl | h2
        · exact hx
        · exact (ltS_asymm (ha'.1 z h2) (hb'.1 x hx)).elim
      · exact h1
theorem asc_eq {a b : List Str} (ha : a.Pairwise ltS) (hb : b.Pairwise ltS) (h : ∀ x, x ∈ a ↔ x ∈ b) : a = b := by
  have s1 := asc_sub ha hb fun x hx => (h x).mp hx
  have s2 := asc_sub hb ha fun x hx => (h x).mpr hx
  exact s1.eq_of_length (Nat.le_antisymm s1.length_le s2.length_le)
theorem iterC_pre {W : Wld} (nd : (nms W).Nodup) : ∀ (n : Nat) {cs : List Str}, PreC W cs → PreC W (iterC W n cs)
  | 0, _, h => h
  | n + 1, _, h => iterC_pre nd n (h.step nd)
theorem newC_nil {W : Wld} {cs : List Str} (h : newC W cs = []) : ∀ d ∈ W, devCan d cs = true → d.name ∈ cs := fun d hd hc => by
  false_or_by_contra
  rename_i hn
  have : d.name ∈ newC W cs := by
    unfold newC
    exact List.mem_map_of_mem (List.mem_filter.mpr ⟨hd, by simp [hn, hc]⟩)
  rw [h] at this
  cases this
theorem iterC_fix {W : Wld} {cs : List Str} (h : newC W cs = []) : ∀ n, iterC W n cs = cs
  | 0 => rfl
  | n + 1 => by unfold iterC; rw [h, List.append_nil]; exact iterC_fix h n
theorem iterC_all {W : Wld} (nd : (nms W).Nodup) : ∀ (n : Nat) {cs : List Str}, PreC W cs → W.length ≤ n + cs.length → newC W (iterC W n cs) = []
  | 0, cs, h, hl => by
    show newC W cs = []
    have h2 := (h.step nd).len
    rw [List.length_append] at h2
    exact List.length_eq_zero_iff.mp (by omega)
  | n + 1, cs, h, hl => by
    unfold iterC
    by_cases hz : newC W cs = []
    · rw [hz, List.append_nil, iterC_fix hz]; exact hz
    · refine iterC_all nd n (h.step nd) ?_
      rw [List.length_append]
      have := List.length_pos_iff.mpr hz
      omega
theorem preC_nil (W : Wld) : PreC W [] := ⟨List.nodup_nil, nofun, fun i x h => by simp at h⟩
theorem iterC_of {W : Wld} (nd : (nms W).Nodup) : ComersOf W (iterC W W.length []) := ⟨iterC_pre nd _ (preC_nil W), newC_nil (iterC_all nd _ (preC_nil W) (by simp))⟩
theorem comers_sub {W : Wld} {cs ds : List Str} (h : PreC W cs) (h2 : ∀ d ∈ W, devCan d ds = true → d.name ∈ ds) : ∀ x ∈ cs, x ∈ ds := by
  have go : ∀ n, ∀ x ∈ cs.take n, x ∈ ds := by
    intro n
    induction n with
    | zero => intro x hx; simp at hx
    | succ n ih =>
      intro x hx
      rw [List.take_add_one] at hx
      rcases List.mem_append.mp hx with h1 | h1
      · exact ih x h1
      · cases hq : cs[n]? with
        | none => rw [hq] at h1; simp at h1
        | some y =>
          rw [hq] at h1
          have e : x = y := by simpa using h1
          subst e
          obtain ⟨d, hd, rfl, hc⟩ := h.can n x hq
          exact h2 d hd (devCan_mono ih hc)
  intro x hx
  exact go cs.length x (by rw [List.take_length]; exact hx)
theorem cw_eq {W : Wld} (nd : (nms W).Nodup) {cs : List Str} (h : ComersOf W cs) : srtS cs = cw W := by
  have h2 := iterC_of nd
  refine asc_eq (srtS_lt h.nd) (srtS_lt h2.nd) fun x => ?_
  unfold cw
  rw [(srtS_perm _).mem_iff, (srtS_perm _).mem_iff]
  exact ⟨comers_sub h.toPreC h2.all x, comers_sub h2.toPreC h.all x⟩
/-- what is known of those who come -/
structure CwOk (W : Wld) (cs : List Str) : Prop where
  asc : cs.Pairwise ltS
  sub : ∀ x ∈ cs, x ∈ nms W
  all : ∀ d ∈ W, devCan d cs = true → d.name ∈ cs
  can : ∀ d ∈ W, d.name ∈ cs → devCan d cs = true
  len : cs.length ≤ W.length
  least : ∀ ds : List Str, (∀ d ∈ W, devCan d ds = true → d.name ∈ ds) → ∀ x ∈ cs, x ∈ ds
theorem name_inj {W : Wld} (nd : (nms W).Nodup) {d e : Dev} (hd : d ∈ W) (he : e ∈ W) (h : d.name = e.name) : d = e := by
  have h1 := filter_one nd hd
  have h2 : e ∈ W.filter (fun x => decide (x.name = d.name)) := List.mem_filter.mpr ⟨he, by simp [h]⟩
  rw [h1] at h2
  exact (List.mem_singleton.mp h2).symm
theorem cw_ok {W : Wld} (nd : (nms W).Nodup) : CwOk W (cw W) := by
  have h := iterC_of nd
  have pm := srtS_perm (iterC W W.length [])
  refine ⟨srtS_lt h.nd, fun x hx => h.sub x (pm.mem_iff.mp hx), fun d hd hc => pm.mem_iff.mpr (h.all d hd (devCan_mono (fun x hx => pm.mem_iff.mp hx) hc)), fun d hd hn => ?_, ?_, fun ds hds x hx => comers_sub h.toPreC hds x (pm.mem_iff.mp hx)⟩
  · have hn := pm.mem_iff.mp hn
    obtain ⟨i, hi, e⟩ := List.getElem_of_mem hn
    obtain ⟨d', hd', e2, hc⟩ := h.can i d.name (List.getElem?_eq_some_iff.mpr ⟨hi, e⟩)
    rw [name_inj nd hd hd' e2.symm]
    exact devCan_mono (fun x hx => pm.mem_iff.mpr (List.mem_of_mem_take hx)) hc
  · rw [show (cw W).length = (iterC W W.length []).length from pm.length_eq]
    exact h.toPreC.len
/-- the World of a world -/
def wOb (W : Wld) : D := wObj W (.kl (sD (cw W)))
theorem frz_ins {st : Sto} {a : Addr} {c : Str} {fs : List (Str × D)} {cd : Cd} {ds : List D} (hs : st a = some (.ins c fs)) (hc : P.cls.lookup c = some cd) (h1 : cd.slotted = true) (h2 : cd.slots.Nodup) (h3 : preOk fs cd.slots = true) (h4 : pre fs cd.slots = ds) (q : Q (.ob c ds) (del st a)) : frzR P (.ref a) st Q := by
  unfold frzR
  simp only [hs]
  exact ⟨cd, hc, h1, h2, h3, by rw [h4]; exact q⟩
theorem world_newF {k : Nat} {W : Wld} {d : D} (hP : HasW P) (hW : WStr W) (hd : WSeen st d W) (q : Q (wOb W) st) : newR P (cal P (k + 7)) "World" [d] [] st (fun x s => frzR P x s Q) E := by
  refine new_of hP.ini rfl rfl fun p hp => ?_
  have nk : (W.map fun d => (Sum.inr d.name : Key)).Nodup := by
    have := hW.nd
    unfold nms at this
    have h2 : (W.map fun d => (Sum.inr d.name : Key)) = (W.map Dev.name).map Sum.inr := by rw [List.map_map]; rfl
    rw [h2]
    exact List.Pairwise.map _ (fun a b h e => h (Sum.inr.inj e)) this
  refine cal_of hP.ini rfl ?_
  simp only [c_World_i__init_i__6ae04a, List.map_cons, List.map_nil, List.length_cons, List.length_nil, Nat.reduceAdd, Nat.reduceSub, Nat.zero_add, List.replicate, List.cons_append, List.nil_append]
  trace "V"
  refine call_of hP.tup rfl rfl (tupled_seen hP.tup (hd.mono (Sub.put hp)) ?_)
  trace "V"
  refine wE_dcG W devD (fun d => Sum.inr d.name) (fun d => .tup (sD d.needs)) (fun R hR => wI_tup (fun R hR => wE_var rfl hR) hR) ?_ nk ?_
  · intro d hd nx hn
    refine tg_tp rfl ?_
    trace "V"
    rw [if_pos rfl]
    trace "V"
    refine ⟨Sum.inr d.name, rfl, ?_⟩
    trace "V"
    exact hn
  trace "V"
  refine satt_of put_same (by decide) hP.cls (i := 1) (by decide +kernel) (fs' := [("own_needs", wNeeds W)]) rfl ?_
  rw [put_put]
  trace "V"
  refine wE_dcG W devD (fun d => Sum.inr d.name) (fun d => .tup (d.wishes.map wishD)) (fun R hR => wI_tup (fun R hR => wE_var rfl hR) hR) ?_ nk ?_
  · intro d hd nx hn
    refine tg_tp rfl ?_
    trace "V"
    rw [if_pos rfl]
    trace "V"
    refine ⟨Sum.inr d.name, rfl, ?_⟩
    trace "V"
    exact hn
  trace "V"
  refine satt_of put_same (Nat.lt_of_lt_of_le (by decide : 1 < 2) (by decide)) hP.cls (i := 2) (by decide +kernel) (fs' := [("own_needs", wNeeds W), ("own_wishes", wWish W)]) (by unfold setF; rw [if_neg (by decide +kernel)]; rfl) ?_
  rw [put_put]
  trace "V"
  refine mth_of (c := "World") (fd := c_World_found_comers_abd271) ⟨_, put_same, ?_⟩ hP.fnd ?_
  · exact lk_two _ _ (by decide +kernel) (by decide +kernel)
  trace "V"
  refine run_lk (xs := [wObj W .und]) rfl rfl ?_ (found_ok hP.fnd hP.can hP.cls hW fun cs hcs => ⟨?_, ?_⟩)
  · rw [List.map_cons, List.map_nil]
    congr 1
    unfold lockD
    simp only [put_same]
    rw [show P.cls.lookup ("World" : Str) = some wCd from hP.cls]
    have h0 : ([("own_needs", wNeeds W), ("own_wishes", wWish W)] : List (Str × D)).lookup ("own_comers" : Str) = none := lk_two _ _ (by decide +kernel) (by decide +kernel)
    have h1 : ([("own_needs", wNeeds W), ("own_wishes", wWish W)] : List (Str × D)).lookup ("own_needs" : Str) = some (wNeeds W) := by
      rw [List.lookup_cons, show (("own_needs" : Str) == "own_needs") = true by decide +kernel]
    have h2 : ([("own_needs", wNeeds W), ("own_wishes", wWish W)] : List (Str × D)).lookup ("own_wishes" : Str) = some (wWish W) := by
      rw [List.lookup_cons, show (("own_wishes" : Str) == "own_needs") = false by decide +kernel]
      dsimp only
      rw [List.lookup_cons, show (("own_wishes" : Str) == "own_wishes") = true by decide +kernel]
    have hpre : pre [("own_needs", wNeeds W), ("own_wishes", wWish W)] wCd.slots = [.und, wNeeds W, wWish W] := by
      unfold pre wCd
      simp only [List.map_cons, List.map_nil, h0, h1, h2, Option.getD]
    have hpo : preOk [("own_needs", wNeeds W), ("own_wishes", wWish W)] wCd.slots = true := by
      unfold preOk wCd
      simp only [List.any_cons, List.any_nil, h0, h1, h2, Option.isSome]
      rfl
    dsimp only
    rw [if_pos ⟨rfl, by decide +kernel, hpo⟩, hpre]
    rfl
  · unfold resOk
    have h1 : lkL (put st p (.ins "World" [("own_needs", wNeeds W), ("own_wishes", wWish W)])) (.ref p) = false := by unfold lkL; simp only [put_same]
    have h2 : noOb (.kl (sD (srtS cs))) = true := noOb_strs _
    rw [h2, List.any_cons, h1]
    simp
  trace "V"
  refine satt_of put_same (Nat.lt_of_lt_of_le (by decide : 2 < 3) (by decide)) hP.cls (i := 0) (by decide +kernel) (fs' := wFs W cs) (by unfold wFs setF; rw [if_neg (by decide +kernel)]; unfold setF; rw [if_neg (by decide +kernel)]; rfl) ?_
  rw [put_put]
  trace "V"
  have ec := cw_eq hW.nd hcs
  have l1 : (wFs W cs).lookup ("own_comers" : Str) = some (.kl (sD (srtS cs))) := by
    unfold wFs
    rw [List.lookup_cons, show (("own_comers" : Str) == "own_needs") = false by decide +kernel]
    dsimp only
    rw [List.lookup_cons, show (("own_comers" : Str) == "own_wishes") = false by decide +kernel]
    dsimp only
    rw [List.lookup_cons, show (("own_comers" : Str) == "own_comers") = true by decide +kernel]
  have l2 : (wFs W cs).lookup ("own_needs" : Str) = some (wNeeds W) := by
    unfold wFs
    rw [List.lookup_cons, show (("own_needs" : Str) == "own_needs") = true by decide +kernel]
  have l3 : (wFs W cs).lookup ("own_wishes" : Str) = some (wWish W) := by
    unfold wFs
    rw [List.lookup_cons, show (("own_wishes" : Str) == "own_needs") = false by decide +kernel]
    dsimp only
    rw [List.lookup_cons, show (("own_wishes" : Str) == "own_wishes") = true by decide +kernel]
  have hpre : pre (wFs W cs) wCd.slots = [.kl (sD (cw W)), wNeeds W, wWish W] := by
    unfold pre wCd
    simp only [List.map_cons, List.map_nil, l1, l2, l3, Option.getD, ec]
  have hpo : preOk (wFs W cs) wCd.slots = true := by
    unfold preOk wCd
    simp only [List.any_cons, List.any_nil, l1, l2, l3, Option.isSome]
    rfl
  refine Dr.refl ⟨trivial, frz_ins put_same hP.cls rfl (by decide +kernel) hpo hpre ?_⟩
  rw [del_put hp]
  exact q
theorem wat_comers {W : Wld} {x : D} (hx : x ≠ .und) (hc : WCls P) : attV P (wObj W x) "own_comers" st = some x := by
  unfold attV wObj
  dsimp only
  rw [show P.cls.lookup ("World" : Str) = some wCd from hc]
  dsimp only
  rw [if_pos (show wCd.slotted = true from rfl), show ixOf "own_comers" wCd.slots = some 0 by decide +kernel]
  cases x with
  | und => exact absurd rfl hx
  | _ => rfl
/-- World.comers gives a new list -/
theorem mcomers_ok {k : Nat} {W : Wld} (hP : HasW P) (hM : Has P "World" "comers" c_World_comers_530c9e) (hW : WStr W) (q : ∀ p, st p = none → Q (.ref p) (put st p (.lst (sD (cw W))))) : cal P (k + 1) "World" "comers" [wOb W] st Q E := by
  refine cal_of hM rfl ?_
  simp only [c_World_comers_530c9e, List.map_cons, List.map_nil, List.length_cons, List.length_nil, Nat.reduceAdd, Nat.reduceSub, Nat.zero_add, List.replicate, List.cons_append, List.nil_append]
  trace "V"
  refine at_of (wat_comers nofun hP.cls) ?_
  trace "V"
  have := (cw_ok hW.nd).len
  refine b_listN (.inl rfl) (newL_of (by unfold sD; rw [List.length_map]; exact Nat.le_trans this (Nat.le_trans hW.len (by decide))) fun p hp => ?_)
  exact Dr.refl (q p hp)
theorem comers_ok {k : Nat} {W : Wld} {d : D} (hP : HasW P) (hM : Has P "World" "comers" c_World_comers_530c9e) (hC : Has P "" "comers" f_comers_599d99) (hW : WStr W) (hd : WSeen st d W) (q : ∀ p, st p = none → Q (.ref p) (put st p (.lst (sD (cw W))))) : cal P (k + 8) "" "comers" [d] st Q E := by
  refine cal_of hC rfl ?_
  simp only [f_comers_599d99, List.map_cons, List.map_nil, List.length_cons, List.length_nil, Nat.reduceAdd, Nat.reduceSub, Nat.zero_add, List.replicate, List.cons_append, List.nil_append]
  trace "V"
  refine wE_frzN (wE_new ?_)
  trace "V"
  refine world_newF hP hW hd ?_
  refine mth_of (c := "World") (fd := c_World_comers_530c9e) (mth_world hP.cls (by decide +kernel)) hM ?_
  trace "V"
  exact run_of rfl rfl (mcomers_ok (k := k + 6) hP hM hW fun p hp => Dr.refl (q p hp))
end
end Py

set_option Elab.async false
set_option linter.all false
set_option maxRecDepth 100000
set_option maxHeartbeats 4000000
/-! Values of expressions that only read: one rule for each form, the value is found on the way. -/
namespace Py
open PySem PySem.Spec PyProof.Rows L2
section
variable (P : Prog) (k : Nat) (st : Sto)
/-- the value of an expression; nothing is changed -/
def Ev (L : Loc) (e : Ex) (v : D) : Prop := ∀ (Q : QD) (E : XD), Q v st → wpE P (cal P k) e L st Q E
def Evs (L : Loc) (es : Exs) (ds : List D) : Prop := ∀ (R : List D → Sto → Prop) (E : XD), R ds st → wpA P (cal P k) es L st R E
/-- the tests of a comprehension -/
def EvT (L : Loc) (es : Exs) (b : Bool) : Prop := ∀ (R : Bool → Sto → Prop) (E : XD), R b st → wpTs P (cal P k) es L st R E
def EvI (L : Loc) (it : It) (xs : List D) : Prop := ∀ (R : List D → (Sto → Prop) → Sto → (Sto → Sto) → Prop) (E : XD), (∀ stays : Sto → Prop, stays st → R xs stays st id) → wpI P (cal P k) it L st R E
def Tru (d : D) (b : Bool) : Prop := ∀ R : Bool → Sto → Prop, R b st → truR d st R
def Bo (o : Bop) (x y v : D) : Prop := ∀ Q : QD, Q v st → bopR o x y st Q
def BoF (o : Bop) (x y v : D) : Prop := ∀ Q : QD, Q v st → bopR o x y st (fun x s => frzR P x s Q)
def Co (o : Cop) (x y : D) (b : Bool) : Prop := ∀ Q : QD, Q (.bl b) st → copR o x y st Q
def Bl (f : Bf) (ds : List D) (v : D) : Prop := ∀ Q : QD, Q v st → bltR f ds st Q
def BlF (f : Bf) (ds : List D) (v : D) : Prop := ∀ Q : QD, Q v st → bltR f ds st (fun x s => frzR P x s Q)
def Ix (x i v : D) : Prop := ∀ Q : QD, Q v st → idxR x i st Q
def Sl (x : D) (i j : Option Int) (v : D) : Prop := ∀ Q : QD, Q v st → slcR x i j st Q
def SlF (x : D) (i j : Option Int) (v : D) : Prop := ∀ Q : QD, Q v st → slcR x i j st (fun x s => frzR P x s Q)
def Fn (f : Str) (ds : List D) (ks : List Str) (v : D) : Prop := ∀ (Q : QD) (E : XD), Q v st → callR P (cal P k) "" f ds ks st Q E
def FnF (f : Str) (ds : List D) (ks : List Str) (v : D) : Prop := ∀ (Q : QD) (E : XD), Q v st → callR P (cal P k) "" f ds ks st (fun x s => frzR P x s Q) E
/-- a new thing, locked at once -/
def NwF (c : Str) (ds : List D) (ks : List Str) (v : D) : Prop := ∀ (Q : QD) (E : XD), Q v st → newR P (cal P k) c ds ks st (fun x s => frzR P x s Q) E
/-- a method is called -/
def Mt (x : D) (m : Str) (ds : List D) (v : D) : Prop := ∀ (Q : QD) (E : XD), Q v st → ∃ c fd, mthC P x m st c ∧ P.fns.lookup (c, m) = some fd ∧ runR P (cal P k) c m fd (x :: ds) [] st Q E
def MtF (x : D) (m : Str) (ds : List D) (v : D) : Prop := ∀ (Q : QD) (E : XD), Q v st → ∃ c fd, mthC P x m st c ∧ P.fns.lookup (c, m) = some fd ∧ runR P (cal P k) c m fd (x :: ds) [] st (fun x s => frzR P x s Q) E
end
def tgO (t : Tg) (d : D) (L : Loc) : Option Loc := match t with
  | .nm i => some (L.set i (some d))
  | .tp is => (match d with
    | .tup xs => setAll L is xs
    | _ => none)
  | _ => none
theorem tg_of {t : Tg} {d : D} {L L' : Loc} {R : Loc → Prop} (h : tgO t d L = some L') (q : R L') : tgR t d L R := by
  unfold tgO at h
  unfold tgR
  cases t with
  | nm i => cases h; exact q
  | tp is =>
    cases d with
    | tup xs => exact ⟨L', h, q⟩
    | _ => cases h
  | st _ _ => cases h
section
variable {P : Prog} {k : Nat} {st : Sto} {L : Loc}
theorem ev_go {e : Ex} {v : D} {Q : QD} {E : XD} (h : Ev P k st L e v) (q : Q v st) : wpE P (cal P k) e L st Q E := h Q E q
theorem evs_go {e : Exs} {v : List D} {Q : List D → Sto → Prop} {E : XD} (h : Evs P k st L e v) (q : Q v st) : wpA P (cal P k) e L st Q E := h Q E q
theorem ev_var {i : Nat} {d : D} (h : L[i]? = some (some d)) : Ev P k st L (.var i) d := fun _ _ q => ⟨d, h, q⟩
theorem ev_non : Ev P k st L .non .non := fun _ _ q => q
theorem ev_bl {b : Bool} : Ev P k st L (.bl b) (.bl b) := fun _ _ q => q
theorem ev_int {b : Int} : Ev P k st L (.int b) (.int b) := fun _ _ q => q
theorem ev_str {b : Str} : Ev P k st L (.str b) (.str b) := fun _ _ q => q
theorem ev_bty {b : String} : Ev P k st L (.bty b) (.ty b) := fun _ _ q => q
theorem ev_glo {x : Str} {d : D} (h : P.cons.lookup x = some d) : Ev P k st L (.glo x) d := fun _ _ q => ⟨d, h, q⟩
theorem ev_bin {o : Bop} {a b : Ex} {x y v : D} (h1 : Ev P k st L a x) (h2 : Ev P k st L b y) (h : Bo st o x y v) : Ev P k st L (.bin o a b) v := fun Q E q => h1 _ _ (h2 _ _ (h Q q))
theorem ev_binF {o : Bop} {a b : Ex} {x y v : D} (h1 : Ev P k st L a x) (h2 : Ev P k st L b y) (h : BoF P st o x y v) : Ev P k st L (.frz (.bin o a b)) v := fun Q E q => h1 _ _ (h2 _ _ (h Q q))
theorem ev_neg {a : Ex} {i : Int} (h : Ev P k st L a (.int i)) : Ev P k st L (.neg a) (.int (-i)) := fun Q E q => h _ _ ⟨i, rfl, q⟩
theorem ev_cmp {o : Cop} {a b : Ex} {x y : D} {v : Bool} (h1 : Ev P k st L a x) (h2 : Ev P k st L b y) (h : Co st o x y v) : Ev P k st L (.cmp o a b) (.bl v) := fun Q E q => h1 _ _ (h2 _ _ (h Q q))
theorem ev_chn {o p : Cop} {a b c : Ex} {x y z : D} {v w : Bool} (h1 : Ev P k st L a x) (h2 : Ev P k st L b y) (h : Co st o x y v) (h3 : v = true → Ev P k st L c z) (h4 : v = true → Co st p y z w) : Ev P k st L (.chn o p a b c) (.bl (v && w)) := fun Q E q => by
  refine h1 _ _ (h2 _ _ (h _ ⟨v, rfl, ?_⟩))
  cases v with
  | true => rw [if_pos rfl]; exact h3 rfl _ _ (h4 rfl _ q)
  | false => rw [if_neg Bool.false_ne_true]; exact q
theorem ev_and {a b : Ex} {p q : Bool} (h1 : Ev P k st L a (.bl p)) (h2 : p = true → Ev P k st L b (.bl q)) : Ev P k st L (.and a b) (.bl (p && q)) := fun Q E h => by
  refine h1 _ _ ?_
  cases p with
  | true => refine tru_bl ?_; rw [if_pos rfl]; exact h2 rfl _ _ h
  | false => refine tru_bl ?_; rw [if_neg Bool.false_ne_true]; exact h
theorem ev_or {a b : Ex} {p q : Bool} (h1 : Ev P k st L a (.bl p)) (h2 : p = false → Ev P k st L b (.bl q)) : Ev P k st L (.or a b) (.bl (p || q)) := fun Q E h => by
  refine h1 _ _ ?_
  cases p with
  | true => refine tru_bl ?_; rw [if_pos rfl]; exact h
  | false => refine tru_bl ?_; rw [if_neg Bool.false_ne_true]; exact h2 rfl _ _ h
theorem ev_not {a : Ex} {x : D} {p : Bool} (h1 : Ev P k st L a x) (h2 : Tru st x p) : Ev P k st L (.not a) (.bl (!p)) := fun Q E h => h1 _ _ (h2 _ h)
theorem ev_ite {c a b : Ex} {x : D} {p : Bool} {u v : D} (h1 : Ev P k st L c x) (h2 : Tru st x p) (h3 : p = true → Ev P k st L a u) (h4 : p = false → Ev P k st L b v) : Ev P k st L (.ite c a b) (if p = true then u else v) := fun Q E q => by
  refine h1 _ _ (h2 _ ?_)
  cases p with
  | true => rw [if_pos rfl] at q ⊢; exact h3 rfl _ _ q
  | false => rw [if_neg Bool.false_ne_true] at q ⊢; exact h4 rfl _ _ q
theorem ev_iteB {c a b : Ex} {x : D} {p u v : Bool} (h1 : Ev P k st L c x) (h2 : Tru st x p) (h3 : p = true → Ev P k st L a (.bl u)) (h4 : p = false → Ev P k st L b (.bl v)) : Ev P k st L (.ite c a b) (.bl (if p = true then u else v)) := fun Q E q => by
  refine h1 _ _ (h2 _ ?_)
  cases p with
  | true => rw [if_pos rfl] at q ⊢; exact h3 rfl _ _ q
  | false => rw [if_neg Bool.false_ne_true] at q ⊢; exact h4 rfl _ _ q
theorem ev_tup {es : Exs} {ds : List D} (h : Evs P k st L es ds) (hl : ds.length ≤ 1000000) : Ev P k st L (.tup es) (.tup ds) := fun Q E q => h _ _ ⟨Nat.le_trans hl (by decide), q⟩
theorem ev_lstF {es : Exs} {ds : List D} (h : Evs P k st L es ds) (hl : ds.length ≤ 1000000) : Ev P k st L (.frz (.lst es)) (.kl ds) := fun Q E q => h _ _ (newL_frz (Nat.le_trans hl (by decide)) q)
theorem evs_nil : Evs P k st L .nil [] := fun _ _ q => q
theorem evs_cons {e : Ex} {r : Exs} {d : D} {ds : List D} (h1 : Ev P k st L e d) (h2 : Evs P k st L r ds) : Evs P k st L (.cons e r) (d :: ds) := fun R E q => h1 _ _ (h2 _ _ q)
theorem evs_star {e : Ex} {r : Exs} {d : D} {xs ds : List D} (h1 : Ev P k st L e d) (hx : rdS st d = some xs) (h2 : Evs P k st L r ds) : Evs P k st L (.star e r) (xs ++ ds) := fun R E q => h1 _ _ ⟨xs, hx, h2 _ _ q⟩
theorem ev_call {f : Str} {es : Exs} {ks : List Str} {ds : List D} {v : D} (h1 : Evs P k st L es ds) (h2 : Fn P k st f ds ks v) : Ev P k st L (.call f es ks) v := fun Q E q => h1 _ _ (h2 Q E q)
theorem ev_callF {f : Str} {es : Exs} {ks : List Str} {ds : List D} {v : D} (h1 : Evs P k st L es ds) (h2 : FnF P k st f ds ks v) : Ev P k st L (.frz (.call f es ks)) v := fun Q E q => h1 _ _ (h2 Q E q)
theorem ev_blt {f : Bf} {es : Exs} {ds : List D} {v : D} (h1 : Evs P k st L es ds) (h2 : Bl st f ds v) : Ev P k st L (.blt f es) v := fun Q E q => h1 _ _ (h2 Q q)
theorem ev_bltF {f : Bf} {es : Exs} {ds : List D} {v : D} (h1 : Evs P k st L es ds) (h2 : BlF P st f ds v) : Ev P k st L (.frz (.blt f es)) v := fun Q E q => h1 _ _ (h2 Q q)
theorem ev_att {o : Ex} {f : Str} {x d : D} (h1 : Ev P k st L o x) (h2 : attV P x f st = some d) : Ev P k st L (.att o f) d := fun Q E q => h1 _ _ ⟨d, h2, q⟩
theorem ev_idx {o i : Ex} {x y v : D} (h1 : Ev P k st L o x) (h2 : Ev P k st L i y) (h : Ix st x y v) : Ev P k st L (.idx o i) v := fun Q E q => h1 _ _ (h2 _ _ (h Q q))
theorem ev_slc {o : Ex} {lo hi : Exs} {x v : D} {l h : List D} {i j : Option Int} (h1 : Ev P k st L o x) (h2 : Evs P k st L lo l) (h3 : optI l = some i) (h4 : Evs P k st L hi h) (h5 : optI h = some j) (h6 : Sl st x i j v) : Ev P k st L (.slc o lo hi) v := fun Q E q => h1 _ _ (h2 _ _ ⟨i, h3, h4 _ _ ⟨j, h5, h6 Q q⟩⟩)
theorem ev_slcF {o : Ex} {lo hi : Exs} {x v : D} {l h : List D} {i j : Option Int} (h1 : Ev P k st L o x) (h2 : Evs P k st L lo l) (h3 : optI l = some i) (h4 : Evs P k st L hi h) (h5 : optI h = some j) (h6 : SlF P st x i j v) : Ev P k st L (.frz (.slc o lo hi)) v := fun Q E q => h1 _ _ (h2 _ _ ⟨i, h3, h4 _ _ ⟨j, h5, h6 Q q⟩⟩)
theorem ev_newF {c : Str} {es : Exs} {ks : List Str} {ds : List D} {v : D} (h1 : Evs P k st L es ds) (h2 : NwF P k st c ds ks v) : Ev P k st L (.frz (.new c es ks)) v := fun Q E q => h1 _ _ (h2 Q E q)
theorem ev_mth {o : Ex} {m : Str} {es : Exs} {x v : D} {ds : List D} (h1 : Ev P k st L o x) (h2 : Evs P k st L es ds) (h : Mt P k st x m ds v) : Ev P k st L (.mth o m es) v := fun Q E q => by
  obtain ⟨c, fd, a, b, g⟩ := h Q E q
  exact h1 _ _ ⟨c, fd, a, b, h2 _ _ g⟩
theorem ev_mthF {o : Ex} {m : Str} {es : Exs} {x v : D} {ds : List D} (h1 : Ev P k st L o x) (h2 : Evs P k st L es ds) (h : MtF P k st x m ds v) : Ev P k st L (.frz (.mth o m es)) v := fun Q E q => by
  obtain ⟨c, fd, a, b, g⟩ := h Q E q
  exact h1 _ _ ⟨c, fd, a, b, h2 _ _ g⟩
theorem evt_nil : EvT P k st L .nil true := fun _ _ q => q
theorem evt_one {e : Ex} {x : D} {p : Bool} (h1 : Ev P k st L e x) (h2 : Tru st x p) : EvT P k st L (.cons e .nil) p := fun R E q => h1 _ _ (h2 _ (by
  cases p with
  | true => rw [if_pos rfl]; exact q
  | false => rw [if_neg Bool.false_ne_true]; exact q))
theorem evt_cons {e : Ex} {r : Exs} {x : D} {p q : Bool} (h1 : Ev P k st L e x) (h2 : Tru st x p) (h3 : p = true → EvT P k st L r q) : EvT P k st L (.cons e r) (p && q) := fun R E h => h1 _ _ (h2 _ (by
  cases p with
  | true => rw [if_pos rfl]; exact h3 rfl _ _ h
  | false => rw [if_neg Bool.false_ne_true]; exact h))
/-- what a walked thing gives -/
def Its (st : Sto) (x : D) (xs : List D) : Prop := ∀ R : List D → (Sto → Prop) → Sto → (Sto → Sto) → Prop, (∀ stays : Sto → Prop, stays st → R xs stays st id) → (match x with
    | .tup xs => R xs (fun _ => True) st id
    | .str z => z.length ≤ sizeLine ∧ R (z.cps.toList.map fun c => D.str ⟨#[c]⟩) (fun _ => True) st id
    | .kd ks _ => R (ks.map keyD) (fun _ => True) st id
    | x => ∃ xs, rdL st x = some xs ∧ R xs (fun t => rdL t x = some xs) st id)
theorem evi_of {e : Ex} {x : D} {xs : List D} (h : Ev P k st L e x) (h2 : Its st x xs) : EvI P k st L (.of e) xs := fun R E q => h _ _ (h2 R q)
theorem its_tup {xs : List D} : Its st (.tup xs) xs := fun R q => q _ trivial
theorem its_kl {xs : List D} : Its st (.kl xs) xs := fun R q => ⟨xs, rfl, q _ rfl⟩
theorem its_kd {ks : List Key} {ds xs : List D} (hx : ks.map keyD = xs) : Its st (.kd ks ds) xs := fun R q => by subst hx; exact q _ trivial
theorem its_lit {x : D} {xs : List D} (h : Its st x xs) : Its st x (xs.map id) := by rw [List.map_id]; exact h
theorem its_ref {a : Addr} {xs : List D} (h : st a = some (.lst xs)) : Its st (.ref a) xs := fun R q => by
  have e : rdL st (.ref a) = some xs := by unfold rdL; simp only [h]
  exact ⟨xs, e, q _ e⟩
theorem evi_rng {e : Ex} {n : Nat} (h : Ev P k st L e (.int (n : Nat))) (hn : n ≤ 1000000) : EvI P k st L (.rng1 e) ((List.range n).map fun i : Nat => D.int (i : Int)) := fun R E q => wI_rng (fun Q hQ => h Q _ hQ) (Nat.le_trans hn (by decide)) q
theorem zipIdx_map {α : Type} (l : List α) (c : α → D) : (l.map c).zipIdx.map (fun p => D.tup [.int (p.2 : Nat), p.1]) = l.zipIdx.map fun p => D.tup [.int (p.2 : Nat), c p.1] := by
  rw [List.zipIdx_map, List.map_map]; rfl
/-- what enumerate walks -/
def Enm (st : Sto) (x : D) (xs : List D) : Prop := x = .tup xs ∨ rdL st x = some xs
theorem enm_T {xs : List D} : Enm st (.tup xs) xs := .inl rfl
theorem enm_K {xs : List D} : Enm st (.kl xs) xs := .inr rfl
theorem evi_enum {α : Type} {e : Ex} {x : D} {l : List α} {c : α → D} (h : Ev P k st L e x) (hx : Enm st x (l.map c)) : EvI P k st L (.enum e) (l.zipIdx.map fun p => D.tup [.int (p.2 : Nat), c p.1]) := fun R E q => h _ _ (by
  rw [← zipIdx_map] at q
  rcases hx with rfl | hx
  · exact .inl ⟨_, rfl, q _ trivial⟩
  · exact .inr ⟨_, hx, q _ hx⟩)
theorem ev_revF {o : Ex} {x : D} {xs : List D} (h1 : Ev P k st L o x) (h2 : rdL st x = some xs) (h : xs.length ≤ 1000000) : Ev P k st L (.frz (.rev o)) (.kl xs.reverse) := fun Q E q => h1 _ _ ⟨xs, h2, newL_frz (by rw [List.length_reverse]; exact Nat.le_trans h (by decide)) q⟩
def nxtD (os cs : List Str) (d : D) : D := match os.find? fun a => decide (a ∈ cs) with
  | some a => .str a
  | none => d
/-- the first of some texts that is among others -/
theorem ev_nxt {i j : Nat} {g : Str} {os cs : List Str} {y d : D} (h1 : L[i]? = some (some (.tup (os.map D.str)))) (h2 : L[j]? = some (some y)) (h3 : rdS st y = some (cs.map D.str)) (h4 : ∀ x ∈ os, SOk x) (h5 : ∀ x ∈ cs, SOk x) (h6 : P.cons.lookup g = some d) : Ev P k st L (.nxt i j g) (nxtD os cs d) := fun Q E q => ⟨os, cs, y, d, h1, h2, h3, h4, h5, h6, q⟩
theorem zip_map2 {α β : Type} (l : List α) (m : List β) (c : α → D) (d : β → D) : ((l.map c).zip (m.map d)).map (fun p => D.tup [p.1, p.2]) = (l.zip m).map fun p => D.tup [c p.1, d p.2] := by
  rw [List.zip_map, List.map_map]; rfl
def Zp (st : Sto) (x y : D) (xs ys : List D) : Prop := (x = .tup xs ∧ y = .tup ys) ∨ (rdL st x = some xs ∧ rdL st y = some ys)
theorem zp_K {xs ys : List D} : Zp st (.kl xs) (.kl ys) xs ys := .inr ⟨rfl, rfl⟩
theorem zp_T {xs ys : List D} : Zp st (.tup xs) (.tup ys) xs ys := .inl ⟨rfl, rfl⟩
theorem evi_zip {α β : Type} {a b : Ex} {x y : D} {l : List α} {m : List β} {c : α → D} {d : β → D} (h : Ev P k st L a x) (h2 : Ev P k st L b y) (hz : Zp st x y (l.map c) (m.map d)) : EvI P k st L (.zip a b) ((l.zip m).map fun p => D.tup [c p.1, d p.2]) := fun R E q => by
  refine h _ _ (h2 _ _ ?_)
  rw [← zip_map2] at q
  rcases hz with ⟨rfl, rfl⟩ | ⟨h1, h2⟩
  · exact .inl ⟨_, _, rfl, rfl, q _ trivial⟩
  · exact .inr ⟨_, _, h1, h2, q _ ⟨h1, h2⟩⟩
/-- a comprehension with tests -/
theorem ev_lc {α : Type} {elt : Ex} {vs : List Nat} {tg : Tg} {it : It} {ifs : Exs} {l : List α} {c : α → D} {L1 : α → Loc} {p : α → Bool} {g : α → D} (hi : EvI P k st L it (l.map c)) (hg : ∀ y, tgO tg (c y) (wipeL L vs) = some (L1 y))
    (hp : ∀ y ∈ l, EvT P k st (L1 y) ifs (p y)) (he : ∀ y ∈ l, p y = true → Ev P k st (L1 y) elt (g y)) (hl : l.length ≤ 1000000) : Ev P k st L (.frz (.lc elt vs tg it ifs)) (.kl ((l.filter p).map g)) := fun Q E q =>
  wE_lcG l c p g (fun R hR => hi R _ hR) (fun y hy nx hn => tg_of (hg y) (hp y hy _ _ (by
    cases h : p y with
    | true => rw [if_pos rfl]; rw [if_pos h] at hn; exact he y hy h _ _ hn
    | false => rw [if_neg Bool.false_ne_true]; rw [if_neg (by rw [h]; exact Bool.false_ne_true)] at hn; exact hn))) hl q
/-- a comprehension without tests -/
theorem ev_lcM {α : Type} {elt : Ex} {vs : List Nat} {tg : Tg} {it : It} {l : List α} {c : α → D} {L1 : α → Loc} {g : α → D} (hi : EvI P k st L it (l.map c)) (hg : ∀ y, tgO tg (c y) (wipeL L vs) = some (L1 y))
    (he : ∀ y ∈ l, Ev P k st (L1 y) elt (g y)) (hl : l.length ≤ 1000000) : Ev P k st L (.frz (.lc elt vs tg it .nil)) (.kl (l.map g)) := fun Q E q =>
  ev_lc (p := fun _ => true) hi hg (fun _ _ => evt_nil) (fun y hy _ => he y hy) hl Q E (by rw [List.filter_eq_self.mpr fun _ _ => rfl]; exact q)
/-- a dict comprehension without tests -/
theorem ev_dc {α : Type} {ke ve : Ex} {vs : List Nat} {tg : Tg} {it : It} {l : List α} {c : α → D} {L1 : α → Loc} {n : α → Str} {g : α → D} (hi : EvI P k st L it (l.map c)) (hg : ∀ y, tgO tg (c y) (wipeL L vs) = some (L1 y))
    (hk : ∀ y ∈ l, Ev P k st (L1 y) ke (.str (n y))) (he : ∀ y ∈ l, Ev P k st (L1 y) ve (g y)) (nd : (l.map n).Nodup) : Ev P k st L (.frz (.dc ke ve vs tg it .nil)) (.kd (l.map fun y => Sum.inr (n y)) (l.map g)) := fun Q E q =>
  wE_dcG l c (fun y => Sum.inr (n y)) g (fun R hR => hi R _ hR) (fun y hy nx hn => tg_of (hg y) (wTs_nil (by rw [if_pos rfl]; exact hk y hy _ _ ⟨Sum.inr (n y), rfl, he y hy _ _ hn⟩))) (by
    have e : (l.map fun y => (Sum.inr (n y) : Key)) = (l.map n).map Sum.inr := by rw [List.map_map]; rfl
    rw [e]
    exact List.Pairwise.map _ (fun a b h e => h (Sum.inr.inj e)) nd) q
theorem tr_bl {b : Bool} : Tru st (.bl b) b := fun _ q => q
theorem tr_int {i : Int} : Tru st (.int i) (i != 0) := fun _ q => q
theorem tr_non : Tru st .non false := fun _ q => q
theorem tr_tupM {α : Type} {l : List α} {c : α → D} : Tru st (.tup (l.map c)) (!l.isEmpty) := fun _ q => by
  show _; rw [show (!l.isEmpty) = !(l.map c).isEmpty by cases l <;> rfl] at q; exact q
theorem tr_klM {α : Type} {l : List α} {c : α → D} : Tru st (.kl (l.map c)) (!l.isEmpty) := fun _ q => by
  rw [show (!l.isEmpty) = !(l.map c).isEmpty by cases l <;> rfl] at q; exact ⟨_, rfl, q⟩
theorem tr_tup {xs : List D} : Tru st (.tup xs) (!xs.isEmpty) := fun _ q => q
theorem tr_kl {xs : List D} : Tru st (.kl xs) (!xs.isEmpty) := fun _ q => ⟨xs, rfl, q⟩
theorem bo_addI {i j : Int} : Bo st .add (.int i) (.int j) (.int (i + j)) := fun _ q => q
theorem bo_subI {i j : Int} : Bo st .sub (.int i) (.int j) (.int (i - j)) := fun _ q => q
theorem bo_mulI {i j : Int} (h : CMul i j) : Bo st .mul (.int i) (.int j) (.int (i * j)) := fun _ q => ⟨h, q⟩
theorem bo_modI {i j : Int} (h : 0 < j) : Bo st .mod (.int i) (.int j) (.int (i % j)) := fun _ q => ⟨h, q⟩
theorem bof_addI {i j : Int} : BoF P st .add (.int i) (.int j) (.int (i + j)) := fun _ q => q
theorem bof_addT {xs ys : List D} (h : (xs ++ ys).length ≤ 1000000) : BoF P st .add (.tup xs) (.tup ys) (.tup (xs ++ ys)) := fun _ q => ⟨Nat.le_trans h (by decide), q⟩
theorem bo_addT {xs ys : List D} (h : (xs ++ ys).length ≤ 1000000) : Bo st .add (.tup xs) (.tup ys) (.tup (xs ++ ys)) := fun _ q => ⟨Nat.le_trans h (by decide), q⟩
theorem bof_addK {xs ys : List D} (h : (xs ++ ys).length ≤ 1000000) : BoF P st .add (.kl xs) (.kl ys) (.kl (xs ++ ys)) := fun _ q => op_addK (Nat.le_trans h (by decide)) q
theorem co_eqS {x y : Str} (hx : SOk x) (hy : SOk y) : Co st .eq (.str x) (.str y) (decide (x = y)) := fun _ q => c_eqS hx hy q
theorem co_neS {x y : Str} (hx : SOk x) (hy : SOk y) : Co st .ne (.str x) (.str y) (!decide (x = y)) := fun _ q => c_neS hx hy q
theorem co_eqI {x y : Int} : Co st .eq (.int x) (.int y) (decide (x = y)) := fun _ q => c_eqI q
theorem co_neI {i j : Int} : Co st .ne (.int i) (.int j) (!decide (i = j)) := fun Q q => ⟨_, _, .int i, .int j, rfl, rfl, by
  have : PyData.eqv (.int i) (.int j) = decide (i = j) := beq_dec i j
  rw [this]; exact q⟩
theorem co_ltI {i j : Int} : Co st .lt (.int i) (.int j) (decide (i < j)) := fun _ q => q
theorem co_leI {i j : Int} : Co st .le (.int i) (.int j) (decide (i ≤ j)) := fun _ q => q
theorem co_gtI {i j : Int} : Co st .gt (.int i) (.int j) (decide (i > j)) := fun _ q => q
theorem co_geI {i j : Int} : Co st .ge (.int i) (.int j) (decide (i ≥ j)) := fun _ q => q
theorem co_ltS {i j : Str} : Co st .lt (.str i) (.str j) (decide (i.cps.toList < j.cps.toList)) := fun _ q => q
theorem co_inL {ss : List Str} {x : Str} (hs : ∀ x ∈ ss, SOk x) (hx : SOk x) : Co st .mem (.str x) (.kl (ss.map D.str)) (decide (x ∈ ss)) := fun _ q => c_inS (neg := false) (.inl rfl) hs hx (by simpa using q)
theorem co_inT {ss : List Str} {x : Str} (hs : ∀ x ∈ ss, SOk x) (hx : SOk x) : Co st .mem (.str x) (.tup (ss.map D.str)) (decide (x ∈ ss)) := fun _ q => c_inS (neg := false) (.inr rfl) hs hx (by simpa using q)
theorem co_ninL {ss : List Str} {x : Str} (hs : ∀ x ∈ ss, SOk x) (hx : SOk x) : Co st .nmem (.str x) (.kl (ss.map D.str)) (!decide (x ∈ ss)) := fun _ q => c_inS (neg := true) (.inl rfl) hs hx (by simpa using q)
theorem co_ninT {ss : List Str} {x : Str} (hs : ∀ x ∈ ss, SOk x) (hx : SOk x) : Co st .nmem (.str x) (.tup (ss.map D.str)) (!decide (x ∈ ss)) := fun _ q => c_inS (neg := true) (.inr rfl) hs hx (by simpa using q)
theorem map_isEmpty {α : Type} {l : List α} {c : α → D} : (l.map c).isEmpty = l.isEmpty := by cases l <;> rfl
theorem co_eqNilS {ss : List Str} (h : ∀ x ∈ ss, SOk x) : Co st .eq (.kl (ss.map D.str)) (.kl []) ss.isEmpty := fun _ q => c_eqNilS h q
theorem co_neNilS {ss : List Str} (h : ∀ x ∈ ss, SOk x) : Co st .ne (.kl (ss.map D.str)) (.kl []) (!ss.isEmpty) := fun _ q => c_neNil h q
theorem co_eqNilW {ss : List (List Str × Bool)} (h : ∀ w ∈ ss, ∀ x ∈ w.1, SOk x) : Co st .eq (.kl (ss.map wishD)) (.kl []) ss.isEmpty := fun _ q => c_eqNilW h q
theorem bl_lenK {xs : List D} : Bl st .len [.kl xs] (.int xs.length) := fun _ q => q
theorem bl_lenT {xs : List D} : Bl st .len [.tup xs] (.int xs.length) := fun _ q => q
theorem bl_lenKm {α : Type} {l : List α} {c : α → D} : Bl st .len [.kl (l.map c)] (.int (l.length : Nat)) := fun Q q => by
  show Q (.int (l.map c).length) st
  rw [List.length_map]; exact q
theorem bl_lenTm {α : Type} {l : List α} {c : α → D} : Bl st .len [.tup (l.map c)] (.int (l.length : Nat)) := fun Q q => by
  show Q (.int (l.map c).length) st
  rw [List.length_map]; exact q
theorem bl_lenD {ks : List Key} {xs : List D} : Bl st .len [.kd ks xs] (.int ks.length) := fun _ q => q
theorem bl_intI {i : Int} : Bl st .int [.int i] (.int i) := fun _ q => q
theorem bl_intB {b : Bool} : Bl st .int [.bl b] (.int (if b then 1 else 0)) := fun _ q => q
theorem bl_all {α : Type} {l : List α} {f : α → Bool} : Bl st .all [.kl (l.map fun y => D.bl (f y))] (.bl (l.all f)) := fun Q q => ⟨_, _, rfl, allB_map f l, by
  rw [List.all_map]; exact q⟩
theorem bl_any {α : Type} {l : List α} {f : α → Bool} : Bl st .any [.kl (l.map fun y => D.bl (f y))] (.bl (l.any f)) := fun Q q => ⟨_, _, rfl, allB_map f l, by
  rw [List.any_map]; exact q⟩
theorem bl_tupK {xs : List D} (h : xs.length ≤ 1000000) : Bl st .tuple [.kl xs] (.tup xs) := fun _ q => ⟨xs, rfl, Nat.le_trans h (by decide), q⟩
theorem bl_tupT {xs : List D} : Bl st .tuple [.tup xs] (.tup xs) := fun _ q => q
theorem blf_listK {xs : List D} (h : xs.length ≤ 1000000) : BlF P st .list [.kl xs] (.kl xs) := fun _ q => newL_frz (Nat.le_trans h (by decide)) q
theorem blf_listT {xs : List D} (h : xs.length ≤ 1000000) : BlF P st .list [.tup xs] (.kl xs) := fun _ q => newL_frz (Nat.le_trans h (by decide)) q
theorem blf_sortS {ss : List Str} (h : ss.length ≤ 1000000) : BlF P st .sorted [.kl (ss.map D.str)] (.kl ((srtS ss).map D.str)) := fun _ q => b_sortS (ss := ss) rfl (Nat.le_trans h (by decide)) q
theorem blf_sortST {ss : List Str} (h : ss.length ≤ 1000000) : BlF P st .sorted [.tup (ss.map D.str)] (.kl ((srtS ss).map D.str)) := fun _ q => b_sortS (ss := ss) rfl (Nat.le_trans h (by decide)) q
theorem bl_isi2 {d : D} {n m : String} {b c : Bool} (h1 : isiB st d n = some b) (h2 : isiB st d m = some c) : Bl st .isinstance [d, .tup [.ty n, .ty m]] (.bl (b || c)) := fun _ q => b_isi2 h1 h2 q
theorem bl_isi {d : D} {n : String} {b : Bool} (h1 : isiB st d n = some b) : Bl st .isinstance [d, .ty n] (.bl b) := fun _ q => b_isi h1 q
theorem ix_T {xs : List D} {i : Int} {d : D} (h : atI xs i = some d) : Ix st (.tup xs) (.int i) d := fun _ q => ix_tup h q
theorem ix_K {xs : List D} {i : Int} {d : D} (h : atI xs i = some d) : Ix st (.kl xs) (.int i) d := fun _ q => ix_kl h q
theorem ix_KD {ks : List Key} {ds : List D} {y : D} {ky : Key} {d : D} (hk : keyOf y = some ky) (h : valD (ks.zip ds) ky = some d) : Ix st (.kd ks ds) y d := fun _ q => ix_kd hk h q
theorem slf_K {xs : List D} {lo hi : Option Int} (h : xs.length ≤ 1000000) : SlF P st (.kl xs) lo hi (.kl (cutD xs lo hi)) := fun _ q => slc_kl (Nat.le_trans h (by decide)) q
theorem slf_T {xs : List D} {lo hi : Option Int} : SlF P st (.tup xs) lo hi (.tup (cutD xs lo hi)) := fun _ q => q
theorem fn_of {f : Str} {ds : List D} {v : D} {fd : Fd} (h : P.fns.lookup (("" : Str), f) = some fd) (hd : fd.dfl = []) (hl : ds.length = fd.ps.length) (g : ∀ (Q : QD) (E : XD), Q v st → cal P k "" f ds st Q E) : Fn P k st f ds [] v := fun Q E q => call_of h hd hl (g Q E q)
theorem fn_kw {f : Str} {ds xs : List D} {ks : List Str} {v : D} {fd : Fd} (h : P.fns.lookup (("" : Str), f) = some fd) (hb : bindK fd.ps fd.dfl ds ks = some xs) (g : ∀ (Q : QD) (E : XD), Q v st → cal P k "" f xs st Q E) : Fn P k st f ds ks v := fun Q E q => call_kw h hb (g Q E q)
theorem is_S_str {x : Str} : Bl st .isinstance [.str x, .ty "str"] (.bl true) := bl_isi (by show kitB "str" "str" = some true; decide +kernel)
theorem is_S_tuple {x : Str} : Bl st .isinstance [.str x, .ty "tuple"] (.bl false) := bl_isi (by show kitB "str" "tuple" = some false; decide +kernel)
theorem is_S_list {x : Str} : Bl st .isinstance [.str x, .ty "list"] (.bl false) := bl_isi (by show kitB "str" "list" = some false; decide +kernel)
theorem is_S_int {x : Str} : Bl st .isinstance [.str x, .ty "int"] (.bl false) := bl_isi (by show kitB "str" "int" = some false; decide +kernel)
theorem is_S_bool {x : Str} : Bl st .isinstance [.str x, .ty "bool"] (.bl false) := bl_isi (by show kitB "str" "bool" = some false; decide +kernel)
theorem is_S_dict {x : Str} : Bl st .isinstance [.str x, .ty "dict"] (.bl false) := bl_isi (by show kitB "str" "dict" = some false; decide +kernel)
theorem is_T_str {x : List D} : Bl st .isinstance [.tup x, .ty "str"] (.bl false) := bl_isi (by show kitB "tuple" "str" = some false; decide +kernel)
theorem is_T_tuple {x : List D} : Bl st .isinstance [.tup x, .ty "tuple"] (.bl true) := bl_isi (by show kitB "tuple" "tuple" = some true; decide +kernel)
theorem is_T_list {x : List D} : Bl st .isinstance [.tup x, .ty "list"] (.bl false) := bl_isi (by show kitB "tuple" "list" = some false; decide +kernel)
theorem is_T_int {x : List D} : Bl st .isinstance [.tup x, .ty "int"] (.bl false) := bl_isi (by show kitB "tuple" "int" = some false; decide +kernel)
theorem is_T_bool {x : List D} : Bl st .isinstance [.tup x, .ty "bool"] (.bl false) := bl_isi (by show kitB "tuple" "bool" = some false; decide +kernel)
theorem is_T_dict {x : List D} : Bl st .isinstance [.tup x, .ty "dict"] (.bl false) := bl_isi (by show kitB "tuple" "dict" = some false; decide +kernel)
theorem is_K_str {x : List D} : Bl st .isinstance [.kl x, .ty "str"] (.bl false) := bl_isi (by show kitB "list" "str" = some false; decide +kernel)
theorem is_K_tuple {x : List D} : Bl st .isinstance [.kl x, .ty "tuple"] (.bl false) := bl_isi (by show kitB "list" "tuple" = some false; decide +kernel)
theorem is_K_list {x : List D} : Bl st .isinstance [.kl x, .ty "list"] (.bl true) := bl_isi (by show kitB "list" "list" = some true; decide +kernel)
theorem is_K_int {x : List D} : Bl st .isinstance [.kl x, .ty "int"] (.bl false) := bl_isi (by show kitB "list" "int" = some false; decide +kernel)
theorem is_K_bool {x : List D} : Bl st .isinstance [.kl x, .ty "bool"] (.bl false) := bl_isi (by show kitB "list" "bool" = some false; decide +kernel)
theorem is_K_dict {x : List D} : Bl st .isinstance [.kl x, .ty "dict"] (.bl false) := bl_isi (by show kitB "list" "dict" = some false; decide +kernel)
theorem is_I_str {x : Int} : Bl st .isinstance [.int x, .ty "str"] (.bl false) := bl_isi (by show kitB "int" "str" = some false; decide +kernel)
theorem is_I_tuple {x : Int} : Bl st .isinstance [.int x, .ty "tuple"] (.bl false) := bl_isi (by show kitB "int" "tuple" = some false; decide +kernel)
theorem is_I_list {x : Int} : Bl st .isinstance [.int x, .ty "list"] (.bl false) := bl_isi (by show kitB "int" "list" = some false; decide +kernel)
theorem is_I_int {x : Int} : Bl st .isinstance [.int x, .ty "int"] (.bl true) := bl_isi (by show kitB "int" "int" = some true; decide +kernel)
theorem is_I_bool {x : Int} : Bl st .isinstance [.int x, .ty "bool"] (.bl false) := bl_isi (by show kitB "int" "bool" = some false; decide +kernel)
theorem is_I_dict {x : Int} : Bl st .isinstance [.int x, .ty "dict"] (.bl false) := bl_isi (by show kitB "int" "dict" = some false; decide +kernel)
theorem is_B_str {x : Bool} : Bl st .isinstance [.bl x, .ty "str"] (.bl false) := bl_isi (by show kitB "bool" "str" = some false; decide +kernel)
theorem is_B_tuple {x : Bool} : Bl st .isinstance [.bl x, .ty "tuple"] (.bl false) := bl_isi (by show kitB "bool" "tuple" = some false; decide +kernel)
theorem is_B_list {x : Bool} : Bl st .isinstance [.bl x, .ty "list"] (.bl false) := bl_isi (by show kitB "bool" "list" = some false; decide +kernel)
theorem is_B_int {x : Bool} : Bl st .isinstance [.bl x, .ty "int"] (.bl true) := bl_isi (by show kitB "bool" "int" = some true; decide +kernel)
theorem is_B_bool {x : Bool} : Bl st .isinstance [.bl x, .ty "bool"] (.bl true) := bl_isi (by show kitB "bool" "bool" = some true; decide +kernel)
theorem is_B_dict {x : Bool} : Bl st .isinstance [.bl x, .ty "dict"] (.bl false) := bl_isi (by show kitB "bool" "dict" = some false; decide +kernel)
theorem is_N_str : Bl st .isinstance [.non, .ty "str"] (.bl false) := bl_isi (by show kitB "NoneType" "str" = some false; decide +kernel)
theorem is_N_tuple : Bl st .isinstance [.non, .ty "tuple"] (.bl false) := bl_isi (by show kitB "NoneType" "tuple" = some false; decide +kernel)
theorem is_N_list : Bl st .isinstance [.non, .ty "list"] (.bl false) := bl_isi (by show kitB "NoneType" "list" = some false; decide +kernel)
theorem is_N_int : Bl st .isinstance [.non, .ty "int"] (.bl false) := bl_isi (by show kitB "NoneType" "int" = some false; decide +kernel)
theorem is_N_bool : Bl st .isinstance [.non, .ty "bool"] (.bl false) := bl_isi (by show kitB "NoneType" "bool" = some false; decide +kernel)
theorem is_N_dict : Bl st .isinstance [.non, .ty "dict"] (.bl false) := bl_isi (by show kitB "NoneType" "dict" = some false; decide +kernel)
end
end Py

set_option Elab.async false
set_option linter.all false
set_option maxRecDepth 100000
set_option maxHeartbeats 4000000
/-! The laws' lists and comparison, for any plain data. -/
namespace Py
open PySem PySem.Spec PyProof.Rows L2
local macro_rules | `(tactic| trace "K") => `(tactic| first | assumption | exact put_same | exact (put_ne (by assumption)).trans put_same | exact (put_ne (by assumption)).trans (by assumption) | exact (put_ne (by assumption)).trans ((put_ne (by assumption)).trans put_same) | exact (put_ne (by assumption)).trans ((put_ne (by assumption)).trans (by assumption)))
local macro_rules | `(tactic| trace "V") => `(tactic| repeat (first | (with_reducible first | refine wSs_cons ?_ | refine wSs_nil ?_ | refine wS_exp ?_ | refine wS_ret ?_ | refine wS_pass ?_ | refine wS_asg ?_ | refine wS_par ?_ | refine wS_iff ?_ | refine wS_brk ?_ | refine wS_cnt ?_ | refine wE_non ?_ | refine wE_bl ?_ | refine wE_int ?_ | refine wE_str ?_ | refine wE_bty ?_ | refine wE_bin ?_ | refine wE_cmp ?_ | refine wE_and ?_ | refine wE_or ?_ | refine wE_not ?_ | refine wE_ite ?_ | refine wE_tup ?_ | refine wE_lst ?_ | refine wE_call ?_ | refine wE_blt ?_ | refine wE_att ?_ | refine wE_idx ?_ | refine wE_slc ?_ | refine wE_frzB ?_ | refine wE_frzC ?_ | refine wE_frzL ?_ | refine wE_frzS ?_ | refine wE_frzV ?_ | refine wA_nil ?_ | refine wA_cons ?_ | refine wTs_nil ?_ | refine wTs_cons ?_ | refine tg_nm ?_ | refine tru_bl ?_ | refine tru_int ?_ | refine tru_non ?_ | refine tru_tup ?_ | refine tru_kl ?_ | refine op_addI ?_ | refine op_subI ?_ | refine frz_kl ?_ | refine frz_tup ?_ | refine frz_int ?_ | refine c_gtI ?_ | refine c_ltI ?_ | refine c_geI ?_ | refine c_leI ?_ | refine b_len_kl ?_ | refine b_len_tup ?_ | refine b_len_sl ?_ | refine b_len_kd ?_ | refine b_int_int ?_ | refine b_int_bl ?_ | refine b_abs ?_ | refine b_min ?_ | refine wS_ssub ?_ | refine wE_mth ?_ | refine wE_bm ?_ | refine wE_negI ?_ | refine wE_new ?_ | refine wS_satt ?_ | refine opt_n ?_ | refine opt_i ?_) | ((with_reducible apply wE_var); (rfl)) | ((with_reducible apply tg_tp); (rfl)) | ((with_reducible apply par_of); (rfl)) | ((with_reducible apply newT_of); (exact Nat.le_of_ble_eq_true rfl)) | ((with_reducible apply newL_frz); (exact Nat.le_of_ble_eq_true rfl)) | ((with_reducible apply ix_ref); (first | assumption | exact put_same | exact (put_ne (by assumption)).trans put_same | exact (put_ne (by assumption)).trans (by assumption) | exact (put_ne (by assumption)).trans ((put_ne (by assumption)).trans put_same) | exact (put_ne (by assumption)).trans ((put_ne (by assumption)).trans (by assumption))); (rfl)) | ((with_reducible apply ssub_ref); (first | assumption | exact put_same | exact (put_ne (by assumption)).trans put_same | exact (put_ne (by assumption)).trans (by assumption) | exact (put_ne (by assumption)).trans ((put_ne (by assumption)).trans put_same) | exact (put_ne (by assumption)).trans ((put_ne (by assumption)).trans (by assumption))); (rfl)) | ((with_reducible apply ix_tup); (rfl)) | ((with_reducible apply ix_kl); (rfl)) | ((with_reducible apply op_modI); (first | assumption | decide)) | ((with_reducible apply op_fdivI); (first | (constructor <;> assumption) | decide)) | ((with_reducible apply op_mulL); (decide)) | ((with_reducible apply op_mulR); (decide)) | ((with_reducible apply b_len_ref); (first | assumption | exact put_same | exact (put_ne (by assumption)).trans put_same | exact (put_ne (by assumption)).trans (by assumption) | exact (put_ne (by assumption)).trans ((put_ne (by assumption)).trans put_same) | exact (put_ne (by assumption)).trans ((put_ne (by assumption)).trans (by assumption)))) | ((with_reducible apply bmA_ref); (first | assumption | exact put_same | exact (put_ne (by assumption)).trans put_same | exact (put_ne (by assumption)).trans (by assumption) | exact (put_ne (by assumption)).trans ((put_ne (by assumption)).trans put_same) | exact (put_ne (by assumption)).trans ((put_ne (by assumption)).trans (by assumption))); (rfl))))
section
variable {P : Prog} {E : XD} {st : Sto} {Q : QD}
def noneB : D → Bool
  | .non => true
  | _ => false
theorem c_isN (q : Q (.bl true) st) : copR .is .non .non st Q := q
theorem c_isA {d : D} (h : noneB d = false) (q : Q (.bl false) st) : copR .is d .non st Q := by
  cases d with
  | non => cases h
  | _ => exact q
theorem eqv_bool (b c : Bool) : PyData.eqv (.bool b) (.bool c) = decide (b = c) := by cases b <;> cases c <;> rfl
theorem c_eqB {b c : Bool} (q : Q (.bl (decide (b = c))) st) : copR .eq (.bl b) (.bl c) st Q := ⟨_, _, .bl b, .bl c, rfl, rfl, by rw [eqv_bool]; exact q⟩
theorem c_neB {b c : Bool} (q : Q (.bl (!decide (b = c))) st) : copR .ne (.bl b) (.bl c) st Q := ⟨_, _, .bl b, .bl c, rfl, rfl, by rw [eqv_bool]; exact q⟩
theorem c_eqN (q : Q (.bl true) st) : copR .eq .non .non st Q := ⟨_, _, .non, .non, rfl, rfl, q⟩
theorem lists_atomG {k : Nat} {d : D} {p : PyData} (hP : Has P "" "_law_lists" f_i_law_lists_e25d27) (h : Dt st d p) (ha : atomP p = true) (q : Q (lisD p) st) : cal P (k + 1) "" "_law_lists" [d] st Q E := by
  have key : isiB st d "list" = some false ∧ isiB st d "tuple" = some false ∧ lisD p = d := by
    cases h with
    | non => exact ⟨by show kitB "NoneType" "list" = _; decide +kernel, by show kitB "NoneType" "tuple" = _; decide +kernel, rfl⟩
    | bl b => exact ⟨by show kitB "bool" "list" = _; decide +kernel, by show kitB "bool" "tuple" = _; decide +kernel, rfl⟩
    | int b => exact ⟨by show kitB "int" "list" = _; decide +kernel, by show kitB "int" "tuple" = _; decide +kernel, rfl⟩
    | str b => exact ⟨by show kitB "str" "list" = _; decide +kernel, by show kitB "str" "tuple" = _; decide +kernel, rfl⟩
    | lst _ _ => cases ha
    | tup _ => cases ha
  rw [key.2.2] at q
  refine cal_of hP rfl ?_
  simp only [f_i_law_lists_e25d27, List.map_cons, List.map_nil, List.length_cons, List.length_nil, Nat.reduceAdd, Nat.reduceSub, Nat.zero_add, List.replicate, List.cons_append, List.nil_append]
  trace "V"
  refine b_isi2 key.1 key.2.1 ?_
  trace "V"
  rw [if_neg (by simp)]
  trace "V"
  exact Dr.refl q
theorem lists_seqG {k : Nat} {w : D} {xs : List D} {ds : List PyData} (hP : Has P "" "_law_lists" f_i_law_lists_e25d27) (hw : w = .tup xs ∨ rdL st w = some xs) (hd : Dts st xs ds) (hl : ds.length ≤ 1000000) (h : ∀ y ∈ xs.zip ds, ∀ Q' : QD, Q' (lisD y.2) st → cal P k "" "_law_lists" [y.1] st Q' X0) (q : Q (.kl (lisDs ds)) st) : cal P (k + 1) "" "_law_lists" [w] st Q E := by
  obtain ⟨z1, z2, z3, z4⟩ := dts_zip hd
  refine cal_of hP rfl ?_
  simp only [f_i_law_lists_e25d27, List.map_cons, List.map_nil, List.length_cons, List.length_nil, Nat.reduceAdd, Nat.reduceSub, Nat.zero_add, List.replicate, List.cons_append, List.nil_append]
  trace "V"
  have main : wpE P (cal P k) (.frz (.lc (.call "_law_lists" (.cons (.var 1) .nil) []) [1] (.nm 1) (.of (.var 0)) .nil)) [some w, none] st (fun d s => Dr s (Q d)) E := by
    trace "V"
    refine wE_lcG (xs.zip ds) (·.1) (fun _ => true) (fun y => lisD y.2) (fun R hR => ?_) ?_ (by rw [List.length_zip]; omega) ?_
    · rw [z1] at hR
      rcases hw with rfl | hw
      · exact wI_tup (fun R hR => wE_var rfl hR) hR
      · exact wI_rd hw (fun R hR => wE_var rfl hR) hR
    · intro y hy nx hn
      refine tg_nm ?_
      trace "V"
      rw [if_pos rfl]
      trace "V"
      refine call_of hP rfl rfl (h y hy _ ?_)
      rw [if_pos rfl] at hn
      exact hn
    · rw [List.filter_eq_self.mpr (fun _ _ => rfl)]
      have e : (xs.zip ds).map (fun y => lisD y.2) = lisDs ds := by
        rw [lisDs_map, ← z2, List.map_map, z2]; rfl
      rw [e]
      exact Dr.refl q
  rcases hw with rfl | hw
  · refine b_isi2 (b := false) (c := true) (by show kitB "tuple" "list" = some false; decide +kernel) (by show kitB "tuple" "tuple" = some true; decide +kernel) ?_
    trace "V"
    rw [if_pos (show (false || true) = true from rfl)]
    exact main
  · refine b_isi2 (b := true) (c := false) (by rw [isi_lst hw]; decide +kernel) (by rw [isi_lst hw]; decide +kernel) ?_
    trace "V"
    rw [if_pos (show (true || false) = true from rfl)]
    exact main
theorem lists_gen (hP : Has P "" "_law_lists" f_i_law_lists_e25d27) : ∀ (n : Nat) {d : D} {p : PyData}, PyData.depth p ≤ n → wideP p = true → Dt st d p → ∀ {k : Nat} {Q : QD} {E : XD}, Q (lisD p) st → cal P (k + n + 1) "" "_law_lists" [d] st Q E := by
  intro n
  induction n with
  | zero =>
    intro d p hn hw h k Q E q
    refine lists_atomG hP h ?_ q
    cases p with
    | list _ => simp [PyData.depth] at hn
    | tuple _ => simp [PyData.depth] at hn
    | dict _ => simp [PyData.depth] at hn
    | _ => rfl
  | succ n ih =>
    intro d p hn hw h k Q E q
    by_cases ha : atomP p = true
    · exact lists_atomG hP h ha q
    · cases h with
      | @lst d xs ds hr hd =>
        unfold PyData.depth at hn
        unfold wideP at hw
        rw [Bool.and_eq_true] at hw
        obtain ⟨z1, z2, z3, z4⟩ := dts_zip hd
        exact lists_seqG hP (.inr hr) hd (of_decide_eq_true hw.1) (fun y hy Q' q' => ih (depth_mem (Nat.le_of_succ_le_succ hn) _ (List.of_mem_zip hy).2) (widePs_all hw.2 _ (List.of_mem_zip hy).2) (z3 y hy) q') q
      | @tup xs ds hd =>
        unfold PyData.depth at hn
        unfold wideP at hw
        rw [Bool.and_eq_true] at hw
        obtain ⟨z1, z2, z3, z4⟩ := dts_zip hd
        exact lists_seqG hP (.inl rfl) hd (of_decide_eq_true hw.1) (fun y hy Q' q' => ih (depth_mem (Nat.le_of_succ_le_succ hn) _ (List.of_mem_zip hy).2) (widePs_all hw.2 _ (List.of_mem_zip hy).2) (z3 y hy) q') q
      | _ => exact absurd rfl ha
theorem same_non {k : Nat} (hP : Has P "" "_law_same" f_i_law_same_0ba4f5) (q : Q (.bl true) st) : cal P (k + 1) "" "_law_same" [.non, .non] st Q E := by
  have ki : ∀ {n : String} {b : Bool}, kitB "NoneType" n = some b → isiB st (.non) n = some b := fun h => h
  refine cal_of hP rfl ?_
  simp only [f_i_law_same_0ba4f5, List.map_cons, List.map_nil, List.length_cons, List.length_nil, Nat.reduceAdd, Nat.reduceSub, Nat.zero_add, List.replicate, List.cons_append, List.nil_append]
  trace "V"
  refine b_isi2 (b := false) (c := false) (ki (by decide +kernel)) (ki (by decide +kernel)) ?_
  trace "V"
  rw [if_neg (by simp)]
  trace "V"
  refine b_isi (b := false) (ki (by decide +kernel)) ?_
  trace "V"
  rw [if_neg (by simp)]
  trace "V"
  refine c_isN ?_
  trace "V"
  rw [if_pos rfl]
  trace "V"
  rw [if_pos rfl]
  trace "V"
  refine c_eqN ?_
  trace "V"
  rw [if_pos (by simp)]
  trace "V"
  refine b_isi (b := false) (ki (by decide +kernel)) ?_
  trace "V"
  refine b_isi (b := false) (ki (by decide +kernel)) ?_
  trace "V"
  refine c_eqB ?_
  trace "V"
  rw [if_pos (by simp)]
  trace "V"
  refine c_isN ?_
  trace "V"
  refine c_isN ?_
  trace "V"
  refine c_eqB ?_
  exact Dr.refl (by simpa using q)
theorem same_bl {k : Nat} {bb : Bool} (hP : Has P "" "_law_same" f_i_law_same_0ba4f5) (q : Q (.bl true) st) : cal P (k + 1) "" "_law_same" [.bl bb, .bl bb] st Q E := by
  have ki : ∀ {n : String} {b : Bool}, kitB "bool" n = some b → isiB st (.bl bb) n = some b := fun h => h
  refine cal_of hP rfl ?_
  simp only [f_i_law_same_0ba4f5, List.map_cons, List.map_nil, List.length_cons, List.length_nil, Nat.reduceAdd, Nat.reduceSub, Nat.zero_add, List.replicate, List.cons_append, List.nil_append]
  trace "V"
  refine b_isi2 (b := false) (c := false) (ki (by decide +kernel)) (ki (by decide +kernel)) ?_
  trace "V"
  rw [if_neg (by simp)]
  trace "V"
  refine b_isi (b := false) (ki (by decide +kernel)) ?_
  trace "V"
  rw [if_neg (by simp)]
  trace "V"
  refine c_isA rfl ?_
  trace "V"
  rw [if_neg (by simp)]
  trace "V"
  refine b_isi2 (b := true) (c := false) (ki (by decide +kernel)) (ki (by decide +kernel)) ?_
  trace "V"
  rw [if_pos (by rfl)]
  trace "V"
  refine c_eqB ?_
  trace "V"
  rw [if_pos (by simp)]
  trace "V"
  refine b_isi (b := true) (ki (by decide +kernel)) ?_
  trace "V"
  refine b_isi (b := true) (ki (by decide +kernel)) ?_
  trace "V"
  refine c_eqB ?_
  trace "V"
  rw [if_pos (by simp)]
  trace "V"
  refine c_isA rfl ?_
  trace "V"
  refine c_isA rfl ?_
  trace "V"
  refine c_eqB ?_
  exact Dr.refl (by simpa using q)
theorem same_str {k : Nat} {x : Str} (hP : Has P "" "_law_same" f_i_law_same_0ba4f5) (hx : SOk x) (q : Q (.bl true) st) : cal P (k + 1) "" "_law_same" [.str x, .str x] st Q E := by
  have ki : ∀ {n : String} {b : Bool}, kitB "str" n = some b → isiB st (.str x) n = some b := fun h => h
  refine cal_of hP rfl ?_
  simp only [f_i_law_same_0ba4f5, List.map_cons, List.map_nil, List.length_cons, List.length_nil, Nat.reduceAdd, Nat.reduceSub, Nat.zero_add, List.replicate, List.cons_append, List.nil_append]
  trace "V"
  refine b_isi2 (b := false) (c := false) (ki (by decide +kernel)) (ki (by decide +kernel)) ?_
  trace "V"
  rw [if_neg (by simp)]
  trace "V"
  refine b_isi (b := false) (ki (by decide +kernel)) ?_
  trace "V"
  rw [if_neg (by simp)]
  trace "V"
  refine c_isA rfl ?_
  trace "V"
  rw [if_neg (by simp)]
  trace "V"
  refine b_isi2 (b := false) (c := true) (ki (by decide +kernel)) (ki (by decide +kernel)) ?_
  trace "V"
  rw [if_pos (by rfl)]
  trace "V"
  refine c_eqS hx hx ?_
  trace "V"
  rw [if_pos (by simp)]
  trace "V"
  refine b_isi (b := false) (ki (by decide +kernel)) ?_
  trace "V"
  refine b_isi (b := false) (ki (by decide +kernel)) ?_
  trace "V"
  refine c_eqB ?_
  trace "V"
  rw [if_pos (by simp)]
  trace "V"
  refine c_isA rfl ?_
  trace "V"
  refine c_isA rfl ?_
  trace "V"
  refine c_eqB ?_
  exact Dr.refl (by simpa using q)
theorem same_int {k : Nat} {i : Int} (hP : Has P "" "_law_same" f_i_law_same_0ba4f5) (q : Q (.bl true) st) : cal P (k + 1) "" "_law_same" [.int i, .int i] st Q E := by
  have ki : ∀ {n : String} {b : Bool}, kitB "int" n = some b → isiB st (.int i) n = some b := fun h => h
  refine cal_of hP rfl ?_
  simp only [f_i_law_same_0ba4f5, List.map_cons, List.map_nil, List.length_cons, List.length_nil, Nat.reduceAdd, Nat.reduceSub, Nat.zero_add, List.replicate, List.cons_append, List.nil_append]
  trace "V"
  refine b_isi2 (b := false) (c := false) (ki (by decide +kernel)) (ki (by decide +kernel)) ?_
  trace "V"
  rw [if_neg (by simp)]
  trace "V"
  refine b_isi (b := false) (ki (by decide +kernel)) ?_
  trace "V"
  rw [if_neg (by simp)]
  trace "V"
  refine c_isA rfl ?_
  trace "V"
  rw [if_neg (by simp)]
  trace "V"
  refine b_isi2 (b := false) (c := false) (ki (by decide +kernel)) (ki (by decide +kernel)) ?_
  trace "V"
  rw [if_neg (by simp)]
  trace "V"
  refine b_isi (b := true) (ki (by decide +kernel)) ?_
  trace "V"
  rw [if_pos rfl]
  trace "V"
  refine b_isi (b := false) (ki (by decide +kernel)) ?_
  trace "V"
  rw [if_pos (by rfl)]
  trace "V"
  refine c_eqI ?_
  rw [decide_eq_true rfl]
  exact Dr.refl q
theorem kit_seq (t : String) : (t = "list" ∧ kitB t "list" = some true ∧ kitB t "tuple" = some false ∧ kitB t "dict" = some false) ∨ (t = "tuple" ∧ kitB t "list" = some false ∧ kitB t "tuple" = some true ∧ kitB t "dict" = some false) ∨ (t ≠ "list" ∧ t ≠ "tuple") := by
  by_cases h : t = "list"
  · subst h; exact .inl ⟨rfl, by decide +kernel, by decide +kernel, by decide +kernel⟩
  · by_cases h2 : t = "tuple"
    · subst h2; exact .inr (.inl ⟨rfl, by decide +kernel, by decide +kernel, by decide +kernel⟩)
    · exact .inr (.inr ⟨h, h2⟩)
/-- two sequences of the same kind whose parts are the same -/
theorem same_seq {k : Nat} {d e : D} {xs ys : List D} {b : Bool} (hP : Has P "" "_law_same" f_i_law_same_0ba4f5) (h1 : isiB st d "list" = some b ∧ isiB st d "tuple" = some (!b)) (h2 : isiB st e "list" = some b ∧ isiB st e "tuple" = some (!b)) (hz : Zp st d e xs ys) (hr1 : rdS st d = some xs) (hr2 : rdS st e = some ys) (hlen : xs.length = ys.length)
    (hl : xs.length ≤ 1000000) (h : ∀ p ∈ xs.zip ys, ∀ Q' : QD, Q' (.bl true) st → cal P k "" "_law_same" [p.1, p.2] st Q' X0) (q : Q (.bl true) st) : cal P (k + 1) "" "_law_same" [d, e] st Q E := by
  have lenr : ∀ {x : D} {zs : List D}, rdS st x = some zs → ∀ Q' : QD, Q' (.int zs.length) st → bltR .len [x] st Q' := fun {x zs} hx Q' hq => by
    unfold rdS rdL at hx
    split at hx
    · cases hx; exact hq
    · split at hx
      · split at hx
        · rename_i hst
          cases hx
          unfold bltR; simp only [hst]; exact hq
        · cases hx
      · cases hx; exact hq
      · cases hx; exact hq
      · cases hx
  refine cal_of hP rfl ?_
  simp only [f_i_law_same_0ba4f5, List.map_cons, List.map_nil, List.length_cons, List.length_nil, Nat.reduceAdd, Nat.reduceSub, Nat.zero_add, List.replicate, List.cons_append, List.nil_append]
  trace "V"
  refine b_isi2 h2.1 h2.2 ?_
  trace "V"
  rw [if_pos (by cases b <;> rfl)]
  trace "V"
  refine b_isi h1.1 ?_
  trace "V"
  refine b_isi h2.1 ?_
  trace "V"
  refine c_neB ?_
  trace "V"
  rw [if_neg (by simp)]
  trace "V"
  refine b_isi h1.2 ?_
  trace "V"
  refine b_isi h2.2 ?_
  trace "V"
  refine c_neB ?_
  trace "V"
  rw [if_neg (by simp)]
  trace "V"
  refine lenr hr1 _ ?_
  trace "V"
  refine lenr hr2 _ ?_
  trace "V"
  refine c_eqI ?_
  trace "V"
  rw [if_pos (by simp [hlen])]
  trace "V"
  refine wE_lcG (xs.zip ys) (fun p => D.tup [p.1, p.2]) (fun _ => true) (fun _ => .bl true) (fun R hR => ?_) ?_ (by rw [List.length_zip]; omega) ?_
  · refine (show wpE P (cal P k) (.var 0) _ st (fun x s => wpE P (cal P k) (.var 1) _ s _ E) E from wE_var rfl (wE_var rfl ?_))
    rcases hz with ⟨rfl, rfl⟩ | ⟨z1, z2⟩
    · exact .inl ⟨_, _, rfl, rfl, hR _ trivial⟩
    · exact .inr ⟨_, _, z1, z2, hR _ ⟨z1, z2⟩⟩
  · intro y hy nx hn
    refine tg_tp rfl ?_
    trace "V"
    rw [if_pos rfl]
    trace "V"
    refine call_of hP rfl rfl (h y hy _ ?_)
    rw [if_pos rfl] at hn
    exact hn
  rw [List.filter_eq_self.mpr (fun _ _ => rfl)]
  trace "V"
  refine b_all (allB_map (fun _ => true) (xs.zip ys)) ?_
  have : ((xs.zip ys).map fun _ => true).all id = true := by rw [List.all_eq_true]; intro b hb; obtain ⟨_, _, rfl⟩ := List.mem_map.mp hb; rfl
  rw [this]
  exact Dr.refl q
theorem dts_pair : ∀ {xs ys : List D} {ds : List PyData}, Dts st xs ds → Dts st ys ds → (∀ p ∈ xs.zip ys, ∃ z ∈ ds, Dt st p.1 z ∧ Dt st p.2 z) ∧ xs.length = ys.length
  | _, _, _, .nil, .nil => ⟨nofun, rfl⟩
  | _, _, _, .cons h r, .cons h' r' => by
    obtain ⟨a, b⟩ := dts_pair r r'
    refine ⟨fun p hp => ?_, by rw [List.length_cons, List.length_cons, b]⟩
    rw [List.zip_cons_cons] at hp
    rcases List.mem_cons.mp hp with rfl | hp
    · exact ⟨_, List.mem_cons_self .., h, h'⟩
    · obtain ⟨z, h1, h2⟩ := a p hp
      exact ⟨z, List.mem_cons_of_mem _ h1, h2⟩
theorem canLay_mem {l : List PyData} (h : PyData.canLayAll0 l = true) : ∀ x ∈ l, PyData.canLay0 x = true := by
  induction l with
  | nil => intro x hx; cases hx
  | cons y l ih =>
    have h : (PyData.canLay0 y && PyData.canLayAll0 l) = true := h
    rw [Bool.and_eq_true] at h
    intro x hx
    rcases List.mem_cons.mp hx with rfl | hx
    · exact h.1
    · exact ih h.2 x hx
theorem noDc_mem {l : List PyData} (h : noDcs l = true) : ∀ x ∈ l, noDc x = true := by
  induction l with
  | nil => intro x hx; cases hx
  | cons y l ih =>
    have h : (noDc y && noDcs l) = true := h
    rw [Bool.and_eq_true] at h
    intro x hx
    rcases List.mem_cons.mp hx with rfl | hx
    · exact h.1
    · exact ih h.2 x hx
/-- two values of the same data are the same -/
theorem same_refl (hP : Has P "" "_law_same" f_i_law_same_0ba4f5) : ∀ (n : Nat) {d e : D} {p : PyData}, PyData.depth p ≤ n → wideP p = true → PyData.canLay0 p = true → noDc p = true → Dt st d p → Dt st e p → ∀ {k : Nat} {Q : QD} {E : XD}, Q (.bl true) st → cal P (k + n + 1) "" "_law_same" [d, e] st Q E := by
  intro n
  induction n with
  | zero =>
    intro d e p hn hw hc hd h1 h2 k Q E q
    cases p with
    | none => cases h1; cases h2; exact same_non hP q
    | bool b => cases h1; cases h2; exact same_bl hP q
    | int b => cases h1; cases h2; exact same_int hP q
    | str b => cases h1; cases h2; exact same_str hP hc q
    | list _ => simp [PyData.depth] at hn
    | tuple _ => simp [PyData.depth] at hn
    | dict _ => cases hd
  | succ n ih =>
    intro d e p hn hw hc hd h1 h2 k Q E q
    cases p with
    | none => cases h1; cases h2; exact same_non hP q
    | bool b => cases h1; cases h2; exact same_bl hP q
    | int b => cases h1; cases h2; exact same_int hP q
    | str b => cases h1; cases h2; exact same_str hP hc q
    | dict _ => cases hd
    | list ds =>
      cases h1 with
      | @lst _ xs _ r1 s1 =>
        cases h2 with
        | @lst _ ys _ r2 s2 =>
          obtain ⟨z1, z2⟩ := dts_pair s1 s2
          have hle := dts_zip s1
          have rs : ∀ {x : D} {zs : List D}, rdL st x = some zs → rdS st x = some zs := fun {x zs} h => by
            unfold rdS
            cases x with
            | tup _ => cases h
            | _ => exact h
          unfold wideP at hw
          rw [Bool.and_eq_true] at hw
          refine same_seq (b := true) (xs := xs) (ys := ys) hP ⟨by rw [isi_lst r1]; decide +kernel, by rw [isi_lst r1]; decide +kernel⟩ ⟨by rw [isi_lst r2]; decide +kernel, by rw [isi_lst r2]; decide +kernel⟩ (.inr ⟨r1, r2⟩) (rs r1) (rs r2) z2 (by rw [hle.2.2.2]; exact of_decide_eq_true hw.1) (fun p hp Q' q' => ?_) q
          obtain ⟨z, m1, m2, m3⟩ := z1 p hp
          exact ih (depth_mem (Nat.le_of_succ_le_succ hn) z m1) (widePs_all hw.2 z m1) (canLay_mem hc z m1) (noDc_mem hd z m1) m2 m3 q'
    | tuple ds =>
      cases h1 with
      | @tup xs _ s1 =>
        cases h2 with
        | @tup ys _ s2 =>
          obtain ⟨z1, z2⟩ := dts_pair s1 s2
          have hle := dts_zip s1
          unfold wideP at hw
          rw [Bool.and_eq_true] at hw
          refine same_seq (b := false) (xs := xs) (ys := ys) hP ⟨by show kitB "tuple" "list" = _; decide +kernel, by show kitB "tuple" "tuple" = _; decide +kernel⟩ ⟨by show kitB "tuple" "list" = _; decide +kernel, by show kitB "tuple" "tuple" = _; decide +kernel⟩ (.inl ⟨rfl, rfl⟩) rfl rfl z2 (by rw [hle.2.2.2]; exact of_decide_eq_true hw.1) (fun p hp Q' q' => ?_) q
          obtain ⟨z, m1, m2, m3⟩ := z1 p hp
          exact ih (depth_mem (Nat.le_of_succ_le_succ hn) z m1) (widePs_all hw.2 z m1) (canLay_mem hc z m1) (noDc_mem hd z m1) m2 m3 q'
end
end Py

set_option Elab.async false
set_option linter.all false
set_option maxRecDepth 100000
set_option maxHeartbeats 4000000
/-! Who comes, by the laws' own rounds; waits. -/
namespace Py
open PySem PySem.Spec PyProof.Rows L2
local macro_rules | `(tactic| trace "K") => `(tactic| first | assumption | exact put_same | exact (put_ne (by assumption)).trans put_same | exact (put_ne (by assumption)).trans (by assumption) | exact (put_ne (by assumption)).trans ((put_ne (by assumption)).trans put_same) | exact (put_ne (by assumption)).trans ((put_ne (by assumption)).trans (by assumption)))
local macro_rules | `(tactic| trace "V") => `(tactic| repeat (first | (with_reducible first | refine wSs_cons ?_ | refine wSs_nil ?_ | refine wS_exp ?_ | refine wS_ret ?_ | refine wS_pass ?_ | refine wS_asg ?_ | refine wS_par ?_ | refine wS_iff ?_ | refine wS_brk ?_ | refine wS_cnt ?_ | refine wE_non ?_ | refine wE_bl ?_ | refine wE_int ?_ | refine wE_str ?_ | refine wE_bty ?_ | refine wE_bin ?_ | refine wE_cmp ?_ | refine wE_and ?_ | refine wE_or ?_ | refine wE_not ?_ | refine wE_ite ?_ | refine wE_tup ?_ | refine wE_lst ?_ | refine wE_call ?_ | refine wE_blt ?_ | refine wE_att ?_ | refine wE_idx ?_ | refine wE_slc ?_ | refine wE_frzB ?_ | refine wE_frzC ?_ | refine wE_frzL ?_ | refine wE_frzS ?_ | refine wE_frzV ?_ | refine wA_nil ?_ | refine wA_cons ?_ | refine wTs_nil ?_ | refine wTs_cons ?_ | refine tg_nm ?_ | refine tru_bl ?_ | refine tru_int ?_ | refine tru_non ?_ | refine tru_tup ?_ | refine tru_kl ?_ | refine op_addI ?_ | refine op_subI ?_ | refine frz_kl ?_ | refine frz_tup ?_ | refine frz_int ?_ | refine c_gtI ?_ | refine c_ltI ?_ | refine c_geI ?_ | refine c_leI ?_ | refine b_len_kl ?_ | refine b_len_tup ?_ | refine b_len_sl ?_ | refine b_len_kd ?_ | refine b_int_int ?_ | refine b_int_bl ?_ | refine b_abs ?_ | refine b_min ?_ | refine wS_ssub ?_ | refine wE_mth ?_ | refine wE_bm ?_ | refine wE_negI ?_ | refine wE_new ?_ | refine wS_satt ?_ | refine opt_n ?_ | refine opt_i ?_) | ((with_reducible apply wE_var); (rfl)) | ((with_reducible apply tg_tp); (rfl)) | ((with_reducible apply par_of); (rfl)) | ((with_reducible apply newT_of); (exact Nat.le_of_ble_eq_true rfl)) | ((with_reducible apply newL_frz); (exact Nat.le_of_ble_eq_true rfl)) | ((with_reducible apply ix_ref); (first | assumption | exact put_same | exact (put_ne (by assumption)).trans put_same | exact (put_ne (by assumption)).trans (by assumption) | exact (put_ne (by assumption)).trans ((put_ne (by assumption)).trans put_same) | exact (put_ne (by assumption)).trans ((put_ne (by assumption)).trans (by assumption))); (rfl)) | ((with_reducible apply ssub_ref); (first | assumption | exact put_same | exact (put_ne (by assumption)).trans put_same | exact (put_ne (by assumption)).trans (by assumption) | exact (put_ne (by assumption)).trans ((put_ne (by assumption)).trans put_same) | exact (put_ne (by assumption)).trans ((put_ne (by assumption)).trans (by assumption))); (rfl)) | ((with_reducible apply ix_tup); (rfl)) | ((with_reducible apply ix_kl); (rfl)) | ((with_reducible apply op_modI); (first | assumption | decide)) | ((with_reducible apply op_fdivI); (first | (constructor <;> assumption) | decide)) | ((with_reducible apply op_mulL); (decide)) | ((with_reducible apply op_mulR); (decide)) | ((with_reducible apply b_len_ref); (first | assumption | exact put_same | exact (put_ne (by assumption)).trans put_same | exact (put_ne (by assumption)).trans (by assumption) | exact (put_ne (by assumption)).trans ((put_ne (by assumption)).trans put_same) | exact (put_ne (by assumption)).trans ((put_ne (by assumption)).trans (by assumption)))) | ((with_reducible apply bmA_ref); (first | assumption | exact put_same | exact (put_ne (by assumption)).trans put_same | exact (put_ne (by assumption)).trans (by assumption) | exact (put_ne (by assumption)).trans ((put_ne (by assumption)).trans put_same) | exact (put_ne (by assumption)).trans ((put_ne (by assumption)).trans (by assumption))); (rfl))))
local macro_rules | `(tactic| fail "E") => `(tactic| first | (with_reducible first | apply ev_non | apply ev_bl | apply ev_int | apply ev_str | apply ev_bty | apply evs_nil | apply evt_nil | apply ev_cmp | apply ev_chn | apply ev_and | apply ev_or | apply ev_not | apply ev_ite | apply ev_tup | apply ev_lstF | apply evs_cons | apply evs_star | apply ev_call | apply ev_callF | apply ev_bltF | apply ev_blt | apply ev_att | apply ev_idx | apply ev_slcF | apply ev_slc | apply ev_mthF | apply ev_mth | apply ev_newF | apply ev_binF | apply ev_bin | apply ev_neg | apply ev_lcM | apply ev_lc | apply ev_revF | apply evt_one | apply evt_cons | apply evi_of | apply evi_rng | apply evi_enum | apply evi_zip | apply tr_bl | apply tr_non | apply tr_int | apply bo_addI | apply bo_subI | apply bof_addI | apply co_eqI | apply co_neI | apply co_ltI | apply co_leI | apply co_gtI | apply co_geI | apply co_ltS | apply co_eqS | apply co_neS | apply bl_intI | apply bl_intB) | exact ev_var rfl | exact fun _ => rfl | apply its_tup | apply its_kl | apply its_kd | exact its_lit its_tup | exact its_lit its_kl | exact is_S_str | exact is_S_tuple | exact is_S_list | exact is_S_int | exact is_S_bool | exact is_S_dict | exact is_T_str | exact is_T_tuple | exact is_T_list | exact is_T_int | exact is_T_bool | exact is_T_dict | exact is_K_str | exact is_K_tuple | exact is_K_list | exact is_K_int | exact is_K_bool | exact is_K_dict | exact is_I_str | exact is_I_tuple | exact is_I_list | exact is_I_int | exact is_I_bool | exact is_I_dict | exact is_B_str | exact is_B_tuple | exact is_B_list | exact is_B_int | exact is_B_bool | exact is_B_dict | exact is_N_str | exact is_N_tuple | exact is_N_list | exact is_N_int | exact is_N_bool | exact is_N_dict | apply zp_K | apply zp_T | apply enm_T | apply enm_K | apply tr_tupM | apply tr_klM | apply tr_tup | apply tr_kl | apply bof_addT | apply bo_addT | apply bof_addK | apply co_inL | apply co_inT | apply co_ninL | apply co_ninT | apply co_eqNilS | apply co_neNilS | apply co_eqNilW | apply bl_lenKm | apply bl_lenTm | apply bl_lenK | apply bl_lenT | apply bl_lenD | apply bl_all | apply bl_any | apply bl_tupK | apply bl_tupT | apply blf_listK | apply blf_listT | apply blf_sortS | apply blf_sortST | exact ix_T rfl | exact ix_K rfl | apply slf_K | apply slf_T | rfl | exact bl_isi (by decide +kernel) | exact bl_isi2 (by decide +kernel) (by decide +kernel) | assumption | (with_reducible intro _) | omega | (simp only [List.length_map, List.length_append, List.length_cons, List.length_nil, List.length_range, List.length_zipIdx, List.length_zip, List.length_reverse]; omega) | ((with_reducible refine (show (_ : Nat) ≤ _ from ?_)); grind [sD, List.length_filter_le, WStr]) | ((with_reducible refine (show SOk _ from ?_)); first | (show PyData.strOk _ = true; decide +kernel) | grind [WStr, DevStr]) | ((with_reducible refine (show ∀ x ∈ _, SOk x from ?_)); grind [WStr, DevStr]))
def f_i_law_comers_9910fe : Fd := ⟨["_law_world_so"], 6, [], (.cons (.asg (.nm 1) (.frz (.lst .nil))) (.cons (.for_ (.nm 2) (.rng1 (.blt .len (.cons (.var 0) .nil))) (.cons (.asg (.nm 3) (.frz (.lc (.idx (.var 4) (.int 0)) [4] (.nm 4) (.of (.var 0)) (.cons (.cmp .nmem (.idx (.var 4) (.int 0)) (.var 1)) .nil)))) (.cons (.asg (.nm 1) (.frz (.bin .add (.var 1) (.frz (.lc (.var 5) [5] (.nm 5) (.of (.var 3)) (.cons (.call "_law_can" (.cons (.var 0) (.cons (.var 5) (.cons (.var 1) .nil))) []) .nil)))))) .nil))) (.cons (.ret (.frz (.blt .sorted (.cons (.var 1) .nil)))) .nil)))⟩
def c_World_devices_9292ed : Fd := ⟨["self"], 1, [], (.cons (.ret (.frz (.blt .list (.cons (.att (.var 0) "own_needs") .nil)))) .nil)⟩
def f_waits_5ffb10 : Fd := ⟨["world"], 3, [], (.cons (.asg (.nm 1) (.frz (.new "World" (.cons (.var 0) .nil) []))) (.cons (.ret (.lc (.var 2) [2] (.nm 2) (.of (.mth (.var 1) "devices" .nil)) (.cons (.cmp .nmem (.var 2) (.frz (.mth (.var 1) "comers" .nil))) .nil))) .nil))⟩
def f_i_law_refill_4fb0a7 : Fd := ⟨["_law_shelf", "_law_matter"], 2, [], (.cons (.whl (.cmp .ne (.var 0) (.frz (.lst .nil))) (.cons (.exp (.bm .pop (.var 0) .nil)) .nil)) (.cons (.exp (.bm .extend (.var 0) (.cons (.call "_law_lists" (.cons (.var 1) .nil) []) .nil))) (.cons (.ret (.var 0)) .nil)))⟩
section
variable {P : Prog} {E : XD} {st : Sto} {Q : QD}
theorem can_fn {k : Nat} {W : Wld} {d : Dev} {cs : List Str} {w : D} (hC : Has P "" "_law_can" f_i_law_can_c73f16) (hW : WStr W) (hd : d ∈ W) (hw : w = .kl (sD cs) ∨ w = .tup (sD cs)) (hcs : ∀ x ∈ cs, SOk x) : Fn P (k + 1) st "_law_can" [worldD W, .str d.name, w] [] (.bl (devCan d cs)) := fn_of hC rfl rfl fun Q E q => can_ok hC hW hd hw hcs q
theorem lcomers_ok {k : Nat} {W : Wld} (hC : Has P "" "_law_can" f_i_law_can_c73f16) (hP : Has P "" "_law_comers" f_i_law_comers_9910fe) (hW : WStr W) (q : Q (.kl (sD (cw W))) st) : cal P (k + 2) "" "_law_comers" [worldD W] st Q E := by
  refine cal_of hP rfl ?_
  simp only [f_i_law_comers_9910fe, List.map_cons, List.map_nil, List.length_cons, List.length_nil, Nat.reduceAdd, Nat.reduceSub, Nat.zero_add, List.replicate, List.cons_append, List.nil_append]
  have hlen := hW.len
  refine wSs_cons (wS_asg ?_)
  apply ev_go
  · repeat (fail "E")
  refine tg_nm (wSs_cons (wS_for (wI_rngT (n := W.length) (fun R hR => ?_) (by omega) ?_)))
  · apply ev_go
    · repeat (fail "E")
    exact hR
  refine forL_inv (fun r L s => ∃ (cs : List Str) (a2 a3 a4 a5 : Option D), s = st ∧ L = [some (worldD W), some (.kl (sD cs)), a2, a3, a4, a5] ∧ PreC W cs ∧ iterC W r.length cs = iterC W W.length []) ?_ ?_ ⟨[], none, none, none, none, rfl, rfl, preC_nil W, by simp⟩
  · rintro x r L s nx ⟨cs, a2, a3, a4, a5, rfl, rfl, hp, hi⟩ hnx
    have hok : ∀ x ∈ cs, SOk x := fun x hx => by
      obtain ⟨d, hd, rfl⟩ := List.mem_map.mp (hp.sub x hx)
      exact (hW.dev d hd).nm
    have hcl := hp.len
    refine tg_nm (wSs_cons (wS_asg ?_))
    apply ev_go
    · repeat (first | exact (hW.dev _ ‹_›).nm | fail "E")
    refine tg_nm (wSs_cons (wS_asg ?_))
    apply ev_go
    · repeat (first | exact can_fn hC hW (List.mem_filter.mp ‹_›).1 (.inl rfl) hok | fail "E")
    have e : sD cs ++ (((W.filter fun y => !decide (y.name ∈ cs)).filter fun y => devCan y cs).map fun y => D.str y.name) = sD (cs ++ newC W cs) := by
      unfold sD newC
      rw [List.map_append, List.filter_filter, List.map_map]
      congr 2
      refine List.filter_congr fun y _ => ?_
      rw [Bool.and_comm]
    rw [e]
    refine tg_nm (wSs_nil (hnx _ _ (Dr.refl ⟨trivial, cs ++ newC W cs, _, _, _, _, rfl, rfl, hp.step hW.nd, ?_⟩)))
    rw [← hi]; rfl
  · rintro L s ⟨cs, a2, a3, a4, a5, rfl, rfl, hp, hi⟩
    have hcl := hp.len
    refine wSs_cons (wS_ret ?_)
    apply ev_go
    · repeat (fail "E")
    refine Dr.refl ?_
    have e : srtS cs = cw W := by unfold cw; rw [← hi]; rfl
    rw [e]; exact q
/-- plain data of some depth -/
structure Good (n : Nat) (p : PyData) : Prop where
  dp : PyData.depth p ≤ n
  wi : wideP p = true
  la : PyData.canLay0 p = true
  nd : noDc p = true
theorem Good.le {n m : Nat} {p : PyData} (h : Good n p) (l : n ≤ m) : Good m p := ⟨Nat.le_trans h.dp l, h.wi, h.la, h.nd⟩
theorem good_str {n : Nat} {x : Str} (h : SOk x) : Good n (.str x) := ⟨Nat.zero_le _, rfl, h, rfl⟩
theorem good_int {n : Nat} {x : Int} : Good n (.int x) := ⟨Nat.zero_le _, rfl, rfl, rfl⟩
theorem good_bool {n : Nat} {x : Bool} : Good n (.bool x) := ⟨Nat.zero_le _, rfl, rfl, rfl⟩
theorem good_none {n : Nat} : Good n .none := ⟨Nat.zero_le _, rfl, rfl, rfl⟩
theorem depthAll_le {l : List PyData} {n : Nat} (h : ∀ x ∈ l, PyData.depth x ≤ n) : PyData.depthAll l ≤ n := by
  induction l with
  | nil => exact Nat.zero_le _
  | cons x l ih =>
    show max (PyData.depth x) (PyData.depthAll l) ≤ n
    have h1 := h x (List.mem_cons_self ..)
    have h2 := ih fun y hy => h y (List.mem_cons_of_mem _ hy)
    omega
theorem canLay_of {l : List PyData} (h : ∀ x ∈ l, PyData.canLay0 x = true) : PyData.canLayAll0 l = true := by
  have := canLay_map id l h
  rwa [List.map_id] at this
theorem good_list {n : Nat} {l : List PyData} (h : ∀ x ∈ l, Good n x) (hl : l.length ≤ 1000000) : Good (n + 1) (.list l) :=
  ⟨Nat.succ_le_succ (depthAll_le fun x hx => (h x hx).dp), by unfold wideP; rw [decide_eq_true hl, widePs_of fun x hx => (h x hx).wi]; rfl, canLay_of fun x hx => (h x hx).la, noDcs_of fun x hx => (h x hx).nd⟩
theorem good_tuple {n : Nat} {l : List PyData} (h : ∀ x ∈ l, Good n x) (hl : l.length ≤ 1000000) : Good (n + 1) (.tuple l) :=
  ⟨Nat.succ_le_succ (depthAll_le fun x hx => (h x hx).dp), by unfold wideP; rw [decide_eq_true hl, widePs_of fun x hx => (h x hx).wi]; rfl, canLay_of fun x hx => (h x hx).la, noDcs_of fun x hx => (h x hx).nd⟩
theorem good_strs {n : Nat} {ss : List Str} (h : ∀ x ∈ ss, SOk x) (hl : ss.length ≤ 1000000) : Good (n + 1) (.list (ss.map PyData.str)) := good_list (fun x hx => by obtain ⟨s, hs, rfl⟩ := List.mem_map.mp hx; exact good_str (h s hs)) (by rw [List.length_map]; exact hl)
theorem good_strsT {n : Nat} {ss : List Str} (h : ∀ x ∈ ss, SOk x) (hl : ss.length ≤ 1000000) : Good (n + 1) (.tuple (ss.map PyData.str)) := good_tuple (fun x hx => by obtain ⟨s, hs, rfl⟩ := List.mem_map.mp hx; exact good_str (h s hs)) (by rw [List.length_map]; exact hl)
mutual
theorem canLay_lis : ∀ p : PyData, PyData.canLay0 p = true → PyData.canLay0 (lisP p) = true
  | .none, h => h
  | .bool b, h => h
  | .int b, h => h
  | .str b, h => h
  | .list xs, h => canLays_lis xs h
  | .tuple xs, h => canLays_lis xs h
  | .dict _, h => h
theorem canLays_lis : ∀ p : List PyData, PyData.canLayAll0 p = true → PyData.canLayAll0 (lisPs p) = true
  | [], _ => rfl
  | x :: r, h => by
    have h : (PyData.canLay0 x && PyData.canLayAll0 r) = true := h
    rw [Bool.and_eq_true] at h
    show (PyData.canLay0 (lisP x) && PyData.canLayAll0 (lisPs r)) = true
    rw [canLay_lis x h.1, canLays_lis r h.2]; rfl
end
mutual
theorem noDc_lis : ∀ p : PyData, noDc p = true → noDc (lisP p) = true
  | .none, h => h
  | .bool b, h => h
  | .int b, h => h
  | .str b, h => h
  | .list xs, h => noDcs_lis xs h
  | .tuple xs, h => noDcs_lis xs h
  | .dict _, h => by cases h
theorem noDcs_lis : ∀ p : List PyData, noDcs p = true → noDcs (lisPs p) = true
  | [], _ => rfl
  | x :: r, h => by
    have h : (noDc x && noDcs r) = true := h
    rw [Bool.and_eq_true] at h
    show (noDc (lisP x) && noDcs (lisPs r)) = true
    rw [noDc_lis x h.1, noDcs_lis r h.2]; rfl
end
theorem Good.lis {n : Nat} {p : PyData} (h : Good n p) : Good n (lisP p) := ⟨by rw [depth_lis]; exact h.dp, by rw [wide_lis]; exact h.wi, canLay_lis p h.la, noDc_lis p h.nd⟩
theorem good_world {W : Wld} (hW : WStr W) : Good 5 (worldP W) := by
  refine ⟨depth_world W, wide_world hW, canLay_of fun x hx => ?_, noDc_world W⟩
  obtain ⟨d, hd, rfl⟩ := List.mem_map.mp hx
  have ds := hW.dev d hd
  refine canLay_of fun x hx => ?_
  rcases List.mem_cons.mp hx with rfl | hx
  · exact ds.nm
  · rcases List.mem_cons.mp hx with rfl | hx
    · exact canLay_strs ds.ne
    · rw [List.mem_singleton.mp hx]
      refine canLay_of fun x hx => ?_
      obtain ⟨w, hw, rfl⟩ := List.mem_map.mp hx
      exact canLay_wish (ds.wi w hw)
theorem Good.shaped {n : Nat} {p : PyData} (h : Good n p) (hn : n ≤ 64) : SeqAt.shaped p = true := shaped_of h.la (Nat.le_trans h.dp hn)
theorem same_fn {k n : Nat} {d e : D} (hP : Has P "" "_law_same" f_i_law_same_0ba4f5) (p : PyData) (hg : Good n p) (h1 : Dt st d p) (h2 : Dt st e p) : Fn P (k + n + 1) st "_law_same" [d, e] [] (.bl true) := fn_of hP rfl rfl fun Q E q => same_refl hP n hg.dp hg.wi hg.la hg.nd h1 h2 q
theorem lists_fn {k n : Nat} {d : D} (hP : Has P "" "_law_lists" f_i_law_lists_e25d27) (p : PyData) (hg : Good n p) (h1 : Dt st d p) : Fn P (k + n + 1) st "_law_lists" [d] [] (lisD p) := fn_of hP rfl rfl fun Q E q => lists_gen hP n hg.dp hg.wi h1 q
theorem co_eqD {d e : D} {p : PyData} {n : Nat} (hg : Good n p) (hn : n ≤ 64) (h1 : Dt st d p) (h2 : Dt st e p) : Co st .eq d e true := fun Q q => ⟨p, p, h1, h2, hg.shaped hn, hg.shaped hn, by rw [SeqAt.eqv_refl p hg.la]; exact q⟩
theorem co_neD {d e : D} {p : PyData} {n : Nat} (hg : Good n p) (hn : n ≤ 64) (h1 : Dt st d p) (h2 : Dt st e p) : Co st .ne d e false := fun Q q => ⟨p, p, h1, h2, hg.shaped hn, hg.shaped hn, by rw [SeqAt.eqv_refl p hg.la]; exact q⟩
/-- a comprehension that gives a new list -/
theorem lc_new {α : Type} {k : Nat} {L : Loc} {elt : Ex} {vs : List Nat} {tg : Tg} {it : It} {ifs : Exs} {l : List α} {c : α → D} {L1 : α → Loc} {p : α → Bool} {g : α → D} (hi : EvI P k st L it (l.map c)) (hg : ∀ y, tgO tg (c y) (wipeL L vs) = some (L1 y))
    (hp : ∀ y ∈ l, EvT P k st (L1 y) ifs (p y)) (he : ∀ y ∈ l, p y = true → Ev P k st (L1 y) elt (g y)) (hl : l.length ≤ 1000000) (q : ∀ a, st a = none → Q (.ref a) (put st a (.lst ((l.filter p).map g)))) : wpE P (cal P k) (.lc elt vs tg it ifs) L st Q E := by
  refine hi _ _ fun stays hs => ?_
  refine lcL_pureG c p g hs l [] (fun y hy nx hn => tg_of (hg y) (hp y hy _ _ ?_)) ?_
  · cases h : p y with
    | true => rw [if_pos rfl]; rw [if_pos h] at hn; exact he y hy h _ _ hn
    | false => rw [if_neg Bool.false_ne_true]; rw [if_neg (by rw [h]; exact Bool.false_ne_true)] at hn; exact hn
  · refine ⟨?_, fun a ha => q a ha⟩
    rw [List.nil_append, List.length_map]
    exact Nat.le_trans (List.length_filter_le _ _) (Nat.le_trans hl (by decide))
theorem fnF_of {k : Nat} {f : Str} {ds xs : List D} {fd : Fd} (h : P.fns.lookup (("" : Str), f) = some fd) (hd : fd.dfl = []) (hl : ds.length = fd.ps.length) (g : ∀ (Q : QD) (E : XD), (∀ p, st p = none → Q (.ref p) (put st p (.lst xs))) → cal P k "" f ds st Q E) : FnF P k st f ds [] (.kl xs) := fun Q E q => call_of h hd hl (g _ E fun p hp => frz_ref put_same (by rw [del_put hp]; exact q))
theorem newW_fn {k : Nat} {W : Wld} {d : D} (hP : HasW P) (hW : WStr W) (hd : WSeen st d W) : NwF P (k + 7) st "World" [d] [] (wOb W) := fun Q E q => world_newF hP hW hd q
theorem mt_w {k : Nat} {W : Wld} {x v : D} {m : Str} {ds : List D} {fd : Fd} (hc : WCls P) (hm : ixOf m wCd.slots = none) (h : P.fns.lookup (("World" : Str), m) = some fd) (hd : fd.dfl = []) (hl : ds.length + 1 = fd.ps.length) (g : ∀ (Q : QD) (E : XD), Q v st → cal P k "World" m (wObj W x :: ds) st Q E) : Mt P k st (wObj W x) m ds v := fun Q E q => ⟨"World", fd, mth_world hc hm, h, run_of hd (by rw [List.length_cons]; exact hl) (g Q E q)⟩
theorem mtF_w {k : Nat} {W : Wld} {x : D} {xs : List D} {m : Str} {ds : List D} {fd : Fd} (hc : WCls P) (hm : ixOf m wCd.slots = none) (h : P.fns.lookup (("World" : Str), m) = some fd) (hd : fd.dfl = []) (hl : ds.length + 1 = fd.ps.length) (g : ∀ (Q : QD) (E : XD), (∀ p, st p = none → Q (.ref p) (put st p (.lst xs))) → cal P k "World" m (wObj W x :: ds) st Q E) : MtF P k st (wObj W x) m ds (.kl xs) := fun Q E q => ⟨"World", fd, mth_world hc hm, h, run_of hd (by rw [List.length_cons]; exact hl) (g _ E fun p hp => frz_ref put_same (by rw [del_put hp]; exact q))⟩
theorem mcomers_fn {k : Nat} {W : Wld} (hP : HasW P) (hM : Has P "World" "comers" c_World_comers_530c9e) (hW : WStr W) : MtF P (k + 1) st (wOb W) "comers" [] (.kl (sD (cw W))) := mtF_w hP.cls (by decide +kernel) hM rfl rfl fun Q E q => mcomers_ok hP hM hW q
theorem mdevices_fn {k : Nat} {W : Wld} {x : D} (hP : HasW P) (hM : Has P "World" "devices" c_World_devices_9292ed) (hW : WStr W) : Mt P (k + 1) st (wObj W x) "devices" [] (.kl (sD (nms W))) := mt_w hP.cls (by decide +kernel) hM rfl rfl fun Q E q => by
  refine cal_of hM rfl ?_
  simp only [c_World_devices_9292ed, List.map_cons, List.map_nil, List.length_cons, List.length_nil, Nat.reduceAdd, Nat.reduceSub, Nat.zero_add, List.replicate, List.cons_append, List.nil_append]
  have hl := hW.len
  refine wSs_cons (wS_ret (wE_frzC (wE_blt (wA_cons (wE_att (wE_var rfl (at_of (wat_needs hP.cls) (wA_nil ?_))))))))
  refine b_list_kd (by unfold wKeys; rw [List.length_map]; exact Nat.le_trans hl (by decide)) (Dr.refl ?_)
  have : (wKeys W).map keyD = sD (nms W) := by unfold wKeys sD nms; rw [List.map_map, List.map_map]; rfl
  rw [this]; exact q
theorem comers_fn {k : Nat} {W : Wld} {d : D} (hP : HasW P) (hM : Has P "World" "comers" c_World_comers_530c9e) (hC : Has P "" "comers" f_comers_599d99) (hW : WStr W) (hd : WSeen st d W) : FnF P (k + 8) st "comers" [d] [] (.kl (sD (cw W))) := fnF_of hC rfl rfl fun Q E q => comers_ok hP hM hC hW hd q
/-- those who never come -/
def wt (W : Wld) : List Str := (nms W).filter fun x => !decide (x ∈ cw W)
theorem nms_ok {W : Wld} (hW : WStr W) : ∀ x ∈ nms W, SOk x := fun x hx => by
  obtain ⟨d, hd, rfl⟩ := List.mem_map.mp hx
  exact (hW.dev d hd).nm
theorem cw_sok {W : Wld} (hW : WStr W) : ∀ x ∈ cw W, SOk x := fun x hx => nms_ok hW x ((cw_ok hW.nd).sub x hx)
theorem waits_ok {k : Nat} {W : Wld} {d : D} (hP : HasW P) (hM : Has P "World" "comers" c_World_comers_530c9e) (hD : Has P "World" "devices" c_World_devices_9292ed) (hC : Has P "" "waits" f_waits_5ffb10) (hW : WStr W) (hd : WSeen st d W) (q : ∀ p, st p = none → Q (.ref p) (put st p (.lst (sD (wt W))))) : cal P (k + 8) "" "waits" [d] st Q E := by
  refine cal_of hC rfl ?_
  simp only [f_waits_5ffb10, List.map_cons, List.map_nil, List.length_cons, List.length_nil, Nat.reduceAdd, Nat.reduceSub, Nat.zero_add, List.replicate, List.cons_append, List.nil_append]
  have h1 := nms_ok hW
  have h2 := cw_sok hW
  have h3 : (nms W).length ≤ 100 := by unfold nms; rw [List.length_map]; exact hW.len
  refine wSs_cons (wS_asg ?_)
  apply ev_go
  · repeat (first | exact newW_fn hP hW hd | fail "E")
  refine tg_nm (wSs_cons (wS_ret ?_))
  apply lc_new
  · repeat (first | exact mdevices_fn (k := k + 6) hP hD hW | fail "E")
  · exact fun _ => rfl
  · repeat (first | exact mcomers_fn (k := k + 6) hP hM hW | fail "E")
  · repeat (fail "E")
  · omega
  · exact fun p hp => Dr.refl (q p hp)
theorem waits_fn {k : Nat} {W : Wld} {d : D} (hP : HasW P) (hM : Has P "World" "comers" c_World_comers_530c9e) (hD : Has P "World" "devices" c_World_devices_9292ed) (hC : Has P "" "waits" f_waits_5ffb10) (hW : WStr W) (hd : WSeen st d W) : FnF P (k + 8) st "waits" [d] [] (.kl (sD (wt W))) := fnF_of hC rfl rfl fun Q E q => waits_ok hP hM hD hC hW hd q
end
end Py

set_option Elab.async false
set_option linter.all false
set_option maxRecDepth 100000
set_option maxHeartbeats 4000000
/-! k11: who comes. -/
namespace Py
open PySem PySem.Spec PyProof.Rows L2
local macro_rules | `(tactic| trace "K") => `(tactic| first | assumption | exact put_same | exact (put_ne (by assumption)).trans put_same | exact (put_ne (by assumption)).trans (by assumption) | exact (put_ne (by assumption)).trans ((put_ne (by assumption)).trans put_same) | exact (put_ne (by assumption)).trans ((put_ne (by assumption)).trans (by assumption)))
local macro_rules | `(tactic| trace "V") => `(tactic| repeat (first | (with_reducible first | refine wSs_cons ?_ | refine wSs_nil ?_ | refine wS_exp ?_ | refine wS_ret ?_ | refine wS_pass ?_ | refine wS_asg ?_ | refine wS_par ?_ | refine wS_iff ?_ | refine wS_brk ?_ | refine wS_cnt ?_ | refine wE_non ?_ | refine wE_bl ?_ | refine wE_int ?_ | refine wE_str ?_ | refine wE_bty ?_ | refine wE_bin ?_ | refine wE_cmp ?_ | refine wE_and ?_ | refine wE_or ?_ | refine wE_not ?_ | refine wE_ite ?_ | refine wE_tup ?_ | refine wE_lst ?_ | refine wE_call ?_ | refine wE_blt ?_ | refine wE_att ?_ | refine wE_idx ?_ | refine wE_slc ?_ | refine wE_frzB ?_ | refine wE_frzC ?_ | refine wE_frzL ?_ | refine wE_frzS ?_ | refine wE_frzV ?_ | refine wA_nil ?_ | refine wA_cons ?_ | refine wTs_nil ?_ | refine wTs_cons ?_ | refine tg_nm ?_ | refine tru_bl ?_ | refine tru_int ?_ | refine tru_non ?_ | refine tru_tup ?_ | refine tru_kl ?_ | refine op_addI ?_ | refine op_subI ?_ | refine frz_kl ?_ | refine frz_tup ?_ | refine frz_int ?_ | refine c_gtI ?_ | refine c_ltI ?_ | refine c_geI ?_ | refine c_leI ?_ | refine b_len_kl ?_ | refine b_len_tup ?_ | refine b_len_sl ?_ | refine b_len_kd ?_ | refine b_int_int ?_ | refine b_int_bl ?_ | refine b_abs ?_ | refine b_min ?_ | refine wS_ssub ?_ | refine wE_mth ?_ | refine wE_bm ?_ | refine wE_negI ?_ | refine wE_new ?_ | refine wS_satt ?_ | refine opt_n ?_ | refine opt_i ?_) | ((with_reducible apply wE_var); (rfl)) | ((with_reducible apply tg_tp); (rfl)) | ((with_reducible apply par_of); (rfl)) | ((with_reducible apply newT_of); (exact Nat.le_of_ble_eq_true rfl)) | ((with_reducible apply newL_frz); (exact Nat.le_of_ble_eq_true rfl)) | ((with_reducible apply ix_ref); (first | assumption | exact put_same | exact (put_ne (by assumption)).trans put_same | exact (put_ne (by assumption)).trans (by assumption) | exact (put_ne (by assumption)).trans ((put_ne (by assumption)).trans put_same) | exact (put_ne (by assumption)).trans ((put_ne (by assumption)).trans (by assumption))); (rfl)) | ((with_reducible apply ssub_ref); (first | assumption | exact put_same | exact (put_ne (by assumption)).trans put_same | exact (put_ne (by assumption)).trans (by assumption) | exact (put_ne (by assumption)).trans ((put_ne (by assumption)).trans put_same) | exact (put_ne (by assumption)).trans ((put_ne (by assumption)).trans (by assumption))); (rfl)) | ((with_reducible apply ix_tup); (rfl)) | ((with_reducible apply ix_kl); (rfl)) | ((with_reducible apply op_modI); (first | assumption | decide)) | ((with_reducible apply op_fdivI); (first | (constructor <;> assumption) | decide)) | ((with_reducible apply op_mulL); (decide)) | ((with_reducible apply op_mulR); (decide)) | ((with_reducible apply b_len_ref); (first | assumption | exact put_same | exact (put_ne (by assumption)).trans put_same | exact (put_ne (by assumption)).trans (by assumption) | exact (put_ne (by assumption)).trans ((put_ne (by assumption)).trans put_same) | exact (put_ne (by assumption)).trans ((put_ne (by assumption)).trans (by assumption)))) | ((with_reducible apply bmA_ref); (first | assumption | exact put_same | exact (put_ne (by assumption)).trans put_same | exact (put_ne (by assumption)).trans (by assumption) | exact (put_ne (by assumption)).trans ((put_ne (by assumption)).trans put_same) | exact (put_ne (by assumption)).trans ((put_ne (by assumption)).trans (by assumption))); (rfl))))
local macro_rules | `(tactic| fail "E") => `(tactic| first | (with_reducible first | apply ev_non | apply ev_bl | apply ev_int | apply ev_str | apply ev_bty | apply evs_nil | apply evt_nil | apply ev_cmp | apply ev_chn | apply ev_and | apply ev_or | apply ev_not | apply ev_ite | apply ev_tup | apply ev_lstF | apply evs_cons | apply evs_star | apply ev_call | apply ev_callF | apply ev_bltF | apply ev_blt | apply ev_att | apply ev_idx | apply ev_slcF | apply ev_slc | apply ev_mthF | apply ev_mth | apply ev_newF | apply ev_binF | apply ev_bin | apply ev_neg | apply ev_lcM | apply ev_lc | apply ev_revF | apply evt_one | apply evt_cons | apply evi_of | apply evi_rng | apply evi_enum | apply evi_zip | apply tr_bl | apply tr_non | apply tr_int | apply bo_addI | apply bo_subI | apply bof_addI | apply co_eqI | apply co_neI | apply co_ltI | apply co_leI | apply co_gtI | apply co_geI | apply co_ltS | apply co_eqS | apply co_neS | apply bl_intI | apply bl_intB) | exact ev_var rfl | exact fun _ => rfl | apply its_tup | apply its_kl | apply its_kd | exact its_lit its_tup | exact its_lit its_kl | exact is_S_str | exact is_S_tuple | exact is_S_list | exact is_S_int | exact is_S_bool | exact is_S_dict | exact is_T_str | exact is_T_tuple | exact is_T_list | exact is_T_int | exact is_T_bool | exact is_T_dict | exact is_K_str | exact is_K_tuple | exact is_K_list | exact is_K_int | exact is_K_bool | exact is_K_dict | exact is_I_str | exact is_I_tuple | exact is_I_list | exact is_I_int | exact is_I_bool | exact is_I_dict | exact is_B_str | exact is_B_tuple | exact is_B_list | exact is_B_int | exact is_B_bool | exact is_B_dict | exact is_N_str | exact is_N_tuple | exact is_N_list | exact is_N_int | exact is_N_bool | exact is_N_dict | apply zp_K | apply zp_T | apply enm_T | apply enm_K | apply tr_tupM | apply tr_klM | apply tr_tup | apply tr_kl | apply bof_addT | apply bo_addT | apply bof_addK | apply co_inL | apply co_inT | apply co_ninL | apply co_ninT | apply co_eqNilS | apply co_neNilS | apply co_eqNilW | apply bl_lenKm | apply bl_lenTm | apply bl_lenK | apply bl_lenT | apply bl_lenD | apply bl_all | apply bl_any | apply bl_tupK | apply bl_tupT | apply blf_listK | apply blf_listT | apply blf_sortS | apply blf_sortST | exact ix_T rfl | exact ix_K rfl | apply slf_K | apply slf_T | rfl | exact bl_isi (by decide +kernel) | exact bl_isi2 (by decide +kernel) (by decide +kernel) | assumption | (with_reducible intro _) | omega | (simp only [List.length_map, List.length_append, List.length_cons, List.length_nil, List.length_range, List.length_zipIdx, List.length_zip, List.length_reverse]; omega) | ((with_reducible refine (show (_ : Nat) ≤ _ from ?_)); grind [sD, List.length_filter_le, WStr]) | ((with_reducible refine (show SOk _ from ?_)); first | (show PyData.strOk _ = true; decide +kernel) | grind [WStr, DevStr]) | ((with_reducible refine (show ∀ x ∈ _, SOk x from ?_)); grind [WStr, DevStr]))
def f_i_law_right_7db54d : Fd := ⟨["_law_box_here"], 9, [], (.cons (.asg (.nm 1) (.lst .nil)) (.cons (.for_ (.nm 2) (.rng1 (.int 5)) (.cons (.asg (.nm 3) (.call "_law_world" (.cons (.var 0) (.cons (.call "_law_of" (.cons (.var 0) (.cons (.frz (.lst (.cons (.int 1) (.cons (.int 3) (.cons (.int 5) (.cons (.int 8) (.cons (.int 10) .nil))))))) .nil)) []) (.cons (.cmp .gt (.call "_law_take" (.cons (.var 0) (.cons (.int 3) .nil)) []) (.int 0)) .nil))) [])) (.cons (.par [4, 5] (.cons (.call "_law_refill" (.cons (.var 1) (.cons (.var 3) .nil)) []) (.cons (.call "_law_comers" (.cons (.var 3) .nil) []) .nil))) (.cons (.asg (.nm 6) (.frz (.lc (.idx (.var 8) (.int 0)) [8] (.nm 8) (.of (.var 3)) (.cons (.cmp .nmem (.idx (.var 8) (.int 0)) (.var 5)) .nil)))) (.cons (.asg (.nm 7) (.frz (.lst (.cons (.call "comers" (.cons (.var 3) .nil) []) (.cons (.call "waits" (.cons (.var 3) .nil) []) (.cons (.call "comers" (.cons (.var 4) .nil) ["world"]) (.cons (.call "waits" (.cons (.var 4) .nil) ["world"]) .nil))))))) (.cons (.iff (.or (.not (.call "_law_same" (.cons (.var 7) (.cons (.frz (.lst (.cons (.var 5) (.cons (.var 6) (.cons (.var 5) (.cons (.var 6) .nil)))))) .nil)) [])) (.cmp .ne (.var 4) (.call "_law_lists" (.cons (.var 3) .nil) []))) (.cons (.ret (.bl false)) .nil) .nil) (.cons (.exp (.bm .append (.idx (.var 7) (.int 0)) (.cons (.str "more") .nil))) (.cons (.exp (.bm .append (.idx (.var 7) (.int 1)) (.cons (.str "more") .nil))) (.cons (.iff (.not (.call "_law_same" (.cons (.frz (.lst (.cons (.frz (.call "comers" (.cons (.var 3) .nil) [])) (.cons (.frz (.call "waits" (.cons (.var 3) .nil) [])) .nil)))) (.cons (.frz (.lst (.cons (.var 5) (.cons (.var 6) .nil)))) .nil)) [])) (.cons (.ret (.bl false)) .nil) .nil) .nil))))))))) (.cons (.ret (.call "_law_same" (.cons (.frz (.lst (.cons (.frz (.call "comers" (.cons (.tup .nil) .nil) [])) (.cons (.frz (.call "waits" (.cons (.tup .nil) .nil) [])) .nil)))) (.cons (.frz (.lst (.cons (.frz (.lst .nil)) (.cons (.frz (.lst .nil)) .nil)))) .nil)) [])) .nil)))⟩
def f_law_0f7a32 : Fd := ⟨["_law_script"], 3, [], (.cons (.asg (.nm 1) (.call "_law_cells" (.cons (.var 0) (.cons (.int 3) .nil)) [])) (.cons (.ret (.blt .all (.cons (.frz (.lc (.call "_law_right" (.cons (.call "_law_box" (.cons (.var 1) (.cons (.var 2) .nil)) []) .nil) []) [2] (.nm 2) (.rng1 (.blt .len (.cons (.var 1) .nil))) .nil)) .nil))) .nil))⟩
section
variable {P : Prog} {E : XD} {st : Sto} {Q : QD}
theorem co_neRefNil {a : Addr} {rs : List PyData} {n : Nat} (ha : st a = some (.lst (lisDs rs))) (hg : ∀ x ∈ rs, Good n x) (hn : n ≤ 60) (hl : rs.length ≤ 1000000) : Co st .ne (.ref a) (.kl []) (!rs.isEmpty) := fun Q q => by
  have g := (good_list hg hl).lis
  refine ⟨.list (lisPs rs), .list [], .lst (by unfold rdL; simp only [ha]) (dts_lis rs (noDcs_of fun x hx => (hg x hx).nd)), .lst rfl .nil, g.shaped (by omega), rfl, ?_⟩
  cases rs with
  | nil => exact q
  | cons _ _ => exact q
theorem refill_ok {k n : Nat} {a : Addr} {ps qs : List PyData} {d : D} {z : PyData} (hP : Has P "" "_law_refill" f_i_law_refill_4fb0a7) (hL : Has P "" "_law_lists" f_i_law_lists_e25d27) (hst : st a = some (.lst (lisDs ps))) (hg : ∀ x ∈ ps, Good n x) (hn : n ≤ 60) (hl : ps.length ≤ 1000)
    (hz : z = .tuple qs ∨ z = .list qs) (hgz : Good (n + 1) z) (hlz : qs.length ≤ 1000) (hd : ∀ s, Dt s d z) (q : Q (.ref a) (put st a (.lst (lisDs qs)))) : cal P (k + n + 3) "" "_law_refill" [.ref a, d] st Q E := by
  have lz : lisD z = .kl (lisDs qs) := by rcases hz with rfl | rfl <;> rfl
  refine cal_of hP rfl ?_
  simp only [f_i_law_refill_4fb0a7, List.map_cons, List.map_nil, List.length_cons, List.length_nil, Nat.reduceAdd, Nat.reduceSub, Nat.zero_add, List.replicate, List.cons_append, List.nil_append]
  refine wSs_cons (wS_whl (fun m L s => ∃ rs : List PyData, s = put st a (.lst (lisDs rs)) ∧ L = [some (.ref a), some d] ∧ (∀ x ∈ rs, Good n x) ∧ rs.length = m ∧ m ≤ 1000) _ ⟨ps, (put_id hst).symm, rfl, hg, rfl, hl⟩ ?_)
  rintro m L s ⟨rs, rfl, rfl, hg2, rfl, hm⟩
  apply ev_go
  · repeat (first | exact co_neRefNil put_same hg2 hn (by omega) | fail "E")
  refine tru_bl ?_
  by_cases hr : rs = []
  · subst hr
    rw [if_neg (by simp)]
    refine wSs_cons (wS_exp (wE_bm (wE_var rfl (bmA_ref put_same rfl (wA_cons ?_)))))
    apply ev_go
    · repeat (first | exact lists_fn (k := k) hL z hgz (hd _) | fail "E")
    rw [lz]
    refine wA_nil (bm_extend put_same ?_ ?_)
    · show 0 + _ ≤ 16777216
      rw [lisDs_map, List.length_map]; omega
    rw [put_put]
    refine wSs_cons (wS_ret (wE_var rfl (Dr.refl ?_)))
    exact q
  · rw [if_pos (by cases rs with | nil => exact absurd rfl hr | cons _ _ => rfl)]
    refine wSs_cons (wS_exp (wE_bm (wE_var rfl (bmA_ref put_same rfl (wA_nil ?_)))))
    obtain ⟨y, hy⟩ : ∃ y, (lisDs rs)[(lisDs rs).length - 1]? = some y := by
      have : 0 < (lisDs rs).length := by rw [lisDs_map, List.length_map]; exact List.length_pos_iff.mpr hr
      exact ⟨(lisDs rs)[(lisDs rs).length - 1]'(by omega), by simp⟩
    refine ⟨lisDs rs, y, put_same, hy, ?_⟩
    rw [put_put]
    have e : (lisDs rs).dropLast = lisDs rs.dropLast := by rw [lisDs_map, lisDs_map, List.map_dropLast]
    rw [e]
    have hlen : rs.dropLast.length < rs.length := by
      rw [List.length_dropLast]
      have := List.length_pos_iff.mpr hr
      omega
    exact wSs_nil (Dr.refl ⟨_, hlen, rs.dropLast, rfl, rfl, fun x hx => hg2 x ((List.dropLast_sublist rs).mem hx), rfl, by omega⟩)
theorem sub_any {S T : Sto} {a : Addr} {o : O} (h : S a = none) (s : Sub S T) : Sub S (put T a o) := fun b u e => by
  have : b ≠ a := fun z => by rw [z, h] at e; cases e
  rw [put_ne this]; exact s b u e
structure HasK11 (P : Prog) : Prop where
  w : HasW P
  cm : Has P "World" "comers" c_World_comers_530c9e
  dv : Has P "World" "devices" c_World_devices_9292ed
  co : Has P "" "comers" f_comers_599d99
  wa : Has P "" "waits" f_waits_5ffb10
  tk : Has P "" "_law_take" f_i_law_take_3a2ad2
  of : Has P "" "_law_of" f_i_law_of_0f7692
  nm : Has P "" "_law_names" f_i_law_names_1e383e
  so : Has P "" "_law_some" f_i_law_some_c1ed9a
  wo : Has P "" "_law_world" f_i_law_world_b8d4d3
  ca : Has P "" "_law_can" f_i_law_can_c73f16
  lc : Has P "" "_law_comers" f_i_law_comers_9910fe
  li : Has P "" "_law_lists" f_i_law_lists_e25d27
  re : Has P "" "_law_refill" f_i_law_refill_4fb0a7
  sa : Has P "" "_law_same" f_i_law_same_0ba4f5
theorem away_eq (W : Wld) : ((W.filter fun y => !decide (y.name ∈ cw W)).map fun y => D.str y.name) = sD (wt W) := by
  unfold sD wt nms
  rw [List.filter_map, List.map_map]; rfl
theorem wnil : WStr [] := ⟨nofun, List.nodup_nil, Nat.zero_le _, nofun, nofun, nofun⟩
theorem cw_nil : cw [] = [] := by unfold cw iterC srtS; exact List.mergeSort_nil
theorem dt_cw0 : Dt st (.kl (sD (cw []))) (.list []) := by rw [cw_nil]; exact .lst rfl .nil
theorem dt_wt0 : Dt st (.kl (sD (wt []))) (.list []) := .lst rfl .nil
theorem dt_ref {a : Addr} {ss : List Str} (h : st a = some (.lst (sD ss))) : Dt st (.ref a) (.list (ss.map PyData.str)) := .lst (by unfold rdL; simp only [h]; rfl) (dts_strs ss)
theorem dt_kl {ss : List Str} : Dt st (.kl (sD ss)) (.list (ss.map PyData.str)) := .lst rfl (dts_strs ss)
theorem right11 {k : Nat} {p : Addr} {o : O} {m : Nat} (h : HasK11 P) (hR : Has P "" "_law_right" f_i_law_right_7db54d) (hb : BxO (m + 6000) o) (hst : st p = some o) (q : ∀ o' s, Sub (put st p o') s → BxO m o' → Q (.bl true) s) : cal P (k + 10) "" "_law_right" [.ref p] st Q E := by
  refine cal_of hR rfl ?_
  simp only [f_i_law_right_7db54d, List.map_cons, List.map_nil, List.length_cons, List.length_nil, Nat.reduceAdd, Nat.reduceSub, Nat.zero_add, List.replicate, List.cons_append, List.nil_append]
  refine wSs_cons (wS_asg (wE_lst (wA_nil (newL_of (Nat.zero_le _) fun p1 hp1 => tg_nm ?_))))
  have np1 := some_ne hst hp1
  refine wSs_cons (wS_for (wI_rngT (n := 5) (fun R hR => wE_int hR) (by decide) ?_))
  refine forL_inv (fun r L s => ∃ (o' : O) (ps : List PyData) (a2 a3 a4 a5 a6 a7 a8 : Option D), s = put (put st p o') p1 (.lst (lisDs ps)) ∧ L = [some (.ref p), some (.ref p1), a2, a3, a4, a5, a6, a7, a8] ∧ (∀ x ∈ ps, Good 4 x) ∧ ps.length ≤ 100 ∧ BxO (m + 1100 * r.length) o') ?_ ?_ ⟨o, [], none, none, none, none, none, none, none, by rw [put_id hst]; rfl, rfl, nofun, Nat.zero_le _, hb.le (by simp)⟩
  · rintro x r L s nx ⟨o', ps, a2, a3, a4, a5, a6, a7, a8, rfl, rfl, hg, hps, hb⟩ hnx
    rw [List.length_cons] at hb
    have hb1 : BxO ((m + 1100 * r.length + 1010) + 1) o' := hb.le (by omega)
    refine tg_nm ?_
    trace "V"
    refine call_of h.of rfl rfl (of_ok h.tk h.of hb1 (by trace "K") (by decide) (by decide) fun r1 d1 o2 hd1 hb2 => ?_)
    obtain ⟨c, hc, rfl⟩ := small_int [1, 3, 5, 8, 10] hd1
    have hc2 : c ≤ 10 := by simp at hc; omega
    rw [put2 np1]
    trace "V"
    refine call_of h.tk rfl rfl (take_ok (m := m + 1100 * r.length + 1009) h.tk hb2 (by trace "K") (by decide) (by decide) fun j o3 hj hb3 => ?_)
    rw [put2 np1]
    trace "V"
    refine call_of h.wo rfl rfl (world_ok (m := m + 1100 * r.length) h.tk h.of h.nm h.so h.wo (hb3.le (by omega)) (by trace "K") hc2 fun W o4 hWo hb4 => ?_)
    rw [put2 np1]
    have hW := hWo.str (by omega)
    have hwl : W.length ≤ 10 := by rw [hWo.len]; exact hc2
    trace "V"
    refine call_of h.re rfl rfl (refill_ok (k := k + 2) (n := 4) (qs := W.map devP) (z := worldP W) h.re h.li put_same hg (by decide) (by omega) (.inl rfl) (good_world hW) (by rw [List.length_map]; omega) (fun s => dt_world W) ?_)
    rw [put_put]
    have hS1 : put st p o4 p1 = none := by rw [put_ne np1.symm]; exact hp1
    have hSp : put (put st p o4) p1 (O.lst (lisDs (W.map devP))) p1 = some (.lst (lisDs (W.map devP))) := put_same
    generalize hS : put (put st p o4) p1 (O.lst (lisDs (W.map devP))) = S at hSp
    have hds : Dt S (.ref p1) (lisP (worldP W)) := .lst (by unfold rdL; simp only [hSp]) (dts_lis _ (noDc_world W))
    have hws : WSeen S (.ref p1) W := .lis hW hds
    trace "V"
    refine call_of h.lc rfl rfl (lcomers_ok (k := k + 7) h.ca h.lc hW ?_)
    refine wA_nil ⟨_, rfl, ?_⟩
    have hcs := cw_sok hW
    have hws2 : ∀ x ∈ wt W, SOk x := fun x hx => nms_ok hW x (List.mem_filter.mp hx).1
    have hcl : (cw W).length ≤ 10 := Nat.le_trans (cw_ok hW.nd).len hwl
    have hwtl : (wt W).length ≤ 10 := Nat.le_trans (List.length_filter_le _ _) (by unfold nms; rw [List.length_map]; exact hwl)
    refine wSs_cons (wS_asg ?_)
    apply ev_go
    · repeat (fail "E")
    rw [away_eq]
    refine tg_nm (wSs_cons (wS_asg (wE_frzL (wE_lst (wA_cons (wE_call (wA_cons (wE_var rfl (wA_nil ?_)))))))))
    refine call_of h.co rfl rfl (comers_ok (k := k + 1) h.w h.cm h.co hW (.tup hW) fun q1 hq1 => ?_)
    refine wA_cons (wE_call (wA_cons (wE_var rfl (wA_nil ?_))))
    refine call_of h.wa rfl rfl (waits_ok (k := k + 1) h.w h.cm h.dv h.wa hW (.tup hW) fun q2 hq2 => ?_)
    have s1 : Sub S (put S q1 (.lst (sD (cw W)))) := Sub.put hq1
    have s2 := s1.trans (Sub.put (o := .lst (sD (wt W))) hq2)
    refine wA_cons (wE_call (wA_cons (wE_var rfl (wA_nil ?_))))
    refine call_kw h.co rfl (comers_ok (k := k + 1) h.w h.cm h.co hW (hws.mono s2) fun q3 hq3 => ?_)
    have s3 := s2.trans (Sub.put (o := .lst (sD (cw W))) hq3)
    refine wA_cons (wE_call (wA_cons (wE_var rfl (wA_nil ?_))))
    refine call_kw h.wa rfl (waits_ok (k := k + 1) h.w h.cm h.dv h.wa hW (hws.mono s3) fun q4 hq4 => ?_)
    have s4 := s3.trans (Sub.put (o := .lst (sD (wt W))) hq4)
    obtain ⟨n43, hq4'⟩ := put_none hq4
    obtain ⟨n42, hq4'⟩ := put_none hq4'
    obtain ⟨n41, hq4'⟩ := put_none hq4'
    obtain ⟨n32, hq3'⟩ := put_none hq3
    obtain ⟨n31, hq3'⟩ := put_none hq3'
    obtain ⟨n21, hq2'⟩ := put_none hq2
    have g1 : put (put (put (put S q1 (.lst (sD (cw W)))) q2 (.lst (sD (wt W)))) q3 (.lst (sD (cw W)))) q4 (.lst (sD (wt W))) q1 = some (.lst (sD (cw W))) := by rw [put_ne n41.symm, put_ne n31.symm, put_ne n21.symm, put_same]
    have g2 : put (put (put (put S q1 (.lst (sD (cw W)))) q2 (.lst (sD (wt W)))) q3 (.lst (sD (cw W)))) q4 (.lst (sD (wt W))) q2 = some (.lst (sD (wt W))) := by rw [put_ne n42.symm, put_ne n32.symm, put_same]
    have g3 : put (put (put (put S q1 (.lst (sD (cw W)))) q2 (.lst (sD (wt W)))) q3 (.lst (sD (cw W)))) q4 (.lst (sD (wt W))) q3 = some (.lst (sD (cw W))) := by rw [put_ne n43.symm, put_same]
    have g4 : put (put (put (put S q1 (.lst (sD (cw W)))) q2 (.lst (sD (wt W)))) q3 (.lst (sD (cw W)))) q4 (.lst (sD (wt W))) q4 = some (.lst (sD (wt W))) := put_same
    generalize put (put (put (put S q1 (.lst (sD (cw W)))) q2 (.lst (sD (wt W)))) q3 (.lst (sD (cw W)))) q4 (.lst (sD (wt W))) = T at s4 g1 g2 g3 g4
    refine wA_nil (newL_frz (Nat.le_of_ble_eq_true rfl) (tg_nm ?_))
    have gd : Good 2 (.list [.list ((cw W).map PyData.str), .list ((wt W).map PyData.str), .list ((cw W).map PyData.str), .list ((wt W).map PyData.str)]) := good_list (fun x hx => by
      have a1 : Good 1 (.list ((cw W).map PyData.str)) := good_strs hcs (by omega)
      have a2 : Good 1 (.list ((wt W).map PyData.str)) := good_strs hws2 (by omega)
      simp only [List.mem_cons, List.mem_nil_iff, or_false] at hx
      rcases hx with rfl | rfl | rfl | rfl <;> assumption) (by simp)
    have gd2 : Good 2 (.list [.list ((cw W).map PyData.str), .list ((wt W).map PyData.str)]) := good_list (fun x hx => by
      have a1 : Good 1 (.list ((cw W).map PyData.str)) := good_strs hcs (by omega)
      have a2 : Good 1 (.list ((wt W).map PyData.str)) := good_strs hws2 (by omega)
      simp only [List.mem_cons, List.mem_nil_iff, or_false] at hx
      rcases hx with rfl | rfl <;> assumption) (by simp)
    refine wSs_cons (wS_iff ?_)
    apply ev_go
    · repeat (first | exact same_fn (k := k + 6) (n := 2) h.sa _ gd (.lst rfl (.cons (dt_ref g1) (.cons (dt_ref g2) (.cons (dt_ref g3) (.cons (dt_ref g4) .nil))))) (.lst rfl (.cons dt_kl (.cons dt_kl (.cons dt_kl (.cons dt_kl .nil))))) | exact lists_fn (k := k + 3) (n := 5) h.li _ (good_world hW) (dt_world W) | exact co_neD (good_world hW).lis (by decide) (hds.mono s4) (dt_lis _ (noDc_world W)) | fail "E")
    refine tru_bl ?_
    rw [if_neg (by simp)]
    refine wSs_nil (wSs_cons (wS_exp (wE_bm (wE_idx (wE_var rfl (wE_int (ix_kl rfl (bmA_ref g1 rfl (wA_cons (wE_str (wA_nil (bm_append g1 ?_ ?_)))))))))))) 
    · unfold sD; rw [List.length_map]; exact Nat.lt_of_le_of_lt hcl (by decide)
    have g2' : put T q1 (.lst (sD (cw W) ++ [D.str "more"])) q2 = some (.lst (sD (wt W))) := by rw [put_ne n21]; exact g2
    refine wSs_cons (wS_exp (wE_bm (wE_idx (wE_var rfl (wE_int (ix_kl rfl (bmA_ref g2' rfl (wA_cons (wE_str (wA_nil (bm_append g2' ?_ ?_)))))))))))
    · unfold sD; rw [List.length_map]; exact Nat.lt_of_le_of_lt hwtl (by decide)
    have s5 : Sub S (put (put T q1 (.lst (sD (cw W) ++ [D.str "more"]))) q2 (.lst (sD (wt W) ++ [D.str "more"]))) := sub_any hq2' (sub_any hq1 s4)
    generalize put (put T q1 (.lst (sD (cw W) ++ [D.str "more"]))) q2 (.lst (sD (wt W) ++ [D.str "more"])) = U at s5
    refine wSs_cons (wS_iff ?_)
    apply ev_go
    · repeat (first | exact same_fn (k := k + 6) (n := 2) h.sa _ gd2 (.lst rfl (.cons dt_kl (.cons dt_kl .nil))) (.lst rfl (.cons dt_kl (.cons dt_kl .nil))) | exact comers_fn (k := k + 1) h.w h.cm h.co hW (.tup hW) | exact waits_fn (k := k + 1) h.w h.cm h.dv h.wa hW (.tup hW) | fail "E")
    refine tru_bl ?_
    rw [if_neg (by simp)]
    refine wSs_nil (wSs_nil (hnx _ _ ⟨S, s5, trivial, o4, W.map devP, _, _, _, _, _, _, _, hS.symm, rfl, ?_, ?_, hb4⟩))
    · intro x hx
      have g := good_world hW
      exact ⟨depth_mem (Nat.le_of_succ_le_succ g.dp) x hx, widePs_all (Bool.and_eq_true_iff.mp g.wi).2 x hx, canLay_mem g.la x hx, noDc_mem g.nd x hx⟩
    · rw [List.length_map]; omega
  · rintro L s ⟨o', ps, a2, a3, a4, a5, a6, a7, a8, rfl, rfl, hg, hps, hb⟩
    refine wSs_cons (wS_ret ?_)
    have e0 : (D.tup [] : D) = worldD [] := rfl
    apply ev_go
    · repeat (first | exact same_fn (k := k + 6) (n := 2) h.sa (.list [.list [], .list []]) ⟨by decide, rfl, rfl, rfl⟩ (.lst rfl (.cons dt_cw0 (.cons dt_wt0 .nil))) (.lst rfl (.cons (.lst rfl .nil) (.cons (.lst rfl .nil) .nil))) | exact comers_fn (k := k + 1) (W := []) h.w h.cm h.co wnil (.tup wnil) | exact waits_fn (k := k + 1) (W := []) h.w h.cm h.dv h.wa wnil (.tup wnil) | fail "E")
    refine Dr.refl (q o' _ (Sub.put ?_) (hb.le (by simp)))
    rw [put_ne np1.symm]; exact hp1
theorem lcL_pureD {α : Type} {stays : Sto → Prop} {turn : D → Sto → (Option D → Sto → Prop) → Prop} {fin : List D → Sto → Prop} (c g : α → D) (hs : stays st) :
    ∀ (l : List α) (acc : List D), (∀ y ∈ l, ∀ nx : Option D → Sto → Prop, (∀ st', Sub st st' → nx (some (g y)) st') → turn (c y) st nx) → fin (acc ++ l.map g) st → lcL stays turn fin (l.map c) acc st
  | [], acc, _, h => by simpa [lcL] using h
  | y :: l, acc, ht, h => by
    show turn (c y) st _
    refine ht y (List.mem_cons_self ..) _ fun st' sub => ⟨st, sub, hs, ?_⟩
    refine lcL_pureD c g hs l (acc ++ [g y]) (fun z hz => ht z (List.mem_cons_of_mem _ hz)) ?_
    simpa using h
/-- a comprehension whose turns leave nothing behind -/
theorem wE_lcD {α : Type} {k : Nat} {L : Loc} {elt : Ex} {vs : List Nat} {tg : Tg} {it : It} {ifs : Exs} (l : List α) (c g : α → D)
    (hi : ∀ R : List D → (Sto → Prop) → Sto → (Sto → Sto) → Prop, (∀ stays : Sto → Prop, stays st → R (l.map c) stays st id) → wpI P (cal P k) it L st R E)
    (ht : ∀ y ∈ l, ∀ nx : Option D → Sto → Prop, (∀ st', Sub st st' → nx (some (g y)) st') → tgR tg (c y) (wipeL L vs) fun L1 => wpTs P (cal P k) ifs L1 st (fun b t => if b = true then wpE P (cal P k) elt L1 t (fun d u => nx (some d) u) X0 else nx none t) X0)
    (hl : l.length ≤ 1000000) (q : Q (.kl (l.map g)) st) : wpE P (cal P k) (.frz (.lc elt vs tg it ifs)) L st Q E := by
  refine wE_frz (hi _ fun stays hs => ?_)
  refine lcL_pureD c g hs l [] ht ?_
  exact newL_frz (by rw [List.nil_append, List.length_map]; exact Nat.le_trans hl (by decide)) (by simpa using q)
theorem law11 {k : Nat} {w : D} {ns : List Int} (hw : rdL st w = some (ns.map D.int)) (h : HasK11 P) (hR : Has P "" "_law_right" f_i_law_right_7db54d) (hB : Has P "" "_law_box" f_i_law_box_b17dc2) (hC : Has P "" "_law_cells" f_i_law_cells_2580d9) (hL : Has P "" "law" f_law_0f7a32) (hn : ns.length ≤ 63) (q : Q (.bl true) st) : cal P (k + 11) "" "law" [w] st Q E := by
  refine cal_of hL rfl ?_
  simp only [f_law_0f7a32, List.map_cons, List.map_nil, List.length_cons, List.length_nil, Nat.reduceAdd, Nat.reduceSub, Nat.zero_add, List.replicate, List.cons_append, List.nil_append]
  trace "V"
  refine call_of hC rfl rfl (cells_ok (mo := 3) hw hC hn (by decide) (by decide) fun cs h0 h3 => ?_)
  trace "V"
  refine wE_lcD (List.range cs.length) (fun i : Nat => D.int (i : Int)) (fun _ => .bl true) (fun R hR => wI_rng (n := cs.length) (fun R hR => ?_) (by omega) hR) ?_ (by rw [List.length_range]; omega) ?_
  · trace "V"
    rw [List.length_map]; exact hR
  · intro j hj nx hn
    have hj : j < cs.length := List.mem_range.mp hj
    refine tg_nm ?_
    trace "V"
    rw [if_pos rfl]
    trace "V"
    refine call_of hB rfl rfl (box_ok hB hj h3 fun p o hp hb => ?_)
    trace "V"
    refine call_of hR rfl rfl (right11 (m := 0) h hR (hb.le (by decide)) put_same fun o' s hs _ => ?_)
    rw [put_put] at hs
    exact hn _ ((Sub.put hp).trans hs)
  trace "V"
  refine b_all (allB_map (fun _ : Nat => true) (List.range cs.length)) ?_
  have e : ((List.range cs.length).map fun _ : Nat => true).all id = true := by
    rw [List.all_eq_true]; intro b hb; obtain ⟨_, _, rfl⟩ := List.mem_map.mp hb; rfl
  rw [e]
  exact Dr.refl q
end
end Py

set_option Elab.async false
set_option linter.all false
set_option maxRecDepth 100000
set_option maxHeartbeats 4000000
/-! What a device takes; names; rows; ends. -/
namespace Py
open PySem PySem.Spec PyProof.Rows L2
local macro_rules | `(tactic| trace "K") => `(tactic| first | assumption | exact put_same | exact (put_ne (by assumption)).trans put_same | exact (put_ne (by assumption)).trans (by assumption) | exact (put_ne (by assumption)).trans ((put_ne (by assumption)).trans put_same) | exact (put_ne (by assumption)).trans ((put_ne (by assumption)).trans (by assumption)))
local macro_rules | `(tactic| trace "V") => `(tactic| repeat (first | (with_reducible first | refine wSs_cons ?_ | refine wSs_nil ?_ | refine wS_exp ?_ | refine wS_ret ?_ | refine wS_pass ?_ | refine wS_asg ?_ | refine wS_par ?_ | refine wS_iff ?_ | refine wS_brk ?_ | refine wS_cnt ?_ | refine wE_non ?_ | refine wE_bl ?_ | refine wE_int ?_ | refine wE_str ?_ | refine wE_bty ?_ | refine wE_bin ?_ | refine wE_cmp ?_ | refine wE_and ?_ | refine wE_or ?_ | refine wE_not ?_ | refine wE_ite ?_ | refine wE_tup ?_ | refine wE_lst ?_ | refine wE_call ?_ | refine wE_blt ?_ | refine wE_att ?_ | refine wE_idx ?_ | refine wE_slc ?_ | refine wE_frzB ?_ | refine wE_frzC ?_ | refine wE_frzL ?_ | refine wE_frzS ?_ | refine wE_frzV ?_ | refine wA_nil ?_ | refine wA_cons ?_ | refine wTs_nil ?_ | refine wTs_cons ?_ | refine tg_nm ?_ | refine tru_bl ?_ | refine tru_int ?_ | refine tru_non ?_ | refine tru_tup ?_ | refine tru_kl ?_ | refine op_addI ?_ | refine op_subI ?_ | refine frz_kl ?_ | refine frz_tup ?_ | refine frz_int ?_ | refine c_gtI ?_ | refine c_ltI ?_ | refine c_geI ?_ | refine c_leI ?_ | refine b_len_kl ?_ | refine b_len_tup ?_ | refine b_len_sl ?_ | refine b_len_kd ?_ | refine b_int_int ?_ | refine b_int_bl ?_ | refine b_abs ?_ | refine b_min ?_ | refine wS_ssub ?_ | refine wE_mth ?_ | refine wE_bm ?_ | refine wE_negI ?_ | refine wE_new ?_ | refine wS_satt ?_ | refine opt_n ?_ | refine opt_i ?_) | ((with_reducible apply wE_var); (rfl)) | ((with_reducible apply tg_tp); (rfl)) | ((with_reducible apply par_of); (rfl)) | ((with_reducible apply newT_of); (exact Nat.le_of_ble_eq_true rfl)) | ((with_reducible apply newL_frz); (exact Nat.le_of_ble_eq_true rfl)) | ((with_reducible apply ix_ref); (first | assumption | exact put_same | exact (put_ne (by assumption)).trans put_same | exact (put_ne (by assumption)).trans (by assumption) | exact (put_ne (by assumption)).trans ((put_ne (by assumption)).trans put_same) | exact (put_ne (by assumption)).trans ((put_ne (by assumption)).trans (by assumption))); (rfl)) | ((with_reducible apply ssub_ref); (first | assumption | exact put_same | exact (put_ne (by assumption)).trans put_same | exact (put_ne (by assumption)).trans (by assumption) | exact (put_ne (by assumption)).trans ((put_ne (by assumption)).trans put_same) | exact (put_ne (by assumption)).trans ((put_ne (by assumption)).trans (by assumption))); (rfl)) | ((with_reducible apply ix_tup); (rfl)) | ((with_reducible apply ix_kl); (rfl)) | ((with_reducible apply op_modI); (first | assumption | decide)) | ((with_reducible apply op_fdivI); (first | (constructor <;> assumption) | decide)) | ((with_reducible apply op_mulL); (decide)) | ((with_reducible apply op_mulR); (decide)) | ((with_reducible apply b_len_ref); (first | assumption | exact put_same | exact (put_ne (by assumption)).trans put_same | exact (put_ne (by assumption)).trans (by assumption) | exact (put_ne (by assumption)).trans ((put_ne (by assumption)).trans put_same) | exact (put_ne (by assumption)).trans ((put_ne (by assumption)).trans (by assumption)))) | ((with_reducible apply bmA_ref); (first | assumption | exact put_same | exact (put_ne (by assumption)).trans put_same | exact (put_ne (by assumption)).trans (by assumption) | exact (put_ne (by assumption)).trans ((put_ne (by assumption)).trans put_same) | exact (put_ne (by assumption)).trans ((put_ne (by assumption)).trans (by assumption))); (rfl))))
local macro_rules | `(tactic| fail "E") => `(tactic| first | (with_reducible first | apply ev_non | apply ev_bl | apply ev_int | apply ev_str | apply ev_bty | apply evs_nil | apply evt_nil | apply ev_cmp | apply ev_chn | apply ev_and | apply ev_or | apply ev_not | apply ev_ite | apply ev_tup | apply ev_lstF | apply evs_cons | apply evs_star | apply ev_call | apply ev_callF | apply ev_bltF | apply ev_blt | apply ev_att | apply ev_idx | apply ev_slcF | apply ev_slc | apply ev_mthF | apply ev_mth | apply ev_newF | apply ev_binF | apply ev_bin | apply ev_neg | apply ev_lcM | apply ev_lc | apply ev_revF | apply evt_one | apply evt_cons | apply evi_of | apply evi_rng | apply evi_enum | apply evi_zip | apply tr_bl | apply tr_non | apply tr_int | apply bo_addI | apply bo_subI | apply bof_addI | apply co_eqI | apply co_neI | apply co_ltI | apply co_leI | apply co_gtI | apply co_geI | apply co_ltS | apply co_eqS | apply co_neS | apply bl_intI | apply bl_intB) | exact ev_var rfl | exact fun _ => rfl | apply its_tup | apply its_kl | apply its_kd | exact its_lit its_tup | exact its_lit its_kl | exact is_S_str | exact is_S_tuple | exact is_S_list | exact is_S_int | exact is_S_bool | exact is_S_dict | exact is_T_str | exact is_T_tuple | exact is_T_list | exact is_T_int | exact is_T_bool | exact is_T_dict | exact is_K_str | exact is_K_tuple | exact is_K_list | exact is_K_int | exact is_K_bool | exact is_K_dict | exact is_I_str | exact is_I_tuple | exact is_I_list | exact is_I_int | exact is_I_bool | exact is_I_dict | exact is_B_str | exact is_B_tuple | exact is_B_list | exact is_B_int | exact is_B_bool | exact is_B_dict | exact is_N_str | exact is_N_tuple | exact is_N_list | exact is_N_int | exact is_N_bool | exact is_N_dict | apply zp_K | apply zp_T | apply enm_T | apply enm_K | apply tr_tupM | apply tr_klM | apply tr_tup | apply tr_kl | apply bof_addT | apply bo_addT | apply bof_addK | apply co_inL | apply co_inT | apply co_ninL | apply co_ninT | apply co_eqNilS | apply co_neNilS | apply co_eqNilW | apply bl_lenKm | apply bl_lenTm | apply bl_lenK | apply bl_lenT | apply bl_lenD | apply bl_all | apply bl_any | apply bl_tupK | apply bl_tupT | apply blf_listK | apply blf_listT | apply blf_sortS | apply blf_sortST | exact ix_T rfl | exact ix_K rfl | apply slf_K | apply slf_T | rfl | exact bl_isi (by decide +kernel) | exact bl_isi2 (by decide +kernel) (by decide +kernel) | assumption | (with_reducible intro _) | omega | (simp only [List.length_map, List.length_append, List.length_cons, List.length_nil, List.length_range, List.length_zipIdx, List.length_zip, List.length_reverse]; omega) | ((with_reducible refine (show (_ : Nat) ≤ _ from ?_)); grind [sD, List.length_filter_le, WStr]) | ((with_reducible refine (show SOk _ from ?_)); first | (show PyData.strOk _ = true; decide +kernel) | grind [WStr, DevStr]) | ((with_reducible refine (show ∀ x ∈ _, SOk x from ?_)); grind [WStr, DevStr]))
def c_World_take_47101e : Fd := ⟨["self", "name", "came"], 7, [], (.cons (.asg (.nm 3) (.lst .nil)) (.cons (.for_ (.tp [4, 5]) (.of (.idx (.att (.var 0) "own_wishes") (.var 1))) (.cons (.exp (.bm .append (.var 3) (.cons (.nxt 4 2 "NOTHING") .nil))) .nil)) (.cons (.ret (.blt .tuple (.cons (.var 3) .nil))) .nil)))⟩
def f_is_name_f2a722 : Fd := ⟨["thing"], 2, [], (.cons (.ret (.and (.blt .isinstance (.cons (.var 0) (.cons (.bty "str") .nil))) (.and (.chn .le .le (.int 1) (.blt .len (.cons (.var 0) .nil)) (.glo "LONGEST")) (.blt .all (.cons (.frz (.lc (.cmp .mem (.var 1) (.glo "LETTERS")) [1] (.nm 1) (.of (.var 0)) .nil)) .nil))))) .nil)⟩
def f_are_names_da7974 : Fd := ⟨["thing"], 2, [], (.cons (.ret (.and (.blt .isinstance (.cons (.var 0) (.cons (.bty "tuple") .nil))) (.blt .all (.cons (.frz (.lc (.call "is_name" (.cons (.var 1) .nil) []) [1] (.nm 1) (.of (.var 0)) .nil)) .nil)))) .nil)⟩
def c_World_is_row_f2eec5 : Fd := ⟨["self", "thing"], 4, [], (.cons (.iff (.or (.not (.call "are_names" (.cons (.var 1) .nil) [])) (.cmp .ne (.frz (.blt .sorted (.cons (.var 1) .nil))) (.att (.var 0) "own_comers"))) (.cons (.ret (.bl false)) .nil) .nil) (.cons (.ret (.blt .all (.cons (.frz (.lc (.mth (.var 0) "can_come" (.cons (.var 3) (.cons (.frz (.slc (.var 1) .nil (.cons (.var 2) .nil))) .nil))) [2, 3] (.tp [2, 3]) (.enum (.var 1)) .nil)) .nil))) .nil))⟩
def c_World_outcome_c1a66a : Fd := ⟨["self", "row"], 4, [], (.cons (.ret (.blt .tuple (.cons (.frz (.blt .sorted (.cons (.frz (.lc (.tup (.cons (.var 3) (.cons (.mth (.var 0) "take" (.cons (.var 3) (.cons (.frz (.slc (.var 1) .nil (.cons (.var 2) .nil))) .nil))) .nil))) [2, 3] (.tp [2, 3]) (.enum (.var 1)) .nil)) .nil))) .nil))) .nil)⟩
def f_end_of_b93daf : Fd := ⟨["world", "row"], 4, [], (.cons (.par [2, 3] (.cons (.frz (.new "World" (.cons (.var 0) .nil) [])) (.cons (.call "tupled" (.cons (.var 1) .nil) []) .nil))) (.cons (.iff (.not (.mth (.var 2) "is_row" (.cons (.var 3) .nil))) (.cons .never .nil) .nil) (.cons (.ret (.mth (.var 2) "outcome" (.cons (.var 3) .nil))) .nil)))⟩
/-- what is taken of a wish -/
def tkW (cs : List Str) (w : List Str × Bool) : Str := (w.1.find? fun a => decide (a ∈ cs)).getD ""
def takeD (d : Dev) (cs : List Str) : List Str := d.wishes.map (tkW cs)
def devOf (W : Wld) (x : Str) : Dev := (W.find? fun d => decide (d.name = x)).getD ⟨x, [], []⟩
theorem devOf_eq {W : Wld} (nd : (nms W).Nodup) {d : Dev} (hd : d ∈ W) : devOf W d.name = d := by
  unfold devOf
  cases h : W.find? fun e => decide (e.name = d.name) with
  | none =>
    rw [List.find?_eq_none] at h
    exact absurd (decide_eq_true (rfl : d.name = d.name)) (h d hd)
  | some e =>
    have h1 := List.mem_of_find?_eq_some h
    have h2 := List.find?_some h
    exact name_inj nd h1 hd (by simpa using h2)
def letters : Str := "abcdefghijklmnopqrstuvwxyz"
/-- a NAME -/
def nameB (x : Str) : Bool := decide (1 ≤ x.length) && (decide (x.length ≤ 8) && x.cps.toList.all fun c => decide (c ∈ letters.cps.toList))
theorem pool_name : ∀ x ∈ pool, nameB x = true := by
  have : pool.all nameB = true := by decide +kernel
  exact fun x hx => List.all_eq_true.mp this x hx
/-- each name is there as it comes, all who come -/
structure IsRow (W : Wld) (r : List Str) : Prop extends PreC W r where
  full : r.length = (cw W).length
theorem full_sub {r c : List Str} (n1 : r.Nodup) (h : ∀ x ∈ r, x ∈ c) (hl : c.length ≤ r.length) : ∀ x ∈ c, x ∈ r := fun x hx => by
  false_or_by_contra
  rename_i hn
  have := nodup_sub_len (l := x :: r) (m := c) (List.nodup_cons.mpr ⟨hn, n1⟩) fun y hy => by
    rcases List.mem_cons.mp hy with rfl | hy
    · exact hx
    · exact h y hy
  rw [List.length_cons] at this
  omega
theorem IsRow.mem {W : Wld} {r : List Str} (nd : (nms W).Nodup) (h : IsRow W r) (x : Str) : x ∈ r ↔ x ∈ cw W :=
  ⟨comers_sub h.toPreC (cw_ok nd).all x, full_sub h.nd (comers_sub h.toPreC (cw_ok nd).all) (Nat.le_of_eq h.full.symm) x⟩
theorem IsRow.srt {W : Wld} {r : List Str} (nd : (nms W).Nodup) (h : IsRow W r) : srtS r = cw W :=
  asc_eq (srtS_lt h.nd) (cw_ok nd).asc fun x => by rw [(srtS_perm r).mem_iff]; exact h.mem nd x
theorem IsRow.perm {W : Wld} {r : List Str} (nd : (nms W).Nodup) (h : IsRow W r) : r.Perm (cw W) := by
  rw [← h.srt nd]; exact (srtS_perm r).symm
/-- an END: names and what they took -/
def pairD (p : Str × List Str) : D := .tup [.str p.1, .tup (sD p.2)]
def pairP (p : Str × List Str) : PyData := .tuple [.str p.1, .tuple (p.2.map PyData.str)]
def outW (W : Wld) (r : List Str) : List (Str × List Str) := r.zipIdx.map fun p => (p.1, takeD (devOf W p.1) (r.take p.2))
def srtE (l : List (Str × List Str)) : List (Str × List Str) := l.mergeSort (PySem.W.dataLe false pairP)
def endW (W : Wld) (r : List Str) : List (Str × List Str) := srtE (outW W r)
def endD (e : List (Str × List Str)) : D := .tup (e.map pairD)
section
variable {P : Prog} {E : XD} {st : Sto} {Q : QD}
theorem take_fn {k : Nat} {W : Wld} {x : D} {d : Dev} {cs : List Str} {w : D} (hc : WCls P) (hM : Has P "World" "take" c_World_take_47101e) (hN : P.cons.lookup ("NOTHING" : Str) = some (.str "")) (hW : WStr W) (hd : d ∈ W) (hw : w = .kl (sD cs) ∨ w = .tup (sD cs)) (hcs : ∀ x ∈ cs, SOk x) : Mt P (k + 1) st (wObj W x) "take" [.str d.name, w] (.tup (sD (takeD d cs))) := mt_w hc (by decide +kernel) hM rfl rfl fun Q E q => by
  have ds := hW.dev d hd
  have hwl := hW.wle d hd
  refine cal_of hM rfl ?_
  simp only [c_World_take_47101e, List.map_cons, List.map_nil, List.length_cons, List.length_nil, Nat.reduceAdd, Nat.reduceSub, Nat.zero_add, List.replicate, List.cons_append, List.nil_append]
  refine wSs_cons (wS_asg (wE_lst (wA_nil (newL_of (Nat.zero_le _) fun p hp => tg_nm ?_))))
  refine wSs_cons (wS_for (wI_tupT (xs := d.wishes.map wishD) (fun R hR => wE_idx (wE_att (wE_var rfl (at_of (wat_wish hc) (wE_var rfl (ix_kd rfl (val_world _ hW.nd hd) hR)))))) ?_))
  refine forL_inv (fun r L s => ∃ (done rest : List (List Str × Bool)) (a4 a5 a6 : Option D), r = rest.map wishD ∧ done ++ rest = d.wishes ∧ s = put st p (.lst (sD (done.map (tkW cs)))) ∧ L = [some (wObj W x), some (.str d.name), some w, some (.ref p), a4, a5, a6]) ?_ ?_ ⟨[], d.wishes, none, none, none, rfl, rfl, rfl, rfl⟩
  · rintro y r L s nx ⟨done, rest, a4, a5, a6, hr, hdr, rfl, rfl⟩ hnx
    cases rest with
    | nil => cases hr
    | cons v rest =>
      cases hr
      have hv : v ∈ d.wishes := by rw [← hdr]; simp
      refine tg_tp rfl (wSs_cons (wS_exp (wE_bm (wE_var rfl (bmA_ref put_same rfl (wA_cons ?_))))))
      apply ev_go
      · exact ev_nxt (os := v.1) (cs := cs) rfl rfl (by rcases hw with rfl | rfl <;> rfl) (ds.wi v hv) hcs hN
      have e : nxtD v.1 cs (D.str "") = D.str (tkW cs v) := by
        unfold tkW nxtD
        cases v.1.find? fun a => decide (a ∈ cs) <;> rfl
      rw [e]
      have hl : done.length < 100 := by
        have := congrArg List.length hdr
        rw [List.length_append, List.length_cons] at this
        omega
      refine wA_nil (bm_append put_same (by unfold sD; rw [List.length_map, List.length_map]; exact Nat.lt_of_lt_of_le hl (by decide)) ?_)
      rw [put_put]
      refine wSs_nil (hnx _ _ (Dr.refl ⟨trivial, done ++ [v], rest, _, _, _, rfl, by rw [← hdr]; simp, ?_, rfl⟩))
      unfold sD
      rw [List.map_append, List.map_append]; rfl
  · rintro L s ⟨done, rest, a4, a5, a6, hr, hdr, rfl, rfl⟩
    have hrn : rest = [] := by
      cases rest with
      | nil => rfl
      | cons _ _ => cases hr
    subst hrn
    rw [List.append_nil] at hdr
    subst hdr
    refine wSs_cons (wS_ret (wE_blt (wA_cons (wE_var rfl (wA_nil (b_tuple_ref put_same (by unfold sD; rw [List.length_map, List.length_map]; exact Nat.le_trans hwl (by decide)) ?_))))))
    exact ⟨st, Sub.put hp, q⟩
theorem its_str {z : Str} (h : z.length ≤ 1000000) : Its st (.str z) (z.cps.toList.map fun c => D.str ⟨#[c]⟩) := fun R q => ⟨Nat.le_trans h (by decide), q _ trivial⟩
theorem co_inSign {c : Nat} {y : Str} : Co st .mem (.str ⟨#[c]⟩) (.str y) (decide (c ∈ y.cps.toList)) := fun Q q => ⟨c, rfl, by simpa using q⟩
theorem bl_lenS {x : Str} (h : x.length ≤ 1000000) : Bl st .len [.str x] (.int x.length) := fun Q q => ⟨Nat.le_trans h (by decide), q⟩
structure HasN (P : Prog) : Prop where
  nm : Has P "" "is_name" f_is_name_f2a722
  nms : Has P "" "are_names" f_are_names_da7974
  lg : P.cons.lookup ("LONGEST" : Str) = some (.int 8)
  lt : P.cons.lookup ("LETTERS" : Str) = some (.str letters)
theorem len_cps (x : Str) : x.cps.toList.length = x.length := by simp [Str.length]
theorem isname_fn {k : Nat} {x : Str} (h : HasN P) (hl : x.length ≤ 100000) : Fn P (k + 1) st "is_name" [.str x] [] (.bl (nameB x)) := fn_of h.nm rfl rfl fun Q E q => by
  have hl2 : x.cps.toList.length ≤ 100000 := by rw [len_cps]; exact hl
  refine cal_of h.nm rfl ?_
  simp only [f_is_name_f2a722, List.map_cons, List.map_nil, List.length_cons, List.length_nil, Nat.reduceAdd, Nat.reduceSub, Nat.zero_add, List.replicate, List.cons_append, List.nil_append]
  refine wSs_cons (wS_ret ?_)
  apply ev_go
  · repeat (first | exact ev_glo h.lg | exact ev_glo h.lt | apply its_str | apply co_inSign | apply bl_lenS | fail "E")
  refine Dr.refl ?_
  have e1 : decide ((1 : Int) ≤ (x.length : Int)) = decide (1 ≤ x.length) := decide_eq_decide.mpr (by omega)
  have e2 : decide ((x.length : Int) ≤ 8) = decide (x.length ≤ 8) := decide_eq_decide.mpr (by omega)
  rw [e1, e2]
  unfold nameB at q
  rw [Bool.true_and, Bool.and_assoc]
  exact q
theorem arenames_fn {k : Nat} {ss : List Str} (h : HasN P) (hs : ∀ x ∈ ss, x.length ≤ 100000) (hl : ss.length ≤ 100000) : Fn P (k + 2) st "are_names" [.tup (sD ss)] [] (.bl (ss.all nameB)) := fn_of h.nms rfl rfl fun Q E q => by
  refine cal_of h.nms rfl ?_
  simp only [f_are_names_da7974, List.map_cons, List.map_nil, List.length_cons, List.length_nil, Nat.reduceAdd, Nat.reduceSub, Nat.zero_add, List.replicate, List.cons_append, List.nil_append]
  refine wSs_cons (wS_ret ?_)
  apply ev_go
  · repeat (first | exact isname_fn (k := k) h (hs _ ‹_›) | fail "E")
  rw [Bool.true_and]
  exact Dr.refl q
end
end Py

set_option Elab.async false
set_option linter.all false
set_option maxRecDepth 100000
set_option maxHeartbeats 4000000
/-! Rows and ends, by the program. -/
namespace Py
open PySem PySem.Spec PyProof.Rows L2
local macro_rules | `(tactic| trace "K") => `(tactic| first | assumption | exact put_same | exact (put_ne (by assumption)).trans put_same | exact (put_ne (by assumption)).trans (by assumption) | exact (put_ne (by assumption)).trans ((put_ne (by assumption)).trans put_same) | exact (put_ne (by assumption)).trans ((put_ne (by assumption)).trans (by assumption)))
local macro_rules | `(tactic| trace "V") => `(tactic| repeat (first | (with_reducible first | refine wSs_cons ?_ | refine wSs_nil ?_ | refine wS_exp ?_ | refine wS_ret ?_ | refine wS_pass ?_ | refine wS_asg ?_ | refine wS_par ?_ | refine wS_iff ?_ | refine wS_brk ?_ | refine wS_cnt ?_ | refine wE_non ?_ | refine wE_bl ?_ | refine wE_int ?_ | refine wE_str ?_ | refine wE_bty ?_ | refine wE_bin ?_ | refine wE_cmp ?_ | refine wE_and ?_ | refine wE_or ?_ | refine wE_not ?_ | refine wE_ite ?_ | refine wE_tup ?_ | refine wE_lst ?_ | refine wE_call ?_ | refine wE_blt ?_ | refine wE_att ?_ | refine wE_idx ?_ | refine wE_slc ?_ | refine wE_frzB ?_ | refine wE_frzC ?_ | refine wE_frzL ?_ | refine wE_frzS ?_ | refine wE_frzV ?_ | refine wA_nil ?_ | refine wA_cons ?_ | refine wTs_nil ?_ | refine wTs_cons ?_ | refine tg_nm ?_ | refine tru_bl ?_ | refine tru_int ?_ | refine tru_non ?_ | refine tru_tup ?_ | refine tru_kl ?_ | refine op_addI ?_ | refine op_subI ?_ | refine frz_kl ?_ | refine frz_tup ?_ | refine frz_int ?_ | refine c_gtI ?_ | refine c_ltI ?_ | refine c_geI ?_ | refine c_leI ?_ | refine b_len_kl ?_ | refine b_len_tup ?_ | refine b_len_sl ?_ | refine b_len_kd ?_ | refine b_int_int ?_ | refine b_int_bl ?_ | refine b_abs ?_ | refine b_min ?_ | refine wS_ssub ?_ | refine wE_mth ?_ | refine wE_bm ?_ | refine wE_negI ?_ | refine wE_new ?_ | refine wS_satt ?_ | refine opt_n ?_ | refine opt_i ?_) | ((with_reducible apply wE_var); (rfl)) | ((with_reducible apply tg_tp); (rfl)) | ((with_reducible apply par_of); (rfl)) | ((with_reducible apply newT_of); (exact Nat.le_of_ble_eq_true rfl)) | ((with_reducible apply newL_frz); (exact Nat.le_of_ble_eq_true rfl)) | ((with_reducible apply ix_ref); (first | assumption | exact put_same | exact (put_ne (by assumption)).trans put_same | exact (put_ne (by assumption)).trans (by assumption) | exact (put_ne (by assumption)).trans ((put_ne (by assumption)).trans put_same) | exact (put_ne (by assumption)).trans ((put_ne (by assumption)).trans (by assumption))); (rfl)) | ((with_reducible apply ssub_ref); (first | assumption | exact put_same | exact (put_ne (by assumption)).trans put_same | exact (put_ne (by assumption)).trans (by assumption) | exact (put_ne (by assumption)).trans ((put_ne (by assumption)).trans put_same) | exact (put_ne (by assumption)).trans ((put_ne (by assumption)).trans (by assumption))); (rfl)) | ((with_reducible apply ix_tup); (rfl)) | ((with_reducible apply ix_kl); (rfl)) | ((with_reducible apply op_modI); (first | assumption | decide)) | ((with_reducible apply op_fdivI); (first | (constructor <;> assumption) | decide)) | ((with_reducible apply op_mulL); (decide)) | ((with_reducible apply op_mulR); (decide)) | ((with_reducible apply b_len_ref); (first | assumption | exact put_same | exact (put_ne (by assumption)).trans put_same | exact (put_ne (by assumption)).trans (by assumption) | exact (put_ne (by assumption)).trans ((put_ne (by assumption)).trans put_same) | exact (put_ne (by assumption)).trans ((put_ne (by assumption)).trans (by assumption)))) | ((with_reducible apply bmA_ref); (first | assumption | exact put_same | exact (put_ne (by assumption)).trans put_same | exact (put_ne (by assumption)).trans (by assumption) | exact (put_ne (by assumption)).trans ((put_ne (by assumption)).trans put_same) | exact (put_ne (by assumption)).trans ((put_ne (by assumption)).trans (by assumption))); (rfl))))
local macro_rules | `(tactic| fail "E") => `(tactic| first | (with_reducible first | apply ev_non | apply ev_bl | apply ev_int | apply ev_str | apply ev_bty | apply evs_nil | apply evt_nil | apply ev_cmp | apply ev_chn | apply ev_and | apply ev_or | apply ev_not | apply ev_ite | apply ev_tup | apply ev_lstF | apply evs_cons | apply evs_star | apply ev_call | apply ev_callF | apply ev_bltF | apply ev_blt | apply ev_att | apply ev_idx | apply ev_slcF | apply ev_slc | apply ev_mthF | apply ev_mth | apply ev_newF | apply ev_binF | apply ev_bin | apply ev_neg | apply ev_lcM | apply ev_lc | apply ev_revF | apply evt_one | apply evt_cons | apply evi_of | apply evi_rng | apply evi_enum | apply evi_zip | apply tr_bl | apply tr_non | apply tr_int | apply bo_addI | apply bo_subI | apply bof_addI | apply co_eqI | apply co_neI | apply co_ltI | apply co_leI | apply co_gtI | apply co_geI | apply co_ltS | apply co_eqS | apply co_neS | apply bl_intI | apply bl_intB) | exact ev_var rfl | exact fun _ => rfl | apply its_tup | apply its_kl | apply its_kd | exact its_lit its_tup | exact its_lit its_kl | exact is_S_str | exact is_S_tuple | exact is_S_list | exact is_S_int | exact is_S_bool | exact is_S_dict | exact is_T_str | exact is_T_tuple | exact is_T_list | exact is_T_int | exact is_T_bool | exact is_T_dict | exact is_K_str | exact is_K_tuple | exact is_K_list | exact is_K_int | exact is_K_bool | exact is_K_dict | exact is_I_str | exact is_I_tuple | exact is_I_list | exact is_I_int | exact is_I_bool | exact is_I_dict | exact is_B_str | exact is_B_tuple | exact is_B_list | exact is_B_int | exact is_B_bool | exact is_B_dict | exact is_N_str | exact is_N_tuple | exact is_N_list | exact is_N_int | exact is_N_bool | exact is_N_dict | apply zp_K | apply zp_T | apply enm_T | apply enm_K | apply tr_tupM | apply tr_klM | apply tr_tup | apply tr_kl | apply bof_addT | apply bo_addT | apply bof_addK | apply co_inL | apply co_inT | apply co_ninL | apply co_ninT | apply co_eqNilS | apply co_neNilS | apply co_eqNilW | apply bl_lenKm | apply bl_lenTm | apply bl_lenK | apply bl_lenT | apply bl_lenD | apply bl_all | apply bl_any | apply bl_tupK | apply bl_tupT | apply blf_listK | apply blf_listT | apply blf_sortS | apply blf_sortST | exact ix_T rfl | exact ix_K rfl | apply slf_K | apply slf_T | rfl | exact bl_isi (by decide +kernel) | exact bl_isi2 (by decide +kernel) (by decide +kernel) | assumption | (with_reducible intro _) | omega | (simp only [List.length_map, List.length_append, List.length_cons, List.length_nil, List.length_range, List.length_zipIdx, List.length_zip, List.length_reverse]; omega) | ((with_reducible refine (show (_ : Nat) ≤ _ from ?_)); grind [sD, List.length_filter_le, WStr]) | ((with_reducible refine (show SOk _ from ?_)); first | (show PyData.strOk _ = true; decide +kernel) | grind [WStr, DevStr]) | ((with_reducible refine (show ∀ x ∈ _, SOk x from ?_)); grind [WStr, DevStr]))
def canN (W : Wld) (x : Str) (cs : List Str) : Bool := devCan (devOf W x) cs
def rowB (W : Wld) (r : List Str) : Bool := r.all nameB && (decide (srtS r = cw W) && r.zipIdx.all fun p => canN W p.1 (r.take p.2))
theorem eqv_strs2 : ∀ a b : List Str, PyData.eqvAll (a.map PyData.str) (b.map PyData.str) = decide (a = b)
  | [], [] => rfl
  | [], _ :: _ => rfl
  | _ :: _, [] => rfl
  | x :: a, y :: b => by
    show ((x == y) && PyData.eqvAll (a.map PyData.str) (b.map PyData.str)) = _
    rw [eqv_strs2 a b, beq_dec]
    by_cases h : x = y <;> by_cases h2 : a = b <;> simp [h, h2]
section
variable {P : Prog} {E : XD} {st : Sto} {Q : QD}
theorem co_neLS {a b : List Str} (ha : ∀ x ∈ a, SOk x) (hb : ∀ x ∈ b, SOk x) : Co st .ne (.kl (a.map D.str)) (.kl (b.map D.str)) (!decide (a = b)) := fun Q q => ⟨_, _, .lst rfl (dts_strs a), .lst rfl (dts_strs b), shaped_list ha, shaped_list hb, by
  show Q (.bl (!PyData.eqvAll (a.map PyData.str) (b.map PyData.str))) st
  rw [eqv_strs2]; exact q⟩
theorem co_eqLS {a b : List Str} (ha : ∀ x ∈ a, SOk x) (hb : ∀ x ∈ b, SOk x) : Co st .eq (.kl (a.map D.str)) (.kl (b.map D.str)) (decide (a = b)) := fun Q q => ⟨_, _, .lst rfl (dts_strs a), .lst rfl (dts_strs b), shaped_list ha, shaped_list hb, by
  show Q (.bl (PyData.eqvAll (a.map PyData.str) (b.map PyData.str))) st
  rw [eqv_strs2]; exact q⟩
theorem slf_Tt {α : Type} {l : List α} {c : α → D} {n : Nat} : SlF P st (.tup (l.map c)) none (some ((n : Nat) : Int)) (.tup ((l.take n).map c)) := fun Q q => by
  show Q (.tup (cutD (l.map c) none (some (n : Nat)))) st
  rw [cut_take, ← List.map_take]; exact q
theorem slf_Kt {α : Type} {l : List α} {c : α → D} {n : Nat} (h : l.length ≤ 1000000) : SlF P st (.kl (l.map c)) none (some ((n : Nat) : Int)) (.kl ((l.take n).map c)) := fun Q q => by
  refine slc_kl (by rw [List.length_map]; exact Nat.le_trans h (by decide)) ?_
  rw [cut_take, ← List.map_take]; exact q
theorem name_dev {W : Wld} {x : Str} (h : x ∈ nms W) : ∃ d ∈ W, d.name = x := by
  obtain ⟨d, hd, e⟩ := List.mem_map.mp h
  exact ⟨d, hd, e⟩
theorem mcan_fn {k : Nat} {W : Wld} {y : D} {x : Str} {cs : List Str} {w : D} (hC : Has P "World" "can_come" c_World_can_come_0c313d) (hc : WCls P) (hW : WStr W) (hx : x ∈ nms W) (hw : w = .kl (sD cs) ∨ w = .tup (sD cs)) (hcs : ∀ x ∈ cs, SOk x) : Mt P (k + 1) st (wObj W y) "can_come" [.str x, w] (.bl (canN W x cs)) := mt_w hc (by decide +kernel) hC rfl rfl fun Q E q => by
  obtain ⟨d, hd, rfl⟩ := name_dev hx
  unfold canN at q
  rw [devOf_eq hW.nd hd] at q
  exact can_come_ok hC hc hW hd hw hcs q
theorem mtake_fn {k : Nat} {W : Wld} {y : D} {x : Str} {cs : List Str} {w : D} (hc : WCls P) (hM : Has P "World" "take" c_World_take_47101e) (hN : P.cons.lookup ("NOTHING" : Str) = some (.str "")) (hW : WStr W) (hx : x ∈ nms W) (hw : w = .kl (sD cs) ∨ w = .tup (sD cs)) (hcs : ∀ x ∈ cs, SOk x) : Mt P (k + 1) st (wObj W y) "take" [.str x, w] (.tup (sD (takeD (devOf W x) cs))) := by
  obtain ⟨d, hd, rfl⟩ := name_dev hx
  rw [devOf_eq hW.nd hd]
  exact take_fn hc hM hN hW hd hw hcs
structure HasR (P : Prog) : Prop where
  w : HasW P
  n : HasN P
  tk : Has P "World" "take" c_World_take_47101e
  ir : Has P "World" "is_row" c_World_is_row_f2eec5
  ou : Has P "World" "outcome" c_World_outcome_c1a66a
  no : P.cons.lookup ("NOTHING" : Str) = some (.str "")
theorem zip_mem {r : List Str} {p : Str × Nat} (h : p ∈ r.zipIdx) : p.1 ∈ r := by
  obtain ⟨h1, h2, h3⟩ := List.mem_zipIdx h
  rw [h3]; exact List.getElem_mem _
theorem misrow_fn {k : Nat} {W : Wld} {r : List Str} (h : HasR P) (hW : WStr W) (hr : ∀ x ∈ r, SOk x ∧ x.length ≤ 100000) (hl : r.length ≤ 100000) : Mt P (k + 3) st (wOb W) "is_row" [.tup (sD r)] (.bl (rowB W r)) := mt_w h.w.cls (by decide +kernel) h.ir rfl rfl fun Q E q => by
  have hcs := cw_sok hW
  have hrs : ∀ x ∈ r, SOk x := fun x hx => (hr x hx).1
  have hss : ∀ x ∈ srtS r, SOk x := fun x hx => hrs x ((srtS_perm r).mem_iff.mp hx)
  refine cal_of h.ir rfl ?_
  simp only [c_World_is_row_f2eec5, List.map_cons, List.map_nil, List.length_cons, List.length_nil, Nat.reduceAdd, Nat.reduceSub, Nat.zero_add, List.replicate, List.cons_append, List.nil_append]
  refine wSs_cons (wS_iff ?_)
  apply ev_go
  · repeat (first | exact arenames_fn (k := k) h.n (fun x hx => (hr x hx).2) hl | exact wat_comers nofun h.w.cls | exact co_neLS hss hcs | fail "E")
  refine tru_bl ?_
  by_cases hok : (!r.all nameB || !decide (srtS r = cw W)) = true
  · rw [if_pos hok]
    refine wSs_cons (wS_ret (wE_bl (Dr.refl ?_)))
    have e : rowB W r = false := by
      unfold rowB
      rw [Bool.or_eq_true, Bool.not_eq_true', Bool.not_eq_true'] at hok
      rcases hok with h | h <;> rw [h] <;> simp
    rw [e] at q; exact q
  · rw [if_neg hok]
    rw [Bool.not_eq_true, Bool.or_eq_false_iff, Bool.not_eq_false', Bool.not_eq_false'] at hok
    have hsr := of_decide_eq_true hok.2
    have hin : ∀ x ∈ r, x ∈ nms W := fun x hx => (cw_ok hW.nd).sub x (by rw [← hsr]; exact (srtS_perm r).mem_iff.mpr hx)
    refine wSs_nil (wSs_cons (wS_ret ?_))
    apply ev_go
    · repeat (first | exact mcan_fn (k := k + 1) h.w.can h.w.cls hW (hin _ (zip_mem ‹_›)) (.inr rfl) (fun x hx => hrs x (List.mem_of_mem_take hx)) | exact slf_Tt | fail "E")
    refine Dr.refl ?_
    unfold rowB at q
    rw [hok.1, hok.2, Bool.true_and, Bool.true_and] at q
    exact q
theorem dt_pair (p : Str × List Str) : Dt st (pairD p) (pairP p) := .tup (.cons (.str _) (.cons (.tup (dts_strs _)) .nil))
theorem srt_pair (l : List (Str × List Str)) : SrtOk (l.map pairP) := by
  refine ⟨PySem.W.AllAlike.of fun a b => ?_, .inl fun d hd => ?_, fun d hd => ?_⟩
  · show (PySem.W.alike (.str a.1) (.str b.1) && (PySem.W.alikeAll (a.2.map PyData.str) (b.2.map PyData.str) && true)) = true
    rw [alike_strs]; rfl
  · obtain ⟨x, _, rfl⟩ := List.mem_map.mp hd
    exact ⟨_, _, rfl⟩
  · obtain ⟨x, _, rfl⟩ := List.mem_map.mp hd
    show max 0 (max (PyData.depthAll (x.2.map PyData.str) + 1) 0) + 1 ≤ 60
    rw [depth_strs]; decide
theorem srtE_perm (l : List (Str × List Str)) : (srtE l).Perm l := List.mergeSort_perm _ _
theorem blf_sortE {l : List (Str × List Str)} (h : l.length ≤ 1000000) : BlF P st .sorted [.kl (l.map pairD)] (.kl ((srtE l).map pairD)) := fun Q q => b_sortD (ds := l.map pairP) rfl (dts_of pairD pairP l fun p _ => dt_pair p) (srt_pair l) (by rw [List.length_map]; exact Nat.le_trans h (by decide)) (by
  rw [srt_map pairD pairP]; exact q)
theorem mout_fn {k : Nat} {W : Wld} {r : List Str} (h : HasR P) (hW : WStr W) (hr : ∀ x ∈ r, x ∈ nms W) (hl : r.length ≤ 100000) : Mt P (k + 3) st (wOb W) "outcome" [.tup (sD r)] (endD (endW W r)) := mt_w h.w.cls (by decide +kernel) h.ou rfl rfl fun Q E q => by
  have hrs : ∀ x ∈ r, SOk x := fun x hx => nms_ok hW x (hr x hx)
  refine cal_of h.ou rfl ?_
  simp only [c_World_outcome_c1a66a, List.map_cons, List.map_nil, List.length_cons, List.length_nil, Nat.reduceAdd, Nat.reduceSub, Nat.zero_add, List.replicate, List.cons_append, List.nil_append]
  refine wSs_cons (wS_ret ?_)
  have e1 : (r.zipIdx.map fun p => D.tup [.str p.1, .tup (sD (takeD (devOf W p.1) (r.take p.2)))]) = (outW W r).map pairD := by
    unfold outW; rw [List.map_map]; rfl
  have hlo : (outW W r).length = r.length := by unfold outW; rw [List.length_map, List.length_zipIdx]
  refine wE_blt (wA_cons ?_)
  apply ev_go
  · apply ev_bltF
    · apply evs_cons
      · repeat (first | exact mtake_fn (k := k + 1) h.w.cls h.tk h.no hW (hr _ (zip_mem ‹_›)) (.inr rfl) (fun x hx => hrs x (List.mem_of_mem_take hx)) | exact slf_Tt | fail "E")
      · exact evs_nil
    · rw [e1]
      exact blf_sortE (by omega)
  refine wA_nil (b_tuple_kl (by rw [List.length_map, (srtE_perm _).length_eq, hlo]; exact Nat.le_trans hl (by decide)) (Dr.refl q))
end
end Py

set_option Elab.async false
set_option linter.all false
set_option maxRecDepth 100000
set_option maxHeartbeats 4000000
/-! end_of; the laws' own rows and ends. -/
namespace Py
open PySem PySem.Spec PyProof.Rows L2
local macro_rules | `(tactic| trace "K") => `(tactic| first | assumption | exact put_same | exact (put_ne (by assumption)).trans put_same | exact (put_ne (by assumption)).trans (by assumption) | exact (put_ne (by assumption)).trans ((put_ne (by assumption)).trans put_same) | exact (put_ne (by assumption)).trans ((put_ne (by assumption)).trans (by assumption)))
local macro_rules | `(tactic| trace "V") => `(tactic| repeat (first | (with_reducible first | refine wSs_cons ?_ | refine wSs_nil ?_ | refine wS_exp ?_ | refine wS_ret ?_ | refine wS_pass ?_ | refine wS_asg ?_ | refine wS_par ?_ | refine wS_iff ?_ | refine wS_brk ?_ | refine wS_cnt ?_ | refine wE_non ?_ | refine wE_bl ?_ | refine wE_int ?_ | refine wE_str ?_ | refine wE_bty ?_ | refine wE_bin ?_ | refine wE_cmp ?_ | refine wE_and ?_ | refine wE_or ?_ | refine wE_not ?_ | refine wE_ite ?_ | refine wE_tup ?_ | refine wE_lst ?_ | refine wE_call ?_ | refine wE_blt ?_ | refine wE_att ?_ | refine wE_idx ?_ | refine wE_slc ?_ | refine wE_frzB ?_ | refine wE_frzC ?_ | refine wE_frzL ?_ | refine wE_frzS ?_ | refine wE_frzV ?_ | refine wA_nil ?_ | refine wA_cons ?_ | refine wTs_nil ?_ | refine wTs_cons ?_ | refine tg_nm ?_ | refine tru_bl ?_ | refine tru_int ?_ | refine tru_non ?_ | refine tru_tup ?_ | refine tru_kl ?_ | refine op_addI ?_ | refine op_subI ?_ | refine frz_kl ?_ | refine frz_tup ?_ | refine frz_int ?_ | refine c_gtI ?_ | refine c_ltI ?_ | refine c_geI ?_ | refine c_leI ?_ | refine b_len_kl ?_ | refine b_len_tup ?_ | refine b_len_sl ?_ | refine b_len_kd ?_ | refine b_int_int ?_ | refine b_int_bl ?_ | refine b_abs ?_ | refine b_min ?_ | refine wS_ssub ?_ | refine wE_mth ?_ | refine wE_bm ?_ | refine wE_negI ?_ | refine wE_new ?_ | refine wS_satt ?_ | refine opt_n ?_ | refine opt_i ?_) | ((with_reducible apply wE_var); (rfl)) | ((with_reducible apply tg_tp); (rfl)) | ((with_reducible apply par_of); (rfl)) | ((with_reducible apply newT_of); (exact Nat.le_of_ble_eq_true rfl)) | ((with_reducible apply newL_frz); (exact Nat.le_of_ble_eq_true rfl)) | ((with_reducible apply ix_ref); (first | assumption | exact put_same | exact (put_ne (by assumption)).trans put_same | exact (put_ne (by assumption)).trans (by assumption) | exact (put_ne (by assumption)).trans ((put_ne (by assumption)).trans put_same) | exact (put_ne (by assumption)).trans ((put_ne (by assumption)).trans (by assumption))); (rfl)) | ((with_reducible apply ssub_ref); (first | assumption | exact put_same | exact (put_ne (by assumption)).trans put_same | exact (put_ne (by assumption)).trans (by assumption) | exact (put_ne (by assumption)).trans ((put_ne (by assumption)).trans put_same) | exact (put_ne (by assumption)).trans ((put_ne (by assumption)).trans (by assumption))); (rfl)) | ((with_reducible apply ix_tup); (rfl)) | ((with_reducible apply ix_kl); (rfl)) | ((with_reducible apply op_modI); (first | assumption | decide)) | ((with_reducible apply op_fdivI); (first | (constructor <;> assumption) | decide)) | ((with_reducible apply op_mulL); (decide)) | ((with_reducible apply op_mulR); (decide)) | ((with_reducible apply b_len_ref); (first | assumption | exact put_same | exact (put_ne (by assumption)).trans put_same | exact (put_ne (by assumption)).trans (by assumption) | exact (put_ne (by assumption)).trans ((put_ne (by assumption)).trans put_same) | exact (put_ne (by assumption)).trans ((put_ne (by assumption)).trans (by assumption)))) | ((with_reducible apply bmA_ref); (first | assumption | exact put_same | exact (put_ne (by assumption)).trans put_same | exact (put_ne (by assumption)).trans (by assumption) | exact (put_ne (by assumption)).trans ((put_ne (by assumption)).trans put_same) | exact (put_ne (by assumption)).trans ((put_ne (by assumption)).trans (by assumption))); (rfl))))
local macro_rules | `(tactic| fail "E") => `(tactic| first | (with_reducible first | apply ev_non | apply ev_bl | apply ev_int | apply ev_str | apply ev_bty | apply evs_nil | apply evt_nil | apply ev_cmp | apply ev_chn | apply ev_and | apply ev_or | apply ev_not | apply ev_ite | apply ev_tup | apply ev_lstF | apply evs_cons | apply evs_star | apply ev_call | apply ev_callF | apply ev_bltF | apply ev_blt | apply ev_att | apply ev_idx | apply ev_slcF | apply ev_slc | apply ev_mthF | apply ev_mth | apply ev_newF | apply ev_binF | apply ev_bin | apply ev_neg | apply ev_lcM | apply ev_lc | apply ev_revF | apply evt_one | apply evt_cons | apply evi_of | apply evi_rng | apply evi_enum | apply evi_zip | apply tr_bl | apply tr_non | apply tr_int | apply bo_addI | apply bo_subI | apply bof_addI | apply co_eqI | apply co_neI | apply co_ltI | apply co_leI | apply co_gtI | apply co_geI | apply co_ltS | apply co_eqS | apply co_neS | apply bl_intI | apply bl_intB) | exact ev_var rfl | exact fun _ => rfl | apply its_tup | apply its_kl | apply its_kd | exact its_lit its_tup | exact its_lit its_kl | exact is_S_str | exact is_S_tuple | exact is_S_list | exact is_S_int | exact is_S_bool | exact is_S_dict | exact is_T_str | exact is_T_tuple | exact is_T_list | exact is_T_int | exact is_T_bool | exact is_T_dict | exact is_K_str | exact is_K_tuple | exact is_K_list | exact is_K_int | exact is_K_bool | exact is_K_dict | exact is_I_str | exact is_I_tuple | exact is_I_list | exact is_I_int | exact is_I_bool | exact is_I_dict | exact is_B_str | exact is_B_tuple | exact is_B_list | exact is_B_int | exact is_B_bool | exact is_B_dict | exact is_N_str | exact is_N_tuple | exact is_N_list | exact is_N_int | exact is_N_bool | exact is_N_dict | apply zp_K | apply zp_T | apply enm_T | apply enm_K | apply tr_tupM | apply tr_klM | apply tr_tup | apply tr_kl | apply bof_addT | apply bo_addT | apply bof_addK | apply co_inL | apply co_inT | apply co_ninL | apply co_ninT | apply co_eqNilS | apply co_neNilS | apply co_eqNilW | apply bl_lenKm | apply bl_lenTm | apply bl_lenK | apply bl_lenT | apply bl_lenD | apply bl_all | apply bl_any | apply bl_tupK | apply bl_tupT | apply blf_listK | apply blf_listT | apply blf_sortS | apply blf_sortST | exact ix_T rfl | exact ix_K rfl | apply slf_K | apply slf_T | rfl | exact bl_isi (by decide +kernel) | exact bl_isi2 (by decide +kernel) (by decide +kernel) | assumption | (with_reducible intro _) | omega | (simp only [List.length_map, List.length_append, List.length_cons, List.length_nil, List.length_range, List.length_zipIdx, List.length_zip, List.length_reverse]; omega) | ((with_reducible refine (show (_ : Nat) ≤ _ from ?_)); grind [sD, List.length_filter_le, WStr]) | ((with_reducible refine (show SOk _ from ?_)); first | (show PyData.strOk _ = true; decide +kernel) | grind [WStr, DevStr]) | ((with_reducible refine (show ∀ x ∈ _, SOk x from ?_)); grind [WStr, DevStr]))
def f_i_law_takes_32a987 : Fd := ⟨["_law_world_so", "_law_name_so", "_law_came_so"], 6, [], (.cons (.asg (.nm 3) (.idx (.frz (.lc (.var 4) [4] (.nm 4) (.of (.var 0)) (.cons (.cmp .eq (.idx (.var 4) (.int 0)) (.var 1)) .nil))) (.int 0))) (.cons (.ret (.blt .tuple (.cons (.frz (.lc (.idx (.frz (.bin .add (.frz (.lc (.var 5) [5] (.nm 5) (.of (.idx (.var 4) (.int 0))) (.cons (.cmp .mem (.var 5) (.var 2)) .nil))) (.frz (.lst (.cons (.str "") .nil))))) (.int 0)) [4] (.nm 4) (.of (.idx (.var 3) (.int 2))) .nil)) .nil))) .nil))⟩
def f_i_law_row_2a3ae7 : Fd := ⟨["_law_box_here", "_law_world_so"], 7, [], (.cons (.asg (.nm 2) (.tup .nil)) (.cons (.for_ (.nm 3) (.rng1 (.blt .len (.cons (.call "_law_comers" (.cons (.var 1) .nil) []) .nil))) (.cons (.asg (.nm 4) (.frz (.lc (.idx (.var 5) (.int 0)) [5] (.nm 5) (.of (.var 1)) (.cons (.cmp .nmem (.idx (.var 5) (.int 0)) (.var 2)) .nil)))) (.cons (.asg (.nm 4) (.frz (.lc (.var 6) [6] (.nm 6) (.of (.var 4)) (.cons (.call "_law_can" (.cons (.var 1) (.cons (.var 6) (.cons (.var 2) .nil))) []) .nil)))) (.cons (.asg (.nm 2) (.frz (.bin .add (.var 2) (.tup (.cons (.call "_law_of" (.cons (.var 0) (.cons (.var 4) .nil)) []) .nil))))) .nil)))) (.cons (.ret (.var 2)) .nil)))⟩
def f_i_law_rows_115efb : Fd := ⟨["_law_world_so"], 8, [], (.cons (.asg (.nm 1) (.frz (.lst (.cons (.tup .nil) .nil)))) (.cons (.for_ (.nm 2) (.rng1 (.blt .len (.cons (.call "_law_comers" (.cons (.var 0) .nil) []) .nil))) (.cons (.asg (.nm 3) (.frz (.lst .nil))) (.cons (.for_ (.nm 4) (.of (.var 1)) (.cons (.asg (.nm 5) (.frz (.lc (.idx (.var 6) (.int 0)) [6] (.nm 6) (.of (.var 0)) (.cons (.and (.cmp .nmem (.idx (.var 6) (.int 0)) (.var 4)) (.call "_law_can" (.cons (.var 0) (.cons (.idx (.var 6) (.int 0)) (.cons (.var 4) .nil))) [])) .nil)))) (.cons (.asg (.nm 3) (.frz (.bin .add (.var 3) (.frz (.lc (.frz (.bin .add (.var 4) (.tup (.cons (.var 7) .nil)))) [7] (.nm 7) (.of (.var 5)) .nil))))) .nil))) (.cons (.asg (.nm 1) (.frz (.blt .list (.cons (.var 3) .nil)))) .nil)))) (.cons (.ret (.var 1)) .nil)))⟩
def f_i_law_end_595762 : Fd := ⟨["_law_world_so", "_law_row_so"], 3, [], (.cons (.ret (.blt .tuple (.cons (.frz (.blt .sorted (.cons (.frz (.lc (.tup (.cons (.idx (.var 1) (.var 2)) (.cons (.call "_law_takes" (.cons (.var 0) (.cons (.idx (.var 1) (.var 2)) (.cons (.frz (.slc (.var 1) .nil (.cons (.var 2) .nil))) .nil))) []) .nil))) [2] (.nm 2) (.rng1 (.blt .len (.cons (.var 1) .nil))) .nil)) .nil))) .nil))) .nil)⟩
theorem PreC.sok {W : Wld} {r : List Str} (h : PreC W r) (hW : WStr W) : ∀ x ∈ r, SOk x := fun x hx => nms_ok hW x (h.sub x hx)
theorem IsRow.rowB {W : Wld} {r : List Str} (nd : (nms W).Nodup) (hn : ∀ x ∈ nms W, nameB x = true) (h : IsRow W r) : rowB W r = true := by
  unfold Py.rowB
  rw [Bool.and_eq_true, Bool.and_eq_true, List.all_eq_true, List.all_eq_true]
  refine ⟨fun x hx => hn x (h.sub x hx), decide_eq_true (h.srt nd), fun p hp => ?_⟩
  obtain ⟨h1, h2, h3⟩ := List.mem_zipIdx hp
  obtain ⟨d, hd, e, hc⟩ := h.can p.2 p.1 (by
    rw [List.getElem?_eq_some_iff]
    refine ⟨by omega, ?_⟩
    have := h3
    simp only [Nat.sub_zero] at this
    exact this.symm)
  unfold canN
  rw [← e, devOf_eq nd hd]
  exact hc
theorem nameB_len {x : Str} (h : nameB x = true) : x.length ≤ 100000 := by
  unfold nameB at h
  simp only [Bool.and_eq_true, decide_eq_true_eq] at h
  omega
section
variable {P : Prog} {E : XD} {st : Sto} {Q : QD}
/-- a value that is a tuple or a list of texts -/
def SSeen (st : Sto) (d : D) (ss : List Str) : Prop := Dt st d (.tuple (ss.map PyData.str)) ∨ Dt st d (.list (ss.map PyData.str))
theorem tupled_ss {k : Nat} {d : D} {ss : List Str} (hP : Has P "" "tupled" f_tupled_251813) (h : SSeen st d ss) (hl : ss.length ≤ 100000) : Fn P (k + 2) st "tupled" [d] [] (.tup (sD ss)) := fn_of hP rfl rfl fun Q E q => by
  rw [← tupD_strs] at q
  have wd : (decide ((ss.map PyData.str).length ≤ 1000000) && widePs (ss.map PyData.str)) = true := by
    have := wide_strs (ss := ss) (by omega)
    exact this
  rcases h with h | h
  · exact tupled_gen hP 1 (p := .tuple (ss.map PyData.str)) (by show PyData.depthAll (ss.map PyData.str) + 1 ≤ 1; rw [depth_strs]; decide) wd h q
  · exact tupled_gen hP 1 (p := .list (ss.map PyData.str)) (by show PyData.depthAll (ss.map PyData.str) + 1 ≤ 1; rw [depth_strs]; decide) wd h q
theorem endof_ok {k : Nat} {W : Wld} {d e : D} {r : List Str} (h : HasR P) (hE : Has P "" "end_of" f_end_of_b93daf) (hW : WStr W) (hn : ∀ x ∈ nms W, nameB x = true) (hd : WSeen st d W) (he : SSeen st e r) (hr : IsRow W r) (q : Q (endD (endW W r)) st) : cal P (k + 8) "" "end_of" [d, e] st Q E := by
  have hrl : r.length ≤ 100 := Nat.le_trans hr.toPreC.len hW.len
  refine cal_of hE rfl ?_
  simp only [f_end_of_b93daf, List.map_cons, List.map_nil, List.length_cons, List.length_nil, Nat.reduceAdd, Nat.reduceSub, Nat.zero_add, List.replicate, List.cons_append, List.nil_append]
  refine wSs_cons (wS_par ?_)
  apply evs_go
  · repeat (first | exact newW_fn h.w hW hd | exact tupled_ss (k := k + 5) h.w.tup he (by omega) | fail "E")
  refine ⟨_, rfl, wSs_cons (wS_iff ?_)⟩
  apply ev_go
  · repeat (first | exact misrow_fn (k := k + 4) h hW (fun x hx => ⟨hr.toPreC.sok hW x hx, nameB_len (hn x (hr.sub x hx))⟩) (by omega) | fail "E")
  rw [hr.rowB hW.nd hn]
  refine tru_bl ?_
  rw [if_neg (by simp)]
  refine wSs_nil (wSs_cons (wS_ret ?_))
  apply ev_go
  · repeat (first | exact mout_fn (k := k + 4) h hW hr.sub (by omega) | fail "E")
  exact Dr.refl q
theorem ltakes_fn {k : Nat} {W : Wld} {d : Dev} {cs : List Str} {w : D} (hC : Has P "" "_law_takes" f_i_law_takes_32a987) (hW : WStr W) (hd : d ∈ W) (hw : w = .kl (sD cs) ∨ w = .tup (sD cs)) (hcs : ∀ x ∈ cs, SOk x) : Fn P (k + 1) st "_law_takes" [worldD W, .str d.name, w] [] (.tup (sD (takeD d cs))) := fn_of hC rfl rfl fun Q E q => by
  have ds := hW.dev d hd
  have hl := hW.len
  have hwl := hW.wle d hd
  refine cal_of hC rfl ?_
  simp only [f_i_law_takes_32a987, List.map_cons, List.map_nil, List.length_cons, List.length_nil, Nat.reduceAdd, Nat.reduceSub, Nat.zero_add, List.replicate, List.cons_append, List.nil_append]
  refine wSs_cons (wS_asg (wE_idx ?_))
  apply ev_go
  · repeat (first | exact (hW.dev _ ‹_›).nm | exact ds.nm | fail "E")
  rw [filter_one hW.nd hd]
  refine wE_int (ix_kl rfl (tg_nm (wSs_cons (wS_ret (wE_blt (wA_cons ?_))))))
  have cin : ∀ y, SOk y → Co st .mem (.str y) w (decide (y ∈ cs)) := fun y hy Q' h => c_inS (neg := false) hw hcs hy (by simpa using h)
  have hol : ∀ v ∈ d.wishes, v.1.length ≤ 100 := hW.ole d hd
  have ix0 : ∀ v : List Str × Bool, Ix st (.kl ((v.1.filter fun y => decide (y ∈ cs)).map D.str ++ [D.str ""])) (.int 0) (.str (tkW cs v)) := fun v Q' h => by
    refine ix_kl ?_ h
    unfold tkW
    rw [← List.head?_filter]
    cases v.1.filter fun y => decide (y ∈ cs) <;> exact atI_nat (i := 0) rfl
  apply ev_go
  · repeat (first | exact ix0 _ | exact cin _ (ds.wi _ ‹_› _ ‹_›) | exact hol _ ‹_› | (have := hol _ ‹_›; have h9 := List.length_filter_le (fun y => decide (y ∈ cs)) (‹List Str × Bool›).1; simp only [List.length_append, List.length_map, List.length_cons, List.length_nil]; omega) | fail "E")
  refine wA_nil (b_tuple_kl (by rw [List.length_map]; exact Nat.le_trans hwl (by decide)) (Dr.refl ?_))
  have e : (d.wishes.map fun y => D.str (tkW cs y)) = sD (takeD d cs) := by unfold sD takeD; rw [List.map_map]; rfl
  rw [e]; exact q
/-- who can come next -/
def extW (W : Wld) (r : List Str) : List Str := newC W r
theorem ext_eq (W : Wld) (r : List Str) : (((W.filter fun y => !decide (y.name ∈ r)).filter fun y => devCan y r).map fun y => D.str y.name) = sD (extW W r) := by
  unfold sD extW newC
  rw [List.filter_filter, List.map_map]
  congr 1
  refine List.filter_congr fun y _ => ?_
  rw [Bool.and_comm]
theorem PreC.ext {W : Wld} {r : List Str} (h : PreC W r) {x : Str} (hx : x ∈ extW W r) : PreC W (r ++ [x]) := by
  unfold extW newC at hx
  obtain ⟨d, hd, rfl⟩ := List.mem_map.mp hx
  have h2 := List.mem_filter.mp hd
  simp at h2
  refine ⟨?_, fun x hx => ?_, fun i x hi => ?_⟩
  · rw [List.nodup_append]
    refine ⟨h.nd, by simp, fun a ha b hb e => ?_⟩
    rw [List.mem_singleton.mp hb] at e
    exact h2.2.1 (e ▸ ha)
  · rcases List.mem_append.mp hx with h1 | h1
    · exact h.sub x h1
    · rw [List.mem_singleton.mp h1]; exact List.mem_map_of_mem h2.1
  · by_cases lt : i < r.length
    · rw [List.getElem?_append_left lt] at hi
      obtain ⟨e, h3, h4, h5⟩ := h.can i x hi
      exact ⟨e, h3, h4, by rw [List.take_append_of_le_length (by omega)]; exact h5⟩
    · rw [List.getElem?_append_right (by omega)] at hi
      have hi0 : i - r.length = 0 := by
        have := (List.getElem?_eq_some_iff.mp hi).1
        simpa using this
      rw [hi0] at hi
      have e : x = d.name := by simpa using hi.symm
      subst e
      have hi1 : i = r.length := by omega
      subst hi1
      exact ⟨d, h2.1, rfl, by rw [List.take_append_of_le_length (Nat.le_refl _), List.take_length]; exact h2.2.2⟩
theorem ext_ne {W : Wld} {r : List Str} (nd : (nms W).Nodup) (h : PreC W r) (hl : r.length < (cw W).length) : extW W r ≠ [] := fun hz => by
  have := nodup_sub_len ((cw_ok nd).asc.imp fun h => ltS_ne h) ((cw_ok nd).least r (newC_nil hz))
  omega
theorem lrow_ok {k : Nat} {p : Addr} {o : O} {m : Nat} {W : Wld} (hT : Has P "" "_law_take" f_i_law_take_3a2ad2) (hO : Has P "" "_law_of" f_i_law_of_0f7692) (hC : Has P "" "_law_can" f_i_law_can_c73f16) (hL : Has P "" "_law_comers" f_i_law_comers_9910fe) (hR : Has P "" "_law_row" f_i_law_row_2a3ae7) (hW : WStr W)
    (hb : BxO (m + 100) o) (hst : st p = some o) (q : ∀ (r : List Str) (o' : O), IsRow W r → BxO m o' → Q (.tup (sD r)) (put st p o')) : cal P (k + 3) "" "_law_row" [.ref p, worldD W] st Q E := by
  have hlen := hW.len
  have hcl := (cw_ok hW.nd).len
  refine cal_of hR rfl ?_
  simp only [f_i_law_row_2a3ae7, List.map_cons, List.map_nil, List.length_cons, List.length_nil, Nat.reduceAdd, Nat.reduceSub, Nat.zero_add, List.replicate, List.cons_append, List.nil_append]
  refine wSs_cons (wS_asg ?_)
  apply ev_go
  · repeat (fail "E")
  refine tg_nm (wSs_cons (wS_for (wI_rngT (n := (cw W).length) (fun R hR => ?_) (by omega) ?_)))
  · apply ev_go
    · repeat (first | exact fn_of hL rfl rfl fun Q E q => lcomers_ok (k := k) hC hL hW q | fail "E")
    exact hR
  refine forL_inv (fun r L s => ∃ (row : List Str) (o' : O) (a3 a4 a5 a6 : Option D), s = put st p o' ∧ L = [some (.ref p), some (worldD W), some (.tup (sD row)), a3, a4, a5, a6] ∧ PreC W row ∧ row.length + r.length = (cw W).length ∧ BxO (m + r.length) o') ?_ ?_ ⟨[], o, none, none, none, none, (put_id hst).symm, rfl, preC_nil W, by simp, hb.le (by simp; omega)⟩
  · rintro x r L s nx ⟨row, o', a3, a4, a5, a6, rfl, rfl, hp, hi, hb⟩ hnx
    rw [List.length_cons] at hi hb
    have hok := hp.sok hW
    have hrl := hp.len
    refine tg_nm (wSs_cons (wS_asg ?_))
    apply ev_go
    · repeat (first | exact (hW.dev _ ‹_›).nm | fail "E")
    refine tg_nm (wSs_cons (wS_asg ?_))
    apply ev_go
    · repeat (first | exact can_fn hC hW (List.mem_filter.mp ‹_›).1 (.inr rfl) hok | fail "E")
    rw [ext_eq]
    have hne := ext_ne hW.nd hp (by omega)
    have hel : (extW W row).length ≤ 100 := by
      have h1 := hp.step hW.nd
      have h2 := h1.len
      rw [List.length_append] at h2
      have : (extW W row).length = (newC W row).length := rfl
      omega
    have hsl : (sD (extW W row)).length = (extW W row).length := by unfold sD; rw [List.length_map]
    refine tg_nm (wSs_cons (wS_asg (wE_frzB (wE_bin (wE_var rfl (wE_tup (wA_cons (wE_call (wA_cons (wE_var rfl (wA_cons (wE_var rfl (wA_nil ?_))))))))))))) 
    refine call_of hO rfl rfl (of_ok (m := m + r.length) hT hO (by rw [Nat.add_assoc]; exact hb) put_same (by rw [hsl]; exact List.length_pos_iff.mpr hne) (by rw [hsl]; omega) fun j dj o2 hj hb2 => ?_)
    rw [put_put]
    obtain ⟨y, hy, rfl⟩ := List.mem_map.mp (List.mem_of_getElem? hj)
    have e : sD row ++ [D.str y] = sD (row ++ [y]) := by unfold sD; rw [List.map_append]; rfl
    refine wA_nil (newT_of (Nat.le_of_ble_eq_true rfl) (op_addT ?_ ?_))
    · unfold sD; rw [List.length_append, List.length_map]; show _ ≤ 16777216; simp only [List.length_cons, List.length_nil]; omega
    · rw [e]
      refine frz_tup (tg_nm (wSs_nil (hnx _ _ (Dr.refl ⟨trivial, row ++ [y], o2, _, _, _, _, rfl, rfl, hp.ext hy, ?_, hb2⟩))))
      rw [List.length_append]; simp only [List.length_cons, List.length_nil]; omega
  · rintro L s ⟨row, o', a3, a4, a5, a6, rfl, rfl, hp, hi, hb⟩
    refine wSs_cons (wS_ret (wE_var rfl (Dr.refl (q row o' ⟨hp, by simpa using hi⟩ (hb.le (by simp))))))
theorem getD_at {r : List Str} {y : Nat} (h : y < r.length) : r.getD y "" = r[y] := by
  rw [List.getD_eq_getElem?_getD, List.getElem?_eq_getElem h]; rfl
theorem out_range (W : Wld) (r : List Str) : outW W r = (List.range r.length).map fun y => (r.getD y "", takeD (devOf W (r.getD y "")) (r.take y)) := by
  unfold outW
  refine List.ext_getElem (by simp) fun i h1 h2 => ?_
  have hi : i < r.length := by simpa using h1
  simp [hi]
theorem lend_fn {k : Nat} {W : Wld} {r : List Str} (hT : Has P "" "_law_takes" f_i_law_takes_32a987) (hE : Has P "" "_law_end" f_i_law_end_595762) (hW : WStr W) (hr : ∀ x ∈ r, x ∈ nms W) (hl : r.length ≤ 100000) : Fn P (k + 2) st "_law_end" [worldD W, .tup (sD r)] [] (endD (endW W r)) := fn_of hE rfl rfl fun Q E q => by
  have hrs : ∀ x ∈ r, SOk x := fun x hx => nms_ok hW x (hr x hx)
  have hg : ∀ y ∈ List.range r.length, r.getD y "" ∈ r := fun y hy => by
    have hy := List.mem_range.mp hy
    rw [getD_at hy]; exact List.getElem_mem _
  have ixr : ∀ y ∈ List.range r.length, Ix st (.tup (sD r)) (.int ((y : Nat) : Int)) (.str (r.getD y "")) := fun y hy => by
    have hy' := List.mem_range.mp hy
    refine ix_T (atI_nat ?_)
    unfold sD
    rw [List.getElem?_map, getD_at hy', List.getElem?_eq_getElem hy']; rfl
  have tk : ∀ y ∈ List.range r.length, Fn P (k + 1) st "_law_takes" [worldD W, .str (r.getD y ""), .tup (sD (r.take y))] [] (.tup (sD (takeD (devOf W (r.getD y "")) (r.take y)))) := fun y hy => by
    obtain ⟨d, hd, e⟩ := name_dev (hr _ (hg y hy))
    rw [← e, devOf_eq hW.nd hd]
    exact ltakes_fn hT hW hd (.inr rfl) fun x hx => hrs x (List.mem_of_mem_take hx)
  refine cal_of hE rfl ?_
  simp only [f_i_law_end_595762, List.map_cons, List.map_nil, List.length_cons, List.length_nil, Nat.reduceAdd, Nat.reduceSub, Nat.zero_add, List.replicate, List.cons_append, List.nil_append]
  have hlo : (outW W r).length = r.length := by unfold outW; rw [List.length_map, List.length_zipIdx]
  refine wSs_cons (wS_ret (wE_blt (wA_cons ?_)))
  apply ev_go
  · apply ev_bltF
    · apply evs_cons
      · repeat (first | exact ixr _ ‹_› | exact tk _ ‹_› | exact slf_Tt | fail "E")
      · exact evs_nil
    · have e1 : ((List.range r.length).map fun y => D.tup [.str (r.getD y ""), .tup (sD (takeD (devOf W (r.getD y "")) (r.take y)))]) = (outW W r).map pairD := by
        rw [out_range, List.map_map]; rfl
      rw [e1]
      exact blf_sortE (by omega)
  refine wA_nil (b_tuple_kl (by rw [List.length_map, (srtE_perm _).length_eq, hlo]; exact Nat.le_trans hl (by decide)) (Dr.refl q))
def tD (r : List Str) : D := .tup (sD r)
def stepR (W : Wld) (rows : List (List Str)) : List (List Str) := rows.flatMap fun r => (newC W r).map fun x => r ++ [x]
def iterR (W : Wld) : Nat → List (List Str) → List (List Str)
  | 0, rows => rows
  | n + 1, rows => iterR W n (stepR W rows)
/-- all rows -/
def rowsF (W : Wld) : List (List Str) := iterR W (cw W).length [[]]
theorem newC_len (W : Wld) (r : List Str) : (newC W r).length ≤ W.length := by unfold newC; rw [List.length_map]; exact List.length_filter_le _ _
theorem flat_len (W : Wld) : ∀ rows : List (List Str), (stepR W rows).length ≤ rows.length * W.length
  | [] => by simp [stepR]
  | r :: rows => by
    have ih := flat_len W rows
    unfold stepR at ih ⊢
    rw [List.flatMap_cons, List.length_append, List.length_map, List.length_cons, Nat.succ_mul]
    have := newC_len W r
    omega
theorem stepR_mem {W : Wld} {rows : List (List Str)} {n : Nat} (h : ∀ r ∈ rows, PreC W r ∧ r.length = n) : ∀ r ∈ stepR W rows, PreC W r ∧ r.length = n + 1 := fun r hr => by
  unfold stepR at hr
  obtain ⟨r', h1, h2⟩ := List.mem_flatMap.mp hr
  obtain ⟨x, hx, rfl⟩ := List.mem_map.mp h2
  obtain ⟨h3, h4⟩ := h r' h1
  exact ⟨h3.ext hx, by rw [List.length_append, h4]; rfl⟩
theorem iterR_mem {W : Wld} : ∀ (m : Nat) {rows : List (List Str)} {n : Nat}, (∀ r ∈ rows, PreC W r ∧ r.length = n) → ∀ r ∈ iterR W m rows, PreC W r ∧ r.length = n + m
  | 0, _, _, h => h
  | m + 1, _, n, h => fun r hr => by
    have := iterR_mem m (stepR_mem h) r hr
    exact ⟨this.1, by omega⟩
theorem rowsF_row {W : Wld} : ∀ r ∈ rowsF W, IsRow W r := fun r hr => by
  have := iterR_mem (cw W).length (rows := [[]]) (n := 0) (fun r hr => by rw [List.mem_singleton.mp hr]; exact ⟨preC_nil W, rfl⟩) r hr
  exact ⟨this.1, by omega⟩
theorem lrows_fn {k : Nat} {W : Wld} (hC : Has P "" "_law_can" f_i_law_can_c73f16) (hL : Has P "" "_law_comers" f_i_law_comers_9910fe) (hR : Has P "" "_law_rows" f_i_law_rows_115efb) (hW : WStr W) (h6 : W.length ≤ 6) : Fn P (k + 3) st "_law_rows" [worldD W] [] (.kl ((rowsF W).map tD)) := fn_of hR rfl rfl fun Q E q => by
  have hcl := (cw_ok hW.nd).len
  refine cal_of hR rfl ?_
  simp only [f_i_law_rows_115efb, List.map_cons, List.map_nil, List.length_cons, List.length_nil, Nat.reduceAdd, Nat.reduceSub, Nat.zero_add, List.replicate, List.cons_append, List.nil_append]
  refine wSs_cons (wS_asg ?_)
  apply ev_go
  · repeat (fail "E")
  refine tg_nm (wSs_cons (wS_for (wI_rngT (n := (cw W).length) (fun R hR => ?_) (by omega) ?_)))
  · apply ev_go
    · repeat (first | exact fn_of hL rfl rfl fun Q E q => lcomers_ok (k := k) hC hL hW q | fail "E")
    exact hR
  refine forL_inv (fun r L s => ∃ (rows : List (List Str)) (n : Nat) (a2 a3 a4 a5 a6 a7 : Option D), s = st ∧ L = [some (worldD W), some (.kl (rows.map tD)), a2, a3, a4, a5, a6, a7] ∧ (∀ x ∈ rows, PreC W x ∧ x.length = n) ∧ iterR W r.length rows = rowsF W ∧ n + r.length ≤ 6 ∧ rows.length ≤ 6 ^ n) ?_ ?_ ⟨[[]], 0, none, none, none, none, none, none, rfl, rfl, fun r hr => by rw [List.mem_singleton.mp hr]; exact ⟨preC_nil W, rfl⟩, by simp [rowsF], by simp; omega, by simp⟩
  · rintro x r L s nx ⟨rows, n, a2, a3, a4, a5, a6, a7, rfl, rfl, hp, hi, hn, hrl⟩ hnx
    rw [List.length_cons] at hn
    have hn5 : n ≤ 5 := by omega
    have hp6 : 6 ^ n ≤ 7776 := Nat.le_trans (Nat.pow_le_pow_right (by decide) hn5) (by decide)
    refine tg_nm (wSs_cons (wS_asg ?_))
    apply ev_go
    · repeat (fail "E")
    refine tg_nm (wSs_cons (wS_for (wI_klT (xs := rows.map tD) (fun R hR => wE_var rfl hR) ?_)))
    refine forL_inv (fun r2 L s2 => ∃ (done rest : List (List Str)) (b4 b5 b6 b7 : Option D), r2 = rest.map tD ∧ done ++ rest = rows ∧ s2 = s ∧ L = [some (worldD W), some (.kl (rows.map tD)), some x, some (.kl ((stepR W done).map tD)), b4, b5, b6, b7]) ?_ ?_ ⟨[], rows, _, _, _, _, rfl, rfl, rfl, rfl⟩
    · rintro y r2 L s2 nx2 ⟨done, rest, b4, b5, b6, b7, hr2, hdr, rfl, rfl⟩ hnx2
      cases rest with
      | nil => cases hr2
      | cons ro rest =>
        cases hr2
        have hro : ro ∈ rows := by rw [← hdr]; simp
        obtain ⟨hpr, hln⟩ := hp ro hro
        have hok := hpr.sok hW
        have hsl : (stepR W done).length ≤ 46656 := by
          have h1 := flat_len W done
          have h2 : done.length ≤ rows.length := by rw [← hdr, List.length_append]; omega
          have h3 : done.length * W.length ≤ 7776 * 6 := Nat.mul_le_mul (by omega) h6
          omega
        refine tg_nm (wSs_cons (wS_asg ?_))
        apply ev_go
        · repeat (first | exact (hW.dev _ ‹_›).nm | exact can_fn hC hW ‹_› (.inr rfl) hok | fail "E")
        have e0 : ((W.filter fun y => !decide (y.name ∈ ro) && devCan y ro).map fun y => D.str y.name) = sD (newC W ro) := by unfold sD newC; rw [List.map_map]; rfl
        rw [e0]
        have hnl := newC_len W ro
        refine tg_nm (wSs_cons (wS_asg ?_))
        have hsr : (sD ro).length = ro.length := by unfold sD; rw [List.length_map]
        apply ev_go
        · repeat (first | (show (sD ro ++ [_]).length ≤ 1000000; rw [List.length_append, hsr]; simp only [List.length_cons, List.length_nil]; omega) | fail "E")
        have e1 : (stepR W done).map tD ++ (newC W ro).map (fun y => D.tup (sD ro ++ [D.str y])) = (stepR W (done ++ [ro])).map tD := by
          unfold stepR
          rw [List.flatMap_append, List.map_append]
          simp only [List.flatMap_cons, List.flatMap_nil, List.append_nil, List.map_map]
          congr 2
          funext y
          show D.tup (sD ro ++ [D.str y]) = tD (ro ++ [y])
          unfold tD sD
          rw [List.map_append]; rfl
        rw [e1]
        exact tg_nm (wSs_nil (hnx2 _ _ (Dr.refl ⟨rfl, done ++ [ro], rest, _, _, _, _, rfl, by rw [← hdr]; simp, rfl, rfl⟩)))
    · rintro L s2 ⟨done, rest, b4, b5, b6, b7, hr2, hdr, rfl, rfl⟩
      have hrn : rest = [] := by
        cases rest with
        | nil => rfl
        | cons _ _ => cases hr2
      subst hrn
      rw [List.append_nil] at hdr
      subst hdr
      have h1 := flat_len W done
      have h3 : done.length * W.length ≤ 6 ^ n * 6 := Nat.mul_le_mul hrl h6
      have h4 : 6 ^ n * 6 = 6 ^ (n + 1) := (Nat.pow_succ ..).symm
      refine wSs_cons (wS_asg ?_)
      apply ev_go
      · repeat (first | (rw [List.length_map]; omega) | fail "E")
      exact tg_nm (wSs_nil (hnx _ _ (Dr.refl ⟨trivial, stepR W done, n + 1, _, _, _, _, _, _, rfl, rfl, stepR_mem hp, hi, by omega, by omega⟩)))
  · rintro L s ⟨rows, n, a2, a3, a4, a5, a6, a7, rfl, rfl, hp, hi, hn, hrl⟩
    refine wSs_cons (wS_ret (wE_var rfl (Dr.refl ?_)))
    have : rows = rowsF W := hi
    rw [this]; exact q
end
end Py

set_option Elab.async false
set_option linter.all false
set_option maxRecDepth 100000
set_option maxHeartbeats 4000000
/-! k13: ends of rows. -/
namespace Py
open PySem PySem.Spec PyProof.Rows L2
local macro_rules | `(tactic| trace "K") => `(tactic| first | assumption | exact put_same | exact (put_ne (by assumption)).trans put_same | exact (put_ne (by assumption)).trans (by assumption) | exact (put_ne (by assumption)).trans ((put_ne (by assumption)).trans put_same) | exact (put_ne (by assumption)).trans ((put_ne (by assumption)).trans (by assumption)))
local macro_rules | `(tactic| trace "V") => `(tactic| repeat (first | (with_reducible first | refine wSs_cons ?_ | refine wSs_nil ?_ | refine wS_exp ?_ | refine wS_ret ?_ | refine wS_pass ?_ | refine wS_asg ?_ | refine wS_par ?_ | refine wS_iff ?_ | refine wS_brk ?_ | refine wS_cnt ?_ | refine wE_non ?_ | refine wE_bl ?_ | refine wE_int ?_ | refine wE_str ?_ | refine wE_bty ?_ | refine wE_bin ?_ | refine wE_cmp ?_ | refine wE_and ?_ | refine wE_or ?_ | refine wE_not ?_ | refine wE_ite ?_ | refine wE_tup ?_ | refine wE_lst ?_ | refine wE_call ?_ | refine wE_blt ?_ | refine wE_att ?_ | refine wE_idx ?_ | refine wE_slc ?_ | refine wE_frzB ?_ | refine wE_frzC ?_ | refine wE_frzL ?_ | refine wE_frzS ?_ | refine wE_frzV ?_ | refine wA_nil ?_ | refine wA_cons ?_ | refine wTs_nil ?_ | refine wTs_cons ?_ | refine tg_nm ?_ | refine tru_bl ?_ | refine tru_int ?_ | refine tru_non ?_ | refine tru_tup ?_ | refine tru_kl ?_ | refine op_addI ?_ | refine op_subI ?_ | refine frz_kl ?_ | refine frz_tup ?_ | refine frz_int ?_ | refine c_gtI ?_ | refine c_ltI ?_ | refine c_geI ?_ | refine c_leI ?_ | refine b_len_kl ?_ | refine b_len_tup ?_ | refine b_len_sl ?_ | refine b_len_kd ?_ | refine b_int_int ?_ | refine b_int_bl ?_ | refine b_abs ?_ | refine b_min ?_ | refine wS_ssub ?_ | refine wE_mth ?_ | refine wE_bm ?_ | refine wE_negI ?_ | refine wE_new ?_ | refine wS_satt ?_ | refine opt_n ?_ | refine opt_i ?_) | ((with_reducible apply wE_var); (rfl)) | ((with_reducible apply tg_tp); (rfl)) | ((with_reducible apply par_of); (rfl)) | ((with_reducible apply newT_of); (exact Nat.le_of_ble_eq_true rfl)) | ((with_reducible apply newL_frz); (exact Nat.le_of_ble_eq_true rfl)) | ((with_reducible apply ix_ref); (first | assumption | exact put_same | exact (put_ne (by assumption)).trans put_same | exact (put_ne (by assumption)).trans (by assumption) | exact (put_ne (by assumption)).trans ((put_ne (by assumption)).trans put_same) | exact (put_ne (by assumption)).trans ((put_ne (by assumption)).trans (by assumption))); (rfl)) | ((with_reducible apply ssub_ref); (first | assumption | exact put_same | exact (put_ne (by assumption)).trans put_same | exact (put_ne (by assumption)).trans (by assumption) | exact (put_ne (by assumption)).trans ((put_ne (by assumption)).trans put_same) | exact (put_ne (by assumption)).trans ((put_ne (by assumption)).trans (by assumption))); (rfl)) | ((with_reducible apply ix_tup); (rfl)) | ((with_reducible apply ix_kl); (rfl)) | ((with_reducible apply op_modI); (first | assumption | decide)) | ((with_reducible apply op_fdivI); (first | (constructor <;> assumption) | decide)) | ((with_reducible apply op_mulL); (decide)) | ((with_reducible apply op_mulR); (decide)) | ((with_reducible apply b_len_ref); (first | assumption | exact put_same | exact (put_ne (by assumption)).trans put_same | exact (put_ne (by assumption)).trans (by assumption) | exact (put_ne (by assumption)).trans ((put_ne (by assumption)).trans put_same) | exact (put_ne (by assumption)).trans ((put_ne (by assumption)).trans (by assumption)))) | ((with_reducible apply bmA_ref); (first | assumption | exact put_same | exact (put_ne (by assumption)).trans put_same | exact (put_ne (by assumption)).trans (by assumption) | exact (put_ne (by assumption)).trans ((put_ne (by assumption)).trans put_same) | exact (put_ne (by assumption)).trans ((put_ne (by assumption)).trans (by assumption))); (rfl))))
local macro_rules | `(tactic| fail "E") => `(tactic| first | (with_reducible first | apply ev_non | apply ev_bl | apply ev_int | apply ev_str | apply ev_bty | apply evs_nil | apply evt_nil | apply ev_cmp | apply ev_chn | apply ev_and | apply ev_or | apply ev_not | apply ev_ite | apply ev_tup | apply ev_lstF | apply evs_cons | apply evs_star | apply ev_call | apply ev_callF | apply ev_bltF | apply ev_blt | apply ev_att | apply ev_idx | apply ev_slcF | apply ev_slc | apply ev_mthF | apply ev_mth | apply ev_newF | apply ev_binF | apply ev_bin | apply ev_neg | apply ev_lcM | apply ev_lc | apply ev_revF | apply evt_one | apply evt_cons | apply evi_of | apply evi_rng | apply evi_enum | apply evi_zip | apply tr_bl | apply tr_non | apply tr_int | apply bo_addI | apply bo_subI | apply bof_addI | apply co_eqI | apply co_neI | apply co_ltI | apply co_leI | apply co_gtI | apply co_geI | apply co_ltS | apply co_eqS | apply co_neS | apply bl_intI | apply bl_intB) | exact ev_var rfl | exact fun _ => rfl | apply its_tup | apply its_kl | apply its_kd | exact its_lit its_tup | exact its_lit its_kl | exact is_S_str | exact is_S_tuple | exact is_S_list | exact is_S_int | exact is_S_bool | exact is_S_dict | exact is_T_str | exact is_T_tuple | exact is_T_list | exact is_T_int | exact is_T_bool | exact is_T_dict | exact is_K_str | exact is_K_tuple | exact is_K_list | exact is_K_int | exact is_K_bool | exact is_K_dict | exact is_I_str | exact is_I_tuple | exact is_I_list | exact is_I_int | exact is_I_bool | exact is_I_dict | exact is_B_str | exact is_B_tuple | exact is_B_list | exact is_B_int | exact is_B_bool | exact is_B_dict | exact is_N_str | exact is_N_tuple | exact is_N_list | exact is_N_int | exact is_N_bool | exact is_N_dict | apply zp_K | apply zp_T | apply enm_T | apply enm_K | apply tr_tupM | apply tr_klM | apply tr_tup | apply tr_kl | apply bof_addT | apply bo_addT | apply bof_addK | apply co_inL | apply co_inT | apply co_ninL | apply co_ninT | apply co_eqNilS | apply co_neNilS | apply co_eqNilW | apply bl_lenKm | apply bl_lenTm | apply bl_lenK | apply bl_lenT | apply bl_lenD | apply bl_all | apply bl_any | apply bl_tupK | apply bl_tupT | apply blf_listK | apply blf_listT | apply blf_sortS | apply blf_sortST | exact ix_T rfl | exact ix_K rfl | apply slf_K | apply slf_T | rfl | exact bl_isi (by decide +kernel) | exact bl_isi2 (by decide +kernel) (by decide +kernel) | assumption | (with_reducible intro _) | omega | (simp only [List.length_map, List.length_append, List.length_cons, List.length_nil, List.length_range, List.length_zipIdx, List.length_zip, List.length_reverse]; omega) | ((with_reducible refine (show (_ : Nat) ≤ _ from ?_)); grind [sD, List.length_filter_le, WStr]) | ((with_reducible refine (show SOk _ from ?_)); first | (show PyData.strOk _ = true; decide +kernel) | grind [WStr, DevStr]) | ((with_reducible refine (show ∀ x ∈ _, SOk x from ?_)); grind [WStr, DevStr]))
def f_i_law_right_131ceb : Fd := ⟨["_law_box_here"], 10, [], (.cons (.asg (.nm 1) (.lst .nil)) (.cons (.for_ (.nm 2) (.rng1 (.int 6)) (.cons (.asg (.nm 3) (.cmp .lt (.var 2) (.int 3))) (.cons (.asg (.nm 4) (.call "_law_world" (.cons (.var 0) (.cons (.ite (.var 3) (.bin .add (.int 2) (.call "_law_take" (.cons (.var 0) (.cons (.int 4) .nil)) [])) (.bin .add (.int 6) (.call "_law_take" (.cons (.var 0) (.cons (.int 5) .nil)) []))) (.cons (.cmp .eq (.call "_law_take" (.cons (.var 0) (.cons (.int 2) .nil)) []) (.int 0)) .nil))) [])) (.cons (.asg (.nm 5) (.call "_law_refill" (.cons (.var 1) (.cons (.var 4) .nil)) [])) (.cons (.asg (.nm 6) (.ite (.var 3) (.call "_law_rows" (.cons (.var 4) .nil) []) (.frz (.lc (.call "_law_row" (.cons (.var 0) (.cons (.var 4) .nil)) []) [9] (.nm 9) (.rng1 (.int 6)) .nil)))) (.cons (.for_ (.nm 7) (.of (.var 6)) (.cons (.asg (.nm 8) (.call "_law_end" (.cons (.var 4) (.cons (.var 7) .nil)) [])) (.cons (.iff (.not (.call "_law_same" (.cons (.frz (.lst (.cons (.call "end_of" (.cons (.var 4) (.cons (.var 7) .nil)) []) (.cons (.call "end_of" (.cons (.frz (.blt .list (.cons (.var 7) .nil))) (.cons (.var 5) .nil)) ["row", "world"]) .nil)))) (.cons (.frz (.lst (.cons (.var 8) (.cons (.var 8) .nil)))) .nil)) [])) (.cons (.ret (.bl false)) .nil) .nil) .nil))) (.cons (.iff (.cmp .ne (.var 5) (.call "_law_lists" (.cons (.var 4) .nil) [])) (.cons (.ret (.bl false)) .nil) .nil) .nil))))))) (.cons (.ret (.call "_law_same" (.cons (.call "end_of" (.cons (.tup .nil) (.cons (.tup .nil) .nil)) []) (.cons (.tup .nil) .nil)) [])) .nil)))⟩
def f_law_156456 : Fd := ⟨["_law_script"], 3, [], (.cons (.asg (.nm 1) (.call "_law_cells" (.cons (.var 0) (.cons (.int 2) .nil)) [])) (.cons (.ret (.blt .all (.cons (.frz (.lc (.call "_law_right" (.cons (.call "_law_box" (.cons (.var 1) (.cons (.var 2) .nil)) []) .nil) []) [2] (.nm 2) (.rng1 (.blt .len (.cons (.var 1) .nil))) .nil)) .nil))) .nil))⟩
def endP (e : List (Str × List Str)) : PyData := .tuple (e.map pairP)
/-- texts of an END -/
def EnOk (e : List (Str × List Str)) : Prop := e.length ≤ 1000 ∧ ∀ p ∈ e, SOk p.1 ∧ p.2.length ≤ 1000 ∧ ∀ x ∈ p.2, SOk x
theorem empty_ok : SOk "" := by show PyData.strOk "" = true; decide +kernel
theorem tkW_ok {w : List Str × Bool} {cs : List Str} (h : ∀ x ∈ w.1, SOk x) : SOk (tkW cs w) := by
  unfold tkW
  cases e : w.1.find? fun a => decide (a ∈ cs) with
  | none => exact empty_ok
  | some a => exact h a (List.mem_of_find?_eq_some e)
theorem endW_ok {W : Wld} {r : List Str} (hW : WStr W) (hr : PreC W r) : EnOk (endW W r) := by
  have hl : (endW W r).length = r.length := by
    unfold endW; rw [(srtE_perm _).length_eq]; unfold outW; rw [List.length_map, List.length_zipIdx]
  refine ⟨by rw [hl]; exact Nat.le_trans hr.len (Nat.le_trans hW.len (by decide)), fun p hp => ?_⟩
  have hp := (srtE_perm _).mem_iff.mp hp
  unfold outW at hp
  obtain ⟨q, hq, rfl⟩ := List.mem_map.mp hp
  have hx := hr.sub _ (zip_mem hq)
  obtain ⟨d, hd, e⟩ := name_dev hx
  refine ⟨nms_ok hW _ hx, ?_, ?_⟩
  · show (takeD (devOf W q.1) _).length ≤ _
    rw [← e, devOf_eq hW.nd hd]
    unfold takeD; rw [List.length_map]; exact Nat.le_trans (hW.wle d hd) (by decide)
  · intro x hx
    have hx : x ∈ takeD (devOf W q.1) (r.take q.2) := hx
    rw [← e, devOf_eq hW.nd hd] at hx
    unfold takeD at hx
    obtain ⟨w, hw, rfl⟩ := List.mem_map.mp hx
    exact tkW_ok ((hW.dev d hd).wi w hw)
theorem good_pair {n : Nat} {p : Str × List Str} (h1 : SOk p.1) (h2 : p.2.length ≤ 1000) (h3 : ∀ x ∈ p.2, SOk x) : Good (n + 2) (pairP p) := good_tuple (fun x hx => by
  rcases List.mem_cons.mp hx with rfl | hx
  · exact good_str h1
  · rw [List.mem_singleton.mp hx]; exact good_strsT h3 (by omega)) (by simp)
theorem good_end {n : Nat} {e : List (Str × List Str)} (h : EnOk e) : Good (n + 3) (endP e) := good_tuple (fun x hx => by
  obtain ⟨p, hp, rfl⟩ := List.mem_map.mp hx
  obtain ⟨h1, h2, h3⟩ := h.2 p hp
  exact good_pair h1 h2 h3) (by rw [List.length_map]; have := h.1; omega)
section
variable {P : Prog} {E : XD} {st : Sto} {Q : QD}
theorem dt_end (e : List (Str × List Str)) : Dt st (endD e) (endP e) := .tup (dts_of pairD pairP e fun p _ => dt_pair p)
/-- the turns of a comprehension by an invariant -/
theorem lcL_inv {stays : Sto → Prop} {turn : D → Sto → (Option D → Sto → Prop) → Prop} {fin : List D → Sto → Prop} (I : List D → List D → Sto → Prop)
    (step : ∀ x r acc s (nx : Option D → Sto → Prop), I (x :: r) acc s → (∀ d s', (Dr s' fun t => stays t ∧ I r (acc ++ [d]) t) → nx (some d) s') → (∀ s', (Dr s' fun t => stays t ∧ I r acc t) → nx none s') → turn x s nx) (done : ∀ acc s, I [] acc s → fin acc s) : ∀ {items acc : List D} {st : Sto}, I items acc st → lcL stays turn fin items acc st
  | [], acc, st, h => done acc st h
  | x :: r, acc, st, h => step x r acc st _ h (fun d s' ⟨t, h1, h2, h3⟩ => ⟨t, h1, h2, lcL_inv I step done h3⟩) fun s' ⟨t, h1, h2, h3⟩ => ⟨t, h1, h2, lcL_inv I step done h3⟩
theorem iterR_len (W : Wld) : ∀ (m : Nat) (rows : List (List Str)), (iterR W m rows).length ≤ rows.length * W.length ^ m
  | 0, rows => by simp [iterR]
  | m + 1, rows => by
    have h1 := iterR_len W m (stepR W rows)
    have h2 := flat_len W rows
    unfold iterR
    have h3 : (stepR W rows).length * W.length ^ m ≤ rows.length * W.length * W.length ^ m := Nat.mul_le_mul_right _ h2
    have h4 : rows.length * W.length * W.length ^ m = rows.length * W.length ^ (m + 1) := by rw [Nat.mul_assoc, Nat.pow_succ, Nat.mul_comm W.length]
    omega
theorem rowsF_len {W : Wld} (nd : (nms W).Nodup) (h6 : W.length ≤ 6) : (rowsF W).length ≤ 46656 := by
  have h1 := iterR_len W (cw W).length [[]]
  have h2 := (cw_ok nd).len
  have h3 : W.length ^ (cw W).length ≤ 6 ^ (cw W).length := Nat.pow_le_pow_left h6 _
  have h4 : 6 ^ (cw W).length ≤ 6 ^ 6 := Nat.pow_le_pow_right (by decide) (by omega)
  have h5 : (6 : Nat) ^ 6 = 46656 := by decide
  unfold rowsF
  simp only [List.length_cons, List.length_nil, Nat.zero_add, Nat.one_mul] at h1
  omega
structure HasK13 (P : Prog) : Prop where
  r : HasR P
  eo : Has P "" "end_of" f_end_of_b93daf
  tk : Has P "" "_law_take" f_i_law_take_3a2ad2
  of : Has P "" "_law_of" f_i_law_of_0f7692
  nm : Has P "" "_law_names" f_i_law_names_1e383e
  so : Has P "" "_law_some" f_i_law_some_c1ed9a
  wo : Has P "" "_law_world" f_i_law_world_b8d4d3
  ca : Has P "" "_law_can" f_i_law_can_c73f16
  lc : Has P "" "_law_comers" f_i_law_comers_9910fe
  li : Has P "" "_law_lists" f_i_law_lists_e25d27
  re : Has P "" "_law_refill" f_i_law_refill_4fb0a7
  sa : Has P "" "_law_same" f_i_law_same_0ba4f5
  ta : Has P "" "_law_takes" f_i_law_takes_32a987
  ro : Has P "" "_law_row" f_i_law_row_2a3ae7
  rs : Has P "" "_law_rows" f_i_law_rows_115efb
  en : Has P "" "_law_end" f_i_law_end_595762
theorem WldOk.name {n : Nat} {mu : Bool} {W : Wld} (h : WldOk n mu W) : ∀ x ∈ nms W, nameB x = true := fun x hx => pool_name x (h.pool x hx)
theorem row_nil : IsRow [] [] := ⟨preC_nil [], by rw [cw_nil]⟩
theorem end_nil : endW [] [] = [] := by unfold endW outW srtE; exact List.mergeSort_nil
theorem right13 {k : Nat} {p : Addr} {o : O} {m : Nat} (h : HasK13 P) (hR : Has P "" "_law_right" f_i_law_right_131ceb) (hb : BxO (m + 20000) o) (hst : st p = some o) (q : ∀ o' s, Sub (put st p o') s → BxO m o' → Q (.bl true) s) : cal P (k + 10) "" "_law_right" [.ref p] st Q E := by
  refine cal_of hR rfl ?_
  simp only [f_i_law_right_131ceb, List.map_cons, List.map_nil, List.length_cons, List.length_nil, Nat.reduceAdd, Nat.reduceSub, Nat.zero_add, List.replicate, List.cons_append, List.nil_append]
  refine wSs_cons (wS_asg (wE_lst (wA_nil (newL_of (Nat.zero_le _) fun p1 hp1 => tg_nm ?_))))
  have np1 := some_ne hst hp1
  refine wSs_cons (wS_for (wI_rngT (n := 6) (fun R hR => wE_int hR) (by decide) ?_))
  refine forL_inv (fun r L s => ∃ (j : Nat) (o' : O) (ps : List PyData) (a2 a3 a4 a5 a6 a7 a8 a9 : Option D), r = ((List.range 6).map fun i : Nat => D.int (i : Int)).drop j ∧ s = put (put st p o') p1 (.lst (lisDs ps)) ∧ L = [some (.ref p), some (.ref p1), a2, a3, a4, a5, a6, a7, a8, a9] ∧ (∀ x ∈ ps, Good 4 x) ∧ ps.length ≤ 100 ∧ BxO (m + 3000 * r.length) o') ?_ ?_ ⟨0, o, [], none, none, none, none, none, none, none, none, rfl, by rw [put_id hst]; rfl, rfl, nofun, Nat.zero_le _, hb.le (by simp)⟩
  · rintro x r L s nx ⟨j, o', ps, a2, a3, a4, a5, a6, a7, a8, a9, hr, rfl, rfl, hg, hps, hb⟩ hnx
    rw [List.length_cons] at hb
    obtain ⟨lt, rfl, hr'⟩ := rng_drop hr.symm
    obtain ⟨M, hM⟩ : ∃ M, m + 3000 * r.length = M := ⟨_, rfl⟩
    have hb1 : BxO ((M + 2000) + 1) o' := hb.le (by omega)
    refine tg_nm ?_
    refine wSs_cons (wS_asg ?_)
    apply ev_go
    · repeat (fail "E")
    refine tg_nm ?_
    refine wSs_mid (fun L s => ∃ (W : Wld) (o2 : O) (n : Nat) (mu : Bool), WldOk n mu W ∧ n ≤ 10 ∧ (j < 3 → n ≤ 5) ∧ BxO (M + 900) o2 ∧ s = put (put st p o2) p1 (.lst (lisDs ps)) ∧ L = [some (.ref p), some (.ref p1), some (.int (j : Nat)), some (.bl (decide ((j : Int) < 3))), some (worldD W), a5, a6, a7, a8, a9]) ?_ ?_
    · have fin : ∀ (n : Nat) (o2 : O), n ≤ 10 → (j < 3 → n ≤ 5) → BxO ((M + 1900) + 1) o2 → wpA P (cal P (k + 9)) (.cons (.cmp .eq (.call "_law_take" (.cons (.var 0) (.cons (.int 2) .nil)) []) (.int 0)) .nil) [some (.ref p), some (.ref p1), some (.int (j : Nat)), some (.bl (decide ((j : Int) < 3))), a4, a5, a6, a7, a8, a9] (put (put st p o2) p1 (.lst (lisDs ps))) (fun ds t => callR P (cal P (k + 9)) "" "_law_world" ([.ref p, .int (n : Nat)] ++ ds) [] t (fun d s => tgR (.nm 4) d [some (.ref p), some (.ref p1), some (.int (j : Nat)), some (.bl (decide ((j : Int) < 3))), a4, a5, a6, a7, a8, a9] fun L' => Dr s fun s => ∃ (W : Wld) (o2 : O) (n : Nat) (mu : Bool), WldOk n mu W ∧ n ≤ 10 ∧ (j < 3 → n ≤ 5) ∧ BxO (M + 900) o2 ∧ s = put (put st p o2) p1 (.lst (lisDs ps)) ∧ L' = [some (.ref p), some (.ref p1), some (.int (j : Nat)), some (.bl (decide ((j : Int) < 3))), some (worldD W), a5, a6, a7, a8, a9]) E) E := fun n o2 hn hn5 hb2 => by
        trace "V"
        refine call_of h.tk rfl rfl (take_ok h.tk hb2 (by trace "K") (by decide) (by decide) fun r2 o3 hr2 hb3 => ?_)
        rw [put2 np1]
        trace "V"
        refine c_eqI0 ?_
        refine wA_nil ?_
        simp only [List.cons_append, List.nil_append]
        refine call_of h.wo rfl rfl (world_ok (m := M + 900) h.tk h.of h.nm h.so h.wo (hb3.le (by omega)) (by trace "K") hn fun W o4 hWo hb4 => ?_)
        rw [put2 np1]
        exact tg_nm (Dr.refl ⟨W, o4, n, _, hWo, hn, hn5, hb4, rfl, rfl⟩)
      refine wS_asg (wE_call (wA_cons (wE_var rfl (wA_cons (wE_ite (wE_var rfl (tru_bl ?_)))))))
      by_cases hj : j < 3
      · rw [if_pos (decide_eq_true (by omega))]
        trace "V"
        refine call_of h.tk rfl rfl (take_ok h.tk hb1 (by trace "K") (by decide) (by decide) fun r1 o2 hr1 hb2 => ?_)
        rw [put2 np1]
        refine op_addI ?_
        have e : (2 : Int) + ((r1 : Nat) : Int) = ((2 + r1 : Nat) : Int) := by omega
        rw [e]
        have h4 : r1 < 4 := hr1
        exact fin (2 + r1) o2 (by omega) (by omega) (hb2.le (by omega))
      · rw [if_neg (by simp; omega)]
        trace "V"
        refine call_of h.tk rfl rfl (take_ok h.tk hb1 (by trace "K") (by decide) (by decide) fun r1 o2 hr1 hb2 => ?_)
        rw [put2 np1]
        refine op_addI ?_
        have e : (6 : Int) + ((r1 : Nat) : Int) = ((6 + r1 : Nat) : Int) := by omega
        rw [e]
        have h4 : r1 < 5 := hr1
        exact fin (6 + r1) o2 (by omega) (by omega) (hb2.le (by omega))
    · rintro L s ⟨W, o2, n, mu, hWo, hn, hn5, hb2, rfl, rfl⟩
      have hW := hWo.str (by omega)
      have hnm := hWo.name
      have hwl : W.length = n := hWo.len
      refine wSs_cons (wS_asg (wE_call (wA_cons (wE_var rfl (wA_cons (wE_var rfl (wA_nil ?_)))))))
      refine call_of h.re rfl rfl (refill_ok (k := k + 2) (n := 4) (qs := W.map devP) (z := worldP W) h.re h.li put_same hg (by decide) (by omega) (.inl rfl) (good_world hW) (by rw [List.length_map]; omega) (fun s => dt_world W) ?_)
      rw [put_put]
      refine tg_nm (wSs_mid (fun L s => ∃ (rows : List (List Str)) (o3 : O) (c9 : Option D), (∀ r ∈ rows, IsRow W r) ∧ rows.length ≤ 1000000 ∧ BxO M o3 ∧ s = put (put st p o3) p1 (.lst (lisDs (W.map devP))) ∧ L = [some (.ref p), some (.ref p1), some (.int (j : Nat)), some (.bl (decide ((j : Int) < 3))), some (worldD W), some (.ref p1), some (.kl (rows.map tD)), a7, a8, c9]) ?_ ?_)
      · refine wS_asg (wE_ite (wE_var rfl (tru_bl ?_)))
        by_cases hj : j < 3
        · rw [if_pos (decide_eq_true (by omega))]
          apply ev_go
          · repeat (first | exact lrows_fn (k := k + 6) h.ca h.lc h.rs hW (by have := hn5 hj; omega) | fail "E")
          refine tg_nm (Dr.refl ⟨rowsF W, o2, _, rowsF_row, ?_, hb2.le (by omega), rfl, rfl⟩)
          exact Nat.le_trans (rowsF_len hW.nd (by have := hn5 hj; omega)) (by decide)
        · rw [if_neg (by simp; omega)]
          refine wE_frz ?_
          refine wI_rngT (n := 6) (fun R hR => wE_int hR) (by decide) ?_
          refine lcL_inv (fun r acc s => ∃ (rows : List (List Str)) (o3 : O), acc = rows.map tD ∧ (∀ r ∈ rows, IsRow W r) ∧ rows.length + r.length = 6 ∧ BxO (M + 100 * r.length) o3 ∧ s = put (put st p o3) p1 (.lst (lisDs (W.map devP)))) ?_ ?_ ⟨[], o2, rfl, nofun, rfl, hb2.le (by simp), rfl⟩
          · rintro x2 r2 acc s2 nx2 ⟨rows, o3, rfl, hrw, hl2, hb3, rfl⟩ hs hn0
            rw [List.length_cons] at hl2 hb3
            refine tg_nm (wTs_nil ?_)
            rw [if_pos rfl]
            trace "V"
            refine call_of h.ro rfl rfl (lrow_ok (k := k + 6) (m := M + 100 * r2.length) h.tk h.of h.ca h.lc h.ro hW (hb3.le (by omega)) (by trace "K") fun row o4 hrow hb4 => ?_)
            rw [put2 np1]
            refine hs _ _ (Dr.refl ⟨trivial, rows ++ [row], o4, by rw [List.map_append]; rfl, fun r hr => ?_, by rw [List.length_append]; simp only [List.length_cons, List.length_nil]; omega, hb4, rfl⟩)
            rcases List.mem_append.mp hr with h1 | h1
            · exact hrw r h1
            · rw [List.mem_singleton.mp h1]; exact hrow
          · rintro acc s2 ⟨rows, o3, rfl, hrw, hl2, hb3, rfl⟩
            have h6 : rows.length = 6 := by simpa using hl2
            refine newL_frz (by rw [List.length_map, h6]; decide) ?_
            exact tg_nm (Dr.refl ⟨rows, o3, _, hrw, by omega, hb3.le (by simp), rfl, rfl⟩)
      · rintro L s ⟨rows, o3, c9, hrw, hrl, hb3, rfl, rfl⟩
        have hSp : put (put st p o3) p1 (O.lst (lisDs (W.map devP))) p1 = some (.lst (lisDs (W.map devP))) := put_same
        generalize hS : put (put st p o3) p1 (O.lst (lisDs (W.map devP))) = S at hSp
        have hds : Dt S (.ref p1) (lisP (worldP W)) := .lst (by unfold rdL; simp only [hSp]) (dts_lis _ (noDc_world W))
        have hws : WSeen S (.ref p1) W := .lis hW hds
        refine wSs_cons (wS_for (wI_klT (xs := rows.map tD) (fun R hR => wE_var rfl hR) ?_))
        refine forL_inv (fun r2 L s2 => ∃ (rest : List (List Str)) (b7 b8 : Option D), r2 = rest.map tD ∧ (∀ r ∈ rest, IsRow W r) ∧ s2 = S ∧ L = [some (.ref p), some (.ref p1), some (.int (j : Nat)), some (.bl (decide ((j : Int) < 3))), some (worldD W), some (.ref p1), some (.kl (rows.map tD)), b7, b8, c9]) ?_ ?_ ⟨rows, a7, a8, rfl, hrw, rfl, rfl⟩
        · rintro y r2 L s2 nx2 ⟨rest, b7, b8, hr2, hrest, rfl, rfl⟩ hnx2
          cases rest with
          | nil => cases hr2
          | cons ro rest =>
            cases hr2
            have hro := hrest ro (List.mem_cons_self ..)
            have hrol : ro.length ≤ 100 := Nat.le_trans hro.toPreC.len hW.len
            have eok := endW_ok hW hro.toPreC
            refine tg_nm (wSs_cons (wS_asg ?_))
            apply ev_go
            · repeat (first | exact lend_fn (k := k + 7) h.ta h.en hW hro.sub (by omega) | fail "E")
            refine tg_nm (wSs_cons (wS_iff ?_))
            have hsr : (sD ro).length ≤ 1000000 := by unfold sD; rw [List.length_map]; omega
            apply ev_go
            · repeat (first | exact same_fn (k := k + 4) (n := 4) h.sa (.list [endP (endW W ro), endP (endW W ro)]) (good_list (n := 3) (fun x hx => by rcases List.mem_cons.mp hx with rfl | hx; exact good_end (n := 0) eok; rw [List.mem_singleton.mp hx]; exact good_end (n := 0) eok) (by simp)) (.lst rfl (.cons (dt_end _) (.cons (dt_end _) .nil))) (.lst rfl (.cons (dt_end _) (.cons (dt_end _) .nil))) | exact fn_of h.eo rfl rfl fun Q E q => endof_ok (k := k + 1) h.r h.eo hW hnm (.tup hW) (.inl (.tup (dts_strs ro))) hro q | exact fn_kw h.eo rfl fun Q E q => endof_ok (k := k + 1) h.r h.eo hW hnm hws (.inr (.lst rfl (dts_strs ro))) hro q | exact hsr | fail "E")
            refine tru_bl ?_
            rw [if_neg (by simp)]
            exact wSs_nil (wSs_nil (hnx2 _ _ (Dr.refl ⟨rfl, rest, _, _, rfl, fun r hr => hrest r (List.mem_cons_of_mem _ hr), rfl, rfl⟩)))
        · rintro L s2 ⟨rest, b7, b8, hr2, hrest, rfl, rfl⟩
          refine wSs_cons (wS_iff ?_)
          apply ev_go
          · repeat (first | exact lists_fn (k := k + 3) (n := 5) h.li _ (good_world hW) (dt_world W) | exact co_neD (good_world hW).lis (by decide) hds (dt_lis _ (noDc_world W)) | fail "E")
          refine tru_bl ?_
          rw [if_neg (by simp)]
          refine wSs_nil (wSs_nil (hnx _ _ (Dr.refl ⟨trivial, j + 1, o3, W.map devP, _, _, _, _, _, _, _, _, hr', hS.symm, rfl, ?_, ?_, by rw [hM]; exact hb3⟩)))
          · intro x hx
            have g := good_world hW
            exact ⟨depth_mem (Nat.le_of_succ_le_succ g.dp) x hx, widePs_all (Bool.and_eq_true_iff.mp g.wi).2 x hx, canLay_mem g.la x hx, noDc_mem g.nd x hx⟩
          · rw [List.length_map]; omega
  · rintro L s ⟨j, o', ps, a2, a3, a4, a5, a6, a7, a8, a9, hr, rfl, rfl, hg, hps, hb⟩
    refine wSs_cons (wS_ret ?_)
    have ee : D.tup [] = endD (endW [] []) := by rw [end_nil]; rfl
    apply ev_go
    · repeat (first | exact same_fn (k := k + 6) (n := 2) h.sa (.tuple []) ⟨by decide, rfl, rfl, rfl⟩ (by rw [end_nil]; exact .tup .nil) (.tup .nil) | exact fn_of h.eo rfl rfl fun Q E q => endof_ok (k := k + 1) (W := []) (r := []) h.r h.eo wnil nofun (.tup wnil) (.inl (.tup .nil)) row_nil q | fail "E")
    refine Dr.refl (q o' _ (Sub.put ?_) (hb.le (by simp)))
    rw [put_ne np1.symm]; exact hp1
theorem law13 {k : Nat} {w : D} {ns : List Int} (hw : rdL st w = some (ns.map D.int)) (h : HasK13 P) (hR : Has P "" "_law_right" f_i_law_right_131ceb) (hB : Has P "" "_law_box" f_i_law_box_b17dc2) (hC : Has P "" "_law_cells" f_i_law_cells_2580d9) (hL : Has P "" "law" f_law_156456) (hn : ns.length ≤ 63) (q : Q (.bl true) st) : cal P (k + 11) "" "law" [w] st Q E := by
  refine cal_of hL rfl ?_
  simp only [f_law_156456, List.map_cons, List.map_nil, List.length_cons, List.length_nil, Nat.reduceAdd, Nat.reduceSub, Nat.zero_add, List.replicate, List.cons_append, List.nil_append]
  trace "V"
  refine call_of hC rfl rfl (cells_ok (mo := 2) hw hC hn (by decide) (by decide) fun cs h0 h3 => ?_)
  trace "V"
  refine wE_lcD (List.range cs.length) (fun i : Nat => D.int (i : Int)) (fun _ => .bl true) (fun R hR => wI_rng (n := cs.length) (fun R hR => ?_) (by omega) hR) ?_ (by rw [List.length_range]; omega) ?_
  · trace "V"
    rw [List.length_map]; exact hR
  · intro j hj nx hn
    have hj : j < cs.length := List.mem_range.mp hj
    refine tg_nm ?_
    trace "V"
    rw [if_pos rfl]
    trace "V"
    refine call_of hB rfl rfl (box_ok hB hj h3 fun p o hp hb => ?_)
    trace "V"
    refine call_of hR rfl rfl (right13 (m := 0) h hR (hb.le (by decide)) put_same fun o' s hs _ => ?_)
    rw [put_put] at hs
    exact hn _ ((Sub.put hp).trans hs)
  trace "V"
  refine b_all (allB_map (fun _ : Nat => true) (List.range cs.length)) ?_
  have e : ((List.range cs.length).map fun _ : Nat => true).all id = true := by
    rw [List.all_eq_true]; intro b hb; obtain ⟨_, _, rfl⟩ := List.mem_map.mp hb; rfl
  rw [e]
  exact Dr.refl q
end
end Py

set_option Elab.async false
set_option linter.all false
set_option maxRecDepth 100000
set_option maxHeartbeats 4000000
/-! Lists in place of some tuples; is_row. -/
namespace Py
open PySem PySem.Spec PyProof.Rows L2
local macro_rules | `(tactic| trace "K") => `(tactic| first | assumption | exact put_same | exact (put_ne (by assumption)).trans put_same | exact (put_ne (by assumption)).trans (by assumption) | exact (put_ne (by assumption)).trans ((put_ne (by assumption)).trans put_same) | exact (put_ne (by assumption)).trans ((put_ne (by assumption)).trans (by assumption)))
local macro_rules | `(tactic| trace "V") => `(tactic| repeat (first | (with_reducible first | refine wSs_cons ?_ | refine wSs_nil ?_ | refine wS_exp ?_ | refine wS_ret ?_ | refine wS_pass ?_ | refine wS_asg ?_ | refine wS_par ?_ | refine wS_iff ?_ | refine wS_brk ?_ | refine wS_cnt ?_ | refine wE_non ?_ | refine wE_bl ?_ | refine wE_int ?_ | refine wE_str ?_ | refine wE_bty ?_ | refine wE_bin ?_ | refine wE_cmp ?_ | refine wE_and ?_ | refine wE_or ?_ | refine wE_not ?_ | refine wE_ite ?_ | refine wE_tup ?_ | refine wE_lst ?_ | refine wE_call ?_ | refine wE_blt ?_ | refine wE_att ?_ | refine wE_idx ?_ | refine wE_slc ?_ | refine wE_frzB ?_ | refine wE_frzC ?_ | refine wE_frzL ?_ | refine wE_frzS ?_ | refine wE_frzV ?_ | refine wA_nil ?_ | refine wA_cons ?_ | refine wTs_nil ?_ | refine wTs_cons ?_ | refine tg_nm ?_ | refine tru_bl ?_ | refine tru_int ?_ | refine tru_non ?_ | refine tru_tup ?_ | refine tru_kl ?_ | refine op_addI ?_ | refine op_subI ?_ | refine frz_kl ?_ | refine frz_tup ?_ | refine frz_int ?_ | refine c_gtI ?_ | refine c_ltI ?_ | refine c_geI ?_ | refine c_leI ?_ | refine b_len_kl ?_ | refine b_len_tup ?_ | refine b_len_sl ?_ | refine b_len_kd ?_ | refine b_int_int ?_ | refine b_int_bl ?_ | refine b_abs ?_ | refine b_min ?_ | refine wS_ssub ?_ | refine wE_mth ?_ | refine wE_bm ?_ | refine wE_negI ?_ | refine wE_new ?_ | refine wS_satt ?_ | refine opt_n ?_ | refine opt_i ?_) | ((with_reducible apply wE_var); (rfl)) | ((with_reducible apply tg_tp); (rfl)) | ((with_reducible apply par_of); (rfl)) | ((with_reducible apply newT_of); (exact Nat.le_of_ble_eq_true rfl)) | ((with_reducible apply newL_frz); (exact Nat.le_of_ble_eq_true rfl)) | ((with_reducible apply ix_ref); (first | assumption | exact put_same | exact (put_ne (by assumption)).trans put_same | exact (put_ne (by assumption)).trans (by assumption) | exact (put_ne (by assumption)).trans ((put_ne (by assumption)).trans put_same) | exact (put_ne (by assumption)).trans ((put_ne (by assumption)).trans (by assumption))); (rfl)) | ((with_reducible apply ssub_ref); (first | assumption | exact put_same | exact (put_ne (by assumption)).trans put_same | exact (put_ne (by assumption)).trans (by assumption) | exact (put_ne (by assumption)).trans ((put_ne (by assumption)).trans put_same) | exact (put_ne (by assumption)).trans ((put_ne (by assumption)).trans (by assumption))); (rfl)) | ((with_reducible apply ix_tup); (rfl)) | ((with_reducible apply ix_kl); (rfl)) | ((with_reducible apply op_modI); (first | assumption | decide)) | ((with_reducible apply op_fdivI); (first | (constructor <;> assumption) | decide)) | ((with_reducible apply op_mulL); (decide)) | ((with_reducible apply op_mulR); (decide)) | ((with_reducible apply b_len_ref); (first | assumption | exact put_same | exact (put_ne (by assumption)).trans put_same | exact (put_ne (by assumption)).trans (by assumption) | exact (put_ne (by assumption)).trans ((put_ne (by assumption)).trans put_same) | exact (put_ne (by assumption)).trans ((put_ne (by assumption)).trans (by assumption)))) | ((with_reducible apply bmA_ref); (first | assumption | exact put_same | exact (put_ne (by assumption)).trans put_same | exact (put_ne (by assumption)).trans (by assumption) | exact (put_ne (by assumption)).trans ((put_ne (by assumption)).trans put_same) | exact (put_ne (by assumption)).trans ((put_ne (by assumption)).trans (by assumption))); (rfl))))
def f_i_law_mixed_827f6c : Fd := ⟨["_law_box_here", "_law_matter"], 4, [], (.cons (.iff (.not (.blt .isinstance (.cons (.var 1) (.cons (.tup (.cons (.bty "list") (.cons (.bty "tuple") .nil))) .nil)))) (.cons (.ret (.var 1)) .nil) .nil) (.cons (.asg (.nm 2) (.frz (.lc (.call "_law_mixed" (.cons (.var 0) (.cons (.var 3) .nil)) []) [3] (.nm 3) (.of (.var 1)) .nil))) (.cons (.ret (.ite (.cmp .eq (.call "_law_take" (.cons (.var 0) (.cons (.int 2) .nil)) []) (.int 0)) (.var 2) (.blt .tuple (.cons (.var 2) .nil)))) .nil)))⟩
def f_is_row_2a07e6 : Fd := ⟨["world", "thing"], 2, [], (.cons (.ret (.mth (.frz (.new "World" (.cons (.var 0) .nil) [])) "is_row" (.cons (.var 1) .nil))) .nil)⟩
mutual
/-- how many sequences there are -/
def cntP : PyData → Nat
  | .list xs | .tuple xs => cntPs xs + 1
  | _ => 0
def cntPs : List PyData → Nat
  | [] => 0
  | x :: r => cntP x + cntPs r
end
/-- the same but for lists and tuples -/
structure Alt (p p' : PyData) : Prop where
  tu : tupD p' = tupD p
  dp : PyData.depth p' = PyData.depth p
  wi : wideP p' = true
section
variable {P : Prog} {E : XD} {st : Sto} {Q : QD}
theorem wI_slT {k : Nat} {L : Loc} {e : Ex} {xs : List D} {R : List D → (Sto → Prop) → Sto → (Sto → Sto) → Prop} (h : ∀ R : QD, R (.sl xs) st → wpE P (cal P k) e L st R E) (q : R xs (fun _ => some xs = some xs) st id) : wpI P (cal P k) (.of e) L st R E := h _ ⟨xs, rfl, q⟩
theorem tupDs_app (a b : List PyData) : tupDs (a ++ b) = tupDs a ++ tupDs b := by rw [tupDs_map, tupDs_map, tupDs_map, List.map_append]
theorem mixed_ok (hT : Has P "" "_law_take" f_i_law_take_3a2ad2) (hM : Has P "" "_law_mixed" f_i_law_mixed_827f6c) : ∀ (n : Nat) {d : D} {p : PyData} {a : Addr} {o : O} {m k : Nat} {Q : QD} {E : XD} {st : Sto}, PyData.depth p ≤ n → wideP p = true → noDc p = true → (∀ s, Dt s d p) → BxO (m + cntP p) o → st a = some o →
    (∀ v p' o', (∀ s, Dt s v p') → Alt p p' → BxO m o' → Q v (put st a o')) → cal P (k + n + 2) "" "_law_mixed" [.ref a, d] st Q E := by
  intro n
  induction n with
  | zero =>
    intro d p a o m k Q E st hn hw hd h hb hst q
    have key : isiB st d "list" = some false ∧ isiB st d "tuple" = some false ∧ cntP p = 0 ∧ Alt p p := by
      have h0 := h st
      cases h0 with
      | non => exact ⟨by show kitB "NoneType" "list" = _; decide +kernel, by show kitB "NoneType" "tuple" = _; decide +kernel, rfl, rfl, rfl, rfl⟩
      | bl b => exact ⟨by show kitB "bool" "list" = _; decide +kernel, by show kitB "bool" "tuple" = _; decide +kernel, rfl, rfl, rfl, rfl⟩
      | int b => exact ⟨by show kitB "int" "list" = _; decide +kernel, by show kitB "int" "tuple" = _; decide +kernel, rfl, rfl, rfl, rfl⟩
      | str b => exact ⟨by show kitB "str" "list" = _; decide +kernel, by show kitB "str" "tuple" = _; decide +kernel, rfl, rfl, rfl, rfl⟩
      | lst _ _ => simp [PyData.depth] at hn
      | tup _ => simp [PyData.depth] at hn
    refine cal_of hM rfl ?_
    simp only [f_i_law_mixed_827f6c, List.map_cons, List.map_nil, List.length_cons, List.length_nil, Nat.reduceAdd, Nat.reduceSub, Nat.zero_add, List.replicate, List.cons_append, List.nil_append]
    trace "V"
    refine b_isi2 key.1 key.2.1 ?_
    trace "V"
    rw [if_pos (by rfl)]
    trace "V"
    have := q d p o h key.2.2.2 (hb.le (by omega))
    rw [put_id hst] at this
    exact Dr.refl this
  | succ n ih =>
    intro d p a o m k Q E st hn hw hd h hb hst q
    by_cases ha : atomP p = true
    · have key : isiB st d "list" = some false ∧ isiB st d "tuple" = some false ∧ cntP p = 0 ∧ Alt p p := by
        have h0 := h st
        cases h0 with
        | non => exact ⟨by show kitB "NoneType" "list" = _; decide +kernel, by show kitB "NoneType" "tuple" = _; decide +kernel, rfl, rfl, rfl, rfl⟩
        | bl b => exact ⟨by show kitB "bool" "list" = _; decide +kernel, by show kitB "bool" "tuple" = _; decide +kernel, rfl, rfl, rfl, rfl⟩
        | int b => exact ⟨by show kitB "int" "list" = _; decide +kernel, by show kitB "int" "tuple" = _; decide +kernel, rfl, rfl, rfl, rfl⟩
        | str b => exact ⟨by show kitB "str" "list" = _; decide +kernel, by show kitB "str" "tuple" = _; decide +kernel, rfl, rfl, rfl, rfl⟩
        | lst _ _ => cases ha
        | tup _ => cases ha
      refine cal_of hM rfl ?_
      simp only [f_i_law_mixed_827f6c, List.map_cons, List.map_nil, List.length_cons, List.length_nil, Nat.reduceAdd, Nat.reduceSub, Nat.zero_add, List.replicate, List.cons_append, List.nil_append]
      trace "V"
      refine b_isi2 key.1 key.2.1 ?_
      trace "V"
      rw [if_pos (by rfl)]
      trace "V"
      have := q d p o h key.2.2.2 (hb.le (by omega))
      rw [put_id hst] at this
      exact Dr.refl this
    · -- a sequence
      have main : ∀ (xs : List D) (ds : List PyData) (b : Bool), (p = .list ds ∨ p = .tuple ds) → (d = .tup xs ∨ d = .kl xs ∨ d = .sl xs) → (∀ s, Dts s xs ds) → isiB st d "list" = some b → isiB st d "tuple" = some (!b) → cal P (k + (n + 1) + 2) "" "_law_mixed" [.ref a, d] st Q E := by
        intro xs ds b hp hdx hds i1 i2
        have hc : cntP p = cntPs ds + 1 := by rcases hp with rfl | rfl <;> rfl
        have hdp : PyData.depthAll ds ≤ n := by rcases hp with rfl | rfl <;> exact Nat.le_of_succ_le_succ hn
        have hwd : ds.length ≤ 1000000 ∧ widePs ds = true := by
          have : (decide (ds.length ≤ 1000000) && widePs ds) = true := by rcases hp with rfl | rfl <;> exact hw
          rw [Bool.and_eq_true] at this
          exact ⟨of_decide_eq_true this.1, this.2⟩
        have hnd : noDcs ds = true := by rcases hp with rfl | rfl <;> exact hd
        have hxl := (dts_zip (hds st)).2.2.2
        refine cal_of hM rfl ?_
        simp only [f_i_law_mixed_827f6c, List.map_cons, List.map_nil, List.length_cons, List.length_nil, Nat.reduceAdd, Nat.reduceSub, Nat.zero_add, List.replicate, List.cons_append, List.nil_append]
        trace "V"
        refine b_isi2 i1 i2 ?_
        trace "V"
        rw [if_neg (by cases b <;> simp)]
        refine wSs_nil (wSs_cons (wS_asg (wE_frz ?_)))
        refine (show wpI P (cal P (k + n + 2)) (.of (.var 1)) _ st _ E from ?_)
        have walk : ∀ R : List D → (Sto → Prop) → Sto → (Sto → Sto) → Prop, (∀ stays : Sto → Prop, (∀ s, stays s) → R xs stays st id) → wpI P (cal P (k + n + 2)) (.of (.var 1)) [some (.ref a), some d, none, none] st R E := fun R hR => by
          rcases hdx with rfl | rfl | rfl
          · exact wI_tupT (fun R hR => wE_var rfl hR) (hR _ fun _ => trivial)
          · exact wI_klT (fun R hR => wE_var rfl hR) (hR _ fun _ => rfl)
          · exact wI_slT (fun R hR => wE_var rfl hR) (hR _ fun _ => rfl)
        refine walk _ fun stays hstays => ?_
        refine lcL_inv (fun r acc s => ∃ (ds1 ds2 : List PyData) (ps' : List PyData) (o' : O), ds1 ++ ds2 = ds ∧ (∀ s, Dts s r ds2) ∧ (∀ s, Dts s acc ps') ∧ tupDs ps' = tupDs ds1 ∧ PyData.depthAll ps' = PyData.depthAll ds1 ∧ widePs ps' = true ∧ s = put st a o' ∧ BxO (m + 1 + cntPs ds2) o') ?_ ?_ ⟨[], ds, [], o, rfl, hds, fun _ => .nil, rfl, rfl, rfl, (put_id hst).symm, hb.le (by rw [hc]; omega)⟩
        · rintro x r acc s nx ⟨ds1, ds2, ps', o', e1, h2, h3, h4, h5, h6, rfl, hb'⟩ hs hn0
          cases ds2 with
          | nil => have := h2 st; cases this
          | cons z ds2 =>
            have hz : z ∈ ds := by rw [← e1]; simp
            have hx : ∀ s, Dt s x z := fun s => by cases h2 s with | cons h _ => exact h
            have hr2 : ∀ s, Dts s r ds2 := fun s => by cases h2 s with | cons _ h => exact h
            refine tg_nm (wTs_nil ?_)
            rw [if_pos rfl]
            refine wE_call (wA_cons (wE_var rfl (wA_cons (wE_var rfl (wA_nil ?_)))))
            refine call_of hM rfl rfl (ih (m := m + 1 + cntPs ds2) (k := k) (depth_mem hdp z hz) (widePs_all hwd.2 z hz) (noDc_mem hnd z hz) hx (hb'.le (by show _ ≤ m + 1 + (cntP z + cntPs ds2); omega)) put_same fun v z' o2 hv halt hb2 => ?_)
            rw [put_put]
            refine hs v _ (Dr.refl ⟨hstays _, ds1 ++ [z], ds2, ps' ++ [z'], o2, by rw [← e1]; simp, hr2, fun s => ?_, ?_, ?_, ?_, rfl, hb2⟩)
            · have app : ∀ {l1 l2 : List D} {q1 q2 : List PyData}, Dts s l1 q1 → Dts s l2 q2 → Dts s (l1 ++ l2) (q1 ++ q2) := by
                intro l1
                induction l1 with
                | nil => intro l2 q1 q2 u v; cases u; exact v
                | cons y l1 ihl => intro l2 q1 q2 u v; cases u with | cons u1 u2 => exact .cons u1 (ihl u2 v)
              exact app (h3 s) (.cons (hv s) .nil)
            · rw [tupDs_app, tupDs_app, h4]
              show _ ++ [tupD z'] = _ ++ [tupD z]
              rw [halt.tu]
            · have da : ∀ (l : List PyData) (y : PyData), PyData.depthAll (l ++ [y]) = max (PyData.depthAll l) (PyData.depth y) := by
                intro l y
                induction l with
                | nil => show max (PyData.depth y) 0 = max 0 (PyData.depth y); omega
                | cons w l ihl =>
                  show max (PyData.depth w) (PyData.depthAll (l ++ [y])) = max (max (PyData.depth w) (PyData.depthAll l)) (PyData.depth y)
                  rw [ihl]; omega
              rw [da, da, h5, halt.dp]
            · refine widePs_of fun y hy => ?_
              rcases List.mem_append.mp hy with h1 | h1
              · exact widePs_all h6 y h1
              · rw [List.mem_singleton.mp h1]; exact halt.wi
        · rintro acc s ⟨ds1, ds2, ps', o', e1, h2, h3, h4, h5, h6, rfl, hb'⟩
          have hd2 : ds2 = [] := by
            have := h2 st
            cases this; rfl
          subst hd2
          rw [List.append_nil] at e1
          subst e1
          have hal := (dts_zip (h3 st)).2.2.2
          have hpl : ps'.length = ds1.length := by
            have := congrArg List.length h4
            rw [tupDs_map, tupDs_map, List.length_map, List.length_map] at this
            exact this
          refine newL_frz (by show _ ≤ 16777216; omega) (tg_nm ?_)
          have fin : ∀ v, (∀ s, Dt s v (.list ps')) ∨ (∀ s, Dt s v (.tuple ps')) → ∀ o2, BxO m o2 → Q v (put st a o2) := fun v hv o2 hb2 => by
            have tupE : ∀ z, (z = PyData.list ps' ∨ z = .tuple ps') → Alt p z := fun z hz => by
              have e2 : tupD z = .tup (tupDs ps') := by rcases hz with rfl | rfl <;> rfl
              have e3 : tupD p = .tup (tupDs ds1) := by rcases hp with rfl | rfl <;> rfl
              have e4 : PyData.depth z = PyData.depthAll ps' + 1 := by rcases hz with rfl | rfl <;> rfl
              have e5 : PyData.depth p = PyData.depthAll ds1 + 1 := by rcases hp with rfl | rfl <;> rfl
              refine ⟨by rw [e2, e3, h4], by rw [e4, e5, h5], ?_⟩
              have e6 : wideP z = (decide (ps'.length ≤ 1000000) && widePs ps') := by rcases hz with rfl | rfl <;> rfl
              rw [e6, h6, decide_eq_true (by omega)]; rfl
            rcases hv with hv | hv
            · exact q v _ o2 hv (tupE _ (.inl rfl)) hb2
            · exact q v _ o2 hv (tupE _ (.inr rfl)) hb2
          refine wSs_cons (wS_ret (wE_ite (wE_cmp (wE_call (wA_cons (wE_var rfl (wA_cons (wE_int (wA_nil ?_)))))))))
          refine call_of hT rfl rfl (take_ok (m := m) hT (hb'.le (by show _ ≤ m + 1 + 0; omega)) put_same (by decide) (by decide) fun r1 o2 hr1 hb2 => ?_)
          rw [id_eq, put_put]
          refine wE_int (c_eqI0 (tru_bl ?_))
          by_cases h0 : r1 = 0
          · rw [if_pos (decide_eq_true h0)]
            exact wE_var rfl (Dr.refl (fin _ (.inl fun s => .lst rfl (h3 s)) o2 hb2))
          · rw [if_neg (by simp [h0])]
            refine wE_blt (wA_cons (wE_var rfl (wA_nil (b_tuple_kl (by show _ ≤ 16777216; omega) ?_))))
            exact Dr.refl (fin _ (.inr fun s => .tup (h3 s)) o2 hb2)
      cases p with
      | none => exact absurd rfl ha
      | bool _ => exact absurd rfl ha
      | int _ => exact absurd rfl ha
      | str _ => exact absurd rfl ha
      | dict _ => cases hd
      | tuple ds =>
        cases d with
        | tup xs =>
          exact main xs ds false (.inr rfl) (.inl rfl) (fun s => by cases h s with | tup r => exact r) (by show kitB "tuple" "list" = _; decide +kernel) (by show kitB "tuple" "tuple" = _; decide +kernel)
        | _ => cases h st
      | list ds =>
        cases d with
        | kl xs => exact main xs ds true (.inl rfl) (.inr (.inl rfl)) (fun s => by cases h s with | lst e r => cases e; exact r) (by show kitB "list" "list" = _; decide +kernel) (by show kitB "list" "tuple" = _; decide +kernel)
        | sl xs => exact main xs ds true (.inl rfl) (.inr (.inr rfl)) (fun s => by cases h s with | lst e r => cases e; exact r) (by show kitB "list" "list" = _; decide +kernel) (by show kitB "list" "tuple" = _; decide +kernel)
        | ref b => cases h nost with | lst e r => cases e
        | _ => cases h st with | lst e r => cases e
end
end Py

set_option Elab.async false
set_option linter.all false
set_option maxRecDepth 100000
set_option maxHeartbeats 4000000
/-! k17: lists, names and the same again. -/
namespace Py
open PySem PySem.Spec PyProof.Rows L2
local macro_rules | `(tactic| trace "K") => `(tactic| first | assumption | exact put_same | exact (put_ne (by assumption)).trans put_same | exact (put_ne (by assumption)).trans (by assumption) | exact (put_ne (by assumption)).trans ((put_ne (by assumption)).trans put_same) | exact (put_ne (by assumption)).trans ((put_ne (by assumption)).trans (by assumption)))
local macro_rules | `(tactic| trace "V") => `(tactic| repeat (first | (with_reducible first | refine wSs_cons ?_ | refine wSs_nil ?_ | refine wS_exp ?_ | refine wS_ret ?_ | refine wS_pass ?_ | refine wS_asg ?_ | refine wS_par ?_ | refine wS_iff ?_ | refine wS_brk ?_ | refine wS_cnt ?_ | refine wE_non ?_ | refine wE_bl ?_ | refine wE_int ?_ | refine wE_str ?_ | refine wE_bty ?_ | refine wE_bin ?_ | refine wE_cmp ?_ | refine wE_and ?_ | refine wE_or ?_ | refine wE_not ?_ | refine wE_ite ?_ | refine wE_tup ?_ | refine wE_lst ?_ | refine wE_call ?_ | refine wE_blt ?_ | refine wE_att ?_ | refine wE_idx ?_ | refine wE_slc ?_ | refine wE_frzB ?_ | refine wE_frzC ?_ | refine wE_frzL ?_ | refine wE_frzS ?_ | refine wE_frzV ?_ | refine wA_nil ?_ | refine wA_cons ?_ | refine wTs_nil ?_ | refine wTs_cons ?_ | refine tg_nm ?_ | refine tru_bl ?_ | refine tru_int ?_ | refine tru_non ?_ | refine tru_tup ?_ | refine tru_kl ?_ | refine op_addI ?_ | refine op_subI ?_ | refine frz_kl ?_ | refine frz_tup ?_ | refine frz_int ?_ | refine c_gtI ?_ | refine c_ltI ?_ | refine c_geI ?_ | refine c_leI ?_ | refine b_len_kl ?_ | refine b_len_tup ?_ | refine b_len_sl ?_ | refine b_len_kd ?_ | refine b_int_int ?_ | refine b_int_bl ?_ | refine b_abs ?_ | refine b_min ?_ | refine wS_ssub ?_ | refine wE_mth ?_ | refine wE_bm ?_ | refine wE_negI ?_ | refine wE_new ?_ | refine wS_satt ?_ | refine opt_n ?_ | refine opt_i ?_) | ((with_reducible apply wE_var); (rfl)) | ((with_reducible apply tg_tp); (rfl)) | ((with_reducible apply par_of); (rfl)) | ((with_reducible apply newT_of); (exact Nat.le_of_ble_eq_true rfl)) | ((with_reducible apply newL_frz); (exact Nat.le_of_ble_eq_true rfl)) | ((with_reducible apply ix_ref); (first | assumption | exact put_same | exact (put_ne (by assumption)).trans put_same | exact (put_ne (by assumption)).trans (by assumption) | exact (put_ne (by assumption)).trans ((put_ne (by assumption)).trans put_same) | exact (put_ne (by assumption)).trans ((put_ne (by assumption)).trans (by assumption))); (rfl)) | ((with_reducible apply ssub_ref); (first | assumption | exact put_same | exact (put_ne (by assumption)).trans put_same | exact (put_ne (by assumption)).trans (by assumption) | exact (put_ne (by assumption)).trans ((put_ne (by assumption)).trans put_same) | exact (put_ne (by assumption)).trans ((put_ne (by assumption)).trans (by assumption))); (rfl)) | ((with_reducible apply ix_tup); (rfl)) | ((with_reducible apply ix_kl); (rfl)) | ((with_reducible apply op_modI); (first | assumption | decide)) | ((with_reducible apply op_fdivI); (first | (constructor <;> assumption) | decide)) | ((with_reducible apply op_mulL); (decide)) | ((with_reducible apply op_mulR); (decide)) | ((with_reducible apply b_len_ref); (first | assumption | exact put_same | exact (put_ne (by assumption)).trans put_same | exact (put_ne (by assumption)).trans (by assumption) | exact (put_ne (by assumption)).trans ((put_ne (by assumption)).trans put_same) | exact (put_ne (by assumption)).trans ((put_ne (by assumption)).trans (by assumption)))) | ((with_reducible apply bmA_ref); (first | assumption | exact put_same | exact (put_ne (by assumption)).trans put_same | exact (put_ne (by assumption)).trans (by assumption) | exact (put_ne (by assumption)).trans ((put_ne (by assumption)).trans put_same) | exact (put_ne (by assumption)).trans ((put_ne (by assumption)).trans (by assumption))); (rfl))))
local macro_rules | `(tactic| fail "E") => `(tactic| first | (with_reducible first | apply ev_non | apply ev_bl | apply ev_int | apply ev_str | apply ev_bty | apply evs_nil | apply evt_nil | apply ev_cmp | apply ev_chn | apply ev_and | apply ev_or | apply ev_not | apply ev_ite | apply ev_tup | apply ev_lstF | apply evs_cons | apply evs_star | apply ev_call | apply ev_callF | apply ev_bltF | apply ev_blt | apply ev_att | apply ev_idx | apply ev_slcF | apply ev_slc | apply ev_mthF | apply ev_mth | apply ev_newF | apply ev_binF | apply ev_bin | apply ev_neg | apply ev_lcM | apply ev_lc | apply ev_revF | apply evt_one | apply evt_cons | apply evi_of | apply evi_rng | apply evi_enum | apply evi_zip | apply tr_bl | apply tr_non | apply tr_int | apply bo_addI | apply bo_subI | apply bof_addI | apply co_eqI | apply co_neI | apply co_ltI | apply co_leI | apply co_gtI | apply co_geI | apply co_ltS | apply co_eqS | apply co_neS | apply bl_intI | apply bl_intB) | exact ev_var rfl | exact fun _ => rfl | apply its_tup | apply its_kl | apply its_kd | exact its_lit its_tup | exact its_lit its_kl | exact is_S_str | exact is_S_tuple | exact is_S_list | exact is_S_int | exact is_S_bool | exact is_S_dict | exact is_T_str | exact is_T_tuple | exact is_T_list | exact is_T_int | exact is_T_bool | exact is_T_dict | exact is_K_str | exact is_K_tuple | exact is_K_list | exact is_K_int | exact is_K_bool | exact is_K_dict | exact is_I_str | exact is_I_tuple | exact is_I_list | exact is_I_int | exact is_I_bool | exact is_I_dict | exact is_B_str | exact is_B_tuple | exact is_B_list | exact is_B_int | exact is_B_bool | exact is_B_dict | exact is_N_str | exact is_N_tuple | exact is_N_list | exact is_N_int | exact is_N_bool | exact is_N_dict | apply zp_K | apply zp_T | apply enm_T | apply enm_K | apply tr_tupM | apply tr_klM | apply tr_tup | apply tr_kl | apply bof_addT | apply bo_addT | apply bof_addK | apply co_inL | apply co_inT | apply co_ninL | apply co_ninT | apply co_eqNilS | apply co_neNilS | apply co_eqNilW | apply bl_lenKm | apply bl_lenTm | apply bl_lenK | apply bl_lenT | apply bl_lenD | apply bl_all | apply bl_any | apply bl_tupK | apply bl_tupT | apply blf_listK | apply blf_listT | apply blf_sortS | apply blf_sortST | exact ix_T rfl | exact ix_K rfl | apply slf_K | apply slf_T | rfl | exact bl_isi (by decide +kernel) | exact bl_isi2 (by decide +kernel) (by decide +kernel) | assumption | (with_reducible intro _) | omega | (simp only [List.length_map, List.length_append, List.length_cons, List.length_nil, List.length_range, List.length_zipIdx, List.length_zip, List.length_reverse]; omega) | ((with_reducible refine (show (_ : Nat) ≤ _ from ?_)); grind [sD, List.length_filter_le, WStr]) | ((with_reducible refine (show SOk _ from ?_)); first | (show PyData.strOk _ = true; decide +kernel) | grind [WStr, DevStr]) | ((with_reducible refine (show ∀ x ∈ _, SOk x from ?_)); grind [WStr, DevStr]))
def f_i_law_all_a214ea : Fd := ⟨["_law_net", "_law_lane", "_law_thing_so"], 3, [], (.cons (.ret (.frz (.lst (.cons (.call "comers" (.cons (.var 0) .nil) []) (.cons (.call "waits" (.cons (.var 0) .nil) []) (.cons (.call "is_row" (.cons (.var 0) (.cons (.var 2) .nil)) []) (.cons (.call "end_of" (.cons (.var 0) (.cons (.var 1) .nil)) []) .nil))))))) .nil)⟩
def f_i_law_right_a86426 : Fd := ⟨["_law_box_here"], 14, [], (.cons (.par [1, 2, 3] (.cons (.lst .nil) (.cons (.lst .nil) (.cons (.lst .nil) .nil)))) (.cons (.for_ (.nm 4) (.rng1 (.int 3)) (.cons (.asg (.nm 5) (.call "_law_world" (.cons (.var 0) (.cons (.bin .add (.int 2) (.call "_law_take" (.cons (.var 0) (.cons (.int 7) .nil)) [])) (.cons (.bl true) .nil))) [])) (.cons (.asg (.nm 6) (.call "_law_row" (.cons (.var 0) (.cons (.var 5) .nil)) [])) (.cons (.asg (.nm 7) (.frz (.lc (.idx (.var 13) (.int 0)) [13] (.nm 13) (.of (.var 5)) (.cons (.cmp .nmem (.idx (.var 13) (.int 0)) (.var 6)) .nil)))) (.cons (.exp (.bm .append (.var 1) (.cons (.tup (.cons (.var 5) (.cons (.var 6) (.cons (.frz (.lst (.cons (.call "_law_comers" (.cons (.var 5) .nil) []) (.cons (.var 7) (.cons (.bl true) (.cons (.call "_law_end" (.cons (.var 5) (.cons (.var 6) .nil)) []) .nil)))))) .nil)))) .nil))) .nil))))) (.cons (.for_ (.nm 4) (.rng1 (.int 9)) (.cons (.asg (.tp [5, 6, 8]) (.idx (.var 1) (.call "_law_take" (.cons (.var 0) (.cons (.int 3) .nil)) []))) (.cons (.par [9, 10] (.cons (.call "_law_refill" (.cons (.var 2) (.cons (.var 5) .nil)) []) (.cons (.call "_law_refill" (.cons (.var 3) (.cons (.var 6) .nil)) []) .nil))) (.cons (.asg (.nm 11) (.frz (.lst (.cons (.call "_law_all" (.cons (.var 9) (.cons (.var 10) (.cons (.var 6) .nil))) []) (.cons (.call "_law_all" (.cons (.var 5) (.cons (.var 6) (.cons (.var 6) .nil))) []) (.cons (.call "_law_all" (.cons (.call "_law_mixed" (.cons (.var 0) (.cons (.var 5) .nil)) []) (.cons (.var 6) (.cons (.var 6) .nil))) []) .nil)))))) (.cons (.iff (.or (.not (.call "_law_same" (.cons (.var 11) (.cons (.frz (.bin .mul (.lst (.cons (.var 8) .nil)) (.int 3))) .nil)) [])) (.cmp .ne (.frz (.lst (.cons (.var 9) (.cons (.var 10) .nil)))) (.frz (.lst (.cons (.call "_law_lists" (.cons (.var 5) .nil) []) (.cons (.frz (.blt .list (.cons (.var 6) .nil))) .nil)))))) (.cons (.ret (.bl false)) .nil) .nil) (.cons (.exp (.bm .append (.idx (.idx (.var 11) (.int 0)) (.int 0)) (.cons (.str "more") .nil))) (.cons (.exp (.bm .append (.idx (.idx (.var 11) (.int 1)) (.int 1)) (.cons (.str "more") .nil))) (.cons (.asg (.nm 12) (.frz (.lst (.cons (.frz (.call "comers" (.cons (.var 9) .nil) ["world"])) (.cons (.frz (.call "waits" (.cons (.var 9) .nil) ["world"])) (.cons (.call "is_row" (.cons (.var 6) (.cons (.var 9) .nil)) ["thing", "world"]) (.cons (.call "end_of" (.cons (.var 10) (.cons (.var 9) .nil)) ["row", "world"]) .nil))))))) (.cons (.iff (.or (.not (.call "_law_same" (.cons (.var 12) (.cons (.var 8) .nil)) [])) (.not (.call "_law_same" (.cons (.call "is_row" (.cons (.var 9) (.cons (.var 10) .nil)) []) (.cons (.bl false) .nil)) []))) (.cons (.ret (.bl false)) .nil) .nil) .nil))))))))) (.cons (.ret (.bl true)) .nil))))⟩
section
variable {P : Prog} {E : XD} {st : Sto} {Q : QD}
theorem SSeen.mono {st' : Sto} {d : D} {ss : List Str} (s : Sub st st') (h : SSeen st d ss) : SSeen st' d ss := h.imp (Dt.mono s) (Dt.mono s)
theorem isrow_fn {k : Nat} {W : Wld} {d : D} {r : List Str} (h : HasR P) (hI : Has P "" "is_row" f_is_row_2a07e6) (hW : WStr W) (hd : WSeen st d W) (hr : ∀ x ∈ r, SOk x ∧ x.length ≤ 100000) (hl : r.length ≤ 100000) : Fn P (k + 8) st "is_row" [d, .tup (sD r)] [] (.bl (rowB W r)) := fn_of hI rfl rfl fun Q E q => by
  refine cal_of hI rfl ?_
  simp only [f_is_row_2a07e6, List.map_cons, List.map_nil, List.length_cons, List.length_nil, Nat.reduceAdd, Nat.reduceSub, Nat.zero_add, List.replicate, List.cons_append, List.nil_append]
  refine wSs_cons (wS_ret ?_)
  apply ev_go
  · repeat (first | exact newW_fn h.w hW hd | exact misrow_fn (k := k + 4) h hW hr hl | fail "E")
  exact Dr.refl q
theorem isrow_ok {k : Nat} {W : Wld} {d : D} {r : List Str} (h : HasR P) (hI : Has P "" "is_row" f_is_row_2a07e6) (hW : WStr W) (hd : WSeen st d W) (hr : ∀ x ∈ r, SOk x ∧ x.length ≤ 100000) (hl : r.length ≤ 100000) (q : Q (.bl (rowB W r)) st) : cal P (k + 8) "" "is_row" [d, .tup (sD r)] st Q E := by
  refine cal_of hI rfl ?_
  simp only [f_is_row_2a07e6, List.map_cons, List.map_nil, List.length_cons, List.length_nil, Nat.reduceAdd, Nat.reduceSub, Nat.zero_add, List.replicate, List.cons_append, List.nil_append]
  refine wSs_cons (wS_ret ?_)
  apply ev_go
  · repeat (first | exact newW_fn h.w hW hd | exact misrow_fn (k := k + 4) h hW hr hl | fail "E")
  exact Dr.refl q
theorem misrow_ref {k : Nat} {W : Wld} {a : Addr} {xs : List D} (h : HasR P) (ha : st a = some (.lst xs)) : Mt P (k + 3) st (wOb W) "is_row" [.ref a] (.bl false) := mt_w h.w.cls (by decide +kernel) h.ir rfl rfl fun Q E q => by
  have hi : isiB st (.ref a) "tuple" = some false := by
    rw [isi_lst (xs := xs) (by unfold rdL; simp only [ha])]; decide +kernel
  refine cal_of h.ir rfl ?_
  simp only [c_World_is_row_f2eec5, List.map_cons, List.map_nil, List.length_cons, List.length_nil, Nat.reduceAdd, Nat.reduceSub, Nat.zero_add, List.replicate, List.cons_append, List.nil_append]
  refine wSs_cons (wS_iff (wE_or (wE_not (wE_call (wA_cons (wE_var rfl (wA_nil ?_)))))))
  refine call_of h.n.nms rfl rfl (cal_of h.n.nms rfl ?_)
  simp only [f_are_names_da7974, List.map_cons, List.map_nil, List.length_cons, List.length_nil, Nat.reduceAdd, Nat.reduceSub, Nat.zero_add, List.replicate, List.cons_append, List.nil_append]
  refine wSs_cons (wS_ret (wE_and (wE_blt (wA_cons (wE_var rfl (wA_cons (wE_bty (wA_nil (b_isi hi (tru_bl ?_))))))))))
  rw [if_neg (by simp)]
  refine Dr.refl (tru_bl (tru_bl ?_))
  rw [if_pos (by rfl)]
  refine tru_bl ?_
  rw [if_pos (by rfl)]
  exact wSs_cons (wS_ret (wE_bl (Dr.refl q)))
theorem isrow_ref {k : Nat} {W : Wld} {d : D} {a : Addr} {xs : List D} (h : HasR P) (hI : Has P "" "is_row" f_is_row_2a07e6) (hW : WStr W) (hd : WSeen st d W) (ha : st a = some (.lst xs)) : Fn P (k + 8) st "is_row" [d, .ref a] [] (.bl false) := fn_of hI rfl rfl fun Q E q => by
  refine cal_of hI rfl ?_
  simp only [f_is_row_2a07e6, List.map_cons, List.map_nil, List.length_cons, List.length_nil, Nat.reduceAdd, Nat.reduceSub, Nat.zero_add, List.replicate, List.cons_append, List.nil_append]
  refine wSs_cons (wS_ret ?_)
  apply ev_go
  · repeat (first | exact newW_fn h.w hW hd | exact misrow_ref (k := k + 4) h ha | fail "E")
  exact Dr.refl q
structure HasK17 (P : Prog) : Prop where
  r : HasR P
  eo : Has P "" "end_of" f_end_of_b93daf
  co : Has P "" "comers" f_comers_599d99
  wa : Has P "" "waits" f_waits_5ffb10
  cm : Has P "World" "comers" c_World_comers_530c9e
  dv : Has P "World" "devices" c_World_devices_9292ed
  is : Has P "" "is_row" f_is_row_2a07e6
  al : Has P "" "_law_all" f_i_law_all_a214ea
  mi : Has P "" "_law_mixed" f_i_law_mixed_827f6c
  tk : Has P "" "_law_take" f_i_law_take_3a2ad2
  of : Has P "" "_law_of" f_i_law_of_0f7692
  nm : Has P "" "_law_names" f_i_law_names_1e383e
  so : Has P "" "_law_some" f_i_law_some_c1ed9a
  wo : Has P "" "_law_world" f_i_law_world_b8d4d3
  ca : Has P "" "_law_can" f_i_law_can_c73f16
  lc : Has P "" "_law_comers" f_i_law_comers_9910fe
  li : Has P "" "_law_lists" f_i_law_lists_e25d27
  re : Has P "" "_law_refill" f_i_law_refill_4fb0a7
  sa : Has P "" "_law_same" f_i_law_same_0ba4f5
  ta : Has P "" "_law_takes" f_i_law_takes_32a987
  ro : Has P "" "_law_row" f_i_law_row_2a3ae7
  en : Has P "" "_law_end" f_i_law_end_595762
/-- what is told of a world and a row -/
def allD (a b : Addr) (W : Wld) (r : List Str) : D := .kl [.ref a, .ref b, .bl true, endD (endW W r)]
def dueD (W : Wld) (r : List Str) : D := .kl [.kl (sD (cw W)), .kl (sD (wt W)), .bl true, endD (endW W r)]
def dueP (W : Wld) (r : List Str) : PyData := .list [.list ((cw W).map PyData.str), .list ((wt W).map PyData.str), .bool true, endP (endW W r)]
theorem all_ok {k : Nat} {W : Wld} {d e : D} {r : List Str} (h : HasK17 P) (hW : WStr W) (hn : ∀ x ∈ nms W, nameB x = true) (hd : WSeen st d W) (he : SSeen st e r) (hr : IsRow W r)
    (q : ∀ a b, st a = none → st b = none → a ≠ b → Q (allD a b W r) (put (put st a (.lst (sD (cw W)))) b (.lst (sD (wt W))))) : cal P (k + 9) "" "_law_all" [d, e, .tup (sD r)] st Q E := by
  have hrl : r.length ≤ 100 := Nat.le_trans hr.toPreC.len hW.len
  refine cal_of h.al rfl ?_
  simp only [f_i_law_all_a214ea, List.map_cons, List.map_nil, List.length_cons, List.length_nil, Nat.reduceAdd, Nat.reduceSub, Nat.zero_add, List.replicate, List.cons_append, List.nil_append]
  refine wSs_cons (wS_ret (wE_frzL (wE_lst (wA_cons (wE_call (wA_cons (wE_var rfl (wA_nil ?_))))))))
  refine call_of h.co rfl rfl (comers_ok (k := k) h.r.w h.cm h.co hW hd fun a ha => ?_)
  refine wA_cons (wE_call (wA_cons (wE_var rfl (wA_nil ?_))))
  have s1 : Sub st (put st a (.lst (sD (cw W)))) := Sub.put ha
  refine call_of h.wa rfl rfl (waits_ok (k := k) h.r.w h.cm h.dv h.wa hW (hd.mono s1) fun b hb => ?_)
  have s2 := s1.trans (Sub.put (o := .lst (sD (wt W))) hb)
  obtain ⟨nba, hb'⟩ := put_none hb
  apply evs_go
  · repeat (first | exact isrow_fn (k := k) h.r h.is hW (hd.mono s2) (fun x hx => ⟨hr.toPreC.sok hW x hx, nameB_len (hn x (hr.sub x hx))⟩) (by omega) | exact fn_of h.eo rfl rfl fun Q E q => endof_ok (k := k) h.r h.eo hW hn (hd.mono s2) (he.mono s2) hr q | fail "E")
  rw [hr.rowB hW.nd hn]
  exact newL_frz (Nat.le_of_ble_eq_true rfl) (Dr.refl (q a b ha hb' nba.symm))
theorem dt_all {a b : Addr} {W : Wld} {r : List Str} (ha : st a = some (.lst (sD (cw W)))) (hb : st b = some (.lst (sD (wt W)))) : Dt st (allD a b W r) (dueP W r) := .lst rfl (.cons (dt_ref ha) (.cons (dt_ref hb) (.cons (.bl true) (.cons (dt_end _) .nil))))
theorem dt_due {W : Wld} {r : List Str} : Dt st (dueD W r) (dueP W r) := .lst rfl (.cons dt_kl (.cons dt_kl (.cons (.bl true) (.cons (dt_end _) .nil))))
theorem wt_sok {W : Wld} (hW : WStr W) : ∀ x ∈ wt W, SOk x := fun x hx => nms_ok hW x (List.mem_filter.mp hx).1
theorem wt_len {W : Wld} (hW : WStr W) : (wt W).length ≤ 100 := Nat.le_trans (List.length_filter_le _ _) (by unfold nms; rw [List.length_map]; exact hW.len)
theorem good_due {W : Wld} {r : List Str} (hW : WStr W) (hr : PreC W r) : Good 4 (dueP W r) := good_list (n := 3) (fun x hx => by
  have hcl : (cw W).length ≤ 100 := Nat.le_trans (cw_ok hW.nd).len hW.len
  have hwl := wt_len hW
  simp only [List.mem_cons, List.mem_nil_iff, or_false] at hx
  rcases hx with rfl | rfl | rfl | rfl
  · exact (good_strs (n := 2) (cw_sok hW) (by omega))
  · exact (good_strs (n := 2) (wt_sok hW) (by omega))
  · exact good_bool
  · exact good_end (n := 0) (endW_ok hW hr)) (by simp)
/-- four things apart from each other, in a store -/
structure Ap4 (p p1 p2 p3 : Addr) : Prop where
  a01 : p ≠ p1
  a02 : p ≠ p2
  a03 : p ≠ p3
  a12 : p1 ≠ p2
  a13 : p1 ≠ p3
  a23 : p2 ≠ p3
def S4 (st : Sto) (p p1 p2 p3 : Addr) (o a b c : O) : Sto := put (put (put (put st p o) p1 a) p2 b) p3 c
section
variable {p p1 p2 p3 : Addr} {o o' a b c : O}
theorem s4_p (h : Ap4 p p1 p2 p3) : put (S4 st p p1 p2 p3 o a b c) p o' = S4 st p p1 p2 p3 o' a b c := by
  unfold S4; rw [put_swap h.a03.symm, put_swap h.a02.symm, put_swap h.a01.symm, put_put]
theorem s4_1 (h : Ap4 p p1 p2 p3) : put (S4 st p p1 p2 p3 o a b c) p1 o' = S4 st p p1 p2 p3 o o' b c := by
  unfold S4; rw [put_swap h.a13.symm, put_swap h.a12.symm, put_put]
theorem s4_2 (h : Ap4 p p1 p2 p3) : put (S4 st p p1 p2 p3 o a b c) p2 o' = S4 st p p1 p2 p3 o a o' c := by
  unfold S4; rw [put_swap h.a23.symm, put_put]
theorem s4_3 : put (S4 st p p1 p2 p3 o a b c) p3 o' = S4 st p p1 p2 p3 o a b o' := by
  unfold S4; rw [put_put]
theorem g4_p (h : Ap4 p p1 p2 p3) : S4 st p p1 p2 p3 o a b c p = some o := by
  unfold S4; rw [put_ne h.a03, put_ne h.a02, put_ne h.a01, put_same]
theorem g4_1 (h : Ap4 p p1 p2 p3) : S4 st p p1 p2 p3 o a b c p1 = some a := by
  unfold S4; rw [put_ne h.a13, put_ne h.a12, put_same]
theorem g4_2 (h : Ap4 p p1 p2 p3) : S4 st p p1 p2 p3 o a b c p2 = some b := by
  unfold S4; rw [put_ne h.a23, put_same]
theorem g4_3 : S4 st p p1 p2 p3 o a b c p3 = some c := by unfold S4; rw [put_same]
end
/-- a drawn world and a row of it -/
def CsOk (c : Wld × List Str) : Prop := ∃ n, n ≤ 8 ∧ WldOk n true c.1 ∧ IsRow c.1 c.2
def caseD (c : Wld × List Str) : D := .tup [worldD c.1, .tup (sD c.2), dueD c.1 c.2]
theorem away_row {W : Wld} {r : List Str} (nd : (nms W).Nodup) (hr : IsRow W r) : ((W.filter fun y => !decide (y.name ∈ r)).map fun y => D.str y.name) = sD (wt W) := by
  rw [← away_eq]
  congr 1
  refine List.filter_congr fun y _ => ?_
  congr 1
  exact decide_eq_decide.mpr (hr.mem nd y.name)
theorem cnt_strs (ss : List Str) : cntPs (ss.map PyData.str) = 0 := by
  induction ss with
  | nil => rfl
  | cons s ss ih => show cntP (.str s) + cntPs (ss.map PyData.str) = 0; rw [ih]; rfl
theorem cnt_wishes (ws : List (List Str × Bool)) : cntPs (ws.map wishP) ≤ 2 * ws.length := by
  induction ws with
  | nil => exact Nat.zero_le _
  | cons w ws ih =>
    show cntP (wishP w) + cntPs (ws.map wishP) ≤ _
    have : cntP (wishP w) = 2 := by
      show cntP (.tuple (w.1.map PyData.str)) + (0 + 0) + 1 = 2
      show cntPs (w.1.map PyData.str) + 1 + (0 + 0) + 1 = 2
      rw [cnt_strs]
    rw [this, List.length_cons]; omega
theorem cnt_world {n : Nat} {mu : Bool} {W : Wld} (h : WldOk n mu W) : cntP (worldP W) ≤ 7 * n + 1 := by
  have key : ∀ V : Wld, (∀ d ∈ V, d.wishes.length ≤ 2) → cntPs (V.map devP) ≤ 7 * V.length := by
    intro V hV
    induction V with
    | nil => exact Nat.zero_le _
    | cons d V ih =>
      show cntP (devP d) + cntPs (V.map devP) ≤ _
      have h1 := ih fun e he => hV e (List.mem_cons_of_mem _ he)
      have h2 := cnt_wishes d.wishes
      have h3 := hV d (List.mem_cons_self ..)
      have h4 : cntP (devP d) = cntPs (d.needs.map PyData.str) + 1 + (cntPs (d.wishes.map wishP) + 1 + 0) + 1 := by
        show 0 + (cntPs (d.needs.map PyData.str) + 1 + (cntPs (d.wishes.map wishP) + 1 + 0)) + 1 = _
        omega
      rw [h4, cnt_strs, List.length_cons]; omega
  have := key W fun d hd => (h.dev d hd).wle
  rw [h.len] at this
  show cntPs (W.map devP) + 1 ≤ _
  omega
theorem fnF_kw {k : Nat} {f : Str} {ds ys xs : List D} {ks : List Str} {fd : Fd} (h : P.fns.lookup (("" : Str), f) = some fd) (hb : bindK fd.ps fd.dfl ds ks = some ys) (g : ∀ (Q : QD) (E : XD), (∀ p, st p = none → Q (.ref p) (put st p (.lst xs))) → cal P k "" f ys st Q E) : FnF P k st f ds ks (.kl xs) := fun Q E q => call_kw h hb (g _ E fun p hp => frz_ref put_same (by rw [del_put hp]; exact q))
theorem op_mul3 {a : Addr} {d : D} (hs : st a = some (.lst [d])) (q : Q (.kl [d, d, d]) st) : bopR .mul (.ref a) (.int 3) st (fun x s => frzR P x s Q) := by
  refine ⟨[d], hs, by decide, by decide, ?_, ?_⟩
  · exact Nat.le_of_ble_eq_true rfl
  · exact newL_frz (Nat.le_of_ble_eq_true rfl) q
theorem lis_strs (ss : List Str) : lisDs (ss.map PyData.str) = sD ss := by
  rw [lisDs_map, List.map_map]; rfl
/-- what the two tellings leave in the store -/
theorem right17 {k : Nat} {p : Addr} {o : O} {m : Nat} (h : HasK17 P) (hR : Has P "" "_law_right" f_i_law_right_a86426) (hb : BxO (m + 20000) o) (hst : st p = some o) (q : ∀ o' s, Sub (put st p o') s → BxO m o' → Q (.bl true) s) : cal P (k + 11) "" "_law_right" [.ref p] st Q E := by
  refine cal_of hR rfl ?_
  simp only [f_i_law_right_a86426, List.map_cons, List.map_nil, List.length_cons, List.length_nil, Nat.reduceAdd, Nat.reduceSub, Nat.zero_add, List.replicate, List.cons_append, List.nil_append]
  refine wSs_cons (wS_par (wA_cons (wE_lst (wA_nil (newL_of (Nat.zero_le _) fun p1 hp1 => ?_)))))
  refine wA_cons (wE_lst (wA_nil (newL_of (Nat.zero_le _) fun p2 hp2 => ?_)))
  refine wA_cons (wE_lst (wA_nil (newL_of (Nat.zero_le _) fun p3 hp3 => ?_)))
  obtain ⟨n21, hp2'⟩ := put_none hp2
  obtain ⟨n32, hp3'⟩ := put_none hp3
  obtain ⟨n31, hp3'⟩ := put_none hp3'
  have ap : Ap4 p p1 p2 p3 := ⟨some_ne hst hp1, some_ne hst hp2', some_ne hst hp3', n21.symm, n31.symm, n32.symm⟩
  have e0 : put (put (put st p1 (.lst [])) p2 (.lst [])) p3 (.lst []) = S4 st p p1 p2 p3 o (.lst []) (.lst []) (.lst []) := by unfold S4; rw [put_id hst]
  rw [e0]
  refine wA_nil ⟨_, rfl, ?_⟩
  refine wSs_mid (fun L s => ∃ (cs : List (Wld × List Str)) (o' : O) (a4 a5 a6 a7 a8 a9 a10 a11 a12 a13 : Option D), s = S4 st p p1 p2 p3 o' (.lst (cs.map caseD)) (.lst []) (.lst []) ∧ L = [some (.ref p), some (.ref p1), some (.ref p2), some (.ref p3), a4, a5, a6, a7, a8, a9, a10, a11, a12, a13] ∧ (∀ c ∈ cs, CsOk c) ∧ cs.length = 3 ∧ BxO (m + 10000) o') ?_ ?_
  · refine wS_for (wI_rngT (n := 3) (fun R hR => wE_int hR) (by decide) ?_)
    refine forL_inv (fun r L s => ∃ (cs : List (Wld × List Str)) (o' : O) (a4 a5 a6 a7 a8 a9 a10 a11 a12 a13 : Option D), s = S4 st p p1 p2 p3 o' (.lst (cs.map caseD)) (.lst []) (.lst []) ∧ L = [some (.ref p), some (.ref p1), some (.ref p2), some (.ref p3), a4, a5, a6, a7, a8, a9, a10, a11, a12, a13] ∧ (∀ c ∈ cs, CsOk c) ∧ cs.length + r.length = 3 ∧ BxO (m + 10000 + 2000 * r.length) o') ?_ ?_ ⟨[], o, none, none, none, none, none, none, none, none, none, none, rfl, rfl, nofun, rfl, hb.le (by simp)⟩
    · rintro x r L s nx ⟨cs, o', a4, a5, a6, a7, a8, a9, a10, a11, a12, a13, rfl, rfl, hcs, hl, hb⟩ hnx
      rw [List.length_cons] at hl hb
      obtain ⟨M, hM⟩ : ∃ M, m + 10000 + 2000 * r.length = M := ⟨_, rfl⟩
      have hb1 : BxO ((M + 1900) + 1) o' := hb.le (by omega)
      refine tg_nm (wSs_cons (wS_asg (wE_call (wA_cons (wE_var rfl (wA_cons (wE_bin (wE_int (wE_call (wA_cons (wE_var rfl (wA_cons (wE_int (wA_nil ?_))))))))))))))
      refine call_of h.tk rfl rfl (take_ok h.tk hb1 (g4_p ap) (by decide) (by decide) fun j o2 hj hb2 => ?_)
      rw [s4_p ap]
      refine op_addI (wA_cons (wE_bl (wA_nil ?_)))
      have ej : (2 : Int) + ((j : Nat) : Int) = ((2 + j : Nat) : Int) := by omega
      rw [ej]
      have hj7 : j < 7 := hj
      refine call_of h.wo rfl rfl (world_ok (m := M + 900) h.tk h.of h.nm h.so h.wo (hb2.le (by omega)) (g4_p ap) (by omega) fun W o3 hWo hb3 => ?_)
      rw [s4_p ap]
      have hW := hWo.str (by omega)
      have hwl : W.length = 2 + j := hWo.len
      refine tg_nm (wSs_cons (wS_asg (wE_call (wA_cons (wE_var rfl (wA_cons (wE_var rfl (wA_nil ?_))))))))
      refine call_of h.ro rfl rfl (lrow_ok (k := k + 7) (m := M) h.tk h.of h.ca h.lc h.ro hW (hb3.le (by omega)) (g4_p ap) fun row o4 hrow hb4 => ?_)
      rw [s4_p ap]
      have hok := hrow.toPreC.sok hW
      have hrl := hrow.toPreC.len
      refine tg_nm (wSs_cons (wS_asg ?_))
      apply ev_go
      · repeat (first | exact (hW.dev _ ‹_›).nm | fail "E")
      rw [away_row hW.nd hrow]
      refine tg_nm (wSs_cons (wS_exp (wE_bm (wE_var rfl (bmA_ref (g4_1 ap) rfl (wA_cons ?_))))))
      apply ev_go
      · repeat (first | exact fn_of h.lc rfl rfl fun Q E q => lcomers_ok (k := k + 8) h.ca h.lc hW q | exact lend_fn (k := k + 8) h.ta h.en hW hrow.sub (by omega) | fail "E")
      refine wA_nil (bm_append (g4_1 ap) (by rw [List.length_map]; show _ < 16777216; omega) ?_)
      rw [s4_1 ap]
      refine wSs_nil (hnx _ _ (Dr.refl ⟨trivial, cs ++ [(W, row)], o4, _, _, _, _, _, _, _, _, _, _, by rw [List.map_append]; rfl, rfl, fun c hc => ?_, by rw [List.length_append]; simp only [List.length_cons, List.length_nil]; omega, by rw [hM]; exact hb4⟩))
      rcases List.mem_append.mp hc with h1 | h1
      · exact hcs c h1
      · rw [List.mem_singleton.mp h1]; exact ⟨2 + j, by omega, hWo, hrow⟩
    · rintro L s ⟨cs, o', a4, a5, a6, a7, a8, a9, a10, a11, a12, a13, rfl, rfl, hcs, hl, hb⟩
      exact Dr.refl ⟨cs, o', _, _, _, _, _, _, _, _, _, _, rfl, rfl, hcs, by simpa using hl, hb.le (by omega)⟩
  · rintro L s ⟨cs, o', a4, a5, a6, a7, a8, a9, a10, a11, a12, a13, rfl, rfl, hcs, hl, hb⟩
    have hb : BxO (m + 1000 * 9) o' := hb.le (by omega)
    refine wSs_cons (wS_for (wI_rngT (n := 9) (fun R hR => wE_int hR) (by decide) ?_))
    refine forL_inv (fun r L s => ∃ (o' : O) (ps rs : List PyData) (a4 a5 a6 a7 a8 a9 a10 a11 a12 a13 : Option D), s = S4 st p p1 p2 p3 o' (.lst (cs.map caseD)) (.lst (lisDs ps)) (.lst (lisDs rs)) ∧ L = [some (.ref p), some (.ref p1), some (.ref p2), some (.ref p3), a4, a5, a6, a7, a8, a9, a10, a11, a12, a13] ∧ (∀ x ∈ ps, Good 4 x) ∧ ps.length ≤ 100 ∧ (∀ x ∈ rs, Good 4 x) ∧ rs.length ≤ 100 ∧ BxO (m + 1000 * r.length) o') ?_ ?_ ⟨o', [], [], _, _, _, _, _, _, _, _, _, _, rfl, rfl, nofun, Nat.zero_le _, nofun, Nat.zero_le _, hb.le (by simp)⟩
    · rintro x r L s nx ⟨o', ps, rs, a4, a5, a6, a7, a8, a9, a10, a11, a12, a13, rfl, rfl, hg, hps, hgr, hrs, hb⟩ hnx
      rw [List.length_cons] at hb
      obtain ⟨M, hM⟩ : ∃ M, m + 1000 * r.length = M := ⟨_, rfl⟩
      have hb1 : BxO ((M + 900) + 1) o' := hb.le (by omega)
      refine tg_nm (wSs_cons (wS_asg (wE_idx (wE_var rfl (wE_call (wA_cons (wE_var rfl (wA_cons (wE_int (wA_nil ?_)))))))))) 
      refine call_of h.tk rfl rfl (take_ok h.tk hb1 (g4_p ap) (by decide) (by decide) fun j o2 hj hb2 => ?_)
      rw [s4_p ap]
      have hj3 : j < 3 := hj
      obtain ⟨c, hc⟩ : ∃ c, cs[j]? = some c := ⟨cs[j]'(by omega), by simp⟩
      have hcm : c ∈ cs := List.mem_of_getElem? hc
      obtain ⟨W, row⟩ := c
      obtain ⟨n, hn8, hWo, hrow⟩ := hcs _ hcm
      have hWo : WldOk n true W := hWo
      have hrow : IsRow W row := hrow
      have hW := hWo.str (by omega)
      have hnm := hWo.name
      have hwl : W.length = n := hWo.len
      have hrl := hrow.toPreC.len
      have hok := hrow.toPreC.sok hW
      refine ix_ref (g4_1 ap) (atI_nat (d := caseD (W, row)) (by rw [List.getElem?_map, hc]; rfl)) (tg_tp rfl ?_)
      refine wSs_cons (wS_par (wA_cons (wE_call (wA_cons (wE_var rfl (wA_cons (wE_var rfl (wA_nil ?_))))))))
      refine call_of h.re rfl rfl (refill_ok (k := k + 3) (n := 4) (qs := W.map devP) (z := worldP W) h.re h.li (g4_2 ap) hg (by decide) (by omega) (.inl rfl) (good_world hW) (by rw [List.length_map]; omega) (fun s => dt_world W) ?_)
      rw [s4_2 ap]
      refine wA_cons (wE_call (wA_cons (wE_var rfl (wA_cons (wE_var rfl (wA_nil ?_))))))
      refine call_of h.re rfl rfl (refill_ok (k := k + 3) (n := 4) (qs := row.map PyData.str) (z := .tuple (row.map PyData.str)) h.re h.li g4_3 hgr (by decide) (by omega) (.inl rfl) (good_strsT hok (by omega)) (by rw [List.length_map]; omega) (fun s => .tup (dts_strs _)) ?_)
      rw [s4_3]
      refine wA_nil ⟨_, rfl, ?_⟩
      rw [lis_strs]
      have hSp := g4_p (st := st) (o := o2) (a := .lst (cs.map caseD)) (b := .lst (lisDs (W.map devP))) (c := .lst (sD row)) ap
      have hS2 := g4_2 (st := st) (o := o2) (a := .lst (cs.map caseD)) (b := .lst (lisDs (W.map devP))) (c := .lst (sD row)) ap
      have hS3 := g4_3 (st := st) (p := p) (p1 := p1) (p2 := p2) (p3 := p3) (o := o2) (a := .lst (cs.map caseD)) (b := .lst (lisDs (W.map devP))) (c := .lst (sD row))
      obtain ⟨S, hS⟩ : ∃ S, S4 st p p1 p2 p3 o2 (.lst (cs.map caseD)) (.lst (lisDs (W.map devP))) (.lst (sD row)) = S := ⟨_, rfl⟩
      rw [hS] at hSp hS2 hS3 ⊢
      have hds : Dt S (.ref p2) (lisP (worldP W)) := .lst (by unfold rdL; simp only [hS2]) (dts_lis _ (noDc_world W))
      have hws : WSeen S (.ref p2) W := .lis hW hds
      have hss : SSeen S (.ref p3) row := .inr (dt_ref hS3)
      have htt : ∀ S, SSeen S (.tup (sD row)) row := fun S => .inl (.tup (dts_strs row))
      refine wSs_cons (wS_asg (wE_frzL (wE_lst (wA_cons (wE_call (wA_cons (wE_var rfl (wA_cons (wE_var rfl (wA_cons (wE_var rfl (wA_nil ?_))))))))))))
      refine call_of h.al rfl rfl (all_ok (k := k + 1) h hW hnm hws hss hrow fun q1 q2 hq1 hq2 n12 => ?_)
      refine wA_cons (wE_call (wA_cons (wE_var rfl (wA_cons (wE_var rfl (wA_cons (wE_var rfl (wA_nil ?_))))))))
      refine call_of h.al rfl rfl (all_ok (k := k + 1) h hW hnm (.tup hW) (htt _) hrow fun q3 q4 hq3 hq4 n34 => ?_)
      obtain ⟨n32, hq3⟩ := put_none hq3
      obtain ⟨n31, hq3⟩ := put_none hq3
      obtain ⟨n42, hq4⟩ := put_none hq4
      obtain ⟨n41, hq4⟩ := put_none hq4
      have np1 := some_ne hSp hq1
      have np2 := some_ne hSp hq2
      have np3 := some_ne hSp hq3
      have np4 := some_ne hSp hq4
      obtain ⟨T, hT⟩ : ∃ T, put (put (put (put S q1 (.lst (sD (cw W)))) q2 (.lst (sD (wt W)))) q3 (.lst (sD (cw W)))) q4 (.lst (sD (wt W))) = T := ⟨_, rfl⟩
      have hTp : T p = some o2 := by rw [← hT, put_ne np4, put_ne np3, put_ne np2, put_ne np1]; exact hSp
      have t1 : T q1 = some (.lst (sD (cw W))) := by rw [← hT, put_ne n41.symm, put_ne n31.symm, put_ne n12, put_same]
      have t2 : T q2 = some (.lst (sD (wt W))) := by rw [← hT, put_ne n42.symm, put_ne n32.symm, put_same]
      have t3 : T q3 = some (.lst (sD (cw W))) := by rw [← hT, put_ne n34, put_same]
      have t4 : T q4 = some (.lst (sD (wt W))) := by rw [← hT, put_same]
      have sT : Sub S T := by
        rw [← hT]
        exact sub_any hq4 (sub_any hq3 (sub_any hq2 (Sub.put hq1)))
      rw [hT]
      refine wA_cons (wE_call (wA_cons (wE_call (wA_cons (wE_var rfl (wA_cons (wE_var rfl (wA_nil ?_))))))))
      have hcn := cnt_world hWo
      refine call_of h.mi rfl rfl (mixed_ok h.tk h.mi 5 (m := M) (k := k + 3) (p := worldP W) (depth_world W) (wide_world hW) (noDc_world W) (fun s => dt_world W) (hb2.le (by omega)) hTp fun v p' o3 hv halt hb3 => ?_)
      refine wA_cons (wE_var rfl (wA_cons (wE_var rfl (wA_nil ?_))))
      have hvw : ∀ s, WSeen s v W := fun s => ⟨p', hv s, halt.tu.trans (tupD_world W), by rw [halt.dp]; exact depth_world W, halt.wi⟩
      refine call_of h.al rfl rfl (all_ok (k := k + 1) h hW hnm (hvw _) (htt _) hrow fun q5 q6 hq5 hq6 n56 => ?_)
      obtain ⟨n5p, hq5⟩ := put_none hq5
      obtain ⟨n6p, hq6⟩ := put_none hq6
      have n51 := some_ne t1 hq5
      have n52 := some_ne t2 hq5
      have n53 := some_ne t3 hq5
      have n54 := some_ne t4 hq5
      have n61 := some_ne t1 hq6
      have n62 := some_ne t2 hq6
      have n63 := some_ne t3 hq6
      have n64 := some_ne t4 hq6
      obtain ⟨U, hU⟩ : ∃ U, put (put (put T p o3) q5 (.lst (sD (cw W)))) q6 (.lst (sD (wt W))) = U := ⟨_, rfl⟩
      rw [hU]
      have sS : put S p o3 = S4 st p p1 p2 p3 o3 (.lst (cs.map caseD)) (.lst (lisDs (W.map devP))) (.lst (sD row)) := by rw [← hS, s4_p ap]
      obtain ⟨S', hS'⟩ : ∃ S', put S p o3 = S' := ⟨_, rfl⟩
      have hnS : ∀ {b}, b ≠ p → S b = none → S' b = none := fun nb hb => by rw [← hS', put_ne nb]; exact hb
      have hn1 := hnS np1.symm hq1
      have hn2 := hnS np2.symm hq2
      have hn3 := hnS np3.symm hq3
      have hn4 := hnS np4.symm hq4
      have sU : Sub S' U := by
        rw [← hS', ← hU]
        have z : ∀ {b}, b ≠ p → T b = none → put S p o3 b = none := fun nb hb => by
          rw [put_ne nb]
          cases e : S _ with
          | none => rfl
          | some u => have := sT _ _ e; rw [hb] at this; cases this
        exact sub_any (z n6p hq6) (sub_any (z n5p hq5) (sub_put2 sT))
      have u1 : U q1 = some (.lst (sD (cw W))) := by rw [← hU, put_ne n61, put_ne n51, put_ne np1.symm]; exact t1
      have u2 : U q2 = some (.lst (sD (wt W))) := by rw [← hU, put_ne n62, put_ne n52, put_ne np2.symm]; exact t2
      have u3 : U q3 = some (.lst (sD (cw W))) := by rw [← hU, put_ne n63, put_ne n53, put_ne np3.symm]; exact t3
      have u4 : U q4 = some (.lst (sD (wt W))) := by rw [← hU, put_ne n64, put_ne n54, put_ne np4.symm]; exact t4
      have u5 : U q5 = some (.lst (sD (cw W))) := by rw [← hU, put_ne n56, put_same]
      have u6 : U q6 = some (.lst (sD (wt W))) := by rw [← hU, put_same]
      have hS2' : S' p2 = some (.lst (lisDs (W.map devP))) := by rw [← hS', put_ne ap.a02.symm]; exact hS2
      have hS3' : S' p3 = some (.lst (sD row)) := by rw [← hS', put_ne ap.a03.symm]; exact hS3
      clear hds hws hss
      have hds : Dt S' (.ref p2) (lisP (worldP W)) := .lst (by unfold rdL; simp only [hS2']) (dts_lis _ (noDc_world W))
      have hws : WSeen S' (.ref p2) W := .lis hW hds
      have hss : SSeen S' (.ref p3) row := .inr (dt_ref hS3')
      refine wA_nil (newL_frz (Nat.le_of_ble_eq_true rfl) (tg_nm ?_))
      have gdu := good_due hW hrow.toPreC
      have gd3 : Good 5 (.list [dueP W row, dueP W row, dueP W row]) := good_list (fun x hx => by
        simp only [List.mem_cons, List.mem_nil_iff, or_false] at hx
        rcases hx with rfl | rfl | rfl <;> exact gdu) (by simp)
      have gwr : Good 6 (.list [lisP (worldP W), .list (row.map PyData.str)]) := good_list (fun x hx => by
        simp only [List.mem_cons, List.mem_nil_iff, or_false] at hx
        rcases hx with rfl | rfl
        · exact (good_world hW).lis
        · exact good_strs hok (by omega)) (by simp)
      refine wSs_cons (wS_iff (wE_or (wE_not (wE_call (wA_cons (wE_var rfl (wA_cons (wE_frzB (wE_bin (wE_lst (wA_cons (wE_var rfl (wA_nil (newL_of (Nat.le_of_ble_eq_true rfl) fun g hg => ?_))))))))))))))
      refine wE_int (op_mul3 put_same (wA_nil ?_))
      have sV := sU.trans (Sub.put (o := .lst [dueD W row]) hg)
      have v1 : put U g (.lst [dueD W row]) q1 = some (.lst (sD (cw W))) := (Sub.put hg) _ _ u1
      have v2 : put U g (.lst [dueD W row]) q2 = some (.lst (sD (wt W))) := (Sub.put hg) _ _ u2
      have v3 : put U g (.lst [dueD W row]) q3 = some (.lst (sD (cw W))) := (Sub.put hg) _ _ u3
      have v4 : put U g (.lst [dueD W row]) q4 = some (.lst (sD (wt W))) := (Sub.put hg) _ _ u4
      have v5 : put U g (.lst [dueD W row]) q5 = some (.lst (sD (cw W))) := (Sub.put hg) _ _ u5
      have v6 : put U g (.lst [dueD W row]) q6 = some (.lst (sD (wt W))) := (Sub.put hg) _ _ u6
      generalize put U g (O.lst [dueD W row]) = V at *
      refine same_fn (k := k + 4) (n := 5) h.sa _ gd3 (.lst rfl (.cons (dt_all v1 v2) (.cons (dt_all v3 v4) (.cons (dt_all v5 v6) .nil)))) (.lst rfl (.cons dt_due (.cons dt_due (.cons dt_due .nil)))) _ _ (tru_bl (tru_bl ?_))
      rw [if_neg (by simp)]
      apply ev_go
      · repeat (first | exact lists_fn (k := k + 4) (n := 5) h.li _ (good_world hW) (dt_world W) | exact co_neD gwr (by decide) (.lst rfl (.cons (hds.mono sV) (.cons (dt_ref (sV _ _ hS3')) .nil))) (.lst rfl (.cons (dt_lis _ (noDc_world W)) (.cons dt_kl .nil))) | fail "E")
      refine tru_bl ?_
      rw [if_neg (by simp)]
      have hcl : (cw W).length ≤ 100 := Nat.le_trans (cw_ok hW.nd).len hW.len
      have hwtl := wt_len hW
      refine wSs_nil (wSs_cons (wS_exp (wE_bm (wE_idx (wE_idx (wE_var rfl (wE_int (ix_kl rfl (wE_int (ix_kl rfl (bmA_ref v1 rfl (wA_cons (wE_str (wA_nil (bm_append v1 ?_ ?_)))))))))))))))
      · unfold sD; rw [List.length_map]; exact Nat.lt_of_le_of_lt hcl (by decide)
      have w4 : put V q1 (.lst (sD (cw W) ++ [D.str "more"])) q4 = some (.lst (sD (wt W))) := by rw [put_ne n41]; exact v4
      refine wSs_cons (wS_exp (wE_bm (wE_idx (wE_idx (wE_var rfl (wE_int (ix_kl rfl (wE_int (ix_kl rfl (bmA_ref w4 rfl (wA_cons (wE_str (wA_nil (bm_append w4 ?_ ?_))))))))))))))
      · unfold sD; rw [List.length_map]; exact Nat.lt_of_le_of_lt hwtl (by decide)
      have sX : Sub S' (put (put V q1 (.lst (sD (cw W) ++ [D.str "more"]))) q4 (.lst (sD (wt W) ++ [D.str "more"]))) := sub_any hn4 (sub_any hn1 sV)
      generalize put (put V q1 (.lst (sD (cw W) ++ [D.str "more"]))) q4 (.lst (sD (wt W) ++ [D.str "more"])) = X at sX
      have hwx := hws.mono sX
      have hsx := hss.mono sX
      have hx3 := sX _ _ hS3'
      refine wSs_cons (wS_asg ?_)
      apply ev_go
      · repeat (first | exact fnF_kw h.co rfl fun Q E q => comers_ok (k := k + 2) h.r.w h.cm h.co hW hwx q | exact fnF_kw h.wa rfl fun Q E q => waits_ok (k := k + 2) h.r.w h.cm h.dv h.wa hW hwx q | exact fn_kw (xs := [.ref p2, .tup (sD row)]) (v := .bl (rowB W row)) h.is rfl fun Q E q => isrow_ok (k := k + 2) h.r h.is hW hwx (fun x hx => ⟨hok x hx, nameB_len (hnm x (hrow.sub x hx))⟩) (by omega) q | exact fn_kw (xs := [.ref p2, .ref p3]) (v := endD (endW W row)) h.eo rfl fun Q E q => endof_ok (k := k + 2) h.r h.eo hW hnm hwx hsx hrow q | fail "E")
      rw [hrow.rowB hW.nd hnm]
      refine tg_nm (wSs_cons (wS_iff ?_))
      apply ev_go
      · repeat (first | exact same_fn (k := k + 5) (n := 4) h.sa _ gdu dt_due dt_due | exact same_fn (k := k + 8) (n := 1) h.sa (.bool false) good_bool (.bl false) (.bl false) | exact isrow_ref (k := k + 2) h.r h.is hW hwx hx3 | fail "E")
      refine tru_bl ?_
      rw [if_neg (by simp)]
      refine wSs_nil (wSs_nil (hnx _ _ ⟨S', sX, trivial, o3, W.map devP, row.map PyData.str, _, _, _, _, _, _, _, _, _, _, by rw [← hS', sS, lis_strs], rfl, ?_, ?_, ?_, ?_, by rw [hM]; exact hb3⟩))
      · intro x hx
        have g := good_world hW
        exact ⟨depth_mem (Nat.le_of_succ_le_succ g.dp) x hx, widePs_all (Bool.and_eq_true_iff.mp g.wi).2 x hx, canLay_mem g.la x hx, noDc_mem g.nd x hx⟩
      · rw [List.length_map]; omega
      · intro x hx
        obtain ⟨s, hs, rfl⟩ := List.mem_map.mp hx
        exact good_str (hok s hs)
      · rw [List.length_map]; omega
    · rintro L s ⟨o', ps, rs, a4, a5, a6, a7, a8, a9, a10, a11, a12, a13, rfl, rfl, hg, hps, hgr, hrs, hb⟩
      refine wSs_cons (wS_ret (wE_bl (Dr.refl (q o' _ ?_ (hb.le (by simp))))))
      unfold S4
      refine sub_any ?_ (sub_any ?_ (Sub.put ?_))
      · rw [put_ne ap.a03.symm]; exact hp3'
      · rw [put_ne ap.a02.symm]; exact hp2'
      · rw [put_ne ap.a01.symm]; exact hp1
theorem law17 {k : Nat} {w : D} {ns : List Int} (hw : rdL st w = some (ns.map D.int)) (h : HasK17 P) (hR : Has P "" "_law_right" f_i_law_right_a86426) (hB : Has P "" "_law_box" f_i_law_box_b17dc2) (hC : Has P "" "_law_cells" f_i_law_cells_2580d9) (hL : Has P "" "law" f_law_156456) (hn : ns.length ≤ 63) (q : Q (.bl true) st) : cal P (k + 12) "" "law" [w] st Q E := by
  refine cal_of hL rfl ?_
  simp only [f_law_156456, List.map_cons, List.map_nil, List.length_cons, List.length_nil, Nat.reduceAdd, Nat.reduceSub, Nat.zero_add, List.replicate, List.cons_append, List.nil_append]
  trace "V"
  refine call_of hC rfl rfl (cells_ok (mo := 2) hw hC hn (by decide) (by decide) fun cs h0 h3 => ?_)
  trace "V"
  refine wE_lcD (List.range cs.length) (fun i : Nat => D.int (i : Int)) (fun _ => .bl true) (fun R hR => wI_rng (n := cs.length) (fun R hR => ?_) (by omega) hR) ?_ (by rw [List.length_range]; omega) ?_
  · trace "V"
    rw [List.length_map]; exact hR
  · intro j hj nx hn
    have hj : j < cs.length := List.mem_range.mp hj
    refine tg_nm ?_
    trace "V"
    rw [if_pos rfl]
    trace "V"
    refine call_of hB rfl rfl (box_ok hB hj h3 fun p o hp hb => ?_)
    trace "V"
    refine call_of hR rfl rfl (right17 (m := 0) h hR (hb.le (by decide)) put_same fun o' s hs _ => ?_)
    rw [put_put] at hs
    exact hn _ ((Sub.put hp).trans hs)
  trace "V"
  refine b_all (allB_map (fun _ : Nat => true) (List.range cs.length)) ?_
  have e : ((List.range cs.length).map fun _ : Nat => true).all id = true := by
    rw [List.all_eq_true]; intro b hb; obtain ⟨_, _, rfl⟩ := List.mem_map.mp hb; rfl
  rw [e]
  exact Dr.refl q
end
end Py

set_option maxHeartbeats 0
namespace Py
open PySem PySem.Spec PyProof.Rows L2
def c_World_has_95f23f : Fd := ⟨["self", "name"], 2, [], (.cons .never .nil)⟩
def c_World_needs_b2be59 : Fd := ⟨["self", "name"], 2, [], (.cons (.ret (.idx (.att (.var 0) "own_needs") (.var 1))) .nil)⟩
def c_World_wishes_ba6c22 : Fd := ⟨["self", "name"], 2, [], (.cons (.ret (.idx (.att (.var 0) "own_wishes") (.var 1))) .nil)⟩
def top (i : Nat) : Stmt := PySem.Challenge.pw_probed_k17_lists_names_and_the_same_agai.main.body.getD i (.Pass ⟨0, 0, 0, 0⟩)
def e_f_tupled_251813 : Ent := ⟨"", "tupled", f_tupled_251813, ["thing", "part"], ⟨("tupled", none), "tupled", "tupled", defArgs (top 6), defBody (top 6), defScope (top 6), [], []⟩, false⟩
def e_f_is_name_f2a722 : Ent := ⟨"", "is_name", f_is_name_f2a722, ["thing", "sign"], ⟨("is_name", none), "is_name", "is_name", defArgs (top 7), defBody (top 7), defScope (top 7), [], []⟩, false⟩
def e_f_are_names_da7974 : Ent := ⟨"", "are_names", f_are_names_da7974, ["thing", "part"], ⟨("are_names", none), "are_names", "are_names", defArgs (top 8), defBody (top 8), defScope (top 8), [], []⟩, false⟩
def e_c_World_i__init_i__6ae04a : Ent := ⟨"World", "__init__", c_World_i__init_i__6ae04a, ["self", "world", "rows", "name", "needs", "wishes"], ⟨("World", some "__init__"), "__init__", "World.__init__", defArgs (inClass (top 11) 1), defBody (inClass (top 11) 1), defScope (inClass (top 11) 1), [], []⟩, false⟩
def e_c_World_found_comers_abd271 : Ent := ⟨"World", "found_comers", c_World_found_comers_abd271, ["self", "came", "many", "name"], ⟨("World", some "found_comers"), "found_comers", "World.found_comers", defArgs (inClass (top 11) 2), defBody (inClass (top 11) 2), defScope (inClass (top 11) 2), [], []⟩, false⟩
def e_c_World_devices_9292ed : Ent := ⟨"World", "devices", c_World_devices_9292ed, ["self"], ⟨("World", some "devices"), "devices", "World.devices", defArgs (inClass (top 11) 3), defBody (inClass (top 11) 3), defScope (inClass (top 11) 3), [], []⟩, false⟩
def e_c_World_has_95f23f : Ent := ⟨"World", "has", c_World_has_95f23f, ["self", "name"], ⟨("World", some "has"), "has", "World.has", defArgs (inClass (top 11) 4), defBody (inClass (top 11) 4), defScope (inClass (top 11) 4), [], []⟩, false⟩
def e_c_World_needs_b2be59 : Ent := ⟨"World", "needs", c_World_needs_b2be59, ["self", "name"], ⟨("World", some "needs"), "needs", "World.needs", defArgs (inClass (top 11) 5), defBody (inClass (top 11) 5), defScope (inClass (top 11) 5), [], []⟩, false⟩
def e_c_World_wishes_ba6c22 : Ent := ⟨"World", "wishes", c_World_wishes_ba6c22, ["self", "name"], ⟨("World", some "wishes"), "wishes", "World.wishes", defArgs (inClass (top 11) 6), defBody (inClass (top 11) 6), defScope (inClass (top 11) 6), [], []⟩, false⟩
def e_c_World_comers_530c9e : Ent := ⟨"World", "comers", c_World_comers_530c9e, ["self"], ⟨("World", some "comers"), "comers", "World.comers", defArgs (inClass (top 11) 7), defBody (inClass (top 11) 7), defScope (inClass (top 11) 7), [], []⟩, false⟩
def e_c_World_can_come_0c313d : Ent := ⟨"World", "can_come", c_World_can_come_0c313d, ["self", "name", "came", "options", "must", "other"], ⟨("World", some "can_come"), "can_come", "World.can_come", defArgs (inClass (top 11) 8), defBody (inClass (top 11) 8), defScope (inClass (top 11) 8), [], []⟩, false⟩
def e_c_World_take_47101e : Ent := ⟨"World", "take", c_World_take_47101e, ["self", "name", "came", "found", "options", "must", "other"], ⟨("World", some "take"), "take", "World.take", defArgs (inClass (top 11) 9), defBody (inClass (top 11) 9), defScope (inClass (top 11) 9), [], []⟩, true⟩
def e_c_World_is_row_f2eec5 : Ent := ⟨"World", "is_row", c_World_is_row_f2eec5, ["self", "thing", "place", "name"], ⟨("World", some "is_row"), "is_row", "World.is_row", defArgs (inClass (top 11) 10), defBody (inClass (top 11) 10), defScope (inClass (top 11) 10), [], []⟩, false⟩
def e_c_World_outcome_c1a66a : Ent := ⟨"World", "outcome", c_World_outcome_c1a66a, ["self", "row", "place", "name"], ⟨("World", some "outcome"), "outcome", "World.outcome", defArgs (inClass (top 11) 11), defBody (inClass (top 11) 11), defScope (inClass (top 11) 11), [], []⟩, false⟩
def e_f_comers_599d99 : Ent := ⟨"", "comers", f_comers_599d99, ["world"], ⟨("comers", none), "comers", "comers", defArgs (top 12), defBody (top 12), defScope (top 12), [], []⟩, false⟩
def e_f_is_row_2a07e6 : Ent := ⟨"", "is_row", f_is_row_2a07e6, ["world", "thing"], ⟨("is_row", none), "is_row", "is_row", defArgs (top 13), defBody (top 13), defScope (top 13), [], []⟩, false⟩
def e_f_end_of_b93daf : Ent := ⟨"", "end_of", f_end_of_b93daf, ["world", "row", "own", "names"], ⟨("end_of", none), "end_of", "end_of", defArgs (top 14), defBody (top 14), defScope (top 14), [], []⟩, false⟩
def e_f_waits_5ffb10 : Ent := ⟨"", "waits", f_waits_5ffb10, ["world", "own", "name"], ⟨("waits", none), "waits", "waits", defArgs (top 15), defBody (top 15), defScope (top 15), [], []⟩, false⟩
def e_f_i_law_box_b17dc2 : Ent := ⟨"", "_law_box", f_i_law_box_b17dc2, ["_law_script", "_law_k", "_law_cell"], ⟨("_law_box", none), "_law_box", "_law_box", defArgs (top 17), defBody (top 17), defScope (top 17), [], []⟩, false⟩
def e_f_i_law_take_3a2ad2 : Ent := ⟨"", "_law_take", f_i_law_take_3a2ad2, ["_law_box_here", "_law_below", "_law_drawn", "_law_once", "_law_far", "_law_twice"], ⟨("_law_take", none), "_law_take", "_law_take", defArgs (top 18), defBody (top 18), defScope (top 18), [], []⟩, false⟩
def e_f_i_law_cells_2580d9 : Ent := ⟨"", "_law_cells", f_i_law_cells_2580d9, ["_law_script", "_law_most", "_law_cells_here", "_law_k", "_law_cell", "_law_at_so"], ⟨("_law_cells", none), "_law_cells", "_law_cells", defArgs (top 19), defBody (top 19), defScope (top 19), [], []⟩, false⟩
def e_f_i_law_of_0f7692 : Ent := ⟨"", "_law_of", f_i_law_of_0f7692, ["_law_box_here", "_law_some_here"], ⟨("_law_of", none), "_law_of", "_law_of", defArgs (top 20), defBody (top 20), defScope (top 20), [], []⟩, false⟩
def e_f_i_law_lists_e25d27 : Ent := ⟨"", "_law_lists", f_i_law_lists_e25d27, ["_law_matter", "_law_bit"], ⟨("_law_lists", none), "_law_lists", "_law_lists", defArgs (top 21), defBody (top 21), defScope (top 21), [], []⟩, false⟩
def e_f_i_law_same_0ba4f5 : Ent := ⟨"", "_law_same", f_i_law_same_0ba4f5, ["_law_got", "_law_due", "_law_own", "_law_mine", "_law_its"], ⟨("_law_same", none), "_law_same", "_law_same", defArgs (top 22), defBody (top 22), defScope (top 22), [], []⟩, false⟩
def e_f_i_law_names_1e383e : Ent := ⟨"", "_law_names", f_i_law_names_1e383e, ["_law_box_here", "_law_many_so", "_law_pool", "_law_some_here", "_law_turn_so"], ⟨("_law_names", none), "_law_names", "_law_names", defArgs (top 23), defBody (top 23), defScope (top 23), [], []⟩, false⟩
def e_f_i_law_some_c1ed9a : Ent := ⟨"", "_law_some", f_i_law_some_c1ed9a, ["_law_box_here", "_law_names_so", "_law_many_so", "_law_left_so", "_law_some_here", "_law_turn_so"], ⟨("_law_some", none), "_law_some", "_law_some", defArgs (top 24), defBody (top 24), defScope (top 24), [], []⟩, false⟩
def e_f_i_law_world_b8d4d3 : Ent := ⟨"", "_law_world", f_i_law_world_b8d4d3, ["_law_box_here", "_law_many_so", "_law_musts", "_law_names_so", "_law_order_so", "_law_rows", "_law_k", "_law_name_so", "_law_many_here", "_law_wishes_so", "_law_needs_so", "_law_turn_so", "_law_free", "_law_options_so", "_law_own"], ⟨("_law_world", none), "_law_world", "_law_world", defArgs (top 25), defBody (top 25), defScope (top 25), [], []⟩, false⟩
def e_f_i_law_can_c73f16 : Ent := ⟨"", "_law_can", f_i_law_can_c73f16, ["_law_world_so", "_law_name_so", "_law_came_so", "_law_row_so", "_law_own", "_law_one_so"], ⟨("_law_can", none), "_law_can", "_law_can", defArgs (top 26), defBody (top 26), defScope (top 26), [], []⟩, false⟩
def e_f_i_law_takes_32a987 : Ent := ⟨"", "_law_takes", f_i_law_takes_32a987, ["_law_world_so", "_law_name_so", "_law_came_so", "_law_row_so", "_law_own", "_law_one_so"], ⟨("_law_takes", none), "_law_takes", "_law_takes", defArgs (top 27), defBody (top 27), defScope (top 27), [], []⟩, false⟩
def e_f_i_law_comers_9910fe : Ent := ⟨"", "_law_comers", f_i_law_comers_9910fe, ["_law_world_so", "_law_came_so", "_law_turn_so", "_law_fresh_so", "_law_row_so", "_law_name_so"], ⟨("_law_comers", none), "_law_comers", "_law_comers", defArgs (top 28), defBody (top 28), defScope (top 28), [], []⟩, false⟩
def e_f_i_law_end_595762 : Ent := ⟨"", "_law_end", f_i_law_end_595762, ["_law_world_so", "_law_row_so", "_law_k"], ⟨("_law_end", none), "_law_end", "_law_end", defArgs (top 29), defBody (top 29), defScope (top 29), [], []⟩, false⟩
def e_f_i_law_row_2a3ae7 : Ent := ⟨"", "_law_row", f_i_law_row_2a3ae7, ["_law_box_here", "_law_world_so", "_law_row_so", "_law_turn_so", "_law_left_so", "_law_own", "_law_name_so"], ⟨("_law_row", none), "_law_row", "_law_row", defArgs (top 30), defBody (top 30), defScope (top 30), [], []⟩, false⟩
def e_f_i_law_refill_4fb0a7 : Ent := ⟨"", "_law_refill", f_i_law_refill_4fb0a7, ["_law_shelf", "_law_matter"], ⟨("_law_refill", none), "_law_refill", "_law_refill", defArgs (top 31), defBody (top 31), defScope (top 31), [], []⟩, false⟩
def e_f_i_law_mixed_827f6c : Ent := ⟨"", "_law_mixed", f_i_law_mixed_827f6c, ["_law_box_here", "_law_matter", "_law_bits", "_law_bit"], ⟨("_law_mixed", none), "_law_mixed", "_law_mixed", defArgs (top 32), defBody (top 32), defScope (top 32), [], []⟩, false⟩
def e_f_i_law_all_a214ea : Ent := ⟨"", "_law_all", f_i_law_all_a214ea, ["_law_net", "_law_lane", "_law_thing_so"], ⟨("_law_all", none), "_law_all", "_law_all", defArgs (top 33), defBody (top 33), defScope (top 33), [], []⟩, false⟩
def e_f_i_law_right_a86426 : Ent := ⟨"", "_law_right", f_i_law_right_a86426, ["_law_box_here", "_law_cases", "_law_shelf", "_law_row_shelf", "_law_turn_so", "_law_net", "_law_lane", "_law_away", "_law_due", "_law_soft", "_law_dim", "_law_got", "_law_named", "_law_dev"], ⟨("_law_right", none), "_law_right", "_law_right", defArgs (top 34), defBody (top 34), defScope (top 34), [], []⟩, false⟩
def e_f_law_156456 : Ent := ⟨"", "law", f_law_156456, ["_law_script", "_law_cells_here", "_law_k"], ⟨("law", none), "law", "law", defArgs (top 35), defBody (top 35), defScope (top 35), [], []⟩, false⟩
def ents : List Ent := ([e_f_tupled_251813, e_f_is_name_f2a722, e_f_are_names_da7974, e_c_World_i__init_i__6ae04a, e_c_World_found_comers_abd271, e_c_World_devices_9292ed, e_c_World_has_95f23f, e_c_World_needs_b2be59, e_c_World_wishes_ba6c22, e_c_World_comers_530c9e, e_c_World_can_come_0c313d, e_c_World_take_47101e, e_c_World_is_row_f2eec5, e_c_World_outcome_c1a66a, e_f_comers_599d99, e_f_is_row_2a07e6, e_f_end_of_b93daf, e_f_waits_5ffb10, e_f_i_law_box_b17dc2, e_f_i_law_take_3a2ad2, e_f_i_law_cells_2580d9, e_f_i_law_of_0f7692, e_f_i_law_lists_e25d27, e_f_i_law_same_0ba4f5, e_f_i_law_names_1e383e, e_f_i_law_some_c1ed9a, e_f_i_law_world_b8d4d3, e_f_i_law_can_c73f16, e_f_i_law_takes_32a987, e_f_i_law_comers_9910fe] ++ [e_f_i_law_end_595762, e_f_i_law_row_2a3ae7, e_f_i_law_refill_4fb0a7, e_f_i_law_mixed_827f6c, e_f_i_law_all_a214ea, e_f_i_law_right_a86426, e_f_law_156456])
def prog : Prog := ⟨["abs", "all", "any", "bool", "dict", "enumerate", "int", "isinstance", "len", "list", "min", "next", "range", "set", "sorted", "str", "tuple", "zip"], ents.map (fun e => ((e.c, e.f), e.fd)), [("World", ⟨["own_comers", "own_needs", "own_wishes"], true⟩)], [("LETTERS", .str "abcdefghijklmnopqrstuvwxyz"), ("LONGEST", .int 8), ("NOTHING", .str "")]⟩
theorem hasW : HasW prog := ⟨by rfl, by rfl, by rfl, by rfl, by rfl⟩
theorem hasR : HasR prog := ⟨hasW, ⟨by rfl, by rfl, by rfl, by rfl⟩, by rfl, by rfl, by rfl, by rfl⟩
theorem hasL : HasK17 prog := ⟨hasR, by rfl, by rfl, by rfl, by rfl, by rfl, by rfl, by rfl, by rfl, by rfl, by rfl, by rfl, by rfl, by rfl, by rfl, by rfl, by rfl, by rfl, by rfl, by rfl, by rfl, by rfl⟩
theorem pure_law : ∀ (ns : List Int) (d : D) (st : Sto), ns.length ≤ 63 → rdL st d = some (ns.map D.int) → cal prog 12 "" "law" [d] st (fun d _ => d = .bl true) X0 :=
  fun ns d st hn hw => law17 hw hasL (by rfl) (by rfl) (by rfl) (by rfl) hn rfl

theorem ents_ok : progB prog ents = true := by decide +kernel
abbrev RW : PySem.W.OpenRow := PySem.W.OpenLaw.row PySem.Challenge.rw_probed_k17_lists_names_and_the_same_agai
abbrev hk : PySem.W.Hook := hookE 5 prog ents
def ob (s : PySem.W.SharedT) : AlE := obsE 5 prog ents (HandSHeadRun.getT s)
theorem ob_eq (s : PySem.W.SharedT) : ob s = hk.obs s.abs := obsE_eq (HandSHeadRun.getT_eq s)
def loose : List PySem.Str := ((["_wall", "__name__", "NoRow", "LETTERS", "LONGEST", "tupled", "is_name", "are_names", "NOTHING", "World", "comers", "is_row", "end_of", "waits", "_law_box", "_law_take", "_law_cells", "_law_of", "_law_lists", "_law_same", "_law_names", "_law_some", "_law_world", "_law_can", "_law_takes", "_law_comers", "_law_end", "_law_row", "_law_refill", "_law_mixed"] : List PySem.Str) ++ (["_law_all", "_law_right"] : List PySem.Str))
theorem run (w : World) : HandSHeadRun.RunEq RW (PySem.W.view RW.prog [35]) hk ob 4000 loose w := by
  intro os
  kernel_rfl
end Py
open PySem PySem.W PySem.Calls PyProof.Rows
theorem PySem.Challenge.cw_probed_k17_lists_names_and_the_same_agai_holds : PySem.Challenge.rw_probed_k17_lists_names_and_the_same_agai.Holds := by
  w_on; o_law
  refine HandSHeadRun.head_any (r := OpenLaw.row PySem.Challenge.rw_probed_k17_lists_names_and_the_same_agai) (q := view (OpenLaw.row PySem.Challenge.rw_probed_k17_lists_names_and_the_same_agai).prog [35]) (H := Py.hk) (ob := Py.ob) (M := 4000) (loose := Py.loose) (d := HandSHeadRun.topDef (OpenLaw.row PySem.Challenge.rw_probed_k17_lists_names_and_the_same_agai).prog 35) (kwd := []) Py.ob_eq
    (by kernel_rfl) (fun s => by kernel_rfl) Py.run (by kernel_rfl) (by kernel_rfl) (by kernel_rfl) (by rfl) (by first | assumption | decide +kernel) (by decide +kernel) ⟨rfl, rfl, rfl, rfl, rfl, by decide +kernel⟩ ?hw ?hc
  case hw => w_witness2
  case hc =>
    refine LamX.walk_ofTsE (l := PySem.Challenge.rw_probed_k17_lists_names_and_the_same_agai) (n := 63) (k := 2 * 12) (x := "_law_script") (CX := fun _ => L2.CX0) rfl (by decide) (by kernel_rfl) ⟨rfl, by decide, by decide⟩ ?F (fun _ _ _ _ _ z => z)
    intro w mg fa h Y G hmg0
    have hmg : mg ("law" : PySem.Str) = some (.ref fa) := by
      have e : (HandSHeadRun.topDef (OpenLaw.row PySem.Challenge.rw_probed_k17_lists_names_and_the_same_agai).prog 35).name = ("law" : PySem.Str) := by kernel_rfl
      rw [← e]
      exact hmg0
    exact Py.law_facts (l := PySem.Challenge.rw_probed_k17_lists_names_and_the_same_agai) (k := 12) (eL := Py.e_f_law_156456) rfl Py.ents_ok rfl (by rfl) (List.mem_of_getElem? (i := 36) rfl) rfl rfl rfl (by decide) Py.pure_law w mg fa h Y G hmg
