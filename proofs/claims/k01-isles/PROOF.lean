import PyProof.Rows.All
import HandS.ForMost
import HandS.ForExc
import HandS.ExcInit
import HandS.Lambda
import HandS.TupAny
import HandS.Style
import HandS.Walk
import HandS.Deep
import HandS.TupMul
import HandS.IsInst
import HandS.Star
import HandS.CallSlots
import HandS.ExcOwn
import HandS.Nested
import HandS.ExcSuper
import KE.KExcSuper
import HandS.ExcField
import KE.KExcIs
import HandS.Defaults
import HandS.Spec
import HandS.Ends
import HandS.RaiseMore
import HandS.Dict
import KE.GoesMore
import KE.GoesEnum
import HandS.EndTab
import HandS.EndBits
import HandS.HeadWalk
import KE.KNestM
import PyProof.SumWalkG
import PyProof.ListOps
import PyProof.Rows.SetFrom
import HandS.Strs
import HandS.DictComp
import HandS.ExcValue
import OpenK.AllK
import Wide.FinOn
import PySem.Challenge.RW_neverflat_k01_isles_that_are_let
set_option Elab.async false
set_option linter.all false
set_option maxRecDepth 100000
set_option maxHeartbeats 8000000
set_option autoImplicit false
set_option maxHeartbeats 2000000
/-! Dl: data over the hand layer: what a value stands for, the store of things that change. -/
namespace Dl
open PySem PySem.Spec PyProof.Rows L2

/-- data: what never changes, all the way in; ref: a thing that may change, a class, a def -/
inductive D where
  | non | bl (b : Bool) | int (i : Int) | str (x : Str) | ty (n : String) | ref (a : Addr)
  | tup (xs : List D) | scr (ns : List Int) | lst (xs : List D) | dic (ks : List Key) (xs : List D)
  deriving Inhabited

/-- what may change -/
inductive O where
  | lst (xs : List D) | dic (ks : List Key) (xs : List D) | ins (C : Addr) (fs : List (Str × D)) | exc (C : Addr) (fs : List (Str × D)) | tab (q : Str)
abbrev Sto := Addr → Option O
def put (S : Sto) (a : Addr) (o : O) : Sto := fun b => if b = a then some o else S b
theorem put_same {S : Sto} {a : Addr} {o : O} : put S a o a = some o := by simp [put]
theorem put_ne {S : Sto} {a b : Addr} {o : O} (h : b ≠ a) : put S a o b = S b := by simp [put, h]
/-- it is no table of code objects -/
def nTab : O → Prop
  | .tab _ => False
  | _ => True
/-- the tables of code objects are few -/
def Tbs (S : Sto) : Prop := ∃ T : List (Addr × Str), (∀ b q, S b = some (.tab q) → (b, q) ∈ T) ∧ ∀ p ∈ T, S p.1 = some (.tab p.2)
theorem Tbs.put {S : Sto} {a : Addr} {u : O} (t : Tbs S) (h : ∀ o, S a = some o → nTab o) (n : nTab u) : Tbs (put S a u) := by
  obtain ⟨T, h1, h2⟩ := t
  refine ⟨T, fun b q e => ?_, fun p hp => ?_⟩
  · by_cases hb : b = a
    · subst hb; rw [put_same] at e; cases e; exact n.elim
    · rw [put_ne hb] at e; exact h1 b q e
  · rw [put_ne (fun z => by have := h2 p hp; rw [z] at this; exact h _ this)]
    exact h2 p hp
theorem put_put {S : Sto} {a : Addr} {o u : O} : put (put S a o) a u = put S a u := by
  funext b; unfold put; split <;> rfl
/-- the written part; what may change though it is no part of the store -/
structure Kz where
  K : PySem.W.Frag
  Z : Addr → Prop
abbrev Fr := Kz
/-- what never changes -/
def Fx : HO → Prop
  | .ext _ => True
  | .frz _ _ => True
  | .xd _ => True
  | _ => False
/-- at a: an exception of the class at C, its dict at dx -/
def exg (a C dx : Addr) : HO := .ext fun h => ∃ (o : Obj) (vs : Array Value), h.get? a = some o ∧ o.cls = .ref C ∧ o.dict = some dx ∧ o.data = .fields vs
/-- at dx: an exception's dict -/
def XdAt (H : Hp) (dx : Addr) (fs : List (Str × V)) : Prop := H dx = some (exd dx fs) ∨ H dx = some (.xd fs)
/-- the script -/
def SqX (K : PySem.W.Frag) (H : Hp) (a : Addr) (xs : List V) : Prop := (∃ ob, H a = some (.frz ob (.lst xs))) ∨ SqL K (fun _ => none) a xs
theorem SqX.sq {K : PySem.W.Frag} {H : Hp} {a : Addr} {xs : List V} (h : SqX K H a xs) : SqL K H a xs := by
  rcases h with ⟨ob, h⟩ | (h | ⟨ob, h⟩) | h
  · exact .inl (.inr ⟨ob, h⟩)
  · cases h
  · cases h
  · exact .inr h

mutual
/-- the value v stands for the data d -/
def Rep (K : Fr) (S : Sto) (H : Hp) (v : V) : D → Prop
  | .non => v = .non
  | .bl b => v = .bl b
  | .int i => v = .int i
  | .str x => v = .str x
  | .ty n => v = .ty n
  | .ref a => v = .ref a
  | .tup ds => ∃ a vs, v = .ref a ∧ SqT K.K H a vs ∧ Reps K S H vs ds
  | .scr ns => ∃ a, v = .ref a ∧ SqX K.K H a (ns.map V.int)
  | .lst ds => ∃ a vs, v = .ref a ∧ (S a = none ∧ ¬ K.Z a) ∧ H a = some (.lst vs) ∧ Reps K S H vs ds
  | .dic ks ds => ∃ a kvs, v = .ref a ∧ (S a = none ∧ ¬ K.Z a) ∧ Rd H a (.dK kvs) ∧ kvs.map (·.1) = ks ∧ Reps K S H (kvs.map (·.2)) ds
def Reps (K : Fr) (S : Sto) (H : Hp) (vs : List V) : List D → Prop
  | [] => vs = []
  | d :: ds => ∃ v r, vs = v :: r ∧ Rep K S H v d ∧ Reps K S H r ds
end

def ORep (K : Fr) (S : Sto) (H : Hp) (a : Addr) : O → Prop
  | .lst ds => ∃ vs, H a = some (.lst vs) ∧ Reps K S H vs ds
  | .dic ks ds => ∃ kvs, H a = some (.dK kvs) ∧ kvs.map (·.1) = ks ∧ Reps K S H (kvs.map (·.2)) ds
  | .ins C fs => ∃ dx kvs, H a = some (.ins C dx kvs) ∧ kvs.map (·.1) = fs.map (·.1) ∧ Reps K S H (kvs.map (·.2)) (fs.map (·.2))
  | .exc C fs => ∃ dx kvs, H a = some (exg a C dx) ∧ XdAt H dx kvs ∧ kvs.map (·.1) = fs.map (·.1) ∧ Reps K S H (kvs.map (·.2)) (fs.map (·.2))
  | .tab q => LamX.TabS H a q
structure SOk (K : Fr) (S : Sto) (H : Hp) : Prop where
  rep : ∀ a o, S a = some o → ORep K S H a o
  nz : ∀ a, K.Z a → S a = none ∧ H a ≠ none ∧ ∀ ps, H a ≠ some (.tbl ps)
  tabs : Tbs S

/-- what is data stays -/
structure Step (K : Fr) (S : Sto) (H : Hp) (S' : Sto) (H' : Hp) : Prop where
  tup : ∀ a vs, Rd H a (.tup vs) → Rd H' a (.tup vs)
  lst : ∀ a vs, S a = none ∧ ¬ K.Z a → H a = some (.lst vs) → (S' a = none ∧ ¬ K.Z a) ∧ H' a = some (.lst vs)
  dic : ∀ a kvs, S a = none ∧ ¬ K.Z a → Rd H a (.dK kvs) → (S' a = none ∧ ¬ K.Z a) ∧ Rd H' a (.dK kvs)
  hid : ∀ a o, K.Z a → H a = some o → H' a = some o
  ext : ∀ a o, Fx o → H a = some o → H' a = some o
theorem Step.refl {K : Fr} {S : Sto} {H : Hp} : Step K S H S H := ⟨fun _ _ h => h, fun _ _ h q => ⟨h, q⟩, fun _ _ h q => ⟨h, q⟩, fun _ _ _ h => h, fun _ _ _ h => h⟩
theorem Step.trans {K : Fr} {S S1 S2 : Sto} {H H1 H2 : Hp} (x : Step K S H S1 H1) (y : Step K S1 H1 S2 H2) : Step K S H S2 H2 :=
  ⟨fun a vs h => y.tup a vs (x.tup a vs h), fun a vs h q => let ⟨h1, q1⟩ := x.lst a vs h q; y.lst a vs h1 q1, fun a vs h q => let ⟨h1, q1⟩ := x.dic a vs h q; y.dic a vs h1 q1, fun a o z h => y.hid a o z (x.hid a o z h), fun a o f h => y.ext a o f (x.ext a o f h)⟩

/-- data stays data, whatever else is hidden -/
structure Mv (F : PySem.W.Frag) (Z : Addr → Prop) (S : Sto) (H : Hp) (Z' : Addr → Prop) (S' : Sto) (H' : Hp) : Prop where
  tup : ∀ a vs, Rd H a (.tup vs) → Rd H' a (.tup vs)
  lst : ∀ a vs, S a = none ∧ ¬ Z a → H a = some (.lst vs) → (S' a = none ∧ ¬ Z' a) ∧ H' a = some (.lst vs)
  dic : ∀ a kvs, S a = none ∧ ¬ Z a → Rd H a (.dK kvs) → (S' a = none ∧ ¬ Z' a) ∧ Rd H' a (.dK kvs)
  ext : ∀ a o, Fx o → H a = some o → H' a = some o
theorem Step.mv {K : Fr} {S S' : Sto} {H H' : Hp} (x : Step K S H S' H') : Mv K.K K.Z S H K.Z S' H' := ⟨x.tup, x.lst, x.dic, x.ext⟩
theorem Mv.trans {F : PySem.W.Frag} {Z Z1 Z2 : Addr → Prop} {S S1 S2 : Sto} {H H1 H2 : Hp} (x : Mv F Z S H Z1 S1 H1) (y : Mv F Z1 S1 H1 Z2 S2 H2) : Mv F Z S H Z2 S2 H2 :=
  ⟨fun a vs h => y.tup a vs (x.tup a vs h), fun a vs h q => let ⟨h1, q1⟩ := x.lst a vs h q; y.lst a vs h1 q1, fun a vs h q => let ⟨h1, q1⟩ := x.dic a vs h q; y.dic a vs h1 q1, fun a o f h => y.ext a o f (x.ext a o f h)⟩
theorem SqX.mv {F : PySem.W.Frag} {Z Z' : Addr → Prop} {S S' : Sto} {H H' : Hp} {a : Addr} {xs : List V} (st : Mv F Z S H Z' S' H') (h : SqX F H a xs) : SqX F H' a xs := by
  rcases h with ⟨ob, h⟩ | h
  · exact .inl ⟨ob, st.ext _ _ True.intro h⟩
  · exact .inr h
mutual
theorem Rep.mv {F : PySem.W.Frag} {Z Z' : Addr → Prop} {S S' : Sto} {H H' : Hp} (st : Mv F Z S H Z' S' H') : ∀ {v : V} {d : D}, Rep ⟨F, Z⟩ S H v d → Rep ⟨F, Z'⟩ S' H' v d
  | _, .non, h => h
  | _, .bl _, h => h
  | _, .int _, h => h
  | _, .str _, h => h
  | _, .ty _, h => h
  | _, .ref _, h => h
  | _, .tup ds, ⟨a, vs, e, q, r⟩ => ⟨a, vs, e, by
      rcases q with q | q
      · exact .inl (st.tup a vs q)
      · exact .inr q, Reps.mv st r⟩
  | _, .scr ns, ⟨a, e, h⟩ => ⟨a, e, SqX.mv st h⟩
  | _, .lst ds, ⟨a, vs, e, n, q, r⟩ => let ⟨n', q'⟩ := st.lst a vs n q; ⟨a, vs, e, n', q', Reps.mv st r⟩
  | _, .dic ks ds, ⟨a, vs, e, n, q, k, r⟩ => let ⟨n', q'⟩ := st.dic a vs n q; ⟨a, vs, e, n', q', k, Reps.mv st r⟩
theorem Reps.mv {F : PySem.W.Frag} {Z Z' : Addr → Prop} {S S' : Sto} {H H' : Hp} (st : Mv F Z S H Z' S' H') : ∀ {vs : List V} {ds : List D}, Reps ⟨F, Z⟩ S H vs ds → Reps ⟨F, Z'⟩ S' H' vs ds
  | _, [], h => h
  | _, _ :: _, ⟨v, r, e, h, hs⟩ => ⟨v, r, e, Rep.mv st h, Reps.mv st hs⟩
end
theorem Rep.step {K : Fr} {S S' : Sto} {H H' : Hp} (st : Step K S H S' H') {v : V} {d : D} (h : Rep K S H v d) : Rep K S' H' v d := Rep.mv (Z := K.Z) (Z' := K.Z) st.mv h
theorem Reps.step {K : Fr} {S S' : Sto} {H H' : Hp} (st : Step K S H S' H') {vs : List V} {ds : List D} (h : Reps K S H vs ds) : Reps K S' H' vs ds := Reps.mv (Z := K.Z) (Z' := K.Z) st.mv h

section
variable {K : Fr} {S S' : Sto} {H H' : Hp} {vs us : List V} {ds es : List D}
theorem Reps.length : ∀ {vs : List V} {ds : List D}, Reps K S H vs ds → vs.length = ds.length
  | _, [], h => by rw [show _ = [] from h]; rfl
  | _, _ :: ds, ⟨v, r, e, h, hs⟩ => by rw [e]; simp [Reps.length hs]
theorem Reps.nil : Reps K S H [] [] := rfl
theorem Reps.cons {v : V} {d : D} (h : Rep K S H v d) (hs : Reps K S H vs ds) : Reps K S H (v :: vs) (d :: ds) := ⟨v, vs, rfl, h, hs⟩
theorem Reps.append : ∀ {vs : List V} {ds : List D}, Reps K S H vs ds → Reps K S H us es → Reps K S H (vs ++ us) (ds ++ es)
  | _, [], h, k => by rw [show _ = [] from h]; exact k
  | _, _ :: ds, ⟨v, r, e, h, hs⟩, k => by rw [e]; exact ⟨v, _, rfl, h, Reps.append hs k⟩
theorem Reps.snoc {v : V} {d : D} (hs : Reps K S H vs ds) (h : Rep K S H v d) : Reps K S H (vs ++ [v]) (ds ++ [d]) := hs.append (.cons h .nil)
theorem Reps.get : ∀ {vs : List V} {ds : List D} {i : Nat} {d : D}, Reps K S H vs ds → ds[i]? = some d → ∃ v, vs[i]? = some v ∧ Rep K S H v d
  | _, [], _, _, _, e => by simp at e
  | _, _ :: ds, 0, d, ⟨v, r, q, h, hs⟩, e => by
    simp at e; subst e; rw [q]; exact ⟨v, rfl, h⟩
  | _, _ :: ds, i + 1, d, ⟨v, r, q, h, hs⟩, e => by
    obtain ⟨v', e1, h'⟩ := Reps.get (i := i) hs (by simpa using e)
    rw [q]; exact ⟨v', by simpa using e1, h'⟩
theorem Reps.getV : ∀ {vs : List V} {ds : List D} {i : Nat} {v : V}, Reps K S H vs ds → vs[i]? = some v → ∃ d, ds[i]? = some d ∧ Rep K S H v d
  | _, [], _, _, h, e => by rw [show _ = [] from h] at e; simp at e
  | _, d :: ds, 0, v, ⟨v', r, q, h, hs⟩, e => by
    rw [q] at e; simp at e; subst e; exact ⟨d, rfl, h⟩
  | _, _ :: ds, i + 1, v, ⟨v', r, q, h, hs⟩, e => by
    rw [q] at e
    obtain ⟨d', e1, h'⟩ := Reps.getV (i := i) hs (by simpa using e)
    exact ⟨d', by simpa using e1, h'⟩
theorem Reps.take : ∀ {vs : List V} {ds : List D} (n : Nat), Reps K S H vs ds → Reps K S H (vs.take n) (ds.take n)
  | _, _, 0, _ => by simp [Reps]
  | _, [], _ + 1, h => by rw [show _ = [] from h]; simp [Reps]
  | _, _ :: ds, n + 1, ⟨v, r, q, h, hs⟩ => by rw [q]; exact ⟨v, _, rfl, h, Reps.take n hs⟩
theorem Reps.drop : ∀ {vs : List V} {ds : List D} (n : Nat), Reps K S H vs ds → Reps K S H (vs.drop n) (ds.drop n)
  | _, _, 0, h => h
  | _, [], _ + 1, h => by rw [show _ = [] from h]; simp [Reps]
  | _, _ :: ds, n + 1, ⟨v, r, q, h, hs⟩ => by rw [q]; exact Reps.drop n hs
theorem Reps.set : ∀ {vs : List V} {ds : List D} (i : Nat) {v : V} {d : D}, Reps K S H vs ds → Rep K S H v d → Reps K S H (vs.set i v) (ds.set i d)
  | _, [], _, _, _, h, _ => by rw [show _ = [] from h]; simp [Reps]
  | _, _ :: ds, 0, _, _, ⟨v, r, q, h, hs⟩, k => by rw [q]; exact ⟨_, _, rfl, k, hs⟩
  | _, _ :: ds, i + 1, _, _, ⟨v, r, q, h, hs⟩, k => by rw [q]; exact ⟨_, _, rfl, h, Reps.set i hs k⟩
theorem Reps.eraseIdx : ∀ {vs : List V} {ds : List D} (i : Nat), Reps K S H vs ds → Reps K S H (vs.eraseIdx i) (ds.eraseIdx i)
  | _, [], _, h => by rw [show _ = [] from h]; simp [Reps]
  | _, _ :: ds, 0, ⟨v, r, q, h, hs⟩ => by rw [q]; exact hs
  | _, _ :: ds, i + 1, ⟨v, r, q, h, hs⟩ => by rw [q]; exact ⟨_, _, rfl, h, Reps.eraseIdx i hs⟩
theorem Reps.reverse : ∀ {vs : List V} {ds : List D}, Reps K S H vs ds → Reps K S H vs.reverse ds.reverse
  | _, [], h => by rw [show _ = [] from h]; exact rfl
  | _, _ :: ds, ⟨v, r, q, h, hs⟩ => by rw [q, List.reverse_cons, List.reverse_cons]; exact (Reps.reverse hs).snoc h
theorem Reps.ints : ∀ {ns : List Int}, Reps K S H (ns.map V.int) (ns.map D.int)
  | [] => rfl
  | n :: ns => ⟨_, _, rfl, rfl, Reps.ints⟩
theorem Reps.strs : ∀ {ns : List Str}, Reps K S H (ns.map V.str) (ns.map D.str)
  | [] => rfl
  | n :: ns => ⟨_, _, rfl, rfl, Reps.strs⟩
theorem Reps.bls : ∀ {ns : List Bool}, Reps K S H (ns.map V.bl) (ns.map D.bl)
  | [] => rfl
  | n :: ns => ⟨_, _, rfl, rfl, Reps.bls⟩
theorem Reps.ints_inv : ∀ {vs : List V} {ns : List Int}, Reps K S H vs (ns.map D.int) → vs = ns.map V.int
  | _, [], h => h
  | _, n :: ns, ⟨v, r, q, h, hs⟩ => by rw [q, show v = _ from h, Reps.ints_inv hs]; rfl
theorem Reps.strs_inv : ∀ {vs : List V} {ns : List Str}, Reps K S H vs (ns.map D.str) → vs = ns.map V.str
  | _, [], h => h
  | _, n :: ns, ⟨v, r, q, h, hs⟩ => by rw [q, show v = _ from h, Reps.strs_inv hs]; rfl
theorem Reps.bls_inv : ∀ {vs : List V} {ns : List Bool}, Reps K S H vs (ns.map D.bl) → vs = ns.map V.bl
  | _, [], h => h
  | _, n :: ns, ⟨v, r, q, h, hs⟩ => by rw [q, show v = _ from h, Reps.bls_inv hs]; rfl

theorem tabS_step {H H' : Hp} {a : Addr} {q : Str} (e : H' a = H a) (k : ∀ b o, Fx o → H b = some o → H' b = some o) (x : LamX.TabS H a q) : LamX.TabS H' a q := by
  obtain ⟨ps, h1, h2, h3⟩ := x
  refine ⟨ps, e.trans h1, h2, fun pos cv hc => ?_⟩
  obtain ⟨c, e1, e2⟩ := h3 pos cv hc
  exact ⟨c, e1, k c _ True.intro e2⟩
theorem ORep.step {a : Addr} {o : O} (st : Step K S H S' H') (e : H' a = H a) (x : ORep K S H a o) : ORep K S' H' a o := by
  cases o with
  | lst ds => obtain ⟨vs, h, r⟩ := x; exact ⟨vs, e.trans h, r.step st⟩
  | dic ks ds => obtain ⟨vs, h, k, r⟩ := x; exact ⟨vs, e.trans h, k, r.step st⟩
  | ins C fs => obtain ⟨dx, vs, h, k, r⟩ := x; exact ⟨dx, vs, e.trans h, k, r.step st⟩
  | exc C fs => obtain ⟨dx, vs, h, hd, k, r⟩ := x; exact ⟨dx, vs, e.trans h, hd.imp (st.ext _ _ True.intro) (st.ext _ _ True.intro), k, r.step st⟩
  | tab q => exact tabS_step e st.ext x
theorem SOk.there (ok : SOk K S H) {a : Addr} {o : O} (e : S a = some o) : H a ≠ none := fun n => by
  have x := ok.rep a o e
  cases o with
  | lst ds => obtain ⟨vs, h, r⟩ := x; rw [n] at h; cases h
  | dic ks ds => obtain ⟨vs, h, k, r⟩ := x; rw [n] at h; cases h
  | ins C fs => obtain ⟨dx, vs, h, k, r⟩ := x; rw [n] at h; cases h
  | exc C fs => obtain ⟨dx, vs, h, hd, k, r⟩ := x; rw [n] at h; cases h
  | tab q => obtain ⟨ps, h, _⟩ := x; rw [n] at h; cases h
theorem SOk.fresh (ok : SOk K S H) {a : Addr} (n : H a = none) : S a = none := by
  cases e : S a with
  | none => rfl
  | some o => exact absurd n (ok.there e)
theorem SOk.nzf (ok : SOk K S H) {a : Addr} (n : H a = none) : ¬ K.Z a := fun z => (ok.nz a z).2.1 n
theorem Rd.keep {H : Hp} {a b : Addr} {u : HO} {o : HO} (n : H a = none) (q : Rd H b u) : Rd (upd H a o) b u := by
  rcases q with q | ⟨ob, q⟩
  · exact .inl (by rw [upd_ne (ne_of_none q n)]; exact q)
  · exact .inr ⟨ob, by rw [upd_ne (ne_of_none q n)]; exact q⟩
theorem hp_keep {H : Hp} {a b : Addr} {u o : HO} (n : H a = none) (q : H b = some u) : upd H a o b = some u := by rw [upd_ne (ne_of_none q n)]; exact q
theorem hp_there {H : Hp} {a b : Addr} {o : HO} (q : H b ≠ none) : upd H a o b ≠ none := fun z => by
  unfold upd at z
  split at z
  · cases z
  · exact q z
/-- a new object, that is data -/
theorem Step.laid {a : Addr} {o : HO} (n : H a = none) : Step K S H S (upd H a o) :=
  ⟨fun _ _ q => Rd.keep n q, fun _ _ h q => ⟨h, hp_keep n q⟩, fun _ _ h q => ⟨h, Rd.keep n q⟩, fun _ _ _ q => hp_keep n q, fun _ _ _ q => hp_keep n q⟩
theorem SOk.laid {a : Addr} {o : HO} (ok : SOk K S H) (n : H a = none) : SOk K S (upd H a o) :=
  ⟨fun b u e => (ok.rep b u e).step (.laid n) (upd_ne (fun z => by subst z; exact ok.there e n)), fun b z => by
    obtain ⟨h1, h2, h3⟩ := ok.nz b z
    rw [upd_ne (fun q => by subst q; exact h2 n)]
    exact ⟨h1, h2, h3⟩, ok.tabs⟩
theorem Rd.ne {H : Hp} {a b : Addr} {u : HO} (n : H a = none) (q : Rd H b u) : b ≠ a := by
  rcases q with q | ⟨ob, q⟩ <;> exact ne_of_none q n
/-- a new object, that may change -/
theorem Step.made {a : Addr} {o : HO} {u : O} (n : H a = none) : Step K S H (put S a u) (upd H a o) :=
  ⟨fun _ _ q => Rd.keep n q, fun _ _ h q => ⟨⟨by rw [put_ne (ne_of_none q n)]; exact h.1, h.2⟩, hp_keep n q⟩, fun _ _ h q => ⟨⟨by rw [put_ne (Rd.ne n q)]; exact h.1, h.2⟩, Rd.keep n q⟩, fun _ _ _ q => hp_keep n q, fun _ _ _ q => hp_keep n q⟩
theorem SOk.made {a : Addr} {o : HO} {u : O} (ok : SOk K S H) (n : H a = none) (new : ORep K (put S a u) (upd H a o) a u) (nt : nTab u := by exact True.intro) : SOk K (put S a u) (upd H a o) := by
  refine ⟨fun b w e => ?_, fun b z => ?_, ok.tabs.put (fun o e => absurd n (ok.there e)) nt⟩
  · by_cases hb : b = a
    · subst hb; rw [put_same] at e; cases e; exact new
    · rw [put_ne hb] at e
      exact (ok.rep b w e).step (.made n) (upd_ne hb)
  · obtain ⟨h1, h2, h3⟩ := ok.nz b z
    have ne : b ≠ a := fun q => by subst q; exact h2 n
    rw [put_ne ne, upd_ne ne]
    exact ⟨h1, h2, h3⟩
/-- what may change is changed -/
theorem Step.write {a : Addr} {o : HO} {u u' : O} (ok : SOk K S H) (e : S a = some u) (ne : ∀ C fs, u ≠ .exc C fs := by intro _ _ z; cases z) : Step K S H (put S a u') (upd H a o) := by
  have kept : ∀ b w, b ≠ a → Rd H b w → Rd (upd H a o) b w := fun b w hb q => by
    rcases q with q | ⟨ob, q⟩
    · exact .inl (by rw [upd_ne hb]; exact q)
    · exact .inr ⟨ob, by rw [upd_ne hb]; exact q⟩
  have notT : ∀ b vs, Rd H b (.tup vs) → b ≠ a := fun b vs q z => by
    subst z
    have x := ok.rep b u e
    cases u with
    | lst ds => obtain ⟨vs, h, r⟩ := x; rcases q with q | ⟨_, q⟩ <;> (rw [h] at q; cases q)
    | dic ks ds => obtain ⟨vs, h, k, r⟩ := x; rcases q with q | ⟨_, q⟩ <;> (rw [h] at q; cases q)
    | ins C fs => obtain ⟨dx, vs, h, k, r⟩ := x; rcases q with q | ⟨_, q⟩ <;> (rw [h] at q; cases q)
    | exc C fs => exact ne C fs rfl
    | tab t => obtain ⟨ps, h, _⟩ := x; rcases q with q | ⟨_, q⟩ <;> (rw [h] at q; cases q)
  have notE : ∀ b w, Fx w → H b = some w → b ≠ a := fun b w f q z => by
    subst z
    have x := ok.rep b u e
    cases u with
    | lst ds => obtain ⟨vs, h, r⟩ := x; rw [h] at q; cases q; exact f.elim
    | dic ks ds => obtain ⟨vs, h, k, r⟩ := x; rw [h] at q; cases q; exact f.elim
    | ins C fs => obtain ⟨dx, vs, h, k, r⟩ := x; rw [h] at q; cases q; exact f.elim
    | exc C fs => exact ne C fs rfl
    | tab t => obtain ⟨ps, h, _⟩ := x; rw [h] at q; cases q; exact f.elim
  have notN : ∀ b, S b = none → b ≠ a := fun b n z => by subst z; rw [n] at e; cases e
  exact ⟨fun b vs q => kept b _ (notT b vs q) q, fun b vs n q => ⟨⟨by rw [put_ne (notN b n.1)]; exact n.1, n.2⟩, by rw [upd_ne (notN b n.1)]; exact q⟩, fun b vs n q => ⟨⟨by rw [put_ne (notN b n.1)]; exact n.1, n.2⟩, kept b _ (notN b n.1) q⟩,
    fun b w z q => by rw [upd_ne (notN b (ok.nz b z).1)]; exact q, fun b w f q => by rw [upd_ne (notE b w f q)]; exact q⟩
theorem SOk.write {a : Addr} {o : HO} {u u' : O} (ok : SOk K S H) (e : S a = some u) (new : ORep K (put S a u') (upd H a o) a u') (ne : ∀ C fs, u ≠ .exc C fs := by intro _ _ z; cases z) (n1 : nTab u := by exact True.intro) (n2 : nTab u' := by exact True.intro) : SOk K (put S a u') (upd H a o) := by
  refine ⟨fun b w q => ?_, fun b z => ?_, ok.tabs.put (fun o q => by rw [e] at q; cases q; exact n1) n2⟩
  · by_cases hb : b = a
    · subst hb; rw [put_same] at q; cases q; exact new
    · rw [put_ne hb] at q
      exact (ok.rep b w q).step (.write ok e ne) (upd_ne hb)
  · obtain ⟨h1, h2, h3⟩ := ok.nz b z
    have ne : b ≠ a := fun q => by subst q; rw [h1] at e; cases e
    rw [put_ne ne, upd_ne ne]
    exact ⟨h1, h2, h3⟩

/-! ### hiding a new list while it is made -/
abbrev hideZ (Z : Addr → Prop) (a : Addr) : Addr → Prop := fun b => Z b ∨ b = a
theorem ORep.mv {F : PySem.W.Frag} {Z Z' : Addr → Prop} {S S' : Sto} {H H' : Hp} {a : Addr} {o : O} (st : Mv F Z S H Z' S' H') (e : H' a = H a) (x : ORep ⟨F, Z⟩ S H a o) : ORep ⟨F, Z'⟩ S' H' a o := by
  cases o with
  | lst ds => obtain ⟨vs, h, r⟩ := x; exact ⟨vs, e.trans h, r.mv st⟩
  | dic ks ds => obtain ⟨vs, h, k, r⟩ := x; exact ⟨vs, e.trans h, k, r.mv st⟩
  | ins C fs => obtain ⟨dx, vs, h, k, r⟩ := x; exact ⟨dx, vs, e.trans h, k, r.mv st⟩
  | exc C fs => obtain ⟨dx, vs, h, hd, k, r⟩ := x; exact ⟨dx, vs, e.trans h, hd.imp (st.ext _ _ True.intro) (st.ext _ _ True.intro), k, r.mv st⟩
  | tab q => exact tabS_step e st.ext x
variable {F : PySem.W.Frag} {Z : Addr → Prop} {a : Addr} {o : HO}
theorem mv_hide (n : H a = none) : Mv F Z S H (hideZ Z a) S (upd H a o) :=
  ⟨fun _ _ q => Rd.keep n q, fun _ _ h q => ⟨⟨h.1, fun z => z.elim h.2 (ne_of_none q n)⟩, hp_keep n q⟩, fun _ _ h q => ⟨⟨h.1, fun z => z.elim h.2 (Rd.ne n q)⟩, Rd.keep n q⟩, fun _ _ _ q => hp_keep n q⟩
theorem mv_show : Mv F (hideZ Z a) S H Z S H :=
  ⟨fun _ _ q => q, fun _ _ h q => ⟨⟨h.1, fun z => h.2 (.inl z)⟩, q⟩, fun _ _ h q => ⟨⟨h.1, fun z => h.2 (.inl z)⟩, q⟩, fun _ _ _ q => q⟩
theorem SOk.hide (ok : SOk ⟨F, Z⟩ S H) (n : H a = none) (nt : ∀ ps, o ≠ .tbl ps := by intro _ z; cases z) : SOk ⟨F, hideZ Z a⟩ S (upd H a o) :=
  ⟨fun b w e => (ok.rep b w e).mv (mv_hide n) (upd_ne (fun z => by subst z; exact ok.there e n)), fun b z => by
    rcases z with z | z
    · obtain ⟨h1, h2, h3⟩ := ok.nz b z
      rw [upd_ne (fun q => by subst q; exact h2 n)]
      exact ⟨h1, h2, h3⟩
    · subst z; exact ⟨ok.fresh n, by rw [upd_same]; simp, fun ps z => nt ps (by rw [upd_same] at z; exact Option.some.inj z)⟩, ok.tabs⟩
theorem SOk.show (ok : SOk ⟨F, hideZ Z a⟩ S H) : SOk ⟨F, Z⟩ S H := ⟨fun b w e => (ok.rep b w e).mv mv_show rfl, fun b z => ok.nz b (.inl z), ok.tabs⟩
/-- the hidden list is written -/
theorem mv_fill {u : HO} (e : H a = some (.lst vs)) : Mv F (hideZ Z a) S H (hideZ Z a) S (upd H a u) := by
  have ne : ∀ b w, (∀ vs', w ≠ HO.lst vs') → Rd H b w → b ≠ a := fun b w hw q z => by
    subst z
    rcases q with q | ⟨ob, q⟩
    · rw [e] at q; cases q; exact hw _ rfl
    · rw [e] at q; cases q
  have kp : ∀ b w, b ≠ a → Rd H b w → Rd (upd H a u) b w := fun b w hb q => by
    rcases q with q | ⟨ob, q⟩
    · exact .inl (by rw [upd_ne hb]; exact q)
    · exact .inr ⟨ob, by rw [upd_ne hb]; exact q⟩
  exact ⟨fun b ws q => kp b _ (ne b _ (fun _ z => by cases z) q) q, fun b ws h q => ⟨h, by rw [upd_ne (fun z => h.2 (.inr z))]; exact q⟩, fun b ws h q => ⟨h, kp b _ (ne b _ (fun _ z => by cases z) q) q⟩, fun b w f q => by rw [upd_ne (fun z => by subst z; rw [e] at q; cases q; exact f.elim)]; exact q⟩
theorem SOk.fill {u : HO} (ok : SOk ⟨F, hideZ Z a⟩ S H) (e : H a = some (.lst vs)) (nt : ∀ ps, u ≠ .tbl ps := by intro _ z; cases z) : SOk ⟨F, hideZ Z a⟩ S (upd H a u) :=
  ⟨fun b w q => (ok.rep b w q).mv (mv_fill e) (upd_ne (fun z => by have := (ok.nz a (.inr rfl)).1; subst z; rw [this] at q; cases q)), fun b z => by
    obtain ⟨h1, h2, h3⟩ := ok.nz b z
    refine ⟨h1, hp_there h2, fun ps q => ?_⟩
    by_cases hb : b = a
    · subst hb; rw [upd_same] at q; exact nt ps (Option.some.inj q)
    · rw [upd_ne hb] at q; exact h3 ps q, ok.tabs⟩
end
end Dl
set_option maxHeartbeats 2000000
/-! Dl2: the judgements over data, and the rules of expressions. -/
namespace Dl
open PySem PySem.Spec PyProof.Rows L2

/-- what is hidden, the entry's store and heap -/
structure Bs where
  Z : Addr → Prop
  S0 : Sto
  H0 : Hp
abbrev Fam := Bs → Prop
def anyB : Fam := fun _ => True
abbrev DEnv := List (Option D)
abbrev TDE := DEnv → Sto → (D → Sto → Prop) → Prop
abbrev TDT := DEnv → Sto → (Bool → Sto → Prop) → Prop
abbrev TDA := DEnv → Sto → (List D → Sto → Prop) → Prop
structure DOut where
  nx : DEnv → Sto → Prop
  rt : D → Sto → Prop
  bk : DEnv → Sto → Prop
  ct : DEnv → Sto → Prop
abbrev TDS := DOut → DEnv → Sto → Prop
abbrev TDG := D → DEnv → Sto → (DEnv → Sto → Prop) → Prop

structure ERep (K : Fr) (S : Sto) (H : Hp) (σ : L2.St) (ρ : DEnv) : Prop where
  len : σ.length = ρ.length
  at_ : ∀ (i : Nat) (d : D), ρ[i]? = some (some d) → ∃ v, σ[i]? = some (some v) ∧ Rep K S H v d
structure SR (K : Fr) (S0 : Sto) (H0 : Hp) (σ : L2.St) (H : Hp) (ρ : DEnv) (S : Sto) : Prop where
  env : ERep K S H σ ρ
  ok : SOk K S H
  st : Step K S0 H0 S H
section
variable {K : Fr} {S S' S0 : Sto} {H H' H0 : Hp} {σ : L2.St} {ρ : DEnv}
theorem ERep.step (e : ERep K S H σ ρ) (st : Step K S H S' H') : ERep K S' H' σ ρ :=
  ⟨e.len, fun i d h => let ⟨v, h1, r⟩ := e.at_ i d h; ⟨v, h1, r.step st⟩⟩
theorem SR.step (e : SR K S0 H0 σ H ρ S) (ok : SOk K S' H') (st : Step K S H S' H') : SR K S0 H0 σ H' ρ S' := ⟨e.env.step st, ok, e.st.trans st⟩
theorem ERep.set {i : Nat} {v : V} {d : D} (e : ERep K S H σ ρ) (r : Rep K S H v d) : ERep K S H (σ.set i (some v)) (ρ.set i (some d)) := by
  refine ⟨by simp [e.len], fun j d' h => ?_⟩
  by_cases hj : i = j
  · subst hj
    by_cases hi : i < ρ.length
    · rw [List.getElem?_set_self hi] at h
      cases h
      exact ⟨v, by rw [List.getElem?_set_self (by rw [e.len]; exact hi)], r⟩
    · rw [List.getElem?_eq_none (by simpa using hi)] at h; cases h
  · rw [List.getElem?_set_ne hj] at h
    rw [List.getElem?_set_ne hj]
    exact e.at_ j d' h
theorem SR.set {i : Nat} {v : V} {d : D} (e : SR K S0 H0 σ H ρ S) (r : Rep K S H v d) : SR K S0 H0 (σ.set i (some v)) H (ρ.set i (some d)) S := ⟨e.env.set r, e.ok, e.st⟩
theorem ERep.unset {i : Nat} {o : Option V} (e : ERep K S H σ ρ) : ERep K S H (σ.set i o) (ρ.set i none) := by
  refine ⟨by simp [e.len], fun j d' h => ?_⟩
  by_cases hj : i = j
  · subst hj
    by_cases hi : i < ρ.length
    · rw [List.getElem?_set_self hi] at h; cases h
    · rw [List.getElem?_eq_none (by simpa using hi)] at h; cases h
  · rw [List.getElem?_set_ne hj] at h
    rw [List.getElem?_set_ne hj]
    exact e.at_ j d' h
end

/-- what is wanted of a value -/
def Ret (K : Fr) (S : Sto) (H : Hp) (P : D → Sto → Prop) (Q : VK) : Prop := ∀ d S', P d S' → ∀ v H', SOk K S' H' → Step K S H S' H' → Rep K S' H' v d → Q v H'
def lift (K : Fr) (S0 : Sto) (H0 : Hp) (t : TDE) : TE := fun σ H Q => ∃ ρ S P, SR K S0 H0 σ H ρ S ∧ t ρ S P ∧ Ret K S H P Q
def liftT (K : Fr) (S0 : Sto) (H0 : Hp) (t : TDT) : TT := fun σ H Q => ∃ ρ S P, SR K S0 H0 σ H ρ S ∧ t ρ S P ∧ ∀ b S', P b S' → ∀ H', SOk K S' H' → Step K S H S' H' → Q b H'
def liftA (K : Fr) (S0 : Sto) (H0 : Hp) (t : TDA) : TA := fun σ H Q => ∃ ρ S P, SR K S0 H0 σ H ρ S ∧ t ρ S P ∧ ∀ ds S', P ds S' → ∀ vs H', SOk K S' H' → Step K S H S' H' → Reps K S' H' vs ds → Q vs H'
structure OutR (K : Fr) (S0 : Sto) (H0 : Hp) (S : Sto) (H : Hp) (O : DOut) (E : Ends) : Prop where
  nx : ∀ ρ S', O.nx ρ S' → ∀ σ H', SR K S0 H0 σ H' ρ S' → Step K S H S' H' → E.nx σ H'
  rt : ∀ d S', O.rt d S' → ∀ v H', SOk K S' H' → Step K S0 H0 S' H' → Step K S H S' H' → Rep K S' H' v d → E.rt v H'
  bk : ∀ ρ S', O.bk ρ S' → ∀ σ H', SR K S0 H0 σ H' ρ S' → Step K S H S' H' → E.bk σ H'
  ct : ∀ ρ S', O.ct ρ S' → ∀ σ H', SR K S0 H0 σ H' ρ S' → Step K S H S' H' → E.ct σ H'
theorem OutR.mono {K : Fr} {S0 S S1 : Sto} {H0 H H1 : Hp} {O : DOut} {E : Ends} (o : OutR K S0 H0 S H O E) (st : Step K S H S1 H1) : OutR K S0 H0 S1 H1 O E :=
  ⟨fun ρ S' p σ H' sr st' => o.nx ρ S' p σ H' sr (st.trans st'), fun d S' p v H' ok s0 st' r => o.rt d S' p v H' ok s0 (st.trans st') r, fun ρ S' p σ H' sr st' => o.bk ρ S' p σ H' sr (st.trans st'), fun ρ S' p σ H' sr st' => o.ct ρ S' p σ H' sr (st.trans st')⟩
def liftS (K : Fr) (S0 : Sto) (H0 : Hp) (t : TDS) : TS := fun E σ H => ∃ ρ S O, SR K S0 H0 σ H ρ S ∧ t O ρ S ∧ OutR K S0 H0 S H O E
def liftG (K : Fr) (vs : List Nat) (S0 : Sto) (H0 : Hp) (g : TDG) : TG := fun v σ H Q => ∃ d ρ S P, Rep K S H v d ∧ SR K S0 H0 σ H ρ S ∧ g d ρ S P ∧ ∀ ρ' S', P ρ' S' → ∀ σ' H', SR K S0 H0 σ' H' ρ' S' → Step K S H S' H' → wipe σ' vs = wipe σ vs → Q σ' H'

def DE (X : Cx) (B : Fam) (e : Expr) (t : TDE) : Prop := ∀ b, B b → PE X e (lift ⟨X.K, b.Z⟩ b.S0 b.H0 t)
def DT (X : Cx) (B : Fam) (e : Expr) (t : TDT) : Prop := ∀ b, B b → PT X e (liftT ⟨X.K, b.Z⟩ b.S0 b.H0 t)
def DW (X : Cx) (B : Fam) (e : Expr) (t : TDT) : Prop := ∀ b, B b → PW X e (liftT ⟨X.K, b.Z⟩ b.S0 b.H0 t)
def DA (X : Cx) (B : Fam) (es : List Expr) (t : TDA) : Prop := ∀ b, B b → PA X es (liftA ⟨X.K, b.Z⟩ b.S0 b.H0 t)
def DS (X : Cx) (B : Fam) (s : Stmt) (t : TDS) : Prop := ∀ b, B b → PS X s (liftS ⟨X.K, b.Z⟩ b.S0 b.H0 t)
def DSs (X : Cx) (B : Fam) (s : List Stmt) (t : TDS) : Prop := ∀ b, B b → PSs X s (liftS ⟨X.K, b.Z⟩ b.S0 b.H0 t)
def DG (X : Cx) (B : Fam) (vs : List Nat) (e : Expr) (g : TDG) : Prop := ∀ b, B b → PG X e (liftG ⟨X.K, b.Z⟩ vs b.S0 b.H0 g)

theorem _root_.L2.PE.imp {X : Cx} {e : Expr} {t t' : TE} (h : PE X e t) (k : ∀ σ H Q, t' σ H Q → t σ H Q) : PE X e t' := ⟨fun pins s σ H Q I q => h.run pins s σ H Q I (k σ H Q q)⟩
theorem _root_.L2.PT.imp {X : Cx} {e : Expr} {t t' : TT} (h : PT X e t) (k : ∀ σ H Q, t' σ H Q → t σ H Q) : PT X e t' := ⟨fun pins s σ H Q I q => h.run pins s σ H Q I (k σ H Q q)⟩
theorem _root_.L2.PW.imp {X : Cx} {e : Expr} {t t' : TT} (h : PW X e t) (k : ∀ σ H Q, t' σ H Q → t σ H Q) : PW X e t' := ⟨fun wh pins s σ H Q I q => h.run wh pins s σ H Q I (k σ H Q q)⟩
theorem _root_.L2.PA.imp {X : Cx} {e : List Expr} {t t' : TA} (h : PA X e t) (k : ∀ σ H Q, t' σ H Q → t σ H Q) : PA X e t' := ⟨fun pos pins s σ H Q I q => h.run pos pins s σ H Q I (k σ H Q q)⟩
theorem _root_.L2.PS.imp {X : Cx} {e : Stmt} {t t' : TS} (h : PS X e t) (k : ∀ E σ H, t' E σ H → t E σ H) : PS X e t' := ⟨fun pins s σ H E I q => h.run pins s σ H E I (k E σ H q)⟩
theorem _root_.L2.PSs.imp {X : Cx} {e : List Stmt} {t t' : TS} (h : PSs X e t) (k : ∀ E σ H, t' E σ H → t E σ H) : PSs X e t' := ⟨fun pins s σ H E I q => h.run pins s σ H E I (k E σ H q)⟩
theorem _root_.L2.PG.imp {X : Cx} {e : Expr} {t t' : TG} (h : PG X e t) (k : ∀ v σ H Q, t' v σ H Q → t v σ H Q) : PG X e t' := ⟨fun pins s σ H v u Q I r q => h.run pins s σ H v u Q I r (k v σ H Q q)⟩

/-! ### names and constants -/
section
variable {X : Cx} {B : Fam} {S0 : Sto} {H0 : Hp}
def dVar (i : Nat) : TDE := fun ρ S Q => ∃ d, ρ[i]? = some (some d) ∧ Q d S
def dC (d : D) : TDE := fun _ S Q => Q d S
theorem de_var {i : Nat} {x : Str} {pos : Pos} (hN : X.N[i]? = some x) (hv : Vis X.env.scope x) (hd : (x == ("__debug__" : Str)) = false := by decide) (hcd : (x == ("__classdict__" : Str)) = false := by decide) : DE X B (.Name x pos) (dVar i) := fun β hB => by
  refine (pe_var hN hv hd hcd).imp fun σ H Q ⟨ρ, S, P, sr, ⟨d, e, p⟩, k⟩ => ?_
  obtain ⟨v, e1, r⟩ := sr.env.at_ i d e
  exact ⟨v, e1, k d S p v H sr.ok .refl r⟩
theorem dv (i : Nat) {x : Str} {pos : Pos} (hN : X.N[i]? = some x := by rfl) (hv : Vis X.env.scope x := by first | exact Or.inl rfl | exact Or.inr (Or.inl rfl) | exact Or.inr (Or.inr rfl)) (hd : (x == ("__debug__" : Str)) = false := by decide)
    (hcd : (x == ("__classdict__" : Str)) = false := by decide) : DE X B (.Name x pos) (dVar i) := de_var hN hv hd hcd
theorem de_c {e : Expr} {v : V} {d : D} (h : PE X e (tC v)) (r : ∀ Z S H, SOk ⟨X.K, Z⟩ S H → Rep ⟨X.K, Z⟩ S H v d) : DE X B e (dC d) := fun β hB =>
  h.imp fun σ H Q ⟨ρ, S, P, sr, p, k⟩ => k d S p v H sr.ok .refl (r β.Z S H sr.ok)
theorem de_int {i j pos} : DE X B (.Constant (.int i) j pos) (dC (.int i)) := de_c pe_int fun _ _ _ _ => rfl
theorem de_bl {i j pos} : DE X B (.Constant (.bool i) j pos) (dC (.bl i)) := de_c pe_bl fun _ _ _ _ => rfl
theorem de_non {j pos} : DE X B (.Constant .none j pos) (dC .non) := de_c pe_non fun _ _ _ _ => rfl
theorem de_str {i j pos} : DE X B (.Constant (.str i) j pos) (dC (.str i)) := de_c pe_str fun _ _ _ _ => rfl
/-- a module's constant -/
theorem de_glob {x : Str} {v : V} {u : Value} {d : D} {pos : Pos} (hg : Gl X x) (hm : X.mg x = some u) (r : RelV v u) (hr : ∀ Z S H, Rep ⟨X.K, Z⟩ S H v d) (hd : (x == ("__debug__" : Str)) = false := by decide) : DE X B (.Name x pos) (dC d) :=
  de_c (pe_glob hg hm r hd) fun Z S H _ => hr Z S H
/-- a built-in's name as a value -/
theorem de_ty {x : Str} {n : String} {pos : Pos} (hg : Gl X x) (hm : X.mg x = none) (hv : bootBuiltins x = some (.type n)) (hn : x ≠ "__name__" := by decide) (hd : (x == ("__debug__" : Str)) = false := by decide) : DE X B (.Name x pos) (dC (.ty n)) :=
  de_c (pe_bltn hg hm hv (v := .ty n) rfl hn hd) fun _ _ _ _ => rfl
end

/-! ### operators -/
/-- a list's items -/
def lsD (S : Sto) : D → Option (List D)
  | .lst xs => some xs
  | .ref a => match S a with
    | some (.lst xs) => some xs
    | _ => none
  | _ => none
/-- a list's, a tuple's items -/
def sqD (S : Sto) : D → Option (List D)
  | .lst xs => some xs
  | .tup xs => some xs
  | .scr ns => some (ns.map .int)
  | .ref a => match S a with
    | some (.lst xs) => some xs
    | _ => none
  | _ => none
section
variable {K : Fr} {S : Sto} {H : Hp} {v : V} {d : D} {xs : List D}
theorem lsD_at (ok : SOk K S H) (r : Rep K S H v d) (h : lsD S d = some xs) : ∃ a vs, v = .ref a ∧ H a = some (.lst vs) ∧ Reps K S H vs xs := by
  cases d with
  | lst ys =>
    cases h
    obtain ⟨a, vs, e, n, q, rs⟩ := r
    exact ⟨a, vs, e, q, rs⟩
  | ref a =>
    unfold lsD at h
    cases e : S a with
    | none => simp [e] at h
    | some o =>
      cases o with
      | lst ys =>
        simp [e] at h
        subst h
        obtain ⟨vs, h1, rs⟩ := ok.rep a _ e
        exact ⟨a, vs, r, h1, rs⟩
      | _ => simp [e] at h
  | _ => cases h
theorem sqD_at (ok : SOk K S H) (r : Rep K S H v d) (h : sqD S d = some xs) : ∃ a vs, v = .ref a ∧ (SqL K.K H a vs ∨ SqT K.K H a vs) ∧ Reps K S H vs xs := by
  cases d with
  | lst ys =>
    cases h
    obtain ⟨a, vs, e, n, q, rs⟩ := r
    exact ⟨a, vs, e, .inl (.of q), rs⟩
  | tup ys =>
    cases h
    obtain ⟨a, vs, e, q, rs⟩ := r
    exact ⟨a, vs, e, .inr q, rs⟩
  | scr ns =>
    cases h
    obtain ⟨a, e, q⟩ := r
    exact ⟨a, ns.map V.int, e, .inl q.sq, .ints⟩
  | ref a =>
    unfold sqD at h
    cases e : S a with
    | none => simp [e] at h
    | some o =>
      cases o with
      | lst ys =>
        simp [e] at h
        subst h
        obtain ⟨vs, h1, rs⟩ := ok.rep a _ e
        exact ⟨a, vs, r, .inl (.of h1), rs⟩
      | _ => simp [e] at h
  | _ => cases h
end

abbrev RD2 := D → D → Sto → (D → Sto → Prop) → Prop
abbrev RD1 := D → Sto → (D → Sto → Prop) → Prop
abbrev RDn := List D → Sto → (D → Sto → Prop) → Prop
def liftR (K : Fr) (f : RD2) : R2 := fun x y H Q => ∃ dx dy S P, Rep K S H x dx ∧ Rep K S H y dy ∧ SOk K S H ∧ f dx dy S P ∧ Ret K S H P Q
def liftU (K : Fr) (f : RD1) : V → Hp → VK → Prop := fun x H Q => ∃ dx S P, Rep K S H x dx ∧ SOk K S H ∧ f dx S P ∧ Ret K S H P Q
def liftN (K : Fr) (f : RDn) : List V → Hp → VK → Prop := fun xs H Q => ∃ ds S P, Reps K S H xs ds ∧ SOk K S H ∧ f ds S P ∧ Ret K S H P Q
def dOp (f : RD2) (ta tb : TDE) : TDE := fun ρ S Q => ta ρ S fun x S1 => tb ρ S1 fun y S2 => f x y S2 Q
def dUn (f : RD1) (ta : TDE) : TDE := fun ρ S Q => ta ρ S fun x S1 => f x S1 Q
theorem Ret.mono {K : Fr} {S S1 : Sto} {H H1 : Hp} {P : D → Sto → Prop} {Q : VK} (k : Ret K S H P Q) (st : Step K S H S1 H1) : Ret K S1 H1 P Q := fun d S' p v H' ok st' r => k d S' p v H' ok (st.trans st') r
section
variable {X : Cx} {B : Fam} {S0 : Sto} {H0 : Hp} {a b c : Expr} {ta tb tc : TDE} {pos : Pos}
theorem lift2 {K : Fr} {f : RD2} {σ : L2.St} {H : Hp} {Q : VK} (h : lift K S0 H0 (dOp f ta tb) σ H Q) : tOp (liftR K f) (lift K S0 H0 ta) (lift K S0 H0 tb) σ H Q := by
  obtain ⟨ρ, S, P, sr, h, k⟩ := h
  refine ⟨ρ, S, _, sr, h, fun dx S1 h1 v1 H1 ok1 st1 r1 => ?_⟩
  refine ⟨ρ, S1, _, sr.step ok1 st1, h1, fun dy S2 h2 v2 H2 ok2 st2 r2 => ?_⟩
  exact ⟨dx, dy, S2, P, r1.step st2, r2, ok2, h2, k.mono (st1.trans st2)⟩
def OpD (X : Cx) (f : Value → Value → Sem Value) (r : RD2) : Prop := ∀ Z, OpR X f (liftR ⟨X.K, Z⟩ r)
def UnD (X : Cx) (f : Value → Sem Value) (r : RD1) : Prop := ∀ Z, UnR X f (liftU ⟨X.K, Z⟩ r)
def CallD (X : Cx) (f : Value) (r : RDn) : Prop := ∀ Z, CallR X f (liftN ⟨X.K, Z⟩ r)
theorem de_op {op : Operator} {f : RD2} (ho : OpD X (binaryOp op) f) (ha : DE X B a ta) (hb : DE X B b tb) : DE X B (.BinOp a op b pos) (dOp f ta tb) := fun β hB =>
  (pe_op (ho β.Z) (ha β hB) (hb β hB)).imp fun σ H Q h => lift2 h
theorem de_un {op : UnaryOp} {f : RD1} (ho : UnD X (unaryOp op) f) (ha : DE X B a ta) : DE X B (.UnaryOp op a pos) (dUn f ta) := fun β hB =>
  (pe_un (ho β.Z) (ha β hB)).imp fun σ H Q ⟨ρ, S, P, sr, h, k⟩ => ⟨ρ, S, _, sr, h, fun dx S1 h1 v1 H1 ok1 st1 r1 => ⟨dx, S1, P, r1, ok1, h1, k.mono st1⟩⟩
theorem de_cmp {op : CmpOp} {f : RD2} (ho : OpD X (compareOp op) f) (ha : DE X B a ta) (hb : DE X B b tb) (hm : behindInMarks op b = false) : DE X B (.Compare a [op] [b] pos) (dOp f ta tb) := fun β hB =>
  (pe_cmpR (ho β.Z) (ha β hB) (hb β hB) hm).imp fun σ H Q h => lift2 h
/-- a value as a test: it is a bool -/
def dTst (t : TDE) : TDT := fun ρ S Q => t ρ S fun x S1 => ∃ k, x = .bl k ∧ Q k S1
theorem liftTst {K : Fr} {t : TDE} {σ : L2.St} {H : Hp} {Q : Bool → Hp → Prop} (h : liftT K S0 H0 (dTst t) σ H Q) : lift K S0 H0 t σ H fun x H' => ∃ k, x = .bl k ∧ Q k H' := by
  obtain ⟨ρ, S, P, sr, h, k⟩ := h
  refine ⟨ρ, S, _, sr, h, fun d S' hp v H' ok st r => ?_⟩
  obtain ⟨c, e, p⟩ := hp
  subst e
  exact ⟨c, r, k c S' p H' ok st⟩
theorem dt_cmp {op : CmpOp} {f : RD2} (ho : OpD X (compareOp op) f) (ha : DE X B a ta) (hb : DE X B b tb) (hm : behindInMarks op b = false) : DT X B (.Compare a [op] [b] pos) (dTst (dOp f ta tb)) := fun β hB =>
  (pt_cmpR (ho β.Z) (ha β hB) (hb β hB) hm).imp fun σ H Q h => by
    obtain ⟨ρ, S, P, sr, h, k⟩ := h
    refine lift2 (S0 := β.S0) (H0 := β.H0) ⟨ρ, S, _, sr, h, fun d S' hp v H' ok st r => ?_⟩
    obtain ⟨c, e, p⟩ := hp
    subst e
    exact ⟨c, r, k c S' p H' ok st⟩
/-- a value as a test -/
theorem dt_val {e : Expr} {t : TDE} (h : DE X B e t) (he : ∀ whole, isTrue e X.env whole = (do let v ← whole; standAt e.pos; holding [v] (truthy v)) := by intro _; rfl) : DT X B e (dTst t) := fun β hB =>
  (pt_val (h β hB) he).imp fun σ H Q h => liftTst h
/-- a < b < c -/
def dChain (f g : RD2) (ta tb tc : TDE) : TDE := fun ρ S Q => ta ρ S fun x S1 => tb ρ S1 fun y S2 => f x y S2 fun z S3 => ∃ k, z = .bl k ∧ if k = true then tc ρ S3 fun w S4 => g y w S4 Q else Q (.bl false) S3
end
end Dl
set_option maxHeartbeats 2000000
/-! Dl3: operators, comparisons, tests, displays, subscripts over data. -/
namespace Dl
open PySem PySem.Spec PyProof.Rows L2

/-! ### new lists: data, or a thing that changes -/
def newL (m : Bool) (xs : List D) (S : Sto) (Q : D → Sto → Prop) : Prop := if m = true then ∀ p, S p = none → Q (.ref p) (put S p (.lst xs)) else Q (.lst xs) S
section
variable {K : Fr} {S S1 : Sto} {H H1 : Hp} {P : D → Sto → Prop} {Q : VK}
theorem newL_ok {m : Bool} {xs : List D} {vs : List V} {p : Addr} (k : Ret K S1 H1 P Q) (ok : SOk K S H) (st : Step K S1 H1 S H) (r : Reps K S H vs xs) (h : newL m xs S P) (n : H p = none) : Q (.ref p) (upd H p (.lst vs)) := by
  cases m with
  | true =>
    have h' : ∀ p, S p = none → P (.ref p) (put S p (.lst xs)) := by simpa [newL] using h
    refine k _ _ (h' p (ok.fresh n)) _ _ (ok.made n ⟨vs, upd_same, r.step (.made n)⟩) (st.trans (.made n)) rfl
  | false =>
    have h' : P (.lst xs) S := by simpa [newL] using h
    exact k _ _ h' _ _ (ok.laid n) (st.trans (.laid n)) ⟨p, vs, rfl, ⟨ok.fresh n, ok.nzf n⟩, upd_same, r.step (.laid n)⟩
theorem newT_ok {xs : List D} {vs : List V} {p : Addr} (k : Ret K S1 H1 P Q) (ok : SOk K S H) (st : Step K S1 H1 S H) (r : Reps K S H vs xs) (h : P (.tup xs) S) (n : H p = none) : Q (.ref p) (upd H p (.tup vs)) :=
  k _ _ h _ _ (ok.laid n) (st.trans (.laid n)) ⟨p, vs, rfl, .inl (.inl upd_same), r.step (.laid n)⟩
end

/-! ### arithmetic -/
def addR (m : Bool) : RD2 := fun x y S Q => match x, y with
  | .int i, .int j => Q (.int (i + j)) S
  | .str a, .str b => a.length + b.length ≤ sizeLine ∧ Q (.str (a ++ b)) S
  | .tup a, .tup b => a.length + b.length ≤ sizeLine ∧ Q (.tup (a ++ b)) S
  | x, y => ∃ a b, lsD S x = some a ∧ lsD S y = some b ∧ a.length + b.length ≤ sizeLine ∧ newL m (a ++ b) S Q
def subR : RD2 := fun x y S Q => match x, y with
  | .int i, .int j => Q (.int (i - j)) S
  | _, _ => False
def mulR (m : Bool) : RD2 := fun x y S Q => match x, y with
  | .int i, .int j => CMul i j ∧ Q (.int (i * j)) S
  | .tup xs, .int k => xs ≠ [] ∧ 2 ≤ k ∧ k ≤ 1000 ∧ xs.length ≤ 1000 ∧ Q (.tup (List.replicate k.toNat xs).flatten) S
  | x, .int k => ∃ xs, lsD S x = some xs ∧ -(2 ^ 63) ≤ k ∧ k < 2 ^ 63 ∧ xs.length * k.toNat ≤ sizeLine ∧ newL m (List.replicate k.toNat xs).flatten S Q
  | _, _ => False
def modR : RD2 := fun x y S Q => match x, y with
  | .int i, .int j => 0 < j ∧ Q (.int (i % j)) S
  | _, _ => False
def fdivR : RD2 := fun x y S Q => match x, y with
  | .int i, .int j => CDiv i j ∧ Q (.int (i / j)) S
  | _, _ => False
def powR : RD2 := fun x y S Q => match x, y with
  | .int i, .int j => CPow i j ∧ Q (.int (i ^ j.toNat)) S
  | _, _ => False
def negR : RD1 := fun x S Q => match x with
  | .int i => Q (.int (-i)) S
  | _ => False
section
variable {X : Cx}
theorem od_add {m : Bool} : OpD X (binaryOp .Add) (addR m) := by
  intro Z pins s σ H x y v u Q I rx ry h
  obtain ⟨dx, dy, S, P, r1, r2, ok, h, k⟩ := h
  have lists : (∃ a b, lsD S dx = some a ∧ lsD S dy = some b ∧ a.length + b.length ≤ sizeLine ∧ newL m (a ++ b) S P) → wpAny (model X.prog X.w) X.A (binaryOp .Add v u) (EP X pins σ Q) X.xe s := by
    rintro ⟨a, b, ha, hb, hl, hn⟩
    obtain ⟨p, vs, rfl, hp, rs⟩ := lsD_at ok r1 ha
    obtain ⟨q, us, rfl, hq, rt⟩ := lsD_at ok r2 hb
    exact op_cat pins s σ H _ _ v u Q I rx ry ⟨p, q, vs, us, rfl, rfl, hp, hq, by rw [rs.length, rt.length]; exact hl, fun z n => newL_ok k ok .refl (rs.append rt) hn n⟩
  cases dx <;> cases dy <;> first
    | exact lists h
    | (rename_i a b
       cases r1; cases r2
       first
        | exact op_add pins s σ H _ _ v u Q I rx ry ⟨a, b, rfl, rfl, k _ _ h _ _ ok .refl rfl⟩
        | exact op_add_str pins s σ H _ _ v u Q I rx ry ⟨a, b, rfl, rfl, h.1, k _ _ h.2 _ _ ok .refl rfl⟩)
    | (obtain ⟨p, vs, rfl, hp, rs⟩ := r1
       obtain ⟨q, us, rfl, hq, rt⟩ := r2
       have hl : vs.length + us.length ≤ sizeLine := by rw [rs.length, rt.length]; exact h.1
       have r' := rs.append rt
       refine op_catA pins s σ H _ _ v u Q I rx ry ⟨p, q, vs, us, rfl, rfl, hp, hq, hl, fun e => ?_, fun _ e => ?_, fun _ _ z n => newT_ok k ok .refl r' h.2 n⟩
       · rw [e] at r'
         exact k _ _ h.2 _ _ ok .refl ⟨q, us, rfl, hq, r'⟩
       · rw [e, List.append_nil] at r'
         exact k _ _ h.2 _ _ ok .refl ⟨p, vs, rfl, hp, r'⟩)
theorem od_ii {op : Operator} {f : RD2} {C : Int → Int → Prop} {g : Int → Int → Int} (ho : OpR X (binaryOp op) (rI C fun i j => .int (g i j)))
    (hf : ∀ dx dy S P, f dx dy S P → ∃ i j, dx = .int i ∧ dy = .int j ∧ C i j ∧ P (.int (g i j)) S) : OpD X (binaryOp op) f := by
  intro Z pins s σ H x y v u Q I rx ry h
  obtain ⟨dx, dy, S, P, r1, r2, ok, h, k⟩ := h
  obtain ⟨i, j, rfl, rfl, c, p⟩ := hf _ _ _ _ h
  exact ho pins s σ H x y v u Q I rx ry ⟨i, j, r1, r2, c, k _ _ p _ _ ok .refl rfl⟩
theorem od_sub : OpD X (binaryOp .Sub) subR := by
  intro Z pins s σ H x y v u Q I rx ry h
  obtain ⟨dx, dy, S, P, r1, r2, ok, h, k⟩ := h
  cases dx <;> cases dy <;> first
    | exact False.elim h
    | exact op_sub pins s σ H _ _ v u Q I rx ry ⟨_, _, r1, r2, k _ _ h _ _ ok .refl rfl⟩
theorem od_mod : OpD X (binaryOp .Mod) modR := od_ii op_mod fun dx dy S P h => by
  cases dx <;> cases dy <;> first | exact False.elim h | exact ⟨_, _, rfl, rfl, h.1, h.2⟩
theorem od_fdiv : OpD X (binaryOp .FloorDiv) fdivR := od_ii op_fdiv fun dx dy S P h => by
  cases dx <;> cases dy <;> first | exact False.elim h | exact ⟨_, _, rfl, rfl, h.1, h.2⟩
theorem od_pow : OpD X (binaryOp .Pow) powR := od_ii op_pow fun dx dy S P h => by
  cases dx <;> cases dy <;> first | exact False.elim h | exact ⟨_, _, rfl, rfl, h.1, h.2⟩
theorem Reps.rep {K : Fr} {S : Sto} {H : Hp} {vs : List V} {ds : List D} (r : Reps K S H vs ds) : ∀ n : Nat, Reps K S H (List.replicate n vs).flatten (List.replicate n ds).flatten
  | 0 => rfl
  | n + 1 => by
    rw [List.replicate_succ, List.replicate_succ, List.flatten_cons, List.flatten_cons]
    exact r.append (Reps.rep r n)
theorem od_mul {m : Bool} : OpD X (binaryOp .Mult) (mulR m) := by
  intro Z pins s σ H x y v u Q I rx ry h
  obtain ⟨dx, dy, S, P, r1, r2, ok, h, k⟩ := h
  have lists : ∀ j, dy = .int j → (∃ xs, lsD S dx = some xs ∧ -(2 ^ 63) ≤ j ∧ j < 2 ^ 63 ∧ xs.length * j.toNat ≤ sizeLine ∧ newL m (List.replicate j.toNat xs).flatten S P) → wpAny (model X.prog X.w) X.A (binaryOp .Mult v u) (EP X pins σ Q) X.xe s := by
    rintro j rfl ⟨a, ha, h1, h2, hl, hn⟩
    obtain ⟨p, vs, rfl, hp, rs⟩ := lsD_at ok r1 ha
    exact op_rep pins s σ H _ _ v u Q I rx ry ⟨p, j, vs, rfl, r2, hp, h1, h2, by rw [rs.length]; exact hl, fun z n => newL_ok k ok .refl (rs.rep _) hn n⟩
  cases dx <;> cases dy <;> first
    | exact False.elim h
    | exact lists _ rfl h
    | exact op_mul pins s σ H _ _ v u Q I rx ry ⟨_, _, r1, r2, h.1, k _ _ h.2 _ _ ok .refl rfl⟩
    | (obtain ⟨p, vs, rfl, hp, rs⟩ := r1
       obtain ⟨h0, h1, h2, h3, h4⟩ := h
       refine op_repT pins s σ H _ _ v u Q I rx ry ⟨p, _, vs, rfl, r2, hp, fun e => h0 ?_, h1, h2, by rw [rs.length]; exact h3, fun z n => newT_ok k ok .refl (rs.rep _) h4 n⟩
       have := rs.length
       rw [e] at this
       exact List.eq_nil_of_length_eq_zero this.symm)
theorem ud_neg : UnD X (unaryOp .USub) negR := by
  intro Z pins s σ H x v Q I rx h
  obtain ⟨dx, S, P, r1, ok, h, k⟩ := h
  cases dx <;> first
    | exact False.elim h
    | exact un_neg pins s σ H x v Q I rx ⟨_, r1, k _ _ h _ _ ok .refl rfl⟩
end

/-! ### data as the library's plain data -/
mutual
def pyD : D → PyData
  | .non => .none
  | .bl b => .bool b
  | .int i => .int i
  | .str x => .str x
  | .tup xs => .tuple (pyDs xs)
  | .lst xs => .list (pyDs xs)
  | .ty _ => .none
  | .ref _ => .none
  | .scr _ => .none
  | .dic _ _ => .none
def pyDs : List D → List PyData
  | [] => []
  | x :: xs => pyD x :: pyDs xs
end
mutual
def plain : D → Bool
  | .non => true
  | .bl _ => true
  | .int _ => true
  | .str _ => true
  | .tup xs => plains xs
  | .lst xs => plains xs
  | .ty _ => false
  | .ref _ => false
  | .scr _ => false
  | .dic _ _ => false
def plains : List D → Bool
  | [] => true
  | x :: xs => plain x && plains xs
end
mutual
theorem dp_of {K : Fr} {S : Sto} {H : Hp} : ∀ {v : V} {d : D}, Rep K S H v d → plain d = true → Dp K.K H v (pyD d)
  | _, .non, h, _ => by rw [show _ = _ from h]; exact .non
  | _, .bl b, h, _ => by rw [show _ = _ from h]; exact .bl b
  | _, .int i, h, _ => by rw [show _ = _ from h]; exact .int i
  | _, .str x, h, _ => by rw [show _ = _ from h]; exact .str x
  | _, .tup ds, ⟨a, vs, e, q, r⟩, p => by rw [e]; exact .tup q (dps_of r p)
  | _, .lst ds, ⟨a, vs, e, n, q, r⟩, p => by rw [e]; exact .lst (.of q) (dps_of r p)
  | _, .ty _, _, p => by cases p
  | _, .ref _, _, p => by cases p
  | _, .scr _, _, p => by cases p
  | _, .dic _ _, _, p => by cases p
theorem dps_of {K : Fr} {S : Sto} {H : Hp} : ∀ {vs : List V} {ds : List D}, Reps K S H vs ds → plains ds = true → DpAll K.K H vs (pyDs ds)
  | _, [], h, _ => by rw [show _ = _ from h]; exact .nil
  | _, d :: ds, ⟨v, r, e, h, hs⟩, p => by
    rw [e]
    have p' := Bool.and_eq_true_iff.mp (show (plain d && plains ds) = true from p)
    exact .cons (dp_of h p'.1) (dps_of hs p'.2)
end
/-- a thing that changes, as it stands -/
def topD (S : Sto) : D → D
  | .ref a => match S a with
    | some (.lst xs) => .lst xs
    | _ => .ref a
  | d => d
theorem dp_top {K : Fr} {S : Sto} {H : Hp} {v : V} {d : D} (ok : SOk K S H) (r : Rep K S H v d) (p : plain (topD S d) = true) : Dp K.K H v (pyD (topD S d)) := by
  cases d with
  | ref a =>
    cases e : S a with
    | none => simp [topD, e, plain] at p
    | some o =>
      cases o with
      | lst xs =>
        have et : topD S (.ref a) = .lst xs := by simp [topD, e]
        rw [et] at p ⊢
        obtain ⟨vs, h1, rs⟩ := ok.rep a _ e
        rw [show v = _ from r]
        exact .lst (.of h1) (dps_of rs p)
      | _ => simp [topD, e, plain] at p
  | _ => exact dp_of r p
/-- it may be compared -/
def okD (d : D) : Bool := plain d && SeqAt.shaped (pyD d)
def eqD (x y : D) : Bool := PyData.eqv (pyD x) (pyD y)
theorem okD_iff {d : D} (h : okD d = true) : plain d = true ∧ SeqAt.shaped (pyD d) = true := Bool.and_eq_true_iff.mp h

/-! ### comparisons -/
def eqR : RD2 := fun x y S Q => okD (topD S x) = true ∧ okD (topD S y) = true ∧ Q (.bl (eqD (topD S x) (topD S y))) S
def neR : RD2 := fun x y S Q => okD (topD S x) = true ∧ okD (topD S y) = true ∧ Q (.bl (!eqD (topD S x) (topD S y))) S
def cmpR (p : Int → Int → Bool) : RD2 := fun x y S Q => match x, y with
  | .int i, .int j => Q (.bl (p i j)) S
  | _, _ => False
abbrev ltR : RD2 := cmpR fun i j => decide (i < j)
abbrev leR : RD2 := cmpR fun i j => decide (i ≤ j)
abbrev gtR : RD2 := cmpR fun i j => decide (j < i)
abbrev geR : RD2 := cmpR fun i j => decide (j ≤ i)
def isNon : D → Bool
  | .non => true
  | _ => false
def isR : RD2 := fun x y S Q => match y with
  | .non => Q (.bl (isNon x)) S
  | _ => False
def isntR : RD2 := fun x y S Q => match y with
  | .non => Q (.bl (!isNon x)) S
  | _ => False
/-- in a list, a tuple -/
def inL (x : D) (ys : List D) : Bool := ys.any fun y => eqD y x
def inR (neg : Bool) : RD2 := fun x y S Q => ∃ ys, sqD S y = some ys ∧ okD x = true ∧ okD (.lst ys) = true ∧ Q (.bl (if neg then !inL x ys else inL x ys)) S
/-- one sign in a text -/
def inStrR (neg : Bool) : RD2 := fun x y S Q => match x, y with
  | .str a, .str b => Q (.bl (if neg then !(!(Builtin.Str.occurrences b a 0 b.length 1).isEmpty) else (!(Builtin.Str.occurrences b a 0 b.length 1).isEmpty))) S
  | _, _ => False
section
variable {X : Cx}
theorem od_eq (hu : X.A.units + 64 < cLine) : OpD X (compareOp .Eq) eqR := by
  intro Z pins s σ H x y v u Q I rx ry h
  obtain ⟨dx, dy, S, P, r1, r2, ok, ⟨h1, h2, h⟩, k⟩ := h
  obtain ⟨p1, s1⟩ := okD_iff h1
  obtain ⟨p2, s2⟩ := okD_iff h2
  exact op_eqD hu pins s σ H x y v u Q I rx ry ⟨_, _, dp_top ok r1 p1, dp_top ok r2 p2, s1, s2, k _ _ h _ _ ok .refl rfl⟩
theorem od_ne (hu : X.A.units + 64 < cLine) : OpD X (compareOp .NotEq) neR := by
  intro Z pins s σ H x y v u Q I rx ry h
  obtain ⟨dx, dy, S, P, r1, r2, ok, ⟨h1, h2, h⟩, k⟩ := h
  obtain ⟨p1, s1⟩ := okD_iff h1
  obtain ⟨p2, s2⟩ := okD_iff h2
  exact op_neD hu pins s σ H x y v u Q I rx ry ⟨_, _, dp_top ok r1 p1, dp_top ok r2 p2, s1, s2, k _ _ h _ _ ok .refl rfl⟩
theorem od_cmp {op : CmpOp} {p : Int → Int → Bool} (ho : OpR X (compareOp op) (rI0 fun i j => .bl (p i j))) : OpD X (compareOp op) (cmpR p) := by
  intro Z pins s σ H x y v u Q I rx ry h
  obtain ⟨dx, dy, S, P, r1, r2, ok, h, k⟩ := h
  cases dx <;> cases dy <;> first
    | exact False.elim h
    | exact ho pins s σ H _ _ v u Q I rx ry ⟨_, _, r1, r2, k _ _ h _ _ ok .refl rfl⟩
theorem od_lt : OpD X (compareOp .Lt) ltR := od_cmp op_lt
theorem od_le : OpD X (compareOp .LtE) leR := od_cmp op_le
theorem od_gt : OpD X (compareOp .Gt) gtR := od_cmp op_gt
theorem od_ge : OpD X (compareOp .GtE) geR := od_cmp op_ge
theorem isNon_of {K : Fr} {S : Sto} {H : Hp} {v : V} {d : D} (r : Rep K S H v d) : decide (v = .non) = isNon d := by
  cases d <;> first
    | (cases r; rfl)
    | (obtain ⟨a, vs, e, _⟩ := r; rw [e]; rfl)
    | (obtain ⟨a, e, _⟩ := r; rw [e]; rfl)
theorem od_is : OpD X (compareOp .Is) isR := by
  intro Z pins s σ H x y v u Q I rx ry h
  obtain ⟨dx, dy, S, P, r1, r2, ok, h, k⟩ := h
  cases dy <;> first
    | exact False.elim h
    | (refine op_isN pins s σ H _ _ v u Q I rx ry ⟨r2, ?_⟩
       rw [isNon_of r1]
       exact k _ _ h _ _ ok .refl rfl)
theorem od_isnt : OpD X (compareOp .IsNot) isntR := by
  intro Z pins s σ H x y v u Q I rx ry h
  obtain ⟨dx, dy, S, P, r1, r2, ok, h, k⟩ := h
  cases dy <;> first
    | exact False.elim h
    | (refine op_notN pins s σ H _ _ v u Q I rx ry ⟨r2, ?_⟩
       rw [isNon_of r1]
       exact k _ _ h _ _ ok .refl rfl)
theorem any_py (d : D) : ∀ ys : List D, ((pyDs ys).any fun z => PyData.eqv z (pyD d)) = inL d ys
  | [] => rfl
  | y :: ys => by
    show (PyData.eqv (pyD y) (pyD d) || (pyDs ys).any fun z => PyData.eqv z (pyD d)) = (eqD y d || inL d ys)
    rw [any_py d ys]; rfl
end
end Dl
set_option maxHeartbeats 2000000
/-! Dl4: in, tests, displays, subscripts, slices over data. -/
namespace Dl
open PySem PySem.Spec PyProof.Rows L2

theorem pyDs_length : ∀ ys : List D, (pyDs ys).length = ys.length
  | [] => rfl
  | _ :: ys => by simp [pyDs, pyDs_length ys]
section
variable {X : Cx}
theorem okL_shaped {ys : List D} (h : okD (.lst ys) = true) : plains ys = true ∧ PyData.canLayAll0 (pyDs ys) = true ∧ SeqAt.shaped (.list (pyDs ys)) = true ∧ SeqAt.shaped (.tuple (pyDs ys)) = true := by
  obtain ⟨h1, h2⟩ := okD_iff h
  have h2' : SeqAt.shaped (.list (pyDs ys)) = true := h2
  exact ⟨h1, SeqAt.canLay_of_shaped h2', h2', by simpa [SeqAt.shaped, PyData.canLay0, PyData.depth] using h2'⟩
theorem od_in {neg : Bool} (hu : X.A.units + 65 < cLine) : OpD X (compareOp (if neg = true then .NotIn else .In)) (inR neg) := by
  intro Z pins s σ H x y v u Q I rx ry h
  obtain ⟨dx, dy, S, P, r1, r2, ok, ⟨ys, h1, h2, h3, h⟩, k⟩ := h
  obtain ⟨px, sx⟩ := okD_iff h2
  obtain ⟨py, cy, sy, ty⟩ := okL_shaped h3
  obtain ⟨a, vs, rfl, hq, rs⟩ := sqD_at ok r2 h1
  have hx := dp_of r1 px
  obtain ⟨as, rd1⟩ := Dp.reads I _ x v hx rx
  have fin := k _ _ h _ _ ok .refl rfl
  have sc := SeqAt.canLay_of_shaped sx
  rcases hq with hq | hq
  · obtain ⟨bs, rd2⟩ := Dp.reads I (.list (pyDs ys)) (.ref a) u (.lst hq (dps_of rs py)) ry
    cases neg with
    | false => exact SeqAt.in_list_reads rd2 rd1 cy sc (PyProof.Rows.room_in_shaped sx hu) ⟨.bl _, H, I, rfl, by rw [any_py]; exact fin⟩
    | true => exact SeqAt.notIn_list_reads rd2 rd1 cy sc (PyProof.Rows.room_in_shaped sx hu) ⟨.bl _, H, I, rfl, by rw [any_py]; exact fin⟩
  · obtain ⟨bs, rd2⟩ := Dp.reads I (.tuple (pyDs ys)) (.ref a) u (.tup hq (dps_of rs py)) ry
    cases neg with
    | false => exact SeqAt.in_tuple_reads rd2 rd1 cy sc (PyProof.Rows.room_in_shaped sx hu) ⟨.bl _, H, I, rfl, by rw [any_py]; exact fin⟩
    | true => exact SeqAt.notIn_tuple_reads rd2 rd1 cy sc (PyProof.Rows.room_in_shaped sx hu) ⟨.bl _, H, I, rfl, by rw [any_py]; exact fin⟩
theorem od_inS : OpD X (compareOp .In) (inStrR false) := by
  intro Z pins s σ H x y v u Q I rx ry h
  obtain ⟨dx, dy, S, P, r1, r2, ok, h, k⟩ := h
  cases dx <;> cases dy <;> first
    | exact False.elim h
    | exact op_in_str pins s σ H _ _ v u Q I rx ry ⟨_, _, r1, r2, k _ _ h _ _ ok .refl rfl⟩
theorem od_ninS : OpD X (compareOp .NotIn) (inStrR true) := by
  intro Z pins s σ H x y v u Q I rx ry h
  obtain ⟨dx, dy, S, P, r1, r2, ok, h, k⟩ := h
  cases dx <;> cases dy <;> first
    | exact False.elim h
    | exact op_notIn_str pins s σ H _ _ v u Q I rx ry ⟨_, _, r1, r2, k _ _ h _ _ ok .refl rfl⟩
end

/-! ### and, or, not, a if c else b -/
def dAnd (t u : TDT) : TDT := fun ρ S Q => t ρ S fun b S1 => if b = true then u ρ S1 Q else Q false S1
def dOr (t u : TDT) : TDT := fun ρ S Q => t ρ S fun b S1 => if b = true then Q true S1 else u ρ S1 Q
def dNot (t : TDT) : TDT := fun ρ S Q => t ρ S fun b S1 => Q (!b) S1
def dAndV (t u : TDE) : TDE := fun ρ S Q => t ρ S fun x S1 => ∃ b, x = .bl b ∧ if b = true then u ρ S1 Q else Q (.bl false) S1
def dOrV (t u : TDE) : TDE := fun ρ S Q => t ρ S fun x S1 => ∃ b, x = .bl b ∧ if b = true then Q (.bl true) S1 else u ρ S1 Q
def dNotV (t : TDE) : TDE := fun ρ S Q => t ρ S fun x S1 => ∃ b, x = .bl b ∧ Q (.bl (!b)) S1
def dIf (c : TDT) (t u : TDE) : TDE := fun ρ S Q => c ρ S fun b S1 => if b = true then t ρ S1 Q else u ρ S1 Q
section
variable {X : Cx} {B : Fam} {S0 : Sto} {H0 : Hp} {a b c : Expr} {rest : List Expr} {ta tb tc : TDE} {t u : TDT} {pos : Pos}
theorem dw_and1 (ha : DT X B a t) : DW X B (.BoolOp .And [a] pos) t := fun β hB => pw_and1 (ha β hB)
theorem dw_or1 (ha : DT X B a t) : DW X B (.BoolOp .Or [a] pos) t := fun β hB => pw_or1 (ha β hB)
theorem dw_and (ha : DT X B a t) (hb : DW X B (.BoolOp .And (b :: rest) pos) u) : DW X B (.BoolOp .And (a :: b :: rest) pos) (dAnd t u) := fun β hB =>
  (pw_and (ha β hB) (hb β hB)).imp fun σ H Q ⟨ρ, S, P, sr, h, k⟩ => ⟨ρ, S, _, sr, h, fun b1 S1 h1 H1 ok1 st1 => by
    cases b1 with
    | true => rw [if_pos rfl] at h1 ⊢; exact ⟨ρ, S1, P, sr.step ok1 st1, h1, fun b2 S2 h2 H2 ok2 st2 => k b2 S2 h2 H2 ok2 (st1.trans st2)⟩
    | false => rw [if_neg (by decide)] at h1 ⊢; exact k _ _ h1 _ ok1 st1⟩
theorem dw_or (ha : DT X B a t) (hb : DW X B (.BoolOp .Or (b :: rest) pos) u) : DW X B (.BoolOp .Or (a :: b :: rest) pos) (dOr t u) := fun β hB =>
  (pw_or (ha β hB) (hb β hB)).imp fun σ H Q ⟨ρ, S, P, sr, h, k⟩ => ⟨ρ, S, _, sr, h, fun b1 S1 h1 H1 ok1 st1 => by
    cases b1 with
    | false => rw [if_neg (by decide)] at h1 ⊢; exact ⟨ρ, S1, P, sr.step ok1 st1, h1, fun b2 S2 h2 H2 ok2 st2 => k b2 S2 h2 H2 ok2 (st1.trans st2)⟩
    | true => rw [if_pos rfl] at h1 ⊢; exact k _ _ h1 _ ok1 st1⟩
theorem dt_w (h : DW X B a t) : DT X B a t := fun β hB => PW.pt (h β hB)
theorem dt_not (ha : DT X B a t) : DT X B (.UnaryOp .Not a pos) (dNot t) := fun β hB =>
  (pt_not (ha β hB)).imp fun σ H Q ⟨ρ, S, P, sr, h, k⟩ => ⟨ρ, S, _, sr, h, fun b1 S1 h1 H1 ok1 st1 => k _ _ h1 _ ok1 st1⟩
theorem de_one {op} (h : DE X B a ta) : DE X B (.BoolOp op [a] pos) ta := fun β hB => pe_one (h β hB)
theorem de_and (ha : DE X B a ta) (hb : DE X B (.BoolOp .And (b :: rest) pos) tb) : DE X B (.BoolOp .And (a :: b :: rest) pos) (dAndV ta tb) := fun β hB =>
  (pe_and (ha β hB) (hb β hB)).imp fun σ H Q ⟨ρ, S, P, sr, h, k⟩ => ⟨ρ, S, _, sr, h, fun d S1 h1 v H1 ok1 st1 r1 => by
    obtain ⟨c, rfl, h1⟩ := h1
    refine ⟨c, r1, ?_⟩
    cases c with
    | true => rw [if_pos rfl] at h1 ⊢; exact ⟨ρ, S1, P, sr.step ok1 st1, h1, k.mono st1⟩
    | false => rw [if_neg (by decide)] at h1 ⊢; exact k _ _ h1 _ _ ok1 st1 rfl⟩
theorem de_or (ha : DE X B a ta) (hb : DE X B (.BoolOp .Or (b :: rest) pos) tb) : DE X B (.BoolOp .Or (a :: b :: rest) pos) (dOrV ta tb) := fun β hB =>
  (pe_or (ha β hB) (hb β hB)).imp fun σ H Q ⟨ρ, S, P, sr, h, k⟩ => ⟨ρ, S, _, sr, h, fun d S1 h1 v H1 ok1 st1 r1 => by
    obtain ⟨c, rfl, h1⟩ := h1
    refine ⟨c, r1, ?_⟩
    cases c with
    | false => rw [if_neg (by decide)] at h1 ⊢; exact ⟨ρ, S1, P, sr.step ok1 st1, h1, k.mono st1⟩
    | true => rw [if_pos rfl] at h1 ⊢; exact k _ _ h1 _ _ ok1 st1 rfl⟩
theorem de_not (ha : DE X B a ta) : DE X B (.UnaryOp .Not a pos) (dNotV ta) := fun β hB =>
  (pe_not (ha β hB)).imp fun σ H Q ⟨ρ, S, P, sr, h, k⟩ => ⟨ρ, S, _, sr, h, fun d S1 h1 v H1 ok1 st1 r1 => by
    obtain ⟨c, rfl, h1⟩ := h1
    exact ⟨c, r1, k _ _ h1 _ _ ok1 st1 rfl⟩⟩
theorem de_if (hc : DT X B c t) (ha : DE X B a ta) (hb : DE X B b tb) : DE X B (.IfExp c a b pos) (dIf t ta tb) := fun β hB =>
  (pe_ifExp (hc β hB) (ha β hB) (hb β hB)).imp fun σ H Q ⟨ρ, S, P, sr, h, k⟩ => ⟨ρ, S, _, sr, h, fun b1 S1 h1 H1 ok1 st1 => by
    cases b1 with
    | true => rw [if_pos rfl] at h1 ⊢; exact ⟨ρ, S1, P, sr.step ok1 st1, h1, k.mono st1⟩
    | false => rw [if_neg (by decide)] at h1 ⊢; exact ⟨ρ, S1, P, sr.step ok1 st1, h1, k.mono st1⟩⟩
theorem de_chain {op op' : CmpOp} {f g : RD2} (ho : OpD X (compareOp op) f) (ho' : OpD X (compareOp op') g) (ha : DE X B a ta) (hb : DE X B b tb) (hc : DE X B c tc)
    (hm : lastMarks [op, op'] [b, c] = false := by with_unfolding_all rfl) : DE X B (.Compare a [op, op'] [b, c] pos) (dChain f g ta tb tc) := fun β hB =>
  (pe_chain (ho β.Z) (ho' β.Z) (ha β hB) (hb β hB) (hc β hB) hm).imp fun σ H Q ⟨ρ, S, P, sr, h, k⟩ => by
    refine ⟨ρ, S, _, sr, h, fun dx S1 h1 v1 H1 ok1 st1 r1 => ?_⟩
    refine ⟨ρ, S1, _, sr.step ok1 st1, h1, fun dy S2 h2 v2 H2 ok2 st2 r2 => ?_⟩
    refine ⟨dx, dy, S2, _, r1.step st2, r2, ok2, h2, fun dz S3 h3 v3 H3 ok3 st3 r3 => ?_⟩
    obtain ⟨c, rfl, h3⟩ := h3
    refine ⟨c, r3, ?_⟩
    have st := st1.trans (st2.trans st3)
    cases c with
    | false => rw [if_neg (by decide)] at h3 ⊢; exact k _ _ h3 _ _ ok3 st rfl
    | true =>
      rw [if_pos rfl] at h3 ⊢
      exact ⟨ρ, S3, _, sr.step ok3 st, h3, fun dw S4 h4 v4 H4 ok4 st4 r4 => ⟨dy, dw, S4, P, r2.step (st3.trans st4), r4, ok4, h4, k.mono (st.trans st4)⟩⟩
theorem dt_chain {op op' : CmpOp} {f g : RD2} (ho : OpD X (compareOp op) f) (ho' : OpD X (compareOp op') g) (ha : DE X B a ta) (hb : DE X B b tb) (hc : DE X B c tc)
    (hm : lastMarks [op, op'] [b, c] = false := by with_unfolding_all rfl) : DT X B (.Compare a [op, op'] [b, c] pos) (dTst (dChain f g ta tb tc)) := fun β hB =>
  (pt_chain (ho β.Z) (ho' β.Z) (ha β hB) (hb β hB) (hc β hB) hm).imp fun σ H Q h => by
    obtain ⟨ρ, S, P, sr, h, k⟩ := liftTst h
    refine ⟨ρ, S, _, sr, h, fun dx S1 h1 v1 H1 ok1 st1 r1 => ?_⟩
    refine ⟨ρ, S1, _, sr.step ok1 st1, h1, fun dy S2 h2 v2 H2 ok2 st2 r2 => ?_⟩
    refine ⟨dx, dy, S2, _, r1.step st2, r2, ok2, h2, fun dz S3 h3 v3 H3 ok3 st3 r3 => ?_⟩
    obtain ⟨c, rfl, h3⟩ := h3
    refine ⟨c, r3, ?_⟩
    have st := st1.trans (st2.trans st3)
    cases c with
    | false => rw [if_neg (by decide)] at h3 ⊢; exact k _ _ h3 _ _ ok3 st rfl
    | true =>
      rw [if_pos rfl] at h3 ⊢
      exact ⟨ρ, S3, _, sr.step ok3 st, h3, fun dw S4 h4 v4 H4 ok4 st4 r4 => ⟨dy, dw, S4, P, r2.step (st3.trans st4), r4, ok4, h4, k.mono (st.trans st4)⟩⟩
end

/-! ### rows of arguments, displays -/
def aNil : TDA := fun _ S Q => Q [] S
def aCons (t : TDE) (u : TDA) : TDA := fun ρ S Q => t ρ S fun d S1 => u ρ S1 fun ds S2 => Q (d :: ds) S2
def aStar (t : TDE) (u : TDA) : TDA := fun ρ S Q => t ρ S fun d S1 => ∃ xs, sqD S1 d = some xs ∧ u ρ S1 fun ds S2 => Q (xs ++ ds) S2
def dTup (t : TDA) : TDE := fun ρ S Q => t ρ S fun ds S1 => ds.length ≤ sizeLine ∧ Q (.tup ds) S1
def dLst (m : Bool) (t : TDA) : TDE := fun ρ S Q => t ρ S fun ds S1 => ds.length ≤ sizeLine ∧ newL m ds S1 Q
section
variable {X : Cx} {B : Fam} {S0 : Sto} {H0 : Hp} {e : Expr} {es : List Expr} {te : TDE} {t : TDA} {pos p : Pos}
theorem da_nil : DA X B [] aNil := fun β hB => pa_nil.imp fun σ H Q ⟨ρ, S, P, sr, h, k⟩ => k _ _ h _ _ sr.ok .refl rfl
theorem da_cons (he : DE X B e te) (hr : DA X B es t) (hs : starEach (e :: es) X.env = (false, eval e X.env) :: starEach es X.env := by rfl) : DA X B (e :: es) (aCons te t) := fun β hB =>
  (pa_cons (he β hB) (hr β hB) hs).imp fun σ H Q ⟨ρ, S, P, sr, h, k⟩ => ⟨ρ, S, _, sr, h, fun d S1 h1 v H1 ok1 st1 r1 => ⟨ρ, S1, _, sr.step ok1 st1, h1, fun ds S2 h2 vs H2 ok2 st2 r2 =>
    k _ _ h2 _ _ ok2 (st1.trans st2) (.cons (r1.step st2) r2)⟩⟩
theorem da_star (he : DE X B e te) (hr : DA X B es t) (hs : starEach (.Starred e p :: es) X.env = (true, eval e X.env) :: starEach es X.env := by rfl) : DA X B (.Starred e p :: es) (aStar te t) := fun β hB =>
  (StX.pa_star (he β hB) (hr β hB) hs).imp fun σ H Q ⟨ρ, S, P, sr, h, k⟩ => ⟨ρ, S, _, sr, h, fun d S1 h1 v H1 ok1 st1 r1 => by
    obtain ⟨xs, hx, h1⟩ := h1
    obtain ⟨a, vs, rfl, hq, rs⟩ := sqD_at ok1 r1 hx
    exact ⟨a, vs, rfl, hq.symm, ρ, S1, _, sr.step ok1 st1, h1, fun ds S2 h2 us H2 ok2 st2 r2 => k _ _ h2 _ _ ok2 (st1.trans st2) ((rs.step st2).append r2)⟩⟩
theorem de_tup {x1} (h : DA X B es t) : DE X B (.Tuple es x1 pos) (dTup t) := fun β hB =>
  (pe_tup (h β hB)).imp fun σ H Q ⟨ρ, S, P, sr, h, k⟩ => ⟨ρ, S, _, sr, h, fun ds S1 h1 vs H1 ok1 st1 r1 => ⟨by rw [r1.length]; exact h1.1, fun p n => newT_ok k ok1 st1 r1 h1.2 n⟩⟩
theorem de_lst (m : Bool) (h : DA X B es t) : DE X B (.List es pos) (dLst m t) := fun β hB =>
  (pe_lst (h β hB)).imp fun σ H Q ⟨ρ, S, P, sr, h, k⟩ => ⟨ρ, S, _, sr, h, fun ds S1 h1 vs H1 ok1 st1 r1 => ⟨by rw [r1.length]; exact h1.1, fun p n => newL_ok k ok1 st1 r1 h1.2 n⟩⟩
end

/-! ### subscripts -/
def ixR : RD2 := fun x y S Q => match y with
  | .int i => (match x with
    | .str z => z.length ≤ sizeLine ∧ ∃ c, atI z.cps.toList i = some c ∧ Q (.str ⟨#[c]⟩) S
    | x => ∃ xs d, sqD S x = some xs ∧ atI xs i = some d ∧ Q d S)
  | _ => False
theorem atI_rep {K : Fr} {S : Sto} {H : Hp} {vs : List V} {ds : List D} {i : Int} {d : D} (r : Reps K S H vs ds) (h : atI ds i = some d) : ∃ v, atI vs i = some v ∧ Rep K S H v d := by
  unfold atI at h ⊢
  rw [r.length]
  cases e : ixN ds.length i with
  | none => rw [e] at h; cases h
  | some j =>
    rw [e] at h
    exact r.get (show ds[j]? = some d from h)
def cutL (xs : List D) (lo hi : Option Int) : List D := (xs.drop (HT.sIx xs.length 0 lo)).take (HT.sIx xs.length xs.length hi - HT.sIx xs.length 0 lo)
theorem Reps.cut {K : Fr} {S : Sto} {H : Hp} {vs : List V} {ds : List D} (r : Reps K S H vs ds) (lo hi : Option Int) : Reps K S H (cutV vs lo hi) (cutL ds lo hi) := by
  unfold cutV cutL
  rw [r.length]
  exact (r.drop _).take _
abbrev TDO := DEnv → Sto → (Option Int → Sto → Prop) → Prop
def liftO (K : Fr) (S0 : Sto) (H0 : Hp) (t : TDO) : TO := fun σ H Q => ∃ ρ S P, SR K S0 H0 σ H ρ S ∧ t ρ S P ∧ ∀ i S', P i S' → ∀ H', SOk K S' H' → Step K S H S' H' → Q i H'
def DO (X : Cx) (B : Fam) (e : Option Expr) (t : TDO) : Prop := ∀ b, B b → PO X e (liftO ⟨X.K, b.Z⟩ b.S0 b.H0 t)
theorem _root_.L2.PO.imp {X : Cx} {e : Option Expr} {t t' : TO} (h : PO X e t) (k : ∀ σ H Q, t' σ H Q → t σ H Q) : PO X e t' := ⟨fun pins s σ H Q I q => h.run pins s σ H Q I (k σ H Q q)⟩
def oNone : TDO := fun _ S Q => Q none S
def oSome (t : TDE) : TDO := fun ρ S Q => t ρ S fun d S1 => match d with
  | .int i => Q (some i) S1
  | _ => False
/-- a slice: a text's, a tuple's, a list's -/
def slR (m : Bool) (x : D) (lo hi : Option Int) (S : Sto) (Q : D → Sto → Prop) : Prop := match x with
  | .str z => z.length ≤ sizeLine ∧ Q (.str (cutS z lo hi)) S
  | .tup xs => Q (.tup (cutL xs lo hi)) S
  | .scr ns => newL m (cutL (ns.map .int) lo hi) S Q
  | x => ∃ xs, lsD S x = some xs ∧ newL m (cutL xs lo hi) S Q
def dSl (m : Bool) (te : TDE) (tl th : TDO) : TDE := fun ρ S Q => te ρ S fun x S1 => tl ρ S1 fun lo S2 => th ρ S2 fun hi S3 => slR m x lo hi S3 Q
section
variable {X : Cx} {B : Fam} {S0 : Sto} {H0 : Hp} {a b e : Expr} {lo hi : Option Expr} {ta tb te : TDE} {tl th : TDO} {pos p2 : Pos}
theorem ixd : ∀ Z, IxR X (liftR ⟨X.K, Z⟩ ixR) := by
  intro Z value slice pins s σ H x y v u Q I rx ry h hs
  obtain ⟨dx, dy, S, P, r1, r2, ok, h, k⟩ := h
  cases dy with
  | int i =>
    have ey : y = .int i := r2
    have seq : (∃ xs d, sqD S dx = some xs ∧ atI xs i = some d ∧ P d S) → wpAny (model X.prog X.w) X.A (subscriptTail value slice v u) (EP X pins σ Q) X.xe s := by
      rintro ⟨xs, d, hx, hi, p⟩
      obtain ⟨a, vs, rfl, hq, rs⟩ := sqD_at ok r1 hx
      obtain ⟨w, hw, rw_⟩ := atI_rep rs hi
      rcases hq with hq | hq
      · exact ix_list value slice pins s σ H _ _ v u Q I rx ry ⟨a, vs, i, w, rfl, ey, hq, hw, k _ _ p _ _ ok .refl rw_⟩ hs
      · exact ix_tup value slice pins s σ H _ _ v u Q I rx ry ⟨a, vs, i, w, rfl, ey, hq, hw, k _ _ p _ _ ok .refl rw_⟩ hs
    cases dx with
    | str z =>
      obtain ⟨hz, c, hc, p⟩ := h
      exact ix_str value slice pins s σ H _ _ v u Q I rx ry ⟨z, i, c, r1, ey, hz, hc, k _ _ p _ _ ok .refl rfl⟩ hs
    | _ => exact seq h
  | _ => exact False.elim h
theorem de_ix (ha : DE X B a ta) (hb : DE X B b tb) (hs : PlainIx b) : DE X B (.Subscript a b pos) (dOp ixR ta tb) := fun β hB =>
  (pe_ix (ixd β.Z) (ha β hB) (hb β hB) hs).imp fun σ H Q h => lift2 h
theorem do_none : DO X B none oNone := fun β hB => po_none.imp fun σ H Q ⟨ρ, S, P, sr, h, k⟩ => k _ _ h _ sr.ok .refl
theorem do_some (h : DE X B e te) : DO X B (some e) (oSome te) := fun β hB =>
  (po_some (h β hB)).imp fun σ H Q ⟨ρ, S, P, sr, h, k⟩ => ⟨ρ, S, _, sr, h, fun d S1 h1 v H1 ok1 st1 r1 => by
    cases d <;> first
      | exact False.elim h1
      | exact ⟨_, r1, k _ _ h1 _ ok1 st1⟩⟩
def liftSl (K : Fr) (m : Bool) : V → Option Int → Option Int → Hp → VK → Prop := fun x lo hi H Q => ∃ dx S P, Rep K S H x dx ∧ SOk K S H ∧ slR m dx lo hi S P ∧ Ret K S H P Q
theorem sld {m : Bool} : ∀ Z, SlR X (liftSl ⟨X.K, Z⟩ m) := by
  intro Z pins s σ H x v vl vu lo hi sl Q I rx hs pl pu h
  obtain ⟨dx, S, P, r1, ok, h, k⟩ := h
  have lists : (∃ xs, lsD S dx = some xs ∧ newL m (cutL xs lo hi) S P) → ∃ T id, typeLookup (.type T) "__getitem__" = pure (some (.builtin id)) ∧ s.TypeIs v T ∧ wpAny (model X.prog X.w) X.A (getItem v (.ref sl)) (EP X pins σ Q) X.xe s := by
    rintro ⟨xs, hx, hn⟩
    obtain ⟨a, vs, rfl, hq, rs⟩ := lsD_at ok r1 hx
    exact sl_list pins s σ H _ v vl vu lo hi sl Q I rx hs pl pu ⟨a, vs, rfl, .of hq, fun p n => newL_ok k ok .refl (rs.cut lo hi) hn n⟩
  cases dx with
  | str z => exact sl_str pins s σ H _ v vl vu lo hi sl Q I rx hs pl pu ⟨z, r1, h.1, k _ _ h.2 _ _ ok .refl rfl⟩
  | tup xs =>
    obtain ⟨a, vs, rfl, hq, rs⟩ := r1
    refine sl_tupA pins s σ H _ v vl vu lo hi sl Q I rx hs pl pu ⟨a, vs, rfl, hq, fun hw => ?_, fun _ p n => newT_ok k ok .refl (rs.cut lo hi) h n⟩
    have e : cutV vs lo hi = vs := by
      unfold cutV
      rw [hw.1, hw.2, List.drop_zero, Nat.sub_zero, List.take_length]
    have r' := rs.cut lo hi
    rw [e] at r'
    exact k _ _ h _ _ ok .refl ⟨a, vs, rfl, hq, r'⟩
  | scr ns =>
    obtain ⟨a, rfl, hq⟩ := r1
    exact sl_list pins s σ H _ v vl vu lo hi sl Q I rx hs pl pu ⟨a, _, rfl, hq.sq, fun p n => newL_ok k ok .refl (Reps.ints.cut lo hi) h n⟩
  | _ => exact lists h
theorem de_sl (m : Bool) (he : DE X B e te) (hl : DO X B lo tl) (hu : DO X B hi th) : DE X B (.Subscript e (.Slice lo hi none p2) pos) (dSl m te tl th) := fun β hB =>
  (pe_slice (sld β.Z) (he β hB) (hl β hB) (hu β hB)).imp fun σ H Q ⟨ρ, S, P, sr, h, k⟩ => by
    refine ⟨ρ, S, _, sr, h, fun dx S1 h1 v1 H1 ok1 st1 r1 => ?_⟩
    refine ⟨ρ, S1, _, sr.step ok1 st1, h1, fun l S2 h2 H2 ok2 st2 => ?_⟩
    refine ⟨ρ, S2, _, sr.step ok2 (st1.trans st2), h2, fun u S3 h3 H3 ok3 st3 => ?_⟩
    exact ⟨dx, S3, P, r1.step (st2.trans st3), ok3, h3, k.mono (st1.trans (st2.trans st3))⟩
end
end Dl
set_option maxHeartbeats 2000000
/-! Dl5: statements over data. -/
namespace Dl
open PySem PySem.Spec PyProof.Rows L2

def dNext : TDS := fun O ρ S => O.nx ρ S
def dSeq (t u : TDS) : TDS := fun O ρ S => t ⟨u O, O.rt, O.bk, O.ct⟩ ρ S
def dBreak : TDS := fun O ρ S => O.bk ρ S
def dCont : TDS := fun O ρ S => O.ct ρ S
def dDrop (t : TDE) : TDS := fun O ρ S => t ρ S fun _ S1 => O.nx ρ S1
def dRet (t : TDE) : TDS := fun O ρ S => t ρ S O.rt
def dRetN : TDS := fun O _ S => O.rt .non S
def dIfS (c : TDT) (t u : TDS) : TDS := fun O ρ S => c ρ S fun b S1 => if b = true then t O ρ S1 else u O ρ S1
def dNever : TDS := fun _ _ _ => False
def dSet (i : Nat) (t : TDE) : TDS := fun O ρ S => t ρ S fun d S1 => O.nx (ρ.set i (some d)) S1
def dAsg (t : TDE) (g : TDG) : TDS := fun O ρ S => t ρ S fun d S1 => g d ρ S1 O.nx
section
variable {X : Cx} {B : Fam} {S0 : Sto} {H0 : Hp} {e c : Expr} {st : Stmt} {rest a b : List Stmt} {te : TDE} {tc : TDT} {t u : TDS} {pos pos' : Pos}
theorem dss_nil : DSs X B [] dNext := fun β hB => pss_nil.imp fun E σ H ⟨ρ, S, O, sr, h, o⟩ => o.nx _ _ h _ _ sr .refl
theorem dss_cons (h1 : DS X B st t) (h2 : DSs X B rest u) : DSs X B (st :: rest) (dSeq t u) := fun β hB =>
  (pss_cons (h1 β hB) (h2 β hB)).imp fun E σ H ⟨ρ, S, O, sr, h, o⟩ => ⟨ρ, S, _, sr, h, ⟨fun ρ1 S1 q1 σ1 H1 sr1 st1 => ⟨ρ1, S1, O, sr1, q1, o.mono st1⟩, o.rt, o.bk, o.ct⟩⟩
theorem dss_one (h1 : DS X B st t) : DSs X B [st] t := fun β hB => pss_one (h1 β hB)
theorem ds_pass : DS X B (.Pass pos) dNext := fun β hB => ps_pass.imp fun E σ H ⟨ρ, S, O, sr, h, o⟩ => o.nx _ _ h _ _ sr .refl
theorem ds_break : DS X B (.Break pos) dBreak := fun β hB => ps_break.imp fun E σ H ⟨ρ, S, O, sr, h, o⟩ => o.bk _ _ h _ _ sr .refl
theorem ds_continue : DS X B (.Continue pos) dCont := fun β hB => ps_continue.imp fun E σ H ⟨ρ, S, O, sr, h, o⟩ => o.ct _ _ h _ _ sr .refl
theorem ds_expr (he : DE X B e te) (hs : swapsWith e none pos.line X.env = pure false := by rfl) : DS X B (.Expr e pos) (dDrop te) := fun β hB =>
  (ps_expr (he β hB) hs).imp fun E σ H ⟨ρ, S, O, sr, h, o⟩ => ⟨ρ, S, _, sr, h, fun d S1 h1 v H1 ok st r => o.nx _ _ h1 _ _ (sr.step ok st) st⟩
theorem ds_ret (he : DE X B e te) : DS X B (.Return (some e) pos) (dRet te) := fun β hB =>
  (ps_ret (he β hB)).imp fun E σ H ⟨ρ, S, O, sr, h, o⟩ => ⟨ρ, S, _, sr, h, fun d S1 h1 v H1 ok st r => o.rt _ _ h1 _ _ ok (sr.st.trans st) st r⟩
theorem ds_retN : DS X B (.Return none pos) dRetN := fun β hB => ps_retN.imp fun E σ H ⟨ρ, S, O, sr, h, o⟩ => o.rt _ _ h _ _ sr.ok sr.st .refl rfl
theorem ds_if (hc : DT X B c tc) (ha : DSs X B a t) (hb : DSs X B b u) : DS X B (.If c a b pos) (dIfS tc t u) := fun β hB =>
  (ps_if (hc β hB) (ha β hB) (hb β hB)).imp fun E σ H ⟨ρ, S, O, sr, h, o⟩ => ⟨ρ, S, _, sr, h, fun b1 S1 h1 H1 ok st => by
    cases b1 with
    | true => rw [if_pos rfl] at h1 ⊢; exact ⟨ρ, S1, O, sr.step ok st, h1, o.mono st⟩
    | false => rw [if_neg (by decide)] at h1 ⊢; exact ⟨ρ, S1, O, sr.step ok st, h1, o.mono st⟩⟩
theorem ds_never : DS X B st dNever := fun β hB => ps_never.imp fun E σ H ⟨ρ, S, O, sr, h, o⟩ => h
theorem dss_never {sts : List Stmt} : DSs X B sts dNever := fun β hB => pss_never.imp fun E σ H ⟨ρ, S, O, sr, h, o⟩ => h
theorem ds_set {i : Nat} {x : Str} (hN : X.N.Nodup) (hi : X.N[i]? = some x) (hx : Loc X.env.scope x) (he : DE X B e te) (hs : swapsWith e (some (.Name x pos')) pos.line X.env = pure false := by rfl) (hf : X.fn x = true ∨ X.env.scope.names.lookup x = some .local := by first | exact .inl rfl | exact .inr rfl | assumption) :
    DS X B (.Assign [.Name x pos'] e pos) (dSet i te) := fun β hB =>
  (ps_set hN hi hx (he β hB) hs hf).imp fun E σ H ⟨ρ, S, O, sr, h, o⟩ => ⟨ρ, S, _, sr, h, fun d S1 h1 v H1 ok st r => o.nx _ _ h1 _ _ ((sr.step ok st).set r) st⟩
end

/-! ### targets -/
abbrev TDGs := List D → DEnv → Sto → (DEnv → Sto → Prop) → Prop
def liftGs (K : Fr) (vs : List Nat) (S0 : Sto) (H0 : Hp) (g : TDGs) : TGs := fun us σ H Q => ∃ ds ρ S P, Reps K S H us ds ∧ SR K S0 H0 σ H ρ S ∧ g ds ρ S P ∧ ∀ ρ' S', P ρ' S' → ∀ σ' H', SR K S0 H0 σ' H' ρ' S' → Step K S H S' H' → wipe σ' vs = wipe σ vs → Q σ' H'
def DGs (X : Cx) (B : Fam) (vs : List Nat) (es : List Expr) (g : TDGs) : Prop := ∀ b, B b → PGs X es (liftGs ⟨X.K, b.Z⟩ vs b.S0 b.H0 g)
theorem _root_.L2.PGs.imp {X : Cx} {e : List Expr} {t t' : TGs} (h : PGs X e t) (k : ∀ v σ H Q, t' v σ H Q → t v σ H Q) : PGs X e t' := ⟨fun pins s σ H v u Q I r q => h.run pins s σ H v u Q I r (k v σ H Q q)⟩
def gdName (i : Nat) : TDG := fun d ρ S Q => Q (ρ.set i (some d)) S
def gdNil : TDGs := fun ds ρ S Q => match ds with
  | [] => Q ρ S
  | _ :: _ => False
def gdCons (g : TDG) (gs : TDGs) : TDGs := fun ds ρ S Q => match ds with
  | [] => False
  | d :: r => g d ρ S fun ρ1 S1 => gs r ρ1 S1 Q
def gdTup (n : Nat) (gs : TDGs) : TDG := fun d ρ S Q => match d with
  | .tup xs => xs.length = n ∧ gs xs ρ S Q
  | _ => False
theorem wipe_get (σ : L2.St) (j : Nat) : ∀ vs : List Nat, (wipe σ vs)[j]? = if j ∈ vs then (if j < σ.length then some none else none) else σ[j]?
  | [] => by simp [wipe]
  | v :: vs => by
    unfold wipe
    by_cases h : v = j
    · subst h
      by_cases hl : v < σ.length
      · rw [List.getElem?_set_self (by rw [wipe_length]; exact hl)]; simp [hl]
      · rw [List.getElem?_eq_none (by simpa [wipe_length] using hl)]; simp [hl]
    · rw [List.getElem?_set_ne h, wipe_get σ j vs]
      by_cases h2 : j ∈ vs
      · simp [h2]
      · simp [h2, Ne.symm h]
theorem wipe_set {σ : L2.St} {i : Nat} {o : Option V} {vs : List Nat} (h : i ∈ vs) : wipe (σ.set i o) vs = wipe σ vs := by
  apply List.ext_getElem?
  intro j
  rw [wipe_get, wipe_get, List.length_set]
  by_cases hj : j ∈ vs
  · simp [hj]
  · simp only [hj, if_false]
    rw [List.getElem?_set_ne (show i ≠ j from fun e => hj (by rw [← e]; exact h))]
section
variable {X : Cx} {B : Fam} {S0 : Sto} {H0 : Hp} {e tg : Expr} {es : List Expr} {te : TDE} {g : TDG} {gs : TDGs} {pos : Pos} {vs : List Nat}
theorem dg_name {i : Nat} {x : Str} (hN : X.N.Nodup) (hi : X.N[i]? = some x) (hx : Loc X.env.scope x) (hv : i ∈ vs := by decide) (hf : X.fn x = true ∨ X.env.scope.names.lookup x = some .local := by first | exact .inl rfl | exact .inr rfl | assumption) : DG X B vs (.Name x pos) (gdName i) := fun β hB =>
  (pg_name hN hi hx hf).imp fun v σ H Q ⟨d, ρ, S, P, r, sr, h, k⟩ => k _ _ h _ _ (sr.set r) .refl (wipe_set hv)
theorem dgs_nil : DGs X B vs [] gdNil := fun β hB => pgs_nil.imp fun us σ H Q ⟨ds, ρ, S, P, r, sr, h, k⟩ => by
  cases ds with
  | nil => exact ⟨r, k _ _ h _ _ sr .refl rfl⟩
  | cons _ _ => exact h.elim
theorem dgs_cons (h1 : DG X B vs e g) (h2 : DGs X B vs es gs) (hs : (assignEach (e :: es) X.env).map (·.2) = assign e X.env :: (assignEach es X.env).map (·.2) := by rfl) : DGs X B vs (e :: es) (gdCons g gs) := fun β hB =>
  (pgs_cons (h1 β hB) (h2 β hB) hs).imp fun us σ H Q ⟨ds, ρ, S, P, r, sr, h, k⟩ => by
    cases ds with
    | nil => exact h.elim
    | cons d ds =>
      obtain ⟨v, vr, rfl, rv, rr⟩ := r
      exact ⟨v, vr, rfl, d, ρ, S, _, rv, sr, h, fun ρ1 S1 h1 σ1 H1 sr1 st1 w1 => ⟨ds, ρ1, S1, P, rr.step st1, sr1, h1, fun ρ2 S2 h2 σ2 H2 sr2 st2 w2 => k _ _ h2 _ _ sr2 (st1.trans st2) (w2.trans w1)⟩⟩
theorem dg_tup {k : Nat} {n : Nat} (hc : X.calm = true) (h : DGs X B vs es gs) (hn : (assignEach es X.env).length = n := by rfl) (hst : (assignEach es X.env).findIdx? (·.1) = none := by rfl) : DG X B vs (.Tuple es k pos) (gdTup n gs) := fun β hB =>
  (pg_tup hc (h β hB) hn hst).imp fun v σ H Q ⟨d, ρ, S, P, r, sr, h, k⟩ => by
    cases d with
    | tup xs =>
      obtain ⟨a, us, rfl, hq, rs⟩ := r
      exact ⟨a, us, rfl, hq, by rw [rs.length]; exact h.1, xs, ρ, S, P, rs, sr, h.2, k⟩
    | _ => exact h.elim
theorem ds_asg (he : DE X B e te) (hg : DG X B vs tg g) (hs : swapsWithSole [tg] e pos.line X.env = pure false := by rfl) (hw : swappedStores [tg] e X.env = pure none := by rfl)
    (h1 : (assignEach [tg] X.env).map (·.2) = [assign tg X.env] := by rfl) : DS X B (.Assign [tg] e pos) (dAsg te g) := fun β hB =>
  (ps_asg (he β hB) (hg β hB) hs hw h1).imp fun E σ H ⟨ρ, S, O, sr, h, o⟩ => ⟨ρ, S, _, sr, h, fun d S1 h1 v H1 ok st r => ⟨d, ρ, S1, _, r, sr.step ok st, h1, fun ρ2 S2 h2 σ2 H2 sr2 st2 _ => o.nx _ _ h2 _ _ sr2 (st.trans st2)⟩⟩
/-- a, b = x, y -/
def dPar (i j : Nat) (ta : TDA) : TDS := fun O ρ S => ta ρ S fun ds S1 => match ds with
  | [d, e] => O.nx ((ρ.set i (some d)).set j (some e)) S1
  | _ => False
theorem ds_par {i j : Nat} {x y : Str} {a b : Expr} {ta : TDA} {px py pt : Pos} {kt k2 pt2} (hc : X.calm = true) (hN : X.N.Nodup) (hi : X.N[i]? = some x) (hj : X.N[j]? = some y) (hij : i ≠ j)
    (hx : X.env.scope.names.lookup x = some .local) (hy : X.env.scope.names.lookup y = some .local) (ha : DA X B [a, b] ta)
    (hw : swappedStores [.Tuple [.Name x px, .Name y py] kt pt] (.Tuple [a, b] k2 pt2) X.env = pure (some [x, y]))
    (hs : swapsWithSole [.Tuple [.Name x px, .Name y py] kt pt] (.Tuple [a, b] k2 pt2) pos.line X.env = pure false := by rfl) :
    DS X B (.Assign [.Tuple [.Name x px, .Name y py] kt pt] (.Tuple [a, b] k2 pt2) pos) (dPar i j ta) := fun β hB =>
  (ps_par hc hN hi hj hij hx hy (ha β hB) hw hs).imp fun E σ H ⟨ρ, S, O, sr, h, o⟩ => ⟨ρ, S, _, sr, h, fun ds S1 h1 vs H1 ok st r => by
    cases ds with
    | nil => exact h1.elim
    | cons d ds => cases ds with
      | nil => exact h1.elim
      | cons e ds => cases ds with
        | cons _ _ => exact h1.elim
        | nil =>
          obtain ⟨v, _, rfl, r1, w, _, rfl, r2, r3⟩ := r
          obtain rfl := r3
          exact ⟨v, w, rfl, o.nx _ _ h1 _ _ (((sr.step ok st).set r1).set r2) st⟩⟩
def dPar3 (i j l : Nat) (ta : TDA) : TDS := fun O ρ S => ta ρ S fun ds S1 => match ds with
  | [d, e, f] => O.nx (((ρ.set i (some d)).set j (some e)).set l (some f)) S1
  | _ => False
end

/-! ### for, while -/
structure ItOk (F : PySem.W.Frag) (Z : Addr → Prop) (J : It) (S0 : Sto) (H0 : Hp) (xs : List D) (stb : Sto → Prop) : Prop where
  go : ∀ Z' (i : Nat) S H, i < xs.length → SOk ⟨F, Z'⟩ S H → Mv F Z S0 H0 Z' S H → stb S → J.go i H ∧ ∀ x H', J.yld i H x H' → ∃ d, xs[i]? = some d ∧ Rep ⟨F, Z'⟩ S H' x d ∧ SOk ⟨F, Z'⟩ S H' ∧ Step ⟨F, Z'⟩ S H S H'
  stop : ∀ Z' S H, SOk ⟨F, Z'⟩ S H → Mv F Z S0 H0 Z' S H → stb S → J.stop xs.length H
abbrev TDI := DEnv → Sto → (List D → (Sto → Prop) → Sto → Prop) → Prop
def liftI (K : Fr) (S0 : Sto) (H0 : Hp) (t : TDI) : TI := fun σ H R => ∃ ρ S P, SR K S0 H0 σ H ρ S ∧ t ρ S P ∧ ∀ xs stb S', P xs stb S' → ∀ J H', SOk K S' H' → Step K S H S' H' → ItOk K.K K.Z J S' H' xs stb → R J H'
def DI (X : Cx) (B : Fam) (tg iter : Expr) (t : TDI) : Prop := ∀ b, B b → PI X tg iter (liftI ⟨X.K, b.Z⟩ b.S0 b.H0 t)
theorem _root_.L2.PI.imp {X : Cx} {tg e : Expr} {t t' : TI} (h : PI X tg e t) (k : ∀ σ H R, t' σ H R → t σ H R) : PI X tg e t' := ⟨fun pins s σ H R I q => h.run pins s σ H R I (k σ H R q)⟩
def forD (stb : Sto → Prop) (g : TDG) (tb : TDS) (O : DOut) : List D → DEnv → Sto → Prop
  | [], ρ, S => stb S ∧ O.nx ρ S
  | x :: xs, ρ, S => stb S ∧ g x ρ S fun ρ1 S1 => tb ⟨forD stb g tb O xs, O.rt, O.nx, forD stb g tb O xs⟩ ρ1 S1
def dFor (ti : TDI) (g : TDG) (tb : TDS) : TDS := fun O ρ S => ti ρ S fun xs stb S1 => forD stb g tb O xs ρ S1
def whileD (c : TDT) (tb : TDS) (O : DOut) : Nat → DEnv → Sto → Prop
  | 0, _, _ => False
  | n + 1, ρ, S => c ρ S fun b S1 => if b = true then tb ⟨whileD c tb O n, O.rt, O.nx, whileD c tb O n⟩ ρ S1 else O.nx ρ S1
def dWhile (c : TDT) (tb : TDS) : TDS := fun O ρ S => ∃ n, whileD c tb O n ρ S
section
variable {X : Cx} {B : Fam} {S0 : Sto} {H0 : Hp} {tg iter c : Expr} {body : List Stmt} {ti : TDI} {g : TDG} {tb : TDS} {tc : TDT} {pos : Pos} {vs : List Nat}
theorem ds_for (hp : PassesOwn (model X.prog X.w) X.A X.env X.xe) (hc : X.calm = true) (hi : DI X B tg iter ti) (hg : DG X B vs tg g) (hb : DSs X B body tb)
    (hs : ∀ x, foldedSetIterable iter X.env x = pure x := by intro _; rfl) : DS X B (.For tg iter body [] pos) (dFor ti g tb) := fun β hB =>
  (ps_for hp hc (hi β hB) (hg β hB) (hb β hB) hs).imp fun E σ H ⟨ρ, S, O, sr, h, o⟩ => ⟨ρ, S, _, sr, h, fun xs stb S1 h1 J H1 ok1 st1 it => by
    refine ⟨fun i m σ H' => m = xs.length - i ∧ i ≤ xs.length ∧ ∃ ρ S', SR ⟨X.K, β.Z⟩ β.S0 β.H0 σ H' ρ S' ∧ Step ⟨X.K, β.Z⟩ S1 H1 S' H' ∧ forD stb g tb O (xs.drop i) ρ S', ⟨xs.length, by simp, Nat.zero_le _, ρ, S1, sr.step ok1 st1, .refl, h1⟩, ?_⟩
    rintro i m σ H' ⟨rfl, hi, ρ', S', sr', st', hf⟩
    by_cases hlt : i < xs.length
    · have e : xs.drop i = xs[i] :: xs.drop (i + 1) := List.drop_eq_getElem_cons hlt
      rw [e] at hf
      obtain ⟨hst, hf⟩ := hf
      obtain ⟨go, yl⟩ := it.go β.Z i S' H' hlt sr'.ok st'.mv hst
      refine .inr ⟨go, fun σ2 H2 => ∃ ρ2 S2, SR ⟨X.K, β.Z⟩ β.S0 β.H0 σ2 H2 ρ2 S2 ∧ Step ⟨X.K, β.Z⟩ S1 H1 S2 H2 ∧ forD stb g tb O (xs.drop (i + 1)) ρ2 S2, fun σ2 H2 ⟨ρ2, S2, a, b, c⟩ => ⟨xs.length - (i + 1), by omega, rfl, hlt, ρ2, S2, a, b, c⟩, fun x H2 y => ?_⟩
      obtain ⟨d, hd, rx, ok2, st2⟩ := yl x H2 y
      have ed : xs[i] = d := by rw [List.getElem?_eq_getElem hlt] at hd; exact Option.some.inj hd
      rw [ed] at hf
      refine ⟨d, ρ', S', _, rx, sr'.step ok2 st2, hf, fun ρ3 S3 h3 σ3 H3 sr3 st3 _ => ⟨ρ3, S3, _, sr3, h3, ?_⟩⟩
      have s3 := st2.trans st3
      have n : ∀ ρ S4, forD stb g tb O (xs.drop (i + 1)) ρ S4 → ∀ σ H4, SR ⟨X.K, β.Z⟩ β.S0 β.H0 σ H4 ρ S4 → Step ⟨X.K, β.Z⟩ S3 H3 S4 H4 → ∃ ρ2 S2, SR ⟨X.K, β.Z⟩ β.S0 β.H0 σ H4 ρ2 S2 ∧ Step ⟨X.K, β.Z⟩ S1 H1 S2 H4 ∧ forD stb g tb O (xs.drop (i + 1)) ρ2 S2 :=
        fun ρ S4 h4 σ H4 sr4 st4 => ⟨ρ, S4, sr4, st'.trans (s3.trans st4), h4⟩
      have o3 := (o.mono st1).mono (st'.trans s3)
      exact ⟨n, o3.rt, o3.nx, n⟩
    · have e : i = xs.length := by omega
      subst e
      rw [List.drop_length] at hf
      exact .inl ⟨it.stop β.Z S' H' sr'.ok st'.mv hf.1, o.nx _ _ hf.2 _ _ sr' (st1.trans st')⟩⟩
theorem ds_while (hp : PassesOwn (model X.prog X.w) X.A X.env X.xe) (hc : DT X B c tc) (hb : DSs X B body tb) : DS X B (.While c body [] pos) (dWhile tc tb) := fun β hB =>
  (ps_while hp (hc β hB) (hb β hB)).imp fun E σ H ⟨ρ, S, O, sr, ⟨n, h⟩, o⟩ => by
    refine ⟨fun m σ H' => ∃ ρ S', SR ⟨X.K, β.Z⟩ β.S0 β.H0 σ H' ρ S' ∧ Step ⟨X.K, β.Z⟩ S H S' H' ∧ whileD tc tb O m ρ S', ⟨n, ρ, S, sr, .refl, h⟩, ?_⟩
    rintro m σ H' ⟨ρ', S', sr', st', hw⟩
    cases m with
    | zero => exact hw.elim
    | succ m =>
      refine ⟨ρ', S', _, sr', hw, fun b S1 h1 H1 ok1 st1 => ?_⟩
      cases b with
      | false => rw [if_neg (by decide)] at h1 ⊢; exact o.nx _ _ h1 _ _ (sr'.step ok1 st1) (st'.trans st1)
      | true =>
        rw [if_pos rfl] at h1 ⊢
        refine ⟨fun σ2 H2 => ∃ ρ2 S2, SR ⟨X.K, β.Z⟩ β.S0 β.H0 σ2 H2 ρ2 S2 ∧ Step ⟨X.K, β.Z⟩ S H S2 H2 ∧ whileD tc tb O m ρ2 S2, fun σ2 H2 q => ⟨m, Nat.lt_succ_self _, q⟩, ρ', S1, _, sr'.step ok1 st1, h1, ?_⟩
        have n : ∀ ρ S4, whileD tc tb O m ρ S4 → ∀ σ H4, SR ⟨X.K, β.Z⟩ β.S0 β.H0 σ H4 ρ S4 → Step ⟨X.K, β.Z⟩ S1 H1 S4 H4 → ∃ ρ2 S2, SR ⟨X.K, β.Z⟩ β.S0 β.H0 σ H4 ρ2 S2 ∧ Step ⟨X.K, β.Z⟩ S H S2 H4 ∧ whileD tc tb O m ρ2 S2 :=
          fun ρ S4 h4 σ H4 sr4 st4 => ⟨ρ, S4, sr4, st'.trans (st1.trans st4), h4⟩
        have o3 := o.mono (st'.trans st1)
        exact ⟨n, o3.rt, o3.nx, n⟩
end
end Dl
set_option maxHeartbeats 2000000
/-! Dl6: what is walked, comprehensions. -/
namespace Dl
open PySem PySem.Spec PyProof.Rows L2

/-! ### walks -/
def iSeq (K : PySem.W.Frag) (tl : TE) : TI := fun σ H R => tl σ H fun x H1 => (∃ a, x = .ref a ∧ (((∃ xs, SqL K H1 a xs) ∧ R (Itl K a) H1) ∨ ((∃ xs, SqT K H1 a xs) ∧ R (Itt K a) H1))) ∨ ∃ z, x = .str z ∧ R (Its z) H1
theorem pi_seq {X : Cx} {tg l : Expr} {tl : TE} (hl : PE X l tl) : PI X tg l (iSeq X.K tl) := by
  refine ⟨fun pins s σ H R I h => ?_⟩
  refine thn (hl.run pins s σ H _ I h) fun v s1 ⟨x, H1, I1, r1, q1⟩ => ?_
  rcases q1 with ⟨a, e, ⟨⟨xs, hq⟩, q⟩ | ⟨⟨xs, hq⟩, q⟩⟩ | ⟨z, e, q⟩
  · subst e
    cases r1
    obtain ⟨its, rv, p, hz⟩ := I1.list hq
    refine wpAny_pyIter_list p.isList ?_
    refine ⟨s1.heap.objs.size, [s1.heap.objs.size], _, _, H1, rfl, I1.kept (t' := s1.toks) fun b o e => Heap.get?_push_of_some _ e, turn_list a _, ⟨_, Heap.get?_push_size _ rfl, rfl, rfl⟩, fun b hb => ?_, q⟩
    have e : b = s1.heap.objs.size := by simpa using hb
    subst e
    exact I1.fpOk (Nat.le_refl _) (I1.hok.fresh (Nat.le_refl _))
  · subst e
    cases r1
    obtain ⟨its, rv, p, hz⟩ := I1.tuple hq
    refine wpAny_pyIter_tuple (show s1.heap.IsTuple a its.toArray from p) ?_
    refine ⟨s1.heap.objs.size, [s1.heap.objs.size], _, _, H1, rfl, I1.kept (t' := s1.toks) fun b o e => Heap.get?_push_of_some _ e, turn_tuple a _, ⟨_, Heap.get?_push_size _ rfl, rfl, rfl⟩, fun b hb => ?_, q⟩
    have e : b = s1.heap.objs.size := by simpa using hb
    subst e
    exact I1.fpOk (Nat.le_refl _) (I1.hok.fresh (Nat.le_refl _))
  · subst e
    obtain ⟨t, rfl⟩ := r1
    cases ha : z.cps.all (· < 128)
    · exact wpAny_pyIter_wide ha (pi_one (tk := s1.toks) I1 _ (turn_str _ z t "str_iterator" (.inr rfl)) ⟨_, Heap.get?_push_size _ rfl, rfl, rfl⟩ q)
    · exact wpAny_pyIter_ascii ha (pi_one (tk := s1.toks) I1 _ (turn_str _ z t "str_ascii_iterator" (.inl rfl)) ⟨_, Heap.get?_push_size _ rfl, rfl, rfl⟩ q)
section
variable {F : PySem.W.Frag} {Z : Addr → Prop} {S : Sto} {H : Hp} {a : Addr} {vs : List V} {xs : List D}
theorem it_data (n : S a = none ∧ ¬ Z a) (h : H a = some (.lst vs)) (r : Reps ⟨F, Z⟩ S H vs xs) : ItOk F Z (Itl F a) S H xs (fun _ => True) where
  go := fun Z' i S1 H1 hi ok mv _ => by
    obtain ⟨n1, h1⟩ := mv.lst a vs n h
    obtain ⟨v, hv, rv⟩ := (r.mv mv).get (List.getElem?_eq_getElem hi)
    exact ⟨⟨vs, v, .of h1, hv⟩, fun x H' ⟨e, y⟩ => by
      subst e
      have q := y vs (.of h1)
      rw [hv] at q; cases q
      exact ⟨_, List.getElem?_eq_getElem hi, rv, ok, .refl⟩⟩
  stop := fun Z' S1 H1 ok mv _ => by
    obtain ⟨n1, h1⟩ := mv.lst a vs n h
    exact ⟨vs, .of h1, Nat.le_of_eq r.length⟩
theorem it_tup (h : SqT F H a vs) (r : Reps ⟨F, Z⟩ S H vs xs) : ItOk F Z (Itt F a) S H xs (fun _ => True) where
  go := fun Z' i S1 H1 hi ok mv _ => by
    have h1 : SqT F H1 a vs := by
      rcases h with h | h
      · exact .inl (mv.tup a vs h)
      · exact .inr h
    obtain ⟨v, hv, rv⟩ := (r.mv mv).get (List.getElem?_eq_getElem hi)
    exact ⟨⟨vs, v, h1, hv⟩, fun x H' ⟨e, y⟩ => by
      subst e
      have q := y vs h1
      rw [hv] at q; cases q
      exact ⟨_, List.getElem?_eq_getElem hi, rv, ok, .refl⟩⟩
  stop := fun Z' S1 H1 ok mv _ => by
    have h1 : SqT F H1 a vs := by
      rcases h with h | h
      · exact .inl (mv.tup a vs h)
      · exact .inr h
    exact ⟨vs, h1, Nat.le_of_eq r.length⟩
theorem it_live (e : S a = some (.lst xs)) : ItOk F Z (Itl F a) S H xs (fun S' => S' a = some (.lst xs)) where
  go := fun Z' i S1 H1 hi ok mv st => by
    obtain ⟨us, h1, r1⟩ := ok.rep a _ st
    obtain ⟨v, hv, rv⟩ := r1.get (List.getElem?_eq_getElem hi)
    exact ⟨⟨us, v, .of h1, hv⟩, fun x H' ⟨e, y⟩ => by
      subst e
      have q := y us (.of h1)
      rw [hv] at q; cases q
      exact ⟨_, List.getElem?_eq_getElem hi, rv, ok, .refl⟩⟩
  stop := fun Z' S1 H1 ok mv st => by
    obtain ⟨us, h1, r1⟩ := ok.rep a _ st
    exact ⟨us, .of h1, Nat.le_of_eq r1.length⟩
def signs (z : Str) : List D := z.cps.toList.map fun c => .str ⟨#[c]⟩
theorem it_str {z : Str} : ItOk F Z (Its z) S H (signs z) (fun _ => True) where
  go := fun Z' i S1 H1 hi ok mv _ => by
    have hi' : i < z.cps.size := by simpa [signs] using hi
    exact ⟨hi', fun x H' ⟨e, c, hc, ex⟩ => by
      subst e
      refine ⟨.str ⟨#[c]⟩, ?_, ex, ok, .refl⟩
      unfold signs
      rw [List.getElem?_map, Array.getElem?_toList, hc]
      rfl⟩
  stop := fun Z' S1 H1 ok mv _ => by
    show z.cps.size ≤ _
    simp [signs]
def rangeD (lo : Int) (n : Nat) : List D := (List.range n).map fun i => .int (lo + (i : Nat))
theorem it_range {lo : Int} {n : Nat} : ItOk F Z (Itr lo n) S H (rangeD lo n) (fun _ => True) where
  go := fun Z' i S1 H1 hi ok mv _ => by
    have hi' : i < n := by simpa [rangeD] using hi
    exact ⟨hi', fun x H' ⟨e, ex⟩ => by
      subst e
      refine ⟨.int (lo + (i : Nat)), ?_, ex, ok, .refl⟩
      unfold rangeD
      rw [List.getElem?_map, List.getElem?_range hi']
      rfl⟩
  stop := fun Z' S1 H1 ok mv _ => by
    show n ≤ _
    simp [rangeD]
def enumD (n : Nat) : List D → List D
  | [] => []
  | x :: xs => .tup [.int n, x] :: enumD (n + 1) xs
theorem enumD_length : ∀ (xs : List D) (n : Nat), (enumD n xs).length = xs.length
  | [], _ => rfl
  | _ :: xs, n => by simp [enumD, enumD_length xs]
theorem enumD_get : ∀ (xs : List D) (n i : Nat) (x : D), xs[i]? = some x → (enumD n xs)[i]? = some (.tup [.int ((n + i : Nat) : Int), x])
  | [], _, _, _, h => by simp at h
  | y :: xs, n, 0, x, h => by simp at h; subst h; simp [enumD]
  | y :: xs, n, i + 1, x, h => by
    have := enumD_get xs (n + 1) i x (by simpa using h)
    simp only [enumD, List.getElem?_cons_succ]
    rw [this]
    congr 4
    omega
theorem pair_ok {K : Fr} {S : Sto} {H : Hp} {T : Addr} {v w : V} {d e : D} (ok : SOk K S H) (n : H T = none) (r1 : Rep K S H v d) (r2 : Rep K S H w e) :
    Rep K S (upd H T (.tup [v, w])) (.ref T) (.tup [d, e]) ∧ SOk K S (upd H T (.tup [v, w])) ∧ Step K S H S (upd H T (.tup [v, w])) := by
  have st : Step K S H S (upd H T (.tup [v, w])) := .laid n
  exact ⟨⟨T, [v, w], rfl, .inl (.inl upd_same), .cons (r1.step st) (.cons (r2.step st) .nil)⟩, ok.laid n, st⟩
theorem it_enum (n : S a = none ∧ ¬ Z a) (h : H a = some (.lst vs)) (r : Reps ⟨F, Z⟩ S H vs xs) : ItOk F Z (Ite F a) S H (enumD 0 xs) (fun _ => True) where
  go := fun Z' i S1 H1 hi ok mv _ => by
    rw [enumD_length] at hi
    obtain ⟨n1, h1⟩ := mv.lst a vs n h
    obtain ⟨v, hv, rv⟩ := (r.mv mv).get (List.getElem?_eq_getElem hi)
    exact ⟨⟨vs, v, .of h1, hv⟩, fun x H' ⟨T, x', e1, nT, e2, y⟩ => by
      subst e1 e2
      have q := y vs (.of h1)
      rw [hv] at q; cases q
      obtain ⟨p1, p2, p3⟩ := pair_ok (d := .int ((0 + i : Nat) : Int)) (v := .int (i : Nat)) ok nT (by rw [Nat.zero_add]; rfl) rv
      exact ⟨_, enumD_get xs 0 i _ (List.getElem?_eq_getElem hi), p1, p2, p3⟩⟩
  stop := fun Z' S1 H1 ok mv _ => by
    obtain ⟨n1, h1⟩ := mv.lst a vs n h
    exact ⟨vs, .of h1, by rw [enumD_length, r.length]; exact Nat.le_refl _⟩
end
/-- the things of a list, a tuple, a text -/
def walkD (d : D) (S : Sto) (P : List D → (Sto → Prop) → Sto → Prop) : Prop := match d with
  | .lst xs => P xs (fun _ => True) S
  | .tup xs => P xs (fun _ => True) S
  | .str z => P (signs z) (fun _ => True) S
  | .ref a => match S a with
    | some (.lst xs) => P xs (fun S' => S' a = some (.lst xs)) S
    | _ => False
  | _ => False
def diSeq (t : TDE) : TDI := fun ρ S P => t ρ S fun d S1 => walkD d S1 P
def diRng1 (t : TDA) : TDI := fun ρ S P => t ρ S fun ds S1 => match ds with
  | [.int j] => -(2 ^ 62) ≤ j ∧ j < 2 ^ 62 ∧ P (rangeD 0 j.toNat) (fun _ => True) S1
  | _ => False
def diRng2 (t : TDA) : TDI := fun ρ S P => t ρ S fun ds S1 => match ds with
  | [.int i, .int j] => (-(2 ^ 62) ≤ i ∧ i < 2 ^ 62 ∧ -(2 ^ 62) ≤ j ∧ j < 2 ^ 62) ∧ P (rangeD i (j - i).toNat) (fun _ => True) S1
  | _ => False
def diEnum (t : TDA) : TDI := fun ρ S P => t ρ S fun ds S1 => match ds with
  | [.lst xs] => P (enumD 0 xs) (fun _ => True) S1
  | _ => False
section
variable {X : Cx} {B : Fam} {S0 : Sto} {H0 : Hp} {tg l a b e : Expr} {t : TDE} {ta : TDA} {p pos tpos : Pos} {elts : List Expr} {kk : Nat}
theorem di_seq (hl : DE X B l t) : DI X B tg l (diSeq t) := fun β hB =>
  (pi_seq (hl β hB)).imp fun σ H R ⟨ρ, S, P, sr, h, k⟩ => ⟨ρ, S, _, sr, h, fun d S1 h1 v H1 ok st r => by
    cases d with
    | lst xs =>
      obtain ⟨c, vs, rfl, n, q, rs⟩ := r
      exact .inl ⟨c, rfl, .inl ⟨⟨vs, .of q⟩, k _ _ _ h1 _ _ ok st (it_data n q rs)⟩⟩
    | tup xs =>
      obtain ⟨c, vs, rfl, q, rs⟩ := r
      exact .inl ⟨c, rfl, .inr ⟨⟨vs, q⟩, k _ _ _ h1 _ _ ok st (it_tup q rs)⟩⟩
    | str z => exact .inr ⟨z, r, k _ _ _ h1 _ _ ok st it_str⟩
    | ref c =>
      unfold walkD at h1
      cases e : S1 c with
      | none => simp [e] at h1
      | some o =>
        cases o with
        | lst xs =>
          simp [e] at h1
          obtain ⟨us, q, rs⟩ := ok.rep c _ e
          exact .inl ⟨c, r, .inl ⟨⟨us, .of q⟩, k _ _ _ h1 _ _ ok st (it_live e)⟩⟩
        | _ => simp [e] at h1
    | _ => exact h1.elim⟩
theorem di_rng1 (hg : Gl X "range") (hm : X.mg "range" = none) (ha : DA X B [a] ta) (hs : starEach [a] X.env = [(false, eval a X.env)] := by rfl) : DI X B tg (.Call (.Name "range" p) [a] [] pos) (diRng1 ta) := fun β hB =>
  (pi_range1 hg hm (ha β hB) hs).imp fun σ H R ⟨ρ, S, P, sr, h, k⟩ => ⟨ρ, S, _, sr, h, fun ds S1 h1 vs H1 ok st r => by
    split at h1
    · rename_i j
      obtain ⟨v, _, rfl, r1, r2⟩ := r
      obtain rfl := r2
      exact ⟨j, by rw [show v = _ from r1], h1.1, h1.2.1, k _ _ _ h1.2.2 _ _ ok st it_range⟩
    · exact h1.elim⟩
theorem di_rng2 (hg : Gl X "range") (hm : X.mg "range" = none) (ha : DA X B [a, b] ta) (hs : starEach [a, b] X.env = [(false, eval a X.env), (false, eval b X.env)] := by rfl) (hs2 : starEach [b] X.env = [(false, eval b X.env)] := by rfl) :
    DI X B tg (.Call (.Name "range" p) [a, b] [] pos) (diRng2 ta) := fun β hB =>
  (pi_range2 hg hm (ha β hB) hs hs2).imp fun σ H R ⟨ρ, S, P, sr, h, k⟩ => ⟨ρ, S, _, sr, h, fun ds S1 h1 vs H1 ok st r => by
    split at h1
    · rename_i i j
      obtain ⟨v, _, rfl, r1, w, _, rfl, r2, r3⟩ := r
      obtain rfl := r3
      exact ⟨i, j, by rw [show v = _ from r1, show w = _ from r2], h1.1, k _ _ _ h1.2 _ _ ok st it_range⟩
    · exact h1.elim⟩
theorem di_enum (hg : Gl X "enumerate") (hm : X.mg "enumerate" = none) (ha : DA X B [e] ta) (hs : starEach [e] X.env = [(false, eval e X.env)] := by rfl) : DI X B (.Tuple elts kk tpos) (.Call (.Name "enumerate" p) [e] [] pos) (diEnum ta) := fun β hB =>
  (pi_enum hg hm (ha β hB) hs).imp fun σ H R ⟨ρ, S, P, sr, h, k⟩ => ⟨ρ, S, _, sr, h, fun ds S1 h1 vs H1 ok st r => by
    split at h1
    · rename_i xs
      obtain ⟨v, _, rfl, r1, r2⟩ := r
      obtain rfl := r2
      obtain ⟨c, us, rfl, n, q, rs⟩ := r1
      exact ⟨c, us, rfl, .of q, k _ _ _ h1 _ _ ok st (it_enum n q rs)⟩
    · exact h1.elim⟩
end

/-! ### comprehensions -/
def DTs (X : Cx) (B : Fam) (ifs : List Expr) (t : TDT) : Prop := ∀ b, B b → PTs X ifs (liftT ⟨X.K, b.Z⟩ b.S0 b.H0 t)
def dYes : TDT := fun _ S Q => Q true S
def wipeD (ρ : DEnv) : List Nat → DEnv
  | [] => ρ
  | v :: vs => (wipeD ρ vs).set v none
theorem ERep.wipe {K : Fr} {S : Sto} {H : Hp} {σ : L2.St} {ρ : DEnv} (e : ERep K S H σ ρ) : ∀ vs : List Nat, ERep K S H (L2.wipe σ vs) (wipeD ρ vs)
  | [] => e
  | v :: vs => (ERep.wipe e vs).unset
theorem ERep.mv {F : PySem.W.Frag} {Z Z' : Addr → Prop} {S S' : Sto} {H H' : Hp} {σ : L2.St} {ρ : DEnv} (e : ERep ⟨F, Z⟩ S H σ ρ) (m : Mv F Z S H Z' S' H') : ERep ⟨F, Z'⟩ S' H' σ ρ :=
  ⟨e.len, fun i d h => let ⟨v, h1, r⟩ := e.at_ i d h; ⟨v, h1, r.mv m⟩⟩
def lcD (stb : Sto → Prop) (g : TDG) (tt : TDT) (te : TDE) (ρ : DEnv) (Q : List D → Sto → Prop) : List D → List D → Sto → Prop
  | [], acc, S => stb S ∧ Q acc S
  | x :: xs, acc, S => stb S ∧ g x ρ S fun ρ2 S2 => tt ρ2 S2 fun b S3 => if b = true then te ρ2 S3 fun y S4 => acc.length < sizeLine ∧ lcD stb g tt te ρ Q xs (acc ++ [y]) S4 else lcD stb g tt te ρ Q xs acc S3
def dLc (m : Bool) (ti : TDI) (g : TDG) (tt : TDT) (te : TDE) (own : List Nat) : TDE := fun ρ S Q => ti ρ S fun xs stb S1 => lcD stb g tt te (wipeD ρ own) (fun ys S2 => newL m ys S2 Q) xs [] S1
section
variable {X : Cx} {B : Fam} {S0 : Sto} {H0 : Hp}
theorem dts_nil : DTs X B [] dYes := fun β hB => ⟨fun pins s σ H Q I ⟨ρ, S, P, sr, h, k⟩ => pts_nil.run pins s σ H Q I (k _ _ h _ sr.ok .refl)⟩
theorem dts_one {c : Expr} {t : TDT} (h : DT X B c t) : DTs X B [c] t := fun β hB => pts_one (h β hB)
/-- within a comprehension's block, the new list at Dn hidden -/
structure LcSt (F : PySem.W.Frag) (Z : Addr → Prop) (Dn : Addr) (S1 : Sto) (H1 : Hp) (σ : L2.St) (ρ : DEnv) (acc : List D) (S : Sto) (H : Hp) : Prop where
  ok : SOk ⟨F, hideZ Z Dn⟩ S H
  env : ERep ⟨F, hideZ Z Dn⟩ S H σ ρ
  acc : ∃ vs, H Dn = some (.lst vs) ∧ Reps ⟨F, hideZ Z Dn⟩ S H vs acc
  mv : Mv F Z S1 H1 (hideZ Z Dn) S H
  hid : ∀ a o, Z a → H1 a = some o → H a = some o
def liftGx (F : PySem.W.Frag) (own : List Nat) (g : TDG) : TG := fun v σ H Q => ∃ Z S0 H0, liftG ⟨F, Z⟩ own S0 H0 g v σ H Q
def liftTx (F : PySem.W.Frag) (t : TDT) : TT := fun σ H Q => ∃ Z S0 H0, liftT ⟨F, Z⟩ S0 H0 t σ H Q
def liftEx (F : PySem.W.Frag) (t : TDE) : TE := fun σ H Q => ∃ Z S0 H0, lift ⟨F, Z⟩ S0 H0 t σ H Q
theorem wipe_wipe (σ : L2.St) (vs : List Nat) : wipe (wipe σ vs) vs = wipe σ vs := by
  apply List.ext_getElem?
  intro j
  rw [wipe_get, wipe_get, wipe_length]
  by_cases h : j ∈ vs <;> simp [h]
theorem mv_adopt {F : PySem.W.Frag} {Z : Addr → Prop} {S : Sto} {H : Hp} {a : Addr} {u : O} : Mv F (hideZ Z a) S H Z (put S a u) H :=
  ⟨fun _ _ q => q, fun b vs h q => ⟨⟨by rw [put_ne (fun z => h.2 (.inr z))]; exact h.1, fun z => h.2 (.inl z)⟩, q⟩, fun b vs h q => ⟨⟨by rw [put_ne (fun z => h.2 (.inr z))]; exact h.1, fun z => h.2 (.inl z)⟩, q⟩, fun _ _ _ q => q⟩
theorem SOk.adopt {F : PySem.W.Frag} {Z : Addr → Prop} {S : Sto} {H : Hp} {a : Addr} {vs : List V} {acc : List D} (ok : SOk ⟨F, hideZ Z a⟩ S H) (nz : ¬ Z a) (h : H a = some (.lst vs)) (r : Reps ⟨F, hideZ Z a⟩ S H vs acc) : SOk ⟨F, Z⟩ (put S a (.lst acc)) H := by
  refine ⟨fun b w e => ?_, fun b z => ?_, ok.tabs.put (fun o e => by rw [(ok.nz a (.inr rfl)).1] at e; cases e) True.intro⟩
  · by_cases hb : b = a
    · subst hb; rw [put_same] at e; cases e; exact ⟨vs, h, r.mv mv_adopt⟩
    · rw [put_ne hb] at e; exact (ok.rep b w e).mv mv_adopt rfl
  · obtain ⟨h1, h2⟩ := ok.nz b (.inl z)
    exact ⟨by rw [put_ne (fun q => by subst q; exact nz z)]; exact h1, h2⟩
theorem Step.of_mv {F : PySem.W.Frag} {Z : Addr → Prop} {S S' : Sto} {H H' : Hp} (m : Mv F Z S H Z S' H') (h : ∀ a o, Z a → H a = some o → H' a = some o) : Step ⟨F, Z⟩ S H S' H' := ⟨m.tup, m.lst, m.dic, h, m.ext⟩
/-- a new list's end: data, or a thing that changes -/
theorem lc_end {F : PySem.W.Frag} {Z : Addr → Prop} {Dn : Addr} {S S1 S' : Sto} {H H1 H' : Hp} {σ : L2.St} {ρ : DEnv} {acc : List D} {m : Bool} {P : D → Sto → Prop} {Q : VK} (k : Ret ⟨F, Z⟩ S H P Q) (st : Step ⟨F, Z⟩ S H S1 H1) (nz : ¬ Z Dn)
    (q : LcSt F Z Dn S1 H1 σ ρ acc S' H') (h : newL m acc S' P) : Q (.ref Dn) H' := by
  obtain ⟨vs, hD, rs⟩ := q.acc
  cases m with
  | false =>
    have h' : P (.lst acc) S' := by simpa [newL] using h
    exact k _ _ h' _ _ q.ok.show (st.trans (.of_mv (q.mv.trans mv_show) q.hid)) ⟨Dn, vs, rfl, ⟨(q.ok.nz Dn (.inr rfl)).1, nz⟩, hD, rs.mv mv_show⟩
  | true =>
    have h' : ∀ p, S' p = none → P (.ref p) (put S' p (.lst acc)) := by simpa [newL] using h
    exact k _ _ (h' Dn (q.ok.nz Dn (.inr rfl)).1) _ _ (q.ok.adopt nz hD rs) (st.trans (.of_mv (q.mv.trans mv_adopt) q.hid)) rfl
theorem LcSt.step {F : PySem.W.Frag} {Z : Addr → Prop} {Dn : Addr} {S1 S S' : Sto} {H1 H H' : Hp} {σ : L2.St} {ρ : DEnv} {acc : List D} (q : LcSt F Z Dn S1 H1 σ ρ acc S H) (ok : SOk ⟨F, hideZ Z Dn⟩ S' H') (st : Step ⟨F, hideZ Z Dn⟩ S H S' H') : LcSt F Z Dn S1 H1 σ ρ acc S' H' where
  ok := ok
  env := q.env.step st
  acc := let ⟨vs, h, r⟩ := q.acc; ⟨vs, st.hid _ _ (.inr rfl) h, r.step st⟩
  mv := q.mv.trans st.mv
  hid := fun a o z h => st.hid a o (.inl z) (q.hid a o z h)
theorem LcSt.add {F : PySem.W.Frag} {Z : Addr → Prop} {Dn : Addr} {S1 S : Sto} {H1 H : Hp} {σ : L2.St} {ρ : DEnv} {acc : List D} {v : V} {d : D} (q : LcSt F Z Dn S1 H1 σ ρ acc S H) (n : H1 Dn = none) (r : Rep ⟨F, hideZ Z Dn⟩ S H v d) :
    ∃ vs, H Dn = some (.lst vs) ∧ vs.length = acc.length ∧ LcSt F Z Dn S1 H1 σ ρ (acc ++ [d]) S (upd H Dn (.lst (vs ++ [v]))) := by
  obtain ⟨vs, h, rs⟩ := q.acc
  have m := mv_fill (F := F) (Z := Z) (S := S) (u := .lst (vs ++ [v])) h
  refine ⟨vs, h, rs.length, ⟨q.ok.fill h, q.env.mv m, ⟨_, upd_same, (rs.snoc r).mv m⟩, q.mv.trans m, fun a o z h1 => ?_⟩⟩
  rw [upd_ne (ne_of_none h1 n)]
  exact q.hid a o z h1
theorem lc_lift {Z : Addr → Prop} {ti : TDI} {g : TDG} {tt : TDT} {te : TDE} {m : Bool} {own : List Nat} {σ : L2.St} {H : Hp} {Q : VK}
    (h : lift ⟨X.K, Z⟩ S0 H0 (dLc m ti g tt te own) σ H Q) : tLc (liftI ⟨X.K, Z⟩ S0 H0 ti) (liftGx X.K own g) (liftTx X.K tt) (liftEx X.K te) own σ H Q := by
  obtain ⟨ρ, S, P, sr, h, k⟩ := h
  refine ⟨ρ, S, _, sr, h, fun xs stb S1 h1 J H1 ok1 st1 it => fun Dn nD => ?_⟩
  have nz := ok1.nzf nD
  refine ⟨fun i n H' => n = xs.length - i ∧ i ≤ xs.length ∧ ∃ acc S', LcSt X.K Z Dn S1 H1 (wipe σ own) (wipeD ρ own) acc S' H' ∧ lcD stb g tt te (wipeD ρ own) (fun ys S2 => newL m ys S2 P) (xs.drop i) acc S', ⟨xs.length, by simp, Nat.zero_le _, [], S1, ?_, h1⟩, ?_⟩
  · exact ⟨ok1.hide nD, ((sr.env.step st1).wipe own).mv (mv_hide nD), ⟨[], upd_same, rfl⟩, mv_hide nD, fun a o z h => hp_keep nD h⟩
  rintro i n H' ⟨rfl, hi, acc, S', q, hf⟩
  by_cases hlt : i < xs.length
  · have e : xs.drop i = xs[i] :: xs.drop (i + 1) := List.drop_eq_getElem_cons hlt
    rw [e] at hf
    obtain ⟨hst, hf⟩ := hf
    obtain ⟨go, yl⟩ := it.go (hideZ Z Dn) i S' H' hlt q.ok q.mv hst
    refine .inr ⟨go, fun H2 => ∃ acc S', LcSt X.K Z Dn S1 H1 (wipe σ own) (wipeD ρ own) acc S' H2 ∧ lcD stb g tt te (wipeD ρ own) (fun ys S2 => newL m ys S2 P) (xs.drop (i + 1)) acc S', fun H2 ⟨a2, S2, b, c⟩ => ⟨xs.length - (i + 1), by omega, rfl, hlt, a2, S2, b, c⟩, fun x H2 y => ?_⟩
    obtain ⟨d, hd, rx, ok2, st2⟩ := yl x H2 y
    have ed : xs[i] = d := by rw [List.getElem?_eq_getElem hlt] at hd; exact Option.some.inj hd
    rw [ed] at hf
    have q2 := q.step ok2 st2
    refine ⟨hideZ Z Dn, S', H2, d, wipeD ρ own, S', _, rx, ⟨q2.env, ok2, .refl⟩, hf, fun ρ3 S3 h3 σ3 H3 sr3 st3 w3 => ⟨w3.trans (wipe_wipe σ own), ?_⟩⟩
    have q3 := q2.step sr3.ok st3
    refine ⟨hideZ Z Dn, S3, H3, ρ3, S3, _, ⟨sr3.env, sr3.ok, .refl⟩, h3, fun b S4 h4 H4 ok4 st4 => ?_⟩
    have q4 := q3.step ok4 st4
    cases b with
    | false =>
      rw [if_neg (by decide)] at h4
      exact iteF ⟨acc, S4, q4, h4⟩
    | true =>
      rw [if_pos rfl] at h4
      refine iteT ?_
      refine ⟨hideZ Z Dn, S4, H4, ρ3, S4, _, ⟨sr3.env.step st4, ok4, .refl⟩, h4, fun d5 S5 h5 v5 H5 ok5 st5 r5 => ?_⟩
      obtain ⟨hz, h5⟩ := h5
      obtain ⟨us, hD, hl, q6⟩ := (q4.step ok5 st5).add nD r5
      exact ⟨us, hD, by rw [hl]; exact hz, _, S5, q6, h5⟩
  · have e : i = xs.length := by omega
    subst e
    rw [List.drop_length] at hf
    exact .inl ⟨it.stop (hideZ Z Dn) S' H' q.ok q.mv hf.1, lc_end k st1 nz q hf.2⟩
variable {elt tg iter : Expr} {ifs : List Expr} {scope : Scope} {own : List (Str × Nat)} {pos : Pos} {ti : TDI} {g : TDG} {tt : TDT} {te : TDE}
theorem de_lc (m : Bool) (hc : X.calm = true) (hN : X.N.Nodup) (hi : DI X B tg iter ti) (ok : BlkOk X.N X.env.scope scope own)
    (hg : ∀ (s : Shared) (H : Hp) (C : Addr) (cl : List (Str × Addr)) (fp : List Addr), DG (X.blk s H scope (compEnvC scope cl C X.env) fp) anyB (own.map (·.2)) tg g) (ht : ∀ (s : Shared) (H : Hp) (C : Addr) (cl : List (Str × Addr)) (fp : List Addr), DTs (X.blk s H scope (compEnvC scope cl C X.env) fp) anyB ifs tt)
    (he : ∀ (s : Shared) (H : Hp) (C : Addr) (cl : List (Str × Addr)) (fp : List Addr), DE (X.blk s H scope (compEnvC scope cl C X.env) fp) anyB elt te) (hs : ∀ x, foldedSetIterable iter X.env x = pure x := by intro _; rfl) :
    DE X B (.ListComp elt [⟨tg, iter, ifs, 0⟩] scope pos) (dLc m ti g tt te (own.map (·.2))) := fun β hB =>
  (pe_lc hc hN (hi β hB) ok (fun s H C cl fp => ⟨fun pins s1 σ H1 v u Q I r ⟨Z1, S1, H2, q⟩ => (hg s H C cl fp ⟨Z1, S1, H2⟩ trivial).run pins s1 σ H1 v u Q I r q⟩) (fun s H C cl fp => ⟨fun pins s1 σ H1 Q I ⟨Z1, S1, H2, q⟩ => (ht s H C cl fp ⟨Z1, S1, H2⟩ trivial).run pins s1 σ H1 Q I q⟩)
    (fun s H C cl fp => ⟨fun pins s1 σ H1 Q I ⟨Z1, S1, H2, q⟩ => (he s H C cl fp ⟨Z1, S1, H2⟩ trivial).run pins s1 σ H1 Q I q⟩) hs).imp fun σ H Q h => lc_lift h
theorem ds_setLc {i : Nat} {y : Str} {py spos : Pos} (m : Bool) (hc : X.calm = true) (hN : X.N.Nodup) (hy : X.N[i]? = some y) (hyl : X.env.scope.names.lookup y = some .local)
    (hsw : swapsWith (.ListComp elt [⟨tg, iter, ifs, 0⟩] scope pos) (some (.Name y py)) spos.line X.env = pure true) (hi : DI X B tg iter ti) (ok : BlkOk X.N X.env.scope scope own)
    (hg : ∀ (s : Shared) (H : Hp) (C : Addr) (cl : List (Str × Addr)) (fp : List Addr), DG (X.blk s H scope (compEnvC scope cl C X.env) fp) anyB (own.map (·.2)) tg g) (ht : ∀ (s : Shared) (H : Hp) (C : Addr) (cl : List (Str × Addr)) (fp : List Addr), DTs (X.blk s H scope (compEnvC scope cl C X.env) fp) anyB ifs tt)
    (he : ∀ (s : Shared) (H : Hp) (C : Addr) (cl : List (Str × Addr)) (fp : List Addr), DE (X.blk s H scope (compEnvC scope cl C X.env) fp) anyB elt te) (hs : ∀ x, foldedSetIterable iter X.env x = pure x := by intro _; rfl) :
    DS X B (.Assign [.Name y py] (.ListComp elt [⟨tg, iter, ifs, 0⟩] scope pos) spos) (dSet i (dLc m ti g tt te (own.map (·.2)))) := fun β hB =>
  (ps_setLc hc hN hy hyl hsw (hi β hB) ok (fun s H C cl fp => ⟨fun pins s1 σ H1 v u Q I r ⟨Z1, S1, H2, q⟩ => (hg s H C cl fp ⟨Z1, S1, H2⟩ trivial).run pins s1 σ H1 v u Q I r q⟩) (fun s H C cl fp => ⟨fun pins s1 σ H1 Q I ⟨Z1, S1, H2, q⟩ => (ht s H C cl fp ⟨Z1, S1, H2⟩ trivial).run pins s1 σ H1 Q I q⟩)
    (fun s H C cl fp => ⟨fun pins s1 σ H1 Q I ⟨Z1, S1, H2, q⟩ => (he s H C cl fp ⟨Z1, S1, H2⟩ trivial).run pins s1 σ H1 Q I q⟩) hs).imp fun E σ H ⟨ρ, S, O, sr, h, o⟩ =>
    lc_lift ⟨ρ, S, _, sr, h, fun d S1 h1 v H1 ok st r => o.nx _ _ h1 _ _ ((sr.step ok st).set r) st⟩
end
end Dl
set_option maxHeartbeats 2000000
/-! Dl7: defs, calls, instances over data. -/
namespace Dl
open PySem PySem.Spec PyProof.Rows L2

/-- an exception over data: its class, its attributes, the store -/
abbrev EX := Addr → List (Str × D) → Sto → Prop
/-- .. with the slots -/
abbrev EW := Addr → List (Str × D) → DEnv → Sto → Prop
/-- what a def is: arguments, store, what is wanted of the answer, of an exception -/
abbrev Phi := List D → Sto → (D → Sto → Prop) → EX → Prop
def RetX (K : Fr) (S : Sto) (H : Hp) (P : EX) (E : XK) : Prop := ∀ C fs S', P C fs S' → ∀ dd kvs H', SOk K S' H' → Step K S H S' H' → H' dd = some (.xd kvs) → kvs.map (·.1) = fs.map (·.1) → Reps K S' H' (kvs.map (·.2)) (fs.map (·.2)) → E (.ref C) (some dd) H'
def spD (F : PySem.W.Frag) (n : Nat) (Φ : Phi) : Sp := fun vs H Q E => vs.length = n ∧ ∃ Z ds S P PE, Reps ⟨F, Z⟩ S H vs ds ∧ SOk ⟨F, Z⟩ S H ∧ Φ ds S P PE ∧ Ret ⟨F, Z⟩ S H P Q ∧ RetX ⟨F, Z⟩ S H PE E
/-- the wish of a context about exceptions -/
def wE (K : Fr) (S0 : Sto) (H0 : Hp) (E : EW) : WX := fun cls d σ H => ∃ C fs ρ S dd kvs, cls = .ref C ∧ d = some dd ∧ H dd = some (.xd kvs) ∧ kvs.map (·.1) = fs.map (·.1) ∧ Reps K S H (kvs.map (·.2)) (fs.map (·.2)) ∧ SR K S0 H0 σ H ρ S ∧ E C fs ρ S
def RaisesD (X : Cx) (B : Fam) (E : EW) : Prop := ∀ β, B β → Takes X (wE ⟨X.K, β.Z⟩ β.S0 β.H0 E)
def noE : EW := fun _ _ _ _ => False
theorem raises_none {X : Cx} {B : Fam} : RaisesD X B noE := fun β _ => takes0.imp fun c d σ H ⟨C, fs, ρ, S, dd, kvs, _, _, _, _, _, _, z⟩ => z

/-! ### a def's body -/
def startD (N : List Str) (ds : List D) : DEnv := ds.map some ++ List.replicate (N.length - ds.length) none
theorem start_rep {K : Fr} {S : Sto} {H : Hp} {N : List Str} {vs : List V} {ds : List D} (r : Reps K S H vs ds) : ERep K S H (L2.start N vs) (startD N ds) := by
  have hl := r.length
  refine ⟨by unfold L2.start startD; simp [hl], fun i d h => ?_⟩
  unfold startD at h
  by_cases hi : i < ds.length
  · rw [List.getElem?_append_left (by simpa using hi), List.getElem?_map] at h
    cases e : ds[i]? with
    | none => rw [e] at h; cases h
    | some d' =>
      rw [e] at h
      cases h
      obtain ⟨v, hv, rv⟩ := r.get e
      exact ⟨v, by unfold L2.start; rw [List.getElem?_append_left (by simpa [hl] using hi), List.getElem?_map, hv]; rfl, rv⟩
  · rw [List.getElem?_append_right (by simpa using hi), List.getElem?_replicate] at h
    split at h <;> cases h
/-- at a def's end: a list that changes no more may be data, what is met no more is forgotten -/
def Fz (d : D) (S : Sto) (P : D → Sto → Prop) : Prop := ∃ d' S', P d' S' ∧ ∀ F Z H v, SOk ⟨F, Z⟩ S H → Rep ⟨F, Z⟩ S H v d → SOk ⟨F, Z⟩ S' H ∧ Rep ⟨F, Z⟩ S' H v d' ∧ Step ⟨F, Z⟩ S H S' H
theorem Fz.same {d : D} {S : Sto} {P : D → Sto → Prop} (h : P d S) : Fz d S P := ⟨d, S, h, fun F Z H v ok r => ⟨ok, r, .refl⟩⟩
def bodyO (P : D → Sto → Prop) : DOut := ⟨fun _ S => Fz .non S P, fun d S => Fz d S P, fun _ _ => False, fun _ _ => False⟩
section
variable {P : Program} {w : World} {K : PySem.W.Frag} {mg : Str → Option Value} {base : Heap}
abbrev FnD (P : Program) (w : World) (K : PySem.W.Frag) (mg : Str → Option Value) (base : Heap) (k : Nat) (f : Addr) (fd : FuncData) (ps : List Str) (Φ : Phi) : Prop := FnOk P w K mg base (L2.CX P w) k f fd ps (spD K ps.length Φ)
/-- THE RULE for a def -/
theorem _root_.L2.Fun.okD {x qual : Str} {st : Stmt} {f : Addr} {fd : FuncData} {N ps : List Str} {k : Nat} {Φ : Phi} {t : EX → TDS} (F : Fun K x qual st f fd) (sc : FnScope N ps (defScope st))
    (hder : ∀ (X : Cx) (B : Fam) (PE : EX), X.prog = P → X.w = w → X.K = K → X.mg = mg → X.base = base → X.N = N → X.env.scope = defScope st → X.calm = true → X.fn = (fun _ => true) → X.stack = X.env :: X.outer → X.env.frame = some X.env.locals → Room k X.A → RaisesD X B (fun C fs _ S => PE C fs S) → PassesOwn (model X.prog X.w) X.A X.env X.xe → DSs X B (defBody st) (t PE))
    (hvc : ∀ ds S P PE, ds.length = ps.length → Φ ds S P PE → t PE (bodyO P) (startD N ds) S) : FnD P w K mg base (k + 1) f fd ps Φ := by
  refine F.okX sc (fun vs H Q E h => h.1) fun cdv A outer s H vs Q E hr h => ?_
  obtain ⟨hl, Z, ds, S, P', PE, rs, ok, hΦ, kr, kx⟩ := h
  refine ⟨_, hder (cxOf (L2.CX P w) P w K mg base N qual (defScope st) f cdv A outer s H E) (fun β => β = ⟨Z, S, H⟩) PE rfl rfl rfl rfl rfl rfl rfl rfl rfl rfl rfl hr (fun β hβ => ?_) (passes_of rfl) ⟨Z, S, H⟩ rfl, ?_⟩
  · subst hβ
    refine (takes_of (E := E) rfl rfl rfl rfl).imp fun cls d σ H' q => ?_
    obtain ⟨C, fs, ρ, S', dd, kvs, rfl, rfl, hdd, hk, hr', sr, hE⟩ := q
    exact kx C fs S' hE dd kvs H' sr.ok sr.st hdd hk hr'
  · refine ⟨startD N ds, S, bodyO P', ⟨start_rep rs, ok, .refl⟩, hvc ds S P' PE (by rw [← rs.length]; exact hl) hΦ, ⟨?_, ?_, fun _ _ z => z.elim, fun _ _ z => z.elim⟩⟩
    · intro ρ S' ⟨d', S2, p, z⟩ σ H' sr st
      obtain ⟨ok2, r2, st2⟩ := z K Z H' .non sr.ok rfl
      exact kr d' S2 p _ _ ok2 (st.trans st2) r2
    · intro d S' ⟨d', S2, p, z⟩ v H' ok' _ st r
      obtain ⟨ok2, r2, st2⟩ := z K Z H' v ok' r
      exact kr d' S2 p _ _ ok2 (st.trans st2) r2
end

/-! ### calls -/
def dCall (E : EW) (n : Nat) (Φ : Phi) (dds : List D) (ta : TDA) : TDE := fun ρ S Q => ta ρ S fun ds S1 => (ds ++ dds).length = n ∧ Φ (ds ++ dds) S1 Q fun C fs S2 => E C fs ρ S2
def dMake (E : EW) (n : Nat) (C : Addr) (Φ : Phi) (dds : List D) (ta : TDA) : TDE := fun ρ S Q => ta ρ S fun ds S1 => ∀ p, S1 p = none → (D.ref p :: (ds ++ dds)).length = n ∧
  Φ (.ref p :: (ds ++ dds)) (put S1 p (.ins C [])) (fun d S2 => d = .non ∧ Q (.ref p) S2) fun C fs S2 => E C fs ρ S2
def attrR (C : Addr) (f : Str) : RD1 := fun x S Q => match x with
  | .ref a => ∃ fs d, S a = some (.ins C fs) ∧ fs.lookup f = some d ∧ Q d S
  | _ => False
def putN (f : Str) (d : D) : List (Str × D) → List (Str × D)
  | [] => [(f, d)]
  | (g, x) :: r => if g = f then (g, d) :: r else (g, x) :: putN f d r
theorem putN_rep {K : Fr} {S : Sto} {H : Hp} {f : Str} {v : V} {d : D} (rv : Rep K S H v d) : ∀ {kvs : List (Str × V)} {fs : List (Str × D)}, kvs.map (·.1) = fs.map (·.1) → Reps K S H (kvs.map (·.2)) (fs.map (·.2)) →
    (putF f v kvs).map (·.1) = (putN f d fs).map (·.1) ∧ Reps K S H ((putF f v kvs).map (·.2)) ((putN f d fs).map (·.2))
  | [], [], _, _ => ⟨rfl, .cons rv .nil⟩
  | [], _ :: _, h, _ => by simp at h
  | _ :: _, [], h, _ => by simp at h
  | (g, x) :: r, (g', y) :: r', h, rs => by
    simp only [List.map_cons, List.cons.injEq] at h
    obtain ⟨rfl, h⟩ := h
    obtain ⟨v', _, e, r1, r2⟩ := rs
    simp only [List.map_cons, List.cons.injEq] at e
    obtain ⟨rfl, rfl⟩ := e
    unfold putF putN
    by_cases hg : g = f
    · rw [if_pos hg, if_pos hg]
      exact ⟨by simp [h], .cons rv r2⟩
    · rw [if_neg hg, if_neg hg]
      obtain ⟨a, b⟩ := putN_rep rv h r2
      exact ⟨by simp [a], .cons r1 b⟩
theorem look_rep {K : Fr} {S : Sto} {H : Hp} {f : Str} {d : D} : ∀ {kvs : List (Str × V)} {fs : List (Str × D)}, kvs.map (·.1) = fs.map (·.1) → Reps K S H (kvs.map (·.2)) (fs.map (·.2)) → fs.lookup f = some d → ∃ v, kvs.lookup f = some v ∧ Rep K S H v d
  | [], [], _, _, e => by simp at e
  | [], _ :: _, h, _, _ => by simp at h
  | _ :: _, [], h, _, _ => by simp at h
  | (g, x) :: r, (g', y) :: r', h, rs, e => by
    simp only [List.map_cons, List.cons.injEq] at h
    obtain ⟨rfl, h⟩ := h
    obtain ⟨v', _, e1, r1, r2⟩ := rs
    simp only [List.map_cons, List.cons.injEq] at e1
    obtain ⟨rfl, rfl⟩ := e1
    rw [List.lookup_cons] at e ⊢
    cases hb : (f == g) with
    | true =>
      simp only [hb] at e ⊢
      cases e
      exact ⟨x, rfl, r1⟩
    | false =>
      simp only [hb] at e ⊢
      exact look_rep h r2 e
def dAttr (C : Addr) (f : Str) (t : TDE) : TDE := dUn (attrR C f) t
def dSetAttr (C : Addr) (f : Str) (to te : TDE) : TDS := fun O ρ S => te ρ S fun d S1 => to ρ S1 fun x S2 => match x with
  | .ref a => ∃ fs, S2 a = some (.ins C fs) ∧ fs.length < 1000 ∧ O.nx ρ (put S2 a (.ins C (putN f d fs)))
  | _ => False
def dMeth (n : Nat) (C : Addr) (m : Str) (Φ : Phi) (dds : List D) (to : TDE) (ta : TDA) : TDE := fun ρ S Q => to ρ S fun x S1 => match x with
  | .ref a => ∃ fs, S1 a = some (.ins C fs) ∧ fs.lookup m = none ∧ ta ρ S1 fun ds S2 => (D.ref a :: (ds ++ dds)).length = n ∧ Φ (.ref a :: (ds ++ dds)) S2 Q fun _ _ _ => False
  | _ => False
section
variable {X : Cx} {B : Fam} {k n : Nat} {f C : Addr} {fd : FuncData} {ps : List Str} {Φ : Phi} {dvs : List V} {dds : List D} {ds : List Value} {E : EW} {x m fl : Str} {p pos apos pos' : Pos} {e o value : Expr} {es : List Expr} {ta : TDA} {te to : TDE}
theorem de_call (F : FnD X.prog X.w X.K X.mg X.base k f fd ps Φ) (hr : Room k X.A) (hE : RaisesD X B E) (hg : Gl X x) (hm : X.mg x = some (.ref f)) (hk : PySem.W.keepIn X.K (.ref f) = true) (hb : Binds X.K fd ps ds) (hd : Vals dvs ds) (hdd : ∀ Z S H, Reps ⟨X.K, Z⟩ S H dvs dds)
    (ha : DA X B (e :: es) ta) (hdb : (x == ("__debug__" : Str)) = false := by decide) (he : starEach (e :: es) X.env = (false, eval e X.env) :: starEach es X.env := by rfl) (hpl : (backTo pos (starEach es X.env)).any (·.1) = false := by rfl) :
    DE X B (.Call (.Name x p) (e :: es) [] pos) (dCall E ps.length Φ dds ta) := fun β hB =>
  (pe_callSD F hr hg hm hk hb hd (E := WE (wE ⟨X.K, β.Z⟩ β.S0 β.H0 E)) (fun σ => passAt (hE β hB) σ) (ha β hB) hdb he hpl).imp fun σ H Q ⟨ρ, S, P, sr, h, kq⟩ => ⟨ρ, S, _, sr, h, fun ds' S1 h1 vs H1 ok1 st1 r1 => by
    have r2 := r1.append (hdd β.Z S1 H1)
    refine ⟨by rw [r2.length]; exact h1.1, β.Z, _, S1, P, _, r2, ok1, h1.2, kq.mono st1, fun C fs S2 q dd kvs H2 ok2 st2 hdd' hk' hr' => ?_⟩
    exact ⟨C, fs, ρ, S2, dd, kvs, rfl, rfl, hdd', hk', hr', sr.step ok2 (st1.trans st2), q⟩⟩
theorem run_makeSD {E : L2.St → XK} {CX : CXT} {sp : Sp} {pins : List (Addr × Obj)} {σ : L2.St} {H : Hp} {s : Shared} {Q : VK} {us : List Value} {vs : List V} (M : Mk X.K C f) (F : FnOk X.prog X.w X.K X.mg X.base CX k f fd ps sp) (hr : Room (k + 1) X.A) (hb : Binds X.K fd ps ds) (hd : Vals dvs ds)
    (hx : PassesAt CX X σ (E σ)) (I : Inv X pins σ H s) (r : Vals vs us)
    (h : ∀ x dx, H x = none → H dx = none → dx ≠ x → sp (.ref x :: (vs ++ dvs)) (upd (upd H dx (.own x)) x (.ins C dx [])) (fun v H2 => v = .non ∧ Q (.ref x) H2) (E σ)) :
    wpAny (model X.prog X.w) X.A (call (.ref C) us) (EP X pins σ Q) X.xe s := by
  have hq := h (s.heap.objs.size + 1) s.heap.objs.size (I.hok.fresh (Nat.le_succ _)) (I.hok.fresh (Nat.le_refl _)) (Nat.ne_of_lt (Nat.lt_succ_self _))
  have I2 := Inv.made (C := C) I
  have r2 : Vals (V.ref (s.heap.objs.size + 1) :: (vs ++ dvs)) (Value.ref (s.heap.objs.size + 1) :: (us ++ ds)) := .cons rfl (r.append hd)
  have hl : (Value.ref (s.heap.objs.size + 1) :: us ++ ds).length = ps.length := by
    have e := r2.length
    rw [F.len _ _ _ _ hq] at e
    exact e.symm
  refine wpAny_call (make_map (f := f) I.kIn M.makes M.init (beq_iff_eq.mp M.fn) (codeAny_mono (F.run _ X.stack _ _ ⟨Value.ref (s.heap.objs.size + 1) :: us, []⟩ (Value.ref (s.heap.objs.size + 1) :: (us ++ ds)) _ _ (E σ) (hr.make C us [])
    (I2.env0.make C us []) (hb _ (Value.ref (s.heap.objs.size + 1) :: us) I2.kIn hl) r2 hq) fun r s' hq' => ?_))
  cases r with
  | error e => exact hx pins _ _ e s' I2 hq'
  | ok fl =>
    cases fl with
    | ret u =>
      obtain ⟨v, H', I3, rv, ev, q3⟩ := I2.after hq'
      subst ev
      exact ⟨rv, ⟨V.ref (s.heap.objs.size + 1), H', I3, rfl, q3⟩⟩
    | next => exact False.elim hq'
    | brk => exact False.elim hq'
    | cont => exact False.elim hq'
def tMakeSD (C : Addr) (sp : Sp) (dvs : List V) (E : L2.St → XK) (t : TA) : TE := fun σ H Q => t σ H fun vs H1 => ∀ x dx, H1 x = none → H1 dx = none → dx ≠ x →
  sp (.ref x :: (vs ++ dvs)) (upd (upd H1 dx (.own x)) x (.ins C dx [])) (fun v H2 => v = .non ∧ Q (.ref x) H2) (E σ)
theorem pe_makeSD {E : L2.St → XK} {CX : CXT} {sp : Sp} {t : TA} (M : Mk X.K C f) (F : FnOk X.prog X.w X.K X.mg X.base CX k f fd ps sp) (hr : Room (k + 1) X.A) (hg : Gl X x) (hm : X.mg x = some (.ref C)) (hb : Binds X.K fd ps ds) (hd : Vals dvs ds) (hx : ∀ σ, PassesAt CX X σ (E σ))
    (ha : PA X (e :: es) t) (hdb : (x == ("__debug__" : Str)) = false := by decide) (he : starEach (e :: es) X.env = (false, eval e X.env) :: starEach es X.env := by rfl) (hpl : (backTo pos (starEach es X.env)).any (·.1) = false := by rfl) :
    PE X (.Call (.Name x p) (e :: es) [] pos) (tMakeSD C sp dvs E t) := by
  refine ⟨fun pins s σ H Q I h => ?_⟩
  refine wpAny_Call_Name_kw (ld_glob I hg hm ?_ hdb)
  refine PySem.W.callWith_K (h₀ := X.base) I.ok.mod.kin M.kp (thn (ha.run pos pins s σ H _ I h) fun us s1 ⟨vs, H1, I1, r, q⟩ => ⟨I1.kIn, ?_⟩) he hpl
  exact run_makeSD M F hr hb hd (hx σ) I1 r q
theorem made_ok {F : PySem.W.Frag} {Z : Addr → Prop} {S : Sto} {H : Hp} {y dy : Addr} (ok : SOk ⟨F, Z⟩ S H) (ny : H y = none) (nd : H dy = none) (ne : dy ≠ y) :
    SOk ⟨F, Z⟩ (put S y (.ins C [])) (upd (upd H dy (.own y)) y (.ins C dy [])) ∧ Step ⟨F, Z⟩ S H (put S y (.ins C [])) (upd (upd H dy (.own y)) y (.ins C dy [])) := by
  have ny' : upd H dy (.own y) y = none := by rw [upd_ne (Ne.symm ne)]; exact ny
  have ok1 := ok.laid (o := .own y) nd
  exact ⟨ok1.made ny' ⟨dy, [], upd_same, rfl, rfl⟩, (Step.laid nd).trans (.made ny')⟩
theorem de_make (M : Mk X.K C f) (F : FnD X.prog X.w X.K X.mg X.base k f fd ps Φ) (hr : Room (k + 1) X.A) (hE : RaisesD X B E) (hg : Gl X x) (hm : X.mg x = some (.ref C)) (hb : Binds X.K fd ps ds) (hd : Vals dvs ds) (hdd : ∀ Z S H, Reps ⟨X.K, Z⟩ S H dvs dds)
    (ha : DA X B (e :: es) ta) (hdb : (x == ("__debug__" : Str)) = false := by decide) (he : starEach (e :: es) X.env = (false, eval e X.env) :: starEach es X.env := by rfl) (hpl : (backTo pos (starEach es X.env)).any (·.1) = false := by rfl) :
    DE X B (.Call (.Name x p) (e :: es) [] pos) (dMake E ps.length C Φ dds ta) := fun β hB =>
  (pe_makeSD M F hr hg hm hb hd (E := WE (wE ⟨X.K, β.Z⟩ β.S0 β.H0 E)) (fun σ => passAt (hE β hB) σ) (ha β hB) hdb he hpl).imp fun σ H Q ⟨ρ, S, P, sr, h, kq⟩ => ⟨ρ, S, _, sr, h, fun ds' S1 h1 vs H1 ok1 st1 r1 y dy ny nd ne => by
    obtain ⟨ok2, st2⟩ := made_ok (C := C) ok1 ny nd ne
    obtain ⟨hl, hΦ⟩ := h1 y (ok1.fresh ny)
    have r2 : Reps ⟨X.K, β.Z⟩ (put S1 y (.ins C [])) (upd (upd H1 dy (.own y)) y (.ins C dy [])) (.ref y :: (vs ++ dvs)) (.ref y :: (ds' ++ dds)) := .cons rfl ((r1.step st2).append (hdd _ _ _))
    refine ⟨by rw [r2.length]; exact hl, β.Z, _, _, _, _, r2, ok2, hΦ, fun d S3 ⟨e1, q⟩ v H3 ok3 st3 r3 => ?_, fun C fs S3 q dd kvs H3 ok3 st3 hdd' hk' hr' => ?_⟩
    · subst e1
      exact ⟨r3, kq _ _ q _ _ ok3 (st1.trans (st2.trans st3)) rfl⟩
    · exact ⟨C, fs, ρ, S3, dd, kvs, rfl, rfl, hdd', hk', hr', sr.step ok3 (st1.trans (st2.trans st3)), q⟩⟩
theorem de_attr (c : Cls X.K C) (hn : NoAttr X.K C fl) (he : DE X B e te) (hb : attributeBase e fl X.env (eval e X.env) = eval e X.env := by rfl) : DE X B (.Attribute e fl pos) (dAttr C fl te) := fun β hB =>
  (pe_fld (he β hB) hb).imp fun σ H Q ⟨ρ, S, P, sr, h, kq⟩ => ⟨ρ, S, _, sr, h, fun d S1 h1 v H1 ok1 st1 r1 => by
    cases d with
    | ref a =>
      obtain ⟨fs, d, hS, hl, q⟩ := h1
      obtain ⟨dx, kvs, hH, hk, rs⟩ := ok1.rep a _ hS
      obtain ⟨v', hv, rv⟩ := look_rep hk rs hl
      exact ⟨a, C, dx, kvs, v', r1, hH, c, hn, hv, kq _ _ q _ _ ok1 st1 rv⟩
    | _ => exact h1.elim⟩
theorem putF_len (f : Str) (v : V) (kvs : List (Str × V)) : (putF f v kvs).length ≤ kvs.length + 1 := length_putF f v kvs
theorem ds_setAttr (c : Cls X.K C) (hn : NoAttr X.K C fl) (ho : DE X B o to) (hv : DE X B value te) (hs : swapsWith value (some (.Attribute o fl pos')) pos.line X.env = pure false := by rfl) : DS X B (.Assign [.Attribute o fl pos'] value pos) (dSetAttr C fl to te) := fun β hB =>
  (ps_fld (ho β hB) (hv β hB) hs).imp fun E σ H ⟨ρ, S, O, sr, h, oq⟩ => ⟨ρ, S, _, sr, h, fun d S1 h1 v H1 ok1 st1 r1 => ⟨ρ, S1, _, sr.step ok1 st1, h1, fun x S2 h2 vx H2 ok2 st2 r2 => by
    cases x with
    | ref a =>
      obtain ⟨fs, hS, hl, q⟩ := h2
      obtain ⟨dx, kvs, hH, hk, rs⟩ := ok2.rep a _ hS
      have st3 : Step ⟨X.K, β.Z⟩ S2 H2 (put S2 a (.ins C (putN fl d fs))) (upd H2 a (.ins C dx (putF fl v kvs))) := .write ok2 hS
      obtain ⟨k1, k2⟩ := putN_rep (f := fl) ((r1.step st2).step st3) hk (rs.step st3)
      have ok3 : SOk ⟨X.K, β.Z⟩ (put S2 a (.ins C (putN fl d fs))) (upd H2 a (.ins C dx (putF fl v kvs))) := ok2.write hS ⟨dx, _, upd_same, k1, k2⟩
      refine ⟨a, C, dx, kvs, r2, hH, c, hn, ?_, oq.nx _ _ q _ _ (((sr.step ok1 st1).step ok2 st2).step ok3 st3) (st1.trans (st2.trans st3))⟩
      have := congrArg List.length hk
      simp only [List.length_map] at this
      rw [this]; exact hl
    | _ => exact h2.elim⟩⟩
theorem look_none {kvs : List (Str × V)} {fs : List (Str × D)} {f : Str} : kvs.map (·.1) = fs.map (·.1) → fs.lookup f = none → kvs.lookup f = none := by
  intro h e
  have : ∀ (l : List (Str × V)) (l' : List (Str × D)), l.map (·.1) = l'.map (·.1) → l'.lookup f = none → l.lookup f = none := by
    intro l
    induction l with
    | nil => intro _ _ _; rfl
    | cons p l ih =>
      intro l' h e
      cases l' with
      | nil => simp at h
      | cons p' l' =>
        obtain ⟨g, x⟩ := p
        obtain ⟨g', x'⟩ := p'
        simp only [List.map_cons, List.cons.injEq] at h
        obtain ⟨rfl, h⟩ := h
        rw [List.lookup_cons] at e ⊢
        cases hb : (f == g) with
        | true => simp [hb] at e
        | false => simp only [hb] at e ⊢; exact ih l' h e
  exact this kvs fs h e
theorem de_meth {pl : Sem Bool} (ho : DE X B o to) (c : Cls X.K C) (hm : Meth X.K C m f) (F : FnD X.prog X.w X.K X.mg X.base k f fd ps Φ) (hr : Room k X.A) (hb : Binds X.K fd ps ds) (hd : Vals dvs ds) (hdd : ∀ Z S H, Reps ⟨X.K, Z⟩ S H dvs dds) (ha : DA X B (e :: es) ta)
    (hst : starEach (e :: es) X.env = (false, eval e X.env) :: starEach es X.env := by rfl) (hpl : (backTo pos (starEach es X.env)).any (·.1) = false := by rfl)
    (ht : eval (.Call (.Attribute o m apos) (e :: es) [] pos) X.env = (do
      let ov ← eval o X.env
      standAt apos.atName
      let (f, first) ← holding [ov] (getMethod ov m pl)
      callWith pos f first (backTo pos (starEach (e :: es) X.env)) (backToKw pos (keywordEach [] X.env))) := by rfl) :
    DE X B (.Call (.Attribute o m apos) (e :: es) [] pos) (dMeth ps.length C m Φ dds to ta) := fun β hB =>
  (pe_meth (pl := pl) (ho β hB) c hm F hr hb hd (E := E0) passL (ha β hB) hst hpl ht).imp fun σ H Q ⟨ρ, S, P, sr, h, kq⟩ => ⟨ρ, S, _, sr, h, fun x S1 h1 vx H1 ok1 st1 r1 => by
    cases x with
    | ref a =>
      obtain ⟨fs, hS, hl, q⟩ := h1
      obtain ⟨dx, kvs, hH, hk, rs⟩ := ok1.rep a _ hS
      refine ⟨a, dx, kvs, r1, hH, look_none hk hl, ρ, S1, _, sr.step ok1 st1, q, fun ds' S2 h2 vs H2 ok2 st2 r2 => ?_⟩
      obtain rfl : vx = .ref a := r1
      have r3 : Reps ⟨X.K, β.Z⟩ S2 H2 (.ref a :: (vs ++ dvs)) (.ref a :: (ds' ++ dds)) := .cons rfl (r2.append (hdd _ _ _))
      exact ⟨by rw [r3.length]; exact h2.1, β.Z, _, S2, P, _, r3, ok2, h2.2, kq.mono (st1.trans st2), fun C fs S3 z => z.elim⟩
    | _ => exact h1.elim⟩
end
end Dl
set_option maxHeartbeats 2000000
/-! Dl8: built-in functions and methods over data. -/
namespace Dl
open PySem PySem.Spec PyProof.Rows L2

def dB (f : RDn) (ta : TDA) : TDE := fun ρ S Q => ta ρ S fun ds S1 => f ds S1 Q
section
variable {X : Cx} {B : Fam} {x : Str} {id T : String} {r : RDn} {e : Expr} {es : List Expr} {ta : TDA} {p pos : Pos}
theorem de_B (hc : CallD X (.builtin id) r) (hg : Gl X x) (hm : X.mg x = none) (hv : bootBuiltins x = some (.builtin id)) (ha : DA X B (e :: es) ta) (hn : x ≠ "__name__" := by decide) (hdb : (x == ("__debug__" : Str)) = false := by decide)
    (he : starEach (e :: es) X.env = (false, eval e X.env) :: starEach es X.env := by rfl) (hpl : (backTo pos (starEach es X.env)).any (·.1) = false := by rfl) : DE X B (.Call (.Name x p) (e :: es) [] pos) (dB r ta) := fun β hB =>
  (pe_callB (hc β.Z) hg hm hv (ha β hB) hn hdb he hpl).imp fun σ H Q ⟨ρ, S, P, sr, h, k⟩ => ⟨ρ, S, _, sr, h, fun ds S1 h1 vs H1 ok st r1 => ⟨ds, S1, P, r1, ok, h1, k.mono st⟩⟩
theorem de_T (hc : CallD X (.type T) r) (hg : Gl X x) (hm : X.mg x = none) (hv : bootBuiltins x = some (.type T)) (ha : DA X B (e :: es) ta) (hn : x ≠ "__name__" := by decide) (hdb : (x == ("__debug__" : Str)) = false := by decide)
    (he : starEach (e :: es) X.env = (false, eval e X.env) :: starEach es X.env := by rfl) (hpl : (backTo pos (starEach es X.env)).any (·.1) = false := by rfl) : DE X B (.Call (.Name x p) (e :: es) [] pos) (dB r ta) := fun β hB =>
  (pe_callTy (hc β.Z) hg hm hv (ha β hB) hn hdb he hpl).imp fun σ H Q ⟨ρ, S, P, sr, h, k⟩ => ⟨ρ, S, _, sr, h, fun ds S1 h1 vs H1 ok st r1 => ⟨ds, S1, P, r1, ok, h1, k.mono st⟩⟩
end
theorem reps1 {K : Fr} {S : Sto} {H : Hp} {vs : List V} {d : D} (r : Reps K S H vs [d]) : ∃ v, vs = [v] ∧ Rep K S H v d := by
  obtain ⟨v, _, rfl, r1, r2⟩ := r
  obtain rfl := r2
  exact ⟨v, rfl, r1⟩
theorem reps2 {K : Fr} {S : Sto} {H : Hp} {vs : List V} {d e : D} (r : Reps K S H vs [d, e]) : ∃ v w, vs = [v, w] ∧ Rep K S H v d ∧ Rep K S H w e := by
  obtain ⟨v, _, rfl, r1, w, _, rfl, r2, r3⟩ := r
  obtain rfl := r3
  exact ⟨v, w, rfl, r1, r2⟩
/-- one argument -/
def one (f : RD1) : RDn := fun ds S Q => match ds with
  | [d] => f d S Q
  | _ => False
def two (f : RD2) : RDn := fun ds S Q => match ds with
  | [d, e] => f d e S Q
  | _ => False
section
variable {X : Cx}
theorem call_one {f : Value} {r : RD1} (h : ∀ Z (pins : List (Addr × Obj)) (s : Shared) (σ : L2.St) (H : Hp) (v : V) (us : List Value) (Q : VK) (d : D) (S : Sto) (P : D → Sto → Prop), Inv X pins σ H s → Vals [v] us → Rep ⟨X.K, Z⟩ S H v d → SOk ⟨X.K, Z⟩ S H → r d S P → Ret ⟨X.K, Z⟩ S H P Q →
    wpAny (model X.prog X.w) X.A (call f us) (EP X pins σ Q) X.xe s) : CallD X f (one r) := by
  intro Z pins s σ H xs us Q I rx ⟨ds, S, P, rs, ok, h1, k⟩
  match ds, h1, rs with
  | [d], h1, rs =>
    obtain ⟨v, rfl, rv⟩ := reps1 rs
    exact h Z pins s σ H v us Q d S P I rx rv ok h1 k
theorem call_two {f : Value} {r : RD2} (h : ∀ Z (pins : List (Addr × Obj)) (s : Shared) (σ : L2.St) (H : Hp) (v w : V) (us : List Value) (Q : VK) (d e : D) (S : Sto) (P : D → Sto → Prop), Inv X pins σ H s → Vals [v, w] us → Rep ⟨X.K, Z⟩ S H v d → Rep ⟨X.K, Z⟩ S H w e → SOk ⟨X.K, Z⟩ S H → r d e S P → Ret ⟨X.K, Z⟩ S H P Q →
    wpAny (model X.prog X.w) X.A (call f us) (EP X pins σ Q) X.xe s) : CallD X f (two r) := by
  intro Z pins s σ H xs us Q I rx ⟨ds, S, P, rs, ok, h1, k⟩
  match ds, h1, rs with
  | [d, e], h1, rs =>
    obtain ⟨v, w, rfl, rv, rw_⟩ := reps2 rs
    exact h Z pins s σ H v w us Q d e S P I rx rv rw_ ok h1 k
end

/-! ### len, tuple, list, all, any, abs, int, str, min, max -/
def lenR : RD1 := fun d S Q => match d with
  | .str z => z.length ≤ sizeLine ∧ Q (.int z.length) S
  | d => ∃ xs, sqD S d = some xs ∧ Q (.int xs.length) S
def tupleR : RD1 := fun d S Q => ∃ xs, sqD S d = some xs ∧ Q (.tup xs) S
def listR (m : Bool) : RD1 := fun d S Q => ∃ xs, sqD S d = some xs ∧ newL m xs S Q
def bools : List D → Option (List Bool)
  | [] => some []
  | .bl b :: r => (bools r).map (b :: ·)
  | _ :: _ => none
theorem bools_eq : ∀ {xs : List D} {bs : List Bool}, bools xs = some bs → xs = bs.map .bl
  | [], _, h => by cases h; rfl
  | .bl b :: r, bs, h => by
    simp only [bools, Option.map_eq_some_iff] at h
    obtain ⟨cs, h, rfl⟩ := h
    rw [bools_eq h]; rfl
  | .non :: _, _, h | .int _ :: _, _, h | .str _ :: _, _, h | .ty _ :: _, _, h | .ref _ :: _, _, h | .tup _ :: _, _, h | .scr _ :: _, _, h | .lst _ :: _, _, h | .dic _ _ :: _, _, h => by cases h
theorem bools_map : ∀ bs : List Bool, bools (bs.map .bl) = some bs
  | [] => rfl
  | b :: bs => by simp [bools, bools_map bs]
def allR : RD1 := fun d S Q => ∃ xs bs, lsD S d = some xs ∧ bools xs = some bs ∧ Q (.bl (bs.all id)) S
def anyR : RD1 := fun d S Q => ∃ xs bs, lsD S d = some xs ∧ bools xs = some bs ∧ Q (.bl (bs.any id)) S
def intsD : List D → Option (List Int)
  | [] => some []
  | .int b :: r => (intsD r).map (b :: ·)
  | _ :: _ => none
theorem intsD_eq : ∀ {xs : List D} {bs : List Int}, intsD xs = some bs → xs = bs.map .int
  | [], _, h => by cases h; rfl
  | .int b :: r, bs, h => by
    simp only [intsD, Option.map_eq_some_iff] at h
    obtain ⟨cs, h, rfl⟩ := h
    rw [intsD_eq h]; rfl
  | .non :: _, _, h | .bl _ :: _, _, h | .str _ :: _, _, h | .ty _ :: _, _, h | .ref _ :: _, _, h | .tup _ :: _, _, h | .scr _ :: _, _, h | .lst _ :: _, _, h | .dic _ _ :: _, _, h => by cases h
theorem intsD_map : ∀ bs : List Int, intsD (bs.map .int) = some bs
  | [] => rfl
  | b :: bs => by simp [intsD, intsD_map bs]
def sumR : RD1 := fun d S Q => ∃ xs ns, lsD S d = some xs ∧ intsD xs = some ns ∧ Q (.int ns.sum) S
def maxR : RD1 := fun d S Q => ∃ xs ns, lsD S d = some xs ∧ intsD xs = some ns ∧ 0 < ns.length ∧ ∀ m, m ∈ ns → (∀ y, y ∈ ns → y ≤ m) → Q (.int m) S
def minR : RD1 := fun d S Q => ∃ xs ns, lsD S d = some xs ∧ intsD xs = some ns ∧ 0 < ns.length ∧ ∀ m, m ∈ ns → (∀ y, y ∈ ns → m ≤ y) → Q (.int m) S
def absR : RD1 := fun d S Q => match d with
  | .int i => Q (.int (if i < 0 then -i else i)) S
  | _ => False
def intR : RD1 := fun d S Q => match d with
  | .int i => Q (.int i) S
  | .bl k => Q (.int (if k then 1 else 0)) S
  | _ => False
def strR : RD1 := fun d S Q => match d with
  | .int i => i.natAbs.log2 < 1920 ∧ Q (.str (toString i)) S
  | _ => False
def max2R : RD2 := fun d e S Q => match d, e with
  | .int i, .int j => Q (.int (if j > i then j else i)) S
  | _, _ => False
def min2R : RD2 := fun d e S Q => match d, e with
  | .int i, .int j => Q (.int (if j < i then j else i)) S
  | _, _ => False
section
variable {X : Cx}
theorem cd_len : CallD X (.builtin "len") (one lenR) := call_one fun Z pins s σ H v us Q d S P I rx rv ok h k => by
  have seq : (∃ xs, sqD S d = some xs ∧ P (.int xs.length) S) → wpAny (model X.prog X.w) X.A (call (.builtin "len") us) (EP X pins σ Q) X.xe s := by
    rintro ⟨xs, hx, p⟩
    obtain ⟨a, vs, rfl, hq, rs⟩ := sqD_at ok rv hx
    exact call_len_seq pins s σ H _ us Q I rx ⟨a, vs, rfl, hq, by rw [rs.length]; exact k _ _ p _ _ ok .refl rfl⟩
  cases d with
  | str z => exact call_len_str pins s σ H _ us Q I rx ⟨z, by rw [show v = _ from rv], h.1, k _ _ h.2 _ _ ok .refl rfl⟩
  | _ => exact seq h
theorem cd_tuple : CallD X (.type "tuple") (one tupleR) := call_one fun Z pins s σ H v us Q d S P I rx rv ok h k => by
  obtain ⟨xs, hx, p⟩ := h
  obtain ⟨a, vs, rfl, hq, rs⟩ := sqD_at ok rv hx
  refine call_tuple_of pins s σ H _ us Q I rx ⟨a, vs, rfl, ?_⟩
  rcases hq with hq | hq
  · exact .inl ⟨hq, fun l n => newT_ok k ok .refl rs p n⟩
  · exact .inr ⟨hq, k _ _ p _ _ ok .refl ⟨a, vs, rfl, hq, rs⟩⟩
theorem cd_list {m : Bool} : CallD X (.type "list") (one (listR m)) := call_one fun Z pins s σ H v us Q d S P I rx rv ok h k => by
  obtain ⟨xs, hx, p⟩ := h
  obtain ⟨a, vs, rfl, hq, rs⟩ := sqD_at ok rv hx
  exact call_list_of pins s σ H _ us Q I rx ⟨a, vs, rfl, hq, fun l n => newL_ok k ok .refl rs p n⟩
theorem cd_all (hc : X.calm = true) : CallD X (.builtin "all") (one allR) := call_one fun Z pins s σ H v us Q d S P I rx rv ok h k => by
  obtain ⟨xs, bs, hx, hb, p⟩ := h
  obtain ⟨a, vs, rfl, hq, rs⟩ := lsD_at ok rv hx
  rw [bools_eq hb] at rs
  rw [rs.bls_inv] at hq
  exact cr_all hc pins s σ H _ us Q I rx ⟨a, bs, rfl, .of hq, k _ _ p _ _ ok .refl rfl⟩
theorem cd_any (hc : X.calm = true) : CallD X (.builtin "any") (one anyR) := call_one fun Z pins s σ H v us Q d S P I rx rv ok h k => by
  obtain ⟨xs, bs, hx, hb, p⟩ := h
  obtain ⟨a, vs, rfl, hq, rs⟩ := lsD_at ok rv hx
  rw [bools_eq hb] at rs
  rw [rs.bls_inv] at hq
  exact cr_any hc pins s σ H _ us Q I rx ⟨a, bs, rfl, .of hq, k _ _ p _ _ ok .refl rfl⟩
theorem cd_sum (hc : X.calm = true) : CallD X (.builtin "sum") (one sumR) := call_one fun Z pins s σ H v us Q d S P I rx rv ok h k => by
  obtain ⟨xs, bs, hx, hb, p⟩ := h
  obtain ⟨a, vs, rfl, hq, rs⟩ := lsD_at ok rv hx
  rw [intsD_eq hb] at rs
  rw [rs.ints_inv] at hq
  exact cr_sum hc pins s σ H _ us Q I rx ⟨a, bs, rfl, .of hq, k _ _ p _ _ ok .refl rfl⟩
theorem cd_max (hc : X.calm = true) : CallD X (.builtin "max") (one maxR) := call_one fun Z pins s σ H v us Q d S P I rx rv ok h k => by
  obtain ⟨xs, bs, hx, hb, hl, p⟩ := h
  obtain ⟨a, vs, rfl, hq, rs⟩ := lsD_at ok rv hx
  rw [intsD_eq hb] at rs
  rw [rs.ints_inv] at hq
  exact cr_max hc pins s σ H _ us Q I rx ⟨a, bs, rfl, .of hq, hl, fun m h1 h2 => k _ _ (p m h1 h2) _ _ ok .refl rfl⟩
theorem cd_min (hc : X.calm = true) : CallD X (.builtin "min") (one minR) := call_one fun Z pins s σ H v us Q d S P I rx rv ok h k => by
  obtain ⟨xs, bs, hx, hb, hl, p⟩ := h
  obtain ⟨a, vs, rfl, hq, rs⟩ := lsD_at ok rv hx
  rw [intsD_eq hb] at rs
  rw [rs.ints_inv] at hq
  exact cr_min hc pins s σ H _ us Q I rx ⟨a, bs, rfl, .of hq, hl, fun m h1 h2 => k _ _ (p m h1 h2) _ _ ok .refl rfl⟩
theorem cd_abs : CallD X (.builtin "abs") (one absR) := call_one fun Z pins s σ H v us Q d S P I rx rv ok h k => by
  cases d <;> first
    | exact h.elim
    | exact call_abs pins s σ H _ us Q I rx ⟨_, by rw [show v = _ from rv], k _ _ h _ _ ok .refl rfl⟩
theorem cd_int : CallD X (.type "int") (one intR) := call_one fun Z pins s σ H v us Q d S P I rx rv ok h k => by
  cases d <;> first
    | exact h.elim
    | exact call_int1 pins s σ H _ us Q I rx (.inr ⟨_, congrArg (fun z => [z]) (show v = .bl _ from rv), k _ _ h _ _ ok .refl rfl⟩)
    | exact call_int1 pins s σ H _ us Q I rx (.inl ⟨_, congrArg (fun z => [z]) (show v = .int _ from rv), k _ _ h _ _ ok .refl rfl⟩)
theorem cd_str : CallD X (.type "str") (one strR) := call_one fun Z pins s σ H v us Q d S P I rx rv ok h k => by
  cases d <;> first
    | exact h.elim
    | exact call_str_int pins s σ H _ us Q I rx ⟨_, by rw [show v = _ from rv], h.1, k _ _ h.2 _ _ ok .refl rfl⟩
theorem cd_max2 (hc : X.calm = true) : CallD X (.builtin "max") (two max2R) := call_two fun Z pins s σ H v w us Q d e S P I rx rv rw_ ok h k => by
  cases d <;> cases e <;> first
    | exact h.elim
    | exact call_max2 hc pins s σ H _ us Q I rx ⟨_, _, by rw [show v = _ from rv, show w = _ from rw_], k _ _ h _ _ ok .refl rfl⟩
theorem cd_min2 (hc : X.calm = true) : CallD X (.builtin "min") (two min2R) := call_two fun Z pins s σ H v w us Q d e S P I rx rv rw_ ok h k => by
  cases d <;> cases e <;> first
    | exact h.elim
    | exact call_min2 hc pins s σ H _ us Q I rx ⟨_, _, by rw [show v = _ from rv, show w = _ from rw_], k _ _ h _ _ ok .refl rfl⟩
end

/-! ### methods of lists that change -/
abbrev RM := D → List D → Sto → (D → Sto → Prop) → Prop
def liftM (K : Fr) (f : RM) : V → List V → Hp → VK → Prop := fun x xs H Q => ∃ d ds S P, Rep K S H x d ∧ Reps K S H xs ds ∧ SOk K S H ∧ f d ds S P ∧ Ret K S H P Q
def MtD (X : Cx) (id : String) (f : RM) : Prop := ∀ Z, MtR X id (liftM ⟨X.K, Z⟩ f)
/-- a list at the method's head -/
def isLs (S : Sto) (d : D) : Prop := ∃ xs, lsD S d = some xs
def tyD (T : String) (S : Sto) (d : D) : Prop := (T = "list" ∧ isLs S d) ∨ (T = "str" ∧ ∃ z, d = .str z)
def dBM (T : String) (f : RM) (to : TDE) (ta : TDA) : TDE := fun ρ S Q => to ρ S fun x S1 => tyD T S1 x ∧ ta ρ S1 fun ds S2 => f x ds S2 Q
def dBM0 (T : String) (f : RM) (to : TDE) : TDE := fun ρ S Q => to ρ S fun x S1 => tyD T S1 x ∧ f x [] S1 Q
def refLs (d : D) (S : Sto) (P : Addr → List D → Prop) : Prop := match d with
  | .ref a => ∃ xs, S a = some (.lst xs) ∧ P a xs
  | _ => False
def appendR : RM := fun x ds S Q => match ds with
  | [d] => refLs x S fun a xs => xs.length < sizeLine ∧ Q .non (put S a (.lst (xs ++ [d])))
  | _ => False
def extendR : RM := fun x ds S Q => match ds with
  | [d] => refLs x S fun a xs => ∃ ys, lsD S d = some ys ∧ xs.length + ys.length ≤ sizeLine ∧ Q .non (put S a (.lst (xs ++ ys)))
  | _ => False
def popAtR : RM := fun x ds S Q => match ds with
  | [.int i] => refLs x S fun a xs => -(2 ^ 63) ≤ i ∧ i < 2 ^ 63 ∧ ∃ k d, seqIndex? i xs.length = some k ∧ xs[k]? = some d ∧ Q d (put S a (.lst (xs.eraseIdx k)))
  | _ => False
def popR : RM := fun x ds S Q => match ds with
  | [] => refLs x S fun a xs => ∃ d, xs[xs.length - 1]? = some d ∧ Q d (put S a (.lst xs.dropLast))
  | _ => False
theorem tyL {K : Fr} {S : Sto} {H : Hp} {v : V} {d : D} (ok : SOk K S H) (r : Rep K S H v d) (h : isLs S d) : tyV K.K "list" v H := by
  obtain ⟨xs, hx⟩ := h
  obtain ⟨a, vs, rfl, hq, rs⟩ := lsD_at ok r hx
  exact .inl ⟨rfl, _, .of hq⟩
theorem tyD_ok {T : String} {K : Fr} {S : Sto} {H : Hp} {v : V} {d : D} (ok : SOk K S H) (r : Rep K S H v d) (h : tyD T S d) : tyV K.K T v H := by
  rcases h with ⟨rfl, h⟩ | ⟨rfl, z, rfl⟩
  · exact tyL ok r h
  · rw [show v = _ from r]
    exact rfl
theorem Reps.dropLast {K : Fr} {S : Sto} {H : Hp} {vs : List V} {ds : List D} (r : Reps K S H vs ds) : Reps K S H vs.dropLast ds.dropLast := by
  rw [List.dropLast_eq_take, List.dropLast_eq_take, r.length]
  exact r.take _
section
variable {X : Cx} {B : Fam} {name : Str} {id : String} {f : RM} {o e : Expr} {es : List Expr} {to : TDE} {ta : TDA} {p apos pos : Pos}
theorem wr_ok {K : Fr} {S : Sto} {H : Hp} {P : D → Sto → Prop} {Q : VK} {a : Addr} {xs ys : List D} {us : List V} {v : V} {d : D} (k : Ret K S H P Q) (ok : SOk K S H) (e : S a = some (.lst xs)) (ry : Reps K S H us ys) (rd : Rep K S H v d) (h : P d (put S a (.lst ys))) : Q v (upd H a (.lst us)) := by
  have st : Step K S H (put S a (.lst ys)) (upd H a (.lst us)) := .write ok e
  exact k _ _ h _ _ (ok.write e ⟨us, upd_same, ry.step st⟩) st (rd.step st)
theorem md_append : MtD X "list.append" appendR := by
  intro Z pins s σ H x xs v us Q I rx rxs ⟨d, ds, S, P, r1, r2, ok, h, k⟩
  match ds, h, r2 with
  | [e], h, r2 =>
    obtain ⟨ve, rfl, re⟩ := reps1 r2
    cases d with
    | ref a =>
      obtain ⟨ys, hS, hl, q⟩ := h
      obtain ⟨vs, hH, rs⟩ := ok.rep a _ hS
      exact mt_append pins s σ H x _ v us Q I rx rxs ⟨a, vs, ve, r1, rfl, hH, by rw [rs.length]; exact hl, wr_ok (v := .non) (d := .non) k ok hS (rs.snoc re) rfl q⟩
    | _ => exact h.elim
theorem md_extend : MtD X "list.extend" extendR := by
  intro Z pins s σ H x xs v us Q I rx rxs ⟨d, ds, S, P, r1, r2, ok, h, k⟩
  match ds, h, r2 with
  | [e], h, r2 =>
    obtain ⟨ve, rfl, re⟩ := reps1 r2
    cases d with
    | ref a =>
      obtain ⟨ys, hS, zs, hz, hl, q⟩ := h
      obtain ⟨vs, hH, rs⟩ := ok.rep a _ hS
      obtain ⟨b, ws, rfl, hq, rz⟩ := lsD_at ok re hz
      exact mt_extend pins s σ H x _ v us Q I rx rxs ⟨a, b, vs, ws, r1, rfl, hH, hq, by rw [rs.length, rz.length]; exact hl, wr_ok (v := .non) (d := .non) k ok hS (rs.append rz) rfl q⟩
    | _ => exact h.elim
theorem md_popAt : MtD X "list.pop" popAtR := by
  intro Z pins s σ H x xs v us Q I rx rxs ⟨d, ds, S, P, r1, r2, ok, h, k⟩
  unfold popAtR at h
  split at h
  · rename_i i
    obtain ⟨ve, rfl, re⟩ := reps1 r2
    cases d with
    | ref a =>
      obtain ⟨ys, hS, h1, h2, j, d, hj, hd, q⟩ := h
      obtain ⟨vs, hH, rs⟩ := ok.rep a _ hS
      obtain ⟨w, hw, rw_⟩ := rs.get hd
      exact mt_popAt pins s σ H x _ v us Q I rx rxs ⟨a, vs, i, j, w, r1, by rw [show ve = _ from re], hH, h1, h2, by rw [rs.length]; exact hj, hw, wr_ok k ok hS (rs.eraseIdx j) rw_ q⟩
    | _ => exact h.elim
  · exact h.elim
theorem md_pop : MtD X "list.pop" popR := by
  intro Z pins s σ H x xs v us Q I rx rxs ⟨d, ds, S, P, r1, r2, ok, h, k⟩
  match ds, h, r2 with
  | [], h, r2 =>
    obtain rfl := r2
    cases d with
    | ref a =>
      obtain ⟨ys, hS, d, hd, q⟩ := h
      obtain ⟨vs, hH, rs⟩ := ok.rep a _ hS
      obtain ⟨w, hw, rw_⟩ := rs.get hd
      exact mt_pop pins s σ H x _ v us Q I rx rxs ⟨a, vs, w, r1, rfl, hH, by rw [rs.length]; exact hw, wr_ok k ok hS rs.dropLast rw_ q⟩
    | _ => exact h.elim
theorem de_bm {T : String} (pa : PlainAttrs T) (slot : Slot T name id) (hty : typeOf (.builtin id) = pure (.type "method_descriptor")) (hm : MtD X id f) (ho : DE X B o to) (ha : DA X B (e :: es) ta)
    (hbase : attributeBase o name X.env (eval o X.env) = eval o X.env := by rfl)
    (hfew : ((backTo pos (starEach (e :: es) X.env)).all (fun x => !x.1) && (backToKw pos (keywordEach [] X.env)).all (fun x => x.1.isSome)
      && decide ((e :: es).length + ([] : List Keyword).length + (if ([] : List Keyword).isEmpty then 0 else 1) < 30)) = true := by rfl)
    (hline : (apos.endLine == pos.line) = true := by rfl) (hs : starEach (e :: es) X.env = (false, eval e X.env) :: starEach es X.env := by rfl) (hplain : (backTo pos (starEach es X.env)).any (·.1) = false := by rfl) :
    DE X B (.Call (.Attribute o name apos) (e :: es) [] pos) (dBM T f to ta) := fun β hB =>
  (pe_bm pa slot hty (hm β.Z) (ho β hB) (ha β hB) hbase hfew hline hs hplain).imp fun σ H Q ⟨ρ, S, P, sr, h, k⟩ => ⟨ρ, S, _, sr, h, fun x S1 h1 v H1 ok1 st1 r1 =>
    ⟨tyD_ok ok1 r1 h1.1, ρ, S1, _, sr.step ok1 st1, h1.2, fun ds S2 h2 vs H2 ok2 st2 r2 => ⟨x, ds, S2, P, r1.step st2, r2, ok2, h2, k.mono (st1.trans st2)⟩⟩⟩
theorem de_bm0 {T : String} (pa : PlainAttrs T) (slot : Slot T name id) (hty : typeOf (.builtin id) = pure (.type "method_descriptor")) (hm : MtD X id f) (ho : DE X B o to)
    (hbase : attributeBase o name X.env (eval o X.env) = eval o X.env := by rfl) (hline : (apos.endLine == pos.line) = true := by rfl) : DE X B (.Call (.Attribute o name apos) [] [] pos) (dBM0 T f to) := fun β hB =>
  (pe_bm0 pa slot hty (hm β.Z) (ho β hB) hbase hline).imp fun σ H Q ⟨ρ, S, P, sr, h, k⟩ => ⟨ρ, S, _, sr, h, fun x S1 h1 v H1 ok1 st1 r1 =>
    ⟨tyD_ok ok1 r1 h1.1, x, [], S1, P, r1, rfl, ok1, h1.2, k.mono st1⟩⟩
end

/-! ### a list's item stored -/
def dSetIx (to ti te : TDE) : TDS := fun O ρ S => te ρ S fun d S1 => to ρ S1 fun x S2 => ti ρ S2 fun i S3 => match i with
  | .int k => refLs x S3 fun a xs => ∃ j, ixN xs.length k = some j ∧ O.nx ρ (put S3 a (.lst (xs.set j d)))
  | _ => False
section
variable {X : Cx} {B : Fam} {o i value : Expr} {to ti te : TDE} {pos pos' : Pos}
theorem ds_setIx (ho : DE X B o to) (hi : DE X B i ti) (hv : DE X B value te) (hs : swapsWithSole [.Subscript o i pos'] value pos.line X.env = pure false := by rfl) (hw : swappedStores [.Subscript o i pos'] value X.env = pure none := by rfl)
    (h1 : (assignEach [.Subscript o i pos'] X.env).map (·.2) = [assign (.Subscript o i pos') X.env] := by rfl)
    (ha : ∀ v, assign (.Subscript o i pos') X.env v = (do
      let ov ← holding [v] (eval o X.env)
      let iv ← holding [v, ov] (eval i X.env)
      standAt pos'
      holding [v, ov, iv] (setItem ov iv v)
      release [v, ov, iv] []) := by intro _; rfl) : DS X B (.Assign [.Subscript o i pos'] value pos) (dSetIx to ti te) := fun β hB =>
  (ps_asg (hv β hB) (pg_sub (ho β hB) (hi β hB) set_list ha) hs hw h1).imp fun E σ H ⟨ρ, S, O, sr, h, oq⟩ => ⟨ρ, S, _, sr, h, fun d S1 h1 v H1 ok1 st1 r1 => ⟨ρ, S1, _, sr.step ok1 st1, h1, fun x S2 h2 vx H2 ok2 st2 r2 =>
    ⟨ρ, S2, _, (sr.step ok1 st1).step ok2 st2, h2, fun ix S3 h3 vi H3 ok3 st3 r3 => by
      cases ix with
      | int kk =>
        cases x with
        | ref a =>
          obtain ⟨xs, hS, j, hj, q⟩ := h3
          obtain ⟨vs, hH, rs⟩ := ok3.rep a _ hS
          have st4 : Step ⟨X.K, β.Z⟩ S3 H3 (put S3 a (.lst (xs.set j d))) (upd H3 a (.lst (vs.set j v))) := .write ok3 hS
          have rd := (r1.step st2).step st3
          have ok4 : SOk ⟨X.K, β.Z⟩ (put S3 a (.lst (xs.set j d))) (upd H3 a (.lst (vs.set j v))) := ok3.write hS ⟨_, upd_same, (rs.set j rd).step st4⟩
          exact ⟨a, vs, kk, j, r2, r3, hH, by rw [rs.length]; exact hj, oq.nx _ _ q _ _ ((((sr.step ok1 st1).step ok2 st2).step ok3 st3).step ok4 st4) (st1.trans (st2.trans (st3.trans st4)))⟩
        | _ => exact h3.elim
      | _ => exact h3.elim⟩⟩⟩
end
end Dl
/-! Dl9: own exceptions whose __init__ says super().__init__(..) first. -/
namespace Dl
open PySem PySem.Spec PyProof.Rows L2 NdefX LamX

/-- the __init__ of an own exception class over ValueError: what the written part says -/
structure SupF (P : Program) (K : PySem.W.Frag) (mg : Str → Option Value) (C fI cc cda : Addr) (fd : FuncData) (qual : Str) (st : Stmt) : Prop where
  oex : OexC K C
  lk : ∃ (oc : Value) (od : Option Addr) (kV doc pm : Value) (an : Option Addr) (ct : Value) (osl : Array (Option Value)),
    fd = PySem.W.fnX "__init__" qual (defArgs st) (defBody st) (defScope st) [("__class__", cc)] .none kV doc pm an (.ref cda) ct ∧ K.lookup fI = some ⟨oc, od, .func fd, osl⟩
  code : PySem.W.codeIn K (.ref cda) qual = true
  file : ∃ (ccl : Value) (cdd : Option Addr) (vs : Array Value) (ccs : Array (Option Value)) (file : Str) (tf : Tok), K.lookup cda = some ⟨ccl, cdd, .fields vs, ccs⟩ ∧ vs[2]? = some (.str file tf) ∧ ((P.main.file : Str) == file) = true
  cell : ∃ (cl : Value) (cld : Option Addr) (csl : Array (Option Value)), K.lookup cc = some ⟨cl, cld, .cell (some (.ref C)), csl⟩
  cls : ∃ cd, PySem.W.clsIn K C = some cd
  sub : PySem.W.mroIn K C (.ref C) = some true
  sup : PySem.W.ks_superIn K C C "__init__" = some (some (.builtin "ValueError.__init__"))
  ve : PySem.W.subIn K (.ref C) (.type "ValueError") = some true
  opq : PySem.W.nsIn K PySem.cStatics "thirdparty.any" = some none
  mgS : mg "super" = none
  top : (P.main.scope.names.lookup ("super" : Str)).isSome = false
  sc : (defScope st).names.lookup ("super" : Str) = some .globalImplicit

section
variable {P : Program} {w : World} {K : PySem.W.Frag} {mg : Str → Option Value} {base : Heap} {CX : CXT} {N : List Str} {C fI cc cda : Addr} {fd : FuncData} {qual : Str} {st : Stmt}
abbrev supNF (qual : Str) (st : Stmt) (cc cda : Addr) : NF := ⟨"__init__", qual, defArgs st, defBody st, defScope st, [("__class__", cc)], cda⟩

theorem call_bwV {X : Cx} {pins : List (Addr × Obj)} {σ : L2.St} {H : Hp} {s : Shared} {u e : Addr} {us : List Value} {Q : Value → Shared → Prop} (T : OexC X.K C) (I : Inv X pins σ H s) (e0 : H e = some (exo e C none)) (hu : s.heap.get? u = some (PySem.W.kxs_mw "ValueError.__init__" e)) (hl : us.length ≤ sizeLine)
    (h : ∀ s', Inv X pins σ H s' → Q .none s') : wpAny (model X.prog X.w) X.A (call (.ref u) us) Q X.xe s := by
  obtain ⟨nm, q, N, bs, bm, sn, sub, ab, col, dd, k0, k1, k2, k3, k5, hC, hbm⟩ := T.cls
  obtain ⟨t1, ho⟩ := exo_at I.hok e0
  obtain ⟨hp, g, d, t, os⟩ := s
  refine wpAny_call (codeAny_of_tree ?_)
  show wpAny _ X.A.in1 (callAny (.ref u) ⟨us, []⟩) _ _ _
  simp only [callAny]
  refine wpAny_bind (wpAny_load hu ?_)
  simp only [PySem.W.kxs_mw, show (Value.type "method-wrapper" == Value.type "method" || Value.type "method-wrapper" == Value.type "builtin_function_or_method" || Value.type "method-wrapper" == Value.type "method-wrapper") = true by decide, if_true]
  refine PySem.W.KFB.if_so (by decide) ?_
  refine wpAny_bind (PySem.W.check_bound_init PySem.F.excBase_ValueError.toExcCallFacts (I.kIn _ _ hC) ho rfl ?_)
  refine wpAny_bind (wpAny_pure (wpAny_pure ?_))
  refine ⟨PySem.plainId_quiet PySem.F.excBase_ValueError.init.plain _, codeAny_builtin PySem.F.excBase_ValueError.initEntry ?_⟩
  rw [Around.under_plainId PySem.F.excBase_ValueError.init.plain _]
  refine PySem.W.exc_init_tree (cls := .ref C) (t0 := t1) (dv := none) (c2 := .none) (c3 := .none) (b4 := .bool false) ho hl fun h' k hx ht => ?_
  have J := I.write (t' := t) (x := e) (e := e) (o := exo e C none) (by rw [e0]; exact True.intro) (.inl rfl) k ⟨_, hx⟩ (exo_ok hx)
  have eu : upd H e (exo e C none) = H := by
    funext b
    by_cases hb : b = e
    · rw [hb, upd_same, e0]
    · rw [upd_ne hb]
  rw [eu] at J
  exact h _ J

/-- super().__init__(..), the body's first statement -/
theorem sup_stmt {k : Nat} {A : Around} {outer : List Env} {s s1 : Shared} {H : Hp} {E : XK} {σ : L2.St} {e : Addr} {as : List Expr} {a0 : Expr} {ta : TA} {p0 p1 p2 p3 p4 : Pos} {arg0 : Arg} {rest0 : List Arg}
    (F : SupF P K mg C fI cc cda fd qual st) (hpar : (defArgs st).posonlyargs ++ (defArgs st).args = arg0 :: rest0) (hself : arg0.arg = "self") (hN : N[0]? = some ("self" : Str)) (hkd : (defScope st).kind = .function) (hkS : (defScope st).names.lookup ("self" : Str) = some .local) (hkc : (defScope st).names.lookup ("__class__" : Str) = some .free)
    (I : Inv (ncx CX P w K mg base N (supNF qual st cc cda) fI A outer s H E) [] σ H s1) (hs : σ[0]? = some (some (.ref e))) (he : H e = some (exo e C none))
    (ha : PA (ncx CX P w K mg base N (supNF qual st cc cda) fI A outer s H E) (a0 :: as) ta)
    (hta : ta σ H fun vs H1 => H1 = H ∧ vs.length ≤ 1000)
    (hev : ∀ env : Env, swapsWith (.Call (.Attribute (.Call (.Name "super" p0) [] [] p1) "__init__" p2) (a0 :: as) [] p3) none p4.line env = pure false) {pl : Env → Sem Bool}
    (hcall : ∀ env : Env, eval (.Call (.Attribute (.Call (.Name "super" p0) [] [] p1) "__init__" p2) (a0 :: as) [] p3) env = (do
      let ov ← attributeBase (.Call (.Name "super" p0) [] [] p1) "__init__" env (eval (.Call (.Name "super" p0) [] [] p1) env)
      standAt p2.atName
      let (f, first) ← holding [ov] (getMethod ov "__init__" (pl env))
      callWith p3 f first (backTo p3 (starEach (a0 :: as) env)) []))
    (hst : ∀ env : Env, starEach (a0 :: as) env = (false, eval a0 env) :: starEach as env) (hpl : ∀ env : Env, (backTo p3 (starEach as env)).any (·.1) = false) :
    _root_.PySem.wpAt (model P w) (ncx CX P w K mg base N (supNF qual st cc cda) fI A outer s H E).A (.func (defBody st) (envF (supNF qual st cc cda) fI s.heap.objs.size)) (exec (.Expr (.Call (.Attribute (.Call (.Name "super" p0) [] [] p1) "__init__" p2) (a0 :: as) [] p3) p4) (envF (supNF qual st cc cda) fI s.heap.objs.size))
      (fun fl s' => fl = .next ∧ Inv (ncx CX P w K mg base N (supNF qual st cc cda) fI A outer s H E) [] σ H s') (ncx CX P w K mg base N (supNF qual st cc cda) fI A outer s H E).xe s1 := by
  obtain ⟨oc, od, kV, doc, pm, an, ct, osl, efd, lk⟩ := F.lk
  obtain ⟨ccl, cdd, vs0, ccs, file, tf, lcd, hvs, hfile⟩ := F.file
  obtain ⟨cl, cld, csl, lcc⟩ := F.cell
  obtain ⟨cd, hcd⟩ := F.cls
  have KX : K.In s1.heap := I.kIn
  obtain ⟨oD, hD1, hD2⟩ : ∃ oD, s1.heap.get? C = some oD ∧ oD.data = .cls cd := by
    unfold PySem.W.clsIn at hcd
    split at hcd
    · rename_i c d cd' sl ho
      cases hcd
      exact ⟨_, KX _ _ ho, rfl⟩
    · cases hcd
  obtain ⟨t1, ho⟩ := exo_at I.hok he
  obtain ⟨m, hns, hloc⟩ := I.loc
  obtain ⟨us, rus, hlook⟩ := hloc 0 "self" (.ref e) hN hs (.inl hkS)
  obtain rfl : us = Value.ref e := rus
  have hm : m "self" = some (.ref e) := by
    rcases hlook with ⟨_, z⟩ | ⟨z, _⟩
    · exact z
    · have z' : (defScope st).names.lookup ("self" : Str) = some .cell ∨ (defScope st).names.lookup ("self" : Str) = some .free := z
      rcases z' with z' | z' <;> rw [hkS] at z' <;> cases z'
  have hglob := I.mod.glob.keeps I.bk
  obtain ⟨mb, hb1, hb2⟩ := I.mod.blt
  subst efd
  refine ks_wpAt_Expr_any (ks_wpAt_MethodCall (ks_wpAt_super_base (ar := arg0) F.sc hkc (by decide) rfl (KX _ _ lk) rfl (show ((defArgs st).posonlyargs ++ (defArgs st).args).head? = some arg0 by rw [hpar]; rfl) rfl (KX _ _ lcd) rfl hvs hfile F.top ?_) (hcall _)) (by unfold interactive; rw [show (envF (supNF qual st cc cda) fI s.heap.objs.size).scope.kind = .function from hkd]; rfl) (hev _)
  refine PySem.W.ks_loadName_global hkd F.sc (Calls.loadGlobal_builtin hglob F.mgS (hb1.keeps I.bk) ((hb2 _ (by decide)).trans (show bootBuiltins "super" = some (.type "super") from by first | rfl | kernel_rfl)) ⟨rfl, ?_⟩)
  refine wpAny_loadName_free hkd hkc rfl ⟨_, KX _ _ lcc, rfl⟩ ?_
  rw [hself]
  refine wpAny_loadName_local hkd hkS hns hm ?_
  refine ks_wpAny_isType_cls hD1 hD2 ⟨rfl, ?_⟩
  have X0 : (K.In s1.heap) := KX
  obtain ⟨hp, g, d, t, os⟩ := s1
  refine ks_wpAny_call_super hD1 hD2 ho rfl (fun c z => by cases z) (PySem.W.looks_mroIn KX F.sub) fun h' hso k => ?_
  have I1 := I.kept (t' := t) k
  have hsup := F.sup
  unfold PySem.W.ks_superIn at hsup
  rw [hcd] at hsup
  have KX1 : K.In h' := I1.kIn
  obtain ⟨t2, ho1⟩ := exo_at I1.hok he
  have IA : PySem.W.InstAt h' e { cls := .ref C, dict := none, data := .fields #[.ref t2, .none, .none, .none, .bool false, .none] } C none := ⟨ho1, rfl, rfl, trivial⟩
  refine PySem.W.kxs_getMethod PySem.W.kxs_ValueError hso (PySem.W.looks_opaque KX1 F.opq) (l₀ := cd.mro) (fun A Q E s k q => wpAny_bind ((PySem.W.looks_clsIn KX1 hcd) A _ E s k (wpAny_pure q))) rfl KX1 hsup (IA.type.andThen (PySem.W.looks_subIn KX1 F.ve)) (PySem.W.ks_ne KX1 IA hcd) (by decide) ?_
  have I2 := I1.kept (t' := t + 1) (h' := h'.push (PySem.W.kxs_mw "ValueError.__init__" e)) fun b o e => Heap.get?_push_of_some _ e
  have hu : (h'.push (PySem.W.kxs_mw "ValueError.__init__" e)).get? h'.objs.size = some (PySem.W.kxs_mw "ValueError.__init__" e) := Heap.get?_push_at rfl rfl
  have nu : H h'.objs.size = none := I1.hok.fresh (Nat.le_refl _)
  have I3 : Inv (ncx CX P w K mg base N (supNF qual st cc cda) fI A outer s H E) [(h'.objs.size, PySem.W.kxs_mw "ValueError.__init__" e)] σ H ⟨h'.push (PySem.W.kxs_mw "ValueError.__init__" e), g, d, t + 1, os⟩ := I2.pins_of fun p hp => by
    obtain rfl : p = _ := List.mem_singleton.mp hp
    exact ⟨hu, nu, fun z => absurd I1.lt (by rw [← z]; exact Nat.lt_irrefl _), I1.nofs (Nat.le_refl _), fun v z => by cases z⟩
  refine PySem.W.kxs_callWith (i := "ValueError.__init__") (x := e) (by rw [hst _]; show (false || (backTo p3 (starEach as _)).any (·.1)) = false; rw [hpl]; rfl) ?_
  rw [hst _]
  refine Calls.evalArgs_plain ?_
  have hA := ha.run p3 _ _ σ H _ I3 hta
  rw [show starEach (a0 :: as) (ncx CX P w K mg base N (supNF qual st cc cda) fI A outer s H E).env = _ from hst _] at hA
  refine thn hA fun us' s2 ⟨vs, H1, I4, r4, e4, hl4⟩ => ?_
  subst e4
  have hu4 := (I4.pin _ (List.mem_append_right _ (List.mem_singleton.mpr rfl))).1
  refine ⟨hu4, ?_⟩
  refine call_bwV F.oex I4 he hu4 (show us'.length ≤ sizeLine by rw [← Paired.length r4, sizeLine_eq]; omega) fun s' I5 => ⟨rfl, I5.pins_of fun p hp => by cases hp⟩

theorem sup_fn {ps : List Str} {k : Nat} {sp : Sp} {as : List Expr} {a0 : Expr} {rest : List Stmt} {ta : TA} {tr : TS} {p0 p1 p2 p3 p4 : Pos} {arg0 : Arg} {rest0 : List Arg}
    (F : SupF P K mg C fI cc cda fd qual st) (S : NScope N ps ["__class__"] (defScope st)) (hbody : defBody st = .Expr (.Call (.Attribute (.Call (.Name "super" p0) [] [] p1) "__init__" p2) (a0 :: as) [] p3) p4 :: rest)
    (hpar : (defArgs st).posonlyargs ++ (defArgs st).args = arg0 :: rest0) (hself : arg0.arg = "self") (hps : ps[0]? = some ("self" : Str))
    (hev : ∀ env : Env, swapsWith (.Call (.Attribute (.Call (.Name "super" p0) [] [] p1) "__init__" p2) (a0 :: as) [] p3) none p4.line env = pure false) {pl : Env → Sem Bool}
    (hcall : ∀ env : Env, eval (.Call (.Attribute (.Call (.Name "super" p0) [] [] p1) "__init__" p2) (a0 :: as) [] p3) env = (do
      let ov ← attributeBase (.Call (.Name "super" p0) [] [] p1) "__init__" env (eval (.Call (.Name "super" p0) [] [] p1) env)
      standAt p2.atName
      let (f, first) ← holding [ov] (getMethod ov "__init__" (pl env))
      callWith p3 f first (backTo p3 (starEach (a0 :: as) env)) []))
    (hst : ∀ env : Env, starEach (a0 :: as) env = (false, eval a0 env) :: starEach as env) (hpl : ∀ env : Env, (backTo p3 (starEach as env)).any (·.1) = false)
    (ha : ∀ A outer s H E, PA (ncx CX P w K mg base N (supNF qual st cc cda) fI A outer s H E) (a0 :: as) ta) (hrest : ∀ A outer s H E, PSs (ncx CX P w K mg base N (supNF qual st cc cda) fI A outer s H E) rest tr)
    (hta : ∀ vs H, vs.length = ps.length → ta (startF N vs [some (.ref C)]) H fun vs H1 => H1 = H ∧ vs.length ≤ 1000)
    (hsp : ∀ vs H Q E, sp vs H Q E → vs.length = ps.length ∧ ∃ e, vs[0]? = some (.ref e) ∧ H e = some (exo e C none) ∧ tr { nx := fun _ H' => Q .non H', rt := Q } (startF N vs [some (.ref C)]) H) :
    FnOk P w K mg base CX (k + 1) fI fd ps sp := by
  refine ⟨fun vs H Q E h => (hsp vs H Q E h).1, fun A outer s H args us vs Q E hr e0 hb r hs => ?_⟩
  obtain ⟨hl, e, he0, he, ht⟩ := hsp vs H Q E hs
  have KX : K.In s.heap := e0.mod.kin.keeps fun b o e => (e0.bs b o e).1
  have lim : s.heap.NoLimit := e0.mod.nolimit.keeps fun b o e => (e0.bs b o e).1
  obtain ⟨oc, od, kV, doc, pm, an, ct, osl, efd, lk⟩ := F.lk
  obtain ⟨cl, cld, csl, lcc⟩ := F.cell
  have hN : N[0]? = some ("self" : Str) := by
    have q := S.pre
    have q2 : (N.take (ps.length + 1))[0]? = (ps ++ [("__class__" : Str)])[0]? := by rw [← q]; rfl
    rw [List.getElem?_take_of_lt (by omega)] at q2
    rw [q2, List.getElem?_append_left (by
      have := List.length_pos_of_mem (List.mem_of_getElem? hps); omega)]
    exact hps
  have C0 : CellsAt [("__class__", cc)] ["__class__"] [some (.ref C)] s.heap H := by
    refine ⟨rfl, fun y c z => ?_, fun x y c z1 z2 => ?_, fun i y z => ?_⟩
    · simp [List.lookup] at z
      split at z
      · cases z
        exact ⟨(e0.bs _ _ (e0.mod.kin _ _ lcc)).2, _, _, KX _ _ lcc, rfl⟩
      · cases z
    · simp [List.lookup] at z1 z2
      split at z1
      · split at z2
        · rename_i q1 _ q2
          have a1 := eq_of_beq q1
          have a2 := eq_of_beq q2
          rw [a1, a2]
        · cases z2
      · cases z1
    · cases i with
      | zero =>
        simp at z
        subst z
        refine ⟨cc, rfl, fun v ev => ?_⟩
        simp at ev
        subst ev
        exact ⟨.ref C, rfl, _, KX _ _ lcc, rfl⟩
      | succ i => simp at z
  subst efd
  refine codeAny_call_function hr.depth (KX _ _ lk) rfl S.co S.gen rfl (PySem.W.codeRec_of KX F.code) (hb _ _ _ _ ?_)
  refine wpAny_newFunctionEnv S.nocell (fun ⟨n, _⟩ hy => S.par n (List.of_mem_zip hy).1) (fun h₁ hns hsb => ⟨lim.fresh _ hsb, ?_⟩) S.kind
  show codeAny _ _ (.func (defBody st) (envF (supNF qual st cc cda) fI s.heap.objs.size)) _ _
  refine ks_codeAny_funcAt ?_
  have kp : ∀ b o, s.heap.get? b = some o → h₁.get? b = some o := fun b o e => hsb.extBut b o (Nat.ne_of_lt (Heap.lt_size e)) (Heap.get?_push_of_some _ e)
  have I : Inv (ncx CX P w K mg base N (supNF qual st cc cda) fI A outer s H E) [] (startF N vs [some (.ref C)]) H { s with heap := h₁, toks := s.toks + (ps.zip us).length } := inv_startN S hr.hd e0 hl r C0 hns kp
  have hs0 : (startF N vs [some (.ref C)])[0]? = some (some (.ref e)) := by
    unfold startF
    have hlt : 0 < vs.length := by
      cases vs with
      | nil => simp at he0
      | cons a b => simp
    rw [List.getElem?_append_left (by simpa using hlt), List.getElem?_map, he0]
    rfl
  have fin : ∀ {σ' : L2.St} {H' : Hp} {v : V} {u : Value} {s' : Shared}, Inv (ncx CX P w K mg base N (supNF qual st cc cda) fI A outer s H E) [] σ' H' s' → L2.RelV v u → Q v H' → CE outer P w H s Q u s' :=
    fun {σ' H' v u s'} J rv q => ⟨v, H', J.os, J.bare, J.base, J.hok, rv, q⟩
  rw [hbody]
  have A1 := sup_stmt (k := k) F hpar hself hN S.kind (S.par "self" (List.mem_of_getElem? hps)) (S.frk "__class__" (List.mem_singleton.mpr rfl)) I hs0 he (ha A outer s H E) (hta vs H hl) hev hcall hst hpl
  rw [hbody] at A1
  refine ks_wpAt_execs_cons (ks_wpAt_mono A1 (fun fl s' hq => ?_) fun _ _ z => z)
  obtain ⟨rfl, J⟩ := hq
  refine wpAt_of_wpAny (wpAny_mono ((hrest A outer s H E).run [] s' _ H _ J ht) (fun fl s'' hs => ?_) fun _ _ z => z)
  cases fl with
  | ret u =>
    obtain ⟨v, σ', H', J, rv, q⟩ := hs
    exact fin J rv q
  | next =>
    obtain ⟨σ', H', J, q⟩ := hs
    exact fin (v := V.non) (u := Value.none) J rfl q
  | brk =>
    obtain ⟨_, _, _, q⟩ := hs
    exact False.elim q
  | cont =>
    obtain ⟨_, _, _, q⟩ := hs
    exact False.elim q
end
end Dl
/-! Dl10: own exceptions as things: made, read; isinstance. -/
namespace Dl
open PySem PySem.Spec PyProof.Rows L2 NdefX LamX

/-- what the __init__ of an own exception does -/
def supSp (C : Addr) (fs : List Str) : Sp := fun vs H Q E => ∃ e ws, vs = .ref e :: ws ∧ ws.length = fs.length ∧ H e = some (exo e C none) ∧ ∀ dx, H dx = none → dx ≠ e → Q .non (upd (upd H dx (exd dx (fs.zip ws).reverse)) e (exo e C (some dx)))
section
variable {P : Program} {w : World} {K : PySem.W.Frag} {mg : Str → Option Value} {base : Heap} {CX : CXT} {C fI cc cda : Addr} {fd : FuncData} {qual : Str} {st : Stmt} {k : Nat}
theorem upd_swap {H : Hp} {dx e : Addr} {A B X0 : HO} (h : dx ≠ e) : upd (upd (upd H dx A) e X0) dx B = upd (upd H dx B) e X0 := by
  funext b
  unfold upd
  by_cases h1 : b = dx
  · by_cases h2 : b = e
    · exact absurd (h1.symm.trans h2) h
    · simp [h1, h2, h]
  · by_cases h2 : b = e
    · simp [h1, h2, Ne.symm h]
    · simp [h1, h2]
theorem sup_fn1 {f : Str} {p0 p1 p2 p3 p4 q1 q2 q3 q4 q5 : Pos} {arg0 : Arg} {rest0 : List Arg}
    (F : SupF P K mg C fI cc cda fd qual st) (S : NScope ["self", f, "__class__"] ["self", f] ["__class__"] (defScope st))
    (hbody : defBody st = [.Expr (.Call (.Attribute (.Call (.Name "super" p0) [] [] p1) "__init__" p2) [.Name f q1] [] p3) p4, .Assign [.Attribute (.Name "self" q2) f q3] (.Name f q4) q5])
    (hpar : (defArgs st).posonlyargs ++ (defArgs st).args = arg0 :: rest0) (hself : arg0.arg = "self") (hno : PySem.W.findIn K (.ref C) f = some none)
    (hd : (f == ("__debug__" : Str)) = false) (hcd : (f == ("__classdict__" : Str)) = false)
    (hev : ∀ env : Env, swapsWith (.Call (.Attribute (.Call (.Name "super" p0) [] [] p1) "__init__" p2) [.Name f q1] [] p3) none p4.line env = pure false)
    (hev2 : ∀ env : Env, swapsWith (.Name f q4) (some (.Attribute (.Name "self" q2) f q3)) q5.line env = pure false) {pl : Env → Sem Bool}
    (hcall : ∀ env : Env, eval (.Call (.Attribute (.Call (.Name "super" p0) [] [] p1) "__init__" p2) [.Name f q1] [] p3) env = (do
      let ov ← attributeBase (.Call (.Name "super" p0) [] [] p1) "__init__" env (eval (.Call (.Name "super" p0) [] [] p1) env)
      standAt p2.atName
      let (fm, first) ← holding [ov] (getMethod ov "__init__" (pl env))
      callWith p3 fm first (backTo p3 (starEach [.Name f q1] env)) []))
    (hst : ∀ env : Env, starEach [.Name f q1] env = [(false, eval (.Name f q1) env)]) :
    FnOk P w K mg base CX (k + 1) fI fd ["self", f] (supSp C [f]) := by
  have vS : Vis (defScope st) "self" := .inl (S.par "self" (by simp))
  have vF : Vis (defScope st) f := .inl (S.par f (by simp))
  refine sup_fn (ta := tCons (tVar 1) tNil) (tr := tOst K f (tVar 0) (tVar 1)) F S hbody hpar hself rfl hev hcall hst (fun _ => rfl)
    (fun A outer s H E => pa_cons (pe_var rfl vF hd hcd) pa_nil (hst _)) (fun A outer s H E => pss_one (ps_ost (pe_var rfl vS) (pe_var rfl vF hd hcd) (hev2 _))) ?_ ?_
  · intro vs H hl
    match vs, hl with
    | [a, b], _ => exact ⟨b, rfl, rfl, by simp⟩
  · rintro vs H Q E ⟨e, ws, rfl, hl, he, hq⟩
    match ws, hl with
    | [b], _ =>
      refine ⟨rfl, e, rfl, he, b, rfl, .ref e, rfl, e, C, rfl, F.oex, hno, .inl ⟨he, fun dx h1 h2 => hq dx h1 h2⟩⟩
theorem sup_fn2 {f g : Str} {p0 p1 p2 p3 p4 q1 q1' q2 q3 q4 q5 r2 r3 r4 r5 : Pos} {arg0 : Arg} {rest0 : List Arg}
    (F : SupF P K mg C fI cc cda fd qual st) (S : NScope ["self", f, g, "__class__"] ["self", f, g] ["__class__"] (defScope st))
    (hbody : defBody st = [.Expr (.Call (.Attribute (.Call (.Name "super" p0) [] [] p1) "__init__" p2) [.Name f q1, .Name g q1'] [] p3) p4, .Assign [.Attribute (.Name "self" q2) f q3] (.Name f q4) q5, .Assign [.Attribute (.Name "self" r2) g r3] (.Name g r4) r5])
    (hpar : (defArgs st).posonlyargs ++ (defArgs st).args = arg0 :: rest0) (hself : arg0.arg = "self") (hno : PySem.W.findIn K (.ref C) f = some none) (hno2 : PySem.W.findIn K (.ref C) g = some none)
    (hd : (f == ("__debug__" : Str)) = false) (hcd : (f == ("__classdict__" : Str)) = false) (hd2 : (g == ("__debug__" : Str)) = false) (hcd2 : (g == ("__classdict__" : Str)) = false)
    (hev : ∀ env : Env, swapsWith (.Call (.Attribute (.Call (.Name "super" p0) [] [] p1) "__init__" p2) [.Name f q1, .Name g q1'] [] p3) none p4.line env = pure false)
    (hev2 : ∀ env : Env, swapsWith (.Name f q4) (some (.Attribute (.Name "self" q2) f q3)) q5.line env = pure false) (hev3 : ∀ env : Env, swapsWith (.Name g r4) (some (.Attribute (.Name "self" r2) g r3)) r5.line env = pure false) {pl : Env → Sem Bool}
    (hcall : ∀ env : Env, eval (.Call (.Attribute (.Call (.Name "super" p0) [] [] p1) "__init__" p2) [.Name f q1, .Name g q1'] [] p3) env = (do
      let ov ← attributeBase (.Call (.Name "super" p0) [] [] p1) "__init__" env (eval (.Call (.Name "super" p0) [] [] p1) env)
      standAt p2.atName
      let (fm, first) ← holding [ov] (getMethod ov "__init__" (pl env))
      callWith p3 fm first (backTo p3 (starEach [.Name f q1, .Name g q1'] env)) []))
    (hst : ∀ env : Env, starEach [.Name f q1, .Name g q1'] env = [(false, eval (.Name f q1) env), (false, eval (.Name g q1') env)]) (hst2 : ∀ env : Env, starEach [.Name g q1'] env = [(false, eval (.Name g q1') env)]) :
    FnOk P w K mg base CX (k + 1) fI fd ["self", f, g] (supSp C [f, g]) := by
  have vS : Vis (defScope st) "self" := .inl (S.par "self" (by simp))
  have vF : Vis (defScope st) f := .inl (S.par f (by simp))
  have vG : Vis (defScope st) g := .inl (S.par g (by simp))
  refine sup_fn (ta := tCons (tVar 1) (tCons (tVar 2) tNil)) (tr := tSeq (tOst K f (tVar 0) (tVar 1)) (tOst K g (tVar 0) (tVar 2))) F S hbody hpar hself rfl hev hcall (fun env => (hst env).trans (by rw [hst2])) (fun env => by rw [hst2]; rfl)
    (fun A outer s H E => pa_cons (pe_var rfl vF hd hcd) (pa_cons (pe_var rfl vG hd2 hcd2) pa_nil (hst2 _)) ((hst _).trans (by rw [hst2])))
    (fun A outer s H E => pss_cons (ps_ost (pe_var rfl vS) (pe_var rfl vF hd hcd) (hev2 _)) (pss_one (ps_ost (pe_var rfl vS) (pe_var rfl vG hd2 hcd2) (hev3 _)))) ?_ ?_
  · intro vs H hl
    match vs, hl with
    | [a, b, c], _ => exact ⟨b, rfl, c, rfl, rfl, by simp⟩
  · rintro vs H Q E ⟨e, ws, rfl, hl, he, hq⟩
    match ws, hl with
    | [b, c], _ =>
      refine ⟨rfl, e, rfl, he, b, rfl, .ref e, rfl, e, C, rfl, F.oex, hno, .inl ⟨he, fun dx h1 h2 => ?_⟩⟩
      refine ⟨c, rfl, .ref e, rfl, e, C, rfl, F.oex, hno2, .inr ⟨dx, [(f, b)], upd_same, ?_, by simp, ?_⟩⟩
      · rw [upd_ne h2, upd_same]
      · rw [upd_swap h2]
        exact hq dx h1 h2
end
/-- an own exception class, ready -/
structure ExcD (P : Program) (w : World) (K : PySem.W.Frag) (mg : Str → Option Value) (base : Heap) (k : Nat) (C fI : Addr) (fd : FuncData) (fs : List Str) : Prop where
  oex : OexC K C
  ini : PySem.W.findIn K (.ref C) "__init__" = some (some (.ref fI))
  typ : PySem.W.typeIn K (.ref fI) = some (.type "function")
  fn : FnOk P w K mg base (L2.CX P w) k fI fd (("self" : Str) :: fs) (supSp C fs)
section
variable {X : Cx} {pins : List (Addr × Obj)} {σ : L2.St} {H : Hp} {s : Shared} {C fI : Addr} {fd : FuncData} {fs : List Str} {k : Nat}
theorem run_exc {us ws : List Value} {kw : List (Str × Value)} {vs : List V} {Q : VK} (T : ExcD X.prog X.w X.K X.mg X.base k C fI fd fs) (hr : Room (k + 1) X.A) (hx : Passes (L2.CX X.prog X.w) X (fun _ _ _ => False)) (I : Inv X pins σ H s) (r : Vals vs ws) (hl : vs.length = fs.length)
    (hz : us.length ≤ sizeLine) (hkw : kw = []) (hb : ∀ (s' : Shared) (u : Value), X.K.In s'.heap → BindsTo s' fd ⟨u :: us, kw⟩ ((("self" : Str) :: fs).zip (u :: ws)))
    (h : ∀ a dx, H a = none → H dx = none → dx ≠ a → Q (.ref a) (upd (upd H dx (exd dx (fs.zip vs).reverse)) a (exo a C (some dx)))) :
    wpAny (model X.prog X.w) X.A (call (.ref C) us kw) (EP X pins σ Q) X.xe s := by
  subst hkw
  obtain ⟨nm, q, N, bs, bm, sn, sub, ab, col, dd, k0, k1, k2, k3, k5, hC, hbm⟩ := T.oex.cls
  obtain ⟨hp, g, dr, tk, os⟩ := s
  have hsz : hp.objs.size ≤ hp.objs.size + 1 := Nat.le_succ _
  have hn : H (hp.objs.size + 1) = none := I.hok.fresh hsz
  have kk : ∀ b o, hp.get? b = some o → ((hp.push (PySem.W.kdv_tup us)).push (PySem.HandSPX.excO C hp.objs.size)).get? b = some o := fun b o e => Heap.get?_push_of_some _ (Heap.get?_push_of_some _ e)
  have hget : ((hp.push (PySem.W.kdv_tup us)).push (PySem.HandSPX.excO C hp.objs.size)).get? (hp.objs.size + 1) = some (PySem.HandSPX.excO C hp.objs.size) := by heap_get
  have I2 : Inv X pins σ (upd H (hp.objs.size + 1) (exo (hp.objs.size + 1) C none)) ⟨(hp.push (PySem.W.kdv_tup us)).push (PySem.HandSPX.excO C hp.objs.size), g, dr, tk, os⟩ :=
    I.laid (t' := tk) (a := hp.objs.size + 1) (o := exo (hp.objs.size + 1) C none) (h' := (hp.push (PySem.W.kdv_tup us)).push (PySem.HandSPX.excO C hp.objs.size)) kk hsz (exo_ok hget)
  have r2 : Vals (V.ref (hp.objs.size + 1) :: vs) (Value.ref (hp.objs.size + 1) :: ws) := .cons rfl r
  have hq : supSp C fs (V.ref (hp.objs.size + 1) :: vs) (upd H (hp.objs.size + 1) (exo (hp.objs.size + 1) C none)) (fun v H2 => v = .non ∧ Q (.ref (hp.objs.size + 1)) H2) (fun _ _ _ => False) := by
    refine ⟨_, vs, rfl, hl, upd_same, fun dx h1 h2 => ⟨rfl, ?_⟩⟩
    rw [upd_ne h2] at h1
    have e : upd (upd (upd H (hp.objs.size + 1) (exo (hp.objs.size + 1) C none)) dx (exd dx (fs.zip vs).reverse)) (hp.objs.size + 1) (exo (hp.objs.size + 1) C (some dx)) = upd (upd H dx (exd dx (fs.zip vs).reverse)) (hp.objs.size + 1) (exo (hp.objs.size + 1) C (some dx)) := by
      funext b
      unfold upd
      by_cases hb1 : b = hp.objs.size + 1
      · simp [hb1]
      · simp [hb1]
    rw [e]
    exact h _ dx hn h1 h2
  refine wpAny_call (PySem.HandSPX.call_own F.excBase_ValueError (fun Y => PySem.HandSPX.refsVE_contains Y bm hbm) (I.kIn _ _ hC) (PySem.W.looks_findIn I.kIn T.ini) (fun self => PySem.W.bind_fn I.kIn self T.typ) hz
    (codeAny_mono (T.fn.run _ X.stack _ _ ⟨Value.ref (hp.objs.size + 1) :: us, []⟩ (Value.ref (hp.objs.size + 1) :: ws) _ _ (fun _ _ _ => False) (hr.make C us []) (I2.env0.make C us []) (hb _ _ I2.kIn) r2 hq) fun r s' hq' => ?_))
  cases r with
  | error er => exact hx pins σ _ _ er s' I2 hq'
  | ok fl =>
    cases fl with
    | ret u =>
      obtain ⟨v, H', I3, rv, ev, q3⟩ := I2.after hq'
      subst ev
      exact ⟨rv, ⟨V.ref (hp.objs.size + 1), H', I3, rfl, q3⟩⟩
    | next => exact False.elim hq'
    | brk => exact False.elim hq'
    | cont => exact False.elim hq'
theorem exg_ok {P : Program} {w : World} {h : Heap} {a C dx : Addr} {o : Obj} {vs : Array Value} (e : h.get? a = some o) (c : o.cls = .ref C) (d : o.dict = some dx) (f : o.data = .fields vs) : ObjOk P w H h a (exg a C dx) :=
  ⟨⟨o, vs, e, c, d, f⟩, ⟨o, e⟩, fun h1 h2 z k => by
    obtain ⟨o, vs, e, c, d, f⟩ := z
    exact ⟨o, vs, k _ e, c, d, f⟩⟩
theorem exg_at {P : Program} {w : World} {h : Heap} {a C dx : Addr} (hok : HOk P w H h) (e : H a = some (exg a C dx)) : ∃ (o : Obj) (vs : Array Value), h.get? a = some o ∧ o.cls = .ref C ∧ o.dict = some dx ∧ o.data = .fields vs := by
  have z : ObjOk P w H h a (.ext fun h => ∃ (o : Obj) (vs : Array Value), h.get? a = some o ∧ o.cls = .ref C ∧ o.dict = some dx ∧ o.data = .fields vs) := hok a _ e
  exact z.1
theorem xdAt_at {P : Program} {w : World} {h : Heap} {dx : Addr} {fs : List (Str × V)} (hok : HOk P w H h) (e : XdAt H dx fs) : ∃ mA, h.Ns1 dx mA ∧ ∀ f, RelO (fs.lookup f) (mA f) := by
  rcases e with e | e
  · exact exd_at hok e
  · exact hok dx _ e
/-- what was made is an exception like any other -/
theorem Inv_exg {a0 dx : Addr} {H0 : Hp} (I : Inv X pins σ (upd H0 a0 (exo a0 C (some dx))) s) : Inv X pins σ (upd H0 a0 (exg a0 C dx)) s := by
  obtain ⟨t1, ho⟩ := exo_at I.hok upd_same
  obtain ⟨hp, g, d, t, os⟩ := s
  have J := I.write (t' := t) (h' := hp) (x := a0) (e := a0) (o := exg a0 C dx) (by rw [upd_same]; exact True.intro) (.inl rfl) (fun _ _ _ e => e) ⟨_, ho⟩ (exg_ok ho rfl rfl rfl)
  have e : upd (upd H0 a0 (exo a0 C (some dx))) a0 (exg a0 C dx) = upd H0 a0 (exg a0 C dx) := by
    funext b
    unfold upd
    split <;> rfl
  rw [e] at J
  exact J
end
end Dl
/-! Dl11: own exceptions over data; isinstance over data. -/
namespace Dl
open PySem PySem.Spec PyProof.Rows L2 NdefX LamX

def tExcV (C : Addr) (fs : List Str) (t : TA) : TE := fun σ H Q => t σ H fun vs H1 => vs.length = fs.length ∧ vs.length ≤ 1000 ∧ ∀ a dx, H1 a = none → H1 dx = none → dx ≠ a → Q (.ref a) (upd (upd H1 dx (exd dx (fs.zip vs).reverse)) a (exg a C dx))
/-- C(e, ..), an own exception -/
def dExc (C : Addr) (fs : List Str) (t : TDA) : TDE := fun ρ S Q => t ρ S fun ds S1 => ds.length = fs.length ∧ ds.length ≤ 1000 ∧ ∀ a, S1 a = none → Q (.ref a) (put S1 a (.exc C (fs.zip ds).reverse))
theorem exc_rep {F : PySem.W.Frag} {Z : Addr → Prop} {S : Sto} {H : Hp} {a dx C : Addr} {fs : List Str} {vs : List V} {ds : List D} (ok : SOk ⟨F, Z⟩ S H) (na : H a = none) (nd : H dx = none) (ne : dx ≠ a) (r : Reps ⟨F, Z⟩ S H vs ds) (hl : ds.length = fs.length) :
    SOk ⟨F, Z⟩ (put S a (.exc C (fs.zip ds).reverse)) (upd (upd H dx (exd dx (fs.zip vs).reverse)) a (exg a C dx)) ∧ Step ⟨F, Z⟩ S H (put S a (.exc C (fs.zip ds).reverse)) (upd (upd H dx (exd dx (fs.zip vs).reverse)) a (exg a C dx)) := by
  have na' : upd H dx (exd dx (fs.zip vs).reverse) a = none := by rw [upd_ne (Ne.symm ne)]; exact na
  have ok1 := ok.laid (o := exd dx (fs.zip vs).reverse) nd
  have hl' : vs.length = fs.length := r.length.trans hl
  have st1 : Step ⟨F, Z⟩ S H S (upd H dx (exd dx (fs.zip vs).reverse)) := .laid nd
  have st2 : Step ⟨F, Z⟩ S (upd H dx (exd dx (fs.zip vs).reverse)) (put S a (.exc C (fs.zip ds).reverse)) (upd (upd H dx (exd dx (fs.zip vs).reverse)) a (exg a C dx)) := .made na'
  refine ⟨ok1.made na' ⟨dx, _, upd_same, .inl (by rw [upd_ne ne, upd_same]), ?_, ?_⟩, st1.trans st2⟩
  · rw [List.map_reverse, List.map_reverse, List.map_fst_zip (by omega), List.map_fst_zip (by omega)]
  · rw [List.map_reverse, List.map_reverse, List.map_snd_zip (by omega), List.map_snd_zip (by omega)]
    exact ((r.step st1).step st2).reverse
section
variable {X : Cx} {B : Fam} {k : Nat} {C fI : Addr} {fd : FuncData} {fs : List Str} {x fl : Str} {p pos : Pos} {e : Expr} {es : List Expr} {ta : TDA} {t : TA} {te : TDE}
theorem pe_exc (T : ExcD X.prog X.w X.K X.mg X.base k C fI fd fs) (hr : Room (k + 1) X.A) (hg : Gl X x) (hm : X.mg x = some (.ref C)) (hb : Binds X.K fd (("self" : Str) :: fs) []) (hx : Passes (L2.CX X.prog X.w) X (fun _ _ _ => False))
    (ha : PA X (e :: es) t) (hdb : (x == ("__debug__" : Str)) = false := by decide) (he : starEach (e :: es) X.env = (false, eval e X.env) :: starEach es X.env := by rfl) (hpl : (backTo pos (starEach es X.env)).any (·.1) = false := by rfl) :
    PE X (.Call (.Name x p) (e :: es) [] pos) (tExcV C fs t) := by
  refine ⟨fun pins s σ H Q I h => ?_⟩
  refine wpAny_Call_Name_kw (ld_glob I hg hm ?_ hdb)
  refine PySem.W.callWith_K (h₀ := X.base) I.ok.mod.kin T.oex.kC (thn (ha.run pos pins s σ H _ I h) fun us s1 ⟨vs, H1, I1, r, hl, hz, q⟩ => ⟨I1.kIn, ?_⟩) he hpl
  have e1 : us.length = fs.length := r.length.symm.trans hl
  refine wpAny_mono (run_exc (Q := fun v H2 => ∃ a dx, v = .ref a ∧ H1 a = none ∧ H1 dx = none ∧ dx ≠ a ∧ H2 = upd (upd H1 dx (exd dx (fs.zip vs).reverse)) a (exo a C (some dx))) T hr hx I1 r hl (show us.length ≤ sizeLine by rw [← r.length, sizeLine_eq]; omega) rfl (fun s' u hK => ?_) (fun a dx h1 h2 h3 => ⟨a, dx, rfl, h1, h2, h3, rfl⟩))
    (fun v s2 ⟨x, H2, I2, rx, a, dx, e1, h1, h2, h3, e2⟩ => by
      subst e1 e2
      exact ⟨.ref a, _, Inv_exg I2, rx, q a dx h1 h2 h3⟩) fun _ _ z => z
  have := hb s' (u :: us) hK (by simp [e1])
  simpa using this
theorem de_exc (T : ExcD X.prog X.w X.K X.mg X.base k C fI fd fs) (hr : Room (k + 1) X.A) (hg : Gl X x) (hm : X.mg x = some (.ref C)) (hb : Binds X.K fd (("self" : Str) :: fs) []) (hx : Passes (L2.CX X.prog X.w) X (fun _ _ _ => False))
    (ha : DA X B (e :: es) ta) (hdb : (x == ("__debug__" : Str)) = false := by decide) (he : starEach (e :: es) X.env = (false, eval e X.env) :: starEach es X.env := by rfl) (hpl : (backTo pos (starEach es X.env)).any (·.1) = false := by rfl) :
    DE X B (.Call (.Name x p) (e :: es) [] pos) (dExc C fs ta) := fun β hB =>
  (pe_exc T hr hg hm hb hx (ha β hB) hdb he hpl).imp fun σ H Q ⟨ρ, S, P, sr, h, kq⟩ => ⟨ρ, S, _, sr, h, fun ds S1 h1 vs H1 ok1 st1 r1 => by
    obtain ⟨hl, hz, q⟩ := h1
    refine ⟨by rw [r1.length]; exact hl, by rw [r1.length]; exact hz, fun a dx na nd ne => ?_⟩
    obtain ⟨ok2, st2⟩ := exc_rep (C := C) ok1 na nd ne r1 hl
    exact kq _ _ (q a (ok1.fresh na)) _ _ ok2 (st1.trans st2) rfl⟩
/-- error.f -/
def xattrR (cs : List Addr) (f : Str) : RD1 := fun x S Q => match x with
  | .ref a => ∃ C fs d, C ∈ cs ∧ S a = some (.exc C fs) ∧ fs.lookup f = some d ∧ Q d S
  | _ => False
theorem de_xattr {cs : List Addr} (hc : ∀ C, C ∈ cs → XfC X.K C ∧ PySem.W.findIn X.K (.ref C) fl = some none) (he : DE X B e te) (hb : attributeBase e fl X.env (eval e X.env) = eval e X.env := by rfl) : DE X B (.Attribute e fl pos) (dUn (xattrR cs fl) te) := fun β hB => by
  refine ⟨fun pins s σ H Q I ⟨ρ, S, P, sr, h, kq⟩ => ?_⟩
  refine attr_of hb (thn ((he β hB).run pins s σ H _ I ⟨ρ, S, _, sr, h, fun d S1 h1 v H1 ok1 st1 r1 => (⟨d, S1, h1, ok1, st1, r1⟩ : ∃ d S1, xattrR cs fl d S1 P ∧ SOk ⟨X.K, β.Z⟩ S1 H1 ∧ Step ⟨X.K, β.Z⟩ S H S1 H1 ∧ Rep ⟨X.K, β.Z⟩ S1 H1 v d)⟩) fun u s1 ⟨v, H1, I1, rx, d, S1, h1, ok1, st1, r1⟩ => ?_)
  cases d with
  | ref a =>
    obtain ⟨C, fs, d, hC, hS, hl, q⟩ := h1
    obtain ⟨dx, kvs, hH, hd, hk, rs⟩ := ok1.rep a _ hS
    obtain ⟨v', hv, rv⟩ := look_rep hk rs hl
    obtain rfl : v = V.ref a := r1
    obtain rfl : u = Value.ref a := rx
    obtain ⟨ox, vs, ho, hcls, hdct, hdat⟩ := exg_at I1.hok hH
    obtain ⟨mA, hns, hr⟩ := xdAt_at I1.hok hd
    obtain ⟨od, hod, hl2⟩ := lookIn_ns hns
    obtain ⟨u, hu, ru⟩ := RelO.some_of (v := v') (o := mA fl) (by rw [← hv]; exact hr fl)
    obtain ⟨T, hno⟩ := hc C hC
    have J : PySem.W.InstAt s1.heap a ox C (some od) := ⟨ho, hcls, by unfold PySem.W.notCls; rw [hdat] <;> rfl, by rw [hdct]; exact hod⟩
    exact HandSPX.exc_get I1.kIn J T.ga T.gg T.exC (PySem.W.findObj_own T.hdC hno rfl (by rw [hl2, hu])) (handed_of ru) ⟨v', H1, I1.tok _, ru, kq _ _ q _ _ ok1 st1 rv⟩
  | _ => exact h1.elim
end

/-! ### isinstance -/
structure InsI (K : PySem.W.Frag) (C : Addr) : Prop where
  cls : Cls K C
  ha : PySem.W.findIn K (.ref C) "__class__" = some (some (.builtin "object.__class__"))
  hn : PySem.W.specialIn K (.builtin "object.__class__") "__get__" = some (some (.builtin "getset_descriptor.__get__"))
  htk : PySem.W.takesIn K (.builtin "object.__class__") = some true
  hm : PySem.W.mroIn K C (.type "object") = some true
structure ExcI (K : PySem.W.Frag) (C : Addr) : Prop where
  hcl : (PySem.W.clsIn K C).isSome = true
  hga : PySem.W.findIn K (.ref C) "__getattribute__" = some (some (.builtin "BaseException.__getattribute__"))
  hgt : PySem.W.findIn K (.ref C) "__getattr__" = some none
  hsub : PySem.W.subIn K (.ref C) (.type "BaseException") = some true
  ha : PySem.W.findIn K (.ref C) "__class__" = some (some (.builtin "object.__class__"))
  hn : PySem.W.specialIn K (.builtin "object.__class__") "__get__" = some (some (.builtin "getset_descriptor.__get__"))
  htk : PySem.W.takesIn K (.builtin "object.__class__") = some true
  hm : PySem.W.mroIn K C (.type "object") = some true
/-- the classes of the program whose things may be asked -/
structure CT where
  ins : List Addr
  exc : List Addr
structure CTOk (K : PySem.W.Frag) (T : CT) : Prop where
  ins : ∀ C, C ∈ T.ins → InsI K C
  exc : ∀ C, C ∈ T.exc → ExcI K C
def tyV (T : CT) (S : Sto) : D → Option Value
  | .non => some (.type "NoneType")
  | .bl _ => some (.type "bool")
  | .int _ => some (.type "int")
  | .str _ => some (.type "str")
  | .tup _ => some (.type "tuple")
  | .lst _ => some (.type "list")
  | .dic _ _ => some (.type "dict")
  | .ty _ => none
  | .scr _ => none
  | .ref a => match S a with
    | some (.lst _) => some (.type "list")
    | some (.dic _ _) => some (.type "dict")
    | some (.ins C _) => if C ∈ T.ins then some (.ref C) else none
    | some (.exc C _) => if C ∈ T.exc then some (.ref C) else none
    | some (.tab _) => none
    | none => none
theorem kit_ofD {X : Cx} {pins : List (Addr × Obj)} {σ : L2.St} {H : Hp} {s : Shared} {T : CT} {Z : Addr → Prop} {S : Sto} {x : V} {d : D} {u t : Value} (TO : CTOk X.K T) (I : Inv X pins σ H s) (ok : SOk ⟨X.K, Z⟩ S H) (rd : Rep ⟨X.K, Z⟩ S H x d) (rx : RelV x u) (ty : tyV T S d = some t) :
    ∃ P : Heap → Prop, PySem.W.KitX X.K u t P ∧ P s.heap ∧ u ≠ .builtin "__main__.__loader__#opaque" := by
  cases d with
  | non => cases ty; exact kit_of I rx (.base (by rw [show x = _ from rd]; exact .non))
  | bl b => cases ty; exact kit_of I rx (.base (by rw [show x = _ from rd]; exact .bl b))
  | int b => cases ty; exact kit_of I rx (.base (by rw [show x = _ from rd]; exact .int b))
  | str b => cases ty; exact kit_of I rx (.base (by rw [show x = _ from rd]; exact .str b))
  | ty n => cases ty
  | scr n => cases ty
  | tup xs =>
    cases ty
    obtain ⟨a, vs, rfl, hq, rs⟩ := rd
    rcases hq with (hq | ⟨o, hq⟩) | ⟨o, its, n, hk, hc, _⟩
    · exact kit_of I rx (.base (.tup hq))
    · exact kit_of I rx (.fTuple hq)
    · exact kit_of I rx (.kTuple hk hc)
  | lst xs =>
    cases ty
    obtain ⟨a, vs, rfl, n, hq, rs⟩ := rd
    exact kit_of I rx (.base (.lst hq))
  | dic ks xs =>
    cases ty
    obtain ⟨a, vs, rfl, n, hq, hk, rs⟩ := rd
    rcases hq with hq | ⟨o, hq⟩
    · exact kit_of I rx (.base (.dK hq))
    · exact kit_of I rx (.fDict hq)
  | ref a =>
    obtain rfl : x = V.ref a := rd
    unfold tyV at ty
    cases hS : S a with
    | none => simp [hS] at ty
    | some o =>
      have x := ok.rep a o hS
      cases o with
      | tab q => simp [hS] at ty
      | lst xs => simp [hS] at ty; subst ty; obtain ⟨vs, h, r⟩ := x; exact kit_of I rx (.base (.lst h))
      | dic ks xs => simp [hS] at ty; subst ty; obtain ⟨vs, h, k, r⟩ := x; exact kit_of I rx (.base (.dK h))
      | ins C fs =>
        simp only [hS] at ty
        split at ty
        · rename_i hC
          cases ty
          obtain ⟨dx, kvs, h, k, r⟩ := x
          have TI := TO.ins C hC
          exact kit_of I rx (.base (.ins h TI.cls TI.ha TI.hn TI.htk TI.hm))
        · cases ty
      | exc C fs =>
        simp only [hS] at ty
        split at ty
        · rename_i hC
          cases ty
          obtain ⟨dx, kvs, h, hd, k, r⟩ := x
          have TI := TO.exc C hC
          obtain rfl : u = Value.ref a := rx
          obtain ⟨ox, vs, ho, hcls, hdct, hdat⟩ := exg_at I.hok h
          obtain ⟨mA, hns, hr⟩ := xdAt_at I.hok hd
          obtain ⟨od, hod, hl2⟩ := lookIn_ns hns
          exact ⟨_, PySem.W.kitx_exc TI.hcl TI.hga TI.hgt TI.hsub TI.ha TI.hn TI.htk TI.hm, (⟨ho, hcls, by unfold PySem.W.notCls; rw [hdat] <;> rfl, by rw [hdct]; exact hod⟩ : PySem.W.InstAt s.heap a ox C (some od)), fun z => nomatch z⟩
        · cases ty
def clsOf : D → Option Value
  | .ty n => some (.type n)
  | .ref a => some (.ref a)
  | _ => none
def clssOf : List D → Option (List Value)
  | [] => some []
  | d :: ds => match clsOf d, clssOf ds with
    | some u, some us => some (u :: us)
    | _, _ => none
theorem clsOf_v {K : Fr} {S : Sto} {H : Hp} {v : V} {d : D} {u : Value} (r : Rep K S H v d) (h : clsOf d = some u) : ClsV v u := by
  cases d <;> first
    | (cases h; cases (show v = _ from r); first | exact .ty _ | exact .own _)
    | cases h
theorem clssOf_v {K : Fr} {S : Sto} {H : Hp} : ∀ {vs : List V} {ds : List D} {us : List Value}, Reps K S H vs ds → clssOf ds = some us → Paired ClsV vs us
  | _, [], _, r, h => by cases h; rw [show _ = [] from r]; exact .nil
  | _, d :: ds, _, ⟨v, r, e, h, hs⟩, hc => by
    unfold clssOf at hc
    split at hc
    · rename_i u us h1 h2
      cases hc
      rw [e]
      exact .cons (clsOf_v h h1) (clssOf_v hs h2)
    · cases hc
/-- isinstance(x, c), isinstance(x, (c, ..)) -/
def isiR (K : PySem.W.Frag) (T : CT) : RDn := fun ds S Q => match ds with
  | [x, .tup cs] => ∃ t us b, tyV T S x = some t ∧ clssOf cs = some us ∧ PySem.W.kitAny K t us = some b ∧ Q (.bl b) S
  | [x, c] => ∃ t u b, tyV T S x = some t ∧ clsOf c = some u ∧ PySem.W.kitOne K t u = some b ∧ Q (.bl b) S
  | _ => False
theorem cd_isi {X : Cx} {T : CT} (TO : CTOk X.K T) : CallD X (.builtin "isinstance") (isiR X.K T) := by
  intro Z pins s σ H xs us Q I rx ⟨ds, S, P, rs, ok, h1, k⟩
  have fin : ∀ {x c : D} {t u : Value} {b : Bool}, Reps ⟨X.K, Z⟩ S H xs [x, c] → tyV T S x = some t → clsOf c = some u → PySem.W.kitOne X.K t u = some b → P (.bl b) S → wpAny (model X.prog X.w) X.A (call (.builtin "isinstance") us) (EP X pins σ Q) X.xe s := by
    intro x c t u b rs h1 h2 h3 q
    obtain ⟨v, w, rfl, rv, rw_⟩ := reps2 rs
    obtain ⟨u1, u2, rfl, r1, r2⟩ := vals2 rx
    have e2 := (clsOf_v rw_ h2).eq r2
    subst e2
    obtain ⟨P', Zk, p, hx⟩ := kit_ofD TO I ok rv r1 h1
    exact PySem.W.kia_one Zk I.kIn p h3 hx fun tk => ⟨.bl b, H, I.tok tk, rfl, k _ _ q _ _ ok .refl rfl⟩
  unfold isiR at h1
  split at h1
  · rename_i x cs
    obtain ⟨t, ws, b, h1, h2, h3, q⟩ := h1
    obtain ⟨v, w, rfl, rv, tp, vs, rfl, hT, rt⟩ := reps2 rs
    obtain ⟨u1, u2, rfl, r1, r2⟩ := vals2 rx
    cases (show u2 = Value.ref tp from r2)
    obtain ⟨P', Zk, p, hx⟩ := kit_ofD TO I ok rv r1 h1
    obtain ⟨its, o, n, rv', ho, hcl, hdt⟩ := L2.sqT_at I.hok I.kIn hT
    have e3 := ClsV.all (clssOf_v rt h2) rv'
    subst e3
    obtain ⟨oc, od, dt, sl⟩ := o
    simp only at hcl hdt
    subst hcl hdt
    exact PySem.W.kia_tup Zk I.kIn p ho h3 hx fun tk => ⟨.bl b, H, I.tok tk, rfl, k _ _ q _ _ ok .refl rfl⟩
  · rename_i x c hc
    obtain ⟨t, u, b, h1, h2, h3, q⟩ := h1
    exact fin rs h1 h2 h3 q
  · exact h1.elim
end Dl
/-! Dl12: the law itself: called where no repr is under way. -/
namespace Dl
open PySem PySem.Spec PyProof.Rows L2

/-- a promise for calls at which no repr is under way -/
def TopOk (P : Program) (w : World) (K : PySem.W.Frag) (mg : Str → Option Value) (base : Heap) (k : Nat) (f : Addr) (fd : FuncData) (x : Str) (Φ : D → Sto → (D → Sto → Prop) → Prop) : Prop :=
  ∀ (A : Around) (s : Shared) (H : Hp) (u : Value) (v : V), A.guards = some [] → Room k A → Env0 P w K mg base A [] s H → BindsTo s fd ⟨[u], []⟩ [(x, u)] → RelV v u → ∀ (Q : VK) (Z : Addr → Prop) (S : Sto) (P' : D → Sto → Prop) (d : D), Rep ⟨K, Z⟩ S H v d → SOk ⟨K, Z⟩ S H → Φ d S P' → Ret ⟨K, Z⟩ S H P' Q →
    codeAny (model P w) A (.call (.ref f) ⟨[u], []⟩) (CR (L2.CX P w) [] P w H s Q (fun _ _ _ => False)) s
section
variable {P : Program} {w : World} {K : PySem.W.Frag} {mg : Str → Option Value} {base : Heap}
theorem _root_.L2.Fun.topD {x qual : Str} {y : Str} {st : Stmt} {f : Addr} {fd : FuncData} {N : List Str} {k : Nat} {Φ : D → Sto → (D → Sto → Prop) → Prop} {t : TDS} (F : Fun K x qual st f fd) (sc : FnScope N [y] (defScope st))
    (hder : ∀ (X : Cx) (B : Fam), X.prog = P → X.w = w → X.K = K → X.mg = mg → X.base = base → X.N = N → X.env.scope = defScope st → X.calm = true → X.fn = (fun _ => true) → X.stack = X.env :: X.outer → X.env.frame = some X.env.locals → Room k X.A → X.A.guards = some [] → PassesOwn (model X.prog X.w) X.A X.env X.xe → DSs X B (defBody st) t)
    (hvc : ∀ d S P, Φ d S P → t (bodyO P) (startD N [d]) S) : TopOk P w K mg base (k + 1) f fd y Φ := by
  obtain ⟨oc, od, kV, doc, pm, an, cdv, ct, osl, rfl, lk, hcd⟩ := F.ex
  intro A s H u v hg hr e0 hb rv Q Z S P' d rd ok hΦ kr
  have rs : Reps ⟨K, Z⟩ S H [v] [d] := .cons rd .nil
  have KX : K.In s.heap := e0.mod.kin.keeps fun b o z => (e0.bs b o z).1
  have lim := e0.mod.nolimit.keeps fun b o z => (e0.bs b o z).1
  have hin : ([y].zip [u]) = [(y, u)] := rfl
  have hy : (defScope st).names.lookup y = some .local ∨ (defScope st).names.lookup y = some .cell := sc.par y (List.mem_singleton.mpr rfl)
  refine codeAny_call_function hr.depth (KX _ _ lk) rfl sc.co sc.gen rfl (PySem.W.codeRec_of KX hcd) (hb _ _ _ _ ?_)
  refine wpAny_newFunctionEnv_cells sc.kind (fun z hz => ?_) fun env he s1 x1 => ?_
  · obtain rfl := List.mem_singleton.mp hz
    exact hy.imp id fun q => ⟨q, PySem.W.cellsFrom_some _ _ _ (.inl q)⟩
  · subst he
    refine ⟨lim.keeps x1.toInCall.keep, codeAny_func ?_⟩
    have I := inv_start (CX := L2.CX P w) (E := fun _ _ _ => False) sc hr.hd e0 (vs := [v]) rfl (.cons rv .nil) x1
    have T := hder (cxOf (L2.CX P w) P w K mg base N qual (defScope st) f cdv A [] s H (fun _ _ _ => False)) (fun β => β = ⟨Z, S, H⟩) rfl rfl rfl rfl rfl rfl rfl rfl rfl rfl rfl (hr.deeper _) hg (passes_of rfl) ⟨Z, S, H⟩ rfl
    refine wpAny_mono (T.run [] s1 _ H { nx := fun _ H' => Q .non H', rt := Q } I ⟨startD N [d], S, bodyO P', ⟨start_rep rs, ok, .refl⟩, hvc d S P' hΦ, ⟨?_, ?_, fun _ _ z => z.elim, fun _ _ z => z.elim⟩⟩) (fun fl s' hs => ?_) fun _ _ z => z
    · intro ρ S' ⟨d', S2, p, z⟩ σ H' sr st
      obtain ⟨ok2, r2, st2⟩ := z K Z H' .non sr.ok rfl
      exact kr d' S2 p _ _ ok2 (st.trans st2) r2
    · intro d S' ⟨d', S2, p, z⟩ v H' ok' _ st r
      obtain ⟨ok2, r2, st2⟩ := z K Z H' v ok' r
      exact kr d' S2 p _ _ ok2 (st.trans st2) r2
    · have fin : ∀ {σ' : L2.St} {H' : Hp} {v : V} {u : Value}, Inv (cxOf (L2.CX P w) P w K mg base N qual (defScope st) f cdv A [] s H (fun _ _ _ => False)) [] σ' H' s' → RelV v u → Q v H' → CE [] P w H s Q u s' :=
        fun {σ' H' v u} J rv q => ⟨v, H', J.os, J.bare, J.base, J.hok, rv, q⟩
      cases fl with
      | ret u => obtain ⟨v, σ', H', J, rv, q⟩ := hs; exact fin J rv q
      | next => obtain ⟨σ', H', J, q⟩ := hs; exact fin (v := V.non) (u := Value.none) J rfl q
      | brk => obtain ⟨_, _, _, q⟩ := hs; exact q.elim
      | cont => obtain ⟨_, _, _, q⟩ := hs; exact q.elim
end
/-- the head: a law's promise at the heap behind the top, no repr under way -/
theorem top_call {P : Program} {w : World} {K : PySem.W.Frag} {mg mb : Str → Option Value} {k : Nat} {fa a : Addr} {fd : FuncData} {x : Str} {Φ : D → Sto → (D → Sto → Prop) → Prop} {s1 : Shared} {vs : List Value} {ns : List Int}
    (KX : K.In s1.heap) (hns : s1.heap.Ns mainGlobals mg) (hb : s1.heap.Ns builtinsNs mb) (hbb : ∀ y : Str, y ≠ "__name__" → mb y = bootBuiltins y) (hlim : s1.heap.NoLimit) (hg : s1.gens = #[])
    (ha : s1.heap.get? a = some { cls := .type "list", data := .seq vs.toArray }) (hi : IntsAre vs ns) (hl : ns.length ≤ sizeLine) (hr : Room k callerA)
    (F : ∀ base : Heap, K.In base → base.Ns mainGlobals mg → TopOk P w K mg base k fa fd x Φ) (hbind : ∀ (s : Shared) (u : Value), BindsTo s fd ⟨[u], []⟩ [(x, u)])
    (hΦ : Φ (.scr ns) (fun _ => none) (fun d _ => d = .bl true)) :
    codeAny (model P w) callerA (.call (.ref fa) ⟨[.ref a], []⟩) (fun r s' => r = .ok (.ret (.bool true)) ∧ OldK s1.heap s'.heap ∧ s'.os = s1.os ∧ AllBare s'.gens) s1 := by
  let ob : Obj := { cls := .type "list", data := .seq vs.toArray }
  have rv := vals_ints hi
  -- H tracks nothing, or the script alone
  have core : ∀ H : Hp, (∀ b, H b = none ∨ (b = a ∧ K.lookup a = none ∧ H b = some (.frz ob (.lst (ns.map V.int))))) → SqX K H a (ns.map V.int) → HOk P w H s1.heap →
      codeAny (model P w) callerA (.call (.ref fa) ⟨[.ref a], []⟩) (fun r s' => r = .ok (.ret (.bool true)) ∧ OldK s1.heap s'.heap ∧ s'.os = s1.os ∧ AllBare s'.gens) s1 := by
    intro H hH hS hok
    have free : ∀ {b : Addr} {o : Obj}, s1.heap.get? b = some o → o ≠ ob → H b = none := fun {b o} e n => (hH b).elim id fun z => by
      rw [z.1, ha] at e; exact absurd (Option.some.inj e).symm n
    have down : ∀ {b : Addr} {m : Str → Option Value}, s1.heap.Ns b m → (hidT s1.heap H).Ns b m := fun {b m} ⟨o, es, ep, e, d, r⟩ =>
      ⟨o, es, ep, hidT_get e (free e fun z => by rw [z] at d; cases d), d, r⟩
    have kb : K.In (hidT s1.heap H) := fun b o e => hidT_get (KX b o e) ((hH b).elim id fun z => by rw [z.1, z.2.1] at e; cases e)
    have hM : Mod K mg (hidT s1.heap H) := ⟨kb, down hns, ⟨mb, down hb, hbb⟩, let ⟨mc, h1, h2⟩ := hlim; ⟨mc, down h1, h2⟩⟩
    have e0 : Env0 P w K mg (hidT s1.heap H) callerA [] s1 H := ⟨rfl, hM, fun _ _ e => of_hidT e, Nat.le_of_eq (hidT_size _ _), trivial, fun _ hb => (nomatch hb), hok, .of_eq hg⟩
    have ok0 : SOk ⟨K, fun _ => False⟩ (fun _ => none) H := ⟨fun _ _ z => (nomatch z), fun _ z => z.elim, [], fun _ _ z => (nomatch z), fun _ z => (nomatch z)⟩
    have run := F _ kb (down hns) callerA s1 H (.ref a) (.ref a) rfl hr e0 (hbind s1 (.ref a)) rfl (fun v H' => v = .bl true ∧ Step ⟨K, fun _ => False⟩ (fun _ => none) H (fun _ => none) H') (fun _ => False) (fun _ => none) (fun d _ => d = .bl true) (.scr ns) ⟨a, rfl, hS⟩ ok0 hΦ
      (fun d S' e v H' ok st r => by subst e; exact ⟨r, ⟨st.tup, fun a vs h q => ⟨⟨rfl, fun z => z⟩, (st.lst a vs h q).2⟩, fun a vs h q => ⟨⟨rfl, fun z => z⟩, (st.dic a vs h q).2⟩, st.hid, st.ext⟩⟩)
    refine codeAny_mono run fun r s' h => ?_
    match r, h with
    | .error e, h => exact absurd h (by
        intro z
        obtain ⟨_, _, _, _, _, _, _, _, _, _, _, _, z⟩ := z
        exact z)
    | .ok (.ret u), ⟨v, H', os, bare, un, hok', r', q, st⟩ =>
      subst q
      obtain rfl : u = Value.bool true := r'
      refine ⟨rfl, OldK.of_keep fun b o e => ?_, os, bare⟩
      rcases hH b with z | ⟨_, _, z⟩
      · exact un.keep b o e z (fun z => nomatch z) (fun z => nomatch z)
      · obtain ⟨e1, _⟩ := hok b _ z
        obtain ⟨e2, _⟩ := hok' b _ (st.ext b (.frz ob (.lst (ns.map V.int))) True.intro z)
        rw [e1] at e
        exact e2.trans e
  cases hk : K.lookup a with
  | some o =>
    have e : o = ob := Option.some.inj ((KX a o hk).symm.trans ha)
    subst e
    exact core (fun _ => none) (fun _ => .inl rfl) (.inr (.inr ⟨ob, vs.toArray, _, hk, rfl, rfl, rfl, by rw [List.size_toArray, hi.length]; exact hl, by simpa using rv⟩)) fun b u z => (nomatch z)
  | none =>
    refine core (fun b => if b = a then some (.frz ob (.lst (ns.map V.int))) else none) (fun b => ?_) (.inl ⟨ob, if_pos rfl⟩) fun b u z => ?_
    · by_cases hb : b = a
      · exact .inr ⟨hb, hk, if_pos hb⟩
      · exact .inl (if_neg hb)
    · by_cases hb : b = a
      · subst hb
        cases (if_pos rfl).symm.trans z
        exact ⟨ha, by rw [List.length_map]; exact hl, vs, _, rv, ha⟩
      · cases (if_neg hb).symm.trans z
/-- the goal that k_head leaves, from the law's promise -/
theorem walk_top {l : PySem.W.OpenLaw} {n k : Nat} {q : Program} {loose : List Str} {XP : (Str → Option Value) → Heap → Prop} {YP : World → Heap → Prop} {d : DefRec} {K : Params → PySem.W.Frag} {Φ : D → Sto → (D → Sto → Prop) → Prop} {x : Str}
    (hn : l.most = some n) (hn2 : n ≤ sizeLine) (hdf : d.params.defaults = []) (hr : Room k callerA) (hY : ∀ (w : World) (h : Heap), YP w h → (K w.params).In h)
    (F : ∀ (w : World) (mg : Str → Option Value) (fa : Addr) (h : Heap), (K w.params).In h → h.Ns mainGlobals mg → mg d.name = some (.ref fa) →
      ∃ fd : FuncData, (∀ (s : Shared) (u : Value), BindsTo s fd ⟨[u], []⟩ [(x, u)]) ∧ ∀ base : Heap, (K w.params).In base → base.Ns mainGlobals mg → TopOk l.prog w (K w.params) mg base k fa fd x Φ)
    (hΦ : ∀ ns : List Int, ns.length ≤ n → Φ (.scr ns) (fun _ => none) (fun d _ => d = .bl true)) :
    PySem.W.WalkO q loose XP YP l.row.toRowW d [] (fun f vs => PySem.call f vs) :=
  Att.attach_call hn hdf fun w _ _ mg _ fa _ _ _ _ _ _ ns G Y _ _ _ hmg hobj hints hlen hg => by
    obtain ⟨fd, hb, hF⟩ := F w mg fa _ (hY w _ Y) G.T.g hmg
    exact top_call (hY w _ Y) G.T.g G.T.b G.T.builtins G.T.nolimit hg hobj hints (Nat.le_trans hlen hn2) hr hF hb (hΦ ns hlen)
end Dl
/-! Dl13: try: .. except x as n: m = n. -/
namespace Dl
open PySem PySem.Spec PyProof.Rows L2

section
variable {X : Cx} {pins : List (Addr × Obj)} {σ : L2.St} {H : Hp} {s : Shared} {a : Addr} {o : HO}
/-- an object that is there, and that the entry did not have, is tracked from now on -/
theorem inv_track (I : Inv X pins σ H s) (na : H a = none) (n0 : X.s_0.heap.get? a = none) (nL : a ≠ X.env.locals) (nC : ∀ x c, X.env.cells.lookup x = some c → c ≠ a) (nP : ∀ p ∈ X.pn ++ pins, p.1 ≠ a) (new : ObjOk X.prog X.w (upd H a o) s.heap a o) : Inv X pins σ (upd H a o) s := by
  have keep : ∀ {b : Addr} {u : HO}, H b = some u → upd H a o b = some u := fun {b u} e => hp_keep na e
  refine ⟨I.ok, I.os, I.bare, ⟨I.base.keep, I.base.slot, fun b ob e n x => ?_, I.base.there, fun b xs e => keep (I.base.tups b xs e), fun b ob u e => keep (I.base.frzs b ob u e), fun b ps e => ?_⟩, I.loc, I.cell, ?_, fun x c e => ?_, fun p hp => ?_, fun b u e => ?_, I.len⟩
  · rw [upd_ne (fun z => by rw [z, n0] at e; cases e)]
    exact I.base.free b ob e n x
  · obtain ⟨more, q⟩ := I.base.tbls b ps e
    exact ⟨more, keep q⟩
  · rw [upd_ne (Ne.symm nL)]
    exact I.free
  · rw [upd_ne (nC x c e)]
    exact I.freeC x c e
  · obtain ⟨p1, p2, p3⟩ := I.pin p hp
    exact ⟨p1, by rw [upd_ne (nP p hp)]; exact p2, p3⟩
  · by_cases hb : b = a
    · subst hb
      rw [upd_same] at e
      cases e
      exact new
    · rw [upd_ne hb] at e
      exact (I.hok b u e).stay (fun _ _ _ q => q) (fun _ q => keep q) fun _ _ q => keep q
end
/-- what the clause wishes: slot i is n's, slot j is m's -/
def wKeep (K : PySem.W.Frag) (c : Value) (i j : Nat) (Wout : WX) (D : Ends) : WX := fun cls d σ H =>
  ∃ b, PySem.W.exmOne K cls c = some b ∧ (b = true → ∃ C dd, cls = .ref C ∧ d = some dd ∧ H dd ≠ none ∧ ∀ a, H a = none → D.nx (((σ.set i (some (.ref a))).set j (some (.ref a))).set i none) (upd H a (exg a C dd))) ∧ (b = false → Wout cls d σ H)
section
variable {X : Cx} {x n m : Str} {c : Value} {i j : Nat} {body : List Stmt} {np q1 q2 q3 pos pos' : Pos} {tb : WX → TS} {Wout : WX}
theorem ps_try_keep (hex : X.ex = []) (hs : X.stack = X.env :: X.outer) (hf : X.env.frame = some X.env.locals) (hN : X.N.Nodup) (hi : X.N[i]? = some n) (hln : X.env.kindOf n = some .local) (hj : X.N[j]? = some m) (hlm : X.env.kindOf m = some .local) (hc : Names X x c) (tk : Takes X Wout)
    (hd : (n == ("__debug__" : Str)) = false) (hcd : (n == ("__classdict__" : Str)) = false) (hsw : swapsWith (.Name n q2) (some (.Name m q1)) q3.line X.env = pure false)
    (hb : ∀ (W : WX) (pn : List (Addr × Obj)) (xe : Value → Shared → Prop), Takes (X.tr pn xe) W → PassesOwn (model X.prog X.w) X.A X.env xe → PSs (X.tr pn xe) body (tb W)) :
    PS X (.Try body [.ExceptHandler (some (.Name x np)) (some n) [.Assign [.Name m q1] (.Name n q2) q3] pos'] [] [] pos) (fun D σ H => tb (wKeep X.K c i j Wout D) D σ H) := by
  refine ⟨fun pins s σ H D I h => wpAny_Try_except ?_⟩
  have ok := I.ok
  let after : Value → Shared → Prop := fun e s1 => wpAny (model X.prog X.w) X.A (noteFrame e X.env) (fun _ s2 => wpAny (model X.prog X.w) X.A (setFlight e none) (fun _ s3 =>
    wpAny (model X.prog X.w) X.A (handleBy e X.env [.ExceptHandler (some (.Name x np)) (some n) [.Assign [.Name m q1] (.Name n q2) q3] pos']) (SP X pins D) X.xe s3) X.xe s2) X.xe s1
  have caught : Takes (X.tr (X.pn ++ pins) after) (wKeep X.K c i j Wout D) := by
    rintro u s' ⟨a, B, sI, pins', σ', H', cls, d, rfl, J', nb, up, sky, na, os, ag, b, hb1, hyes, hno⟩
    have J : Inv X pins σ' H' sI := J'.ofTry ok
    rw [show (X.tr (X.pn ++ pins) after).stack = X.env :: X.outer from hs] at sky nb
    refine Sky.land Zc.steady (show X.A.frames = some (X.env :: X.outer) by rw [ok.frames, hs]) hf sky fun h3 fl3 up3 => ?_
    have nb' : ∀ b o, sI.heap.get? b = some o → b ∉ frs X.stack → B.get? b = some o := by rw [hs]; exact nb
    have J3 : Inv X pins σ' H' { s' with heap := h3 } := J.landed nb' fl3.1 (up.trans up3) os ag
    -- the exception stands nowhere else
    have apart : ∀ {h : Heap}, HandSPX.FlyingZ B (X.env :: X.outer) a (Zc cls d) h → a ≠ X.env.locals ∧ a ∉ X.fs := fun {h} fl => by
      obtain ⟨oe, vs, he, hz, hdt⟩ := fl.there
      have no : a ∉ frs (X.env :: X.outer) := fun hm => by
        obtain ⟨_, o', e', hnf⟩ := fl.2.2.1.mem hm
        rw [he] at e'
        cases e'
        exact hnf _ hdt
      exact ⟨fun z => no (List.mem_filterMap.mpr ⟨X.env, List.mem_cons_self, by rw [hf, z]⟩), fun hm => no (by
        obtain ⟨e, he, q⟩ := List.mem_filterMap.mp hm
        exact List.mem_filterMap.mpr ⟨e, List.mem_cons_of_mem _ he, q⟩)⟩
    obtain ⟨nL, nF⟩ := apart fl3
    have new : ∀ b o, sI.heap.get? b = some o → b ≠ a := fun b o e z => by
      subst z
      have := nb b o e (fun hm => by
        obtain ⟨ev, hv, q⟩ := List.mem_filterMap.mp hm
        rcases List.mem_cons.mp hv with z | z
        · subst z
          rw [hf] at q
          exact nL (Option.some.inj q).symm
        · exact nF (List.mem_filterMap.mpr ⟨ev, z, q⟩))
      rw [fl3.2.1] at this
      cases this
    obtain ⟨oe3, vs3, he3, hz3, hd3⟩ := fl3.there
    have S3 := J3.suite he3 hd3 na nL nF
    refine wpAny_handleBy_cons (codeAny_handlers_test ?_) (by intro q; cases q)
    have LT : PySem.W.Looks (model X.prog X.w) h3 (typeOf (.ref a)) cls := fun A Q E s k q => wpAny_typeOf_ref (k _ _ he3) (by rw [hz3.1]; exact q)
    have test : ∀ {Q : Value → Shared → Prop} {E : Value → Shared → Prop}, Q c { s' with heap := h3 } → wpAny (model X.prog X.w) (X.A.mark (some (.ref a))) (eval (.Name x np) X.env) Q E { s' with heap := h3 } := fun {Q E} q => by
      obtain ⟨hg, hdbg, hm | ⟨hm, hv, hnn⟩⟩ := hc
      · exact ld_glob (X := X.suite a ((a, oe3) :: (X.pn ++ pins))) S3 hg hm q hdbg
      · exact ld_blt (X := X.suite a ((a, oe3) :: (X.pn ++ pins))) S3 hg hm hv q hnn hdbg
    refine test ((PySem.W.exm_one (M := model X.prog X.w) J3.kIn LT hb1).here ?_)
    cases b with
    | false =>
      obtain ⟨k1, k2, k3, oe, vs, T, oT, ts', he, hz, hdt, h1, hr⟩ := id fl3
      show wpAny _ X.A (handleBy (.ref a) X.env []) _ _ _
      refine wpAny_handleBy_nil ?_
      unfold PySem.passOn
      refine wpAny_bind (wpAny_field he hdt h1 ?_)
      rw [if_neg (show ¬ ((Value.ref T == Value.none) = true) from by simp)]
      have fin : wpAny (model X.prog X.w) X.A (setFlight (.ref a) X.env.frame) (fun _ s4 => wpAny (model X.prog X.w) X.A (throw (.ref a) : Sem Flow) (SP X pins D) X.xe s4) X.xe { s' with heap := h3 } := by
        rw [hf]
        exact HandSPX.setFlight_upZ fl3 fun h4 hh4 up4 => wpAny_throw (tk _ _ ⟨a, B, sI, pins, σ', H', cls, d, rfl, J, nb', (up.trans up3).trans up4, .inr (.inr (by rw [hs]; exact hh4)), na, os, ag, hno rfl⟩)
      first
        | exact wpAny_bind (wpAny_pure (wpAny_bind fin))
        | exact wpAny_bind fin
    | true =>
      obtain ⟨C, dd, rfl, rfl, hdd, hq⟩ := hyes rfl
      refine codeAny_handlers_suite_as (HandSPX.lands_againZ fl3 fun h4 fl4 up4 => ?_)
      have J4 : Inv X pins σ' H' { s' with heap := h4 } := J.landed nb' fl4.1 ((up.trans up3).trans up4) os ag
      obtain ⟨oe4, vs4, he4, hz4, hd4⟩ := fl4.there
      have S4 := J4.suite he4 hd4 na nL nF
      refine store_ok (X := X.suite a ((a, oe4) :: (X.pn ++ pins))) (v := .ref a) S4 hN hi (.inl hln) rfl (fun s5 S5 => ?_) (.inr hln)
      have hiL : i < σ'.length := by rw [J.len]; exact (List.getElem?_eq_some_iff.mp hi).1
      have asg : PSs (X.suite a ((a, oe4) :: (X.pn ++ pins))) [.Assign [.Name m q1] (.Name n q2) q3] (tAsg (tVar i) (gName j)) := pss_one (ps_set hN hj (.inl hlm) (pe_var hi (.inl hln) hd hcd) hsw (.inr hlm))
      refine wpAny_mono (asg.run [] s5 _ H' { nx := fun σ6 H6 => σ6 = (σ'.set i (some (.ref a))).set j (some (.ref a)) ∧ H6 = H', rt := fun _ _ => False, bk := fun _ _ => False, ct := fun _ _ => False } S5 ⟨.ref a, by rw [List.getElem?_set_self hiL], rfl, rfl⟩) (fun f s6 hsp => ?_) (fun _ _ z => False.elim z)
      cases f with
      | next =>
        obtain ⟨σ6, H6, S6, e6, e7⟩ := hsp
        subst e6 e7
        obtain ⟨p1, p2, p3, p4, p5⟩ := S6.pin (a, oe4) (List.mem_append_left _ List.mem_cons_self)
        have J6 : Inv X ((a, oe4) :: pins) _ H6 s6 := (S6.unsuite ok).pins_of fun p hp => by
          rcases List.mem_cons.mp hp with rfl | hp
          · exact ⟨p1, p2, p3, p4, p5⟩
          · exact (S6.unsuite ok).pin p (List.mem_append_right _ hp)
        refine gone_ok J6 hN hi hln fun s7 J7 => ?_
        have pa := (J7.pin (a, oe4) (List.mem_append_right _ List.mem_cons_self)).1
        have J8 : Inv X pins _ H6 s7 := J7.pins_of fun p hp => J7.pin p (List.mem_append_right _ (List.mem_cons_of_mem _ hp))
        refine ⟨_, _, inv_track J8 na ?_ nL (fun y c e => ?_) (fun p hp => ?_) (exg_ok pa hz4.1 hz4.2 hd4), hq a na⟩
        · cases e0 : X.s_0.heap.get? a with
          | none => rfl
          | some o0 =>
            obtain ⟨o', e'⟩ := J.base.there a o0 e0 (by rw [hex]; simp)
            exact absurd rfl (new a o' e')
        · obtain ⟨v, oc, e', _⟩ := J.cell y c e
          exact new c oc e'
        · exact new p.1 p.2 (J.pin p hp).1
      | brk => obtain ⟨_, _, _, z⟩ := hsp; exact z.elim
      | cont => obtain ⟨_, _, _, z⟩ := hsp; exact z.elim
      | ret u => obtain ⟨_, _, _, _, _, z⟩ := hsp; exact z.elim
  refine wpAny_mono ((hb (wKeep X.K c i j Wout D) (X.pn ++ pins) after caught PassesOwn.looking).run [] s σ H D (I.toTry _) h) (fun f s1 hsp => ?_) fun _ _ z => z
  cases f with
  | next => obtain ⟨σ', H', J', q⟩ := hsp; exact wpAny_execs_nil ⟨σ', H', J'.ofTry ok, q⟩
  | brk => obtain ⟨σ', H', J', q⟩ := hsp; exact ⟨σ', H', J'.ofTry ok, q⟩
  | cont => obtain ⟨σ', H', J', q⟩ := hsp; exact ⟨σ', H', J'.ofTry ok, q⟩
  | ret u => obtain ⟨v, σ', H', J', r, q⟩ := hsp; exact ⟨v, σ', H', J'.ofTry ok, r, q⟩
end

/-! ### over data -/
/-- what the clause makes of an exception -/
def wT (K : PySem.W.Frag) (c : Value) (i j : Nat) (Eo : EW) (O : DOut) : EW := fun C fs ρ S => ∃ b, PySem.W.exmOne K (.ref C) c = some b ∧
  (b = true → ∀ a, S a = none → O.nx (((ρ.set i (some (.ref a))).set j (some (.ref a))).set i none) (put S a (.exc C fs))) ∧ (b = false → Eo C fs ρ S)
/-- families of later states -/
def Later (K : PySem.W.Frag) (B B' : Fam) : Prop := ∀ β', B' β' → ∃ β, B β ∧ β'.Z = β.Z ∧ Step ⟨K, β.Z⟩ β.S0 β.H0 β'.S0 β'.H0
def dTry (K : PySem.W.Frag) (c : Value) (i j : Nat) (Eo : EW) (t : EW → TDS) : TDS := fun O ρ S => t (wT K c i j Eo O) O ρ S
section
variable {X : Cx} {B : Fam} {x n m : Str} {c : Value} {i j : Nat} {body : List Stmt} {np q1 q2 q3 pos pos' : Pos} {t : EW → TDS} {Eo : EW}
theorem ds_try (hex : X.ex = []) (hs : X.stack = X.env :: X.outer) (hf : X.env.frame = some X.env.locals) (hN : X.N.Nodup) (hi : X.N[i]? = some n) (hln : X.env.kindOf n = some .local) (hj : X.N[j]? = some m) (hlm : X.env.kindOf m = some .local) (hc : Names X x c) (tk : RaisesD X B Eo)
    (hd : (n == ("__debug__" : Str)) = false) (hcd : (n == ("__classdict__" : Str)) = false) (hsw : swapsWith (.Name n q2) (some (.Name m q1)) q3.line X.env = pure false)
    (hb : ∀ (pn : List (Addr × Obj)) (xe : Value → Shared → Prop) (B' : Fam) (E' : EW), RaisesD (X.tr pn xe) B' E' → Later X.K B B' → PassesOwn (model X.prog X.w) X.A X.env xe → DSs (X.tr pn xe) B' body (t E')) :
    DS X B (.Try body [.ExceptHandler (some (.Name x np)) (some n) [.Assign [.Name m q1] (.Name n q2) q3] pos'] [] [] pos) (dTry X.K c i j Eo t) := fun β hB => by
  refine (ps_try_keep (Wout := wE ⟨X.K, β.Z⟩ β.S0 β.H0 Eo)
    (tb := fun W D σ H => ∃ ρ S E' O', Step ⟨X.K, β.Z⟩ β.S0 β.H0 S H ∧ SR ⟨X.K, β.Z⟩ S H σ H ρ S ∧ (∀ cls d σ' H', wE ⟨X.K, β.Z⟩ S H E' cls d σ' H' → W cls d σ' H') ∧ t E' O' ρ S ∧ OutR ⟨X.K, β.Z⟩ S H S H O' D)
    hex hs hf hN hi hln hj hlm hc (tk β hB) hd hcd hsw fun W pn xe hT hP => ⟨fun pins s σ H D I ⟨ρ, S, E', O', s0, sr, hW, ht, ho⟩ => ?_⟩).imp fun D σ H ⟨ρ, S, O, sr, ht, ho⟩ => ?_
  · exact (hb pn xe (fun β' => β' = ⟨β.Z, S, H⟩) E' (fun β' hβ' => by subst hβ'; exact hT.imp hW) (fun β' hβ' => by subst hβ'; exact ⟨β, hB, rfl, s0⟩) hP ⟨β.Z, S, H⟩ rfl).run pins s σ H D I ⟨ρ, S, O', sr, ht, ho⟩
  · have up : ∀ {σ' H' ρ' S'}, SR ⟨X.K, β.Z⟩ S H σ' H' ρ' S' → SR ⟨X.K, β.Z⟩ β.S0 β.H0 σ' H' ρ' S' := fun q => ⟨q.env, q.ok, sr.st.trans q.st⟩
    refine ⟨ρ, S, wT X.K c i j Eo O, O, sr.st, ⟨sr.env, sr.ok, .refl⟩, fun cls d σ' H' ⟨C, fs, ρ', S', dd, kvs, e1, e2, hdd, hk, rs, q, b, hb1, hyes, hno⟩ => ⟨b, by rw [e1]; exact hb1, fun hbt => ⟨C, dd, e1, e2, by rw [hdd]; simp, fun a na => ?_⟩, fun hbf => ⟨C, fs, ρ', S', dd, kvs, e1, e2, hdd, hk, rs, up q, hno hbf⟩⟩, ht,
      ⟨fun ρ' S' p σ' H' q st => ho.nx ρ' S' p σ' H' (up q) st, fun d S' p v H' ok _ st r => ho.rt d S' p v H' ok (sr.st.trans st) st r, fun ρ' S' p σ' H' q st => ho.bk ρ' S' p σ' H' (up q) st, fun ρ' S' p σ' H' q st => ho.ct ρ' S' p σ' H' (up q) st⟩⟩
    have na' := q.ok.fresh na
    have st1 : Step ⟨X.K, β.Z⟩ S' H' (put S' a (.exc C fs)) (upd H' a (exg a C dd)) := .made na
    have ok1 : SOk ⟨X.K, β.Z⟩ (put S' a (.exc C fs)) (upd H' a (exg a C dd)) := q.ok.made na ⟨dd, kvs, upd_same, .inr (hp_keep na hdd), hk, rs.step st1⟩
    refine ho.nx _ _ (hyes hbt a na') _ _ ⟨?_, ok1, (sr.st.trans q.st).trans st1⟩ (q.st.trans st1)
    exact (((q.env.step st1).set (v := .ref a) (d := .ref a) rfl).set (v := .ref a) (d := .ref a) rfl).unset
end
end Dl
/-! Dl14: raise, repr, own == and !=, calls with keywords, over data. -/
namespace Dl
open PySem PySem.Spec PyProof.Rows L2

/-- raise C(e, ..) -/
def dRaise (E : EW) (C : Addr) (fs : List Str) (t : TDA) : TDS := fun _ ρ S => t ρ S fun ds S1 => ds.length = fs.length ∧ ds.length ≤ 1000 ∧ E C (fs.zip ds).reverse ρ S1
section
variable {X : Cx} {B : Fam} {k : Nat} {C fI : Addr} {fd : FuncData} {fs : List Str} {x fl : Str} {p pos pos' : Pos} {e : Expr} {es : List Expr} {ta : TDA} {E : EW}
theorem ds_raise (T : ExcD X.prog X.w X.K X.mg X.base k C fI fd fs) (hc : X.calm = true) (hr : Room (k + 1) X.A) (hg : Gl X x) (hm : X.mg x = some (.ref C)) (hb : Binds X.K fd (("self" : Str) :: fs) []) (hx : Passes (L2.CX X.prog X.w) X (fun _ _ _ => False)) (hE : RaisesD X B E)
    (ha : DA X B (e :: es) ta) (hdb : (x == ("__debug__" : Str)) = false := by decide) (he : starEach (e :: es) X.env = (false, eval e X.env) :: starEach es X.env := by rfl) (hpl : (backTo pos (starEach es X.env)).any (·.1) = false := by rfl) :
    DS X B (.Raise (some (.Call (.Name x p) (e :: es) [] pos)) none pos') (dRaise E C fs ta) := fun β hB =>
  (ps_raise hc (hE β hB) (pmk_oex T.oex T.ini T.typ T.fn hr hb (dvs := []) (ds := []) .nil hx hg hm (ha β hB) hdb he hpl)).imp fun D σ H ⟨ρ, S, O, sr, h, o⟩ => ⟨ρ, S, _, sr, h, fun ds S1 h1 vs H1 ok1 st1 r1 => by
    obtain ⟨hl, hz, q⟩ := h1
    have hlv : vs.length = fs.length := r1.length.trans hl
    refine ⟨by rw [r1.length]; exact hz, fun a na => ⟨a, vs, by simp, hlv, upd_same, fun dx h1 h2 => ⟨rfl, dx, (fs.zip vs).reverse, upd_same, by rw [upd_ne h2, upd_same], by rw [← h1, upd_ne h2], ?_⟩⟩⟩
    have nd : H1 dx = none := by rw [← h1, upd_ne h2]
    have eH : upd (del (upd (upd (upd H1 a (exo a C none)) dx (exd dx (fs.zip vs).reverse)) a (exo a C (some dx))) a) dx (.xd (fs.zip vs).reverse) = upd H1 dx (.xd (fs.zip vs).reverse) := by
      funext b
      unfold upd del
      by_cases hb : b = dx
      · simp [hb]
      · by_cases ha : b = a
        · simp [ha, hb, na]
        · simp [hb, ha]
    rw [eH]
    have st2 : Step ⟨X.K, β.Z⟩ S1 H1 S1 (upd H1 dx (.xd (fs.zip vs).reverse)) := .laid nd
    have ok2 : SOk ⟨X.K, β.Z⟩ S1 (upd H1 dx (.xd (fs.zip vs).reverse)) := ok1.laid nd
    refine ⟨C, (fs.zip ds).reverse, ρ, S1, dx, (fs.zip vs).reverse, rfl, rfl, upd_same, ?_, ?_, sr.step ok2 (st1.trans st2), q⟩
    · rw [List.map_reverse, List.map_reverse, List.map_fst_zip (by omega), List.map_fst_zip (by omega)]
    · rw [List.map_reverse, List.map_reverse, List.map_snd_zip (by omega), List.map_snd_zip (by omega)]
      exact (r1.step st2).reverse⟩
end

/-! ### repr -/
mutual
theorem noDictD : ∀ d : D, (pyD d).hasDict = false
  | .non => rfl
  | .bl _ => rfl
  | .int _ => rfl
  | .str _ => rfl
  | .tup xs => noDictDs xs
  | .lst xs => noDictDs xs
  | .ty _ => rfl
  | .ref _ => rfl
  | .scr _ => rfl
  | .dic _ _ => rfl
theorem noDictDs : ∀ ds : List D, PyData.hasDictAll (pyDs ds) = false
  | [] => rfl
  | d :: ds => by
    show ((pyD d).hasDict || PyData.hasDictAll (pyDs ds)) = false
    rw [noDictD d, noDictDs ds]; rfl
end
def isCont : D → Bool
  | .tup _ => true
  | .lst _ => true
  | _ => false
/-- repr of a list, a tuple of plain data -/
def reprR : RD1 := fun d S Q => ∃ e, topD S d = e ∧ isCont e = true ∧ plain e = true ∧ (pyD e).showable = true ∧ (pyD e).shown.length ≤ sizeLine ∧ (pyD e).depth ≤ 100 ∧ Q (.str (pyD e).shown) S
theorem cd_repr {X : Cx} (hg : X.A.guards = some []) (hu : X.A.units + 128 < cLine) : CallD X (.builtin "repr") (one reprR) := call_one fun Z pins s σ H v us Q d S P I rx rv ok h k => by
  obtain ⟨e, rfl, hc, hp, hs, hz, hdp, q⟩ := h
  have dp := dp_top ok rv hp
  obtain ⟨u, rfl, ru⟩ := vals1 rx
  obtain ⟨as, rd⟩ := Dp.reads I _ v u dp ru
  obtain ⟨a, rfl⟩ : ∃ a, u = .ref a := by
    cases d with
    | tup xs => obtain ⟨a, _, rfl, _⟩ := rv; exact ⟨a, ru⟩
    | lst xs => obtain ⟨a, _, rfl, _⟩ := rv; exact ⟨a, ru⟩
    | ref a => cases (show v = .ref a from rv); exact ⟨a, ru⟩
    | _ => cases hc
  obtain ⟨hp', g, dr, t, os⟩ := s
  exact repr_of_reads' rd hs (fun z => by rw [noDictD] at z; cases z) hg (by omega) (fun _ _ e => e) (fun h' u tk hk => ⟨.str _, H, I.kept hk, ⟨_, rfl⟩, k _ _ q _ _ ok .refl rfl⟩) hz

/-! ### own == and != -/
/-- x == y, x a thing of a class of cs with its own __eq__ -/
def ownEqR (K : PySem.W.Frag) (T : CT) (cs : List Addr) (neg : Bool) (Φ : Phi) : RD2 := fun x y S Q => match x with
  | .ref a => ∃ C fs t, C ∈ cs ∧ S a = some (.ins C fs) ∧ tyV T S y = some t ∧ PySem.W.notFirst K C t = true ∧ Φ [.ref a, y] S (fun r S' => ∃ b, r = .bl b ∧ Q (.bl (if neg then !b else b)) S') fun _ _ _ => False
  | _ => False
theorem od_ownEq {X : Cx} {T : CT} {cs : List Addr} {f : Addr} {fd : FuncData} {ps : List Str} {k : Nat} {Φ : Phi} (TO : CTOk X.K T) (F : FnD X.prog X.w X.K X.mg X.base k f fd ps Φ) (hps : ps.length = 2) (hr : Room k X.A) (hb : Binds X.K fd ps [])
    (hcs : ∀ C, C ∈ cs → PySem.W.findIn X.K (.ref C) "__eq__" = some (some (.ref f))) (hf : PySem.W.isFn X.K (.ref f) = true) : OpD X (compareOp .Eq) (ownEqR X.K T cs false Φ) := by
  intro Z pins s σ H x y v u Q I rx ry h
  obtain ⟨dx, dy, S, P, r1, r2, ok, h, k⟩ := h
  cases dx with
  | ref a =>
    obtain ⟨C, fs, t, hC, hS, ht, hn, hΦ⟩ := h
    obtain ⟨da, kvs, hH, hk, rs⟩ := ok.rep a _ hS
    obtain rfl : x = .ref a := r1
    obtain rfl : v = .ref a := rx
    obtain ⟨mA, J, _⟩ := ins_get I.hok hH
    obtain ⟨od, J, _⟩ := J.look
    obtain ⟨m, hF⟩ := I.fr
    obtain ⟨P', Zk, p, _⟩ := kit_ofD TO I ok r2 ry ht
    show wpAny (model X.prog X.w) X.A (richCompare .Eq (.ref a) u) _ _ _
    refine PySem.W.cmp_K (op := .Eq) hr.units0 hF I.ok.mod.kin J (Zk.ty _ _ I.kIn p) hn (hcs C hC) hf ?_
    have rs2 : Reps ⟨X.K, Z⟩ S H [V.ref a, y] [.ref a, dy] := .cons rfl (.cons r2 .nil)
    have hsp : spD X.K ps.length Φ [V.ref a, y] H (fun v H' => ∃ b, v = .bl b ∧ Q v H') C8.E0 := by
      refine ⟨by rw [hps]; rfl, Z, _, S, _, _, rs2, ok, hΦ, fun r S' ⟨b, e, q⟩ w H' ok' st' rw' => ?_, fun C fs S' z => z.elim⟩
      subst e
      exact ⟨b, rw', k _ _ q _ _ ok' st' rw'⟩
    refine wpAny_call (codeAny_mono (F.run X.A X.stack s H ⟨[.ref a, u], []⟩ [.ref a, u] [V.ref a, y] _ C8.E0 hr I.env0 (by
      have := hb s [.ref a, u] I.kIn (by simp [hps])
      simpa using this) (.cons rfl (.cons ry .nil)) hsp) fun r s' hq => ?_)
    cases r with
    | error e => exact (passL (X := X) pins σ H s e s' I hq)
    | ok fl =>
      cases fl with
      | ret w =>
        obtain ⟨z, H', I', rz, b, ez, q⟩ := I.after hq
        subst ez
        cases rz
        exact (show EP X pins σ Q (.bool b) s' from ⟨V.bl b, H', I', rfl, q⟩)
      | next => exact False.elim hq
      | brk => exact False.elim hq
      | cont => exact False.elim hq
  | _ => exact h.elim

section
open PySem.W
variable {prog : Program} {w : World} {A : Around} {E : Value → Shared → Prop} {s : Shared} {K : Frag} {x C f : Addr} {ox : Obj} {od : Option Obj} {b tb : Value}
theorem ifBound_builtin {M : Model} {name : Str} {i T n : String} {args : List Value} {Q : Option Value → Shared → Prop} (X : K.In s.heap) (I : InstAt s.heap x ox C od) (hs : findIn K (.ref C) name = some (some (.builtin i))) (sl : Slot T n i)
    (h : wpAny M A (call (.builtin i) (.ref x :: args)) (fun v => Q (some v)) E s) : wpAny M A (callSpecialIfBound? (.ref x) name args) Q E s := by
  simp only [callSpecialIfBound?, bindSpecialIfBound?]
  refine wpAny_holding (wpAny_bind (wpAny_bind (wpAny_bind (I.type.here ((looks_findIn X hs).here ?_)))))
  simp only [sl.bind]
  have fin : wpAny M A (call (.builtin i) ([.ref x] ++ args) >>= fun v => pure (some v)) Q E s := wpAny_bind (wpAny_mono h (fun _ _ q => wpAny_pure q) fun _ _ q => q)
  refine wpAny_bind (wpAny_askSetting (wpAny_ite ?_))
  split
  · exact wpAny_bind (wpAny_pure (wpAny_pure fin))
  · exact wpAny_tryCatch (wpAny_bind (wpAny_pure (wpAny_pure fin)))
/-- x != b where the class has its own __eq__ and no __ne__ -/
theorem ne_own {Q : Value → Shared → Prop} (hu : A.units + 1 < cLine) (X : K.In s.heap) (I : InstAt s.heap x ox C od) (hb : Looks (model prog w) s.heap (typeOf b) tb) (hn : notFirst K C tb = true)
    (hne : findIn K (.ref C) "__ne__" = some (some (.builtin "object.__ne__"))) (hs : findIn K (.ref C) "__eq__" = some (some (.ref f))) (hf : isFn K (.ref f) = true) (hm : mroIn K C (.type "object") = some true)
    (h : wpAny (model prog w) A.in1 (call (.ref f) [.ref x, b]) (fun v s' => ∃ k, v = .bool k ∧ Q (.bool (!k)) s') E s) : wpAny (model prog w) A (richCompare .NotEq (.ref x) b) Q E s := by
  have entry : wpAny (model prog w) A.in1 (Builtin.«object.__ne__» ⟨[.ref x, b], []⟩) (fun fin s' => match fin with | .done fl => (match fl with | .ret v => ∃ k, v = .bool (!k) ∧ Q (.bool (!k)) s' | _ => False) | .again _ => False) E s := by
    unfold Builtin.«object.__ne__»
    repeat (first
      | with_reducible refine wpAny_cRoomFor hu ?_
      | (refine wpAny_bind (m := callSpecialIfBound? (.ref x) (Str.ofString "__eq__") [b]) (ifBound_K X I hs hf (wpAny_mono h (fun r s' hr => by
          obtain ⟨k, rfl, hq⟩ := hr
          repeat (first | exact ⟨k, rfl, hq⟩ | exact wpAny_pure ⟨k, rfl, hq⟩ | exact wpAny_truthy_bool ⟨k, rfl, hq⟩ | (refine wpAny_bind (m := truthy (.bool _)) (wpAny_truthy_bool ?_)) | wp_step)) fun _ _ e => e)))
      | wp_step)
  have one : wpAny (model prog w) A (tryCompare (.ref x) (cmpInfo .NotEq).2.1 b) (fun r s' => ∃ k, r = some (.bool k) ∧ Q (.bool k) s') E s := by
    unfold tryCompare
    refine wpAny_bind (ifBound_builtin X I hne F.cmp_object.ne ?_)
    refine wpAny_call (codeAny_call_builtin F.cmp_object.ne.plain F.cmpEntry_ne (check_slot F.cmpKind_ne F.cmpSplit_ne (I.type.andThen (looks_mroIn X hm)) (F.cmpArgs_ne _ _) (wpAny_mono entry (fun fin s' hq => ?_) fun _ _ e => e)))
    cases fin with
    | again c => exact hq.elim
    | done fl =>
      cases fl with
      | ret v =>
        obtain ⟨k, rfl, q⟩ := hq
        exact wpAny_pure ⟨_, rfl, q⟩
      | _ => exact hq.elim
  unfold richCompare
  simp only [oneThing_ref]
  refine wpAny_holding (wpAny_bind (wpAny_cRoomFor (Nat.lt_of_succ_lt hu) ?_))
  refine wpAny_bind (I.type.here (wpAny_bind (hb.here ?_)))
  have last : wpAny (model prog w) A (tryCompare (.ref x) (cmpInfo .NotEq).2.1 b) (fun r s' => ∃ v, r = some v ∧ Q v s') E s := wpAny_mono one (fun r s' ⟨k, e, q⟩ => ⟨_, e, q⟩) fun _ _ e => e
  split
  · rename_i q
    have e : subIn K tb (.ref C) = some false := by
      rcases Bool.or_eq_true_iff.mp hn with e | e
      · rw [beq_iff_eq.mp e] at q; simp at q
      · exact beq_iff_eq.mp e
    refine wpAny_bind ((looks_subIn X e).here ?_)
    simp only [Bool.false_eq_true, if_false]
    exact wpAny_bind (wpAny_mono last (fun r s' ⟨v, e, q⟩ => by subst e; exact wpAny_pure q) fun _ _ e => e)
  · refine wpAny_bind (wpAny_pure ?_)
    simp only [Bool.false_eq_true, if_false]
    exact wpAny_bind (wpAny_mono last (fun r s' ⟨v, e, q⟩ => by subst e; exact wpAny_pure q) fun _ _ e => e)
end
theorem od_ownNe {X : Cx} {T : CT} {cs : List Addr} {f : Addr} {fd : FuncData} {ps : List Str} {k : Nat} {Φ : Phi} (TO : CTOk X.K T) (F : FnD X.prog X.w X.K X.mg X.base k f fd ps Φ) (hps : ps.length = 2) (hr : Room (k + 1) X.A) (hb : Binds X.K fd ps [])
    (hcs : ∀ C, C ∈ cs → PySem.W.findIn X.K (.ref C) "__eq__" = some (some (.ref f)) ∧ PySem.W.findIn X.K (.ref C) "__ne__" = some (some (.builtin "object.__ne__")) ∧ PySem.W.mroIn X.K C (.type "object") = some true) (hf : PySem.W.isFn X.K (.ref f) = true) :
    OpD X (compareOp .NotEq) (ownEqR X.K T cs true Φ) := by
  intro Z pins s σ H x y v u Q I rx ry h
  obtain ⟨dx, dy, S, P, r1, r2, ok, h, k⟩ := h
  cases dx with
  | ref a =>
    obtain ⟨C, fs, t, hC, hS, ht, hn, hΦ⟩ := h
    obtain ⟨da, kvs, hH, hk, rs⟩ := ok.rep a _ hS
    obtain rfl : x = .ref a := r1
    obtain rfl : v = .ref a := rx
    obtain ⟨mA, J, _⟩ := ins_get I.hok hH
    obtain ⟨od, J, _⟩ := J.look
    obtain ⟨P', Zk, p, _⟩ := kit_ofD TO I ok r2 ry ht
    obtain ⟨c1, c2, c3⟩ := hcs C hC
    show wpAny (model X.prog X.w) X.A (richCompare .NotEq (.ref a) u) _ _ _
    refine ne_own (by have := hr.un; omega) I.kIn J (Zk.ty _ _ I.kIn p) hn c2 c1 hf c3 ?_
    have rs2 : Reps ⟨X.K, Z⟩ S H [V.ref a, y] [.ref a, dy] := .cons rfl (.cons r2 .nil)
    have hsp : spD X.K ps.length Φ [V.ref a, y] H (fun v H' => ∃ b, v = .bl b ∧ Q (.bl (!b)) H') C8.E0 := by
      refine ⟨by rw [hps]; rfl, Z, _, S, _, _, rs2, ok, hΦ, fun r S' ⟨b, e, q⟩ w H' ok' st' rw' => ?_, fun C fs S' z => z.elim⟩
      subst e
      exact ⟨b, rw', k _ _ q _ _ ok' st' rfl⟩
    have e := I.env0
    have e1 : Env0 X.prog X.w X.K X.mg X.base X.A.in1 X.stack s H := ⟨e.frames, e.mod, e.bs, e.bsz, e.funs, e.frf, e.hok, e.bare⟩
    refine wpAny_call (codeAny_mono (F.run X.A.in1 X.stack s H ⟨[.ref a, u], []⟩ [.ref a, u] [V.ref a, y] _ C8.E0 hr.in1 e1 (by
      have := hb s [.ref a, u] I.kIn (by simp [hps])
      simpa using this) (.cons rfl (.cons ry .nil)) hsp) fun r s' hq => ?_)
    cases r with
    | error e => exact (passL (X := X) pins σ H s e s' I hq)
    | ok fl =>
      cases fl with
      | ret w =>
        obtain ⟨z, H', I', rz, b, ez, q⟩ := I.after hq
        subst ez
        cases rz
        exact ⟨b, rfl, V.bl (!b), H', I', rfl, q⟩
      | next => exact False.elim hq
      | brk => exact False.elim hq
      | cont => exact False.elim hq
  | _ => exact h.elim
end Dl
/-! Dl15: x(lambda: body) over data. -/
namespace Dl
open PySem PySem.Spec PyProof.Rows L2 LamX

/-- a(), a the lambda at f; tl: what its body does -/
def dAct (i : Nat) (f : Addr) (E : EW) (tl : EX → Sto → (D → Sto → Prop) → Prop) : TDE := fun ρ S Q => ρ[i]? = some (some (.ref f)) ∧ tl (fun C fs S' => E C fs ρ S') S Q
section
variable {X : Cx} {pins : List (Addr × Obj)} {σ : L2.St} {H : Hp} {s : Shared}
theorem de_act {Eg : XK} {Ng : List Str} {qg : Str} {sg : Scope} {g f c' : Addr} {cdg pm ctv : Value} {params : Arguments} {body : Expr} {scope : Scope} {k i : Nat} {a : Str} {pn : List (Addr × Obj)} {xe : Value → Shared → Prop} {B' : Fam} {E' : EW} {tb : EX → TDE} {ρX : DEnv} {Z : Addr → Prop} {S1 : Sto} {p1 p2 : Pos}
    (I : Inv X pins σ H s) (L : LamS X.env.scope scope) (hf : s.heap.get? f = some (PySem.W.kla_obj "<lambda>" (X.env.qual ++ "<lambda>") params body scope (cloFrom X.env.cells scope.names []) pm c' ctv)) (hfn : H f = none) (hfr : f ∉ frs X.stack)
    (hbind : bindArgs (PySem.W.kla_fn "<lambda>" (X.env.qual ++ "<lambda>") params body scope (cloFrom X.env.cells scope.names []) pm (.ref c') ctv) ⟨[], []⟩ = pure [])
    (hE : RaisesD ((cxOf (L2.CX X.prog X.w) X.prog X.w X.K X.mg X.base Ng qg sg g cdg X.A X.stack s H Eg).tr pn xe) B' E') (hr : Room (k + 1) (X.A.deeper (envOfC qg sg s.heap.objs.size g cdg)))
    (hB : ∀ β', B' β' → β'.Z = Z ∧ Step ⟨X.K, Z⟩ S1 H β'.S0 β'.H0) (er : ERep ⟨X.K, Z⟩ S1 H σ ρX) (hco : H c' = some (CodeO c' (X.env.qual ++ "<lambda>")))
    (hbody : ∀ (A : Around) (outer : List Env) (s : Shared) (H : Hp) (E : XK) (f c' : Addr) (B : Fam) (PE : EX), Room k (lamCx X A outer s H E scope f c').A → RaisesD (lamCx X A outer s H E scope f c') B (fun C fs _ S => PE C fs S) → DE (lamCx X A outer s H E scope f c') B body (tb PE))
    (hN : Ng[i]? = some a) (hv : Vis sg a) (hd : (a == ("__debug__" : Str)) = false) (hcd : (a == ("__classdict__" : Str)) = false) :
    DE ((cxOf (L2.CX X.prog X.w) X.prog X.w X.K X.mg X.base Ng qg sg g cdg X.A X.stack s H Eg).tr pn xe) B' (.Call (.Name a p1) [] [] p2) (dAct i f E' fun PE S Q => tb PE ρX S Q) := fun β' hB' => by
  obtain ⟨hZ, st0⟩ := hB β' hB'
  subst hZ
  refine ⟨fun pinsZ sZ σZ HZ Q IZ ⟨ρ, S, P, sr, ⟨h1, h2⟩, kq⟩ => ?_⟩
  obtain ⟨v, hs, rv⟩ := sr.env.at_ i _ h1
  obtain rfl : v = .ref f := rv
  refine wpAny_Call_Name_kw (thn ((pe_var (pos := p1) (i := i) hN hv hd hcd).run pinsZ sZ σZ HZ (fun v H1 => v = .ref f ∧ H1 = HZ) IZ ⟨.ref f, hs, rfl, rfl⟩) fun u s1 ⟨v, H1, I1, r1, ev, eH⟩ => ?_)
  subst ev
  rw [eH] at I1
  obtain rfl : u = Value.ref f := r1
  have at1 := I1.base.keep f _ hf hfn hfr (fun z => nomatch (show f ∈ ([] : List Addr) from z))
  have stS : Step ⟨X.K, β'.Z⟩ S1 H S HZ := st0.trans sr.st
  obtain ⟨⟨oc, vs, t, hoc, hdc, hvc⟩, _, _⟩ := I1.hok c' _ (stS.ext c' (CodeO c' (X.env.qual ++ "<lambda>")) True.intro hco)
  refine PySem.W.callWith_F0 ⟨_, _, _, _, at1⟩ ?_
  let E : XK := WE (wE ⟨X.K, β'.Z⟩ β'.S0 β'.H0 E') σZ
  have run : codeAny (model X.prog X.w) (X.A.deeper (envOfC qg sg s.heap.objs.size g cdg)) (.call (.ref f) ⟨[], []⟩) (CR (L2.CX X.prog X.w) (envOfC qg sg s.heap.objs.size g cdg :: X.stack) X.prog X.w HZ s1 Q E) s1 := by
    refine PySem.W.kla_callFunE hr.depth at1 rfl L.co L.gen rfl ⟨c', oc, vs, t, rfl, hoc, hdc, hvc⟩ ?_
    rw [hbind]
    refine wpAny_pure (wpAny_newFunctionEnv (fun y hy => (L.own y hy).2) (fun y hy => absurd hy (by simp)) (fun h₁ hns hsb => ⟨I1.nolimit.fresh _ hsb, ?_⟩) L.kind)
    show codeAny _ _ (.expr body (lamEnv X scope s1.heap.objs.size f c')) _ _
    have J := lam_start2 (E := E) (f := f) (c' := c') (tk := s1.toks + ([] : List (Str × Value)).length) I L I1.env0 hr.hd I1.base hns fun b o e => hsb.extBut b o (Nat.ne_of_lt (Heap.lt_size e)) (Heap.get?_push_of_some _ e)
    have tk := hbody (X.A.deeper (envOfC qg sg s.heap.objs.size g cdg)) (envOfC qg sg s.heap.objs.size g cdg :: X.stack) s1 HZ E f c' (fun b => b = ⟨β'.Z, S, HZ⟩) (fun C fs S' => E' C fs ρ S') (hr.deeper _)
      (fun b hb => by
        subst hb
        exact (takes_of (E := E) rfl rfl rfl rfl).imp fun cls d σ' H' ⟨C, fs, ρ', S', dd, kvs, e1, e2, hdd, hk, rs, q, pe⟩ => ⟨C, fs, ρ, S', dd, kvs, e1, e2, hdd, hk, rs, sr.step q.ok q.st, pe⟩) ⟨β'.Z, S, HZ⟩ rfl
    refine PySem.W.kla_codeExpr (wpAny_mono (tk.run [] _ σ HZ Q J ⟨ρX, S, P, ⟨er.step stS, sr.ok, .refl⟩, h2, kq⟩) (fun v s' ⟨w', H', J', rv, q⟩ => ⟨w', H', J'.os, J'.bare, J'.base, J'.hok, rv, q⟩) fun e s' hq => hq)
  refine wpAny_call (codeAny_mono run fun r s' hq => ?_)
  cases r with
  | error e => exact (passAt (hE β' hB') σZ) pinsZ HZ s1 e s' I1 hq
  | ok fl =>
    cases fl with
    | ret u => exact I1.after hq
    | next => exact False.elim hq
    | brk => exact False.elim hq
    | cont => exact False.elim hq
/-- the tables stay well, the rest as it was -/
theorem tab_step {K : Fr} {S : Sto} {H H1 : Hp} {T : List (Addr × Str)} (ok : SOk K S H) (t1 : ∀ b q, S b = some (.tab q) → (b, q) ∈ T) (eN : ExtN H H1) (T1 : Tabs T H1) : SOk K S H1 ∧ Step K S H S H1 := by
  have st : Step K S H S H1 := ⟨fun a vs q => by
      rcases q with q | ⟨ob, q⟩
      · exact .inl (eN _ _ q fun ps z => by cases z)
      · exact .inr ⟨ob, eN _ _ q fun ps z => by cases z⟩, fun a vs n q => ⟨n, eN _ _ q fun ps z => by cases z⟩, fun a kvs n q => ⟨n, by
      rcases q with q | ⟨ob, q⟩
      · exact .inl (eN _ _ q fun ps z => by cases z)
      · exact .inr ⟨ob, eN _ _ q fun ps z => by cases z⟩⟩, fun a o z q => eN _ _ q fun ps e => (ok.nz a z).2.2 ps (by rw [← e]; exact q), fun a o f q => eN _ _ q fun ps z => by subst z; exact f.elim⟩
  refine ⟨⟨fun b o e => ?_, fun b z => ?_, ok.tabs⟩, st⟩
  · have x := ok.rep b o e
    have keep : ∀ u, H b = some u → (∀ ps, u ≠ .tbl ps) → H1 b = H b := fun u q n => by rw [q]; exact eN _ _ q n
    cases o with
    | tab q => exact T1 (b, q) (t1 b q e)
    | lst ds => obtain ⟨vs, h, r⟩ := id x; exact x.step st (keep _ h fun ps z => by cases z)
    | dic ks ds => obtain ⟨vs, h, k, r⟩ := id x; exact x.step st (keep _ h fun ps z => by cases z)
    | ins C fs => obtain ⟨dx, vs, h, k, r⟩ := id x; exact x.step st (keep _ h fun ps z => by cases z)
    | exc C fs => obtain ⟨dx, vs, h, k, r⟩ := id x; exact x.step st (keep _ h fun ps z => by unfold exg at z; cases z)
  · obtain ⟨h1, h2, h3⟩ := ok.nz b z
    cases e : H b with
    | none => exact absurd e h2
    | some u =>
      have q := eN b u e fun ps z => h3 ps (by rw [e, z])
      exact ⟨h1, by rw [q]; simp, fun ps z => h3 ps (by rw [e, ← q]; exact z)⟩
end
/-- x(lambda: body) -/
def dLam (E : EW) (P : Addr) (q : Str) (Ng : List Str) (t : EX → Addr → (EX → Sto → (D → Sto → Prop) → Prop) → TDS) (tb : EX → TDE) : TDE := fun ρ S Q => S P = some (.tab q) ∧
  ∀ f, S f = none → t (fun C fs S' => E C fs ρ S') f (fun PE S' Q' => tb PE ρ S' Q') (bodyO Q) (startD Ng [.ref f]) S
theorem de_lam {X : Cx} {B : Fam} {x a : Str} {g c P : Addr} {k : Nat} {st : Stmt} {fd : FuncData} {Ng : List Str} {params : Arguments} {body : Expr} {scope : Scope} {E : EW} {t : EX → Addr → (EX → Sto → (D → Sto → Prop) → Prop) → TDS} {tb : EX → TDE} {p lpos pos : Pos}
    (F : Fun X.K x x st g fd) (Sg : FnScope Ng [a] (defScope st)) (hb : Binds X.K fd [a] []) (hNg : Ng[0]? = some a) (hva : Vis (defScope st) a) (hg : Gl X x) (hm : X.mg x = some (.ref g)) (TB : TabB X.base X.mg c P) (hcode : X.env.code = .ref c)
    (hr : Room (k + 2) X.A) (L : LamS X.env.scope scope) (hdef : defaultsOf params X.env = ([], [])) (hbind : ∀ (q : Str) (cl : List (Str × Addr)) (pm cv ctv : Value), bindArgs (PySem.W.kla_fn "<lambda>" q params body scope cl pm cv ctv) ⟨[], []⟩ = pure []) (hE : RaisesD X B E)
    (hcal : ∀ (cdv : Value) (A : Around) (outer : List Env) (s : Shared) (H : Hp) (Ex : XK) (B' : Fam) (f : Addr) (tl : EX → Sto → (D → Sto → Prop) → Prop) (PE : EX), Room (k + 1) (cxOf (L2.CX X.prog X.w) X.prog X.w X.K X.mg X.base Ng x (defScope st) g cdv A outer s H Ex).A →
      RaisesD (cxOf (L2.CX X.prog X.w) X.prog X.w X.K X.mg X.base Ng x (defScope st) g cdv A outer s H Ex) B' (fun C fs _ S => PE C fs S) →
      (∀ (pn : List (Addr × Obj)) (xe : Value → Shared → Prop) (B'' : Fam) (E' : EW) (p1 p2 : Pos), RaisesD ((cxOf (L2.CX X.prog X.w) X.prog X.w X.K X.mg X.base Ng x (defScope st) g cdv A outer s H Ex).tr pn xe) B'' E' → Later X.K B' B'' →
        DE ((cxOf (L2.CX X.prog X.w) X.prog X.w X.K X.mg X.base Ng x (defScope st) g cdv A outer s H Ex).tr pn xe) B'' (.Call (.Name a p1) [] [] p2) (dAct 0 f E' tl)) →
      DSs (cxOf (L2.CX X.prog X.w) X.prog X.w X.K X.mg X.base Ng x (defScope st) g cdv A outer s H Ex) B' (defBody st) (t PE f tl))
    (hbody : ∀ (A : Around) (outer : List Env) (s : Shared) (H : Hp) (E : XK) (f c' : Addr) (B : Fam) (PE : EX), Room k (lamCx X A outer s H E scope f c').A → RaisesD (lamCx X A outer s H E scope f c') B (fun C fs _ S => PE C fs S) → DE (lamCx X A outer s H E scope f c') B body (tb PE))
    (hdb : (x == ("__debug__" : Str)) = false := by decide) (hd : (a == ("__debug__" : Str)) = false := by decide) (hcd : (a == ("__classdict__" : Str)) = false := by decide) :
    DE X B (.Call (.Name x p) [.Lambda params body scope lpos] [] pos) (dLam E P (X.env.qual ++ "<lambda>") Ng t tb) := fun β hB => by
  refine ⟨fun pins s σ H Q I ⟨ρ, S, P', sr, ⟨hS, h⟩, kq⟩ => ?_⟩
  obtain ⟨oc, od, kV, doc, pm, an, cdv, ct, osl, efd, lk, hcd'⟩ := F.ex
  subst efd
  obtain ⟨T, t1, t2⟩ := sr.ok.tabs
  refine wpAny_Call_Name_kw (ld_glob I hg hm ?_ hdb)
  refine PySem.W.callWith_K (h₀ := X.base) I.ok.mod.kin F.kp ?_ (by rfl) (by rfl)
  show wpAny _ _ (spliced ((false, eval (.Lambda params body scope lpos) X.env) :: backTo pos (starEach [] X.env))) _ _ s
  refine Calls.spliced_cons (lam_make2 (T := T) I TB hcode (t1 P _ hS) (fun p hp e => by have z := t2 p hp; rw [e, hS] at z; exact (O.tab.inj (Option.some.inj z)).symm) (fun p hp => sr.ok.rep _ _ (t2 p hp)) hdef (L.has I.ok) fun f c' pm' ctv H1 s' I1 eN T1 hf hfn hfr hco => ?_)
  obtain ⟨ok1, st1⟩ := tab_step sr.ok t1 eN T1
  refine Calls.spliced_nil ⟨I1.kIn, ?_⟩
  let Ex : XK := WE (wE ⟨X.K, β.Z⟩ β.S0 β.H0 E) σ
  have run : codeAny (model X.prog X.w) X.A (.call (.ref g) ⟨[.ref f], []⟩) (CR (L2.CX X.prog X.w) X.stack X.prog X.w H1 s' Q Ex) s' := by
    refine run_ofS (N := Ng) (ps := [a]) (us := [.ref f]) (vs := [.ref f]) lk hcd' Sg hr I1.env0 (hb s' [.ref f] I1.kIn rfl) (.cons rfl .nil) rfl fun hr' => ?_
    refine ⟨_, hcal cdv X.A X.stack s' H1 Ex (fun b => b = ⟨β.Z, S, H1⟩) f (fun PE S' Q' => tb PE ρ S' Q') (fun C fs S' => E C fs ρ S') hr'
      (fun b hb => ?_) (fun pn xe B'' E' p1 p2 hR hL => de_act I1 L hf hfn hfr (hbind _ _ _ _ _) hR hr' (fun b'' h'' => ?_) (sr.env.step st1) hco hbody hNg hva hd hcd) ⟨β.Z, S, H1⟩ rfl, ?_⟩
    · subst hb
      exact (takes_of (E := Ex) rfl rfl rfl rfl).imp fun cls d σ' H' ⟨C, fs, ρ', S', dd, kvs, e1, e2, hdd, hk, rs, q, pe⟩ => ⟨C, fs, ρ, S', dd, kvs, e1, e2, hdd, hk, rs, sr.step q.ok (st1.trans q.st), pe⟩
    · obtain ⟨b0, hb0, z, st⟩ := hL b'' h''
      subst hb0
      exact ⟨z, st⟩
    · refine ⟨startD Ng [.ref f], S, bodyO P', ⟨start_rep (.cons rfl .nil), ok1, .refl⟩, h f (ok1.fresh hfn), ⟨?_, ?_, fun _ _ z => z.elim, fun _ _ z => z.elim⟩⟩
      · intro ρ' S' ⟨d', S2, p, z⟩ σ' H' sr' st
        obtain ⟨ok2, r2, st2⟩ := z X.K β.Z H' .non sr'.ok rfl
        exact kq d' S2 p _ _ ok2 (st1.trans (st.trans st2)) r2
      · intro d S' ⟨d', S2, p, z⟩ v H' ok' _ st r
        obtain ⟨ok2, r2, st2⟩ := z X.K β.Z H' v ok' r
        exact kq d' S2 p _ _ ok2 (st1.trans (st.trans st2)) r2
  refine wpAny_call (codeAny_mono run fun r s2 hq => ?_)
  cases r with
  | error e => exact (passAt (hE β hB) σ) pins H1 s' e s2 I1 hq
  | ok fl =>
    cases fl with
    | ret u => exact I1.after hq
    | next => exact False.elim hq
    | brk => exact False.elim hq
    | cont => exact False.elim hq
end Dl
/-! Dl16: calls with keywords over data. -/
namespace Dl
open PySem PySem.Spec PyProof.Rows L2

def DK (X : Cx) (B : Fam) (kws : List Keyword) (t : TDA) : Prop := ∀ b, B b → PK X kws (liftA ⟨X.K, b.Z⟩ b.S0 b.H0 t)
theorem _root_.L2.PK.imp {X : Cx} {e : List Keyword} {t t' : TA} (h : PK X e t) (k : ∀ σ H Q, t' σ H Q → t σ H Q) : PK X e t' := ⟨fun pos pins s σ H Q I q => h.run pos pins s σ H Q I (k σ H Q q)⟩
/-- the keywords' values in the parameters' order -/
def arr {α : Type} (π : List Nat) (l : List α) : List α := π.filterMap (l[·]?)
theorem arr_reps {K : Fr} {S : Sto} {H : Hp} {vs : List V} {ds : List D} (r : Reps K S H vs ds) : ∀ π : List Nat, Reps K S H (arr π vs) (arr π ds)
  | [] => rfl
  | i :: π => by
    unfold arr
    cases e : ds[i]? with
    | none =>
      have e2 : vs[i]? = none := by
        rw [List.getElem?_eq_none_iff] at e ⊢
        rw [r.length]; exact e
      rw [List.filterMap_cons_none e2, List.filterMap_cons_none e]
      exact arr_reps r π
    | some d =>
      obtain ⟨v, e2, rv⟩ := r.get e
      rw [List.filterMap_cons_some e2, List.filterMap_cons_some e]
      exact .cons rv (arr_reps r π)
theorem arr_vals {vs : List V} {us : List Value} (r : Vals vs us) : ∀ π : List Nat, Vals (arr π vs) (arr π us)
  | [] => .nil
  | i :: π => by
    unfold arr
    cases e : vs[i]? with
    | none =>
      have e2 : us[i]? = none := by
        rw [List.getElem?_eq_none_iff] at e ⊢
        rw [← r.length]; exact e
      rw [List.filterMap_cons_none e2, List.filterMap_cons_none e]
      exact arr_vals r π
    | some d =>
      obtain ⟨v, e2, rv⟩ := r.get e
      rw [List.filterMap_cons_some e2, List.filterMap_cons_some e]
      exact .cons rv (arr_vals r π)
/-- how keywords alone bind: behind the first values us (none, or self) -/
def KwB (K : PySem.W.Frag) (fd : FuncData) (ps ks : List Str) (n : Nat) (π : List Nat) : Prop := ∀ (s : Shared) (us ws : List Value), K.In s.heap → us.length = n → ws.length = ks.length → BindsTo s fd ⟨us, ks.zip ws⟩ (ps.zip (us ++ arr π ws))
section
variable {X : Cx} {B : Fam} {k n : Nat} {f C : Addr} {fd : FuncData} {ps ks : List Str} {Φ : Phi} {E : EW} {x : Str} {p pos kpos : Pos} {e : Expr} {kws : List Keyword} {π : List Nat} {ta : TDA} {te : TDE} {nm : Option Str}
theorem dk_nil : DK X B [] aNil := fun β hB => pk_nil.imp fun σ H Q ⟨ρ, S, P, sr, h, k⟩ => k _ _ h _ _ sr.ok .refl rfl
theorem dk_cons (he : DE X B e te) (hr : DK X B kws ta) : DK X B (⟨nm, e, kpos⟩ :: kws) (aCons te ta) := fun β hB =>
  (pk_cons (he β hB) (hr β hB)).imp fun σ H Q ⟨ρ, S, P, sr, h, k⟩ => ⟨ρ, S, _, sr, h, fun d S1 h1 v H1 ok1 st1 r1 => ⟨ρ, S1, _, sr.step ok1 st1, h1, fun ds S2 h2 vs H2 ok2 st2 r2 =>
    k _ _ h2 _ _ ok2 (st1.trans st2) (.cons (r1.step st2) r2)⟩⟩
def dCallK (E : EW) (n m : Nat) (Φ : Phi) (π : List Nat) (ta : TDA) : TDE := fun ρ S Q => ta ρ S fun ds S1 => ds.length = m ∧ (arr π ds).length = n ∧ Φ (arr π ds) S1 Q fun C fs S2 => E C fs ρ S2
def dMakeK (E : EW) (n m : Nat) (C : Addr) (Φ : Phi) (π : List Nat) (ta : TDA) : TDE := fun ρ S Q => ta ρ S fun ds S1 => ds.length = m ∧ ∀ p, S1 p = none → (D.ref p :: arr π ds).length = n ∧
  Φ (.ref p :: arr π ds) (put S1 p (.ins C [])) (fun d S2 => d = .non ∧ Q (.ref p) S2) fun C fs S2 => E C fs ρ S2
/-- f(k = v, ..) -/
theorem de_callK (F : FnD X.prog X.w X.K X.mg X.base k f fd ps Φ) (hr : Room k X.A) (hE : RaisesD X B E) (hg : Gl X x) (hm : X.mg x = some (.ref f)) (hk : PySem.W.keepIn X.K (.ref f) = true) (hb : KwB X.K fd ps ks 0 π) (hkw : DK X B kws ta)
    (hall : (backToKw pos (keywordEach kws X.env)).all (·.1.isSome) = true := by rfl) (hks : (backToKw pos (keywordEach kws X.env)).filterMap (·.1) = ks := by rfl) (hdb : (x == ("__debug__" : Str)) = false := by decide)
    (hpl : ((backTo pos (starEach [] X.env)).any (·.1) || (backToKw pos (keywordEach kws X.env)).any (·.1.isNone)) = false := by rfl) :
    DE X B (.Call (.Name x p) [] kws pos) (dCallK E ps.length ks.length Φ π ta) := fun β hB => by
  refine ⟨fun pins s σ H Q I ⟨ρ, S, P, sr, h, kq⟩ => ?_⟩
  refine wpAny_Call_Name_kw (ld_glob I hg hm ?_ hdb)
  refine PySem.W.callWith_KW0 (h₀ := X.base) I.ok.mod.kin hk hall (thn ((hkw β hB).run pos pins s σ H (fun vs H1 => ∃ ds S1, ds.length = ks.length ∧ (arr π ds).length = ps.length ∧ Φ (arr π ds) S1 P (fun C fs S2 => E C fs ρ S2) ∧ SOk ⟨X.K, β.Z⟩ S1 H1 ∧ Step ⟨X.K, β.Z⟩ S H S1 H1 ∧ Reps ⟨X.K, β.Z⟩ S1 H1 vs ds) I
    ⟨ρ, S, _, sr, h, fun ds S1 h1 vs H1 ok1 st1 r1 => ⟨ds, S1, h1.1, h1.2.1, h1.2.2, ok1, st1, r1⟩⟩) fun ws s1 ⟨vs, H1, I1, r, ds, S1, hl, hl2, hΦ, ok1, st1, r1⟩ => ⟨I1.kIn, ?_⟩) hpl
  rw [hks]
  have ra := arr_reps r1 π
  let Ex : XK := WE (wE ⟨X.K, β.Z⟩ β.S0 β.H0 E) σ
  have hsp : spD X.K ps.length Φ (arr π vs) H1 Q Ex := ⟨by rw [ra.length]; exact hl2, β.Z, _, S1, P, _, ra, ok1, hΦ, kq.mono st1, fun C fs S2 q dd kvs H2 ok2 st2 hdd' hk' hr' => ⟨C, fs, ρ, S2, dd, kvs, rfl, rfl, hdd', hk', hr', sr.step ok2 (st1.trans st2), q⟩⟩
  refine wpAny_call (codeAny_mono (F.run X.A X.stack s1 H1 ⟨[], ks.zip ws⟩ (arr π ws) (arr π vs) Q Ex hr I1.env0 (by
    have := hb s1 [] ws I1.kIn rfl (by rw [← r.length, r1.length]; exact hl)
    simpa using this) (arr_vals r π) hsp) fun r s' hq => ?_)
  cases r with
  | error e => exact (passAt (hE β hB) σ) pins H1 s1 e s' I1 hq
  | ok fl =>
    cases fl with
    | ret u => exact I1.after hq
    | next => exact False.elim hq
    | brk => exact False.elim hq
    | cont => exact False.elim hq
/-- C(k = v, ..) -/
theorem de_makeK (M : Mk X.K C f) (F : FnD X.prog X.w X.K X.mg X.base k f fd ps Φ) (hr : Room (k + 1) X.A) (hE : RaisesD X B E) (hg : Gl X x) (hm : X.mg x = some (.ref C)) (hb : KwB X.K fd ps ks 1 π) (hkw : DK X B kws ta)
    (hall : (backToKw pos (keywordEach kws X.env)).all (·.1.isSome) = true := by rfl) (hks : (backToKw pos (keywordEach kws X.env)).filterMap (·.1) = ks := by rfl) (hdb : (x == ("__debug__" : Str)) = false := by decide)
    (hpl : ((backTo pos (starEach [] X.env)).any (·.1) || (backToKw pos (keywordEach kws X.env)).any (·.1.isNone)) = false := by rfl) :
    DE X B (.Call (.Name x p) [] kws pos) (dMakeK E ps.length ks.length C Φ π ta) := fun β hB => by
  refine ⟨fun pins s σ H Q I ⟨ρ, S, P, sr, h, kq⟩ => ?_⟩
  refine wpAny_Call_Name_kw (ld_glob I hg hm ?_ hdb)
  refine PySem.W.callWith_KW0 (h₀ := X.base) I.ok.mod.kin M.kp hall (thn ((hkw β hB).run pos pins s σ H (fun vs H1 => ∃ ds S1, ds.length = ks.length ∧ (∀ p, S1 p = none → (D.ref p :: arr π ds).length = ps.length ∧ Φ (.ref p :: arr π ds) (put S1 p (.ins C [])) (fun d S2 => d = .non ∧ P (.ref p) S2) fun C fs S2 => E C fs ρ S2) ∧ SOk ⟨X.K, β.Z⟩ S1 H1 ∧ Step ⟨X.K, β.Z⟩ S H S1 H1 ∧ Reps ⟨X.K, β.Z⟩ S1 H1 vs ds) I
    ⟨ρ, S, _, sr, h, fun ds S1 h1 vs H1 ok1 st1 r1 => ⟨ds, S1, h1.1, h1.2, ok1, st1, r1⟩⟩) fun ws s1 ⟨vs, H1, I1, r, ds, S1, hl, hΦ0, ok1, st1, r1⟩ => ⟨I1.kIn, ?_⟩) hpl
  rw [hks]
  let Ex : XK := WE (wE ⟨X.K, β.Z⟩ β.S0 β.H0 E) σ
  have nx : H1 (s1.heap.objs.size + 1) = none := I1.hok.fresh (Nat.le_succ _)
  have nd : H1 s1.heap.objs.size = none := I1.hok.fresh (Nat.le_refl _)
  have ne : s1.heap.objs.size ≠ s1.heap.objs.size + 1 := Nat.ne_of_lt (Nat.lt_succ_self _)
  obtain ⟨ok2, st2⟩ := made_ok (C := C) ok1 nx nd ne
  have ra := (arr_reps r1 π).step st2
  obtain ⟨hl2, hΦ⟩ := hΦ0 _ (ok1.fresh nx)
  have rs : Reps ⟨X.K, β.Z⟩ (put S1 (s1.heap.objs.size + 1) (.ins C [])) (upd (upd H1 s1.heap.objs.size (.own (s1.heap.objs.size + 1))) (s1.heap.objs.size + 1) (.ins C s1.heap.objs.size [])) (V.ref (s1.heap.objs.size + 1) :: arr π vs) (.ref (s1.heap.objs.size + 1) :: arr π ds) := .cons rfl ra
  have hsp : spD X.K ps.length Φ (V.ref (s1.heap.objs.size + 1) :: arr π vs) _ (fun v H2 => v = .non ∧ Q (.ref (s1.heap.objs.size + 1)) H2) Ex :=
    ⟨by rw [rs.length]; exact hl2, β.Z, _, _, _, _, rs, ok2, hΦ, fun d S3 ⟨e1, q⟩ v H3 ok3 st3 r3 => by subst e1; exact ⟨r3, kq _ _ q _ _ ok3 (st1.trans (st2.trans st3)) rfl⟩, fun C fs S3 q dd kvs H3 ok3 st3 hdd' hk' hr' => ⟨C, fs, ρ, S3, dd, kvs, rfl, rfl, hdd', hk', hr', sr.step ok3 (st1.trans (st2.trans st3)), q⟩⟩
  have I2 := Inv.made (C := C) I1
  have r2 : Vals (V.ref (s1.heap.objs.size + 1) :: arr π vs) (Value.ref (s1.heap.objs.size + 1) :: arr π ws) := .cons rfl (arr_vals r π)
  refine wpAny_call (make_map (f := f) I1.kIn M.makes M.init (beq_iff_eq.mp M.fn) (codeAny_mono (F.run _ X.stack _ _ ⟨[Value.ref (s1.heap.objs.size + 1)], ks.zip ws⟩ (Value.ref (s1.heap.objs.size + 1) :: arr π ws) _ _ Ex (hr.make C [] (ks.zip ws))
    (I2.env0.make C [] (ks.zip ws)) (by
      have := hb _ [Value.ref (s1.heap.objs.size + 1)] ws I2.kIn rfl (by rw [← r.length, r1.length]; exact hl)
      simpa using this) r2 hsp) fun r s' hq' => ?_))
  cases r with
  | error e => exact (passAt (hE β hB) σ) pins _ _ e s' I2 hq'
  | ok fl =>
    cases fl with
    | ret u =>
      obtain ⟨v, H', I3, rv, ev, q3⟩ := I2.after hq'
      subst ev
      exact ⟨rv, ⟨V.ref (s1.heap.objs.size + 1), H', I3, rfl, q3⟩⟩
    | next => exact False.elim hq'
    | brk => exact False.elim hq'
    | cont => exact False.elim hq'
end
end Dl
/-! Dl17: list.index, list.count, an empty dict. -/
namespace Dl
open PySem PySem.Spec PyProof.Rows L2

def indexR : RM := fun x ds S Q => match ds with
  | [d] => ∃ ys j z, lsD S x = some ys ∧ okD d = true ∧ okD (.lst ys) = true ∧ ys[j]? = some z ∧ eqD z d = true ∧ (∀ m z', m < j → ys[m]? = some z' → eqD z' d = false) ∧ Q (.int (j : Nat)) S
  | _ => False
def countR : RM := fun x ds S Q => match ds with
  | [d] => ∃ ys, lsD S x = some ys ∧ okD d = true ∧ okD (.lst ys) = true ∧ Q (.int (ys.countP fun z => eqD z d : Nat)) S
  | _ => False
theorem pyDs_map : ∀ ds : List D, pyDs ds = ds.map pyD
  | [] => rfl
  | d :: ds => by show pyD d :: pyDs ds = _; rw [pyDs_map ds]; rfl
section
variable {X : Cx}
theorem md_index (hu : X.A.units + 65 < cLine) : MtD X "list.index" indexR := by
  intro Z pins s σ H x xs v us Q I rx rxs ⟨d, ds, S, P, r1, r2, ok, h, k⟩
  match ds, h, r2 with
  | [e], h, r2 =>
    obtain ⟨ve, rfl, re⟩ := reps1 r2
    obtain ⟨ys, j, z, hl, h1, h2, hj, hz, hno, q⟩ := h
    obtain ⟨a, vs, rfl, hH, rs⟩ := lsD_at ok r1 hl
    obtain ⟨p1, s1⟩ := okD_iff h1
    obtain ⟨p2, s2⟩ := okD_iff h2
    refine mt_indexD hu pins s σ H _ _ v us Q I rx rxs ⟨a, ve, pyD e, pyDs ys, j, pyD z, rfl, rfl, .lst (.of hH) (dps_of rs p2), dp_of re p1, s2, s1, by rw [pyDs_map, List.getElem?_map, hj]; rfl, hz, fun m z' hm hz' => ?_, k _ _ q _ _ ok .refl rfl⟩
    rw [pyDs_map, List.getElem?_map] at hz'
    cases e' : ys[m]? with
    | none => rw [e'] at hz'; cases hz'
    | some w =>
      rw [e'] at hz'
      cases hz'
      exact hno m w hm e'
theorem md_count (hu : X.A.units + 65 < cLine) : MtD X "list.count" countR := by
  intro Z pins s σ H x xs v us Q I rx rxs ⟨d, ds, S, P, r1, r2, ok, h, k⟩
  match ds, h, r2 with
  | [e], h, r2 =>
    obtain ⟨ve, rfl, re⟩ := reps1 r2
    obtain ⟨ys, hl, h1, h2, q⟩ := h
    obtain ⟨a, vs, rfl, hH, rs⟩ := lsD_at ok r1 hl
    obtain ⟨p1, s1⟩ := okD_iff h1
    obtain ⟨p2, s2⟩ := okD_iff h2
    cases rx
    obtain ⟨uy, rfl, ry⟩ := rxs.one
    obtain ⟨bs, rd⟩ := Dp.reads I (pyD e) ve uy (dp_of re p1) ry
    have lay : PyData.canLayAll0 (pyDs ys) = true := SeqAt.canLay_of_shaped s2
    obtain ⟨its, rv, ⟨⟨cls, dd, data, sl⟩, n, ho, hc, hdn, hdt⟩, hlen⟩ := I.list (SqL.of hH)
    simp only at hc hdt
    subst hc hdt
    obtain ⟨as, ra⟩ := Dp.readsAll I (pyDs ys) vs its (dps_of rs p2) rv
    have hmap := SeqAt.readsAll_map (pyDs ys) its as lay ra
    refine call_meets PySem.F.slot_list_count ⟨_, ho, rfl⟩ PySem.F.entry_list_count (PySem.F.args_list_count_2 _ _)
      (SeqAt.list_countAt a its.toArray n dd sl uy (fun u => PyData.eqv (SeqAt.readOf s.heap u) (pyD e))) ⟨ho, SeqAt.items_eqAt (vs := its.toArray) (show ReadsAll s.heap its.toArray.toList (pyDs ys) as from ra) rd lay (SeqAt.canLay_of_shaped s1) (room_in_shaped s1 hu), ?_⟩
    have ec : its.toArray.toList.countP (fun u => PyData.eqv (SeqAt.readOf s.heap u) (pyD e)) = ys.countP fun z => eqD z e := by
      show its.countP _ = _
      have e1 : its.countP (fun u => PyData.eqv (SeqAt.readOf s.heap u) (pyD e)) = (its.map (SeqAt.readOf s.heap)).countP fun w => PyData.eqv w (pyD e) := by rw [List.countP_map]; rfl
      rw [e1, hmap, pyDs_map, List.countP_map]
      rfl
    refine ⟨.int ((ys.countP fun z => eqD z e : Nat)), H, I.tok _, ⟨s.toks, ?_⟩, k _ _ q _ _ ok .refl rfl⟩
    show Value.int ((its.toArray.toList.countP (fun u => PyData.eqv (SeqAt.readOf s.heap u) (pyD e)) : Nat) : Int) s.toks = _
    rw [ec]
end
section
variable {X : Cx} {B : Fam} {pos : Pos}
theorem de_dic0 : DE X B (.Dict [] [] pos) (dC (.dic [] [])) := fun β hB => pe_dnewK.imp fun σ H Q ⟨ρ, S, P, sr, p, k⟩ => fun q n =>
  k _ _ p _ _ (sr.ok.laid n) (.laid n) ⟨q, [], rfl, ⟨sr.ok.fresh n, sr.ok.nzf n⟩, .inl upd_same, rfl, rfl⟩
end
end Dl
/-! Dl18: enumerate over lists and tuples. -/
namespace Dl
open PySem PySem.Spec PyProof.Rows L2

/-- enumerate of a tuple -/
def IteT (K : PySem.W.Frag) (a : Addr) : It :=
  ⟨fun i H => ∃ (xs : List V) (x : V), SqT K H a xs ∧ xs[i]? = some x, fun i H v H' => ∃ T x, v = .ref T ∧ H T = none ∧ H' = upd H T (.tup [.int (i : Nat), x]) ∧ ∀ xs, SqT K H a xs → xs[i]? = some x, fun i H => ∃ xs : List V, SqT K H a xs ∧ xs.length = i⟩
theorem turn_enumT {P : Program} {w : World} {K : PySem.W.Frag} {elts : List Expr} {kk : Nat} {tpos : Pos} (a e it : Addr) :
    Turn P w K (.Tuple elts kk tpos) (IteT K a) [e, it] e (fun i h => (∃ old, IsEnum h e it ((i : Nat) : Int) old) ∧ h.IsTupleIter it a i ∧ e ≠ it ∧ a ≠ it ∧ a ≠ e) where
  mem := by simp
  obj := fun i h st b hb => by
    obtain ⟨⟨old, he⟩, ⟨o, ho, hc, hd⟩, _⟩ := st
    rcases (show b = e ∨ b = it by simpa using hb) with z | z
    · rw [z]; exact ⟨_, he, fun v q => nomatch q⟩
    · rw [z]; exact ⟨o, ho, fun v q => by rw [hd] at q; cases q⟩
  keep := fun i h h' st k => let ⟨⟨old, he⟩, hi, hne⟩ := st; ⟨⟨old, k e (by simp) _ he⟩, hi.at fun o q => k it (by simp) o q, hne⟩
  item := by
    intro X hP hw hK hc i pins s σ H E I hf st hg
    subst hP hw hK
    obtain ⟨⟨old, he⟩, hit, hne, hai, hae⟩ := st
    obtain ⟨xs, x, hq, hx⟩ := hg
    obtain ⟨its, o, n, rv, ho, hcl, hdt⟩ := L2.sqT_at I.hok I.kIn hq
    obtain ⟨u, hu, ru⟩ := rv.get hx
    have hel : e < s.heap.objs.size := Heap.lt_size he
    have hil : it < s.heap.objs.size := by obtain ⟨_, q, _⟩ := hit; exact Heap.lt_size q
    have hT0 : s.heap.IsTuple a its.toArray := ⟨o, ho, hcl, n, hdt⟩
    have hlt : i < its.toArray.size := by simpa using (List.getElem?_eq_some_iff.mp hu).1
    refine wpAny_pyNext_enum_itemD (Draws.tuple (A := X.A.in1) (show X.A.in1.handled = none from I.ok.hd hc) it a hai its.toArray) he ⟨hit, hT0⟩ hlt hne (by simp [hne, Ne.symm hae]) fun x' h' tk hP ho' hst' hT hsz hk => ?_
    have ex : x' = u := by
      have hP' : its.toArray[i]? = some x' := hP
      rw [List.getElem?_toArray, hu] at hP'
      exact (Option.some.inj hP').symm
    subst ex
    refine ⟨_, rfl, wpAny_letOwnedTupleGo_enum (s := { s with heap := h', toks := tk + 1 }) ho' fun h'' he' sb => ?_⟩
    have hT2 : h''.get? s.heap.objs.size = some { cls := .type "tuple", data := .seq #[.int i tk, x'] } := (sb.2 _ (Nat.ne_of_gt hel)).trans hT
    have new : ObjOk X.prog X.w (upd H s.heap.objs.size (.tup [.int (i : Nat), x])) h'' s.heap.objs.size (.tup [.int (i : Nat), x]) :=
      ⟨by show 2 ≤ sizeLine; decide, [.int i tk, x'], .cons ⟨_, rfl⟩ (.cons ru .nil), ⟨_, hT2, rfl, _, rfl⟩⟩
    have I1 : Inv X pins σ (upd H s.heap.objs.size (.tup [.int (i : Nat), x])) { s with heap := h'', toks := tk + 1 } :=
      I.turnedNew (ch := [e, it]) (fun b ob hb q => (sb.2 b (fun z => hb (by simp [z]))).trans (hk b ob (fun z => hb (by simp [z])) (fun z => hb (by simp [z])) q)) hf (Nat.le_refl _) new
    refine ⟨.ref s.heap.objs.size, _, I1, rfl, ⟨_, x, rfl, I.hok.fresh (Nat.le_refl _), rfl, fun ys hy => by rw [I.tuple_inj hy hq]; exact hx⟩, ⟨⟨x', ?_⟩, hst'.1.at fun o q => (sb.2 it (Ne.symm hne)).trans q, hne, hai, hae⟩, fun b hb => ?_⟩
    · rw [show ((i + 1 : Nat) : Int) = (i : Int) + 1 by omega]; exact he'
    · have hb' : b < s.heap.objs.size := by
        rcases (show b = e ∨ b = it by simpa using hb) with z | z
        · rw [z]; exact hel
        · rw [z]; exact hil
      rw [upd_ne (Nat.ne_of_lt hb')]
      exact (hf b hb).1
  done := by
    intro X hP hw hK hc i pins s σ H E I hf st hg
    subst hP hw hK
    obtain ⟨⟨old, he⟩, hit, hne, hai, hae⟩ := st
    obtain ⟨xs, hq, hx⟩ := hg
    obtain ⟨its, o, n, rv, ho, hcl, hdt⟩ := L2.sqT_at I.hok I.kIn hq
    obtain ⟨f0, f1, f2, f3, f4, f5⟩ := hf it (by simp)
    have hl := rv.length
    have hT0 : s.heap.IsTuple a its.toArray := ⟨o, ho, hcl, n, hdt⟩
    have hn : i = its.toArray.size := by
      rw [List.size_toArray]
      omega
    subst hn
    exact wpAny_pyNext_enum_endD (Draws.tuple (A := X.A.in1) (show X.A.in1.handled = none from I.ok.hd hc) it a hai its.toArray) he ⟨hit, hT0⟩ fun h' eb => ⟨rfl, I.turned (t' := s.toks) (fun b o hb q => eb b o hb q) f0 f1 f3 f4 f5⟩
  self := fun A i s Q E st h => let ⟨⟨_, he⟩, _⟩ := st; wpAny_pyIter_enum he h
set_option maxHeartbeats 4000000 in
theorem meets_enum1 {v : Value} {o : Obj} {H : Heap → Prop} (B : Begins v o H) :
    Meets (Builtin.«enumerate.__new__» ⟨[.type "enumerate", v], []⟩) (fun _ R s => H s.heap ∧
      R (.ok (.ret (.ref (s.heap.push o).objs.size))) { s with heap := (s.heap.push o).push { cls := .type "enumerate", data := .fields #[.none, .bool false, .ref s.heap.objs.size, rawInt 0, .none, .none] } }) :=
  .of_wp fun prog w A R s h => by
    obtain ⟨hp, g, d, tk, os⟩ := s
    obtain ⟨h1, h⟩ := h
    have hsub := sub_enumerate
    have q1 : ∀ {A' : Around} {E : Value → Shared → Prop} {Q : Value → Shared → Prop}, Q (.ref hp.objs.size) ⟨hp.push o, g, d, tk, os⟩ → wpAny (model prog w) A' (pyIter v) Q E ⟨hp, g, d, tk, os⟩ :=
      fun q => B.iter prog w _ _ ⟨hp, g, d, tk, os⟩ _ h1 q
    wp_walk using q1
    refine wpAny_stack_any fun st => wpAny_pure ?_
    split
    · rename_i c _ _ _ _ _
      cases (c == Value.type "enumerate") <;> (wp_walk using q1; exact ⟨_, rfl, h⟩)
    · wp_walk using q1
      exact ⟨_, rfl, h⟩
theorem call_enum1 {prog : Program} {w : World} {A : Around} {E : Value → Shared → Prop} {s : Shared} {v : Value} {o : Obj} {H : Heap → Prop} {Q : Value → Shared → Prop} (B : Begins v o H) (h1 : H s.heap)
    (h : ∀ h', IsEnum h' (s.heap.objs.size + 1) s.heap.objs.size 0 .none → h'.get? s.heap.objs.size = some o → h'.objs.size = s.heap.objs.size + 2 → (∀ b o, s.heap.get? b = some o → h'.get? b = some o) → Q (.ref (s.heap.objs.size + 1)) { s with heap := h' }) :
    wpAny (model prog w) A (call (.type "enumerate") [v]) Q E s := by
  refine callType_new F.called_enumerate (by decide) (F.typeCall_enumerate_1 _) (F.newCall_enumerate_1 _) (fun obj => F.args_object_init_2 obj _) F.entry_enumerate_new (meets_enum1 B) ⟨h1, ?_⟩
  have hz : (s.heap.push o).objs.size = s.heap.objs.size + 1 := Heap.size_push ..
  show _ ∧ _
  rw [hz]
  have he : IsEnum ((s.heap.push o).push { cls := .type "enumerate", data := .fields #[.none, .bool false, .ref s.heap.objs.size, rawInt 0, .none, .none] }) (s.heap.objs.size + 1) s.heap.objs.size 0 .none := by
    have e := Heap.get?_push_size (s.heap.push o) (o := { cls := .type "enumerate", data := .fields #[.none, .bool false, .ref s.heap.objs.size, rawInt 0, .none, .none] }) rfl
    rw [hz] at e
    exact e
  exact ⟨⟨_, he, rfl⟩, h _ he (Heap.get?_push_of_some _ (Heap.get?_push_size _ B.free)) (by rw [Heap.size_push, hz]) fun b o x => Heap.get?_push_of_some _ (Heap.get?_push_of_some _ x)⟩
def iEnum2 (K : PySem.W.Frag) (ta : TA) : TI := fun σ H R => ta σ H fun vs H1 => ∃ a, vs = [.ref a] ∧ (((∃ xs, SqL K H1 a xs) ∧ R (Ite K a) H1) ∨ ((∃ xs, SqT K H1 a xs) ∧ R (IteT K a) H1))
theorem pi_enum2 {X : Cx} {e : Expr} {ta : TA} {p pos tpos : Pos} {elts : List Expr} {kk : Nat} (hg : Gl X "enumerate") (hm : X.mg "enumerate" = none) (ha : PA X [e] ta) (hs : starEach [e] X.env = [(false, eval e X.env)] := by rfl) :
    PI X (.Tuple elts kk tpos) (.Call (.Name "enumerate" p) [e] [] pos) (iEnum2 X.K ta) := by
  refine ⟨fun pins s σ H R I h => ?_⟩
  refine Call_ (ld_blt I hg hm boot_enumerate (PyProof.Rows.callWith_type1 (thn (ha.run pos pins s σ H _ I h) fun us s1 ⟨vs, H1, I1, r1, a, ex, q⟩ => ?_) hs rfl))
  subst ex
  obtain ⟨u, rfl, r⟩ := vals1 r1
  obtain rfl : u = Value.ref a := r
  have fp : ∀ b ∈ [s1.heap.objs.size + 1, s1.heap.objs.size], FpOk X pins H1 b := fun b hb => by
    have hle : s1.heap.objs.size ≤ b := by
      rcases (show b = s1.heap.objs.size + 1 ∨ b = s1.heap.objs.size by simpa using hb) with z | z <;> omega
    exact I1.fpOk hle (I1.hok.fresh hle)
  rcases q with ⟨⟨xs, hq⟩, q⟩ | ⟨⟨xs, hq⟩, q⟩
  · obtain ⟨its, rv, p', hz⟩ := I1.list hq
    refine call_enumerate_list p'.isList fun h' he hit hsz hk => wpAny_pyIter_enum he ?_
    exact ⟨s1.heap.objs.size + 1, _, _, _, H1, rfl, I1.kept (t' := s1.toks) hk, turn_enum a (s1.heap.objs.size + 1) s1.heap.objs.size, ⟨⟨.none, he⟩, hit, Nat.succ_ne_self _⟩, fp, q⟩
  · obtain ⟨its, o, n, rv, ho, hcl, hdt⟩ := L2.sqT_at I1.hok I1.kIn hq
    have hal : a < s1.heap.objs.size := Heap.lt_size ho
    refine call_enum1 (begins_tuple a its.toArray) ⟨o, ho, hcl, n, hdt⟩ fun h' he hit hsz hk => wpAny_pyIter_enum he ?_
    exact ⟨s1.heap.objs.size + 1, _, _, _, H1, rfl, I1.kept (t' := s1.toks) hk, turn_enumT a (s1.heap.objs.size + 1) s1.heap.objs.size, ⟨⟨.none, he⟩, ⟨_, hit, rfl, rfl⟩, Nat.succ_ne_self _, Nat.ne_of_lt hal, Nat.ne_of_lt (Nat.lt_succ_of_lt hal)⟩, fp, q⟩
section
variable {F : PySem.W.Frag} {Z : Addr → Prop} {S : Sto} {H : Hp} {vs : List V} {xs : List D} {a : Addr}
theorem it_enumT (h : SqT F H a vs) (r : Reps ⟨F, Z⟩ S H vs xs) : ItOk F Z (IteT F a) S H (enumD 0 xs) (fun _ => True) where
  go := fun Z' i S1 H1 hi ok mv _ => by
    rw [enumD_length] at hi
    have h1 : SqT F H1 a vs := h.imp (mv.tup a vs) id
    obtain ⟨v, hv, rv⟩ := (r.mv mv).get (List.getElem?_eq_getElem hi)
    exact ⟨⟨vs, v, h1, hv⟩, fun x H' ⟨T, x', e1, nT, e2, y⟩ => by
      subst e1 e2
      have q := y vs h1
      rw [hv] at q; cases q
      obtain ⟨p1, p2, p3⟩ := pair_ok (d := .int ((0 + i : Nat) : Int)) (v := .int (i : Nat)) ok nT (by rw [Nat.zero_add]; rfl) rv
      exact ⟨_, enumD_get xs 0 i _ (List.getElem?_eq_getElem hi), p1, p2, p3⟩⟩
  stop := fun Z' S1 H1 ok mv _ => ⟨vs, h.imp (mv.tup a vs) id, by rw [enumD_length, r.length]⟩
/-- a list that may change, but does not while it is walked -/
theorem it_enumS (hS : S a = some (.lst xs)) : ItOk F Z (Ite F a) S H (enumD 0 xs) (fun S' => S' a = some (.lst xs)) where
  go := fun Z' i S1 H1 hi ok mv hst => by
    rw [enumD_length] at hi
    obtain ⟨vs, h1, r⟩ := ok.rep a _ hst
    obtain ⟨v, hv, rv⟩ := r.get (List.getElem?_eq_getElem hi)
    exact ⟨⟨vs, v, .of h1, hv⟩, fun x H' ⟨T, x', e1, nT, e2, y⟩ => by
      subst e1 e2
      have q := y vs (.of h1)
      rw [hv] at q; cases q
      obtain ⟨p1, p2, p3⟩ := pair_ok (d := .int ((0 + i : Nat) : Int)) (v := .int (i : Nat)) ok nT (by rw [Nat.zero_add]; rfl) rv
      exact ⟨_, enumD_get xs 0 i _ (List.getElem?_eq_getElem hi), p1, p2, p3⟩⟩
  stop := fun Z' S1 H1 ok mv hst => by
    obtain ⟨vs, h1, r⟩ := ok.rep a _ hst
    exact ⟨vs, .of h1, by rw [enumD_length, r.length]; exact Nat.le_refl _⟩
end
/-- enumerate of a list, a tuple -/
def diEnum2 (t : TDA) : TDI := fun ρ S P => t ρ S fun ds S1 => match ds with
  | [.lst xs] => P (enumD 0 xs) (fun _ => True) S1
  | [.tup xs] => P (enumD 0 xs) (fun _ => True) S1
  | [.ref a] => (match S1 a with
    | some (.lst xs) => P (enumD 0 xs) (fun S' => S' a = some (.lst xs)) S1
    | _ => False)
  | _ => False
theorem di_enum2 {X : Cx} {B : Fam} {e : Expr} {ta : TDA} {p pos tpos : Pos} {elts : List Expr} {kk : Nat} (hg : Gl X "enumerate") (hm : X.mg "enumerate" = none) (ha : DA X B [e] ta) (hs : starEach [e] X.env = [(false, eval e X.env)] := by rfl) :
    DI X B (.Tuple elts kk tpos) (.Call (.Name "enumerate" p) [e] [] pos) (diEnum2 ta) := fun β hB =>
  (pi_enum2 hg hm (ha β hB) hs).imp fun σ H R ⟨ρ, S, P, sr, h, k⟩ => ⟨ρ, S, _, sr, h, fun ds S1 h1 vs H1 ok st r => by
    split at h1
    · obtain ⟨v, rfl, c, us, rfl, n, q, rs⟩ := reps1 r
      exact ⟨c, rfl, .inl ⟨⟨us, .of q⟩, k _ _ _ h1 _ _ ok st (it_enum n q rs)⟩⟩
    · obtain ⟨v, rfl, c, us, rfl, q, rs⟩ := reps1 r
      exact ⟨c, rfl, .inr ⟨⟨us, q⟩, k _ _ _ h1 _ _ ok st (it_enumT q rs)⟩⟩
    · rename_i a
      obtain ⟨v, rfl, e⟩ := reps1 r
      obtain rfl : v = .ref a := e
      cases hS : S1 a with
      | none => simp [hS] at h1
      | some o =>
        cases o with
        | lst xs =>
          simp only [hS] at h1
          obtain ⟨us, q, rs⟩ := ok.rep a _ hS
          exact ⟨a, rfl, .inl ⟨⟨us, .of q⟩, k _ _ _ h1 _ _ ok st (it_enumS hS)⟩⟩
        | _ => simp [hS] at h1
    · exact h1.elim⟩
end Dl
/-! Dl19: the context of a def's body, the law's head with its table of code objects. -/
namespace Dl
open PySem PySem.Spec PyProof.Rows L2 LamX

/-- the context of the body of the def st -/
abbrev defX (P : Program) (w : World) (K : PySem.W.Frag) (mg : Str → Option Value) (base : Heap) (N : List Str) (qual : Str) (st : Stmt) (f : Addr) (cdv : Value) (A : Around) (outer : List Env) (s : Shared) (H : Hp) (E : XK) : Cx :=
  cxOf (L2.CX P w) P w K mg base N qual (defScope st) f cdv A outer s H E
section
variable {P : Program} {w : World} {K : PySem.W.Frag} {mg : Str → Option Value} {base : Heap}
/-- a def by its body, the context written out -/
theorem _root_.L2.Fun.okC {x qual : Str} {st : Stmt} {f : Addr} {fd : FuncData} {N ps : List Str} {k : Nat} {Φ : Phi} {t : EX → TDS} (F : Fun K x qual st f fd) (sc : FnScope N ps (defScope st))
    (hder : ∀ (cdv : Value) (A : Around) (outer : List Env) (s : Shared) (H : Hp) (E : XK) (B : Fam) (PE : EX), Room k (defX P w K mg base N qual st f cdv A outer s H E).A → RaisesD (defX P w K mg base N qual st f cdv A outer s H E) B (fun C fs _ S => PE C fs S) →
      DSs (defX P w K mg base N qual st f cdv A outer s H E) B (defBody st) (t PE))
    (hvc : ∀ ds S P PE, ds.length = ps.length → Φ ds S P PE → t PE (bodyO P) (startD N ds) S) : FnD P w K mg base (k + 1) f fd ps Φ := by
  refine F.okX sc (fun vs H Q E h => h.1) fun cdv A outer s H vs Q E hr h => ?_
  obtain ⟨hl, Z, ds, S, P', PE, rs, ok, hΦ, kr, kx⟩ := h
  refine ⟨_, hder cdv A outer s H E (fun β => β = ⟨Z, S, H⟩) PE hr (fun β hβ => ?_) ⟨Z, S, H⟩ rfl, ?_⟩
  · subst hβ
    exact (takes_of (E := E) rfl rfl rfl rfl).imp fun cls d σ H' ⟨C, fs, ρ, S', dd, kvs, e1, e2, hdd, hk, hr', sr, hE⟩ => by
      subst e1 e2
      exact kx C fs S' hE dd kvs H' sr.ok sr.st hdd hk hr'
  · refine ⟨startD N ds, S, bodyO P', ⟨start_rep rs, ok, .refl⟩, hvc ds S P' PE (by rw [← rs.length]; exact hl) hΦ, ⟨?_, ?_, fun _ _ z => z.elim, fun _ _ z => z.elim⟩⟩
    · intro ρ S' ⟨d', S2, p, z⟩ σ H' sr st
      obtain ⟨ok2, r2, st2⟩ := z K Z H' .non sr.ok rfl
      exact kr d' S2 p _ _ ok2 (st.trans st2) r2
    · intro d S' ⟨d', S2, p, z⟩ v H' ok' _ st r
      obtain ⟨ok2, r2, st2⟩ := z K Z H' v ok' r
      exact kr d' S2 p _ _ ok2 (st.trans st2) r2
/-- the law -/
theorem topC {x qual : Str} {y : Str} {st : Stmt} {f : Addr} {oc : Value} {od an : Option Addr} {kV doc pm cdv ct : Value} {osl : Array (Option Value)} {N : List Str} {k : Nat} {Φ : D → Sto → (D → Sto → Prop) → Prop} {t : TDS}
    (lk : K.lookup f = some ⟨oc, od, .func (PySem.W.fnOf x qual (defArgs st) (defBody st) (defScope st) .none kV doc pm an cdv ct), osl⟩) (hcd : PySem.W.codeIn K cdv qual = true) (sc : FnScope N [y] (defScope st))
    (hder : ∀ (A : Around) (s : Shared) (H : Hp) (B : Fam), Room k (defX P w K mg base N qual st f cdv A [] s H (fun _ _ _ => False)).A → (defX P w K mg base N qual st f cdv A [] s H (fun _ _ _ => False)).A.guards = some [] → DSs (defX P w K mg base N qual st f cdv A [] s H (fun _ _ _ => False)) B (defBody st) t)
    (hvc : ∀ d S P, Φ d S P → t (bodyO P) (startD N [d]) S) : TopOk P w K mg base (k + 1) f (PySem.W.fnOf x qual (defArgs st) (defBody st) (defScope st) .none kV doc pm an cdv ct) y Φ := by
  intro A s H u v hg hr e0 hb rv Q Z S P' d rd ok hΦ kr
  have rs : Reps ⟨K, Z⟩ S H [v] [d] := .cons rd .nil
  have KX : K.In s.heap := e0.mod.kin.keeps fun b o z => (e0.bs b o z).1
  have lim := e0.mod.nolimit.keeps fun b o z => (e0.bs b o z).1
  have hy : (defScope st).names.lookup y = some .local ∨ (defScope st).names.lookup y = some .cell := sc.par y (List.mem_singleton.mpr rfl)
  refine codeAny_call_function hr.depth (KX _ _ lk) rfl sc.co sc.gen rfl (PySem.W.codeRec_of KX hcd) (hb _ _ _ _ ?_)
  refine wpAny_newFunctionEnv_cells sc.kind (fun z hz => ?_) fun env he s1 x1 => ?_
  · obtain rfl := List.mem_singleton.mp hz
    exact hy.imp id fun q => ⟨q, PySem.W.cellsFrom_some _ _ _ (.inl q)⟩
  · subst he
    refine ⟨lim.keeps x1.toInCall.keep, codeAny_func ?_⟩
    have I := inv_start (CX := L2.CX P w) (E := fun _ _ _ => False) sc hr.hd e0 (vs := [v]) rfl (.cons rv .nil) x1
    have T := hder A s H (fun β => β = ⟨Z, S, H⟩) (hr.deeper _) hg ⟨Z, S, H⟩ rfl
    refine wpAny_mono (T.run [] s1 _ H { nx := fun _ H' => Q .non H', rt := Q } I ⟨startD N [d], S, bodyO P', ⟨start_rep rs, ok, .refl⟩, hvc d S P' hΦ, ⟨?_, ?_, fun _ _ z => z.elim, fun _ _ z => z.elim⟩⟩) (fun fl s' hs => ?_) fun _ _ z => z
    · intro ρ S' ⟨d', S2, p, z⟩ σ H' sr st
      obtain ⟨ok2, r2, st2⟩ := z K Z H' .non sr.ok rfl
      exact kr d' S2 p _ _ ok2 (st.trans st2) r2
    · intro d S' ⟨d', S2, p, z⟩ v H' ok' _ st r
      obtain ⟨ok2, r2, st2⟩ := z K Z H' v ok' r
      exact kr d' S2 p _ _ ok2 (st.trans st2) r2
    · have fin : ∀ {σ' : L2.St} {H' : Hp} {v : V} {u : Value}, Inv (defX P w K mg base N qual st f cdv A [] s H (fun _ _ _ => False)) [] σ' H' s' → RelV v u → Q v H' → CE [] P w H s Q u s' :=
        fun {σ' H' v u} J rv q => ⟨v, H', J.os, J.bare, J.base, J.hok, rv, q⟩
      cases fl with
      | ret u => obtain ⟨v, σ', H', J, rv, q⟩ := hs; exact fin J rv q
      | next => obtain ⟨σ', H', J, q⟩ := hs; exact fin (v := V.non) (u := Value.none) J rfl q
      | brk => obtain ⟨_, _, _, q⟩ := hs; exact q.elim
      | cont => obtain ⟨_, _, _, q⟩ := hs; exact q.elim
end
/-- the head of a law that makes lambdas: its table of code objects is empty -/
theorem top_callT {P : Program} {w : World} {K : PySem.W.Frag} {mg mb : Str → Option Value} {k : Nat} {fa a c Pt : Addr} {q : Str} {fd : FuncData} {x : Str} {Φ : D → Sto → (D → Sto → Prop) → Prop} {s1 : Shared} {vs : List Value} {ns : List Int}
    (KX : K.In s1.heap) (hns : s1.heap.Ns mainGlobals mg) (hb : s1.heap.Ns builtinsNs mb) (hbb : ∀ y : Str, y ≠ "__name__" → mb y = bootBuiltins y) (hlim : s1.heap.NoLimit) (hg : s1.gens = #[])
    (hT : s1.heap.get? Pt = some { cls := .none, data := .fields #[] }) (nT : K.lookup Pt = none) (hC : PySem.W.CodeHd s1.heap c Pt)
    (hbm : ∃ (bm : Addr) (ob : Obj), mg "__builtins__" = some (.ref bm) ∧ bm ≠ builtinsNs ∧ s1.heap.get? bm = some ob ∧ ob.cls = .type "module" ∧ ob.dict = some builtinsNs ∧ ob.data = .plain)
    (ha : s1.heap.get? a = some { cls := .type "list", data := .seq vs.toArray }) (hi : IntsAre vs ns) (hl : ns.length ≤ sizeLine) (hr : Room k callerA)
    (F : ∀ base : Heap, K.In base → base.Ns mainGlobals mg → TabB base mg c Pt → TopOk P w K mg base k fa fd x Φ) (hbind : ∀ (s : Shared) (u : Value), BindsTo s fd ⟨[u], []⟩ [(x, u)])
    (hΦ : Φ (.scr ns) (put (fun _ => none) Pt (.tab q)) (fun d _ => d = .bl true)) :
    codeAny (model P w) callerA (.call (.ref fa) ⟨[.ref a], []⟩) (fun r s' => r = .ok (.ret (.bool true)) ∧ OldK s1.heap s'.heap ∧ s'.os = s1.os ∧ AllBare s'.gens) s1 := by
  let ob : Obj := { cls := .type "list", data := .seq vs.toArray }
  let ot : Obj := { cls := .none, data := .fields #[] }
  have rv := vals_ints hi
  have aT : a ≠ Pt := fun z => by
    rw [z, hT] at ha
    have z2 : Data.fields #[] = Data.seq vs.toArray _ := congrArg Obj.data (Option.some.inj ha)
    cases z2
  -- H tracks the table, and perhaps the script
  have core : ∀ H : Hp, H Pt = some (.tbl #[]) → (∀ b, b ≠ Pt → H b = none ∨ (b = a ∧ K.lookup a = none ∧ H b = some (.frz ob (.lst (ns.map V.int))))) → SqX K H a (ns.map V.int) → HOk P w H s1.heap →
      codeAny (model P w) callerA (.call (.ref fa) ⟨[.ref a], []⟩) (fun r s' => r = .ok (.ret (.bool true)) ∧ OldK s1.heap s'.heap ∧ s'.os = s1.os ∧ AllBare s'.gens) s1 := by
    intro H hP hH hS hok
    have free : ∀ {b : Addr} {o : Obj}, s1.heap.get? b = some o → o ≠ ob → o ≠ ot → H b = none := fun {b o} e n n2 => by
      by_cases hb : b = Pt
      · subst hb
        exact absurd (Option.some.inj (e.symm.trans hT)) n2
      · exact (hH b hb).elim id fun z => by rw [z.1, ha] at e; exact absurd (Option.some.inj e).symm n
    have down : ∀ {b : Addr} {m : Str → Option Value}, s1.heap.Ns b m → (hidT s1.heap H).Ns b m := fun {b m} ⟨o, es, ep, e, d, r⟩ =>
      ⟨o, es, ep, hidT_get e (free e (fun z => by rw [z] at d; cases d) fun z => by rw [z] at d; cases d), d, r⟩
    have kb : K.In (hidT s1.heap H) := fun b o e => hidT_get (KX b o e) (by
      by_cases hb : b = Pt
      · subst hb
        rw [nT] at e
        cases e
      · exact (hH b hb).elim id fun z => by rw [z.1, z.2.1] at e; cases e)
    have hM : L2.Mod K mg (hidT s1.heap H) := ⟨kb, down hns, ⟨mb, down hb, hbb⟩, let ⟨mc, h1, h2⟩ := hlim; ⟨mc, down h1, h2⟩⟩
    have tb : TabB (hidT s1.heap H) mg c Pt := by
      refine ⟨?_, ?_, fun z => ?_⟩
      · obtain ⟨o, us, file, tf, flags, tg, inF, text, tt, e1, r1, r2, r3, r⟩ := hC
        exact ⟨o, us, file, tf, flags, tg, inF, text, tt, hidT_get e1 (free e1 (fun z => by rw [z] at r2; cases r2) fun z => by rw [z] at r2; cases r2; simp at r3), r1, r2, r3, r⟩
      · obtain ⟨bm, o, b1, b2, b3, b4, b5, b6⟩ := hbm
        refine ⟨bm, o, b1, b2, fun z => ?_, fun z => ?_, hidT_get b3 (free b3 (fun z => by rw [z] at b6; cases b6) fun z => by rw [z] at b6; cases b6), b4, b5, b6⟩
        · obtain ⟨og, es, ep, e, hd, _⟩ := hns
          rw [z, e] at b3
          cases b3
          rw [hd] at b6
          cases b6
        · rw [z, hT] at b3
          cases b3
          cases b6
      · obtain ⟨og, es, ep, e, hd, _⟩ := hns
        rw [z, hT] at e
        cases e
        cases hd
    have e0 : Env0 P w K mg (hidT s1.heap H) callerA [] s1 H := ⟨rfl, hM, fun _ _ e => of_hidT e, Nat.le_of_eq (hidT_size _ _), trivial, fun _ hb => (nomatch hb), hok, .of_eq hg⟩
    have ok0 : SOk ⟨K, fun _ => False⟩ (put (fun _ => none) Pt (.tab q)) H := by
      refine ⟨fun b o z => ?_, fun _ z => z.elim, [(Pt, q)], fun b q' z => ?_, fun p hp => ?_⟩
      · by_cases hb : b = Pt
        · subst hb
          rw [put_same] at z
          cases z
          exact TabS.nil hP
        · rw [put_ne hb] at z
          cases z
      · by_cases hb : b = Pt
        · subst hb
          rw [put_same] at z
          cases z
          exact List.mem_singleton.mpr rfl
        · rw [put_ne hb] at z
          cases z
      · obtain rfl := List.mem_singleton.mp hp
        exact put_same
    have run := F _ kb (down hns) tb callerA s1 H (.ref a) (.ref a) rfl hr e0 (hbind s1 (.ref a)) rfl (fun v H' => v = .bl true ∧ ∀ b u, Fx u → H b = some u → H' b = some u) (fun _ => False) (put (fun _ => none) Pt (.tab q)) (fun d _ => d = .bl true) (.scr ns) ⟨a, rfl, hS⟩ ok0 hΦ
      (fun d S' e v H' ok st r => by subst e; exact ⟨r, fun b u f z => st.ext b u f z⟩)
    refine codeAny_mono run fun r s' h => ?_
    match r, h with
    | .error e, h => exact absurd h (by
        intro z
        obtain ⟨_, _, _, _, _, _, _, _, _, _, _, _, z⟩ := z
        exact z)
    | .ok (.ret u), ⟨v, H', os, bare, un, hok', r', e, st⟩ =>
      subst e
      obtain rfl : u = Value.bool true := r'
      obtain ⟨more, hP'⟩ := un.tbls Pt #[] hP
      have at' : s'.heap.get? Pt = some { cls := .none, data := .fields (#[] ++ more) } := hok' Pt _ hP'
      have key : ∀ b o, b ≠ Pt → s1.heap.get? b = some o → s'.heap.get? b = some o := fun b o nb e => by
        rcases hH b nb with z | ⟨_, _, z⟩
        · exact un.keep b o e z (fun z => nomatch z) (fun z => nomatch z)
        · obtain ⟨e1, _⟩ := hok b _ z
          obtain ⟨e2, _⟩ := hok' b _ (st b (.frz ob (.lst (ns.map V.int))) True.intro z)
          rw [e1] at e
          exact e2.trans e
      refine ⟨rfl, ⟨fun b o e => ?_, fun b o e => ?_⟩, os, bare⟩
      · by_cases hb : b = Pt
        · subst hb
          rw [hT] at e
          cases e
          exact .inr (.inl ⟨(hC.tab hT).isCodeTable, rfl, #[], more, rfl, at'⟩)
        · exact .inl (key b o hb e)
      · by_cases hb : b = Pt
        · subst hb
          exact ⟨_, at'⟩
        · exact ⟨o, key b o hb e⟩
  cases hk : K.lookup a with
  | some o =>
    have e : o = ob := Option.some.inj ((KX a o hk).symm.trans ha)
    subst e
    refine core (fun b => if b = Pt then some (.tbl #[]) else none) (if_pos rfl) (fun b hb => .inl (if_neg hb)) (.inr (.inr ⟨ob, vs.toArray, _, hk, rfl, rfl, rfl, by rw [List.size_toArray, hi.length]; exact hl, by simpa using rv⟩)) fun b u z => ?_
    by_cases hb : b = Pt
    · subst hb
      cases (if_pos rfl).symm.trans z
      exact hT
    · cases (if_neg hb).symm.trans z
  | none =>
    refine core (fun b => if b = Pt then some (.tbl #[]) else if b = a then some (.frz ob (.lst (ns.map V.int))) else none) (if_pos rfl) (fun b hP => ?_) (.inl ⟨ob, (if_neg aT).trans (if_pos rfl)⟩) fun b u z => ?_
    · by_cases hb : b = a
      · exact .inr ⟨hb, hk, (if_neg hP).trans (if_pos hb)⟩
      · exact .inl ((if_neg hP).trans (if_neg hb))
    · by_cases hP : b = Pt
      · subst hP
        cases (if_pos rfl).symm.trans z
        exact hT
      · have z1 := (if_neg hP).symm.trans z
        by_cases hb : b = a
        · subst hb
          cases (if_pos rfl).symm.trans z1
          exact ⟨ha, by rw [List.length_map]; exact hl, vs, _, rv, ha⟩
        · cases (if_neg hb).symm.trans z1
theorem walk_topT {l : PySem.W.OpenLaw} {n k : Nat} {q : Program} {loose : List Str} {XP : (Str → Option Value) → Heap → Prop} {YP : World → Heap → Prop} {d : DefRec} {K : Params → PySem.W.Frag} {Φ : D → Sto → (D → Sto → Prop) → Prop} {x qn : Str} {c Pt : Addr}
    (hn : l.most = some n) (hn2 : n ≤ sizeLine) (hdf : d.params.defaults = []) (hr : Room k callerA) (hY : ∀ (w : World) (h : Heap), YP w h → (K w.params).In h)
    (hT : ∀ (w : World) (h : Heap), YP w h → h.get? Pt = some { cls := .none, data := .fields #[] }) (nT : ∀ w : World, (K w.params).lookup Pt = none) (hC : ∀ (w : World) (h : Heap), YP w h → PySem.W.CodeHd h c Pt)
    (F : ∀ (w : World) (mg : Str → Option Value) (fa : Addr) (h : Heap), (K w.params).In h → h.Ns mainGlobals mg → mg d.name = some (.ref fa) →
      ∃ fd : FuncData, (∀ (s : Shared) (u : Value), BindsTo s fd ⟨[u], []⟩ [(x, u)]) ∧ ∀ base : Heap, (K w.params).In base → base.Ns mainGlobals mg → TabB base mg c Pt → TopOk l.prog w (K w.params) mg base k fa fd x Φ)
    (hΦ : ∀ ns : List Int, ns.length ≤ n → Φ (.scr ns) (put (fun _ => none) Pt (.tab qn)) (fun d _ => d = .bl true)) :
    PySem.W.WalkO q loose XP YP l.row.toRowW d [] (fun f vs => PySem.call f vs) :=
  Att.attach_call hn hdf fun w _ _ mg _ fa _ _ _ _ _ _ ns G Y _ _ _ hmg hobj hints hlen hg => by
    obtain ⟨fd, hb, hF⟩ := F w mg fa _ (hY w _ Y) G.T.g hmg
    exact top_callT (hY w _ Y) G.T.g G.T.b G.T.builtins G.T.nolimit hg (hT w _ Y) (nT w) (hC w _ Y) G.T.bmain hobj hints (Nat.le_trans hlen hn2) hr hF hb (hΦ ns hlen)
end Dl
/-! Dl20: three names at once, constants, defs with defaults. -/
namespace Dl
open PySem PySem.Spec PyProof.Rows L2
section
variable {X : Cx} {B : Fam}
theorem ds_par3 {i j l : Nat} {x y z : Str} {a b c : Expr} {ta : TDA} {px py pz pt pos : Pos} {kt k2 pt2} (hc : X.calm = true) (hN : X.N.Nodup) (hi : X.N[i]? = some x) (hj : X.N[j]? = some y) (hl : X.N[l]? = some z) (hij : i ≠ j) (hil : i ≠ l) (hjl : j ≠ l)
    (hx : X.env.scope.names.lookup x = some .local) (hy : X.env.scope.names.lookup y = some .local) (hz : X.env.scope.names.lookup z = some .local) (ha : DA X B [a, b, c] ta)
    (hw : swappedStores [.Tuple [.Name x px, .Name y py, .Name z pz] kt pt] (.Tuple [a, b, c] k2 pt2) X.env = pure (some [x, y, z]))
    (hs : swapsWithSole [.Tuple [.Name x px, .Name y py, .Name z pz] kt pt] (.Tuple [a, b, c] k2 pt2) pos.line X.env = pure false := by rfl) :
    DS X B (.Assign [.Tuple [.Name x px, .Name y py, .Name z pz] kt pt] (.Tuple [a, b, c] k2 pt2) pos) (dPar3 i j l ta) := fun β hB =>
  (ps_par3 hc hN hi hj hl hij hil hjl hx hy hz (ha β hB) hw hs).imp fun E σ H ⟨ρ, S, O, sr, h, o⟩ => ⟨ρ, S, _, sr, h, fun ds S1 h1 vs H1 ok st r => by
    split at h1
    · obtain ⟨v, _, rfl, r1, w, _, rfl, r2, u, _, rfl, r3, r4⟩ := r
      obtain rfl := r4
      exact ⟨v, w, u, rfl, o.nx _ _ h1 _ _ ((((sr.step ok st).set r1).set r2).set r3) st⟩
    · exact h1.elim⟩
theorem de_con {x : Str} {v : V} {d : D} {pos : Pos} (hg : Gl X x) (hm : ∃ u, X.mg x = some u ∧ RelV v u) (hr : ∀ Z S H, Rep ⟨X.K, Z⟩ S H v d) (hd : (x == ("__debug__" : Str)) = false := by decide) : DE X B (.Name x pos) (dC d) := by
  obtain ⟨u, h1, h2⟩ := hm
  exact de_glob hg h1 h2 hr hd
end
theorem u64 {k : Nat} {A : Around} (hr : Room k A) : A.units + 64 < cLine := by have := hr.un; omega
theorem u65 {k : Nat} {A : Around} (hr : Room k A) : A.units + 65 < cLine := by have := hr.un; omega
theorem u128 {k : Nat} {A : Around} (hr : Room k A) : A.units + 128 < cLine := by have := hr.un; omega
section
variable {P : Program} {w : World} {K : PySem.W.Frag} {mg : Str → Option Value} {base : Heap}
/-- a def with defaults by its body -/
theorem _root_.L2.FunD.okC {x qual : Str} {st : Stmt} {f : Addr} {fd : FuncData} {dvs : List V} {N ps : List Str} {k : Nat} {Φ : Phi} {t : EX → TDS} (F : FunD K x qual (defArgs st) (defBody st) (defScope st) dvs [] f fd) (sc : FnScope N ps (defScope st))
    (hder : ∀ (cdv : Value) (A : Around) (outer : List Env) (s : Shared) (H : Hp) (E : XK) (B : Fam) (PE : EX), Room k (defX P w K mg base N qual st f cdv A outer s H E).A → RaisesD (defX P w K mg base N qual st f cdv A outer s H E) B (fun C fs _ S => PE C fs S) →
      DSs (defX P w K mg base N qual st f cdv A outer s H E) B (defBody st) (t PE))
    (hvc : ∀ ds S P PE, ds.length = ps.length → Φ ds S P PE → t PE (bodyO P) (startD N ds) S) : FnD P w K mg base (k + 1) f fd ps Φ := by
  refine F.ok sc (fun vs H Q E h => h.1) fun cdv A outer s H vs Q E hr h => ?_
  obtain ⟨hl, Z, ds, S, P', PE, rs, ok, hΦ, kr, kx⟩ := h
  refine ⟨_, hder cdv A outer s H E (fun β => β = ⟨Z, S, H⟩) PE hr (fun β hβ => ?_) ⟨Z, S, H⟩ rfl, ?_⟩
  · subst hβ
    exact (takes_of (E := E) rfl rfl rfl rfl).imp fun cls d σ H' ⟨C, fs, ρ, S', dd, kvs, e1, e2, hdd, hk, hr', sr, hE⟩ => by
      subst e1 e2
      exact kx C fs S' hE dd kvs H' sr.ok sr.st hdd hk hr'
  · refine ⟨startD N ds, S, bodyO P', ⟨start_rep rs, ok, .refl⟩, hvc ds S P' PE (by rw [← rs.length]; exact hl) hΦ, ⟨?_, ?_, fun _ _ z => z.elim, fun _ _ z => z.elim⟩⟩
    · intro ρ S' ⟨d', S2, p, z⟩ σ H' sr st
      obtain ⟨ok2, r2, st2⟩ := z K Z H' .non sr.ok rfl
      exact kr d' S2 p _ _ ok2 (st.trans st2) r2
    · intro d S' ⟨d', S2, p, z⟩ v H' ok' _ st r
      obtain ⟨ok2, r2, st2⟩ := z K Z H' v ok' r
      exact kr d' S2 p _ _ ok2 (st.trans st2) r2
end
/-- a binding where all parameters are written, whatever the defaults -/
theorem binds_of {K : PySem.W.Frag} {fd : FuncData} {ps : List Str} (h : ∃ ds, Vals ([] : List V) ds ∧ Binds K fd ps ds) : Binds K fd ps [] := by
  obtain ⟨ds, r, b⟩ := h
  cases r
  exact b
end Dl
/-! Dl21: sum(lists, []). -/
namespace Dl
open PySem PySem.Spec PyProof.Rows L2
theorem args_sumS (a b : Value) : argsOk "sum" ⟨[a, b], []⟩ := by unfold argsOk; kernel_rfl
section
variable {prog : Program} {w : World} {A : Around}
/-- the loop of sum over lists: the total is a new list each time -/
theorem catL_loop {R : Result → Shared → Prop} {I : Addr} {fp wr : List Addr} {n : Nat} {Pv : Nat → Value → Prop} {St : Nat → Heap → Prop} (W : Walks prog w A.in1 I fp wr n Pv St) {h0 : Heap} {xs : List (List Value)} (hn : xs.length = n)
    (hv : ∀ i v, Pv i v → ∃ l c, v = .ref l ∧ h0.get? l = some { cls := .type "list", data := .seq (xs.getD i []).toArray c }) {S : Addr} (hSf : S ∉ fp) (hS0 : h0.get? S = none) (hw0 : ∀ b ∈ wr, h0.get? b = none) (hoc : ∀ i h, St i h → ∀ b ∈ wr, h.get? b ≠ none) (hz : xs.flatten.length ≤ sizeLine) :
    ∀ (k i : Nat) (s : Shared) (t : Addr) (ct c : Nat), n - i = k → i ≤ n → St i s.heap → (∀ b o, h0.get? b = some o → s.heap.get? b = some o) → s.heap.get? S = some { cls := .type "list", data := .seq #[.ref t] c } → t ∉ S :: wr →
      s.heap.get? t = some { cls := .type "list", data := .seq (xs.take i).flatten.toArray ct } →
      (∀ h' tk t' c', (∀ b o, h0.get? b = some o → h'.get? b = some o) → h'.get? t' = some { cls := .type "list", data := .seq xs.flatten.toArray c' } → (t' = t ∨ h0.get? t' = none) → R (.ok (.ret (.ref t'))) { s with heap := h', toks := tk }) →
      codeAny (model prog w) A (.builtin "sum.loop" ⟨[.ref I, .ref S, rawInt 2, rawInt 0], []⟩) R s := by
  have hSw : S ∉ wr := fun h => hSf (W.sub _ h)
  have out : ∀ {b : Addr} {o : Obj}, h0.get? b = some o → b ∉ wr ∧ b ≠ S := by
    intro b o e
    refine ⟨fun z => ?_, fun z => ?_⟩
    · rw [hw0 b z] at e; cases e
    · rw [z, hS0] at e; cases e
  intro k
  induction k with
  | zero =>
    intro i s t ct c hk hi hst hkeep hS ht hT hR
    obtain rfl : i = n := by omega
    refine codeAny_builtin PySem.F.entry_sum_loop (by
      rw [Around.under_plainId PySem.F.plain_sum_loop _]
      show wpAny _ A.in1 (seqItems? (.ref S) >>= _) _ _ s
      refine wpAny_bind (wpAny_seqItems hS rfl ?_)
      show wpAny _ A.in1 (tryCatch (pyNext (.ref I)) _ >>= _) _ _ s
      refine wpAny_bind (wpAny_tryCatch (W.done s _ _ hst fun h' tk hm => wpAny_pure (hR h' tk t ct (fun b o e => hm b o (out e).1 (hkeep b o e)) ?_ (.inl rfl))))
      rw [List.take_of_length_le (by omega)] at hT
      exact hm t _ (fun z => ht (List.mem_cons_of_mem _ z)) hT)
  | succ k ih =>
    intro i s t ct c hk hi hst hkeep hS ht hT hR
    have hlt : i < n := by omega
    refine codeAny_builtin PySem.F.entry_sum_loop (by
      rw [Around.under_plainId PySem.F.plain_sum_loop _]
      show wpAny _ A.in1 (seqItems? (.ref S) >>= _) _ _ s
      refine wpAny_bind (wpAny_seqItems hS rfl ?_)
      show wpAny _ A.in1 (tryCatch (pyNext (.ref I)) _ >>= _) _ _ s
      refine wpAny_bind (wpAny_tryCatch (W.item i s _ _ hlt hst fun v h' tk hP hst' hm => ?_))
      obtain ⟨l, cl, rfl, hl0⟩ := hv i v hP
      have kp : ∀ b o, h0.get? b = some o → h'.get? b = some o := fun b o e => hm b o (out e).1 (hkeep b o e)
      have hS' := hm S _ hSw hS
      have hT' := hm t _ (fun z => ht (List.mem_cons_of_mem _ z)) hT
      have tS : t ≠ S := fun z => ht (z ▸ List.mem_cons_self ..)
      have e1 : xs.take (i + 1) = xs.take i ++ [xs.getD i []] := by
        rw [List.take_add_one, List.getD_eq_getElem?_getD, List.getElem?_eq_getElem (by omega)]
        rfl
      have e2 : (xs.take (i + 1)).flatten = (xs.take i).flatten ++ xs.getD i [] := by rw [e1, List.flatten_append]; simp
      have hle : (xs.take (i + 1)).flatten.length ≤ xs.flatten.length := by
        have := congrArg List.length (congrArg List.flatten (List.take_append_drop (i + 1) xs))
        rw [List.flatten_append, List.length_append] at this
        omega
      show wpAny _ A.in1 ((holding [Value.ref l] (binaryOp .Add (.ref t) (.ref l))).attempt >>= _) _ _ _
      refine wpAny_bind (wpAny_attempt (wpAny_holding (PySem.P.add_list hT' (kp _ _ hl0) ?_ (by
        rw [List.size_toArray, List.size_toArray, ← List.length_append, ← e2]
        exact Nat.le_trans hle hz))))
      have ea : (xs.take i).flatten.toArray ++ (xs.getD i []).toArray = (xs.take (i + 1)).flatten.toArray := by rw [e2]; simp
      rw [ea]
      generalize hN : h'.objs.size = N
      have nN : h'.get? N = none := by
        cases q : h'.get? N with
        | none => rfl
        | some o => exact absurd (Heap.lt_size q) (by rw [hN]; exact Nat.lt_irrefl _)
      have pk : ∀ b o, h'.get? b = some o → (h'.push { cls := .type "list", data := .seq (xs.take (i + 1)).flatten.toArray }).get? b = some o := fun b o e => Heap.get?_push_of_some _ e
      have hS2 := pk _ _ hS'
      have hN2 : (h'.push { cls := .type "list", data := .seq (xs.take (i + 1)).flatten.toArray }).get? N = some { cls := .type "list", data := .seq (xs.take (i + 1)).flatten.toArray } := by
        rw [← hN]
        exact Heap.get?_push_size _ rfl
      have N0 : h0.get? N = none := by
        cases q : h0.get? N with
        | none => rfl
        | some o => rw [kp _ _ q] at nN; cases nN
      have NS : N ≠ S := fun z => by rw [z, hS'] at nN; cases nN
      generalize h'.push { cls := .type "list", data := .seq (xs.take (i + 1)).flatten.toArray } = h2 at *
      show wpAny _ A.in1 (updateSeq S (fun _ => #[Value.ref N]) >>= _) _ _ _
      refine wpAny_bind (wpAny_updateSeq hS2 rfl (wpAny_bind (wpAny_letGo (wpAny_bind ?_))))
      have hS3 := Heap.get?_update_self (Obj.mapSeq fun _ => #[Value.ref N]) hS2 rfl
      have oth : ∀ b, b ≠ S → ((h2.update S (Obj.mapSeq fun _ => #[Value.ref N])).update S (Obj.mapSeq fun _ => #[Value.ref N])).get? b = h2.get? b := fun b hb =>
        (Heap.get?_update_other _ _ (Ne.symm hb)).trans (Heap.get?_update_other _ _ (Ne.symm hb))
      refine wpAny_updateSeq hS3 rfl (wpAny_pure ⟨plainId_quiet PySem.F.plain_sum_loop _, ih (i + 1) _ N 0 _ (by omega) hlt (W.frame _ _ _ hst' fun b hb o e => ?_) (fun b o e => ?_) (Heap.get?_update_self _ hS3 rfl) ?_ ?_ fun h'' tk'' t'' c'' hk'' hT'' hor => ?_⟩)
      · rw [oth b fun z => hSf (z ▸ hb)]
        exact pk _ _ e
      · rw [oth b (out e).2]
        exact pk _ _ (kp _ _ e)
      · intro z
        rcases List.mem_cons.mp z with z | z
        · exact NS z
        · exact hoc _ _ hst' _ z nN
      · rw [oth N NS]
        exact hN2
      · exact hR h'' tk'' t'' c'' hk'' hT'' (hor.elim (fun z => .inr (z ▸ N0)) .inr))
theorem sub_l_str : isSubtype (.type "list") (.type "str") = pure false := by rw [isSubtype_type]; kernel_rfl
theorem sub_l_bytes : isSubtype (.type "list") (.type "bytes") = pure false := by rw [isSubtype_type]; kernel_rfl
theorem sub_l_ba : isSubtype (.type "list") (.type "bytearray") = pure false := by rw [isSubtype_type]; kernel_rfl
/-- sum of lists, from a list on -/
theorem call_sumL {E : Value → Shared → Prop} {s : Shared} {l st : Addr} {us : List Value} {xs : List (List Value)} {c : Nat} {Q : Value → Shared → Prop} (hh : A.handled = none) (hl : s.heap.IsList l us.toArray) (hs : s.heap.get? st = some { cls := .type "list", data := .seq #[] c })
    (hlen : us.length = xs.length) (hit : ∀ i v, us[i]? = some v → ∃ k c, v = .ref k ∧ s.heap.get? k = some { cls := .type "list", data := .seq (xs.getD i []).toArray c }) (hz : xs.flatten.length ≤ sizeLine)
    (h : ∀ h' tk t c', (∀ b o, s.heap.get? b = some o → h'.get? b = some o) → h'.get? t = some { cls := .type "list", data := .seq xs.flatten.toArray c' } → (t = st ∨ s.heap.get? t = none) → Q (.ref t) { s with heap := h', toks := tk }) :
    wpAny (model prog w) A (call (.builtin "sum") [.ref l, .ref st]) Q E s := by
  refine call_function_tree PySem.F.kind_sum PySem.F.plain_sum PySem.F.entry_sum (args_sumS _ _) ?_
  unfold Builtin.«sum»
  simp only [List.length_cons, List.length_nil]
  rw [if_neg (by decide)]
  refine wpAny_bind (wpAny_of_eq (show Builtin.Builtins.bindParams "sum" ["start"] 0 ⟨[.ref st], []⟩ = pure [some (.ref st)] from rfl) ?_)
  refine wpAny_bind (wpAny_pyIter_list hl (wpAny_bind (wpAny_pure ?_)))
  have neI : l ≠ s.heap.objs.size := Nat.ne_of_lt (let ⟨_, e, _⟩ := hl; Heap.lt_size e)
  have kp1 : ∀ b o, s.heap.get? b = some o → (s.heap.push { cls := .type "list_iterator", data := .fields #[.ref l, .int 0 0] }).get? b = some o := fun b o e => Heap.get?_push_of_some _ e
  have tS : Shared.TypeIs { s with heap := s.heap.push { cls := .type "list_iterator", data := .fields #[.ref l, .int 0 0] } } (.ref st) "list" := ⟨_, kp1 _ _ hs, rfl⟩
  simp only [List.forIn_cons, List.forIn_nil]
  refine wpAny_bind (wpAny_bind (wpAny_bind (wpAny_isInstance (b := false) tS sub_l_str ?_)))
  simp only [Bool.false_eq_true, if_false]
  refine wpAny_pure (wpAny_bind (wpAny_bind (wpAny_isInstance (b := false) tS sub_l_bytes ?_)))
  simp only [Bool.false_eq_true, if_false]
  refine wpAny_pure (wpAny_bind (wpAny_bind (wpAny_isInstance (b := false) tS sub_l_ba ?_)))
  simp only [Bool.false_eq_true, if_false]
  refine wpAny_pure (wpAny_pure ?_)
  have new1 : s.heap.get? s.heap.objs.size = none := by
    cases q : s.heap.get? s.heap.objs.size with
    | none => rfl
    | some o => exact absurd (Heap.lt_size q) (Nat.lt_irrefl _)
  have itAt : (s.heap.push { cls := .type "list_iterator", data := .fields #[.ref l, .int 0 0] }).IsListIter s.heap.objs.size l 0 := ⟨_, Heap.get?_push_size _ rfl, rfl, rfl⟩
  have lAt := hl.push (o := { cls := .type "list_iterator", data := .fields #[.ref l, .int 0 0] })
  have sz1 : (s.heap.push { cls := .type "list_iterator", data := .fields #[.ref l, .int 0 0] }).objs.size = s.heap.objs.size + 1 := Heap.size_push ..
  generalize s.heap.push { cls := .type "list_iterator", data := .fields #[.ref l, .int 0 0] } = h1 at *
  have new2 : s.heap.get? h1.objs.size = none := by
    cases q : s.heap.get? h1.objs.size with
    | none => rfl
    | some o => exact absurd (Heap.lt_size q) (Nat.not_lt.mpr (by rw [sz1]; exact Nat.le_succ _))
  refine wpAny_bind (wpAny_newObj_type ?_)
  refine wpAny_pure ⟨plainId_quiet PySem.F.plain_sum_loop _, catL_loop (Walks.list (A := A.in1) (by simpa using hh) s.heap.objs.size l neI us.toArray) (h0 := s.heap) (xs := xs) (by simp [hlen]) (fun i v e => hit i v (by simpa using e)) (S := h1.objs.size) ?_ new2 ?_ ?_ hz _ 0 _ st c _ rfl (Nat.zero_le _)
    ⟨itAt.at fun o e => Heap.get?_push_of_some _ e, lAt.push _⟩ (fun b o e => Heap.get?_push_of_some _ (kp1 b o e)) (Heap.get?_push_size _ rfl) ?_ ?_ fun h' tk t c' hk ht ho => h h' tk t c' hk ht ho⟩
  · simp only [List.mem_cons, List.not_mem_nil, or_false, not_or]
    exact ⟨by rw [sz1]; exact Nat.succ_ne_self _, fun z => by have := hl; obtain ⟨_, e, _⟩ := this; rw [← z, new2] at e; cases e⟩
  · intro b hb
    rw [List.mem_singleton.mp hb]
    exact new1
  · intro i h hst b hb
    rw [List.mem_singleton.mp hb]
    obtain ⟨⟨o, e, _⟩, _⟩ := hst
    rw [e]
    simp
  · simp only [List.mem_cons, List.not_mem_nil, or_false, not_or]
    exact ⟨fun z => (by rw [z, new2] at hs; cases hs), fun z => (by rw [z, new1] at hs; cases hs)⟩
  · exact Heap.get?_push_of_some _ (kp1 _ _ hs)
end
end Dl
/-! Dl22: len(set(texts)). -/
namespace Dl
open PySem PySem.Spec PyProof.Rows L2
/-- how many unlike texts, the last one ahead -/
def cntS : List Str → Nat
  | [] => 0
  | x :: r => if r.any (· == x) = true then cntS r else cntS r + 1
theorem cntS_le : ∀ l : List Str, cntS l ≤ l.length
  | [] => Nat.le_refl _
  | x :: r => by
    have := cntS_le r
    unfold cntS
    split <;> simp <;> omega
theorem cntS_full : ∀ l : List Str, cntS l = l.length ↔ l.Nodup
  | [] => by simp [cntS]
  | x :: r => by
    have := cntS_le r
    rw [List.nodup_cons, ← cntS_full r, show cntS (x :: r) = if r.any (· == x) = true then cntS r else cntS r + 1 from rfl, List.length_cons]
    by_cases h : r.any (· == x) = true
    · rw [if_pos h]
      obtain ⟨y, hy, e⟩ := List.any_eq_true.mp h
      have : y = x := eq_of_beq e
      subst this
      exact ⟨fun z => by omega, fun z => (z.1 hy).elim⟩
    · rw [if_neg h]
      have hx : x ∉ r := fun m => h (List.any_eq_true.mpr ⟨x, m, beq_self_eq_true x⟩)
      exact ⟨fun z => ⟨hx, by omega⟩, fun z => by rw [z.2]⟩
theorem any_comm (l : List Str) (k x : Str) : ((l ++ [x]).any (· == k)) = (l.any (· == k) || decide (k = x)) := by
  rw [List.any_append]
  congr 1
  simp only [List.any_cons, List.any_nil, Bool.or_false]
  by_cases e : k = x
  · subst e; simp
  · have : (x == k) = false := beq_eq_false_iff_ne.mpr (Ne.symm e)
    rw [this, decide_eq_false e]
section
variable {prog : Program} {w : World} {A : Around}
/-- the loop that fills a new set with texts -/
theorem strs_loop {R : Result → Shared → Prop} {I : Addr} {fp wr : List Addr} {G : Array GenState → Array GenState → Prop} {n : Nat} {Pv : Nat → Value → Prop} {St : Nat → Shared → Prop} (W : WalksS prog w A.in1 I fp wr G n Pv St) {S : Addr} (hSf : S ∉ fp) {xs : List Str} (hn : xs.length = n) (hb : n + 1 < scanBound)
    (hv : ∀ i v, Pv i v → ∃ t, v = .str (xs.getD i Str.empty) t) : ∀ (k i : Nat) (s : Shared), n - i = k → i ≤ n → St i s → s.heap.SetOf (PySem.strKind prog w) S (fun y => (xs.take i).any (· == y)) (cntS (xs.take i).reverse) →
      (∀ s', Moved (S :: wr) G s s' → s'.heap.SetOf (PySem.strKind prog w) S (fun y => xs.any (· == y)) (cntS xs.reverse) → R (.ok (.ret .none)) s') → codeAny (model prog w) A (.builtin "set.update.loop" ⟨[.ref S, .ref I], []⟩) R s := by
  have nS : S ∉ wr := fun z => hSf (W.sub _ z)
  have up : ∀ b ∈ wr, b ∈ S :: wr := fun b z => .tail _ z
  have setK : ∀ {s s' : Shared} {F : Str → Bool} {m : Nat}, Moved wr G s s' → s.heap.SetOf (PySem.strKind prog w) S F m → s'.heap.SetOf (PySem.strKind prog w) S F m := fun hm x => by
    obtain ⟨o, es, ep, tb, ho, r⟩ := x
    exact ⟨o, es, ep, tb, hm.heap S _ nS ho, r⟩
  intro k
  induction k with
  | zero =>
    intro i s hk hi hst hS hR
    obtain rfl : i = n := by omega
    refine codeAny_builtin PyProof.Rows.F.entry_set_update_loop (by
      rw [Around.under_plainId PyProof.Rows.F.plain_set_update_loop _]
      show wpAny _ A.in1 (pyNext (.ref I) >>= _) _ _ s
      refine wpAny_bind (W.done s _ _ hst fun s' hm => wpAny_pure (hR s' (hm.mono up) ?_))
      rw [List.take_of_length_le (by omega)] at hS
      exact setK hm hS)
  | succ k ih =>
    intro i s hk hi hst hS hR
    have hlt : i < n := by omega
    refine codeAny_builtin PyProof.Rows.F.entry_set_update_loop (by
      rw [Around.under_plainId PyProof.Rows.F.plain_set_update_loop _]
      show wpAny _ A.in1 (pyNext (.ref I) >>= _) _ _ s
      refine wpAny_bind (W.item i s _ _ hlt hst fun v s' hP hst' hm => ?_)
      obtain ⟨t, rfl⟩ := hv i v hP
      have e1 : xs.take (i + 1) = xs.take i ++ [xs.getD i Str.empty] := by
        rw [List.take_add_one, List.getD_eq_getElem?_getD, List.getElem?_eq_getElem (by omega)]
        rfl
      have bd : cntS (xs.take i).reverse + 1 < scanBound := by
        have := cntS_le (xs.take i).reverse
        rw [List.length_reverse, List.length_take] at this
        omega
      show wpAny _ A.in1 (holding [Value.str (xs.getD i Str.empty) t] (setAdd S (.str (xs.getD i Str.empty) t)) >>= _) _ _ s'
      refine wpAny_bind (wpAny_holding (by
        unfold setAdd
        refine wpAny_holding (wpAny_bind ((PySem.strKind prog w).pyHash (k := xs.getD i Str.empty) (strKind_is _ _ _ _) ?_))
        refine wpAny_setAddHashed_of (knd := PySem.strKind prog w) (s := { s' with toks := s'.toks + 1 }) (strKind_is _ _ _ _) rfl (setK (s' := s') hm hS) bd fun h' hsb hS2 => ?_
        refine wpAny_pure ⟨plainId_quiet PyProof.Rows.F.plain_set_update_loop _, ih (i + 1) _ (by omega) hlt (W.frame _ s' _ _ hst' (Nat.le_succ _) fun b hb o e => by rw [hsb.2 b fun z => hSf (z ▸ hb)]; exact e) ?_ fun s'' hm'' hS'' => hR s'' (Moved.trans W.gtrans ((hm.mono up).then_heap (Nat.le_succ _) fun b o z e => by rw [hsb.2 b fun q => z (q ▸ .head _)]; exact e) hm'') hS''⟩
        refine PyProof.Rows.SetOf_congr hS2 (fun y => by rw [e1, any_comm]) ?_
        rw [e1, List.reverse_append]
        show _ = if (xs.take i).reverse.any (· == xs.getD i Str.empty) = true then cntS (xs.take i).reverse else cntS (xs.take i).reverse + 1
        rw [List.any_reverse])))
/-- a new set of a list's texts -/
theorem set_strs {E : Value → Shared → Prop} {s : Shared} {l : Addr} {items : Array Value} {xs : List Str} {Q : Value → Shared → Prop} (hh : A.handled = none) (hl : s.heap.IsList l items) (hi : PyProof.Rows.StrsAre items.toList xs) (hb : xs.length + 1 < scanBound)
    (h : ∀ (h' : Heap) (tk : Nat), h'.SetOf (PySem.strKind prog w) s.heap.objs.size (fun y => xs.any (· == y)) (cntS xs.reverse) → (∀ b o, b < s.heap.objs.size → s.heap.get? b = some o → h'.get? b = some o) → Q (.ref s.heap.objs.size) { s with heap := h', toks := tk }) :
    wpAny (model prog w) A (call (.type "set") [.ref l]) Q E s := by
  obtain ⟨mc, mt, hmro⟩ := PySem.F.called_set.mro
  have g1 := PySem.F.called_set.made
  have g2 := PySem.F.called_set.sub
  refine wpAny_call (codeAny_of_tree (show wpAny _ _ (callAny (.type "set") _) _ _ _ from wpAny_pure ⟨Code.quiet_builtin _ (by decide +kernel), codeAny_builtin PySem.F.entry_type_call ?_⟩))
  rw [Around.under_plain (weight_type_call_type "set" [.ref l] []) rfl]
  have g3 := PySem.F.called_set.notType
  have g4 := PySem.F.called_set.canCreate
  have g5 := PySem.F.typeCall_set_1 (.ref l)
  repeat (any_goals (first | assumption | wp_step))
  let fresh : Bool → Obj := fun led => { cls := .type "set", dict := none, data := .set #[] 0 (.fresh 0 0 led) }
  refine codeAny_mono (code_set_new_1 (.ref l) (E := E) (Q₁ := fun obj s₁ => ∃ led : Bool, obj = .ref s.heap.objs.size ∧ s₁ = { s with heap := s.heap.push (fresh led) }) fun led => ⟨led, rfl, rfl⟩) fun r s₁ hr => ?_
  match r, hr with
  | .error e, hr => exact hr
  | .ok (.ret obj), ⟨led, e1, e2⟩ =>
    subst e1 e2
    have at0 : (s.heap.push (fresh led)).get? s.heap.objs.size = some (fresh led) := Heap.get?_push_size _ rfl
    have hT : Shared.TypeIs { s with heap := s.heap.push (fresh led) } (.ref s.heap.objs.size) "set" := ⟨_, at0, rfl⟩
    have g6 := PySem.F.called_set.init.lookup
    have g7 := PySem.F.called_set.init.bind (.ref s.heap.objs.size)
    repeat (any_goals (first | assumption | wp_step))
    refine codeAny_mono (codeAny_call_builtin (R := wants (fun r s₂ => r = .none ∧ ∃ h' tk, s₂ = { s with heap := h', toks := tk } ∧ h'.SetOf (PySem.strKind prog w) s.heap.objs.size (fun y => xs.any (· == y)) (cntS xs.reverse) ∧ (∀ b o, b < s.heap.objs.size → s.heap.get? b = some o → h'.get? b = some o)) E) PySem.F.called_set.init.plain PySem.F.entry_set_init (check_set_init_1 hT ?_)) fun r₂ s₂ hr₂ => ?_
    · have hlS : l < s.heap.objs.size := let ⟨_, e, _⟩ := hl; Heap.lt_size e
      have hl1 : (s.heap.push (fresh led)).IsList l items := hl.push _
      obtain ⟨⟨lc, ld, la, ls⟩, ho, q1, nl, q2⟩ := id hl
      simp only at q1 q2
      subst q1 q2
      have ho' : (s.heap.push (fresh led)).get? l = some { cls := .type "list", dict := ld, data := .seq items nl, slots := ls } := Heap.get?_push_of_some _ ho
      have g8 := PySem.F.sub_list_set
      have g9 := PySem.F.sub_list_frozenset
      have g10 : (Value.type "list" == Value.type "dict") = false := by decide
      unfold Builtin.«set.__init__» noKeywords Builtin.Frozenset.updateFrom
      generalize hPI : pyIter = PI
      wp_walk
      subst hPI
      refine wpAny_pyIter_list hl1 (wpAny_bind (wpAny_runValue ?_))
      have sz : (s.heap.push (fresh led)).objs.size = s.heap.objs.size + 1 := Heap.size_push ..
      refine strs_loop ((Walks.list (by simp [hh]) _ l (by rw [sz]; exact Nat.ne_of_lt (Nat.lt_succ_of_lt hlS)) items).toS) (S := s.heap.objs.size) ?_ (xs := xs) (by rw [← StrsAre.len_eq hi, Array.length_toList]) (by rw [← Array.length_toList, StrsAre.len_eq hi]; exact hb) (fun i v hv => SS.strs_at hi i v (by rw [Array.getElem?_toList]; exact hv)) _ 0 _ rfl (Nat.zero_le _)
        ⟨⟨_, Heap.get?_push_size _ rfl, rfl, rfl⟩, hl1.push _⟩ ?_ fun s' hm hS' => ?_
      · rw [sz]
        simp only [List.mem_cons, List.not_mem_nil, or_false, not_or]
        exact ⟨Nat.ne_of_lt (Nat.lt_succ_self _), Nat.ne_of_gt hlS⟩
      · exact PyProof.Rows.SetOf_congr ((PyProof.Rows.setObjOf_fresh (knd := PySem.strKind prog w) led).setOf (Heap.get?_push_of_some _ at0) (by unfold scanBound; omega)) (fun _ => rfl) rfl
      · obtain ⟨h', g', d', tk', os'⟩ := s'
        obtain ⟨hm1, rfl, rfl, rfl, _⟩ := hm
        show wpAny _ _ _ _ _ _
        refine wpAny_pure (show wpAny _ _ (ret Value.none) _ _ _ from wpAny_pure ⟨rfl, h', tk', rfl, hS', fun b o hb e => hm1 b o ?_ (Heap.get?_push_of_some _ (Heap.get?_push_of_some _ e))⟩)
        rw [sz]
        simp only [List.mem_cons, List.not_mem_nil, or_false, not_or]
        exact ⟨Nat.ne_of_lt hb, Nat.ne_of_lt (Nat.lt_succ_of_lt hb)⟩
    · match r₂, hr₂ with
      | .error e, hr₂ => exact hr₂
      | .ok (.ret r), ⟨e1, h', tk, e2, hS', hk'⟩ =>
        subst e1 e2
        repeat (any_goals (first | assumption | wp_step))
        exact h _ _ hS' hk'
end
end Dl
/-! Dl23: dicts as data: comprehensions, in, []; sum of lists, len(set(..)). -/
namespace Dl
open PySem PySem.Spec PyProof.Rows L2
def kD : Key → D
  | .inl i => .int i
  | .inr x => .str x
theorem kD_rep {K : Fr} {S : Sto} {H : Hp} {v : V} {k : Key} (r : Rep K S H v (kD k)) : v = kV k := by cases k <;> exact r
def putD (kvs : List (Key × D)) (k : Key) (v : D) : List (Key × D) :=
  if (kvs.any fun kv => decide (kv.1 = k)) = true then kvs.map (fun kv => if kv.1 = k then (kv.1, v) else kv) else kvs ++ [(k, v)]
/-- a dict's items, one by one -/
def KReps (K : Fr) (S : Sto) (H : Hp) : List (Key × V) → List (Key × D) → Prop
  | [], [] => True
  | p :: r, q :: t => p.1 = q.1 ∧ Rep K S H p.2 q.2 ∧ KReps K S H r t
  | _, _ => False
section
variable {K : Fr} {S S' : Sto} {H H' : Hp}
theorem KReps.keys : ∀ {kvs : List (Key × V)} {acc : List (Key × D)}, KReps K S H kvs acc → kvs.map (·.1) = acc.map (·.1)
  | [], [], _ => rfl
  | _ :: _, _ :: _, ⟨e, _, h⟩ => by rw [List.map_cons, List.map_cons, e, KReps.keys h]
  | [], _ :: _, h => h.elim
  | _ :: _, [], h => h.elim
theorem KReps.vals : ∀ {kvs : List (Key × V)} {acc : List (Key × D)}, KReps K S H kvs acc → Reps K S H (kvs.map (·.2)) (acc.map (·.2))
  | [], [], _ => rfl
  | _ :: _, _ :: _, ⟨_, r, h⟩ => .cons r (KReps.vals h)
  | [], _ :: _, h => h.elim
  | _ :: _, [], h => h.elim
theorem KReps.len {kvs : List (Key × V)} {acc : List (Key × D)} (h : KReps K S H kvs acc) : kvs.length = acc.length := by simpa using congrArg List.length h.keys
theorem KReps.map (f : ∀ {v : V} {d : D}, Rep K S H v d → Rep K S' H' v d) : ∀ {kvs : List (Key × V)} {acc : List (Key × D)}, KReps K S H kvs acc → KReps K S' H' kvs acc
  | [], [], _ => trivial
  | _ :: _, _ :: _, ⟨e, r, h⟩ => ⟨e, f r, KReps.map f h⟩
  | [], _ :: _, h => h.elim
  | _ :: _, [], h => h.elim
theorem KReps.snoc {k : Key} {v : V} {d : D} (r : Rep K S H v d) : ∀ {kvs : List (Key × V)} {acc : List (Key × D)}, KReps K S H kvs acc → KReps K S H (kvs ++ [(k, v)]) (acc ++ [(k, d)])
  | [], [], _ => ⟨rfl, r, trivial⟩
  | _ :: _, _ :: _, ⟨e, r1, h⟩ => ⟨e, r1, KReps.snoc r h⟩
  | [], _ :: _, h => h.elim
  | _ :: _, [], h => h.elim
theorem KReps.repl {k : Key} {v : V} {d : D} (r : Rep K S H v d) : ∀ {kvs : List (Key × V)} {acc : List (Key × D)}, KReps K S H kvs acc → KReps K S H (kvs.map fun kv => if kv.1 = k then (kv.1, v) else kv) (acc.map fun kv => if kv.1 = k then (kv.1, d) else kv)
  | [], [], _ => trivial
  | p :: _, q :: _, ⟨e, r1, h⟩ => by
    refine ⟨?_, ?_, KReps.repl r h⟩
    · show (if p.1 = k then (p.1, v) else p).1 = (if q.1 = k then (q.1, d) else q).1
      by_cases c : p.1 = k
      · rw [if_pos c, if_pos (e ▸ c)]; exact e
      · rw [if_neg c, if_neg (e ▸ c)]; exact e
    · show Rep K S H (if p.1 = k then (p.1, v) else p).2 (if q.1 = k then (q.1, d) else q).2
      by_cases c : p.1 = k
      · rw [if_pos c, if_pos (e ▸ c)]; exact r
      · rw [if_neg c, if_neg (e ▸ c)]; exact r1
  | [], _ :: _, h => h.elim
  | _ :: _, [], h => h.elim
theorem KReps.any {k : Key} : ∀ {kvs : List (Key × V)} {acc : List (Key × D)}, KReps K S H kvs acc → (kvs.any fun kv => decide (kv.1 = k)) = (acc.any fun kv => decide (kv.1 = k))
  | [], [], _ => rfl
  | p :: _, q :: _, ⟨e, _, h⟩ => by rw [List.any_cons, List.any_cons, KReps.any h, e]
  | [], _ :: _, h => h.elim
  | _ :: _, [], h => h.elim
theorem KReps.put {kvs : List (Key × V)} {acc : List (Key × D)} {k : Key} {v : V} {d : D} (h : KReps K S H kvs acc) (r : Rep K S H v d) : KReps K S H (putK kvs k v) (putD acc k d) := by
  unfold putK putD
  rw [h.any]
  split
  · exact h.repl r
  · exact h.snoc r
end
/-- what stands under a key -/
def lookD : List Key → List D → Key → Option D
  | k :: ks, d :: ds, j => if k = j then some d else lookD ks ds j
  | _, _, _ => none
theorem lookD_val {K : Fr} {S : Sto} {H : Hp} {j : Key} : ∀ {kvs : List (Key × V)} {ds : List D}, Reps K S H (kvs.map (·.2)) ds → (∃ v d, valV kvs j = some v ∧ lookD (kvs.map (·.1)) ds j = some d ∧ Rep K S H v d) ∨ (valV kvs j = none ∧ lookD (kvs.map (·.1)) ds j = none)
  | [], ds, h => by
    cases ds with
    | nil => exact .inr ⟨rfl, rfl⟩
    | cons d ds => obtain ⟨v, r, e, _⟩ := h; cases e
  | p :: kvs, [], h => by cases (show p.2 :: kvs.map (·.2) = [] from h)
  | p :: kvs, d :: ds, ⟨v, r, e, r1, rs⟩ => by
    cases e
    by_cases c : p.1 = j
    · exact .inl ⟨p.2, d, valV_pos c, if_pos c, r1⟩
    · rcases lookD_val (j := j) rs with ⟨v, d', e1, e2, r2⟩ | ⟨e1, e2⟩
      · exact .inl ⟨v, d', (valV_neg c).trans e1, (if_neg c).trans e2, r2⟩
      · exact .inr ⟨(valV_neg c).trans e1, (if_neg c).trans e2⟩
/-! ### hiding a new dict while it is made -/
section
variable {S : Sto} {H : Hp} {F : PySem.W.Frag} {Z : Addr → Prop} {a : Addr} {kvs : List (Key × V)}
theorem mv_fillD {u : HO} (e : H a = some (.dK kvs)) : Mv F (hideZ Z a) S H (hideZ Z a) S (upd H a u) := by
  have kp : ∀ b w, b ≠ a → Rd H b w → Rd (upd H a u) b w := fun b w hb q => q.imp (fun q => by rw [upd_ne hb]; exact q) fun ⟨ob, q⟩ => ⟨ob, by rw [upd_ne hb]; exact q⟩
  have no : ∀ b vs, Rd H b (.tup vs) → b ≠ a := fun b vs q z => by
    subst z
    rcases q with q | ⟨_, q⟩ <;> (rw [e] at q; cases q)
  exact ⟨fun b ws q => kp b _ (no b ws q) q, fun b ws h q => ⟨h, by rw [upd_ne (fun z => h.2 (.inr z))]; exact q⟩, fun b ws h q => ⟨h, kp b _ (fun z => h.2 (.inr z)) q⟩,
    fun b w f q => by rw [upd_ne (fun z => by subst z; rw [e] at q; cases q; exact f.elim)]; exact q⟩
theorem SOk.fillD {u : HO} (ok : SOk ⟨F, hideZ Z a⟩ S H) (e : H a = some (.dK kvs)) (nt : ∀ ps, u ≠ .tbl ps := by intro _ z; cases z) : SOk ⟨F, hideZ Z a⟩ S (upd H a u) := by
  refine ⟨fun b w q => (ok.rep b w q).mv (mv_fillD e) (upd_ne fun z => ?_), fun b z => ?_, ok.tabs⟩
  · have := (ok.nz a (.inr rfl)).1
    rw [z, this] at q
    cases q
  · obtain ⟨h1, h2, h3⟩ := ok.nz b z
    refine ⟨h1, hp_there h2, fun ps q => ?_⟩
    by_cases hb : b = a
    · rw [hb, upd_same] at q; exact nt ps (Option.some.inj q)
    · rw [upd_ne hb] at q; exact h3 ps q
end
/-! ### {k: v for ..} -/
def dcD (stb : Sto → Prop) (g : TDG) (tt : TDT) (tk tv : TDE) (ρ : DEnv) (Q : List (Key × D) → Sto → Prop) : List D → List (Key × D) → Sto → Prop
  | [], acc, S => stb S ∧ Q acc S
  | x :: xs, acc, S => stb S ∧ g x ρ S fun ρ2 S2 => tt ρ2 S2 fun b S3 => if b = true then tk ρ2 S3 fun y S4 => tv ρ2 S4 fun z S5 => ∃ k, y = kD k ∧ acc.length < sizeLine ∧ dcD stb g tt tk tv ρ Q xs (putD acc k z) S5 else dcD stb g tt tk tv ρ Q xs acc S3
def dDc (ti : TDI) (g : TDG) (tt : TDT) (tk tv : TDE) (own : List Nat) : TDE := fun ρ S Q => ti ρ S fun xs stb S1 => dcD stb g tt tk tv (wipeD ρ own) (fun acc S2 => Q (.dic (acc.map (·.1)) (acc.map (·.2))) S2) xs [] S1
section
variable {X : Cx} {B : Fam} {S0 : Sto} {H0 : Hp}
structure DcSt (F : PySem.W.Frag) (Z : Addr → Prop) (Dn : Addr) (S1 : Sto) (H1 : Hp) (σ : L2.St) (ρ : DEnv) (acc : List (Key × D)) (S : Sto) (H : Hp) : Prop where
  ok : SOk ⟨F, hideZ Z Dn⟩ S H
  env : ERep ⟨F, hideZ Z Dn⟩ S H σ ρ
  acc : ∃ kvs, H Dn = some (.dK kvs) ∧ KReps ⟨F, hideZ Z Dn⟩ S H kvs acc
  mv : Mv F Z S1 H1 (hideZ Z Dn) S H
  hid : ∀ a o, Z a → H1 a = some o → H a = some o
theorem DcSt.step {F : PySem.W.Frag} {Z : Addr → Prop} {Dn : Addr} {S1 S S' : Sto} {H1 H H' : Hp} {σ : L2.St} {ρ : DEnv} {acc : List (Key × D)} (q : DcSt F Z Dn S1 H1 σ ρ acc S H) (ok : SOk ⟨F, hideZ Z Dn⟩ S' H') (st : Step ⟨F, hideZ Z Dn⟩ S H S' H') : DcSt F Z Dn S1 H1 σ ρ acc S' H' where
  ok := ok
  env := q.env.step st
  acc := let ⟨kvs, h, r⟩ := q.acc; ⟨kvs, st.hid _ _ (.inr rfl) h, r.map fun r => r.step st⟩
  mv := q.mv.trans st.mv
  hid := fun a o z h => st.hid a o (.inl z) (q.hid a o z h)
theorem DcSt.put {F : PySem.W.Frag} {Z : Addr → Prop} {Dn : Addr} {S1 S : Sto} {H1 H : Hp} {σ : L2.St} {ρ : DEnv} {acc : List (Key × D)} {k : Key} {v : V} {d : D} (q : DcSt F Z Dn S1 H1 σ ρ acc S H) (n : H1 Dn = none) (r : Rep ⟨F, hideZ Z Dn⟩ S H v d) :
    ∃ kvs, H Dn = some (.dK kvs) ∧ kvs.length = acc.length ∧ DcSt F Z Dn S1 H1 σ ρ (putD acc k d) S (upd H Dn (.dK (putK kvs k v))) := by
  obtain ⟨kvs, h, rs⟩ := q.acc
  have m := mv_fillD (F := F) (Z := Z) (S := S) (u := .dK (putK kvs k v)) h
  refine ⟨kvs, h, rs.len, ⟨q.ok.fillD h, q.env.mv m, ⟨_, upd_same, (rs.put r).map fun r => r.mv m⟩, q.mv.trans m, fun a o z h1 => ?_⟩⟩
  rw [upd_ne (ne_of_none h1 n)]
  exact q.hid a o z h1
theorem dc_lift {Z : Addr → Prop} {ti : TDI} {g : TDG} {tt : TDT} {tk tv : TDE} {own : List Nat} {σ : L2.St} {H : Hp} {Q : VK}
    (h : lift ⟨X.K, Z⟩ S0 H0 (dDc ti g tt tk tv own) σ H Q) : tDc (liftI ⟨X.K, Z⟩ S0 H0 ti) (liftGx X.K own g) (liftTx X.K tt) (liftEx X.K tk) (liftEx X.K tv) own σ H Q := by
  obtain ⟨ρ, S, P, sr, h, k⟩ := h
  refine ⟨ρ, S, _, sr, h, fun xs stb S1 h1 J H1 ok1 st1 it => fun Dn nD => ?_⟩
  have nz := ok1.nzf nD
  refine ⟨fun i n H' => n = xs.length - i ∧ i ≤ xs.length ∧ ∃ acc S', DcSt X.K Z Dn S1 H1 (wipe σ own) (wipeD ρ own) acc S' H' ∧ dcD stb g tt tk tv (wipeD ρ own) (fun acc S2 => P (.dic (acc.map (·.1)) (acc.map (·.2))) S2) (xs.drop i) acc S', ⟨xs.length, by simp, Nat.zero_le _, [], S1, ?_, h1⟩, ?_⟩
  · exact ⟨ok1.hide nD, ((sr.env.step st1).wipe own).mv (mv_hide nD), ⟨[], upd_same, trivial⟩, mv_hide nD, fun a o z h => hp_keep nD h⟩
  rintro i n H' ⟨rfl, hi, acc, S', q, hf⟩
  by_cases hlt : i < xs.length
  · have e : xs.drop i = xs[i] :: xs.drop (i + 1) := List.drop_eq_getElem_cons hlt
    rw [e] at hf
    obtain ⟨hst, hf⟩ := hf
    obtain ⟨go, yl⟩ := it.go (hideZ Z Dn) i S' H' hlt q.ok q.mv hst
    refine .inr ⟨go, fun H2 => ∃ acc S', DcSt X.K Z Dn S1 H1 (wipe σ own) (wipeD ρ own) acc S' H2 ∧ dcD stb g tt tk tv (wipeD ρ own) (fun acc S2 => P (.dic (acc.map (·.1)) (acc.map (·.2))) S2) (xs.drop (i + 1)) acc S', fun H2 ⟨a2, S2, b, c⟩ => ⟨xs.length - (i + 1), by omega, rfl, hlt, a2, S2, b, c⟩, fun x H2 y => ?_⟩
    obtain ⟨d, hd, rx, ok2, st2⟩ := yl x H2 y
    have ed : xs[i] = d := by rw [List.getElem?_eq_getElem hlt] at hd; exact Option.some.inj hd
    rw [ed] at hf
    have q2 := q.step ok2 st2
    refine ⟨hideZ Z Dn, S', H2, d, wipeD ρ own, S', _, rx, ⟨q2.env, ok2, .refl⟩, hf, fun ρ3 S3 h3 σ3 H3 sr3 st3 w3 => ⟨w3.trans (wipe_wipe σ own), ?_⟩⟩
    have q3 := q2.step sr3.ok st3
    refine ⟨hideZ Z Dn, S3, H3, ρ3, S3, _, ⟨sr3.env, sr3.ok, .refl⟩, h3, fun b S4 h4 H4 ok4 st4 => ?_⟩
    have q4 := q3.step ok4 st4
    cases b with
    | false =>
      rw [if_neg (by decide)] at h4
      exact iteF ⟨acc, S4, q4, h4⟩
    | true =>
      rw [if_pos rfl] at h4
      refine iteT ?_
      refine ⟨hideZ Z Dn, S4, H4, ρ3, S4, _, ⟨sr3.env.step st4, ok4, .refl⟩, h4, fun y5 S5 h5 v5 H5 ok5 st5 r5 => ?_⟩
      have q5 := q4.step ok5 st5
      refine ⟨hideZ Z Dn, S5, H5, ρ3, S5, _, ⟨(sr3.env.step st4).step st5, ok5, .refl⟩, h5, fun z6 S6 h6 v6 H6 ok6 st6 r6 => ?_⟩
      obtain ⟨key, ek, hz, h7⟩ := h6
      subst ek
      obtain ⟨kvs, hD, hl, q7⟩ := (q5.step ok6 st6).put (k := key) nD r6
      exact ⟨kvs, key, kD_rep r5, hD, by rw [hl]; exact hz, _, S6, q7, h7⟩
  · have e : i = xs.length := by omega
    subst e
    rw [List.drop_length] at hf
    refine .inl ⟨it.stop (hideZ Z Dn) S' H' q.ok q.mv hf.1, ?_⟩
    obtain ⟨kvs, hD, rs⟩ := q.acc
    exact k _ _ hf.2 _ _ q.ok.show (st1.trans (.of_mv (q.mv.trans mv_show) q.hid)) ⟨Dn, kvs, rfl, ⟨(q.ok.nz Dn (.inr rfl)).1, nz⟩, .inl hD, rs.keys, rs.vals.mv mv_show⟩
variable {kx vx tg iter a b : Expr} {ifs : List Expr} {scope : Scope} {own : List (Str × Nat)} {pos p p2 qpos : Pos} {ti : TDI} {g : TDG} {tt : TDT} {tk tv ta tb : TDE}
theorem de_dc (hc : X.calm = true) (hN : X.N.Nodup) (hi : DI X B tg iter ti) (ok : BlkOk X.N X.env.scope scope own)
    (hg : ∀ (s : Shared) (H : Hp) (C : Addr) (cl : List (Str × Addr)) (fp : List Addr), DG (X.blk s H scope (compEnvC scope cl C X.env) fp) anyB (own.map (·.2)) tg g) (ht : ∀ (s : Shared) (H : Hp) (C : Addr) (cl : List (Str × Addr)) (fp : List Addr), DTs (X.blk s H scope (compEnvC scope cl C X.env) fp) anyB ifs tt)
    (hk : ∀ (s : Shared) (H : Hp) (C : Addr) (cl : List (Str × Addr)) (fp : List Addr), DE (X.blk s H scope (compEnvC scope cl C X.env) fp) anyB kx tk)
    (he : ∀ (s : Shared) (H : Hp) (C : Addr) (cl : List (Str × Addr)) (fp : List Addr), DE (X.blk s H scope (compEnvC scope cl C X.env) fp) anyB vx tv) (hs : ∀ x, foldedSetIterable iter X.env x = pure x := by intro _; rfl) :
    DE X B (.DictComp kx vx [⟨tg, iter, ifs, 0⟩] scope pos) (dDc ti g tt tk tv (own.map (·.2))) := fun β hB =>
  (pe_dc hc hN (hi β hB) ok (fun s H C cl fp => ⟨fun pins s1 σ H1 v u Q I r ⟨Z1, S1, H2, q⟩ => (hg s H C cl fp ⟨Z1, S1, H2⟩ trivial).run pins s1 σ H1 v u Q I r q⟩) (fun s H C cl fp => ⟨fun pins s1 σ H1 Q I ⟨Z1, S1, H2, q⟩ => (ht s H C cl fp ⟨Z1, S1, H2⟩ trivial).run pins s1 σ H1 Q I q⟩)
    (fun s H C cl fp => ⟨fun pins s1 σ H1 Q I ⟨Z1, S1, H2, q⟩ => (hk s H C cl fp ⟨Z1, S1, H2⟩ trivial).run pins s1 σ H1 Q I q⟩) (fun s H C cl fp => ⟨fun pins s1 σ H1 Q I ⟨Z1, S1, H2, q⟩ => (he s H C cl fp ⟨Z1, S1, H2⟩ trivial).run pins s1 σ H1 Q I q⟩) hs).imp fun σ H Q h => dc_lift h
/-! ### k in d, d[k] -/
def inDicR (neg : Bool) : RD2 := fun x y S Q => ∃ k ks ds, x = kD k ∧ y = .dic ks ds ∧ Q (.bl (if neg then !(lookD ks ds k).isSome else (lookD ks ds k).isSome)) S
theorem get_dic {Z : Addr → Prop} {S : Sto} {H : Hp} {v : V} {ks : List Key} {ds : List D} {k : Key} (r : Rep ⟨X.K, Z⟩ S H v (.dic ks ds)) :
    ∃ a o, v = .ref a ∧ DGet H a (kV k) o ∧ ((∃ w d, o = some w ∧ lookD ks ds k = some d ∧ Rep ⟨X.K, Z⟩ S H w d) ∨ (o = none ∧ lookD ks ds k = none)) := by
  obtain ⟨a, kvs, rfl, _, q, rfl, rs⟩ := r
  exact ⟨a, valV kvs k, rfl, .inl ⟨kvs, k, q, rfl, rfl⟩, lookD_val rs⟩
theorem od_inDic {neg : Bool} (hu : X.A.units + 1 < cLine) : OpD X (compareOp (if neg = true then .NotIn else .In)) (inDicR neg) := by
  intro Z pins s σ H x y v u Q I rx ry h
  obtain ⟨dx, dy, S, P, r1, r2, ok, ⟨k, ks, ds, rfl, rfl, h⟩, kq⟩ := h
  obtain ⟨a, o, rfl, g, hor⟩ := get_dic (k := k) r2
  rw [kD_rep r1] at rx
  cases ry
  have eo : o.isSome = (lookD ks ds k).isSome := by
    rcases hor with ⟨w, d, rfl, e, _⟩ | ⟨rfl, e⟩ <;> (rw [e]; rfl)
  have fin := kq _ _ h _ _ ok .refl rfl
  cases neg with
  | false => exact d_in hu I g rx fun s3 I3 => ⟨.bl _, H, I3, rfl, by rw [eo]; exact fin⟩
  | true => exact d_notIn hu I g rx fun s3 I3 => ⟨.bl _, H, I3, rfl, by rw [eo]; exact fin⟩
def dDix (ta tb : TDE) : TDE := fun ρ S Q => ta ρ S fun d S1 => ∃ ks ds, d = .dic ks ds ∧ tb ρ S1 fun y S2 => ∃ k e, y = kD k ∧ lookD ks ds k = some e ∧ Q e S2
theorem de_dix (hu : X.A.units + 1 < cLine) (ha : DE X B a ta) (hb : DE X B b tb) (hs : NoSl b) : DE X B (.Subscript a b pos) (dDix ta tb) := fun β hB =>
  (pe_dget hu (ha β hB) (hb β hB) hs).imp fun σ H Q ⟨ρ, S, P, sr, h, kq⟩ => ⟨ρ, S, _, sr, h, fun d S1 h1 v H1 ok1 st1 r1 => by
    obtain ⟨ks, ds, rfl, h1⟩ := h1
    refine ⟨ρ, S1, _, sr.step ok1 st1, h1, fun y S2 h2 v2 H2 ok2 st2 r2 => ?_⟩
    obtain ⟨k, e, rfl, hl, q⟩ := h2
    obtain ⟨a, o, rfl, g, hor⟩ := get_dic (k := k) (r1.step st2)
    rcases hor with ⟨w, d, rfl, e1, r3⟩ | ⟨_, e1⟩
    · rw [hl] at e1
      cases e1
      exact ⟨a, w, rfl, by rw [kD_rep r2]; exact g, kq _ _ q _ _ ok2 (st1.trans st2) r3⟩
    · rw [hl] at e1
      cases e1⟩
/-! ### sum(lists, []) -/
def lssD : List D → Option (List (List D))
  | [] => some []
  | .lst ys :: r => (lssD r).map (ys :: ·)
  | _ :: _ => none
def sumLR : RD2 := fun d e S Q => ∃ xs yss, lsD S d = some xs ∧ e = .lst [] ∧ lssD xs = some yss ∧ yss.flatten.length ≤ sizeLine ∧ Q (.lst yss.flatten) S
theorem lss_at {pins : List (Addr × Obj)} {σ : L2.St} {s : Shared} {H : Hp} {Z : Addr → Prop} {S : Sto} (I : Inv X pins σ H s) : ∀ {xs : List D} {yss : List (List D)} {vs : List V} {us : List Value}, lssD xs = some yss → Reps ⟨X.K, Z⟩ S H vs xs → Vals vs us →
    ∃ (zs : List (List Value)) (wss : List (List V)), us.length = zs.length ∧ (∀ i v, us[i]? = some v → ∃ k c, v = .ref k ∧ s.heap.get? k = some { cls := .type "list", data := .seq (zs.getD i []).toArray c }) ∧ Vals wss.flatten zs.flatten ∧ Reps ⟨X.K, Z⟩ S H wss.flatten yss.flatten
  | [], yss, vs, us, h, r, rv => by
    cases h
    cases (show vs = [] from r)
    cases rv
    exact ⟨[], [], rfl, fun i v e => by simp at e, .nil, rfl⟩
  | x :: xs, yss, vs, us, h, r, rv => by
    obtain ⟨v, t, rfl, r1, rs⟩ := r
    cases rv with
    | cons rv1 rvs =>
      cases x with
      | lst ys =>
        simp only [lssD, Option.map_eq_some_iff] at h
        obtain ⟨r', h, rfl⟩ := h
        obtain ⟨a, ws, rfl, _, q, r2⟩ := r1
        cases rv1
        obtain ⟨z, its, n, rr, _, e⟩ := I.lstM q
        obtain ⟨zs, wss, h1, h2, h3, h4⟩ := lss_at I h rs rvs
        refine ⟨its :: zs, ws :: wss, by simp [h1], fun i v e1 => ?_, ?_, ?_⟩
        · cases i with
          | zero => simp at e1; subst e1; exact ⟨a, n, rfl, e⟩
          | succ i => exact h2 i v (by simpa using e1)
        · rw [List.flatten_cons, List.flatten_cons]; exact rr.append h3
        · rw [List.flatten_cons, List.flatten_cons]; exact r2.append h4
      | _ => simp [lssD] at h
theorem cd_sumL (hc : X.calm = true) : CallD X (.builtin "sum") (two sumLR) := call_two fun Z pins s σ H v w us Q d e S P I rx rv rw_ ok h k => by
  obtain ⟨xs, yss, h1, rfl, h2, hz, q⟩ := h
  obtain ⟨a, vs, rfl, hq, rs⟩ := lsD_at ok rv h1
  obtain ⟨st, vs0, rfl, _, hs0, r0⟩ := rw_
  cases (show vs0 = [] from r0)
  cases rx with
  | cons rx1 rx2 =>
    cases rx2 with
    | cons rx2 rx3 =>
      cases rx3
      cases rx1
      cases rx2
      obtain ⟨_, its, n, rr, _, e1⟩ := I.lstM hq
      obtain ⟨_, its0, n0, rr0, _, e0⟩ := I.lstM hs0
      cases rr0
      obtain ⟨zs, wss, g1, g2, g3, g4⟩ := lss_at I h2 rs rr
      have zl : zs.flatten.length = yss.flatten.length := g3.length.symm.trans g4.length
      refine call_sumL (I.ok.hd hc) (⟨_, e1, rfl, n, rfl⟩ : s.heap.IsList a its.toArray) e0 g1 g2 (by omega) fun h' tk t c' hk ht ho => ?_
      by_cases hn : s.heap.get? t = none
      · have I2 : Inv X pins σ (upd H t (.lst wss.flatten)) { s with heap := h', toks := tk } := I.laidN hk hn (I.hok.gone hn) ⟨by rw [g4.length]; exact hz, _, c', g3, ht⟩
        have nH := I.hok.gone hn
        exact ⟨.ref t, _, I2, rfl, k _ _ q _ _ (ok.laid nH) (.laid nH) ⟨t, _, rfl, ⟨ok.fresh nH, ok.nzf nH⟩, upd_same, g4.step (.laid nH)⟩⟩
      · obtain rfl := ho.resolve_right hn
        have := hk _ _ e0
        rw [ht] at this
        have e3 : zs.flatten = [] := by
          have h5 := congrArg Obj.data (Option.some.inj this)
          simp at h5
          exact List.flatten_eq_nil_iff.mpr h5.1
        have e4 : yss.flatten = [] := List.length_eq_zero_iff.mp (by rw [← zl, e3]; rfl)
        rw [e4] at q
        exact ⟨.ref t, H, I.kept hk, rfl, k _ _ q _ _ ok .refl ⟨t, [], rfl, by assumption, hs0, rfl⟩⟩
/-! ### len(set(texts)) -/
def strsD : List D → Option (List Str)
  | [] => some []
  | .str z :: r => (strsD r).map (z :: ·)
  | _ :: _ => none
theorem strs_of : ∀ {xs : List D} {zs : List Str}, strsD xs = some zs → xs = zs.map .str
  | [], _, h => by cases h; rfl
  | .str z :: r, _, h => by
    simp only [strsD, Option.map_eq_some_iff] at h
    obtain ⟨t, h, rfl⟩ := h
    rw [strs_of h]
    rfl
  | .non :: _, _, h | .int _ :: _, _, h | .bl _ :: _, _, h | .ty _ :: _, _, h | .ref _ :: _, _, h | .tup _ :: _, _, h | .scr _ :: _, _, h | .lst _ :: _, _, h | .dic _ _ :: _, _, h => by cases h
def dLenSet (ta : TDE) : TDE := fun ρ S Q => ta ρ S fun d S1 => ∃ xs zs, lsD S1 d = some xs ∧ strsD xs = some zs ∧ zs.length ≤ 1000 ∧ Q (.int (cntS zs.reverse)) S1
theorem de_lenSet (hg : Gl X "len") (hm : X.mg "len" = none) (hg2 : Gl X "set") (hm2 : X.mg "set" = none) (ha : DE X B a ta) (hc : X.calm = true) (na : starEach [a] X.env = (false, eval a X.env) :: starEach [] X.env := by rfl) :
    DE X B (.Call (.Name "len" p) [.Call (.Name "set" p2) [a] [] qpos] [] pos) (dLenSet ta) := fun β hB => by
  refine ⟨fun pins s σ H Q I h => ?_⟩
  obtain ⟨ρ, S, P, sr, h, kq⟩ := h
  refine Call_ (ld_blt I hg hm boot_len (PyProof.Rows.callWith_builtin1 (PyProof.Rows.args_cons ?_ rfl) rfl rfl))
  refine Call_ (ld_blt I hg2 hm2 boot_set (PyProof.Rows.callWith_type1 (PyProof.Rows.args_cons (thn ((ha β hB).run pins s σ H _ I ⟨ρ, S, _, sr, h, fun d S1 h1 v H1 ok1 st1 r1 => (⟨d, S1, h1, ok1, st1, r1⟩ : ∃ d S1, (∃ xs zs, lsD S1 d = some xs ∧ strsD xs = some zs ∧ zs.length ≤ 1000 ∧ P (.int (cntS zs.reverse)) S1) ∧ SOk ⟨X.K, β.Z⟩ S1 H1 ∧ Step ⟨X.K, β.Z⟩ S H S1 H1 ∧ Rep ⟨X.K, β.Z⟩ S1 H1 v d)⟩) fun v s1 ⟨x, H1, I1, r1, q1⟩ => PyProof.Rows.args_nil ?_) na) na rfl))
  obtain ⟨d, S1, ⟨xs, zs, h1, h2, hz, q⟩, ok1, st1, rd⟩ := q1
  obtain ⟨l, vs, rfl, hq, rs⟩ := lsD_at ok1 rd h1
  rw [strs_of h2] at rs
  cases r1
  obtain ⟨_, its, n, rr, _, e1⟩ := I1.lstM hq
  rw [Reps.strs_inv rs] at rr
  refine set_strs (I1.ok.hd hc) (⟨_, e1, rfl, n, rfl⟩ : s1.heap.IsList l its.toArray) (by simpa using strsAre_of rr) (by unfold scanBound; omega) fun h' tk hS hk => PyProof.Rows.args_nil ?_
  obtain ⟨o, es, ep, t, ho, hex, hd, _, _, _, hf, hn⟩ := hS
  have I2 : Inv X pins σ H1 { s1 with heap := h', toks := tk } := I1.kept fun b o e => hk b o (Heap.lt_size e) e
  have := cntS_le zs.reverse
  rw [List.length_reverse] at this
  exact call_len_set ho hex hd hf (by rw [hn]; omega) ⟨.int (cntS zs.reverse), H1, I2.tok _, ⟨_, by rw [hn]⟩, kq _ _ q _ _ ok1 st1 rfl⟩
end
end Dl
/-! Dl24: defs that ask repr: called where no repr is under way; what is never reached. -/
namespace Dl
open PySem PySem.Spec PyProof.Rows L2 LamX
/-- a promise for calls at which no repr is under way -/
structure FnDG (P : Program) (w : World) (K : PySem.W.Frag) (mg : Str → Option Value) (base : Heap) (k : Nat) (f : Addr) (fd : FuncData) (ps : List Str) (Φ : Phi) : Prop where
  run : ∀ (A : Around) (outer : List Env) (s : Shared) (H : Hp) (args : Args) (us : List Value) (vs : List V) (Q : VK) (E : XK), A.guards = some [] → Room k A → Env0 P w K mg base A outer s H → BindsTo s fd args (ps.zip us) → Vals vs us → spD K ps.length Φ vs H Q E →
    codeAny (model P w) A (.call (.ref f) args) (CR (L2.CX P w) outer P w H s Q E) s
section
variable {P : Program} {w : World} {K : PySem.W.Frag} {mg : Str → Option Value} {base : Heap}
theorem FnDG.mono {j k : Nat} {f : Addr} {fd : FuncData} {ps : List Str} {Φ : Phi} (F : FnDG P w K mg base j f fd ps Φ) (h : j ≤ k) : FnDG P w K mg base k f fd ps Φ :=
  ⟨fun A outer s H args us vs Q E hg hr => F.run A outer s H args us vs Q E hg (hr.mono h)⟩
theorem _root_.L2.Fun.okG {x qual : Str} {st : Stmt} {f : Addr} {fd : FuncData} {N ps : List Str} {k : Nat} {Φ : Phi} {t : EX → TDS} (F : Fun K x qual st f fd) (sc : FnScope N ps (defScope st))
    (hder : ∀ (cdv : Value) (A : Around) (outer : List Env) (s : Shared) (H : Hp) (E : XK) (B : Fam) (PE : EX), Room k (defX P w K mg base N qual st f cdv A outer s H E).A → (defX P w K mg base N qual st f cdv A outer s H E).A.guards = some [] → RaisesD (defX P w K mg base N qual st f cdv A outer s H E) B (fun C fs _ S => PE C fs S) →
      DSs (defX P w K mg base N qual st f cdv A outer s H E) B (defBody st) (t PE))
    (hvc : ∀ ds S P PE, ds.length = ps.length → Φ ds S P PE → t PE (bodyO P) (startD N ds) S) : FnDG P w K mg base (k + 1) f fd ps Φ := by
  obtain ⟨oc, od, kV, doc, pm, an, cdv, ct, osl, rfl, lk, hcd⟩ := F.ex
  refine ⟨fun A outer s H args us vs Q E hg hr e0 hb r hs => ?_⟩
  obtain ⟨hl, Z, ds, S, P', PE, rs, ok, hΦ, kr, kx⟩ := hs
  have KX : K.In s.heap := e0.mod.kin.keeps fun b o e => (e0.bs b o e).1
  have lim := e0.mod.nolimit.keeps fun b o e => (e0.bs b o e).1
  refine codeAny_call_function hr.depth (KX _ _ lk) rfl sc.co sc.gen rfl (PySem.W.codeRec_of KX hcd) (hb _ _ _ _ (wpAny_newFunctionEnv_cells sc.kind (fun z hz => ?_) fun env he s1 x1 => ?_))
  · exact (sc.par z.1 (List.of_mem_zip hz).1).imp id fun q => ⟨q, PySem.W.cellsFrom_some _ _ _ (.inl q)⟩
  · subst he
    refine ⟨lim.keeps x1.toInCall.keep, codeAny_func ?_⟩
    have I := inv_start (CX := L2.CX P w) (E := E) sc hr.hd e0 hl r x1
    have T := hder cdv A outer s H E (fun β => β = ⟨Z, S, H⟩) PE (hr.deeper _) hg (fun β hβ => by
      subst hβ
      exact (takes_of (E := E) rfl rfl rfl rfl).imp fun cls d σ H' ⟨C, fs, ρ, S', dd, kvs, e1, e2, hdd, hk, hr', sr, hE⟩ => by
        subst e1 e2
        exact kx C fs S' hE dd kvs H' sr.ok sr.st hdd hk hr') ⟨Z, S, H⟩ rfl
    refine wpAny_mono (T.run [] s1 _ H { nx := fun _ H' => Q .non H', rt := Q } I ⟨startD N ds, S, bodyO P', ⟨start_rep rs, ok, .refl⟩, hvc ds S P' PE (by rw [← rs.length]; exact hl) hΦ, ⟨?_, ?_, fun _ _ z => z.elim, fun _ _ z => z.elim⟩⟩) (fun fl s' hs => ?_) fun e s' hs => hs
    · intro ρ S' ⟨d', S2, p, z⟩ σ H' sr st
      obtain ⟨ok2, r2, st2⟩ := z K Z H' .non sr.ok rfl
      exact kr d' S2 p _ _ ok2 (st.trans st2) r2
    · intro d S' ⟨d', S2, p, z⟩ v H' ok' _ st r
      obtain ⟨ok2, r2, st2⟩ := z K Z H' v ok' r
      exact kr d' S2 p _ _ ok2 (st.trans st2) r2
    · have fin : ∀ {σ' : L2.St} {H' : Hp} {v : V} {u : Value}, Inv (defX P w K mg base N qual st f cdv A outer s H E) [] σ' H' s' → RelV v u → Q v H' → CE outer P w H s Q u s' :=
        fun {σ' H' v u} J rv q => ⟨v, H', J.os, J.bare, J.base, J.hok, rv, q⟩
      cases fl with
      | ret u => obtain ⟨v, σ', H', J, rv, q⟩ := hs; exact fin J rv q
      | next => obtain ⟨σ', H', J, q⟩ := hs; exact fin (v := V.non) (u := Value.none) J rfl q
      | brk => obtain ⟨_, _, _, q⟩ := hs; exact q.elim
      | cont => obtain ⟨_, _, _, q⟩ := hs; exact q.elim
end
section
variable {X : Cx} {B : Fam} {k : Nat} {f : Addr} {fd : FuncData} {ps : List Str} {Φ : Phi} {E : EW} {x : Str} {p pos : Pos} {e : Expr} {es : List Expr} {ta : TDA}
theorem de_callG (F : FnDG X.prog X.w X.K X.mg X.base k f fd ps Φ) (hG : X.A.guards = some []) (hr : Room k X.A) (hE : RaisesD X B E) (hg : Gl X x) (hm : X.mg x = some (.ref f)) (hk : PySem.W.keepIn X.K (.ref f) = true) (hb : Binds X.K fd ps [])
    (ha : DA X B (e :: es) ta) (hdb : (x == ("__debug__" : Str)) = false := by decide) (he : starEach (e :: es) X.env = (false, eval e X.env) :: starEach es X.env := by rfl) (hpl : (backTo pos (starEach es X.env)).any (·.1) = false := by rfl) :
    DE X B (.Call (.Name x p) (e :: es) [] pos) (dCall E ps.length Φ [] ta) := fun β hB => by
  refine ⟨fun pins s σ H Q I h => ?_⟩
  obtain ⟨ρ, S, P, sr, h, kq⟩ := h
  refine wpAny_Call_Name_kw (ld_glob I hg hm (PySem.W.callWith_K (h₀ := X.base) I.ok.mod.kin hk (thn ((ha β hB).run pos pins s σ H (fun vs H1 => spD X.K ps.length Φ vs H1 Q (WE (wE ⟨X.K, β.Z⟩ β.S0 β.H0 E) σ)) I ⟨ρ, S, _, sr, h, fun ds S1 h1 vs H1 ok1 st1 r1 => ?_⟩) fun us s1 ⟨vs, H1, I1, r, q⟩ => ⟨I1.kIn, ?_⟩) he hpl) hdb)
  · rw [List.append_nil] at h1
    refine ⟨by rw [r1.length]; exact h1.1, β.Z, _, S1, P, _, r1, ok1, h1.2, kq.mono st1, fun C fs S2 q dd kvs H2 ok2 st2 hdd' hk' hr' => ?_⟩
    exact ⟨C, fs, ρ, S2, dd, kvs, rfl, rfl, hdd', hk', hr', sr.step ok2 (st1.trans st2), q⟩
  · have hl : us.length = ps.length := by rw [← r.length]; exact q.1
    refine wpAny_call (codeAny_mono (F.run X.A X.stack s1 H1 ⟨us, []⟩ us vs Q _ hG hr I1.env0 (by have := hb s1 us I1.kIn (by simpa using hl); simpa using this) r q) fun r' s' hq => ?_)
    cases r' with
    | error e => exact passAt (hE β hB) σ pins H1 s1 e s' I1 hq
    | ok fl =>
      cases fl with
      | ret u => exact I1.after hq
      | next => exact False.elim hq
      | brk => exact False.elim hq
      | cont => exact False.elim hq
theorem u1 {k : Nat} {A : Around} (hr : Room k A) : A.units + 1 < cLine := by have := hr.un; omega
def dNevE : TDE := fun _ _ _ => False
theorem de_never {e : Expr} : DE X B e dNevE := fun β hB => ⟨fun pins s σ H Q I ⟨ρ, S, P, sr, h, k⟩ => h.elim⟩
end
end Dl
/-! Dl25: repr of None, of a whole number, of a list or tuple. -/
namespace Dl
open PySem PySem.Spec PyProof.Rows L2
def reprA : RD1 := fun d S Q => (d = .non ∧ Q (.str "None") S) ∨ (∃ i, d = .int i ∧ i.natAbs.log2 < 1920 ∧ Q (.str (toString i)) S) ∨ reprR d S Q
theorem cd_reprA {X : Cx} (hg : X.A.guards = some []) (hu : X.A.units + 128 < cLine) : CallD X (.builtin "repr") (one reprA) := call_one fun Z pins s σ H v us Q d S P I rx rv ok h k => by
  rcases h with ⟨rfl, q⟩ | ⟨i, rfl, hz, q⟩ | h
  · obtain ⟨u, rfl, ru⟩ := vals1 rx
    obtain rfl : v = .non := rv
    obtain rfl : u = Value.none := ru
    exact PySem.P.repr_of_none ⟨.str _, H, I.tok _, ⟨_, rfl⟩, k _ _ q _ _ ok .refl rfl⟩
  · obtain rfl : v = .int i := rv
    exact SkE.call_repr_int pins s σ H _ us Q I rx ⟨i, rfl, hz, k _ _ q _ _ ok .refl rfl⟩
  · exact cd_repr hg hu Z pins s σ H [v] us Q I rx ⟨[d], S, P, .cons rv .nil, ok, h, k⟩
end Dl
namespace K01
open PySem PySem.Spec PyProof.Rows L2 Dl LamX NdefX

def top (i : Nat) : Stmt := PySem.Challenge.pw_neverflat_k01_isles_that_are_let.main.body.getD i (.Pass ⟨0, 0, 0, 0⟩)
abbrev s_is_integer : Stmt := top 14
abbrev s_is_within : Stmt := top 15
abbrev s_is_listed : Stmt := top 16
abbrev s_is_row : Stmt := top 17
abbrev s_fixed : Stmt := top 18
abbrev s_are_unlike : Stmt := top 19
abbrev s_is_name : Stmt := top 30
abbrev s_is_mode : Stmt := top 31
abbrev s_is_isle : Stmt := top 32
abbrev s_are_pairs : Stmt := top 33
abbrev s_is_move : Stmt := top 34
abbrev s_are_moves : Stmt := top 35
abbrev s_modes_of : Stmt := top 36
abbrev s_are_isles : Stmt := top 37
abbrev s_Yard_init : Stmt := inClass (top 38) 0
abbrev s_Yard_eq : Stmt := inClass (top 38) 1
abbrev s__law_pen : Stmt := top 40
abbrev s__law_draw : Stmt := top 41
abbrev s__law_pick : Stmt := top 42
abbrev s__law_mixed : Stmt := top 43
abbrev s__law_heard : Stmt := top 44
abbrev s__law_listed : Stmt := top 45
abbrev s__law_tuples : Stmt := top 46
abbrev s__law_wants : Stmt := top 47
abbrev s__law_wide : Stmt := top 48
abbrev s__law_is_title : Stmt := top 49
abbrev s__law_is_plain_isle : Stmt := top 50
abbrev s__law_bent_isle : Stmt := top 51
abbrev s_law : Stmt := top 52
abbrev s_BadYard_init : Stmt := inClass (top 3) 0
abbrev N_is_integer : List Str := ["value"]
theorem nd_is_integer : N_is_integer.Nodup := by decide +kernel
theorem st_is_integer (x0 : D) : startD N_is_integer [x0] = [some x0] := rfl
theorem sc_is_integer : FnScope N_is_integer [("value" : Str)] (defScope s_is_integer) := C8.fnScope_by (by decide +kernel)
abbrev N_is_within : List Str := ["value", "least", "most"]
theorem nd_is_within : N_is_within.Nodup := by decide +kernel
theorem st_is_within (x0 x1 x2 : D) : startD N_is_within [x0, x1, x2] = [some x0, some x1, some x2] := rfl
theorem sc_is_within : FnScope N_is_within [("value" : Str), ("least" : Str), ("most" : Str)] (defScope s_is_within) := C8.fnScope_by (by decide +kernel)
abbrev N_is_listed : List Str := ["value"]
theorem nd_is_listed : N_is_listed.Nodup := by decide +kernel
theorem st_is_listed (x0 : D) : startD N_is_listed [x0] = [some x0] := rfl
theorem sc_is_listed : FnScope N_is_listed [("value" : Str)] (defScope s_is_listed) := C8.fnScope_by (by decide +kernel)
abbrev N_is_row : List Str := ["value", "least", "most"]
theorem nd_is_row : N_is_row.Nodup := by decide +kernel
theorem st_is_row (x0 x1 x2 : D) : startD N_is_row [x0, x1, x2] = [some x0, some x1, some x2] := rfl
theorem sc_is_row : FnScope N_is_row [("value" : Str), ("least" : Str), ("most" : Str)] (defScope s_is_row) := C8.fnScope_by (by decide +kernel)
abbrev N_fixed : List Str := ["value", "one"]
theorem nd_fixed : N_fixed.Nodup := by decide +kernel
theorem st_fixed (x0 : D) : startD N_fixed [x0] = [some x0, none] := rfl
theorem sc_fixed : FnScope N_fixed [("value" : Str)] (defScope s_fixed) := C8.fnScope_by (by decide +kernel)
abbrev N_are_unlike : List Str := ["some", "at", "one"]
theorem nd_are_unlike : N_are_unlike.Nodup := by decide +kernel
theorem st_are_unlike (x0 : D) : startD N_are_unlike [x0] = [some x0, none, none] := rfl
theorem sc_are_unlike : FnScope N_are_unlike [("some" : Str)] (defScope s_are_unlike) := C8.fnScope_by (by decide +kernel)
abbrev N_is_name : List Str := ["value", "sign"]
theorem nd_is_name : N_is_name.Nodup := by decide +kernel
theorem st_is_name (x0 : D) : startD N_is_name [x0] = [some x0, none] := rfl
theorem sc_is_name : FnScope N_is_name [("value" : Str)] (defScope s_is_name) := C8.fnScope_by (by decide +kernel)
abbrev N_is_mode : List Str := ["value"]
theorem nd_is_mode : N_is_mode.Nodup := by decide +kernel
theorem st_is_mode (x0 : D) : startD N_is_mode [x0] = [some x0] := rfl
theorem sc_is_mode : FnScope N_is_mode [("value" : Str)] (defScope s_is_mode) := C8.fnScope_by (by decide +kernel)
abbrev N_is_isle : List Str := ["value", "mode"]
theorem nd_is_isle : N_is_isle.Nodup := by decide +kernel
theorem st_is_isle (x0 : D) : startD N_is_isle [x0] = [some x0, none] := rfl
theorem sc_is_isle : FnScope N_is_isle [("value" : Str)] (defScope s_is_isle) := C8.fnScope_by (by decide +kernel)
abbrev N_are_pairs : List Str := ["value", "modes", "least", "pair"]
theorem nd_are_pairs : N_are_pairs.Nodup := by decide +kernel
theorem st_are_pairs (x0 x1 x2 : D) : startD N_are_pairs [x0, x1, x2] = [some x0, some x1, some x2, none] := rfl
theorem sc_are_pairs : FnScope N_are_pairs [("value" : Str), ("modes" : Str), ("least" : Str)] (defScope s_are_pairs) := C8.fnScope_by (by decide +kernel)
abbrev N_is_move : List Str := ["value", "own", "modes", "pair", "name"]
theorem nd_is_move : N_is_move.Nodup := by decide +kernel
theorem st_is_move (x0 x1 x2 : D) : startD N_is_move [x0, x1, x2] = [some x0, some x1, some x2, none, none] := rfl
theorem sc_is_move : FnScope N_is_move [("value" : Str), ("own" : Str), ("modes" : Str)] (defScope s_is_move) := C8.fnScope_by (by decide +kernel)
abbrev N_are_moves : List Str := ["value", "own", "modes", "move"]
theorem nd_are_moves : N_are_moves.Nodup := by decide +kernel
theorem st_are_moves (x0 x1 x2 : D) : startD N_are_moves [x0, x1, x2] = [some x0, some x1, some x2, none] := rfl
theorem sc_are_moves : FnScope N_are_moves [("value" : Str), ("own" : Str), ("modes" : Str)] (defScope s_are_moves) := C8.fnScope_by (by decide +kernel)
abbrev N_modes_of : List Str := ["isles", "isle", "mode"]
theorem nd_modes_of : N_modes_of.Nodup := by decide +kernel
theorem st_modes_of (x0 : D) : startD N_modes_of [x0] = [some x0, none, none] := rfl
theorem sc_modes_of : FnScope N_modes_of [("isles" : Str)] (defScope s_modes_of) := C8.fnScope_by (by decide +kernel)
abbrev N_are_isles : List Str := ["value", "modes", "isle"]
theorem nd_are_isles : N_are_isles.Nodup := by decide +kernel
theorem st_are_isles (x0 : D) : startD N_are_isles [x0] = [some x0, none, none] := rfl
theorem sc_are_isles : FnScope N_are_isles [("value" : Str)] (defScope s_are_isles) := C8.fnScope_by (by decide +kernel)
abbrev N_Yard_init : List Str := ["self", "isles", "bars", "wishes", "modes", "some", "most", "part", "isle", "lot"]
theorem nd_Yard_init : N_Yard_init.Nodup := by decide +kernel
theorem st_Yard_init (x0 x1 x2 x3 : D) : startD N_Yard_init [x0, x1, x2, x3] = [some x0, some x1, some x2, some x3, none, none, none, none, none, none] := rfl
theorem sc_Yard_init : FnScope N_Yard_init [("self" : Str), ("isles" : Str), ("bars" : Str), ("wishes" : Str)] (defScope s_Yard_init) := C8.fnScope_by (by decide +kernel)
abbrev N_Yard_eq : List Str := ["self", "other"]
theorem nd_Yard_eq : N_Yard_eq.Nodup := by decide +kernel
theorem st_Yard_eq (x0 x1 : D) : startD N_Yard_eq [x0, x1] = [some x0, some x1] := rfl
theorem sc_Yard_eq : FnScope N_Yard_eq [("self" : Str), ("other" : Str)] (defScope s_Yard_eq) := C8.fnScope_by (by decide +kernel)
abbrev N__law_pen : List Str := ["script"]
theorem nd__law_pen : N__law_pen.Nodup := by decide +kernel
theorem st__law_pen (x0 : D) : startD N__law_pen [x0] = [some x0] := rfl
theorem sc__law_pen : FnScope N__law_pen [("script" : Str)] (defScope s__law_pen) := C8.fnScope_by (by decide +kernel)
abbrev N__law_draw : List Str := ["pen", "many", "at", "cell", "mixed", "digit", "great"]
theorem nd__law_draw : N__law_draw.Nodup := by decide +kernel
theorem st__law_draw (x0 x1 : D) : startD N__law_draw [x0, x1] = [some x0, some x1, none, none, none, none, none] := rfl
theorem sc__law_draw : FnScope N__law_draw [("pen" : Str), ("many" : Str)] (defScope s__law_draw) := C8.fnScope_by (by decide +kernel)
abbrev N__law_pick : List Str := ["pen", "some"]
theorem nd__law_pick : N__law_pick.Nodup := by decide +kernel
theorem st__law_pick (x0 x1 : D) : startD N__law_pick [x0, x1] = [some x0, some x1] := rfl
theorem sc__law_pick : FnScope N__law_pick [("pen" : Str), ("some" : Str)] (defScope s__law_pick) := C8.fnScope_by (by decide +kernel)
abbrev N__law_mixed : List Str := ["pen", "some", "turn", "rest", "found"]
theorem nd__law_mixed : N__law_mixed.Nodup := by decide +kernel
theorem st__law_mixed (x0 x1 : D) : startD N__law_mixed [x0, x1] = [some x0, some x1, none, none, none] := rfl
theorem sc__law_mixed : FnScope N__law_mixed [("pen" : Str), ("some" : Str)] (defScope s__law_mixed) := C8.fnScope_by (by decide +kernel)
abbrev N__law_heard : List Str := ["ask", "error", "words", "told", "found", "caught", "word", "is_one"]
theorem nd__law_heard : N__law_heard.Nodup := by decide +kernel
theorem st__law_heard (x0 : D) : startD N__law_heard [x0] = [some x0, none, none, none, none, none, none, none] := rfl
theorem sc__law_heard : FnScope N__law_heard [("ask" : Str)] (defScope s__law_heard) := C8.fnScope_by (by decide +kernel)
abbrev N__law_listed : List Str := ["value", "one"]
theorem nd__law_listed : N__law_listed.Nodup := by decide +kernel
theorem st__law_listed (x0 : D) : startD N__law_listed [x0] = [some x0, none] := rfl
theorem sc__law_listed : FnScope N__law_listed [("value" : Str)] (defScope s__law_listed) := C8.fnScope_by (by decide +kernel)
abbrev N__law_tuples : List Str := ["value", "one"]
theorem nd__law_tuples : N__law_tuples.Nodup := by decide +kernel
theorem st__law_tuples (x0 : D) : startD N__law_tuples [x0] = [some x0, none] := rfl
theorem sc__law_tuples : FnScope N__law_tuples [("value" : Str)] (defScope s__law_tuples) := C8.fnScope_by (by decide +kernel)
abbrev N__law_wants : List Str := ["pen", "own", "known", "others", "found", "name", "some", "one"]
theorem nd__law_wants : N__law_wants.Nodup := by decide +kernel
theorem st__law_wants (x0 x1 x2 : D) : startD N__law_wants [x0, x1, x2] = [some x0, some x1, some x2, none, none, none, none, none] := rfl
theorem sc__law_wants : FnScope N__law_wants [("pen" : Str), ("own" : Str), ("known" : Str)] (defScope s__law_wants) := C8.fnScope_by (by decide +kernel)
abbrev N__law_wide : List Str := ["pen", "many", "top", "names", "known", "isles", "lots", "lap", "bars", "name", "some", "modes", "pairs", "moves", "mode", "first", "last"]
theorem nd__law_wide : N__law_wide.Nodup := by decide +kernel
theorem st__law_wide (x0 x1 x2 : D) : startD N__law_wide [x0, x1, x2] = [some x0, some x1, some x2, none, none, none, none, none, none, none, none, none, none, none, none, none, none] := rfl
theorem sc__law_wide : FnScope N__law_wide [("pen" : Str), ("many" : Str), ("top" : Str)] (defScope s__law_wide) := C8.fnScope_by (by decide +kernel)
abbrev N__law_is_title : List Str := ["word", "sign"]
theorem nd__law_is_title : N__law_is_title.Nodup := by decide +kernel
theorem st__law_is_title (x0 : D) : startD N__law_is_title [x0] = [some x0, none] := rfl
theorem sc__law_is_title : FnScope N__law_is_title [("word" : Str)] (defScope s__law_is_title) := C8.fnScope_by (by decide +kernel)
abbrev N__law_is_plain_isle : List Str := ["value", "mode"]
theorem nd__law_is_plain_isle : N__law_is_plain_isle.Nodup := by decide +kernel
theorem st__law_is_plain_isle (x0 : D) : startD N__law_is_plain_isle [x0] = [some x0, none] := rfl
theorem sc__law_is_plain_isle : FnScope N__law_is_plain_isle [("value" : Str)] (defScope s__law_is_plain_isle) := C8.fnScope_by (by decide +kernel)
abbrev N__law_bent_isle : List Str := ["pen", "isle", "at", "name", "wild", "modes", "moves", "way", "rows", "mode", "letter"]
theorem nd__law_bent_isle : N__law_bent_isle.Nodup := by decide +kernel
theorem st__law_bent_isle (x0 x1 : D) : startD N__law_bent_isle [x0, x1] = [some x0, some x1, none, none, none, none, none, none, none, none, none] := rfl
theorem sc__law_bent_isle : FnScope N__law_bent_isle [("pen" : Str), ("isle" : Str)] (defScope s__law_bent_isle) := C8.fnScope_by (by decide +kernel)
abbrev N_law : List Str := ["script", "pen", "turn", "many", "plain", "isles", "made", "at", "bent", "names", "is_fine", "heard", "odd", "none", "letter", "isle"]
theorem nd_law : N_law.Nodup := by decide +kernel
theorem st_law (x0 : D) : startD N_law [x0] = [some x0, none, none, none, none, none, none, none, none, none, none, none, none, none, none, none] := rfl
theorem sc_law : FnScope N_law [("script" : Str)] (defScope s_law) := C8.fnScope_by (by decide +kernel)
/-- where the text's things stand -/
structure Ad where
  f_is_integer : Addr
  d_is_integer : FuncData
  f_is_within : Addr
  d_is_within : FuncData
  f_is_listed : Addr
  d_is_listed : FuncData
  f_is_row : Addr
  d_is_row : FuncData
  f_fixed : Addr
  d_fixed : FuncData
  f_are_unlike : Addr
  d_are_unlike : FuncData
  f_is_name : Addr
  d_is_name : FuncData
  f_is_mode : Addr
  d_is_mode : FuncData
  f_is_isle : Addr
  d_is_isle : FuncData
  f_are_pairs : Addr
  d_are_pairs : FuncData
  f_is_move : Addr
  d_is_move : FuncData
  f_are_moves : Addr
  d_are_moves : FuncData
  f_modes_of : Addr
  d_modes_of : FuncData
  f_are_isles : Addr
  d_are_isles : FuncData
  f_Yard_init : Addr
  d_Yard_init : FuncData
  f_Yard_eq : Addr
  d_Yard_eq : FuncData
  f__law_pen : Addr
  d__law_pen : FuncData
  f__law_draw : Addr
  d__law_draw : FuncData
  f__law_pick : Addr
  d__law_pick : FuncData
  f__law_mixed : Addr
  d__law_mixed : FuncData
  f__law_heard : Addr
  d__law_heard : FuncData
  f__law_listed : Addr
  d__law_listed : FuncData
  f__law_tuples : Addr
  d__law_tuples : FuncData
  f__law_wants : Addr
  d__law_wants : FuncData
  f__law_wide : Addr
  d__law_wide : FuncData
  f__law_is_title : Addr
  d__law_is_title : FuncData
  f__law_is_plain_isle : Addr
  d__law_is_plain_isle : FuncData
  f__law_bent_isle : Addr
  d__law_bent_isle : FuncData
  f_law : Addr
  d_law : FuncData
  f_BadYard_init : Addr
  d_BadYard_init : FuncData
  cc_BadYard : Addr
  cd_BadYard : Addr
  c_FlatError : Addr
  c_BadYard : Addr
  c_BadValue : Addr
  c_BadNumber : Addr
  c_BadPaper : Addr
  c_Misfit : Addr
  c_Nothing : Addr
  c_NoName : Addr
  c_BadText : Addr
  c_BadLine : Addr
  c_TooMany : Addr
  c_Yard : Addr
  k_WORDS : Addr
  ct : CT
  tabP : Addr
  tabQ : Str
  tabC : Addr
  e_tup0 : Addr
  e_tup1 : Addr
  e_tup2 : Addr
structure Txt (P : Program) (K : PySem.W.Frag) (mg : Str → Option Value) (a : Ad) : Prop where
  m_is_integer : mg "is_integer" = some (.ref a.f_is_integer)
  F_is_integer : Fun K "is_integer" "is_integer" s_is_integer a.f_is_integer a.d_is_integer
  m_is_within : mg "is_within" = some (.ref a.f_is_within)
  F_is_within : FunD K "is_within" "is_within" (defArgs s_is_within) (defBody s_is_within) (defScope s_is_within) [.non] [] a.f_is_within a.d_is_within
  m_is_listed : mg "is_listed" = some (.ref a.f_is_listed)
  F_is_listed : Fun K "is_listed" "is_listed" s_is_listed a.f_is_listed a.d_is_listed
  m_is_row : mg "is_row" = some (.ref a.f_is_row)
  F_is_row : FunD K "is_row" "is_row" (defArgs s_is_row) (defBody s_is_row) (defScope s_is_row) [.non] [] a.f_is_row a.d_is_row
  m_fixed : mg "fixed" = some (.ref a.f_fixed)
  F_fixed : Fun K "fixed" "fixed" s_fixed a.f_fixed a.d_fixed
  m_are_unlike : mg "are_unlike" = some (.ref a.f_are_unlike)
  F_are_unlike : Fun K "are_unlike" "are_unlike" s_are_unlike a.f_are_unlike a.d_are_unlike
  m_is_name : mg "is_name" = some (.ref a.f_is_name)
  F_is_name : Fun K "is_name" "is_name" s_is_name a.f_is_name a.d_is_name
  m_is_mode : mg "is_mode" = some (.ref a.f_is_mode)
  F_is_mode : Fun K "is_mode" "is_mode" s_is_mode a.f_is_mode a.d_is_mode
  m_is_isle : mg "is_isle" = some (.ref a.f_is_isle)
  F_is_isle : Fun K "is_isle" "is_isle" s_is_isle a.f_is_isle a.d_is_isle
  m_are_pairs : mg "are_pairs" = some (.ref a.f_are_pairs)
  F_are_pairs : Fun K "are_pairs" "are_pairs" s_are_pairs a.f_are_pairs a.d_are_pairs
  m_is_move : mg "is_move" = some (.ref a.f_is_move)
  F_is_move : Fun K "is_move" "is_move" s_is_move a.f_is_move a.d_is_move
  m_are_moves : mg "are_moves" = some (.ref a.f_are_moves)
  F_are_moves : Fun K "are_moves" "are_moves" s_are_moves a.f_are_moves a.d_are_moves
  m_modes_of : mg "modes_of" = some (.ref a.f_modes_of)
  F_modes_of : Fun K "modes_of" "modes_of" s_modes_of a.f_modes_of a.d_modes_of
  m_are_isles : mg "are_isles" = some (.ref a.f_are_isles)
  F_are_isles : Fun K "are_isles" "are_isles" s_are_isles a.f_are_isles a.d_are_isles
  F_Yard_init : FunD K "__init__" "Yard.__init__" (defArgs s_Yard_init) (defBody s_Yard_init) (defScope s_Yard_init) [(.ref a.e_tup0), (.ref a.e_tup1)] [] a.f_Yard_init a.d_Yard_init
  F_Yard_eq : Fun K "__eq__" "Yard.__eq__" s_Yard_eq a.f_Yard_eq a.d_Yard_eq
  m__law_pen : mg "_law_pen" = some (.ref a.f__law_pen)
  F__law_pen : Fun K "_law_pen" "_law_pen" s__law_pen a.f__law_pen a.d__law_pen
  m__law_draw : mg "_law_draw" = some (.ref a.f__law_draw)
  F__law_draw : Fun K "_law_draw" "_law_draw" s__law_draw a.f__law_draw a.d__law_draw
  m__law_pick : mg "_law_pick" = some (.ref a.f__law_pick)
  F__law_pick : Fun K "_law_pick" "_law_pick" s__law_pick a.f__law_pick a.d__law_pick
  m__law_mixed : mg "_law_mixed" = some (.ref a.f__law_mixed)
  F__law_mixed : Fun K "_law_mixed" "_law_mixed" s__law_mixed a.f__law_mixed a.d__law_mixed
  m__law_heard : mg "_law_heard" = some (.ref a.f__law_heard)
  F__law_heard : Fun K "_law_heard" "_law_heard" s__law_heard a.f__law_heard a.d__law_heard
  m__law_listed : mg "_law_listed" = some (.ref a.f__law_listed)
  F__law_listed : Fun K "_law_listed" "_law_listed" s__law_listed a.f__law_listed a.d__law_listed
  m__law_tuples : mg "_law_tuples" = some (.ref a.f__law_tuples)
  F__law_tuples : Fun K "_law_tuples" "_law_tuples" s__law_tuples a.f__law_tuples a.d__law_tuples
  m__law_wants : mg "_law_wants" = some (.ref a.f__law_wants)
  F__law_wants : Fun K "_law_wants" "_law_wants" s__law_wants a.f__law_wants a.d__law_wants
  m__law_wide : mg "_law_wide" = some (.ref a.f__law_wide)
  F__law_wide : Fun K "_law_wide" "_law_wide" s__law_wide a.f__law_wide a.d__law_wide
  m__law_is_title : mg "_law_is_title" = some (.ref a.f__law_is_title)
  F__law_is_title : Fun K "_law_is_title" "_law_is_title" s__law_is_title a.f__law_is_title a.d__law_is_title
  m__law_is_plain_isle : mg "_law_is_plain_isle" = some (.ref a.f__law_is_plain_isle)
  F__law_is_plain_isle : Fun K "_law_is_plain_isle" "_law_is_plain_isle" s__law_is_plain_isle a.f__law_is_plain_isle a.d__law_is_plain_isle
  m__law_bent_isle : mg "_law_bent_isle" = some (.ref a.f__law_bent_isle)
  F__law_bent_isle : Fun K "_law_bent_isle" "_law_bent_isle" s__law_bent_isle a.f__law_bent_isle a.d__law_bent_isle
  m_FlatError : mg "FlatError" = some (.ref a.c_FlatError)
  m_BadYard : mg "BadYard" = some (.ref a.c_BadYard)
  m_BadValue : mg "BadValue" = some (.ref a.c_BadValue)
  m_BadNumber : mg "BadNumber" = some (.ref a.c_BadNumber)
  m_BadPaper : mg "BadPaper" = some (.ref a.c_BadPaper)
  m_Misfit : mg "Misfit" = some (.ref a.c_Misfit)
  m_Nothing : mg "Nothing" = some (.ref a.c_Nothing)
  m_NoName : mg "NoName" = some (.ref a.c_NoName)
  m_BadText : mg "BadText" = some (.ref a.c_BadText)
  m_BadLine : mg "BadLine" = some (.ref a.c_BadLine)
  m_TooMany : mg "TooMany" = some (.ref a.c_TooMany)
  m_Yard : mg "Yard" = some (.ref a.c_Yard)
  S_BadYard : SupF P K mg a.c_BadYard a.f_BadYard_init a.cc_BadYard a.cd_BadYard a.d_BadYard_init "BadYard.__init__" s_BadYard_init
  i_BadYard : PySem.W.findIn K (.ref a.c_BadYard) "__init__" = some (some (.ref a.f_BadYard_init))
  t_BadYard : PySem.W.typeIn K (.ref a.f_BadYard_init) = some (.type "function")
  n_BadYard_part : PySem.W.findIn K (.ref a.c_BadYard) "part" = some none
  x_BadYard : XfC K a.c_BadYard
  n_BadValue_part : PySem.W.findIn K (.ref a.c_BadValue) "part" = some none
  x_BadValue : XfC K a.c_BadValue
  n_BadNumber_part : PySem.W.findIn K (.ref a.c_BadNumber) "part" = some none
  x_BadNumber : XfC K a.c_BadNumber
  n_BadPaper_part : PySem.W.findIn K (.ref a.c_BadPaper) "part" = some none
  x_BadPaper : XfC K a.c_BadPaper
  n_Misfit_part : PySem.W.findIn K (.ref a.c_Misfit) "part" = some none
  x_Misfit : XfC K a.c_Misfit
  n_Nothing_what : PySem.W.findIn K (.ref a.c_Nothing) "what" = some none
  x_Nothing : XfC K a.c_Nothing
  n_NoName_name : PySem.W.findIn K (.ref a.c_NoName) "name" = some none
  x_NoName : XfC K a.c_NoName
  n_BadText_line : PySem.W.findIn K (.ref a.c_BadText) "line" = some none
  n_BadText_word : PySem.W.findIn K (.ref a.c_BadText) "word" = some none
  x_BadText : XfC K a.c_BadText
  n_BadLine_word : PySem.W.findIn K (.ref a.c_BadLine) "word" = some none
  x_BadLine : XfC K a.c_BadLine
  n_TooMany_what : PySem.W.findIn K (.ref a.c_TooMany) "what" = some none
  n_TooMany_most : PySem.W.findIn K (.ref a.c_TooMany) "most" = some none
  x_TooMany : XfC K a.c_TooMany
  ct : CTOk K a.ct
  Mk_Yard : Mk K a.c_Yard a.f_Yard_init
  cls_Yard : Cls K a.c_Yard
  na_Yard_isles : NoAttr K a.c_Yard "isles"
  na_Yard_bars : NoAttr K a.c_Yard "bars"
  na_Yard_wishes : NoAttr K a.c_Yard "wishes"
  na_Yard_names : NoAttr K a.c_Yard "names"
  na_Yard_kept : NoAttr K a.c_Yard "kept"
  own_Yard : PySem.W.findIn K (.ref a.c_Yard) "__eq__" = some (some (.ref a.f_Yard_eq)) ∧ PySem.W.findIn K (.ref a.c_Yard) "__ne__" = some (some (.builtin "object.__ne__")) ∧ PySem.W.mroIn K a.c_Yard (.type "object") = some true
  fn_Yard_eq : PySem.W.isFn K (.ref a.f_Yard_eq) = true
  z_list : mg "list" = none
  z_tuple : mg "tuple" = none
  z_dict : mg "dict" = none
  z_int : mg "int" = none
  z_str : mg "str" = none
  z_bool : mg "bool" = none
  z_range : mg "range" = none
  z_enumerate : mg "enumerate" = none
  z_len : mg "len" = none
  z_all : mg "all" = none
  z_abs : mg "abs" = none
  z_isinstance : mg "isinstance" = none
  z_repr : mg "repr" = none
  z_sum : mg "sum" = none
  z_min : mg "min" = none
  z_set : mg "set" = none
  z_super : mg "super" = none
  c_LETTERS : ∃ u, mg "LETTERS" = some u ∧ RelV (.str "abcdefghijklmnopqrstuvwxyz") u
  c_WORDS : mg "WORDS" = some (.ref a.k_WORDS) ∧ ∀ Z S H, Rep ⟨K, Z⟩ S H (.ref a.k_WORDS) (.tup [.str "isle", .str "wild", .str "mode", .str "must", .str "move", .str "bar", .str "wish"])
  c_MOST_LETTERS : ∃ u, mg "MOST_LETTERS" = some u ∧ RelV (.int 8) u
  c_MOST_ISLES : ∃ u, mg "MOST_ISLES" = some u ∧ RelV (.int 6) u
  c_MOST_MODES : ∃ u, mg "MOST_MODES" = some u ∧ RelV (.int 5) u
  c_MOST_MOVES : ∃ u, mg "MOST_MOVES" = some u ∧ RelV (.int 8) u
  c_MOST_BARS : ∃ u, mg "MOST_BARS" = some u ∧ RelV (.int 4) u
  c_MOST_WISHES : ∃ u, mg "MOST_WISHES" = some u ∧ RelV (.int 3) u
  c_MOST_FIGURE : ∃ u, mg "MOST_FIGURE" = some u ∧ RelV (.int 1000000) u
  e_tup0 : ∀ Z S H, Rep ⟨K, Z⟩ S H (.ref a.e_tup0) (.tup [])
  e_tup1 : ∀ Z S H, Rep ⟨K, Z⟩ S H (.ref a.e_tup1) (.tup [])
  e_tup2 : ∀ Z S H, Rep ⟨K, Z⟩ S H (.ref a.e_tup2) (.tup [])
section
variable {P : Program} {w : World} {K : PySem.W.Frag} {mg : Str → Option Value} {base : Heap} {a : Ad}
theorem Txt.own_Yard_eq (T : Txt P K mg a) : ∀ C, C ∈ [a.c_Yard] → PySem.W.findIn K (.ref C) "__eq__" = some (some (.ref a.f_Yard_eq)) := fun C h => by
  obtain rfl := List.mem_singleton.mp h
  exact T.own_Yard.1
theorem Txt.own_Yard_ne (T : Txt P K mg a) : ∀ C, C ∈ [a.c_Yard] → PySem.W.findIn K (.ref C) "__eq__" = some (some (.ref a.f_Yard_eq)) ∧ PySem.W.findIn K (.ref C) "__ne__" = some (some (.builtin "object.__ne__")) ∧ PySem.W.mroIn K C (.type "object") = some true := fun C h => by
  obtain rfl := List.mem_singleton.mp h
  exact T.own_Yard
theorem Txt.xa_what (T : Txt P K mg a) : ∀ C, C ∈ [a.c_TooMany, a.c_Nothing] → XfC K C ∧ PySem.W.findIn K (.ref C) "what" = some none := fun C h => by
  simp only [List.mem_cons, List.not_mem_nil, or_false] at h
  rcases h with rfl | rfl
  · exact ⟨T.x_TooMany, T.n_TooMany_what⟩
  · exact ⟨T.x_Nothing, T.n_Nothing_what⟩
theorem Txt.xa_most (T : Txt P K mg a) : ∀ C, C ∈ [a.c_TooMany] → XfC K C ∧ PySem.W.findIn K (.ref C) "most" = some none := fun C h => by
  simp only [List.mem_cons, List.not_mem_nil, or_false] at h
  rcases h with rfl
  · exact ⟨T.x_TooMany, T.n_TooMany_most⟩
theorem Txt.xa_line (T : Txt P K mg a) : ∀ C, C ∈ [a.c_BadText] → XfC K C ∧ PySem.W.findIn K (.ref C) "line" = some none := fun C h => by
  simp only [List.mem_cons, List.not_mem_nil, or_false] at h
  rcases h with rfl
  · exact ⟨T.x_BadText, T.n_BadText_line⟩
theorem Txt.xa_word (T : Txt P K mg a) : ∀ C, C ∈ [a.c_BadText, a.c_BadLine] → XfC K C ∧ PySem.W.findIn K (.ref C) "word" = some none := fun C h => by
  simp only [List.mem_cons, List.not_mem_nil, or_false] at h
  rcases h with rfl | rfl
  · exact ⟨T.x_BadText, T.n_BadText_word⟩
  · exact ⟨T.x_BadLine, T.n_BadLine_word⟩
theorem Txt.xa_name (T : Txt P K mg a) : ∀ C, C ∈ [a.c_NoName] → XfC K C ∧ PySem.W.findIn K (.ref C) "name" = some none := fun C h => by
  simp only [List.mem_cons, List.not_mem_nil, or_false] at h
  rcases h with rfl
  · exact ⟨T.x_NoName, T.n_NoName_name⟩
theorem Txt.xa_part (T : Txt P K mg a) : ∀ C, C ∈ [a.c_BadYard, a.c_BadValue, a.c_BadNumber, a.c_BadPaper, a.c_Misfit] → XfC K C ∧ PySem.W.findIn K (.ref C) "part" = some none := fun C h => by
  simp only [List.mem_cons, List.not_mem_nil, or_false] at h
  rcases h with rfl | rfl | rfl | rfl | rfl
  · exact ⟨T.x_BadYard, T.n_BadYard_part⟩
  · exact ⟨T.x_BadValue, T.n_BadValue_part⟩
  · exact ⟨T.x_BadNumber, T.n_BadNumber_part⟩
  · exact ⟨T.x_BadPaper, T.n_BadPaper_part⟩
  · exact ⟨T.x_Misfit, T.n_Misfit_part⟩
theorem b_is_integer (T : Txt P K mg a) : Binds K a.d_is_integer [("value" : Str)] [] := T.F_is_integer.binds fun _ _ _ _ _ _ us hl => match us, hl with | [_], _ => rfl
theorem b_is_within (T : Txt P K mg a) : Binds K a.d_is_within [("value" : Str), ("least" : Str), ("most" : Str)] [] := binds_of (T.F_is_within.binds1 3 1 (by simp) rfl fun _ _ _ _ _ _ _ us its hl hi => match us, its, hl, hi with | [_, _, _], [_], _, _ => ⟨_, rfl, rfl⟩)
theorem b_is_listed (T : Txt P K mg a) : Binds K a.d_is_listed [("value" : Str)] [] := T.F_is_listed.binds fun _ _ _ _ _ _ us hl => match us, hl with | [_], _ => rfl
theorem b_is_row (T : Txt P K mg a) : Binds K a.d_is_row [("value" : Str), ("least" : Str), ("most" : Str)] [] := binds_of (T.F_is_row.binds1 3 1 (by simp) rfl fun _ _ _ _ _ _ _ us its hl hi => match us, its, hl, hi with | [_, _, _], [_], _, _ => ⟨_, rfl, rfl⟩)
theorem b_fixed (T : Txt P K mg a) : Binds K a.d_fixed [("value" : Str)] [] := T.F_fixed.binds fun _ _ _ _ _ _ us hl => match us, hl with | [_], _ => rfl
theorem b_are_unlike (T : Txt P K mg a) : Binds K a.d_are_unlike [("some" : Str)] [] := T.F_are_unlike.binds fun _ _ _ _ _ _ us hl => match us, hl with | [_], _ => rfl
theorem b_is_name (T : Txt P K mg a) : Binds K a.d_is_name [("value" : Str)] [] := T.F_is_name.binds fun _ _ _ _ _ _ us hl => match us, hl with | [_], _ => rfl
theorem b_is_mode (T : Txt P K mg a) : Binds K a.d_is_mode [("value" : Str)] [] := T.F_is_mode.binds fun _ _ _ _ _ _ us hl => match us, hl with | [_], _ => rfl
theorem b_is_isle (T : Txt P K mg a) : Binds K a.d_is_isle [("value" : Str)] [] := T.F_is_isle.binds fun _ _ _ _ _ _ us hl => match us, hl with | [_], _ => rfl
theorem b_are_pairs (T : Txt P K mg a) : Binds K a.d_are_pairs [("value" : Str), ("modes" : Str), ("least" : Str)] [] := T.F_are_pairs.binds fun _ _ _ _ _ _ us hl => match us, hl with | [_, _, _], _ => rfl
theorem b_is_move (T : Txt P K mg a) : Binds K a.d_is_move [("value" : Str), ("own" : Str), ("modes" : Str)] [] := T.F_is_move.binds fun _ _ _ _ _ _ us hl => match us, hl with | [_, _, _], _ => rfl
theorem b_are_moves (T : Txt P K mg a) : Binds K a.d_are_moves [("value" : Str), ("own" : Str), ("modes" : Str)] [] := T.F_are_moves.binds fun _ _ _ _ _ _ us hl => match us, hl with | [_, _, _], _ => rfl
theorem b_modes_of (T : Txt P K mg a) : Binds K a.d_modes_of [("isles" : Str)] [] := T.F_modes_of.binds fun _ _ _ _ _ _ us hl => match us, hl with | [_], _ => rfl
theorem b_are_isles (T : Txt P K mg a) : Binds K a.d_are_isles [("value" : Str)] [] := T.F_are_isles.binds fun _ _ _ _ _ _ us hl => match us, hl with | [_], _ => rfl
theorem b_Yard_init (T : Txt P K mg a) : Binds K a.d_Yard_init [("self" : Str), ("isles" : Str), ("bars" : Str), ("wishes" : Str)] [] := binds_of (T.F_Yard_init.binds1 4 2 (by simp) rfl fun _ _ _ _ _ _ _ us its hl hi => match us, its, hl, hi with | [_, _, _, _], [_, _], _, _ => ⟨_, rfl, rfl⟩)
theorem bd1_Yard_init (T : Txt P K mg a) : ∃ ds, Vals [.ref a.e_tup1] ds ∧ Binds K a.d_Yard_init [("self" : Str), ("isles" : Str), ("bars" : Str), ("wishes" : Str)] ds := T.F_Yard_init.binds1 3 1 (by simp) rfl fun _ _ _ _ _ _ _ us its hl hi => match us, its, hl, hi with | [_, _, _], [_, _], _, _ => ⟨_, rfl, rfl⟩
theorem ed1_Yard_init (T : Txt P K mg a) : ∀ Z S H, Reps ⟨K, Z⟩ S H [.ref a.e_tup1] [.tup []] := fun Z S H => .cons (T.e_tup1 Z S H) (.nil)
theorem bd2_Yard_init (T : Txt P K mg a) : ∃ ds, Vals [.ref a.e_tup0, .ref a.e_tup1] ds ∧ Binds K a.d_Yard_init [("self" : Str), ("isles" : Str), ("bars" : Str), ("wishes" : Str)] ds := T.F_Yard_init.binds1 2 0 (by simp) rfl fun _ _ _ _ _ _ _ us its hl hi => match us, its, hl, hi with | [_, _], [_, _], _, _ => ⟨_, rfl, rfl⟩
theorem ed2_Yard_init (T : Txt P K mg a) : ∀ Z S H, Reps ⟨K, Z⟩ S H [.ref a.e_tup0, .ref a.e_tup1] [.tup [], .tup []] := fun Z S H => .cons (T.e_tup0 Z S H) (.cons (T.e_tup1 Z S H) (.nil))
theorem b_Yard_eq (T : Txt P K mg a) : Binds K a.d_Yard_eq [("self" : Str), ("other" : Str)] [] := T.F_Yard_eq.binds fun _ _ _ _ _ _ us hl => match us, hl with | [_, _], _ => rfl
theorem b__law_pen (T : Txt P K mg a) : Binds K a.d__law_pen [("script" : Str)] [] := T.F__law_pen.binds fun _ _ _ _ _ _ us hl => match us, hl with | [_], _ => rfl
theorem b__law_draw (T : Txt P K mg a) : Binds K a.d__law_draw [("pen" : Str), ("many" : Str)] [] := T.F__law_draw.binds fun _ _ _ _ _ _ us hl => match us, hl with | [_, _], _ => rfl
theorem b__law_pick (T : Txt P K mg a) : Binds K a.d__law_pick [("pen" : Str), ("some" : Str)] [] := T.F__law_pick.binds fun _ _ _ _ _ _ us hl => match us, hl with | [_, _], _ => rfl
theorem b__law_mixed (T : Txt P K mg a) : Binds K a.d__law_mixed [("pen" : Str), ("some" : Str)] [] := T.F__law_mixed.binds fun _ _ _ _ _ _ us hl => match us, hl with | [_, _], _ => rfl
theorem b__law_heard (T : Txt P K mg a) : Binds K a.d__law_heard [("ask" : Str)] [] := T.F__law_heard.binds fun _ _ _ _ _ _ us hl => match us, hl with | [_], _ => rfl
theorem b__law_listed (T : Txt P K mg a) : Binds K a.d__law_listed [("value" : Str)] [] := T.F__law_listed.binds fun _ _ _ _ _ _ us hl => match us, hl with | [_], _ => rfl
theorem b__law_tuples (T : Txt P K mg a) : Binds K a.d__law_tuples [("value" : Str)] [] := T.F__law_tuples.binds fun _ _ _ _ _ _ us hl => match us, hl with | [_], _ => rfl
theorem b__law_wants (T : Txt P K mg a) : Binds K a.d__law_wants [("pen" : Str), ("own" : Str), ("known" : Str)] [] := T.F__law_wants.binds fun _ _ _ _ _ _ us hl => match us, hl with | [_, _, _], _ => rfl
theorem b__law_wide (T : Txt P K mg a) : Binds K a.d__law_wide [("pen" : Str), ("many" : Str), ("top" : Str)] [] := T.F__law_wide.binds fun _ _ _ _ _ _ us hl => match us, hl with | [_, _, _], _ => rfl
theorem b__law_is_title (T : Txt P K mg a) : Binds K a.d__law_is_title [("word" : Str)] [] := T.F__law_is_title.binds fun _ _ _ _ _ _ us hl => match us, hl with | [_], _ => rfl
theorem b__law_is_plain_isle (T : Txt P K mg a) : Binds K a.d__law_is_plain_isle [("value" : Str)] [] := T.F__law_is_plain_isle.binds fun _ _ _ _ _ _ us hl => match us, hl with | [_], _ => rfl
theorem b__law_bent_isle (T : Txt P K mg a) : Binds K a.d__law_bent_isle [("pen" : Str), ("isle" : Str)] [] := T.F__law_bent_isle.binds fun _ _ _ _ _ _ us hl => match us, hl with | [_, _], _ => rfl
theorem b_BadYard_init (T : Txt P K mg a) : Binds K a.d_BadYard_init [("self" : Str), ("part" : Str)] [] := by
  obtain ⟨oc, od, kV, doc, pm, an, ct, osl, e, _⟩ := T.S_BadYard.lk
  rw [e]
  exact .all fun us hl => match us, hl with | [_, _], _ => rfl
def t_is_integer (K : PySem.W.Frag) (a : Ad) (PE : EX) : TDS :=
  (dRet (dAndV (dB (isiR K a.ct) (aCons (dVar 0) (aCons (dC (.ty "int")) aNil))) (dNotV (dB (isiR K a.ct) (aCons (dVar 0) (aCons (dC (.ty "bool")) aNil))))))
def t_is_within (K : PySem.W.Frag) (a : Ad) (Φ_is_integer : Phi) (PE : EX) : TDS :=
  (dSeq (dIfS (dNot (dTst (dCall (fun C fs _ S => PE C fs S) 1 Φ_is_integer [] (aCons (dVar 0) aNil)))) (dRet (dC (.bl false))) dNext) (dRet (dAndV (dOrV (dOp isR (dVar 1) (dC .non)) (dOp geR (dVar 0) (dVar 1))) (dOrV (dOp isR (dVar 2) (dC .non)) (dOp leR (dVar 0) (dVar 2))))))
def t_is_listed (K : PySem.W.Frag) (a : Ad) (PE : EX) : TDS :=
  (dRet (dB (isiR K a.ct) (aCons (dVar 0) (aCons (dTup (aCons (dC (.ty "list")) (aCons (dC (.ty "tuple")) aNil))) aNil))))
def t_is_row (K : PySem.W.Frag) (a : Ad) (Φ_is_listed : Phi) (PE : EX) : TDS :=
  (dRet (dAndV (dCall (fun C fs _ S => PE C fs S) 1 Φ_is_listed [] (aCons (dVar 0) aNil)) (dChain leR leR (dVar 1) (dB (one lenR) (aCons (dVar 0) aNil)) (dIf (dTst (dOp isR (dVar 2) (dC .non))) (dVar 1) (dVar 2)))))
def t_fixed (K : PySem.W.Frag) (a : Ad) (Φ_is_listed Φ_fixed : Phi) (PE : EX) : TDS :=
  (dSeq (dIfS (dTst (dCall (fun C fs _ S => PE C fs S) 1 Φ_is_listed [] (aCons (dVar 0) aNil))) (dRet (dB (one tupleR) (aCons (dLc false (diSeq (dVar 0)) (gdName 1) dYes (dCall noE 1 Φ_fixed [] (aCons (dVar 1) aNil)) [1]) aNil))) dNext) (dRet (dVar 0)))
def t_are_unlike (K : PySem.W.Frag) (a : Ad) (PE : EX) : TDS :=
  (dRet (dB (one allR) (aCons (dLc false (diEnum2 (aCons (dVar 0) aNil)) (gdTup 2 (gdCons (gdName 1) (gdCons (gdName 2) gdNil))) dYes (dOp (inR true) (dVar 2) (dSl false (dVar 0) oNone (oSome (dVar 1)))) [1, 2]) aNil)))
def t_is_name (K : PySem.W.Frag) (a : Ad) (PE : EX) : TDS :=
  (dSeq (dIfS (dOr (dNot (dTst (dB (isiR K a.ct) (aCons (dVar 0) (aCons (dC (.ty "str")) aNil))))) (dOr (dNot (dTst (dChain leR leR (dC (.int 1)) (dB (one lenR) (aCons (dVar 0) aNil)) (dC (.int 8))))) (dTst (dOp (inR false) (dVar 0) (dC (.tup [.str "isle", .str "wild", .str "mode", .str "must", .str "move", .str "bar", .str "wish"])))))) (dRet (dC (.bl false))) dNext) (dRet (dB (one allR) (aCons (dLc false (diSeq (dVar 0)) (gdName 1) dYes (dOp (inStrR false) (dVar 1) (dC (.str "abcdefghijklmnopqrstuvwxyz"))) [1]) aNil))))
def t_is_mode (K : PySem.W.Frag) (a : Ad) (Φ_is_row Φ_is_name Φ_is_within : Phi) (PE : EX) : TDS :=
  (dSeq (dIfS (dOr (dNot (dTst (dCall (fun C fs _ S => PE C fs S) 3 Φ_is_row [] (aCons (dVar 0) (aCons (dC (.int 3)) (aCons (dC (.int 3)) aNil)))))) (dOr (dNot (dTst (dCall (fun C fs _ S => PE C fs S) 1 Φ_is_name [] (aCons (dOp ixR (dVar 0) (dC (.int 0))) aNil)))) (dNot (dTst (dCall (fun C fs _ S => PE C fs S) 3 Φ_is_within [] (aCons (dOp ixR (dVar 0) (dC (.int 1))) (aCons (dUn negR (dC (.int 1000000))) (aCons (dC (.int 1000000)) aNil)))))))) (dRet (dC (.bl false))) dNext) (dRet (dB (isiR K a.ct) (aCons (dOp ixR (dVar 0) (dC (.int 2))) (aCons (dC (.ty "bool")) aNil)))))
def t_is_isle (K : PySem.W.Frag) (a : Ad) (Φ_is_row Φ_is_name Φ_is_mode Φ_are_unlike : Phi) (PE : EX) : TDS :=
  (dSeq (dIfS (dOr (dNot (dTst (dCall (fun C fs _ S => PE C fs S) 3 Φ_is_row [] (aCons (dVar 0) (aCons (dC (.int 4)) (aCons (dC (.int 4)) aNil)))))) (dOr (dNot (dTst (dCall (fun C fs _ S => PE C fs S) 1 Φ_is_name [] (aCons (dOp ixR (dVar 0) (dC (.int 0))) aNil)))) (dNot (dTst (dB (isiR K a.ct) (aCons (dOp ixR (dVar 0) (dC (.int 1))) (aCons (dC (.ty "bool")) aNil))))))) (dRet (dC (.bl false))) dNext) (dSeq (dIfS (dOr (dNot (dTst (dCall (fun C fs _ S => PE C fs S) 3 Φ_is_row [] (aCons (dOp ixR (dVar 0) (dC (.int 2))) (aCons (dC (.int 1)) (aCons (dC (.int 5)) aNil)))))) (dNot (dTst (dB (one allR) (aCons (dLc false (diSeq (dOp ixR (dVar 0) (dC (.int 2)))) (gdName 1) dYes (dCall noE 1 Φ_is_mode [] (aCons (dVar 1) aNil)) [1]) aNil))))) (dRet (dC (.bl false))) dNext) (dRet (dCall (fun C fs _ S => PE C fs S) 1 Φ_are_unlike [] (aCons (dLc false (diSeq (dOp ixR (dVar 0) (dC (.int 2)))) (gdName 1) dYes (dOp ixR (dVar 1) (dC (.int 0))) [1]) aNil)))))
def t_are_pairs (K : PySem.W.Frag) (a : Ad) (Φ_is_listed Φ_is_row Φ_are_unlike : Phi) (PE : EX) : TDS :=
  (dSeq (dIfS (dOr (dNot (dTst (dCall (fun C fs _ S => PE C fs S) 1 Φ_is_listed [] (aCons (dVar 0) aNil)))) (dOr (dTst (dOp ltR (dB (one lenR) (aCons (dVar 0) aNil)) (dVar 2))) (dNot (dTst (dB (one allR) (aCons (dLc false (diSeq (dVar 0)) (gdName 3) dYes (dCall noE 3 Φ_is_row [] (aCons (dVar 3) (aCons (dC (.int 2)) (aCons (dC (.int 2)) aNil)))) [3]) aNil)))))) (dRet (dC (.bl false))) dNext) (dSeq (dFor (diSeq (dVar 0)) (gdName 3) (dSeq (dIfS (dOr (dNot (dTst (dB (isiR K a.ct) (aCons (dOp ixR (dVar 3) (dC (.int 0))) (aCons (dC (.ty "str")) aNil))))) (dNot (dTst (dB (isiR K a.ct) (aCons (dOp ixR (dVar 3) (dC (.int 1))) (aCons (dC (.ty "str")) aNil)))))) (dRet (dC (.bl false))) dNext) (dIfS (dOr (dTst (dOp (inDicR true) (dOp ixR (dVar 3) (dC (.int 0))) (dVar 1))) (dTst (dOp (inR true) (dOp ixR (dVar 3) (dC (.int 1))) (dDix (dVar 1) (dOp ixR (dVar 3) (dC (.int 0))))))) (dRet (dC (.bl false))) dNext))) (dRet (dCall (fun C fs _ S => PE C fs S) 1 Φ_are_unlike [] (aCons (dLc false (diSeq (dVar 0)) (gdName 3) dYes (dOp ixR (dVar 3) (dC (.int 0))) [3]) aNil)))))
def t_is_move (K : PySem.W.Frag) (a : Ad) (Φ_is_row Φ_is_within Φ_are_pairs : Phi) (PE : EX) : TDS :=
  (dSeq (dIfS (dOr (dNot (dTst (dCall (fun C fs _ S => PE C fs S) 3 Φ_is_row [] (aCons (dVar 0) (aCons (dC (.int 4)) (aCons (dC (.int 4)) aNil)))))) (dNot (dTst (dB (one allR) (aCons (dLc false (diSeq (dSl false (dVar 0) oNone (oSome (dC (.int 2))))) (gdName 4) dYes (dAndV (dB (isiR K a.ct) (aCons (dVar 4) (aCons (dC (.ty "str")) aNil))) (dOp (inR false) (dVar 4) (dDix (dVar 2) (dVar 1)))) [4]) aNil))))) (dRet (dC (.bl false))) dNext) (dSeq (dIfS (dOr (dTst (dOp eqR (dOp ixR (dVar 0) (dC (.int 0))) (dOp ixR (dVar 0) (dC (.int 1))))) (dOr (dNot (dTst (dCall (fun C fs _ S => PE C fs S) 3 Φ_is_within [] (aCons (dOp ixR (dVar 0) (dC (.int 2))) (aCons (dC (.int 0)) (aCons (dC (.int 1000000)) aNil)))))) (dNot (dTst (dCall (fun C fs _ S => PE C fs S) 3 Φ_are_pairs [] (aCons (dOp ixR (dVar 0) (dC (.int 3))) (aCons (dVar 2) (aCons (dC (.int 0)) aNil)))))))) (dRet (dC (.bl false))) dNext) (dRet (dOp (inR true) (dVar 1) (dLc false (diSeq (dOp ixR (dVar 0) (dC (.int 3)))) (gdName 3) dYes (dOp ixR (dVar 3) (dC (.int 0))) [3])))))
def t_are_moves (K : PySem.W.Frag) (a : Ad) (Φ_is_row Φ_is_move Φ_are_unlike : Phi) (PE : EX) : TDS :=
  (dSeq (dIfS (dOr (dNot (dTst (dCall (fun C fs _ S => PE C fs S) 3 Φ_is_row [] (aCons (dVar 0) (aCons (dC (.int 0)) (aCons (dC (.int 8)) aNil)))))) (dNot (dTst (dB (one allR) (aCons (dLc false (diSeq (dVar 0)) (gdName 3) dYes (dCall noE 3 Φ_is_move [] (aCons (dVar 3) (aCons (dVar 1) (aCons (dVar 2) aNil)))) [3]) aNil))))) (dRet (dC (.bl false))) dNext) (dRet (dCall (fun C fs _ S => PE C fs S) 1 Φ_are_unlike [] (aCons (dLc false (diSeq (dVar 0)) (gdName 3) dYes (dB (one tupleR) (aCons (dSl false (dVar 3) oNone (oSome (dC (.int 2)))) aNil)) [3]) aNil))))
def t_modes_of (K : PySem.W.Frag) (a : Ad) (PE : EX) : TDS :=
  (dRet (dDc (diSeq (dVar 0)) (gdName 1) dYes (dOp ixR (dVar 1) (dC (.int 0))) (dLc false (diSeq (dOp ixR (dVar 1) (dC (.int 2)))) (gdName 2) dYes (dOp ixR (dVar 2) (dC (.int 0))) [2]) [1]))
def t_are_isles (K : PySem.W.Frag) (a : Ad) (Φ_is_row Φ_is_isle Φ_are_unlike Φ_modes_of Φ_are_moves : Phi) (PE : EX) : TDS :=
  (dSeq (dIfS (dOr (dNot (dTst (dCall (fun C fs _ S => PE C fs S) 3 Φ_is_row [] (aCons (dVar 0) (aCons (dC (.int 1)) (aCons (dC (.int 6)) aNil)))))) (dNot (dTst (dB (one allR) (aCons (dLc false (diSeq (dVar 0)) (gdName 2) dYes (dCall noE 1 Φ_is_isle [] (aCons (dVar 2) aNil)) [2]) aNil))))) (dRet (dC (.bl false))) dNext) (dSeq (dIfS (dNot (dTst (dCall (fun C fs _ S => PE C fs S) 1 Φ_are_unlike [] (aCons (dLc false (diSeq (dVar 0)) (gdName 2) dYes (dOp ixR (dVar 2) (dC (.int 0))) [2]) aNil)))) (dRet (dC (.bl false))) dNext) (dSeq (dSet 1 (dCall (fun C fs _ S => PE C fs S) 1 Φ_modes_of [] (aCons (dVar 0) aNil))) (dRet (dB (one allR) (aCons (dLc false (diSeq (dVar 0)) (gdName 2) dYes (dCall noE 3 Φ_are_moves [] (aCons (dOp ixR (dVar 2) (dC (.int 3))) (aCons (dOp ixR (dVar 2) (dC (.int 0))) (aCons (dVar 1) aNil)))) [2]) aNil))))))
def t_Yard_init (K : PySem.W.Frag) (a : Ad) (Φ_are_isles Φ_modes_of Φ_is_row Φ_are_pairs Φ_fixed : Phi) (PE : EX) : TDS :=
  (dSeq (dIfS (dNot (dTst (dCall (fun C fs _ S => PE C fs S) 1 Φ_are_isles [] (aCons (dVar 1) aNil)))) (dRaise (fun C fs _ S => PE C fs S) a.c_BadYard [("part" : Str)] (aCons (dC (.str "isles")) aNil)) dNext) (dSeq (dSet 4 (dCall (fun C fs _ S => PE C fs S) 1 Φ_modes_of [] (aCons (dVar 1) aNil))) (dSeq (dFor (diSeq (dTup (aCons (dTup (aCons (dVar 2) (aCons (dC (.int 4)) (aCons (dC (.str "bars")) aNil)))) (aCons (dTup (aCons (dVar 3) (aCons (dC (.int 3)) (aCons (dC (.str "wishes")) aNil)))) aNil)))) (gdTup 3 (gdCons (gdName 5) (gdCons (gdName 6) (gdCons (gdName 7) gdNil)))) (dIfS (dOr (dNot (dTst (dCall (fun C fs _ S => PE C fs S) 3 Φ_is_row [] (aCons (dVar 5) (aCons (dC (.int 0)) (aCons (dVar 6) aNil)))))) (dNot (dTst (dB (one allR) (aCons (dLc false (diSeq (dVar 5)) (gdName 9) dYes (dCall noE 3 Φ_are_pairs [] (aCons (dVar 9) (aCons (dVar 4) (aCons (dC (.int 1)) aNil)))) [9]) aNil))))) (dRaise (fun C fs _ S => PE C fs S) a.c_BadYard [("part" : Str)] (aCons (dVar 7) aNil)) dNext)) (dSeq (dSetAttr a.c_Yard "isles" (dVar 0) (dCall (fun C fs _ S => PE C fs S) 1 Φ_fixed [] (aCons (dVar 1) aNil))) (dSeq (dSetAttr a.c_Yard "bars" (dVar 0) (dCall (fun C fs _ S => PE C fs S) 1 Φ_fixed [] (aCons (dVar 2) aNil))) (dSeq (dSetAttr a.c_Yard "wishes" (dVar 0) (dCall (fun C fs _ S => PE C fs S) 1 Φ_fixed [] (aCons (dVar 3) aNil))) (dSeq (dSetAttr a.c_Yard "names" (dVar 0) (dB (one tupleR) (aCons (dLc false (diSeq (dAttr a.c_Yard "isles" (dVar 0))) (gdName 8) dYes (dOp ixR (dVar 8) (dC (.int 0))) [8]) aNil))) (dSetAttr a.c_Yard "kept" (dVar 0) (dC (.dic [] []))))))))))
def t_Yard_eq (K : PySem.W.Frag) (a : Ad) (PE : EX) : TDS :=
  (dSeq (dIfS (dNot (dTst (dB (isiR K a.ct) (aCons (dVar 1) (aCons (dC (.ref a.c_Yard)) aNil))))) (dRet (dC (.bl false))) dNext) (dRet (dOp eqR (dTup (aCons (dAttr a.c_Yard "isles" (dVar 0)) (aCons (dAttr a.c_Yard "bars" (dVar 0)) (aCons (dAttr a.c_Yard "wishes" (dVar 0)) aNil)))) (dTup (aCons (dAttr a.c_Yard "isles" (dVar 1)) (aCons (dAttr a.c_Yard "bars" (dVar 1)) (aCons (dAttr a.c_Yard "wishes" (dVar 1)) aNil)))))))
def t__law_pen (K : PySem.W.Frag) (a : Ad) (PE : EX) : TDS :=
  (dRet (dLst true (aCons (dB (one (listR false)) (aCons (dSl false (dVar 0) oNone (oSome (dC (.int 63)))) aNil)) (aCons (dC (.int 0)) (aCons (dC (.int 0)) aNil)))))
def t__law_draw (K : PySem.W.Frag) (a : Ad) (PE : EX) : TDS :=
  (dSeq (dIfS (dTst (dOp ltR (dVar 1) (dC (.int 2)))) (dRet (dC (.int 0))) dNext) (dSeq (dIfS (dTst (dOp gtR (dOp ixR (dVar 0) (dC (.int 2))) (dC (.int 0)))) (dSeq (dSet 5 (dOp modR (dB (one intR) (aCons (dOp ixR (dVar 0) (dC (.int 2))) aNil)) (dVar 1))) (dSeq (dSetIx (dVar 0) (dC (.int 2)) (dOp fdivR (dB (one intR) (aCons (dOp ixR (dVar 0) (dC (.int 2))) aNil)) (dVar 1))) (dRet (dVar 5)))) dNext) (dSeq (dSet 2 (dOp ixR (dVar 0) (dC (.int 1)))) (dSeq (dSetIx (dVar 0) (dC (.int 1)) (dOp (addR false) (dVar 2) (dC (.int 1)))) (dSeq (dSet 3 (dOp (addR false) (dOp (mulR false) (dC (.int 71045)) (dVar 2)) (dC (.int 9027)))) (dSeq (dIfS (dTst (dOp neR (dOp ixR (dVar 0) (dC (.int 0))) (dLst false aNil))) (dSet 3 (dOp ixR (dOp ixR (dVar 0) (dC (.int 0))) (dOp modR (dB (one intR) (aCons (dVar 2) aNil)) (dB (one lenR) (aCons (dOp ixR (dVar 0) (dC (.int 0))) aNil))))) dNext) (dSeq (dIfS (dAnd (dTst (dOp ltR (dVar 2) (dB (one lenR) (aCons (dOp ixR (dVar 0) (dC (.int 0))) aNil)))) (dTst (dOp geR (dB (one absR) (aCons (dVar 3) aNil)) (dOp powR (dC (.int 10)) (dC (.int 18)))))) (dSeq (dSet 6 (dOp (addR false) (dOp (mulR false) (dC (.int 2)) (dOp subR (dB (one absR) (aCons (dVar 3) aNil)) (dOp powR (dC (.int 10)) (dC (.int 18))))) (dB (one intR) (aCons (dOp ltR (dVar 3) (dC (.int 0))) aNil)))) (dSeq (dSetIx (dVar 0) (dC (.int 2)) (dOp fdivR (dB (one intR) (aCons (dVar 6) aNil)) (dVar 1))) (dRet (dOp modR (dB (one intR) (aCons (dVar 6) aNil)) (dVar 1))))) dNext) (dSeq (dSet 4 (dOp modR (dB (one intR) (aCons (dOp powR (dOp (addR false) (dOp (addR false) (dOp modR (dB (one intR) (aCons (dVar 3) aNil)) (dC (.int 2147483549))) (dOp (mulR false) (dC (.int 33071)) (dVar 2))) (dC (.int 9027))) (dC (.int 3))) aNil)) (dC (.int 2147483629)))) (dSeq (dSet 4 (dOp modR (dB (one intR) (aCons (dOp powR (dOp (addR false) (dOp (addR false) (dOp (mulR false) (dVar 4) (dOp (addR false) (dOp (mulR false) (dC (.int 2)) (dVar 2)) (dC (.int 6123)))) (dOp (mulR false) (dOp (mulR false) (dC (.int 71045)) (dVar 2)) (dVar 2))) (dC (.int 33071))) (dC (.int 5))) aNil)) (dC (.int 2147483563)))) (dRet (dOp modR (dB (one intR) (aCons (dOp fdivR (dVar 4) (dC (.int 16))) aNil)) (dVar 1))))))))))))
def t__law_pick (K : PySem.W.Frag) (a : Ad) (Φ__law_draw : Phi) (PE : EX) : TDS :=
  (dRet (dOp ixR (dVar 1) (dCall (fun C fs _ S => PE C fs S) 2 Φ__law_draw [] (aCons (dVar 0) (aCons (dB (one lenR) (aCons (dVar 1) aNil)) aNil)))))
def t__law_mixed (K : PySem.W.Frag) (a : Ad) (Φ__law_draw : Phi) (PE : EX) : TDS :=
  (dSeq (dPar 3 4 (aCons (dB (one (listR true)) (aCons (dVar 1) aNil)) (aCons (dLst true aNil) aNil))) (dSeq (dFor (diRng1 (aCons (dB (one lenR) (aCons (dVar 1) aNil)) aNil)) (gdName 2) (dDrop (dBM "list" appendR (dVar 4) (aCons (dBM "list" popAtR (dVar 3) (aCons (dCall (fun C fs _ S => PE C fs S) 2 Φ__law_draw [] (aCons (dVar 0) (aCons (dB (one lenR) (aCons (dVar 3) aNil)) aNil))) aNil)) aNil)))) (dRet (dVar 4))))
def t__law_heard (K : PySem.W.Frag) (a : Ad) (PE : EX) (f : Addr) (tl : EX → Sto → (D → Sto → Prop) → Prop) : TDS :=
  (dSeq (dPar 4 5 (aCons (dLst true aNil) (aCons (dC .non) aNil))) (dSeq (dTry K (.ref a.c_FlatError) 1 5 (fun C fs _ S => PE C fs S) (fun E' => (dDrop (dBM "list" appendR (dVar 4) (aCons (dAct 0 f E' tl) aNil))))) (dSeq (dIfS (dTst (dOp isR (dVar 5) (dC .non))) (dRet (dVar 4)) dNext) (dSeq (dIfS (dTst (dB (isiR K a.ct) (aCons (dVar 5) (aCons (dC (.ref a.c_TooMany)) aNil)))) (dRet (dTup (aCons (dC (.str "many")) (aCons (dUn (xattrR [a.c_TooMany, a.c_Nothing] "what") (dVar 5)) (aCons (dUn (xattrR [a.c_TooMany] "most") (dVar 5)) aNil))))) dNext) (dSeq (dIfS (dTst (dB (isiR K a.ct) (aCons (dVar 5) (aCons (dC (.ref a.c_BadText)) aNil)))) (dRet (dTup (aCons (dC (.str "text")) (aCons (dUn (xattrR [a.c_BadText] "line") (dVar 5)) (aCons (dUn (xattrR [a.c_BadText, a.c_BadLine] "word") (dVar 5)) aNil))))) dNext) (dSeq (dIfS (dTst (dB (isiR K a.ct) (aCons (dVar 5) (aCons (dTup (aCons (dC (.ref a.c_BadLine)) (aCons (dC (.ref a.c_Nothing)) (aCons (dC (.ref a.c_NoName)) aNil)))) aNil)))) (dRet (dIf (dTst (dB (isiR K a.ct) (aCons (dVar 5) (aCons (dC (.ref a.c_BadLine)) aNil)))) (dTup (aCons (dC (.str "line")) (aCons (dUn (xattrR [a.c_BadText, a.c_BadLine] "word") (dVar 5)) aNil))) (dIf (dTst (dB (isiR K a.ct) (aCons (dVar 5) (aCons (dC (.ref a.c_Nothing)) aNil)))) (dTup (aCons (dC (.str "nothing")) (aCons (dUn (xattrR [a.c_TooMany, a.c_Nothing] "what") (dVar 5)) aNil))) dNevE))) dNext) (dSeq (dSet 2 (dLst true (aCons (dTup (aCons (dC (.str "yard")) (aCons (dB (isiR K a.ct) (aCons (dVar 5) (aCons (dC (.ref a.c_BadYard)) aNil))) aNil))) (aCons (dTup (aCons (dC (.str "value")) (aCons (dB (isiR K a.ct) (aCons (dVar 5) (aCons (dC (.ref a.c_BadValue)) aNil))) aNil))) (aCons (dTup (aCons (dC (.str "number")) (aCons (dB (isiR K a.ct) (aCons (dVar 5) (aCons (dC (.ref a.c_BadNumber)) aNil))) aNil))) (aCons (dTup (aCons (dC (.str "paper")) (aCons (dB (isiR K a.ct) (aCons (dVar 5) (aCons (dC (.ref a.c_BadPaper)) aNil))) aNil))) aNil)))))) (dSeq (dDrop (dBM "list" appendR (dVar 2) (aCons (dTup (aCons (dC (.str "misfit")) (aCons (dB (isiR K a.ct) (aCons (dVar 5) (aCons (dC (.ref a.c_Misfit)) aNil))) aNil))) aNil))) (dSeq (dSet 3 (dLc false (diSeq (dVar 2)) (gdTup 2 (gdCons (gdName 6) (gdCons (gdName 7) gdNil))) (dTst (dVar 7)) (dVar 6) [6, 7])) (dRet (dIf (dTst (dOp eqR (dB (one lenR) (aCons (dVar 3) aNil)) (dC (.int 1)))) (dTup (aCons (dOp ixR (dVar 3) (dC (.int 0))) (aCons (dUn (xattrR [a.c_BadYard, a.c_BadValue, a.c_BadNumber, a.c_BadPaper, a.c_Misfit] "part") (dVar 5)) aNil))) (dTup (aCons (dC (.str "other")) aNil)))))))))))))
def t__law_listed (K : PySem.W.Frag) (a : Ad) (Φ__law_listed : Phi) (PE : EX) : TDS :=
  (dRet (dIf (dTst (dB (isiR K a.ct) (aCons (dVar 0) (aCons (dTup (aCons (dC (.ty "list")) (aCons (dC (.ty "tuple")) aNil))) aNil)))) (dLc false (diSeq (dVar 0)) (gdName 1) dYes (dCall noE 1 Φ__law_listed [] (aCons (dVar 1) aNil)) [1]) (dVar 0)))
def t__law_tuples (K : PySem.W.Frag) (a : Ad) (Φ__law_tuples : Phi) (PE : EX) : TDS :=
  (dRet (dIf (dTst (dB (isiR K a.ct) (aCons (dVar 0) (aCons (dTup (aCons (dC (.ty "list")) (aCons (dC (.ty "tuple")) aNil))) aNil)))) (dB (one tupleR) (aCons (dLc false (diSeq (dVar 0)) (gdName 1) dYes (dCall noE 1 Φ__law_tuples [] (aCons (dVar 1) aNil)) [1]) aNil)) (dVar 0)))
def t__law_wants (K : PySem.W.Frag) (a : Ad) (Φ__law_mixed Φ__law_pick : Phi) (PE : EX) : TDS :=
  (dSeq (dPar 3 4 (aCons (dLc false (diSeq (dVar 2)) (gdName 7) (dTst (dOp neR (dOp ixR (dVar 7) (dC (.int 0))) (dVar 1))) (dVar 7) [7]) (aCons (dLst true aNil) aNil))) (dSeq (dFor (diSeq (dSl false (dCall (fun C fs _ S => PE C fs S) 2 Φ__law_mixed [] (aCons (dVar 0) (aCons (dVar 3) aNil))) oNone (oSome (dCall (fun C fs _ S => PE C fs S) 2 Φ__law_pick [] (aCons (dVar 0) (aCons (dLst false (aCons (dC (.int 0)) (aCons (dC (.int 0)) (aCons (dC (.int 0)) (aCons (dC (.int 1)) (aCons (dC (.int 1)) (aCons (dC (.int 2)) aNil))))))) aNil)))))) (gdTup 2 (gdCons (gdName 5) (gdCons (gdName 6) gdNil))) (dDrop (dBM "list" appendR (dVar 4) (aCons (dTup (aCons (dVar 5) (aCons (dCall (fun C fs _ S => PE C fs S) 2 Φ__law_pick [] (aCons (dVar 0) (aCons (dVar 6) aNil))) aNil))) aNil)))) (dRet (dB (one tupleR) (aCons (dVar 4) aNil)))))
def t__law_wide (K : PySem.W.Frag) (a : Ad) (Φ__law_mixed Φ__law_draw Φ__law_pick Φ__law_wants : Phi) (PE : EX) : TDS :=
  (dSeq (dSet 3 (dSl false (dCall (fun C fs _ S => PE C fs S) 2 Φ__law_mixed [] (aCons (dVar 0) (aCons (dLst false (aCons (dC (.str "a")) (aCons (dC (.str "bb")) (aCons (dC (.str "sun")) (aCons (dC (.str "lamp")) (aCons (dC (.str "zzzzzzzz")) (aCons (dC (.str "on")) aNil))))))) aNil))) oNone (oSome (dOp (addR false) (dC (.int 1)) (dCall (fun C fs _ S => PE C fs S) 2 Φ__law_draw [] (aCons (dVar 0) (aCons (dVar 1) aNil))))))) (dSeq (dSet 4 (dLc false (diSeq (dVar 3)) (gdName 9) dYes (dTup (aCons (dVar 9) (aCons (dSl false (dCall noE 2 Φ__law_mixed [] (aCons (dVar 0) (aCons (dLst false (aCons (dC (.str "on")) (aCons (dC (.str "off")) (aCons (dC (.str "a")) (aCons (dC (.str "low")) (aCons (dC (.str "highhigh")) aNil)))))) aNil))) oNone (oSome (dOp (addR false) (dC (.int 1)) (dCall noE 2 Φ__law_draw [] (aCons (dVar 0) (aCons (dVar 2) aNil)))))) aNil))) [9])) (dSeq (dSet 5 (dLst true aNil)) (dSeq (dFor (diSeq (dVar 4)) (gdTup 2 (gdCons (gdName 9) (gdCons (gdName 10) gdNil))) (dSeq (dSet 11 (dB (one tupleR) (aCons (dLc false (diSeq (dVar 10)) (gdName 14) dYes (dTup (aCons (dVar 14) (aCons (dCall noE 2 Φ__law_pick [] (aCons (dVar 0) (aCons (dLst false (aCons (dC (.int 0)) (aCons (dC (.int 0)) (aCons (dC (.int 1)) (aCons (dC (.int 2)) (aCons (dUn negR (dC (.int 1))) (aCons (dUn negR (dC (.int 3))) (aCons (dC (.int 7)) (aCons (dUn negR (dC (.int 1000000))) (aCons (dC (.int 1000000)) aNil)))))))))) aNil))) (aCons (dOp gtR (dCall noE 2 Φ__law_draw [] (aCons (dVar 0) (aCons (dC (.int 3)) aNil))) (dC (.int 0))) aNil)))) [14]) aNil))) (dSeq (dSet 12 (dB (two sumLR) (aCons (dLc false (diSeq (dVar 10)) (gdName 15) dYes (dLc false (diSeq (dVar 10)) (gdName 16) (dTst (dOp neR (dVar 16) (dVar 15))) (dTup (aCons (dVar 15) (aCons (dVar 16) aNil))) [16]) [15]) (aCons (dLst false aNil) aNil)))) (dSeq (dSet 13 (dLc false (diSeq (dSl false (dCall (fun C fs _ S => PE C fs S) 2 Φ__law_mixed [] (aCons (dVar 0) (aCons (dVar 12) aNil))) oNone (oSome (dCall (fun C fs _ S => PE C fs S) 2 Φ__law_draw [] (aCons (dVar 0) (aCons (dC (.int 9)) aNil)))))) (gdTup 2 (gdCons (gdName 15) (gdCons (gdName 16) gdNil))) dYes (dTup (aCons (dVar 15) (aCons (dVar 16) (aCons (dCall noE 2 Φ__law_pick [] (aCons (dVar 0) (aCons (dLst false (aCons (dC (.int 0)) (aCons (dC (.int 0)) (aCons (dC (.int 1)) (aCons (dC (.int 5)) (aCons (dC (.int 1000000)) aNil)))))) aNil))) (aCons (dCall noE 3 Φ__law_wants [] (aCons (dVar 0) (aCons (dVar 9) (aCons (dVar 4) aNil)))) aNil))))) [15, 16])) (dDrop (dBM "list" appendR (dVar 5) (aCons (dTup (aCons (dVar 9) (aCons (dOp eqR (dCall (fun C fs _ S => PE C fs S) 2 Φ__law_draw [] (aCons (dVar 0) (aCons (dC (.int 2)) aNil))) (dC (.int 0))) (aCons (dVar 11) (aCons (dB (one tupleR) (aCons (dVar 13) aNil)) aNil))))) aNil))))))) (dSeq (dSet 6 (dLst true aNil)) (dSeq (dFor (diRng1 (aCons (dC (.int 9)) aNil)) (gdName 7) (dDrop (dBM "list" appendR (dVar 6) (aCons (dB (one tupleR) (aCons (dLc false (diSeq (dSl false (dCall (fun C fs _ S => PE C fs S) 2 Φ__law_mixed [] (aCons (dVar 0) (aCons (dVar 4) aNil))) oNone (oSome (dOp (addR false) (dC (.int 1)) (dCall (fun C fs _ S => PE C fs S) 2 Φ__law_draw [] (aCons (dVar 0) (aCons (dB (two min2R) (aCons (dC (.int 3)) (aCons (dB (one lenR) (aCons (dVar 4) aNil)) aNil))) aNil))))))) (gdTup 2 (gdCons (gdName 9) (gdCons (gdName 10) gdNil))) dYes (dTup (aCons (dVar 9) (aCons (dCall noE 2 Φ__law_pick [] (aCons (dVar 0) (aCons (dVar 10) aNil))) aNil))) [9, 10]) aNil)) aNil)))) (dSeq (dSet 8 (dB (one tupleR) (aCons (dSl false (dVar 6) oNone (oSome (dCall (fun C fs _ S => PE C fs S) 2 Φ__law_pick [] (aCons (dVar 0) (aCons (dLst false (aCons (dC (.int 0)) (aCons (dC (.int 0)) (aCons (dC (.int 1)) (aCons (dC (.int 2)) (aCons (dC (.int 4)) aNil)))))) aNil))))) aNil))) (dRet (dTup (aCons (dB (one tupleR) (aCons (dVar 5) aNil)) (aCons (dVar 8) (aCons (dB (one tupleR) (aCons (dSl false (dVar 6) (oSome (dC (.int 4))) (oSome (dOp (addR false) (dC (.int 4)) (dCall (fun C fs _ S => PE C fs S) 2 Φ__law_pick [] (aCons (dVar 0) (aCons (dLst false (aCons (dC (.int 0)) (aCons (dC (.int 1)) (aCons (dC (.int 1)) (aCons (dC (.int 2)) (aCons (dC (.int 3)) aNil)))))) aNil)))))) aNil)) aNil))))))))))))
def t__law_is_title (K : PySem.W.Frag) (a : Ad) (PE : EX) : TDS :=
  (dSeq (dIfS (dOr (dNot (dTst (dB (isiR K a.ct) (aCons (dVar 0) (aCons (dC (.ty "str")) aNil))))) (dOr (dNot (dTst (dChain leR leR (dC (.int 1)) (dB (one lenR) (aCons (dVar 0) aNil)) (dC (.int 8))))) (dTst (dOp (inR false) (dVar 0) (dTup (aCons (dC (.str "isle")) (aCons (dC (.str "wild")) (aCons (dC (.str "mode")) (aCons (dC (.str "must")) (aCons (dC (.str "move")) (aCons (dC (.str "bar")) (aCons (dC (.str "wish")) aNil)))))))))))) (dRet (dC (.bl false))) dNext) (dRet (dOp eqR (dLc false (diSeq (dVar 0)) (gdName 1) (dTst (dOp (inStrR true) (dVar 1) (dC (.str "abcdefghijklmnopqrstuvwxyz")))) (dVar 1) [1]) (dLst false aNil))))
def t__law_is_plain_isle (K : PySem.W.Frag) (a : Ad) (Φ__law_is_title : Phi) (PE : EX) : TDS :=
  (dSeq (dIfS (dOr (dNot (dTst (dB (isiR K a.ct) (aCons (dVar 0) (aCons (dTup (aCons (dC (.ty "list")) (aCons (dC (.ty "tuple")) aNil))) aNil))))) (dOr (dTst (dOp neR (dB (one lenR) (aCons (dVar 0) aNil)) (dC (.int 4)))) (dOr (dNot (dTst (dCall (fun C fs _ S => PE C fs S) 1 Φ__law_is_title [] (aCons (dOp ixR (dVar 0) (dC (.int 0))) aNil)))) (dNot (dTst (dB (isiR K a.ct) (aCons (dOp ixR (dVar 0) (dC (.int 1))) (aCons (dC (.ty "bool")) aNil)))))))) (dRet (dC (.bl false))) dNext) (dSeq (dIfS (dOr (dNot (dTst (dB (isiR K a.ct) (aCons (dOp ixR (dVar 0) (dC (.int 2))) (aCons (dTup (aCons (dC (.ty "list")) (aCons (dC (.ty "tuple")) aNil))) aNil))))) (dOr (dNot (dTst (dChain leR leR (dC (.int 1)) (dB (one lenR) (aCons (dOp ixR (dVar 0) (dC (.int 2))) aNil)) (dC (.int 5))))) (dTst (dOp (inR true) (dB (one reprA) (aCons (dOp ixR (dVar 0) (dC (.int 3))) aNil)) (dTup (aCons (dC (.str "[]")) (aCons (dC (.str "()")) aNil))))))) (dRet (dC (.bl false))) dNext) (dSeq (dFor (diSeq (dOp ixR (dVar 0) (dC (.int 2)))) (gdName 1) (dSeq (dIfS (dOr (dNot (dTst (dB (isiR K a.ct) (aCons (dVar 1) (aCons (dTup (aCons (dC (.ty "list")) (aCons (dC (.ty "tuple")) aNil))) aNil))))) (dOr (dTst (dOp neR (dB (one lenR) (aCons (dVar 1) aNil)) (dC (.int 3)))) (dOr (dNot (dTst (dCall (fun C fs _ S => PE C fs S) 1 Φ__law_is_title [] (aCons (dOp ixR (dVar 1) (dC (.int 0))) aNil)))) (dNot (dTst (dB (isiR K a.ct) (aCons (dOp ixR (dVar 1) (dC (.int 2))) (aCons (dC (.ty "bool")) aNil)))))))) (dRet (dC (.bl false))) dNext) (dIfS (dOr (dTst (dB (isiR K a.ct) (aCons (dOp ixR (dVar 1) (dC (.int 1))) (aCons (dC (.ty "bool")) aNil)))) (dOr (dNot (dTst (dB (isiR K a.ct) (aCons (dOp ixR (dVar 1) (dC (.int 1))) (aCons (dC (.ty "int")) aNil))))) (dNot (dTst (dChain leR leR (dUn negR (dC (.int 1000000))) (dOp ixR (dVar 1) (dC (.int 1))) (dC (.int 1000000))))))) (dRet (dC (.bl false))) dNext))) (dRet (dOp eqR (dLenSet (dLc false (diSeq (dOp ixR (dVar 0) (dC (.int 2)))) (gdName 1) dYes (dOp ixR (dVar 1) (dC (.int 0))) [1])) (dB (one lenR) (aCons (dOp ixR (dVar 0) (dC (.int 2))) aNil)))))))
def t__law_bent_isle (K : PySem.W.Frag) (a : Ad) (Φ__law_draw Φ__law_pick : Phi) (PE : EX) : TDS :=
  (dSeq (dAsg (dVar 1) (gdTup 4 (gdCons (gdName 3) (gdCons (gdName 4) (gdCons (gdName 5) (gdCons (gdName 6) gdNil)))))) (dSeq (dPar 7 8 (aCons (dCall (fun C fs _ S => PE C fs S) 2 Φ__law_draw [] (aCons (dVar 0) (aCons (dC (.int 9)) aNil))) (aCons (dLc true (diSeq (dVar 5)) (gdName 9) dYes (dB (one (listR true)) (aCons (dVar 9) aNil)) [9]) aNil))) (dSeq (dSet 2 (dCall (fun C fs _ S => PE C fs S) 2 Φ__law_draw [] (aCons (dVar 0) (aCons (dB (one lenR) (aCons (dVar 8) aNil)) aNil)))) (dSeq (dIfS (dTst (dOp eqR (dVar 7) (dC (.int 0)))) (dRet (dTup (aCons (dCall (fun C fs _ S => PE C fs S) 2 Φ__law_pick [] (aCons (dVar 0) (aCons (dLst false (aCons (dC (.str "isle")) (aCons (dC (.str "wish")) (aCons (dC (.str "")) (aCons (dC (.str "abcdefghi")) (aCons (dC (.str "A")) (aCons (dC (.str "a1")) (aCons (dC (.int 5)) (aCons (dC .non) (aCons (dTup (aCons (dC (.str "a")) aNil)) (aCons (dC (.str "wild")) (aCons (dC (.str "must")) (aCons (dC (.str "bar")) aNil))))))))))))) aNil))) (aCons (dVar 4) (aCons (dVar 5) (aCons (dVar 6) aNil)))))) dNext) (dSeq (dIfS (dTst (dOp eqR (dVar 7) (dC (.int 1)))) (dRet (dTup (aCons (dVar 3) (aCons (dCall (fun C fs _ S => PE C fs S) 2 Φ__law_pick [] (aCons (dVar 0) (aCons (dLst false (aCons (dC (.int 0)) (aCons (dC (.int 1)) (aCons (dC .non) (aCons (dC (.str "True")) aNil))))) aNil))) (aCons (dVar 5) (aCons (dVar 6) aNil)))))) dNext) (dSeq (dIfS (dTst (dOp eqR (dVar 7) (dC (.int 2)))) (dRet (dTup (aCons (dVar 3) (aCons (dVar 4) (aCons (dCall (fun C fs _ S => PE C fs S) 2 Φ__law_pick [] (aCons (dVar 0) (aCons (dLst false (aCons (dTup aNil) (aCons (dC .non) (aCons (dC (.int 5)) (aCons (dC (.str "ab")) (aCons (dOp (addR false) (dVar 5) (dSl false (dVar 5) oNone (oSome (dC (.int 1))))) (aCons (dOp (addR false) (dVar 5) (dB (one tupleR) (aCons (dLc false (diSeq (dC (.str "abcde"))) (gdName 10) dYes (dTup (aCons (dOp (addR false) (dC (.str "m")) (dVar 10)) (aCons (dC (.int 0)) (aCons (dC (.bl true)) aNil)))) [10]) aNil))) aNil))))))) aNil))) (aCons (dVar 6) aNil)))))) dNext) (dSeq (dIfS (dTst (dOp eqR (dVar 7) (dC (.int 3)))) (dSetIx (dOp ixR (dVar 8) (dVar 2)) (dC (.int 0)) (dCall (fun C fs _ S => PE C fs S) 2 Φ__law_pick [] (aCons (dVar 0) (aCons (dLst false (aCons (dC (.str "mode")) (aCons (dC (.str "move")) (aCons (dC (.str "")) (aCons (dC (.str "abcdefghi")) (aCons (dC (.int 5)) (aCons (dC .non) (aCons (dC (.str "a b")) aNil)))))))) aNil)))) dNext) (dSeq (dIfS (dTst (dOp eqR (dVar 7) (dC (.int 4)))) (dSetIx (dOp ixR (dVar 8) (dVar 2)) (dC (.int 1)) (dCall (fun C fs _ S => PE C fs S) 2 Φ__law_pick [] (aCons (dVar 0) (aCons (dLst false (aCons (dC (.int 1000001)) (aCons (dUn negR (dC (.int 1000001))) (aCons (dC (.bl true)) (aCons (dC .non) (aCons (dC (.str "1")) (aCons (dC (.int 1000000)) (aCons (dUn negR (dC (.int 1000000))) aNil)))))))) aNil)))) dNext) (dSeq (dIfS (dTst (dOp eqR (dVar 7) (dC (.int 5)))) (dSetIx (dOp ixR (dVar 8) (dVar 2)) (dC (.int 2)) (dCall (fun C fs _ S => PE C fs S) 2 Φ__law_pick [] (aCons (dVar 0) (aCons (dLst false (aCons (dC (.int 0)) (aCons (dC (.int 1)) (aCons (dC .non) (aCons (dC (.str "yes")) aNil))))) aNil)))) dNext) (dSeq (dIfS (dTst (dOp eqR (dVar 7) (dC (.int 6)))) (dSetIx (dVar 8) (dVar 2) (dCall (fun C fs _ S => PE C fs S) 2 Φ__law_pick [] (aCons (dVar 0) (aCons (dLst false (aCons (dC .non) (aCons (dTup aNil) (aCons (dSl false (dOp ixR (dVar 8) (dVar 2)) oNone (oSome (dC (.int 2)))) (aCons (dOp (addR false) (dOp ixR (dVar 8) (dVar 2)) (dLst false (aCons (dC (.int 1)) aNil))) (aCons (dC (.str "abc")) aNil)))))) aNil)))) dNext) (dSeq (dIfS (dTst (dOp eqR (dVar 7) (dC (.int 7)))) (dRet (dCall (fun C fs _ S => PE C fs S) 2 Φ__law_pick [] (aCons (dVar 0) (aCons (dLst false (aCons (dC .non) (aCons (dTup aNil) (aCons (dSl false (dVar 1) oNone (oSome (dC (.int 3)))) (aCons (dOp (addR false) (dVar 1) (dTup (aCons (dC (.int 1)) aNil))) (aCons (dC (.str "isle")) (aCons (dTup (aCons (dVar 3) (aCons (dVar 4) (aCons (dVar 5) (aCons (dC .non) aNil))))) (aCons (dTup (aCons (dVar 3) (aCons (dVar 4) (aCons (dVar 5) (aCons (dC (.int 5)) aNil))))) aNil)))))))) aNil)))) dNext) (dRet (dTup (aCons (dVar 3) (aCons (dVar 4) (aCons (dVar 8) (aCons (dVar 6) aNil)))))))))))))))))
def lamQ : Str := (envOfC "law" (defScope s_law) 0 0 .none).qual ++ "<lambda>"
def t_law (K : PySem.W.Frag) (a : Ad) (Φ__law_pen Φ__law_wide Φ_Yard_init Φ_Yard_eq Φ__law_listed Φ__law_draw Φ__law_bent_isle Φ__law_pick Φ__law_is_plain_isle Φ__law_tuples : Phi) (PE : EX) : TDS :=
  (dSeq (dSet 1 (dCall (fun C fs _ S => PE C fs S) 1 Φ__law_pen [] (aCons (dVar 0) aNil))) (dSeq (dFor (diRng1 (aCons (dC (.int 14)) aNil)) (gdName 2) (dSeq (dSet 4 (dCall (fun C fs _ S => PE C fs S) 3 Φ__law_wide [] (aCons (dVar 1) (aCons (dC (.int 6)) (aCons (dC (.int 5)) aNil))))) (dSeq (dSet 5 (dLc false (diSeq (dOp ixR (dVar 4) (dC (.int 0)))) (gdName 15) dYes (dTup (aCons (dOp ixR (dVar 15) (dC (.int 0))) (aCons (dOp ixR (dVar 15) (dC (.int 1))) (aCons (dOp ixR (dVar 15) (dC (.int 2))) (aCons (dTup aNil) aNil))))) [15])) (dSeq (dSet 6 (dMake (fun C fs _ S => PE C fs S) 4 a.c_Yard Φ_Yard_init [(.tup []), (.tup [])] (aCons (dVar 5) aNil))) (dSeq (dIfS (dTst (dOp neR (dB (one reprR) (aCons (dLst false (aCons (dAttr a.c_Yard "isles" (dVar 6)) (aCons (dAttr a.c_Yard "bars" (dVar 6)) (aCons (dAttr a.c_Yard "wishes" (dVar 6)) (aCons (dAttr a.c_Yard "names" (dVar 6)) aNil))))) aNil)) (dB (one reprR) (aCons (dLst false (aCons (dB (one tupleR) (aCons (dVar 5) aNil)) (aCons (dTup aNil) (aCons (dTup aNil) (aCons (dB (one tupleR) (aCons (dLc false (diSeq (dVar 5)) (gdName 15) dYes (dOp ixR (dVar 15) (dC (.int 0))) [15]) aNil)) aNil))))) aNil)))) (dRet (dC (.bl false))) dNext) (dSeq (dIfS (dOr (dTst (dOp (ownEqR K a.ct [a.c_Yard] true Φ_Yard_eq) (dVar 6) (dMakeK (fun C fs _ S => PE C fs S) 4 3 a.c_Yard Φ_Yard_init [2, 1, 0] (aCons (dLst false aNil) (aCons (dLst false aNil) (aCons (dCall (fun C fs _ S => PE C fs S) 1 Φ__law_listed [] (aCons (dVar 5) aNil)) aNil)))))) (dOr (dTst (dOp (ownEqR K a.ct [a.c_Yard] false Φ_Yard_eq) (dVar 6) (dVar 5))) (dTst (dOp (ownEqR K a.ct [a.c_Yard] false Φ_Yard_eq) (dVar 6) (dMake (fun C fs _ S => PE C fs S) 4 a.c_Yard Φ_Yard_init [(.tup []), (.tup [])] (aCons (dLst false (aCons (dTup (aCons (dC (.str "other")) (aCons (dC (.bl true)) (aCons (dLst false (aCons (dTup (aCons (dC (.str "on")) (aCons (dC (.int 0)) (aCons (dC (.bl true)) aNil)))) aNil)) (aCons (dLst false aNil) aNil))))) aNil)) aNil)))))) (dRet (dC (.bl false))) dNext) (dSeq (dSet 7 (dCall (fun C fs _ S => PE C fs S) 2 Φ__law_draw [] (aCons (dVar 1) (aCons (dB (one lenR) (aCons (dVar 5) aNil)) aNil)))) (dSeq (dSet 8 (dOp (addR false) (dOp (addR false) (dSl false (dVar 5) oNone (oSome (dVar 7))) (dLst false (aCons (dCall (fun C fs _ S => PE C fs S) 2 Φ__law_bent_isle [] (aCons (dVar 1) (aCons (dOp ixR (dVar 5) (dVar 7)) aNil))) aNil))) (dSl false (dVar 5) (oSome (dOp (addR false) (dVar 7) (dC (.int 1)))) oNone))) (dSeq (dSet 8 (dCall (fun C fs _ S => PE C fs S) 2 Φ__law_pick [] (aCons (dVar 1) (aCons (dLst false (aCons (dVar 8) (aCons (dB (one tupleR) (aCons (dVar 8) aNil)) (aCons (dOp (addR false) (dVar 8) (dSl false (dVar 8) oNone (oSome (dC (.int 1))))) (aCons (dIf (dTst (dCall (fun C fs _ S => PE C fs S) 1 Φ__law_is_plain_isle [] (aCons (dOp ixR (dVar 8) (dVar 7)) aNil))) (dCall (fun C fs _ S => PE C fs S) 1 Φ__law_listed [] (aCons (dVar 8) aNil)) (dVar 8)) aNil))))) aNil)))) (dSeq (dSet 9 (dLc false (diSeq (dVar 8)) (gdName 15) (dTst (dCall noE 1 Φ__law_is_plain_isle [] (aCons (dVar 15) aNil))) (dOp ixR (dVar 15) (dC (.int 0))) [15])) (dSeq (dSet 10 (dAndV (dOp eqR (dB (one lenR) (aCons (dVar 9) aNil)) (dB (one lenR) (aCons (dVar 8) aNil))) (dAndV (dOp eqR (dLenSet (dVar 9)) (dB (one lenR) (aCons (dVar 9) aNil))) (dOp leR (dB (one lenR) (aCons (dVar 8) aNil)) (dC (.int 6)))))) (dSeq (dSet 11 (dLam (fun C fs _ S => PE C fs S) a.tabP lamQ N__law_heard (t__law_heard K a) (fun PE => (dMake (fun C fs _ S => PE C fs S) 4 a.c_Yard Φ_Yard_init [(.tup []), (.tup [])] (aCons (dVar 8) aNil))))) (dIfS (dOr (dTst (dOp neR (dB (isiR K a.ct) (aCons (dVar 11) (aCons (dC (.ty "list")) aNil))) (dVar 10))) (dOr (dAnd (dNot (dTst (dVar 10))) (dTst (dOp neR (dVar 11) (dTup (aCons (dC (.str "yard")) (aCons (dC (.str "isles")) aNil)))))) (dAnd (dTst (dVar 10)) (dTst (dOp neR (dAttr a.c_Yard "isles" (dOp ixR (dVar 11) (dC (.int 0)))) (dCall (fun C fs _ S => PE C fs S) 1 Φ__law_tuples [] (aCons (dVar 8) aNil))))))) (dRet (dC (.bl false))) dNext))))))))))))) (dSeq (dSet 3 (dLc false (diSeq (dC (.str "abcdefg"))) (gdName 14) dYes (dTup (aCons (dOp (addR false) (dC (.str "n")) (dVar 14)) (aCons (dC (.bl false)) (aCons (dLst false (aCons (dTup (aCons (dC (.str "on")) (aCons (dC (.int 0)) (aCons (dC (.bl true)) aNil)))) aNil)) (aCons (dLst false aNil) aNil))))) [14])) (dSeq (dAsg (dTup (aCons (dCall (fun C fs _ S => PE C fs S) 2 Φ__law_pick [] (aCons (dVar 1) (aCons (dLst false (aCons (dC .non) (aCons (dC (.int 5)) (aCons (dC (.str "ab")) (aCons (dC (.dic [] [])) (aCons (dLst false aNil) (aCons (dTup aNil) (aCons (dVar 3) aNil)))))))) aNil))) (aCons (dCall (fun C fs _ S => PE C fs S) 2 Φ__law_pick [] (aCons (dVar 1) (aCons (dLst false (aCons (dC .non) (aCons (dC (.int 5)) (aCons (dLst false (aCons (dC .non) aNil)) aNil)))) aNil))) aNil))) (gdTup 2 (gdCons (gdName 12) (gdCons (gdName 13) gdNil)))) (dRet (dAndV (dOp eqR (dLam (fun C fs _ S => PE C fs S) a.tabP lamQ N__law_heard (t__law_heard K a) (fun PE => (dMake (fun C fs _ S => PE C fs S) 4 a.c_Yard Φ_Yard_init [] (aCons (dVar 12) (aCons (dVar 13) (aCons (dVar 13) aNil)))))) (dTup (aCons (dC (.str "yard")) (aCons (dC (.str "isles")) aNil)))) (dOp eqR (dB (one lenR) (aCons (dAttr a.c_Yard "isles" (dMake (fun C fs _ S => PE C fs S) 4 a.c_Yard Φ_Yard_init [(.tup []), (.tup [])] (aCons (dSl false (dVar 3) oNone (oSome (dC (.int 6)))) aNil))) aNil)) (dC (.int 6)))))))))
end
end K01
/-! V1: values seen as trees: what a value and the store come to. -/
namespace Dl
open PySem PySem.Spec PyProof.Rows L2

mutual
/-- in the store S the value d is the tree e; what may change is met only at N -/
def Vw (N : Addr → Prop) (S : Sto) (d : D) : D → Prop
  | .non => d = .non
  | .bl b => d = .bl b
  | .int i => d = .int i
  | .str x => d = .str x ∧ PyData.strOk x = true
  | .tup es => ∃ xs, d = .tup xs ∧ Vws N S xs es
  | .lst es => ∃ xs, (d = .lst xs ∨ ∃ p, d = .ref p ∧ N p ∧ S p = some (.lst xs)) ∧ Vws N S xs es
  | .dic ks es => d = .dic ks es
  | .ty _ => False
  | .ref _ => False
  | .scr _ => False
def Vws (N : Addr → Prop) (S : Sto) (ds : List D) : List D → Prop
  | [] => ds = []
  | e :: es => ∃ d r, ds = d :: r ∧ Vw N S d e ∧ Vws N S r es
end
mutual
theorem Vw.mono {N N' : Addr → Prop} {S S' : Sto} (h : ∀ p xs, N p → S p = some (.lst xs) → N' p ∧ S' p = some (.lst xs)) : ∀ {d : D} {e : D}, Vw N S d e → Vw N' S' d e
  | _, .non, v => v
  | _, .bl _, v => v
  | _, .int _, v => v
  | _, .str _, v => v
  | _, .tup es, ⟨xs, e, v⟩ => ⟨xs, e, Vws.mono h v⟩
  | _, .lst es, ⟨xs, e, v⟩ => ⟨xs, by
      rcases e with e | ⟨p, e, n, s⟩
      · exact .inl e
      · exact .inr ⟨p, e, (h p xs n s).1, (h p xs n s).2⟩, Vws.mono h v⟩
  | _, .dic _ _, v => v
  | _, .ty _, v => v.elim
  | _, .ref _, v => v.elim
  | _, .scr _, v => v.elim
theorem Vws.mono {N N' : Addr → Prop} {S S' : Sto} (h : ∀ p xs, N p → S p = some (.lst xs) → N' p ∧ S' p = some (.lst xs)) : ∀ {d : List D} {e : List D}, Vws N S d e → Vws N' S' d e
  | _, [], v => v
  | _, _ :: _, ⟨d, r, e, v, vs⟩ => ⟨d, r, e, Vw.mono h v, Vws.mono h vs⟩
end
section
variable {N : Addr → Prop} {S : Sto}
theorem Vws.length : ∀ {ds es : List D}, Vws N S ds es → ds.length = es.length
  | _, [], v => by rw [show _ = [] from v]
  | _, _ :: _, ⟨d, r, e, v, vs⟩ => by rw [e]; simp [vs.length]
theorem Vws.get : ∀ {ds es : List D} {i : Nat} {e : D}, Vws N S ds es → es[i]? = some e → ∃ d, ds[i]? = some d ∧ Vw N S d e
  | _, [], _, _, _, h => by simp at h
  | _, _ :: _, 0, _, ⟨d, r, e, v, vs⟩, h => by
    simp at h; subst h; exact ⟨d, by rw [e]; rfl, v⟩
  | _, _ :: _, i + 1, _, ⟨d, r, e, v, vs⟩, h => by
    obtain ⟨d', h1, h2⟩ := Vws.get vs (by simpa using h)
    exact ⟨d', by rw [e]; simpa using h1, h2⟩
theorem Vws.cons {d : D} {ds : List D} {e : D} {es : List D} (v : Vw N S d e) (vs : Vws N S ds es) : Vws N S (d :: ds) (e :: es) := ⟨d, ds, rfl, v, vs⟩
theorem Vws.append : ∀ {ds es ds' es' : List D}, Vws N S ds es → Vws N S ds' es' → Vws N S (ds ++ ds') (es ++ es')
  | _, [], _, _, v, v' => by rw [show _ = [] from v]; exact v'
  | _, _ :: _, _, _, ⟨d, r, e, v, vs⟩, v' => by rw [e]; exact ⟨d, _, rfl, v, vs.append v'⟩
theorem Vws.take : ∀ (n : Nat) {ds es : List D}, Vws N S ds es → Vws N S (ds.take n) (es.take n)
  | 0, _, _, _ => by simp [Vws]
  | n + 1, _, [], v => by rw [show _ = [] from v]; simp [Vws]
  | n + 1, _, _ :: _, ⟨d, r, e, v, vs⟩ => by rw [e]; exact ⟨d, _, rfl, v, vs.take n⟩
theorem Vws.drop : ∀ (n : Nat) {ds es : List D}, Vws N S ds es → Vws N S (ds.drop n) (es.drop n)
  | 0, _, _, v => v
  | n + 1, _, [], v => by rw [show _ = [] from v]; simp [Vws]
  | n + 1, _, _ :: _, ⟨d, r, e, v, vs⟩ => by rw [e]; simpa using vs.drop n
theorem Vws.set : ∀ (n : Nat) {ds es : List D} {d e : D}, Vw N S d e → Vws N S ds es → Vws N S (ds.set n d) (es.set n e)
  | _, _, [], _, _, _, v => by rw [show _ = [] from v]; simp [Vws]
  | 0, _, _ :: _, _, _, w, ⟨d, r, e, v, vs⟩ => by rw [e]; exact ⟨_, _, rfl, w, vs⟩
  | n + 1, _, _ :: _, _, _, w, ⟨d, r, e, v, vs⟩ => by rw [e]; exact ⟨_, _, rfl, v, vs.set n w⟩
theorem Vws.dropLast : ∀ {ds es : List D}, Vws N S ds es → Vws N S ds.dropLast es.dropLast
  | _, [], v => by rw [show _ = [] from v]; simp [Vws]
  | _, [e0], ⟨d, r, e, v, vs⟩ => by rw [e, show r = [] from vs]; simp [Vws]
  | _, e0 :: e1 :: es, ⟨d, r, e, v, d2, r2, e', v2, vs⟩ => by
    rw [e, e']
    have := Vws.dropLast (ds := d2 :: r2) (es := e1 :: es) ⟨d2, r2, rfl, v2, vs⟩
    exact ⟨d, _, by simp [List.dropLast], v, this⟩
end
mutual
/-- a tree: no place in it -/
def tree : D → Bool
  | .non | .bl _ | .int _ | .dic _ _ => true
  | .str x => PyData.strOk x
  | .tup es => trees es
  | .lst es => trees es
  | .ty _ | .ref _ | .scr _ => false
def trees : List D → Bool
  | [] => true
  | e :: es => tree e && trees es
end
mutual
theorem Vw.of_tree {N : Addr → Prop} {S : Sto} : ∀ {e : D}, tree e = true → Vw N S e e
  | .non, _ => rfl
  | .bl _, _ => rfl
  | .int _, _ => rfl
  | .str _, h => ⟨rfl, h⟩
  | .dic _ _, _ => rfl
  | .tup es, h => ⟨es, rfl, Vws.of_trees h⟩
  | .lst es, h => ⟨es, .inl rfl, Vws.of_trees h⟩
  | .ty _, h => by cases h
  | .ref _, h => by cases h
  | .scr _, h => by cases h
theorem Vws.of_trees {N : Addr → Prop} {S : Sto} : ∀ {es : List D}, trees es = true → Vws N S es es
  | [], _ => rfl
  | e :: es, h => by
    have h' := Bool.and_eq_true_iff.mp (show (tree e && trees es) = true from h)
    exact ⟨e, es, rfl, Vw.of_tree h'.1, Vws.of_trees h'.2⟩
end
mutual
theorem Vw.tree {N : Addr → Prop} {S : Sto} : ∀ {d e : D}, Vw N S d e → Dl.tree e = true
  | _, .non, _ => rfl
  | _, .bl _, _ => rfl
  | _, .int _, _ => rfl
  | _, .str _, h => h.2
  | _, .dic _ _, _ => rfl
  | _, .tup es, ⟨xs, _, v⟩ => Vws.trees v
  | _, .lst es, ⟨xs, _, v⟩ => Vws.trees v
  | _, .ty _, h => h.elim
  | _, .ref _, h => h.elim
  | _, .scr _, h => h.elim
theorem Vws.trees {N : Addr → Prop} {S : Sto} : ∀ {ds es : List D}, Vws N S ds es → Dl.trees es = true
  | _, [], _ => rfl
  | _, e :: es, ⟨d, r, _, v, vs⟩ => Bool.and_eq_true_iff.mpr ⟨Vw.tree v, Vws.trees vs⟩
end
/-- a tree's type -/
def typE : D → Value
  | .non => .type "NoneType"
  | .bl _ => .type "bool"
  | .int _ => .type "int"
  | .str _ => .type "str"
  | .tup _ => .type "tuple"
  | .lst _ => .type "list"
  | .dic _ _ => .type "dict"
  | _ => .type "object"
def kidE : D → Option (List D)
  | .tup es => some es
  | .lst es => some es
  | _ => none
section
variable {N : Addr → Prop} {S : Sto} {d e : D} {es : List D} {T : CT}
theorem Vw.ty (v : Vw N S d e) : tyV T S d = some (typE e) := by
  cases e with
  | tup es => obtain ⟨xs, rfl, _⟩ := v; rfl
  | lst es =>
    obtain ⟨xs, (rfl | ⟨p, rfl, n, s⟩), _⟩ := v
    · rfl
    · simp only [tyV, s]; rfl
  | str x => obtain ⟨rfl, _⟩ := v; rfl
  | ty => exact v.elim
  | ref => exact v.elim
  | scr => exact v.elim
  | _ => rw [show d = _ from v]; rfl
theorem Vw.sq (v : Vw N S d e) (h : kidE e = some es) : ∃ xs, sqD S d = some xs ∧ Vws N S xs es := by
  cases e with
  | tup es => obtain ⟨xs, rfl, w⟩ := v; cases h; exact ⟨xs, rfl, w⟩
  | lst es =>
    obtain ⟨xs, (rfl | ⟨p, rfl, n, s⟩), w⟩ := v
    · cases h; exact ⟨xs, rfl, w⟩
    · cases h; exact ⟨xs, by simp only [sqD, s], w⟩
  | _ => cases h
end
/-- isinstance(x, (list, tuple)) -/
def lisE (e : D) : Bool := (kidE e).isSome
def intE : D → Bool
  | .int _ => true
  | _ => false
theorem isi_list {K : PySem.W.Frag} {T : CT} {N : Addr → Prop} {S : Sto} {d e : D} {Q : D → Sto → Prop} (v : Vw N S d e) (q : Q (.bl (lisE e)) S) : isiR K T [d, .tup [.ty "list", .ty "tuple"]] S Q := by
  refine ⟨typE e, [.type "list", .type "tuple"], lisE e, v.ty, rfl, ?_, q⟩
  cases e with
  | tup es => exact kitAny_cons (kit_ty (r := false) (by decide +kernel)) (fun _ => kitAny_cons (kit_ty (r := true) (by decide +kernel)) (fun h => by cases h) (fun _ => rfl)) (fun h => by cases h)
  | lst es => exact kitAny_cons (kit_ty (r := true) (by decide +kernel)) (fun h => by cases h) (fun _ => rfl)
  | ty => exact v.elim
  | ref => exact v.elim
  | scr => exact v.elim
  | _ => exact kitAny_cons (kit_ty (r := false) (by decide +kernel)) (fun _ => kitAny_cons (kit_ty (r := false) (by decide +kernel)) (fun _ => kitAny_nil) (fun h => by cases h)) (fun h => by cases h)
def isE (n : String) : D → Bool
  | .non => n == "NoneType"
  | .bl _ => n == "bool" || n == "int"
  | .int _ => n == "int"
  | .str _ => n == "str"
  | .tup _ => n == "tuple"
  | .lst _ => n == "list"
  | .dic _ _ => n == "dict"
  | _ => false
theorem isi_one {K : PySem.W.Frag} {T : CT} {N : Addr → Prop} {S : Sto} {d e : D} {Q : D → Sto → Prop} {n : String} (hn : n ∈ ["int", "bool", "str", "list", "tuple", "dict"]) (v : Vw N S d e) (q : Q (.bl (isE n e)) S) : isiR K T [d, .ty n] S Q := by
  refine ⟨typE e, .type n, isE n e, v.ty, rfl, ?_, q⟩
  simp only [List.mem_cons, List.not_mem_nil, or_false] at hn
  cases e with
  | ty => exact v.elim
  | ref => exact v.elim
  | scr => exact v.elim
  | _ => rcases hn with rfl | rfl | rfl | rfl | rfl | rfl <;> (refine kit_ty ?_; simp only [isE]; decide +kernel)
end Dl
/-! V1b: operations on values seen as trees. -/
namespace Dl
open PySem PySem.Spec PyProof.Rows L2
section
variable {N : Addr → Prop} {S : Sto} {d e : D} {ds es : List D} {Q : D → Sto → Prop}
theorem xi_cmp_int {p : Int → Int → Bool} {i j : Int} : cmpR p (.int i) (.int j) S Q = Q (.bl (p i j)) S := rfl
theorem xi_add_int {m : Bool} {i j : Int} : addR m (.int i) (.int j) S Q = Q (.int (i + j)) S := rfl
theorem xi_sub_int {i j : Int} : subR (.int i) (.int j) S Q = Q (.int (i - j)) S := rfl
theorem xi_mul_int {m : Bool} {i j : Int} : mulR m (.int i) (.int j) S Q = (CMul i j ∧ Q (.int (i * j)) S) := rfl
theorem xi_mod_int {i j : Int} : modR (.int i) (.int j) S Q = (0 < j ∧ Q (.int (i % j)) S) := rfl
theorem xi_div_int {i j : Int} : fdivR (.int i) (.int j) S Q = (CDiv i j ∧ Q (.int (i / j)) S) := rfl
theorem xi_pow_int {i j : Int} : powR (.int i) (.int j) S Q = (CPow i j ∧ Q (.int (i ^ j.toNat)) S) := rfl
theorem xi_int_int {i : Int} : intR (.int i) S Q = Q (.int i) S := rfl
theorem xi_int_bl {k : Bool} : intR (.bl k) S Q = Q (.int (if k then 1 else 0)) S := rfl
theorem xi_abs_int {i : Int} : absR (.int i) S Q = Q (.int (if i < 0 then -i else i)) S := rfl
theorem xi_neg_int {i : Int} : negR (.int i) S Q = Q (.int (-i)) S := rfl
theorem okD_int {i : Int} : okD (.int i) = true := rfl
theorem okD_bl {i : Bool} : okD (.bl i) = true := rfl
theorem okD_non : okD .non = true := rfl
theorem okD_str {x : Str} (h : PyData.strOk x = true) : okD (.str x) = true := by
  unfold okD SeqAt.shaped
  simp [plain, pyD, PyData.canLay0, h, PyData.depth]
theorem eq_int {i j : Int} (q : Q (.bl (decide (i = j))) S) : eqR (.int i) (.int j) S Q := ⟨rfl, rfl, by
  have : eqD (topD S (.int i)) (topD S (.int j)) = decide (i = j) := by
    simp only [topD, eqD, pyD, PyData.eqv]; exact Bool.beq_eq_decide_eq i j
  rw [this]; exact q⟩
theorem ne_int {i j : Int} (q : Q (.bl (!decide (i = j))) S) : neR (.int i) (.int j) S Q := ⟨rfl, rfl, by
  have : eqD (topD S (.int i)) (topD S (.int j)) = decide (i = j) := by
    simp only [topD, eqD, pyD, PyData.eqv]; exact Bool.beq_eq_decide_eq i j
  rw [this]; exact q⟩
theorem eqD_str {x y : Str} : eqD (.str x) (.str y) = decide (x = y) := Bool.beq_eq_decide_eq x y
theorem eq_str {x y : Str} (hx : PyData.strOk x = true) (hy : PyData.strOk y = true) (q : Q (.bl (decide (x = y))) S) : eqR (.str x) (.str y) S Q := ⟨okD_str hx, okD_str hy, (show Q (.bl (eqD (.str x) (.str y))) S by rw [eqD_str]; exact q)⟩
theorem ne_str {x y : Str} (hx : PyData.strOk x = true) (hy : PyData.strOk y = true) (q : Q (.bl (!decide (x = y))) S) : neR (.str x) (.str y) S Q := ⟨okD_str hx, okD_str hy, (show Q (.bl (!eqD (.str x) (.str y))) S by rw [eqD_str]; exact q)⟩
theorem Vw.len (v : Vw N S d e) (h : kidE e = some es) (q : Q (.int es.length) S) : lenR d S Q := by
  obtain ⟨xs, h1, w⟩ := v.sq h
  have hq : ∃ xs, sqD S d = some xs ∧ Q (.int xs.length) S := ⟨xs, h1, by rw [w.length]; exact q⟩
  cases d with
  | str => cases h1
  | _ => exact hq
theorem Vws.at (w : Vws N S ds es) {i : Int} {c : D} (h : atI es i = some c) : ∃ x, atI ds i = some x ∧ Vw N S x c := by
  unfold atI at h ⊢
  rw [w.length]
  cases e : ixN es.length i with
  | none => rw [e] at h; cases h
  | some j => rw [e] at h; exact w.get (show es[j]? = some c from h)
theorem Vw.ix (v : Vw N S d e) (h : kidE e = some es) {i : Int} {c : D} (hc : atI es i = some c) (q : ∀ x, Vw N S x c → Q x S) : ixR d (.int i) S Q := by
  obtain ⟨xs, h1, w⟩ := v.sq h
  obtain ⟨x, hx, vx⟩ := w.at hc
  have hq : ∃ xs x, sqD S d = some xs ∧ atI xs i = some x ∧ Q x S := ⟨xs, x, h1, hx, q x vx⟩
  cases d with
  | str => cases h1
  | _ => exact hq
/-- the things gone through are those of a tree -/
theorem Vw.walk (v : Vw N S d e) (h : kidE e = some es) {P : List D → (Sto → Prop) → Sto → Prop} (q : ∀ xs stb, Vws N S xs es → stb S → P xs stb S) : walkD d S P := by
  cases e with
  | tup es => obtain ⟨xs, rfl, w⟩ := v; cases h; exact q xs _ w trivial
  | lst es =>
    obtain ⟨xs, (rfl | ⟨p, rfl, n, s⟩), w⟩ := v
    · cases h; exact q xs _ w trivial
    · cases h; simp only [walkD, s]; exact q xs _ w s
  | _ => cases h
theorem Vws.enum : ∀ {ds es : List D} (n : Nat), Vws N S ds es → Vws N S (enumD n ds) (enumD n es)
  | _, [], n, w => by rw [show _ = [] from w]; rfl
  | _, e :: es, n, ⟨d, r, h, v, w⟩ => by rw [h]; exact ⟨_, _, rfl, ⟨_, rfl, ⟨_, _, rfl, rfl, _, _, rfl, v, rfl⟩⟩, w.enum (n + 1)⟩
theorem is_non (v : Vw N S d e) : isNon d = isNon e := by
  cases e with
  | tup es => obtain ⟨xs, rfl, w⟩ := v; rfl
  | lst es => obtain ⟨xs, (rfl | ⟨p, rfl, n, s⟩), w⟩ := v <;> rfl
  | str x => obtain ⟨rfl, _⟩ := v; rfl
  | ty => exact v.elim
  | ref => exact v.elim
  | scr => exact v.elim
  | _ => rw [show d = _ from v]
end
/-- a comprehension that changes nothing -/
theorem lc_pure {N : Addr → Prop} {stb : Sto → Prop} {g : TDG} {tt : TDT} {te : TDE} {ρ : DEnv} {Q : List D → Sto → Prop} {S : Sto} (F : D → D → Option D) (hs : stb S) :
    ∀ {xs es : List D} (acc : List D), Vws N S xs es → acc.length + es.length ≤ sizeLine →
      (∀ x e, Vw N S x e → e ∈ es → ∀ (R : D → Sto → Prop) (R2 : Sto → Prop), (match F x e with | some y => R y S | none => R2 S) → g x ρ S fun ρ2 S2 => tt ρ2 S2 fun b S3 => if b = true then te ρ2 S3 R else R2 S3) →
      Q (acc ++ (xs.zip es).filterMap fun p => F p.1 p.2) S → lcD stb g tt te ρ Q xs acc S
  | _, [], acc, w, hl, h, q => by
    rw [show _ = [] from w]
    exact ⟨hs, by simpa using q⟩
  | _, e :: es, acc, ⟨d, r, hd, v, w⟩, hl, h, q => by
    rw [hd] at q ⊢
    refine ⟨hs, h d e v (by simp) _ _ ?_⟩
    simp only [List.zip_cons_cons, List.filterMap_cons] at q
    cases hF : F d e with
    | none =>
      rw [hF] at q
      exact lc_pure F hs acc w (by simp at hl; omega) (fun x e' v' m R R2 z => h x e' v' (List.mem_cons_of_mem _ m) R R2 z) q
    | some y =>
      rw [hF] at q
      exact ⟨by simp at hl; omega, lc_pure F hs (acc ++ [y]) w (by simp at hl ⊢; omega) (fun x e' v' m R R2 z => h x e' v' (List.mem_cons_of_mem _ m) R R2 z) (by simpa using q)⟩
theorem zip_map {N : Addr → Prop} {S : Sto} (f : D → D) : ∀ {xs es : List D}, Vws N S xs es → (xs.zip es).filterMap (fun p => some (f p.2)) = es.map f
  | _, [], w => by rw [show _ = [] from w]; rfl
  | _, e :: es, ⟨d, r, hd, v, w⟩ => by
    rw [hd]; simp only [List.zip_cons_cons, List.filterMap_cons, List.map_cons, zip_map f w]
/-- .. one for each -/
theorem lc_map {N : Addr → Prop} {stb : Sto → Prop} {g : TDG} {te : TDE} {ρ : DEnv} {Q : List D → Sto → Prop} {S : Sto} (f : D → D) (hs : stb S) {xs es : List D} (w : Vws N S xs es) (hl : es.length ≤ sizeLine)
    (h : ∀ x e, Vw N S x e → e ∈ es → ∀ R : D → Sto → Prop, R (f e) S → g x ρ S fun ρ2 S2 => te ρ2 S2 R) (q : Q (es.map f) S) : lcD stb g dYes te ρ Q xs [] S :=
  lc_pure (fun _ e => some (f e)) hs [] w (by simpa using hl) (fun x e v m R R2 z => by
    have := h x e v m R z
    simpa [dYes] using this) (by rw [zip_map f w]; simpa using q)
/-- .. those of which a test holds -/
theorem lc_filter {N : Addr → Prop} {stb : Sto → Prop} {g : TDG} {tt : TDT} {te : TDE} {ρ : DEnv} {Q : List D → Sto → Prop} {S : Sto} (p : D → Bool) (y : D → D → D) (hs : stb S) {xs es : List D} (w : Vws N S xs es) (hl : es.length ≤ sizeLine)
    (h : ∀ x e, Vw N S x e → e ∈ es → ∀ (R : D → Sto → Prop) (R2 : Sto → Prop), (if p e = true then R (y x e) S else R2 S) → g x ρ S fun ρ2 S2 => tt ρ2 S2 fun b S3 => if b = true then te ρ2 S3 R else R2 S3)
    (q : Q ((xs.zip es).filterMap fun z => if p z.2 = true then some (y z.1 z.2) else none) S) : lcD stb g tt te ρ Q xs [] S :=
  lc_pure (fun x e => if p e = true then some (y x e) else none) hs [] w (by simpa using hl) (fun x e v m R R2 z => h x e v m R R2 (by
    cases hp : p e <;> simp [hp] at z ⊢ <;> exact z)) (by simpa using q)
theorem zip_none {N : Addr → Prop} {S : Sto} (p : D → Bool) (y : D → D → D) : ∀ {xs es : List D}, Vws N S xs es → ((xs.zip es).filterMap (fun z => if p z.2 = true then some (y z.1 z.2) else none)).isEmpty = es.all fun e => !p e
  | _, [], w => by rw [show _ = [] from w]; rfl
  | _, e :: es, ⟨d, r, hd, v, w⟩ => by
    rw [hd]; simp only [List.zip_cons_cons, List.filterMap_cons, List.all_cons]
    cases hp : p e
    · simpa [hp] using zip_none p y w
    · simp [hp]
theorem all_map {S : Sto} {Q : D → Sto → Prop} {es : List D} {f : D → Bool} (q : Q (.bl (es.all f)) S) : allR (.lst (es.map fun e => .bl (f e))) S Q := by
  refine ⟨_, es.map f, rfl, ?_, ?_⟩
  · rw [show (es.map fun e => D.bl (f e)) = (es.map f).map .bl by simp]; exact bools_map _
  · rw [show (es.map f).all id = es.all f by simp [List.all_map]]; exact q
/-- .. == [] -/
theorem eq_nil {S : Sto} {xs : List D} {Q : D → Sto → Prop} (h : okD (.lst xs) = true) (q : Q (.bl xs.isEmpty) S) : eqR (.lst xs) (.lst []) S Q := ⟨h, rfl, by
  cases xs with
  | nil => exact q
  | cons x xs => exact q⟩
end Dl
namespace K01
open PySem PySem.Spec PyProof.Rows L2 Dl LamX NdefX
/-- a test of trees, the numbers told -/
def Φt (f : D → Bool) : Phi := fun ds S P _ => ∃ d e N, ds = [d] ∧ Vw N S d e ∧ P (.bl (f e)) S
def Φt2 (f : D → Int → Int → Bool) : Phi := fun ds S P _ => ∃ d e N i j, ds = [d, .int i, .int j] ∧ Vw N S d e ∧ P (.bl (f e i j)) S
def intEb (e : D) : Bool := isE "int" e && !isE "bool" e
def withinE (e : D) (lo hi : Int) : Bool := match e with
  | .int i => decide (lo ≤ i) && decide (i ≤ hi)
  | _ => false
def rowE (e : D) (lo hi : Int) : Bool := match kidE e with
  | some es => decide (lo ≤ (es.length : Int)) && decide ((es.length : Int) ≤ hi)
  | none => false
theorem intEb_int {e : D} (h : intEb e = true) : ∃ i, e = .int i := by
  cases e <;> first
    | exact ⟨_, rfl⟩
    | (exfalso; revert h; simp [intEb, isE])
theorem within_not {e : D} {lo hi : Int} (h : intEb e = false) : withinE e lo hi = false := by
  cases e <;> first
    | rfl
    | (exfalso; revert h; simp [intEb, isE])
section
variable {K : PySem.W.Frag} {a : Ad}
theorem vc_is_listed (ds S P PE) (hl : ds.length = 1) (h : Φt lisE ds S P PE) : t_is_listed K a PE (bodyO P) (startD N_is_listed ds) S := by
  obtain ⟨d, e, N, rfl, v, p⟩ := h
  simp only [t_is_listed, st_is_listed, dSeq, dIfS, dTst, dCall, dOp, dUn, dVar, dC, dRet, dRetN, dNext, dAndV, dOrV, dNotV, dAnd, dOr, dNot, dIf, dB, dTup, aCons, aNil, dSet, dChain, dCont, dBreak, dDrop, dAttr, one, gdName, gdTup, gdCons, gdNil, bodyO, List.append_nil, List.length_cons, List.length_nil, List.getElem?_cons_zero, List.getElem?_cons_succ, List.set_cons_zero, List.set_cons_succ, Option.some.injEq, D.bl.injEq, exists_eq_left', exists_eq_left, true_and, Nat.reduceAdd, Nat.zero_add, if_true, if_false, Bool.false_eq_true, Bool.not_true, Bool.not_false, reduceCtorEq, xi_cmp_int, xi_add_int, xi_sub_int, xi_mul_int, xi_mod_int, xi_div_int, xi_pow_int, xi_int_int, xi_int_bl, xi_abs_int, xi_neg_int]
  exact ⟨by decide, isi_list v (Fz.same p)⟩
theorem vc_is_integer (ds S P PE) (hl : ds.length = 1) (h : Φt intEb ds S P PE) : t_is_integer K a PE (bodyO P) (startD N_is_integer ds) S := by
  obtain ⟨d, e, N, rfl, v, p⟩ := h
  simp only [t_is_integer, st_is_integer, dSeq, dIfS, dTst, dCall, dOp, dUn, dVar, dC, dRet, dRetN, dNext, dAndV, dOrV, dNotV, dAnd, dOr, dNot, dIf, dB, dTup, aCons, aNil, dSet, dChain, dCont, dBreak, dDrop, dAttr, one, gdName, gdTup, gdCons, gdNil, bodyO, List.append_nil, List.length_cons, List.length_nil, List.getElem?_cons_zero, List.getElem?_cons_succ, List.set_cons_zero, List.set_cons_succ, Option.some.injEq, D.bl.injEq, exists_eq_left', exists_eq_left, true_and, Nat.reduceAdd, Nat.zero_add, if_true, if_false, Bool.false_eq_true, Bool.not_true, Bool.not_false, reduceCtorEq, xi_cmp_int, xi_add_int, xi_sub_int, xi_mul_int, xi_mod_int, xi_div_int, xi_pow_int, xi_int_int, xi_int_bl, xi_abs_int, xi_neg_int]
  refine isi_one (by simp) v ⟨_, rfl, ?_⟩
  unfold intEb at p
  cases h1 : isE "int" e
  · simpa [h1] using Fz.same p
  · simp only [if_true]
    refine isi_one (by simp) v ⟨_, rfl, ?_⟩
    simpa [h1] using Fz.same p
theorem vc_is_within (ds S P PE) (hl : ds.length = 3) (h : Φt2 withinE ds S P PE) : t_is_within K a (Φt intEb) PE (bodyO P) (startD N_is_within ds) S := by
  obtain ⟨d, e, N, lo, hi, rfl, v, p⟩ := h
  simp only [t_is_within, st_is_within, dSeq, dIfS, dTst, dCall, dOp, dUn, dVar, dC, dRet, dRetN, dNext, dAndV, dOrV, dNotV, dAnd, dOr, dNot, dIf, dB, dTup, aCons, aNil, dSet, dChain, dCont, dBreak, dDrop, dAttr, one, gdName, gdTup, gdCons, gdNil, bodyO, List.append_nil, List.length_cons, List.length_nil, List.getElem?_cons_zero, List.getElem?_cons_succ, List.set_cons_zero, List.set_cons_succ, Option.some.injEq, D.bl.injEq, exists_eq_left', exists_eq_left, true_and, Nat.reduceAdd, Nat.zero_add, if_true, if_false, Bool.false_eq_true, Bool.not_true, Bool.not_false, reduceCtorEq, xi_cmp_int, xi_add_int, xi_sub_int, xi_mul_int, xi_mod_int, xi_div_int, xi_pow_int, xi_int_int, xi_int_bl, xi_abs_int, xi_neg_int]
  refine ⟨_, e, N, rfl, v, ?_⟩
  cases h1 : intEb e
  · rw [within_not h1] at p
    simpa [isR, Dl.isNon] using Fz.same p
  · obtain ⟨i, rfl⟩ := intEb_int h1
    rw [show d = _ from v]
    simp only [dSeq, dIfS, dTst, dCall, dOp, dUn, dVar, dC, dRet, dRetN, dNext, dAndV, dOrV, dNotV, dAnd, dOr, dNot, dIf, dB, dTup, aCons, aNil, dSet, dChain, dCont, dBreak, dDrop, dAttr, one, gdName, gdTup, gdCons, gdNil, bodyO, List.append_nil, List.length_cons, List.length_nil, List.getElem?_cons_zero, List.getElem?_cons_succ, List.set_cons_zero, List.set_cons_succ, Option.some.injEq, D.bl.injEq, exists_eq_left', exists_eq_left, true_and, Nat.reduceAdd, Nat.zero_add, if_true, if_false, Bool.false_eq_true, Bool.not_true, Bool.not_false, reduceCtorEq, xi_cmp_int, xi_add_int, xi_sub_int, xi_mul_int, xi_mod_int, xi_div_int, xi_pow_int, xi_int_int, xi_int_bl, xi_abs_int, xi_neg_int, isR, Dl.isNon, ge_iff_le, geR, leR]
    unfold withinE at p
    cases h2 : decide (lo ≤ i) <;> simp [h2] at p ⊢ <;> exact Fz.same p
theorem vc_is_row (ds S P PE) (hl : ds.length = 3) (h : Φt2 rowE ds S P PE) : t_is_row K a (Φt lisE) PE (bodyO P) (startD N_is_row ds) S := by
  obtain ⟨d, e, N, lo, hi, rfl, v, p⟩ := h
  simp only [t_is_row, st_is_row, dSeq, dIfS, dTst, dCall, dOp, dUn, dVar, dC, dRet, dRetN, dNext, dAndV, dOrV, dNotV, dAnd, dOr, dNot, dIf, dB, dTup, aCons, aNil, dSet, dChain, dCont, dBreak, dDrop, dAttr, one, gdName, gdTup, gdCons, gdNil, bodyO, List.append_nil, List.length_cons, List.length_nil, List.getElem?_cons_zero, List.getElem?_cons_succ, List.set_cons_zero, List.set_cons_succ, Option.some.injEq, D.bl.injEq, exists_eq_left', exists_eq_left, true_and, Nat.reduceAdd, Nat.zero_add, if_true, if_false, Bool.false_eq_true, Bool.not_true, Bool.not_false, reduceCtorEq, xi_cmp_int, xi_add_int, xi_sub_int, xi_mul_int, xi_mod_int, xi_div_int, xi_pow_int, xi_int_int, xi_int_bl, xi_abs_int, xi_neg_int]
  refine ⟨_, e, N, rfl, v, _, rfl, ?_⟩
  unfold rowE at p
  unfold lisE
  cases h1 : kidE e with
  | none => rw [h1] at p; simpa using Fz.same p
  | some es =>
    rw [h1] at p
    simp only [dSeq, dIfS, dTst, dCall, dOp, dUn, dVar, dC, dRet, dRetN, dNext, dAndV, dOrV, dNotV, dAnd, dOr, dNot, dIf, dB, dTup, aCons, aNil, dSet, dChain, dCont, dBreak, dDrop, dAttr, one, gdName, gdTup, gdCons, gdNil, bodyO, List.append_nil, List.length_cons, List.length_nil, List.getElem?_cons_zero, List.getElem?_cons_succ, List.set_cons_zero, List.set_cons_succ, Option.some.injEq, D.bl.injEq, exists_eq_left', exists_eq_left, true_and, Nat.reduceAdd, Nat.zero_add, if_true, if_false, Bool.false_eq_true, Bool.not_true, Bool.not_false, reduceCtorEq, xi_cmp_int, xi_add_int, xi_sub_int, xi_mul_int, xi_mod_int, xi_div_int, xi_pow_int, xi_int_int, xi_int_bl, xi_abs_int, xi_neg_int, Option.isSome_some]
    refine v.len h1 ?_
    simp only [dSeq, dIfS, dTst, dCall, dOp, dUn, dVar, dC, dRet, dRetN, dNext, dAndV, dOrV, dNotV, dAnd, dOr, dNot, dIf, dB, dTup, aCons, aNil, dSet, dChain, dCont, dBreak, dDrop, dAttr, one, gdName, gdTup, gdCons, gdNil, bodyO, List.append_nil, List.length_cons, List.length_nil, List.getElem?_cons_zero, List.getElem?_cons_succ, List.set_cons_zero, List.set_cons_succ, Option.some.injEq, D.bl.injEq, exists_eq_left', exists_eq_left, true_and, Nat.reduceAdd, Nat.zero_add, if_true, if_false, Bool.false_eq_true, Bool.not_true, Bool.not_false, reduceCtorEq, xi_cmp_int, xi_add_int, xi_sub_int, xi_mul_int, xi_mod_int, xi_div_int, xi_pow_int, xi_int_int, xi_int_bl, xi_abs_int, xi_neg_int, leR, isR, Dl.isNon]
    cases h2 : decide (lo ≤ (es.length : Int)) <;> simp [h2] at p ⊢ <;> exact Fz.same p
end
end K01
namespace Dl
open PySem PySem.Spec PyProof.Rows L2
mutual
def fixT : D → D
  | .tup es => .tup (fixTs es)
  | .lst es => .tup (fixTs es)
  | .non => .non
  | .bl b => .bl b
  | .int i => .int i
  | .str x => .str x
  | .ty n => .ty n
  | .ref p => .ref p
  | .scr ns => .scr ns
  | .dic ks xs => .dic ks xs
def fixTs : List D → List D
  | [] => []
  | e :: es => fixT e :: fixTs es
end
mutual
def lstT : D → D
  | .tup es => .lst (lstTs es)
  | .lst es => .lst (lstTs es)
  | .non => .non
  | .bl b => .bl b
  | .int i => .int i
  | .str x => .str x
  | .ty n => .ty n
  | .ref p => .ref p
  | .scr ns => .scr ns
  | .dic ks xs => .dic ks xs
def lstTs : List D → List D
  | [] => []
  | e :: es => lstT e :: lstTs es
end
theorem fixTs_map : ∀ es : List D, fixTs es = es.map fixT
  | [] => rfl
  | e :: es => by simp [fixTs, fixTs_map es]
theorem lstTs_map : ∀ es : List D, lstTs es = es.map lstT
  | [] => rfl
  | e :: es => by simp [lstTs, lstTs_map es]
theorem fixT_kid {e : D} {es : List D} (h : kidE e = some es) : fixT e = .tup (es.map fixT) := by
  cases e <;> cases h <;> simp [fixT, fixTs_map]
theorem lstT_kid {e : D} {es : List D} (h : kidE e = some es) : lstT e = .lst (es.map lstT) := by
  cases e <;> cases h <;> simp [lstT, lstTs_map]
theorem leaf_same {N : Addr → Prop} {S : Sto} {d e : D} (v : Vw N S d e) (h : kidE e = none) : d = e ∧ fixT e = e ∧ lstT e = e := by
  cases e with
  | str x => exact ⟨v.1, rfl, rfl⟩
  | tup => cases h
  | lst => cases h
  | ty => exact v.elim
  | ref => exact v.elim
  | scr => exact v.elim
  | _ => exact ⟨v, rfl, rfl⟩
/-- no deeper than n, no longer than it may be -/
def okN : Nat → D → Prop
  | 0, _ => False
  | n + 1, e => ∀ es, kidE e = some es → es.length ≤ 30000 ∧ ∀ o, o ∈ es → okN n o
theorem fnD_false {P : Program} {w : World} {K : PySem.W.Frag} {mg : Str → Option Value} {base : Heap} {k : Nat} {f : Addr} {fd : FuncData} {ps : List Str} {Φ : Phi} (h : ∀ ds S Q E, ¬ Φ ds S Q E) : FnD P w K mg base k f fd ps Φ :=
  ⟨fun vs H Q E h => h.1, fun A outer s H args us vs Q E hr e0 hb hv hs => by
    obtain ⟨_, Z, ds, S, P', PE, _, _, hΦ, _⟩ := hs
    exact (h _ _ _ _ hΦ).elim⟩
/-- a def that goes all the way in -/
def Φr (f : D → D) (n : Nat) : Phi := fun ds S P _ => ∃ d e N, ds = [d] ∧ Vw N S d e ∧ okN n e ∧ P (f e) S
end Dl
namespace K01
open PySem PySem.Spec PyProof.Rows L2 Dl LamX NdefX
def kids (e : D) : List D := (kidE e).getD []
/-- nothing in it -/
def atomE : D → Bool
  | .non | .bl _ | .int _ | .str _ => true
  | _ => false
theorem atom_same {N : Addr → Prop} {S : Sto} {d e : D} (v : Vw N S d e) (h : atomE e = true) : d = e ∧ okD e = true ∧ PyData.depth (pyD e) = 0 ∧ plain e = true ∧ PyData.canLay0 (pyD e) = true := by
  cases e with
  | str x => obtain ⟨rfl, h2⟩ := v; exact ⟨rfl, okD_str h2, rfl, rfl, by simpa [pyD, PyData.canLay0] using h2⟩
  | non => exact ⟨v, rfl, rfl, rfl, rfl⟩
  | bl => exact ⟨v, rfl, rfl, rfl, rfl⟩
  | int => exact ⟨v, rfl, rfl, rfl, rfl⟩
  | _ => cases h
/-- a row of atoms may be compared -/
theorem ok_atoms {xs : List D} (h : ∀ x, x ∈ xs → plain x = true ∧ PyData.canLay0 (pyD x) = true ∧ PyData.depth (pyD x) = 0) : okD (.lst xs) = true := by
  have : plains xs = true ∧ PyData.canLayAll0 (pyDs xs) = true ∧ PyData.depthAll (pyDs xs) = 0 := by
    induction xs with
    | nil => exact ⟨rfl, rfl, rfl⟩
    | cons x xs ih =>
      obtain ⟨a1, a2, a3⟩ := h x (by simp)
      obtain ⟨b1, b2, b3⟩ := ih fun y hy => h y (List.mem_cons_of_mem _ hy)
      exact ⟨by simp [plains, a1, b1], by simp [pyDs, PyData.canLayAll0, a2, b2], by simp [pyDs, PyData.depthAll, a3, b3]⟩
  obtain ⟨a1, a2, a3⟩ := this
  unfold okD SeqAt.shaped
  simp [Dl.plain, pyD, PyData.canLay0, PyData.depth, a1, a2, a3]
theorem ok_found {N : Addr → Prop} {S : Sto} {p : D → Bool} : ∀ {xs es : List D}, Vws N S xs es → (∀ o, o ∈ es → atomE o = true) → ∀ x, x ∈ ((xs.zip es).filterMap fun z => if p z.2 = true then some z.1 else none) → plain x = true ∧ PyData.canLay0 (pyD x) = true ∧ PyData.depth (pyD x) = 0
  | _, [], w, _, x, hx => by rw [show _ = [] from w] at hx; simp at hx
  | _, e :: es, ⟨d, r, hd, v, w⟩, h, x, hx => by
    rw [hd] at hx
    simp only [List.zip_cons_cons, List.filterMap_cons] at hx
    obtain ⟨rfl, _, a3, a1, a2⟩ := atom_same v (h e (by simp))
    have ih := ok_found (p := p) w (fun o ho => h o (List.mem_cons_of_mem _ ho))
    cases hp : p d
    · simp only [hp, Bool.false_eq_true, if_false] at hx; exact ih x hx
    · simp only [hp, if_true, List.mem_cons] at hx
      rcases hx with rfl | hx
      · exact ⟨a1, a2, a3⟩
      · exact ih x hx
theorem atI0 {c : D} {r : List D} : atI (c :: r) 0 = some c := by
  unfold atI ixN
  rw [if_pos (by omega), if_pos (by simp only [List.length_cons]; omega)]
  rfl
theorem atI1 {c c2 : D} {r : List D} : atI (c :: c2 :: r) 1 = some c2 := by
  unfold atI ixN
  rw [if_pos (by omega), if_pos (by simp only [List.length_cons]; omega)]
  rfl
theorem top_not {S : Sto} {l : D} (h : ∀ b, l ≠ .ref b) : topD S l = l := by
  cases l <;> first
    | rfl
    | exact (h _ rfl).elim
theorem kit_self {K : PySem.W.Frag} {c : Addr} : PySem.W.kitOne K (.ref c) (.ref c) = some true := by
  unfold PySem.W.kitOne
  rw [if_pos (by simp)]
theorem di2_walk {N : Addr → Prop} {S : Sto} {d e : D} {es : List D} (v : Vw N S d e) (h : kidE e = some es) {P : List D → (Sto → Prop) → Sto → Prop} (q : ∀ xs stb, Vws N S xs es → stb S → P (enumD 0 xs) stb S) {ρ : DEnv} {i : Nat} (hi : ρ[i]? = some (some d)) :
    diEnum2 (aCons (dVar i) aNil) ρ S P := by
  unfold diEnum2
  simp only [dSeq, dIfS, dTst, dCall, dOp, dUn, dVar, dC, dRet, dRetN, dNext, dAndV, dOrV, dNotV, dAnd, dOr, dNot, dIf, dB, dTup, aCons, aNil, dSet, dChain, dCont, dBreak, dDrop, dAttr, one, gdName, gdTup, gdCons, gdNil, bodyO, List.append_nil, List.length_cons, List.length_nil, List.getElem?_cons_zero, List.getElem?_cons_succ, List.set_cons_zero, List.set_cons_succ, Option.some.injEq, D.bl.injEq, exists_eq_left', exists_eq_left, true_and, Nat.reduceAdd, Nat.zero_add, if_true, if_false, Bool.false_eq_true, Bool.not_true, Bool.not_false, reduceCtorEq, xi_cmp_int, xi_add_int, xi_sub_int, xi_mul_int, xi_mod_int, xi_div_int, xi_pow_int, xi_int_int, xi_int_bl, xi_abs_int, xi_neg_int, hi]
  cases e with
  | tup es => obtain ⟨xs, rfl, w⟩ := v; cases h; exact q xs _ w trivial
  | lst es =>
    obtain ⟨xs, (rfl | ⟨p, rfl, n, s⟩), w⟩ := v
    · cases h; exact q xs _ w trivial
    · cases h; simp only [s]; exact q xs _ w s
  | _ => cases h
section
variable {K : PySem.W.Frag} {a : Ad}
theorem vc_fixed (n : Nat) (ds S P PE) (hl : ds.length = 1) (h : Φr fixT (n + 1) ds S P PE) : t_fixed K a (Φt lisE) (Φr fixT n) PE (bodyO P) (startD N_fixed ds) S := by
  obtain ⟨d, e, N, rfl, v, ok, p⟩ := h
  simp only [t_fixed, st_fixed, dSeq, dIfS, dTst, dCall, dOp, dUn, dVar, dC, dRet, dRetN, dNext, dAndV, dOrV, dNotV, dAnd, dOr, dNot, dIf, dB, dTup, aCons, aNil, dSet, dChain, dCont, dBreak, dDrop, dAttr, one, gdName, gdTup, gdCons, gdNil, bodyO, List.append_nil, List.length_cons, List.length_nil, List.getElem?_cons_zero, List.getElem?_cons_succ, List.set_cons_zero, List.set_cons_succ, Option.some.injEq, D.bl.injEq, exists_eq_left', exists_eq_left, true_and, Nat.reduceAdd, Nat.zero_add, if_true, if_false, Bool.false_eq_true, Bool.not_true, Bool.not_false, reduceCtorEq, xi_cmp_int, xi_add_int, xi_sub_int, xi_mul_int, xi_mod_int, xi_div_int, xi_pow_int, xi_int_int, xi_int_bl, xi_abs_int, xi_neg_int]
  refine ⟨_, e, N, rfl, v, _, rfl, ?_⟩
  unfold lisE
  cases h1 : kidE e with
  | none =>
    obtain ⟨rfl, h2, _⟩ := leaf_same v h1
    rw [h2] at p
    simpa using Fz.same p
  | some es =>
    rw [fixT_kid h1] at p
    obtain ⟨l1, l2⟩ := ok es h1
    simp only [Option.isSome_some, if_true]
    unfold dLc diSeq
    simp only [dSeq, dIfS, dTst, dCall, dOp, dUn, dVar, dC, dRet, dRetN, dNext, dAndV, dOrV, dNotV, dAnd, dOr, dNot, dIf, dB, dTup, aCons, aNil, dSet, dChain, dCont, dBreak, dDrop, dAttr, one, gdName, gdTup, gdCons, gdNil, bodyO, List.append_nil, List.length_cons, List.length_nil, List.getElem?_cons_zero, List.getElem?_cons_succ, List.set_cons_zero, List.set_cons_succ, Option.some.injEq, D.bl.injEq, exists_eq_left', exists_eq_left, true_and, Nat.reduceAdd, Nat.zero_add, if_true, if_false, Bool.false_eq_true, Bool.not_true, Bool.not_false, reduceCtorEq, xi_cmp_int, xi_add_int, xi_sub_int, xi_mul_int, xi_mod_int, xi_div_int, xi_pow_int, xi_int_int, xi_int_bl, xi_abs_int, xi_neg_int]
    refine v.walk h1 fun xs stb w hs => lc_map fixT hs w (by have : sizeLine = 2 ^ 24 := rfl; omega) ?_ ?_
    · intro x o vo ho R r
      simp only [dSeq, dIfS, dTst, dCall, dOp, dUn, dVar, dC, dRet, dRetN, dNext, dAndV, dOrV, dNotV, dAnd, dOr, dNot, dIf, dB, dTup, aCons, aNil, dSet, dChain, dCont, dBreak, dDrop, dAttr, one, gdName, gdTup, gdCons, gdNil, bodyO, List.append_nil, List.length_cons, List.length_nil, List.getElem?_cons_zero, List.getElem?_cons_succ, List.set_cons_zero, List.set_cons_succ, Option.some.injEq, D.bl.injEq, exists_eq_left', exists_eq_left, true_and, Nat.reduceAdd, Nat.zero_add, if_true, if_false, Bool.false_eq_true, Bool.not_true, Bool.not_false, reduceCtorEq, xi_cmp_int, xi_add_int, xi_sub_int, xi_mul_int, xi_mod_int, xi_div_int, xi_pow_int, xi_int_int, xi_int_bl, xi_abs_int, xi_neg_int, wipeD]
      exact ⟨_, o, N, rfl, vo, l2 o ho, r⟩
    · simp only [newL, dSeq, dIfS, dTst, dCall, dOp, dUn, dVar, dC, dRet, dRetN, dNext, dAndV, dOrV, dNotV, dAnd, dOr, dNot, dIf, dB, dTup, aCons, aNil, dSet, dChain, dCont, dBreak, dDrop, dAttr, one, gdName, gdTup, gdCons, gdNil, bodyO, List.append_nil, List.length_cons, List.length_nil, List.getElem?_cons_zero, List.getElem?_cons_succ, List.set_cons_zero, List.set_cons_succ, Option.some.injEq, D.bl.injEq, exists_eq_left', exists_eq_left, true_and, Nat.reduceAdd, Nat.zero_add, if_true, if_false, Bool.false_eq_true, Bool.not_true, Bool.not_false, reduceCtorEq, xi_cmp_int, xi_add_int, xi_sub_int, xi_mul_int, xi_mod_int, xi_div_int, xi_pow_int, xi_int_int, xi_int_bl, xi_abs_int, xi_neg_int]
      exact ⟨_, rfl, Fz.same p⟩
theorem vc__law_tuples (n : Nat) (ds S P PE) (hl : ds.length = 1) (h : Φr fixT (n + 1) ds S P PE) : t__law_tuples K a (Φr fixT n) PE (bodyO P) (startD N__law_tuples ds) S := by
  obtain ⟨d, e, N, rfl, v, ok, p⟩ := h
  simp only [t__law_tuples, st__law_tuples, dSeq, dIfS, dTst, dCall, dOp, dUn, dVar, dC, dRet, dRetN, dNext, dAndV, dOrV, dNotV, dAnd, dOr, dNot, dIf, dB, dTup, aCons, aNil, dSet, dChain, dCont, dBreak, dDrop, dAttr, one, gdName, gdTup, gdCons, gdNil, bodyO, List.append_nil, List.length_cons, List.length_nil, List.getElem?_cons_zero, List.getElem?_cons_succ, List.set_cons_zero, List.set_cons_succ, Option.some.injEq, D.bl.injEq, exists_eq_left', exists_eq_left, true_and, Nat.reduceAdd, Nat.zero_add, if_true, if_false, Bool.false_eq_true, Bool.not_true, Bool.not_false, reduceCtorEq, xi_cmp_int, xi_add_int, xi_sub_int, xi_mul_int, xi_mod_int, xi_div_int, xi_pow_int, xi_int_int, xi_int_bl, xi_abs_int, xi_neg_int]
  refine ⟨by decide, isi_list v ⟨_, rfl, ?_⟩⟩
  unfold lisE
  cases h1 : kidE e with
  | none =>
    obtain ⟨rfl, h2, _⟩ := leaf_same v h1
    rw [h2] at p
    simpa using Fz.same p
  | some es =>
    rw [fixT_kid h1] at p
    obtain ⟨l1, l2⟩ := ok es h1
    simp only [Option.isSome_some, if_true]
    unfold dLc diSeq
    simp only [dSeq, dIfS, dTst, dCall, dOp, dUn, dVar, dC, dRet, dRetN, dNext, dAndV, dOrV, dNotV, dAnd, dOr, dNot, dIf, dB, dTup, aCons, aNil, dSet, dChain, dCont, dBreak, dDrop, dAttr, one, gdName, gdTup, gdCons, gdNil, bodyO, List.append_nil, List.length_cons, List.length_nil, List.getElem?_cons_zero, List.getElem?_cons_succ, List.set_cons_zero, List.set_cons_succ, Option.some.injEq, D.bl.injEq, exists_eq_left', exists_eq_left, true_and, Nat.reduceAdd, Nat.zero_add, if_true, if_false, Bool.false_eq_true, Bool.not_true, Bool.not_false, reduceCtorEq, xi_cmp_int, xi_add_int, xi_sub_int, xi_mul_int, xi_mod_int, xi_div_int, xi_pow_int, xi_int_int, xi_int_bl, xi_abs_int, xi_neg_int]
    refine v.walk h1 fun xs stb w hs => lc_map fixT hs w (by have : sizeLine = 2 ^ 24 := rfl; omega) ?_ ?_
    · intro x o vo ho R r
      simp only [dSeq, dIfS, dTst, dCall, dOp, dUn, dVar, dC, dRet, dRetN, dNext, dAndV, dOrV, dNotV, dAnd, dOr, dNot, dIf, dB, dTup, aCons, aNil, dSet, dChain, dCont, dBreak, dDrop, dAttr, one, gdName, gdTup, gdCons, gdNil, bodyO, List.append_nil, List.length_cons, List.length_nil, List.getElem?_cons_zero, List.getElem?_cons_succ, List.set_cons_zero, List.set_cons_succ, Option.some.injEq, D.bl.injEq, exists_eq_left', exists_eq_left, true_and, Nat.reduceAdd, Nat.zero_add, if_true, if_false, Bool.false_eq_true, Bool.not_true, Bool.not_false, reduceCtorEq, xi_cmp_int, xi_add_int, xi_sub_int, xi_mul_int, xi_mod_int, xi_div_int, xi_pow_int, xi_int_int, xi_int_bl, xi_abs_int, xi_neg_int, wipeD]
      exact ⟨_, o, N, rfl, vo, l2 o ho, r⟩
    · simp only [newL, dSeq, dIfS, dTst, dCall, dOp, dUn, dVar, dC, dRet, dRetN, dNext, dAndV, dOrV, dNotV, dAnd, dOr, dNot, dIf, dB, dTup, aCons, aNil, dSet, dChain, dCont, dBreak, dDrop, dAttr, one, gdName, gdTup, gdCons, gdNil, bodyO, List.append_nil, List.length_cons, List.length_nil, List.getElem?_cons_zero, List.getElem?_cons_succ, List.set_cons_zero, List.set_cons_succ, Option.some.injEq, D.bl.injEq, exists_eq_left', exists_eq_left, true_and, Nat.reduceAdd, Nat.zero_add, if_true, if_false, Bool.false_eq_true, Bool.not_true, Bool.not_false, reduceCtorEq, xi_cmp_int, xi_add_int, xi_sub_int, xi_mul_int, xi_mod_int, xi_div_int, xi_pow_int, xi_int_int, xi_int_bl, xi_abs_int, xi_neg_int]
      exact ⟨_, rfl, Fz.same p⟩
theorem vc__law_listed (n : Nat) (ds S P PE) (hl : ds.length = 1) (h : Φr lstT (n + 1) ds S P PE) : t__law_listed K a (Φr lstT n) PE (bodyO P) (startD N__law_listed ds) S := by
  obtain ⟨d, e, N, rfl, v, ok, p⟩ := h
  simp only [t__law_listed, st__law_listed, dSeq, dIfS, dTst, dCall, dOp, dUn, dVar, dC, dRet, dRetN, dNext, dAndV, dOrV, dNotV, dAnd, dOr, dNot, dIf, dB, dTup, aCons, aNil, dSet, dChain, dCont, dBreak, dDrop, dAttr, one, gdName, gdTup, gdCons, gdNil, bodyO, List.append_nil, List.length_cons, List.length_nil, List.getElem?_cons_zero, List.getElem?_cons_succ, List.set_cons_zero, List.set_cons_succ, Option.some.injEq, D.bl.injEq, exists_eq_left', exists_eq_left, true_and, Nat.reduceAdd, Nat.zero_add, if_true, if_false, Bool.false_eq_true, Bool.not_true, Bool.not_false, reduceCtorEq, xi_cmp_int, xi_add_int, xi_sub_int, xi_mul_int, xi_mod_int, xi_div_int, xi_pow_int, xi_int_int, xi_int_bl, xi_abs_int, xi_neg_int]
  refine ⟨by decide, isi_list v ⟨_, rfl, ?_⟩⟩
  unfold lisE
  cases h1 : kidE e with
  | none =>
    obtain ⟨rfl, _, h2⟩ := leaf_same v h1
    rw [h2] at p
    simpa using Fz.same p
  | some es =>
    rw [lstT_kid h1] at p
    obtain ⟨l1, l2⟩ := ok es h1
    simp only [Option.isSome_some, if_true]
    unfold dLc diSeq
    simp only [dSeq, dIfS, dTst, dCall, dOp, dUn, dVar, dC, dRet, dRetN, dNext, dAndV, dOrV, dNotV, dAnd, dOr, dNot, dIf, dB, dTup, aCons, aNil, dSet, dChain, dCont, dBreak, dDrop, dAttr, one, gdName, gdTup, gdCons, gdNil, bodyO, List.append_nil, List.length_cons, List.length_nil, List.getElem?_cons_zero, List.getElem?_cons_succ, List.set_cons_zero, List.set_cons_succ, Option.some.injEq, D.bl.injEq, exists_eq_left', exists_eq_left, true_and, Nat.reduceAdd, Nat.zero_add, if_true, if_false, Bool.false_eq_true, Bool.not_true, Bool.not_false, reduceCtorEq, xi_cmp_int, xi_add_int, xi_sub_int, xi_mul_int, xi_mod_int, xi_div_int, xi_pow_int, xi_int_int, xi_int_bl, xi_abs_int, xi_neg_int]
    refine v.walk h1 fun xs stb w hs => lc_map lstT hs w (by have : sizeLine = 2 ^ 24 := rfl; omega) ?_ ?_
    · intro x o vo ho R r
      simp only [dSeq, dIfS, dTst, dCall, dOp, dUn, dVar, dC, dRet, dRetN, dNext, dAndV, dOrV, dNotV, dAnd, dOr, dNot, dIf, dB, dTup, aCons, aNil, dSet, dChain, dCont, dBreak, dDrop, dAttr, one, gdName, gdTup, gdCons, gdNil, bodyO, List.append_nil, List.length_cons, List.length_nil, List.getElem?_cons_zero, List.getElem?_cons_succ, List.set_cons_zero, List.set_cons_succ, Option.some.injEq, D.bl.injEq, exists_eq_left', exists_eq_left, true_and, Nat.reduceAdd, Nat.zero_add, if_true, if_false, Bool.false_eq_true, Bool.not_true, Bool.not_false, reduceCtorEq, xi_cmp_int, xi_add_int, xi_sub_int, xi_mul_int, xi_mod_int, xi_div_int, xi_pow_int, xi_int_int, xi_int_bl, xi_abs_int, xi_neg_int, wipeD]
      exact ⟨_, o, N, rfl, vo, l2 o ho, r⟩
    · simp only [newL, dSeq, dIfS, dTst, dCall, dOp, dUn, dVar, dC, dRet, dRetN, dNext, dAndV, dOrV, dNotV, dAnd, dOr, dNot, dIf, dB, dTup, aCons, aNil, dSet, dChain, dCont, dBreak, dDrop, dAttr, one, gdName, gdTup, gdCons, gdNil, bodyO, List.append_nil, List.length_cons, List.length_nil, List.getElem?_cons_zero, List.getElem?_cons_succ, List.set_cons_zero, List.set_cons_succ, Option.some.injEq, D.bl.injEq, exists_eq_left', exists_eq_left, true_and, Nat.reduceAdd, Nat.zero_add, if_true, if_false, Bool.false_eq_true, Bool.not_true, Bool.not_false, reduceCtorEq, xi_cmp_int, xi_add_int, xi_sub_int, xi_mul_int, xi_mod_int, xi_div_int, xi_pow_int, xi_int_int, xi_int_bl, xi_abs_int, xi_neg_int]
      exact Fz.same p
end
end K01
namespace Dl
open PySem PySem.Spec PyProof.Rows L2
theorem put_id {S : Sto} {p : Addr} {o : O} (h : S p = some o) : put S p o = S := by
  funext b; unfold put; split
  · rename_i e; rw [e, h]
  · rfl
/-- a pen: the script's cells, how many are read, what is left of a great one -/
def penO (ns : List Int) (at_ left : Int) : O := .lst [.lst (ns.map .int), .int at_, .int left]
def Φpen : Phi := fun ds S P _ => ∃ ns, ds = [.scr ns] ∧ ∀ p, S p = none → P (.ref p) (put S p (penO (ns.take 63) 0 0))
/-- a draw: less than many -/
def Φdraw : Phi := fun ds S P _ => ∃ p many ns at_ left, ds = [.ref p, .int many] ∧ S p = some (penO ns at_ left) ∧ 0 ≤ at_ ∧ at_ < 1048576 ∧ many < 1073741824 ∧
  ∀ r at' left', 0 ≤ r → (r < many ∨ r = 0) → 0 ≤ at' → at' ≤ at_ + 1 → P (.int r) (put S p (penO ns at' left'))
/-- one of some -/
def Φpick : Phi := fun ds S P _ => ∃ p d xs ns at_ left, ds = [.ref p, d] ∧ (d = .lst xs) ∧ xs ≠ [] ∧ xs.length < 1000 ∧ S p = some (penO ns at_ left) ∧ 0 ≤ at_ ∧ at_ < 1048576 ∧
  ∀ (i : Nat) x at' left', xs[i]? = some x → 0 ≤ at' → at' ≤ at_ + 1 → P x (put S p (penO ns at' left'))
theorem ref_ix {S : Sto} {p : Addr} {xs : List D} {i : Int} {d : D} {Q : D → Sto → Prop} (h : S p = some (.lst xs)) (hi : atI xs i = some d) (q : Q d S) : ixR (.ref p) (.int i) S Q := ⟨xs, d, by simp only [sqD, h], hi, q⟩
theorem lst_ix {S : Sto} {xs : List D} {i : Int} {d : D} {Q : D → Sto → Prop} (hi : atI xs i = some d) (q : Q d S) : ixR (.lst xs) (.int i) S Q := ⟨xs, d, rfl, hi, q⟩
theorem at_int {ns : List Int} {i : Int} (h0 : 0 ≤ i) (h : i < ns.length) : ∃ c, atI (ns.map D.int) i = some (.int c) := by
  unfold atI ixN
  rw [if_pos h0, List.length_map, if_pos h]
  refine ⟨ns[i.toNat]'(by omega), ?_⟩
  simp only [Option.bind_some, List.getElem?_map]
  rw [List.getElem?_eq_getElem (by omega)]
  rfl
theorem ok_ints (ns : List Int) : okD (.lst (ns.map D.int)) = true := by
  have : ∀ ns : List Int, plains (ns.map D.int) = true ∧ PyData.canLayAll0 (pyDs (ns.map D.int)) = true ∧ PyData.depthAll (pyDs (ns.map D.int)) = 0 := by
    intro ns
    induction ns with
    | nil => exact ⟨rfl, rfl, rfl⟩
    | cons x xs ih =>
      obtain ⟨b1, b2, b3⟩ := ih
      exact ⟨by simpa [plains, Dl.plain] using b1, by simpa [pyDs, pyD, PyData.canLayAll0, PyData.canLay0] using b2, by simpa [pyDs, pyD, PyData.depthAll, PyData.depth] using b3⟩
  obtain ⟨a1, a2, a3⟩ := this ns
  unfold okD SeqAt.shaped
  simp [Dl.plain, pyD, PyData.canLay0, PyData.depth, a1, a2, a3]
theorem ne_nil {S : Sto} {xs : List D} {Q : D → Sto → Prop} (h : okD (.lst xs) = true) (q : Q (.bl (!xs.isEmpty)) S) : neR (.lst xs) (.lst []) S Q := ⟨h, rfl, by
  cases xs with
  | nil => exact q
  | cons x xs => exact q⟩
end Dl
namespace K01
open PySem PySem.Spec PyProof.Rows L2 Dl LamX NdefX
section
variable {K : PySem.W.Frag} {a : Ad}
theorem vc__law_pen (ds S P PE) (hl : ds.length = 1) (h : Φpen ds S P PE) : t__law_pen K a PE (bodyO P) (startD N__law_pen ds) S := by
  obtain ⟨ns, rfl, q⟩ := h
  simp only [t__law_pen, st__law_pen, dSeq, dIfS, dTst, dCall, dOp, dUn, dVar, dC, dRet, dRetN, dNext, dAndV, dOrV, dNotV, dAnd, dOr, dNot, dIf, dB, dTup, aCons, aNil, dSet, dChain, dCont, dBreak, dDrop, dAttr, one, gdName, gdTup, gdCons, gdNil, bodyO, List.append_nil, List.length_cons, List.length_nil, List.getElem?_cons_zero, List.getElem?_cons_succ, List.set_cons_zero, List.set_cons_succ, Option.some.injEq, D.bl.injEq, exists_eq_left', exists_eq_left, true_and, Nat.reduceAdd, Nat.zero_add, if_true, if_false, Bool.false_eq_true, Bool.not_true, Bool.not_false, reduceCtorEq, xi_cmp_int, xi_add_int, xi_sub_int, xi_mul_int, xi_mod_int, xi_div_int, xi_pow_int, xi_int_int, xi_int_bl, xi_abs_int, xi_neg_int, dLst, dSl, oNone, oSome, slR, newL, listR]
  refine ⟨_, rfl, by decide, fun p hp => Fz.same ?_⟩
  have : cutL (ns.map D.int) none (some 63) = (ns.take 63).map D.int := by
    unfold cutL HT.sIx
    simp
    try rw [← List.map_take, ← List.map_take]
  rw [this]
  exact q p hp
theorem big_bound {m at_ : Int} (a : 0 ≤ m) (b : m < 2147483629) (c : 0 ≤ at_) (d : at_ < 1048576) : (m * (2 * at_ + 6123) + 71045 * at_ * at_ + 33071).natAbs < 2 ^ 64 := by
  have h1 : 0 ≤ m * (2 * at_ + 6123) := Int.mul_nonneg a (by omega)
  have h2 : m * (2 * at_ + 6123) ≤ 2147483629 * 2103275 := Int.mul_le_mul (by omega) (by omega) (by omega) (by omega)
  have h3 : 0 ≤ 71045 * at_ * at_ := Int.mul_nonneg (by omega) c
  have h4 : 71045 * at_ * at_ ≤ 74496081920 * 1048576 := Int.mul_le_mul (by omega) (by omega) (by omega) (by omega)
  omega
theorem tail {S S1 : Sto} {P : D → Sto → Prop} {p : Addr} {ns : List Int} {at_ left many : Int} (hp1 : S1 p = some (penO ns (at_ + 1) left)) (hS1 : ∀ o, put S1 p o = put S p o) (h0 : 0 ≤ at_) (h1 : at_ < 1048576) (hm : many < 1073741824) (hmp : 0 < many)
    (q : ∀ r at' left' : Int, 0 ≤ r → (r < many ∨ r = 0) → 0 ≤ at' → at' ≤ at_ + 1 → P (.int r) (put S p (penO ns at' left'))) (cell : Int) :
    if decide (at_ < ↑ns.length) = true then
    CPow 10 18 ∧
      if decide (10 ^ Int.toNat 18 ≤ if cell < 0 then -cell else cell) = true then
        CPow 10 18 ∧
          CMul 2 ((if cell < 0 then -cell else cell) - 10 ^ Int.toNat 18) ∧
            CDiv
                (2 * ((if cell < 0 then -cell else cell) - 10 ^ Int.toNat 18) +
                  if decide (cell < 0) = true then 1 else 0)
                many ∧
              ∃ xs,
                S1 p = some (O.lst xs) ∧
                  ∃ j,
                    ixN xs.length 2 = some j ∧
                      0 < many ∧
                        Fz
                          (D.int
                            ((2 * ((if cell < 0 then -cell else cell) - 10 ^ Int.toNat 18) +
                                if decide (cell < 0) = true then 1 else 0) %
                              many))
                          (put S1 p
                            (O.lst
                              (xs.set j
                                (D.int
                                  ((2 * ((if cell < 0 then -cell else cell) - 10 ^ Int.toNat 18) +
                                      if decide (cell < 0) = true then 1 else 0) /
                                    many)))))
                          P
      else
        (0 : Int) < 2147483549 ∧
          CMul 33071 at_ ∧
            CPow (cell % 2147483549 + 33071 * at_ + 9027) 3 ∧
              (0 : Int) < 2147483629 ∧
                CMul 2 at_ ∧
                  CMul ((cell % 2147483549 + 33071 * at_ + 9027) ^ Int.toNat 3 % 2147483629) (2 * at_ + 6123) ∧
                    CMul 71045 at_ ∧
                      CMul (71045 * at_) at_ ∧
                        CPow
                            ((cell % 2147483549 + 33071 * at_ + 9027) ^ Int.toNat 3 % 2147483629 * (2 * at_ + 6123) +
                                71045 * at_ * at_ +
                              33071)
                            5 ∧
                          (0 : Int) < 2147483563 ∧
                            CDiv
                                (((cell % 2147483549 + 33071 * at_ + 9027) ^ Int.toNat 3 % 2147483629 *
                                          (2 * at_ + 6123) +
                                        71045 * at_ * at_ +
                                      33071) ^
                                    Int.toNat 5 %
                                  2147483563)
                                16 ∧
                              0 < many ∧
                                Fz
                                  (D.int
                                    (((cell % 2147483549 + 33071 * at_ + 9027) ^ Int.toNat 3 % 2147483629 *
                                                  (2 * at_ + 6123) +
                                                71045 * at_ * at_ +
                                              33071) ^
                                            Int.toNat 5 %
                                          2147483563 /
                                        16 %
                                      many))
                                  S1 P
  else
    (0 : Int) < 2147483549 ∧
      CMul 33071 at_ ∧
        CPow (cell % 2147483549 + 33071 * at_ + 9027) 3 ∧
          (0 : Int) < 2147483629 ∧
            CMul 2 at_ ∧
              CMul ((cell % 2147483549 + 33071 * at_ + 9027) ^ Int.toNat 3 % 2147483629) (2 * at_ + 6123) ∧
                CMul 71045 at_ ∧
                  CMul (71045 * at_) at_ ∧
                    CPow
                        ((cell % 2147483549 + 33071 * at_ + 9027) ^ Int.toNat 3 % 2147483629 * (2 * at_ + 6123) +
                            71045 * at_ * at_ +
                          33071)
                        5 ∧
                      (0 : Int) < 2147483563 ∧
                        CDiv
                            (((cell % 2147483549 + 33071 * at_ + 9027) ^ Int.toNat 3 % 2147483629 * (2 * at_ + 6123) +
                                    71045 * at_ * at_ +
                                  33071) ^
                                Int.toNat 5 %
                              2147483563)
                            16 ∧
                          0 < many ∧
                            Fz
                              (D.int
                                (((cell % 2147483549 + 33071 * at_ + 9027) ^ Int.toNat 3 % 2147483629 *
                                              (2 * at_ + 6123) +
                                            71045 * at_ * at_ +
                                          33071) ^
                                        Int.toNat 5 %
                                      2147483563 /
                                    16 %
                                  many))
                              S1 P := by
  have md : ∀ x : Int, 0 ≤ x % many ∧ x % many < many := fun x => ⟨Int.emod_nonneg _ (by omega), Int.emod_lt_of_pos _ hmp⟩
  have e18 : CPow 10 18 := by unfold CPow; decide
  have mixed : ∀ x y : Int, x = cell % 2147483549 + 33071 * at_ + 9027 → y = x ^ Int.toNat 3 % 2147483629 → (0 : Int) < 2147483549 ∧ CMul 33071 at_ ∧ CPow x 3 ∧ (0 : Int) < 2147483629 ∧ CMul 2 at_ ∧ CMul y (2 * at_ + 6123) ∧ CMul 71045 at_ ∧ CMul (71045 * at_) at_ ∧
      CPow (y * (2 * at_ + 6123) + 71045 * at_ * at_ + 33071) 5 ∧ (0 : Int) < 2147483563 ∧ CDiv ((y * (2 * at_ + 6123) + 71045 * at_ * at_ + 33071) ^ Int.toNat 5 % 2147483563) 16 ∧ 0 < many ∧
      Fz (.int ((y * (2 * at_ + 6123) + 71045 * at_ * at_ + 33071) ^ Int.toNat 5 % 2147483563 / 16 % many)) S1 P := by
    intro x y hx hy
    have b1 : 0 ≤ cell % 2147483549 := Int.emod_nonneg _ (by decide)
    have b2 : cell % 2147483549 < 2147483549 := Int.emod_lt_of_pos _ (by decide)
    have c1 : 0 ≤ y := by rw [hy]; exact Int.emod_nonneg _ (by decide)
    have c2 : y < 2147483629 := by rw [hy]; exact Int.emod_lt_of_pos _ (by decide)
    refine ⟨by decide, .inl (by decide), ⟨by decide, by decide, by omega⟩, by decide, .inl (by decide), .inr (by omega), .inl (by decide), .inr (by omega), ⟨by decide, by decide, big_bound c1 c2 h0 h1⟩, by decide, ⟨by decide, by decide⟩, hmp, Fz.same ?_⟩
    have := q _ (at_ + 1) left (md ((y * (2 * at_ + 6123) + 71045 * at_ * at_ + 33071) ^ Int.toNat 5 % 2147483563 / 16)).1 (.inl (md _).2) (by omega) (by omega)
    rw [← hS1, put_id hp1] at this
    exact this
  by_cases hA : at_ < ns.length
  · rw [if_pos (by simpa using hA)]
    refine ⟨e18, ?_⟩
    by_cases hB : (10 : Int) ^ Int.toNat 18 ≤ (if cell < 0 then -cell else cell)
    · rw [if_pos (by simpa using hB)]
      refine ⟨e18, .inl (by decide), ⟨hmp, hm⟩, _, hp1, 2, rfl, hmp, Fz.same ?_⟩
      rw [hS1]
      exact q _ (at_ + 1) _ (md _).1 (.inl (md _).2) (by omega) (by omega)
    · rw [if_neg (by simpa using hB)]
      exact mixed _ _ rfl rfl
  · rw [if_neg (by simpa using hA)]
    exact mixed _ _ rfl rfl
theorem vc__law_draw (ds S P PE) (hl : ds.length = 2) (h : Φdraw ds S P PE) : t__law_draw K a PE (bodyO P) (startD N__law_draw ds) S := by
  obtain ⟨p, many, ns, at_, left, rfl, hp, h0, h1, hm, q⟩ := h
  simp only [t__law_draw, st__law_draw, dSeq, dIfS, dTst, dCall, dOp, dUn, dVar, dC, dRet, dRetN, dNext, dAndV, dOrV, dNotV, dAnd, dOr, dNot, dIf, dB, dTup, aCons, aNil, dSet, dChain, dCont, dBreak, dDrop, dAttr, one, gdName, gdTup, gdCons, gdNil, bodyO, List.append_nil, List.length_cons, List.length_nil, List.getElem?_cons_zero, List.getElem?_cons_succ, List.set_cons_zero, List.set_cons_succ, Option.some.injEq, D.bl.injEq, exists_eq_left', exists_eq_left, true_and, Nat.reduceAdd, Nat.zero_add, if_true, if_false, Bool.false_eq_true, Bool.not_true, Bool.not_false, reduceCtorEq, xi_cmp_int, xi_add_int, xi_sub_int, xi_mul_int, xi_mod_int, xi_div_int, xi_pow_int, xi_int_int, xi_int_bl, xi_abs_int, xi_neg_int, ltR, gtR, geR]
  by_cases hm2 : many < 2
  · rw [if_pos (by simpa using hm2)]
    have := q 0 at_ left (by omega) (.inr rfl) h0 (by omega)
    rw [put_id hp] at this
    exact Fz.same this
  · rw [if_neg (by simpa using hm2)]
    have hmp : 0 < many := by omega
    have md : ∀ x : Int, 0 ≤ x % many ∧ x % many < many := fun x => ⟨Int.emod_nonneg _ (by omega), Int.emod_lt_of_pos _ hmp⟩
    refine ref_ix hp (d := .int left) rfl ?_
    simp only [dSeq, dIfS, dTst, dCall, dOp, dUn, dVar, dC, dRet, dRetN, dNext, dAndV, dOrV, dNotV, dAnd, dOr, dNot, dIf, dB, dTup, aCons, aNil, dSet, dChain, dCont, dBreak, dDrop, dAttr, one, gdName, gdTup, gdCons, gdNil, bodyO, List.append_nil, List.length_cons, List.length_nil, List.getElem?_cons_zero, List.getElem?_cons_succ, List.set_cons_zero, List.set_cons_succ, Option.some.injEq, D.bl.injEq, exists_eq_left', exists_eq_left, true_and, Nat.reduceAdd, Nat.zero_add, if_true, if_false, Bool.false_eq_true, Bool.not_true, Bool.not_false, reduceCtorEq, xi_cmp_int, xi_add_int, xi_sub_int, xi_mul_int, xi_mod_int, xi_div_int, xi_pow_int, xi_int_int, xi_int_bl, xi_abs_int, xi_neg_int]
    by_cases hlf : 0 < left
    · rw [if_pos (by simpa using hlf)]
      refine ref_ix hp (d := .int left) rfl ?_
      simp only [dSetIx, dSeq, dIfS, dTst, dCall, dOp, dUn, dVar, dC, dRet, dRetN, dNext, dAndV, dOrV, dNotV, dAnd, dOr, dNot, dIf, dB, dTup, aCons, aNil, dSet, dChain, dCont, dBreak, dDrop, dAttr, one, gdName, gdTup, gdCons, gdNil, bodyO, List.append_nil, List.length_cons, List.length_nil, List.getElem?_cons_zero, List.getElem?_cons_succ, List.set_cons_zero, List.set_cons_succ, Option.some.injEq, D.bl.injEq, exists_eq_left', exists_eq_left, true_and, Nat.reduceAdd, Nat.zero_add, if_true, if_false, Bool.false_eq_true, Bool.not_true, Bool.not_false, reduceCtorEq, xi_cmp_int, xi_add_int, xi_sub_int, xi_mul_int, xi_mod_int, xi_div_int, xi_pow_int, xi_int_int, xi_int_bl, xi_abs_int, xi_neg_int]
      refine ⟨hmp, ref_ix hp (d := .int left) rfl ?_⟩
      simp only [refLs, dSeq, dIfS, dTst, dCall, dOp, dUn, dVar, dC, dRet, dRetN, dNext, dAndV, dOrV, dNotV, dAnd, dOr, dNot, dIf, dB, dTup, aCons, aNil, dSet, dChain, dCont, dBreak, dDrop, dAttr, one, gdName, gdTup, gdCons, gdNil, bodyO, List.append_nil, List.length_cons, List.length_nil, List.getElem?_cons_zero, List.getElem?_cons_succ, List.set_cons_zero, List.set_cons_succ, Option.some.injEq, D.bl.injEq, exists_eq_left', exists_eq_left, true_and, Nat.reduceAdd, Nat.zero_add, if_true, if_false, Bool.false_eq_true, Bool.not_true, Bool.not_false, reduceCtorEq, xi_cmp_int, xi_add_int, xi_sub_int, xi_mul_int, xi_mod_int, xi_div_int, xi_pow_int, xi_int_int, xi_int_bl, xi_abs_int, xi_neg_int]
      refine ⟨⟨hmp, hm⟩, _, hp, 2, rfl, Fz.same ?_⟩
      exact q _ at_ _ (md left).1 (.inl (md left).2) h0 (by omega)
    · rw [if_neg (by simpa using hlf)]
      refine ref_ix hp (d := .int at_) rfl ?_
      simp only [dSetIx, refLs, dSeq, dIfS, dTst, dCall, dOp, dUn, dVar, dC, dRet, dRetN, dNext, dAndV, dOrV, dNotV, dAnd, dOr, dNot, dIf, dB, dTup, aCons, aNil, dSet, dChain, dCont, dBreak, dDrop, dAttr, one, gdName, gdTup, gdCons, gdNil, bodyO, List.append_nil, List.length_cons, List.length_nil, List.getElem?_cons_zero, List.getElem?_cons_succ, List.set_cons_zero, List.set_cons_succ, Option.some.injEq, D.bl.injEq, exists_eq_left', exists_eq_left, true_and, Nat.reduceAdd, Nat.zero_add, if_true, if_false, Bool.false_eq_true, Bool.not_true, Bool.not_false, reduceCtorEq, xi_cmp_int, xi_add_int, xi_sub_int, xi_mul_int, xi_mod_int, xi_div_int, xi_pow_int, xi_int_int, xi_int_bl, xi_abs_int, xi_neg_int]
      refine ⟨_, hp, 1, rfl, ?_⟩
      have hp1 : put S p (.lst ([D.lst (ns.map .int), D.int at_, D.int left].set 1 (D.int (at_ + 1)))) p = some (penO ns (at_ + 1) left) := put_same
      generalize hS : put S p (.lst ([D.lst (ns.map .int), D.int at_, D.int left].set 1 (D.int (at_ + 1)))) = S1 at *
      have hS1 : ∀ o, put S1 p o = put S p o := fun o => by rw [← hS, put_put]
      refine ⟨.inl (by omega), ref_ix hp1 (d := .lst (ns.map .int)) rfl ?_⟩
      simp only [dLst, dSeq, dIfS, dTst, dCall, dOp, dUn, dVar, dC, dRet, dRetN, dNext, dAndV, dOrV, dNotV, dAnd, dOr, dNot, dIf, dB, dTup, aCons, aNil, dSet, dChain, dCont, dBreak, dDrop, dAttr, one, gdName, gdTup, gdCons, gdNil, bodyO, List.append_nil, List.length_cons, List.length_nil, List.getElem?_cons_zero, List.getElem?_cons_succ, List.set_cons_zero, List.set_cons_succ, Option.some.injEq, D.bl.injEq, exists_eq_left', exists_eq_left, true_and, Nat.reduceAdd, Nat.zero_add, if_true, if_false, Bool.false_eq_true, Bool.not_true, Bool.not_false, reduceCtorEq, xi_cmp_int, xi_add_int, xi_sub_int, xi_mul_int, xi_mod_int, xi_div_int, xi_pow_int, xi_int_int, xi_int_bl, xi_abs_int, xi_neg_int, newL]
      refine ⟨by decide, ne_nil (ok_ints ns) ⟨_, rfl, ?_⟩⟩
      have len0 : ∀ Q : D → Sto → Prop, Q (.int ns.length) S1 → lenR (.lst (ns.map D.int)) S1 Q := fun Q q => by
        simp only [lenR, sqD]; exact ⟨_, rfl, by simpa using q⟩
      have atg : ∃ c : Int, ns ≠ [] → atI (ns.map D.int) (at_ % ns.length) = some (.int c) := by
        by_cases hn : ns = []
        · exact ⟨0, fun z => (z hn).elim⟩
        · have : 0 < ns.length := List.length_pos_iff.mpr hn
          obtain ⟨c, hc⟩ := at_int (ns := ns) (i := at_ % ns.length) (Int.emod_nonneg _ (by omega)) (Int.emod_lt_of_pos _ (by omega))
          exact ⟨c, fun _ => hc⟩
      obtain ⟨c0, hc0⟩ := atg
      by_cases hns : ns = []
      · rw [if_neg (by simp [hns])]
        generalize (71045 * at_ + 9027 : Int) = cell
        refine ref_ix hp1 (d := .lst (ns.map .int)) rfl (len0 _ ?_)
        simp only [dSeq, dIfS, dTst, dCall, dOp, dUn, dVar, dC, dRet, dRetN, dNext, dAndV, dOrV, dNotV, dAnd, dOr, dNot, dIf, dB, dTup, aCons, aNil, dSet, dChain, dCont, dBreak, dDrop, dAttr, one, gdName, gdTup, gdCons, gdNil, bodyO, List.append_nil, List.length_cons, List.length_nil, List.getElem?_cons_zero, List.getElem?_cons_succ, List.set_cons_zero, List.set_cons_succ, Option.some.injEq, D.bl.injEq, exists_eq_left', exists_eq_left, true_and, Nat.reduceAdd, Nat.zero_add, if_true, if_false, Bool.false_eq_true, Bool.not_true, Bool.not_false, reduceCtorEq, xi_cmp_int, xi_add_int, xi_sub_int, xi_mul_int, xi_mod_int, xi_div_int, xi_pow_int, xi_int_int, xi_int_bl, xi_abs_int, xi_neg_int]
        exact tail hp1 hS1 h0 h1 hm hmp q cell
      · rw [if_pos (by simp [hns])]
        have : 0 < ns.length := List.length_pos_iff.mpr hns
        refine ref_ix hp1 (d := .lst (ns.map .int)) rfl (ref_ix hp1 (d := .lst (ns.map .int)) rfl (len0 _ ?_))
        simp only [dSeq, dIfS, dTst, dCall, dOp, dUn, dVar, dC, dRet, dRetN, dNext, dAndV, dOrV, dNotV, dAnd, dOr, dNot, dIf, dB, dTup, aCons, aNil, dSet, dChain, dCont, dBreak, dDrop, dAttr, one, gdName, gdTup, gdCons, gdNil, bodyO, List.append_nil, List.length_cons, List.length_nil, List.getElem?_cons_zero, List.getElem?_cons_succ, List.set_cons_zero, List.set_cons_succ, Option.some.injEq, D.bl.injEq, exists_eq_left', exists_eq_left, true_and, Nat.reduceAdd, Nat.zero_add, if_true, if_false, Bool.false_eq_true, Bool.not_true, Bool.not_false, reduceCtorEq, xi_cmp_int, xi_add_int, xi_sub_int, xi_mul_int, xi_mod_int, xi_div_int, xi_pow_int, xi_int_int, xi_int_bl, xi_abs_int, xi_neg_int]
        refine ⟨by omega, lst_ix (hc0 hns) (ref_ix hp1 (d := .lst (ns.map .int)) rfl (len0 _ ?_))⟩
        simp only [dSeq, dIfS, dTst, dCall, dOp, dUn, dVar, dC, dRet, dRetN, dNext, dAndV, dOrV, dNotV, dAnd, dOr, dNot, dIf, dB, dTup, aCons, aNil, dSet, dChain, dCont, dBreak, dDrop, dAttr, one, gdName, gdTup, gdCons, gdNil, bodyO, List.append_nil, List.length_cons, List.length_nil, List.getElem?_cons_zero, List.getElem?_cons_succ, List.set_cons_zero, List.set_cons_succ, Option.some.injEq, D.bl.injEq, exists_eq_left', exists_eq_left, true_and, Nat.reduceAdd, Nat.zero_add, if_true, if_false, Bool.false_eq_true, Bool.not_true, Bool.not_false, reduceCtorEq, xi_cmp_int, xi_add_int, xi_sub_int, xi_mul_int, xi_mod_int, xi_div_int, xi_pow_int, xi_int_int, xi_int_bl, xi_abs_int, xi_neg_int]
        exact tail hp1 hS1 h0 h1 hm hmp q c0
theorem vc__law_pick (ds S P PE) (hl : ds.length = 2) (h : Φpick ds S P PE) : t__law_pick K a Φdraw PE (bodyO P) (startD N__law_pick ds) S := by
  obtain ⟨p, d, xs, ns, at_, left, rfl, rfl, hne, hx, hp, h0, h1, q⟩ := h
  simp only [t__law_pick, st__law_pick, dSeq, dIfS, dTst, dCall, dOp, dUn, dVar, dC, dRet, dRetN, dNext, dAndV, dOrV, dNotV, dAnd, dOr, dNot, dIf, dB, dTup, aCons, aNil, dSet, dChain, dCont, dBreak, dDrop, dAttr, one, gdName, gdTup, gdCons, gdNil, bodyO, List.append_nil, List.length_cons, List.length_nil, List.getElem?_cons_zero, List.getElem?_cons_succ, List.set_cons_zero, List.set_cons_succ, Option.some.injEq, D.bl.injEq, exists_eq_left', exists_eq_left, true_and, Nat.reduceAdd, Nat.zero_add, if_true, if_false, Bool.false_eq_true, Bool.not_true, Bool.not_false, reduceCtorEq, xi_cmp_int, xi_add_int, xi_sub_int, xi_mul_int, xi_mod_int, xi_div_int, xi_pow_int, xi_int_int, xi_int_bl, xi_abs_int, xi_neg_int, lenR, sqD]
  refine ⟨p, xs.length, ns, at_, left, rfl, hp, h0, h1, by omega, fun r at' left' r0 r1 a0 a1 => ?_⟩
  have hpos : 0 < xs.length := List.length_pos_iff.mpr hne
  have hr : r < xs.length := by omega
  have e : xs[r.toNat]? = some (xs[r.toNat]'(by omega)) := List.getElem?_eq_getElem (by omega)
  refine lst_ix (d := xs[r.toNat]'(by omega)) ?_ (Fz.same (q r.toNat _ at' left' e a0 a1))
  unfold atI ixN
  rw [if_pos r0, if_pos hr]
  exact e
end
end K01
/-! K01A: names, rows unlike. -/
namespace Dl
open PySem PySem.Spec PyProof.Rows L2
/-- may be compared; so deep at most -/
structure Pl (e : D) (n : Nat) : Prop where
  pl : Dl.plain e = true
  lay : PyData.canLay0 (pyD e) = true
  dp : PyData.depth (pyD e) ≤ n
theorem Pl.ok {e : D} {n : Nat} (h : Pl e n) (hn : n ≤ 64) : okD e = true := by
  unfold okD SeqAt.shaped
  have := h.dp
  simp [h.pl, h.lay]
  omega
theorem Pl.mono {e : D} {n m : Nat} (h : Pl e n) (hn : n ≤ m) : Pl e m := ⟨h.pl, h.lay, Nat.le_trans h.dp hn⟩
theorem Pl.str {z : Str} (h : PyData.strOk z = true) : Pl (.str z) 0 := ⟨rfl, by simpa [pyD, PyData.canLay0] using h, Nat.le_refl _⟩
theorem Pl.int {i : Int} : Pl (.int i) 0 := ⟨rfl, rfl, Nat.le_refl _⟩
theorem Pl.bl {b : Bool} : Pl (.bl b) 0 := ⟨rfl, rfl, Nat.le_refl _⟩
theorem Pl.non : Pl .non 0 := ⟨rfl, rfl, Nat.le_refl _⟩
theorem Pl.all {n : Nat} : ∀ {es : List D}, (∀ o, o ∈ es → Pl o n) → Dl.plains es = true ∧ PyData.canLayAll0 (pyDs es) = true ∧ PyData.depthAll (pyDs es) ≤ n
  | [], _ => ⟨rfl, rfl, Nat.zero_le _⟩
  | o :: es, h => by
    obtain ⟨c1, c2, c3⟩ := Pl.all fun x hx => h x (List.mem_cons_of_mem _ hx)
    have a := h o (by simp)
    refine ⟨by simp [Dl.plains, a.pl, c1], by simp [pyDs, PyData.canLayAll0, a.lay, c2], ?_⟩
    simp only [pyDs, PyData.depthAll]
    have := a.dp
    omega
theorem Pl.tup {n : Nat} {es : List D} (h : ∀ o, o ∈ es → Pl o n) : Pl (.tup es) (n + 1) := by
  obtain ⟨c1, c2, c3⟩ := Pl.all h
  exact ⟨c1, c2, by simp only [pyD, PyData.depth]; omega⟩
theorem Pl.lst {n : Nat} {es : List D} (h : ∀ o, o ∈ es → Pl o n) : Pl (.lst es) (n + 1) := by
  obtain ⟨c1, c2, c3⟩ := Pl.all h
  exact ⟨c1, c2, by simp only [pyD, PyData.depth]; omega⟩
/-- a tree so deep at most, its rows and texts short -/
def wf : Nat → D → Bool
  | 0, _ => false
  | n + 1, .tup es => decide (es.length ≤ 1000) && es.all (wf n)
  | n + 1, .lst es => decide (es.length ≤ 1000) && es.all (wf n)
  | _ + 1, .str z => PyData.strOk z && decide (z.length ≤ 1000)
  | _ + 1, .non | _ + 1, .bl _ | _ + 1, .int _ | _ + 1, .dic _ _ => true
  | _ + 1, .ty _ | _ + 1, .ref _ | _ + 1, .scr _ => false
theorem wf_kid {n : Nat} {e : D} {es : List D} (h : wf (n + 1) e = true) (hk : kidE e = some es) : es.length ≤ 1000 ∧ ∀ o, o ∈ es → wf n o = true := by
  cases e <;> cases hk <;> (simp only [wf, Bool.and_eq_true, decide_eq_true_eq, List.all_eq_true] at h; exact h)
theorem wf_of_kid {n : Nat} {e : D} {es : List D} (hk : kidE e = some es) (hl : es.length ≤ 1000) (h : ∀ o, o ∈ es → wf n o = true) : wf (n + 1) e = true := by
  cases e <;> cases hk <;> (simp only [wf, Bool.and_eq_true, decide_eq_true_eq, List.all_eq_true]; exact ⟨hl, h⟩)
theorem wf_str {n : Nat} {z : Str} (h : wf n (.str z) = true) : PyData.strOk z = true ∧ z.length ≤ 1000 := by
  cases n with
  | zero => cases h
  | succ n => simpa [wf] using h
theorem wf_mono {n : Nat} : ∀ {m : Nat} {e : D}, wf m e = true → m ≤ n → wf n e = true := by
  induction n with
  | zero =>
    intro m e h hm
    rw [Nat.le_zero.mp hm] at h
    cases h
  | succ n ih =>
    intro m e h hm
    cases m with
    | zero => cases h
    | succ m =>
      cases hk : kidE e with
      | some es =>
        obtain ⟨h1, h2⟩ := wf_kid h hk
        exact wf_of_kid hk h1 fun o ho => ih (h2 o ho) (by omega)
      | none => cases e <;> first | exact h | cases hk
theorem wf_okN : ∀ {n : Nat} {e : D}, wf n e = true → okN n e
  | 0, _, h => by cases h
  | n + 1, e, h => fun es hk => by
    obtain ⟨h1, h2⟩ := wf_kid h hk
    exact ⟨by omega, fun o ho => wf_okN (h2 o ho)⟩
theorem wf_tree : ∀ {n : Nat} {e : D}, wf n e = true → Dl.tree e = true
  | 0, _, h => by cases h
  | n + 1, e, h => by
    have key : ∀ es : List D, (∀ o, o ∈ es → wf n o = true) → Dl.trees es = true := by
      intro es
      induction es with
      | nil => intro _; rfl
      | cons o es ih => intro h; exact Bool.and_eq_true_iff.mpr ⟨wf_tree (h o (by simp)), ih fun x hx => h x (List.mem_cons_of_mem _ hx)⟩
    cases e with
    | tup es => exact key es (wf_kid (es := es) h rfl).2
    | lst es => exact key es (wf_kid (es := es) h rfl).2
    | str z => exact (wf_str h).1
    | non => rfl
    | bl => rfl
    | int => rfl
    | dic => rfl
    | _ => cases h
/-- a comprehension over what is known -/
theorem lc_list {stb : Sto → Prop} {g : TDG} {te : TDE} {ρ : DEnv} {Q : List D → Sto → Prop} {S : Sto} (f : D → D) (hs : stb S) : ∀ (xs acc : List D), acc.length + xs.length ≤ sizeLine →
    (∀ x, x ∈ xs → ∀ R : D → Sto → Prop, R (f x) S → g x ρ S fun ρ2 S2 => te ρ2 S2 R) → Q (acc ++ xs.map f) S → lcD stb g dYes te ρ Q xs acc S
  | [], acc, hl, h, q => ⟨hs, by simpa using q⟩
  | x :: xs, acc, hl, h, q => by
    refine ⟨hs, ?_⟩
    simp only [dYes, if_true]
    refine h x (by simp) _ ⟨by simp at hl; omega, ?_⟩
    exact lc_list f hs xs (acc ++ [f x]) (by simp at hl ⊢; omega) (fun y hy => h y (List.mem_cons_of_mem _ hy)) (by simpa using q)
/-- .. of those of which a test holds -/
theorem lc_listF {stb : Sto → Prop} {g : TDG} {tt : TDT} {te : TDE} {ρ : DEnv} {Q : List D → Sto → Prop} {S : Sto} (p : D → Bool) (f : D → D) (hs : stb S) : ∀ (xs acc : List D), acc.length + xs.length ≤ sizeLine →
    (∀ x, x ∈ xs → ∀ (R : D → Sto → Prop) (R2 : Sto → Prop), (if p x = true then R (f x) S else R2 S) → g x ρ S fun ρ2 S2 => tt ρ2 S2 fun b S3 => if b = true then te ρ2 S3 R else R2 S3) →
    Q (acc ++ (xs.filter p).map f) S → lcD stb g tt te ρ Q xs acc S
  | [], acc, hl, h, q => ⟨hs, by simpa using q⟩
  | x :: xs, acc, hl, h, q => by
    refine ⟨hs, h x (by simp) _ _ ?_⟩
    cases hp : p x
    · rw [if_neg (by decide)]
      exact lc_listF p f hs xs acc (by simp at hl; omega) (fun y hy => h y (List.mem_cons_of_mem _ hy)) (by simpa [hp] using q)
    · rw [if_pos rfl]
      exact ⟨by simp at hl; omega, lc_listF p f hs xs (acc ++ [f x]) (by simp at hl ⊢; omega) (fun y hy => h y (List.mem_cons_of_mem _ hy)) (by simpa [hp] using q)⟩
/-- no two alike -/
def unlike (xs : List D) : Bool := (enumD 0 xs).all fun z => match z with | .tup [.int i, x] => !inL x (xs.take i.toNat) | _ => false
theorem enumD_at : ∀ (xs : List D) (n : Nat) (z : D), z ∈ enumD n xs → ∃ (i : Nat) (x : D), z = .tup [.int ((n + i : Nat) : Int), x] ∧ xs[i]? = some x
  | [], n, z, h => by cases h
  | y :: ys, n, z, h => by
    simp only [enumD, List.mem_cons] at h
    rcases h with rfl | h
    · exact ⟨0, y, rfl, rfl⟩
    · obtain ⟨i, x, rfl, hx⟩ := enumD_at ys (n + 1) z h
      exact ⟨i + 1, x, by rw [show n + 1 + i = n + (i + 1) by omega], hx⟩
theorem inL_str {z : Str} {zs : List Str} : inL (.str z) (zs.map .str) = decide (z ∈ zs) := by
  unfold inL
  induction zs with
  | nil => rfl
  | cons y ys ih =>
    rw [List.map_cons, List.any_cons, ih, eqD_str]
    by_cases h : y = z
    · subst h; simp
    · have : z ≠ y := Ne.symm h
      simp [h, this]
theorem enum_all_mem {xs : List D} {f : D → Bool} : ∀ {n : Nat}, (enumD n xs).all f = true ↔ ∀ (i : Nat) x, xs[i]? = some x → f (.tup [.int ((n + i : Nat) : Int), x]) = true := by
  induction xs with
  | nil => intro n; simp [enumD]
  | cons y ys ih =>
    intro n
    simp only [enumD, List.all_cons, Bool.and_eq_true, ih]
    constructor
    · rintro ⟨h1, h2⟩ i x hx
      cases i with
      | zero => simp at hx; subst hx; exact h1
      | succ i => have := h2 i x (by simpa using hx); rw [show n + 1 + i = n + (i + 1) by omega] at this; exact this
    · intro h
      refine ⟨h 0 y rfl, fun i x hx => ?_⟩
      have := h (i + 1) x (by simpa using hx)
      rw [show n + (i + 1) = n + 1 + i by omega] at this
      exact this
theorem unlike_str (zs : List Str) : unlike (zs.map .str) = decide zs.Nodup := by
  have : unlike (zs.map .str) = true ↔ zs.Nodup := by
    unfold unlike
    rw [enum_all_mem, List.Nodup, List.pairwise_iff_getElem]
    constructor
    · intro h i j hi hj hij e
      have := h j (.str zs[j]) (by rw [List.getElem?_map, List.getElem?_eq_getElem hj]; rfl)
      simp only [Nat.zero_add, Int.toNat_natCast, ← List.map_take, inL_str, Bool.not_eq_true', decide_eq_false_iff_not] at this
      refine this (List.mem_iff_getElem?.mpr ⟨i, ?_⟩)
      rw [List.getElem?_take, if_pos hij, List.getElem?_eq_getElem hi, e]
    · intro h i x hx
      rw [List.getElem?_map] at hx
      cases hz : zs[i]? with
      | none => rw [hz] at hx; cases hx
      | some z =>
        rw [hz] at hx
        cases hx
        simp only [Nat.zero_add, Int.toNat_natCast, ← List.map_take, inL_str, Bool.not_eq_true', decide_eq_false_iff_not]
        intro hm
        obtain ⟨j, hj⟩ := List.mem_iff_getElem?.mp hm
        rw [List.getElem?_take] at hj
        split at hj
        · rename_i hlt
          obtain ⟨l1, e1⟩ := List.getElem?_eq_some_iff.mp hj
          obtain ⟨l2, e2⟩ := List.getElem?_eq_some_iff.mp hz
          exact h j i l1 l2 hlt (e1.trans e2.symm)
        · cases hj
  cases h : unlike (zs.map .str)
  · exact (decide_eq_false fun z => by rw [this.mpr z] at h; cases h).symm
  · exact (decide_eq_true (this.mp h)).symm
theorem cut_to {xs : List D} {i : Nat} (h : i ≤ xs.length) : cutL xs none (some (i : Int)) = xs.take i := by
  unfold cutL HT.sIx
  simp
  rw [if_neg (by omega)]
  omega
end Dl
namespace K01
open PySem PySem.Spec PyProof.Rows L2 Dl LamX NdefX
section
variable {K : PySem.W.Frag} {a : Ad}
def Φtw (f : D → Bool) : Phi := fun ds S P _ => ∃ d e N n, ds = [d] ∧ Vw N S d e ∧ wf n e = true ∧ P (.bl (f e)) S
def Φunlike : Phi := fun ds S P _ => ∃ xs, ds = [.lst xs] ∧ xs.length ≤ 1000 ∧ (∀ x, x ∈ xs → Pl x 8) ∧ P (.bl (unlike xs)) S
theorem vc_are_unlike (ds S P PE) (hl : ds.length = 1) (h : Φunlike ds S P PE) : t_are_unlike K a PE (bodyO P) (startD N_are_unlike ds) S := by
  obtain ⟨xs, rfl, h1, h2, p⟩ := h
  simp only [t_are_unlike, st_are_unlike, dSeq, dIfS, dTst, dCall, dOp, dUn, dVar, dC, dRet, dRetN, dNext, dAndV, dOrV, dNotV, dAnd, dOr, dNot, dIf, dB, dTup, aCons, aNil, dSet, dChain, dCont, dBreak, dDrop, dAttr, one, gdName, gdTup, gdCons, gdNil, bodyO, List.append_nil, List.length_cons, List.length_nil, List.getElem?_cons_zero, List.getElem?_cons_succ, List.set_cons_zero, List.set_cons_succ, Option.some.injEq, D.bl.injEq, exists_eq_left', exists_eq_left, true_and, Nat.reduceAdd, Nat.zero_add, if_true, if_false, Bool.false_eq_true, Bool.not_true, Bool.not_false, reduceCtorEq, xi_cmp_int, xi_add_int, xi_sub_int, xi_mul_int, xi_mod_int, xi_div_int, xi_pow_int, xi_int_int, xi_int_bl, xi_abs_int, xi_neg_int]
  unfold dLc diEnum2
  simp only [dSeq, dIfS, dTst, dCall, dOp, dUn, dVar, dC, dRet, dRetN, dNext, dAndV, dOrV, dNotV, dAnd, dOr, dNot, dIf, dB, dTup, aCons, aNil, dSet, dChain, dCont, dBreak, dDrop, dAttr, one, gdName, gdTup, gdCons, gdNil, bodyO, List.append_nil, List.length_cons, List.length_nil, List.getElem?_cons_zero, List.getElem?_cons_succ, List.set_cons_zero, List.set_cons_succ, Option.some.injEq, D.bl.injEq, exists_eq_left', exists_eq_left, true_and, Nat.reduceAdd, Nat.zero_add, if_true, if_false, Bool.false_eq_true, Bool.not_true, Bool.not_false, reduceCtorEq, xi_cmp_int, xi_add_int, xi_sub_int, xi_mul_int, xi_mod_int, xi_div_int, xi_pow_int, xi_int_int, xi_int_bl, xi_abs_int, xi_neg_int]
  refine lc_list (fun z => .bl (match z with | .tup [.int i, x] => !inL x (xs.take i.toNat) | _ => false)) trivial _ [] (by rw [enumD_length]; have : sizeLine = 2 ^ 24 := rfl; simp; omega) (fun z hz R r => ?_) ?_
  · obtain ⟨i, x, rfl, hx⟩ := enumD_at xs 0 z hz
    simp only [dSeq, dIfS, dTst, dCall, dOp, dUn, dVar, dC, dRet, dRetN, dNext, dAndV, dOrV, dNotV, dAnd, dOr, dNot, dIf, dB, dTup, aCons, aNil, dSet, dChain, dCont, dBreak, dDrop, dAttr, one, gdName, gdTup, gdCons, gdNil, bodyO, List.append_nil, List.length_cons, List.length_nil, List.getElem?_cons_zero, List.getElem?_cons_succ, List.set_cons_zero, List.set_cons_succ, Option.some.injEq, D.bl.injEq, exists_eq_left', exists_eq_left, true_and, Nat.reduceAdd, Nat.zero_add, if_true, if_false, Bool.false_eq_true, Bool.not_true, Bool.not_false, reduceCtorEq, xi_cmp_int, xi_add_int, xi_sub_int, xi_mul_int, xi_mod_int, xi_div_int, xi_pow_int, xi_int_int, xi_int_bl, xi_abs_int, xi_neg_int, wipeD, dSl, oNone, oSome, slR, lsD, newL]
    have hi : i < xs.length := (List.getElem?_eq_some_iff.mp hx).1
    rw [cut_to (by omega)]
    simp only [Nat.zero_add, Int.toNat_natCast] at r
    exact ⟨_, rfl, (h2 x (List.mem_of_getElem? hx)).ok (by omega), (Pl.lst fun o ho => h2 o (List.mem_of_mem_take ho)).ok (n := 9) (by omega), r⟩
  · simp only [newL, dSeq, dIfS, dTst, dCall, dOp, dUn, dVar, dC, dRet, dRetN, dNext, dAndV, dOrV, dNotV, dAnd, dOr, dNot, dIf, dB, dTup, aCons, aNil, dSet, dChain, dCont, dBreak, dDrop, dAttr, one, gdName, gdTup, gdCons, gdNil, bodyO, List.append_nil, List.length_cons, List.length_nil, List.getElem?_cons_zero, List.getElem?_cons_succ, List.set_cons_zero, List.set_cons_succ, Option.some.injEq, D.bl.injEq, exists_eq_left', exists_eq_left, true_and, Nat.reduceAdd, Nat.zero_add, if_true, if_false, Bool.false_eq_true, Bool.not_true, Bool.not_false, reduceCtorEq, xi_cmp_int, xi_add_int, xi_sub_int, xi_mul_int, xi_mod_int, xi_div_int, xi_pow_int, xi_int_int, xi_int_bl, xi_abs_int, xi_neg_int, List.nil_append]
    exact all_map (Fz.same p)
def LET : Str := "abcdefghijklmnopqrstuvwxyz"
def sgn (a : Str) : Bool := !(Builtin.Str.occurrences LET a 0 LET.length 1).isEmpty
def WRD : List Str := ["isle", "wild", "mode", "must", "move", "bar", "wish"]
def isNameE : D → Bool
  | .str z => decide (1 ≤ z.length) && (decide (z.length ≤ 8) && (!decide (z ∈ WRD) && z.cps.toList.all fun c => sgn ⟨#[c]⟩))
  | _ => false
theorem str_of {e : D} (h : isE "str" e = true) : ∃ z, e = .str z := by
  cases e <;> first
    | exact ⟨_, rfl⟩
    | (exfalso; revert h; simp [isE])
theorem name_str {e : D} (h : isNameE e = true) : ∃ z, e = .str z ∧ 1 ≤ z.length ∧ z.length ≤ 8 := by
  cases e with
  | str z =>
    simp only [isNameE, Bool.and_eq_true, decide_eq_true_eq] at h
    exact ⟨z, rfl, h.1, h.2.1⟩
  | _ => cases h
theorem not_name {e : D} (h : isE "str" e = false) : isNameE e = false := by
  cases e <;> first
    | rfl
    | (exfalso; revert h; simp [isE])
theorem wrd_ok : ∀ z, z ∈ WRD → PyData.strOk z = true := by
  intro z hz
  simp only [WRD, List.mem_cons, List.not_mem_nil, or_false] at hz
  rcases hz with rfl | rfl | rfl | rfl | rfl | rfl | rfl <;> decide +kernel
theorem in_strs {z : Str} {zs : List Str} {S : Sto} {neg : Bool} {Q : D → Sto → Prop} (hz : PyData.strOk z = true) (hzs : ∀ y, y ∈ zs → PyData.strOk y = true) (q : Q (.bl (if neg then !decide (z ∈ zs) else decide (z ∈ zs))) S) : inR neg (.str z) (.tup (zs.map .str)) S Q :=
  ⟨_, rfl, okD_str hz, (Pl.lst fun o ho => by obtain ⟨y, hy, rfl⟩ := List.mem_map.mp ho; exact Pl.str (hzs y hy)).ok (n := 1) (by omega), by rw [inL_str]; exact q⟩
theorem vc_is_name (ds S P PE) (hl : ds.length = 1) (h : Φtw isNameE ds S P PE) : t_is_name K a PE (bodyO P) (startD N_is_name ds) S := by
  obtain ⟨d, e, N, n, rfl, v, w, p⟩ := h
  simp only [t_is_name, st_is_name, dSeq, dIfS, dTst, dCall, dOp, dUn, dVar, dC, dRet, dRetN, dNext, dAndV, dOrV, dNotV, dAnd, dOr, dNot, dIf, dB, dTup, aCons, aNil, dSet, dChain, dCont, dBreak, dDrop, dAttr, one, gdName, gdTup, gdCons, gdNil, bodyO, List.append_nil, List.length_cons, List.length_nil, List.getElem?_cons_zero, List.getElem?_cons_succ, List.set_cons_zero, List.set_cons_succ, Option.some.injEq, D.bl.injEq, exists_eq_left', exists_eq_left, true_and, Nat.reduceAdd, Nat.zero_add, if_true, if_false, Bool.false_eq_true, Bool.not_true, Bool.not_false, reduceCtorEq, xi_cmp_int, xi_add_int, xi_sub_int, xi_mul_int, xi_mod_int, xi_div_int, xi_pow_int, xi_int_int, xi_int_bl, xi_abs_int, xi_neg_int]
  refine isi_one (by simp) v ⟨_, rfl, ?_⟩
  cases h1 : isE "str" e
  · rw [not_name h1] at p
    simpa using Fz.same p
  · obtain ⟨z, rfl⟩ := str_of h1
    obtain ⟨rfl, hz⟩ := v
    obtain ⟨_, hl2⟩ := wf_str w
    simp only [isNameE] at p
    simp only [dSeq, dIfS, dTst, dCall, dOp, dUn, dVar, dC, dRet, dRetN, dNext, dAndV, dOrV, dNotV, dAnd, dOr, dNot, dIf, dB, dTup, aCons, aNil, dSet, dChain, dCont, dBreak, dDrop, dAttr, one, gdName, gdTup, gdCons, gdNil, bodyO, List.append_nil, List.length_cons, List.length_nil, List.getElem?_cons_zero, List.getElem?_cons_succ, List.set_cons_zero, List.set_cons_succ, Option.some.injEq, D.bl.injEq, exists_eq_left', exists_eq_left, true_and, Nat.reduceAdd, Nat.zero_add, if_true, if_false, Bool.false_eq_true, Bool.not_true, Bool.not_false, reduceCtorEq, xi_cmp_int, xi_add_int, xi_sub_int, xi_mul_int, xi_mod_int, xi_div_int, xi_pow_int, xi_int_int, xi_int_bl, xi_abs_int, xi_neg_int, lenR, leR, Bool.not_true, Bool.false_eq_true, if_false]
    rw [show decide ((1 : Int) ≤ (z.length : Int)) = decide (1 ≤ z.length) from decide_eq_decide.mpr (by omega), show decide ((z.length : Int) ≤ 8) = decide (z.length ≤ 8) from decide_eq_decide.mpr (by omega)]
    refine ⟨by have : sizeLine = 2 ^ 24 := rfl; omega, ?_⟩
    cases c1 : decide (1 ≤ z.length)
    · rw [c1] at p; rw [if_neg (by decide)]; exact Fz.same p
    cases c2 : decide (z.length ≤ 8)
    · rw [c1, c2] at p; rw [if_pos rfl, if_pos (by decide)]; exact Fz.same p
    rw [c1, c2] at p
    rw [if_pos rfl, if_neg (by decide)]
    refine in_strs (zs := WRD) hz wrd_ok ⟨_, rfl, ?_⟩
    cases c3 : decide (z ∈ WRD)
    · rw [c3] at p
      simp only [Bool.false_eq_true, if_false]
      unfold dLc diSeq
      simp only [dSeq, dIfS, dTst, dCall, dOp, dUn, dVar, dC, dRet, dRetN, dNext, dAndV, dOrV, dNotV, dAnd, dOr, dNot, dIf, dB, dTup, aCons, aNil, dSet, dChain, dCont, dBreak, dDrop, dAttr, one, gdName, gdTup, gdCons, gdNil, bodyO, List.append_nil, List.length_cons, List.length_nil, List.getElem?_cons_zero, List.getElem?_cons_succ, List.set_cons_zero, List.set_cons_succ, Option.some.injEq, D.bl.injEq, exists_eq_left', exists_eq_left, true_and, Nat.reduceAdd, Nat.zero_add, if_true, if_false, Bool.false_eq_true, Bool.not_true, Bool.not_false, reduceCtorEq, xi_cmp_int, xi_add_int, xi_sub_int, xi_mul_int, xi_mod_int, xi_div_int, xi_pow_int, xi_int_int, xi_int_bl, xi_abs_int, xi_neg_int, walkD, wipeD]
      refine lc_list (fun x => .bl (match x with | .str y => sgn y | _ => false)) trivial _ [] (by have := of_decide_eq_true c2; have h5 : sizeLine = 2 ^ 24 := rfl; have h6 : z.cps.size = z.length := rfl; simp only [Dl.signs, List.length_map, Array.length_toList, List.length_nil]; omega) (fun x hx R r => ?_) ?_
      · obtain ⟨c, _, rfl⟩ := List.mem_map.mp hx
        simp only [dSeq, dIfS, dTst, dCall, dOp, dUn, dVar, dC, dRet, dRetN, dNext, dAndV, dOrV, dNotV, dAnd, dOr, dNot, dIf, dB, dTup, aCons, aNil, dSet, dChain, dCont, dBreak, dDrop, dAttr, one, gdName, gdTup, gdCons, gdNil, bodyO, List.append_nil, List.length_cons, List.length_nil, List.getElem?_cons_zero, List.getElem?_cons_succ, List.set_cons_zero, List.set_cons_succ, Option.some.injEq, D.bl.injEq, exists_eq_left', exists_eq_left, true_and, Nat.reduceAdd, Nat.zero_add, if_true, if_false, Bool.false_eq_true, Bool.not_true, Bool.not_false, reduceCtorEq, xi_cmp_int, xi_add_int, xi_sub_int, xi_mul_int, xi_mod_int, xi_div_int, xi_pow_int, xi_int_int, xi_int_bl, xi_abs_int, xi_neg_int, inStrR]
        exact r
      · simp only [newL, dSeq, dIfS, dTst, dCall, dOp, dUn, dVar, dC, dRet, dRetN, dNext, dAndV, dOrV, dNotV, dAnd, dOr, dNot, dIf, dB, dTup, aCons, aNil, dSet, dChain, dCont, dBreak, dDrop, dAttr, one, gdName, gdTup, gdCons, gdNil, bodyO, List.append_nil, List.length_cons, List.length_nil, List.getElem?_cons_zero, List.getElem?_cons_succ, List.set_cons_zero, List.set_cons_succ, Option.some.injEq, D.bl.injEq, exists_eq_left', exists_eq_left, true_and, Nat.reduceAdd, Nat.zero_add, if_true, if_false, Bool.false_eq_true, Bool.not_true, Bool.not_false, reduceCtorEq, xi_cmp_int, xi_add_int, xi_sub_int, xi_mul_int, xi_mod_int, xi_div_int, xi_pow_int, xi_int_int, xi_int_bl, xi_abs_int, xi_neg_int, List.nil_append]
        refine all_map (Fz.same ?_)
        rw [show (Dl.signs z).all (fun x => match x with | .str y => sgn y | _ => false) = z.cps.toList.all fun c => sgn ⟨#[c]⟩ by unfold Dl.signs; rw [List.all_map]; rfl]
        exact p
    · rw [c3] at p
      simp only [if_true, Bool.false_eq_true, if_false]
      exact Fz.same p
/-- rows of a size -/
theorem row_kids {e : D} {lo hi : Int} (h : rowE e lo hi = true) : ∃ es, kidE e = some es ∧ lo ≤ (es.length : Int) ∧ (es.length : Int) ≤ hi := by
  unfold rowE at h
  cases hk : kidE e with
  | none => rw [hk] at h; cases h
  | some es => rw [hk] at h; simp only [Bool.and_eq_true, decide_eq_true_eq] at h; exact ⟨es, rfl, h⟩
theorem three {es : List D} (h1 : (3 : Int) ≤ es.length) (h2 : (es.length : Int) ≤ 3) : ∃ a b c, es = [a, b, c] := by
  match es, h1, h2 with
  | [a, b, c], _, _ => exact ⟨a, b, c, rfl⟩
  | [], h1, _ => simp at h1
  | [_], h1, _ => simp at h1
  | [_, _], h1, _ => simp at h1
  | _ :: _ :: _ :: _ :: _, _, h2 => simp at h2; omega
theorem four {es : List D} (h1 : (4 : Int) ≤ es.length) (h2 : (es.length : Int) ≤ 4) : ∃ a b c d, es = [a, b, c, d] := by
  match es, h1, h2 with
  | [a, b, c, d], _, _ => exact ⟨a, b, c, d, rfl⟩
  | [], h1, _ => simp at h1
  | [_], h1, _ => simp at h1
  | [_, _], h1, _ => simp at h1
  | [_, _, _], h1, _ => simp at h1
  | _ :: _ :: _ :: _ :: _ :: _, _, h2 => simp at h2; omega
def modeE (e : D) : Bool := rowE e 3 3 && match kidE e with
  | some [a, b, c] => isNameE a && (withinE b (-1000000) 1000000 && isE "bool" c)
  | _ => false
theorem vc_is_mode (ds S P PE) (hl : ds.length = 1) (h : Φtw modeE ds S P PE) : t_is_mode K a (Φt2 rowE) (Φtw isNameE) (Φt2 withinE) PE (bodyO P) (startD N_is_mode ds) S := by
  obtain ⟨d, e, N, n, rfl, v, w, p⟩ := h
  simp only [t_is_mode, st_is_mode, dSeq, dIfS, dTst, dCall, dOp, dUn, dVar, dC, dRet, dRetN, dNext, dAndV, dOrV, dNotV, dAnd, dOr, dNot, dIf, dB, dTup, aCons, aNil, dSet, dChain, dCont, dBreak, dDrop, dAttr, one, gdName, gdTup, gdCons, gdNil, bodyO, List.append_nil, List.length_cons, List.length_nil, List.getElem?_cons_zero, List.getElem?_cons_succ, List.set_cons_zero, List.set_cons_succ, Option.some.injEq, D.bl.injEq, exists_eq_left', exists_eq_left, true_and, Nat.reduceAdd, Nat.zero_add, if_true, if_false, Bool.false_eq_true, Bool.not_true, Bool.not_false, reduceCtorEq, xi_cmp_int, xi_add_int, xi_sub_int, xi_mul_int, xi_mod_int, xi_div_int, xi_pow_int, xi_int_int, xi_int_bl, xi_abs_int, xi_neg_int]
  refine ⟨_, e, N, 3, 3, rfl, v, ?_⟩
  unfold modeE at p
  cases h1 : rowE e 3 3
  · rw [h1] at p
    simpa using Fz.same p
  · obtain ⟨es, hk, l1, l2⟩ := row_kids h1
    obtain ⟨x, y, z, rfl⟩ := three l1 l2
    rw [h1, hk] at p
    cases n with
    | zero => cases w
    | succ n =>
    obtain ⟨_, wk⟩ := wf_kid w hk
    simp only [dSeq, dIfS, dTst, dCall, dOp, dUn, dVar, dC, dRet, dRetN, dNext, dAndV, dOrV, dNotV, dAnd, dOr, dNot, dIf, dB, dTup, aCons, aNil, dSet, dChain, dCont, dBreak, dDrop, dAttr, one, gdName, gdTup, gdCons, gdNil, bodyO, List.append_nil, List.length_cons, List.length_nil, List.getElem?_cons_zero, List.getElem?_cons_succ, List.set_cons_zero, List.set_cons_succ, Option.some.injEq, D.bl.injEq, exists_eq_left', exists_eq_left, true_and, Nat.reduceAdd, Nat.zero_add, if_true, if_false, Bool.false_eq_true, Bool.not_true, Bool.not_false, reduceCtorEq, xi_cmp_int, xi_add_int, xi_sub_int, xi_mul_int, xi_mod_int, xi_div_int, xi_pow_int, xi_int_int, xi_int_bl, xi_abs_int, xi_neg_int, Bool.true_and, Bool.not_true, Bool.false_eq_true, if_false] at p ⊢
    refine v.ix hk (c := x) rfl fun x' vx => ⟨_, x, N, n, rfl, vx, wk x (by simp), ?_⟩
    refine ⟨_, rfl, ?_⟩
    cases c1 : isNameE x
    · rw [c1] at p; simpa using Fz.same p
    rw [c1] at p
    simp only [Bool.true_and, Bool.not_true, Bool.false_eq_true, if_false] at p ⊢
    refine v.ix hk (c := y) rfl fun y' vy => ⟨_, y, N, _, _, rfl, vy, _, rfl, ?_⟩
    cases c2 : withinE y (-1000000) 1000000
    · rw [c2] at p; simpa using Fz.same p
    rw [c2] at p
    simp only [Bool.true_and, Bool.not_true, Bool.false_eq_true, if_false] at p ⊢
    exact v.ix hk (c := z) rfl fun z' vz => isi_one (by simp) vz (Fz.same p)
def at0 (e : D) : D := (kids e).getD 0 .non
theorem mode_kids {e : D} (h : modeE e = true) : ∃ x y z, kidE e = some [x, y, z] ∧ isNameE x = true ∧ withinE y (-1000000) 1000000 = true ∧ isE "bool" z = true := by
  unfold modeE at h
  obtain ⟨h1, h2⟩ := Bool.and_eq_true_iff.mp h
  obtain ⟨es, hk, l1, l2⟩ := row_kids h1
  obtain ⟨x, y, z, rfl⟩ := three l1 l2
  rw [hk] at h2
  simp only [Bool.and_eq_true] at h2
  exact ⟨x, y, z, hk, h2.1, h2.2.1, h2.2.2⟩
def modesE (z : D) : Bool := rowE z 1 5 && ((kids z).all modeE && unlike ((kids z).map at0))
def isleE (e : D) : Bool := rowE e 4 4 && match kidE e with
  | some [x, y, z, _] => isNameE x && (isE "bool" y && modesE z)
  | _ => false
theorem at0_kid {e x : D} {r : List D} (h : kidE e = some (x :: r)) : at0 e = x := by unfold at0 kids; rw [h]; rfl
theorem name_atom {x : D} (h : isNameE x = true) : atomE x = true := by obtain ⟨z, rfl, _⟩ := name_str h; rfl
/-- the first thing of each -/
theorem lc_at0 {N : Addr → Prop} {stb : Sto → Prop} {i : Nat} {ρ : DEnv} {Q : List D → Sto → Prop} {S : Sto} (hi : i < ρ.length) (hs : stb S) {xs es : List D} (w : Vws N S xs es) (hl : es.length ≤ 1000) (h : ∀ o, o ∈ es → ∃ x r, kidE o = some (x :: r) ∧ atomE x = true) (q : Q (es.map at0) S) :
    lcD stb (gdName i) dYes (dOp ixR (dVar i) (dC (.int 0))) ρ Q xs [] S := by
  refine lc_map at0 hs w (by have : sizeLine = 2 ^ 24 := rfl; omega) (fun x o vo ho R r => ?_) q
  obtain ⟨y, t, hk, ha⟩ := h o ho
  simp only [gdName, dOp, dVar, dC]
  rw [List.getElem?_set_self hi]
  refine ⟨x, rfl, ?_⟩
  rw [at0_kid hk] at r
  exact vo.ix hk (c := y) atI0 fun y' vy => by rw [(atom_same vy ha).1]; exact r
theorem vc_is_isle (ds S P PE) (hl : ds.length = 1) (h : Φtw isleE ds S P PE) : t_is_isle K a (Φt2 rowE) (Φtw isNameE) (Φtw modeE) Φunlike PE (bodyO P) (startD N_is_isle ds) S := by
  obtain ⟨d, e, N, n, rfl, v, w, p⟩ := h
  simp only [t_is_isle, st_is_isle, dSeq, dIfS, dTst, dCall, dOp, dUn, dVar, dC, dRet, dRetN, dNext, dAndV, dOrV, dNotV, dAnd, dOr, dNot, dIf, dB, dTup, aCons, aNil, dSet, dChain, dCont, dBreak, dDrop, dAttr, one, gdName, gdTup, gdCons, gdNil, bodyO, List.append_nil, List.length_cons, List.length_nil, List.getElem?_cons_zero, List.getElem?_cons_succ, List.set_cons_zero, List.set_cons_succ, Option.some.injEq, D.bl.injEq, exists_eq_left', exists_eq_left, true_and, Nat.reduceAdd, Nat.zero_add, if_true, if_false, Bool.false_eq_true, Bool.not_true, Bool.not_false, reduceCtorEq, xi_cmp_int, xi_add_int, xi_sub_int, xi_mul_int, xi_mod_int, xi_div_int, xi_pow_int, xi_int_int, xi_int_bl, xi_abs_int, xi_neg_int]
  refine ⟨_, e, N, 4, 4, rfl, v, _, rfl, ?_⟩
  unfold isleE at p
  cases h1 : rowE e 4 4
  · rw [h1] at p
    simpa using Fz.same p
  · obtain ⟨es, hk, l1, l2⟩ := row_kids h1
    obtain ⟨x, y, z, m, rfl⟩ := four l1 l2
    rw [h1, hk] at p
    cases n with
    | zero => cases w
    | succ n =>
    obtain ⟨_, wk⟩ := wf_kid w hk
    simp only [dSeq, dIfS, dTst, dCall, dOp, dUn, dVar, dC, dRet, dRetN, dNext, dAndV, dOrV, dNotV, dAnd, dOr, dNot, dIf, dB, dTup, aCons, aNil, dSet, dChain, dCont, dBreak, dDrop, dAttr, one, gdName, gdTup, gdCons, gdNil, bodyO, List.append_nil, List.length_cons, List.length_nil, List.getElem?_cons_zero, List.getElem?_cons_succ, List.set_cons_zero, List.set_cons_succ, Option.some.injEq, D.bl.injEq, exists_eq_left', exists_eq_left, true_and, Nat.reduceAdd, Nat.zero_add, if_true, if_false, Bool.false_eq_true, Bool.not_true, Bool.not_false, reduceCtorEq, xi_cmp_int, xi_add_int, xi_sub_int, xi_mul_int, xi_mod_int, xi_div_int, xi_pow_int, xi_int_int, xi_int_bl, xi_abs_int, xi_neg_int, Bool.true_and, Bool.not_true, Bool.false_eq_true, if_false] at p ⊢
    refine v.ix hk (c := x) rfl fun x' vx => ⟨_, x, N, n, rfl, vx, wk x (by simp), ?_⟩
    refine ⟨_, rfl, ?_⟩
    cases c1 : isNameE x
    · rw [c1] at p; simpa using Fz.same p
    rw [c1] at p
    simp only [Bool.true_and, Bool.not_true, Bool.false_eq_true, if_false] at p ⊢
    refine v.ix hk (c := y) rfl fun y' vy => isi_one (by simp) vy ⟨_, rfl, ?_⟩
    cases c2 : isE "bool" y
    · rw [c2] at p; simpa using Fz.same p
    rw [c2] at p
    simp only [Bool.true_and, Bool.not_true, Bool.false_eq_true, if_false] at p ⊢
    refine v.ix hk (c := z) rfl fun z' vz => ⟨_, z, N, _, _, rfl, vz, _, rfl, ?_⟩
    unfold modesE at p
    cases c3 : rowE z 1 5
    · rw [c3] at p; simpa using Fz.same p
    obtain ⟨ms, hkz, m1, m2⟩ := row_kids c3
    have wz := wk z (by simp)
    cases n with
    | zero => cases wz
    | succ n =>
    obtain ⟨_, wm⟩ := wf_kid wz hkz
    rw [c3, show kids z = ms by unfold kids; rw [hkz]; rfl] at p
    simp only [Bool.true_and, Bool.not_true, Bool.false_eq_true, if_false] at p ⊢
    unfold dLc diSeq
    simp only [dSeq, dIfS, dTst, dCall, dOp, dUn, dVar, dC, dRet, dRetN, dNext, dAndV, dOrV, dNotV, dAnd, dOr, dNot, dIf, dB, dTup, aCons, aNil, dSet, dChain, dCont, dBreak, dDrop, dAttr, one, gdName, gdTup, gdCons, gdNil, bodyO, List.append_nil, List.length_cons, List.length_nil, List.getElem?_cons_zero, List.getElem?_cons_succ, List.set_cons_zero, List.set_cons_succ, Option.some.injEq, D.bl.injEq, exists_eq_left', exists_eq_left, true_and, Nat.reduceAdd, Nat.zero_add, if_true, if_false, Bool.false_eq_true, Bool.not_true, Bool.not_false, reduceCtorEq, xi_cmp_int, xi_add_int, xi_sub_int, xi_mul_int, xi_mod_int, xi_div_int, xi_pow_int, xi_int_int, xi_int_bl, xi_abs_int, xi_neg_int, wipeD]
    refine v.ix hk (c := z) rfl fun z1 vz1 => vz1.walk hkz fun xs stb ws hs => lc_map (fun o => .bl (modeE o)) hs ws (by have : sizeLine = 2 ^ 24 := rfl; omega) (fun x o vo ho R r => ?_) ?_
    · simp only [dSeq, dIfS, dTst, dCall, dOp, dUn, dVar, dC, dRet, dRetN, dNext, dAndV, dOrV, dNotV, dAnd, dOr, dNot, dIf, dB, dTup, aCons, aNil, dSet, dChain, dCont, dBreak, dDrop, dAttr, one, gdName, gdTup, gdCons, gdNil, bodyO, List.append_nil, List.length_cons, List.length_nil, List.getElem?_cons_zero, List.getElem?_cons_succ, List.set_cons_zero, List.set_cons_succ, Option.some.injEq, D.bl.injEq, exists_eq_left', exists_eq_left, true_and, Nat.reduceAdd, Nat.zero_add, if_true, if_false, Bool.false_eq_true, Bool.not_true, Bool.not_false, reduceCtorEq, xi_cmp_int, xi_add_int, xi_sub_int, xi_mul_int, xi_mod_int, xi_div_int, xi_pow_int, xi_int_int, xi_int_bl, xi_abs_int, xi_neg_int]
      exact ⟨_, o, N, n, rfl, vo, wm o ho, r⟩
    simp only [newL, Bool.false_eq_true, if_false]
    refine all_map ⟨_, rfl, ?_⟩
    cases c4 : ms.all modeE
    · rw [c4] at p; simpa using Fz.same p
    rw [c4] at p
    simp only [Bool.true_and, Bool.not_true, Bool.false_eq_true, if_false] at p ⊢
    have hm : ∀ o, o ∈ ms → ∃ x r, kidE o = some (x :: r) ∧ atomE x = true := fun o ho => by
      obtain ⟨x, y, z, h1, h2, _⟩ := mode_kids (List.all_eq_true.mp c4 o ho)
      exact ⟨x, _, h1, name_atom h2⟩
    refine v.ix hk (c := z) rfl fun z1 vz1 => vz1.walk hkz fun xs stb ws hs => lc_at0 (by simp) hs ws (by omega) hm ?_
    refine ⟨_, rfl, by simp; omega, fun o ho => ?_, Fz.same p⟩
    obtain ⟨m, hm, rfl⟩ := List.mem_map.mp ho
    obtain ⟨x, y, z, h1, h2, _⟩ := mode_kids (List.all_eq_true.mp c4 m hm)
    rw [at0_kid h1]
    obtain ⟨s, rfl, _⟩ := name_str h2
    have wx := wm m hm
    cases n with
    | zero => cases wx
    | succ n => exact (Pl.str (wf_str ((wf_kid wx h1).2 _ (by simp))).1).mono (by omega)
end
end K01
/-! K01B: moves that are none, the modes of isles, isles, yards. -/
namespace Dl
open PySem PySem.Spec PyProof.Rows L2
theorem putD_new {acc : List (Key × D)} {k : Key} {v : D} (h : k ∉ acc.map (·.1)) : putD acc k v = acc ++ [(k, v)] := by
  unfold putD
  rw [if_neg]
  intro z
  obtain ⟨p, hp, e⟩ := List.any_eq_true.mp z
  exact h (List.mem_map.mpr ⟨p, hp, of_decide_eq_true e⟩)
/-- a dict comprehension that changes nothing, its keys unlike -/
theorem dc_map {N : Addr → Prop} {stb : Sto → Prop} {g : TDG} {tk tv : TDE} {ρ : DEnv} {Q : List (Key × D) → Sto → Prop} {S : Sto} (kf : D → Key) (vf : D → D) (hs : stb S) : ∀ {xs es : List D} (acc : List (Key × D)), Vws N S xs es → acc.length + es.length ≤ 1000 →
    (acc.map (·.1) ++ es.map kf).Nodup → (∀ x e, Vw N S x e → e ∈ es → ∀ R : D → D → Sto → Prop, R (kD (kf e)) (vf e) S → g x ρ S fun ρ2 S2 => tk ρ2 S2 fun y S4 => tv ρ2 S4 fun z S5 => R y z S5) →
    Q (acc ++ es.map fun e => (kf e, vf e)) S → dcD stb g dYes tk tv ρ Q xs acc S
  | _, [], acc, w, hl, nd, h, q => by
    rw [show _ = [] from w]
    exact ⟨hs, by simpa using q⟩
  | _, e :: es, acc, ⟨d, r, hd, v, w⟩, hl, nd, h, q => by
    rw [hd]
    refine ⟨hs, ?_⟩
    simp only [dYes, if_true]
    have nk : kf e ∉ acc.map (·.1) := fun m => (List.nodup_append.mp nd).2.2 _ m (kf e) (by simp) rfl
    refine h d e v (by simp) _ ⟨kf e, rfl, by have : sizeLine = 2 ^ 24 := rfl; simp at hl; omega, ?_⟩
    rw [putD_new nk]
    refine dc_map kf vf hs (acc ++ [(kf e, vf e)]) w (by simp at hl ⊢; omega) (by simpa using nd) (fun x e' v' m => h x e' v' (List.mem_cons_of_mem _ m)) (by simpa using q)
/-- a thing of a class is written: trees stay -/
theorem Vw.ins {N : Addr → Prop} {S : Sto} {d e : D} {p : Addr} {C : Addr} {fs : List (Str × D)} {o : O} (v : Vw N S d e) (h : S p = some (.ins C fs)) : Vw N (put S p o) d e :=
  v.mono fun q xs n e => ⟨n, by rw [put_ne fun z => by rw [z, h] at e; cases e]; exact e⟩
end Dl
namespace K01
open PySem PySem.Spec PyProof.Rows L2 Dl LamX NdefX
def no : Phi := fun _ _ _ _ => False
/-- an empty row, or no row -/
def Mv0 (e : D) : Prop := ∀ es, kidE e = some es → es = []
def Φmv0 : Phi := fun ds S P _ => ∃ d e N o m, ds = [d, o, m] ∧ Vw N S d e ∧ Mv0 e ∧ P (.bl (lisE e)) S
section
variable {K : PySem.W.Frag} {a : Ad}
theorem unlike_nil : unlike [] = true := rfl
theorem vc_are_moves0 (ds S P PE) (hl : ds.length = 3) (h : Φmv0 ds S P PE) : t_are_moves K a (Φt2 rowE) no Φunlike PE (bodyO P) (startD N_are_moves ds) S := by
  obtain ⟨d, e, N, o, m, rfl, v, w, p⟩ := h
  simp only [t_are_moves, st_are_moves, dSeq, dIfS, dTst, dCall, dOp, dUn, dVar, dC, dRet, dRetN, dNext, dAndV, dOrV, dNotV, dAnd, dOr, dNot, dIf, dB, dTup, aCons, aNil, dSet, dChain, dCont, dBreak, dDrop, dAttr, one, gdName, gdTup, gdCons, gdNil, bodyO, List.append_nil, List.length_cons, List.length_nil, List.getElem?_cons_zero, List.getElem?_cons_succ, List.set_cons_zero, List.set_cons_succ, Option.some.injEq, D.bl.injEq, exists_eq_left', exists_eq_left, true_and, Nat.reduceAdd, Nat.zero_add, if_true, if_false, Bool.false_eq_true, Bool.not_true, Bool.not_false, reduceCtorEq, xi_cmp_int, xi_add_int, xi_sub_int, xi_mul_int, xi_mod_int, xi_div_int, xi_pow_int, xi_int_int, xi_int_bl, xi_abs_int, xi_neg_int]
  refine ⟨_, e, N, 0, 8, rfl, v, _, rfl, ?_⟩
  unfold lisE at p
  cases hk : kidE e with
  | none =>
    rw [hk] at p
    have h1 : rowE e 0 8 = false := by unfold rowE; rw [hk]
    rw [h1]
    simpa using Fz.same p
  | some es =>
    obtain rfl := w es hk
    rw [hk] at p
    have h1 : rowE e 0 8 = true := by unfold rowE; rw [hk]; rfl
    rw [h1]
    simp only [Bool.not_true, Bool.false_eq_true, if_false]
    unfold dLc diSeq
    simp only [dSeq, dIfS, dTst, dCall, dOp, dUn, dVar, dC, dRet, dRetN, dNext, dAndV, dOrV, dNotV, dAnd, dOr, dNot, dIf, dB, dTup, aCons, aNil, dSet, dChain, dCont, dBreak, dDrop, dAttr, one, gdName, gdTup, gdCons, gdNil, bodyO, List.append_nil, List.length_cons, List.length_nil, List.getElem?_cons_zero, List.getElem?_cons_succ, List.set_cons_zero, List.set_cons_succ, Option.some.injEq, D.bl.injEq, exists_eq_left', exists_eq_left, true_and, Nat.reduceAdd, Nat.zero_add, if_true, if_false, Bool.false_eq_true, Bool.not_true, Bool.not_false, reduceCtorEq, xi_cmp_int, xi_add_int, xi_sub_int, xi_mul_int, xi_mod_int, xi_div_int, xi_pow_int, xi_int_int, xi_int_bl, xi_abs_int, xi_neg_int, wipeD]
    refine v.walk hk fun xs stb ws hs => lc_map (fun _ => .non) hs ws (by simp) (fun x o vo ho R r => by simp at ho) ?_
    simp only [newL, Bool.false_eq_true, if_false, List.map_nil]
    refine all_map (es := []) (f := fun _ => true) ⟨_, rfl, ?_⟩
    simp only [List.all_nil, Bool.not_true, Bool.false_eq_true, if_false]
    refine v.walk hk fun xs stb ws hs => lc_map (fun _ => .non) hs ws (by simp) (fun x o vo ho R r => by simp at ho) ?_
    simp only [newL, Bool.false_eq_true, if_false, List.map_nil, dSeq, dIfS, dTst, dCall, dOp, dUn, dVar, dC, dRet, dRetN, dNext, dAndV, dOrV, dNotV, dAnd, dOr, dNot, dIf, dB, dTup, aCons, aNil, dSet, dChain, dCont, dBreak, dDrop, dAttr, one, gdName, gdTup, gdCons, gdNil, bodyO, List.append_nil, List.length_cons, List.length_nil, List.getElem?_cons_zero, List.getElem?_cons_succ, List.set_cons_zero, List.set_cons_succ, Option.some.injEq, D.bl.injEq, exists_eq_left', exists_eq_left, true_and, Nat.reduceAdd, Nat.zero_add, if_true, if_false, Bool.false_eq_true, Bool.not_true, Bool.not_false, reduceCtorEq, xi_cmp_int, xi_add_int, xi_sub_int, xi_mul_int, xi_mod_int, xi_div_int, xi_pow_int, xi_int_int, xi_int_bl, xi_abs_int, xi_neg_int]
    exact ⟨[], rfl, by simp, fun x hx => by simp at hx, Fz.same p⟩
def keyOf (o : D) : Key := match at0 o with
  | .str z => .inr z
  | _ => .inl 0
def at2 (e : D) : D := (kids e).getD 2 .non
def at3 (e : D) : D := (kids e).getD 3 .non
def valOf (o : D) : D := .lst ((kids (at2 o)).map at0)
def modesD (es : List D) : D := .dic (es.map keyOf) (es.map valOf)
def Φmodes : Phi := fun ds S P _ => ∃ d e N n es, ds = [d] ∧ Vw N S d e ∧ wf n e = true ∧ kidE e = some es ∧ (∀ o, o ∈ es → isleE o = true) ∧ (es.map keyOf).Nodup ∧ P (modesD es) S
theorem isle_kids {e : D} (h : isleE e = true) : ∃ x y z m ms, kidE e = some [x, y, z, m] ∧ isNameE x = true ∧ isE "bool" y = true ∧ kidE z = some ms ∧ 1 ≤ ms.length ∧ ms.length ≤ 5 ∧ (∀ o, o ∈ ms → modeE o = true) ∧ unlike (ms.map at0) = true := by
  unfold isleE at h
  obtain ⟨h1, h2⟩ := Bool.and_eq_true_iff.mp h
  obtain ⟨es, hk, l1, l2⟩ := row_kids h1
  obtain ⟨x, y, z, m, rfl⟩ := four l1 l2
  rw [hk] at h2
  simp only [modesE, Bool.and_eq_true] at h2
  obtain ⟨n1, n2, n3, n4, n5⟩ := h2
  obtain ⟨ms, hkz, m1, m2⟩ := row_kids n3
  rw [show kids z = ms by unfold kids; rw [hkz]; rfl] at n4 n5
  exact ⟨x, y, z, m, ms, hk, n1, n2, hkz, by omega, by omega, fun o ho => List.all_eq_true.mp n4 o ho, n5⟩
theorem atI2 {c1 c2 c3 : D} {r : List D} : atI (c1 :: c2 :: c3 :: r) 2 = some c3 := by
  unfold atI ixN
  rw [if_pos (by omega), if_pos (by simp only [List.length_cons]; omega)]
  rfl
theorem atI3 {c1 c2 c3 c4 : D} {r : List D} : atI (c1 :: c2 :: c3 :: c4 :: r) 3 = some c4 := by
  unfold atI ixN
  rw [if_pos (by omega), if_pos (by simp only [List.length_cons]; omega)]
  rfl
theorem key_at {o x : D} {r : List D} (hk : kidE o = some (x :: r)) (hn : isNameE x = true) : kD (keyOf o) = x := by
  unfold keyOf
  rw [at0_kid hk]
  obtain ⟨z, rfl, _⟩ := name_str hn
  rfl
theorem vc_modes_of (ds S P PE) (hl : ds.length = 1) (h : Φmodes ds S P PE) : t_modes_of K a PE (bodyO P) (startD N_modes_of ds) S := by
  obtain ⟨d, e, N, n, es, rfl, v, w, hk, hi, nd, p⟩ := h
  cases n with
  | zero => cases w
  | succ n =>
  obtain ⟨wl, wk⟩ := wf_kid w hk
  simp only [t_modes_of, st_modes_of, dSeq, dIfS, dTst, dCall, dOp, dUn, dVar, dC, dRet, dRetN, dNext, dAndV, dOrV, dNotV, dAnd, dOr, dNot, dIf, dB, dTup, aCons, aNil, dSet, dChain, dCont, dBreak, dDrop, dAttr, one, gdName, gdTup, gdCons, gdNil, bodyO, List.append_nil, List.length_cons, List.length_nil, List.getElem?_cons_zero, List.getElem?_cons_succ, List.set_cons_zero, List.set_cons_succ, Option.some.injEq, D.bl.injEq, exists_eq_left', exists_eq_left, true_and, Nat.reduceAdd, Nat.zero_add, if_true, if_false, Bool.false_eq_true, Bool.not_true, Bool.not_false, reduceCtorEq, xi_cmp_int, xi_add_int, xi_sub_int, xi_mul_int, xi_mod_int, xi_div_int, xi_pow_int, xi_int_int, xi_int_bl, xi_abs_int, xi_neg_int]
  unfold dDc diSeq
  simp only [dSeq, dIfS, dTst, dCall, dOp, dUn, dVar, dC, dRet, dRetN, dNext, dAndV, dOrV, dNotV, dAnd, dOr, dNot, dIf, dB, dTup, aCons, aNil, dSet, dChain, dCont, dBreak, dDrop, dAttr, one, gdName, gdTup, gdCons, gdNil, bodyO, List.append_nil, List.length_cons, List.length_nil, List.getElem?_cons_zero, List.getElem?_cons_succ, List.set_cons_zero, List.set_cons_succ, Option.some.injEq, D.bl.injEq, exists_eq_left', exists_eq_left, true_and, Nat.reduceAdd, Nat.zero_add, if_true, if_false, Bool.false_eq_true, Bool.not_true, Bool.not_false, reduceCtorEq, xi_cmp_int, xi_add_int, xi_sub_int, xi_mul_int, xi_mod_int, xi_div_int, xi_pow_int, xi_int_int, xi_int_bl, xi_abs_int, xi_neg_int, wipeD]
  refine v.walk hk fun xs stb ws hs => dc_map keyOf valOf hs [] ws (by simpa using wl) (by simpa using nd) (fun x o vo ho R r => ?_) ?_
  · obtain ⟨x1, y1, z1, m1, ms, h1, h2, _, h3, h4, h5, h6, _⟩ := isle_kids (hi o ho)
    simp only [dSeq, dIfS, dTst, dCall, dOp, dUn, dVar, dC, dRet, dRetN, dNext, dAndV, dOrV, dNotV, dAnd, dOr, dNot, dIf, dB, dTup, aCons, aNil, dSet, dChain, dCont, dBreak, dDrop, dAttr, one, gdName, gdTup, gdCons, gdNil, bodyO, List.append_nil, List.length_cons, List.length_nil, List.getElem?_cons_zero, List.getElem?_cons_succ, List.set_cons_zero, List.set_cons_succ, Option.some.injEq, D.bl.injEq, exists_eq_left', exists_eq_left, true_and, Nat.reduceAdd, Nat.zero_add, if_true, if_false, Bool.false_eq_true, Bool.not_true, Bool.not_false, reduceCtorEq, xi_cmp_int, xi_add_int, xi_sub_int, xi_mul_int, xi_mod_int, xi_div_int, xi_pow_int, xi_int_int, xi_int_bl, xi_abs_int, xi_neg_int]
    refine vo.ix h1 (c := x1) rfl fun x' vx => ?_
    rw [(atom_same vx (name_atom h2)).1]
    unfold dLc
    simp only [dSeq, dIfS, dTst, dCall, dOp, dUn, dVar, dC, dRet, dRetN, dNext, dAndV, dOrV, dNotV, dAnd, dOr, dNot, dIf, dB, dTup, aCons, aNil, dSet, dChain, dCont, dBreak, dDrop, dAttr, one, gdName, gdTup, gdCons, gdNil, bodyO, List.append_nil, List.length_cons, List.length_nil, List.getElem?_cons_zero, List.getElem?_cons_succ, List.set_cons_zero, List.set_cons_succ, Option.some.injEq, D.bl.injEq, exists_eq_left', exists_eq_left, true_and, Nat.reduceAdd, Nat.zero_add, if_true, if_false, Bool.false_eq_true, Bool.not_true, Bool.not_false, reduceCtorEq, xi_cmp_int, xi_add_int, xi_sub_int, xi_mul_int, xi_mod_int, xi_div_int, xi_pow_int, xi_int_int, xi_int_bl, xi_abs_int, xi_neg_int, wipeD]
    refine vo.ix h1 (c := z1) rfl fun z' vz => vz.walk h3 fun ys stb2 ws2 hs2 => lc_at0 (by simp) hs2 ws2 (by omega) (fun m hm => ?_) ?_
    · obtain ⟨a1, b1, c1, g1, g2, _⟩ := mode_kids (h6 m hm)
      exact ⟨a1, _, g1, name_atom g2⟩
    · simp only [newL, Bool.false_eq_true, if_false]
      rw [key_at h1 h2] at r
      have : valOf o = .lst (ms.map at0) := by unfold valOf at2 kids; rw [h1]; simp [h3]
      rw [this] at r
      exact r
  · have : modesD es = .dic ((([] : List (Key × D)) ++ es.map fun e => (keyOf e, valOf e)).map (·.1)) ((([] : List (Key × D)) ++ es.map fun e => (keyOf e, valOf e)).map (·.2)) := by unfold modesD; simp
    rw [← this]
    exact Fz.same p
def islesE (e : D) : Bool := rowE e 1 6 && ((kids e).all isleE && (unlike ((kids e).map at0) && (kids e).all fun o => lisE (at3 o)))
/-- no isle of it moves -/
def Still (e : D) : Prop := ∀ es, kidE e = some es → ∀ o, o ∈ es → isleE o = true → Mv0 (at3 o)
def Φisles : Phi := fun ds S P _ => ∃ d e N n, ds = [d] ∧ Vw N S d e ∧ wf n e = true ∧ Still e ∧ P (.bl (islesE e)) S
theorem isle_name {n : Nat} {o : D} (h : isleE o = true) (w : wf n o = true) : ∃ x r z, kidE o = some (x :: r) ∧ isNameE x = true ∧ x = .str z ∧ PyData.strOk z = true ∧ at0 o = .str z ∧ keyOf o = .inr z := by
  obtain ⟨x, y, z, m, ms, h1, h2, _⟩ := isle_kids h
  obtain ⟨s, rfl, _⟩ := name_str h2
  cases n with
  | zero => cases w
  | succ n => exact ⟨_, _, s, h1, h2, rfl, (wf_str ((wf_kid w h1).2 _ (by simp))).1, at0_kid h1, by unfold keyOf; rw [at0_kid h1]⟩
theorem keys_names {n : Nat} : ∀ {es : List D}, (∀ o, o ∈ es → isleE o = true) → (∀ o, o ∈ es → wf n o = true) → ∃ zs : List Str, es.map at0 = zs.map .str ∧ es.map keyOf = zs.map .inr ∧ ∀ z, z ∈ zs → PyData.strOk z = true
  | [], _, _ => ⟨[], rfl, rfl, fun z hz => by cases hz⟩
  | o :: es, h, w => by
    obtain ⟨zs, h1, h2, h3⟩ := keys_names (fun x hx => h x (List.mem_cons_of_mem _ hx)) (fun x hx => w x (List.mem_cons_of_mem _ hx))
    obtain ⟨_, _, z, _, _, _, hz, e1, e2⟩ := isle_name (h o (by simp)) (w o (by simp))
    refine ⟨z :: zs, by simp [h1, e1], by simp [h2, e2], fun y hy => ?_⟩
    rcases List.mem_cons.mp hy with rfl | hy
    · exact hz
    · exact h3 y hy
theorem nodup_inr {zs : List Str} (h : zs.Nodup) : (zs.map (Sum.inr : Str → Key)).Nodup := by
  unfold List.Nodup at *
  rw [List.pairwise_map]
  exact h.imp fun h e => h (Sum.inr.inj e)
theorem vc_are_isles (ds S P PE) (hl : ds.length = 1) (h : Φisles ds S P PE) : t_are_isles K a (Φt2 rowE) (Φtw isleE) Φunlike Φmodes Φmv0 PE (bodyO P) (startD N_are_isles ds) S := by
  obtain ⟨d, e, N, n, rfl, v, w, hst, p⟩ := h
  simp only [t_are_isles, st_are_isles, dSeq, dIfS, dTst, dCall, dOp, dUn, dVar, dC, dRet, dRetN, dNext, dAndV, dOrV, dNotV, dAnd, dOr, dNot, dIf, dB, dTup, aCons, aNil, dSet, dChain, dCont, dBreak, dDrop, dAttr, one, gdName, gdTup, gdCons, gdNil, bodyO, List.append_nil, List.length_cons, List.length_nil, List.getElem?_cons_zero, List.getElem?_cons_succ, List.set_cons_zero, List.set_cons_succ, Option.some.injEq, D.bl.injEq, exists_eq_left', exists_eq_left, true_and, Nat.reduceAdd, Nat.zero_add, if_true, if_false, Bool.false_eq_true, Bool.not_true, Bool.not_false, reduceCtorEq, xi_cmp_int, xi_add_int, xi_sub_int, xi_mul_int, xi_mod_int, xi_div_int, xi_pow_int, xi_int_int, xi_int_bl, xi_abs_int, xi_neg_int]
  refine ⟨_, e, N, 1, 6, rfl, v, _, rfl, ?_⟩
  unfold islesE at p
  cases h1 : rowE e 1 6
  · rw [h1] at p
    simpa using Fz.same p
  · obtain ⟨es, hk, l1, l2⟩ := row_kids h1
    rw [h1, show kids e = es by unfold kids; rw [hk]; rfl] at p
    cases n with
    | zero => cases w
    | succ n =>
    obtain ⟨_, wk⟩ := wf_kid w hk
    simp only [Bool.true_and, Bool.not_true, Bool.false_eq_true, if_false] at p ⊢
    unfold dLc diSeq
    simp only [dSeq, dIfS, dTst, dCall, dOp, dUn, dVar, dC, dRet, dRetN, dNext, dAndV, dOrV, dNotV, dAnd, dOr, dNot, dIf, dB, dTup, aCons, aNil, dSet, dChain, dCont, dBreak, dDrop, dAttr, one, gdName, gdTup, gdCons, gdNil, bodyO, List.append_nil, List.length_cons, List.length_nil, List.getElem?_cons_zero, List.getElem?_cons_succ, List.set_cons_zero, List.set_cons_succ, Option.some.injEq, D.bl.injEq, exists_eq_left', exists_eq_left, true_and, Nat.reduceAdd, Nat.zero_add, if_true, if_false, Bool.false_eq_true, Bool.not_true, Bool.not_false, reduceCtorEq, xi_cmp_int, xi_add_int, xi_sub_int, xi_mul_int, xi_mod_int, xi_div_int, xi_pow_int, xi_int_int, xi_int_bl, xi_abs_int, xi_neg_int, wipeD]
    refine v.walk hk fun xs stb ws hs => lc_map (fun o => .bl (isleE o)) hs ws (by have : sizeLine = 2 ^ 24 := rfl; omega) (fun x o vo ho R r => ?_) ?_
    · simp only [dSeq, dIfS, dTst, dCall, dOp, dUn, dVar, dC, dRet, dRetN, dNext, dAndV, dOrV, dNotV, dAnd, dOr, dNot, dIf, dB, dTup, aCons, aNil, dSet, dChain, dCont, dBreak, dDrop, dAttr, one, gdName, gdTup, gdCons, gdNil, bodyO, List.append_nil, List.length_cons, List.length_nil, List.getElem?_cons_zero, List.getElem?_cons_succ, List.set_cons_zero, List.set_cons_succ, Option.some.injEq, D.bl.injEq, exists_eq_left', exists_eq_left, true_and, Nat.reduceAdd, Nat.zero_add, if_true, if_false, Bool.false_eq_true, Bool.not_true, Bool.not_false, reduceCtorEq, xi_cmp_int, xi_add_int, xi_sub_int, xi_mul_int, xi_mod_int, xi_div_int, xi_pow_int, xi_int_int, xi_int_bl, xi_abs_int, xi_neg_int]
      exact ⟨_, o, N, n, rfl, vo, wk o ho, r⟩
    simp only [newL, Bool.false_eq_true, if_false]
    refine all_map ⟨_, rfl, ?_⟩
    cases c4 : es.all isleE
    · rw [c4] at p; simpa using Fz.same p
    rw [c4] at p
    have hi : ∀ o, o ∈ es → isleE o = true := List.all_eq_true.mp c4
    obtain ⟨zs, e1, e2, hz⟩ := keys_names hi wk
    simp only [Bool.true_and, Bool.not_true, Bool.false_eq_true, if_false] at p ⊢
    refine v.walk hk fun xs stb ws hs => lc_at0 (by simp) hs ws (by omega) (fun o ho => ?_) ?_
    · obtain ⟨x, r, _, g1, g2, _⟩ := isle_name (hi o ho) (wk o ho)
      exact ⟨x, r, g1, name_atom g2⟩
    refine ⟨_, rfl, by simp; omega, fun o ho => ?_, _, rfl, ?_⟩
    · rw [e1] at ho
      obtain ⟨z, hz', rfl⟩ := List.mem_map.mp ho
      exact (Pl.str (hz z hz')).mono (by omega)
    cases c5 : unlike (es.map at0)
    · rw [c5] at p; simpa using Fz.same p
    rw [c5] at p
    simp only [Bool.true_and, Bool.not_true, Bool.false_eq_true, if_false] at p ⊢
    refine ⟨_, e, N, n + 1, es, rfl, v, w, hk, hi, ?_, ?_⟩
    · rw [e2]
      rw [e1, unlike_str] at c5
      exact nodup_inr (of_decide_eq_true c5)
    refine v.walk hk fun xs stb ws hs => lc_map (fun o => .bl (lisE (at3 o))) hs ws (by have : sizeLine = 2 ^ 24 := rfl; omega) (fun x o vo ho R r => ?_) ?_
    · obtain ⟨x1, y1, z1, m1, ms, g1, g2, _⟩ := isle_kids (hi o ho)
      have g3 : at3 o = m1 := by unfold at3 kids; rw [g1]; rfl
      simp only [dSeq, dIfS, dTst, dCall, dOp, dUn, dVar, dC, dRet, dRetN, dNext, dAndV, dOrV, dNotV, dAnd, dOr, dNot, dIf, dB, dTup, aCons, aNil, dSet, dChain, dCont, dBreak, dDrop, dAttr, one, gdName, gdTup, gdCons, gdNil, bodyO, List.append_nil, List.length_cons, List.length_nil, List.getElem?_cons_zero, List.getElem?_cons_succ, List.set_cons_zero, List.set_cons_succ, Option.some.injEq, D.bl.injEq, exists_eq_left', exists_eq_left, true_and, Nat.reduceAdd, Nat.zero_add, if_true, if_false, Bool.false_eq_true, Bool.not_true, Bool.not_false, reduceCtorEq, xi_cmp_int, xi_add_int, xi_sub_int, xi_mul_int, xi_mod_int, xi_div_int, xi_pow_int, xi_int_int, xi_int_bl, xi_abs_int, xi_neg_int]
      refine vo.ix g1 (c := m1) atI3 fun m' vm => vo.ix g1 (c := x1) atI0 fun x' vx => ⟨_, m1, N, _, _, rfl, vm, ?_, ?_⟩
      · rw [← g3]; exact hst es hk o ho (hi o ho)
      · rw [← g3]; exact r
    exact all_map (Fz.same p)
end
end K01
/-! K01C: yards are made and compared. -/
namespace K01
open PySem PySem.Spec PyProof.Rows L2 Dl LamX NdefX
/-- what the written part knows of the classes -/
structure ClF (K : PySem.W.Frag) (a : Ad) : Prop where
  yard : a.c_Yard ∈ a.ct.ins
  bad : a.c_BadYard ∈ a.ct.exc
  yardB : ∀ n, n ∈ ["NoneType", "bool", "int", "str", "tuple", "list", "dict"] → PySem.W.kitOne K (.type n) (.ref a.c_Yard) = some false
  flat : PySem.W.exmOne K (.ref a.c_BadYard) (.ref a.c_FlatError) = some true
  many : PySem.W.kitOne K (.ref a.c_BadYard) (.ref a.c_TooMany) = some false
  text : PySem.W.kitOne K (.ref a.c_BadYard) (.ref a.c_BadText) = some false
  line : PySem.W.kitOne K (.ref a.c_BadYard) (.ref a.c_BadLine) = some false
  nothing : PySem.W.kitOne K (.ref a.c_BadYard) (.ref a.c_Nothing) = some false
  noname : PySem.W.kitOne K (.ref a.c_BadYard) (.ref a.c_NoName) = some false
  value : PySem.W.kitOne K (.ref a.c_BadYard) (.ref a.c_BadValue) = some false
  number : PySem.W.kitOne K (.ref a.c_BadYard) (.ref a.c_BadNumber) = some false
  paper : PySem.W.kitOne K (.ref a.c_BadYard) (.ref a.c_BadPaper) = some false
  misfit : PySem.W.kitOne K (.ref a.c_BadYard) (.ref a.c_Misfit) = some false
def yardF (i b w n : D) : List (Str × D) := [("isles", i), ("bars", b), ("wishes", w), ("names", n), ("kept", .dic [] [])]
section
variable {K : PySem.W.Frag} {a : Ad}
theorem isi_yard_not (CF : ClF K a) {N : Addr → Prop} {S : Sto} {d e : D} {Q : D → Sto → Prop} (v : Vw N S d e) (q : Q (.bl false) S) : isiR K a.ct [d, .ref a.c_Yard] S Q := by
  refine ⟨typE e, .ref a.c_Yard, false, v.ty, rfl, ?_, q⟩
  cases e with
  | ty => exact v.elim
  | ref => exact v.elim
  | scr => exact v.elim
  | _ => exact CF.yardB _ (by simp [typE])
theorem isi_yard (CF : ClF K a) {S : Sto} {p : Addr} {fs : List (Str × D)} {Q : D → Sto → Prop} (h : S p = some (.ins a.c_Yard fs)) (q : Q (.bl true) S) : isiR K a.ct [.ref p, .ref a.c_Yard] S Q := by
  refine ⟨.ref a.c_Yard, .ref a.c_Yard, true, ?_, rfl, kit_self, q⟩
  simp only [Dl.tyV, h, if_pos CF.yard]
def Φyeq (a : Ad) : Phi := fun ds S P _ => ∃ p d i b w n, ds = [.ref p, d] ∧ S p = some (.ins a.c_Yard (yardF i b w n)) ∧
  ((∃ e N, Vw N S d e ∧ P (.bl false) S) ∨ (∃ q i2 b2 w2 n2, d = .ref q ∧ S q = some (.ins a.c_Yard (yardF i2 b2 w2 n2)) ∧ okD (.tup [i, b, w]) = true ∧ okD (.tup [i2, b2, w2]) = true ∧ P (.bl (eqD (.tup [i, b, w]) (.tup [i2, b2, w2]))) S))
theorem yard_at (i b w n : D) : (yardF i b w n).lookup ("isles" : Str) = some i ∧ (yardF i b w n).lookup ("bars" : Str) = some b ∧ (yardF i b w n).lookup ("wishes" : Str) = some w := by
  have f1 : (("bars" : Str) == ("isles" : Str)) = false := by decide +kernel
  have f2 : (("wishes" : Str) == ("isles" : Str)) = false := by decide +kernel
  have f3 : (("wishes" : Str) == ("bars" : Str)) = false := by decide +kernel
  have s1 : ∀ z : Str, (z == z) = true := fun z => beq_self_eq_true z
  unfold yardF
  refine ⟨?_, ?_, ?_⟩ <;> simp only [List.lookup_cons, f1, f2, f3, s1]
theorem vc_Yard_eq (CF : ClF K a) (ds S P PE) (hl : ds.length = 2) (h : Φyeq a ds S P PE) : t_Yard_eq K a PE (bodyO P) (startD N_Yard_eq ds) S := by
  obtain ⟨p, d, i, b, w, n, rfl, hp, h⟩ := h
  simp only [t_Yard_eq, st_Yard_eq, dSeq, dIfS, dTst, dCall, dOp, dUn, dVar, dC, dRet, dRetN, dNext, dAndV, dOrV, dNotV, dAnd, dOr, dNot, dIf, dB, dTup, aCons, aNil, dSet, dChain, dCont, dBreak, dDrop, dAttr, one, gdName, gdTup, gdCons, gdNil, bodyO, List.append_nil, List.length_cons, List.length_nil, List.getElem?_cons_zero, List.getElem?_cons_succ, List.set_cons_zero, List.set_cons_succ, Option.some.injEq, D.bl.injEq, exists_eq_left', exists_eq_left, true_and, Nat.reduceAdd, Nat.zero_add, if_true, if_false, Bool.false_eq_true, Bool.not_true, Bool.not_false, reduceCtorEq, xi_cmp_int, xi_add_int, xi_sub_int, xi_mul_int, xi_mod_int, xi_div_int, xi_pow_int, xi_int_int, xi_int_bl, xi_abs_int, xi_neg_int]
  obtain ⟨a1, a2, a3⟩ := yard_at i b w n
  rcases h with ⟨e, N, v, q⟩ | ⟨y, i2, b2, w2, n2, rfl, hy, o1, o2, q⟩
  · exact isi_yard_not CF v ⟨_, rfl, by simpa using Fz.same q⟩
  · obtain ⟨c1, c2, c3⟩ := yard_at i2 b2 w2 n2
    refine isi_yard CF hy ⟨_, rfl, ?_⟩
    simp only [Bool.not_true, Bool.false_eq_true, if_false, attrR]
    exact ⟨_, i, hp, a1, _, b, hp, a2, _, w, hp, a3, by decide, _, i2, hy, c1, _, b2, hy, c2, _, w2, hy, c3, by decide, o1, o2, Fz.same q⟩
theorem putN_len (f : Str) (d : D) : ∀ fs : List (Str × D), (putN f d fs).length ≤ fs.length + 1
  | [] => by simp [putN]
  | (g, x) :: r => by
    unfold putN
    split
    · simp
    · have := putN_len f d r; simp; omega
theorem nIB : ¬ (("isles" : Str) = "bars") := by decide +kernel
theorem nIW : ¬ (("isles" : Str) = "wishes") := by decide +kernel
theorem nBW : ¬ (("bars" : Str) = "wishes") := by decide +kernel
theorem nIN : ¬ (("isles" : Str) = "names") := by decide +kernel
theorem nBN : ¬ (("bars" : Str) = "names") := by decide +kernel
theorem nWN : ¬ (("wishes" : Str) = "names") := by decide +kernel
theorem nIK : ¬ (("isles" : Str) = "kept") := by decide +kernel
theorem nBK : ¬ (("bars" : Str) = "kept") := by decide +kernel
theorem nWK : ¬ (("wishes" : Str) = "kept") := by decide +kernel
theorem nNK : ¬ (("names" : Str) = "kept") := by decide +kernel
theorem putN3 (i b w : D) : putN "wishes" w (putN "bars" b (putN "isles" i [])) = ([("isles", i), ("bars", b), ("wishes", w)] : List (Str × D)) := by simp only [putN, if_neg nIB, if_neg nIW, if_neg nBW]
theorem putN4 (i b w n : D) : putN "names" n [("isles", i), ("bars", b), ("wishes", w)] = ([("isles", i), ("bars", b), ("wishes", w), ("names", n)] : List (Str × D)) := by simp only [putN, if_neg nIN, if_neg nBN, if_neg nWN]
theorem putN5 (i b w n : D) : putN "kept" (.dic [] []) (putN "names" n [("isles", i), ("bars", b), ("wishes", w)]) = yardF i b w n := by rw [putN4]; simp only [putN, if_neg nIK, if_neg nBK, if_neg nWK, if_neg nNK]; rfl
def namesT (e : D) : D := .tup ((kids e).map at0)
/-- Yard.__init__, where no isle moves -/
def Φyard (a : Ad) : Phi := fun ds S P PE => ∃ p d db dw e N fs, ds = [.ref p, d, db, dw] ∧ S p = some (.ins a.c_Yard []) ∧ fs = 0 ∧ Vw N S d e ∧ wf 8 e = true ∧ Still e ∧
  if islesE e = true then ((∃ eb, Vw N S db eb ∧ kidE eb = some []) ∧ (∃ ew, Vw N S dw ew ∧ kidE ew = some [])) ∧ P .non (put S p (.ins a.c_Yard (yardF (fixT e) (.tup []) (.tup []) (namesT e)))) else PE a.c_BadYard [("part", .str "isles")] S
theorem vc_Yard_init (ds S P PE) (hl : ds.length = 4) (h : Φyard a ds S P PE) : t_Yard_init K a Φisles Φmodes (Φt2 rowE) no (Φr fixT 8) PE (bodyO P) (startD N_Yard_init ds) S := by
  obtain ⟨p, d, db, dw, e, N, fs, rfl, hp, _, v, w, hst, q⟩ := h
  simp only [t_Yard_init, st_Yard_init, dSeq, dIfS, dTst, dCall, dOp, dUn, dVar, dC, dRet, dRetN, dNext, dAndV, dOrV, dNotV, dAnd, dOr, dNot, dIf, dB, dTup, aCons, aNil, dSet, dChain, dCont, dBreak, dDrop, dAttr, one, gdName, gdTup, gdCons, gdNil, bodyO, List.append_nil, List.length_cons, List.length_nil, List.getElem?_cons_zero, List.getElem?_cons_succ, List.set_cons_zero, List.set_cons_succ, Option.some.injEq, D.bl.injEq, exists_eq_left', exists_eq_left, true_and, Nat.reduceAdd, Nat.zero_add, if_true, if_false, Bool.false_eq_true, Bool.not_true, Bool.not_false, reduceCtorEq, xi_cmp_int, xi_add_int, xi_sub_int, xi_mul_int, xi_mod_int, xi_div_int, xi_pow_int, xi_int_int, xi_int_bl, xi_abs_int, xi_neg_int]
  refine ⟨_, e, N, 8, rfl, v, w, hst, _, rfl, ?_⟩
  cases h1 : islesE e
  · rw [if_neg (by rw [h1]; decide)] at q
    simp only [Bool.not_false, if_true, dRaise, dSeq, dIfS, dTst, dCall, dOp, dUn, dVar, dC, dRet, dRetN, dNext, dAndV, dOrV, dNotV, dAnd, dOr, dNot, dIf, dB, dTup, aCons, aNil, dSet, dChain, dCont, dBreak, dDrop, dAttr, one, gdName, gdTup, gdCons, gdNil, bodyO, List.append_nil, List.length_cons, List.length_nil, List.getElem?_cons_zero, List.getElem?_cons_succ, List.set_cons_zero, List.set_cons_succ, Option.some.injEq, D.bl.injEq, exists_eq_left', exists_eq_left, true_and, Nat.reduceAdd, Nat.zero_add, if_true, if_false, Bool.false_eq_true, Bool.not_true, Bool.not_false, reduceCtorEq, xi_cmp_int, xi_add_int, xi_sub_int, xi_mul_int, xi_mod_int, xi_div_int, xi_pow_int, xi_int_int, xi_int_bl, xi_abs_int, xi_neg_int]
    exact ⟨by decide, q⟩
  · rw [if_pos h1] at q
    obtain ⟨⟨⟨eb, vb, kb⟩, ⟨ew, vw, kw⟩⟩, q⟩ := q
    simp only [Bool.not_true, Bool.false_eq_true, if_false]
    have h2 := h1
    unfold islesE at h2
    simp only [Bool.and_eq_true] at h2
    obtain ⟨r1, r2, r3, _⟩ := h2
    obtain ⟨es, hk, l1, l2⟩ := row_kids r1
    rw [show kids e = es by unfold kids; rw [hk]; rfl] at r2 r3
    obtain ⟨_, wk⟩ := wf_kid w hk
    have hi : ∀ o, o ∈ es → isleE o = true := List.all_eq_true.mp r2
    obtain ⟨zs, e1, e2, hz⟩ := keys_names hi wk
    refine ⟨_, e, N, 8, es, rfl, v, w, hk, hi, ?_, ?_⟩
    · rw [e2]
      rw [e1, unlike_str] at r3
      exact nodup_inr (of_decide_eq_true r3)
    unfold dFor diSeq
    simp only [dSeq, dIfS, dTst, dCall, dOp, dUn, dVar, dC, dRet, dRetN, dNext, dAndV, dOrV, dNotV, dAnd, dOr, dNot, dIf, dB, dTup, aCons, aNil, dSet, dChain, dCont, dBreak, dDrop, dAttr, one, gdName, gdTup, gdCons, gdNil, bodyO, List.append_nil, List.length_cons, List.length_nil, List.getElem?_cons_zero, List.getElem?_cons_succ, List.set_cons_zero, List.set_cons_succ, Option.some.injEq, D.bl.injEq, exists_eq_left', exists_eq_left, true_and, Nat.reduceAdd, Nat.zero_add, if_true, if_false, Bool.false_eq_true, Bool.not_true, Bool.not_false, reduceCtorEq, xi_cmp_int, xi_add_int, xi_sub_int, xi_mul_int, xi_mod_int, xi_div_int, xi_pow_int, xi_int_int, xi_int_bl, xi_abs_int, xi_neg_int, walkD, forD]
    have rb : rowE eb 0 4 = true := by unfold rowE; rw [kb]; rfl
    have rw_ : rowE ew 0 3 = true := by unfold rowE; rw [kw]; rfl
    refine ⟨by decide, by decide, by decide, _, eb, N, 0, 4, rfl, vb, _, rfl, ?_⟩
    rw [rb]
    simp only [Bool.not_true, Bool.false_eq_true, if_false]
    unfold dLc
    simp only [dSeq, dIfS, dTst, dCall, dOp, dUn, dVar, dC, dRet, dRetN, dNext, dAndV, dOrV, dNotV, dAnd, dOr, dNot, dIf, dB, dTup, aCons, aNil, dSet, dChain, dCont, dBreak, dDrop, dAttr, one, gdName, gdTup, gdCons, gdNil, bodyO, List.append_nil, List.length_cons, List.length_nil, List.getElem?_cons_zero, List.getElem?_cons_succ, List.set_cons_zero, List.set_cons_succ, Option.some.injEq, D.bl.injEq, exists_eq_left', exists_eq_left, true_and, Nat.reduceAdd, Nat.zero_add, if_true, if_false, Bool.false_eq_true, Bool.not_true, Bool.not_false, reduceCtorEq, xi_cmp_int, xi_add_int, xi_sub_int, xi_mul_int, xi_mod_int, xi_div_int, xi_pow_int, xi_int_int, xi_int_bl, xi_abs_int, xi_neg_int, wipeD]
    refine vb.walk kb fun xs stb ws hs => lc_map (fun _ => .non) hs ws (by simp) (fun x o vo ho R r => by simp at ho) ?_
    simp only [newL, Bool.false_eq_true, if_false, List.map_nil]
    refine all_map (es := []) (f := fun _ => true) ⟨_, rfl, ?_⟩
    simp only [List.all_nil, Bool.not_true, Bool.false_eq_true, if_false]
    refine ⟨_, ew, N, 0, 3, rfl, vw, _, rfl, ?_⟩
    rw [rw_]
    simp only [Bool.not_true, Bool.false_eq_true, if_false]
    refine vw.walk kw fun xs stb ws hs => lc_map (fun _ => .non) hs ws (by simp) (fun x o vo ho R r => by simp at ho) ?_
    simp only [newL, Bool.false_eq_true, if_false, List.map_nil]
    refine all_map (es := []) (f := fun _ => true) ⟨_, rfl, ?_⟩
    simp only [List.all_nil, Bool.not_true, Bool.false_eq_true, if_false, dSetAttr, dSeq, dIfS, dTst, dCall, dOp, dUn, dVar, dC, dRet, dRetN, dNext, dAndV, dOrV, dNotV, dAnd, dOr, dNot, dIf, dB, dTup, aCons, aNil, dSet, dChain, dCont, dBreak, dDrop, dAttr, one, gdName, gdTup, gdCons, gdNil, bodyO, List.append_nil, List.length_cons, List.length_nil, List.getElem?_cons_zero, List.getElem?_cons_succ, List.set_cons_zero, List.set_cons_succ, Option.some.injEq, D.bl.injEq, exists_eq_left', exists_eq_left, true_and, Nat.reduceAdd, Nat.zero_add, if_true, if_false, Bool.false_eq_true, Bool.not_true, Bool.not_false, reduceCtorEq, xi_cmp_int, xi_add_int, xi_sub_int, xi_mul_int, xi_mod_int, xi_div_int, xi_pow_int, xi_int_int, xi_int_bl, xi_abs_int, xi_neg_int]
    refine ⟨_, e, N, rfl, v, wf_okN w, ?_⟩
    have fb : fixT eb = .tup [] := by rw [fixT_kid kb]; rfl
    have fw : fixT ew = .tup [] := by rw [fixT_kid kw]; rfl
    have ob : ∀ n x, kidE x = some [] → okN (n + 1) x := fun n x hx ks hk => by rw [hx] at hk; cases hk; exact ⟨by simp, fun o ho => by simp at ho⟩
    refine ⟨[], hp, by decide, db, eb, N, rfl, vb.ins hp, ob 7 eb kb, ?_⟩
    refine ⟨_, put_same, ?_, dw, ew, N, rfl, (vw.ins hp).ins put_same, ob 7 ew kw, _, put_same, ?_, ?_⟩
    · have := putN_len "isles" (fixT e) []; simp at this; omega
    · have := putN_len "isles" (fixT e) []
      have := putN_len "bars" (fixT eb) (putN "isles" (fixT e) [])
      simp at *; omega
    rw [fb, fw, putN3, put_put, put_put]
    simp only [attrR]
    refine ⟨_, fixT e, put_same, by simp [List.lookup], ?_⟩
    rw [fixT_kid hk] at q ⊢
    simp only
    have at_ : ∀ o, o ∈ es → ∃ x y z m zz, kidE o = some [x, y, z, m] ∧ x = .str zz ∧ at0 (fixT o) = x ∧ at0 o = x := fun o ho => by
      obtain ⟨x, y, z, m, ms, h1, h2, _⟩ := isle_kids (hi o ho)
      obtain ⟨zz, rfl, _⟩ := name_str h2
      refine ⟨_, y, z, m, zz, h1, rfl, ?_, at0_kid h1⟩
      rw [fixT_kid h1]
      rfl
    refine lc_list at0 trivial (es.map fixT) [] (by have : sizeLine = 2 ^ 24 := rfl; simp; omega) (fun x hx R r => ?_) ?_
    · obtain ⟨o, ho, rfl⟩ := List.mem_map.mp hx
      obtain ⟨x, y, z, m, zz, h1, rfl, h3, _⟩ := at_ o ho
      rw [h3] at r
      simp only [dSeq, dIfS, dTst, dCall, dOp, dUn, dVar, dC, dRet, dRetN, dNext, dAndV, dOrV, dNotV, dAnd, dOr, dNot, dIf, dB, dTup, aCons, aNil, dSet, dChain, dCont, dBreak, dDrop, dAttr, one, gdName, gdTup, gdCons, gdNil, bodyO, List.append_nil, List.length_cons, List.length_nil, List.getElem?_cons_zero, List.getElem?_cons_succ, List.set_cons_zero, List.set_cons_succ, Option.some.injEq, D.bl.injEq, exists_eq_left', exists_eq_left, true_and, Nat.reduceAdd, Nat.zero_add, if_true, if_false, Bool.false_eq_true, Bool.not_true, Bool.not_false, reduceCtorEq, xi_cmp_int, xi_add_int, xi_sub_int, xi_mul_int, xi_mod_int, xi_div_int, xi_pow_int, xi_int_int, xi_int_bl, xi_abs_int, xi_neg_int]
      rw [fixT_kid h1]
      exact ⟨_, _, rfl, atI0, r⟩
    simp only [tupleR, sqD, dSeq, dIfS, dTst, dCall, dOp, dUn, dVar, dC, dRet, dRetN, dNext, dAndV, dOrV, dNotV, dAnd, dOr, dNot, dIf, dB, dTup, aCons, aNil, dSet, dChain, dCont, dBreak, dDrop, dAttr, one, gdName, gdTup, gdCons, gdNil, bodyO, List.append_nil, List.length_cons, List.length_nil, List.getElem?_cons_zero, List.getElem?_cons_succ, List.set_cons_zero, List.set_cons_succ, Option.some.injEq, D.bl.injEq, exists_eq_left', exists_eq_left, true_and, Nat.reduceAdd, Nat.zero_add, if_true, if_false, Bool.false_eq_true, Bool.not_true, Bool.not_false, reduceCtorEq, xi_cmp_int, xi_add_int, xi_sub_int, xi_mul_int, xi_mod_int, xi_div_int, xi_pow_int, xi_int_int, xi_int_bl, xi_abs_int, xi_neg_int, List.nil_append]
    have nm : (es.map fixT).map at0 = es.map at0 := by
      rw [List.map_map]
      exact List.map_congr_left fun o ho => by
        obtain ⟨_, _, _, _, _, _, _, h3, h4⟩ := at_ o ho
        exact h3.trans h4.symm
    refine ⟨_, put_same, by simp, _, put_same, by rw [putN4]; simp, Fz.same ?_⟩
    rw [put_put, put_put, nm, putN5]
    have : namesT e = .tup (es.map at0) := by unfold namesT kids; rw [hk]; rfl
    rw [this] at q
    exact q
end
end K01
/-! K01D: the law's own looks at isles. -/
namespace K01
open PySem PySem.Spec PyProof.Rows L2 Dl LamX NdefX
theorem sign_ok {z : Str} {c : Nat} (h : PyData.strOk z = true) (hc : c ∈ z.cps.toList) : PyData.strOk ⟨#[c]⟩ = true := by
  unfold PyData.strOk at *
  have := (Array.all_eq_true_iff_forall_mem.mp h) c (by simpa using hc)
  simpa using this
theorem filter_none {xs : List D} {f : D → Bool} : (xs.filter fun x => !f x).isEmpty = xs.all f := by
  induction xs with
  | nil => rfl
  | cons x xs ih =>
    rw [List.filter_cons, List.all_cons]
    cases h : f x
    · simp
    · simpa using ih
section
variable {K : PySem.W.Frag} {a : Ad}
theorem vc__law_is_title (ds S P PE) (hl : ds.length = 1) (h : Φtw isNameE ds S P PE) : t__law_is_title K a PE (bodyO P) (startD N__law_is_title ds) S := by
  obtain ⟨d, e, N, n, rfl, v, w, p⟩ := h
  simp only [t__law_is_title, st__law_is_title, dSeq, dIfS, dTst, dCall, dOp, dUn, dVar, dC, dRet, dRetN, dNext, dAndV, dOrV, dNotV, dAnd, dOr, dNot, dIf, dB, dTup, aCons, aNil, dSet, dChain, dCont, dBreak, dDrop, dAttr, one, gdName, gdTup, gdCons, gdNil, bodyO, List.append_nil, List.length_cons, List.length_nil, List.getElem?_cons_zero, List.getElem?_cons_succ, List.set_cons_zero, List.set_cons_succ, Option.some.injEq, D.bl.injEq, exists_eq_left', exists_eq_left, true_and, Nat.reduceAdd, Nat.zero_add, if_true, if_false, Bool.false_eq_true, Bool.not_true, Bool.not_false, reduceCtorEq, xi_cmp_int, xi_add_int, xi_sub_int, xi_mul_int, xi_mod_int, xi_div_int, xi_pow_int, xi_int_int, xi_int_bl, xi_abs_int, xi_neg_int]
  refine isi_one (by simp) v ⟨_, rfl, ?_⟩
  cases h1 : isE "str" e
  · rw [not_name h1] at p
    simpa using Fz.same p
  · obtain ⟨z, rfl⟩ := str_of h1
    obtain ⟨rfl, hz⟩ := v
    obtain ⟨_, hl2⟩ := wf_str w
    simp only [isNameE] at p
    simp only [dSeq, dIfS, dTst, dCall, dOp, dUn, dVar, dC, dRet, dRetN, dNext, dAndV, dOrV, dNotV, dAnd, dOr, dNot, dIf, dB, dTup, aCons, aNil, dSet, dChain, dCont, dBreak, dDrop, dAttr, one, gdName, gdTup, gdCons, gdNil, bodyO, List.append_nil, List.length_cons, List.length_nil, List.getElem?_cons_zero, List.getElem?_cons_succ, List.set_cons_zero, List.set_cons_succ, Option.some.injEq, D.bl.injEq, exists_eq_left', exists_eq_left, true_and, Nat.reduceAdd, Nat.zero_add, if_true, if_false, Bool.false_eq_true, Bool.not_true, Bool.not_false, reduceCtorEq, xi_cmp_int, xi_add_int, xi_sub_int, xi_mul_int, xi_mod_int, xi_div_int, xi_pow_int, xi_int_int, xi_int_bl, xi_abs_int, xi_neg_int, lenR, leR, Bool.not_true, Bool.false_eq_true, if_false]
    rw [show decide ((1 : Int) ≤ (z.length : Int)) = decide (1 ≤ z.length) from decide_eq_decide.mpr (by omega), show decide ((z.length : Int) ≤ 8) = decide (z.length ≤ 8) from decide_eq_decide.mpr (by omega)]
    refine ⟨by have : sizeLine = 2 ^ 24 := rfl; omega, ?_⟩
    cases c1 : decide (1 ≤ z.length)
    · rw [c1] at p; rw [if_neg (by decide)]; exact Fz.same p
    cases c2 : decide (z.length ≤ 8)
    · rw [c1, c2] at p; rw [if_pos rfl, if_pos (by decide)]; exact Fz.same p
    rw [c1, c2] at p
    rw [if_pos rfl, if_neg (by decide)]
    refine ⟨by decide, in_strs (zs := WRD) hz wrd_ok ⟨_, rfl, ?_⟩⟩
    cases c3 : decide (z ∈ WRD)
    · rw [c3] at p
      simp only [Bool.false_eq_true, if_false]
      unfold dLc diSeq
      simp only [dSeq, dIfS, dTst, dCall, dOp, dUn, dVar, dC, dRet, dRetN, dNext, dAndV, dOrV, dNotV, dAnd, dOr, dNot, dIf, dB, dTup, aCons, aNil, dSet, dChain, dCont, dBreak, dDrop, dAttr, one, gdName, gdTup, gdCons, gdNil, bodyO, List.append_nil, List.length_cons, List.length_nil, List.getElem?_cons_zero, List.getElem?_cons_succ, List.set_cons_zero, List.set_cons_succ, Option.some.injEq, D.bl.injEq, exists_eq_left', exists_eq_left, true_and, Nat.reduceAdd, Nat.zero_add, if_true, if_false, Bool.false_eq_true, Bool.not_true, Bool.not_false, reduceCtorEq, xi_cmp_int, xi_add_int, xi_sub_int, xi_mul_int, xi_mod_int, xi_div_int, xi_pow_int, xi_int_int, xi_int_bl, xi_abs_int, xi_neg_int, walkD, wipeD]
      refine lc_listF (fun x => !(match x with | .str y => sgn y | _ => false)) id trivial _ [] (by have := of_decide_eq_true c2; have h5 : sizeLine = 2 ^ 24 := rfl; have h6 : z.cps.size = z.length := rfl; simp only [Dl.signs, List.length_map, Array.length_toList, List.length_nil]; omega) (fun x hx R R2 r => ?_) ?_
      · obtain ⟨c, _, rfl⟩ := List.mem_map.mp hx
        simp only [dSeq, dIfS, dTst, dCall, dOp, dUn, dVar, dC, dRet, dRetN, dNext, dAndV, dOrV, dNotV, dAnd, dOr, dNot, dIf, dB, dTup, aCons, aNil, dSet, dChain, dCont, dBreak, dDrop, dAttr, one, gdName, gdTup, gdCons, gdNil, bodyO, List.append_nil, List.length_cons, List.length_nil, List.getElem?_cons_zero, List.getElem?_cons_succ, List.set_cons_zero, List.set_cons_succ, Option.some.injEq, D.bl.injEq, exists_eq_left', exists_eq_left, true_and, Nat.reduceAdd, Nat.zero_add, if_true, if_false, Bool.false_eq_true, Bool.not_true, Bool.not_false, reduceCtorEq, xi_cmp_int, xi_add_int, xi_sub_int, xi_mul_int, xi_mod_int, xi_div_int, xi_pow_int, xi_int_int, xi_int_bl, xi_abs_int, xi_neg_int, inStrR]
        exact r
      · simp only [newL, dSeq, dIfS, dTst, dCall, dOp, dUn, dVar, dC, dRet, dRetN, dNext, dAndV, dOrV, dNotV, dAnd, dOr, dNot, dIf, dB, dTup, aCons, aNil, dSet, dChain, dCont, dBreak, dDrop, dAttr, one, gdName, gdTup, gdCons, gdNil, bodyO, List.append_nil, List.length_cons, List.length_nil, List.getElem?_cons_zero, List.getElem?_cons_succ, List.set_cons_zero, List.set_cons_succ, Option.some.injEq, D.bl.injEq, exists_eq_left', exists_eq_left, true_and, Nat.reduceAdd, Nat.zero_add, if_true, if_false, Bool.false_eq_true, Bool.not_true, Bool.not_false, reduceCtorEq, xi_cmp_int, xi_add_int, xi_sub_int, xi_mul_int, xi_mod_int, xi_div_int, xi_pow_int, xi_int_int, xi_int_bl, xi_abs_int, xi_neg_int, List.nil_append, dLst, List.map_id]
        refine ⟨by decide, eq_nil ?_ (Fz.same ?_)⟩
        · refine (Pl.lst (n := 0) fun o ho => ?_).ok (by omega)
          obtain ⟨c, hc, rfl⟩ := List.mem_map.mp (List.mem_filter.mp ho).1
          exact Pl.str (sign_ok hz hc)
        · rw [show ((Dl.signs z).filter fun x => !(match x with | .str y => sgn y | _ => false)).isEmpty = z.cps.toList.all fun c => sgn ⟨#[c]⟩ by
            rw [filter_none]
            unfold Dl.signs
            rw [List.all_map]
            rfl]
          exact p
    · rw [c3] at p
      simp only [if_true, Bool.false_eq_true, if_false]
      exact Fz.same p
/-- a walk that ends at what is not so -/
theorem for_all {N : Addr → Prop} {stb : Sto → Prop} {g : TDG} {tb : TDS} {O : DOut} {S : Sto} (p : D → Bool) (I : DEnv → Prop) (hs : stb S) : ∀ {xs es : List D} (ρ : DEnv), Vws N S xs es → I ρ →
    (∀ x e ρ nx bk, Vw N S x e → e ∈ es → I ρ → (if p e = true then ∀ ρ', I ρ' → nx ρ' S else O.rt (.bl false) S) → g x ρ S fun ρ1 S1 => tb ⟨nx, O.rt, bk, nx⟩ ρ1 S1) →
    (if es.all p = true then ∀ ρ, I ρ → O.nx ρ S else O.rt (.bl false) S) → forD stb g tb O xs ρ S
  | _, [], ρ, w, h0, h, q => by
    rw [show _ = [] from w]
    rw [List.all_nil, if_pos rfl] at q
    exact ⟨hs, q ρ h0⟩
  | _, e :: es, ρ, ⟨d, r, hd, v, w⟩, h0, h, q => by
    rw [hd]
    refine ⟨hs, h d e ρ _ _ v (by simp) h0 ?_⟩
    rw [List.all_cons] at q
    cases hp : p e
    · rw [hp] at q
      rw [if_neg (by decide)]
      rw [if_neg (by simp)] at q
      exact q
    · rw [hp, Bool.true_and] at q
      rw [if_pos rfl]
      exact fun ρ' hI => for_all p I hs ρ' w hI (fun x e' ρ nx bk v' m => h x e' ρ nx bk v' (List.mem_cons_of_mem _ m)) q
def MvR (e : D) : Prop := ∀ x y z m, kidE e = some [x, y, z, m] → m = .tup [] ∨ m = .lst [] ∨ m = .non ∨ m = .int 5
def plainE (e : D) : Bool := isleE e && lisE (at3 e)
def Φplain : Phi := fun ds S P _ => ∃ d e N n, ds = [d] ∧ Vw N S d e ∧ wf n e = true ∧ MvR e ∧ P (.bl (plainE e)) S
theorem repr_mv {N : Addr → Prop} {S : Sto} {d m : D} {Q : D → Sto → Prop} (v : Vw N S d m) (h : m = .tup [] ∨ m = .lst [] ∨ m = .non ∨ m = .int 5) (q : ∀ z : Str, PyData.strOk z = true → decide (z ∈ (["[]", "()"] : List Str)) = lisE m → Q (.str z) S) : reprA d S Q := by
  rcases h with rfl | rfl | rfl | rfl
  · obtain ⟨xs, rfl, w⟩ := v
    rw [show xs = [] from w]
    exact .inr (.inr ⟨.tup [], rfl, rfl, rfl, rfl, by decide +kernel, by decide +kernel, q _ (by decide +kernel) (by decide +kernel)⟩)
  · have e : topD S d = .lst [] := by
      obtain ⟨xs, (rfl | ⟨p, rfl, n, s⟩), w⟩ := v
      · rw [show xs = [] from w]; rfl
      · rw [show xs = [] from w] at s; simp only [topD, s]
    exact .inr (.inr ⟨_, e, rfl, rfl, rfl, by decide +kernel, by decide +kernel, q _ (by decide +kernel) (by decide +kernel)⟩)
  · rw [show d = _ from v]
    exact .inl ⟨rfl, q _ (by decide +kernel) (by decide +kernel)⟩
  · rw [show d = _ from v]
    exact .inr (.inl ⟨5, rfl, by decide +kernel, q _ (by decide +kernel) (by decide +kernel)⟩)
theorem plain_eq {e x y z m : D} (hk : kidE e = some [x, y, z, m]) : plainE e = (isNameE x && (isE "bool" y && (modesE z && lisE m))) := by
  have h3 : at3 e = m := by unfold at3 kids; rw [hk]; rfl
  unfold plainE isleE rowE
  rw [h3, hk]
  simp only [Bool.and_assoc]
  rfl
theorem plain_none {e : D} (hk : kidE e = none) : plainE e = false := by
  unfold plainE isleE rowE
  rw [hk]
  rfl
theorem plain_not {e : D} {es : List D} (hk : kidE e = some es) (h : ¬ (es.length : Int) = 4) : plainE e = false := by
  unfold plainE isleE rowE
  rw [hk]
  by_cases h5 : (4 : Int) ≤ es.length
  · simp only [decide_eq_false (by omega : ¬ (es.length : Int) ≤ 4), Bool.and_false, Bool.false_and]
  · simp only [decide_eq_false h5, Bool.false_and]
theorem modes_none {z : D} (hk : kidE z = none) : modesE z = false := by unfold modesE rowE; rw [hk]; rfl
theorem modes_some {z : D} {ms : List D} (hk : kidE z = some ms) : modesE z = (decide ((1 : Int) ≤ ms.length) && (decide ((ms.length : Int) ≤ 5) && (ms.all modeE && unlike (ms.map at0)))) := by
  unfold modesE rowE kids
  rw [hk]
  simp only [Option.getD_some, Bool.and_assoc]
theorem mode_none {z : D} (hk : kidE z = none) : modeE z = false := by unfold modeE rowE; rw [hk]; rfl
theorem mode_not {e : D} {es : List D} (hk : kidE e = some es) (h : ¬ (es.length : Int) = 3) : modeE e = false := by
  unfold modeE rowE
  rw [hk]
  by_cases h5 : (3 : Int) ≤ es.length
  · simp only [decide_eq_false (by omega : ¬ (es.length : Int) ≤ 3), Bool.and_false, Bool.false_and]
  · simp only [decide_eq_false h5, Bool.false_and]
theorem mode_eq {e x y z : D} (hk : kidE e = some [x, y, z]) : modeE e = (isNameE x && (withinE y (-1000000) 1000000 && isE "bool" z)) := by
  unfold modeE rowE
  rw [hk]
  rfl
theorem nodup_rev {zs : List Str} : zs.reverse.Nodup ↔ zs.Nodup := by
  unfold List.Nodup
  rw [List.pairwise_reverse]
  exact ⟨fun h => h.imp Ne.symm, fun h => h.imp Ne.symm⟩
theorem strsD_map : ∀ zs : List Str, strsD (zs.map .str) = some zs
  | [] => rfl
  | z :: zs => by simp only [List.map_cons, strsD, strsD_map zs]; rfl
theorem mode_names : ∀ {ms : List D}, (∀ o, o ∈ ms → modeE o = true) → ∃ zs : List Str, ms.map at0 = zs.map .str ∧ zs.length = ms.length
  | [], _ => ⟨[], rfl, rfl⟩
  | o :: ms, h => by
    obtain ⟨zs, h1, h2⟩ := mode_names fun x hx => h x (List.mem_cons_of_mem _ hx)
    obtain ⟨x, y, z, g1, g2, _⟩ := mode_kids (h o (by simp))
    obtain ⟨s, rfl, _⟩ := name_str g2
    exact ⟨s :: zs, by simp [h1, at0_kid g1], by simp [h2]⟩
theorem len_of {N : Addr → Prop} {S : Sto} {d e : D} {k : Nat} {Q : D → Sto → Prop} {es : List D} (v : Vw N S d e) (hk : kidE e = some es) (q : Q (.int es.length) S) : lenR d S Q := v.len hk q
theorem vc__law_is_plain_isle (ds S P PE) (hl : ds.length = 1) (h : Φplain ds S P PE) : t__law_is_plain_isle K a (Φtw isNameE) PE (bodyO P) (startD N__law_is_plain_isle ds) S := by
  obtain ⟨d, e, N, n, rfl, v, w, hm, p⟩ := h
  simp only [t__law_is_plain_isle, st__law_is_plain_isle, dSeq, dIfS, dTst, dCall, dOp, dUn, dVar, dC, dRet, dRetN, dNext, dAndV, dOrV, dNotV, dAnd, dOr, dNot, dIf, dB, dTup, aCons, aNil, dSet, dChain, dCont, dBreak, dDrop, dAttr, one, gdName, gdTup, gdCons, gdNil, bodyO, List.append_nil, List.length_cons, List.length_nil, List.getElem?_cons_zero, List.getElem?_cons_succ, List.set_cons_zero, List.set_cons_succ, Option.some.injEq, D.bl.injEq, exists_eq_left', exists_eq_left, true_and, Nat.reduceAdd, Nat.zero_add, if_true, if_false, Bool.false_eq_true, Bool.not_true, Bool.not_false, reduceCtorEq, xi_cmp_int, xi_add_int, xi_sub_int, xi_mul_int, xi_mod_int, xi_div_int, xi_pow_int, xi_int_int, xi_int_bl, xi_abs_int, xi_neg_int]
  refine ⟨by decide, isi_list v ⟨_, rfl, ?_⟩⟩
  unfold lisE
  cases hk : kidE e with
  | none => rw [plain_none hk] at p; simpa using Fz.same p
  | some es =>
    simp only [Option.isSome_some, Bool.not_true, Bool.false_eq_true, if_false]
    refine v.len hk (ne_int ⟨_, rfl, ?_⟩)
    by_cases h4 : (es.length : Int) = 4
    · obtain ⟨x, y, z, m, rfl⟩ := four (es := es) (by omega) (by omega)
      rw [plain_eq hk] at p
      rw [decide_eq_true h4]
      simp only [Bool.not_true, Bool.false_eq_true, if_false]
      cases n with
      | zero => cases w
      | succ n =>
      obtain ⟨_, wk⟩ := wf_kid w hk
      refine v.ix hk (c := x) atI0 fun x' vx => ⟨_, x, N, n, rfl, vx, wk x (by simp), _, rfl, ?_⟩
      cases c1 : isNameE x
      · rw [c1] at p; simpa using Fz.same p
      rw [c1] at p
      simp only [Bool.true_and, Bool.not_true, Bool.false_eq_true, if_false] at p ⊢
      refine v.ix hk (c := y) atI1 fun y' vy => isi_one (by simp) vy ⟨_, rfl, ?_⟩
      cases c2 : isE "bool" y
      · rw [c2] at p; simpa using Fz.same p
      rw [c2] at p
      simp only [Bool.true_and, Bool.not_true, Bool.false_eq_true, if_false] at p ⊢
      refine v.ix hk (c := z) atI2 fun z' vz => ⟨by decide, isi_list vz ⟨_, rfl, ?_⟩⟩
      unfold lisE
      cases hkz : kidE z with
      | none => rw [modes_none hkz] at p; simpa using Fz.same p
      | some ms =>
      rw [modes_some hkz] at p
      have wz := wk z (by simp)
      cases n with
      | zero => cases wz
      | succ n =>
      obtain ⟨_, wm⟩ := wf_kid wz hkz
      simp only [Option.isSome_some, Bool.not_true, Bool.false_eq_true, if_false]
      refine v.ix hk (c := z) atI2 fun z1 vz1 => vz1.len hkz ?_
      simp only [leR, dSeq, dIfS, dTst, dCall, dOp, dUn, dVar, dC, dRet, dRetN, dNext, dAndV, dOrV, dNotV, dAnd, dOr, dNot, dIf, dB, dTup, aCons, aNil, dSet, dChain, dCont, dBreak, dDrop, dAttr, one, gdName, gdTup, gdCons, gdNil, bodyO, List.append_nil, List.length_cons, List.length_nil, List.getElem?_cons_zero, List.getElem?_cons_succ, List.set_cons_zero, List.set_cons_succ, Option.some.injEq, D.bl.injEq, exists_eq_left', exists_eq_left, true_and, Nat.reduceAdd, Nat.zero_add, if_true, if_false, Bool.false_eq_true, Bool.not_true, Bool.not_false, reduceCtorEq, xi_cmp_int, xi_add_int, xi_sub_int, xi_mul_int, xi_mod_int, xi_div_int, xi_pow_int, xi_int_int, xi_int_bl, xi_abs_int, xi_neg_int]
      cases c3 : decide ((1 : Int) ≤ ms.length)
      · rw [c3] at p; simpa using Fz.same p
      rw [c3] at p
      simp only [Bool.true_and, if_true] at p ⊢
      cases c4 : decide ((ms.length : Int) ≤ 5)
      · rw [c4] at p; simpa using Fz.same p
      rw [c4] at p
      have c4' := of_decide_eq_true c4
      simp only [Bool.true_and, Bool.not_true, Bool.false_eq_true, if_false] at p ⊢
      refine v.ix hk (c := m) atI3 fun m' vm => repr_mv vm (hm x y z m hk) fun zs hzs hin => ⟨by decide, in_strs (zs := ["[]", "()"]) hzs (fun y hy => by
        simp only [List.mem_cons, List.not_mem_nil, or_false] at hy
        rcases hy with rfl | rfl <;> decide +kernel) ⟨_, rfl, ?_⟩⟩
      rw [hin]
      cases c5 : lisE m
      · rw [c5] at p; simpa using Fz.same p
      rw [c5] at p
      simp only [Bool.and_true, if_true, Bool.not_true, Bool.false_eq_true, if_false] at p ⊢
      unfold dFor diSeq
      simp only [dSeq, dIfS, dTst, dCall, dOp, dUn, dVar, dC, dRet, dRetN, dNext, dAndV, dOrV, dNotV, dAnd, dOr, dNot, dIf, dB, dTup, aCons, aNil, dSet, dChain, dCont, dBreak, dDrop, dAttr, one, gdName, gdTup, gdCons, gdNil, bodyO, List.append_nil, List.length_cons, List.length_nil, List.getElem?_cons_zero, List.getElem?_cons_succ, List.set_cons_zero, List.set_cons_succ, Option.some.injEq, D.bl.injEq, exists_eq_left', exists_eq_left, true_and, Nat.reduceAdd, Nat.zero_add, if_true, if_false, Bool.false_eq_true, Bool.not_true, Bool.not_false, reduceCtorEq, xi_cmp_int, xi_add_int, xi_sub_int, xi_mul_int, xi_mod_int, xi_div_int, xi_pow_int, xi_int_int, xi_int_bl, xi_abs_int, xi_neg_int]
      refine v.ix hk (c := z) atI2 fun z2 vz2 => vz2.walk hkz fun xs stb ws hs => for_all modeE (fun ρ => ∃ o, ρ = [some d, o]) hs _ ws ⟨_, rfl⟩ (fun q o ρ nx bk vo ho hρ r => ?_) ?_
      · obtain ⟨o1, rfl⟩ := hρ
        simp only [dSeq, dIfS, dTst, dCall, dOp, dUn, dVar, dC, dRet, dRetN, dNext, dAndV, dOrV, dNotV, dAnd, dOr, dNot, dIf, dB, dTup, aCons, aNil, dSet, dChain, dCont, dBreak, dDrop, dAttr, one, gdName, gdTup, gdCons, gdNil, bodyO, List.append_nil, List.length_cons, List.length_nil, List.getElem?_cons_zero, List.getElem?_cons_succ, List.set_cons_zero, List.set_cons_succ, Option.some.injEq, D.bl.injEq, exists_eq_left', exists_eq_left, true_and, Nat.reduceAdd, Nat.zero_add, if_true, if_false, Bool.false_eq_true, Bool.not_true, Bool.not_false, reduceCtorEq, xi_cmp_int, xi_add_int, xi_sub_int, xi_mul_int, xi_mod_int, xi_div_int, xi_pow_int, xi_int_int, xi_int_bl, xi_abs_int, xi_neg_int]
        refine ⟨by decide, isi_list vo ⟨_, rfl, ?_⟩⟩
        unfold lisE
        cases hko : kidE o with
        | none => rw [mode_none hko] at r; simpa using r
        | some ks =>
        simp only [Option.isSome_some, Bool.not_true, Bool.false_eq_true, if_false]
        refine vo.len hko (ne_int ⟨_, rfl, ?_⟩)
        by_cases h3 : (ks.length : Int) = 3
        · obtain ⟨b1, b2, b3, rfl⟩ := three (es := ks) (by omega) (by omega)
          rw [mode_eq hko] at r
          rw [decide_eq_true h3]
          simp only [Bool.not_true, Bool.false_eq_true, if_false]
          have wo := wm o ho
          cases n with
          | zero => cases wo
          | succ n =>
          refine vo.ix hko (c := b1) atI0 fun x' vx => ⟨_, b1, N, n, rfl, vx, (wf_kid wo hko).2 b1 (by simp), _, rfl, ?_⟩
          cases d1 : isNameE b1
          · rw [d1] at r; simpa using r
          rw [d1] at r
          simp only [Bool.true_and, Bool.not_true, Bool.false_eq_true, if_false] at r ⊢
          refine vo.ix hko (c := b3) atI2 fun y' vy => isi_one (by simp) vy ⟨_, rfl, ?_⟩
          cases d3 : isE "bool" b3
          · rw [d3] at r; simpa using r
          rw [d3] at r
          simp only [Bool.and_true, Bool.not_true, Bool.false_eq_true, if_false] at r ⊢
          refine vo.ix hko (c := b2) atI1 fun z' vz => isi_one (by simp) vz ⟨_, rfl, ?_⟩
          by_cases hi : ∃ i, b2 = .int i
          · obtain ⟨i, rfl⟩ := hi
            rw [show isE "bool" (.int i) = false from rfl, if_neg (by decide)]
            refine vo.ix hko (c := .int i) atI1 fun z2 vz2 => isi_one (by simp) vz2 ⟨_, rfl, ?_⟩
            rw [show isE "int" (.int i) = true from rfl, if_neg (by decide)]
            refine vo.ix hko (c := .int i) atI1 fun z3 vz3 => ?_
            rw [show z3 = _ from vz3]
            simp only [dSeq, dIfS, dTst, dCall, dOp, dUn, dVar, dC, dRet, dRetN, dNext, dAndV, dOrV, dNotV, dAnd, dOr, dNot, dIf, dB, dTup, aCons, aNil, dSet, dChain, dCont, dBreak, dDrop, dAttr, one, gdName, gdTup, gdCons, gdNil, bodyO, List.append_nil, List.length_cons, List.length_nil, List.getElem?_cons_zero, List.getElem?_cons_succ, List.set_cons_zero, List.set_cons_succ, Option.some.injEq, D.bl.injEq, exists_eq_left', exists_eq_left, true_and, Nat.reduceAdd, Nat.zero_add, if_true, if_false, Bool.false_eq_true, Bool.not_true, Bool.not_false, reduceCtorEq, xi_cmp_int, xi_add_int, xi_sub_int, xi_mul_int, xi_mod_int, xi_div_int, xi_pow_int, xi_int_int, xi_int_bl, xi_abs_int, xi_neg_int]
            rw [show withinE (.int i) (-1000000) 1000000 = (decide (-1000000 ≤ i) && decide (i ≤ 1000000)) from rfl] at r
            cases e1 : decide (-1000000 ≤ i)
            · rw [e1] at r; simpa using r
            · rw [e1] at r
              simp only [Bool.true_and, if_true] at r ⊢
              cases e2 : decide (i ≤ 1000000)
              · rw [e2] at r; simpa using r
              · rw [e2] at r
                simp only [if_true, Bool.not_true, Bool.false_eq_true, if_false] at r ⊢
                exact r _ ⟨_, rfl⟩
          · have e1 : withinE b2 (-1000000) 1000000 = false := by
              cases b2 <;> first
                | rfl
                | exact (hi ⟨_, rfl⟩).elim
            rw [e1, if_neg (by decide)] at r
            cases e2 : isE "bool" b2
            · rw [if_neg (by decide)]
              refine vo.ix hko (c := b2) atI1 fun z2 vz2 => isi_one (by simp) vz2 ⟨_, rfl, ?_⟩
              have e3 : isE "int" b2 = false := by
                cases b2 <;> first
                  | rfl
                  | exact (hi ⟨_, rfl⟩).elim
                  | (exfalso; revert e2; simp [isE])
              rw [e3, if_pos (by decide)]
              exact r
            · rw [if_pos rfl]
              exact r
        · rw [mode_not hko h3] at r
          rw [decide_eq_false h3]
          simpa using r
      · cases c6 : ms.all modeE
        · rw [c6] at p
          rw [if_neg (by decide)]
          exact Fz.same (by simpa using p)
        · rw [c6, Bool.true_and] at p
          rw [if_pos rfl]
          rintro ρ ⟨o1, rfl⟩
          simp only [dSeq, dIfS, dTst, dCall, dOp, dUn, dVar, dC, dRet, dRetN, dNext, dAndV, dOrV, dNotV, dAnd, dOr, dNot, dIf, dB, dTup, aCons, aNil, dSet, dChain, dCont, dBreak, dDrop, dAttr, one, gdName, gdTup, gdCons, gdNil, bodyO, List.append_nil, List.length_cons, List.length_nil, List.getElem?_cons_zero, List.getElem?_cons_succ, List.set_cons_zero, List.set_cons_succ, Option.some.injEq, D.bl.injEq, exists_eq_left', exists_eq_left, true_and, Nat.reduceAdd, Nat.zero_add, if_true, if_false, Bool.false_eq_true, Bool.not_true, Bool.not_false, reduceCtorEq, xi_cmp_int, xi_add_int, xi_sub_int, xi_mul_int, xi_mod_int, xi_div_int, xi_pow_int, xi_int_int, xi_int_bl, xi_abs_int, xi_neg_int, dLenSet]
          unfold dLc
          simp only [dSeq, dIfS, dTst, dCall, dOp, dUn, dVar, dC, dRet, dRetN, dNext, dAndV, dOrV, dNotV, dAnd, dOr, dNot, dIf, dB, dTup, aCons, aNil, dSet, dChain, dCont, dBreak, dDrop, dAttr, one, gdName, gdTup, gdCons, gdNil, bodyO, List.append_nil, List.length_cons, List.length_nil, List.getElem?_cons_zero, List.getElem?_cons_succ, List.set_cons_zero, List.set_cons_succ, Option.some.injEq, D.bl.injEq, exists_eq_left', exists_eq_left, true_and, Nat.reduceAdd, Nat.zero_add, if_true, if_false, Bool.false_eq_true, Bool.not_true, Bool.not_false, reduceCtorEq, xi_cmp_int, xi_add_int, xi_sub_int, xi_mul_int, xi_mod_int, xi_div_int, xi_pow_int, xi_int_int, xi_int_bl, xi_abs_int, xi_neg_int, wipeD]
          have hm' : ∀ o, o ∈ ms → ∃ x r, kidE o = some (x :: r) ∧ atomE x = true := fun o ho => by
            obtain ⟨x, y, z, h1, h2, _⟩ := mode_kids (List.all_eq_true.mp c6 o ho)
            exact ⟨x, _, h1, name_atom h2⟩
          refine v.ix hk (c := z) atI2 fun z3 vz3 => vz3.walk hkz fun ys stb3 ws3 hs3 => lc_at0 (by simp) hs3 ws3 (by omega) hm' ?_
          obtain ⟨zs, e1, hl1⟩ := mode_names (List.all_eq_true.mp c6)
          simp only [newL, Bool.false_eq_true, if_false]
          rw [e1] at p ⊢
          refine ⟨_, zs, rfl, strsD_map zs, by rw [hl1]; omega, v.ix hk (c := z) atI2 fun z4 vz4 => vz4.len hkz (eq_int ?_)⟩
          rw [unlike_str] at p
          rw [show decide ((cntS zs.reverse : Int) = (ms.length : Nat)) = decide zs.Nodup from decide_eq_decide.mpr (by
            rw [← hl1, ← List.length_reverse, Int.ofNat_inj, cntS_full, nodup_rev])]
          exact Fz.same p
    · rw [plain_not hk h4] at p
      rw [decide_eq_false h4]
      simpa using Fz.same p
end
end K01
/-! K01E: what is heard; mixed rows. -/
namespace Dl
open PySem PySem.Spec PyProof.Rows L2
theorem fresh_ne {S : Sto} {a b : Addr} {o : O} (h : put S a o b = none) : b ≠ a := fun e => by rw [e, put_same] at h; cases h
theorem fresh_old {S : Sto} {a b : Addr} {o : O} (h : put S a o b = none) : S b = none := by rw [← put_ne (S := S) (o := o) (fresh_ne h)]; exact h
theorem rangeD_succ (lo : Int) (n : Nat) : rangeD lo (n + 1) = .int lo :: rangeD (lo + 1) n := by
  unfold rangeD
  rw [List.range_succ_eq_map, List.map_cons, List.map_map]
  congr 1
  · simp
  · apply List.map_congr_left
    intro i _
    simp only [Function.comp]
    congr 1
    omega
/-- for i in range(n) -/
theorem for_range {g : TDG} {tb : TDS} {O : DOut} (I : Nat → DEnv → Sto → Prop) :
    ∀ (m lo : Nat) (ρ : DEnv) (S : Sto), (∀ i ρ S nx, lo ≤ i → i < lo + m → I i ρ S → (∀ ρ' S', I (i + 1) ρ' S' → nx ρ' S') → g (.int (i : Nat)) ρ S fun ρ1 S1 => tb ⟨nx, O.rt, O.nx, nx⟩ ρ1 S1) → I lo ρ S → (∀ ρ S, I (lo + m) ρ S → O.nx ρ S) →
      forD (fun _ => True) g tb O (rangeD (lo : Nat) m) ρ S
  | 0, lo, ρ, S, hb, h0, hf => ⟨trivial, hf ρ S h0⟩
  | m + 1, lo, ρ, S, hb, h0, hf => by
    rw [rangeD_succ]
    refine ⟨trivial, ?_⟩
    refine hb lo ρ S _ (Nat.le_refl _) (by omega) h0 fun ρ' S' h1 => ?_
    have := for_range I m (lo + 1) ρ' S' (fun i ρ S nx h1 h2 => hb i ρ S nx (by omega) (by omega)) h1 (fun ρ S h => hf ρ S (by rw [show lo + (m + 1) = lo + 1 + m by omega]; exact h))
    exact this
theorem sqD_keep {S S2 : Sto} {d : D} {xs : List D} (h : sqD S d = some xs) (k : ∀ b o, S b = some o → S2 b = some o) : sqD S2 d = some xs := by
  cases d with
  | ref a =>
    simp only [sqD] at h ⊢
    cases e : S a with
    | none => rw [e] at h; cases h
    | some o => rw [e] at h; rw [k a o e]; exact h
  | _ => exact h
theorem len_sq {S : Sto} {d : D} {xs : List D} {Q : D → Sto → Prop} (h : sqD S d = some xs) (q : Q (.int xs.length) S) : lenR d S Q := by
  cases d with
  | str => cases h
  | _ => exact ⟨xs, h, q⟩
theorem ne_sm {S : Sto} {x b : Addr} {o : O} (h : S x = none) (e : S b = some o) : b ≠ x := fun z => by rw [z, h] at e; cases e
theorem perm_erase : ∀ {l : List D} {i : Nat} (h : i < l.length), (l[i] :: l.eraseIdx i).Perm l
  | x :: l, 0, h => List.Perm.refl _
  | x :: l, i + 1, h => by
    simp only [List.getElem_cons_succ, List.eraseIdx_cons_succ]
    exact (List.Perm.swap _ _ _).trans ((perm_erase (by simpa using h)).cons x)
  | [], i, h => by simp at h
theorem seq_ix {i : Int} {n : Nat} (h0 : 0 ≤ i) (h1 : i < n) : seqIndex? i n = some i.toNat := by
  unfold seqIndex?
  simp
  omega
end Dl
namespace K01
open PySem PySem.Spec PyProof.Rows L2 Dl LamX NdefX
section
variable {K : PySem.W.Frag} {a : Ad}
/-- heard: it is made -/
theorem heard_good {S : Sto} {Q : D → Sto → Prop} {G : D → Sto → Prop} {f : Addr} {PE : EX} {tl : EX → Sto → (D → Sto → Prop) → Prop} (h : ∀ p, S p = none → ∀ (E : EX) (Q' : D → Sto → Prop), (∀ d S', G d S' → S' p = some (.lst []) → Q' d S') → tl E (put S p (.lst [])) Q')
    (q : ∀ p d S', S p = none → S' p = some (.lst []) → G d S' → Q (.ref p) (put S' p (.lst [d]))) : t__law_heard K a PE f tl (bodyO Q) (startD N__law_heard [.ref f]) S := by
  simp only [t__law_heard, st__law_heard, dSeq, dIfS, dTst, dCall, dOp, dUn, dVar, dC, dRet, dRetN, dNext, dAndV, dOrV, dNotV, dAnd, dOr, dNot, dIf, dB, dTup, aCons, aNil, dSet, dChain, dCont, dBreak, dDrop, dAttr, one, gdName, gdTup, gdCons, gdNil, bodyO, List.append_nil, List.length_cons, List.length_nil, List.getElem?_cons_zero, List.getElem?_cons_succ, List.set_cons_zero, List.set_cons_succ, Option.some.injEq, D.bl.injEq, exists_eq_left', exists_eq_left, true_and, Nat.reduceAdd, Nat.zero_add, if_true, if_false, Bool.false_eq_true, Bool.not_true, Bool.not_false, reduceCtorEq, xi_cmp_int, xi_add_int, xi_sub_int, xi_mul_int, xi_mod_int, xi_div_int, xi_pow_int, xi_int_int, xi_int_bl, xi_abs_int, xi_neg_int, dAsg, dTry, dAct, dTup, dLst, dPar, newL, dBM]
  refine ⟨by decide, fun p hp => ⟨.inl ⟨rfl, [], by simp only [lsD, put_same]⟩, h p hp _ _ fun d S' g hp' => ?_⟩⟩
  simp only [isR, Dl.isNon, dSeq, dIfS, dTst, dCall, dOp, dUn, dVar, dC, dRet, dRetN, dNext, dAndV, dOrV, dNotV, dAnd, dOr, dNot, dIf, dB, dTup, aCons, aNil, dSet, dChain, dCont, dBreak, dDrop, dAttr, one, gdName, gdTup, gdCons, gdNil, bodyO, List.append_nil, List.length_cons, List.length_nil, List.getElem?_cons_zero, List.getElem?_cons_succ, List.set_cons_zero, List.set_cons_succ, Option.some.injEq, D.bl.injEq, exists_eq_left', exists_eq_left, true_and, Nat.reduceAdd, Nat.zero_add, if_true, if_false, Bool.false_eq_true, Bool.not_true, Bool.not_false, reduceCtorEq, xi_cmp_int, xi_add_int, xi_sub_int, xi_mul_int, xi_mod_int, xi_div_int, xi_pow_int, xi_int_int, xi_int_bl, xi_abs_int, xi_neg_int, appendR, refLs]
  exact ⟨[], hp', by decide, Fz.same (q p d S' hp hp' g)⟩
/-- heard: 'isles' is wrong -/
theorem heard_bad (CF : ClF K a) {S : Sto} {Q : D → Sto → Prop} {G : Sto → Prop} {f : Addr} {PE : EX} {tl : EX → Sto → (D → Sto → Prop) → Prop} (h : ∀ p, S p = none → ∀ (E : EX) (Q' : D → Sto → Prop), (∀ S', G S' → E a.c_BadYard [("part", .str "isles")] S') → tl E (put S p (.lst [])) Q')
    (q : ∀ S' S'', G S' → (∀ b o, S' b = some o → S'' b = some o) → Q (.tup [.str "yard", .str "isles"]) S'') : t__law_heard K a PE f tl (bodyO Q) (startD N__law_heard [.ref f]) S := by
  simp only [t__law_heard, st__law_heard, dSeq, dIfS, dTst, dCall, dOp, dUn, dVar, dC, dRet, dRetN, dNext, dAndV, dOrV, dNotV, dAnd, dOr, dNot, dIf, dB, dTup, aCons, aNil, dSet, dChain, dCont, dBreak, dDrop, dAttr, one, gdName, gdTup, gdCons, gdNil, bodyO, List.append_nil, List.length_cons, List.length_nil, List.getElem?_cons_zero, List.getElem?_cons_succ, List.set_cons_zero, List.set_cons_succ, Option.some.injEq, D.bl.injEq, exists_eq_left', exists_eq_left, true_and, Nat.reduceAdd, Nat.zero_add, if_true, if_false, Bool.false_eq_true, Bool.not_true, Bool.not_false, reduceCtorEq, xi_cmp_int, xi_add_int, xi_sub_int, xi_mul_int, xi_mod_int, xi_div_int, xi_pow_int, xi_int_int, xi_int_bl, xi_abs_int, xi_neg_int, dAsg, dTry, dAct, dTup, dLst, dPar, newL, dBM]
  refine ⟨by decide, fun p hp => ⟨.inl ⟨rfl, [], by simp only [lsD, put_same]⟩, h p hp _ _ fun S' g => ⟨true, CF.flat, fun _ x hx => ?_, fun z => by cases z⟩⟩⟩
  have kp1 : ∀ b o, S' b = some o → put S' x (.exc a.c_BadYard [("part", .str "isles")]) b = some o := fun b o e => by rw [put_ne fun z => by rw [z, hx] at e; cases e]; exact e
  have hv : ∀ (S1 : Sto) (c : Addr) (b : Bool) (Q : D → Sto → Prop), S1 x = some (.exc a.c_BadYard [("part", .str "isles")]) → PySem.W.kitOne K (.ref a.c_BadYard) (.ref c) = some b → Q (.bl b) S1 → isiR K a.ct [.ref x, .ref c] S1 Q := fun S1 c b Q e hk q =>
    ⟨.ref a.c_BadYard, .ref c, b, by simp only [Dl.tyV, e, if_pos CF.bad], rfl, hk, q⟩
  have e0 : put S' x (.exc a.c_BadYard [("part", .str "isles")]) x = some (.exc a.c_BadYard [("part", .str "isles")]) := put_same
  generalize put S' x (.exc a.c_BadYard [("part", .str "isles")]) = S1 at *
  simp only [isR, Dl.isNon, dSeq, dIfS, dTst, dCall, dOp, dUn, dVar, dC, dRet, dRetN, dNext, dAndV, dOrV, dNotV, dAnd, dOr, dNot, dIf, dB, dTup, aCons, aNil, dSet, dChain, dCont, dBreak, dDrop, dAttr, one, gdName, gdTup, gdCons, gdNil, bodyO, List.append_nil, List.length_cons, List.length_nil, List.getElem?_cons_zero, List.getElem?_cons_succ, List.set_cons_zero, List.set_cons_succ, Option.some.injEq, D.bl.injEq, exists_eq_left', exists_eq_left, true_and, Nat.reduceAdd, Nat.zero_add, if_true, if_false, Bool.false_eq_true, Bool.not_true, Bool.not_false, reduceCtorEq, xi_cmp_int, xi_add_int, xi_sub_int, xi_mul_int, xi_mod_int, xi_div_int, xi_pow_int, xi_int_int, xi_int_bl, xi_abs_int, xi_neg_int, newL, dLst, dTup, dBM]
  refine hv _ _ _ _ e0 CF.many ⟨_, rfl, ?_⟩
  rw [if_neg (by decide)]
  refine hv _ _ _ _ e0 CF.text ⟨_, rfl, ?_⟩
  rw [if_neg (by decide)]
  refine ⟨by decide, ⟨.ref a.c_BadYard, [.ref a.c_BadLine, .ref a.c_Nothing, .ref a.c_NoName], false, by simp only [Dl.tyV, e0, if_pos CF.bad], rfl, kitAny_cons CF.line (fun _ => kitAny_cons CF.nothing (fun _ => kitAny_cons CF.noname (fun _ => kitAny_nil) (fun h => by cases h)) (fun h => by cases h)) (fun h => by cases h), _, rfl, ?_⟩⟩
  rw [if_neg (by decide)]
  refine hv _ _ _ _ e0 kit_self ⟨by decide, hv _ _ _ _ e0 CF.value ⟨by decide, hv _ _ _ _ e0 CF.number ⟨by decide, hv _ _ _ _ e0 CF.paper ⟨by decide, by decide, fun w hw => ?_⟩⟩⟩⟩
  have xw : x ≠ w := fun z => by rw [← z, e0] at hw; cases hw
  refine ⟨.inl ⟨rfl, _, (by simp only [lsD, put_same]; rfl)⟩, hv _ _ _ _ (by rw [put_ne xw]; exact e0) CF.misfit ⟨by decide, ?_⟩⟩
  simp only [appendR, refLs]
  refine ⟨_, put_same, by decide, ?_⟩
  rw [put_put]
  have e1 : put S1 w (.lst ([.tup [.str "yard", .bl true], .tup [.str "value", .bl false], .tup [.str "number", .bl false], .tup [.str "paper", .bl false]] ++ [.tup [.str "misfit", .bl false]])) x = some (.exc a.c_BadYard [("part", .str "isles")]) := by rw [put_ne xw]; exact e0
  have kp2 : ∀ b o, S' b = some o → put S1 w (.lst ([.tup [.str "yard", .bl true], .tup [.str "value", .bl false], .tup [.str "number", .bl false], .tup [.str "paper", .bl false]] ++ [.tup [.str "misfit", .bl false]])) b = some o := fun b o e => by
    have := kp1 b o e
    rw [put_ne fun z => by rw [z, hw] at this; cases this]
    exact this
  have e2 : put S1 w (.lst ([.tup [.str "yard", .bl true], .tup [.str "value", .bl false], .tup [.str "number", .bl false], .tup [.str "paper", .bl false]] ++ [.tup [.str "misfit", .bl false]])) w = some (.lst ([.tup [.str "yard", .bl true], .tup [.str "value", .bl false], .tup [.str "number", .bl false], .tup [.str "paper", .bl false]] ++ [.tup [.str "misfit", .bl false]])) := put_same
  generalize put S1 w (.lst ([.tup [.str "yard", .bl true], .tup [.str "value", .bl false], .tup [.str "number", .bl false], .tup [.str "paper", .bl false]] ++ [.tup [.str "misfit", .bl false]])) = S2 at *
  unfold dLc diSeq
  simp only [dSeq, dIfS, dTst, dCall, dOp, dUn, dVar, dC, dRet, dRetN, dNext, dAndV, dOrV, dNotV, dAnd, dOr, dNot, dIf, dB, dTup, aCons, aNil, dSet, dChain, dCont, dBreak, dDrop, dAttr, one, gdName, gdTup, gdCons, gdNil, bodyO, List.append_nil, List.length_cons, List.length_nil, List.getElem?_cons_zero, List.getElem?_cons_succ, List.set_cons_zero, List.set_cons_succ, Option.some.injEq, D.bl.injEq, exists_eq_left', exists_eq_left, true_and, Nat.reduceAdd, Nat.zero_add, if_true, if_false, Bool.false_eq_true, Bool.not_true, Bool.not_false, reduceCtorEq, xi_cmp_int, xi_add_int, xi_sub_int, xi_mul_int, xi_mod_int, xi_div_int, xi_pow_int, xi_int_int, xi_int_bl, xi_abs_int, xi_neg_int, walkD, e2, wipeD]
  refine lc_listF (fun x => match x with | .tup [_, .bl b] => b | _ => false) (fun x => match x with | .tup [y, _] => y | _ => .non) e2 _ [] (by decide) (fun y hy R R2 r => ?_) ?_
  · simp only [List.cons_append, List.nil_append, List.mem_cons, List.not_mem_nil, or_false] at hy
    rcases hy with rfl | rfl | rfl | rfl | rfl <;> (simp only [dSeq, dIfS, dTst, dCall, dOp, dUn, dVar, dC, dRet, dRetN, dNext, dAndV, dOrV, dNotV, dAnd, dOr, dNot, dIf, dB, dTup, aCons, aNil, dSet, dChain, dCont, dBreak, dDrop, dAttr, one, gdName, gdTup, gdCons, gdNil, bodyO, List.append_nil, List.length_cons, List.length_nil, List.getElem?_cons_zero, List.getElem?_cons_succ, List.set_cons_zero, List.set_cons_succ, Option.some.injEq, D.bl.injEq, exists_eq_left', exists_eq_left, true_and, Nat.reduceAdd, Nat.zero_add, if_true, if_false, Bool.false_eq_true, Bool.not_true, Bool.not_false, reduceCtorEq, xi_cmp_int, xi_add_int, xi_sub_int, xi_mul_int, xi_mod_int, xi_div_int, xi_pow_int, xi_int_int, xi_int_bl, xi_abs_int, xi_neg_int]; exact r)
  · simp only [newL, dSeq, dIfS, dTst, dCall, dOp, dUn, dVar, dC, dRet, dRetN, dNext, dAndV, dOrV, dNotV, dAnd, dOr, dNot, dIf, dB, dTup, aCons, aNil, dSet, dChain, dCont, dBreak, dDrop, dAttr, one, gdName, gdTup, gdCons, gdNil, bodyO, List.append_nil, List.length_cons, List.length_nil, List.getElem?_cons_zero, List.getElem?_cons_succ, List.set_cons_zero, List.set_cons_succ, Option.some.injEq, D.bl.injEq, exists_eq_left', exists_eq_left, true_and, Nat.reduceAdd, Nat.zero_add, if_true, if_false, Bool.false_eq_true, Bool.not_true, Bool.not_false, reduceCtorEq, xi_cmp_int, xi_add_int, xi_sub_int, xi_mul_int, xi_mod_int, xi_div_int, xi_pow_int, xi_int_int, xi_int_bl, xi_abs_int, xi_neg_int, Bool.false_eq_true, if_false]
    change lenR (D.lst [D.str "yard"]) S2 (fun z S1 => eqR z (.int 1) S1 fun z S1 => ∃ k, z = .bl k ∧ if k = true then ixR (.lst [.str "yard"]) (.int 0) S1 fun d S1 => xattrR [a.c_BadYard, a.c_BadValue, a.c_BadNumber, a.c_BadPaper, a.c_Misfit] "part" (.ref x) S1 fun d1 S1 => 2 ≤ sizeLine ∧ Fz (.tup [d, d1]) S1 Q else 1 ≤ sizeLine ∧ Fz (.tup [.str "other"]) S1 Q)
    refine ⟨_, rfl, eq_int ⟨_, rfl, ?_⟩⟩
    rw [if_pos (by decide)]
    refine ⟨_, .str "yard", rfl, rfl, ?_⟩
    simp only [xattrR]
    exact ⟨_, _, .str "isles", by simp, e1, by simp [List.lookup], by decide, Fz.same (q S' S2 g kp2)⟩
/-- a row mixed -/
def Φmixed : Phi := fun ds S P _ => ∃ p d xs ns c left, ds = [.ref p, d] ∧ sqD S d = some xs ∧ xs.length ≤ 100 ∧ S p = some (penO ns c left) ∧ 0 ≤ c ∧ c + 100 < 1048576 ∧
  ∀ S' q ys c' left', ys.Perm xs → S' q = some (.lst ys) → q ≠ p → S q = none → S' p = some (penO ns c' left') → 0 ≤ c' → c' ≤ c + xs.length → (∀ b o, b ≠ p → S b = some o → S' b = some o) → P (.ref q) S'
theorem vc__law_mixed (ds S P PE) (hl : ds.length = 2) (h : Φmixed ds S P PE) : t__law_mixed K a Φdraw PE (bodyO P) (startD N__law_mixed ds) S := by
  obtain ⟨p, d, xs, ns, c, left, rfl, hx, hl2, hp, h0, h1, q⟩ := h
  simp only [t__law_mixed, st__law_mixed, dSeq, dIfS, dTst, dCall, dOp, dUn, dVar, dC, dRet, dRetN, dNext, dAndV, dOrV, dNotV, dAnd, dOr, dNot, dIf, dB, dTup, aCons, aNil, dSet, dChain, dCont, dBreak, dDrop, dAttr, one, gdName, gdTup, gdCons, gdNil, bodyO, List.append_nil, List.length_cons, List.length_nil, List.getElem?_cons_zero, List.getElem?_cons_succ, List.set_cons_zero, List.set_cons_succ, Option.some.injEq, D.bl.injEq, exists_eq_left', exists_eq_left, true_and, Nat.reduceAdd, Nat.zero_add, if_true, if_false, Bool.false_eq_true, Bool.not_true, Bool.not_false, reduceCtorEq, xi_cmp_int, xi_add_int, xi_sub_int, xi_mul_int, xi_mod_int, xi_div_int, xi_pow_int, xi_int_int, xi_int_bl, xi_abs_int, xi_neg_int, dPar, dLst, listR, newL]
  refine ⟨xs, hx, fun r hr => ⟨by decide, fun f hf => ?_⟩⟩
  have rp : r ≠ p := fun z => by rw [z, hp] at hr; cases hr
  have fr : f ≠ r := fresh_ne hf
  have hf0 : S f = none := fresh_old hf
  have fp : f ≠ p := fun z => by rw [z, hp] at hf0; cases hf0
  have k2 : ∀ b o, S b = some o → put (put S r (.lst xs)) f (.lst []) b = some o := fun b o e => by
    rw [put_ne (ne_sm hf0 e), put_ne (ne_sm hr e)]
    exact e
  unfold dFor diRng1
  simp only [dSeq, dIfS, dTst, dCall, dOp, dUn, dVar, dC, dRet, dRetN, dNext, dAndV, dOrV, dNotV, dAnd, dOr, dNot, dIf, dB, dTup, aCons, aNil, dSet, dChain, dCont, dBreak, dDrop, dAttr, one, gdName, gdTup, gdCons, gdNil, bodyO, List.append_nil, List.length_cons, List.length_nil, List.getElem?_cons_zero, List.getElem?_cons_succ, List.set_cons_zero, List.set_cons_succ, Option.some.injEq, D.bl.injEq, exists_eq_left', exists_eq_left, true_and, Nat.reduceAdd, Nat.zero_add, if_true, if_false, Bool.false_eq_true, Bool.not_true, Bool.not_false, reduceCtorEq, xi_cmp_int, xi_add_int, xi_sub_int, xi_mul_int, xi_mod_int, xi_div_int, xi_pow_int, xi_int_int, xi_int_bl, xi_abs_int, xi_neg_int]
  refine len_sq (sqD_keep hx k2) ⟨by omega, by omega, ?_⟩
  refine for_range (fun i ρ S1 => ∃ o rs fs c1 l1, ρ = [some (.ref p), some d, o, some (.ref r), some (.ref f)] ∧ S1 p = some (penO ns c1 l1) ∧ S1 r = some (.lst rs) ∧ S1 f = some (.lst fs) ∧ (fs ++ rs).Perm xs ∧ fs.length = i ∧ 0 ≤ c1 ∧ c1 ≤ c + i ∧ ∀ b o, b ≠ p → S b = some o → S1 b = some o) xs.length 0 _ _ (fun i ρ S1 nx _ hi I hnx => ?_) ⟨_, xs, [], c, left, rfl, k2 _ _ hp, ?_, put_same, by simp, rfl, h0, by simp, fun b o _ => k2 b o⟩ fun ρ S1 I => ?_
  · obtain ⟨o, rs, fs, c1, l1, rfl, g1, g2, g3, g4, g5, g6, g7, g8⟩ := I
    have hlen : fs.length + rs.length = xs.length := by rw [← g4.length_eq, List.length_append]
    simp only [dSeq, dIfS, dTst, dCall, dOp, dUn, dVar, dC, dRet, dRetN, dNext, dAndV, dOrV, dNotV, dAnd, dOr, dNot, dIf, dB, dTup, aCons, aNil, dSet, dChain, dCont, dBreak, dDrop, dAttr, one, gdName, gdTup, gdCons, gdNil, bodyO, List.append_nil, List.length_cons, List.length_nil, List.getElem?_cons_zero, List.getElem?_cons_succ, List.set_cons_zero, List.set_cons_succ, Option.some.injEq, D.bl.injEq, exists_eq_left', exists_eq_left, true_and, Nat.reduceAdd, Nat.zero_add, if_true, if_false, Bool.false_eq_true, Bool.not_true, Bool.not_false, reduceCtorEq, xi_cmp_int, xi_add_int, xi_sub_int, xi_mul_int, xi_mod_int, xi_div_int, xi_pow_int, xi_int_int, xi_int_bl, xi_abs_int, xi_neg_int, dBM]
    refine ⟨.inl ⟨rfl, fs, by simp only [lsD, g3]⟩, .inl ⟨rfl, rs, by simp only [lsD, g2]⟩, rs, by simp only [sqD, g2], ?_⟩
    refine ⟨p, _, ns, c1, l1, rfl, g1, g6, by omega, by omega, fun k c2 l2 r0 r1 a2 b2 => ?_⟩
    have hk : k < rs.length := by omega
    simp only [popAtR, refLs]
    have hk2 : k.toNat < rs.length := by omega
    refine ⟨rs, by rw [put_ne rp]; exact g2, by omega, by omega, k.toNat, rs[k.toNat], seq_ix r0 hk, List.getElem?_eq_getElem hk2, ?_⟩
    simp only [appendR, refLs]
    refine ⟨fs, by rw [put_ne fr, put_ne fp]; exact g3, by have : sizeLine = 2 ^ 24 := rfl; omega, hnx _ _ ⟨_, rs.eraseIdx k.toNat, fs ++ [rs[k.toNat]], c2, l2, rfl, ?_, ?_, put_same, ?_, by simp; omega, a2, by omega, fun b o hb e => ?_⟩⟩
    · rw [put_ne (Ne.symm fp), put_ne (Ne.symm rp)]; exact put_same
    · rw [put_ne (Ne.symm fr)]; exact put_same
    · rw [List.append_assoc]
      exact (List.Perm.append_left fs (perm_erase hk2)).trans g4
    · rw [put_ne (ne_sm hf0 e), put_ne (ne_sm hr e), put_ne hb]
      exact g8 b o hb e
  · rw [put_ne (Ne.symm fr)]; exact put_same
  · obtain ⟨o, rs, fs, c1, l1, rfl, g1, g2, g3, g4, g5, g6, g7, g8⟩ := I
    have hlen : fs.length + rs.length = xs.length := by rw [← g4.length_eq, List.length_append]
    have : rs = [] := List.length_eq_zero_iff.mp (by omega)
    subst this
    rw [List.append_nil] at g4
    simp only [dSeq, dIfS, dTst, dCall, dOp, dUn, dVar, dC, dRet, dRetN, dNext, dAndV, dOrV, dNotV, dAnd, dOr, dNot, dIf, dB, dTup, aCons, aNil, dSet, dChain, dCont, dBreak, dDrop, dAttr, one, gdName, gdTup, gdCons, gdNil, bodyO, List.append_nil, List.length_cons, List.length_nil, List.getElem?_cons_zero, List.getElem?_cons_succ, List.set_cons_zero, List.set_cons_succ, Option.some.injEq, D.bl.injEq, exists_eq_left', exists_eq_left, true_and, Nat.reduceAdd, Nat.zero_add, if_true, if_false, Bool.false_eq_true, Bool.not_true, Bool.not_false, reduceCtorEq, xi_cmp_int, xi_add_int, xi_sub_int, xi_mul_int, xi_mod_int, xi_div_int, xi_pow_int, xi_int_int, xi_int_bl, xi_abs_int, xi_neg_int]
    exact Fz.same (q S1 f fs c1 l1 g4 g3 fp hf0 g1 g6 (by omega) g8)
end
end K01
/-! K01F: the pen among other things; wants. -/
namespace Dl
open PySem PySem.Spec PyProof.Rows L2
/-- a comprehension that changes the store -/
theorem lc_inv {stb : Sto → Prop} {g : TDG} {te : TDE} {ρ : DEnv} {Q : List D → Sto → Prop} (I : Nat → List D → Sto → Prop) (hs : ∀ i acc S, I i acc S → stb S) : ∀ (xs : List D) (i : Nat) (acc : List D) (S : Sto), I i acc S → acc.length + xs.length ≤ sizeLine →
    (∀ j x acc S (R : D → Sto → Prop), i ≤ j → xs[j - i]? = some x → I j acc S → (∀ y S', I (j + 1) (acc ++ [y]) S' → R y S') → g x ρ S fun ρ2 S2 => te ρ2 S2 R) → (∀ acc S, I (i + xs.length) acc S → Q acc S) → lcD stb g dYes te ρ Q xs acc S
  | [], i, acc, S, h0, hl, h, q => ⟨hs i acc S h0, q acc S h0⟩
  | x :: xs, i, acc, S, h0, hl, h, q => by
    refine ⟨hs i acc S h0, ?_⟩
    simp only [dYes, if_true]
    refine h i x acc S _ (Nat.le_refl _) (by simp) h0 fun y S' h1 => ⟨by simp at hl; omega, ?_⟩
    refine lc_inv I hs xs (i + 1) (acc ++ [y]) S' h1 (by simp at hl ⊢; omega) (fun j x acc S R hj hx => h j x acc S R (by omega) (by rw [show j - i = j - (i + 1) + 1 by omega]; simpa using hx)) (fun acc S h2 => q acc S (by rw [List.length_cons, show i + (xs.length + 1) = i + 1 + xs.length by omega]; exact h2))
/-- a walk -/
theorem for_inv {stb : Sto → Prop} {g : TDG} {tb : TDS} {O : DOut} (I : Nat → DEnv → Sto → Prop) (hs : ∀ i ρ S, I i ρ S → stb S) : ∀ (xs : List D) (i : Nat) (ρ : DEnv) (S : Sto), I i ρ S →
    (∀ j x ρ S nx bk, i ≤ j → xs[j - i]? = some x → I j ρ S → (∀ ρ' S', I (j + 1) ρ' S' → nx ρ' S') → g x ρ S fun ρ1 S1 => tb ⟨nx, O.rt, bk, nx⟩ ρ1 S1) → (∀ ρ S, I (i + xs.length) ρ S → O.nx ρ S) → forD stb g tb O xs ρ S
  | [], i, ρ, S, h0, h, q => ⟨hs i ρ S h0, q ρ S h0⟩
  | x :: xs, i, ρ, S, h0, h, q => by
    refine ⟨hs i ρ S h0, h i x ρ S _ _ (Nat.le_refl _) (by simp) h0 fun ρ' S' h1 => ?_⟩
    exact for_inv I hs xs (i + 1) ρ' S' h1 (fun j x ρ S nx bk hj hx => h j x ρ S nx bk (by omega) (by rw [show j - i = j - (i + 1) + 1 by omega]; simpa using hx)) (fun ρ S h2 => q ρ S (by rw [List.length_cons, show i + (xs.length + 1) = i + 1 + xs.length by omega]; exact h2))
/-- the pen, and what was there at S0 -/
structure Pn (ns : List Int) (p : Addr) (S0 : Sto) (B : Int) (S : Sto) : Prop where
  pen : ∃ c left, S p = some (penO ns c left) ∧ 0 ≤ c ∧ c ≤ B
  old : ∀ b o, b ≠ p → S0 b = some o → S b = some o
section
variable {ns : List Int} {p : Addr} {S0 S : Sto} {B : Int} {P : D → Sto → Prop} {E : EX}
theorem Pn.mono {B' : Int} (h : Pn ns p S0 B S) (hB : B ≤ B') : Pn ns p S0 B' S := by
  obtain ⟨c, l, h1, h2, h3⟩ := h.pen
  exact ⟨⟨c, l, h1, h2, by omega⟩, h.old⟩
theorem Pn.here (h : ∃ c left, S p = some (penO ns c left) ∧ 0 ≤ c ∧ c ≤ B) : Pn ns p S B S := ⟨h, fun _ _ _ e => e⟩
theorem Pn.lay {x : Addr} {o : O} (h : Pn ns p S0 B S) (hx : S x = none) : Pn ns p S0 B (put S x o) := by
  obtain ⟨c, l, h1, h2, h3⟩ := h.pen
  exact ⟨⟨c, l, by rw [put_ne (ne_sm hx h1)]; exact h1, h2, h3⟩, fun b o hb e => by have := h.old b o hb e; rw [put_ne (ne_sm hx this)]; exact this⟩
theorem Pn.draw {many : Int} (h : Pn ns p S0 B S) (hB : B < 1048576) (hm : many < 1073741824) (q : ∀ r S', 0 ≤ r → (r < many ∨ r = 0) → Pn ns p S0 (B + 1) S' → (∀ b, b ≠ p → S' b = S b) → P (.int r) S') : Φdraw [.ref p, .int many] S P E := by
  obtain ⟨c, l, h1, h2, h3⟩ := h.pen
  refine ⟨p, many, ns, c, l, rfl, h1, h2, by omega, hm, fun r c' l' r0 r1 a b => q r _ r0 r1 ⟨⟨c', l', put_same, a, by omega⟩, fun x o hx e => ?_⟩ fun x hx => put_ne hx⟩
  rw [put_ne hx]
  exact h.old x o hx e
theorem Pn.pick {xs : List D} (h : Pn ns p S0 B S) (hB : B < 1048576) (hx : xs ≠ []) (hl : xs.length < 1000) (q : ∀ (i : Nat) (x : D) (S' : Sto), xs[i]? = some x → Pn ns p S0 (B + 1) S' → (∀ b, b ≠ p → S' b = S b) → P x S') : Φpick [.ref p, .lst xs] S P E := by
  obtain ⟨c, l, h1, h2, h3⟩ := h.pen
  refine ⟨p, _, xs, ns, c, l, rfl, rfl, hx, hl, h1, h2, by omega, fun i x c' l' hi a b => q i x _ hi ⟨⟨c', l', put_same, a, by omega⟩, fun x o hx e => ?_⟩ fun x hx => put_ne hx⟩
  rw [put_ne hx]
  exact h.old x o hx e
end
end Dl
namespace K01
open PySem PySem.Spec PyProof.Rows L2 Dl LamX NdefX
section
variable {K : PySem.W.Frag} {a : Ad}
theorem Pn_mixed {ns : List Int} {p : Addr} {S0 S : Sto} {B : Int} {P : D → Sto → Prop} {E : EX} {d : D} {xs : List D} (h : Pn ns p S0 B S) (hB : B + 100 < 1048576) (hx : sqD S d = some xs) (hl : xs.length ≤ 100)
    (q : ∀ S' f ys, ys.Perm xs → S' f = some (.lst ys) → f ≠ p → Pn ns p S0 (B + xs.length) S' → (∀ b o, b ≠ p → S b = some o → S' b = some o) → P (.ref f) S') : Φmixed [.ref p, d] S P E := by
  obtain ⟨c, l, h1, h2, h3⟩ := h.pen
  exact ⟨p, d, xs, ns, c, l, rfl, hx, hl, h1, h2, by omega, fun S' f ys c' l' pm hf fp _ hp' c0 c1 old => q S' f ys pm hf fp ⟨⟨c', l', hp', c0, by omega⟩, fun b o hb e => old b o hb (h.old b o hb e)⟩ old⟩
/-- isles' names and their modes' names -/
def KnownO (o : D) : Prop := ∃ (z : Str) (ms : List Str), o = .tup [.str z, .lst (ms.map .str)] ∧ PyData.strOk z = true ∧ ms ≠ [] ∧ ms.length ≤ 5
def Φwants : Phi := fun ds S P _ => ∃ p z known ns B S0, ds = [.ref p, .str z, .lst known] ∧ PyData.strOk z = true ∧ known.length ≤ 6 ∧ (∀ o, o ∈ known → KnownO o) ∧ Pn ns p S0 B S ∧ B + 200 < 1048576 ∧
  ∀ fs S', Pn ns p S0 (B + 9) S' → (∀ b o, b ≠ p → S b = some o → S' b = some o) → P (.tup fs) S'
theorem take_le {xs : List D} {k : Int} (h : 0 ≤ k) : ∃ n : Nat, cutL xs none (some k) = xs.take n ∧ (n : Int) ≤ k := by
  unfold cutL HT.sIx
  simp
  rw [if_neg (by omega)]
  exact ⟨min k.toNat xs.length, rfl, by omega⟩
theorem vc__law_wants (ds S P PE) (hl : ds.length = 3) (h : Φwants ds S P PE) : t__law_wants K a Φmixed Φpick PE (bodyO P) (startD N__law_wants ds) S := by
  obtain ⟨p, z, known, ns, B, S0, rfl, hz, hk, hko, pn, hB, q⟩ := h
  simp only [t__law_wants, st__law_wants, dSeq, dIfS, dTst, dCall, dOp, dUn, dVar, dC, dRet, dRetN, dNext, dAndV, dOrV, dNotV, dAnd, dOr, dNot, dIf, dB, dTup, aCons, aNil, dSet, dChain, dCont, dBreak, dDrop, dAttr, one, gdName, gdTup, gdCons, gdNil, bodyO, List.append_nil, List.length_cons, List.length_nil, List.getElem?_cons_zero, List.getElem?_cons_succ, List.set_cons_zero, List.set_cons_succ, Option.some.injEq, D.bl.injEq, exists_eq_left', exists_eq_left, true_and, Nat.reduceAdd, Nat.zero_add, if_true, if_false, Bool.false_eq_true, Bool.not_true, Bool.not_false, reduceCtorEq, xi_cmp_int, xi_add_int, xi_sub_int, xi_mul_int, xi_mod_int, xi_div_int, xi_pow_int, xi_int_int, xi_int_bl, xi_abs_int, xi_neg_int, dPar, dLst]
  unfold dLc diSeq
  simp only [dSeq, dIfS, dTst, dCall, dOp, dUn, dVar, dC, dRet, dRetN, dNext, dAndV, dOrV, dNotV, dAnd, dOr, dNot, dIf, dB, dTup, aCons, aNil, dSet, dChain, dCont, dBreak, dDrop, dAttr, one, gdName, gdTup, gdCons, gdNil, bodyO, List.append_nil, List.length_cons, List.length_nil, List.getElem?_cons_zero, List.getElem?_cons_succ, List.set_cons_zero, List.set_cons_succ, Option.some.injEq, D.bl.injEq, exists_eq_left', exists_eq_left, true_and, Nat.reduceAdd, Nat.zero_add, if_true, if_false, Bool.false_eq_true, Bool.not_true, Bool.not_false, reduceCtorEq, xi_cmp_int, xi_add_int, xi_sub_int, xi_mul_int, xi_mod_int, xi_div_int, xi_pow_int, xi_int_int, xi_int_bl, xi_abs_int, xi_neg_int, walkD, wipeD]
  refine lc_listF (fun o => !(match o with | .tup [.str y, _] => decide (y = z) | _ => false)) id trivial _ [] (by have : sizeLine = 2 ^ 24 := rfl; simp; omega) (fun o ho R R2 r => ?_) ?_
  · obtain ⟨y, ms, rfl, hy, _⟩ := hko o ho
    simp only [dSeq, dIfS, dTst, dCall, dOp, dUn, dVar, dC, dRet, dRetN, dNext, dAndV, dOrV, dNotV, dAnd, dOr, dNot, dIf, dB, dTup, aCons, aNil, dSet, dChain, dCont, dBreak, dDrop, dAttr, one, gdName, gdTup, gdCons, gdNil, bodyO, List.append_nil, List.length_cons, List.length_nil, List.getElem?_cons_zero, List.getElem?_cons_succ, List.set_cons_zero, List.set_cons_succ, Option.some.injEq, D.bl.injEq, exists_eq_left', exists_eq_left, true_and, Nat.reduceAdd, Nat.zero_add, if_true, if_false, Bool.false_eq_true, Bool.not_true, Bool.not_false, reduceCtorEq, xi_cmp_int, xi_add_int, xi_sub_int, xi_mul_int, xi_mod_int, xi_div_int, xi_pow_int, xi_int_int, xi_int_bl, xi_abs_int, xi_neg_int]
    exact ⟨_, .str y, rfl, rfl, Dl.ne_str hy hz ⟨_, rfl, r⟩⟩
  · simp only [newL, dSeq, dIfS, dTst, dCall, dOp, dUn, dVar, dC, dRet, dRetN, dNext, dAndV, dOrV, dNotV, dAnd, dOr, dNot, dIf, dB, dTup, aCons, aNil, dSet, dChain, dCont, dBreak, dDrop, dAttr, one, gdName, gdTup, gdCons, gdNil, bodyO, List.append_nil, List.length_cons, List.length_nil, List.getElem?_cons_zero, List.getElem?_cons_succ, List.set_cons_zero, List.set_cons_succ, Option.some.injEq, D.bl.injEq, exists_eq_left', exists_eq_left, true_and, Nat.reduceAdd, Nat.zero_add, if_true, if_false, Bool.false_eq_true, Bool.not_true, Bool.not_false, reduceCtorEq, xi_cmp_int, xi_add_int, xi_sub_int, xi_mul_int, xi_mod_int, xi_div_int, xi_pow_int, xi_int_int, xi_int_bl, xi_abs_int, xi_neg_int, List.nil_append, List.map_id, if_true]
    refine ⟨by decide, fun f hf => ?_⟩
    have fp : f ≠ p := by obtain ⟨c, l, h1, _⟩ := pn.pen; exact fun e => by rw [e, h1] at hf; cases hf
    have pn1 := pn.lay (o := .lst []) hf
    have old1 : ∀ b o, b ≠ p → S b = some o → put S f (.lst []) b = some o := fun b o _ e => by rw [put_ne (ne_sm hf e)]; exact e
    have hf1 : put S f (.lst []) f = some (.lst []) := put_same
    generalize put S f (.lst []) = S1 at *
    have hol : ∀ o, o ∈ known.filter (fun o => !(match o with | .tup [.str y, _] => decide (y = z) | _ => false)) → KnownO o := fun o ho => hko o (List.mem_filter.mp ho).1
    have hln : (known.filter (fun o => !(match o with | .tup [.str y, _] => decide (y = z) | _ => false))).length ≤ 6 := Nat.le_trans (List.length_filter_le _ _) hk
    generalize known.filter (fun o => !(match o with | .tup [.str y, _] => decide (y = z) | _ => false)) = others at *
    unfold dFor
    simp only [dSeq, dIfS, dTst, dCall, dOp, dUn, dVar, dC, dRet, dRetN, dNext, dAndV, dOrV, dNotV, dAnd, dOr, dNot, dIf, dB, dTup, aCons, aNil, dSet, dChain, dCont, dBreak, dDrop, dAttr, one, gdName, gdTup, gdCons, gdNil, bodyO, List.append_nil, List.length_cons, List.length_nil, List.getElem?_cons_zero, List.getElem?_cons_succ, List.set_cons_zero, List.set_cons_succ, Option.some.injEq, D.bl.injEq, exists_eq_left', exists_eq_left, true_and, Nat.reduceAdd, Nat.zero_add, if_true, if_false, Bool.false_eq_true, Bool.not_true, Bool.not_false, reduceCtorEq, xi_cmp_int, xi_add_int, xi_sub_int, xi_mul_int, xi_mod_int, xi_div_int, xi_pow_int, xi_int_int, xi_int_bl, xi_abs_int, xi_neg_int, dSl, oNone, oSome, dLst, newL]
    refine Pn_mixed pn1 (by omega) rfl (by omega) fun S2 g ys pm hg gp pn2 old2 => ?_
    refine ⟨by decide, Pn.pick pn2 (by omega) (by simp) (by simp) fun i x S3 hi pn3 e3 => ?_⟩
    obtain ⟨k, rfl, k0, k2⟩ : ∃ k : Int, x = .int k ∧ 0 ≤ k ∧ k ≤ 2 := by
      have := List.mem_of_getElem? hi
      simp only [List.mem_cons, List.not_mem_nil, or_false] at this
      rcases this with rfl | rfl | rfl | rfl | rfl | rfl <;> exact ⟨_, rfl, by decide, by decide⟩
    simp only [slR, lsD]
    refine ⟨ys, by rw [e3 g gp, hg], ?_⟩
    obtain ⟨n, hn, hn2⟩ := take_le (xs := ys) k0
    rw [hn]
    simp only [newL, Bool.false_eq_true, if_false]
    refine for_inv (fun j ρ S4 => ∃ o5 o6 fs, ρ = [some (.ref p), some (.str z), some (.lst known), some (.lst others), some (.ref f), o5, o6, none] ∧ S4 f = some (.lst fs) ∧ fs.length = j ∧ Pn ns p S0 (B + 7 + j) S4 ∧ ∀ b o, b ≠ p → b ≠ f → S b = some o → S4 b = some o) (fun _ _ _ _ => trivial) _ 0 _ S3 ⟨_, _, [], rfl, ?_, rfl, pn3.mono (by omega), fun b o hb hbf e => ?_⟩ (fun j x ρ S4 nx bk hj hx I hnx => ?_) fun ρ S4 I => ?_
    · rw [e3 f fp]; exact old2 f _ fp hf1
    · rw [e3 b hb]; exact old2 b o hb (old1 b o hb e)
    · obtain ⟨o5, o6, fs, rfl, g1, g2, g3, g4⟩ := I
      have hx2 : x ∈ ys := List.mem_of_mem_take (List.mem_of_getElem? hx)
      have hjn : j < n := by
        have := (List.getElem?_eq_some_iff.mp hx).1
        simp at this
        omega
      obtain ⟨y, ms, rfl, hy, hne, hm5⟩ := hol x (pm.mem_iff.mp hx2)
      simp only [dSeq, dIfS, dTst, dCall, dOp, dUn, dVar, dC, dRet, dRetN, dNext, dAndV, dOrV, dNotV, dAnd, dOr, dNot, dIf, dB, dTup, aCons, aNil, dSet, dChain, dCont, dBreak, dDrop, dAttr, one, gdName, gdTup, gdCons, gdNil, bodyO, List.append_nil, List.length_cons, List.length_nil, List.getElem?_cons_zero, List.getElem?_cons_succ, List.set_cons_zero, List.set_cons_succ, Option.some.injEq, D.bl.injEq, exists_eq_left', exists_eq_left, true_and, Nat.reduceAdd, Nat.zero_add, if_true, if_false, Bool.false_eq_true, Bool.not_true, Bool.not_false, reduceCtorEq, xi_cmp_int, xi_add_int, xi_sub_int, xi_mul_int, xi_mod_int, xi_div_int, xi_pow_int, xi_int_int, xi_int_bl, xi_abs_int, xi_neg_int, dBM]
      refine ⟨.inl ⟨rfl, fs, by simp only [lsD, g1]⟩, Pn.pick g3 (by omega) (by simpa using hne) (by simp; omega) fun i x S5 hi pn5 e5 => ⟨by decide, ?_⟩⟩
      simp only [appendR, refLs]
      have hf5 : S5 f = some (.lst fs) := by rw [e5 f fp]; exact g1
      refine ⟨fs, hf5, by have : sizeLine = 2 ^ 24 := rfl; omega, hnx _ _ ⟨_, _, _, rfl, put_same, by simp [g2], ?_, fun b o hb hbf e => by rw [put_ne hbf, e5 b hb]; exact g4 b o hb hbf e⟩⟩
      obtain ⟨c, l, h1, h2, h3⟩ := pn5.pen
      refine ⟨⟨c, l, by rw [put_ne (Ne.symm fp)]; exact h1, h2, by omega⟩, fun b o hb e => ?_⟩
      by_cases hbf : b = f
      · subst hbf
        have := pn.old _ o fp e
        rw [hf] at this
        cases this
      · rw [put_ne hbf]; exact pn5.old b o hb e
    · obtain ⟨o5, o6, fs, rfl, g1, g2, g3, g4⟩ := I
      simp only [dSeq, dIfS, dTst, dCall, dOp, dUn, dVar, dC, dRet, dRetN, dNext, dAndV, dOrV, dNotV, dAnd, dOr, dNot, dIf, dB, dTup, aCons, aNil, dSet, dChain, dCont, dBreak, dDrop, dAttr, one, gdName, gdTup, gdCons, gdNil, bodyO, List.append_nil, List.length_cons, List.length_nil, List.getElem?_cons_zero, List.getElem?_cons_succ, List.set_cons_zero, List.set_cons_succ, Option.some.injEq, D.bl.injEq, exists_eq_left', exists_eq_left, true_and, Nat.reduceAdd, Nat.zero_add, if_true, if_false, Bool.false_eq_true, Bool.not_true, Bool.not_false, reduceCtorEq, xi_cmp_int, xi_add_int, xi_sub_int, xi_mul_int, xi_mod_int, xi_div_int, xi_pow_int, xi_int_int, xi_int_bl, xi_abs_int, xi_neg_int, tupleR, sqD]
      refine ⟨fs, by rw [g1], Fz.same (q fs S4 (g3.mono ?_) fun b o hb e => g4 b o hb (ne_sm hf e) e)⟩
      simp only [List.length_take]
      omega
end
end K01
/-! K01G: drawn yards. -/
namespace Dl
open PySem PySem.Spec PyProof.Rows L2
theorem perm_strs {ys : List D} {zs : List Str} (h : ys.Perm (zs.map .str)) : ∃ ws : List Str, ys = ws.map .str ∧ ws.Perm zs := by
  let f : D → Str := fun d => match d with | .str z => z | _ => Str.empty
  have h1 : ∀ y, y ∈ ys → D.str (f y) = y := fun y hy => by
    obtain ⟨z, _, rfl⟩ := List.mem_map.mp (h.mem_iff.mp hy)
    rfl
  refine ⟨ys.map f, ?_, ?_⟩
  · rw [List.map_map]
    exact (List.map_id' ys).symm.trans (List.map_congr_left fun y hy => (h1 y hy).symm)
  · have := h.map f
    rw [List.map_map] at this
    exact this.trans (by rw [show (zs.map (f ∘ D.str)) = zs from (List.map_congr_left fun z _ => rfl).trans (List.map_id' zs)])
theorem take_eq {xs : List D} {k : Int} (h : 0 ≤ k) : cutL xs none (some k) = xs.take k.toNat := by
  unfold cutL HT.sIx
  simp
  rw [if_neg (by omega)]
  omega
theorem Pn.write {ns : List Int} {p f : Addr} {S0 S : Sto} {B : Int} {o : O} (h : Pn ns p S0 B S) (hf : S0 f = none) (fp : f ≠ p) : Pn ns p S0 B (put S f o) := by
  obtain ⟨c, l, h1, h2, h3⟩ := h.pen
  exact ⟨⟨c, l, by rw [put_ne (Ne.symm fp)]; exact h1, h2, h3⟩, fun b u hb e => by rw [put_ne (ne_sm hf e)]; exact h.old b u hb e⟩
theorem lss_map (F : D → List D) : ∀ xs : List D, lssD (xs.map fun x => .lst (F x)) = some (xs.map F)
  | [] => rfl
  | x :: xs => by simp only [List.map_cons, lssD, lss_map F xs]; rfl
theorem flat_le {yss : List (List D)} {n : Nat} (h : ∀ ys, ys ∈ yss → ys.length ≤ n) : yss.flatten.length ≤ n * yss.length := by
  induction yss with
  | nil => simp
  | cons y ys ih =>
    rw [List.flatten_cons, List.length_append, List.length_cons, Nat.mul_add]
    have h1 := h y (by simp)
    have h2 := ih fun z hz => h z (List.mem_cons_of_mem _ hz)
    omega
end Dl
namespace K01
open PySem PySem.Spec PyProof.Rows L2 Dl LamX NdefX
section
variable {K : PySem.W.Frag} {a : Ad}
def NM : List Str := ["a", "bb", "sun", "lamp", "zzzzzzzz", "on"]
def MM : List Str := ["on", "off", "a", "low", "highhigh"]
theorem nm_nodup : NM.Nodup := by decide +kernel
theorem mm_nodup : MM.Nodup := by decide +kernel
theorem nm_ok : ∀ z, z ∈ NM → isNameE (.str z) = true := by
  have : NM.all (fun z => isNameE (.str z)) = true := by decide +kernel
  exact List.all_eq_true.mp this
theorem mm_ok : ∀ z, z ∈ MM → isNameE (.str z) = true := by
  have : MM.all (fun z => isNameE (.str z)) = true := by decide +kernel
  exact List.all_eq_true.mp this
theorem nm_str : ∀ z, z ∈ NM → PyData.strOk z = true := List.all_eq_true.mp (by decide +kernel : NM.all PyData.strOk = true)
theorem mm_str : ∀ z, z ∈ MM → PyData.strOk z = true := List.all_eq_true.mp (by decide +kernel : MM.all PyData.strOk = true)
/-- a drawn mode -/
def ModeW (m : D) : Prop := ∃ (z : Str) (i : Int) (b : Bool), m = .tup [.str z, .int i, .bl b] ∧ z ∈ MM ∧ -1000000 ≤ i ∧ i ≤ 1000000
/-- a drawn isle, its moves left open -/
def IsleW (o : D) : Prop := ∃ (z : Str) (b : Bool) (ms : List D) (mv : List D), o = .tup [.str z, .bl b, .tup ms, .tup mv] ∧ z ∈ NM ∧ 1 ≤ ms.length ∧ ms.length ≤ 5 ∧ (∀ m, m ∈ ms → ModeW m) ∧ unlike (ms.map at0) = true
/-- a known one: its name, its modes' names -/
def KnW (o : D) : Prop := ∃ (z : Str) (ms : List Str), o = .tup [.str z, .lst (ms.map .str)] ∧ z ∈ NM ∧ 1 ≤ ms.length ∧ ms.length ≤ 5 ∧ ms.Nodup ∧ ∀ m, m ∈ ms → m ∈ MM
theorem KnW.o {o : D} (h : KnW o) : KnownO o := by
  obtain ⟨z, ms, rfl, h1, h2, h3, _⟩ := h
  exact ⟨z, ms, rfl, nm_str z h1, by intro e; rw [e] at h2; simp at h2, h3⟩
def sameS : D → D → Bool
  | .str x, .str y => decide (x = y)
  | _, _ => false
/-- from one mode to the others -/
def from_ (all : List D) (y : D) : List D := (all.filter fun l => !sameS l y).map fun l => .tup [y, l]
theorem pair_form {ms : List Str} {o : D} (h : o ∈ ((ms.map D.str).map (from_ (ms.map D.str))).flatten) : ∃ x y : Str, o = .tup [.str x, .str y] ∧ x ∈ ms ∧ y ∈ ms := by
  obtain ⟨l, hl, ho⟩ := List.mem_flatten.mp h
  obtain ⟨y, hy, rfl⟩ := List.mem_map.mp hl
  obtain ⟨z, hz, rfl⟩ := List.mem_map.mp hy
  obtain ⟨q, hq, rfl⟩ := List.mem_map.mp ho
  obtain ⟨w, hw, rfl⟩ := List.mem_map.mp (List.mem_filter.mp hq).1
  exact ⟨z, w, rfl, hz, hw⟩
def Φwide : Phi := fun ds S P _ => ∃ p ns B S0, ds = [.ref p, .int 6, .int 5] ∧ Pn ns p S0 B S ∧ B + 2000 < 1048576 ∧
  ∀ is bars wishes S', (∀ o, o ∈ is → IsleW o) → (∃ zs : List Str, is.map at0 = zs.map .str ∧ zs.Nodup) → 1 ≤ is.length → is.length ≤ 6 → Pn ns p S0 (B + 1500) S' → (∀ b o, b ≠ p → S b = some o → S' b = some o) → P (.tup [.tup is, bars, wishes]) S'
theorem vc__law_wide (ds S P PE) (hl : ds.length = 3) (h : Φwide ds S P PE) : t__law_wide K a Φmixed Φdraw Φpick Φwants PE (bodyO P) (startD N__law_wide ds) S := by
  obtain ⟨p, ns, B, S0, rfl, pn, hB, q⟩ := h
  simp only [t__law_wide, st__law_wide, dSeq, dIfS, dTst, dCall, dOp, dUn, dVar, dC, dRet, dRetN, dNext, dAndV, dOrV, dNotV, dAnd, dOr, dNot, dIf, dB, dTup, aCons, aNil, dSet, dChain, dCont, dBreak, dDrop, dAttr, one, gdName, gdTup, gdCons, gdNil, bodyO, List.append_nil, List.length_cons, List.length_nil, List.getElem?_cons_zero, List.getElem?_cons_succ, List.set_cons_zero, List.set_cons_succ, Option.some.injEq, D.bl.injEq, exists_eq_left', exists_eq_left, true_and, Nat.reduceAdd, Nat.zero_add, if_true, if_false, Bool.false_eq_true, Bool.not_true, Bool.not_false, reduceCtorEq, xi_cmp_int, xi_add_int, xi_sub_int, xi_mul_int, xi_mod_int, xi_div_int, xi_pow_int, xi_int_int, xi_int_bl, xi_abs_int, xi_neg_int, dLst, newL, dSl, oNone, oSome]
  have hnm : (NM.map D.str).length = 6 := rfl
  have hmm : (MM.map D.str).length = 5 := rfl
  refine ⟨by decide, Pn_mixed (xs := NM.map .str) pn (by omega) rfl (by decide) fun S1 f0 ys pm hf0 fp0 pn1 old1 => Pn.draw pn1 (by omega) (by decide) fun r S2 r0 r1 pn2 e2 => ?_⟩
  obtain ⟨zs, rfl, pz⟩ := perm_strs pm
  simp only [dSeq, dIfS, dTst, dCall, dOp, dUn, dVar, dC, dRet, dRetN, dNext, dAndV, dOrV, dNotV, dAnd, dOr, dNot, dIf, dB, dTup, aCons, aNil, dSet, dChain, dCont, dBreak, dDrop, dAttr, one, gdName, gdTup, gdCons, gdNil, bodyO, List.append_nil, List.length_cons, List.length_nil, List.getElem?_cons_zero, List.getElem?_cons_succ, List.set_cons_zero, List.set_cons_succ, Option.some.injEq, D.bl.injEq, exists_eq_left', exists_eq_left, true_and, Nat.reduceAdd, Nat.zero_add, if_true, if_false, Bool.false_eq_true, Bool.not_true, Bool.not_false, reduceCtorEq, xi_cmp_int, xi_add_int, xi_sub_int, xi_mul_int, xi_mod_int, xi_div_int, xi_pow_int, xi_int_int, xi_int_bl, xi_abs_int, xi_neg_int, slR, lsD]
  refine ⟨zs.map .str, by rw [e2 f0 fp0, hf0], ?_⟩
  rw [take_eq (show 0 ≤ 1 + r by omega), ← List.map_take]
  have zl : zs.length = 6 := pz.length_eq
  have hns : ∃ nms : List Str, zs.take (1 + r).toNat = nms ∧ 1 ≤ nms.length ∧ nms.length ≤ 6 ∧ nms.Nodup ∧ ∀ z, z ∈ nms → z ∈ NM := ⟨_, rfl, by rw [List.length_take]; omega, by rw [List.length_take]; omega, (pz.nodup_iff.mpr nm_nodup).sublist (List.take_sublist _ _), fun z hz => pz.mem_iff.mp (List.mem_of_mem_take hz)⟩
  obtain ⟨nms, hn, n1, n2, n3, n4⟩ := hns
  rw [hn]
  have old2 : ∀ b o, b ≠ p → S b = some o → S2 b = some o := fun b o hb e => by rw [e2 b hb]; exact old1 b o hb e
  have pn2' := pn2.mono (show B + ((NM.map D.str).length : Nat) + 1 ≤ B + 7 by omega)
  clear pn2 pn1 old1 e2 hf0 pm pz hn
  simp only [newL, Bool.false_eq_true, if_false]
  unfold dLc diSeq
  simp only [dSeq, dIfS, dTst, dCall, dOp, dUn, dVar, dC, dRet, dRetN, dNext, dAndV, dOrV, dNotV, dAnd, dOr, dNot, dIf, dB, dTup, aCons, aNil, dSet, dChain, dCont, dBreak, dDrop, dAttr, one, gdName, gdTup, gdCons, gdNil, bodyO, List.append_nil, List.length_cons, List.length_nil, List.getElem?_cons_zero, List.getElem?_cons_succ, List.set_cons_zero, List.set_cons_succ, Option.some.injEq, D.bl.injEq, exists_eq_left', exists_eq_left, true_and, Nat.reduceAdd, Nat.zero_add, if_true, if_false, Bool.false_eq_true, Bool.not_true, Bool.not_false, reduceCtorEq, xi_cmp_int, xi_add_int, xi_sub_int, xi_mul_int, xi_mod_int, xi_div_int, xi_pow_int, xi_int_int, xi_int_bl, xi_abs_int, xi_neg_int, walkD, wipeD]
  -- known
  refine lc_inv (fun j acc S3 => Pn ns p S0 (B + 7 + 6 * j) S3 ∧ (∀ b o, b ≠ p → S b = some o → S3 b = some o) ∧ acc.map at0 = (nms.take j).map .str ∧ ∀ o, o ∈ acc → KnW o) (fun _ _ _ _ => trivial) _ 0 [] S2 ⟨by simpa using pn2', old2, rfl, fun o ho => by simp at ho⟩ (by have : sizeLine = 2 ^ 24 := rfl; simp; omega) (fun j x acc S3 R hj hx I hR => ?_) fun known S3 I => ?_
  · obtain ⟨i1, i2, i3, i4⟩ := I
    rw [Nat.sub_zero, List.getElem?_map] at hx
    cases hz : nms[j]? with
    | none => rw [hz] at hx; cases hx
    | some z =>
    rw [hz] at hx
    cases hx
    have hj6 : j < nms.length := (List.getElem?_eq_some_iff.mp hz).1
    simp only [dSeq, dIfS, dTst, dCall, dOp, dUn, dVar, dC, dRet, dRetN, dNext, dAndV, dOrV, dNotV, dAnd, dOr, dNot, dIf, dB, dTup, aCons, aNil, dSet, dChain, dCont, dBreak, dDrop, dAttr, one, gdName, gdTup, gdCons, gdNil, bodyO, List.append_nil, List.length_cons, List.length_nil, List.getElem?_cons_zero, List.getElem?_cons_succ, List.set_cons_zero, List.set_cons_succ, Option.some.injEq, D.bl.injEq, exists_eq_left', exists_eq_left, true_and, Nat.reduceAdd, Nat.zero_add, if_true, if_false, Bool.false_eq_true, Bool.not_true, Bool.not_false, reduceCtorEq, xi_cmp_int, xi_add_int, xi_sub_int, xi_mul_int, xi_mod_int, xi_div_int, xi_pow_int, xi_int_int, xi_int_bl, xi_abs_int, xi_neg_int, dSl, oNone, oSome, dLst, newL]
    refine ⟨by decide, Pn_mixed (xs := MM.map .str) i1 (by omega) rfl (by decide) fun S4 f ys pm hf fp pn4 old4 => Pn.draw pn4 (by omega) (by decide) fun r S5 r0 r1 pn5 e5 => ?_⟩
    obtain ⟨ws, rfl, pw⟩ := perm_strs pm
    have wl : ws.length = 5 := pw.length_eq
    simp only [dSeq, dIfS, dTst, dCall, dOp, dUn, dVar, dC, dRet, dRetN, dNext, dAndV, dOrV, dNotV, dAnd, dOr, dNot, dIf, dB, dTup, aCons, aNil, dSet, dChain, dCont, dBreak, dDrop, dAttr, one, gdName, gdTup, gdCons, gdNil, bodyO, List.append_nil, List.length_cons, List.length_nil, List.getElem?_cons_zero, List.getElem?_cons_succ, List.set_cons_zero, List.set_cons_succ, Option.some.injEq, D.bl.injEq, exists_eq_left', exists_eq_left, true_and, Nat.reduceAdd, Nat.zero_add, if_true, if_false, Bool.false_eq_true, Bool.not_true, Bool.not_false, reduceCtorEq, xi_cmp_int, xi_add_int, xi_sub_int, xi_mul_int, xi_mod_int, xi_div_int, xi_pow_int, xi_int_int, xi_int_bl, xi_abs_int, xi_neg_int, slR, lsD]
    refine ⟨ws.map .str, by rw [e5 f fp, hf], ?_⟩
    rw [take_eq (show 0 ≤ 1 + r by omega), ← List.map_take]
    simp only [newL, Bool.false_eq_true, if_false]
    refine ⟨by decide, hR _ _ ⟨pn5.mono (by omega), fun b o hb e => by rw [e5 b hb]; exact old4 b o hb (i2 b o hb e), ?_, fun o ho => ?_⟩⟩
    · rw [List.map_append, i3, List.take_add_one, hz]
      simp [at0, kids, kidE]
    · rcases List.mem_append.mp ho with ho | ho
      · exact i4 o ho
      · rw [List.mem_singleton] at ho
        subst ho
        refine ⟨z, _, rfl, n4 z (List.mem_of_getElem? hz), by rw [List.length_take]; omega, by rw [List.length_take]; omega, (pw.nodup_iff.mpr mm_nodup).sublist (List.take_sublist _ _), fun m hm => pw.mem_iff.mp (List.mem_of_mem_take hm)⟩
  obtain ⟨i1, i2, i3, i4⟩ := I
  rw [Nat.zero_add, List.length_map, List.take_length] at i3
  have kl : known.length = nms.length := by have := congrArg List.length i3; simpa using this
  simp only [newL, Bool.false_eq_true, if_false, dSeq, dIfS, dTst, dCall, dOp, dUn, dVar, dC, dRet, dRetN, dNext, dAndV, dOrV, dNotV, dAnd, dOr, dNot, dIf, dB, dTup, aCons, aNil, dSet, dChain, dCont, dBreak, dDrop, dAttr, one, gdName, gdTup, gdCons, gdNil, bodyO, List.append_nil, List.length_cons, List.length_nil, List.getElem?_cons_zero, List.getElem?_cons_succ, List.set_cons_zero, List.set_cons_succ, Option.some.injEq, D.bl.injEq, exists_eq_left', exists_eq_left, true_and, Nat.reduceAdd, Nat.zero_add, if_true, if_false, Bool.false_eq_true, Bool.not_true, Bool.not_false, reduceCtorEq, xi_cmp_int, xi_add_int, xi_sub_int, xi_mul_int, xi_mod_int, xi_div_int, xi_pow_int, xi_int_int, xi_int_bl, xi_abs_int, xi_neg_int, if_true]
  rw [Nat.zero_add, List.length_map] at i1
  refine ⟨by decide, fun f hf => ?_⟩
  have fp : f ≠ p := by obtain ⟨c, l, h1, _⟩ := i1.pen; exact fun e => by rw [e, h1] at hf; cases hf
  have hf0 : S0 f = none := by
    cases e : S0 f with
    | none => rfl
    | some o => have := i1.old f o fp e; rw [hf] at this; cases this
  have hfS : S f = none := by
    cases e : S f with
    | none => rfl
    | some o => have := i2 f o fp e; rw [hf] at this; cases this
  unfold dFor
  simp only [dSeq, dIfS, dTst, dCall, dOp, dUn, dVar, dC, dRet, dRetN, dNext, dAndV, dOrV, dNotV, dAnd, dOr, dNot, dIf, dB, dTup, aCons, aNil, dSet, dChain, dCont, dBreak, dDrop, dAttr, one, gdName, gdTup, gdCons, gdNil, bodyO, List.append_nil, List.length_cons, List.length_nil, List.getElem?_cons_zero, List.getElem?_cons_succ, List.set_cons_zero, List.set_cons_succ, Option.some.injEq, D.bl.injEq, exists_eq_left', exists_eq_left, true_and, Nat.reduceAdd, Nat.zero_add, if_true, if_false, Bool.false_eq_true, Bool.not_true, Bool.not_false, reduceCtorEq, xi_cmp_int, xi_add_int, xi_sub_int, xi_mul_int, xi_mod_int, xi_div_int, xi_pow_int, xi_int_int, xi_int_bl, xi_abs_int, xi_neg_int]
  refine for_inv (fun j ρ S4 => ∃ x9 x10 x11 x12 x13 is, ρ = [some (.ref p), some (.int 6), some (.int 5), some (.lst (nms.map .str)), some (.lst known), some (.ref f), none, none, none, x9, x10, x11, x12, x13, none, none, none] ∧ S4 f = some (.lst is) ∧ is.length = j ∧ (∀ o, o ∈ is → IsleW o) ∧ is.map at0 = (nms.take j).map .str ∧ Pn ns p S0 (B + 43 + 130 * j) S4 ∧ ∀ b o, b ≠ p → S b = some o → S4 b = some o) (fun _ _ _ _ => trivial) _ 0 _ _
    ⟨_, _, _, _, _, [], rfl, put_same, rfl, fun o ho => by simp at ho, rfl, (i1.lay hf).mono (by omega), fun b o hb e => by rw [put_ne (ne_sm hfS e)]; exact i2 b o hb e⟩ (fun j x ρ S4 nx bk hj hx I hnx => ?_) fun ρ S4 I => ?_
  · obtain ⟨x9, x10, x11, x12, x13, is, rfl, g1, g2, g3, g4, g5, g6⟩ := I
    rw [Nat.sub_zero] at hx
    have hjk : j < nms.length := by rw [← kl]; exact (List.getElem?_eq_some_iff.mp hx).1
    obtain ⟨z, ms, rfl, z1, z2, z3, z4, z5⟩ := i4 x (List.mem_of_getElem? hx)
    simp only [dSeq, dIfS, dTst, dCall, dOp, dUn, dVar, dC, dRet, dRetN, dNext, dAndV, dOrV, dNotV, dAnd, dOr, dNot, dIf, dB, dTup, aCons, aNil, dSet, dChain, dCont, dBreak, dDrop, dAttr, one, gdName, gdTup, gdCons, gdNil, bodyO, List.append_nil, List.length_cons, List.length_nil, List.getElem?_cons_zero, List.getElem?_cons_succ, List.set_cons_zero, List.set_cons_succ, Option.some.injEq, D.bl.injEq, exists_eq_left', exists_eq_left, true_and, Nat.reduceAdd, Nat.zero_add, if_true, if_false, Bool.false_eq_true, Bool.not_true, Bool.not_false, reduceCtorEq, xi_cmp_int, xi_add_int, xi_sub_int, xi_mul_int, xi_mod_int, xi_div_int, xi_pow_int, xi_int_int, xi_int_bl, xi_abs_int, xi_neg_int]
    -- its modes
    refine lc_inv (fun i acc S5 => Pn ns p S0 (B + 43 + 130 * j + 2 * i) S5 ∧ (∀ b o, b ≠ p → S4 b = some o → S5 b = some o) ∧ acc.map at0 = (ms.take i).map .str ∧ ∀ o, o ∈ acc → ModeW o) (fun _ _ _ _ => trivial) _ 0 [] S4 ⟨by simpa using g5, fun b o _ e => e, rfl, fun o ho => by simp at ho⟩ (by have : sizeLine = 2 ^ 24 := rfl; simp; omega) (fun i x acc S5 R hi hx I hR => ?_) fun modes S5 I => ?_
    · obtain ⟨k1, k2, k3, k4⟩ := I
      rw [Nat.sub_zero, List.getElem?_map] at hx
      cases hm : ms[i]? with
      | none => rw [hm] at hx; cases hx
      | some m =>
      rw [hm] at hx
      cases hx
      have him : i < ms.length := (List.getElem?_eq_some_iff.mp hm).1
      simp only [dSeq, dIfS, dTst, dCall, dOp, dUn, dVar, dC, dRet, dRetN, dNext, dAndV, dOrV, dNotV, dAnd, dOr, dNot, dIf, dB, dTup, aCons, aNil, dSet, dChain, dCont, dBreak, dDrop, dAttr, one, gdName, gdTup, gdCons, gdNil, bodyO, List.append_nil, List.length_cons, List.length_nil, List.getElem?_cons_zero, List.getElem?_cons_succ, List.set_cons_zero, List.set_cons_succ, Option.some.injEq, D.bl.injEq, exists_eq_left', exists_eq_left, true_and, Nat.reduceAdd, Nat.zero_add, if_true, if_false, Bool.false_eq_true, Bool.not_true, Bool.not_false, reduceCtorEq, xi_cmp_int, xi_add_int, xi_sub_int, xi_mul_int, xi_mod_int, xi_div_int, xi_pow_int, xi_int_int, xi_int_bl, xi_abs_int, xi_neg_int, dLst, newL, dUn]
      refine ⟨by decide, Pn.pick k1 (by omega) (by simp) (by simp) fun t x S6 ht pn6 e6 => Pn.draw pn6 (by omega) (by decide) fun r S7 r0 r1 pn7 e7 => ?_⟩
      simp only [gtR, dSeq, dIfS, dTst, dCall, dOp, dUn, dVar, dC, dRet, dRetN, dNext, dAndV, dOrV, dNotV, dAnd, dOr, dNot, dIf, dB, dTup, aCons, aNil, dSet, dChain, dCont, dBreak, dDrop, dAttr, one, gdName, gdTup, gdCons, gdNil, bodyO, List.append_nil, List.length_cons, List.length_nil, List.getElem?_cons_zero, List.getElem?_cons_succ, List.set_cons_zero, List.set_cons_succ, Option.some.injEq, D.bl.injEq, exists_eq_left', exists_eq_left, true_and, Nat.reduceAdd, Nat.zero_add, if_true, if_false, Bool.false_eq_true, Bool.not_true, Bool.not_false, reduceCtorEq, xi_cmp_int, xi_add_int, xi_sub_int, xi_mul_int, xi_mod_int, xi_div_int, xi_pow_int, xi_int_int, xi_int_bl, xi_abs_int, xi_neg_int]
      refine ⟨by decide, hR _ _ ⟨pn7.mono (by omega), fun b o hb e => by rw [e7 b hb, e6 b hb]; exact k2 b o hb e, ?_, fun o ho => ?_⟩⟩
      · rw [List.map_append, k3, List.take_add_one, hm]
        simp [at0, kids, kidE]
      · rcases List.mem_append.mp ho with ho | ho
        · exact k4 o ho
        · rw [List.mem_singleton] at ho
          subst ho
          have := List.mem_of_getElem? ht
          simp only [List.mem_cons, List.not_mem_nil, or_false] at this
          rcases this with rfl | rfl | rfl | rfl | rfl | rfl | rfl | rfl | rfl <;> exact ⟨m, _, _, rfl, z5 m (List.mem_of_getElem? hm), by decide, by decide⟩
    obtain ⟨k1, k2, k3, k4⟩ := I
    rw [Nat.zero_add, List.length_map] at k1 k3
    rw [List.take_length] at k3
    have hf5 : S5 f = some (.lst is) := k2 f _ fp g1
    have ml : modes.length = ms.length := by have := congrArg List.length k3; simpa using this
    refine ⟨modes, rfl, lc_list (fun y => .lst (from_ (ms.map D.str) y)) trivial _ [] (by have : sizeLine = 2 ^ 24 := rfl; simp; omega) (fun y hy R r => ?_) ?_⟩
    · obtain ⟨w, hw, rfl⟩ := List.mem_map.mp hy
      simp only [dSeq, dIfS, dTst, dCall, dOp, dUn, dVar, dC, dRet, dRetN, dNext, dAndV, dOrV, dNotV, dAnd, dOr, dNot, dIf, dB, dTup, aCons, aNil, dSet, dChain, dCont, dBreak, dDrop, dAttr, one, gdName, gdTup, gdCons, gdNil, bodyO, List.append_nil, List.length_cons, List.length_nil, List.getElem?_cons_zero, List.getElem?_cons_succ, List.set_cons_zero, List.set_cons_succ, Option.some.injEq, D.bl.injEq, exists_eq_left', exists_eq_left, true_and, Nat.reduceAdd, Nat.zero_add, if_true, if_false, Bool.false_eq_true, Bool.not_true, Bool.not_false, reduceCtorEq, xi_cmp_int, xi_add_int, xi_sub_int, xi_mul_int, xi_mod_int, xi_div_int, xi_pow_int, xi_int_int, xi_int_bl, xi_abs_int, xi_neg_int]
      refine lc_listF (fun l => !sameS l (.str w)) (fun l => .tup [.str w, l]) trivial _ [] (by have : sizeLine = 2 ^ 24 := rfl; simp; omega) (fun l hl R R2 r => ?_) (by simpa [from_] using r)
      obtain ⟨v, hv, rfl⟩ := List.mem_map.mp hl
      simp only [dSeq, dIfS, dTst, dCall, dOp, dUn, dVar, dC, dRet, dRetN, dNext, dAndV, dOrV, dNotV, dAnd, dOr, dNot, dIf, dB, dTup, aCons, aNil, dSet, dChain, dCont, dBreak, dDrop, dAttr, one, gdName, gdTup, gdCons, gdNil, bodyO, List.append_nil, List.length_cons, List.length_nil, List.getElem?_cons_zero, List.getElem?_cons_succ, List.set_cons_zero, List.set_cons_succ, Option.some.injEq, D.bl.injEq, exists_eq_left', exists_eq_left, true_and, Nat.reduceAdd, Nat.zero_add, if_true, if_false, Bool.false_eq_true, Bool.not_true, Bool.not_false, reduceCtorEq, xi_cmp_int, xi_add_int, xi_sub_int, xi_mul_int, xi_mod_int, xi_div_int, xi_pow_int, xi_int_int, xi_int_bl, xi_abs_int, xi_neg_int]
      exact Dl.ne_str (mm_str _ (z5 v hv)) (mm_str _ (z5 w hw)) ⟨_, rfl, by
        by_cases e : v = w
        · rw [show sameS (.str v) (.str w) = true from decide_eq_true e] at r
          rw [decide_eq_true e]
          simpa using r
        · rw [show sameS (.str v) (.str w) = false from decide_eq_false e] at r
          rw [decide_eq_false e]
          exact ⟨by decide, by simpa using r⟩⟩
    simp only [dSeq, dIfS, dTst, dCall, dOp, dUn, dVar, dC, dRet, dRetN, dNext, dAndV, dOrV, dNotV, dAnd, dOr, dNot, dIf, dB, dTup, aCons, aNil, dSet, dChain, dCont, dBreak, dDrop, dAttr, one, gdName, gdTup, gdCons, gdNil, bodyO, List.append_nil, List.length_cons, List.length_nil, List.getElem?_cons_zero, List.getElem?_cons_succ, List.set_cons_zero, List.set_cons_succ, Option.some.injEq, D.bl.injEq, exists_eq_left', exists_eq_left, true_and, Nat.reduceAdd, Nat.zero_add, if_true, if_false, Bool.false_eq_true, Bool.not_true, Bool.not_false, reduceCtorEq, xi_cmp_int, xi_add_int, xi_sub_int, xi_mul_int, xi_mod_int, xi_div_int, xi_pow_int, xi_int_int, xi_int_bl, xi_abs_int, xi_neg_int, dLst, newL, List.nil_append, Bool.false_eq_true, if_false]
    refine ⟨by decide, _, _, rfl, rfl, lss_map (from_ (ms.map D.str)) _, ?_, ?_⟩
    · refine Nat.le_trans (flat_le (n := 5) fun ys hy => ?_) (by have : sizeLine = 2 ^ 24 := rfl; simp; omega)
      obtain ⟨y, _, rfl⟩ := List.mem_map.mp hy
      unfold from_
      rw [List.length_map]
      exact Nat.le_trans (List.length_filter_le _ _) (by simpa using z3)
    have pf : ∀ o, o ∈ ((ms.map D.str).map (from_ (ms.map D.str))).flatten → ∃ x y : Str, o = .tup [.str x, .str y] ∧ x ∈ ms ∧ y ∈ ms := fun o ho => pair_form ho
    have pl : ((ms.map D.str).map (from_ (ms.map D.str))).flatten.length ≤ 25 := by
      refine Nat.le_trans (flat_le (n := 5) fun ys hy => ?_) (by simp; omega)
      obtain ⟨y, _, rfl⟩ := List.mem_map.mp hy
      unfold from_
      rw [List.length_map]
      exact Nat.le_trans (List.length_filter_le _ _) (by simpa using z3)
    generalize ((ms.map D.str).map (from_ (ms.map D.str))).flatten = pairs at *
    simp only [dSl, oNone, oSome, dSeq, dIfS, dTst, dCall, dOp, dUn, dVar, dC, dRet, dRetN, dNext, dAndV, dOrV, dNotV, dAnd, dOr, dNot, dIf, dB, dTup, aCons, aNil, dSet, dChain, dCont, dBreak, dDrop, dAttr, one, gdName, gdTup, gdCons, gdNil, bodyO, List.append_nil, List.length_cons, List.length_nil, List.getElem?_cons_zero, List.getElem?_cons_succ, List.set_cons_zero, List.set_cons_succ, Option.some.injEq, D.bl.injEq, exists_eq_left', exists_eq_left, true_and, Nat.reduceAdd, Nat.zero_add, if_true, if_false, Bool.false_eq_true, Bool.not_true, Bool.not_false, reduceCtorEq, xi_cmp_int, xi_add_int, xi_sub_int, xi_mul_int, xi_mod_int, xi_div_int, xi_pow_int, xi_int_int, xi_int_bl, xi_abs_int, xi_neg_int]
    refine Pn_mixed k1 (by omega) rfl (by omega) fun S6 f6 ys pm hf6 fp6 pn6 old6 => Pn.draw pn6 (by omega) (by decide) fun r S7 r0 r1 pn7 e7 => ?_
    simp only [slR, lsD]
    refine ⟨ys, by rw [e7 f6 fp6, hf6], ?_⟩
    rw [take_eq r0]
    simp only [newL, Bool.false_eq_true, if_false, dSeq, dIfS, dTst, dCall, dOp, dUn, dVar, dC, dRet, dRetN, dNext, dAndV, dOrV, dNotV, dAnd, dOr, dNot, dIf, dB, dTup, aCons, aNil, dSet, dChain, dCont, dBreak, dDrop, dAttr, one, gdName, gdTup, gdCons, gdNil, bodyO, List.append_nil, List.length_cons, List.length_nil, List.getElem?_cons_zero, List.getElem?_cons_succ, List.set_cons_zero, List.set_cons_succ, Option.some.injEq, D.bl.injEq, exists_eq_left', exists_eq_left, true_and, Nat.reduceAdd, Nat.zero_add, if_true, if_false, Bool.false_eq_true, Bool.not_true, Bool.not_false, reduceCtorEq, xi_cmp_int, xi_add_int, xi_sub_int, xi_mul_int, xi_mod_int, xi_div_int, xi_pow_int, xi_int_int, xi_int_bl, xi_abs_int, xi_neg_int]
    have ol7 : ∀ b o, b ≠ p → S4 b = some o → S7 b = some o := fun b o hb e => by rw [e7 b hb]; exact old6 b o hb (k2 b o hb e)
    have hko : ∀ o, o ∈ known → KnownO o := fun o ho => (i4 o ho).o
    refine lc_inv (fun i acc S8 => Pn ns p S0 (B + 43 + 130 * j + 36 + 10 * i) S8 ∧ ∀ b o, b ≠ p → S4 b = some o → S8 b = some o) (fun _ _ _ _ => trivial) _ 0 [] S7 ⟨pn7.mono (by omega), ol7⟩ (by have : sizeLine = 2 ^ 24 := rfl; simp; omega) (fun i x acc S8 R hi hx I hR => ?_) fun moves S8 I => ?_
    · obtain ⟨m1, m2⟩ := I
      have hil : i < 8 := by
        have := (List.getElem?_eq_some_iff.mp hx).1
        simp at this
        omega
      obtain ⟨u, v, rfl, _, _⟩ := pf x (pm.mem_iff.mp (List.mem_of_mem_take (List.mem_of_getElem? hx)))
      simp only [dSeq, dIfS, dTst, dCall, dOp, dUn, dVar, dC, dRet, dRetN, dNext, dAndV, dOrV, dNotV, dAnd, dOr, dNot, dIf, dB, dTup, aCons, aNil, dSet, dChain, dCont, dBreak, dDrop, dAttr, one, gdName, gdTup, gdCons, gdNil, bodyO, List.append_nil, List.length_cons, List.length_nil, List.getElem?_cons_zero, List.getElem?_cons_succ, List.set_cons_zero, List.set_cons_succ, Option.some.injEq, D.bl.injEq, exists_eq_left', exists_eq_left, true_and, Nat.reduceAdd, Nat.zero_add, if_true, if_false, Bool.false_eq_true, Bool.not_true, Bool.not_false, reduceCtorEq, xi_cmp_int, xi_add_int, xi_sub_int, xi_mul_int, xi_mod_int, xi_div_int, xi_pow_int, xi_int_int, xi_int_bl, xi_abs_int, xi_neg_int, dLst, newL]
      refine ⟨by decide, Pn.pick m1 (by omega) (by simp) (by simp) fun t y S9 ht pn9 e9 => ?_⟩
      refine ⟨p, z, known, ns, _, S0, rfl, nm_str z z1, by omega, hko, pn9, by omega, fun fs S10 pn10 old10 => ⟨by decide, hR _ _ ⟨pn10.mono (by omega), fun b o hb e => old10 b o hb (by rw [e9 b hb]; exact m2 b o hb e)⟩⟩⟩
    obtain ⟨m1, m2⟩ := I
    have tl : (List.take r.toNat ys).length ≤ 8 := by rw [List.length_take]; omega
    simp only [dSeq, dIfS, dTst, dCall, dOp, dUn, dVar, dC, dRet, dRetN, dNext, dAndV, dOrV, dNotV, dAnd, dOr, dNot, dIf, dB, dTup, aCons, aNil, dSet, dChain, dCont, dBreak, dDrop, dAttr, one, gdName, gdTup, gdCons, gdNil, bodyO, List.append_nil, List.length_cons, List.length_nil, List.getElem?_cons_zero, List.getElem?_cons_succ, List.set_cons_zero, List.set_cons_succ, Option.some.injEq, D.bl.injEq, exists_eq_left', exists_eq_left, true_and, Nat.reduceAdd, Nat.zero_add, if_true, if_false, Bool.false_eq_true, Bool.not_true, Bool.not_false, reduceCtorEq, xi_cmp_int, xi_add_int, xi_sub_int, xi_mul_int, xi_mod_int, xi_div_int, xi_pow_int, xi_int_int, xi_int_bl, xi_abs_int, xi_neg_int, dBM]
    have hf8 : S8 f = some (.lst is) := m2 f _ fp g1
    refine ⟨.inl ⟨rfl, is, by simp only [lsD, hf8]⟩, Pn.draw m1 (by omega) (by decide) fun r2 S9 _ _ pn9 e9 => eq_int ⟨moves, rfl, by decide, ?_⟩⟩
    simp only [appendR, refLs]
    refine ⟨is, by rw [e9 f fp]; exact hf8, by have : sizeLine = 2 ^ 24 := rfl; omega, hnx _ _ ⟨_, _, _, _, _, is ++ [_], rfl, put_same, by simp [g2], fun o ho => ?_, ?_, (pn9.write hf0 fp).mono (by omega), fun b o hb e => ?_⟩⟩
    · rcases List.mem_append.mp ho with ho | ho
      · exact g3 o ho
      · rw [List.mem_singleton] at ho
        subst ho
        exact ⟨z, _, modes, moves, rfl, z1, by omega, by omega, k4, by rw [k3, unlike_str]; exact decide_eq_true z4⟩
    · have hz : nms[j]? = some z := by
        have h1 := congrArg (fun l => l[j]?) i3
        simp only [List.getElem?_map, hx] at h1
        cases hn : nms[j]? with
        | none => rw [hn] at h1; cases h1
        | some w =>
          rw [hn] at h1
          have h2 : at0 (.tup [.str z, .lst (ms.map .str)]) = D.str w := Option.some.inj h1
          have h3 : D.str z = D.str w := h2
          cases h3
          rfl
      rw [List.map_append, g4, List.take_add_one, hz]
      simp [at0, kids, kidE]
    · rw [put_ne (ne_sm hfS e), e9 b hb]
      exact m2 b o hb (g6 b o hb e)
  · obtain ⟨x9, x10, x11, x12, x13, is, rfl, g1, g2, g3, g4, g5, g6⟩ := I
    rw [Nat.zero_add] at g2 g4 g5
    rw [kl, List.take_length] at g4
    simp only [dSeq, dIfS, dTst, dCall, dOp, dUn, dVar, dC, dRet, dRetN, dNext, dAndV, dOrV, dNotV, dAnd, dOr, dNot, dIf, dB, dTup, aCons, aNil, dSet, dChain, dCont, dBreak, dDrop, dAttr, one, gdName, gdTup, gdCons, gdNil, bodyO, List.append_nil, List.length_cons, List.length_nil, List.getElem?_cons_zero, List.getElem?_cons_succ, List.set_cons_zero, List.set_cons_succ, Option.some.injEq, D.bl.injEq, exists_eq_left', exists_eq_left, true_and, Nat.reduceAdd, Nat.zero_add, if_true, if_false, Bool.false_eq_true, Bool.not_true, Bool.not_false, reduceCtorEq, xi_cmp_int, xi_add_int, xi_sub_int, xi_mul_int, xi_mod_int, xi_div_int, xi_pow_int, xi_int_int, xi_int_bl, xi_abs_int, xi_neg_int, dLst, newL, if_true]
    refine ⟨by decide, fun g hg => ?_⟩
    have gp : g ≠ p := by obtain ⟨c, l, h1, _⟩ := g5.pen; exact fun e => by rw [e, h1] at hg; cases hg
    have gf : g ≠ f := fun e => by rw [e, g1] at hg; cases hg
    have hg0 : S0 g = none := by
      cases e : S0 g with
      | none => rfl
      | some o => have := g5.old g o gp e; rw [hg] at this; cases this
    have hgS : S g = none := by
      cases e : S g with
      | none => rfl
      | some o => have := g6 g o gp e; rw [hg] at this; cases this
    unfold diRng1
    simp only [dSeq, dIfS, dTst, dCall, dOp, dUn, dVar, dC, dRet, dRetN, dNext, dAndV, dOrV, dNotV, dAnd, dOr, dNot, dIf, dB, dTup, aCons, aNil, dSet, dChain, dCont, dBreak, dDrop, dAttr, one, gdName, gdTup, gdCons, gdNil, bodyO, List.append_nil, List.length_cons, List.length_nil, List.getElem?_cons_zero, List.getElem?_cons_succ, List.set_cons_zero, List.set_cons_succ, Option.some.injEq, D.bl.injEq, exists_eq_left', exists_eq_left, true_and, Nat.reduceAdd, Nat.zero_add, if_true, if_false, Bool.false_eq_true, Bool.not_true, Bool.not_false, reduceCtorEq, xi_cmp_int, xi_add_int, xi_sub_int, xi_mul_int, xi_mod_int, xi_div_int, xi_pow_int, xi_int_int, xi_int_bl, xi_abs_int, xi_neg_int]
    refine ⟨by decide, by decide, ?_⟩
    refine for_range (fun i ρ S5 => ∃ o7 lots, ρ = [some (.ref p), some (.int 6), some (.int 5), some (.lst (nms.map .str)), some (.lst known), some (.ref f), some (.ref g), o7, none, x9, x10, x11, x12, x13, none, none, none] ∧ S5 g = some (.lst lots) ∧ lots.length = i ∧ S5 f = some (.lst is) ∧ Pn ns p S0 (B + 43 + 130 * known.length + 15 * i) S5 ∧ ∀ b o, b ≠ p → S b = some o → S5 b = some o) 9 0 _ _ (fun i ρ S5 nx _ hi I hnx => ?_)
      ⟨_, [], rfl, put_same, rfl, by rw [put_ne (Ne.symm gf)]; exact g1, (g5.write hg0 gp).mono (by omega), fun b o hb e => by rw [put_ne (ne_sm hgS e)]; exact g6 b o hb e⟩ fun ρ S5 I => ?_
    · obtain ⟨o7, lots, rfl, k1, k2, k3, k4, k5⟩ := I
      simp only [dSeq, dIfS, dTst, dCall, dOp, dUn, dVar, dC, dRet, dRetN, dNext, dAndV, dOrV, dNotV, dAnd, dOr, dNot, dIf, dB, dTup, aCons, aNil, dSet, dChain, dCont, dBreak, dDrop, dAttr, one, gdName, gdTup, gdCons, gdNil, bodyO, List.append_nil, List.length_cons, List.length_nil, List.getElem?_cons_zero, List.getElem?_cons_succ, List.set_cons_zero, List.set_cons_succ, Option.some.injEq, D.bl.injEq, exists_eq_left', exists_eq_left, true_and, Nat.reduceAdd, Nat.zero_add, if_true, if_false, Bool.false_eq_true, Bool.not_true, Bool.not_false, reduceCtorEq, xi_cmp_int, xi_add_int, xi_sub_int, xi_mul_int, xi_mod_int, xi_div_int, xi_pow_int, xi_int_int, xi_int_bl, xi_abs_int, xi_neg_int, dBM, dSl, oNone, oSome]
      refine ⟨.inl ⟨rfl, lots, by simp only [lsD, k1]⟩, Pn_mixed k4 (by omega) rfl (by omega) fun S6 f6 ys pm hf6 fp6 pn6 old6 => len_sq rfl ?_⟩
      simp only [two, min2R]
      refine Pn.draw pn6 (by omega) (by split <;> omega) fun r S7 r0 r1 pn7 e7 => ?_
      simp only [dSeq, dIfS, dTst, dCall, dOp, dUn, dVar, dC, dRet, dRetN, dNext, dAndV, dOrV, dNotV, dAnd, dOr, dNot, dIf, dB, dTup, aCons, aNil, dSet, dChain, dCont, dBreak, dDrop, dAttr, one, gdName, gdTup, gdCons, gdNil, bodyO, List.append_nil, List.length_cons, List.length_nil, List.getElem?_cons_zero, List.getElem?_cons_succ, List.set_cons_zero, List.set_cons_succ, Option.some.injEq, D.bl.injEq, exists_eq_left', exists_eq_left, true_and, Nat.reduceAdd, Nat.zero_add, if_true, if_false, Bool.false_eq_true, Bool.not_true, Bool.not_false, reduceCtorEq, xi_cmp_int, xi_add_int, xi_sub_int, xi_mul_int, xi_mod_int, xi_div_int, xi_pow_int, xi_int_int, xi_int_bl, xi_abs_int, xi_neg_int, slR, lsD]
      refine ⟨ys, by rw [e7 f6 fp6, hf6], ?_⟩
      rw [take_eq (show 0 ≤ 1 + r by omega)]
      simp only [newL, Bool.false_eq_true, if_false, dSeq, dIfS, dTst, dCall, dOp, dUn, dVar, dC, dRet, dRetN, dNext, dAndV, dOrV, dNotV, dAnd, dOr, dNot, dIf, dB, dTup, aCons, aNil, dSet, dChain, dCont, dBreak, dDrop, dAttr, one, gdName, gdTup, gdCons, gdNil, bodyO, List.append_nil, List.length_cons, List.length_nil, List.getElem?_cons_zero, List.getElem?_cons_succ, List.set_cons_zero, List.set_cons_succ, Option.some.injEq, D.bl.injEq, exists_eq_left', exists_eq_left, true_and, Nat.reduceAdd, Nat.zero_add, if_true, if_false, Bool.false_eq_true, Bool.not_true, Bool.not_false, reduceCtorEq, xi_cmp_int, xi_add_int, xi_sub_int, xi_mul_int, xi_mod_int, xi_div_int, xi_pow_int, xi_int_int, xi_int_bl, xi_abs_int, xi_neg_int]
      refine lc_inv (fun t acc S8 => Pn ns p S0 (B + 43 + 130 * known.length + 15 * i + 7 + t) S8 ∧ ∀ b o, b ≠ p → S5 b = some o → S8 b = some o) (fun _ _ _ _ => trivial) _ 0 [] S7 ⟨pn7.mono (by omega), fun b o hb e => by rw [e7 b hb]; exact old6 b o hb e⟩ (by have := pm.length_eq; have : sizeLine = 2 ^ 24 := rfl; simp; omega) (fun t x acc S8 R ht hx I hR => ?_) fun lot S8 I => ?_
      · obtain ⟨m1, m2⟩ := I
        have htl : t < 6 := by
          have h1 := (List.getElem?_eq_some_iff.mp hx).1
          have h2 := pm.length_eq
          simp at h1
          omega
        obtain ⟨u, vs, rfl, _, hne, hv5⟩ := (i4 x (pm.mem_iff.mp (List.mem_of_mem_take (List.mem_of_getElem? hx)))).o
        simp only [dSeq, dIfS, dTst, dCall, dOp, dUn, dVar, dC, dRet, dRetN, dNext, dAndV, dOrV, dNotV, dAnd, dOr, dNot, dIf, dB, dTup, aCons, aNil, dSet, dChain, dCont, dBreak, dDrop, dAttr, one, gdName, gdTup, gdCons, gdNil, bodyO, List.append_nil, List.length_cons, List.length_nil, List.getElem?_cons_zero, List.getElem?_cons_succ, List.set_cons_zero, List.set_cons_succ, Option.some.injEq, D.bl.injEq, exists_eq_left', exists_eq_left, true_and, Nat.reduceAdd, Nat.zero_add, if_true, if_false, Bool.false_eq_true, Bool.not_true, Bool.not_false, reduceCtorEq, xi_cmp_int, xi_add_int, xi_sub_int, xi_mul_int, xi_mod_int, xi_div_int, xi_pow_int, xi_int_int, xi_int_bl, xi_abs_int, xi_neg_int]
        exact Pn.pick m1 (by omega) (by simpa using hne) (by simp; omega) fun w y S9 hy pn9 e9 => ⟨by decide, hR _ _ ⟨pn9.mono (by omega), fun b o hb e => by rw [e9 b hb]; exact m2 b o hb e⟩⟩
      · obtain ⟨m1, m2⟩ := I
        have tl : (List.take (1 + r).toNat ys).length ≤ 6 := by have := pm.length_eq; rw [List.length_take]; omega
        simp only [tupleR, sqD, dSeq, dIfS, dTst, dCall, dOp, dUn, dVar, dC, dRet, dRetN, dNext, dAndV, dOrV, dNotV, dAnd, dOr, dNot, dIf, dB, dTup, aCons, aNil, dSet, dChain, dCont, dBreak, dDrop, dAttr, one, gdName, gdTup, gdCons, gdNil, bodyO, List.append_nil, List.length_cons, List.length_nil, List.getElem?_cons_zero, List.getElem?_cons_succ, List.set_cons_zero, List.set_cons_succ, Option.some.injEq, D.bl.injEq, exists_eq_left', exists_eq_left, true_and, Nat.reduceAdd, Nat.zero_add, if_true, if_false, Bool.false_eq_true, Bool.not_true, Bool.not_false, reduceCtorEq, xi_cmp_int, xi_add_int, xi_sub_int, xi_mul_int, xi_mod_int, xi_div_int, xi_pow_int, xi_int_int, xi_int_bl, xi_abs_int, xi_neg_int, appendR, refLs]
        have hg8 : S8 g = some (.lst lots) := m2 g _ gp k1
        refine ⟨lots, hg8, by have : sizeLine = 2 ^ 24 := rfl; omega, hnx _ _ ⟨_, lots ++ [_], rfl, put_same, by simp [k2], by rw [put_ne (Ne.symm gf)]; exact m2 f _ fp k3, (m1.write hg0 gp).mono (by omega), fun b o hb e => by rw [put_ne (ne_sm hgS e)]; exact m2 b o hb (k5 b o hb e)⟩⟩
    · obtain ⟨o7, lots, rfl, k1, k2, k3, k4, k5⟩ := I
      simp only [dSeq, dIfS, dTst, dCall, dOp, dUn, dVar, dC, dRet, dRetN, dNext, dAndV, dOrV, dNotV, dAnd, dOr, dNot, dIf, dB, dTup, aCons, aNil, dSet, dChain, dCont, dBreak, dDrop, dAttr, one, gdName, gdTup, gdCons, gdNil, bodyO, List.append_nil, List.length_cons, List.length_nil, List.getElem?_cons_zero, List.getElem?_cons_succ, List.set_cons_zero, List.set_cons_succ, Option.some.injEq, D.bl.injEq, exists_eq_left', exists_eq_left, true_and, Nat.reduceAdd, Nat.zero_add, if_true, if_false, Bool.false_eq_true, Bool.not_true, Bool.not_false, reduceCtorEq, xi_cmp_int, xi_add_int, xi_sub_int, xi_mul_int, xi_mod_int, xi_div_int, xi_pow_int, xi_int_int, xi_int_bl, xi_abs_int, xi_neg_int, dSl, oNone, oSome, dLst, newL]
      rw [Nat.zero_add] at k2 k4
      have kl6 : known.length ≤ 6 := by omega
      refine ⟨by decide, Pn.pick k4 (by omega) (by simp) (by simp) fun t x S6 ht pn6 e6 => ?_⟩
      obtain ⟨u, rfl⟩ : ∃ u : Int, x = .int u := by
        have := List.mem_of_getElem? ht
        simp only [List.mem_cons, List.not_mem_nil, or_false] at this
        rcases this with rfl | rfl | rfl | rfl | rfl <;> exact ⟨_, rfl⟩
      have hg6 : S6 g = some (.lst lots) := by rw [e6 g gp]; exact k1
      have hf6 : S6 f = some (.lst is) := by rw [e6 f fp]; exact k3
      simp only [slR, lsD]
      refine ⟨lots, by rw [hg6], ?_⟩
      simp only [newL, Bool.false_eq_true, if_false, tupleR, sqD]
      refine ⟨_, rfl, is, by rw [hf6], by decide, Pn.pick pn6 (by omega) (by simp) (by simp) fun t x S7 ht pn7 e7 => ?_⟩
      obtain ⟨v, rfl⟩ : ∃ u : Int, x = .int u := by
        have := List.mem_of_getElem? ht
        simp only [List.mem_cons, List.not_mem_nil, or_false] at this
        rcases this with rfl | rfl | rfl | rfl | rfl <;> exact ⟨_, rfl⟩
      simp only [dSeq, dIfS, dTst, dCall, dOp, dUn, dVar, dC, dRet, dRetN, dNext, dAndV, dOrV, dNotV, dAnd, dOr, dNot, dIf, dB, dTup, aCons, aNil, dSet, dChain, dCont, dBreak, dDrop, dAttr, one, gdName, gdTup, gdCons, gdNil, bodyO, List.append_nil, List.length_cons, List.length_nil, List.getElem?_cons_zero, List.getElem?_cons_succ, List.set_cons_zero, List.set_cons_succ, Option.some.injEq, D.bl.injEq, exists_eq_left', exists_eq_left, true_and, Nat.reduceAdd, Nat.zero_add, if_true, if_false, Bool.false_eq_true, Bool.not_true, Bool.not_false, reduceCtorEq, xi_cmp_int, xi_add_int, xi_sub_int, xi_mul_int, xi_mod_int, xi_div_int, xi_pow_int, xi_int_int, xi_int_bl, xi_abs_int, xi_neg_int, slR, lsD]
      refine ⟨lots, by rw [e7 g gp, hg6], ?_⟩
      exact ⟨by decide, Fz.same (q is _ _ S7 g3 ⟨nms, g4, n3⟩ (by omega) (by omega) (pn7.mono (by omega)) fun b o hb e => by rw [e7 b hb, e6 b hb]; exact k5 b o hb e)⟩
end
end K01
/-! K01H: an isle with one thing otherwise. -/
namespace Dl
open PySem PySem.Spec PyProof.Rows L2
theorem Vws.of_get {N : Addr → Prop} {S : Sto} : ∀ {ds es : List D}, ds.length = es.length → (∀ (i : Nat) d e, ds[i]? = some d → es[i]? = some e → Vw N S d e) → Vws N S ds es
  | [], [], _, _ => rfl
  | d :: ds, e :: es, hl, h => ⟨d, ds, rfl, h 0 d e rfl rfl, Vws.of_get (by simpa using hl) fun i d' e' h1 h2 => h (i + 1) d' e' (by simpa using h1) (by simpa using h2)⟩
  | [], _ :: _, hl, _ => by simp at hl
  | _ :: _, [], hl, _ => by simp at hl
theorem vw4 {N : Addr → Prop} {S : Sto} {d1 d2 d3 d4 e1 e2 e3 e4 : D} (h1 : Vw N S d1 e1) (h2 : Vw N S d2 e2) (h3 : Vw N S d3 e3) (h4 : Vw N S d4 e4) : Vw N S (.tup [d1, d2, d3, d4]) (.tup [e1, e2, e3, e4]) :=
  ⟨_, rfl, _, _, rfl, h1, _, _, rfl, h2, _, _, rfl, h3, _, _, rfl, h4, rfl⟩
/-- the copy of the lines -/
structure FS (S : Sto) (p F : Addr) (qs : List Addr) (les : List D) : Prop where
  f : S F = some (.lst (qs.map .ref))
  q : ∀ (i : Nat) q, qs[i]? = some q → ∃ es, les[i]? = some (.lst es) ∧ S q = some (.lst es)
  len : qs.length = les.length
  nd : qs.Nodup
  nf : F ∉ qs
  np : p ∉ qs ∧ p ≠ F
/-- apart from the copy, the pen -/
def N0 (p F : Addr) (qs : List Addr) (r : Addr) : Prop := r ≠ p ∧ r ≠ F ∧ r ∉ qs
section
variable {S : Sto} {p F x : Addr} {qs : List Addr} {les : List D} {o : O}
theorem FS.put (h : FS S p F qs les) (n1 : x ≠ F) (n2 : x ∉ qs) : FS (put S x o) p F qs les where
  f := by rw [put_ne (Ne.symm n1)]; exact h.f
  q := fun i q hq => by
    obtain ⟨es, h1, h2⟩ := h.q i q hq
    have : q ≠ x := fun e => n2 (by rw [← e]; exact List.mem_of_getElem? hq)
    exact ⟨es, h1, by rw [put_ne this]; exact h2⟩
  len := h.len
  nd := h.nd
  nf := h.nf
  np := h.np
theorem FS.fresh (h : FS S p F qs les) (hp : S p ≠ none) (hx : S x = none) : N0 p F qs x := by
  refine ⟨fun e => hp (by rw [← e]; exact hx), (fun e => by rw [e, h.f] at hx; cases hx), fun hm => ?_⟩
  obtain ⟨i, hi, e⟩ := List.mem_iff_getElem.mp hm
  obtain ⟨es, _, h2⟩ := h.q i x (by rw [List.getElem?_eq_getElem hi, e])
  rw [h2] at hx; cases hx
/-- the copy, seen -/
theorem FS.views (h : FS S p F qs les) (ht : ∀ (i : Nat) es, les[i]? = some (.lst es) → trees es = true) {S' : Sto} (hs : ∀ q, q ∈ qs → S' q = S q) : Vws (· ≠ p) S' (qs.map .ref) les :=
  Vws.of_get (by simp [h.len]) fun i d e h1 h2 => by
    rw [List.getElem?_map, Option.map_eq_some_iff] at h1
    obtain ⟨q', hq', rfl⟩ := h1
    obtain ⟨es, he, hs'⟩ := h.q i q' hq'
    rw [he] at h2; cases h2
    have hm := List.mem_of_getElem? hq'
    exact ⟨es, .inr ⟨q', rfl, fun e => h.np.1 (by rw [← e]; exact hm), by rw [hs q' hm]; exact hs'⟩, Vws.of_trees (ht i es he)⟩
/-- the copy with another line at j -/
theorem FS.view (h : FS S p F qs les) {j : Nat} {q : Addr} {xs es' : List D} (hj : qs[j]? = some q) (v : Vws (N0 p F qs) S xs es') (ht : ∀ (i : Nat) es, les[i]? = some (.lst es) → trees es = true) :
    Vw (· ≠ p) (Dl.put S q (.lst xs)) (.ref F) (.lst (les.set j (.lst es'))) := by
  have qm : ∀ {i : Nat} {q' : Addr}, qs[i]? = some q' → q' ≠ p ∧ q' ≠ F := fun hq => ⟨fun e => h.np.1 (by rw [← e]; exact List.mem_of_getElem? hq), fun e => h.nf (by rw [← e]; exact List.mem_of_getElem? hq)⟩
  refine ⟨qs.map .ref, .inr ⟨F, rfl, fun e => h.np.2 e.symm, by rw [put_ne (Ne.symm (qm hj).2)]; exact h.f⟩, Vws.of_get (by simp [h.len]) fun i d e h1 h2 => ?_⟩
  rw [List.getElem?_map, Option.map_eq_some_iff] at h1
  obtain ⟨q', hq', rfl⟩ := h1
  obtain ⟨es, he, hs⟩ := h.q i q' hq'
  by_cases hij : j = i
  · subst hij
    obtain rfl : q = q' := Option.some.inj (hj.symm.trans hq')
    have hl : j < les.length := by rw [← h.len]; exact (List.getElem?_eq_some_iff.mp hj).1
    rw [List.getElem?_set_self hl] at h2
    cases h2
    exact ⟨xs, .inr ⟨q, rfl, (qm hj).1, put_same⟩, v.mono fun r ys hr hy => ⟨hr.1, by rw [put_ne fun e => hr.2.2 (by rw [e]; exact List.mem_of_getElem? hj)]; exact hy⟩⟩
  · rw [List.getElem?_set_ne hij, he] at h2
    cases h2
    have : q' ≠ q := fun e => by
      subst e
      exact hij ((List.getElem?_inj (List.getElem?_eq_some_iff.mp hj).1 h.nd).mp (hj.trans hq'.symm))
    exact ⟨es, .inr ⟨q', rfl, (qm hq').1, by rw [put_ne this]; exact hs⟩, Vws.of_trees (ht i es he)⟩
end
theorem Vw.fresh {N : Addr → Prop} {S : Sto} {d e : D} {r : Addr} {o : O} (v : Vw N S d e) (h : S r = none) : Vw N (put S r o) d e :=
  v.mono fun q ys hq hy => ⟨hq, by rw [put_ne fun e => by rw [e, h] at hy; cases hy]; exact hy⟩
/-- new lists, one for each of les -/
structure Copies (S : Sto) (les : List D) (qs : List Addr) (S' : Sto) : Prop where
  old : ∀ x, S x ≠ none → S' x = S x
  at_ : ∀ (i : Nat) (q : Addr), qs[i]? = some q → S q = none ∧ ∃ es, les[i]? = some (.lst es) ∧ S' q = some (.lst es)
  len : qs.length = les.length
  nd : qs.Nodup
theorem lc_copyT {g : TDG} {te : TDE} {ρ : DEnv} {Q : List D → Sto → Prop} (kd : D → List D) :
    ∀ (xs acc : List D) (S : Sto), (∀ x, x ∈ xs → ∀ (S : Sto) (R : D → Sto → Prop), (∀ q, S q = none → R (.ref q) (put S q (.lst (kd x)))) → g x ρ S fun ρ2 S2 => te ρ2 S2 R) → acc.length + xs.length ≤ sizeLine →
      (∀ qs S', Copies S (xs.map fun x => .lst (kd x)) qs S' → Q (acc ++ qs.map .ref) S') → lcD (fun _ => True) g dYes te ρ Q xs acc S
  | [], acc, S, step, hl, q => ⟨trivial, by
      have := q [] S ⟨fun _ _ => rfl, fun i q h => by simp at h, rfl, List.nodup_nil⟩
      simpa using this⟩
  | l :: xs, acc, S, step, hl, q => by
    refine ⟨trivial, ?_⟩
    simp only [dYes, if_true]
    refine step l (by simp) S _ fun r hr => ⟨by simp at hl; omega, ?_⟩
    refine lc_copyT kd xs (acc ++ [.ref r]) _ (fun x hx => step x (List.mem_cons_of_mem _ hx)) (by simp at hl ⊢; omega) fun qs S' C => ?_
    rw [List.append_assoc]
    refine q (r :: qs) S' ⟨fun x hx => ?_, fun i q' h => ?_, by simp [C.len], ?_⟩
    · have : x ≠ r := fun e => hx (by rw [e]; exact hr)
      rw [C.old x (by rw [put_ne this]; exact hx), put_ne this]
    · cases i with
      | zero =>
        simp at h; subst h
        exact ⟨hr, kd l, rfl, by rw [C.old r (by rw [put_same]; simp), put_same]⟩
      | succ i =>
        obtain ⟨h1, es', h2, h4⟩ := C.at_ i q' (by simpa using h)
        have : q' ≠ r := fun e => by rw [e, put_same] at h1; cases h1
        rw [put_ne this] at h1
        exact ⟨h1, es', by simpa using h2, h4⟩
    · refine List.nodup_cons.mpr ⟨fun hm => ?_, C.nd⟩
      obtain ⟨i, hi, e⟩ := List.mem_iff_getElem.mp hm
      have := (C.at_ i r (by rw [List.getElem?_eq_getElem hi, e])).1
      rw [put_same] at this; cases this
end Dl
namespace K01
open PySem PySem.Spec PyProof.Rows L2 Dl LamX NdefX
section
variable {K : PySem.W.Frag} {a : Ad}
def BentW (e : D) : Prop := wf 7 e = true ∧ MvR e
theorem bent4 {x y z m : D} (hx : wf 6 x = true) (hy : wf 6 y = true) (hz : wf 6 z = true) (hm : m = .tup [] ∨ m = .lst [] ∨ m = .non ∨ m = .int 5) : BentW (.tup [x, y, z, m]) := by
  have w : wf 6 m = true := by rcases hm with rfl | rfl | rfl | rfl <;> rfl
  refine ⟨wf_of_kid (es := [x, y, z, m]) rfl (by simp) fun o ho => ?_, fun x' y' z' m' h => ?_⟩
  · simp only [List.mem_cons, List.not_mem_nil, or_false] at ho
    rcases ho with rfl | rfl | rfl | rfl <;> assumption
  · cases h; exact hm
theorem nm_wf : ∀ z, z ∈ NM → wf 1 (.str z) = true := List.all_eq_true.mp (by decide +kernel : NM.all (fun z => wf 1 (.str z)) = true)
theorem mm_wf : ∀ z, z ∈ MM → wf 1 (.str z) = true := List.all_eq_true.mp (by decide +kernel : MM.all (fun z => wf 1 (.str z)) = true)
theorem modeW_wf {m : D} (h : ModeW m) : wf 2 m = true ∧ ∃ (u : Str) (i : Int) (f : Bool), kids m = [.str u, .int i, .bl f] ∧ wf 1 (.str u) = true ∧ m = .tup [.str u, .int i, .bl f] := by
  obtain ⟨u, i, f, rfl, hu, _⟩ := h
  refine ⟨wf_of_kid (es := [.str u, .int i, .bl f]) rfl (by simp) fun o ho => ?_, u, i, f, rfl, mm_wf u hu, rfl⟩
  simp only [List.mem_cons, List.not_mem_nil, or_false] at ho
  rcases ho with rfl | rfl | rfl
  · exact mm_wf u hu
  · rfl
  · rfl
def mX (x : D) : D := match x with
  | .str y => .tup [.str ("m" ++ y), .int 0, .bl true]
  | _ => .non
def Φbent : Phi := fun ds S P _ => ∃ p z b ms ns B S0, ds = [.ref p, .tup [.str z, .bl b, .tup ms, .tup []]] ∧ z ∈ NM ∧ 1 ≤ ms.length ∧ ms.length ≤ 5 ∧ (∀ m, m ∈ ms → ModeW m) ∧ Pn ns p S0 B S ∧ B + 50 < 1048576 ∧
  ∀ d e S', Vw (· ≠ p) S' d e → BentW e → Pn ns p S0 (B + 5) S' → (∀ b o, b ≠ p → S b = some o → S' b = some o) → P d S'
theorem vc__law_bent_isle (ds S P PE) (hl : ds.length = 2) (h : Φbent ds S P PE) : t__law_bent_isle K a Φdraw Φpick PE (bodyO P) (startD N__law_bent_isle ds) S := by
  obtain ⟨p, z, b, ms, ns, B, S0, rfl, hz, h1, h5, hm, pn, hB, q⟩ := h
  simp only [t__law_bent_isle, st__law_bent_isle, dSeq, dIfS, dTst, dCall, dOp, dUn, dVar, dC, dRet, dRetN, dNext, dAndV, dOrV, dNotV, dAnd, dOr, dNot, dIf, dB, dTup, aCons, aNil, dSet, dChain, dCont, dBreak, dDrop, dAttr, one, gdName, gdTup, gdCons, gdNil, bodyO, List.append_nil, List.length_cons, List.length_nil, List.getElem?_cons_zero, List.getElem?_cons_succ, List.set_cons_zero, List.set_cons_succ, Option.some.injEq, D.bl.injEq, exists_eq_left', exists_eq_left, true_and, Nat.reduceAdd, Nat.zero_add, if_true, if_false, Bool.false_eq_true, Bool.not_true, Bool.not_false, reduceCtorEq, xi_cmp_int, xi_add_int, xi_sub_int, xi_mul_int, xi_mod_int, xi_div_int, xi_pow_int, xi_int_int, xi_int_bl, xi_abs_int, xi_neg_int, dAsg, dPar]
  refine Pn.draw pn (by omega) (by decide) fun way S1 w0 w1 pn1 e1 => ?_
  unfold dLc diSeq
  simp only [dSeq, dIfS, dTst, dCall, dOp, dUn, dVar, dC, dRet, dRetN, dNext, dAndV, dOrV, dNotV, dAnd, dOr, dNot, dIf, dB, dTup, aCons, aNil, dSet, dChain, dCont, dBreak, dDrop, dAttr, one, gdName, gdTup, gdCons, gdNil, bodyO, List.append_nil, List.length_cons, List.length_nil, List.getElem?_cons_zero, List.getElem?_cons_succ, List.set_cons_zero, List.set_cons_succ, Option.some.injEq, D.bl.injEq, exists_eq_left', exists_eq_left, true_and, Nat.reduceAdd, Nat.zero_add, if_true, if_false, Bool.false_eq_true, Bool.not_true, Bool.not_false, reduceCtorEq, xi_cmp_int, xi_add_int, xi_sub_int, xi_mul_int, xi_mod_int, xi_div_int, xi_pow_int, xi_int_int, xi_int_bl, xi_abs_int, xi_neg_int, walkD, wipeD]
  refine lc_copyT kids ms [] S1 (fun x hx S R k => ?_) (by have : sizeLine = 2 ^ 24 := rfl; simp; omega) fun qs S2 C => ?_
  · obtain ⟨u, i, f, rfl, _⟩ := hm x hx
    simp only [dSeq, dIfS, dTst, dCall, dOp, dUn, dVar, dC, dRet, dRetN, dNext, dAndV, dOrV, dNotV, dAnd, dOr, dNot, dIf, dB, dTup, aCons, aNil, dSet, dChain, dCont, dBreak, dDrop, dAttr, one, gdName, gdTup, gdCons, gdNil, bodyO, List.append_nil, List.length_cons, List.length_nil, List.getElem?_cons_zero, List.getElem?_cons_succ, List.set_cons_zero, List.set_cons_succ, Option.some.injEq, D.bl.injEq, exists_eq_left', exists_eq_left, true_and, Nat.reduceAdd, Nat.zero_add, if_true, if_false, Bool.false_eq_true, Bool.not_true, Bool.not_false, reduceCtorEq, xi_cmp_int, xi_add_int, xi_sub_int, xi_mul_int, xi_mod_int, xi_div_int, xi_pow_int, xi_int_int, xi_int_bl, xi_abs_int, xi_neg_int, listR, sqD, newL]
    exact k
  simp only [newL, dSeq, dIfS, dTst, dCall, dOp, dUn, dVar, dC, dRet, dRetN, dNext, dAndV, dOrV, dNotV, dAnd, dOr, dNot, dIf, dB, dTup, aCons, aNil, dSet, dChain, dCont, dBreak, dDrop, dAttr, one, gdName, gdTup, gdCons, gdNil, bodyO, List.append_nil, List.length_cons, List.length_nil, List.getElem?_cons_zero, List.getElem?_cons_succ, List.set_cons_zero, List.set_cons_succ, Option.some.injEq, D.bl.injEq, exists_eq_left', exists_eq_left, true_and, Nat.reduceAdd, Nat.zero_add, if_true, if_false, Bool.false_eq_true, Bool.not_true, Bool.not_false, reduceCtorEq, xi_cmp_int, xi_add_int, xi_sub_int, xi_mul_int, xi_mod_int, xi_div_int, xi_pow_int, xi_int_int, xi_int_bl, xi_abs_int, xi_neg_int, List.nil_append]
  intro F hF
  have pS : S1 p ≠ none := by obtain ⟨c, l, g, _⟩ := pn1.pen; rw [g]; simp
  have oldC : ∀ b o, S1 b = some o → S2 b = some o := fun b o e => by rw [C.old b (by rw [e]; simp)]; exact e
  have Fp : F ≠ p := fun e => by
    obtain ⟨c, l, g, _⟩ := pn1.pen
    rw [e, oldC p _ g] at hF
    cases hF
  have fs : FS (put S2 F (.lst (qs.map .ref))) p F qs (ms.map fun m => .lst (kids m)) := by
    refine ⟨put_same, fun i q hq => ?_, C.len, C.nd, fun hm => ?_, fun hm => ?_, Ne.symm Fp⟩
    · obtain ⟨h2, es, h3, h4⟩ := C.at_ i q hq
      exact ⟨es, h3, by rw [put_ne fun e => by rw [← e, h4] at hF; cases hF]; exact h4⟩
    · obtain ⟨i, hi, e⟩ := List.mem_iff_getElem.mp hm
      obtain ⟨_, es, _, h4⟩ := C.at_ i F (by rw [List.getElem?_eq_getElem hi, e])
      rw [h4] at hF; cases hF
    · obtain ⟨i, hi, e⟩ := List.mem_iff_getElem.mp hm
      exact pS (C.at_ i p (by rw [List.getElem?_eq_getElem hi, e])).1
  have qn : ∀ (i : Nat) q', qs[i]? = some q' → S q' = none ∧ S0 q' = none := fun i q' hq => by
    have h1 := (C.at_ i q' hq).1
    have np : q' ≠ p := fun e => pS (by rw [← e]; exact h1)
    have h2 : S q' = none := by rw [← e1 q' np]; exact h1
    refine ⟨h2, ?_⟩
    cases e : S0 q' with
    | none => rfl
    | some o => have := pn1.old q' o np e; rw [h1] at this; cases this
  have FS0 : S F = none ∧ S0 F = none := by
    have h1 : S1 F = none := by
      cases e : S1 F with
      | none => rfl
      | some o => rw [oldC F o e] at hF; cases hF
    refine ⟨by rw [← e1 F Fp]; exact h1, ?_⟩
    cases e : S0 F with
    | none => rfl
    | some o => have := pn1.old F o Fp e; rw [h1] at this; cases this
  have pn2 : Pn ns p S0 (B + 1) (put S2 F (.lst (qs.map .ref))) := by
    obtain ⟨c, l, g1, g2, g3⟩ := pn1.pen
    exact Pn.lay ⟨⟨c, l, oldC p _ g1, g2, g3⟩, fun b o hb e => oldC b o (pn1.old b o hb e)⟩ hF
  have old2 : ∀ b o, b ≠ p → S b = some o → put S2 F (.lst (qs.map .ref)) b = some o := fun b o hb e => by
    rw [put_ne (ne_sm FS0.1 e)]
    exact oldC b o (by rw [e1 b hb]; exact e)
  generalize put S2 F (.lst (qs.map .ref)) = S3 at *
  have qlen : qs.length = ms.length := by rw [C.len, List.length_map]
  simp only [lenR, sqD, fs.f]
  refine ⟨_, rfl, ?_⟩
  rw [List.length_map, qlen]
  refine Pn.draw pn2 (by omega) (by omega) fun at_ S4 a0 a1 pn4 e4 => ?_
  have at1 : at_ < ms.length := by omega
  have fs4 : FS S4 p F qs (ms.map fun m => .lst (kids m)) := ⟨by rw [e4 F Fp]; exact fs.f, fun i q' hq => by
    obtain ⟨es, h2, h3⟩ := fs.q i q' hq
    exact ⟨es, h2, by rw [e4 q' fun e => fs.np.1 (by rw [← e]; exact List.mem_of_getElem? hq)]; exact h3⟩, fs.len, fs.nd, fs.nf, fs.np⟩
  have old4 : ∀ b o, b ≠ p → S b = some o → S4 b = some o := fun b o hb e => by rw [e4 b hb]; exact old2 b o hb e
  have wz : wf 6 (.str z) = true := wf_mono (nm_wf z hz) (by omega)
  have wM : ∀ m, m ∈ ms → wf 5 m = true := fun m h => wf_mono (modeW_wf (hm m h)).1 (by omega)
  have wT : wf 6 (.tup ms) = true := wf_of_kid (es := ms) rfl (by omega) wM
  refine eq_int ⟨_, rfl, ?_⟩
  by_cases c0 : way = 0
  · rw [if_pos (by simpa using c0)]
    simp only [dLst, newL, dSeq, dIfS, dTst, dCall, dOp, dUn, dVar, dC, dRet, dRetN, dNext, dAndV, dOrV, dNotV, dAnd, dOr, dNot, dIf, dB, dTup, aCons, aNil, dSet, dChain, dCont, dBreak, dDrop, dAttr, one, gdName, gdTup, gdCons, gdNil, bodyO, List.append_nil, List.length_cons, List.length_nil, List.getElem?_cons_zero, List.getElem?_cons_succ, List.set_cons_zero, List.set_cons_succ, Option.some.injEq, D.bl.injEq, exists_eq_left', exists_eq_left, true_and, Nat.reduceAdd, Nat.zero_add, if_true, if_false, Bool.false_eq_true, Bool.not_true, Bool.not_false, reduceCtorEq, xi_cmp_int, xi_add_int, xi_sub_int, xi_mul_int, xi_mod_int, xi_div_int, xi_pow_int, xi_int_int, xi_int_bl, xi_abs_int, xi_neg_int]
    refine ⟨by decide, by decide, Pn.pick pn4 (by omega) (by simp) (by simp) fun i x S5 hi pn5 e5 => ⟨by decide, ?_⟩⟩
    have wx := List.all_eq_true.mp (by decide +kernel : ([.str "isle", .str "wish", .str "", .str "abcdefghi", .str "A", .str "a1", .int 5, .non, .tup [.str "a"], .str "wild", .str "must", .str "bar"] : List D).all (wf 6) = true) x (List.mem_of_getElem? hi)
    have hw := bent4 (m := .tup []) wx (show wf 6 (.bl b) = true from rfl) wT (.inl rfl)
    exact Fz.same (q _ _ S5 (Vw.of_tree (wf_tree hw.1)) hw (pn5.mono (by omega)) fun b o hb e => by rw [e5 b hb]; exact old4 b o hb e)
  rw [if_neg (by simpa using c0)]
  refine eq_int ⟨_, rfl, ?_⟩
  by_cases c1 : way = 1
  · rw [if_pos (by simpa using c1)]
    simp only [dLst, newL, dSeq, dIfS, dTst, dCall, dOp, dUn, dVar, dC, dRet, dRetN, dNext, dAndV, dOrV, dNotV, dAnd, dOr, dNot, dIf, dB, dTup, aCons, aNil, dSet, dChain, dCont, dBreak, dDrop, dAttr, one, gdName, gdTup, gdCons, gdNil, bodyO, List.append_nil, List.length_cons, List.length_nil, List.getElem?_cons_zero, List.getElem?_cons_succ, List.set_cons_zero, List.set_cons_succ, Option.some.injEq, D.bl.injEq, exists_eq_left', exists_eq_left, true_and, Nat.reduceAdd, Nat.zero_add, if_true, if_false, Bool.false_eq_true, Bool.not_true, Bool.not_false, reduceCtorEq, xi_cmp_int, xi_add_int, xi_sub_int, xi_mul_int, xi_mod_int, xi_div_int, xi_pow_int, xi_int_int, xi_int_bl, xi_abs_int, xi_neg_int]
    refine ⟨by decide, Pn.pick pn4 (by omega) (by simp) (by simp) fun i x S5 hi pn5 e5 => ⟨by decide, ?_⟩⟩
    have wx := List.all_eq_true.mp (by decide +kernel : ([.int 0, .int 1, .non, .str "True"] : List D).all (wf 6) = true) x (List.mem_of_getElem? hi)
    have hw := bent4 (m := .tup []) wz wx wT (.inl rfl)
    exact Fz.same (q _ _ S5 (Vw.of_tree (wf_tree hw.1)) hw (pn5.mono (by omega)) fun b o hb e => by rw [e5 b hb]; exact old4 b o hb e)
  rw [if_neg (by simpa using c1)]
  refine eq_int ⟨_, rfl, ?_⟩
  by_cases c2 : way = 2
  · rw [if_pos (by simpa using c2)]
    simp only [dLst, newL, dSl, oNone, oSome, slR, dSeq, dIfS, dTst, dCall, dOp, dUn, dVar, dC, dRet, dRetN, dNext, dAndV, dOrV, dNotV, dAnd, dOr, dNot, dIf, dB, dTup, aCons, aNil, dSet, dChain, dCont, dBreak, dDrop, dAttr, one, gdName, gdTup, gdCons, gdNil, bodyO, List.append_nil, List.length_cons, List.length_nil, List.getElem?_cons_zero, List.getElem?_cons_succ, List.set_cons_zero, List.set_cons_succ, Option.some.injEq, D.bl.injEq, exists_eq_left', exists_eq_left, true_and, Nat.reduceAdd, Nat.zero_add, if_true, if_false, Bool.false_eq_true, Bool.not_true, Bool.not_false, reduceCtorEq, xi_cmp_int, xi_add_int, xi_sub_int, xi_mul_int, xi_mod_int, xi_div_int, xi_pow_int, xi_int_int, xi_int_bl, xi_abs_int, xi_neg_int]
    have hsg : Dl.signs (Str.ofString "abcde") = ([Str.ofString "a", Str.ofString "b", Str.ofString "c", Str.ofString "d", Str.ofString "e"] : List Str).map .str := by rfl
    rw [hsg]
    refine ⟨by decide, ?_⟩
    rw [take_eq (by decide)]
    simp only [addR]
    have sz : sizeLine = 2 ^ 24 := rfl
    refine ⟨by rw [List.length_take]; omega, lc_list mX trivial _ [] (by decide) (fun x hx R r => ?_) ?_⟩
    · obtain ⟨y, hy, rfl⟩ := List.mem_map.mp hx
      simp only [dSeq, dIfS, dTst, dCall, dOp, dUn, dVar, dC, dRet, dRetN, dNext, dAndV, dOrV, dNotV, dAnd, dOr, dNot, dIf, dB, dTup, aCons, aNil, dSet, dChain, dCont, dBreak, dDrop, dAttr, one, gdName, gdTup, gdCons, gdNil, bodyO, List.append_nil, List.length_cons, List.length_nil, List.getElem?_cons_zero, List.getElem?_cons_succ, List.set_cons_zero, List.set_cons_succ, Option.some.injEq, D.bl.injEq, exists_eq_left', exists_eq_left, true_and, Nat.reduceAdd, Nat.zero_add, if_true, if_false, Bool.false_eq_true, Bool.not_true, Bool.not_false, reduceCtorEq, xi_cmp_int, xi_add_int, xi_sub_int, xi_mul_int, xi_mod_int, xi_div_int, xi_pow_int, xi_int_int, xi_int_bl, xi_abs_int, xi_neg_int, addR]
      refine ⟨?_, by decide, r⟩
      simp only [List.mem_cons, List.not_mem_nil, or_false] at hy
      rcases hy with rfl | rfl | rfl | rfl | rfl <;> decide
    · simp only [List.nil_append, tupleR, sqD]
      refine ⟨_, rfl, by simp; omega, by decide, Pn.pick pn4 (by omega) (by simp) (by simp) fun i x S5 hi pn5 e5 => ⟨by decide, ?_⟩⟩
      have wx : wf 6 x = true := by
        have hx := List.mem_of_getElem? hi
        simp only [List.mem_cons, List.not_mem_nil, or_false] at hx
        rcases hx with rfl | rfl | rfl | rfl | rfl | rfl
        · rfl
        · rfl
        · rfl
        · decide +kernel
        · refine wf_of_kid (es := ms ++ ms.take (1 : Int).toNat) rfl (by simp; omega) fun o ho => ?_
          rcases List.mem_append.mp ho with ho | ho
          · exact wM o ho
          · exact wM o (List.mem_of_mem_take ho)
        · refine wf_of_kid (es := ms ++ ([Str.ofString "a", Str.ofString "b", Str.ofString "c", Str.ofString "d", Str.ofString "e"].map D.str).map mX) rfl (by simp; omega) fun o ho => ?_
          rcases List.mem_append.mp ho with ho | ho
          · exact wM o ho
          · exact List.all_eq_true.mp (by decide +kernel : (([Str.ofString "a", Str.ofString "b", Str.ofString "c", Str.ofString "d", Str.ofString "e"].map D.str).map mX).all (wf 5) = true) o ho
      have hw := bent4 (m := .tup []) wz (show wf 6 (.bl b) = true from rfl) wx (.inl rfl)
      exact Fz.same (q _ _ S5 (Vw.of_tree (wf_tree hw.1)) hw (pn5.mono (by omega)) fun b o hb e => by rw [e5 b hb]; exact old4 b o hb e)
  rw [if_neg (by simpa using c2)]
  have atn : at_.toNat < qs.length := by rw [qlen]; omega
  obtain ⟨qa, hqa⟩ : ∃ qa, qs[at_.toNat]? = some qa := ⟨_, List.getElem?_eq_getElem atn⟩
  obtain ⟨us, hus, hqs⟩ := fs4.q _ _ hqa
  have hm3 : ∃ m, ms[at_.toNat]? = some m ∧ us = kids m := by
    rw [List.getElem?_map, Option.map_eq_some_iff] at hus
    obtain ⟨m, h1, h2⟩ := hus
    cases h2
    exact ⟨m, h1, rfl⟩
  obtain ⟨m, hmm, rfl⟩ := hm3
  obtain ⟨u, i0, f0, hk, wu, _⟩ := (modeW_wf (hm m (List.mem_of_getElem? hmm))).2
  rw [hk] at hqs hus
  have qap : qa ≠ p ∧ qa ≠ F := ⟨fun e => fs4.np.1 (by rw [← e]; exact List.mem_of_getElem? hqa), fun e => fs4.nf (by rw [← e]; exact List.mem_of_getElem? hqa)⟩
  have ix1 : atI (qs.map D.ref) at_ = some (.ref qa) := by
    unfold atI ixN
    rw [if_pos a0, List.length_map, if_pos (by omega), Option.bind_some, List.getElem?_map, hqa]
    rfl
  have ix2 : ixN (qs.map D.ref).length at_ = some at_.toNat := by
    unfold ixN
    rw [if_pos a0, List.length_map, if_pos (by omega)]
  have lesW : ∀ o, o ∈ (ms.map fun m => D.lst (kids m)) → wf 5 o = true := fun o ho => by
    obtain ⟨m, h1, rfl⟩ := List.mem_map.mp ho
    obtain ⟨u, i0, f0, hk, wu, _⟩ := (modeW_wf (hm m h1)).2
    rw [hk]
    refine wf_of_kid (n := 4) (es := [.str u, .int i0, .bl f0]) rfl (by simp) fun o ho => ?_
    simp only [List.mem_cons, List.not_mem_nil, or_false] at ho
    rcases ho with rfl | rfl | rfl
    · exact wf_mono wu (by omega)
    · rfl
    · rfl
  have lesT : ∀ (i : Nat) es, (ms.map fun m => D.lst (kids m))[i]? = some (.lst es) → trees es = true := fun i es he => by
    have := wf_tree (lesW _ (List.mem_of_getElem? he))
    exact this
  have fin : ∀ S5 x, (∀ b, b ≠ p → S5 b = S4 b) → Pn ns p S0 (B + 5) S5 → wf 4 x = true → ∀ k : Nat, Fz (.tup [.str z, .bl b, .ref F, .tup []]) (put S5 qa (.lst ([.str u, .int i0, .bl f0].set k x))) P := fun S5 x e5 pn5 wx k => by
    have fs5 : FS S5 p F qs (ms.map fun m => .lst (kids m)) := ⟨by rw [e5 F Fp]; exact fs4.f, fun i q' hq => by
      obtain ⟨es, h2, h3⟩ := fs4.q i q' hq
      exact ⟨es, h2, by rw [e5 q' fun e => fs4.np.1 (by rw [← e]; exact List.mem_of_getElem? hq)]; exact h3⟩, fs4.len, fs4.nd, fs4.nf, fs4.np⟩
    have wxs : ∀ o, o ∈ [D.str u, .int i0, .bl f0].set k x → wf 4 o = true := fun o ho => by
      rcases List.mem_or_eq_of_mem_set ho with ho | rfl
      · simp only [List.mem_cons, List.not_mem_nil, or_false] at ho
        rcases ho with rfl | rfl | rfl
        · exact wf_mono wu (by omega)
        · rfl
        · rfl
      · exact wx
    have wl : wf 5 (.lst ([D.str u, .int i0, .bl f0].set k x)) = true := wf_of_kid (n := 4) (es := [D.str u, .int i0, .bl f0].set k x) rfl (by simp) wxs
    have wL : wf 6 (.lst ((ms.map fun m => D.lst (kids m)).set at_.toNat (.lst ([D.str u, .int i0, .bl f0].set k x)))) = true := wf_of_kid rfl (by simp; omega) fun o ho => by
      rcases List.mem_or_eq_of_mem_set ho with ho | rfl
      · exact lesW o ho
      · exact wl
    have v1 := fs5.view hqa (xs := [D.str u, .int i0, .bl f0].set k x) (es' := [D.str u, .int i0, .bl f0].set k x) (Vws.of_trees (by have := wf_tree wl; exact this)) lesT
    have hw := bent4 (m := .tup []) wz (show wf 6 (.bl b) = true from rfl) wL (.inl rfl)
    have vw : Vw (· ≠ p) (put S5 qa (.lst ([.str u, .int i0, .bl f0].set k x))) (.tup [.str z, .bl b, .ref F, .tup []]) (.tup [.str z, .bl b, .lst ((ms.map fun m => D.lst (kids m)).set at_.toNat (.lst ([D.str u, .int i0, .bl f0].set k x))), .tup []]) :=
      vw4 (Vw.of_tree (wf_tree wz)) (Vw.of_tree rfl) v1 (Vw.of_tree rfl)
    refine Fz.same (q _ _ _ vw hw (Pn.write pn5 (qn _ _ hqa).2 qap.1) fun b o hb e => ?_)
    rw [put_ne (ne_sm (qn _ _ hqa).1 e), e5 b hb]
    exact old4 b o hb e
  refine eq_int ⟨_, rfl, ?_⟩
  by_cases c3 : way = 3
  · subst c3
    rw [if_pos (by decide)]
    simp only [dSetIx, dLst, newL, dSeq, dIfS, dTst, dCall, dOp, dUn, dVar, dC, dRet, dRetN, dNext, dAndV, dOrV, dNotV, dAnd, dOr, dNot, dIf, dB, dTup, aCons, aNil, dSet, dChain, dCont, dBreak, dDrop, dAttr, one, gdName, gdTup, gdCons, gdNil, bodyO, List.append_nil, List.length_cons, List.length_nil, List.getElem?_cons_zero, List.getElem?_cons_succ, List.set_cons_zero, List.set_cons_succ, Option.some.injEq, D.bl.injEq, exists_eq_left', exists_eq_left, true_and, Nat.reduceAdd, Nat.zero_add, if_true, if_false, Bool.false_eq_true, Bool.not_true, Bool.not_false, reduceCtorEq, xi_cmp_int, xi_add_int, xi_sub_int, xi_mul_int, xi_mod_int, xi_div_int, xi_pow_int, xi_int_int, xi_int_bl, xi_abs_int, xi_neg_int]
    refine ⟨by decide, Pn.pick pn4 (by omega) (by simp) (by simp) fun i x S5 hi pn5 e5 => ref_ix (by rw [e5 F Fp]; exact fs4.f) ix1 ⟨_, by rw [e5 qa qap.1]; exact hqs, 0, rfl, ?_⟩⟩
    have wx := List.all_eq_true.mp (by decide +kernel : ([.str "mode", .str "move", .str "", .str "abcdefghi", .int 5, .non, .str "a b"] : List D).all (wf 4) = true) x (List.mem_of_getElem? hi)
    refine eq_int ⟨_, rfl, ?_⟩
    rw [if_neg (by decide)]
    refine eq_int ⟨_, rfl, ?_⟩
    rw [if_neg (by decide)]
    refine eq_int ⟨_, rfl, ?_⟩
    rw [if_neg (by decide)]
    refine eq_int ⟨_, rfl, ?_⟩
    rw [if_neg (by decide)]
    exact ⟨by decide, fin S5 x e5 (pn5.mono (by omega)) wx 0⟩
  rw [if_neg (by simpa using c3)]
  refine eq_int ⟨_, rfl, ?_⟩
  by_cases c4 : way = 4
  · subst c4
    rw [if_pos (by decide)]
    simp only [dSetIx, dLst, newL, dSeq, dIfS, dTst, dCall, dOp, dUn, dVar, dC, dRet, dRetN, dNext, dAndV, dOrV, dNotV, dAnd, dOr, dNot, dIf, dB, dTup, aCons, aNil, dSet, dChain, dCont, dBreak, dDrop, dAttr, one, gdName, gdTup, gdCons, gdNil, bodyO, List.append_nil, List.length_cons, List.length_nil, List.getElem?_cons_zero, List.getElem?_cons_succ, List.set_cons_zero, List.set_cons_succ, Option.some.injEq, D.bl.injEq, exists_eq_left', exists_eq_left, true_and, Nat.reduceAdd, Nat.zero_add, if_true, if_false, Bool.false_eq_true, Bool.not_true, Bool.not_false, reduceCtorEq, xi_cmp_int, xi_add_int, xi_sub_int, xi_mul_int, xi_mod_int, xi_div_int, xi_pow_int, xi_int_int, xi_int_bl, xi_abs_int, xi_neg_int]
    refine ⟨by decide, Pn.pick pn4 (by omega) (by simp) (by simp) fun i x S5 hi pn5 e5 => ref_ix (by rw [e5 F Fp]; exact fs4.f) ix1 ⟨_, by rw [e5 qa qap.1]; exact hqs, 1, rfl, ?_⟩⟩
    have wx := List.all_eq_true.mp (by decide +kernel : ([.int 1000001, .int (-1000001), .bl true, .non, .str "1", .int 1000000, .int (-1000000)] : List D).all (wf 4) = true) x (List.mem_of_getElem? hi)
    refine eq_int ⟨_, rfl, ?_⟩
    rw [if_neg (by decide)]
    refine eq_int ⟨_, rfl, ?_⟩
    rw [if_neg (by decide)]
    refine eq_int ⟨_, rfl, ?_⟩
    rw [if_neg (by decide)]
    exact ⟨by decide, fin S5 x e5 (pn5.mono (by omega)) wx 1⟩
  rw [if_neg (by simpa using c4)]
  refine eq_int ⟨_, rfl, ?_⟩
  by_cases c5 : way = 5
  · subst c5
    rw [if_pos (by decide)]
    simp only [dSetIx, dLst, newL, dSeq, dIfS, dTst, dCall, dOp, dUn, dVar, dC, dRet, dRetN, dNext, dAndV, dOrV, dNotV, dAnd, dOr, dNot, dIf, dB, dTup, aCons, aNil, dSet, dChain, dCont, dBreak, dDrop, dAttr, one, gdName, gdTup, gdCons, gdNil, bodyO, List.append_nil, List.length_cons, List.length_nil, List.getElem?_cons_zero, List.getElem?_cons_succ, List.set_cons_zero, List.set_cons_succ, Option.some.injEq, D.bl.injEq, exists_eq_left', exists_eq_left, true_and, Nat.reduceAdd, Nat.zero_add, if_true, if_false, Bool.false_eq_true, Bool.not_true, Bool.not_false, reduceCtorEq, xi_cmp_int, xi_add_int, xi_sub_int, xi_mul_int, xi_mod_int, xi_div_int, xi_pow_int, xi_int_int, xi_int_bl, xi_abs_int, xi_neg_int]
    refine ⟨by decide, Pn.pick pn4 (by omega) (by simp) (by simp) fun i x S5 hi pn5 e5 => ref_ix (by rw [e5 F Fp]; exact fs4.f) ix1 ⟨_, by rw [e5 qa qap.1]; exact hqs, 2, rfl, ?_⟩⟩
    have wx := List.all_eq_true.mp (by decide +kernel : ([.int 0, .int 1, .non, .str "yes"] : List D).all (wf 4) = true) x (List.mem_of_getElem? hi)
    refine eq_int ⟨_, rfl, ?_⟩
    rw [if_neg (by decide)]
    refine eq_int ⟨_, rfl, ?_⟩
    rw [if_neg (by decide)]
    exact ⟨by decide, fin S5 x e5 (pn5.mono (by omega)) wx 2⟩
  rw [if_neg (by simpa using c5)]
  clear fin
  have lesV : ∀ S5, (∀ b, b ≠ p → S5 b = S4 b) → ∀ o, Vws (· ≠ p) (put S5 F o) (qs.map .ref) (ms.map fun m => .lst (kids m)) := fun S5 e5 o => by
    refine fs4.views lesT fun q' hq' => ?_
    rw [put_ne fun e => fs4.nf (by rw [← e]; exact hq'), e5 q' fun e => fs4.np.1 (by rw [← e]; exact hq')]
  refine eq_int ⟨_, rfl, ?_⟩
  by_cases c6 : way = 6
  · subst c6
    rw [if_pos (by decide)]
    simp only [dSetIx, dLst, newL, dSeq, dIfS, dTst, dCall, dOp, dUn, dVar, dC, dRet, dRetN, dNext, dAndV, dOrV, dNotV, dAnd, dOr, dNot, dIf, dB, dTup, aCons, aNil, dSet, dChain, dCont, dBreak, dDrop, dAttr, one, gdName, gdTup, gdCons, gdNil, bodyO, List.append_nil, List.length_cons, List.length_nil, List.getElem?_cons_zero, List.getElem?_cons_succ, List.set_cons_zero, List.set_cons_succ, Option.some.injEq, D.bl.injEq, exists_eq_left', exists_eq_left, true_and, Nat.reduceAdd, Nat.zero_add, if_true, if_false, Bool.false_eq_true, Bool.not_true, Bool.not_false, reduceCtorEq, xi_cmp_int, xi_add_int, xi_sub_int, xi_mul_int, xi_mod_int, xi_div_int, xi_pow_int, xi_int_int, xi_int_bl, xi_abs_int, xi_neg_int, dSl, oNone, oSome]
    refine ⟨by decide, ref_ix fs4.f ix1 ?_⟩
    simp only [slR, lsD, hqs, newL, dSeq, dIfS, dTst, dCall, dOp, dUn, dVar, dC, dRet, dRetN, dNext, dAndV, dOrV, dNotV, dAnd, dOr, dNot, dIf, dB, dTup, aCons, aNil, dSet, dChain, dCont, dBreak, dDrop, dAttr, one, gdName, gdTup, gdCons, gdNil, bodyO, List.append_nil, List.length_cons, List.length_nil, List.getElem?_cons_zero, List.getElem?_cons_succ, List.set_cons_zero, List.set_cons_succ, Option.some.injEq, D.bl.injEq, exists_eq_left', exists_eq_left, true_and, Nat.reduceAdd, Nat.zero_add, if_true, if_false, Bool.false_eq_true, Bool.not_true, Bool.not_false, reduceCtorEq, xi_cmp_int, xi_add_int, xi_sub_int, xi_mul_int, xi_mod_int, xi_div_int, xi_pow_int, xi_int_int, xi_int_bl, xi_abs_int, xi_neg_int]
    refine ref_ix fs4.f ix1 ⟨by decide, ?_⟩
    simp only [addR, lsD, hqs, newL, dSeq, dIfS, dTst, dCall, dOp, dUn, dVar, dC, dRet, dRetN, dNext, dAndV, dOrV, dNotV, dAnd, dOr, dNot, dIf, dB, dTup, aCons, aNil, dSet, dChain, dCont, dBreak, dDrop, dAttr, one, gdName, gdTup, gdCons, gdNil, bodyO, List.append_nil, List.length_cons, List.length_nil, List.getElem?_cons_zero, List.getElem?_cons_succ, List.set_cons_zero, List.set_cons_succ, Option.some.injEq, D.bl.injEq, exists_eq_left', exists_eq_left, true_and, Nat.reduceAdd, Nat.zero_add, if_true, if_false, Bool.false_eq_true, Bool.not_true, Bool.not_false, reduceCtorEq, xi_cmp_int, xi_add_int, xi_sub_int, xi_mul_int, xi_mod_int, xi_div_int, xi_pow_int, xi_int_int, xi_int_bl, xi_abs_int, xi_neg_int]
    refine ⟨_, _, rfl, rfl, (show (3 : Nat) + 1 ≤ sizeLine by decide), by decide, Pn.pick pn4 (by omega) (by simp) (by simp) fun i x S5 hi pn5 e5 => ⟨_, by rw [e5 F Fp]; exact fs4.f, _, ix2, ?_⟩⟩
    refine eq_int ⟨_, rfl, ?_⟩
    rw [if_neg (by decide)]
    refine ⟨by decide, ?_⟩
    have wrow : ∀ xs : List D, xs.length ≤ 4 → (∀ o, o ∈ xs → o = .str u ∨ o = .int i0 ∨ o = .bl f0 ∨ o = .int 1) → wf 5 (.lst xs) = true := fun xs hl h => by
      refine wf_of_kid (n := 4) (es := xs) rfl (by omega) fun o ho => ?_
      rcases h o ho with rfl | rfl | rfl | rfl
      · exact wf_mono wu (by omega)
      · rfl
      · rfl
      · rfl
    have wx : wf 5 x = true := by
      have hx := List.mem_of_getElem? hi
      simp only [List.mem_cons, List.not_mem_nil, or_false] at hx
      rcases hx with rfl | rfl | rfl | rfl | rfl
      · rfl
      · rfl
      · refine wrow _ ?_ fun o ho => ?_
        · rw [take_eq (by decide), List.length_take]; simp
        · rw [take_eq (by decide)] at ho
          have := List.mem_of_mem_take ho
          simp only [List.mem_cons, List.not_mem_nil, or_false] at this
          rcases this with h | h | h <;> simp [h]
      · refine wrow _ (by simp) fun o ho => ?_
        simpa using ho
      · decide +kernel
    have wL : wf 6 (.lst ((ms.map fun m => D.lst (kids m)).set at_.toNat x)) = true := wf_of_kid rfl (by simp; omega) fun o ho => by
      rcases List.mem_or_eq_of_mem_set ho with ho | rfl
      · exact lesW o ho
      · exact wx
    have vL : Vw (· ≠ p) (put S5 F (.lst ((qs.map .ref).set at_.toNat x))) (.ref F) (.lst ((ms.map fun m => D.lst (kids m)).set at_.toNat x)) :=
      ⟨_, .inr ⟨F, rfl, Fp, put_same⟩, Vws.set _ (Vw.of_tree (wf_tree wx)) (lesV S5 e5 _)⟩
    have hw := bent4 (m := .tup []) wz (show wf 6 (.bl b) = true from rfl) wL (.inl rfl)
    refine Fz.same (q _ _ _ (vw4 (Vw.of_tree (wf_tree wz)) (Vw.of_tree rfl) vL (Vw.of_tree rfl)) hw (Pn.write (pn5.mono (by omega)) FS0.2 Fp) fun b o hb e => ?_)
    rw [put_ne (ne_sm FS0.1 e), e5 b hb]
    exact old4 b o hb e
  rw [if_neg (by simpa using c6)]
  refine eq_int ⟨_, rfl, ?_⟩
  by_cases c7 : way = 7
  · subst c7
    rw [if_pos (by decide)]
    simp only [dSetIx, dLst, newL, dSeq, dIfS, dTst, dCall, dOp, dUn, dVar, dC, dRet, dRetN, dNext, dAndV, dOrV, dNotV, dAnd, dOr, dNot, dIf, dB, dTup, aCons, aNil, dSet, dChain, dCont, dBreak, dDrop, dAttr, one, gdName, gdTup, gdCons, gdNil, bodyO, List.append_nil, List.length_cons, List.length_nil, List.getElem?_cons_zero, List.getElem?_cons_succ, List.set_cons_zero, List.set_cons_succ, Option.some.injEq, D.bl.injEq, exists_eq_left', exists_eq_left, true_and, Nat.reduceAdd, Nat.zero_add, if_true, if_false, Bool.false_eq_true, Bool.not_true, Bool.not_false, reduceCtorEq, xi_cmp_int, xi_add_int, xi_sub_int, xi_mul_int, xi_mod_int, xi_div_int, xi_pow_int, xi_int_int, xi_int_bl, xi_abs_int, xi_neg_int, dSl, oNone, oSome, slR, addR]
    refine ⟨by decide, by decide, by decide, by decide, by decide, by decide, Pn.pick pn4 (by omega) (by simp) (by simp) fun i x S5 hi pn5 e5 => ?_⟩
    have b1 : ∀ xs : List D, xs.length ≤ 5 → xs.length ≠ 4 → (∀ o, o ∈ xs → wf 6 o = true) → BentW (.tup xs) := fun xs h5 h4 h => ⟨wf_of_kid (es := xs) rfl (by omega) h, fun x y z m e => by cases e; exact absurd rfl h4⟩
    have hall : ∀ o, o ∈ [D.str z, .bl b, .tup ms, .tup [], .int 1] → wf 6 o = true := fun o ho => by
      simp only [List.mem_cons, List.not_mem_nil, or_false] at ho
      rcases ho with rfl | rfl | rfl | rfl | rfl
      · exact wz
      · rfl
      · exact wT
      · rfl
      · rfl
    have hw : BentW x := by
      have hx := List.mem_of_getElem? hi
      simp only [List.mem_cons, List.not_mem_nil, or_false] at hx
      rcases hx with rfl | rfl | rfl | rfl | rfl | rfl | rfl
      · exact ⟨rfl, fun x y z m e => by cases e⟩
      · exact b1 [] (by simp) (by simp) fun o ho => by simp at ho
      · rw [take_eq (by decide)]
        refine b1 [.str z, .bl b, .tup ms] (by simp) (by simp) fun o ho => hall o ?_
        simp only [List.mem_cons, List.not_mem_nil, or_false] at ho
        rcases ho with h | h | h <;> simp [h]
      · exact b1 [.str z, .bl b, .tup ms, .tup [], .int 1] (by simp) (by simp) fun o ho => hall o ho
      · exact ⟨by decide +kernel, fun x y z m e => by cases e⟩
      · exact bent4 wz (show wf 6 (.bl b) = true from rfl) wT (.inr (.inr (.inl rfl)))
      · exact bent4 wz (show wf 6 (.bl b) = true from rfl) wT (.inr (.inr (.inr rfl)))
    exact Fz.same (q _ _ S5 (Vw.of_tree (wf_tree hw.1)) hw (pn5.mono (by omega)) fun b o hb e => by rw [e5 b hb]; exact old4 b o hb e)
  rw [if_neg (by simpa using c7)]
  refine ⟨by decide, ?_⟩
  have wL : wf 6 (.lst (ms.map fun m => D.lst (kids m))) = true := wf_of_kid rfl (by simp; omega) lesW
  have vL : Vw (· ≠ p) S4 (.ref F) (.lst (ms.map fun m => D.lst (kids m))) :=
    ⟨_, .inr ⟨F, rfl, Fp, fs4.f⟩, fs4.views lesT fun _ _ => rfl⟩
  have hw := bent4 (m := .tup []) wz (show wf 6 (.bl b) = true from rfl) wL (.inl rfl)
  exact Fz.same (q _ _ _ (vw4 (Vw.of_tree (wf_tree wz)) (Vw.of_tree rfl) vL (Vw.of_tree rfl)) hw (pn4.mono (by omega)) old4)
end
end K01
/-! K01I: what small yards answer. -/
namespace Dl
open PySem PySem.Spec PyProof.Rows L2
theorem kid_fix (e : D) : kidE (fixT e) = (kidE e).map (·.map fixT) := by
  cases e <;> simp [fixT, kidE, fixTs_map]
theorem kid_lst (e : D) : kidE (lstT e) = (kidE e).map (·.map lstT) := by
  cases e <;> simp [lstT, kidE, lstTs_map]
mutual
theorem fix_fix : ∀ e : D, fixT (fixT e) = fixT e
  | .tup es => by simp only [fixT, fixs_fixs es]
  | .lst es => by simp only [fixT, fixs_fixs es]
  | .non | .bl _ | .int _ | .str _ | .ty _ | .ref _ | .scr _ | .dic _ _ => rfl
theorem fixs_fixs : ∀ es : List D, fixTs (fixTs es) = fixTs es
  | [] => rfl
  | e :: es => by simp only [fixTs, fix_fix e, fixs_fixs es]
end
mutual
theorem fix_lst : ∀ e : D, fixT (lstT e) = fixT e
  | .tup es => by simp only [fixT, lstT, fixs_lsts es]
  | .lst es => by simp only [fixT, lstT, fixs_lsts es]
  | .non | .bl _ | .int _ | .str _ | .ty _ | .ref _ | .scr _ | .dic _ _ => rfl
theorem fixs_lsts : ∀ es : List D, fixTs (lstTs es) = fixTs es
  | [] => rfl
  | e :: es => by simp only [fixTs, lstTs, fix_lst e, fixs_lsts es]
end
mutual
theorem tree_fix : ∀ e : D, tree (fixT e) = tree e
  | .tup es => trees_fix es
  | .lst es => trees_fix es
  | .non | .bl _ | .int _ | .str _ | .ty _ | .ref _ | .scr _ | .dic _ _ => rfl
theorem trees_fix : ∀ es : List D, trees (fixTs es) = trees es
  | [] => rfl
  | e :: es => by simp only [fixTs, trees, tree_fix e, trees_fix es]
end
mutual
theorem tree_lst : ∀ e : D, tree (lstT e) = tree e
  | .tup es => trees_lst es
  | .lst es => trees_lst es
  | .non | .bl _ | .int _ | .str _ | .ty _ | .ref _ | .scr _ | .dic _ _ => rfl
theorem trees_lst : ∀ es : List D, trees (lstTs es) = trees es
  | [] => rfl
  | e :: es => by simp only [lstTs, trees, tree_lst e, trees_lst es]
end
/-- a text of code points -/
theorem strOk_app {a b : Str} (h1 : PyData.strOk a = true) (h2 : PyData.strOk b = true) : PyData.strOk (a ++ b) = true := by
  unfold PyData.strOk at *
  rw [show (a ++ b).cps = a.cps ++ b.cps from rfl, Array.all_append, h1, h2]; rfl
theorem strOk_of (s : String) : PyData.strOk (Str.ofString s) = true := by
  unfold PyData.strOk
  rw [Array.all_eq_true']
  intro c hc
  have : ∃ ch : Char, c = ch.toNat := by
    rw [Str.ofString_eq_toList] at hc
    simp at hc
    obtain ⟨ch, _, h⟩ := hc
    exact ⟨ch, h.symm⟩
  obtain ⟨ch, rfl⟩ := this
  have := ch.valid
  simp only [decide_eq_true_eq]
  have h2 : ch.toNat.isValidChar := this
  rcases h2 with h | h <;> omega
theorem strOk_join {sep : Str} (hs : PyData.strOk sep = true) : ∀ ts : List Str, (∀ t, t ∈ ts → PyData.strOk t = true) → PyData.strOk (Str.join sep ts) = true
  | [], _ => (show PyData.strOk (Str.ofString "") = true from strOk_of _)
  | [x], h => h x (by simp)
  | x :: y :: r, h => by
    show PyData.strOk (x ++ sep ++ Str.join sep (y :: r)) = true
    exact strOk_app (strOk_app (h x (by simp)) hs) (strOk_join hs (y :: r) fun t ht => h t (List.mem_cons_of_mem _ ht))
/-- small things: compared, shown -/
structure Sm (e : D) (n b : Nat) : Prop where
  pl : Dl.plain e = true
  lay : PyData.canLay0 (pyD e) = true
  dp : PyData.depth (pyD e) ≤ n
  shw : (pyD e).showable = true
  sho : PyData.leavesShort 12 (pyD e) = true
  blk : PyData.bulk (pyD e) ≤ b
  txt : PyData.strOk (pyD e).shown = true
section
variable {e : D} {n n' b b' : Nat}
theorem Sm.mono (h : Sm e n b) (h1 : n ≤ n') (h2 : b ≤ b') : Sm e n' b' := ⟨h.pl, h.lay, by have := h.dp; omega, h.shw, h.sho, by have := h.blk; omega, h.txt⟩
theorem Sm.ok (h : Sm e n b) (hn : n ≤ 64) : okD e = true := by
  unfold okD SeqAt.shaped
  have := h.dp
  simp [h.pl, h.lay]
  omega
theorem Sm.non : Sm .non 0 0 := ⟨rfl, rfl, Nat.le_refl _, rfl, rfl, Nat.le_refl _, by decide +kernel⟩
theorem Sm.int {i : Int} (h : i.natAbs < 10 ^ 11) : Sm (.int i) 0 0 := by
  refine ⟨rfl, rfl, Nat.le_refl _, ?_, ?_, Nat.le_refl _, strOk_of _⟩
  · simp only [pyD, PyData.showable, decide_eq_true_eq]
    have : i.natAbs.log2 < 37 := by
      by_cases h0 : i.natAbs = 0
      · rw [h0]; decide
      · exact (Nat.log2_lt h0).mpr (by omega)
    omega
  · simp only [pyD, PyData.leavesShort, PyData.shown, decide_eq_true_eq]
    have := int_text_length_le10 (k := 11) (by decide) h
    refine decide_eq_true ?_
    rw [PySem.ofString_length]; omega
theorem Sm.str {z : Str} (h1 : PyData.strOk z = true) (h2 : z.cps.size ≤ b) (h3 : (z.cps.toList.all fun c => decide (c < 16 ^ 8)) = true) (h4 : PyData.strOk (reprText z) = true) : Sm (.str z) 0 b :=
  ⟨rfl, h1, Nat.le_refl _, rfl, h3, h2, h4⟩
theorem Sm.tup {es : List D} (h : ∀ o, o ∈ es → Sm o n b) : Sm (.tup es) (n + 1) ((b + 1) * es.length) := by
  have key : ∀ es : List D, (∀ o, o ∈ es → Sm o n b) → Dl.plains es = true ∧ PyData.canLayAll0 (pyDs es) = true ∧ PyData.depthAll (pyDs es) ≤ n ∧ PyData.showableAll (pyDs es) = true ∧ PyData.leavesShortAll 12 (pyDs es) = true ∧ PyData.bulkAll (pyDs es) ≤ (b + 1) * es.length ∧
      ∀ t, t ∈ PyData.shownAll (pyDs es) → PyData.strOk t = true := by
    intro es h
    induction es with
    | nil => exact ⟨rfl, rfl, Nat.zero_le _, rfl, rfl, Nat.zero_le _, fun t ht => by simp [pyDs, PyData.shownAll] at ht⟩
    | cons o es ih =>
      obtain ⟨c1, c2, c3, c4, c5, c6, c7⟩ := ih fun x hx => h x (List.mem_cons_of_mem _ hx)
      have a := h o (by simp)
      refine ⟨by simp [Dl.plains, a.pl, c1], by simp [pyDs, PyData.canLayAll0, a.lay, c2], ?_, by simp [pyDs, PyData.showableAll, a.shw, c4], by simp [pyDs, PyData.leavesShortAll, a.sho, c5], ?_, fun t ht => ?_⟩
      · simp only [pyDs, PyData.depthAll]; have := a.dp; omega
      · simp only [pyDs, PyData.bulkAll, List.length_cons]; have := a.blk; rw [Nat.mul_add]; omega
      · simp only [pyDs, PyData.shownAll, List.mem_cons] at ht
        rcases ht with rfl | ht
        · exact a.txt
        · exact c7 t ht
  obtain ⟨c1, c2, c3, c4, c5, c6, c7⟩ := key es h
  refine ⟨c1, c2, by simp only [pyD, PyData.depth]; omega, c4, c5, c6, ?_⟩
  show PyData.strOk (tupleText _) = true
  unfold tupleText
  refine strOk_app (strOk_app (strOk_of _) (strOk_join (strOk_of _) _ c7)) (strOk_of _)
theorem Sm.bl {b : Bool} : Sm (.bl b) 0 0 := by cases b <;> exact ⟨rfl, rfl, Nat.le_refl _, rfl, rfl, Nat.le_refl _, by decide +kernel⟩
theorem strOk_from : ∀ (ts : List Str) (i : Nat) (a : Str), PyData.strOk a = true → (∀ t, t ∈ ts → PyData.strOk t = true) → PyData.strOk (textFrom i a ts) = true
  | [], _, _, h, _ => h
  | t :: ts, i, a, h, ht => strOk_from ts (i + 1) _ (strOk_app (strOk_app h (strOk_of _)) (ht t (by simp))) fun x hx => ht x (List.mem_cons_of_mem _ hx)
theorem Sm.lst {es : List D} (h : ∀ o, o ∈ es → Sm o n b) : Sm (.lst es) (n + 1) ((b + 1) * es.length) := by
  have ht := Sm.tup h
  refine ⟨ht.pl, ht.lay, ht.dp, ht.shw, ht.sho, ht.blk, ?_⟩
  show PyData.strOk (listText _) = true
  unfold listText
  refine strOk_app (strOk_from _ _ _ (strOk_of _) fun t h1 => ?_) (strOk_of _)
  have key : ∀ es : List D, (∀ o, o ∈ es → Sm o n b) → ∀ t, t ∈ PyData.shownAll (pyDs es) → PyData.strOk t = true := by
    intro es h
    induction es with
    | nil => exact fun t ht => by simp [pyDs, PyData.shownAll] at ht
    | cons o es ih =>
      intro t ht
      simp only [pyDs, PyData.shownAll, List.mem_cons] at ht
      rcases ht with rfl | ht
      · exact (h o (by simp)).txt
      · exact ih (fun x hx => h x (List.mem_cons_of_mem _ hx)) t ht
  exact key es h t h1
theorem repr_lst {xs : List D} {S : Sto} {Q : D → Sto → Prop} {b : Nat} (s : Sm (.lst xs) 8 b) (hb : b ≤ 100000) (q : Q (.str (pyD (.lst xs)).shown) S) : reprR (.lst xs) S Q := by
  refine ⟨_, rfl, rfl, s.pl, s.shw, ?_, by have := s.dp; show PyData.depth (pyD (.lst xs)) ≤ 100; omega, q⟩
  have h1 := PyData.shown_le_bulk 12 (by decide) _ s.sho
  have h2 := s.blk
  have : sizeLine = 2 ^ 24 := rfl
  show (pyD (.lst xs)).shown.length ≤ sizeLine
  have : (12 + 2) * (pyD (.lst xs)).bulk ≤ 14 * 100000 := Nat.mul_le_mul_left _ (by omega)
  omega
end
theorem eqD_refl {e : D} (h : okD e = true) : eqD e e = true := by
  unfold okD SeqAt.shaped at h
  simp at h
  exact SeqAt.eqv_refl _ h.2.1
theorem eqvAll_len : ∀ {xs ys : List D}, xs.length ≠ ys.length → PyData.eqvAll (pyDs xs) (pyDs ys) = false
  | [], [], h => (h rfl).elim
  | [], _ :: _, _ => rfl
  | _ :: _, [], _ => rfl
  | x :: xs, y :: ys, h => by
    simp only [pyDs, PyData.eqvAll, eqvAll_len (xs := xs) (ys := ys) (by simpa using h), Bool.and_false]
theorem eqD_len {xs ys : List D} (h : xs.length ≠ ys.length) : eqD (.tup xs) (.tup ys) = false := by
  unfold eqD
  simp only [pyD, PyData.eqv]
  exact eqvAll_len h
theorem eq_tup {xs ys : List D} {S : Sto} {Q : D → Sto → Prop} (h1 : okD (.tup xs) = true) (h2 : okD (.tup ys) = true) (q : Q (.bl (eqD (.tup xs) (.tup ys))) S) : eqR (.tup xs) (.tup ys) S Q := ⟨h1, h2, q⟩
theorem ne_tup {xs ys : List D} {S : Sto} {Q : D → Sto → Prop} (h1 : okD (.tup xs) = true) (h2 : okD (.tup ys) = true) (q : Q (.bl (!eqD (.tup xs) (.tup ys))) S) : neR (.tup xs) (.tup ys) S Q := ⟨h1, h2, q⟩
mutual
theorem Vw.closed {S : Sto} : ∀ {d e : D}, Vw (fun _ => False) S d e → d = e
  | _, .non, v => v
  | _, .bl _, v => v
  | _, .int _, v => v
  | _, .str _, v => v.1
  | _, .dic _ _, v => v
  | _, .tup es, ⟨xs, h, v⟩ => by rw [h, Vws.closed v]
  | _, .lst es, ⟨xs, h, v⟩ => by
    rcases h with h | ⟨p, _, n, _⟩
    · rw [h, Vws.closed v]
    · exact n.elim
  | _, .ty _, v => v.elim
  | _, .ref _, v => v.elim
  | _, .scr _, v => v.elim
theorem Vws.closed {S : Sto} : ∀ {d e : List D}, Vws (fun _ => False) S d e → d = e
  | _, [], v => v
  | _, _ :: _, ⟨d, r, h, v, vs⟩ => by rw [h, Vw.closed v, Vws.closed vs]
end
theorem add_lst {m : Bool} {xs ys : List D} {S : Sto} {Q : D → Sto → Prop} (h : xs.length + ys.length ≤ 1000000) (q : newL m (xs ++ ys) S Q) : addR m (.lst xs) (.lst ys) S Q :=
  ⟨xs, ys, rfl, rfl, by have : sizeLine = 2 ^ 24 := rfl; omega, q⟩
end Dl
namespace K01
open PySem PySem.Spec PyProof.Rows L2 Dl LamX NdefX
theorem wf_lst : ∀ {n : Nat} {e : D}, wf n e = true → wf n (lstT e) = true
  | 0, _, h => by cases h
  | n + 1, e, h => by
    cases hk : kidE e with
    | some es =>
      obtain ⟨h1, h2⟩ := wf_kid h hk
      rw [lstT_kid hk]
      refine wf_of_kid (es := es.map lstT) rfl (by simpa using h1) fun o ho => ?_
      obtain ⟨o', ho', rfl⟩ := List.mem_map.mp ho
      exact wf_lst (h2 o' ho')
    | none => cases e <;> first | exact h | cases hk
/-- an isle that moves nowhere, drawn -/
def SW (o : D) : Prop := ∃ (z : Str) (b : Bool) (ms : List D), o = .tup [.str z, .bl b, .tup ms, .tup []] ∧ z ∈ NM ∧ 1 ≤ ms.length ∧ ms.length ≤ 5 ∧ (∀ m, m ∈ ms → ModeW m) ∧ unlike (ms.map at0) = true
theorem plain_of {o m1 m2 : D} {z : Str} {b : Bool} {ms : List D} (hk : kidE o = some [.str z, .bl b, m1, m2]) (hz : isNameE (.str z) = true) (h1 : kidE m1 = some ms) (h2 : lisE m2 = true) (l1 : 1 ≤ ms.length) (l2 : ms.length ≤ 5) (hm : ∀ m, m ∈ ms → modeE m = true) (hu : unlike (ms.map at0) = true) : plainE o = true := by
  rw [plain_eq hk, hz, h2, modes_some h1, hu, List.all_eq_true.mpr hm, decide_eq_true (by omega), decide_eq_true (by omega)]
  rfl
theorem modeW_e {m : D} (h : ModeW m) : modeE m = true ∧ modeE (lstT m) = true ∧ at0 (lstT m) = at0 m := by
  obtain ⟨u, i, f, rfl, hu, h1, h2⟩ := h
  have hw : withinE (.int i) (-1000000) 1000000 = true := by simp only [withinE, Bool.and_eq_true, decide_eq_true_eq]; exact ⟨h1, h2⟩
  refine ⟨?_, ?_, rfl⟩
  · rw [mode_eq (x := .str u) (y := .int i) (z := .bl f) rfl, mm_ok u hu, hw]; rfl
  · rw [mode_eq (e := lstT _) (x := .str u) (y := .int i) (z := .bl f) rfl, mm_ok u hu, hw]; rfl
theorem SW.plain {o : D} (h : SW o) : plainE o = true ∧ plainE (lstT o) = true ∧ at0 (lstT o) = at0 o := by
  obtain ⟨z, b, ms, rfl, hz, l1, l2, hm, hu⟩ := h
  refine ⟨plain_of (z := z) (b := b) (m1 := .tup ms) (m2 := .tup []) (ms := ms) rfl (nm_ok z hz) rfl rfl l1 l2 (fun m h => (modeW_e (hm m h)).1) hu, ?_, rfl⟩
  refine plain_of (z := z) (b := b) (m1 := .lst (ms.map lstT)) (m2 := .lst []) (ms := ms.map lstT) (by simp only [lstT, lstTs, kidE, lstTs_map]) (nm_ok z hz) rfl rfl (by simpa using l1) (by simpa using l2) (fun m h => ?_) ?_
  · obtain ⟨m', h', rfl⟩ := List.mem_map.mp h
    exact (modeW_e (hm m' h')).2.1
  · rw [List.map_map, show ms.map (at0 ∘ lstT) = ms.map at0 from List.map_congr_left fun m h => (modeW_e (hm m h)).2.2]
    exact hu
theorem isles_eq {e : D} {es : List D} (hk : kidE e = some es) : islesE e = (decide ((1 : Int) ≤ es.length) && (decide ((es.length : Int) ≤ 6) && (es.all plainE && unlike (es.map at0)))) := by
  unfold islesE rowE kids
  rw [hk]
  simp only [Option.getD_some]
  have : es.all plainE = (es.all isleE && es.all fun o => lisE (at3 o)) := by
    rw [Bool.eq_iff_iff, Bool.and_eq_true, List.all_eq_true, List.all_eq_true, List.all_eq_true]
    simp only [plainE, Bool.and_eq_true]
    exact ⟨fun h => ⟨fun x hx => (h x hx).1, fun x hx => (h x hx).2⟩, fun h x hx => ⟨h.1 x hx, h.2 x hx⟩⟩
  rw [this]
  cases decide ((1 : Int) ≤ es.length) <;> cases decide ((es.length : Int) ≤ 6) <;> cases es.all isleE <;> cases unlike (es.map at0) <;> simp
/-- drawn isles, no two of one name -/
structure Good (isl : List D) (zs : List Str) : Prop where
  at_ : ∀ o, o ∈ isl → SW o
  names : isl.map at0 = zs.map .str
  nd : zs.Nodup
  lo : 1 ≤ isl.length
  hi : isl.length ≤ 6
theorem SW.wf {o : D} (h : SW o) : wf 4 o = true := by
  obtain ⟨z, b, ms, rfl, hz, l1, l2, hm, hu⟩ := h
  refine wf_of_kid (es := [.str z, .bl b, .tup ms, .tup []]) rfl (by simp) fun o ho => ?_
  simp only [List.mem_cons, List.not_mem_nil, or_false] at ho
  rcases ho with rfl | rfl | rfl | rfl
  · exact wf_mono (nm_wf z hz) (by omega)
  · rfl
  · exact wf_of_kid (es := ms) rfl (by omega) fun m h => (modeW_wf (hm m h)).1
  · rfl
theorem SW.fix {o : D} (h : SW o) : fixT o = o := by
  obtain ⟨z, b, ms, rfl, hz, l1, l2, hm, hu⟩ := h
  have : fixTs ms = ms := by
    rw [fixTs_map]
    refine (List.map_congr_left fun m h => ?_).trans (List.map_id' ms)
    obtain ⟨u, i, f, rfl, _⟩ := hm m h
    rfl
  simp only [fixT, fixTs, this]
theorem name_sm {z : Str} (h : z ∈ NM ++ MM) : Sm (.str z) 0 8 := by
  have := List.all_eq_true.mp (by decide +kernel : (NM ++ MM).all (fun z => PyData.strOk z && (decide (z.cps.size ≤ 8) && ((z.cps.toList.all fun c => decide (c < 16 ^ 8)) && PyData.strOk (reprText z)))) = true) z h
  simp only [Bool.and_eq_true, decide_eq_true_eq] at this
  exact Sm.str this.1 this.2.1 this.2.2.1 this.2.2.2
theorem SW.sm {o : D} (h : SW o) : Sm o 3 564 := by
  obtain ⟨z, b, ms, rfl, hz, l1, l2, hm, hu⟩ := h
  have h1 : Sm (.tup ms) 2 140 := (Sm.tup (n := 1) (b := 27) fun m h => by
    obtain ⟨u, i, f, rfl, hu, i1, i2⟩ := hm m h
    refine Sm.tup (n := 0) (b := 8) fun o ho => ?_
    simp only [List.mem_cons, List.not_mem_nil, or_false] at ho
    rcases ho with rfl | rfl | rfl
    · exact name_sm (List.mem_append_right _ hu)
    · exact (Sm.int (by omega)).mono (Nat.le_refl _) (by omega)
    · exact Sm.bl.mono (Nat.le_refl _) (by omega)).mono (Nat.le_refl _) (by omega)
  refine (Sm.tup (n := 2) (b := 140) fun o ho => ?_).mono (Nat.le_refl _) (by simp)
  simp only [List.mem_cons, List.not_mem_nil, or_false] at ho
  rcases ho with rfl | rfl | rfl | rfl
  · exact (name_sm (List.mem_append_left _ hz)).mono (by omega) (by omega)
  · exact Sm.bl.mono (by omega) (by omega)
  · exact h1
  · exact (Sm.tup (n := 0) (b := 0) (es := []) fun o ho => by simp at ho).mono (by omega) (by simp)
theorem SW.name {o : D} (h : SW o) : ∃ z, at0 o = .str z ∧ z ∈ NM := by
  obtain ⟨z, b, ms, rfl, hz, _⟩ := h
  exact ⟨z, rfl, hz⟩
section
variable {isl : List D} {zs : List Str}
theorem Good.isles (g : Good isl zs) : islesE (.lst isl) = true ∧ islesE (.tup isl) = true ∧ islesE (lstT (.tup isl)) = true := by
  have h1 : ∀ e : D, kidE e = some isl → islesE e = true := fun e hk => by
    rw [isles_eq hk, List.all_eq_true.mpr fun o ho => (g.at_ o ho).plain.1, g.names, unlike_str, decide_eq_true g.nd, decide_eq_true (by have := g.lo; omega), decide_eq_true (by have := g.hi; omega)]
    rfl
  refine ⟨h1 _ rfl, h1 _ rfl, ?_⟩
  rw [lstT_kid (es := isl) rfl, isles_eq (es := isl.map lstT) rfl, List.map_map, show isl.map (at0 ∘ lstT) = isl.map at0 from List.map_congr_left fun o ho => (g.at_ o ho).plain.2.2, g.names, unlike_str, decide_eq_true g.nd, List.length_map,
    decide_eq_true (by have := g.lo; omega), decide_eq_true (by have := g.hi; omega), List.all_eq_true.mpr fun o ho => by
      obtain ⟨o', ho', rfl⟩ := List.mem_map.mp ho
      exact (g.at_ o' ho').plain.2.1]
  rfl
theorem Good.fix (g : Good isl zs) : fixT (.lst isl) = .tup isl ∧ fixT (lstT (.lst isl)) = .tup isl := by
  have : fixT (.lst isl) = .tup isl := by
    rw [fixT_kid (es := isl) rfl, (List.map_congr_left fun o ho => (g.at_ o ho).fix).trans (List.map_id' isl)]
  exact ⟨this, by rw [fix_lst]; exact this⟩
theorem Good.wf (g : Good isl zs) : Dl.wf 8 (.lst isl) = true ∧ Dl.wf 8 (lstT (.lst isl)) = true := by
  have : Dl.wf 8 (.lst isl) = true := wf_of_kid (es := isl) rfl (by have := g.hi; omega) fun o ho => wf_mono (g.at_ o ho).wf (by omega)
  exact ⟨this, wf_lst this⟩
theorem Good.sm (g : Good isl zs) : Sm (.tup isl) 4 3390 ∧ Sm (.tup (isl.map at0)) 1 54 ∧ Sm (.lst [.tup isl, .tup [], .tup [], .tup (isl.map at0)]) 8 20000 := by
  have hi := g.hi
  have h1 : Sm (.tup isl) 4 3390 := (Sm.tup fun o ho => (g.at_ o ho).sm).mono (Nat.le_refl _) (by omega)
  have h2 : Sm (.tup (isl.map at0)) 1 54 := (Sm.tup (n := 0) (b := 8) fun o ho => by
    obtain ⟨o', ho', rfl⟩ := List.mem_map.mp ho
    obtain ⟨z, e, hz⟩ := (g.at_ o' ho').name
    rw [e]
    exact name_sm (List.mem_append_left _ hz)).mono (Nat.le_refl _) (by simp; omega)
  have h0 : Sm (.tup []) 4 3390 := (Sm.tup (n := 0) (b := 0) (es := []) fun o ho => by simp at ho).mono (by omega) (by simp)
  refine ⟨h1, h2, (Sm.lst (n := 4) (b := 3390) fun o ho => ?_).mono (by omega) (by simp)⟩
  simp only [List.mem_cons, List.not_mem_nil, or_false] at ho
  rcases ho with rfl | rfl | rfl | rfl
  · exact h1
  · exact h0
  · exact h0
  · exact h2.mono (by omega) (by omega)
theorem still_of {e : D} {es : List D} (hk : kidE e = some es) (h : ∀ o, o ∈ es → MvR o) : Still e := by
  intro es' hk' o ho hi
  rw [hk] at hk'
  cases hk'
  obtain ⟨x, y, z, m, ms, h1, _⟩ := isle_kids hi
  have : at3 o = m := by unfold at3 kids; rw [h1]; rfl
  rw [this]
  intro es' h2
  rcases h o ho x y z m h1 with rfl | rfl | rfl | rfl <;> cases h2 <;> rfl
theorem SW.mv {o : D} (h : SW o) : MvR o := by
  obtain ⟨z, b, ms, rfl, _⟩ := h
  intro x y z' m hk
  cases hk
  exact .inl rfl
theorem MvR.lst {o : D} (h : MvR o) : MvR (lstT o) := by
  intro x y z m hk
  rw [kid_lst] at hk
  cases hko : kidE o with
  | none => rw [hko] at hk; cases hk
  | some es =>
    rw [hko] at hk
    have hk := Option.some.inj hk
    match es, hk with
    | [x', y', z', m'], hk =>
      simp only [List.map_cons, List.map_nil, List.cons.injEq, and_true] at hk
      obtain ⟨_, _, _, rfl⟩ := hk
      rcases h x' y' z' m' hko with rfl | rfl | rfl | rfl
      · exact .inr (.inl rfl)
      · exact .inr (.inl rfl)
      · exact .inr (.inr (.inl rfl))
      · exact .inr (.inr (.inr rfl))
    | [], hk => cases hk
    | [_], hk => cases hk
    | [_, _], hk => cases hk
    | [_, _, _], hk => cases hk
    | _ :: _ :: _ :: _ :: _ :: _, hk => simp at hk
theorem Good.still (g : Good isl zs) : Still (.lst isl) ∧ Still (lstT (.lst isl)) := by
  refine ⟨still_of (es := isl) rfl fun o ho => (g.at_ o ho).mv, ?_⟩
  rw [lstT_kid (es := isl) rfl]
  refine still_of (es := isl.map lstT) rfl fun o ho => ?_
  obtain ⟨o', ho', rfl⟩ := List.mem_map.mp ho
  exact (g.at_ o' ho').mv.lst
theorem bool_of {e : D} (h : isE "bool" e = true) : ∃ b, e = .bl b := by
  cases e <;> first | exact ⟨_, rfl⟩ | (exfalso; revert h; simp [isE])
theorem within_i {e : D} {lo hi : Int} (h : withinE e lo hi = true) : ∃ i, e = .int i := by
  cases e <;> first | exact ⟨_, rfl⟩ | cases h
theorem plain_pl {n : Nat} {o : D} (h : plainE o = true) (w : Dl.wf n o = true) (mv : MvR o) : Pl (fixT o) 3 := by
  obtain ⟨h1, h2⟩ := Bool.and_eq_true_iff.mp h
  obtain ⟨x, y, z, m, ms, hk, n1, n2, hkz, l1, l2, hm, _⟩ := isle_kids h1
  have : at3 o = m := by unfold at3 kids; rw [hk]; rfl
  rw [this] at h2
  cases n with
  | zero => cases w
  | succ n =>
  obtain ⟨_, wk⟩ := wf_kid w hk
  cases n with
  | zero => have h0 := wk x (by simp); revert h0; simp [Dl.wf]
  | succ n =>
  obtain ⟨_, wz⟩ := wf_kid (wk z (by simp)) hkz
  obtain ⟨s, rfl, _⟩ := name_str n1
  obtain ⟨b, rfl⟩ := bool_of n2
  rw [fixT_kid hk]
  refine Pl.tup fun o ho => ?_
  simp only [List.map_cons, List.map_nil, List.mem_cons, List.not_mem_nil, or_false] at ho
  rcases ho with rfl | rfl | rfl | rfl
  · exact (Pl.str (wf_str (wk _ (by simp))).1).mono (by omega)
  · exact Pl.bl.mono (by omega)
  · rw [fixT_kid hkz]
    refine Pl.tup fun o ho => ?_
    obtain ⟨q, hq, rfl⟩ := List.mem_map.mp ho
    obtain ⟨u, i, f, hkq, u1, u2, u3⟩ := mode_kids (hm q hq)
    obtain ⟨s, rfl, _⟩ := name_str u1
    obtain ⟨i, rfl⟩ := within_i u2
    obtain ⟨b, rfl⟩ := bool_of u3
    cases n with
    | zero => have h0 := wz q hq; revert h0; simp [Dl.wf]
    | succ n =>
    have wq := (wf_kid (wz q hq) hkq).2
    rw [fixT_kid hkq]
    refine Pl.tup fun o ho => ?_
    simp only [List.map_cons, List.map_nil, List.mem_cons, List.not_mem_nil, or_false] at ho
    rcases ho with rfl | rfl | rfl
    · exact Pl.str (wf_str (wq _ (by simp))).1
    · exact Pl.int
    · exact Pl.bl
  · rcases mv _ _ _ _ hk with rfl | rfl | rfl | rfl
    · exact (Pl.tup (n := 0) (es := []) fun o ho => by simp at ho).mono (by omega)
    · exact (Pl.tup (n := 0) (es := []) fun o ho => by simp at ho).mono (by omega)
    · cases h2
    · cases h2
theorem isles_ok {n : Nat} {e : D} {es : List D} (hk : kidE e = some es) (h : islesE e = true) (w : ∀ o, o ∈ es → Dl.wf n o = true) (mv : ∀ o, o ∈ es → MvR o) : okD (fixT e) = true := by
  rw [isles_eq hk] at h
  simp only [Bool.and_eq_true, List.all_eq_true] at h
  rw [fixT_kid hk]
  refine (Pl.tup (n := 3) fun o ho => ?_).ok (by omega)
  obtain ⟨q, hq, rfl⟩ := List.mem_map.mp ho
  exact plain_pl (h.2.2.1 q hq) (w q hq) (mv q hq)
end
end K01
/-! K01J: the law. -/
namespace Dl
open PySem PySem.Spec PyProof.Rows L2
/-- what was there is there -/
def Keep (S S' : Sto) : Prop := ∀ b o, S b = some o → S' b = some o
theorem Keep.rfl {S : Sto} : Keep S S := fun _ _ e => e
theorem Keep.trans {S S1 S2 : Sto} (h : Keep S S1) (k : Keep S1 S2) : Keep S S2 := fun b o e => k b o (h b o e)
theorem Keep.put {S S1 : Sto} {a : Addr} {o : O} (h : Keep S S1) (e : S1 a = none) : Keep S (put S1 a o) := fun b u hb => by
  rw [put_ne (ne_sm e (h b u hb))]; exact h b u hb
theorem Keep.put0 {S S1 : Sto} {a : Addr} {o : O} (h : Keep S S1) (e : S a = none) : Keep S (Dl.put S1 a o) := fun b u hb => by
  rw [put_ne (ne_sm e hb)]; exact h b u hb
theorem walkD_lst {S : Sto} {xs : List D} {P : List D → (Sto → Prop) → Sto → Prop} : walkD (.lst xs) S P = P xs (fun _ => True) S := rfl
theorem walkD_tup {S : Sto} {xs : List D} {P : List D → (Sto → Prop) → Sto → Prop} : walkD (.tup xs) S P = P xs (fun _ => True) S := rfl
theorem cut_mem {xs : List D} {lo hi : Option Int} {o : D} (h : o ∈ cutL xs lo hi) : o ∈ xs := List.mem_of_mem_drop (List.mem_of_mem_take h)
theorem cut_len {xs : List D} {lo hi : Option Int} : (cutL xs lo hi).length ≤ xs.length := by
  unfold cutL
  rw [List.length_take, List.length_drop]
  omega
theorem zip_filt {N : Addr → Prop} {S : Sto} (p : D → Bool) (f : D → D) : ∀ {xs es : List D}, Vws N S xs es → ((xs.zip es).filterMap fun z => if p z.2 = true then some (f z.2) else none) = (es.filter p).map f
  | _, [], w => by rw [show _ = [] from w]; rfl
  | _, e :: es, ⟨d, r, hd, v, w⟩ => by
    rw [hd, List.zip_cons_cons, List.filterMap_cons, List.filter_cons, zip_filt p f w]
    cases p e <;> rfl
theorem ne_bl {b b' : Bool} {S : Sto} {Q : D → Sto → Prop} (q : Q (.bl (!(b == b'))) S) : neR (.bl b) (.bl b') S Q := by
  have : eqD (topD S (.bl b)) (topD S (.bl b')) = (b == b') := by
    simp only [topD]
    cases b <;> cases b' <;> decide +kernel
  refine ⟨rfl, rfl, ?_⟩
  rw [this]
  exact q
/-- one thing or the other, then the same -/
theorem pick_two {c : Bool} {Φ : Phi} {ds : List D} {S : Sto} {E : EX} {R : D → Sto → Prop} {d0 : D} (G : D → Sto → Prop) (h1 : c = true → (∀ d S, G d S → R d S) → Φ ds S R E) (h2 : G d0 S) (rest : ∀ d S, G d S → R d S) : if c = true then Φ ds S R E else R d0 S := by
  cases c with
  | true => rw [if_pos rfl]; exact h1 rfl rest
  | false => rw [if_neg (by decide)]; exact rest _ _ h2
theorem Vw.keep {N : Addr → Prop} {S S' : Sto} {d e : D} (v : Vw N S d e) (k : Keep S S') : Vw N S' d e := v.mono fun q ys hq hy => ⟨hq, k _ _ hy⟩
end Dl
namespace K01
open PySem PySem.Spec PyProof.Rows L2 Dl LamX NdefX
def Φlaw (a : Ad) : D → Sto → (D → Sto → Prop) → Prop := fun d S P => ∃ ns, d = .scr ns ∧ S a.tabP = some (.tab lamQ) ∧ ∀ S', P (.bl true) S'
structure NfF (K : PySem.W.Frag) (a : Ad) : Prop where
  yard : PySem.W.notFirst K a.c_Yard (.ref a.c_Yard) = true
  lst : PySem.W.notFirst K a.c_Yard (.type "list") = true
section
variable {K : PySem.W.Frag} {a : Ad}
def yardO (a : Ad) (e : D) : O := .ins a.c_Yard (yardF (fixT e) (.tup []) (.tup []) (namesT e))
theorem make_good {N : Addr → Prop} {S : Sto} {d e db dw eb ew : D} {Q : Addr → Sto → Prop} {E : EX} (v : Vw N S d e) (w : wf 8 e = true) (st : Still e) (h : islesE e = true) (vb : Vw N S db eb) (kb : kidE eb = some []) (vw : Vw N S dw ew) (kw : kidE ew = some [])
    (q : ∀ p, S p = none → Q p (put S p (yardO a e))) : ∀ p, S p = none → Φyard a [.ref p, d, db, dw] (put S p (.ins a.c_Yard [])) (fun d S2 => d = .non ∧ Q p S2) E := fun p hp => by
  refine ⟨p, d, db, dw, e, N, 0, rfl, put_same, rfl, v.fresh hp, w, st, ?_⟩
  rw [if_pos h]
  refine ⟨⟨⟨eb, vb.fresh hp, kb⟩, ⟨ew, vw.fresh hp, kw⟩⟩, rfl, ?_⟩
  rw [put_put]
  exact q p hp
theorem make_bad {N : Addr → Prop} {S : Sto} {d e db dw : D} {Q : Addr → Sto → Prop} {E : EX} (v : Vw N S d e) (w : wf 8 e = true) (st : Still e) (h : islesE e = false)
    (q : ∀ p, S p = none → E a.c_BadYard [("part", .str "isles")] (put S p (.ins a.c_Yard []))) : ∀ p, S p = none → Φyard a [.ref p, d, db, dw] (put S p (.ins a.c_Yard [])) (fun d S2 => d = .non ∧ Q p S2) E := fun p hp => by
  refine ⟨p, d, db, dw, e, N, 0, rfl, put_same, rfl, v.fresh hp, w, st, ?_⟩
  rw [if_neg (by rw [h]; decide)]
  exact q p hp
/-- .. of isles alone -/
theorem mk1 {N : Addr → Prop} {S : Sto} {d e : D} {Q : Addr → Sto → Prop} {E : EX} (v : Vw N S d e) (w : wf 8 e = true) (st : Still e) (h : islesE e = true)
    (q : ∀ p, S p = none → Q p (put S p (yardO a e))) : ∀ p, S p = none → ([d] ++ [D.tup [], D.tup []]).length + 1 = 4 ∧ Φyard a (.ref p :: ([d] ++ [D.tup [], D.tup []])) (put S p (.ins a.c_Yard [])) (fun d S2 => d = .non ∧ Q p S2) E := fun p hp =>
  ⟨rfl, make_good (eb := .tup []) (ew := .tup []) v w st h (Vw.of_tree rfl) rfl (Vw.of_tree rfl) rfl q p hp⟩
theorem mk1b {N : Addr → Prop} {S : Sto} {d e : D} {Q : Addr → Sto → Prop} {E : EX} (v : Vw N S d e) (w : wf 8 e = true) (st : Still e) (h : islesE e = false)
    (q : ∀ p, S p = none → E a.c_BadYard [("part", .str "isles")] (put S p (.ins a.c_Yard []))) : ∀ p, S p = none → ([d] ++ [D.tup [], D.tup []]).length + 1 = 4 ∧ Φyard a (.ref p :: ([d] ++ [D.tup [], D.tup []])) (put S p (.ins a.c_Yard [])) (fun d S2 => d = .non ∧ Q p S2) E := fun p hp =>
  ⟨rfl, make_bad v w st h q p hp⟩
theorem isi_lst {S : Sto} {p : Addr} {xs : List D} {Q : D → Sto → Prop} (h : S p = some (.lst xs)) (q : Q (.bl true) S) : isiR K a.ct [.ref p, .ty "list"] S Q := by
  refine ⟨.type "list", .type "list", true, ?_, rfl, by rfl, q⟩
  simp only [Dl.tyV, h]
theorem names_at (i b w n : D) : (yardF i b w n).lookup ("names" : Str) = some n := by
  have f1 : (("names" : Str) == ("isles" : Str)) = false := by decide +kernel
  have f2 : (("names" : Str) == ("bars" : Str)) = false := by decide +kernel
  have f3 : (("names" : Str) == ("wishes" : Str)) = false := by decide +kernel
  have s1 : ∀ z : Str, (z == z) = true := fun z => beq_self_eq_true z
  unfold yardF
  simp only [List.lookup_cons, f1, f2, f3, s1]
theorem own_eq (CF : ClF K a) (NF : NfF K a) {S : Sto} {q1 q2 : Addr} {e1 e2 : D} {neg : Bool} {Q : D → Sto → Prop} (h1 : S q1 = some (yardO a e1)) (h2 : S q2 = some (yardO a e2)) (o1 : okD (.tup [fixT e1, .tup [], .tup []]) = true) (o2 : okD (.tup [fixT e2, .tup [], .tup []]) = true)
    (q : Q (.bl (if neg then !eqD (.tup [fixT e1, .tup [], .tup []]) (.tup [fixT e2, .tup [], .tup []]) else eqD (.tup [fixT e1, .tup [], .tup []]) (.tup [fixT e2, .tup [], .tup []]))) S) : ownEqR K a.ct [a.c_Yard] neg (Φyeq a) (.ref q1) (.ref q2) S Q :=
  ⟨a.c_Yard, _, .ref a.c_Yard, by simp, h1, by simp only [Dl.tyV, h2, yardO, if_pos CF.yard], NF.yard, q1, .ref q2, _, _, _, _, rfl, h1, .inr ⟨q2, _, _, _, _, rfl, h2, o1, o2, ⟨_, rfl, q⟩⟩⟩
theorem own_lst (NF : NfF K a) {S : Sto} {q1 : Addr} {e1 : D} {xs : List D} {Q : D → Sto → Prop} (h1 : S q1 = some (yardO a e1)) (ht : Dl.tree (.lst xs) = true) (q : Q (.bl false) S) : ownEqR K a.ct [a.c_Yard] false (Φyeq a) (.ref q1) (.lst xs) S Q :=
  ⟨a.c_Yard, _, .type "list", by simp, h1, rfl, NF.lst, q1, .lst xs, _, _, _, _, rfl, h1, .inl ⟨.lst xs, fun _ => False, Vw.of_tree ht, ⟨_, rfl, by simpa using q⟩⟩⟩
def otherD : D := .lst [.tup [.str (Str.ofString "other"), .bl true, .lst [.tup [.str (Str.ofString "on"), .int 0, .bl true]], .lst []]]
theorem other_isles : islesE otherD = true := by decide +kernel
theorem other_wf : wf 8 otherD = true := by decide +kernel
theorem other_ok : okD (.tup [fixT otherD, .tup [], .tup []]) = true := by decide +kernel
theorem other_mv : Still otherD := still_of (es := [.tup [.str (Str.ofString "other"), .bl true, .lst [.tup [.str (Str.ofString "on"), .int 0, .bl true]], .lst []]]) rfl fun o ho => by
  rw [List.mem_singleton] at ho
  subst ho
  intro x y z m hk
  cases hk
  exact .inr (.inl rfl)
theorem eq_first {x y : D} {xs ys : List D} (h : eqD x y = false) : eqD (.tup (x :: xs)) (.tup (y :: ys)) = false := by
  unfold eqD at *
  simp only [pyD, pyDs, PyData.eqv, PyData.eqvAll, h, Bool.false_and]
theorem not_other {isl : List D} {zs : List Str} (g : Good isl zs) : eqD (.tup [.tup isl, .tup [], .tup []]) (.tup [fixT otherD, .tup [], .tup []]) = false := by
  refine eq_first ?_
  show eqD (.tup isl) (.tup [.tup [.str (Str.ofString "other"), .bl true, .tup [.tup [.str (Str.ofString "on"), .int 0, .bl true]], .tup []]]) = false
  by_cases h1 : isl.length = 1
  · obtain ⟨o, rfl⟩ := List.length_eq_one_iff.mp h1
    obtain ⟨z, b, ms, rfl, hz, _⟩ := g.at_ o (by simp)
    refine eq_first (eq_first ?_)
    rw [eqD_str]
    refine decide_eq_false fun e => ?_
    rw [e] at hz
    revert hz
    decide +kernel
  · exact eqD_len (by simpa using h1)
/-- what is handed in -/
structure Hd (p : Addr) (S : Sto) (d e : D) (es : List D) : Prop where
  v : Vw (· ≠ p) S d e
  k : kidE e = some es
  lo : 1 ≤ es.length
  len : es.length ≤ 100
  wf : ∀ o, o ∈ es → wf 7 o = true
  mv : ∀ o, o ∈ es → MvR o
theorem Hd.lst {p : Addr} {S : Sto} {ds es : List D} (v : Vws (· ≠ p) S ds es) (h1 : 1 ≤ es.length) (hl : es.length ≤ 50) (hw : ∀ o, o ∈ es → Dl.wf 7 o = true) (hm : ∀ o, o ∈ es → MvR o) : Hd p S (.lst ds) (.lst es) es ∧ Hd p S (.tup ds) (.tup es) es ∧ Hd p S (.lst (ds ++ ds.take 1)) (.lst (es ++ es.take 1)) (es ++ es.take 1) ∧ Hd p S (lstT (.lst es)) (lstT (.lst es)) (es.map lstT) := by
  refine ⟨⟨⟨ds, .inl rfl, v⟩, rfl, h1, by omega, hw, hm⟩, ⟨⟨ds, rfl, v⟩, rfl, h1, by omega, hw, hm⟩, ⟨⟨_, .inl rfl, v.append (v.take 1)⟩, rfl, by simp; omega, by simp; omega, fun o ho => ?_, fun o ho => ?_⟩, ⟨Vw.of_tree (wf_tree (n := 8) (wf_lst (wf_of_kid (es := es) rfl (by omega) hw))), (by rw [lstT_kid (es := es) rfl]; rfl), by simpa using h1, by simp; omega, fun o ho => ?_, fun o ho => ?_⟩⟩
  · rcases List.mem_append.mp ho with h | h
    · exact hw o h
    · exact hw o (List.mem_of_mem_take h)
  · rcases List.mem_append.mp ho with h | h
    · exact hm o h
    · exact hm o (List.mem_of_mem_take h)
  · obtain ⟨o', h, rfl⟩ := List.mem_map.mp ho
    exact wf_lst (hw o' h)
  · obtain ⟨o', h, rfl⟩ := List.mem_map.mp ho
    exact (hm o' h).lst
theorem Hd.on {p : Addr} {S S' : Sto} {d e : D} {es : List D} (h : Hd p S d e es) (k : ∀ b, b ≠ p → S' b = S b) : Hd p S' d e es := ⟨h.v.mono fun q ys hq hy => ⟨hq, by rw [k q hq]; exact hy⟩, h.k, h.lo, h.len, h.wf, h.mv⟩
/-- is_fine -/
def dFine : TDE := (dAndV (dOp eqR (dB (one lenR) (aCons (dVar 9) aNil)) (dB (one lenR) (aCons (dVar 8) aNil))) (dAndV (dOp eqR (dLenSet (dVar 9)) (dB (one lenR) (aCons (dVar 9) aNil))) (dOp leR (dB (one lenR) (aCons (dVar 8) aNil)) (dC (.int 6)))))
theorem dFine_eq : (dAndV (dOp eqR (dB (one lenR) (aCons (dVar 9) aNil)) (dB (one lenR) (aCons (dVar 8) aNil))) (dAndV (dOp eqR (dLenSet (dVar 9)) (dB (one lenR) (aCons (dVar 9) aNil))) (dOp leR (dB (one lenR) (aCons (dVar 8) aNil)) (dC (.int 6))))) = dFine := rfl
theorem fine_ok {ρ : DEnv} {N : Addr → Prop} {S : Sto} {d e : D} {es : List D} {zs : List Str} {Q : D → Sto → Prop} (h8 : ρ[8]? = some (some d)) (h9 : ρ[9]? = some (some (.lst (zs.map .str)))) (v : Vw N S d e) (hk : kidE e = some es) (hz : zs.length ≤ 1000)
    (q : Q (.bl (decide ((zs.length : Int) = es.length) && (decide zs.Nodup && decide ((es.length : Int) ≤ 6)))) S) : dFine ρ S Q := by
  unfold dFine
  simp only [dSeq, dIfS, dTst, dCall, dOp, dUn, dVar, dC, dRet, dRetN, dNext, dAndV, dOrV, dNotV, dAnd, dOr, dNot, dIf, dB, dTup, aCons, aNil, dSet, dChain, dCont, dBreak, dDrop, dAttr, one, gdName, gdTup, gdCons, gdNil, bodyO, List.append_nil, List.length_cons, List.length_nil, List.getElem?_cons_zero, List.getElem?_cons_succ, List.set_cons_zero, List.set_cons_succ, Option.some.injEq, D.bl.injEq, exists_eq_left', exists_eq_left, true_and, Nat.reduceAdd, Nat.zero_add, if_true, if_false, Bool.false_eq_true, Bool.not_true, Bool.not_false, reduceCtorEq, xi_cmp_int, xi_add_int, xi_sub_int, xi_mul_int, xi_mod_int, xi_div_int, xi_pow_int, xi_int_int, xi_int_bl, xi_abs_int, xi_neg_int, h8, h9, dLenSet]
  refine len_sq rfl (v.len hk (eq_int ⟨_, rfl, ?_⟩))
  rw [List.length_map]
  cases c1 : decide ((zs.length : Int) = es.length)
  · rw [c1] at q; rw [if_neg (by decide)]; exact q
  rw [c1] at q
  rw [if_pos rfl]
  refine ⟨_, zs, rfl, strsD_map zs, hz, len_sq rfl (eq_int ⟨_, rfl, ?_⟩)⟩
  rw [List.length_map, show decide ((cntS zs.reverse : Int) = (zs.length : Nat)) = decide zs.Nodup from decide_eq_decide.mpr (by
    rw [← List.length_reverse, Int.ofNat_inj, cntS_full, nodup_rev])]
  cases c2 : decide zs.Nodup
  · rw [c2] at q; rw [if_neg (by decide)]; exact q
  rw [c2] at q
  rw [if_pos rfl]
  exact v.len hk q
theorem isles_fine {e : D} {es : List D} {zs : List Str} (hk : kidE e = some es) (h1 : 1 ≤ es.length) (hn : (es.filter plainE).map at0 = zs.map .str) : (decide ((zs.length : Int) = es.length) && (decide zs.Nodup && decide ((es.length : Int) ≤ 6))) = islesE e := by
  have hl : zs.length = (es.filter plainE).length := by have := congrArg List.length hn; simpa using this.symm
  rw [isles_eq hk, decide_eq_true (show (1 : Int) ≤ es.length by omega), Bool.true_and]
  by_cases hall : ∀ o, o ∈ es → plainE o = true
  · rw [List.filter_eq_self.mpr hall] at hn hl
    rw [hn, unlike_str, List.all_eq_true.mpr hall, decide_eq_true (show (zs.length : Int) = es.length by omega), Bool.true_and, Bool.true_and, Bool.and_comm]
  · have h2 : es.all plainE = false := by
      cases h : es.all plainE with
      | false => rfl
      | true => exact (hall (List.all_eq_true.mp h)).elim
    have h3 : ¬ ((zs.length : Int) = es.length) := fun h => hall (List.length_filter_eq_length_iff.mp (by omega))
    rw [h2, decide_eq_false h3, Bool.false_and, Bool.false_and, Bool.and_false]
def mf (x : D) : D := match x with
  | .str y => .tup [.str (Str.ofString "n" ++ y), .bl false, .lst [.tup [.str (Str.ofString "on"), .int 0, .bl true]], .lst []]
  | _ => .non
def sevenS : List Str := ["a", "b", "c", "d", "e", "f", "g"]
def manyD : List D := (sevenS.map D.str).map mf
theorem seven_eq : Dl.signs (Str.ofString "abcdefg") = sevenS.map .str := by rfl
theorem many_len : manyD.length = 7 := rfl
theorem many_mv {o : D} (h : o ∈ manyD) : MvR o := by
  obtain ⟨x, hx, rfl⟩ := List.mem_map.mp h
  obtain ⟨y, _, rfl⟩ := List.mem_map.mp hx
  intro x y z m hk
  cases hk
  exact .inr (.inl rfl)
theorem many_facts : wf 8 (.lst manyD) = true ∧ islesE (.lst manyD) = false ∧ wf 8 (.lst (manyD.take 6)) = true ∧ islesE (.lst (manyD.take 6)) = true := by decide +kernel
theorem still_leaf {e : D} (h : ∀ es, kidE e = some es → es = []) : Still e := fun es hk o ho => by
  rw [h es hk] at ho
  cases ho
/-- the state between turns -/
def TurnI (a : Ad) (ns0 ns : List Int) (p : Addr) (i : Nat) (ρ : DEnv) (S : Sto) : Prop :=
  ∃ x2 x3 x4 x5 x6 x7 x8 x9 x10 x11 x12 x13 x14 x15 c left, ρ = [some (.scr ns0), some (.ref p), x2, x3, x4, x5, x6, x7, x8, x9, x10, x11, x12, x13, x14, x15] ∧ S p = some (penO ns c left) ∧ 0 ≤ c ∧ c ≤ 1600 * i ∧ S a.tabP = some (.tab lamQ) ∧ p ≠ a.tabP
def stl (o : D) : D := .tup [at0 o, (kids o).getD 1 .non, at2 o, .tup []]
theorem vc_law (CF : ClF K a) (NF : NfF K a) (d : D) (S : Sto) (P : D → Sto → Prop) (h : Φlaw a d S P) : t_law K a Φpen Φwide (Φyard a) (Φyeq a) (Φr lstT 8) Φdraw Φbent Φpick Φplain (Φr fixT 8) (fun _ _ _ => False) (bodyO P) (startD N_law [d]) S := by
  obtain ⟨ns0, rfl, hT, q⟩ := h
  unfold t_law
  rw [dFine_eq]
  simp only [st_law, dSeq, dIfS, dTst, dCall, dOp, dUn, dVar, dC, dRet, dRetN, dNext, dAndV, dOrV, dNotV, dAnd, dOr, dNot, dIf, dB, dTup, aCons, aNil, dSet, dChain, dCont, dBreak, dDrop, dAttr, one, gdName, gdTup, gdCons, gdNil, bodyO, List.append_nil, List.length_cons, List.length_nil, List.getElem?_cons_zero, List.getElem?_cons_succ, List.set_cons_zero, List.set_cons_succ, Option.some.injEq, D.bl.injEq, exists_eq_left', exists_eq_left, true_and, Nat.reduceAdd, Nat.zero_add, if_true, if_false, Bool.false_eq_true, Bool.not_true, Bool.not_false, reduceCtorEq, xi_cmp_int, xi_add_int, xi_sub_int, xi_mul_int, xi_mod_int, xi_div_int, xi_pow_int, xi_int_int, xi_int_bl, xi_abs_int, xi_neg_int]
  refine ⟨ns0, rfl, fun p hp => ?_⟩
  have hpT : p ≠ a.tabP := fun e => by rw [e, hT] at hp; cases hp
  unfold dFor diRng1
  simp only [dSeq, dIfS, dTst, dCall, dOp, dUn, dVar, dC, dRet, dRetN, dNext, dAndV, dOrV, dNotV, dAnd, dOr, dNot, dIf, dB, dTup, aCons, aNil, dSet, dChain, dCont, dBreak, dDrop, dAttr, one, gdName, gdTup, gdCons, gdNil, bodyO, List.append_nil, List.length_cons, List.length_nil, List.getElem?_cons_zero, List.getElem?_cons_succ, List.set_cons_zero, List.set_cons_succ, Option.some.injEq, D.bl.injEq, exists_eq_left', exists_eq_left, true_and, Nat.reduceAdd, Nat.zero_add, if_true, if_false, Bool.false_eq_true, Bool.not_true, Bool.not_false, reduceCtorEq, xi_cmp_int, xi_add_int, xi_sub_int, xi_mul_int, xi_mod_int, xi_div_int, xi_pow_int, xi_int_int, xi_int_bl, xi_abs_int, xi_neg_int]
  refine ⟨by decide, by decide, ?_⟩
  refine for_range (TurnI a ns0 (ns0.take 63) p) 14 0 _ _ (fun i ρ S1 nx _ hi I hnx => ?_) ⟨_, _, _, _, _, _, _, _, _, _, _, _, _, _, 0, 0, rfl, put_same, by decide, by decide, by rw [put_ne (Ne.symm hpT)]; exact hT, hpT⟩ fun ρ S1 I => ?_
  · obtain ⟨x2, x3, x4, x5, x6, x7, x8, x9, x10, x11, x12, x13, x14, x15, c, left, rfl, hp1, c0, c1, hT1, _⟩ := I
    clear q hT hp
    simp only [dSeq, dIfS, dTst, dCall, dOp, dUn, dVar, dC, dRet, dRetN, dNext, dAndV, dOrV, dNotV, dAnd, dOr, dNot, dIf, dB, dTup, aCons, aNil, dSet, dChain, dCont, dBreak, dDrop, dAttr, one, gdName, gdTup, gdCons, gdNil, bodyO, List.append_nil, List.length_cons, List.length_nil, List.getElem?_cons_zero, List.getElem?_cons_succ, List.set_cons_zero, List.set_cons_succ, Option.some.injEq, D.bl.injEq, exists_eq_left', exists_eq_left, true_and, Nat.reduceAdd, Nat.zero_add, if_true, if_false, Bool.false_eq_true, Bool.not_true, Bool.not_false, reduceCtorEq, xi_cmp_int, xi_add_int, xi_sub_int, xi_mul_int, xi_mod_int, xi_div_int, xi_pow_int, xi_int_int, xi_int_bl, xi_abs_int, xi_neg_int]
    have pn1 : Pn (ns0.take 63) p S1 (1600 * i) S1 := Pn.here ⟨c, left, hp1, c0, c1⟩
    refine ⟨p, _, _, S1, rfl, pn1, by omega, fun is bars wishes S2 his hnm l1 l6 pn2 old2 => ?_⟩
    unfold dLc diSeq
    simp only [dSeq, dIfS, dTst, dCall, dOp, dUn, dVar, dC, dRet, dRetN, dNext, dAndV, dOrV, dNotV, dAnd, dOr, dNot, dIf, dB, dTup, aCons, aNil, dSet, dChain, dCont, dBreak, dDrop, dAttr, one, gdName, gdTup, gdCons, gdNil, bodyO, List.append_nil, List.length_cons, List.length_nil, List.getElem?_cons_zero, List.getElem?_cons_succ, List.set_cons_zero, List.set_cons_succ, Option.some.injEq, D.bl.injEq, exists_eq_left', exists_eq_left, true_and, Nat.reduceAdd, Nat.zero_add, if_true, if_false, Bool.false_eq_true, Bool.not_true, Bool.not_false, reduceCtorEq, xi_cmp_int, xi_add_int, xi_sub_int, xi_mul_int, xi_mod_int, xi_div_int, xi_pow_int, xi_int_int, xi_int_bl, xi_abs_int, xi_neg_int, walkD_lst, wipeD]
    refine ⟨_, _, rfl, atI0, ?_⟩
    simp only [dSeq, dIfS, dTst, dCall, dOp, dUn, dVar, dC, dRet, dRetN, dNext, dAndV, dOrV, dNotV, dAnd, dOr, dNot, dIf, dB, dTup, aCons, aNil, dSet, dChain, dCont, dBreak, dDrop, dAttr, one, gdName, gdTup, gdCons, gdNil, bodyO, List.append_nil, List.length_cons, List.length_nil, List.getElem?_cons_zero, List.getElem?_cons_succ, List.set_cons_zero, List.set_cons_succ, Option.some.injEq, D.bl.injEq, exists_eq_left', exists_eq_left, true_and, Nat.reduceAdd, Nat.zero_add, if_true, if_false, Bool.false_eq_true, Bool.not_true, Bool.not_false, reduceCtorEq, xi_cmp_int, xi_add_int, xi_sub_int, xi_mul_int, xi_mod_int, xi_div_int, xi_pow_int, xi_int_int, xi_int_bl, xi_abs_int, xi_neg_int, walkD_tup, wipeD]
    refine lc_list stl trivial is [] (by have : sizeLine = 2 ^ 24 := rfl; simp; omega) (fun x hx R r => ?_) ?_
    · obtain ⟨z, b, ms, mv, rfl, _⟩ := his x hx
      simp only [dSeq, dIfS, dTst, dCall, dOp, dUn, dVar, dC, dRet, dRetN, dNext, dAndV, dOrV, dNotV, dAnd, dOr, dNot, dIf, dB, dTup, aCons, aNil, dSet, dChain, dCont, dBreak, dDrop, dAttr, one, gdName, gdTup, gdCons, gdNil, bodyO, List.append_nil, List.length_cons, List.length_nil, List.getElem?_cons_zero, List.getElem?_cons_succ, List.set_cons_zero, List.set_cons_succ, Option.some.injEq, D.bl.injEq, exists_eq_left', exists_eq_left, true_and, Nat.reduceAdd, Nat.zero_add, if_true, if_false, Bool.false_eq_true, Bool.not_true, Bool.not_false, reduceCtorEq, xi_cmp_int, xi_add_int, xi_sub_int, xi_mul_int, xi_mod_int, xi_div_int, xi_pow_int, xi_int_int, xi_int_bl, xi_abs_int, xi_neg_int]
      exact ⟨_, _, rfl, atI0, _, _, rfl, atI1, _, _, rfl, atI2, by decide, by decide, r⟩
    obtain ⟨zs, hzs, hnd⟩ := hnm
    obtain ⟨isl, hisl, G⟩ : ∃ isl, is.map stl = isl ∧ Good isl zs := by
      refine ⟨_, rfl, fun o ho => ?_, ?_, hnd, by simpa using l1, by simpa using l6⟩
      · obtain ⟨o', ho', rfl⟩ := List.mem_map.mp ho
        obtain ⟨z, b, ms, mv, rfl, h1, h2, h3, h4, h5⟩ := his o' ho'
        exact ⟨z, b, ms, rfl, h1, h2, h3, h4, h5⟩
      · rw [List.map_map, ← hzs]
        exact List.map_congr_left fun o _ => rfl
    rw [List.nil_append, hisl]
    generalize D.tup [.tup is, bars, wishes] = w4
    clear hisl his hzs hnd l1 l6 is
    simp only [newL, Bool.false_eq_true, if_false, dMake, dSeq, dIfS, dTst, dCall, dOp, dUn, dVar, dC, dRet, dRetN, dNext, dAndV, dOrV, dNotV, dAnd, dOr, dNot, dIf, dB, dTup, aCons, aNil, dSet, dChain, dCont, dBreak, dDrop, dAttr, one, gdName, gdTup, gdCons, gdNil, bodyO, List.append_nil, List.length_cons, List.length_nil, List.getElem?_cons_zero, List.getElem?_cons_succ, List.set_cons_zero, List.set_cons_succ, Option.some.injEq, D.bl.injEq, exists_eq_left', exists_eq_left, true_and, Nat.reduceAdd, Nat.zero_add, if_true, if_false, Bool.false_eq_true, Bool.not_true, Bool.not_false, reduceCtorEq, xi_cmp_int, xi_add_int, xi_sub_int, xi_mul_int, xi_mod_int, xi_div_int, xi_pow_int, xi_int_int, xi_int_bl, xi_abs_int, xi_neg_int]
    obtain ⟨m1, m2, m3⟩ := G.isles
    have tl : Dl.tree (.lst isl) = true := wf_tree G.wf.1
    refine mk1 (N := fun _ => True) (Vw.of_tree tl) G.wf.1 G.still.1 m1 fun q1 hq1 => ?_
    have K3 : Keep S2 (put S2 q1 (yardO a (.lst isl))) := Keep.rfl.put hq1
    have hy3 : put S2 q1 (yardO a (.lst isl)) q1 = some (yardO a (.lst isl)) := put_same
    generalize put S2 q1 (yardO a (.lst isl)) = S3 at *
    simp only [attrR, dSeq, dIfS, dTst, dCall, dOp, dUn, dVar, dC, dRet, dRetN, dNext, dAndV, dOrV, dNotV, dAnd, dOr, dNot, dIf, dB, dTup, aCons, aNil, dSet, dChain, dCont, dBreak, dDrop, dAttr, one, gdName, gdTup, gdCons, gdNil, bodyO, List.append_nil, List.length_cons, List.length_nil, List.getElem?_cons_zero, List.getElem?_cons_succ, List.set_cons_zero, List.set_cons_succ, Option.some.injEq, D.bl.injEq, exists_eq_left', exists_eq_left, true_and, Nat.reduceAdd, Nat.zero_add, if_true, if_false, Bool.false_eq_true, Bool.not_true, Bool.not_false, reduceCtorEq, xi_cmp_int, xi_add_int, xi_sub_int, xi_mul_int, xi_mod_int, xi_div_int, xi_pow_int, xi_int_int, xi_int_bl, xi_abs_int, xi_neg_int]
    have hfix : fixT (.lst isl) = .tup isl := G.fix.1
    have hyd : S3 q1 = some (.ins a.c_Yard (yardF (.tup isl) (.tup []) (.tup []) (.tup (isl.map at0)))) := by
      rw [hy3]; unfold yardO; rw [hfix]; rfl
    simp only [dLst, attrR, newL, dSeq, dIfS, dTst, dCall, dOp, dUn, dVar, dC, dRet, dRetN, dNext, dAndV, dOrV, dNotV, dAnd, dOr, dNot, dIf, dB, dTup, aCons, aNil, dSet, dChain, dCont, dBreak, dDrop, dAttr, one, gdName, gdTup, gdCons, gdNil, bodyO, List.append_nil, List.length_cons, List.length_nil, List.getElem?_cons_zero, List.getElem?_cons_succ, List.set_cons_zero, List.set_cons_succ, Option.some.injEq, D.bl.injEq, exists_eq_left', exists_eq_left, true_and, Nat.reduceAdd, Nat.zero_add, if_true, if_false, Bool.false_eq_true, Bool.not_true, Bool.not_false, reduceCtorEq, xi_cmp_int, xi_add_int, xi_sub_int, xi_mul_int, xi_mod_int, xi_div_int, xi_pow_int, xi_int_int, xi_int_bl, xi_abs_int, xi_neg_int]
    refine ⟨_, _, hyd, (yard_at _ _ _ _).1, _, _, hyd, (yard_at _ _ _ _).2.1, _, _, hyd, (yard_at _ _ _ _).2.2, _, _, hyd, names_at _ _ _ _, by decide, repr_lst G.sm.2.2 (by omega) ⟨_, rfl, by decide, by decide, ?_⟩⟩
    simp only [dSeq, dIfS, dTst, dCall, dOp, dUn, dVar, dC, dRet, dRetN, dNext, dAndV, dOrV, dNotV, dAnd, dOr, dNot, dIf, dB, dTup, aCons, aNil, dSet, dChain, dCont, dBreak, dDrop, dAttr, one, gdName, gdTup, gdCons, gdNil, bodyO, List.append_nil, List.length_cons, List.length_nil, List.getElem?_cons_zero, List.getElem?_cons_succ, List.set_cons_zero, List.set_cons_succ, Option.some.injEq, D.bl.injEq, exists_eq_left', exists_eq_left, true_and, Nat.reduceAdd, Nat.zero_add, if_true, if_false, Bool.false_eq_true, Bool.not_true, Bool.not_false, reduceCtorEq, xi_cmp_int, xi_add_int, xi_sub_int, xi_mul_int, xi_mod_int, xi_div_int, xi_pow_int, xi_int_int, xi_int_bl, xi_abs_int, xi_neg_int, walkD_lst, wipeD]
    refine lc_list at0 trivial isl [] (by have : sizeLine = 2 ^ 24 := rfl; have := G.hi; simp; omega) (fun x hx R r => ?_) ?_
    · obtain ⟨z, b, ms, rfl, _⟩ := G.at_ x hx
      simp only [dSeq, dIfS, dTst, dCall, dOp, dUn, dVar, dC, dRet, dRetN, dNext, dAndV, dOrV, dNotV, dAnd, dOr, dNot, dIf, dB, dTup, aCons, aNil, dSet, dChain, dCont, dBreak, dDrop, dAttr, one, gdName, gdTup, gdCons, gdNil, bodyO, List.append_nil, List.length_cons, List.length_nil, List.getElem?_cons_zero, List.getElem?_cons_succ, List.set_cons_zero, List.set_cons_succ, Option.some.injEq, D.bl.injEq, exists_eq_left', exists_eq_left, true_and, Nat.reduceAdd, Nat.zero_add, if_true, if_false, Bool.false_eq_true, Bool.not_true, Bool.not_false, reduceCtorEq, xi_cmp_int, xi_add_int, xi_sub_int, xi_mul_int, xi_mod_int, xi_div_int, xi_pow_int, xi_int_int, xi_int_bl, xi_abs_int, xi_neg_int]
      exact ⟨_, _, rfl, atI0, r⟩
    simp only [tupleR, sqD, List.nil_append, dSeq, dIfS, dTst, dCall, dOp, dUn, dVar, dC, dRet, dRetN, dNext, dAndV, dOrV, dNotV, dAnd, dOr, dNot, dIf, dB, dTup, aCons, aNil, dSet, dChain, dCont, dBreak, dDrop, dAttr, one, gdName, gdTup, gdCons, gdNil, bodyO, List.append_nil, List.length_cons, List.length_nil, List.getElem?_cons_zero, List.getElem?_cons_succ, List.set_cons_zero, List.set_cons_succ, Option.some.injEq, D.bl.injEq, exists_eq_left', exists_eq_left, true_and, Nat.reduceAdd, Nat.zero_add, if_true, if_false, Bool.false_eq_true, Bool.not_true, Bool.not_false, reduceCtorEq, xi_cmp_int, xi_add_int, xi_sub_int, xi_mul_int, xi_mod_int, xi_div_int, xi_pow_int, xi_int_int, xi_int_bl, xi_abs_int, xi_neg_int]
    refine ⟨by decide, repr_lst G.sm.2.2 (by omega) (Dl.ne_str G.sm.2.2.txt G.sm.2.2.txt ⟨_, rfl, ?_⟩)⟩
    rw [if_neg (by simp)]
    simp only [dMakeK, dLst, newL, dSeq, dIfS, dTst, dCall, dOp, dUn, dVar, dC, dRet, dRetN, dNext, dAndV, dOrV, dNotV, dAnd, dOr, dNot, dIf, dB, dTup, aCons, aNil, dSet, dChain, dCont, dBreak, dDrop, dAttr, one, gdName, gdTup, gdCons, gdNil, bodyO, List.append_nil, List.length_cons, List.length_nil, List.getElem?_cons_zero, List.getElem?_cons_succ, List.set_cons_zero, List.set_cons_succ, Option.some.injEq, D.bl.injEq, exists_eq_left', exists_eq_left, true_and, Nat.reduceAdd, Nat.zero_add, if_true, if_false, Bool.false_eq_true, Bool.not_true, Bool.not_false, reduceCtorEq, xi_cmp_int, xi_add_int, xi_sub_int, xi_mul_int, xi_mod_int, xi_div_int, xi_pow_int, xi_int_int, xi_int_bl, xi_abs_int, xi_neg_int]
    have okI : okD (.tup [fixT (.lst isl), .tup [], .tup []]) = true := by
      rw [hfix]
      refine (Sm.tup (n := 4) (b := 3390) fun o ho => ?_).ok (by omega)
      have h0 : Sm (.tup []) 4 3390 := (Sm.tup (n := 0) (b := 0) (es := []) fun o ho => by simp at ho).mono (by omega) (by simp)
      simp only [List.mem_cons, List.not_mem_nil, or_false] at ho
      rcases ho with rfl | rfl | rfl
      · exact G.sm.1
      · exact h0
      · exact h0
    refine ⟨by decide, by decide, .lst isl, .lst isl, fun _ => True, rfl, Vw.of_tree tl, wf_okN G.wf.1, fun q0 h0 => ⟨rfl, ?_⟩⟩
    revert q0
    refine make_good (N := fun _ => True) (d := lstT (.lst isl)) (db := .lst []) (dw := .lst []) (eb := .lst []) (ew := .lst []) (Vw.of_tree (wf_tree G.wf.2)) G.wf.2 G.still.2 m3 (Vw.of_tree rfl) rfl (Vw.of_tree rfl) rfl fun q2 hq2 => ?_
    have K4 := K3.put (o := yardO a (lstT (.lst isl))) hq2
    have hq12 : q1 ≠ q2 := ne_sm hq2 hy3
    have hy4 : put S3 q2 (yardO a (lstT (.lst isl))) q1 = some (yardO a (.lst isl)) := by rw [put_ne hq12]; exact hy3
    refine own_eq CF NF hy4 put_same okI (by rw [fix_lst]; exact okI) ⟨_, rfl, ?_⟩
    rw [fix_lst, eqD_refl okI, if_neg (by decide)]
    generalize put S3 q2 (yardO a (lstT (.lst isl))) = S4 at *
    refine own_lst NF hy4 tl ⟨_, rfl, ?_⟩
    rw [if_neg (by decide)]
    refine ⟨by decide, by decide, by decide, by decide, by decide, ?_⟩
    refine mk1 (N := fun _ => True) (e := otherD) (Vw.of_tree (wf_tree other_wf)) other_wf other_mv other_isles fun q3 hq3 => ?_
    have K5 := K4.put (o := yardO a otherD) hq3
    have hq13 : q1 ≠ q3 := ne_sm hq3 hy4
    refine own_eq CF NF (by rw [put_ne hq13]; exact hy4) put_same okI other_ok ⟨_, rfl, ?_⟩
    rw [hfix, if_neg (by decide : ¬ (false = true)), not_other G, if_neg (by decide)]
    have pn5 : Pn (ns0.take 63) p S1 (1600 * i + 1500) (put S4 q3 (yardO a otherD)) := by
      obtain ⟨c, l, h1, h2, h3⟩ := pn2.pen
      exact ⟨⟨c, l, K5 _ _ h1, h2, h3⟩, fun b o hb e => K5 _ _ (pn2.old b o hb e)⟩
    generalize put S4 q3 (yardO a otherD) = S5 at *
    clear K3 K4 K5 hy3 hy4 hyd hq12 hq13 hq1 hq2 hq3
    generalize some (D.ref q1) = w6
    clear q1 q2 q3 S3 S4
    have hI : (isl.length : Int) ≤ 6 := by have := G.hi; omega
    have hI0 : (1 : Int) ≤ isl.length := by have := G.lo; omega
    refine len_sq rfl (Pn.draw pn5 (by omega) (by omega) fun at_ S6 a0 a1 pn6 e6 => ?_)
    obtain ⟨o, ho⟩ : ∃ o, isl[at_.toNat]? = some o := ⟨_, List.getElem?_eq_getElem (by omega)⟩
    have hat : ∀ xs : List D, at_.toNat < xs.length → atI xs at_ = xs[at_.toNat]? := fun xs h => by
      unfold atI ixN
      rw [if_pos a0, if_pos (by omega)]
      rfl
    have hom := List.mem_of_getElem? ho
    obtain ⟨z, b, ms, rfl, hz, l1, l5, hm, _⟩ := G.at_ o hom
    simp only [dSl, oNone, oSome, slR, lsD, newL, dSeq, dIfS, dTst, dCall, dOp, dUn, dVar, dC, dRet, dRetN, dNext, dAndV, dOrV, dNotV, dAnd, dOr, dNot, dIf, dB, dTup, aCons, aNil, dSet, dChain, dCont, dBreak, dDrop, dAttr, one, gdName, gdTup, gdCons, gdNil, bodyO, List.append_nil, List.length_cons, List.length_nil, List.getElem?_cons_zero, List.getElem?_cons_succ, List.set_cons_zero, List.set_cons_succ, Option.some.injEq, D.bl.injEq, exists_eq_left', exists_eq_left, true_and, Nat.reduceAdd, Nat.zero_add, if_true, if_false, Bool.false_eq_true, Bool.not_true, Bool.not_false, reduceCtorEq, xi_cmp_int, xi_add_int, xi_sub_int, xi_mul_int, xi_mod_int, xi_div_int, xi_pow_int, xi_int_int, xi_int_bl, xi_abs_int, xi_neg_int]
    refine ⟨_, _, rfl, (hat isl (by omega)).trans ho, ⟨p, z, b, ms, _, _, S1, rfl, hz, l1, l5, hm, pn6, by omega, fun d e S7 v bw pn7 old7 => ?_⟩⟩
    simp only [addR, lsD, newL, dSeq, dIfS, dTst, dCall, dOp, dUn, dVar, dC, dRet, dRetN, dNext, dAndV, dOrV, dNotV, dAnd, dOr, dNot, dIf, dB, dTup, aCons, aNil, dSet, dChain, dCont, dBreak, dDrop, dAttr, one, gdName, gdTup, gdCons, gdNil, bodyO, List.append_nil, List.length_cons, List.length_nil, List.getElem?_cons_zero, List.getElem?_cons_succ, List.set_cons_zero, List.set_cons_succ, Option.some.injEq, D.bl.injEq, exists_eq_left', exists_eq_left, true_and, Nat.reduceAdd, Nat.zero_add, if_true, if_false, Bool.false_eq_true, Bool.not_true, Bool.not_false, reduceCtorEq, xi_cmp_int, xi_add_int, xi_sub_int, xi_mul_int, xi_mod_int, xi_div_int, xi_pow_int, xi_int_int, xi_int_bl, xi_abs_int, xi_neg_int]
    have hs24 : sizeLine = 2 ^ 24 := rfl
    have hcl : (cutL isl (some (at_ + 1)) none).length ≤ isl.length := cut_len
    rw [take_eq a0]
    refine ⟨by decide, _, _, rfl, rfl, by simp; omega, _, _, rfl, rfl, by simp; omega, _, _, rfl, rfl, ?_⟩
    rw [take_eq (by decide)]
    obtain ⟨bd, hbd⟩ : ∃ bd, isl.take at_.toNat ++ [d] ++ cutL isl (some (at_ + 1)) none = bd := ⟨_, rfl⟩
    obtain ⟨be, hbe⟩ : ∃ be, isl.take at_.toNat ++ [e] ++ cutL isl (some (at_ + 1)) none = be := ⟨_, rfl⟩
    have hbl : bd.length ≤ 13 ∧ (1 ≤ be.length ∧ be.length ≤ 13) ∧ bd[at_.toNat]? = some d ∧ at_.toNat < bd.length := by
      have ht : (isl.take at_.toNat).length = at_.toNat := by rw [List.length_take]; omega
      refine ⟨by rw [← hbd]; simp; omega, by rw [← hbe]; simp; omega, ?_, by rw [← hbd]; simp; omega⟩
      rw [← hbd, List.append_assoc, List.getElem?_append_right (by omega), ht, Nat.sub_self]
      rfl
    have vb : Vws (· ≠ p) S7 bd be := by
      rw [← hbd, ← hbe]
      have ts : ∀ xs : List D, xs.length ≤ 1000 → (∀ o, o ∈ xs → o ∈ isl) → Vws (· ≠ p) S7 xs xs := fun xs h0 h => Vws.of_trees (wf_tree (n := 8) (e := .lst xs) (wf_of_kid (es := xs) rfl h0 fun o ho => wf_mono (G.at_ o (h o ho)).wf (by omega)))
      exact ((ts _ (by rw [List.length_take]; omega) fun o ho => List.mem_of_mem_take ho).append (Vws.cons v (show Vws (· ≠ p) S7 [] [] from rfl))).append (ts _ (by omega) fun o ho => cut_mem ho)
    have hbw : ∀ o, o ∈ be → wf 7 o = true ∧ MvR o := fun o ho => by
      rw [← hbe] at ho
      simp only [List.mem_append, List.mem_singleton] at ho
      have hi : ∀ o, o ∈ isl → wf 7 o = true ∧ MvR o := fun o h => ⟨wf_mono (G.at_ o h).wf (by omega), (G.at_ o h).mv⟩
      rcases ho with (ho | rfl) | ho
      · exact hi o (List.mem_of_mem_take ho)
      · exact bw
      · exact hi o (cut_mem ho)
    rw [hbd]
    refine ⟨by simp; omega, lst_ix ((hat bd hbl.2.2.2).trans hbl.2.2.1) ⟨d, e, _, _, rfl, v, bw.1, bw.2, _, rfl, ?_⟩⟩
    obtain ⟨H1, H2, H3, H4⟩ := Hd.lst vb hbl.2.1.1 (by omega) (fun o ho => (hbw o ho).1) fun o ho => (hbw o ho).2
    refine pick_two (Φ := Φr lstT 8) (fun d4 S => S = S7 ∧ ∃ e4 es4, Hd p S7 d4 e4 es4) (fun _ rest => ⟨.lst bd, .lst be, _, rfl, H1.v, ?_, rest _ _ ⟨rfl, _, _, H4⟩⟩) ⟨rfl, _, _, H1⟩ fun d4 S' ⟨hS, e4, es4, H5⟩ => ?_
    · exact wf_okN (wf_of_kid (es := be) rfl (by omega) fun o ho => (hbw o ho).1)
    subst hS
    refine ⟨by decide, Pn.pick pn7 (by omega) (by simp) (by simp) fun j x S8 hj pn8 e8 => ?_⟩
    obtain ⟨ex, exs, HX⟩ : ∃ e8 es8, Hd p S8 x e8 es8 := by
      have hx := List.mem_of_getElem? hj
      simp only [List.mem_cons, List.not_mem_nil, or_false] at hx
      rcases hx with rfl | rfl | rfl | rfl
      · exact ⟨_, _, H1.on e8⟩
      · exact ⟨_, _, H2.on e8⟩
      · exact ⟨_, _, H3.on e8⟩
      · exact ⟨_, _, H5.on e8⟩
    have hT8 : S8 a.tabP = some (.tab lamQ) := pn8.old _ _ (Ne.symm hpT) hT1
    have pn9 := pn8.mono (show 1600 * (i : Int) + 1500 + 1 + 5 + 1 ≤ 1600 * (i + 1 : Nat) by omega)
    clear H1 H2 H3 H4 H5 hbw vb hbl hbd hbe hat hj e8 pn8 pn7 old7 v bw hm l1 l5 hz e6 pn6 a0 a1 hcl okI hfix tl m1 m2 m3 hom ho
    clear hI hI0 pn5 e4 es4 bd be pn2 old2
    obtain ⟨vx, kx, lox, lenx, wfx, mvx⟩ := HX
    have wx : wf 8 ex = true := wf_of_kid kx (by omega) wfx
    refine vx.walk kx fun xs stb ws hs => lc_filter plainE (fun _ o => at0 o) hs ws (by omega) (fun x' o vo ho R R2 r => ?_) ?_
    · simp only [dSeq, dIfS, dTst, dCall, dOp, dUn, dVar, dC, dRet, dRetN, dNext, dAndV, dOrV, dNotV, dAnd, dOr, dNot, dIf, dB, dTup, aCons, aNil, dSet, dChain, dCont, dBreak, dDrop, dAttr, one, gdName, gdTup, gdCons, gdNil, bodyO, List.append_nil, List.length_cons, List.length_nil, List.getElem?_cons_zero, List.getElem?_cons_succ, List.set_cons_zero, List.set_cons_succ, Option.some.injEq, D.bl.injEq, exists_eq_left', exists_eq_left, true_and, Nat.reduceAdd, Nat.zero_add, if_true, if_false, Bool.false_eq_true, Bool.not_true, Bool.not_false, reduceCtorEq, xi_cmp_int, xi_add_int, xi_sub_int, xi_mul_int, xi_mod_int, xi_div_int, xi_pow_int, xi_int_int, xi_int_bl, xi_abs_int, xi_neg_int]
      refine ⟨x', o, _, _, rfl, vo, wfx o ho, mvx o ho, _, rfl, ?_⟩
      cases hp : plainE o
      · rw [hp] at r
        simpa using r
      · rw [hp] at r
        obtain ⟨x0, r0, z0, h1, h2, _, _, h3, _⟩ := isle_name (Bool.and_eq_true_iff.mp hp).1 (wfx o ho)
        rw [if_pos rfl]
        refine vo.ix h1 (c := x0) atI0 fun y vy => ?_
        rw [(atom_same vy (name_atom h2)).1, ← at0_kid h1]
        simpa using r
    obtain ⟨zs2, hz2⟩ : ∃ zs2 : List Str, (exs.filter plainE).map at0 = zs2.map .str := by
      obtain ⟨zs2, h1, _⟩ := keys_names (n := 7) (es := exs.filter plainE) (fun o ho => (Bool.and_eq_true_iff.mp (List.mem_filter.mp ho).2).1) (fun o ho => wfx o (List.mem_filter.mp ho).1)
      exact ⟨zs2, h1⟩
    have hz2l : zs2.length ≤ 1000 := by
      have h1 := congrArg List.length hz2
      have h2 := List.length_filter_le plainE exs
      simp at h1
      omega
    rw [zip_filt plainE at0 ws, hz2]
    refine fine_ok rfl rfl vx kx hz2l ?_
    rw [isles_fine kx lox hz2]
    have stx := still_of kx mvx
    cases hfine : islesE ex
    · simp only [dLam, dMake, dSeq, dIfS, dTst, dCall, dOp, dUn, dVar, dC, dRet, dRetN, dNext, dAndV, dOrV, dNotV, dAnd, dOr, dNot, dIf, dB, dTup, aCons, aNil, dSet, dChain, dCont, dBreak, dDrop, dAttr, one, gdName, gdTup, gdCons, gdNil, bodyO, List.append_nil, List.length_cons, List.length_nil, List.getElem?_cons_zero, List.getElem?_cons_succ, List.set_cons_zero, List.set_cons_succ, Option.some.injEq, D.bl.injEq, exists_eq_left', exists_eq_left, true_and, Nat.reduceAdd, Nat.zero_add, if_true, if_false, Bool.false_eq_true, Bool.not_true, Bool.not_false, reduceCtorEq, xi_cmp_int, xi_add_int, xi_sub_int, xi_mul_int, xi_mod_int, xi_div_int, xi_pow_int, xi_int_int, xi_int_bl, xi_abs_int, xi_neg_int]
      refine ⟨hT8, fun f hf => heard_bad CF (G := fun S' => Keep S8 S') (fun pL hpL E Q' hE => ?_) fun S' S'' k1 k2 => ?_⟩
      · exact mk1b (Q := fun p S2 => Q' (.ref p) S2) (vx.fresh hpL) wx stx hfine fun q1 hq1 => hE _ ((Keep.rfl.put hpL).put hq1)
      · refine isi_one (e := .tup [.str "yard", .str "isles"]) (N := fun _ => True) (by simp) (Vw.of_tree (by decide +kernel)) (ne_bl ⟨_, rfl, ?_⟩)
        rw [if_neg (by decide)]
        refine ⟨by decide, ne_tup (by decide +kernel) (by decide +kernel) ⟨_, rfl, ?_⟩⟩
        rw [if_neg (by decide +kernel)]
        obtain ⟨c9, l9, g1, g2, g3⟩ := pn9.pen
        exact hnx _ _ ⟨_, _, _, _, _, _, _, _, _, _, _, _, _, _, c9, l9, rfl, k2 _ _ (k1 _ _ g1), g2, g3, k2 _ _ (k1 _ _ hT8), hpT⟩
    · simp only [dLam, dMake, dSeq, dIfS, dTst, dCall, dOp, dUn, dVar, dC, dRet, dRetN, dNext, dAndV, dOrV, dNotV, dAnd, dOr, dNot, dIf, dB, dTup, aCons, aNil, dSet, dChain, dCont, dBreak, dDrop, dAttr, one, gdName, gdTup, gdCons, gdNil, bodyO, List.append_nil, List.length_cons, List.length_nil, List.getElem?_cons_zero, List.getElem?_cons_succ, List.set_cons_zero, List.set_cons_succ, Option.some.injEq, D.bl.injEq, exists_eq_left', exists_eq_left, true_and, Nat.reduceAdd, Nat.zero_add, if_true, if_false, Bool.false_eq_true, Bool.not_true, Bool.not_false, reduceCtorEq, xi_cmp_int, xi_add_int, xi_sub_int, xi_mul_int, xi_mod_int, xi_div_int, xi_pow_int, xi_int_int, xi_int_bl, xi_abs_int, xi_neg_int]
      refine ⟨hT8, fun f hf => heard_good (G := fun d S' => ∃ q1, d = .ref q1 ∧ Keep S8 S' ∧ S' q1 = some (yardO a ex)) (fun pL hpL E Q' hE => ?_) fun pL d S' h0 h1 ⟨q1, hd, k1, hq1⟩ => ?_⟩
      · exact mk1 (Q := fun p S2 => Q' (.ref p) S2) (vx.fresh hpL) wx stx hfine fun q1 hq1 => hE (.ref q1) _ ⟨q1, rfl, (Keep.rfl.put hpL).put hq1, put_same⟩ (by rw [put_ne (ne_sm hq1 put_same)]; exact put_same)
      · subst hd
        have hne : q1 ≠ pL := fun z => by rw [z, h1] at hq1; cases hq1
        have k2 : Keep S8 (put S' pL (.lst [.ref q1])) := k1.put0 h0
        refine isi_lst put_same (ne_bl ⟨_, rfl, ?_⟩)
        rw [if_neg (by decide)]
        refine ref_ix (d := .ref q1) put_same rfl ⟨_, _, by rw [put_ne hne]; exact hq1, (yard_at _ _ _ _).1, x, ex, _, rfl, vx.keep k2, wf_okN wx, ?_⟩
        have okx := isles_ok kx hfine wfx mvx
        rw [fixT_kid kx] at okx ⊢
        refine ne_tup okx okx ⟨_, rfl, ?_⟩
        rw [eqD_refl okx, if_neg (by decide)]
        obtain ⟨c9, l9, g1, g2, g3⟩ := pn9.pen
        exact hnx _ _ ⟨_, _, _, _, _, _, _, _, _, _, _, _, _, _, c9, l9, rfl, k2 _ _ g1, g2, g3, k2 _ _ hT8, hpT⟩
  · obtain ⟨x2, x3, x4, x5, x6, x7, x8, x9, x10, x11, x12, x13, x14, x15, c, left, rfl, hp1, c0, c1, hT1, _⟩ := I
    clear hT hp
    unfold dLc diSeq
    simp only [dSeq, dIfS, dTst, dCall, dOp, dUn, dVar, dC, dRet, dRetN, dNext, dAndV, dOrV, dNotV, dAnd, dOr, dNot, dIf, dB, dTup, aCons, aNil, dSet, dChain, dCont, dBreak, dDrop, dAttr, one, gdName, gdTup, gdCons, gdNil, bodyO, List.append_nil, List.length_cons, List.length_nil, List.getElem?_cons_zero, List.getElem?_cons_succ, List.set_cons_zero, List.set_cons_succ, Option.some.injEq, D.bl.injEq, exists_eq_left', exists_eq_left, true_and, Nat.reduceAdd, Nat.zero_add, if_true, if_false, Bool.false_eq_true, Bool.not_true, Bool.not_false, reduceCtorEq, xi_cmp_int, xi_add_int, xi_sub_int, xi_mul_int, xi_mod_int, xi_div_int, xi_pow_int, xi_int_int, xi_int_bl, xi_abs_int, xi_neg_int, wipeD, dLst, newL, walkD, seven_eq]
    have hs24 : sizeLine = 2 ^ 24 := rfl
    refine lc_list mf trivial _ [] (by simp [sevenS]; omega) (fun x hx R r => ?_) ?_
    · obtain ⟨y, hy, rfl⟩ := List.mem_map.mp hx
      simp only [dSeq, dIfS, dTst, dCall, dOp, dUn, dVar, dC, dRet, dRetN, dNext, dAndV, dOrV, dNotV, dAnd, dOr, dNot, dIf, dB, dTup, aCons, aNil, dSet, dChain, dCont, dBreak, dDrop, dAttr, one, gdName, gdTup, gdCons, gdNil, bodyO, List.append_nil, List.length_cons, List.length_nil, List.getElem?_cons_zero, List.getElem?_cons_succ, List.set_cons_zero, List.set_cons_succ, Option.some.injEq, D.bl.injEq, exists_eq_left', exists_eq_left, true_and, Nat.reduceAdd, Nat.zero_add, if_true, if_false, Bool.false_eq_true, Bool.not_true, Bool.not_false, reduceCtorEq, xi_cmp_int, xi_add_int, xi_sub_int, xi_mul_int, xi_mod_int, xi_div_int, xi_pow_int, xi_int_int, xi_int_bl, xi_abs_int, xi_neg_int, addR]
      have hl : y.length ≤ 1 := by
        have := List.all_eq_true.mp (by decide +kernel : sevenS.all (fun y => decide (y.length ≤ 1)) = true) y hy
        simpa using this
      have h1 : (Str.ofString "n").length = 1 := rfl
      simp only [dLst, newL, dSeq, dIfS, dTst, dCall, dOp, dUn, dVar, dC, dRet, dRetN, dNext, dAndV, dOrV, dNotV, dAnd, dOr, dNot, dIf, dB, dTup, aCons, aNil, dSet, dChain, dCont, dBreak, dDrop, dAttr, one, gdName, gdTup, gdCons, gdNil, bodyO, List.append_nil, List.length_cons, List.length_nil, List.getElem?_cons_zero, List.getElem?_cons_succ, List.set_cons_zero, List.set_cons_succ, Option.some.injEq, D.bl.injEq, exists_eq_left', exists_eq_left, true_and, Nat.reduceAdd, Nat.zero_add, if_true, if_false, Bool.false_eq_true, Bool.not_true, Bool.not_false, reduceCtorEq, xi_cmp_int, xi_add_int, xi_sub_int, xi_mul_int, xi_mod_int, xi_div_int, xi_pow_int, xi_int_int, xi_int_bl, xi_abs_int, xi_neg_int]
      exact ⟨by omega, by decide, by decide, by decide, by decide, r⟩
    rw [List.nil_append, show (sevenS.map D.str).map mf = manyD from rfl]
    simp only [dAsg, dLst, newL, dSeq, dIfS, dTst, dCall, dOp, dUn, dVar, dC, dRet, dRetN, dNext, dAndV, dOrV, dNotV, dAnd, dOr, dNot, dIf, dB, dTup, aCons, aNil, dSet, dChain, dCont, dBreak, dDrop, dAttr, one, gdName, gdTup, gdCons, gdNil, bodyO, List.append_nil, List.length_cons, List.length_nil, List.getElem?_cons_zero, List.getElem?_cons_succ, List.set_cons_zero, List.set_cons_succ, Option.some.injEq, D.bl.injEq, exists_eq_left', exists_eq_left, true_and, Nat.reduceAdd, Nat.zero_add, if_true, if_false, Bool.false_eq_true, Bool.not_true, Bool.not_false, reduceCtorEq, xi_cmp_int, xi_add_int, xi_sub_int, xi_mul_int, xi_mod_int, xi_div_int, xi_pow_int, xi_int_int, xi_int_bl, xi_abs_int, xi_neg_int]
    have pn1 : Pn (ns0.take 63) p S1 (1600 * 14) S1 := Pn.here ⟨c, left, hp1, c0, by omega⟩
    obtain ⟨mw, mi, sw, si⟩ := many_facts
    refine ⟨by decide, by decide, by decide, Pn.pick pn1 (by omega) (by simp) (by simp) fun j1 e S2 hj1 pn2 e2 => ⟨by decide, by decide, Pn.pick pn2 (by omega) (by simp) (by simp) fun j2 e' S3 hj2 pn3 e3 => ?_⟩⟩
    have hodd : wf 8 e = true ∧ islesE e = false ∧ Still e := by
      have hx := List.mem_of_getElem? hj1
      simp only [List.mem_cons, List.not_mem_nil, or_false] at hx
      rcases hx with rfl | rfl | rfl | rfl | rfl | rfl | rfl
      · exact ⟨rfl, rfl, still_leaf fun es h => by cases h⟩
      · exact ⟨rfl, rfl, still_leaf fun es h => by cases h⟩
      · exact ⟨by decide +kernel, rfl, still_leaf fun es h => by cases h⟩
      · exact ⟨rfl, rfl, still_leaf fun es h => by cases h⟩
      · exact ⟨rfl, rfl, still_leaf fun es h => by cases h; rfl⟩
      · exact ⟨rfl, rfl, still_leaf fun es h => by cases h; rfl⟩
      · exact ⟨mw, mi, still_of (es := manyD) rfl fun o ho => many_mv ho⟩
    obtain ⟨ow, oi, os⟩ := hodd
    have hT3 : S3 a.tabP = some (.tab lamQ) := pn3.old _ _ (Ne.symm hpT) hT1
    simp only [dLam, dMake, dSeq, dIfS, dTst, dCall, dOp, dUn, dVar, dC, dRet, dRetN, dNext, dAndV, dOrV, dNotV, dAnd, dOr, dNot, dIf, dB, dTup, aCons, aNil, dSet, dChain, dCont, dBreak, dDrop, dAttr, one, gdName, gdTup, gdCons, gdNil, bodyO, List.append_nil, List.length_cons, List.length_nil, List.getElem?_cons_zero, List.getElem?_cons_succ, List.set_cons_zero, List.set_cons_succ, Option.some.injEq, D.bl.injEq, exists_eq_left', exists_eq_left, true_and, Nat.reduceAdd, Nat.zero_add, if_true, if_false, Bool.false_eq_true, Bool.not_true, Bool.not_false, reduceCtorEq, xi_cmp_int, xi_add_int, xi_sub_int, xi_mul_int, xi_mod_int, xi_div_int, xi_pow_int, xi_int_int, xi_int_bl, xi_abs_int, xi_neg_int]
    refine ⟨by decide, hT3, fun f hf => heard_bad CF (G := fun S' => True) (fun pL hpL E Q' hE => ?_) fun S' S'' k1 k2 => ?_⟩
    · exact make_bad (Q := fun p S2 => Q' (.ref p) S2) (N := fun _ => True) (Vw.of_tree (wf_tree ow)) ow os oi fun q1 hq1 => hE _ trivial
    · refine ⟨by decide, eq_tup (by decide +kernel) (by decide +kernel) ⟨_, rfl, ?_⟩⟩
      rw [if_pos (by decide +kernel)]
      simp only [dSl, oNone, oSome, slR, lsD, newL, dSeq, dIfS, dTst, dCall, dOp, dUn, dVar, dC, dRet, dRetN, dNext, dAndV, dOrV, dNotV, dAnd, dOr, dNot, dIf, dB, dTup, aCons, aNil, dSet, dChain, dCont, dBreak, dDrop, dAttr, one, gdName, gdTup, gdCons, gdNil, bodyO, List.append_nil, List.length_cons, List.length_nil, List.getElem?_cons_zero, List.getElem?_cons_succ, List.set_cons_zero, List.set_cons_succ, Option.some.injEq, D.bl.injEq, exists_eq_left', exists_eq_left, true_and, Nat.reduceAdd, Nat.zero_add, if_true, if_false, Bool.false_eq_true, Bool.not_true, Bool.not_false, reduceCtorEq, xi_cmp_int, xi_add_int, xi_sub_int, xi_mul_int, xi_mod_int, xi_div_int, xi_pow_int, xi_int_int, xi_int_bl, xi_abs_int, xi_neg_int]
      rw [take_eq (by decide)]
      refine mk1 (N := fun _ => True) (e := .lst (manyD.take 6)) (Vw.of_tree (wf_tree sw)) sw (still_of (es := manyD.take 6) rfl fun o ho => many_mv (List.mem_of_mem_take ho)) si fun q1 hq1 => ?_
      refine ⟨_, _, put_same, (yard_at _ _ _ _).1, ?_⟩
      rw [fixT_kid (es := manyD.take 6) rfl]
      refine len_sq rfl (eq_int (Fz.same ?_))
      rw [decide_eq_true (by simp [many_len])]
      exact q _
end
end K01
namespace K01
open PySem PySem.Spec PyProof.Rows L2 Dl LamX NdefX
section
variable {P : Program} {w : World} {K : PySem.W.Frag} {mg : Str → Option Value} {base : Heap} {a : Ad}
theorem der_is_integer (T : Txt P K mg a) {k : Nat} (cdv : Value) (A : Around) (outer : List Env) (s : Shared) (H : Hp) (E : XK) (B : Fam) (PE : EX) (hr : Room (k + 1) (defX P w K mg base N_is_integer "is_integer" s_is_integer a.f_is_integer cdv A outer s H E).A) (hE : RaisesD (defX P w K mg base N_is_integer "is_integer" s_is_integer a.f_is_integer cdv A outer s H E) B (fun C fs _ S => PE C fs S)) :
    DSs (defX P w K mg base N_is_integer "is_integer" s_is_integer a.f_is_integer cdv A outer s H E) B (defBody s_is_integer) (t_is_integer K a  PE) := by
  have hP : PassesOwn (model (defX P w K mg base N_is_integer "is_integer" s_is_integer a.f_is_integer cdv A outer s H E).prog (defX P w K mg base N_is_integer "is_integer" s_is_integer a.f_is_integer cdv A outer s H E).w) (defX P w K mg base N_is_integer "is_integer" s_is_integer a.f_is_integer cdv A outer s H E).A (defX P w K mg base N_is_integer "is_integer" s_is_integer a.f_is_integer cdv A outer s H E).env (defX P w K mg base N_is_integer "is_integer" s_is_integer a.f_is_integer cdv A outer s H E).xe := passes_of rfl
  have hr0 := hr.mono (Nat.le_succ k)
  unfold t_is_integer
  exact (dss_one (ds_ret (de_and (de_B (cd_isi T.ct) (by exact rfl) T.z_isinstance (by decide +kernel) (da_cons (dv 0) (da_cons (de_ty (by exact rfl) T.z_int (by decide +kernel)) da_nil))) (de_one (de_not (de_B (cd_isi T.ct) (by exact rfl) T.z_isinstance (by decide +kernel) (da_cons (dv 0) (da_cons (de_ty (by exact rfl) T.z_bool (by decide +kernel)) da_nil))))))))end
end K01
namespace K01
open PySem PySem.Spec PyProof.Rows L2 Dl LamX NdefX
section
variable {P : Program} {w : World} {K : PySem.W.Frag} {mg : Str → Option Value} {base : Heap} {a : Ad}
theorem der_is_within (T : Txt P K mg a) {k : Nat} {Φ_is_integer : Phi} (o_is_integer : FnD P w K mg base k a.f_is_integer a.d_is_integer [("value" : Str)] Φ_is_integer) (cdv : Value) (A : Around) (outer : List Env) (s : Shared) (H : Hp) (E : XK) (B : Fam) (PE : EX) (hr : Room (k + 1) (defX P w K mg base N_is_within "is_within" s_is_within a.f_is_within cdv A outer s H E).A) (hE : RaisesD (defX P w K mg base N_is_within "is_within" s_is_within a.f_is_within cdv A outer s H E) B (fun C fs _ S => PE C fs S)) :
    DSs (defX P w K mg base N_is_within "is_within" s_is_within a.f_is_within cdv A outer s H E) B (defBody s_is_within) (t_is_within K a Φ_is_integer PE) := by
  have hP : PassesOwn (model (defX P w K mg base N_is_within "is_within" s_is_within a.f_is_within cdv A outer s H E).prog (defX P w K mg base N_is_within "is_within" s_is_within a.f_is_within cdv A outer s H E).w) (defX P w K mg base N_is_within "is_within" s_is_within a.f_is_within cdv A outer s H E).A (defX P w K mg base N_is_within "is_within" s_is_within a.f_is_within cdv A outer s H E).env (defX P w K mg base N_is_within "is_within" s_is_within a.f_is_within cdv A outer s H E).xe := passes_of rfl
  have hr0 := hr.mono (Nat.le_succ k)
  unfold t_is_within
  exact (dss_cons (ds_if (dt_not (dt_val (de_call o_is_integer hr0 hE (by exact rfl) T.m_is_integer T.F_is_integer.kp (b_is_integer T) (dvs := []) (dds := []) .nil (fun _ _ _ => rfl) (da_cons (dv 0) da_nil)))) (dss_one (ds_ret de_bl)) dss_nil)
    (dss_one (ds_ret (de_and (de_or (de_cmp od_is (dv 1) de_non rfl) (de_one (de_cmp od_ge (dv 0) (dv 1) rfl))) (de_one (de_or (de_cmp od_is (dv 2) de_non rfl) (de_one (de_cmp od_le (dv 0) (dv 2) rfl))))))))end
end K01
namespace K01
open PySem PySem.Spec PyProof.Rows L2 Dl LamX NdefX
section
variable {P : Program} {w : World} {K : PySem.W.Frag} {mg : Str → Option Value} {base : Heap} {a : Ad}
theorem der_is_listed (T : Txt P K mg a) {k : Nat} (cdv : Value) (A : Around) (outer : List Env) (s : Shared) (H : Hp) (E : XK) (B : Fam) (PE : EX) (hr : Room (k + 1) (defX P w K mg base N_is_listed "is_listed" s_is_listed a.f_is_listed cdv A outer s H E).A) (hE : RaisesD (defX P w K mg base N_is_listed "is_listed" s_is_listed a.f_is_listed cdv A outer s H E) B (fun C fs _ S => PE C fs S)) :
    DSs (defX P w K mg base N_is_listed "is_listed" s_is_listed a.f_is_listed cdv A outer s H E) B (defBody s_is_listed) (t_is_listed K a  PE) := by
  have hP : PassesOwn (model (defX P w K mg base N_is_listed "is_listed" s_is_listed a.f_is_listed cdv A outer s H E).prog (defX P w K mg base N_is_listed "is_listed" s_is_listed a.f_is_listed cdv A outer s H E).w) (defX P w K mg base N_is_listed "is_listed" s_is_listed a.f_is_listed cdv A outer s H E).A (defX P w K mg base N_is_listed "is_listed" s_is_listed a.f_is_listed cdv A outer s H E).env (defX P w K mg base N_is_listed "is_listed" s_is_listed a.f_is_listed cdv A outer s H E).xe := passes_of rfl
  have hr0 := hr.mono (Nat.le_succ k)
  unfold t_is_listed
  exact (dss_one (ds_ret (de_B (cd_isi T.ct) (by exact rfl) T.z_isinstance (by decide +kernel) (da_cons (dv 0) (da_cons (de_tup (da_cons (de_ty (by exact rfl) T.z_list (by decide +kernel)) (da_cons (de_ty (by exact rfl) T.z_tuple (by decide +kernel)) da_nil))) da_nil)))))end
end K01
namespace K01
open PySem PySem.Spec PyProof.Rows L2 Dl LamX NdefX
section
variable {P : Program} {w : World} {K : PySem.W.Frag} {mg : Str → Option Value} {base : Heap} {a : Ad}
theorem der_is_row (T : Txt P K mg a) {k : Nat} {Φ_is_listed : Phi} (o_is_listed : FnD P w K mg base k a.f_is_listed a.d_is_listed [("value" : Str)] Φ_is_listed) (cdv : Value) (A : Around) (outer : List Env) (s : Shared) (H : Hp) (E : XK) (B : Fam) (PE : EX) (hr : Room (k + 1) (defX P w K mg base N_is_row "is_row" s_is_row a.f_is_row cdv A outer s H E).A) (hE : RaisesD (defX P w K mg base N_is_row "is_row" s_is_row a.f_is_row cdv A outer s H E) B (fun C fs _ S => PE C fs S)) :
    DSs (defX P w K mg base N_is_row "is_row" s_is_row a.f_is_row cdv A outer s H E) B (defBody s_is_row) (t_is_row K a Φ_is_listed PE) := by
  have hP : PassesOwn (model (defX P w K mg base N_is_row "is_row" s_is_row a.f_is_row cdv A outer s H E).prog (defX P w K mg base N_is_row "is_row" s_is_row a.f_is_row cdv A outer s H E).w) (defX P w K mg base N_is_row "is_row" s_is_row a.f_is_row cdv A outer s H E).A (defX P w K mg base N_is_row "is_row" s_is_row a.f_is_row cdv A outer s H E).env (defX P w K mg base N_is_row "is_row" s_is_row a.f_is_row cdv A outer s H E).xe := passes_of rfl
  have hr0 := hr.mono (Nat.le_succ k)
  unfold t_is_row
  exact (dss_one (ds_ret (de_and (de_call o_is_listed hr0 hE (by exact rfl) T.m_is_listed T.F_is_listed.kp (b_is_listed T) (dvs := []) (dds := []) .nil (fun _ _ _ => rfl) (da_cons (dv 0) da_nil)) (de_one (de_chain od_le od_le (dv 1) (de_B cd_len (by exact rfl) T.z_len (by decide +kernel) (da_cons (dv 0) da_nil)) (de_if (dt_cmp od_is (dv 2) de_non rfl) (dv 1) (dv 2)))))))end
end K01
namespace K01
open PySem PySem.Spec PyProof.Rows L2 Dl LamX NdefX
section
variable {P : Program} {w : World} {K : PySem.W.Frag} {mg : Str → Option Value} {base : Heap} {a : Ad}
theorem der_fixed (T : Txt P K mg a) {k : Nat} {Φ_is_listed : Phi} (o_is_listed : FnD P w K mg base k a.f_is_listed a.d_is_listed [("value" : Str)] Φ_is_listed) {Φ_fixed : Phi} (o_fixed : FnD P w K mg base k a.f_fixed a.d_fixed [("value" : Str)] Φ_fixed) (cdv : Value) (A : Around) (outer : List Env) (s : Shared) (H : Hp) (E : XK) (B : Fam) (PE : EX) (hr : Room (k + 1) (defX P w K mg base N_fixed "fixed" s_fixed a.f_fixed cdv A outer s H E).A) (hE : RaisesD (defX P w K mg base N_fixed "fixed" s_fixed a.f_fixed cdv A outer s H E) B (fun C fs _ S => PE C fs S)) :
    DSs (defX P w K mg base N_fixed "fixed" s_fixed a.f_fixed cdv A outer s H E) B (defBody s_fixed) (t_fixed K a Φ_is_listed Φ_fixed PE) := by
  have hP : PassesOwn (model (defX P w K mg base N_fixed "fixed" s_fixed a.f_fixed cdv A outer s H E).prog (defX P w K mg base N_fixed "fixed" s_fixed a.f_fixed cdv A outer s H E).w) (defX P w K mg base N_fixed "fixed" s_fixed a.f_fixed cdv A outer s H E).A (defX P w K mg base N_fixed "fixed" s_fixed a.f_fixed cdv A outer s H E).env (defX P w K mg base N_fixed "fixed" s_fixed a.f_fixed cdv A outer s H E).xe := passes_of rfl
  have hr0 := hr.mono (Nat.le_succ k)
  unfold t_fixed
  exact (dss_cons (ds_if (dt_val (de_call o_is_listed hr0 hE (by exact rfl) T.m_is_listed T.F_is_listed.kp (b_is_listed T) (dvs := []) (dds := []) .nil (fun _ _ _ => rfl) (da_cons (dv 0) da_nil))) (dss_one (ds_ret (de_T cd_tuple (by exact rfl) T.z_tuple (by decide +kernel) (da_cons (de_lc false rfl nd_fixed (di_seq (dv 0)) (own := [(("one" : Str), 1)]) (show BlkOk N_fixed (defScope s_fixed) _ _ from blkOk_by (by decide +kernel)) (fun s H C cl fp => (dg_name nd_fixed rfl (.inl rfl))) (fun s H C cl fp => dts_nil) (fun s H C cl fp => (de_call o_fixed (show Room k (Cx.blk _ s H _ _ fp).A from hr0) raises_none (by exact rfl) T.m_fixed T.F_fixed.kp (b_fixed T) (dvs := []) (dds := []) .nil (fun _ _ _ => rfl) (da_cons (dv 1) da_nil)))) da_nil)))) dss_nil)
    (dss_one (ds_ret (dv 0))))end
end K01
namespace K01
open PySem PySem.Spec PyProof.Rows L2 Dl LamX NdefX
section
variable {P : Program} {w : World} {K : PySem.W.Frag} {mg : Str → Option Value} {base : Heap} {a : Ad}
theorem der_are_unlike (T : Txt P K mg a) {k : Nat} (cdv : Value) (A : Around) (outer : List Env) (s : Shared) (H : Hp) (E : XK) (B : Fam) (PE : EX) (hr : Room (k + 1) (defX P w K mg base N_are_unlike "are_unlike" s_are_unlike a.f_are_unlike cdv A outer s H E).A) (hE : RaisesD (defX P w K mg base N_are_unlike "are_unlike" s_are_unlike a.f_are_unlike cdv A outer s H E) B (fun C fs _ S => PE C fs S)) :
    DSs (defX P w K mg base N_are_unlike "are_unlike" s_are_unlike a.f_are_unlike cdv A outer s H E) B (defBody s_are_unlike) (t_are_unlike K a  PE) := by
  have hP : PassesOwn (model (defX P w K mg base N_are_unlike "are_unlike" s_are_unlike a.f_are_unlike cdv A outer s H E).prog (defX P w K mg base N_are_unlike "are_unlike" s_are_unlike a.f_are_unlike cdv A outer s H E).w) (defX P w K mg base N_are_unlike "are_unlike" s_are_unlike a.f_are_unlike cdv A outer s H E).A (defX P w K mg base N_are_unlike "are_unlike" s_are_unlike a.f_are_unlike cdv A outer s H E).env (defX P w K mg base N_are_unlike "are_unlike" s_are_unlike a.f_are_unlike cdv A outer s H E).xe := passes_of rfl
  have hr0 := hr.mono (Nat.le_succ k)
  unfold t_are_unlike
  exact (dss_one (ds_ret (de_B (cd_all rfl) (by exact rfl) T.z_all (by decide +kernel) (da_cons (de_lc false rfl nd_are_unlike (di_enum2 (by exact rfl) T.z_enumerate (da_cons (dv 0) da_nil)) (own := [(("at" : Str), 1), (("one" : Str), 2)]) (show BlkOk N_are_unlike (defScope s_are_unlike) _ _ from blkOk_by (by decide +kernel)) (fun s H C cl fp => (dg_tup rfl (dgs_cons (dg_name nd_are_unlike rfl (.inl rfl)) (dgs_cons (dg_name nd_are_unlike rfl (.inl rfl)) dgs_nil)))) (fun s H C cl fp => dts_nil) (fun s H C cl fp => (de_cmp (od_in (neg := true) (u65 (show Room (k + 1) (Cx.blk _ s H _ _ fp).A from hr))) (dv 2) (de_sl false (dv 0) do_none (do_some (dv 1))) rfl))) da_nil))))end
end K01
namespace K01
open PySem PySem.Spec PyProof.Rows L2 Dl LamX NdefX
section
variable {P : Program} {w : World} {K : PySem.W.Frag} {mg : Str → Option Value} {base : Heap} {a : Ad}
theorem der_is_name (T : Txt P K mg a) {k : Nat} (cdv : Value) (A : Around) (outer : List Env) (s : Shared) (H : Hp) (E : XK) (B : Fam) (PE : EX) (hr : Room (k + 1) (defX P w K mg base N_is_name "is_name" s_is_name a.f_is_name cdv A outer s H E).A) (hE : RaisesD (defX P w K mg base N_is_name "is_name" s_is_name a.f_is_name cdv A outer s H E) B (fun C fs _ S => PE C fs S)) :
    DSs (defX P w K mg base N_is_name "is_name" s_is_name a.f_is_name cdv A outer s H E) B (defBody s_is_name) (t_is_name K a  PE) := by
  have hP : PassesOwn (model (defX P w K mg base N_is_name "is_name" s_is_name a.f_is_name cdv A outer s H E).prog (defX P w K mg base N_is_name "is_name" s_is_name a.f_is_name cdv A outer s H E).w) (defX P w K mg base N_is_name "is_name" s_is_name a.f_is_name cdv A outer s H E).A (defX P w K mg base N_is_name "is_name" s_is_name a.f_is_name cdv A outer s H E).env (defX P w K mg base N_is_name "is_name" s_is_name a.f_is_name cdv A outer s H E).xe := passes_of rfl
  have hr0 := hr.mono (Nat.le_succ k)
  unfold t_is_name
  exact (dss_cons (ds_if (dt_w (dw_or (dt_not (dt_val (de_B (cd_isi T.ct) (by exact rfl) T.z_isinstance (by decide +kernel) (da_cons (dv 0) (da_cons (de_ty (by exact rfl) T.z_str (by decide +kernel)) da_nil))))) (dw_or (dt_not (dt_chain od_le od_le de_int (de_B cd_len (by exact rfl) T.z_len (by decide +kernel) (da_cons (dv 0) da_nil)) (de_con (by exact rfl) T.c_MOST_LETTERS (fun _ _ _ => rfl)))) (dw_or1 (dt_cmp (od_in (neg := false) (u65 hr)) (dv 0) (de_glob (v := .ref a.k_WORDS) (by exact rfl) T.c_WORDS.1 rfl T.c_WORDS.2) rfl))))) (dss_one (ds_ret de_bl)) dss_nil)
    (dss_one (ds_ret (de_B (cd_all rfl) (by exact rfl) T.z_all (by decide +kernel) (da_cons (de_lc false rfl nd_is_name (di_seq (dv 0)) (own := [(("sign" : Str), 1)]) (show BlkOk N_is_name (defScope s_is_name) _ _ from blkOk_by (by decide +kernel)) (fun s H C cl fp => (dg_name nd_is_name rfl (.inl rfl))) (fun s H C cl fp => dts_nil) (fun s H C cl fp => (de_cmp od_inS (dv 1) (de_con (by exact rfl) T.c_LETTERS (fun _ _ _ => rfl)) rfl))) da_nil)))))end
end K01
namespace K01
open PySem PySem.Spec PyProof.Rows L2 Dl LamX NdefX
section
variable {P : Program} {w : World} {K : PySem.W.Frag} {mg : Str → Option Value} {base : Heap} {a : Ad}
theorem der_is_mode (T : Txt P K mg a) {k : Nat} {Φ_is_row : Phi} (o_is_row : FnD P w K mg base k a.f_is_row a.d_is_row [("value" : Str), ("least" : Str), ("most" : Str)] Φ_is_row) {Φ_is_name : Phi} (o_is_name : FnD P w K mg base k a.f_is_name a.d_is_name [("value" : Str)] Φ_is_name) {Φ_is_within : Phi} (o_is_within : FnD P w K mg base k a.f_is_within a.d_is_within [("value" : Str), ("least" : Str), ("most" : Str)] Φ_is_within) (cdv : Value) (A : Around) (outer : List Env) (s : Shared) (H : Hp) (E : XK) (B : Fam) (PE : EX) (hr : Room (k + 1) (defX P w K mg base N_is_mode "is_mode" s_is_mode a.f_is_mode cdv A outer s H E).A) (hE : RaisesD (defX P w K mg base N_is_mode "is_mode" s_is_mode a.f_is_mode cdv A outer s H E) B (fun C fs _ S => PE C fs S)) :
    DSs (defX P w K mg base N_is_mode "is_mode" s_is_mode a.f_is_mode cdv A outer s H E) B (defBody s_is_mode) (t_is_mode K a Φ_is_row Φ_is_name Φ_is_within PE) := by
  have hP : PassesOwn (model (defX P w K mg base N_is_mode "is_mode" s_is_mode a.f_is_mode cdv A outer s H E).prog (defX P w K mg base N_is_mode "is_mode" s_is_mode a.f_is_mode cdv A outer s H E).w) (defX P w K mg base N_is_mode "is_mode" s_is_mode a.f_is_mode cdv A outer s H E).A (defX P w K mg base N_is_mode "is_mode" s_is_mode a.f_is_mode cdv A outer s H E).env (defX P w K mg base N_is_mode "is_mode" s_is_mode a.f_is_mode cdv A outer s H E).xe := passes_of rfl
  have hr0 := hr.mono (Nat.le_succ k)
  unfold t_is_mode
  exact (dss_cons (ds_if (dt_w (dw_or (dt_not (dt_val (de_call o_is_row hr0 hE (by exact rfl) T.m_is_row T.F_is_row.kp (b_is_row T) (dvs := []) (dds := []) .nil (fun _ _ _ => rfl) (da_cons (dv 0) (da_cons de_int (da_cons de_int da_nil)))))) (dw_or (dt_not (dt_val (de_call o_is_name hr0 hE (by exact rfl) T.m_is_name T.F_is_name.kp (b_is_name T) (dvs := []) (dds := []) .nil (fun _ _ _ => rfl) (da_cons (de_ix (dv 0) de_int (fun _ _ => rfl)) da_nil)))) (dw_or1 (dt_not (dt_val (de_call o_is_within hr0 hE (by exact rfl) T.m_is_within T.F_is_within.kp (b_is_within T) (dvs := []) (dds := []) .nil (fun _ _ _ => rfl) (da_cons (de_ix (dv 0) de_int (fun _ _ => rfl)) (da_cons (de_un ud_neg (de_con (by exact rfl) T.c_MOST_FIGURE (fun _ _ _ => rfl))) (da_cons (de_con (by exact rfl) T.c_MOST_FIGURE (fun _ _ _ => rfl)) da_nil)))))))))) (dss_one (ds_ret de_bl)) dss_nil)
    (dss_one (ds_ret (de_B (cd_isi T.ct) (by exact rfl) T.z_isinstance (by decide +kernel) (da_cons (de_ix (dv 0) de_int (fun _ _ => rfl)) (da_cons (de_ty (by exact rfl) T.z_bool (by decide +kernel)) da_nil))))))end
end K01
namespace K01
open PySem PySem.Spec PyProof.Rows L2 Dl LamX NdefX
section
variable {P : Program} {w : World} {K : PySem.W.Frag} {mg : Str → Option Value} {base : Heap} {a : Ad}
theorem der_is_isle (T : Txt P K mg a) {k : Nat} {Φ_is_row : Phi} (o_is_row : FnD P w K mg base k a.f_is_row a.d_is_row [("value" : Str), ("least" : Str), ("most" : Str)] Φ_is_row) {Φ_is_name : Phi} (o_is_name : FnD P w K mg base k a.f_is_name a.d_is_name [("value" : Str)] Φ_is_name) {Φ_is_mode : Phi} (o_is_mode : FnD P w K mg base k a.f_is_mode a.d_is_mode [("value" : Str)] Φ_is_mode) {Φ_are_unlike : Phi} (o_are_unlike : FnD P w K mg base k a.f_are_unlike a.d_are_unlike [("some" : Str)] Φ_are_unlike) (cdv : Value) (A : Around) (outer : List Env) (s : Shared) (H : Hp) (E : XK) (B : Fam) (PE : EX) (hr : Room (k + 1) (defX P w K mg base N_is_isle "is_isle" s_is_isle a.f_is_isle cdv A outer s H E).A) (hE : RaisesD (defX P w K mg base N_is_isle "is_isle" s_is_isle a.f_is_isle cdv A outer s H E) B (fun C fs _ S => PE C fs S)) :
    DSs (defX P w K mg base N_is_isle "is_isle" s_is_isle a.f_is_isle cdv A outer s H E) B (defBody s_is_isle) (t_is_isle K a Φ_is_row Φ_is_name Φ_is_mode Φ_are_unlike PE) := by
  have hP : PassesOwn (model (defX P w K mg base N_is_isle "is_isle" s_is_isle a.f_is_isle cdv A outer s H E).prog (defX P w K mg base N_is_isle "is_isle" s_is_isle a.f_is_isle cdv A outer s H E).w) (defX P w K mg base N_is_isle "is_isle" s_is_isle a.f_is_isle cdv A outer s H E).A (defX P w K mg base N_is_isle "is_isle" s_is_isle a.f_is_isle cdv A outer s H E).env (defX P w K mg base N_is_isle "is_isle" s_is_isle a.f_is_isle cdv A outer s H E).xe := passes_of rfl
  have hr0 := hr.mono (Nat.le_succ k)
  unfold t_is_isle
  exact (dss_cons (ds_if (dt_w (dw_or (dt_not (dt_val (de_call o_is_row hr0 hE (by exact rfl) T.m_is_row T.F_is_row.kp (b_is_row T) (dvs := []) (dds := []) .nil (fun _ _ _ => rfl) (da_cons (dv 0) (da_cons de_int (da_cons de_int da_nil)))))) (dw_or (dt_not (dt_val (de_call o_is_name hr0 hE (by exact rfl) T.m_is_name T.F_is_name.kp (b_is_name T) (dvs := []) (dds := []) .nil (fun _ _ _ => rfl) (da_cons (de_ix (dv 0) de_int (fun _ _ => rfl)) da_nil)))) (dw_or1 (dt_not (dt_val (de_B (cd_isi T.ct) (by exact rfl) T.z_isinstance (by decide +kernel) (da_cons (de_ix (dv 0) de_int (fun _ _ => rfl)) (da_cons (de_ty (by exact rfl) T.z_bool (by decide +kernel)) da_nil))))))))) (dss_one (ds_ret de_bl)) dss_nil)
    (dss_cons (ds_if (dt_w (dw_or (dt_not (dt_val (de_call o_is_row hr0 hE (by exact rfl) T.m_is_row T.F_is_row.kp (b_is_row T) (dvs := []) (dds := []) .nil (fun _ _ _ => rfl) (da_cons (de_ix (dv 0) de_int (fun _ _ => rfl)) (da_cons de_int (da_cons (de_con (by exact rfl) T.c_MOST_MODES (fun _ _ _ => rfl)) da_nil)))))) (dw_or1 (dt_not (dt_val (de_B (cd_all rfl) (by exact rfl) T.z_all (by decide +kernel) (da_cons (de_lc false rfl nd_is_isle (di_seq (de_ix (dv 0) de_int (fun _ _ => rfl))) (own := [(("mode" : Str), 1)]) (show BlkOk N_is_isle (defScope s_is_isle) _ _ from blkOk_by (by decide +kernel)) (fun s H C cl fp => (dg_name nd_is_isle rfl (.inl rfl))) (fun s H C cl fp => dts_nil) (fun s H C cl fp => (de_call o_is_mode (show Room k (Cx.blk _ s H _ _ fp).A from hr0) raises_none (by exact rfl) T.m_is_mode T.F_is_mode.kp (b_is_mode T) (dvs := []) (dds := []) .nil (fun _ _ _ => rfl) (da_cons (dv 1) da_nil)))) da_nil))))))) (dss_one (ds_ret de_bl)) dss_nil)
    (dss_one (ds_ret (de_call o_are_unlike hr0 hE (by exact rfl) T.m_are_unlike T.F_are_unlike.kp (b_are_unlike T) (dvs := []) (dds := []) .nil (fun _ _ _ => rfl) (da_cons (de_lc false rfl nd_is_isle (di_seq (de_ix (dv 0) de_int (fun _ _ => rfl))) (own := [(("mode" : Str), 1)]) (show BlkOk N_is_isle (defScope s_is_isle) _ _ from blkOk_by (by decide +kernel)) (fun s H C cl fp => (dg_name nd_is_isle rfl (.inl rfl))) (fun s H C cl fp => dts_nil) (fun s H C cl fp => (de_ix (dv 1) de_int (fun _ _ => rfl)))) da_nil))))))end
end K01
namespace K01
open PySem PySem.Spec PyProof.Rows L2 Dl LamX NdefX
section
variable {P : Program} {w : World} {K : PySem.W.Frag} {mg : Str → Option Value} {base : Heap} {a : Ad}
theorem der_are_pairs (T : Txt P K mg a) {k : Nat} {Φ_is_listed : Phi} (o_is_listed : FnD P w K mg base k a.f_is_listed a.d_is_listed [("value" : Str)] Φ_is_listed) {Φ_is_row : Phi} (o_is_row : FnD P w K mg base k a.f_is_row a.d_is_row [("value" : Str), ("least" : Str), ("most" : Str)] Φ_is_row) {Φ_are_unlike : Phi} (o_are_unlike : FnD P w K mg base k a.f_are_unlike a.d_are_unlike [("some" : Str)] Φ_are_unlike) (cdv : Value) (A : Around) (outer : List Env) (s : Shared) (H : Hp) (E : XK) (B : Fam) (PE : EX) (hr : Room (k + 1) (defX P w K mg base N_are_pairs "are_pairs" s_are_pairs a.f_are_pairs cdv A outer s H E).A) (hE : RaisesD (defX P w K mg base N_are_pairs "are_pairs" s_are_pairs a.f_are_pairs cdv A outer s H E) B (fun C fs _ S => PE C fs S)) :
    DSs (defX P w K mg base N_are_pairs "are_pairs" s_are_pairs a.f_are_pairs cdv A outer s H E) B (defBody s_are_pairs) (t_are_pairs K a Φ_is_listed Φ_is_row Φ_are_unlike PE) := by
  have hP : PassesOwn (model (defX P w K mg base N_are_pairs "are_pairs" s_are_pairs a.f_are_pairs cdv A outer s H E).prog (defX P w K mg base N_are_pairs "are_pairs" s_are_pairs a.f_are_pairs cdv A outer s H E).w) (defX P w K mg base N_are_pairs "are_pairs" s_are_pairs a.f_are_pairs cdv A outer s H E).A (defX P w K mg base N_are_pairs "are_pairs" s_are_pairs a.f_are_pairs cdv A outer s H E).env (defX P w K mg base N_are_pairs "are_pairs" s_are_pairs a.f_are_pairs cdv A outer s H E).xe := passes_of rfl
  have hr0 := hr.mono (Nat.le_succ k)
  unfold t_are_pairs
  exact (dss_cons (ds_if (dt_w (dw_or (dt_not (dt_val (de_call o_is_listed hr0 hE (by exact rfl) T.m_is_listed T.F_is_listed.kp (b_is_listed T) (dvs := []) (dds := []) .nil (fun _ _ _ => rfl) (da_cons (dv 0) da_nil)))) (dw_or (dt_cmp od_lt (de_B cd_len (by exact rfl) T.z_len (by decide +kernel) (da_cons (dv 0) da_nil)) (dv 2) rfl) (dw_or1 (dt_not (dt_val (de_B (cd_all rfl) (by exact rfl) T.z_all (by decide +kernel) (da_cons (de_lc false rfl nd_are_pairs (di_seq (dv 0)) (own := [(("pair" : Str), 3)]) (show BlkOk N_are_pairs (defScope s_are_pairs) _ _ from blkOk_by (by decide +kernel)) (fun s H C cl fp => (dg_name nd_are_pairs rfl (.inl rfl))) (fun s H C cl fp => dts_nil) (fun s H C cl fp => (de_call o_is_row (show Room k (Cx.blk _ s H _ _ fp).A from hr0) raises_none (by exact rfl) T.m_is_row T.F_is_row.kp (b_is_row T) (dvs := []) (dds := []) .nil (fun _ _ _ => rfl) (da_cons (dv 3) (da_cons de_int (da_cons de_int da_nil)))))) da_nil)))))))) (dss_one (ds_ret de_bl)) dss_nil)
    (dss_cons (ds_for (vs := [3]) hP rfl (di_seq (dv 0)) (dg_name nd_are_pairs rfl (.inl rfl))
    (dss_cons (ds_if (dt_w (dw_or (dt_not (dt_val (de_B (cd_isi T.ct) (by exact rfl) T.z_isinstance (by decide +kernel) (da_cons (de_ix (dv 3) de_int (fun _ _ => rfl)) (da_cons (de_ty (by exact rfl) T.z_str (by decide +kernel)) da_nil))))) (dw_or1 (dt_not (dt_val (de_B (cd_isi T.ct) (by exact rfl) T.z_isinstance (by decide +kernel) (da_cons (de_ix (dv 3) de_int (fun _ _ => rfl)) (da_cons (de_ty (by exact rfl) T.z_str (by decide +kernel)) da_nil)))))))) (dss_one (ds_ret de_bl)) dss_nil)
    (dss_one (ds_if (dt_w (dw_or (dt_cmp (od_inDic (neg := true) (u1 hr)) (de_ix (dv 3) de_int (fun _ _ => rfl)) (dv 1) rfl) (dw_or1 (dt_cmp (od_in (neg := true) (u65 hr)) (de_ix (dv 3) de_int (fun _ _ => rfl)) (de_dix (u1 hr) (dv 1) (de_ix (dv 3) de_int (fun _ _ => rfl)) (fun _ _ => rfl)) rfl)))) (dss_one (ds_ret de_bl)) dss_nil))))
    (dss_one (ds_ret (de_call o_are_unlike hr0 hE (by exact rfl) T.m_are_unlike T.F_are_unlike.kp (b_are_unlike T) (dvs := []) (dds := []) .nil (fun _ _ _ => rfl) (da_cons (de_lc false rfl nd_are_pairs (di_seq (dv 0)) (own := [(("pair" : Str), 3)]) (show BlkOk N_are_pairs (defScope s_are_pairs) _ _ from blkOk_by (by decide +kernel)) (fun s H C cl fp => (dg_name nd_are_pairs rfl (.inl rfl))) (fun s H C cl fp => dts_nil) (fun s H C cl fp => (de_ix (dv 3) de_int (fun _ _ => rfl)))) da_nil))))))end
end K01
namespace K01
open PySem PySem.Spec PyProof.Rows L2 Dl LamX NdefX
section
variable {P : Program} {w : World} {K : PySem.W.Frag} {mg : Str → Option Value} {base : Heap} {a : Ad}
theorem der_is_move (T : Txt P K mg a) {k : Nat} {Φ_is_row : Phi} (o_is_row : FnD P w K mg base k a.f_is_row a.d_is_row [("value" : Str), ("least" : Str), ("most" : Str)] Φ_is_row) {Φ_is_within : Phi} (o_is_within : FnD P w K mg base k a.f_is_within a.d_is_within [("value" : Str), ("least" : Str), ("most" : Str)] Φ_is_within) {Φ_are_pairs : Phi} (o_are_pairs : FnD P w K mg base k a.f_are_pairs a.d_are_pairs [("value" : Str), ("modes" : Str), ("least" : Str)] Φ_are_pairs) (cdv : Value) (A : Around) (outer : List Env) (s : Shared) (H : Hp) (E : XK) (B : Fam) (PE : EX) (hr : Room (k + 1) (defX P w K mg base N_is_move "is_move" s_is_move a.f_is_move cdv A outer s H E).A) (hE : RaisesD (defX P w K mg base N_is_move "is_move" s_is_move a.f_is_move cdv A outer s H E) B (fun C fs _ S => PE C fs S)) :
    DSs (defX P w K mg base N_is_move "is_move" s_is_move a.f_is_move cdv A outer s H E) B (defBody s_is_move) (t_is_move K a Φ_is_row Φ_is_within Φ_are_pairs PE) := by
  have hP : PassesOwn (model (defX P w K mg base N_is_move "is_move" s_is_move a.f_is_move cdv A outer s H E).prog (defX P w K mg base N_is_move "is_move" s_is_move a.f_is_move cdv A outer s H E).w) (defX P w K mg base N_is_move "is_move" s_is_move a.f_is_move cdv A outer s H E).A (defX P w K mg base N_is_move "is_move" s_is_move a.f_is_move cdv A outer s H E).env (defX P w K mg base N_is_move "is_move" s_is_move a.f_is_move cdv A outer s H E).xe := passes_of rfl
  have hr0 := hr.mono (Nat.le_succ k)
  unfold t_is_move
  exact (dss_cons (ds_if (dt_w (dw_or (dt_not (dt_val (de_call o_is_row hr0 hE (by exact rfl) T.m_is_row T.F_is_row.kp (b_is_row T) (dvs := []) (dds := []) .nil (fun _ _ _ => rfl) (da_cons (dv 0) (da_cons de_int (da_cons de_int da_nil)))))) (dw_or1 (dt_not (dt_val (de_B (cd_all rfl) (by exact rfl) T.z_all (by decide +kernel) (da_cons (de_lc false rfl nd_is_move (di_seq (de_sl false (dv 0) do_none (do_some de_int))) (own := [(("name" : Str), 4)]) (show BlkOk N_is_move (defScope s_is_move) _ _ from blkOk_by (by decide +kernel)) (fun s H C cl fp => (dg_name nd_is_move rfl (.inl rfl))) (fun s H C cl fp => dts_nil) (fun s H C cl fp => (de_and (de_B (cd_isi T.ct) (by exact rfl) T.z_isinstance (by decide +kernel) (da_cons (dv 4) (da_cons (de_ty (by exact rfl) T.z_str (by decide +kernel)) da_nil))) (de_one (de_cmp (od_in (neg := false) (u65 (show Room (k + 1) (Cx.blk _ s H _ _ fp).A from hr))) (dv 4) (de_dix (u1 (show Room (k + 1) (Cx.blk _ s H _ _ fp).A from hr)) (dv 2) (dv 1) (fun _ _ => rfl)) rfl))))) da_nil))))))) (dss_one (ds_ret de_bl)) dss_nil)
    (dss_cons (ds_if (dt_w (dw_or (dt_cmp (od_eq (u64 hr)) (de_ix (dv 0) de_int (fun _ _ => rfl)) (de_ix (dv 0) de_int (fun _ _ => rfl)) rfl) (dw_or (dt_not (dt_val (de_call o_is_within hr0 hE (by exact rfl) T.m_is_within T.F_is_within.kp (b_is_within T) (dvs := []) (dds := []) .nil (fun _ _ _ => rfl) (da_cons (de_ix (dv 0) de_int (fun _ _ => rfl)) (da_cons de_int (da_cons (de_con (by exact rfl) T.c_MOST_FIGURE (fun _ _ _ => rfl)) da_nil)))))) (dw_or1 (dt_not (dt_val (de_call o_are_pairs hr0 hE (by exact rfl) T.m_are_pairs T.F_are_pairs.kp (b_are_pairs T) (dvs := []) (dds := []) .nil (fun _ _ _ => rfl) (da_cons (de_ix (dv 0) de_int (fun _ _ => rfl)) (da_cons (dv 2) (da_cons de_int da_nil)))))))))) (dss_one (ds_ret de_bl)) dss_nil)
    (dss_one (ds_ret (de_cmp (od_in (neg := true) (u65 hr)) (dv 1) (de_lc false rfl nd_is_move (di_seq (de_ix (dv 0) de_int (fun _ _ => rfl))) (own := [(("pair" : Str), 3)]) (show BlkOk N_is_move (defScope s_is_move) _ _ from blkOk_by (by decide +kernel)) (fun s H C cl fp => (dg_name nd_is_move rfl (.inl rfl))) (fun s H C cl fp => dts_nil) (fun s H C cl fp => (de_ix (dv 3) de_int (fun _ _ => rfl)))) rfl)))))end
end K01
namespace K01
open PySem PySem.Spec PyProof.Rows L2 Dl LamX NdefX
section
variable {P : Program} {w : World} {K : PySem.W.Frag} {mg : Str → Option Value} {base : Heap} {a : Ad}
theorem der_are_moves (T : Txt P K mg a) {k : Nat} {Φ_is_row : Phi} (o_is_row : FnD P w K mg base k a.f_is_row a.d_is_row [("value" : Str), ("least" : Str), ("most" : Str)] Φ_is_row) {Φ_is_move : Phi} (o_is_move : FnD P w K mg base k a.f_is_move a.d_is_move [("value" : Str), ("own" : Str), ("modes" : Str)] Φ_is_move) {Φ_are_unlike : Phi} (o_are_unlike : FnD P w K mg base k a.f_are_unlike a.d_are_unlike [("some" : Str)] Φ_are_unlike) (cdv : Value) (A : Around) (outer : List Env) (s : Shared) (H : Hp) (E : XK) (B : Fam) (PE : EX) (hr : Room (k + 1) (defX P w K mg base N_are_moves "are_moves" s_are_moves a.f_are_moves cdv A outer s H E).A) (hE : RaisesD (defX P w K mg base N_are_moves "are_moves" s_are_moves a.f_are_moves cdv A outer s H E) B (fun C fs _ S => PE C fs S)) :
    DSs (defX P w K mg base N_are_moves "are_moves" s_are_moves a.f_are_moves cdv A outer s H E) B (defBody s_are_moves) (t_are_moves K a Φ_is_row Φ_is_move Φ_are_unlike PE) := by
  have hP : PassesOwn (model (defX P w K mg base N_are_moves "are_moves" s_are_moves a.f_are_moves cdv A outer s H E).prog (defX P w K mg base N_are_moves "are_moves" s_are_moves a.f_are_moves cdv A outer s H E).w) (defX P w K mg base N_are_moves "are_moves" s_are_moves a.f_are_moves cdv A outer s H E).A (defX P w K mg base N_are_moves "are_moves" s_are_moves a.f_are_moves cdv A outer s H E).env (defX P w K mg base N_are_moves "are_moves" s_are_moves a.f_are_moves cdv A outer s H E).xe := passes_of rfl
  have hr0 := hr.mono (Nat.le_succ k)
  unfold t_are_moves
  exact (dss_cons (ds_if (dt_w (dw_or (dt_not (dt_val (de_call o_is_row hr0 hE (by exact rfl) T.m_is_row T.F_is_row.kp (b_is_row T) (dvs := []) (dds := []) .nil (fun _ _ _ => rfl) (da_cons (dv 0) (da_cons de_int (da_cons (de_con (by exact rfl) T.c_MOST_MOVES (fun _ _ _ => rfl)) da_nil)))))) (dw_or1 (dt_not (dt_val (de_B (cd_all rfl) (by exact rfl) T.z_all (by decide +kernel) (da_cons (de_lc false rfl nd_are_moves (di_seq (dv 0)) (own := [(("move" : Str), 3)]) (show BlkOk N_are_moves (defScope s_are_moves) _ _ from blkOk_by (by decide +kernel)) (fun s H C cl fp => (dg_name nd_are_moves rfl (.inl rfl))) (fun s H C cl fp => dts_nil) (fun s H C cl fp => (de_call o_is_move (show Room k (Cx.blk _ s H _ _ fp).A from hr0) raises_none (by exact rfl) T.m_is_move T.F_is_move.kp (b_is_move T) (dvs := []) (dds := []) .nil (fun _ _ _ => rfl) (da_cons (dv 3) (da_cons (dv 1) (da_cons (dv 2) da_nil)))))) da_nil))))))) (dss_one (ds_ret de_bl)) dss_nil)
    (dss_one (ds_ret (de_call o_are_unlike hr0 hE (by exact rfl) T.m_are_unlike T.F_are_unlike.kp (b_are_unlike T) (dvs := []) (dds := []) .nil (fun _ _ _ => rfl) (da_cons (de_lc false rfl nd_are_moves (di_seq (dv 0)) (own := [(("move" : Str), 3)]) (show BlkOk N_are_moves (defScope s_are_moves) _ _ from blkOk_by (by decide +kernel)) (fun s H C cl fp => (dg_name nd_are_moves rfl (.inl rfl))) (fun s H C cl fp => dts_nil) (fun s H C cl fp => (de_T cd_tuple (by exact rfl) T.z_tuple (by decide +kernel) (da_cons (de_sl false (dv 3) do_none (do_some de_int)) da_nil)))) da_nil)))))end
end K01
namespace K01
open PySem PySem.Spec PyProof.Rows L2 Dl LamX NdefX
section
variable {P : Program} {w : World} {K : PySem.W.Frag} {mg : Str → Option Value} {base : Heap} {a : Ad}
theorem der_modes_of (T : Txt P K mg a) {k : Nat} (cdv : Value) (A : Around) (outer : List Env) (s : Shared) (H : Hp) (E : XK) (B : Fam) (PE : EX) (hr : Room (k + 1) (defX P w K mg base N_modes_of "modes_of" s_modes_of a.f_modes_of cdv A outer s H E).A) (hE : RaisesD (defX P w K mg base N_modes_of "modes_of" s_modes_of a.f_modes_of cdv A outer s H E) B (fun C fs _ S => PE C fs S)) :
    DSs (defX P w K mg base N_modes_of "modes_of" s_modes_of a.f_modes_of cdv A outer s H E) B (defBody s_modes_of) (t_modes_of K a  PE) := by
  have hP : PassesOwn (model (defX P w K mg base N_modes_of "modes_of" s_modes_of a.f_modes_of cdv A outer s H E).prog (defX P w K mg base N_modes_of "modes_of" s_modes_of a.f_modes_of cdv A outer s H E).w) (defX P w K mg base N_modes_of "modes_of" s_modes_of a.f_modes_of cdv A outer s H E).A (defX P w K mg base N_modes_of "modes_of" s_modes_of a.f_modes_of cdv A outer s H E).env (defX P w K mg base N_modes_of "modes_of" s_modes_of a.f_modes_of cdv A outer s H E).xe := passes_of rfl
  have hr0 := hr.mono (Nat.le_succ k)
  unfold t_modes_of
  exact (dss_one (ds_ret (de_dc rfl nd_modes_of (di_seq (dv 0)) (own := [(("isle" : Str), 1)]) (show BlkOk N_modes_of (defScope s_modes_of) _ _ from blkOk_by (by decide +kernel)) (fun s H C cl fp => (dg_name nd_modes_of rfl (.inl rfl))) (fun s H C cl fp => dts_nil) (fun s H C cl fp => (de_ix (dv 1) de_int (fun _ _ => rfl))) (fun s H C cl fp => (de_lc false rfl nd_modes_of (di_seq (de_ix (dv 1) de_int (fun _ _ => rfl))) (own := [(("mode" : Str), 2)]) (blkOk_by (by kernel_rfl)) (fun _ _ _ _ _ => (dg_name nd_modes_of rfl (.inl rfl))) (fun _ _ _ _ _ => dts_nil) (fun _ _ _ _ _ => (de_ix (dv 2) de_int (fun _ _ => rfl))))))))end
end K01
namespace K01
open PySem PySem.Spec PyProof.Rows L2 Dl LamX NdefX
section
variable {P : Program} {w : World} {K : PySem.W.Frag} {mg : Str → Option Value} {base : Heap} {a : Ad}
theorem der_are_isles (T : Txt P K mg a) {k : Nat} {Φ_is_row : Phi} (o_is_row : FnD P w K mg base k a.f_is_row a.d_is_row [("value" : Str), ("least" : Str), ("most" : Str)] Φ_is_row) {Φ_is_isle : Phi} (o_is_isle : FnD P w K mg base k a.f_is_isle a.d_is_isle [("value" : Str)] Φ_is_isle) {Φ_are_unlike : Phi} (o_are_unlike : FnD P w K mg base k a.f_are_unlike a.d_are_unlike [("some" : Str)] Φ_are_unlike) {Φ_modes_of : Phi} (o_modes_of : FnD P w K mg base k a.f_modes_of a.d_modes_of [("isles" : Str)] Φ_modes_of) {Φ_are_moves : Phi} (o_are_moves : FnD P w K mg base k a.f_are_moves a.d_are_moves [("value" : Str), ("own" : Str), ("modes" : Str)] Φ_are_moves) (cdv : Value) (A : Around) (outer : List Env) (s : Shared) (H : Hp) (E : XK) (B : Fam) (PE : EX) (hr : Room (k + 1) (defX P w K mg base N_are_isles "are_isles" s_are_isles a.f_are_isles cdv A outer s H E).A) (hE : RaisesD (defX P w K mg base N_are_isles "are_isles" s_are_isles a.f_are_isles cdv A outer s H E) B (fun C fs _ S => PE C fs S)) :
    DSs (defX P w K mg base N_are_isles "are_isles" s_are_isles a.f_are_isles cdv A outer s H E) B (defBody s_are_isles) (t_are_isles K a Φ_is_row Φ_is_isle Φ_are_unlike Φ_modes_of Φ_are_moves PE) := by
  have hP : PassesOwn (model (defX P w K mg base N_are_isles "are_isles" s_are_isles a.f_are_isles cdv A outer s H E).prog (defX P w K mg base N_are_isles "are_isles" s_are_isles a.f_are_isles cdv A outer s H E).w) (defX P w K mg base N_are_isles "are_isles" s_are_isles a.f_are_isles cdv A outer s H E).A (defX P w K mg base N_are_isles "are_isles" s_are_isles a.f_are_isles cdv A outer s H E).env (defX P w K mg base N_are_isles "are_isles" s_are_isles a.f_are_isles cdv A outer s H E).xe := passes_of rfl
  have hr0 := hr.mono (Nat.le_succ k)
  unfold t_are_isles
  exact (dss_cons (ds_if (dt_w (dw_or (dt_not (dt_val (de_call o_is_row hr0 hE (by exact rfl) T.m_is_row T.F_is_row.kp (b_is_row T) (dvs := []) (dds := []) .nil (fun _ _ _ => rfl) (da_cons (dv 0) (da_cons de_int (da_cons (de_con (by exact rfl) T.c_MOST_ISLES (fun _ _ _ => rfl)) da_nil)))))) (dw_or1 (dt_not (dt_val (de_B (cd_all rfl) (by exact rfl) T.z_all (by decide +kernel) (da_cons (de_lc false rfl nd_are_isles (di_seq (dv 0)) (own := [(("isle" : Str), 2)]) (show BlkOk N_are_isles (defScope s_are_isles) _ _ from blkOk_by (by decide +kernel)) (fun s H C cl fp => (dg_name nd_are_isles rfl (.inl rfl))) (fun s H C cl fp => dts_nil) (fun s H C cl fp => (de_call o_is_isle (show Room k (Cx.blk _ s H _ _ fp).A from hr0) raises_none (by exact rfl) T.m_is_isle T.F_is_isle.kp (b_is_isle T) (dvs := []) (dds := []) .nil (fun _ _ _ => rfl) (da_cons (dv 2) da_nil)))) da_nil))))))) (dss_one (ds_ret de_bl)) dss_nil)
    (dss_cons (ds_if (dt_not (dt_val (de_call o_are_unlike hr0 hE (by exact rfl) T.m_are_unlike T.F_are_unlike.kp (b_are_unlike T) (dvs := []) (dds := []) .nil (fun _ _ _ => rfl) (da_cons (de_lc false rfl nd_are_isles (di_seq (dv 0)) (own := [(("isle" : Str), 2)]) (show BlkOk N_are_isles (defScope s_are_isles) _ _ from blkOk_by (by decide +kernel)) (fun s H C cl fp => (dg_name nd_are_isles rfl (.inl rfl))) (fun s H C cl fp => dts_nil) (fun s H C cl fp => (de_ix (dv 2) de_int (fun _ _ => rfl)))) da_nil)))) (dss_one (ds_ret de_bl)) dss_nil)
    (dss_cons (ds_set nd_are_isles rfl (.inr rfl) (de_call o_modes_of hr0 hE (by exact rfl) T.m_modes_of T.F_modes_of.kp (b_modes_of T) (dvs := []) (dds := []) .nil (fun _ _ _ => rfl) (da_cons (dv 0) da_nil)) rfl)
    (dss_one (ds_ret (de_B (cd_all rfl) (by exact rfl) T.z_all (by decide +kernel) (da_cons (de_lc false rfl nd_are_isles (di_seq (dv 0)) (own := [(("isle" : Str), 2)]) (show BlkOk N_are_isles (defScope s_are_isles) _ _ from blkOk_by (by decide +kernel)) (fun s H C cl fp => (dg_name nd_are_isles rfl (.inl rfl))) (fun s H C cl fp => dts_nil) (fun s H C cl fp => (de_call o_are_moves (show Room k (Cx.blk _ s H _ _ fp).A from hr0) raises_none (by exact rfl) T.m_are_moves T.F_are_moves.kp (b_are_moves T) (dvs := []) (dds := []) .nil (fun _ _ _ => rfl) (da_cons (de_ix (dv 2) de_int (fun _ _ => rfl)) (da_cons (de_ix (dv 2) de_int (fun _ _ => rfl)) (da_cons (dv 1) da_nil)))))) da_nil)))))))end
end K01
namespace K01
open PySem PySem.Spec PyProof.Rows L2 Dl LamX NdefX
section
variable {P : Program} {w : World} {K : PySem.W.Frag} {mg : Str → Option Value} {base : Heap} {a : Ad}
theorem der_Yard_init (T : Txt P K mg a) {k : Nat} {Φ_are_isles : Phi} (o_are_isles : FnD P w K mg base k a.f_are_isles a.d_are_isles [("value" : Str)] Φ_are_isles) (o_BadYard : ExcD P w K mg base k a.c_BadYard a.f_BadYard_init a.d_BadYard_init [("part" : Str)]) {Φ_modes_of : Phi} (o_modes_of : FnD P w K mg base k a.f_modes_of a.d_modes_of [("isles" : Str)] Φ_modes_of) {Φ_is_row : Phi} (o_is_row : FnD P w K mg base k a.f_is_row a.d_is_row [("value" : Str), ("least" : Str), ("most" : Str)] Φ_is_row) {Φ_are_pairs : Phi} (o_are_pairs : FnD P w K mg base k a.f_are_pairs a.d_are_pairs [("value" : Str), ("modes" : Str), ("least" : Str)] Φ_are_pairs) {Φ_fixed : Phi} (o_fixed : FnD P w K mg base k a.f_fixed a.d_fixed [("value" : Str)] Φ_fixed) (cdv : Value) (A : Around) (outer : List Env) (s : Shared) (H : Hp) (E : XK) (B : Fam) (PE : EX) (hr : Room (k + 1) (defX P w K mg base N_Yard_init "Yard.__init__" s_Yard_init a.f_Yard_init cdv A outer s H E).A) (hE : RaisesD (defX P w K mg base N_Yard_init "Yard.__init__" s_Yard_init a.f_Yard_init cdv A outer s H E) B (fun C fs _ S => PE C fs S)) :
    DSs (defX P w K mg base N_Yard_init "Yard.__init__" s_Yard_init a.f_Yard_init cdv A outer s H E) B (defBody s_Yard_init) (t_Yard_init K a Φ_are_isles Φ_modes_of Φ_is_row Φ_are_pairs Φ_fixed PE) := by
  have hP : PassesOwn (model (defX P w K mg base N_Yard_init "Yard.__init__" s_Yard_init a.f_Yard_init cdv A outer s H E).prog (defX P w K mg base N_Yard_init "Yard.__init__" s_Yard_init a.f_Yard_init cdv A outer s H E).w) (defX P w K mg base N_Yard_init "Yard.__init__" s_Yard_init a.f_Yard_init cdv A outer s H E).A (defX P w K mg base N_Yard_init "Yard.__init__" s_Yard_init a.f_Yard_init cdv A outer s H E).env (defX P w K mg base N_Yard_init "Yard.__init__" s_Yard_init a.f_Yard_init cdv A outer s H E).xe := passes_of rfl
  have hr0 := hr.mono (Nat.le_succ k)
  unfold t_Yard_init
  exact (dss_cons (ds_if (dt_not (dt_val (de_call o_are_isles hr0 hE (by exact rfl) T.m_are_isles T.F_are_isles.kp (b_are_isles T) (dvs := []) (dds := []) .nil (fun _ _ _ => rfl) (da_cons (dv 1) da_nil)))) (dss_one (ds_raise o_BadYard rfl hr (by exact rfl) T.m_BadYard (b_BadYard_init T) passL hE (da_cons de_str da_nil))) dss_nil)
    (dss_cons (ds_set nd_Yard_init rfl (.inr rfl) (de_call o_modes_of hr0 hE (by exact rfl) T.m_modes_of T.F_modes_of.kp (b_modes_of T) (dvs := []) (dds := []) .nil (fun _ _ _ => rfl) (da_cons (dv 1) da_nil)) rfl)
    (dss_cons (ds_for (vs := [5, 6, 7]) hP rfl (di_seq (de_tup (da_cons (de_tup (da_cons (dv 2) (da_cons (de_con (by exact rfl) T.c_MOST_BARS (fun _ _ _ => rfl)) (da_cons de_str da_nil)))) (da_cons (de_tup (da_cons (dv 3) (da_cons (de_con (by exact rfl) T.c_MOST_WISHES (fun _ _ _ => rfl)) (da_cons de_str da_nil)))) da_nil)))) (dg_tup rfl (dgs_cons (dg_name nd_Yard_init rfl (.inl rfl)) (dgs_cons (dg_name nd_Yard_init rfl (.inl rfl)) (dgs_cons (dg_name nd_Yard_init rfl (.inl rfl)) dgs_nil))))
    (dss_one (ds_if (dt_w (dw_or (dt_not (dt_val (de_call o_is_row hr0 hE (by exact rfl) T.m_is_row T.F_is_row.kp (b_is_row T) (dvs := []) (dds := []) .nil (fun _ _ _ => rfl) (da_cons (dv 5) (da_cons de_int (da_cons (dv 6) da_nil)))))) (dw_or1 (dt_not (dt_val (de_B (cd_all rfl) (by exact rfl) T.z_all (by decide +kernel) (da_cons (de_lc false rfl nd_Yard_init (di_seq (dv 5)) (own := [(("lot" : Str), 9)]) (show BlkOk N_Yard_init (defScope s_Yard_init) _ _ from blkOk_by (by decide +kernel)) (fun s H C cl fp => (dg_name nd_Yard_init rfl (.inl rfl))) (fun s H C cl fp => dts_nil) (fun s H C cl fp => (de_call o_are_pairs (show Room k (Cx.blk _ s H _ _ fp).A from hr0) raises_none (by exact rfl) T.m_are_pairs T.F_are_pairs.kp (b_are_pairs T) (dvs := []) (dds := []) .nil (fun _ _ _ => rfl) (da_cons (dv 9) (da_cons (dv 4) (da_cons de_int da_nil)))))) da_nil))))))) (dss_one (ds_raise o_BadYard rfl hr (by exact rfl) T.m_BadYard (b_BadYard_init T) passL hE (da_cons (dv 7) da_nil))) dss_nil)))
    (dss_cons (ds_setAttr T.cls_Yard T.na_Yard_isles (dv 0) (de_call o_fixed hr0 hE (by exact rfl) T.m_fixed T.F_fixed.kp (b_fixed T) (dvs := []) (dds := []) .nil (fun _ _ _ => rfl) (da_cons (dv 1) da_nil)))
    (dss_cons (ds_setAttr T.cls_Yard T.na_Yard_bars (dv 0) (de_call o_fixed hr0 hE (by exact rfl) T.m_fixed T.F_fixed.kp (b_fixed T) (dvs := []) (dds := []) .nil (fun _ _ _ => rfl) (da_cons (dv 2) da_nil)))
    (dss_cons (ds_setAttr T.cls_Yard T.na_Yard_wishes (dv 0) (de_call o_fixed hr0 hE (by exact rfl) T.m_fixed T.F_fixed.kp (b_fixed T) (dvs := []) (dds := []) .nil (fun _ _ _ => rfl) (da_cons (dv 3) da_nil)))
    (dss_cons (ds_setAttr T.cls_Yard T.na_Yard_names (dv 0) (de_T cd_tuple (by exact rfl) T.z_tuple (by decide +kernel) (da_cons (de_lc false rfl nd_Yard_init (di_seq (de_attr T.cls_Yard T.na_Yard_isles (dv 0))) (own := [(("isle" : Str), 8)]) (show BlkOk N_Yard_init (defScope s_Yard_init) _ _ from blkOk_by (by decide +kernel)) (fun s H C cl fp => (dg_name nd_Yard_init rfl (.inl rfl))) (fun s H C cl fp => dts_nil) (fun s H C cl fp => (de_ix (dv 8) de_int (fun _ _ => rfl)))) da_nil)))
    (dss_one (ds_setAttr T.cls_Yard T.na_Yard_kept (dv 0) de_dic0)))))))))end
end K01
namespace K01
open PySem PySem.Spec PyProof.Rows L2 Dl LamX NdefX
section
variable {P : Program} {w : World} {K : PySem.W.Frag} {mg : Str → Option Value} {base : Heap} {a : Ad}
theorem der_Yard_eq (T : Txt P K mg a) {k : Nat} (cdv : Value) (A : Around) (outer : List Env) (s : Shared) (H : Hp) (E : XK) (B : Fam) (PE : EX) (hr : Room (k + 1) (defX P w K mg base N_Yard_eq "Yard.__eq__" s_Yard_eq a.f_Yard_eq cdv A outer s H E).A) (hE : RaisesD (defX P w K mg base N_Yard_eq "Yard.__eq__" s_Yard_eq a.f_Yard_eq cdv A outer s H E) B (fun C fs _ S => PE C fs S)) :
    DSs (defX P w K mg base N_Yard_eq "Yard.__eq__" s_Yard_eq a.f_Yard_eq cdv A outer s H E) B (defBody s_Yard_eq) (t_Yard_eq K a  PE) := by
  have hP : PassesOwn (model (defX P w K mg base N_Yard_eq "Yard.__eq__" s_Yard_eq a.f_Yard_eq cdv A outer s H E).prog (defX P w K mg base N_Yard_eq "Yard.__eq__" s_Yard_eq a.f_Yard_eq cdv A outer s H E).w) (defX P w K mg base N_Yard_eq "Yard.__eq__" s_Yard_eq a.f_Yard_eq cdv A outer s H E).A (defX P w K mg base N_Yard_eq "Yard.__eq__" s_Yard_eq a.f_Yard_eq cdv A outer s H E).env (defX P w K mg base N_Yard_eq "Yard.__eq__" s_Yard_eq a.f_Yard_eq cdv A outer s H E).xe := passes_of rfl
  have hr0 := hr.mono (Nat.le_succ k)
  unfold t_Yard_eq
  exact (dss_cons (ds_if (dt_not (dt_val (de_B (cd_isi T.ct) (by exact rfl) T.z_isinstance (by decide +kernel) (da_cons (dv 1) (da_cons (de_glob (v := .ref a.c_Yard) (by exact rfl) T.m_Yard rfl (fun _ _ _ => rfl)) da_nil))))) (dss_one (ds_ret de_bl)) dss_nil)
    (dss_one (ds_ret (de_cmp (od_eq (u64 hr)) (de_tup (da_cons (de_attr T.cls_Yard T.na_Yard_isles (dv 0)) (da_cons (de_attr T.cls_Yard T.na_Yard_bars (dv 0)) (da_cons (de_attr T.cls_Yard T.na_Yard_wishes (dv 0)) da_nil)))) (de_tup (da_cons (de_attr T.cls_Yard T.na_Yard_isles (dv 1)) (da_cons (de_attr T.cls_Yard T.na_Yard_bars (dv 1)) (da_cons (de_attr T.cls_Yard T.na_Yard_wishes (dv 1)) da_nil)))) rfl))))end
end K01
namespace K01
open PySem PySem.Spec PyProof.Rows L2 Dl LamX NdefX
section
variable {P : Program} {w : World} {K : PySem.W.Frag} {mg : Str → Option Value} {base : Heap} {a : Ad}
theorem der__law_pen (T : Txt P K mg a) {k : Nat} (cdv : Value) (A : Around) (outer : List Env) (s : Shared) (H : Hp) (E : XK) (B : Fam) (PE : EX) (hr : Room (k + 1) (defX P w K mg base N__law_pen "_law_pen" s__law_pen a.f__law_pen cdv A outer s H E).A) (hE : RaisesD (defX P w K mg base N__law_pen "_law_pen" s__law_pen a.f__law_pen cdv A outer s H E) B (fun C fs _ S => PE C fs S)) :
    DSs (defX P w K mg base N__law_pen "_law_pen" s__law_pen a.f__law_pen cdv A outer s H E) B (defBody s__law_pen) (t__law_pen K a  PE) := by
  have hP : PassesOwn (model (defX P w K mg base N__law_pen "_law_pen" s__law_pen a.f__law_pen cdv A outer s H E).prog (defX P w K mg base N__law_pen "_law_pen" s__law_pen a.f__law_pen cdv A outer s H E).w) (defX P w K mg base N__law_pen "_law_pen" s__law_pen a.f__law_pen cdv A outer s H E).A (defX P w K mg base N__law_pen "_law_pen" s__law_pen a.f__law_pen cdv A outer s H E).env (defX P w K mg base N__law_pen "_law_pen" s__law_pen a.f__law_pen cdv A outer s H E).xe := passes_of rfl
  have hr0 := hr.mono (Nat.le_succ k)
  unfold t__law_pen
  exact (dss_one (ds_ret (de_lst true (da_cons (de_T (cd_list (m := false)) (by exact rfl) T.z_list (by decide +kernel) (da_cons (de_sl false (dv 0) do_none (do_some de_int)) da_nil)) (da_cons de_int (da_cons de_int da_nil))))))end
end K01
namespace K01
open PySem PySem.Spec PyProof.Rows L2 Dl LamX NdefX
section
variable {P : Program} {w : World} {K : PySem.W.Frag} {mg : Str → Option Value} {base : Heap} {a : Ad}
theorem der__law_draw (T : Txt P K mg a) {k : Nat} (cdv : Value) (A : Around) (outer : List Env) (s : Shared) (H : Hp) (E : XK) (B : Fam) (PE : EX) (hr : Room (k + 1) (defX P w K mg base N__law_draw "_law_draw" s__law_draw a.f__law_draw cdv A outer s H E).A) (hE : RaisesD (defX P w K mg base N__law_draw "_law_draw" s__law_draw a.f__law_draw cdv A outer s H E) B (fun C fs _ S => PE C fs S)) :
    DSs (defX P w K mg base N__law_draw "_law_draw" s__law_draw a.f__law_draw cdv A outer s H E) B (defBody s__law_draw) (t__law_draw K a  PE) := by
  have hP : PassesOwn (model (defX P w K mg base N__law_draw "_law_draw" s__law_draw a.f__law_draw cdv A outer s H E).prog (defX P w K mg base N__law_draw "_law_draw" s__law_draw a.f__law_draw cdv A outer s H E).w) (defX P w K mg base N__law_draw "_law_draw" s__law_draw a.f__law_draw cdv A outer s H E).A (defX P w K mg base N__law_draw "_law_draw" s__law_draw a.f__law_draw cdv A outer s H E).env (defX P w K mg base N__law_draw "_law_draw" s__law_draw a.f__law_draw cdv A outer s H E).xe := passes_of rfl
  have hr0 := hr.mono (Nat.le_succ k)
  unfold t__law_draw
  exact (dss_cons (ds_if (dt_cmp od_lt (dv 1) de_int rfl) (dss_one (ds_ret de_int)) dss_nil)
    (dss_cons (ds_if (dt_cmp od_gt (de_ix (dv 0) de_int (fun _ _ => rfl)) de_int rfl) (dss_cons (ds_set nd__law_draw rfl (.inl rfl) (de_op od_mod (de_T cd_int (by exact rfl) T.z_int (by decide +kernel) (da_cons (de_ix (dv 0) de_int (fun _ _ => rfl)) da_nil)) (dv 1)) rfl)
    (dss_cons (ds_setIx (dv 0) de_int (de_op od_fdiv (de_T cd_int (by exact rfl) T.z_int (by decide +kernel) (da_cons (de_ix (dv 0) de_int (fun _ _ => rfl)) da_nil)) (dv 1)))
    (dss_one (ds_ret (dv 5))))) dss_nil)
    (dss_cons (ds_set nd__law_draw rfl (.inl rfl) (de_ix (dv 0) de_int (fun _ _ => rfl)) rfl)
    (dss_cons (ds_setIx (dv 0) de_int (de_op (od_add (m := false)) (dv 2) de_int))
    (dss_cons (ds_set nd__law_draw rfl (.inl rfl) (de_op (od_add (m := false)) (de_op (od_mul (m := false)) de_int (dv 2)) de_int) rfl)
    (dss_cons (ds_if (dt_cmp (od_ne (u64 hr)) (de_ix (dv 0) de_int (fun _ _ => rfl)) (de_lst false da_nil) rfl) (dss_one (ds_set nd__law_draw rfl (.inl rfl) (de_ix (de_ix (dv 0) de_int (fun _ _ => rfl)) (de_op od_mod (de_T cd_int (by exact rfl) T.z_int (by decide +kernel) (da_cons (dv 2) da_nil)) (de_B cd_len (by exact rfl) T.z_len (by decide +kernel) (da_cons (de_ix (dv 0) de_int (fun _ _ => rfl)) da_nil))) (fun _ _ => rfl)) rfl)) dss_nil)
    (dss_cons (ds_if (dt_w (dw_and (dt_cmp od_lt (dv 2) (de_B cd_len (by exact rfl) T.z_len (by decide +kernel) (da_cons (de_ix (dv 0) de_int (fun _ _ => rfl)) da_nil)) rfl) (dw_and1 (dt_cmp od_ge (de_B cd_abs (by exact rfl) T.z_abs (by decide +kernel) (da_cons (dv 3) da_nil)) (de_op od_pow de_int de_int) rfl)))) (dss_cons (ds_set nd__law_draw rfl (.inl rfl) (de_op (od_add (m := false)) (de_op (od_mul (m := false)) de_int (de_op od_sub (de_B cd_abs (by exact rfl) T.z_abs (by decide +kernel) (da_cons (dv 3) da_nil)) (de_op od_pow de_int de_int))) (de_T cd_int (by exact rfl) T.z_int (by decide +kernel) (da_cons (de_cmp od_lt (dv 3) de_int rfl) da_nil))) rfl)
    (dss_cons (ds_setIx (dv 0) de_int (de_op od_fdiv (de_T cd_int (by exact rfl) T.z_int (by decide +kernel) (da_cons (dv 6) da_nil)) (dv 1)))
    (dss_one (ds_ret (de_op od_mod (de_T cd_int (by exact rfl) T.z_int (by decide +kernel) (da_cons (dv 6) da_nil)) (dv 1)))))) dss_nil)
    (dss_cons (ds_set nd__law_draw rfl (.inl rfl) (de_op od_mod (de_T cd_int (by exact rfl) T.z_int (by decide +kernel) (da_cons (de_op od_pow (de_op (od_add (m := false)) (de_op (od_add (m := false)) (de_op od_mod (de_T cd_int (by exact rfl) T.z_int (by decide +kernel) (da_cons (dv 3) da_nil)) de_int) (de_op (od_mul (m := false)) de_int (dv 2))) de_int) de_int) da_nil)) de_int) rfl)
    (dss_cons (ds_set nd__law_draw rfl (.inl rfl) (de_op od_mod (de_T cd_int (by exact rfl) T.z_int (by decide +kernel) (da_cons (de_op od_pow (de_op (od_add (m := false)) (de_op (od_add (m := false)) (de_op (od_mul (m := false)) (dv 4) (de_op (od_add (m := false)) (de_op (od_mul (m := false)) de_int (dv 2)) de_int)) (de_op (od_mul (m := false)) (de_op (od_mul (m := false)) de_int (dv 2)) (dv 2))) de_int) de_int) da_nil)) de_int) rfl)
    (dss_one (ds_ret (de_op od_mod (de_T cd_int (by exact rfl) T.z_int (by decide +kernel) (da_cons (de_op od_fdiv (dv 4) de_int) da_nil)) (dv 1)))))))))))))end
end K01
namespace K01
open PySem PySem.Spec PyProof.Rows L2 Dl LamX NdefX
section
variable {P : Program} {w : World} {K : PySem.W.Frag} {mg : Str → Option Value} {base : Heap} {a : Ad}
theorem der__law_pick (T : Txt P K mg a) {k : Nat} {Φ__law_draw : Phi} (o__law_draw : FnD P w K mg base k a.f__law_draw a.d__law_draw [("pen" : Str), ("many" : Str)] Φ__law_draw) (cdv : Value) (A : Around) (outer : List Env) (s : Shared) (H : Hp) (E : XK) (B : Fam) (PE : EX) (hr : Room (k + 1) (defX P w K mg base N__law_pick "_law_pick" s__law_pick a.f__law_pick cdv A outer s H E).A) (hE : RaisesD (defX P w K mg base N__law_pick "_law_pick" s__law_pick a.f__law_pick cdv A outer s H E) B (fun C fs _ S => PE C fs S)) :
    DSs (defX P w K mg base N__law_pick "_law_pick" s__law_pick a.f__law_pick cdv A outer s H E) B (defBody s__law_pick) (t__law_pick K a Φ__law_draw PE) := by
  have hP : PassesOwn (model (defX P w K mg base N__law_pick "_law_pick" s__law_pick a.f__law_pick cdv A outer s H E).prog (defX P w K mg base N__law_pick "_law_pick" s__law_pick a.f__law_pick cdv A outer s H E).w) (defX P w K mg base N__law_pick "_law_pick" s__law_pick a.f__law_pick cdv A outer s H E).A (defX P w K mg base N__law_pick "_law_pick" s__law_pick a.f__law_pick cdv A outer s H E).env (defX P w K mg base N__law_pick "_law_pick" s__law_pick a.f__law_pick cdv A outer s H E).xe := passes_of rfl
  have hr0 := hr.mono (Nat.le_succ k)
  unfold t__law_pick
  exact (dss_one (ds_ret (de_ix (dv 1) (de_call o__law_draw hr0 hE (by exact rfl) T.m__law_draw T.F__law_draw.kp (b__law_draw T) (dvs := []) (dds := []) .nil (fun _ _ _ => rfl) (da_cons (dv 0) (da_cons (de_B cd_len (by exact rfl) T.z_len (by decide +kernel) (da_cons (dv 1) da_nil)) da_nil))) (fun _ _ => rfl))))end
end K01
namespace K01
open PySem PySem.Spec PyProof.Rows L2 Dl LamX NdefX
section
variable {P : Program} {w : World} {K : PySem.W.Frag} {mg : Str → Option Value} {base : Heap} {a : Ad}
theorem der__law_mixed (T : Txt P K mg a) {k : Nat} {Φ__law_draw : Phi} (o__law_draw : FnD P w K mg base k a.f__law_draw a.d__law_draw [("pen" : Str), ("many" : Str)] Φ__law_draw) (cdv : Value) (A : Around) (outer : List Env) (s : Shared) (H : Hp) (E : XK) (B : Fam) (PE : EX) (hr : Room (k + 1) (defX P w K mg base N__law_mixed "_law_mixed" s__law_mixed a.f__law_mixed cdv A outer s H E).A) (hE : RaisesD (defX P w K mg base N__law_mixed "_law_mixed" s__law_mixed a.f__law_mixed cdv A outer s H E) B (fun C fs _ S => PE C fs S)) :
    DSs (defX P w K mg base N__law_mixed "_law_mixed" s__law_mixed a.f__law_mixed cdv A outer s H E) B (defBody s__law_mixed) (t__law_mixed K a Φ__law_draw PE) := by
  have hP : PassesOwn (model (defX P w K mg base N__law_mixed "_law_mixed" s__law_mixed a.f__law_mixed cdv A outer s H E).prog (defX P w K mg base N__law_mixed "_law_mixed" s__law_mixed a.f__law_mixed cdv A outer s H E).w) (defX P w K mg base N__law_mixed "_law_mixed" s__law_mixed a.f__law_mixed cdv A outer s H E).A (defX P w K mg base N__law_mixed "_law_mixed" s__law_mixed a.f__law_mixed cdv A outer s H E).env (defX P w K mg base N__law_mixed "_law_mixed" s__law_mixed a.f__law_mixed cdv A outer s H E).xe := passes_of rfl
  have hr0 := hr.mono (Nat.le_succ k)
  unfold t__law_mixed
  exact (dss_cons (ds_par rfl nd__law_mixed rfl rfl (by decide) rfl rfl (da_cons (de_T (cd_list (m := true)) (by exact rfl) T.z_list (by decide +kernel) (da_cons (dv 1) da_nil)) (da_cons (de_lst true da_nil) da_nil)) rfl)
    (dss_cons (ds_for (vs := [2]) hP rfl (di_rng1 (by exact rfl) T.z_range (da_cons (de_B cd_len (by exact rfl) T.z_len (by decide +kernel) (da_cons (dv 1) da_nil)) da_nil)) (dg_name nd__law_mixed rfl (.inl rfl))
    (dss_one (ds_expr (de_bm PySem.F.plainAttrs_list PySem.F.slot_list_append PySem.F.type_list_append md_append (dv 4) (da_cons (de_bm PySem.F.plainAttrs_list PySem.F.slot_list_pop PySem.F.type_list_pop md_popAt (dv 3) (da_cons (de_call o__law_draw hr0 hE (by exact rfl) T.m__law_draw T.F__law_draw.kp (b__law_draw T) (dvs := []) (dds := []) .nil (fun _ _ _ => rfl) (da_cons (dv 0) (da_cons (de_B cd_len (by exact rfl) T.z_len (by decide +kernel) (da_cons (dv 3) da_nil)) da_nil))) da_nil)) da_nil)))))
    (dss_one (ds_ret (dv 4)))))end
end K01
namespace K01
open PySem PySem.Spec PyProof.Rows L2 Dl LamX NdefX
section
variable {P : Program} {w : World} {K : PySem.W.Frag} {mg : Str → Option Value} {base : Heap} {a : Ad}
theorem der__law_heard (T : Txt P K mg a) {k : Nat} (cdv : Value) (A : Around) (outer : List Env) (s : Shared) (H : Hp) (E : XK) (B : Fam) (f : Addr) (tl : EX → Sto → (D → Sto → Prop) → Prop) (PE : EX) (hr : Room (k + 1) (defX P w K mg base N__law_heard "_law_heard" s__law_heard a.f__law_heard cdv A outer s H E).A) (hE : RaisesD (defX P w K mg base N__law_heard "_law_heard" s__law_heard a.f__law_heard cdv A outer s H E) B (fun C fs _ S => PE C fs S))
    (act : ∀ (pn : List (Addr × Obj)) (xe : Value → Shared → Prop) (B'' : Fam) (E' : EW) (p1 p2 : Pos), RaisesD ((defX P w K mg base N__law_heard "_law_heard" s__law_heard a.f__law_heard cdv A outer s H E).tr pn xe) B'' E' → Later K B B'' → DE ((defX P w K mg base N__law_heard "_law_heard" s__law_heard a.f__law_heard cdv A outer s H E).tr pn xe) B'' (.Call (.Name "ask" p1) [] [] p2) (dAct 0 f E' tl)) :
    DSs (defX P w K mg base N__law_heard "_law_heard" s__law_heard a.f__law_heard cdv A outer s H E) B (defBody s__law_heard) (t__law_heard K a PE f tl) := by
  have hP : PassesOwn (model (defX P w K mg base N__law_heard "_law_heard" s__law_heard a.f__law_heard cdv A outer s H E).prog (defX P w K mg base N__law_heard "_law_heard" s__law_heard a.f__law_heard cdv A outer s H E).w) (defX P w K mg base N__law_heard "_law_heard" s__law_heard a.f__law_heard cdv A outer s H E).A (defX P w K mg base N__law_heard "_law_heard" s__law_heard a.f__law_heard cdv A outer s H E).env (defX P w K mg base N__law_heard "_law_heard" s__law_heard a.f__law_heard cdv A outer s H E).xe := passes_of rfl
  have hr0 := hr.mono (Nat.le_succ k)
  unfold t__law_heard
  exact (dss_cons (ds_par rfl nd__law_heard rfl rfl (by decide) rfl rfl (da_cons (de_lst true da_nil) (da_cons de_non da_nil)) rfl)
    (dss_cons (ds_try rfl rfl rfl nd__law_heard rfl rfl rfl rfl ⟨rfl, by decide, .inl T.m_FlatError⟩ hE (by decide) (by decide) rfl (fun pn xe B' E' hE' hL hP' => (dss_one (ds_expr (de_bm PySem.F.plainAttrs_list PySem.F.slot_list_append PySem.F.type_list_append md_append (dv 4) (da_cons (act pn xe B' E' _ _ hE' hL) da_nil))))))
    (dss_cons (ds_if (dt_cmp od_is (dv 5) de_non rfl) (dss_one (ds_ret (dv 4))) dss_nil)
    (dss_cons (ds_if (dt_val (de_B (cd_isi T.ct) (by exact rfl) T.z_isinstance (by decide +kernel) (da_cons (dv 5) (da_cons (de_glob (v := .ref a.c_TooMany) (by exact rfl) T.m_TooMany rfl (fun _ _ _ => rfl)) da_nil)))) (dss_one (ds_ret (de_tup (da_cons de_str (da_cons (de_xattr T.xa_what (dv 5)) (da_cons (de_xattr T.xa_most (dv 5)) da_nil)))))) dss_nil)
    (dss_cons (ds_if (dt_val (de_B (cd_isi T.ct) (by exact rfl) T.z_isinstance (by decide +kernel) (da_cons (dv 5) (da_cons (de_glob (v := .ref a.c_BadText) (by exact rfl) T.m_BadText rfl (fun _ _ _ => rfl)) da_nil)))) (dss_one (ds_ret (de_tup (da_cons de_str (da_cons (de_xattr T.xa_line (dv 5)) (da_cons (de_xattr T.xa_word (dv 5)) da_nil)))))) dss_nil)
    (dss_cons (ds_if (dt_val (de_B (cd_isi T.ct) (by exact rfl) T.z_isinstance (by decide +kernel) (da_cons (dv 5) (da_cons (de_tup (da_cons (de_glob (v := .ref a.c_BadLine) (by exact rfl) T.m_BadLine rfl (fun _ _ _ => rfl)) (da_cons (de_glob (v := .ref a.c_Nothing) (by exact rfl) T.m_Nothing rfl (fun _ _ _ => rfl)) (da_cons (de_glob (v := .ref a.c_NoName) (by exact rfl) T.m_NoName rfl (fun _ _ _ => rfl)) da_nil)))) da_nil)))) (dss_one (ds_ret (de_if (dt_val (de_B (cd_isi T.ct) (by exact rfl) T.z_isinstance (by decide +kernel) (da_cons (dv 5) (da_cons (de_glob (v := .ref a.c_BadLine) (by exact rfl) T.m_BadLine rfl (fun _ _ _ => rfl)) da_nil)))) (de_tup (da_cons de_str (da_cons (de_xattr T.xa_word (dv 5)) da_nil))) (de_if (dt_val (de_B (cd_isi T.ct) (by exact rfl) T.z_isinstance (by decide +kernel) (da_cons (dv 5) (da_cons (de_glob (v := .ref a.c_Nothing) (by exact rfl) T.m_Nothing rfl (fun _ _ _ => rfl)) da_nil)))) (de_tup (da_cons de_str (da_cons (de_xattr T.xa_what (dv 5)) da_nil))) de_never)))) dss_nil)
    (dss_cons (ds_set nd__law_heard rfl (.inl rfl) (de_lst true (da_cons (de_tup (da_cons de_str (da_cons (de_B (cd_isi T.ct) (by exact rfl) T.z_isinstance (by decide +kernel) (da_cons (dv 5) (da_cons (de_glob (v := .ref a.c_BadYard) (by exact rfl) T.m_BadYard rfl (fun _ _ _ => rfl)) da_nil))) da_nil))) (da_cons (de_tup (da_cons de_str (da_cons (de_B (cd_isi T.ct) (by exact rfl) T.z_isinstance (by decide +kernel) (da_cons (dv 5) (da_cons (de_glob (v := .ref a.c_BadValue) (by exact rfl) T.m_BadValue rfl (fun _ _ _ => rfl)) da_nil))) da_nil))) (da_cons (de_tup (da_cons de_str (da_cons (de_B (cd_isi T.ct) (by exact rfl) T.z_isinstance (by decide +kernel) (da_cons (dv 5) (da_cons (de_glob (v := .ref a.c_BadNumber) (by exact rfl) T.m_BadNumber rfl (fun _ _ _ => rfl)) da_nil))) da_nil))) (da_cons (de_tup (da_cons de_str (da_cons (de_B (cd_isi T.ct) (by exact rfl) T.z_isinstance (by decide +kernel) (da_cons (dv 5) (da_cons (de_glob (v := .ref a.c_BadPaper) (by exact rfl) T.m_BadPaper rfl (fun _ _ _ => rfl)) da_nil))) da_nil))) da_nil))))) rfl)
    (dss_cons (ds_expr (de_bm PySem.F.plainAttrs_list PySem.F.slot_list_append PySem.F.type_list_append md_append (dv 2) (da_cons (de_tup (da_cons de_str (da_cons (de_B (cd_isi T.ct) (by exact rfl) T.z_isinstance (by decide +kernel) (da_cons (dv 5) (da_cons (de_glob (v := .ref a.c_Misfit) (by exact rfl) T.m_Misfit rfl (fun _ _ _ => rfl)) da_nil))) da_nil))) da_nil)))
    (dss_cons (ds_setLc false rfl nd__law_heard rfl rfl rfl (di_seq (dv 2)) (own := [(("word" : Str), 6), (("is_one" : Str), 7)]) (show BlkOk N__law_heard (defScope s__law_heard) _ _ from blkOk_by (by decide +kernel)) (fun s H C cl fp => (dg_tup rfl (dgs_cons (dg_name nd__law_heard rfl (.inl rfl)) (dgs_cons (dg_name nd__law_heard rfl (.inl rfl)) dgs_nil)))) (fun s H C cl fp => (dts_one (dt_val (dv 7)))) (fun s H C cl fp => (dv 6)))
    (dss_one (ds_ret (de_if (dt_cmp (od_eq (u64 hr)) (de_B cd_len (by exact rfl) T.z_len (by decide +kernel) (da_cons (dv 3) da_nil)) de_int rfl) (de_tup (da_cons (de_ix (dv 3) de_int (fun _ _ => rfl)) (da_cons (de_xattr T.xa_part (dv 5)) da_nil))) (de_tup (da_cons de_str da_nil))))))))))))))end
end K01
namespace K01
open PySem PySem.Spec PyProof.Rows L2 Dl LamX NdefX
section
variable {P : Program} {w : World} {K : PySem.W.Frag} {mg : Str → Option Value} {base : Heap} {a : Ad}
theorem der__law_listed (T : Txt P K mg a) {k : Nat} {Φ__law_listed : Phi} (o__law_listed : FnD P w K mg base k a.f__law_listed a.d__law_listed [("value" : Str)] Φ__law_listed) (cdv : Value) (A : Around) (outer : List Env) (s : Shared) (H : Hp) (E : XK) (B : Fam) (PE : EX) (hr : Room (k + 1) (defX P w K mg base N__law_listed "_law_listed" s__law_listed a.f__law_listed cdv A outer s H E).A) (hE : RaisesD (defX P w K mg base N__law_listed "_law_listed" s__law_listed a.f__law_listed cdv A outer s H E) B (fun C fs _ S => PE C fs S)) :
    DSs (defX P w K mg base N__law_listed "_law_listed" s__law_listed a.f__law_listed cdv A outer s H E) B (defBody s__law_listed) (t__law_listed K a Φ__law_listed PE) := by
  have hP : PassesOwn (model (defX P w K mg base N__law_listed "_law_listed" s__law_listed a.f__law_listed cdv A outer s H E).prog (defX P w K mg base N__law_listed "_law_listed" s__law_listed a.f__law_listed cdv A outer s H E).w) (defX P w K mg base N__law_listed "_law_listed" s__law_listed a.f__law_listed cdv A outer s H E).A (defX P w K mg base N__law_listed "_law_listed" s__law_listed a.f__law_listed cdv A outer s H E).env (defX P w K mg base N__law_listed "_law_listed" s__law_listed a.f__law_listed cdv A outer s H E).xe := passes_of rfl
  have hr0 := hr.mono (Nat.le_succ k)
  unfold t__law_listed
  exact (dss_one (ds_ret (de_if (dt_val (de_B (cd_isi T.ct) (by exact rfl) T.z_isinstance (by decide +kernel) (da_cons (dv 0) (da_cons (de_tup (da_cons (de_ty (by exact rfl) T.z_list (by decide +kernel)) (da_cons (de_ty (by exact rfl) T.z_tuple (by decide +kernel)) da_nil))) da_nil)))) (de_lc false rfl nd__law_listed (di_seq (dv 0)) (own := [(("one" : Str), 1)]) (show BlkOk N__law_listed (defScope s__law_listed) _ _ from blkOk_by (by decide +kernel)) (fun s H C cl fp => (dg_name nd__law_listed rfl (.inl rfl))) (fun s H C cl fp => dts_nil) (fun s H C cl fp => (de_call o__law_listed (show Room k (Cx.blk _ s H _ _ fp).A from hr0) raises_none (by exact rfl) T.m__law_listed T.F__law_listed.kp (b__law_listed T) (dvs := []) (dds := []) .nil (fun _ _ _ => rfl) (da_cons (dv 1) da_nil)))) (dv 0))))end
end K01
namespace K01
open PySem PySem.Spec PyProof.Rows L2 Dl LamX NdefX
section
variable {P : Program} {w : World} {K : PySem.W.Frag} {mg : Str → Option Value} {base : Heap} {a : Ad}
theorem der__law_tuples (T : Txt P K mg a) {k : Nat} {Φ__law_tuples : Phi} (o__law_tuples : FnD P w K mg base k a.f__law_tuples a.d__law_tuples [("value" : Str)] Φ__law_tuples) (cdv : Value) (A : Around) (outer : List Env) (s : Shared) (H : Hp) (E : XK) (B : Fam) (PE : EX) (hr : Room (k + 1) (defX P w K mg base N__law_tuples "_law_tuples" s__law_tuples a.f__law_tuples cdv A outer s H E).A) (hE : RaisesD (defX P w K mg base N__law_tuples "_law_tuples" s__law_tuples a.f__law_tuples cdv A outer s H E) B (fun C fs _ S => PE C fs S)) :
    DSs (defX P w K mg base N__law_tuples "_law_tuples" s__law_tuples a.f__law_tuples cdv A outer s H E) B (defBody s__law_tuples) (t__law_tuples K a Φ__law_tuples PE) := by
  have hP : PassesOwn (model (defX P w K mg base N__law_tuples "_law_tuples" s__law_tuples a.f__law_tuples cdv A outer s H E).prog (defX P w K mg base N__law_tuples "_law_tuples" s__law_tuples a.f__law_tuples cdv A outer s H E).w) (defX P w K mg base N__law_tuples "_law_tuples" s__law_tuples a.f__law_tuples cdv A outer s H E).A (defX P w K mg base N__law_tuples "_law_tuples" s__law_tuples a.f__law_tuples cdv A outer s H E).env (defX P w K mg base N__law_tuples "_law_tuples" s__law_tuples a.f__law_tuples cdv A outer s H E).xe := passes_of rfl
  have hr0 := hr.mono (Nat.le_succ k)
  unfold t__law_tuples
  exact (dss_one (ds_ret (de_if (dt_val (de_B (cd_isi T.ct) (by exact rfl) T.z_isinstance (by decide +kernel) (da_cons (dv 0) (da_cons (de_tup (da_cons (de_ty (by exact rfl) T.z_list (by decide +kernel)) (da_cons (de_ty (by exact rfl) T.z_tuple (by decide +kernel)) da_nil))) da_nil)))) (de_T cd_tuple (by exact rfl) T.z_tuple (by decide +kernel) (da_cons (de_lc false rfl nd__law_tuples (di_seq (dv 0)) (own := [(("one" : Str), 1)]) (show BlkOk N__law_tuples (defScope s__law_tuples) _ _ from blkOk_by (by decide +kernel)) (fun s H C cl fp => (dg_name nd__law_tuples rfl (.inl rfl))) (fun s H C cl fp => dts_nil) (fun s H C cl fp => (de_call o__law_tuples (show Room k (Cx.blk _ s H _ _ fp).A from hr0) raises_none (by exact rfl) T.m__law_tuples T.F__law_tuples.kp (b__law_tuples T) (dvs := []) (dds := []) .nil (fun _ _ _ => rfl) (da_cons (dv 1) da_nil)))) da_nil)) (dv 0))))end
end K01
namespace K01
open PySem PySem.Spec PyProof.Rows L2 Dl LamX NdefX
section
variable {P : Program} {w : World} {K : PySem.W.Frag} {mg : Str → Option Value} {base : Heap} {a : Ad}
theorem der__law_wants (T : Txt P K mg a) {k : Nat} {Φ__law_mixed : Phi} (o__law_mixed : FnD P w K mg base k a.f__law_mixed a.d__law_mixed [("pen" : Str), ("some" : Str)] Φ__law_mixed) {Φ__law_pick : Phi} (o__law_pick : FnD P w K mg base k a.f__law_pick a.d__law_pick [("pen" : Str), ("some" : Str)] Φ__law_pick) (cdv : Value) (A : Around) (outer : List Env) (s : Shared) (H : Hp) (E : XK) (B : Fam) (PE : EX) (hr : Room (k + 1) (defX P w K mg base N__law_wants "_law_wants" s__law_wants a.f__law_wants cdv A outer s H E).A) (hE : RaisesD (defX P w K mg base N__law_wants "_law_wants" s__law_wants a.f__law_wants cdv A outer s H E) B (fun C fs _ S => PE C fs S)) :
    DSs (defX P w K mg base N__law_wants "_law_wants" s__law_wants a.f__law_wants cdv A outer s H E) B (defBody s__law_wants) (t__law_wants K a Φ__law_mixed Φ__law_pick PE) := by
  have hP : PassesOwn (model (defX P w K mg base N__law_wants "_law_wants" s__law_wants a.f__law_wants cdv A outer s H E).prog (defX P w K mg base N__law_wants "_law_wants" s__law_wants a.f__law_wants cdv A outer s H E).w) (defX P w K mg base N__law_wants "_law_wants" s__law_wants a.f__law_wants cdv A outer s H E).A (defX P w K mg base N__law_wants "_law_wants" s__law_wants a.f__law_wants cdv A outer s H E).env (defX P w K mg base N__law_wants "_law_wants" s__law_wants a.f__law_wants cdv A outer s H E).xe := passes_of rfl
  have hr0 := hr.mono (Nat.le_succ k)
  unfold t__law_wants
  exact (dss_cons (ds_par rfl nd__law_wants rfl rfl (by decide) rfl rfl (da_cons (de_lc false rfl nd__law_wants (di_seq (dv 2)) (own := [(("one" : Str), 7)]) (show BlkOk N__law_wants (defScope s__law_wants) _ _ from blkOk_by (by decide +kernel)) (fun s H C cl fp => (dg_name nd__law_wants rfl (.inl rfl))) (fun s H C cl fp => (dts_one (dt_cmp (od_ne (u64 (show Room (k + 1) (Cx.blk _ s H _ _ fp).A from hr))) (de_ix (dv 7) de_int (fun _ _ => rfl)) (dv 1) rfl))) (fun s H C cl fp => (dv 7))) (da_cons (de_lst true da_nil) da_nil)) rfl)
    (dss_cons (ds_for (vs := [5, 6]) hP rfl (di_seq (de_sl false (de_call o__law_mixed hr0 hE (by exact rfl) T.m__law_mixed T.F__law_mixed.kp (b__law_mixed T) (dvs := []) (dds := []) .nil (fun _ _ _ => rfl) (da_cons (dv 0) (da_cons (dv 3) da_nil))) do_none (do_some (de_call o__law_pick hr0 hE (by exact rfl) T.m__law_pick T.F__law_pick.kp (b__law_pick T) (dvs := []) (dds := []) .nil (fun _ _ _ => rfl) (da_cons (dv 0) (da_cons (de_lst false (da_cons de_int (da_cons de_int (da_cons de_int (da_cons de_int (da_cons de_int (da_cons de_int da_nil))))))) da_nil)))))) (dg_tup rfl (dgs_cons (dg_name nd__law_wants rfl (.inl rfl)) (dgs_cons (dg_name nd__law_wants rfl (.inl rfl)) dgs_nil)))
    (dss_one (ds_expr (de_bm PySem.F.plainAttrs_list PySem.F.slot_list_append PySem.F.type_list_append md_append (dv 4) (da_cons (de_tup (da_cons (dv 5) (da_cons (de_call o__law_pick hr0 hE (by exact rfl) T.m__law_pick T.F__law_pick.kp (b__law_pick T) (dvs := []) (dds := []) .nil (fun _ _ _ => rfl) (da_cons (dv 0) (da_cons (dv 6) da_nil))) da_nil))) da_nil)))))
    (dss_one (ds_ret (de_T cd_tuple (by exact rfl) T.z_tuple (by decide +kernel) (da_cons (dv 4) da_nil))))))end
end K01
namespace K01
open PySem PySem.Spec PyProof.Rows L2 Dl LamX NdefX
section
variable {P : Program} {w : World} {K : PySem.W.Frag} {mg : Str → Option Value} {base : Heap} {a : Ad}
theorem der__law_wide (T : Txt P K mg a) {k : Nat} {Φ__law_mixed : Phi} (o__law_mixed : FnD P w K mg base k a.f__law_mixed a.d__law_mixed [("pen" : Str), ("some" : Str)] Φ__law_mixed) {Φ__law_draw : Phi} (o__law_draw : FnD P w K mg base k a.f__law_draw a.d__law_draw [("pen" : Str), ("many" : Str)] Φ__law_draw) {Φ__law_pick : Phi} (o__law_pick : FnD P w K mg base k a.f__law_pick a.d__law_pick [("pen" : Str), ("some" : Str)] Φ__law_pick) {Φ__law_wants : Phi} (o__law_wants : FnD P w K mg base k a.f__law_wants a.d__law_wants [("pen" : Str), ("own" : Str), ("known" : Str)] Φ__law_wants) (cdv : Value) (A : Around) (outer : List Env) (s : Shared) (H : Hp) (E : XK) (B : Fam) (PE : EX) (hr : Room (k + 1) (defX P w K mg base N__law_wide "_law_wide" s__law_wide a.f__law_wide cdv A outer s H E).A) (hE : RaisesD (defX P w K mg base N__law_wide "_law_wide" s__law_wide a.f__law_wide cdv A outer s H E) B (fun C fs _ S => PE C fs S)) :
    DSs (defX P w K mg base N__law_wide "_law_wide" s__law_wide a.f__law_wide cdv A outer s H E) B (defBody s__law_wide) (t__law_wide K a Φ__law_mixed Φ__law_draw Φ__law_pick Φ__law_wants PE) := by
  have hP : PassesOwn (model (defX P w K mg base N__law_wide "_law_wide" s__law_wide a.f__law_wide cdv A outer s H E).prog (defX P w K mg base N__law_wide "_law_wide" s__law_wide a.f__law_wide cdv A outer s H E).w) (defX P w K mg base N__law_wide "_law_wide" s__law_wide a.f__law_wide cdv A outer s H E).A (defX P w K mg base N__law_wide "_law_wide" s__law_wide a.f__law_wide cdv A outer s H E).env (defX P w K mg base N__law_wide "_law_wide" s__law_wide a.f__law_wide cdv A outer s H E).xe := passes_of rfl
  have hr0 := hr.mono (Nat.le_succ k)
  unfold t__law_wide
  exact (dss_cons (ds_set nd__law_wide rfl (.inl rfl) (de_sl false (de_call o__law_mixed hr0 hE (by exact rfl) T.m__law_mixed T.F__law_mixed.kp (b__law_mixed T) (dvs := []) (dds := []) .nil (fun _ _ _ => rfl) (da_cons (dv 0) (da_cons (de_lst false (da_cons de_str (da_cons de_str (da_cons de_str (da_cons de_str (da_cons de_str (da_cons de_str da_nil))))))) da_nil))) do_none (do_some (de_op (od_add (m := false)) de_int (de_call o__law_draw hr0 hE (by exact rfl) T.m__law_draw T.F__law_draw.kp (b__law_draw T) (dvs := []) (dds := []) .nil (fun _ _ _ => rfl) (da_cons (dv 0) (da_cons (dv 1) da_nil)))))) rfl)
    (dss_cons (ds_set nd__law_wide rfl (.inr rfl) (de_lc false rfl nd__law_wide (di_seq (dv 3)) (own := [(("name" : Str), 9)]) (show BlkOk N__law_wide (defScope s__law_wide) _ _ from blkOk_by (by decide +kernel)) (fun s H C cl fp => (dg_name nd__law_wide rfl (.inl rfl))) (fun s H C cl fp => dts_nil) (fun s H C cl fp => (de_tup (da_cons (dv 9) (da_cons (de_sl false (de_call o__law_mixed (show Room k (Cx.blk _ s H _ _ fp).A from hr0) raises_none (by exact rfl) T.m__law_mixed T.F__law_mixed.kp (b__law_mixed T) (dvs := []) (dds := []) .nil (fun _ _ _ => rfl) (da_cons (dv 0) (da_cons (de_lst false (da_cons de_str (da_cons de_str (da_cons de_str (da_cons de_str (da_cons de_str da_nil)))))) da_nil))) do_none (do_some (de_op (od_add (m := false)) de_int (de_call o__law_draw (show Room k (Cx.blk _ s H _ _ fp).A from hr0) raises_none (by exact rfl) T.m__law_draw T.F__law_draw.kp (b__law_draw T) (dvs := []) (dds := []) .nil (fun _ _ _ => rfl) (da_cons (dv 0) (da_cons (dv 2) da_nil)))))) da_nil))))) rfl)
    (dss_cons (ds_set nd__law_wide rfl (.inl rfl) (de_lst true da_nil) rfl)
    (dss_cons (ds_for (vs := [9, 10]) hP rfl (di_seq (dv 4)) (dg_tup rfl (dgs_cons (dg_name nd__law_wide rfl (.inr rfl)) (dgs_cons (dg_name nd__law_wide rfl (.inr rfl)) dgs_nil)))
    (dss_cons (ds_set nd__law_wide rfl (.inl rfl) (de_T cd_tuple (by exact rfl) T.z_tuple (by decide +kernel) (da_cons (de_lc false rfl nd__law_wide (di_seq (dv 10)) (own := [(("mode" : Str), 14)]) (show BlkOk N__law_wide (defScope s__law_wide) _ _ from blkOk_by (by decide +kernel)) (fun s H C cl fp => (dg_name nd__law_wide rfl (.inl rfl))) (fun s H C cl fp => dts_nil) (fun s H C cl fp => (de_tup (da_cons (dv 14) (da_cons (de_call o__law_pick (show Room k (Cx.blk _ s H _ _ fp).A from hr0) raises_none (by exact rfl) T.m__law_pick T.F__law_pick.kp (b__law_pick T) (dvs := []) (dds := []) .nil (fun _ _ _ => rfl) (da_cons (dv 0) (da_cons (de_lst false (da_cons de_int (da_cons de_int (da_cons de_int (da_cons de_int (da_cons (de_un ud_neg de_int) (da_cons (de_un ud_neg de_int) (da_cons de_int (da_cons (de_un ud_neg de_int) (da_cons de_int da_nil)))))))))) da_nil))) (da_cons (de_cmp od_gt (de_call o__law_draw (show Room k (Cx.blk _ s H _ _ fp).A from hr0) raises_none (by exact rfl) T.m__law_draw T.F__law_draw.kp (b__law_draw T) (dvs := []) (dds := []) .nil (fun _ _ _ => rfl) (da_cons (dv 0) (da_cons de_int da_nil))) de_int rfl) da_nil)))))) da_nil)) rfl)
    (dss_cons (ds_set nd__law_wide rfl (.inl rfl) (de_B (cd_sumL rfl) (by exact rfl) T.z_sum (by decide +kernel) (da_cons (de_lc false rfl nd__law_wide (di_seq (dv 10)) (own := [(("first" : Str), 15)]) (show BlkOk N__law_wide (defScope s__law_wide) _ _ from blkOk_by (by decide +kernel)) (fun s H C cl fp => (dg_name nd__law_wide rfl (.inr rfl))) (fun s H C cl fp => dts_nil) (fun s H C cl fp => (de_lc false rfl nd__law_wide (di_seq (dv 10)) (own := [(("last" : Str), 16)]) (blkOk_by (by kernel_rfl)) (fun _ _ _ _ _ => (dg_name nd__law_wide rfl (.inl rfl))) (fun _ _ _ _ _ => (dts_one (dt_cmp (od_ne (u64 (show Room (k + 1) (Cx.blk _ _ _ _ _ _).A from hr))) (dv 16) (dv 15) rfl))) (fun _ _ _ _ _ => (de_tup (da_cons (dv 15) (da_cons (dv 16) da_nil))))))) (da_cons (de_lst false da_nil) da_nil))) rfl)
    (dss_cons (ds_setLc false rfl nd__law_wide rfl rfl rfl (di_seq (de_sl false (de_call o__law_mixed hr0 hE (by exact rfl) T.m__law_mixed T.F__law_mixed.kp (b__law_mixed T) (dvs := []) (dds := []) .nil (fun _ _ _ => rfl) (da_cons (dv 0) (da_cons (dv 12) da_nil))) do_none (do_some (de_call o__law_draw hr0 hE (by exact rfl) T.m__law_draw T.F__law_draw.kp (b__law_draw T) (dvs := []) (dds := []) .nil (fun _ _ _ => rfl) (da_cons (dv 0) (da_cons de_int da_nil)))))) (own := [(("first" : Str), 15), (("last" : Str), 16)]) (show BlkOk N__law_wide (defScope s__law_wide) _ _ from blkOk_by (by decide +kernel)) (fun s H C cl fp => (dg_tup rfl (dgs_cons (dg_name nd__law_wide rfl (.inl rfl)) (dgs_cons (dg_name nd__law_wide rfl (.inl rfl)) dgs_nil)))) (fun s H C cl fp => dts_nil) (fun s H C cl fp => (de_tup (da_cons (dv 15) (da_cons (dv 16) (da_cons (de_call o__law_pick (show Room k (Cx.blk _ s H _ _ fp).A from hr0) raises_none (by exact rfl) T.m__law_pick T.F__law_pick.kp (b__law_pick T) (dvs := []) (dds := []) .nil (fun _ _ _ => rfl) (da_cons (dv 0) (da_cons (de_lst false (da_cons de_int (da_cons de_int (da_cons de_int (da_cons de_int (da_cons de_int da_nil)))))) da_nil))) (da_cons (de_call o__law_wants (show Room k (Cx.blk _ s H _ _ fp).A from hr0) raises_none (by exact rfl) T.m__law_wants T.F__law_wants.kp (b__law_wants T) (dvs := []) (dds := []) .nil (fun _ _ _ => rfl) (da_cons (dv 0) (da_cons (dv 9) (da_cons (dv 4) da_nil)))) da_nil)))))))
    (dss_one (ds_expr (de_bm PySem.F.plainAttrs_list PySem.F.slot_list_append PySem.F.type_list_append md_append (dv 5) (da_cons (de_tup (da_cons (dv 9) (da_cons (de_cmp (od_eq (u64 hr)) (de_call o__law_draw hr0 hE (by exact rfl) T.m__law_draw T.F__law_draw.kp (b__law_draw T) (dvs := []) (dds := []) .nil (fun _ _ _ => rfl) (da_cons (dv 0) (da_cons de_int da_nil))) de_int rfl) (da_cons (dv 11) (da_cons (de_T cd_tuple (by exact rfl) T.z_tuple (by decide +kernel) (da_cons (dv 13) da_nil)) da_nil))))) da_nil))))))))
    (dss_cons (ds_set nd__law_wide rfl (.inl rfl) (de_lst true da_nil) rfl)
    (dss_cons (ds_for (vs := [7]) hP rfl (di_rng1 (by exact rfl) T.z_range (da_cons de_int da_nil)) (dg_name nd__law_wide rfl (.inl rfl))
    (dss_one (ds_expr (de_bm PySem.F.plainAttrs_list PySem.F.slot_list_append PySem.F.type_list_append md_append (dv 6) (da_cons (de_T cd_tuple (by exact rfl) T.z_tuple (by decide +kernel) (da_cons (de_lc false rfl nd__law_wide (di_seq (de_sl false (de_call o__law_mixed hr0 hE (by exact rfl) T.m__law_mixed T.F__law_mixed.kp (b__law_mixed T) (dvs := []) (dds := []) .nil (fun _ _ _ => rfl) (da_cons (dv 0) (da_cons (dv 4) da_nil))) do_none (do_some (de_op (od_add (m := false)) de_int (de_call o__law_draw hr0 hE (by exact rfl) T.m__law_draw T.F__law_draw.kp (b__law_draw T) (dvs := []) (dds := []) .nil (fun _ _ _ => rfl) (da_cons (dv 0) (da_cons (de_B (cd_min2 rfl) (by exact rfl) T.z_min (by decide +kernel) (da_cons de_int (da_cons (de_B cd_len (by exact rfl) T.z_len (by decide +kernel) (da_cons (dv 4) da_nil)) da_nil))) da_nil))))))) (own := [(("name" : Str), 9), (("some" : Str), 10)]) (show BlkOk N__law_wide (defScope s__law_wide) _ _ from blkOk_by (by decide +kernel)) (fun s H C cl fp => (dg_tup rfl (dgs_cons (dg_name nd__law_wide rfl (.inl rfl)) (dgs_cons (dg_name nd__law_wide rfl (.inl rfl)) dgs_nil)))) (fun s H C cl fp => dts_nil) (fun s H C cl fp => (de_tup (da_cons (dv 9) (da_cons (de_call o__law_pick (show Room k (Cx.blk _ s H _ _ fp).A from hr0) raises_none (by exact rfl) T.m__law_pick T.F__law_pick.kp (b__law_pick T) (dvs := []) (dds := []) .nil (fun _ _ _ => rfl) (da_cons (dv 0) (da_cons (dv 10) da_nil))) da_nil))))) da_nil)) da_nil)))))
    (dss_cons (ds_set nd__law_wide rfl (.inl rfl) (de_T cd_tuple (by exact rfl) T.z_tuple (by decide +kernel) (da_cons (de_sl false (dv 6) do_none (do_some (de_call o__law_pick hr0 hE (by exact rfl) T.m__law_pick T.F__law_pick.kp (b__law_pick T) (dvs := []) (dds := []) .nil (fun _ _ _ => rfl) (da_cons (dv 0) (da_cons (de_lst false (da_cons de_int (da_cons de_int (da_cons de_int (da_cons de_int (da_cons de_int da_nil)))))) da_nil))))) da_nil)) rfl)
    (dss_one (ds_ret (de_tup (da_cons (de_T cd_tuple (by exact rfl) T.z_tuple (by decide +kernel) (da_cons (dv 5) da_nil)) (da_cons (dv 8) (da_cons (de_T cd_tuple (by exact rfl) T.z_tuple (by decide +kernel) (da_cons (de_sl false (dv 6) (do_some de_int) (do_some (de_op (od_add (m := false)) de_int (de_call o__law_pick hr0 hE (by exact rfl) T.m__law_pick T.F__law_pick.kp (b__law_pick T) (dvs := []) (dds := []) .nil (fun _ _ _ => rfl) (da_cons (dv 0) (da_cons (de_lst false (da_cons de_int (da_cons de_int (da_cons de_int (da_cons de_int (da_cons de_int da_nil)))))) da_nil)))))) da_nil)) da_nil)))))))))))))end
end K01
namespace K01
open PySem PySem.Spec PyProof.Rows L2 Dl LamX NdefX
section
variable {P : Program} {w : World} {K : PySem.W.Frag} {mg : Str → Option Value} {base : Heap} {a : Ad}
theorem der__law_is_title (T : Txt P K mg a) {k : Nat} (cdv : Value) (A : Around) (outer : List Env) (s : Shared) (H : Hp) (E : XK) (B : Fam) (PE : EX) (hr : Room (k + 1) (defX P w K mg base N__law_is_title "_law_is_title" s__law_is_title a.f__law_is_title cdv A outer s H E).A) (hE : RaisesD (defX P w K mg base N__law_is_title "_law_is_title" s__law_is_title a.f__law_is_title cdv A outer s H E) B (fun C fs _ S => PE C fs S)) :
    DSs (defX P w K mg base N__law_is_title "_law_is_title" s__law_is_title a.f__law_is_title cdv A outer s H E) B (defBody s__law_is_title) (t__law_is_title K a  PE) := by
  have hP : PassesOwn (model (defX P w K mg base N__law_is_title "_law_is_title" s__law_is_title a.f__law_is_title cdv A outer s H E).prog (defX P w K mg base N__law_is_title "_law_is_title" s__law_is_title a.f__law_is_title cdv A outer s H E).w) (defX P w K mg base N__law_is_title "_law_is_title" s__law_is_title a.f__law_is_title cdv A outer s H E).A (defX P w K mg base N__law_is_title "_law_is_title" s__law_is_title a.f__law_is_title cdv A outer s H E).env (defX P w K mg base N__law_is_title "_law_is_title" s__law_is_title a.f__law_is_title cdv A outer s H E).xe := passes_of rfl
  have hr0 := hr.mono (Nat.le_succ k)
  unfold t__law_is_title
  exact (dss_cons (ds_if (dt_w (dw_or (dt_not (dt_val (de_B (cd_isi T.ct) (by exact rfl) T.z_isinstance (by decide +kernel) (da_cons (dv 0) (da_cons (de_ty (by exact rfl) T.z_str (by decide +kernel)) da_nil))))) (dw_or (dt_not (dt_chain od_le od_le de_int (de_B cd_len (by exact rfl) T.z_len (by decide +kernel) (da_cons (dv 0) da_nil)) de_int)) (dw_or1 (dt_cmp (od_in (neg := false) (u65 hr)) (dv 0) (de_tup (da_cons de_str (da_cons de_str (da_cons de_str (da_cons de_str (da_cons de_str (da_cons de_str (da_cons de_str da_nil)))))))) rfl))))) (dss_one (ds_ret de_bl)) dss_nil)
    (dss_one (ds_ret (de_cmp (od_eq (u64 hr)) (de_lc false rfl nd__law_is_title (di_seq (dv 0)) (own := [(("sign" : Str), 1)]) (show BlkOk N__law_is_title (defScope s__law_is_title) _ _ from blkOk_by (by decide +kernel)) (fun s H C cl fp => (dg_name nd__law_is_title rfl (.inl rfl))) (fun s H C cl fp => (dts_one (dt_cmp od_ninS (dv 1) de_str rfl))) (fun s H C cl fp => (dv 1))) (de_lst false da_nil) rfl))))end
end K01
namespace K01
open PySem PySem.Spec PyProof.Rows L2 Dl LamX NdefX
section
variable {P : Program} {w : World} {K : PySem.W.Frag} {mg : Str → Option Value} {base : Heap} {a : Ad}
theorem der__law_is_plain_isle (T : Txt P K mg a) {k : Nat} {Φ__law_is_title : Phi} (o__law_is_title : FnD P w K mg base k a.f__law_is_title a.d__law_is_title [("word" : Str)] Φ__law_is_title) (cdv : Value) (A : Around) (outer : List Env) (s : Shared) (H : Hp) (E : XK) (B : Fam) (PE : EX) (hr : Room (k + 1) (defX P w K mg base N__law_is_plain_isle "_law_is_plain_isle" s__law_is_plain_isle a.f__law_is_plain_isle cdv A outer s H E).A) (hG : (defX P w K mg base N__law_is_plain_isle "_law_is_plain_isle" s__law_is_plain_isle a.f__law_is_plain_isle cdv A outer s H E).A.guards = some []) (hE : RaisesD (defX P w K mg base N__law_is_plain_isle "_law_is_plain_isle" s__law_is_plain_isle a.f__law_is_plain_isle cdv A outer s H E) B (fun C fs _ S => PE C fs S)) :
    DSs (defX P w K mg base N__law_is_plain_isle "_law_is_plain_isle" s__law_is_plain_isle a.f__law_is_plain_isle cdv A outer s H E) B (defBody s__law_is_plain_isle) (t__law_is_plain_isle K a Φ__law_is_title PE) := by
  have hP : PassesOwn (model (defX P w K mg base N__law_is_plain_isle "_law_is_plain_isle" s__law_is_plain_isle a.f__law_is_plain_isle cdv A outer s H E).prog (defX P w K mg base N__law_is_plain_isle "_law_is_plain_isle" s__law_is_plain_isle a.f__law_is_plain_isle cdv A outer s H E).w) (defX P w K mg base N__law_is_plain_isle "_law_is_plain_isle" s__law_is_plain_isle a.f__law_is_plain_isle cdv A outer s H E).A (defX P w K mg base N__law_is_plain_isle "_law_is_plain_isle" s__law_is_plain_isle a.f__law_is_plain_isle cdv A outer s H E).env (defX P w K mg base N__law_is_plain_isle "_law_is_plain_isle" s__law_is_plain_isle a.f__law_is_plain_isle cdv A outer s H E).xe := passes_of rfl
  have hr0 := hr.mono (Nat.le_succ k)
  unfold t__law_is_plain_isle
  exact (dss_cons (ds_if (dt_w (dw_or (dt_not (dt_val (de_B (cd_isi T.ct) (by exact rfl) T.z_isinstance (by decide +kernel) (da_cons (dv 0) (da_cons (de_tup (da_cons (de_ty (by exact rfl) T.z_list (by decide +kernel)) (da_cons (de_ty (by exact rfl) T.z_tuple (by decide +kernel)) da_nil))) da_nil))))) (dw_or (dt_cmp (od_ne (u64 hr)) (de_B cd_len (by exact rfl) T.z_len (by decide +kernel) (da_cons (dv 0) da_nil)) de_int rfl) (dw_or (dt_not (dt_val (de_call o__law_is_title hr0 hE (by exact rfl) T.m__law_is_title T.F__law_is_title.kp (b__law_is_title T) (dvs := []) (dds := []) .nil (fun _ _ _ => rfl) (da_cons (de_ix (dv 0) de_int (fun _ _ => rfl)) da_nil)))) (dw_or1 (dt_not (dt_val (de_B (cd_isi T.ct) (by exact rfl) T.z_isinstance (by decide +kernel) (da_cons (de_ix (dv 0) de_int (fun _ _ => rfl)) (da_cons (de_ty (by exact rfl) T.z_bool (by decide +kernel)) da_nil)))))))))) (dss_one (ds_ret de_bl)) dss_nil)
    (dss_cons (ds_if (dt_w (dw_or (dt_not (dt_val (de_B (cd_isi T.ct) (by exact rfl) T.z_isinstance (by decide +kernel) (da_cons (de_ix (dv 0) de_int (fun _ _ => rfl)) (da_cons (de_tup (da_cons (de_ty (by exact rfl) T.z_list (by decide +kernel)) (da_cons (de_ty (by exact rfl) T.z_tuple (by decide +kernel)) da_nil))) da_nil))))) (dw_or (dt_not (dt_chain od_le od_le de_int (de_B cd_len (by exact rfl) T.z_len (by decide +kernel) (da_cons (de_ix (dv 0) de_int (fun _ _ => rfl)) da_nil)) de_int)) (dw_or1 (dt_cmp (od_in (neg := true) (u65 hr)) (de_B (cd_reprA hG (u128 hr)) (by exact rfl) T.z_repr (by decide +kernel) (da_cons (de_ix (dv 0) de_int (fun _ _ => rfl)) da_nil)) (de_tup (da_cons de_str (da_cons de_str da_nil))) rfl))))) (dss_one (ds_ret de_bl)) dss_nil)
    (dss_cons (ds_for (vs := [1]) hP rfl (di_seq (de_ix (dv 0) de_int (fun _ _ => rfl))) (dg_name nd__law_is_plain_isle rfl (.inl rfl))
    (dss_cons (ds_if (dt_w (dw_or (dt_not (dt_val (de_B (cd_isi T.ct) (by exact rfl) T.z_isinstance (by decide +kernel) (da_cons (dv 1) (da_cons (de_tup (da_cons (de_ty (by exact rfl) T.z_list (by decide +kernel)) (da_cons (de_ty (by exact rfl) T.z_tuple (by decide +kernel)) da_nil))) da_nil))))) (dw_or (dt_cmp (od_ne (u64 hr)) (de_B cd_len (by exact rfl) T.z_len (by decide +kernel) (da_cons (dv 1) da_nil)) de_int rfl) (dw_or (dt_not (dt_val (de_call o__law_is_title hr0 hE (by exact rfl) T.m__law_is_title T.F__law_is_title.kp (b__law_is_title T) (dvs := []) (dds := []) .nil (fun _ _ _ => rfl) (da_cons (de_ix (dv 1) de_int (fun _ _ => rfl)) da_nil)))) (dw_or1 (dt_not (dt_val (de_B (cd_isi T.ct) (by exact rfl) T.z_isinstance (by decide +kernel) (da_cons (de_ix (dv 1) de_int (fun _ _ => rfl)) (da_cons (de_ty (by exact rfl) T.z_bool (by decide +kernel)) da_nil)))))))))) (dss_one (ds_ret de_bl)) dss_nil)
    (dss_one (ds_if (dt_w (dw_or (dt_val (de_B (cd_isi T.ct) (by exact rfl) T.z_isinstance (by decide +kernel) (da_cons (de_ix (dv 1) de_int (fun _ _ => rfl)) (da_cons (de_ty (by exact rfl) T.z_bool (by decide +kernel)) da_nil)))) (dw_or (dt_not (dt_val (de_B (cd_isi T.ct) (by exact rfl) T.z_isinstance (by decide +kernel) (da_cons (de_ix (dv 1) de_int (fun _ _ => rfl)) (da_cons (de_ty (by exact rfl) T.z_int (by decide +kernel)) da_nil))))) (dw_or1 (dt_not (dt_chain od_le od_le (de_un ud_neg de_int) (de_ix (dv 1) de_int (fun _ _ => rfl)) de_int)))))) (dss_one (ds_ret de_bl)) dss_nil))))
    (dss_one (ds_ret (de_cmp (od_eq (u64 hr)) (de_lenSet (by exact rfl) T.z_len (by exact rfl) T.z_set (de_lc false rfl nd__law_is_plain_isle (di_seq (de_ix (dv 0) de_int (fun _ _ => rfl))) (own := [(("mode" : Str), 1)]) (show BlkOk N__law_is_plain_isle (defScope s__law_is_plain_isle) _ _ from blkOk_by (by decide +kernel)) (fun s H C cl fp => (dg_name nd__law_is_plain_isle rfl (.inl rfl))) (fun s H C cl fp => dts_nil) (fun s H C cl fp => (de_ix (dv 1) de_int (fun _ _ => rfl)))) rfl) (de_B cd_len (by exact rfl) T.z_len (by decide +kernel) (da_cons (de_ix (dv 0) de_int (fun _ _ => rfl)) da_nil)) rfl))))))end
end K01
namespace K01
open PySem PySem.Spec PyProof.Rows L2 Dl LamX NdefX
section
variable {P : Program} {w : World} {K : PySem.W.Frag} {mg : Str → Option Value} {base : Heap} {a : Ad}
theorem der__law_bent_isle (T : Txt P K mg a) {k : Nat} {Φ__law_draw : Phi} (o__law_draw : FnD P w K mg base k a.f__law_draw a.d__law_draw [("pen" : Str), ("many" : Str)] Φ__law_draw) {Φ__law_pick : Phi} (o__law_pick : FnD P w K mg base k a.f__law_pick a.d__law_pick [("pen" : Str), ("some" : Str)] Φ__law_pick) (cdv : Value) (A : Around) (outer : List Env) (s : Shared) (H : Hp) (E : XK) (B : Fam) (PE : EX) (hr : Room (k + 1) (defX P w K mg base N__law_bent_isle "_law_bent_isle" s__law_bent_isle a.f__law_bent_isle cdv A outer s H E).A) (hE : RaisesD (defX P w K mg base N__law_bent_isle "_law_bent_isle" s__law_bent_isle a.f__law_bent_isle cdv A outer s H E) B (fun C fs _ S => PE C fs S)) :
    DSs (defX P w K mg base N__law_bent_isle "_law_bent_isle" s__law_bent_isle a.f__law_bent_isle cdv A outer s H E) B (defBody s__law_bent_isle) (t__law_bent_isle K a Φ__law_draw Φ__law_pick PE) := by
  have hP : PassesOwn (model (defX P w K mg base N__law_bent_isle "_law_bent_isle" s__law_bent_isle a.f__law_bent_isle cdv A outer s H E).prog (defX P w K mg base N__law_bent_isle "_law_bent_isle" s__law_bent_isle a.f__law_bent_isle cdv A outer s H E).w) (defX P w K mg base N__law_bent_isle "_law_bent_isle" s__law_bent_isle a.f__law_bent_isle cdv A outer s H E).A (defX P w K mg base N__law_bent_isle "_law_bent_isle" s__law_bent_isle a.f__law_bent_isle cdv A outer s H E).env (defX P w K mg base N__law_bent_isle "_law_bent_isle" s__law_bent_isle a.f__law_bent_isle cdv A outer s H E).xe := passes_of rfl
  have hr0 := hr.mono (Nat.le_succ k)
  unfold t__law_bent_isle
  exact (dss_cons (ds_asg (vs := [3, 4, 5, 6]) (dv 1) (dg_tup rfl (dgs_cons (dg_name nd__law_bent_isle rfl (.inl rfl)) (dgs_cons (dg_name nd__law_bent_isle rfl (.inl rfl)) (dgs_cons (dg_name nd__law_bent_isle rfl (.inl rfl)) (dgs_cons (dg_name nd__law_bent_isle rfl (.inl rfl)) dgs_nil))))))
    (dss_cons (ds_par rfl nd__law_bent_isle rfl rfl (by decide) rfl rfl (da_cons (de_call o__law_draw hr0 hE (by exact rfl) T.m__law_draw T.F__law_draw.kp (b__law_draw T) (dvs := []) (dds := []) .nil (fun _ _ _ => rfl) (da_cons (dv 0) (da_cons de_int da_nil))) (da_cons (de_lc true rfl nd__law_bent_isle (di_seq (dv 5)) (own := [(("mode" : Str), 9)]) (show BlkOk N__law_bent_isle (defScope s__law_bent_isle) _ _ from blkOk_by (by decide +kernel)) (fun s H C cl fp => (dg_name nd__law_bent_isle rfl (.inl rfl))) (fun s H C cl fp => dts_nil) (fun s H C cl fp => (de_T (cd_list (m := true)) (by exact rfl) T.z_list (by decide +kernel) (da_cons (dv 9) da_nil)))) da_nil)) rfl)
    (dss_cons (ds_set nd__law_bent_isle rfl (.inl rfl) (de_call o__law_draw hr0 hE (by exact rfl) T.m__law_draw T.F__law_draw.kp (b__law_draw T) (dvs := []) (dds := []) .nil (fun _ _ _ => rfl) (da_cons (dv 0) (da_cons (de_B cd_len (by exact rfl) T.z_len (by decide +kernel) (da_cons (dv 8) da_nil)) da_nil))) rfl)
    (dss_cons (ds_if (dt_cmp (od_eq (u64 hr)) (dv 7) de_int rfl) (dss_one (ds_ret (de_tup (da_cons (de_call o__law_pick hr0 hE (by exact rfl) T.m__law_pick T.F__law_pick.kp (b__law_pick T) (dvs := []) (dds := []) .nil (fun _ _ _ => rfl) (da_cons (dv 0) (da_cons (de_lst false (da_cons de_str (da_cons de_str (da_cons de_str (da_cons de_str (da_cons de_str (da_cons de_str (da_cons de_int (da_cons de_non (da_cons (de_tup (da_cons de_str da_nil)) (da_cons de_str (da_cons de_str (da_cons de_str da_nil))))))))))))) da_nil))) (da_cons (dv 4) (da_cons (dv 5) (da_cons (dv 6) da_nil))))))) dss_nil)
    (dss_cons (ds_if (dt_cmp (od_eq (u64 hr)) (dv 7) de_int rfl) (dss_one (ds_ret (de_tup (da_cons (dv 3) (da_cons (de_call o__law_pick hr0 hE (by exact rfl) T.m__law_pick T.F__law_pick.kp (b__law_pick T) (dvs := []) (dds := []) .nil (fun _ _ _ => rfl) (da_cons (dv 0) (da_cons (de_lst false (da_cons de_int (da_cons de_int (da_cons de_non (da_cons de_str da_nil))))) da_nil))) (da_cons (dv 5) (da_cons (dv 6) da_nil))))))) dss_nil)
    (dss_cons (ds_if (dt_cmp (od_eq (u64 hr)) (dv 7) de_int rfl) (dss_one (ds_ret (de_tup (da_cons (dv 3) (da_cons (dv 4) (da_cons (de_call o__law_pick hr0 hE (by exact rfl) T.m__law_pick T.F__law_pick.kp (b__law_pick T) (dvs := []) (dds := []) .nil (fun _ _ _ => rfl) (da_cons (dv 0) (da_cons (de_lst false (da_cons (de_tup da_nil) (da_cons de_non (da_cons de_int (da_cons de_str (da_cons (de_op (od_add (m := false)) (dv 5) (de_sl false (dv 5) do_none (do_some de_int))) (da_cons (de_op (od_add (m := false)) (dv 5) (de_T cd_tuple (by exact rfl) T.z_tuple (by decide +kernel) (da_cons (de_lc false rfl nd__law_bent_isle (di_seq de_str) (own := [(("letter" : Str), 10)]) (show BlkOk N__law_bent_isle (defScope s__law_bent_isle) _ _ from blkOk_by (by decide +kernel)) (fun s H C cl fp => (dg_name nd__law_bent_isle rfl (.inl rfl))) (fun s H C cl fp => dts_nil) (fun s H C cl fp => (de_tup (da_cons (de_op (od_add (m := false)) de_str (dv 10)) (da_cons de_int (da_cons de_bl da_nil)))))) da_nil))) da_nil))))))) da_nil))) (da_cons (dv 6) da_nil))))))) dss_nil)
    (dss_cons (ds_if (dt_cmp (od_eq (u64 hr)) (dv 7) de_int rfl) (dss_one (ds_setIx (de_ix (dv 8) (dv 2) (fun _ _ => rfl)) de_int (de_call o__law_pick hr0 hE (by exact rfl) T.m__law_pick T.F__law_pick.kp (b__law_pick T) (dvs := []) (dds := []) .nil (fun _ _ _ => rfl) (da_cons (dv 0) (da_cons (de_lst false (da_cons de_str (da_cons de_str (da_cons de_str (da_cons de_str (da_cons de_int (da_cons de_non (da_cons de_str da_nil)))))))) da_nil))))) dss_nil)
    (dss_cons (ds_if (dt_cmp (od_eq (u64 hr)) (dv 7) de_int rfl) (dss_one (ds_setIx (de_ix (dv 8) (dv 2) (fun _ _ => rfl)) de_int (de_call o__law_pick hr0 hE (by exact rfl) T.m__law_pick T.F__law_pick.kp (b__law_pick T) (dvs := []) (dds := []) .nil (fun _ _ _ => rfl) (da_cons (dv 0) (da_cons (de_lst false (da_cons de_int (da_cons (de_un ud_neg de_int) (da_cons de_bl (da_cons de_non (da_cons de_str (da_cons de_int (da_cons (de_un ud_neg de_int) da_nil)))))))) da_nil))))) dss_nil)
    (dss_cons (ds_if (dt_cmp (od_eq (u64 hr)) (dv 7) de_int rfl) (dss_one (ds_setIx (de_ix (dv 8) (dv 2) (fun _ _ => rfl)) de_int (de_call o__law_pick hr0 hE (by exact rfl) T.m__law_pick T.F__law_pick.kp (b__law_pick T) (dvs := []) (dds := []) .nil (fun _ _ _ => rfl) (da_cons (dv 0) (da_cons (de_lst false (da_cons de_int (da_cons de_int (da_cons de_non (da_cons de_str da_nil))))) da_nil))))) dss_nil)
    (dss_cons (ds_if (dt_cmp (od_eq (u64 hr)) (dv 7) de_int rfl) (dss_one (ds_setIx (dv 8) (dv 2) (de_call o__law_pick hr0 hE (by exact rfl) T.m__law_pick T.F__law_pick.kp (b__law_pick T) (dvs := []) (dds := []) .nil (fun _ _ _ => rfl) (da_cons (dv 0) (da_cons (de_lst false (da_cons de_non (da_cons (de_tup da_nil) (da_cons (de_sl false (de_ix (dv 8) (dv 2) (fun _ _ => rfl)) do_none (do_some de_int)) (da_cons (de_op (od_add (m := false)) (de_ix (dv 8) (dv 2) (fun _ _ => rfl)) (de_lst false (da_cons de_int da_nil))) (da_cons de_str da_nil)))))) da_nil))))) dss_nil)
    (dss_cons (ds_if (dt_cmp (od_eq (u64 hr)) (dv 7) de_int rfl) (dss_one (ds_ret (de_call o__law_pick hr0 hE (by exact rfl) T.m__law_pick T.F__law_pick.kp (b__law_pick T) (dvs := []) (dds := []) .nil (fun _ _ _ => rfl) (da_cons (dv 0) (da_cons (de_lst false (da_cons de_non (da_cons (de_tup da_nil) (da_cons (de_sl false (dv 1) do_none (do_some de_int)) (da_cons (de_op (od_add (m := false)) (dv 1) (de_tup (da_cons de_int da_nil))) (da_cons de_str (da_cons (de_tup (da_cons (dv 3) (da_cons (dv 4) (da_cons (dv 5) (da_cons de_non da_nil))))) (da_cons (de_tup (da_cons (dv 3) (da_cons (dv 4) (da_cons (dv 5) (da_cons de_int da_nil))))) da_nil)))))))) da_nil))))) dss_nil)
    (dss_one (ds_ret (de_tup (da_cons (dv 3) (da_cons (dv 4) (da_cons (dv 8) (da_cons (dv 6) da_nil))))))))))))))))))end
end K01
namespace K01
open PySem PySem.Spec PyProof.Rows L2 Dl LamX NdefX
section
variable {P : Program} {w : World} {K : PySem.W.Frag} {mg : Str → Option Value} {base : Heap} {a : Ad}
theorem der_law (T : Txt P K mg a) (TB : TabB base mg a.tabC a.tabP) {k : Nat} {Φ__law_pen : Phi} (o__law_pen : FnD P w K mg base k a.f__law_pen a.d__law_pen [("script" : Str)] Φ__law_pen) {Φ__law_wide : Phi} (o__law_wide : FnD P w K mg base k a.f__law_wide a.d__law_wide [("pen" : Str), ("many" : Str), ("top" : Str)] Φ__law_wide) {Φ_Yard_init : Phi} (o_Yard_init : FnD P w K mg base k a.f_Yard_init a.d_Yard_init [("self" : Str), ("isles" : Str), ("bars" : Str), ("wishes" : Str)] Φ_Yard_init) {Φ_Yard_eq : Phi} (o_Yard_eq : FnD P w K mg base k a.f_Yard_eq a.d_Yard_eq [("self" : Str), ("other" : Str)] Φ_Yard_eq) {Φ__law_listed : Phi} (o__law_listed : FnD P w K mg base k a.f__law_listed a.d__law_listed [("value" : Str)] Φ__law_listed) {Φ__law_draw : Phi} (o__law_draw : FnD P w K mg base k a.f__law_draw a.d__law_draw [("pen" : Str), ("many" : Str)] Φ__law_draw) {Φ__law_bent_isle : Phi} (o__law_bent_isle : FnD P w K mg base k a.f__law_bent_isle a.d__law_bent_isle [("pen" : Str), ("isle" : Str)] Φ__law_bent_isle) {Φ__law_pick : Phi} (o__law_pick : FnD P w K mg base k a.f__law_pick a.d__law_pick [("pen" : Str), ("some" : Str)] Φ__law_pick) {Φ__law_is_plain_isle : Phi} (o__law_is_plain_isle : FnDG P w K mg base k a.f__law_is_plain_isle a.d__law_is_plain_isle [("value" : Str)] Φ__law_is_plain_isle) {Φ__law_tuples : Phi} (o__law_tuples : FnD P w K mg base k a.f__law_tuples a.d__law_tuples [("value" : Str)] Φ__law_tuples) (kb_Yard_init_law : Txt P K mg a → KwB K a.d_Yard_init ["self", "isles", "bars", "wishes"] ["wishes", "bars", "isles"] 1 [2, 1, 0]) (A : Around) (s : Shared) (H : Hp) (B : Fam) (hr3 : Room (k + 3) (defX P w K mg base N_law "law" s_law a.f_law (.ref a.tabC) A [] s H (fun _ _ _ => False)).A) (hG : (defX P w K mg base N_law "law" s_law a.f_law (.ref a.tabC) A [] s H (fun _ _ _ => False)).A.guards = some []) :
    DSs (defX P w K mg base N_law "law" s_law a.f_law (.ref a.tabC) A [] s H (fun _ _ _ => False)) B (defBody s_law) (t_law K a Φ__law_pen Φ__law_wide Φ_Yard_init Φ_Yard_eq Φ__law_listed Φ__law_draw Φ__law_bent_isle Φ__law_pick Φ__law_is_plain_isle Φ__law_tuples (fun _ _ _ => False)) := by
  have hP : PassesOwn (model (defX P w K mg base N_law "law" s_law a.f_law (.ref a.tabC) A [] s H (fun _ _ _ => False)).prog (defX P w K mg base N_law "law" s_law a.f_law (.ref a.tabC) A [] s H (fun _ _ _ => False)).w) (defX P w K mg base N_law "law" s_law a.f_law (.ref a.tabC) A [] s H (fun _ _ _ => False)).A (defX P w K mg base N_law "law" s_law a.f_law (.ref a.tabC) A [] s H (fun _ _ _ => False)).env (defX P w K mg base N_law "law" s_law a.f_law (.ref a.tabC) A [] s H (fun _ _ _ => False)).xe := passes_of rfl
  have hE : RaisesD (defX P w K mg base N_law "law" s_law a.f_law (.ref a.tabC) A [] s H (fun _ _ _ => False)) B (fun C fs _ S => (fun _ _ _ => False : EX) C fs S) := raises_none
  have hr := hr3.mono (show k + 1 ≤ k + 3 by omega)
  have hr0 := hr.mono (Nat.le_succ k)
  unfold t_law
  exact (dss_cons (ds_set nd_law rfl (.inl rfl) (de_call o__law_pen hr0 hE (by exact rfl) T.m__law_pen T.F__law_pen.kp (b__law_pen T) (dvs := []) (dds := []) .nil (fun _ _ _ => rfl) (da_cons (dv 0) da_nil)) rfl)
    (dss_cons (ds_for (vs := [2]) hP rfl (di_rng1 (by exact rfl) T.z_range (da_cons de_int da_nil)) (dg_name nd_law rfl (.inl rfl))
    (dss_cons (ds_set nd_law rfl (.inl rfl) (de_call o__law_wide hr0 hE (by exact rfl) T.m__law_wide T.F__law_wide.kp (b__law_wide T) (dvs := []) (dds := []) .nil (fun _ _ _ => rfl) (da_cons (dv 1) (da_cons de_int (da_cons de_int da_nil)))) rfl)
    (dss_cons (ds_setLc false rfl nd_law rfl rfl rfl (di_seq (de_ix (dv 4) de_int (fun _ _ => rfl))) (own := [(("isle" : Str), 15)]) (show BlkOk N_law (defScope s_law) _ _ from blkOk_by (by decide +kernel)) (fun s H C cl fp => (dg_name nd_law rfl (.inl rfl))) (fun s H C cl fp => dts_nil) (fun s H C cl fp => (de_tup (da_cons (de_ix (dv 15) de_int (fun _ _ => rfl)) (da_cons (de_ix (dv 15) de_int (fun _ _ => rfl)) (da_cons (de_ix (dv 15) de_int (fun _ _ => rfl)) (da_cons (de_tup da_nil) da_nil)))))))
    (dss_cons (ds_set nd_law rfl (.inl rfl) (de_make T.Mk_Yard o_Yard_init hr hE (by exact rfl) T.m_Yard (bd2_Yard_init T).choose_spec.2 (dds := [(.tup []), (.tup [])]) (bd2_Yard_init T).choose_spec.1 (ed2_Yard_init T) (da_cons (dv 5) da_nil)) rfl)
    (dss_cons (ds_if (dt_cmp (od_ne (u64 hr)) (de_B (cd_repr hG (u128 hr)) (by exact rfl) T.z_repr (by decide +kernel) (da_cons (de_lst false (da_cons (de_attr T.cls_Yard T.na_Yard_isles (dv 6)) (da_cons (de_attr T.cls_Yard T.na_Yard_bars (dv 6)) (da_cons (de_attr T.cls_Yard T.na_Yard_wishes (dv 6)) (da_cons (de_attr T.cls_Yard T.na_Yard_names (dv 6)) da_nil))))) da_nil)) (de_B (cd_repr hG (u128 hr)) (by exact rfl) T.z_repr (by decide +kernel) (da_cons (de_lst false (da_cons (de_T cd_tuple (by exact rfl) T.z_tuple (by decide +kernel) (da_cons (dv 5) da_nil)) (da_cons (de_tup da_nil) (da_cons (de_tup da_nil) (da_cons (de_T cd_tuple (by exact rfl) T.z_tuple (by decide +kernel) (da_cons (de_lc false rfl nd_law (di_seq (dv 5)) (own := [(("isle" : Str), 15)]) (show BlkOk N_law (defScope s_law) _ _ from blkOk_by (by decide +kernel)) (fun s H C cl fp => (dg_name nd_law rfl (.inl rfl))) (fun s H C cl fp => dts_nil) (fun s H C cl fp => (de_ix (dv 15) de_int (fun _ _ => rfl)))) da_nil)) da_nil))))) da_nil)) rfl) (dss_one (ds_ret de_bl)) dss_nil)
    (dss_cons (ds_if (dt_w (dw_or (dt_cmp (od_ownNe T.ct o_Yard_eq rfl hr (b_Yard_eq T) (T.own_Yard_ne) T.fn_Yard_eq) (dv 6) (de_makeK T.Mk_Yard o_Yard_init hr hE (by exact rfl) T.m_Yard (kb_Yard_init_law T) (dk_cons (de_lst false da_nil) (dk_cons (de_lst false da_nil) (dk_cons (de_call o__law_listed hr0 hE (by exact rfl) T.m__law_listed T.F__law_listed.kp (b__law_listed T) (dvs := []) (dds := []) .nil (fun _ _ _ => rfl) (da_cons (dv 5) da_nil)) dk_nil)))) rfl) (dw_or (dt_cmp (od_ownEq T.ct o_Yard_eq rfl hr0 (b_Yard_eq T) (T.own_Yard_eq) T.fn_Yard_eq) (dv 6) (dv 5) rfl) (dw_or1 (dt_cmp (od_ownEq T.ct o_Yard_eq rfl hr0 (b_Yard_eq T) (T.own_Yard_eq) T.fn_Yard_eq) (dv 6) (de_make T.Mk_Yard o_Yard_init hr hE (by exact rfl) T.m_Yard (bd2_Yard_init T).choose_spec.2 (dds := [(.tup []), (.tup [])]) (bd2_Yard_init T).choose_spec.1 (ed2_Yard_init T) (da_cons (de_lst false (da_cons (de_tup (da_cons de_str (da_cons de_bl (da_cons (de_lst false (da_cons (de_tup (da_cons de_str (da_cons de_int (da_cons de_bl da_nil)))) da_nil)) (da_cons (de_lst false da_nil) da_nil))))) da_nil)) da_nil)) rfl))))) (dss_one (ds_ret de_bl)) dss_nil)
    (dss_cons (ds_set nd_law rfl (.inl rfl) (de_call o__law_draw hr0 hE (by exact rfl) T.m__law_draw T.F__law_draw.kp (b__law_draw T) (dvs := []) (dds := []) .nil (fun _ _ _ => rfl) (da_cons (dv 1) (da_cons (de_B cd_len (by exact rfl) T.z_len (by decide +kernel) (da_cons (dv 5) da_nil)) da_nil))) rfl)
    (dss_cons (ds_set nd_law rfl (.inr rfl) (de_op (od_add (m := false)) (de_op (od_add (m := false)) (de_sl false (dv 5) do_none (do_some (dv 7))) (de_lst false (da_cons (de_call o__law_bent_isle hr0 hE (by exact rfl) T.m__law_bent_isle T.F__law_bent_isle.kp (b__law_bent_isle T) (dvs := []) (dds := []) .nil (fun _ _ _ => rfl) (da_cons (dv 1) (da_cons (de_ix (dv 5) (dv 7) (fun _ _ => rfl)) da_nil))) da_nil))) (de_sl false (dv 5) (do_some (de_op (od_add (m := false)) (dv 7) de_int)) do_none)) rfl)
    (dss_cons (ds_set nd_law rfl (.inr rfl) (de_call o__law_pick hr0 hE (by exact rfl) T.m__law_pick T.F__law_pick.kp (b__law_pick T) (dvs := []) (dds := []) .nil (fun _ _ _ => rfl) (da_cons (dv 1) (da_cons (de_lst false (da_cons (dv 8) (da_cons (de_T cd_tuple (by exact rfl) T.z_tuple (by decide +kernel) (da_cons (dv 8) da_nil)) (da_cons (de_op (od_add (m := false)) (dv 8) (de_sl false (dv 8) do_none (do_some de_int))) (da_cons (de_if (dt_val (de_callG o__law_is_plain_isle hG hr0 hE (by exact rfl) T.m__law_is_plain_isle T.F__law_is_plain_isle.kp (b__law_is_plain_isle T) (da_cons (de_ix (dv 8) (dv 7) (fun _ _ => rfl)) da_nil))) (de_call o__law_listed hr0 hE (by exact rfl) T.m__law_listed T.F__law_listed.kp (b__law_listed T) (dvs := []) (dds := []) .nil (fun _ _ _ => rfl) (da_cons (dv 8) da_nil)) (dv 8)) da_nil))))) da_nil))) rfl)
    (dss_cons (ds_setLc false rfl nd_law rfl rfl rfl (di_seq (dv 8)) (own := [(("isle" : Str), 15)]) (show BlkOk N_law (defScope s_law) _ _ from blkOk_by (by decide +kernel)) (fun s H C cl fp => (dg_name nd_law rfl (.inl rfl))) (fun s H C cl fp => (dts_one (dt_val (de_callG o__law_is_plain_isle (show (Cx.blk _ _ _ _ _ _).A.guards = some [] from hG) (show Room k (Cx.blk _ s H _ _ fp).A from hr0) raises_none (by exact rfl) T.m__law_is_plain_isle T.F__law_is_plain_isle.kp (b__law_is_plain_isle T) (da_cons (dv 15) da_nil))))) (fun s H C cl fp => (de_ix (dv 15) de_int (fun _ _ => rfl))))
    (dss_cons (ds_set nd_law rfl (.inl rfl) (de_and (de_cmp (od_eq (u64 hr)) (de_B cd_len (by exact rfl) T.z_len (by decide +kernel) (da_cons (dv 9) da_nil)) (de_B cd_len (by exact rfl) T.z_len (by decide +kernel) (da_cons (dv 8) da_nil)) rfl) (de_and (de_cmp (od_eq (u64 hr)) (de_lenSet (by exact rfl) T.z_len (by exact rfl) T.z_set (dv 9) rfl) (de_B cd_len (by exact rfl) T.z_len (by decide +kernel) (da_cons (dv 9) da_nil)) rfl) (de_one (de_cmp od_le (de_B cd_len (by exact rfl) T.z_len (by decide +kernel) (da_cons (dv 8) da_nil)) de_int rfl)))) rfl)
    (dss_cons (ds_set nd_law rfl (.inl rfl) (de_lam T.F__law_heard sc__law_heard (b__law_heard T) rfl (.inl rfl) (by exact rfl) T.m__law_heard TB rfl hr3 (show LamS (defScope s_law) _ from lamS_by (by decide +kernel)) rfl (fun _ _ _ _ _ => rfl) hE (der__law_heard T) (fun A outer s H E f c' B PE hr hE => (fun hr0 => (de_make T.Mk_Yard o_Yard_init hr hE (by exact rfl) T.m_Yard (bd2_Yard_init T).choose_spec.2 (dds := [(.tup []), (.tup [])]) (bd2_Yard_init T).choose_spec.1 (ed2_Yard_init T) (da_cons (dv 8) da_nil))) (hr.mono (Nat.le_succ k)))) rfl)
    (dss_one (ds_if (dt_w (dw_or (dt_cmp (od_ne (u64 hr)) (de_B (cd_isi T.ct) (by exact rfl) T.z_isinstance (by decide +kernel) (da_cons (dv 11) (da_cons (de_ty (by exact rfl) T.z_list (by decide +kernel)) da_nil))) (dv 10) rfl) (dw_or (dt_w (dw_and (dt_not (dt_val (dv 10))) (dw_and1 (dt_cmp (od_ne (u64 hr)) (dv 11) (de_tup (da_cons de_str (da_cons de_str da_nil))) rfl)))) (dw_or1 (dt_w (dw_and (dt_val (dv 10)) (dw_and1 (dt_cmp (od_ne (u64 hr)) (de_attr T.cls_Yard T.na_Yard_isles (de_ix (dv 11) de_int (fun _ _ => rfl))) (de_call o__law_tuples hr0 hE (by exact rfl) T.m__law_tuples T.F__law_tuples.kp (b__law_tuples T) (dvs := []) (dds := []) .nil (fun _ _ _ => rfl) (da_cons (dv 8) da_nil)) rfl)))))))) (dss_one (ds_ret de_bl)) dss_nil))))))))))))))
    (dss_cons (ds_setLc false rfl nd_law rfl rfl rfl (di_seq de_str) (own := [(("letter" : Str), 14)]) (show BlkOk N_law (defScope s_law) _ _ from blkOk_by (by decide +kernel)) (fun s H C cl fp => (dg_name nd_law rfl (.inl rfl))) (fun s H C cl fp => dts_nil) (fun s H C cl fp => (de_tup (da_cons (de_op (od_add (m := false)) de_str (dv 14)) (da_cons de_bl (da_cons (de_lst false (da_cons (de_tup (da_cons de_str (da_cons de_int (da_cons de_bl da_nil)))) da_nil)) (da_cons (de_lst false da_nil) da_nil)))))))
    (dss_cons (ds_asg (vs := [12, 13]) (de_tup (da_cons (de_call o__law_pick hr0 hE (by exact rfl) T.m__law_pick T.F__law_pick.kp (b__law_pick T) (dvs := []) (dds := []) .nil (fun _ _ _ => rfl) (da_cons (dv 1) (da_cons (de_lst false (da_cons de_non (da_cons de_int (da_cons de_str (da_cons de_dic0 (da_cons (de_lst false da_nil) (da_cons (de_tup da_nil) (da_cons (dv 3) da_nil)))))))) da_nil))) (da_cons (de_call o__law_pick hr0 hE (by exact rfl) T.m__law_pick T.F__law_pick.kp (b__law_pick T) (dvs := []) (dds := []) .nil (fun _ _ _ => rfl) (da_cons (dv 1) (da_cons (de_lst false (da_cons de_non (da_cons de_int (da_cons (de_lst false (da_cons de_non da_nil)) da_nil)))) da_nil))) da_nil))) (dg_tup rfl (dgs_cons (dg_name nd_law rfl (.inr rfl)) (dgs_cons (dg_name nd_law rfl (.inr rfl)) dgs_nil))))
    (dss_one (ds_ret (de_and (de_cmp (od_eq (u64 hr)) (de_lam T.F__law_heard sc__law_heard (b__law_heard T) rfl (.inl rfl) (by exact rfl) T.m__law_heard TB rfl hr3 (show LamS (defScope s_law) _ from lamS_by (by decide +kernel)) rfl (fun _ _ _ _ _ => rfl) hE (der__law_heard T) (fun A outer s H E f c' B PE hr hE => (fun hr0 => (de_make T.Mk_Yard o_Yard_init hr hE (by exact rfl) T.m_Yard (b_Yard_init T) (dvs := []) (dds := []) .nil (fun _ _ _ => rfl) (da_cons (dv 12) (da_cons (dv 13) (da_cons (dv 13) da_nil))))) (hr.mono (Nat.le_succ k)))) (de_tup (da_cons de_str (da_cons de_str da_nil))) rfl) (de_one (de_cmp (od_eq (u64 hr)) (de_B cd_len (by exact rfl) T.z_len (by decide +kernel) (da_cons (de_attr T.cls_Yard T.na_Yard_isles (de_make T.Mk_Yard o_Yard_init hr hE (by exact rfl) T.m_Yard (bd2_Yard_init T).choose_spec.2 (dds := [(.tup []), (.tup [])]) (bd2_Yard_init T).choose_spec.1 (ed2_Yard_init T) (da_cons (de_sl false (dv 3) do_none (do_some de_int)) da_nil))) da_nil)) de_int rfl)))))))))end
end K01
namespace K01
open PySem PySem.Spec PyProof.Rows L2 Dl LamX NdefX
abbrev Pr : Program := PySem.Challenge.pw_neverflat_k01_isles_that_are_let
section
variable {P : Program} {w : World} {K : PySem.W.Frag} {mg : Str → Option Value} {base : Heap} {a : Ad}
theorem exc_BadYard (T : Txt P K mg a) {k : Nat} (hk : 1 ≤ k) : ExcD P w K mg base k a.c_BadYard a.f_BadYard_init a.d_BadYard_init [("part" : Str)] :=
  ⟨T.S_BadYard.oex, T.i_BadYard, T.t_BadYard, FnOk.mono (sup_fn1 (k := 0) T.S_BadYard (nscope_by (by decide +kernel)) rfl rfl rfl T.n_BadYard_part (by decide +kernel) (by decide +kernel) (fun _ => rfl) (fun _ => rfl) (fun _ => rfl) (fun _ => rfl)) hk⟩
theorem fnD_no {k : Nat} {f : Addr} {fd : FuncData} {ps : List Str} : FnD P w K mg base k f fd ps no := fnD_false fun _ _ _ _ h => h
theorem ok_is_listed (T : Txt P K mg a) : FnD P w K mg base 2 a.f_is_listed a.d_is_listed [("value" : Str)] (Φt lisE) :=
  T.F_is_listed.okC (k := 1) sc_is_listed (fun cdv A outer s H E B PE hr hE => der_is_listed T (k := 0)  cdv A outer s H E B PE hr hE) (fun ds S P PE hl h => vc_is_listed ds S P PE hl h)
theorem ok_is_integer (T : Txt P K mg a) : FnD P w K mg base 2 a.f_is_integer a.d_is_integer [("value" : Str)] (Φt intEb) :=
  T.F_is_integer.okC (k := 1) sc_is_integer (fun cdv A outer s H E B PE hr hE => der_is_integer T (k := 0)  cdv A outer s H E B PE hr hE) (fun ds S P PE hl h => vc_is_integer ds S P PE hl h)
theorem ok_is_within (T : Txt P K mg a) : FnD P w K mg base 4 a.f_is_within a.d_is_within [("value" : Str), ("least" : Str), ("most" : Str)] (Φt2 withinE) :=
  T.F_is_within.okC (k := 3) sc_is_within (fun cdv A outer s H E B PE hr hE => der_is_within T (k := 2) (FnOk.mono (ok_is_integer T) (by decide : 2 ≤ 2)) cdv A outer s H E B PE hr hE) (fun ds S P PE hl h => vc_is_within ds S P PE hl h)
theorem ok_is_row (T : Txt P K mg a) : FnD P w K mg base 4 a.f_is_row a.d_is_row [("value" : Str), ("least" : Str), ("most" : Str)] (Φt2 rowE) :=
  T.F_is_row.okC (k := 3) sc_is_row (fun cdv A outer s H E B PE hr hE => der_is_row T (k := 2) (FnOk.mono (ok_is_listed T) (by decide : 2 ≤ 2)) cdv A outer s H E B PE hr hE) (fun ds S P PE hl h => vc_is_row ds S P PE hl h)
theorem ok_fixed (T : Txt P K mg a) : ∀ n : Nat, FnD P w K mg base (2 * n + 2) a.f_fixed a.d_fixed [("value" : Str)] (Φr fixT n)
  | 0 => fnD_false fun _ _ _ _ ⟨_, _, _, _, _, h, _⟩ => h
  | n + 1 => T.F_fixed.okC (k := 2 * n + 3) sc_fixed (fun cdv A outer s H E B PE hr hE => der_fixed T (k := 2 * n + 2) (FnOk.mono (ok_is_listed T) (by omega : 2 ≤ 2 * n + 2)) (ok_fixed T n) cdv A outer s H E B PE hr hE) (fun ds S P PE hl h => vc_fixed n ds S P PE hl h)
theorem ok_are_unlike (T : Txt P K mg a) : FnD P w K mg base 2 a.f_are_unlike a.d_are_unlike [("some" : Str)] (Φunlike) :=
  T.F_are_unlike.okC (k := 1) sc_are_unlike (fun cdv A outer s H E B PE hr hE => der_are_unlike T (k := 0)  cdv A outer s H E B PE hr hE) (fun ds S P PE hl h => vc_are_unlike ds S P PE hl h)
theorem ok_is_name (T : Txt P K mg a) : FnD P w K mg base 2 a.f_is_name a.d_is_name [("value" : Str)] (Φtw isNameE) :=
  T.F_is_name.okC (k := 1) sc_is_name (fun cdv A outer s H E B PE hr hE => der_is_name T (k := 0)  cdv A outer s H E B PE hr hE) (fun ds S P PE hl h => vc_is_name ds S P PE hl h)
theorem ok_is_mode (T : Txt P K mg a) : FnD P w K mg base 6 a.f_is_mode a.d_is_mode [("value" : Str)] (Φtw modeE) :=
  T.F_is_mode.okC (k := 5) sc_is_mode (fun cdv A outer s H E B PE hr hE => der_is_mode T (k := 4) (FnOk.mono (ok_is_row T) (by decide : 4 ≤ 4)) (FnOk.mono (ok_is_name T) (by decide : 2 ≤ 4)) (FnOk.mono (ok_is_within T) (by decide : 4 ≤ 4)) cdv A outer s H E B PE hr hE) (fun ds S P PE hl h => vc_is_mode ds S P PE hl h)
theorem ok_is_isle (T : Txt P K mg a) : FnD P w K mg base 8 a.f_is_isle a.d_is_isle [("value" : Str)] (Φtw isleE) :=
  T.F_is_isle.okC (k := 7) sc_is_isle (fun cdv A outer s H E B PE hr hE => der_is_isle T (k := 6) (FnOk.mono (ok_is_row T) (by decide : 4 ≤ 6)) (FnOk.mono (ok_is_name T) (by decide : 2 ≤ 6)) (FnOk.mono (ok_is_mode T) (by decide : 6 ≤ 6)) (FnOk.mono (ok_are_unlike T) (by decide : 2 ≤ 6)) cdv A outer s H E B PE hr hE) (fun ds S P PE hl h => vc_is_isle ds S P PE hl h)
theorem ok_are_moves (T : Txt P K mg a) : FnD P w K mg base 6 a.f_are_moves a.d_are_moves [("value" : Str), ("own" : Str), ("modes" : Str)] (Φmv0) :=
  T.F_are_moves.okC (k := 5) sc_are_moves (fun cdv A outer s H E B PE hr hE => der_are_moves T (k := 4) (FnOk.mono (ok_is_row T) (by decide : 4 ≤ 4)) (fnD_no (f := a.f_is_move) (fd := a.d_is_move)) (FnOk.mono (ok_are_unlike T) (by decide : 2 ≤ 4)) cdv A outer s H E B PE hr hE) (fun ds S P PE hl h => vc_are_moves0 ds S P PE hl h)
theorem ok_modes_of (T : Txt P K mg a) : FnD P w K mg base 2 a.f_modes_of a.d_modes_of [("isles" : Str)] (Φmodes) :=
  T.F_modes_of.okC (k := 1) sc_modes_of (fun cdv A outer s H E B PE hr hE => der_modes_of T (k := 0)  cdv A outer s H E B PE hr hE) (fun ds S P PE hl h => vc_modes_of ds S P PE hl h)
theorem ok_are_isles (T : Txt P K mg a) : FnD P w K mg base 10 a.f_are_isles a.d_are_isles [("value" : Str)] (Φisles) :=
  T.F_are_isles.okC (k := 9) sc_are_isles (fun cdv A outer s H E B PE hr hE => der_are_isles T (k := 8) (FnOk.mono (ok_is_row T) (by decide : 4 ≤ 8)) (FnOk.mono (ok_is_isle T) (by decide : 8 ≤ 8)) (FnOk.mono (ok_are_unlike T) (by decide : 2 ≤ 8)) (FnOk.mono (ok_modes_of T) (by decide : 2 ≤ 8)) (FnOk.mono (ok_are_moves T) (by decide : 6 ≤ 8)) cdv A outer s H E B PE hr hE) (fun ds S P PE hl h => vc_are_isles ds S P PE hl h)
theorem ok_Yard_eq (CF : ClF K a) (T : Txt P K mg a) : FnD P w K mg base 2 a.f_Yard_eq a.d_Yard_eq [("self" : Str), ("other" : Str)] (Φyeq a) :=
  T.F_Yard_eq.okC (k := 1) sc_Yard_eq (fun cdv A outer s H E B PE hr hE => der_Yard_eq T (k := 0)  cdv A outer s H E B PE hr hE) (fun ds S P PE hl h => vc_Yard_eq CF ds S P PE hl h)
theorem ok_Yard_init (T : Txt P K mg a) : FnD P w K mg base 20 a.f_Yard_init a.d_Yard_init [("self" : Str), ("isles" : Str), ("bars" : Str), ("wishes" : Str)] (Φyard a) :=
  T.F_Yard_init.okC (k := 19) sc_Yard_init (fun cdv A outer s H E B PE hr hE => der_Yard_init T (k := 18) (FnOk.mono (ok_are_isles T) (by decide : 10 ≤ 18)) (exc_BadYard T (by decide)) (FnOk.mono (ok_modes_of T) (by decide : 2 ≤ 18)) (FnOk.mono (ok_is_row T) (by decide : 4 ≤ 18)) (fnD_no (f := a.f_are_pairs) (fd := a.d_are_pairs)) (FnOk.mono (ok_fixed T 8) (by decide : 18 ≤ 18)) cdv A outer s H E B PE hr hE) (fun ds S P PE hl h => vc_Yard_init ds S P PE hl h)
theorem ok__law_pen (T : Txt P K mg a) : FnD P w K mg base 2 a.f__law_pen a.d__law_pen [("script" : Str)] (Φpen) :=
  T.F__law_pen.okC (k := 1) sc__law_pen (fun cdv A outer s H E B PE hr hE => der__law_pen T (k := 0)  cdv A outer s H E B PE hr hE) (fun ds S P PE hl h => vc__law_pen ds S P PE hl h)
theorem ok__law_draw (T : Txt P K mg a) : FnD P w K mg base 2 a.f__law_draw a.d__law_draw [("pen" : Str), ("many" : Str)] (Φdraw) :=
  T.F__law_draw.okC (k := 1) sc__law_draw (fun cdv A outer s H E B PE hr hE => der__law_draw T (k := 0)  cdv A outer s H E B PE hr hE) (fun ds S P PE hl h => vc__law_draw ds S P PE hl h)
theorem ok__law_pick (T : Txt P K mg a) : FnD P w K mg base 4 a.f__law_pick a.d__law_pick [("pen" : Str), ("some" : Str)] (Φpick) :=
  T.F__law_pick.okC (k := 3) sc__law_pick (fun cdv A outer s H E B PE hr hE => der__law_pick T (k := 2) (FnOk.mono (ok__law_draw T) (by decide : 2 ≤ 2)) cdv A outer s H E B PE hr hE) (fun ds S P PE hl h => vc__law_pick ds S P PE hl h)
theorem ok__law_mixed (T : Txt P K mg a) : FnD P w K mg base 4 a.f__law_mixed a.d__law_mixed [("pen" : Str), ("some" : Str)] (Φmixed) :=
  T.F__law_mixed.okC (k := 3) sc__law_mixed (fun cdv A outer s H E B PE hr hE => der__law_mixed T (k := 2) (FnOk.mono (ok__law_draw T) (by decide : 2 ≤ 2)) cdv A outer s H E B PE hr hE) (fun ds S P PE hl h => vc__law_mixed ds S P PE hl h)
theorem ok__law_listed (T : Txt P K mg a) : ∀ n : Nat, FnD P w K mg base (2 * n + 2) a.f__law_listed a.d__law_listed [("value" : Str)] (Φr lstT n)
  | 0 => fnD_false fun _ _ _ _ ⟨_, _, _, _, _, h, _⟩ => h
  | n + 1 => T.F__law_listed.okC (k := 2 * n + 3) sc__law_listed (fun cdv A outer s H E B PE hr hE => der__law_listed T (k := 2 * n + 2)  (ok__law_listed T n) cdv A outer s H E B PE hr hE) (fun ds S P PE hl h => vc__law_listed n ds S P PE hl h)
theorem ok__law_tuples (T : Txt P K mg a) : ∀ n : Nat, FnD P w K mg base (2 * n + 2) a.f__law_tuples a.d__law_tuples [("value" : Str)] (Φr fixT n)
  | 0 => fnD_false fun _ _ _ _ ⟨_, _, _, _, _, h, _⟩ => h
  | n + 1 => T.F__law_tuples.okC (k := 2 * n + 3) sc__law_tuples (fun cdv A outer s H E B PE hr hE => der__law_tuples T (k := 2 * n + 2)  (ok__law_tuples T n) cdv A outer s H E B PE hr hE) (fun ds S P PE hl h => vc__law_tuples n ds S P PE hl h)
theorem ok__law_wants (T : Txt P K mg a) : FnD P w K mg base 6 a.f__law_wants a.d__law_wants [("pen" : Str), ("own" : Str), ("known" : Str)] (Φwants) :=
  T.F__law_wants.okC (k := 5) sc__law_wants (fun cdv A outer s H E B PE hr hE => der__law_wants T (k := 4) (FnOk.mono (ok__law_mixed T) (by decide : 4 ≤ 4)) (FnOk.mono (ok__law_pick T) (by decide : 4 ≤ 4)) cdv A outer s H E B PE hr hE) (fun ds S P PE hl h => vc__law_wants ds S P PE hl h)
theorem ok__law_wide (T : Txt P K mg a) : FnD P w K mg base 8 a.f__law_wide a.d__law_wide [("pen" : Str), ("many" : Str), ("top" : Str)] (Φwide) :=
  T.F__law_wide.okC (k := 7) sc__law_wide (fun cdv A outer s H E B PE hr hE => der__law_wide T (k := 6) (FnOk.mono (ok__law_mixed T) (by decide : 4 ≤ 6)) (FnOk.mono (ok__law_draw T) (by decide : 2 ≤ 6)) (FnOk.mono (ok__law_pick T) (by decide : 4 ≤ 6)) (FnOk.mono (ok__law_wants T) (by decide : 6 ≤ 6)) cdv A outer s H E B PE hr hE) (fun ds S P PE hl h => vc__law_wide ds S P PE hl h)
theorem ok__law_is_title (T : Txt P K mg a) : FnD P w K mg base 2 a.f__law_is_title a.d__law_is_title [("word" : Str)] (Φtw isNameE) :=
  T.F__law_is_title.okC (k := 1) sc__law_is_title (fun cdv A outer s H E B PE hr hE => der__law_is_title T (k := 0)  cdv A outer s H E B PE hr hE) (fun ds S P PE hl h => vc__law_is_title ds S P PE hl h)
theorem ok__law_is_plain_isle (T : Txt P K mg a) : FnDG P w K mg base 4 a.f__law_is_plain_isle a.d__law_is_plain_isle [("value" : Str)] (Φplain) :=
  T.F__law_is_plain_isle.okG (k := 3) sc__law_is_plain_isle (fun cdv A outer s H E B PE hr hG hE => der__law_is_plain_isle T (k := 2) (FnOk.mono (ok__law_is_title T) (by decide : 2 ≤ 2)) cdv A outer s H E B PE hr hG hE) (fun ds S P PE hl h => vc__law_is_plain_isle ds S P PE hl h)
theorem ok__law_bent_isle (T : Txt P K mg a) : FnD P w K mg base 6 a.f__law_bent_isle a.d__law_bent_isle [("pen" : Str), ("isle" : Str)] (Φbent) :=
  T.F__law_bent_isle.okC (k := 5) sc__law_bent_isle (fun cdv A outer s H E B PE hr hE => der__law_bent_isle T (k := 4) (FnOk.mono (ok__law_draw T) (by decide : 2 ≤ 4)) (FnOk.mono (ok__law_pick T) (by decide : 4 ≤ 4)) cdv A outer s H E B PE hr hE) (fun ds S P PE hl h => vc__law_bent_isle ds S P PE hl h)
theorem kb_yard (T : Txt P K mg a) : KwB K a.d_Yard_init ["self", "isles", "bars", "wishes"] ["wishes", "bars", "isles"] 1 [2, 1, 0] := by
  obtain ⟨oc, od, dV, kV, doc, pm, an, cdv, ct, osl, e, _, _, hD, _⟩ := T.F_Yard_init.ex
  rw [e]
  intro s us ws X h1 h2
  rcases hD with ⟨e0, _⟩ | ⟨_, T, o, its, m, rfl, lT, oT, rT⟩
  · cases e0
  have h3 : its.length = 2 := rT.length.symm
  match us, ws, its, h1, h2, h3 with
  | [u], [v1, v2, v3], [i1, i2], _, _, _ =>
    obtain ⟨k, e1, e2⟩ : ∃ k, bindArgs (PySem.W.fnOf "__init__" "Yard.__init__" (defArgs s_Yard_init) (defBody s_Yard_init) (defScope s_Yard_init) (.ref T) kV doc pm an cdv ct) ⟨[u], (["wishes", "bars", "isles"] : List Str).zip [v1, v2, v3]⟩ = seqItems? (.ref T) >>= k ∧ k (some [i1, i2].toArray) = pure ((["self", "isles", "bars", "wishes"] : List Str).zip ([u] ++ arr [2, 1, 0] [v1, v2, v3])) := ⟨_, rfl, rfl⟩
    refine BindsTo.of_looks fun M => ?_
    rw [e1]
    exact looks_items X lT oT (.of_pure e2)
def ΦL (t : Addr) : D → Sto → (D → Sto → Prop) → Prop := fun d S P => ∃ ns, d = .scr ns ∧ S t = some (.tab lamQ) ∧ ∀ S', P (.bl true) S'
theorem ok_law (T : Txt P K mg a) (CF : ClF K a) (NF : NfF K a) (TB : TabB base mg a.tabC a.tabP) {oc : Value} {od an : Option Addr} {kV doc pm ct : Value} {osl : Array (Option Value)}
    (lk : K.lookup a.f_law = some ⟨oc, od, .func (PySem.W.fnOf "law" "law" (defArgs s_law) (defBody s_law) (defScope s_law) .none kV doc pm an (.ref a.tabC) ct), osl⟩) (hcd : PySem.W.codeIn K (.ref a.tabC) "law" = true) :
    TopOk P w K mg base 24 a.f_law (PySem.W.fnOf "law" "law" (defArgs s_law) (defBody s_law) (defScope s_law) .none kV doc pm an (.ref a.tabC) ct) "script" (ΦL a.tabP) :=
  topC (k := 23) lk hcd sc_law (fun A s H B hr hG => der_law T TB (k := 20) (FnOk.mono (ok__law_pen T) (by decide : 2 ≤ 20)) (FnOk.mono (ok__law_wide T) (by decide : 8 ≤ 20)) (FnOk.mono (ok_Yard_init T) (by decide : 20 ≤ 20)) (FnOk.mono (ok_Yard_eq CF T) (by decide : 2 ≤ 20)) (FnOk.mono (ok__law_listed T 8) (by decide : 18 ≤ 20)) (FnOk.mono (ok__law_draw T) (by decide : 2 ≤ 20)) (FnOk.mono (ok__law_bent_isle T) (by decide : 6 ≤ 20)) (FnOk.mono (ok__law_pick T) (by decide : 4 ≤ 20)) (FnDG.mono (ok__law_is_plain_isle T) (by decide : 4 ≤ 20)) (FnOk.mono (ok__law_tuples T 8) (by decide : 18 ≤ 20)) kb_yard A s H B hr hG) (fun d S P h => vc_law CF NF d S P h)
end
theorem all01 {w : World} {K : PySem.W.Frag} {h : Heap} {mg : Str → Option Value} {fa : Addr} (X : K.In h) (G : h.Ns mainGlobals mg) (hfa : mg "law" = some (.ref fa))
    {c_FlatError c_BadYard c_BadValue c_BadNumber c_BadPaper c_Misfit c_Nothing c_NoName c_BadText c_BadLine c_TooMany c_Yard : Addr}
    {f_is_integer f_is_within tp_is_within f_is_listed f_is_row tp_is_row f_fixed f_are_unlike f_is_name f_is_mode f_is_isle f_are_pairs : Addr}
    {f_is_move f_are_moves f_modes_of f_are_isles f_Yard_init tp_Yard_init f_Yard_eq f__law_pen f__law_draw f__law_pick f__law_mixed f__law_heard : Addr}
    {f__law_listed f__law_tuples f__law_wants f__law_wide f__law_is_title f__law_is_plain_isle f__law_bent_isle f_law cd_law f_BadYard_init cc_BadYard cd_BadYard : Addr}
    {exN_BadYard k_WORDS e_tup0 e_tup1 tabP : Addr}
    {oc_is_integer kV_is_integer dc_is_integer pm_is_integer ct_is_integer cd_is_integer oc_is_within kV_is_within dc_is_within pm_is_within ct_is_within cd_is_within : Value}
    {tc_is_within oc_is_listed kV_is_listed dc_is_listed pm_is_listed ct_is_listed cd_is_listed oc_is_row kV_is_row dc_is_row pm_is_row ct_is_row : Value}
    {cd_is_row tc_is_row oc_fixed kV_fixed dc_fixed pm_fixed ct_fixed cd_fixed oc_are_unlike kV_are_unlike dc_are_unlike pm_are_unlike : Value}
    {ct_are_unlike cd_are_unlike oc_is_name kV_is_name dc_is_name pm_is_name ct_is_name cd_is_name oc_is_mode kV_is_mode dc_is_mode pm_is_mode : Value}
    {ct_is_mode cd_is_mode oc_is_isle kV_is_isle dc_is_isle pm_is_isle ct_is_isle cd_is_isle oc_are_pairs kV_are_pairs dc_are_pairs pm_are_pairs : Value}
    {ct_are_pairs cd_are_pairs oc_is_move kV_is_move dc_is_move pm_is_move ct_is_move cd_is_move oc_are_moves kV_are_moves dc_are_moves pm_are_moves : Value}
    {ct_are_moves cd_are_moves oc_modes_of kV_modes_of dc_modes_of pm_modes_of ct_modes_of cd_modes_of oc_are_isles kV_are_isles dc_are_isles pm_are_isles : Value}
    {ct_are_isles cd_are_isles oc_Yard_init kV_Yard_init dc_Yard_init pm_Yard_init ct_Yard_init cd_Yard_init tc_Yard_init oc_Yard_eq kV_Yard_eq dc_Yard_eq : Value}
    {pm_Yard_eq ct_Yard_eq cd_Yard_eq oc__law_pen kV__law_pen dc__law_pen pm__law_pen ct__law_pen cd__law_pen oc__law_draw kV__law_draw dc__law_draw : Value}
    {pm__law_draw ct__law_draw cd__law_draw oc__law_pick kV__law_pick dc__law_pick pm__law_pick ct__law_pick cd__law_pick oc__law_mixed kV__law_mixed dc__law_mixed : Value}
    {pm__law_mixed ct__law_mixed cd__law_mixed oc__law_heard kV__law_heard dc__law_heard pm__law_heard ct__law_heard cd__law_heard oc__law_listed kV__law_listed dc__law_listed : Value}
    {pm__law_listed ct__law_listed cd__law_listed oc__law_tuples kV__law_tuples dc__law_tuples pm__law_tuples ct__law_tuples cd__law_tuples oc__law_wants kV__law_wants dc__law_wants : Value}
    {pm__law_wants ct__law_wants cd__law_wants oc__law_wide kV__law_wide dc__law_wide pm__law_wide ct__law_wide cd__law_wide oc__law_is_title kV__law_is_title dc__law_is_title : Value}
    {pm__law_is_title ct__law_is_title cd__law_is_title oc__law_is_plain_isle kV__law_is_plain_isle dc__law_is_plain_isle pm__law_is_plain_isle ct__law_is_plain_isle cd__law_is_plain_isle oc__law_bent_isle kV__law_bent_isle dc__law_bent_isle : Value}
    {pm__law_bent_isle ct__law_bent_isle cd__law_bent_isle oc_law kV_law dc_law pm_law ct_law oc_BadYard kV_BadYard dc_BadYard pm_BadYard : Value}
    {ct_BadYard ccl_BadYard cl_BadYard : Value}
    {od_is_integer an_is_integer od_is_within an_is_within to_is_within od_is_listed an_is_listed od_is_row an_is_row to_is_row od_fixed an_fixed : Option Addr}
    {od_are_unlike an_are_unlike od_is_name an_is_name od_is_mode an_is_mode od_is_isle an_is_isle od_are_pairs an_are_pairs od_is_move an_is_move : Option Addr}
    {od_are_moves an_are_moves od_modes_of an_modes_of od_are_isles an_are_isles od_Yard_init an_Yard_init to_Yard_init od_Yard_eq an_Yard_eq od__law_pen : Option Addr}
    {an__law_pen od__law_draw an__law_draw od__law_pick an__law_pick od__law_mixed an__law_mixed od__law_heard an__law_heard od__law_listed an__law_listed od__law_tuples : Option Addr}
    {an__law_tuples od__law_wants an__law_wants od__law_wide an__law_wide od__law_is_title an__law_is_title od__law_is_plain_isle an__law_is_plain_isle od__law_bent_isle an__law_bent_isle od_law : Option Addr}
    {an_law od_BadYard an_BadYard cdd_BadYard cld_BadYard xdd_BadYard ko_WORDS eo_tup0 eo_tup1 : Option Addr}
    {sl_is_integer sl_is_within ts_is_within sl_is_listed sl_is_row ts_is_row sl_fixed sl_are_unlike sl_is_name sl_is_mode sl_is_isle sl_are_pairs : Array (Option Value)}
    {sl_is_move sl_are_moves sl_modes_of sl_are_isles sl_Yard_init ts_Yard_init sl_Yard_eq sl__law_pen sl__law_draw sl__law_pick sl__law_mixed sl__law_heard : Array (Option Value)}
    {sl__law_listed sl__law_tuples sl__law_wants sl__law_wide sl__law_is_title sl__law_is_plain_isle sl__law_bent_isle sl_law sl_BadYard ccs_BadYard csl_BadYard ks_WORDS : Array (Option Value)}
    {es_tup0 es_tup1 : Array (Option Value)}
    {tn_is_within tn_is_row tn_Yard_init kn_WORDS en_tup0 en_tup1 : Nat}
    {nm_BadYard qq_BadYard file_BadYard : Str}
    {bs_BadYard bm_BadYard sub_BadYard : List Value}
    {sn_BadYard : List Str}
    {ab_BadYard : Bool}
    {col_BadYard : Option Bool}
    {k0_BadYard k1_BadYard k2_BadYard k3_BadYard k5_BadYard : Option Value}
    {vs_BadYard : Array Value}
    {tf_BadYard : Tok}
    {tk_LETTERS : Tok}
    {kt0_WORDS kt1_WORDS kt2_WORDS kt3_WORDS kt4_WORDS kt5_WORDS kt6_WORDS : Tok}
    {tk_MOST_LETTERS : Tok}
    {tk_MOST_ISLES : Tok}
    {tk_MOST_MODES : Tok}
    {tk_MOST_MOVES : Tok}
    {tk_MOST_BARS : Tok}
    {tk_MOST_WISHES : Tok}
    {tk_MOST_FIGURE : Tok}
    (m_FlatError : PySem.W.nsIn K mainGlobals "FlatError" = some (some (.ref c_FlatError)))
    (m_BadYard : PySem.W.nsIn K mainGlobals "BadYard" = some (some (.ref c_BadYard)))
    (m_BadValue : PySem.W.nsIn K mainGlobals "BadValue" = some (some (.ref c_BadValue)))
    (m_BadNumber : PySem.W.nsIn K mainGlobals "BadNumber" = some (some (.ref c_BadNumber)))
    (m_BadPaper : PySem.W.nsIn K mainGlobals "BadPaper" = some (some (.ref c_BadPaper)))
    (m_Misfit : PySem.W.nsIn K mainGlobals "Misfit" = some (some (.ref c_Misfit)))
    (m_Nothing : PySem.W.nsIn K mainGlobals "Nothing" = some (some (.ref c_Nothing)))
    (m_NoName : PySem.W.nsIn K mainGlobals "NoName" = some (some (.ref c_NoName)))
    (m_BadText : PySem.W.nsIn K mainGlobals "BadText" = some (some (.ref c_BadText)))
    (m_BadLine : PySem.W.nsIn K mainGlobals "BadLine" = some (some (.ref c_BadLine)))
    (m_TooMany : PySem.W.nsIn K mainGlobals "TooMany" = some (some (.ref c_TooMany)))
    (m_Yard : PySem.W.nsIn K mainGlobals "Yard" = some (some (.ref c_Yard)))
    (m_is_integer : PySem.W.nsIn K mainGlobals "is_integer" = some (some (.ref f_is_integer)))
    (l_is_integer : K.lookup f_is_integer = some ⟨oc_is_integer, od_is_integer, .func (PySem.W.fnOf "is_integer" "is_integer" (defArgs s_is_integer) (defBody s_is_integer) (defScope s_is_integer) .none kV_is_integer dc_is_integer pm_is_integer an_is_integer cd_is_integer ct_is_integer), sl_is_integer⟩)
    (k_is_integer : PySem.W.codeIn K cd_is_integer "is_integer" = true)
    (kp_is_integer : PySem.W.keepIn K (.ref f_is_integer) = true)
    (m_is_within : PySem.W.nsIn K mainGlobals "is_within" = some (some (.ref f_is_within)))
    (l_is_within : K.lookup f_is_within = some ⟨oc_is_within, od_is_within, .func (PySem.W.fnOf "is_within" "is_within" (defArgs s_is_within) (defBody s_is_within) (defScope s_is_within) (.ref tp_is_within) kV_is_within dc_is_within pm_is_within an_is_within cd_is_within ct_is_within), sl_is_within⟩)
    (k_is_within : PySem.W.codeIn K cd_is_within "is_within" = true)
    (kp_is_within : PySem.W.keepIn K (.ref f_is_within) = true)
    (t_is_within : K.lookup tp_is_within = some ⟨tc_is_within, to_is_within, .seq #[.none] tn_is_within, ts_is_within⟩)
    (m_is_listed : PySem.W.nsIn K mainGlobals "is_listed" = some (some (.ref f_is_listed)))
    (l_is_listed : K.lookup f_is_listed = some ⟨oc_is_listed, od_is_listed, .func (PySem.W.fnOf "is_listed" "is_listed" (defArgs s_is_listed) (defBody s_is_listed) (defScope s_is_listed) .none kV_is_listed dc_is_listed pm_is_listed an_is_listed cd_is_listed ct_is_listed), sl_is_listed⟩)
    (k_is_listed : PySem.W.codeIn K cd_is_listed "is_listed" = true)
    (kp_is_listed : PySem.W.keepIn K (.ref f_is_listed) = true)
    (m_is_row : PySem.W.nsIn K mainGlobals "is_row" = some (some (.ref f_is_row)))
    (l_is_row : K.lookup f_is_row = some ⟨oc_is_row, od_is_row, .func (PySem.W.fnOf "is_row" "is_row" (defArgs s_is_row) (defBody s_is_row) (defScope s_is_row) (.ref tp_is_row) kV_is_row dc_is_row pm_is_row an_is_row cd_is_row ct_is_row), sl_is_row⟩)
    (k_is_row : PySem.W.codeIn K cd_is_row "is_row" = true)
    (kp_is_row : PySem.W.keepIn K (.ref f_is_row) = true)
    (t_is_row : K.lookup tp_is_row = some ⟨tc_is_row, to_is_row, .seq #[.none] tn_is_row, ts_is_row⟩)
    (m_fixed : PySem.W.nsIn K mainGlobals "fixed" = some (some (.ref f_fixed)))
    (l_fixed : K.lookup f_fixed = some ⟨oc_fixed, od_fixed, .func (PySem.W.fnOf "fixed" "fixed" (defArgs s_fixed) (defBody s_fixed) (defScope s_fixed) .none kV_fixed dc_fixed pm_fixed an_fixed cd_fixed ct_fixed), sl_fixed⟩)
    (k_fixed : PySem.W.codeIn K cd_fixed "fixed" = true)
    (kp_fixed : PySem.W.keepIn K (.ref f_fixed) = true)
    (m_are_unlike : PySem.W.nsIn K mainGlobals "are_unlike" = some (some (.ref f_are_unlike)))
    (l_are_unlike : K.lookup f_are_unlike = some ⟨oc_are_unlike, od_are_unlike, .func (PySem.W.fnOf "are_unlike" "are_unlike" (defArgs s_are_unlike) (defBody s_are_unlike) (defScope s_are_unlike) .none kV_are_unlike dc_are_unlike pm_are_unlike an_are_unlike cd_are_unlike ct_are_unlike), sl_are_unlike⟩)
    (k_are_unlike : PySem.W.codeIn K cd_are_unlike "are_unlike" = true)
    (kp_are_unlike : PySem.W.keepIn K (.ref f_are_unlike) = true)
    (m_is_name : PySem.W.nsIn K mainGlobals "is_name" = some (some (.ref f_is_name)))
    (l_is_name : K.lookup f_is_name = some ⟨oc_is_name, od_is_name, .func (PySem.W.fnOf "is_name" "is_name" (defArgs s_is_name) (defBody s_is_name) (defScope s_is_name) .none kV_is_name dc_is_name pm_is_name an_is_name cd_is_name ct_is_name), sl_is_name⟩)
    (k_is_name : PySem.W.codeIn K cd_is_name "is_name" = true)
    (kp_is_name : PySem.W.keepIn K (.ref f_is_name) = true)
    (m_is_mode : PySem.W.nsIn K mainGlobals "is_mode" = some (some (.ref f_is_mode)))
    (l_is_mode : K.lookup f_is_mode = some ⟨oc_is_mode, od_is_mode, .func (PySem.W.fnOf "is_mode" "is_mode" (defArgs s_is_mode) (defBody s_is_mode) (defScope s_is_mode) .none kV_is_mode dc_is_mode pm_is_mode an_is_mode cd_is_mode ct_is_mode), sl_is_mode⟩)
    (k_is_mode : PySem.W.codeIn K cd_is_mode "is_mode" = true)
    (kp_is_mode : PySem.W.keepIn K (.ref f_is_mode) = true)
    (m_is_isle : PySem.W.nsIn K mainGlobals "is_isle" = some (some (.ref f_is_isle)))
    (l_is_isle : K.lookup f_is_isle = some ⟨oc_is_isle, od_is_isle, .func (PySem.W.fnOf "is_isle" "is_isle" (defArgs s_is_isle) (defBody s_is_isle) (defScope s_is_isle) .none kV_is_isle dc_is_isle pm_is_isle an_is_isle cd_is_isle ct_is_isle), sl_is_isle⟩)
    (k_is_isle : PySem.W.codeIn K cd_is_isle "is_isle" = true)
    (kp_is_isle : PySem.W.keepIn K (.ref f_is_isle) = true)
    (m_are_pairs : PySem.W.nsIn K mainGlobals "are_pairs" = some (some (.ref f_are_pairs)))
    (l_are_pairs : K.lookup f_are_pairs = some ⟨oc_are_pairs, od_are_pairs, .func (PySem.W.fnOf "are_pairs" "are_pairs" (defArgs s_are_pairs) (defBody s_are_pairs) (defScope s_are_pairs) .none kV_are_pairs dc_are_pairs pm_are_pairs an_are_pairs cd_are_pairs ct_are_pairs), sl_are_pairs⟩)
    (k_are_pairs : PySem.W.codeIn K cd_are_pairs "are_pairs" = true)
    (kp_are_pairs : PySem.W.keepIn K (.ref f_are_pairs) = true)
    (m_is_move : PySem.W.nsIn K mainGlobals "is_move" = some (some (.ref f_is_move)))
    (l_is_move : K.lookup f_is_move = some ⟨oc_is_move, od_is_move, .func (PySem.W.fnOf "is_move" "is_move" (defArgs s_is_move) (defBody s_is_move) (defScope s_is_move) .none kV_is_move dc_is_move pm_is_move an_is_move cd_is_move ct_is_move), sl_is_move⟩)
    (k_is_move : PySem.W.codeIn K cd_is_move "is_move" = true)
    (kp_is_move : PySem.W.keepIn K (.ref f_is_move) = true)
    (m_are_moves : PySem.W.nsIn K mainGlobals "are_moves" = some (some (.ref f_are_moves)))
    (l_are_moves : K.lookup f_are_moves = some ⟨oc_are_moves, od_are_moves, .func (PySem.W.fnOf "are_moves" "are_moves" (defArgs s_are_moves) (defBody s_are_moves) (defScope s_are_moves) .none kV_are_moves dc_are_moves pm_are_moves an_are_moves cd_are_moves ct_are_moves), sl_are_moves⟩)
    (k_are_moves : PySem.W.codeIn K cd_are_moves "are_moves" = true)
    (kp_are_moves : PySem.W.keepIn K (.ref f_are_moves) = true)
    (m_modes_of : PySem.W.nsIn K mainGlobals "modes_of" = some (some (.ref f_modes_of)))
    (l_modes_of : K.lookup f_modes_of = some ⟨oc_modes_of, od_modes_of, .func (PySem.W.fnOf "modes_of" "modes_of" (defArgs s_modes_of) (defBody s_modes_of) (defScope s_modes_of) .none kV_modes_of dc_modes_of pm_modes_of an_modes_of cd_modes_of ct_modes_of), sl_modes_of⟩)
    (k_modes_of : PySem.W.codeIn K cd_modes_of "modes_of" = true)
    (kp_modes_of : PySem.W.keepIn K (.ref f_modes_of) = true)
    (m_are_isles : PySem.W.nsIn K mainGlobals "are_isles" = some (some (.ref f_are_isles)))
    (l_are_isles : K.lookup f_are_isles = some ⟨oc_are_isles, od_are_isles, .func (PySem.W.fnOf "are_isles" "are_isles" (defArgs s_are_isles) (defBody s_are_isles) (defScope s_are_isles) .none kV_are_isles dc_are_isles pm_are_isles an_are_isles cd_are_isles ct_are_isles), sl_are_isles⟩)
    (k_are_isles : PySem.W.codeIn K cd_are_isles "are_isles" = true)
    (kp_are_isles : PySem.W.keepIn K (.ref f_are_isles) = true)
    (m_Yard_init : PySem.W.findIn K (.ref c_Yard) "__init__" = some (some (.ref f_Yard_init)))
    (l_Yard_init : K.lookup f_Yard_init = some ⟨oc_Yard_init, od_Yard_init, .func (PySem.W.fnOf "__init__" "Yard.__init__" (defArgs s_Yard_init) (defBody s_Yard_init) (defScope s_Yard_init) (.ref tp_Yard_init) kV_Yard_init dc_Yard_init pm_Yard_init an_Yard_init cd_Yard_init ct_Yard_init), sl_Yard_init⟩)
    (k_Yard_init : PySem.W.codeIn K cd_Yard_init "Yard.__init__" = true)
    (kp_Yard_init : PySem.W.keepIn K (.ref f_Yard_init) = true)
    (t_Yard_init : K.lookup tp_Yard_init = some ⟨tc_Yard_init, to_Yard_init, .seq #[.ref e_tup0, .ref e_tup1] tn_Yard_init, ts_Yard_init⟩)
    (m_Yard_eq : PySem.W.findIn K (.ref c_Yard) "__eq__" = some (some (.ref f_Yard_eq)))
    (l_Yard_eq : K.lookup f_Yard_eq = some ⟨oc_Yard_eq, od_Yard_eq, .func (PySem.W.fnOf "__eq__" "Yard.__eq__" (defArgs s_Yard_eq) (defBody s_Yard_eq) (defScope s_Yard_eq) .none kV_Yard_eq dc_Yard_eq pm_Yard_eq an_Yard_eq cd_Yard_eq ct_Yard_eq), sl_Yard_eq⟩)
    (k_Yard_eq : PySem.W.codeIn K cd_Yard_eq "Yard.__eq__" = true)
    (kp_Yard_eq : PySem.W.keepIn K (.ref f_Yard_eq) = true)
    (m__law_pen : PySem.W.nsIn K mainGlobals "_law_pen" = some (some (.ref f__law_pen)))
    (l__law_pen : K.lookup f__law_pen = some ⟨oc__law_pen, od__law_pen, .func (PySem.W.fnOf "_law_pen" "_law_pen" (defArgs s__law_pen) (defBody s__law_pen) (defScope s__law_pen) .none kV__law_pen dc__law_pen pm__law_pen an__law_pen cd__law_pen ct__law_pen), sl__law_pen⟩)
    (k__law_pen : PySem.W.codeIn K cd__law_pen "_law_pen" = true)
    (kp__law_pen : PySem.W.keepIn K (.ref f__law_pen) = true)
    (m__law_draw : PySem.W.nsIn K mainGlobals "_law_draw" = some (some (.ref f__law_draw)))
    (l__law_draw : K.lookup f__law_draw = some ⟨oc__law_draw, od__law_draw, .func (PySem.W.fnOf "_law_draw" "_law_draw" (defArgs s__law_draw) (defBody s__law_draw) (defScope s__law_draw) .none kV__law_draw dc__law_draw pm__law_draw an__law_draw cd__law_draw ct__law_draw), sl__law_draw⟩)
    (k__law_draw : PySem.W.codeIn K cd__law_draw "_law_draw" = true)
    (kp__law_draw : PySem.W.keepIn K (.ref f__law_draw) = true)
    (m__law_pick : PySem.W.nsIn K mainGlobals "_law_pick" = some (some (.ref f__law_pick)))
    (l__law_pick : K.lookup f__law_pick = some ⟨oc__law_pick, od__law_pick, .func (PySem.W.fnOf "_law_pick" "_law_pick" (defArgs s__law_pick) (defBody s__law_pick) (defScope s__law_pick) .none kV__law_pick dc__law_pick pm__law_pick an__law_pick cd__law_pick ct__law_pick), sl__law_pick⟩)
    (k__law_pick : PySem.W.codeIn K cd__law_pick "_law_pick" = true)
    (kp__law_pick : PySem.W.keepIn K (.ref f__law_pick) = true)
    (m__law_mixed : PySem.W.nsIn K mainGlobals "_law_mixed" = some (some (.ref f__law_mixed)))
    (l__law_mixed : K.lookup f__law_mixed = some ⟨oc__law_mixed, od__law_mixed, .func (PySem.W.fnOf "_law_mixed" "_law_mixed" (defArgs s__law_mixed) (defBody s__law_mixed) (defScope s__law_mixed) .none kV__law_mixed dc__law_mixed pm__law_mixed an__law_mixed cd__law_mixed ct__law_mixed), sl__law_mixed⟩)
    (k__law_mixed : PySem.W.codeIn K cd__law_mixed "_law_mixed" = true)
    (kp__law_mixed : PySem.W.keepIn K (.ref f__law_mixed) = true)
    (m__law_heard : PySem.W.nsIn K mainGlobals "_law_heard" = some (some (.ref f__law_heard)))
    (l__law_heard : K.lookup f__law_heard = some ⟨oc__law_heard, od__law_heard, .func (PySem.W.fnOf "_law_heard" "_law_heard" (defArgs s__law_heard) (defBody s__law_heard) (defScope s__law_heard) .none kV__law_heard dc__law_heard pm__law_heard an__law_heard cd__law_heard ct__law_heard), sl__law_heard⟩)
    (k__law_heard : PySem.W.codeIn K cd__law_heard "_law_heard" = true)
    (kp__law_heard : PySem.W.keepIn K (.ref f__law_heard) = true)
    (m__law_listed : PySem.W.nsIn K mainGlobals "_law_listed" = some (some (.ref f__law_listed)))
    (l__law_listed : K.lookup f__law_listed = some ⟨oc__law_listed, od__law_listed, .func (PySem.W.fnOf "_law_listed" "_law_listed" (defArgs s__law_listed) (defBody s__law_listed) (defScope s__law_listed) .none kV__law_listed dc__law_listed pm__law_listed an__law_listed cd__law_listed ct__law_listed), sl__law_listed⟩)
    (k__law_listed : PySem.W.codeIn K cd__law_listed "_law_listed" = true)
    (kp__law_listed : PySem.W.keepIn K (.ref f__law_listed) = true)
    (m__law_tuples : PySem.W.nsIn K mainGlobals "_law_tuples" = some (some (.ref f__law_tuples)))
    (l__law_tuples : K.lookup f__law_tuples = some ⟨oc__law_tuples, od__law_tuples, .func (PySem.W.fnOf "_law_tuples" "_law_tuples" (defArgs s__law_tuples) (defBody s__law_tuples) (defScope s__law_tuples) .none kV__law_tuples dc__law_tuples pm__law_tuples an__law_tuples cd__law_tuples ct__law_tuples), sl__law_tuples⟩)
    (k__law_tuples : PySem.W.codeIn K cd__law_tuples "_law_tuples" = true)
    (kp__law_tuples : PySem.W.keepIn K (.ref f__law_tuples) = true)
    (m__law_wants : PySem.W.nsIn K mainGlobals "_law_wants" = some (some (.ref f__law_wants)))
    (l__law_wants : K.lookup f__law_wants = some ⟨oc__law_wants, od__law_wants, .func (PySem.W.fnOf "_law_wants" "_law_wants" (defArgs s__law_wants) (defBody s__law_wants) (defScope s__law_wants) .none kV__law_wants dc__law_wants pm__law_wants an__law_wants cd__law_wants ct__law_wants), sl__law_wants⟩)
    (k__law_wants : PySem.W.codeIn K cd__law_wants "_law_wants" = true)
    (kp__law_wants : PySem.W.keepIn K (.ref f__law_wants) = true)
    (m__law_wide : PySem.W.nsIn K mainGlobals "_law_wide" = some (some (.ref f__law_wide)))
    (l__law_wide : K.lookup f__law_wide = some ⟨oc__law_wide, od__law_wide, .func (PySem.W.fnOf "_law_wide" "_law_wide" (defArgs s__law_wide) (defBody s__law_wide) (defScope s__law_wide) .none kV__law_wide dc__law_wide pm__law_wide an__law_wide cd__law_wide ct__law_wide), sl__law_wide⟩)
    (k__law_wide : PySem.W.codeIn K cd__law_wide "_law_wide" = true)
    (kp__law_wide : PySem.W.keepIn K (.ref f__law_wide) = true)
    (m__law_is_title : PySem.W.nsIn K mainGlobals "_law_is_title" = some (some (.ref f__law_is_title)))
    (l__law_is_title : K.lookup f__law_is_title = some ⟨oc__law_is_title, od__law_is_title, .func (PySem.W.fnOf "_law_is_title" "_law_is_title" (defArgs s__law_is_title) (defBody s__law_is_title) (defScope s__law_is_title) .none kV__law_is_title dc__law_is_title pm__law_is_title an__law_is_title cd__law_is_title ct__law_is_title), sl__law_is_title⟩)
    (k__law_is_title : PySem.W.codeIn K cd__law_is_title "_law_is_title" = true)
    (kp__law_is_title : PySem.W.keepIn K (.ref f__law_is_title) = true)
    (m__law_is_plain_isle : PySem.W.nsIn K mainGlobals "_law_is_plain_isle" = some (some (.ref f__law_is_plain_isle)))
    (l__law_is_plain_isle : K.lookup f__law_is_plain_isle = some ⟨oc__law_is_plain_isle, od__law_is_plain_isle, .func (PySem.W.fnOf "_law_is_plain_isle" "_law_is_plain_isle" (defArgs s__law_is_plain_isle) (defBody s__law_is_plain_isle) (defScope s__law_is_plain_isle) .none kV__law_is_plain_isle dc__law_is_plain_isle pm__law_is_plain_isle an__law_is_plain_isle cd__law_is_plain_isle ct__law_is_plain_isle), sl__law_is_plain_isle⟩)
    (k__law_is_plain_isle : PySem.W.codeIn K cd__law_is_plain_isle "_law_is_plain_isle" = true)
    (kp__law_is_plain_isle : PySem.W.keepIn K (.ref f__law_is_plain_isle) = true)
    (m__law_bent_isle : PySem.W.nsIn K mainGlobals "_law_bent_isle" = some (some (.ref f__law_bent_isle)))
    (l__law_bent_isle : K.lookup f__law_bent_isle = some ⟨oc__law_bent_isle, od__law_bent_isle, .func (PySem.W.fnOf "_law_bent_isle" "_law_bent_isle" (defArgs s__law_bent_isle) (defBody s__law_bent_isle) (defScope s__law_bent_isle) .none kV__law_bent_isle dc__law_bent_isle pm__law_bent_isle an__law_bent_isle cd__law_bent_isle ct__law_bent_isle), sl__law_bent_isle⟩)
    (k__law_bent_isle : PySem.W.codeIn K cd__law_bent_isle "_law_bent_isle" = true)
    (kp__law_bent_isle : PySem.W.keepIn K (.ref f__law_bent_isle) = true)
    (m_law : PySem.W.nsIn K mainGlobals "law" = some (some (.ref f_law)))
    (l_law : K.lookup f_law = some ⟨oc_law, od_law, .func (PySem.W.fnOf "law" "law" (defArgs s_law) (defBody s_law) (defScope s_law) .none kV_law dc_law pm_law an_law (.ref cd_law) ct_law), sl_law⟩)
    (k_law : PySem.W.codeIn K (.ref cd_law) "law" = true)
    (kp_law : PySem.W.keepIn K (.ref f_law) = true)
    (ga_BadYard : PySem.W.findIn K (.ref c_BadYard) "__getattribute__" = some (some (.builtin "BaseException.__getattribute__")))
    (gg_BadYard : PySem.W.findIn K (.ref c_BadYard) "__getattr__" = some none)
    (ex_BadYard : PySem.W.subIn K (.ref c_BadYard) (.type "BaseException") = some true)
    (hd_BadYard : PySem.W.hasDictIn K c_BadYard = true)
    (n_BadYard_part : PySem.W.findIn K (.ref c_BadYard) "part" = some none)
    (ga_BadValue : PySem.W.findIn K (.ref c_BadValue) "__getattribute__" = some (some (.builtin "BaseException.__getattribute__")))
    (gg_BadValue : PySem.W.findIn K (.ref c_BadValue) "__getattr__" = some none)
    (ex_BadValue : PySem.W.subIn K (.ref c_BadValue) (.type "BaseException") = some true)
    (hd_BadValue : PySem.W.hasDictIn K c_BadValue = true)
    (n_BadValue_part : PySem.W.findIn K (.ref c_BadValue) "part" = some none)
    (ga_BadNumber : PySem.W.findIn K (.ref c_BadNumber) "__getattribute__" = some (some (.builtin "BaseException.__getattribute__")))
    (gg_BadNumber : PySem.W.findIn K (.ref c_BadNumber) "__getattr__" = some none)
    (ex_BadNumber : PySem.W.subIn K (.ref c_BadNumber) (.type "BaseException") = some true)
    (hd_BadNumber : PySem.W.hasDictIn K c_BadNumber = true)
    (n_BadNumber_part : PySem.W.findIn K (.ref c_BadNumber) "part" = some none)
    (ga_BadPaper : PySem.W.findIn K (.ref c_BadPaper) "__getattribute__" = some (some (.builtin "BaseException.__getattribute__")))
    (gg_BadPaper : PySem.W.findIn K (.ref c_BadPaper) "__getattr__" = some none)
    (ex_BadPaper : PySem.W.subIn K (.ref c_BadPaper) (.type "BaseException") = some true)
    (hd_BadPaper : PySem.W.hasDictIn K c_BadPaper = true)
    (n_BadPaper_part : PySem.W.findIn K (.ref c_BadPaper) "part" = some none)
    (ga_Misfit : PySem.W.findIn K (.ref c_Misfit) "__getattribute__" = some (some (.builtin "BaseException.__getattribute__")))
    (gg_Misfit : PySem.W.findIn K (.ref c_Misfit) "__getattr__" = some none)
    (ex_Misfit : PySem.W.subIn K (.ref c_Misfit) (.type "BaseException") = some true)
    (hd_Misfit : PySem.W.hasDictIn K c_Misfit = true)
    (n_Misfit_part : PySem.W.findIn K (.ref c_Misfit) "part" = some none)
    (ga_Nothing : PySem.W.findIn K (.ref c_Nothing) "__getattribute__" = some (some (.builtin "BaseException.__getattribute__")))
    (gg_Nothing : PySem.W.findIn K (.ref c_Nothing) "__getattr__" = some none)
    (ex_Nothing : PySem.W.subIn K (.ref c_Nothing) (.type "BaseException") = some true)
    (hd_Nothing : PySem.W.hasDictIn K c_Nothing = true)
    (n_Nothing_what : PySem.W.findIn K (.ref c_Nothing) "what" = some none)
    (ga_NoName : PySem.W.findIn K (.ref c_NoName) "__getattribute__" = some (some (.builtin "BaseException.__getattribute__")))
    (gg_NoName : PySem.W.findIn K (.ref c_NoName) "__getattr__" = some none)
    (ex_NoName : PySem.W.subIn K (.ref c_NoName) (.type "BaseException") = some true)
    (hd_NoName : PySem.W.hasDictIn K c_NoName = true)
    (n_NoName_name : PySem.W.findIn K (.ref c_NoName) "name" = some none)
    (ga_BadText : PySem.W.findIn K (.ref c_BadText) "__getattribute__" = some (some (.builtin "BaseException.__getattribute__")))
    (gg_BadText : PySem.W.findIn K (.ref c_BadText) "__getattr__" = some none)
    (ex_BadText : PySem.W.subIn K (.ref c_BadText) (.type "BaseException") = some true)
    (hd_BadText : PySem.W.hasDictIn K c_BadText = true)
    (n_BadText_line : PySem.W.findIn K (.ref c_BadText) "line" = some none)
    (n_BadText_word : PySem.W.findIn K (.ref c_BadText) "word" = some none)
    (ga_BadLine : PySem.W.findIn K (.ref c_BadLine) "__getattribute__" = some (some (.builtin "BaseException.__getattribute__")))
    (gg_BadLine : PySem.W.findIn K (.ref c_BadLine) "__getattr__" = some none)
    (ex_BadLine : PySem.W.subIn K (.ref c_BadLine) (.type "BaseException") = some true)
    (hd_BadLine : PySem.W.hasDictIn K c_BadLine = true)
    (n_BadLine_word : PySem.W.findIn K (.ref c_BadLine) "word" = some none)
    (ga_TooMany : PySem.W.findIn K (.ref c_TooMany) "__getattribute__" = some (some (.builtin "BaseException.__getattribute__")))
    (gg_TooMany : PySem.W.findIn K (.ref c_TooMany) "__getattr__" = some none)
    (ex_TooMany : PySem.W.subIn K (.ref c_TooMany) (.type "BaseException") = some true)
    (hd_TooMany : PySem.W.hasDictIn K c_TooMany = true)
    (n_TooMany_what : PySem.W.findIn K (.ref c_TooMany) "what" = some none)
    (n_TooMany_most : PySem.W.findIn K (.ref c_TooMany) "most" = some none)
    (i_BadYard : PySem.W.findIn K (.ref c_BadYard) "__init__" = some (some (.ref f_BadYard_init)))
    (t_BadYard : PySem.W.typeIn K (.ref f_BadYard_init) = some (.type "function"))
    (lc_BadYard : K.lookup c_BadYard = some (excClassObj nm_BadYard qq_BadYard c_BadYard exN_BadYard bs_BadYard bm_BadYard true sn_BadYard sub_BadYard ab_BadYard col_BadYard xdd_BadYard k0_BadYard k1_BadYard k2_BadYard k3_BadYard k5_BadYard "ValueError.__new__"))
    (rv_BadYard : PySem.HandSPX.refsVE bm_BadYard = true)
    (sa_BadYard : PySem.W.findIn K (.ref c_BadYard) "__setattr__" = some (some (.builtin "object.__setattr__")))
    (ty_BadYard : PySem.W.typeIn K (.ref c_BadYard) = some (.type "type"))
    (kc_BadYard : PySem.W.keepIn K (.ref c_BadYard) = true)
    (lf_BadYard : K.lookup f_BadYard_init = some ⟨oc_BadYard, od_BadYard, .func (PySem.W.fnX "__init__" "BadYard.__init__" (defArgs s_BadYard_init) (defBody s_BadYard_init) (defScope s_BadYard_init) [("__class__", cc_BadYard)] .none kV_BadYard dc_BadYard pm_BadYard an_BadYard (.ref cd_BadYard) ct_BadYard), sl_BadYard⟩)
    (co_BadYard : PySem.W.codeIn K (.ref cd_BadYard) "BadYard.__init__" = true)
    (lk_BadYard : K.lookup cd_BadYard = some ⟨ccl_BadYard, cdd_BadYard, .fields vs_BadYard, ccs_BadYard⟩)
    (v2_BadYard : vs_BadYard[2]? = some (.str file_BadYard tf_BadYard))
    (fi_BadYard : ((Pr.main.file : Str) == file_BadYard) = true)
    (cl0_BadYard : K.lookup cc_BadYard = some ⟨cl_BadYard, cld_BadYard, .cell (some (.ref c_BadYard)), csl_BadYard⟩)
    (ci_BadYard : (PySem.W.clsIn K c_BadYard).isSome = true)
    (su_BadYard : PySem.W.mroIn K c_BadYard (.ref c_BadYard) = some true)
    (sp_BadYard : PySem.W.ks_superIn K c_BadYard c_BadYard "__init__" = some (some (.builtin "ValueError.__init__")))
    (ve_BadYard : PySem.W.subIn K (.ref c_BadYard) (.type "ValueError") = some true)
    (mo_BadYard : PySem.W.mroIn K c_BadYard (.type "object") = some true)
    (cq_BadYard : PySem.W.findIn K (.ref c_BadYard) "__class__" = some (some (.builtin "object.__class__")))
    (opq : PySem.W.nsIn K PySem.cStatics "thirdparty.any" = some none)
    (hn : PySem.W.specialIn K (.builtin "object.__class__") "__get__" = some (some (.builtin "getset_descriptor.__get__")))
    (htk : PySem.W.takesIn K (.builtin "object.__class__") = some true)
    (mk_Yard : PySem.W.makesIn K c_Yard = true)
    (fi_Yard : PySem.W.isFn K (.ref f_Yard_init) = true)
    (kc_Yard : PySem.W.keepIn K (.ref c_Yard) = true)
    (pg_Yard : PySem.W.plainGet K c_Yard Str.empty = true)
    (hd_Yard : PySem.W.hasDictIn K c_Yard = true)
    (po_Yard : PySem.W.plainOver K c_Yard = true)
    (sa_Yard : PySem.W.findIn K (.ref c_Yard) "__setattr__" = some (some (.builtin "object.__setattr__")))
    (nl_Yard_isles : PySem.W.findIn K (.ref c_Yard) "isles" = some none)
    (nl_Yard_bars : PySem.W.findIn K (.ref c_Yard) "bars" = some none)
    (nl_Yard_wishes : PySem.W.findIn K (.ref c_Yard) "wishes" = some none)
    (nl_Yard_names : PySem.W.findIn K (.ref c_Yard) "names" = some none)
    (nl_Yard_kept : PySem.W.findIn K (.ref c_Yard) "kept" = some none)
    (ne_Yard : PySem.W.findIn K (.ref c_Yard) "__ne__" = some (some (.builtin "object.__ne__")))
    (mo_Yard : PySem.W.mroIn K c_Yard (.type "object") = some true)
    (fe_Yard : PySem.W.isFn K (.ref f_Yard_eq) = true)
    (cq_Yard : PySem.W.findIn K (.ref c_Yard) "__class__" = some (some (.builtin "object.__class__")))
    (z_list : PySem.W.nsIn K mainGlobals "list" = some none)
    (z_tuple : PySem.W.nsIn K mainGlobals "tuple" = some none)
    (z_dict : PySem.W.nsIn K mainGlobals "dict" = some none)
    (z_int : PySem.W.nsIn K mainGlobals "int" = some none)
    (z_str : PySem.W.nsIn K mainGlobals "str" = some none)
    (z_bool : PySem.W.nsIn K mainGlobals "bool" = some none)
    (z_range : PySem.W.nsIn K mainGlobals "range" = some none)
    (z_enumerate : PySem.W.nsIn K mainGlobals "enumerate" = some none)
    (z_len : PySem.W.nsIn K mainGlobals "len" = some none)
    (z_all : PySem.W.nsIn K mainGlobals "all" = some none)
    (z_abs : PySem.W.nsIn K mainGlobals "abs" = some none)
    (z_isinstance : PySem.W.nsIn K mainGlobals "isinstance" = some none)
    (z_repr : PySem.W.nsIn K mainGlobals "repr" = some none)
    (z_sum : PySem.W.nsIn K mainGlobals "sum" = some none)
    (z_min : PySem.W.nsIn K mainGlobals "min" = some none)
    (z_set : PySem.W.nsIn K mainGlobals "set" = some none)
    (z_super : PySem.W.nsIn K mainGlobals "super" = some none)
    (v_LETTERS : PySem.W.nsIn K mainGlobals "LETTERS" = some (some (.str "abcdefghijklmnopqrstuvwxyz" tk_LETTERS)))
    (v_WORDS : PySem.W.nsIn K mainGlobals "WORDS" = some (some (.ref k_WORDS)))
    (kl_WORDS : K.lookup k_WORDS = some ⟨.type "tuple", ko_WORDS, .seq #[.str "isle" kt0_WORDS, .str "wild" kt1_WORDS, .str "mode" kt2_WORDS, .str "must" kt3_WORDS, .str "move" kt4_WORDS, .str "bar" kt5_WORDS, .str "wish" kt6_WORDS] kn_WORDS, ks_WORDS⟩)
    (v_MOST_LETTERS : PySem.W.nsIn K mainGlobals "MOST_LETTERS" = some (some (.int 8 tk_MOST_LETTERS)))
    (v_MOST_ISLES : PySem.W.nsIn K mainGlobals "MOST_ISLES" = some (some (.int 6 tk_MOST_ISLES)))
    (v_MOST_MODES : PySem.W.nsIn K mainGlobals "MOST_MODES" = some (some (.int 5 tk_MOST_MODES)))
    (v_MOST_MOVES : PySem.W.nsIn K mainGlobals "MOST_MOVES" = some (some (.int 8 tk_MOST_MOVES)))
    (v_MOST_BARS : PySem.W.nsIn K mainGlobals "MOST_BARS" = some (some (.int 4 tk_MOST_BARS)))
    (v_MOST_WISHES : PySem.W.nsIn K mainGlobals "MOST_WISHES" = some (some (.int 3 tk_MOST_WISHES)))
    (v_MOST_FIGURE : PySem.W.nsIn K mainGlobals "MOST_FIGURE" = some (some (.int 1000000 tk_MOST_FIGURE)))
    (el_tup0 : K.lookup e_tup0 = some ⟨.type "tuple", eo_tup0, .seq #[] en_tup0, es_tup0⟩)
    (el_tup1 : K.lookup e_tup1 = some ⟨.type "tuple", eo_tup1, .seq #[] en_tup1, es_tup1⟩)
    (kb_NoneType : PySem.W.kitOne K (.type "NoneType") (.ref c_Yard) = some false)
    (kb_bool : PySem.W.kitOne K (.type "bool") (.ref c_Yard) = some false)
    (kb_int : PySem.W.kitOne K (.type "int") (.ref c_Yard) = some false)
    (kb_str : PySem.W.kitOne K (.type "str") (.ref c_Yard) = some false)
    (kb_tuple : PySem.W.kitOne K (.type "tuple") (.ref c_Yard) = some false)
    (kb_list : PySem.W.kitOne K (.type "list") (.ref c_Yard) = some false)
    (kb_dict : PySem.W.kitOne K (.type "dict") (.ref c_Yard) = some false)
    (cf_flat : PySem.W.exmOne K (.ref c_BadYard) (.ref c_FlatError) = some true)
    (cf_many : PySem.W.kitOne K (.ref c_BadYard) (.ref c_TooMany) = some false)
    (cf_text : PySem.W.kitOne K (.ref c_BadYard) (.ref c_BadText) = some false)
    (cf_line : PySem.W.kitOne K (.ref c_BadYard) (.ref c_BadLine) = some false)
    (cf_nothing : PySem.W.kitOne K (.ref c_BadYard) (.ref c_Nothing) = some false)
    (cf_noname : PySem.W.kitOne K (.ref c_BadYard) (.ref c_NoName) = some false)
    (cf_value : PySem.W.kitOne K (.ref c_BadYard) (.ref c_BadValue) = some false)
    (cf_number : PySem.W.kitOne K (.ref c_BadYard) (.ref c_BadNumber) = some false)
    (cf_paper : PySem.W.kitOne K (.ref c_BadYard) (.ref c_BadPaper) = some false)
    (cf_misfit : PySem.W.kitOne K (.ref c_BadYard) (.ref c_Misfit) = some false)
    (nf_yard : PySem.W.notFirst K c_Yard (.ref c_Yard) = true)
    (nf_lst : PySem.W.notFirst K c_Yard (.type "list") = true)
    : ∃ fd : FuncData, (∀ (s : Shared) (u : Value), BindsTo s fd ⟨[u], []⟩ [("script", u)]) ∧ ∀ base : Heap, K.In base → base.Ns mainGlobals mg → TabB base mg cd_law tabP → TopOk Pr w K mg base 24 fa fd "script" (ΦL tabP) := by
  have e := (PySem.W.mg_of X G m_law).symm.trans hfa
  cases e
  let a : Ad := { c_FlatError := c_FlatError, c_BadYard := c_BadYard, c_BadValue := c_BadValue, c_BadNumber := c_BadNumber, c_BadPaper := c_BadPaper, c_Misfit := c_Misfit, c_Nothing := c_Nothing, c_NoName := c_NoName, c_BadText := c_BadText, c_BadLine := c_BadLine, c_TooMany := c_TooMany, c_Yard := c_Yard, f_is_integer := f_is_integer, d_is_integer := (PySem.W.fnOf "is_integer" "is_integer" (defArgs s_is_integer) (defBody s_is_integer) (defScope s_is_integer) .none kV_is_integer dc_is_integer pm_is_integer an_is_integer cd_is_integer ct_is_integer), f_is_within := f_is_within, d_is_within := (PySem.W.fnOf "is_within" "is_within" (defArgs s_is_within) (defBody s_is_within) (defScope s_is_within) (.ref tp_is_within) kV_is_within dc_is_within pm_is_within an_is_within cd_is_within ct_is_within), f_is_listed := f_is_listed, d_is_listed := (PySem.W.fnOf "is_listed" "is_listed" (defArgs s_is_listed) (defBody s_is_listed) (defScope s_is_listed) .none kV_is_listed dc_is_listed pm_is_listed an_is_listed cd_is_listed ct_is_listed), f_is_row := f_is_row, d_is_row := (PySem.W.fnOf "is_row" "is_row" (defArgs s_is_row) (defBody s_is_row) (defScope s_is_row) (.ref tp_is_row) kV_is_row dc_is_row pm_is_row an_is_row cd_is_row ct_is_row), f_fixed := f_fixed, d_fixed := (PySem.W.fnOf "fixed" "fixed" (defArgs s_fixed) (defBody s_fixed) (defScope s_fixed) .none kV_fixed dc_fixed pm_fixed an_fixed cd_fixed ct_fixed), f_are_unlike := f_are_unlike, d_are_unlike := (PySem.W.fnOf "are_unlike" "are_unlike" (defArgs s_are_unlike) (defBody s_are_unlike) (defScope s_are_unlike) .none kV_are_unlike dc_are_unlike pm_are_unlike an_are_unlike cd_are_unlike ct_are_unlike), f_is_name := f_is_name, d_is_name := (PySem.W.fnOf "is_name" "is_name" (defArgs s_is_name) (defBody s_is_name) (defScope s_is_name) .none kV_is_name dc_is_name pm_is_name an_is_name cd_is_name ct_is_name), f_is_mode := f_is_mode, d_is_mode := (PySem.W.fnOf "is_mode" "is_mode" (defArgs s_is_mode) (defBody s_is_mode) (defScope s_is_mode) .none kV_is_mode dc_is_mode pm_is_mode an_is_mode cd_is_mode ct_is_mode), f_is_isle := f_is_isle, d_is_isle := (PySem.W.fnOf "is_isle" "is_isle" (defArgs s_is_isle) (defBody s_is_isle) (defScope s_is_isle) .none kV_is_isle dc_is_isle pm_is_isle an_is_isle cd_is_isle ct_is_isle), f_are_pairs := f_are_pairs, d_are_pairs := (PySem.W.fnOf "are_pairs" "are_pairs" (defArgs s_are_pairs) (defBody s_are_pairs) (defScope s_are_pairs) .none kV_are_pairs dc_are_pairs pm_are_pairs an_are_pairs cd_are_pairs ct_are_pairs), f_is_move := f_is_move, d_is_move := (PySem.W.fnOf "is_move" "is_move" (defArgs s_is_move) (defBody s_is_move) (defScope s_is_move) .none kV_is_move dc_is_move pm_is_move an_is_move cd_is_move ct_is_move), f_are_moves := f_are_moves, d_are_moves := (PySem.W.fnOf "are_moves" "are_moves" (defArgs s_are_moves) (defBody s_are_moves) (defScope s_are_moves) .none kV_are_moves dc_are_moves pm_are_moves an_are_moves cd_are_moves ct_are_moves), f_modes_of := f_modes_of, d_modes_of := (PySem.W.fnOf "modes_of" "modes_of" (defArgs s_modes_of) (defBody s_modes_of) (defScope s_modes_of) .none kV_modes_of dc_modes_of pm_modes_of an_modes_of cd_modes_of ct_modes_of), f_are_isles := f_are_isles, d_are_isles := (PySem.W.fnOf "are_isles" "are_isles" (defArgs s_are_isles) (defBody s_are_isles) (defScope s_are_isles) .none kV_are_isles dc_are_isles pm_are_isles an_are_isles cd_are_isles ct_are_isles), f_Yard_init := f_Yard_init, d_Yard_init := (PySem.W.fnOf "__init__" "Yard.__init__" (defArgs s_Yard_init) (defBody s_Yard_init) (defScope s_Yard_init) (.ref tp_Yard_init) kV_Yard_init dc_Yard_init pm_Yard_init an_Yard_init cd_Yard_init ct_Yard_init), f_Yard_eq := f_Yard_eq, d_Yard_eq := (PySem.W.fnOf "__eq__" "Yard.__eq__" (defArgs s_Yard_eq) (defBody s_Yard_eq) (defScope s_Yard_eq) .none kV_Yard_eq dc_Yard_eq pm_Yard_eq an_Yard_eq cd_Yard_eq ct_Yard_eq), f__law_pen := f__law_pen, d__law_pen := (PySem.W.fnOf "_law_pen" "_law_pen" (defArgs s__law_pen) (defBody s__law_pen) (defScope s__law_pen) .none kV__law_pen dc__law_pen pm__law_pen an__law_pen cd__law_pen ct__law_pen), f__law_draw := f__law_draw, d__law_draw := (PySem.W.fnOf "_law_draw" "_law_draw" (defArgs s__law_draw) (defBody s__law_draw) (defScope s__law_draw) .none kV__law_draw dc__law_draw pm__law_draw an__law_draw cd__law_draw ct__law_draw), f__law_pick := f__law_pick, d__law_pick := (PySem.W.fnOf "_law_pick" "_law_pick" (defArgs s__law_pick) (defBody s__law_pick) (defScope s__law_pick) .none kV__law_pick dc__law_pick pm__law_pick an__law_pick cd__law_pick ct__law_pick), f__law_mixed := f__law_mixed, d__law_mixed := (PySem.W.fnOf "_law_mixed" "_law_mixed" (defArgs s__law_mixed) (defBody s__law_mixed) (defScope s__law_mixed) .none kV__law_mixed dc__law_mixed pm__law_mixed an__law_mixed cd__law_mixed ct__law_mixed), f__law_heard := f__law_heard, d__law_heard := (PySem.W.fnOf "_law_heard" "_law_heard" (defArgs s__law_heard) (defBody s__law_heard) (defScope s__law_heard) .none kV__law_heard dc__law_heard pm__law_heard an__law_heard cd__law_heard ct__law_heard), f__law_listed := f__law_listed, d__law_listed := (PySem.W.fnOf "_law_listed" "_law_listed" (defArgs s__law_listed) (defBody s__law_listed) (defScope s__law_listed) .none kV__law_listed dc__law_listed pm__law_listed an__law_listed cd__law_listed ct__law_listed), f__law_tuples := f__law_tuples, d__law_tuples := (PySem.W.fnOf "_law_tuples" "_law_tuples" (defArgs s__law_tuples) (defBody s__law_tuples) (defScope s__law_tuples) .none kV__law_tuples dc__law_tuples pm__law_tuples an__law_tuples cd__law_tuples ct__law_tuples), f__law_wants := f__law_wants, d__law_wants := (PySem.W.fnOf "_law_wants" "_law_wants" (defArgs s__law_wants) (defBody s__law_wants) (defScope s__law_wants) .none kV__law_wants dc__law_wants pm__law_wants an__law_wants cd__law_wants ct__law_wants), f__law_wide := f__law_wide, d__law_wide := (PySem.W.fnOf "_law_wide" "_law_wide" (defArgs s__law_wide) (defBody s__law_wide) (defScope s__law_wide) .none kV__law_wide dc__law_wide pm__law_wide an__law_wide cd__law_wide ct__law_wide), f__law_is_title := f__law_is_title, d__law_is_title := (PySem.W.fnOf "_law_is_title" "_law_is_title" (defArgs s__law_is_title) (defBody s__law_is_title) (defScope s__law_is_title) .none kV__law_is_title dc__law_is_title pm__law_is_title an__law_is_title cd__law_is_title ct__law_is_title), f__law_is_plain_isle := f__law_is_plain_isle, d__law_is_plain_isle := (PySem.W.fnOf "_law_is_plain_isle" "_law_is_plain_isle" (defArgs s__law_is_plain_isle) (defBody s__law_is_plain_isle) (defScope s__law_is_plain_isle) .none kV__law_is_plain_isle dc__law_is_plain_isle pm__law_is_plain_isle an__law_is_plain_isle cd__law_is_plain_isle ct__law_is_plain_isle), f__law_bent_isle := f__law_bent_isle, d__law_bent_isle := (PySem.W.fnOf "_law_bent_isle" "_law_bent_isle" (defArgs s__law_bent_isle) (defBody s__law_bent_isle) (defScope s__law_bent_isle) .none kV__law_bent_isle dc__law_bent_isle pm__law_bent_isle an__law_bent_isle cd__law_bent_isle ct__law_bent_isle), f_law := fa, d_law := (PySem.W.fnOf "law" "law" (defArgs s_law) (defBody s_law) (defScope s_law) .none kV_law dc_law pm_law an_law (.ref cd_law) ct_law), f_BadYard_init := f_BadYard_init, cc_BadYard := cc_BadYard, cd_BadYard := cd_BadYard, d_BadYard_init := (PySem.W.fnX "__init__" "BadYard.__init__" (defArgs s_BadYard_init) (defBody s_BadYard_init) (defScope s_BadYard_init) [("__class__", cc_BadYard)] .none kV_BadYard dc_BadYard pm_BadYard an_BadYard (.ref cd_BadYard) ct_BadYard), k_WORDS := k_WORDS, e_tup0 := e_tup0, e_tup1 := e_tup1, e_tup2 := e_tup0, ct := ⟨[c_Yard], [c_BadYard]⟩, tabP := tabP, tabQ := lamQ, tabC := cd_law }
  have T : Txt Pr K mg a := {
    m_FlatError := PySem.W.mg_of X G m_FlatError,
    m_BadYard := PySem.W.mg_of X G m_BadYard,
    m_BadValue := PySem.W.mg_of X G m_BadValue,
    m_BadNumber := PySem.W.mg_of X G m_BadNumber,
    m_BadPaper := PySem.W.mg_of X G m_BadPaper,
    m_Misfit := PySem.W.mg_of X G m_Misfit,
    m_Nothing := PySem.W.mg_of X G m_Nothing,
    m_NoName := PySem.W.mg_of X G m_NoName,
    m_BadText := PySem.W.mg_of X G m_BadText,
    m_BadLine := PySem.W.mg_of X G m_BadLine,
    m_TooMany := PySem.W.mg_of X G m_TooMany,
    m_Yard := PySem.W.mg_of X G m_Yard,
    m_is_integer := PySem.W.mg_of X G m_is_integer,
    F_is_integer := fun_mk (st := s_is_integer) l_is_integer k_is_integer kp_is_integer,
    m_is_within := PySem.W.mg_of X G m_is_within,
    F_is_within := ⟨⟨_, _, _, _, _, _, _, _, _, _, rfl, l_is_within, k_is_within, .inr ⟨by simp, tp_is_within, _, [.none], tn_is_within, rfl, t_is_within, rfl, .cons rfl (.nil)⟩, .inl rfl⟩, kp_is_within⟩,
    m_is_listed := PySem.W.mg_of X G m_is_listed,
    F_is_listed := fun_mk (st := s_is_listed) l_is_listed k_is_listed kp_is_listed,
    m_is_row := PySem.W.mg_of X G m_is_row,
    F_is_row := ⟨⟨_, _, _, _, _, _, _, _, _, _, rfl, l_is_row, k_is_row, .inr ⟨by simp, tp_is_row, _, [.none], tn_is_row, rfl, t_is_row, rfl, .cons rfl (.nil)⟩, .inl rfl⟩, kp_is_row⟩,
    m_fixed := PySem.W.mg_of X G m_fixed,
    F_fixed := fun_mk (st := s_fixed) l_fixed k_fixed kp_fixed,
    m_are_unlike := PySem.W.mg_of X G m_are_unlike,
    F_are_unlike := fun_mk (st := s_are_unlike) l_are_unlike k_are_unlike kp_are_unlike,
    m_is_name := PySem.W.mg_of X G m_is_name,
    F_is_name := fun_mk (st := s_is_name) l_is_name k_is_name kp_is_name,
    m_is_mode := PySem.W.mg_of X G m_is_mode,
    F_is_mode := fun_mk (st := s_is_mode) l_is_mode k_is_mode kp_is_mode,
    m_is_isle := PySem.W.mg_of X G m_is_isle,
    F_is_isle := fun_mk (st := s_is_isle) l_is_isle k_is_isle kp_is_isle,
    m_are_pairs := PySem.W.mg_of X G m_are_pairs,
    F_are_pairs := fun_mk (st := s_are_pairs) l_are_pairs k_are_pairs kp_are_pairs,
    m_is_move := PySem.W.mg_of X G m_is_move,
    F_is_move := fun_mk (st := s_is_move) l_is_move k_is_move kp_is_move,
    m_are_moves := PySem.W.mg_of X G m_are_moves,
    F_are_moves := fun_mk (st := s_are_moves) l_are_moves k_are_moves kp_are_moves,
    m_modes_of := PySem.W.mg_of X G m_modes_of,
    F_modes_of := fun_mk (st := s_modes_of) l_modes_of k_modes_of kp_modes_of,
    m_are_isles := PySem.W.mg_of X G m_are_isles,
    F_are_isles := fun_mk (st := s_are_isles) l_are_isles k_are_isles kp_are_isles,
    F_Yard_init := ⟨⟨_, _, _, _, _, _, _, _, _, _, rfl, l_Yard_init, k_Yard_init, .inr ⟨by simp, tp_Yard_init, _, [.ref e_tup0, .ref e_tup1], tn_Yard_init, rfl, t_Yard_init, rfl, .cons rfl (.cons rfl (.nil))⟩, .inl rfl⟩, kp_Yard_init⟩,
    F_Yard_eq := fun_mk (st := s_Yard_eq) l_Yard_eq k_Yard_eq kp_Yard_eq,
    m__law_pen := PySem.W.mg_of X G m__law_pen,
    F__law_pen := fun_mk (st := s__law_pen) l__law_pen k__law_pen kp__law_pen,
    m__law_draw := PySem.W.mg_of X G m__law_draw,
    F__law_draw := fun_mk (st := s__law_draw) l__law_draw k__law_draw kp__law_draw,
    m__law_pick := PySem.W.mg_of X G m__law_pick,
    F__law_pick := fun_mk (st := s__law_pick) l__law_pick k__law_pick kp__law_pick,
    m__law_mixed := PySem.W.mg_of X G m__law_mixed,
    F__law_mixed := fun_mk (st := s__law_mixed) l__law_mixed k__law_mixed kp__law_mixed,
    m__law_heard := PySem.W.mg_of X G m__law_heard,
    F__law_heard := fun_mk (st := s__law_heard) l__law_heard k__law_heard kp__law_heard,
    m__law_listed := PySem.W.mg_of X G m__law_listed,
    F__law_listed := fun_mk (st := s__law_listed) l__law_listed k__law_listed kp__law_listed,
    m__law_tuples := PySem.W.mg_of X G m__law_tuples,
    F__law_tuples := fun_mk (st := s__law_tuples) l__law_tuples k__law_tuples kp__law_tuples,
    m__law_wants := PySem.W.mg_of X G m__law_wants,
    F__law_wants := fun_mk (st := s__law_wants) l__law_wants k__law_wants kp__law_wants,
    m__law_wide := PySem.W.mg_of X G m__law_wide,
    F__law_wide := fun_mk (st := s__law_wide) l__law_wide k__law_wide kp__law_wide,
    m__law_is_title := PySem.W.mg_of X G m__law_is_title,
    F__law_is_title := fun_mk (st := s__law_is_title) l__law_is_title k__law_is_title kp__law_is_title,
    m__law_is_plain_isle := PySem.W.mg_of X G m__law_is_plain_isle,
    F__law_is_plain_isle := fun_mk (st := s__law_is_plain_isle) l__law_is_plain_isle k__law_is_plain_isle kp__law_is_plain_isle,
    m__law_bent_isle := PySem.W.mg_of X G m__law_bent_isle,
    F__law_bent_isle := fun_mk (st := s__law_bent_isle) l__law_bent_isle k__law_bent_isle kp__law_bent_isle,
    x_BadYard := ⟨ga_BadYard, gg_BadYard, ex_BadYard, hd_BadYard⟩,
    n_BadYard_part := n_BadYard_part,
    x_BadValue := ⟨ga_BadValue, gg_BadValue, ex_BadValue, hd_BadValue⟩,
    n_BadValue_part := n_BadValue_part,
    x_BadNumber := ⟨ga_BadNumber, gg_BadNumber, ex_BadNumber, hd_BadNumber⟩,
    n_BadNumber_part := n_BadNumber_part,
    x_BadPaper := ⟨ga_BadPaper, gg_BadPaper, ex_BadPaper, hd_BadPaper⟩,
    n_BadPaper_part := n_BadPaper_part,
    x_Misfit := ⟨ga_Misfit, gg_Misfit, ex_Misfit, hd_Misfit⟩,
    n_Misfit_part := n_Misfit_part,
    x_Nothing := ⟨ga_Nothing, gg_Nothing, ex_Nothing, hd_Nothing⟩,
    n_Nothing_what := n_Nothing_what,
    x_NoName := ⟨ga_NoName, gg_NoName, ex_NoName, hd_NoName⟩,
    n_NoName_name := n_NoName_name,
    x_BadText := ⟨ga_BadText, gg_BadText, ex_BadText, hd_BadText⟩,
    n_BadText_line := n_BadText_line,
    n_BadText_word := n_BadText_word,
    x_BadLine := ⟨ga_BadLine, gg_BadLine, ex_BadLine, hd_BadLine⟩,
    n_BadLine_word := n_BadLine_word,
    x_TooMany := ⟨ga_TooMany, gg_TooMany, ex_TooMany, hd_TooMany⟩,
    n_TooMany_what := n_TooMany_what,
    n_TooMany_most := n_TooMany_most,
    i_BadYard := i_BadYard,
    t_BadYard := t_BadYard,
    S_BadYard := ⟨⟨⟨_, _, _, _, _, _, _, _, _, _, _, _, _, _, _, lc_BadYard, rv_BadYard⟩, sa_BadYard, ex_BadYard, ty_BadYard, kc_BadYard⟩, ⟨_, _, _, _, _, _, _, _, rfl, lf_BadYard⟩, co_BadYard, ⟨_, _, _, _, _, _, lk_BadYard, v2_BadYard, fi_BadYard⟩, ⟨_, _, _, cl0_BadYard⟩, Option.isSome_iff_exists.mp ci_BadYard, su_BadYard, sp_BadYard, ve_BadYard, opq, PySem.W.mg_none_of X G z_super, by decide +kernel, by decide +kernel⟩,
    na_Yard_isles := nl_Yard_isles,
    na_Yard_bars := nl_Yard_bars,
    na_Yard_wishes := nl_Yard_wishes,
    na_Yard_names := nl_Yard_names,
    na_Yard_kept := nl_Yard_kept,
    Mk_Yard := ⟨mk_Yard, m_Yard_init, fi_Yard, kc_Yard⟩,
    cls_Yard := ⟨pg_Yard, hd_Yard, po_Yard, sa_Yard⟩,
    own_Yard := ⟨m_Yard_eq, ne_Yard, mo_Yard⟩,
    fn_Yard_eq := fe_Yard,
    ct := ⟨fun C h => (List.mem_singleton.mp h) ▸ ⟨⟨pg_Yard, hd_Yard, po_Yard, sa_Yard⟩, cq_Yard, hn, htk, mo_Yard⟩, fun C h => (List.mem_singleton.mp h) ▸ ⟨ci_BadYard, ga_BadYard, gg_BadYard, ex_BadYard, cq_BadYard, hn, htk, mo_BadYard⟩⟩,
    z_list := PySem.W.mg_none_of X G z_list,
    z_tuple := PySem.W.mg_none_of X G z_tuple,
    z_dict := PySem.W.mg_none_of X G z_dict,
    z_int := PySem.W.mg_none_of X G z_int,
    z_str := PySem.W.mg_none_of X G z_str,
    z_bool := PySem.W.mg_none_of X G z_bool,
    z_range := PySem.W.mg_none_of X G z_range,
    z_enumerate := PySem.W.mg_none_of X G z_enumerate,
    z_len := PySem.W.mg_none_of X G z_len,
    z_all := PySem.W.mg_none_of X G z_all,
    z_abs := PySem.W.mg_none_of X G z_abs,
    z_isinstance := PySem.W.mg_none_of X G z_isinstance,
    z_repr := PySem.W.mg_none_of X G z_repr,
    z_sum := PySem.W.mg_none_of X G z_sum,
    z_min := PySem.W.mg_none_of X G z_min,
    z_set := PySem.W.mg_none_of X G z_set,
    z_super := PySem.W.mg_none_of X G z_super,
    c_LETTERS := ⟨_, PySem.W.mg_of X G v_LETTERS, ⟨_, rfl⟩⟩,
    c_WORDS := ⟨PySem.W.mg_of X G v_WORDS, fun Z S H => ⟨_, [V.str "isle", V.str "wild", V.str "mode", V.str "must", V.str "move", V.str "bar", V.str "wish"], rfl, .inr ⟨_, _, _, kl_WORDS, rfl, rfl, (show (7 : Nat) ≤ sizeLine by decide), .cons ⟨_, rfl⟩ (.cons ⟨_, rfl⟩ (.cons ⟨_, rfl⟩ (.cons ⟨_, rfl⟩ (.cons ⟨_, rfl⟩ (.cons ⟨_, rfl⟩ (.cons ⟨_, rfl⟩ (.nil)))))))⟩, ⟨_, _, rfl, rfl, ⟨_, _, rfl, rfl, ⟨_, _, rfl, rfl, ⟨_, _, rfl, rfl, ⟨_, _, rfl, rfl, ⟨_, _, rfl, rfl, ⟨_, _, rfl, rfl, rfl⟩⟩⟩⟩⟩⟩⟩⟩⟩,
    c_MOST_LETTERS := ⟨_, PySem.W.mg_of X G v_MOST_LETTERS, ⟨_, rfl⟩⟩,
    c_MOST_ISLES := ⟨_, PySem.W.mg_of X G v_MOST_ISLES, ⟨_, rfl⟩⟩,
    c_MOST_MODES := ⟨_, PySem.W.mg_of X G v_MOST_MODES, ⟨_, rfl⟩⟩,
    c_MOST_MOVES := ⟨_, PySem.W.mg_of X G v_MOST_MOVES, ⟨_, rfl⟩⟩,
    c_MOST_BARS := ⟨_, PySem.W.mg_of X G v_MOST_BARS, ⟨_, rfl⟩⟩,
    c_MOST_WISHES := ⟨_, PySem.W.mg_of X G v_MOST_WISHES, ⟨_, rfl⟩⟩,
    c_MOST_FIGURE := ⟨_, PySem.W.mg_of X G v_MOST_FIGURE, ⟨_, rfl⟩⟩,
    e_tup0 := (fun Z S H => ⟨_, [], rfl, .inr ⟨_, _, _, el_tup0, rfl, rfl, by decide, .nil⟩, rfl⟩),
    e_tup1 := (fun Z S H => ⟨_, [], rfl, .inr ⟨_, _, _, el_tup1, rfl, rfl, by decide, .nil⟩, rfl⟩),
    e_tup2 := (fun Z S H => ⟨_, [], rfl, .inr ⟨_, _, _, el_tup0, rfl, rfl, by decide, .nil⟩, rfl⟩) }
  have CB : ∀ n, n ∈ ["NoneType", "bool", "int", "str", "tuple", "list", "dict"] → PySem.W.kitOne K (.type n) (.ref c_Yard) = some false := fun n hn => by
    simp only [List.mem_cons, List.not_mem_nil, or_false] at hn
    rcases hn with rfl | rfl | rfl | rfl | rfl | rfl | rfl <;> assumption
  have CF : ClF K a := ⟨List.mem_singleton.mpr rfl, List.mem_singleton.mpr rfl, CB, cf_flat, cf_many, cf_text, cf_line, cf_nothing, cf_noname, cf_value, cf_number, cf_paper, cf_misfit⟩
  have NF : NfF K a := ⟨nf_yard, nf_lst⟩
  exact ⟨_, fun s u => .of_eq rfl, fun base _ _ TB => ok_law (a := a) T CF NF TB l_law k_law⟩
end K01
open PySem PySem.W PyProof.Rows in
set_option maxHeartbeats 0 in
theorem PySem.Challenge.cw_neverflat_k01_isles_that_are_let_holds : PySem.Challenge.rw_neverflat_k01_isles_that_are_let.Holds := by
  w_on; o_law; k_head; (case hw => w_witness2)
  k_fill
  refine Dl.walk_topT (l := PySem.Challenge.rw_neverflat_k01_isles_that_are_let) (n := 63) (k := 24) (Φ := K01.ΦL 447) (x := "script") (qn := K01.lamQ) (c := 449) (Pt := 447) rfl (by decide) rfl ⟨rfl, by decide, by decide⟩ (fun w h Y => km_in_of Y) (fun w h Y => km_tabs_of Y _ (List.mem_singleton.mpr rfl)) (fun w => by kernel_rfl) (fun w h Y => codeHd_of_K (km_in_of Y) (by kernel_rfl)) ?F fun ns _ => ⟨ns, rfl, Dl.put_same, fun _ => rfl⟩
  case F =>
    intro w mg fa h KX G hmg
    refine' K01.all01 (tabP := 447) KX G hmg ?m_FlatError ?m_BadYard ?m_BadValue ?m_BadNumber ?m_BadPaper ?m_Misfit ?m_Nothing ?m_NoName ?m_BadText ?m_BadLine ?m_TooMany ?m_Yard ?m_is_integer ?l_is_integer ?k_is_integer ?kp_is_integer ?m_is_within ?l_is_within ?k_is_within ?kp_is_within ?t_is_within ?m_is_listed ?l_is_listed ?k_is_listed ?kp_is_listed ?m_is_row ?l_is_row ?k_is_row ?kp_is_row ?t_is_row ?m_fixed ?l_fixed ?k_fixed ?kp_fixed ?m_are_unlike ?l_are_unlike ?k_are_unlike ?kp_are_unlike ?m_is_name ?l_is_name ?k_is_name ?kp_is_name ?m_is_mode ?l_is_mode ?k_is_mode ?kp_is_mode ?m_is_isle ?l_is_isle ?k_is_isle ?kp_is_isle ?m_are_pairs ?l_are_pairs ?k_are_pairs ?kp_are_pairs ?m_is_move ?l_is_move ?k_is_move ?kp_is_move ?m_are_moves ?l_are_moves ?k_are_moves ?kp_are_moves ?m_modes_of ?l_modes_of ?k_modes_of ?kp_modes_of ?m_are_isles ?l_are_isles ?k_are_isles ?kp_are_isles ?m_Yard_init ?l_Yard_init ?k_Yard_init ?kp_Yard_init ?t_Yard_init ?m_Yard_eq ?l_Yard_eq ?k_Yard_eq ?kp_Yard_eq ?m__law_pen ?l__law_pen ?k__law_pen ?kp__law_pen ?m__law_draw ?l__law_draw ?k__law_draw ?kp__law_draw ?m__law_pick ?l__law_pick ?k__law_pick ?kp__law_pick ?m__law_mixed ?l__law_mixed ?k__law_mixed ?kp__law_mixed ?m__law_heard ?l__law_heard ?k__law_heard ?kp__law_heard ?m__law_listed ?l__law_listed ?k__law_listed ?kp__law_listed ?m__law_tuples ?l__law_tuples ?k__law_tuples ?kp__law_tuples ?m__law_wants ?l__law_wants ?k__law_wants ?kp__law_wants ?m__law_wide ?l__law_wide ?k__law_wide ?kp__law_wide ?m__law_is_title ?l__law_is_title ?k__law_is_title ?kp__law_is_title ?m__law_is_plain_isle ?l__law_is_plain_isle ?k__law_is_plain_isle ?kp__law_is_plain_isle ?m__law_bent_isle ?l__law_bent_isle ?k__law_bent_isle ?kp__law_bent_isle ?m_law ?l_law ?k_law ?kp_law ?ga_BadYard ?gg_BadYard ?ex_BadYard ?hd_BadYard ?n_BadYard_part ?ga_BadValue ?gg_BadValue ?ex_BadValue ?hd_BadValue ?n_BadValue_part ?ga_BadNumber ?gg_BadNumber ?ex_BadNumber ?hd_BadNumber ?n_BadNumber_part ?ga_BadPaper ?gg_BadPaper ?ex_BadPaper ?hd_BadPaper ?n_BadPaper_part ?ga_Misfit ?gg_Misfit ?ex_Misfit ?hd_Misfit ?n_Misfit_part ?ga_Nothing ?gg_Nothing ?ex_Nothing ?hd_Nothing ?n_Nothing_what ?ga_NoName ?gg_NoName ?ex_NoName ?hd_NoName ?n_NoName_name ?ga_BadText ?gg_BadText ?ex_BadText ?hd_BadText ?n_BadText_line ?n_BadText_word ?ga_BadLine ?gg_BadLine ?ex_BadLine ?hd_BadLine ?n_BadLine_word ?ga_TooMany ?gg_TooMany ?ex_TooMany ?hd_TooMany ?n_TooMany_what ?n_TooMany_most ?i_BadYard ?t_BadYard ?lc_BadYard ?rv_BadYard ?sa_BadYard ?ty_BadYard ?kc_BadYard ?lf_BadYard ?co_BadYard ?lk_BadYard ?v2_BadYard ?fi_BadYard ?cl0_BadYard ?ci_BadYard ?su_BadYard ?sp_BadYard ?ve_BadYard ?mo_BadYard ?cq_BadYard ?opq ?hn ?htk ?mk_Yard ?fi_Yard ?kc_Yard ?pg_Yard ?hd_Yard ?po_Yard ?sa_Yard ?nl_Yard_isles ?nl_Yard_bars ?nl_Yard_wishes ?nl_Yard_names ?nl_Yard_kept ?ne_Yard ?mo_Yard ?fe_Yard ?cq_Yard ?z_list ?z_tuple ?z_dict ?z_int ?z_str ?z_bool ?z_range ?z_enumerate ?z_len ?z_all ?z_abs ?z_isinstance ?z_repr ?z_sum ?z_min ?z_set ?z_super ?v_LETTERS ?v_WORDS ?kl_WORDS ?v_MOST_LETTERS ?v_MOST_ISLES ?v_MOST_MODES ?v_MOST_MOVES ?v_MOST_BARS ?v_MOST_WISHES ?v_MOST_FIGURE ?el_tup0 ?el_tup1 ?kb_NoneType ?kb_bool ?kb_int ?kb_str ?kb_tuple ?kb_list ?kb_dict ?cf_flat ?cf_many ?cf_text ?cf_line ?cf_nothing ?cf_noname ?cf_value ?cf_number ?cf_paper ?cf_misfit ?nf_yard ?nf_lst
    (case m_FlatError => k_is)
    (case m_BadYard => k_is)
    (case m_BadValue => k_is)
    (case m_BadNumber => k_is)
    (case m_BadPaper => k_is)
    (case m_Misfit => k_is)
    (case m_Nothing => k_is)
    (case m_NoName => k_is)
    (case m_BadText => k_is)
    (case m_BadLine => k_is)
    (case m_TooMany => k_is)
    (case m_Yard => k_is)
    (case m_is_integer => k_is)
    (case l_is_integer => k_is)
    (case k_is_integer => k_is)
    (case kp_is_integer => k_is)
    (case m_is_within => k_is)
    (case l_is_within => k_is)
    (case k_is_within => k_is)
    (case kp_is_within => k_is)
    (case t_is_within => k_is)
    (case m_is_listed => k_is)
    (case l_is_listed => k_is)
    (case k_is_listed => k_is)
    (case kp_is_listed => k_is)
    (case m_is_row => k_is)
    (case l_is_row => k_is)
    (case k_is_row => k_is)
    (case kp_is_row => k_is)
    (case t_is_row => k_is)
    (case m_fixed => k_is)
    (case l_fixed => k_is)
    (case k_fixed => k_is)
    (case kp_fixed => k_is)
    (case m_are_unlike => k_is)
    (case l_are_unlike => k_is)
    (case k_are_unlike => k_is)
    (case kp_are_unlike => k_is)
    (case m_is_name => k_is)
    (case l_is_name => k_is)
    (case k_is_name => k_is)
    (case kp_is_name => k_is)
    (case m_is_mode => k_is)
    (case l_is_mode => k_is)
    (case k_is_mode => k_is)
    (case kp_is_mode => k_is)
    (case m_is_isle => k_is)
    (case l_is_isle => k_is)
    (case k_is_isle => k_is)
    (case kp_is_isle => k_is)
    (case m_are_pairs => k_is)
    (case l_are_pairs => k_is)
    (case k_are_pairs => k_is)
    (case kp_are_pairs => k_is)
    (case m_is_move => k_is)
    (case l_is_move => k_is)
    (case k_is_move => k_is)
    (case kp_is_move => k_is)
    (case m_are_moves => k_is)
    (case l_are_moves => k_is)
    (case k_are_moves => k_is)
    (case kp_are_moves => k_is)
    (case m_modes_of => k_is)
    (case l_modes_of => k_is)
    (case k_modes_of => k_is)
    (case kp_modes_of => k_is)
    (case m_are_isles => k_is)
    (case l_are_isles => k_is)
    (case k_are_isles => k_is)
    (case kp_are_isles => k_is)
    (case m_Yard_init => k_is)
    (case l_Yard_init => k_is)
    (case k_Yard_init => k_is)
    (case kp_Yard_init => k_is)
    (case t_Yard_init => k_is)
    (case m_Yard_eq => k_is)
    (case l_Yard_eq => k_is)
    (case k_Yard_eq => k_is)
    (case kp_Yard_eq => k_is)
    (case m__law_pen => k_is)
    (case l__law_pen => k_is)
    (case k__law_pen => k_is)
    (case kp__law_pen => k_is)
    (case m__law_draw => k_is)
    (case l__law_draw => k_is)
    (case k__law_draw => k_is)
    (case kp__law_draw => k_is)
    (case m__law_pick => k_is)
    (case l__law_pick => k_is)
    (case k__law_pick => k_is)
    (case kp__law_pick => k_is)
    (case m__law_mixed => k_is)
    (case l__law_mixed => k_is)
    (case k__law_mixed => k_is)
    (case kp__law_mixed => k_is)
    (case m__law_heard => k_is)
    (case l__law_heard => k_is)
    (case k__law_heard => k_is)
    (case kp__law_heard => k_is)
    (case m__law_listed => k_is)
    (case l__law_listed => k_is)
    (case k__law_listed => k_is)
    (case kp__law_listed => k_is)
    (case m__law_tuples => k_is)
    (case l__law_tuples => k_is)
    (case k__law_tuples => k_is)
    (case kp__law_tuples => k_is)
    (case m__law_wants => k_is)
    (case l__law_wants => k_is)
    (case k__law_wants => k_is)
    (case kp__law_wants => k_is)
    (case m__law_wide => k_is)
    (case l__law_wide => k_is)
    (case k__law_wide => k_is)
    (case kp__law_wide => k_is)
    (case m__law_is_title => k_is)
    (case l__law_is_title => k_is)
    (case k__law_is_title => k_is)
    (case kp__law_is_title => k_is)
    (case m__law_is_plain_isle => k_is)
    (case l__law_is_plain_isle => k_is)
    (case k__law_is_plain_isle => k_is)
    (case kp__law_is_plain_isle => k_is)
    (case m__law_bent_isle => k_is)
    (case l__law_bent_isle => k_is)
    (case k__law_bent_isle => k_is)
    (case kp__law_bent_isle => k_is)
    (case m_law => k_is)
    (case l_law => k_is)
    (case k_law => k_is)
    (case kp_law => k_is)
    (case ga_BadYard => k_is)
    (case gg_BadYard => k_is)
    (case ex_BadYard => k_is)
    (case hd_BadYard => k_is)
    (case n_BadYard_part => k_is)
    (case ga_BadValue => k_is)
    (case gg_BadValue => k_is)
    (case ex_BadValue => k_is)
    (case hd_BadValue => k_is)
    (case n_BadValue_part => k_is)
    (case ga_BadNumber => k_is)
    (case gg_BadNumber => k_is)
    (case ex_BadNumber => k_is)
    (case hd_BadNumber => k_is)
    (case n_BadNumber_part => k_is)
    (case ga_BadPaper => k_is)
    (case gg_BadPaper => k_is)
    (case ex_BadPaper => k_is)
    (case hd_BadPaper => k_is)
    (case n_BadPaper_part => k_is)
    (case ga_Misfit => k_is)
    (case gg_Misfit => k_is)
    (case ex_Misfit => k_is)
    (case hd_Misfit => k_is)
    (case n_Misfit_part => k_is)
    (case ga_Nothing => k_is)
    (case gg_Nothing => k_is)
    (case ex_Nothing => k_is)
    (case hd_Nothing => k_is)
    (case n_Nothing_what => k_is)
    (case ga_NoName => k_is)
    (case gg_NoName => k_is)
    (case ex_NoName => k_is)
    (case hd_NoName => k_is)
    (case n_NoName_name => k_is)
    (case ga_BadText => k_is)
    (case gg_BadText => k_is)
    (case ex_BadText => k_is)
    (case hd_BadText => k_is)
    (case n_BadText_line => k_is)
    (case n_BadText_word => k_is)
    (case ga_BadLine => k_is)
    (case gg_BadLine => k_is)
    (case ex_BadLine => k_is)
    (case hd_BadLine => k_is)
    (case n_BadLine_word => k_is)
    (case ga_TooMany => k_is)
    (case gg_TooMany => k_is)
    (case ex_TooMany => k_is)
    (case hd_TooMany => k_is)
    (case n_TooMany_what => k_is)
    (case n_TooMany_most => k_is)
    (case i_BadYard => k_is)
    (case t_BadYard => k_is)
    (case lc_BadYard => k_is)
    (case rv_BadYard => decide +kernel)
    (case sa_BadYard => k_is)
    (case ty_BadYard => k_is)
    (case kc_BadYard => k_is)
    (case lf_BadYard => k_is)
    (case co_BadYard => k_is)
    (case lk_BadYard => k_is)
    (case v2_BadYard => rfl)
    (case fi_BadYard => decide +kernel)
    (case cl0_BadYard => k_is)
    (case ci_BadYard => kernel_rfl)
    (case su_BadYard => k_is)
    (case sp_BadYard => kernel_rfl)
    (case ve_BadYard => k_is)
    (case mo_BadYard => k_is)
    (case cq_BadYard => k_is)
    (case opq => k_is)
    (case hn => k_is)
    (case htk => k_is)
    (case mk_Yard => k_is)
    (case fi_Yard => k_is)
    (case kc_Yard => k_is)
    (case pg_Yard => k_is)
    (case hd_Yard => k_is)
    (case po_Yard => k_is)
    (case sa_Yard => k_is)
    (case nl_Yard_isles => k_is)
    (case nl_Yard_bars => k_is)
    (case nl_Yard_wishes => k_is)
    (case nl_Yard_names => k_is)
    (case nl_Yard_kept => k_is)
    (case ne_Yard => k_is)
    (case mo_Yard => k_is)
    (case fe_Yard => k_is)
    (case cq_Yard => k_is)
    (case z_list => k_is)
    (case z_tuple => k_is)
    (case z_dict => k_is)
    (case z_int => k_is)
    (case z_str => k_is)
    (case z_bool => k_is)
    (case z_range => k_is)
    (case z_enumerate => k_is)
    (case z_len => k_is)
    (case z_all => k_is)
    (case z_abs => k_is)
    (case z_isinstance => k_is)
    (case z_repr => k_is)
    (case z_sum => k_is)
    (case z_min => k_is)
    (case z_set => k_is)
    (case z_super => k_is)
    (case v_LETTERS => k_is)
    (case v_WORDS => k_is)
    (case kl_WORDS => k_is)
    (case v_MOST_LETTERS => k_is)
    (case v_MOST_ISLES => k_is)
    (case v_MOST_MODES => k_is)
    (case v_MOST_MOVES => k_is)
    (case v_MOST_BARS => k_is)
    (case v_MOST_WISHES => k_is)
    (case v_MOST_FIGURE => k_is)
    (case el_tup0 => k_is)
    (case el_tup1 => k_is)
    (case kb_NoneType => kernel_rfl)
    (case kb_bool => kernel_rfl)
    (case kb_int => kernel_rfl)
    (case kb_str => kernel_rfl)
    (case kb_tuple => kernel_rfl)
    (case kb_list => kernel_rfl)
    (case kb_dict => kernel_rfl)
    (case cf_flat => kernel_rfl)
    (case cf_many => kernel_rfl)
    (case cf_text => kernel_rfl)
    (case cf_line => kernel_rfl)
    (case cf_nothing => kernel_rfl)
    (case cf_noname => kernel_rfl)
    (case cf_value => kernel_rfl)
    (case cf_number => kernel_rfl)
    (case cf_paper => kernel_rfl)
    (case cf_misfit => kernel_rfl)
    (case nf_yard => k_is)
    (case nf_lst => k_is)
