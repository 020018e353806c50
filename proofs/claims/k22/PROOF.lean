import PyProof.Rows.All
import HandS.ForMost
import HandS.ForExc
import HandS.Wide
import HandS.WideBits
import HandS.IsInst
import HandS.Deep
import HandS.TupLe
import HandS.TupAny
import HandS.Defaults
import HandS.CallSlots
import HandS.Style
import KE.KDictWalk
import HandS.Finally
import KE.KDictCopyH
import KE.SortData
import HandS.Conv
import HandS.More
import HandS.TupLen
import HandS.Sort
import HandS.SortKw
import KE.KDictList
import KE.KDictSum
import KE.DataMinMax
import HandS.Exc
import HandS.ExcOwn
import HandS.ExcField
import HandS.ExcInit
import HandS.TryMany
import KE.KExcIs
import HandS.SetFor
import HandS.HeadHook4
import HandS.HeadWalk
import HandS.Head2
import KE.BitLaws
import PySem.Challenge.RW_firstout_k22_all_that_is_wrong
section
set_option Elab.async false
set_option linter.all false
set_option maxRecDepth 100000
set_option maxHeartbeats 1000000
/-! Q0: deep data; trees that one owner may change; what it means that a value stands for them. -/
namespace Q
open PySem PySem.Spec PyProof.Rows L2

inductive D where
  | non | bl (b : Bool) | int (i : Int) | str (x : Str)
  | scr (ns : List Int)
  | tup (xs : List D) | lst (xs : List D)
  | dk (kvs : List (Key × D)) | dt (kvs : List (List Key × D))
  | ins (c : Nat) (ds : List D)
  | clo (k : Nat) (ds : List D)
  deriving Inhabited

/-- what one owner may change: a leaf of shared data; a list or dict of such (pl); lists, dicts, instances of trees -/
inductive T where
  | lf (d : D) | pl (d : D)
  | lst (ts : List T) | dk (ks : List Key) (ts : List T) | ins (c : Nat) (ts : List T)
  deriving Inhabited
mutual
def T.d : T → D
  | .lf d => d
  | .pl d => d
  | .lst ts => .lst (T.ds ts)
  | .dk ks ts => .dk (ks.zip (T.ds ts))
  | .ins c ts => .ins c (T.ds ts)
def T.ds : List T → List D
  | [] => []
  | t :: ts => t.d :: T.ds ts
end
theorem T.ds_map : ∀ ts : List T, T.ds ts = ts.map T.d
  | [] => rfl
  | t :: ts => by rw [T.ds, T.ds_map ts]; rfl
def T.sh : T → Option D
  | .lf d => some d
  | .pl d => some d
  | _ => none
theorem T.sh_d {t : T} {d : D} (h : t.sh = some d) : t.d = d := by
  cases t <;> simp [T.sh] at h <;> exact h

abbrev AS := Addr → Prop
def AS.u (S T : AS) : AS := fun a => S a ∨ T a
def AS.one (a : Addr) : AS := fun b => b = a
def AS.no : AS := fun _ => False
def AS.mi (S T : AS) : AS := fun a => S a ∧ ¬ T a

def mutK : HO → Prop
  | .lst _ => True
  | .dK _ => True
  | .dT _ => True
  | .ins _ _ _ => True
  | _ => False
def isDc : HO → Prop
  | .dK _ => True
  | .dT _ => True
  | _ => False
theorem isDc.mut {u : HO} (h : isDc u) : mutK u := by cases u <;> first | exact h | trivial
theorem isDc.nfrz {b : Obj} {u : HO} (h : isDc (.frz b u)) : False := h

/-- a list of the written part -/
def KLst (K : PySem.W.Frag) (a : Addr) (xs : List V) : Prop :=
  ∃ (o : Obj) (its : Array Value) (n : Nat), K.lookup a = some o ∧ o.cls = .type "list" ∧ o.dict = none ∧ o.data = .seq its n ∧ its.size ≤ sizeLine ∧ Vals xs its.toList

/-- a lambda's cell, its frame gone -/
def CellO (c : Addr) (u : V) : HO := .ext fun h => ∃ x, RelV u x ∧ h.IsCell c (some x)

/-- the surroundings: the written part, the classes, the lambdas -/
structure G where
  K : PySem.W.Frag
  cl : Nat → Addr
  at_ : Nat → List Str
  fo : Nat → Addr → List Addr → Heap → Prop

mutual
inductive Rep (g : G) (B : AS) (H : Hp) : V → D → Prop
  | non : Rep g B H .non .non
  | bl (b : Bool) : Rep g B H (.bl b) (.bl b)
  | int (i : Int) : Rep g B H (.int i) (.int i)
  | str (x : Str) : Rep g B H (.str x) (.str x)
  | scr {a : Addr} {ns : List Int} : ((Rd H a (.lst (ns.map V.int)) ∧ ¬ B a) ∨ KLst g.K a (ns.map V.int)) → Rep g B H (.ref a) (.scr ns)
  | tup {a : Addr} {vs : List V} {ds : List D} : H a = some (.tup vs) → ¬ B a → RepL g B H vs ds → Rep g B H (.ref a) (.tup ds)
  | lst {a : Addr} {vs : List V} {ds : List D} : H a = some (.lst vs) → ¬ B a → RepL g B H vs ds → Rep g B H (.ref a) (.lst ds)
  | dk {a : Addr} {kvs : List (Key × V)} {ds : List (Key × D)} : Rd H a (.dK kvs) → ¬ B a → kvs.map (·.1) = ds.map (·.1) → RepL g B H (kvs.map (·.2)) (ds.map (·.2)) → Rep g B H (.ref a) (.dk ds)
  | dt {a : Addr} {kvs : List (List Key × V)} {ds : List (List Key × D)} : Rd H a (.dT kvs) → ¬ B a → kvs.map (·.1) = ds.map (·.1) → RepL g B H (kvs.map (·.2)) (ds.map (·.2)) → Rep g B H (.ref a) (.dt ds)
  | ins {a dx : Addr} {c : Nat} {fs : List (Str × V)} {ds : List D} : H a = some (.ins (g.cl c) dx fs) → ¬ B a → fs.map (·.1) = (g.at_ c).take ds.length → RepL g B H (fs.map (·.2)) ds → Rep g B H (.ref a) (.ins c ds)
  | clo {f : Addr} {k : Nat} {cs : List Addr} {us : List V} {ds : List D} : H f = some (.ext (g.fo k f cs)) → ¬ B f → cs.length = us.length →
      (∀ (j : Nat) (c : Addr) (u : V), cs[j]? = some c → us[j]? = some u → H c = some (CellO c u) ∧ ¬ B c) → RepL g B H us ds → Rep g B H (.ref f) (.clo k ds)
inductive RepL (g : G) (B : AS) (H : Hp) : List V → List D → Prop
  | nil : RepL g B H [] []
  | cons {v : V} {vs : List V} {d : D} {ds : List D} : Rep g B H v d → RepL g B H vs ds → RepL g B H (v :: vs) (d :: ds)
end

/-- an object stays, but that a dict may be locked or unlocked -/
def Lk (u : HO) (o : Option HO) : Prop := o = some u ∨ (∃ b, o = some (.frz b u) ∧ isDc u) ∨ ∃ b w, u = .frz b w ∧ isDc w ∧ o = some w
theorem Lk.refl {u : HO} : Lk u (some u) := .inl rfl
/-- how what is told of one heap is told of another -/
structure Tr (B : AS) (H : Hp) (B' : AS) (H' : Hp) : Prop where
  o : ∀ a u, ¬ B a → H a = some u → ¬ B' a
  r : ∀ a u, ¬ B a → H a = some u → Lk u (H' a)

section
variable {g : G} {B B' : AS} {H H' : Hp}
theorem Lk.rd {u : HO} {a : Addr} (hu : isDc u) (h : Rd H a u) (k : ∀ w, H a = some w → Lk w (H' a)) : Rd H' a u := by
  rcases h with h | ⟨o, h⟩
  · rcases k _ h with q | ⟨b, q, _⟩ | ⟨b, w, e, _, q⟩
    · exact .inl q
    · exact .inr ⟨b, q⟩
    · subst e; exact hu.elim
  · rcases k _ h with q | ⟨b, q, e⟩ | ⟨b, w, e, _, q⟩
    · exact .inr ⟨o, q⟩
    · exact e.elim
    · cases e; exact .inl q
theorem Lk.at {u : HO} {o : Option HO} (hu : ¬ isDc u ∧ ∀ b w, u = .frz b w → ¬ isDc w) (h : Lk u o) : o = some u := by
  rcases h with q | ⟨b, q, e⟩ | ⟨b, w, e, e2, q⟩
  · exact q
  · exact absurd e hu.1
  · exact absurd e2 (hu.2 b w e)
theorem rd_some {a : Addr} {u : HO} (h : Rd H a u) : ∃ w, H a = some w := by
  rcases h with h | ⟨o, h⟩ <;> exact ⟨_, h⟩
theorem nDc_lst {vs : List V} : ¬ isDc (.lst vs) ∧ ∀ b w, HO.lst vs = .frz b w → ¬ isDc w := ⟨id, fun _ _ e => (by cases e)⟩
theorem nDc_tup {vs : List V} : ¬ isDc (.tup vs) ∧ ∀ b w, HO.tup vs = .frz b w → ¬ isDc w := ⟨id, fun _ _ e => (by cases e)⟩
theorem nDc_ins {C dx : Addr} {fs : List (Str × V)} : ¬ isDc (.ins C dx fs) ∧ ∀ b w, HO.ins C dx fs = .frz b w → ¬ isDc w := ⟨id, fun _ _ e => (by cases e)⟩
theorem nDc_ext {φ : Heap → Prop} : ¬ isDc (.ext φ) ∧ ∀ b w, HO.ext φ = .frz b w → ¬ isDc w := ⟨id, fun _ _ e => (by cases e)⟩
theorem nDc_scr {o : Obj} {vs : List V} : ¬ isDc (.frz o (.lst vs)) ∧ ∀ b w, HO.frz o (.lst vs) = .frz b w → ¬ isDc w := ⟨id, fun _ _ e => by cases e; exact id⟩
theorem nDc_xd {fs : List (Str × V)} : ¬ isDc (.xd fs) ∧ ∀ b w, HO.xd fs = .frz b w → ¬ isDc w := ⟨id, fun _ _ e => (by cases e)⟩
theorem dc_k {k : List (Key × V)} : isDc (.dK k) := trivial
theorem dc_t {k : List (List Key × V)} : isDc (.dT k) := trivial
mutual
theorem Rep.tr (t : Tr B H B' H') : ∀ {v : V} {d : D}, Rep g B H v d → Rep g B' H' v d
  | _, _, .non => .non
  | _, _, .bl b => .bl b
  | _, _, .int i => .int i
  | _, _, .str x => .str x
  | _, _, .scr h => .scr (h.elim (fun ⟨h, ho⟩ => .inl (h.elim (fun h => ⟨.inl ((t.r _ _ ho h).at nDc_lst), t.o _ _ ho h⟩) fun ⟨o, h⟩ => ⟨.inr ⟨o, (t.r _ _ ho h).at nDc_scr⟩, t.o _ _ ho h⟩)) .inr)
  | _, _, .tup h ho r => .tup ((t.r _ _ ho h).at nDc_tup) (t.o _ _ ho h) (RepL.tr t r)
  | _, _, .lst h ho r => .lst ((t.r _ _ ho h).at nDc_lst) (t.o _ _ ho h) (RepL.tr t r)
  | _, _, .dk h ho e r => .dk (Lk.rd dc_k h fun w q => t.r _ w ho q) (let ⟨w, q⟩ := rd_some h; t.o _ w ho q) e (RepL.tr t r)
  | _, _, .dt h ho e r => .dt (Lk.rd dc_t h fun w q => t.r _ w ho q) (let ⟨w, q⟩ := rd_some h; t.o _ w ho q) e (RepL.tr t r)
  | _, _, .ins h ho e r => .ins ((t.r _ _ ho h).at nDc_ins) (t.o _ _ ho h) e (RepL.tr t r)
  | _, _, .clo h ho e k r => .clo ((t.r _ _ ho h).at nDc_ext) (t.o _ _ ho h) e (fun j c u h1 h2 => let ⟨q1, q2⟩ := k j c u h1 h2; ⟨(t.r _ _ q2 q1).at nDc_ext, t.o _ _ q2 q1⟩) (RepL.tr t r)
theorem RepL.tr (t : Tr B H B' H') : ∀ {vs : List V} {ds : List D}, RepL g B H vs ds → RepL g B' H' vs ds
  | _, _, .nil => .nil
  | _, _, .cons h r => .cons (Rep.tr t h) (RepL.tr t r)
end
theorem Tr.refl : Tr B H B H := ⟨fun _ _ h _ => h, fun _ _ _ h => .inl h⟩
theorem Tr.same (s : Same H H') : Tr B H B H' := ⟨fun _ _ h _ => h, fun a u _ h => .inl (s a u h)⟩
theorem Tr.less (k : ∀ a, B' a → B a) : Tr B H B' H := ⟨fun a _ h _ q => h (k a q), fun a u _ h => .inl h⟩
theorem Tr.trans {B2 : AS} {H2 : Hp} (t : Tr B H B' H') (u : Tr B' H' B2 H2) : (∀ a w, ¬ B a → H a = some w → ¬ isDc w ∧ (∀ b x, w = .frz b x → ¬ isDc x) → ¬ B2 a ∧ H2 a = some w) := fun a w h1 h2 h3 => by
  have e := (t.r a w h1 h2).at h3
  exact ⟨u.o a w (t.o a w h1 h2) e, (u.r a w (t.o a w h1 h2) e).at h3⟩

theorem RepL.length : ∀ {vs : List V} {ds : List D}, RepL g B H vs ds → vs.length = ds.length
  | _, _, .nil => rfl
  | _, _, .cons _ r => congrArg Nat.succ r.length
theorem RepL.get : ∀ {vs : List V} {ds : List D} {i : Nat} {d : D}, RepL g B H vs ds → ds[i]? = some d → ∃ v, vs[i]? = some v ∧ Rep g B H v d
  | _, _, _, _, .nil, e => by simp at e
  | _, _, 0, _, .cons h _, e => by simp at e; subst e; exact ⟨_, rfl, h⟩
  | _, _, i + 1, _, .cons _ r, e => by
    obtain ⟨v, h1, h2⟩ := RepL.get (i := i) r (by simpa using e)
    exact ⟨v, by simpa using h1, h2⟩
theorem RepL.get' : ∀ {vs : List V} {ds : List D} {i : Nat} {v : V}, RepL g B H vs ds → vs[i]? = some v → ∃ d, ds[i]? = some d ∧ Rep g B H v d
  | _, _, _, _, .nil, e => by simp at e
  | _, _, 0, _, .cons h _, e => by simp at e; subst e; exact ⟨_, rfl, h⟩
  | _, _, i + 1, _, .cons _ r, e => by
    obtain ⟨v, h1, h2⟩ := RepL.get' (i := i) r (by simpa using e)
    exact ⟨v, by simpa using h1, h2⟩
theorem RepL.append : ∀ {vs ws : List V} {ds es : List D}, RepL g B H vs ds → RepL g B H ws es → RepL g B H (vs ++ ws) (ds ++ es)
  | _, _, _, _, .nil, s => s
  | _, _, _, _, .cons h r, s => .cons h (RepL.append r s)
theorem RepL.take : ∀ {vs : List V} {ds : List D} (n : Nat), RepL g B H vs ds → RepL g B H (vs.take n) (ds.take n)
  | _, _, 0, _ => .nil
  | _, _, _ + 1, .nil => .nil
  | _, _, n + 1, .cons h r => .cons h (RepL.take n r)
theorem RepL.drop : ∀ {vs : List V} {ds : List D} (n : Nat), RepL g B H vs ds → RepL g B H (vs.drop n) (ds.drop n)
  | _, _, 0, r => r
  | _, _, _ + 1, .nil => .nil
  | _, _, n + 1, .cons _ r => RepL.drop n r
theorem RepL.set {v : V} {d : D} (h : Rep g B H v d) : ∀ {vs : List V} {ds : List D} (i : Nat), RepL g B H vs ds → RepL g B H (vs.set i v) (ds.set i d)
  | _, _, _, .nil => .nil
  | _, _, 0, .cons _ r => .cons h r
  | _, _, i + 1, .cons q r => .cons q (RepL.set h i r)
theorem RepL.rep : ∀ {vs : List V} {ds : List D} (k : Nat), RepL g B H vs ds → RepL g B H (List.replicate k vs).flatten (List.replicate k ds).flatten
  | _, _, 0, _ => .nil
  | vs, ds, k + 1, h => by
    rw [List.replicate_succ, List.replicate_succ, List.flatten_cons, List.flatten_cons]
    exact h.append (RepL.rep k h)
theorem RepL.ints : ∀ (ns : List Int), RepL g B H (ns.map V.int) (ns.map D.int)
  | [] => .nil
  | n :: ns => .cons (.int n) (RepL.ints ns)
theorem RepL.ints_inv : ∀ {vs : List V} {ns : List Int}, RepL g B H vs (ns.map D.int) → vs = ns.map V.int
  | _, [], .nil => rfl
  | _, n :: ns, .cons (.int _) r => by rw [RepL.ints_inv r]; rfl
theorem RepL.strs_inv : ∀ {vs : List V} {ns : List Str}, RepL g B H vs (ns.map D.str) → vs = ns.map V.str
  | _, [], .nil => rfl
  | _, n :: ns, .cons (.str _) r => by rw [RepL.strs_inv r]; rfl
theorem RepL.bls_inv : ∀ {vs : List V} {ns : List Bool}, RepL g B H vs (ns.map D.bl) → vs = ns.map V.bl
  | _, [], .nil => rfl
  | _, n :: ns, .cons (.bl _) r => by rw [RepL.bls_inv r]; rfl
end

/-! ### trees -/
/-- a list or dict at a of shared things -/
def Top (g : G) (B : AS) (H : Hp) (a : Addr) : D → Prop
  | .lst ds => ∃ vs, H a = some (.lst vs) ∧ RepL g B H vs ds
  | .dk ds => ∃ kvs, Rd H a (.dK kvs) ∧ kvs.map (·.1) = ds.map (·.1) ∧ RepL g B H (kvs.map (·.2)) (ds.map (·.2))
  | .dt ds => ∃ kvs, Rd H a (.dT kvs) ∧ kvs.map (·.1) = ds.map (·.1) ∧ RepL g B H (kvs.map (·.2)) (ds.map (·.2))
  | _ => False
mutual
inductive OT (g : G) (B : AS) (H : Hp) : V → T → AS → Prop
  | lf {v : V} {d : D} {S : AS} : Rep g B H v d → OT g B H v (.lf d) S
  | pl {a : Addr} {d : D} {S : AS} : S a → Top g B H a d → OT g B H (.ref a) (.pl d) S
  | lst {a : Addr} {vs : List V} {ts : List T} {S : AS} (S' : AS) : S a → H a = some (.lst vs) → (∀ b, S' b → S b) → ¬ S' a → OTs g B H vs ts S' → OT g B H (.ref a) (.lst ts) S
  | dk {a : Addr} {kvs : List (Key × V)} {ks : List Key} {ts : List T} {S : AS} (S' : AS) : S a → Rd H a (.dK kvs) → kvs.map (·.1) = ks → (∀ b, S' b → S b) → ¬ S' a → OTs g B H (kvs.map (·.2)) ts S' → OT g B H (.ref a) (.dk ks ts) S
  | ins {a dx : Addr} {c : Nat} {fs : List (Str × V)} {ts : List T} {S : AS} (S' : AS) : S a → H a = some (.ins (g.cl c) dx fs) → fs.map (·.1) = (g.at_ c).take ts.length → (∀ b, S' b → S b) → ¬ S' a → OTs g B H (fs.map (·.2)) ts S' → OT g B H (.ref a) (.ins c ts) S
inductive OTs (g : G) (B : AS) (H : Hp) : List V → List T → AS → Prop
  | nil {S : AS} : OTs g B H [] [] S
  | cons {v : V} {vs : List V} {t : T} {ts : List T} {S : AS} (S1 S2 : AS) : (∀ a, S1 a → S a) → (∀ a, S2 a → S a) → (∀ a, S1 a → ¬ S2 a) → OT g B H v t S1 → OTs g B H vs ts S2 → OTs g B H (v :: vs) (t :: ts) S
end
section
variable {g : G} {B B' : AS} {H H' : Hp} {S S' : AS} {v : V} {t : T} {d : D} {a : Addr}
theorem Top.tr (t : Tr B H B' H') (k : ∀ u, H a = some u → Lk u (H' a)) (h : Top g B H a d) : Top g B' H' a d := by
  cases d with
  | lst ds => obtain ⟨vs, e, r⟩ := h; exact ⟨vs, (k _ e).at nDc_lst, r.tr t⟩
  | dk ds => obtain ⟨vs, e, q, r⟩ := h; exact ⟨vs, Lk.rd dc_k e k, q, r.tr t⟩
  | dt ds => obtain ⟨vs, e, q, r⟩ := h; exact ⟨vs, Lk.rd dc_t e k, q, r.tr t⟩
  | _ => exact h.elim
mutual
theorem OT.tr (t : Tr B H B' H') : ∀ {v : V} {x : T} {S : AS}, (∀ a u, S a → H a = some u → Lk u (H' a)) → OT g B H v x S → OT g B' H' v x S
  | _, _, _, _, .lf h => .lf (h.tr t)
  | _, _, _, k, .pl s h => .pl s (h.tr t fun u e => k _ u s e)
  | _, _, _, k, .lst S' s h w n r => .lst S' s ((k _ _ s h).at nDc_lst) w n (OTs.tr t (fun a u z e => k a u (w a z) e) r)
  | _, _, _, k, .dk S' s h e w n r => .dk S' s (Lk.rd dc_k h fun u q => k _ u s q) e w n (OTs.tr t (fun a u z e => k a u (w a z) e) r)
  | _, _, _, k, .ins S' s h e w n r => .ins S' s ((k _ _ s h).at nDc_ins) e w n (OTs.tr t (fun a u z e => k a u (w a z) e) r)
theorem OTs.tr (t : Tr B H B' H') : ∀ {vs : List V} {xs : List T} {S : AS}, (∀ a u, S a → H a = some u → Lk u (H' a)) → OTs g B H vs xs S → OTs g B' H' vs xs S
  | _, _, _, _, .nil => .nil
  | _, _, _, k, .cons S1 S2 w1 w2 ds h r => .cons S1 S2 w1 w2 ds (OT.tr t (fun a u z e => k a u (w1 a z) e) h) (OTs.tr t (fun a u z e => k a u (w2 a z) e) r)
end
theorem OT.same (s : Same H H') (h : OT g B H v t S) : OT g B H' v t S := h.tr (Tr.same s) fun a u _ e => .inl (s a u e)
theorem OT.less (k : ∀ a, B' a → B a) (h : OT g B H v t S) : OT g B' H v t S := h.tr (Tr.less k) fun a u _ e => .inl e
theorem OTs.less {vs : List V} {ts : List T} (k : ∀ a, B' a → B a) (h : OTs g B H vs ts S) : OTs g B' H vs ts S := h.tr (Tr.less k) fun a u _ e => .inl e
theorem OT.more (k : ∀ a, S a → S' a) (h : OT g B H v t S) : OT g B H v t S' := by
  cases h with
  | lf h => exact .lf h
  | pl s h => exact .pl (k _ s) h
  | lst X s h w n r => exact .lst X (k _ s) h (fun b z => k b (w b z)) n r
  | dk X s h e w n r => exact .dk X (k _ s) h e (fun b z => k b (w b z)) n r
  | ins X s h e w n r => exact .ins X (k _ s) h e (fun b z => k b (w b z)) n r
theorem OTs.more {vs : List V} {ts : List T} (k : ∀ a, S a → S' a) (h : OTs g B H vs ts S) : OTs g B H vs ts S' := by
  cases h with
  | nil => exact .nil
  | cons S1 S2 w1 w2 ds h r => exact .cons S1 S2 (fun a z => k a (w1 a z)) (fun a z => k a (w2 a z)) ds h r
theorem OTs.length : ∀ {vs : List V} {ts : List T} {S : AS}, OTs g B H vs ts S → vs.length = ts.length
  | _, _, _, .nil => rfl
  | _, _, _, .cons _ _ _ _ _ _ r => congrArg Nat.succ r.length
/-- anything, read -/
theorem zip_fst {α β γ : Type} : ∀ {l : List (α × β)} {xs : List γ}, l.length = xs.length → ((l.map (·.1)).zip xs).map (·.1) = l.map (·.1)
  | [], [], _ => rfl
  | p :: l, x :: xs, h => by simp only [List.map_cons, List.zip_cons_cons]; rw [zip_fst (by simpa using h)]
  | [], _ :: _, h => by simp at h
  | _ :: _, [], h => by simp at h
theorem zip_snd {α β γ : Type} : ∀ {l : List (α × β)} {xs : List γ}, l.length = xs.length → ((l.map (·.1)).zip xs).map (·.2) = xs
  | [], [], _ => rfl
  | p :: l, x :: xs, h => by simp only [List.map_cons, List.zip_cons_cons]; rw [zip_snd (by simpa using h)]
  | [], _ :: _, h => by simp at h
  | _ :: _, [], h => by simp at h
theorem Top.rep (ho : ¬ B a) (h : Top g B H a d) : Rep g B H (.ref a) d := by
  cases d with
  | lst ds => obtain ⟨vs, e, r⟩ := h; exact .lst e ho r
  | dk ds => obtain ⟨vs, e, q, r⟩ := h; exact .dk e ho q r
  | dt ds => obtain ⟨vs, e, q, r⟩ := h; exact .dt e ho q r
  | _ => exact h.elim
theorem Top.there (h : Top g B H a d) : ∃ u, H a = some u := by
  cases d with
  | lst ds => obtain ⟨vs, e, r⟩ := h; exact ⟨_, e⟩
  | dk ds => obtain ⟨vs, e, q, r⟩ := h; exact rd_some e
  | dt ds => obtain ⟨vs, e, q, r⟩ := h; exact rd_some e
  | _ => exact h.elim
mutual
theorem OT.view (t : Tr B H B' H') : ∀ {v : V} {x : T} {S : AS}, (∀ a u, S a → H a = some u → ¬ B' a ∧ Lk u (H' a)) → OT g B H v x S → Rep g B' H' v x.d
  | _, _, _, _, .lf h => h.tr t
  | _, .pl d, _, k, .pl s h => Top.rep (let ⟨u, e⟩ := h.there; (k _ u s e).1) (h.tr t fun u e => (k _ u s e).2)
  | _, .lst ts, _, k, .lst S' s h w n r => .lst ((k _ _ s h).2.at nDc_lst) (k _ _ s h).1 (OTs.view t (fun a u z e => k a u (w a z) e) r)
  | _, .dk ks ts, _, k, .dk (kvs := kvs) S' s h e w n r => by
      subst e
      have hl : kvs.length = (T.ds ts).length := by have := r.length; rw [T.ds_map]; simpa using this
      refine .dk (Lk.rd dc_k h fun u q => (k _ u s q).2) (let ⟨u, q⟩ := rd_some h; (k _ u s q).1) (zip_fst hl).symm ?_
      rw [zip_snd hl]
      exact OTs.view t (fun a u z e => k a u (w a z) e) r
  | _, .ins c ts, _, k, .ins S' s h e w n r => .ins ((k _ _ s h).2.at nDc_ins) (k _ _ s h).1 (by rw [T.ds_map, List.length_map]; exact e) (OTs.view t (fun a u z e => k a u (w a z) e) r)
theorem OTs.view (t : Tr B H B' H') : ∀ {vs : List V} {xs : List T} {S : AS}, (∀ a u, S a → H a = some u → ¬ B' a ∧ Lk u (H' a)) → OTs g B H vs xs S → RepL g B' H' vs (T.ds xs)
  | _, _, _, _, .nil => .nil
  | _, _, _, k, .cons S1 S2 w1 w2 ds h r => .cons (OT.view t (fun a u z e => k a u (w1 a z) e) h) (OTs.view t (fun a u z e => k a u (w2 a z) e) r)
end
theorem OT.see (h : OT g B H v t S) : Rep g .no H v t.d := h.view (Tr.less fun _ z => z.elim) fun a u _ e => ⟨fun z => z, .inl e⟩
theorem Rep.see (h : Rep g B H v d) : Rep g .no H v d := h.tr (Tr.less fun _ z => z.elim)
theorem Rep.same (s : Same H H') (h : Rep g B H v d) : Rep g B H' v d := h.tr (Tr.same s)
theorem RepL.same {vs : List V} {ds : List D} (s : Same H H') (h : RepL g B H vs ds) : RepL g B H' vs ds := h.tr (Tr.same s)
theorem Rep.less (k : ∀ a, B' a → B a) (h : Rep g B H v d) : Rep g B' H v d := h.tr (Tr.less k)
theorem RepL.less {vs : List V} {ds : List D} (k : ∀ a, B' a → B a) (h : RepL g B H vs ds) : RepL g B' H vs ds := h.tr (Tr.less k)
/-- the top's object is there -/
theorem OT.there (h : OT g B H (.ref a) t S) (k : ∀ d, t ≠ .lf d) : S a ∧ ∃ u, H a = some u := by
  cases h with
  | lf h => exact absurd rfl (k _)
  | pl s h => exact ⟨s, h.there⟩
  | lst X s h w n r => exact ⟨s, _, h⟩
  | dk X s h e w n r => exact ⟨s, rd_some h⟩
  | ins X s h e w n r => exact ⟨s, _, h⟩
end

/-! ### results -/
inductive R where
  /-- shared data; a fresh tree; a borrowed one; a look at what a name owns -/
  | shr (d : D) | own (t : T) | tmp (t : T) | vw (t : T)
  deriving Inhabited
def R.d : R → D
  | .shr d => d
  | .own t => t.d
  | .tmp t => t.d
  | .vw t => t.d
/-- .. of shared things at most -/
def R.sh : R → Option D
  | .shr d => some d
  | .own t => t.sh
  | .tmp t => t.sh
  | .vw t => t.sh
theorem R.sh_d {r : R} {d : D} (h : r.sh = some d) : r.d = d := by
  cases r with
  | shr x => exact Option.some.inj h
  | own t => exact T.sh_d h
  | tmp t => exact T.sh_d h
  | vw t => exact T.sh_d h
/-- new since H0, and to be changed -/
def Fr (H0 H : Hp) (S : AS) : Prop := ∀ a, S a → H0 a = none ∧ ∃ u, H a = some u ∧ mutK u
/-- an expression's value: H0 the heap ahead of it -/
def XR (g : G) (M O : AS) (H0 H : Hp) (v : V) : R → Prop
  | .shr d => Rep g (M.u O) H v d
  | .own t => ∃ S : AS, Fr H0 H S ∧ OT g ((M.u O).u S) H v t S
  | .tmp t => ∃ S : AS, (∀ a, S a → M a) ∧ OT g (M.u O) H v t S
  | .vw t => ∃ S : AS, (∀ a, S a → O a) ∧ OT g (M.u O) H v t S
/-- the sets tell of tracked things that can change -/
def mutL (u : HO) : Prop := mutK u ∨ ∃ b w, u = .frz b w
structure Cd (M O : AS) (H : Hp) : Prop where
  m : ∀ a, M a → ∃ u, H a = some u ∧ mutL u
  o : ∀ a, O a → ∃ u, H a = some u ∧ mutK u
  d : ∀ a, O a → ¬ M a
section
variable {g : G} {M O M' O' : AS} {H0 H H' : Hp} {v : V} {d : D} {r : R} {a : Addr}
theorem Cd.same (c : Cd M O H) (s : Same H H') : Cd M O H' := ⟨fun a h => let ⟨u, e, k⟩ := c.m a h; ⟨u, s _ _ e, k⟩, fun a h => let ⟨u, e, k⟩ := c.o a h; ⟨u, s _ _ e, k⟩, c.d⟩
theorem Cd.all (c : Cd M O H) : ∀ a, (M.u O) a → ∃ u, H a = some u ∧ mutL u := fun a z => z.elim (c.m a) fun z => let ⟨u, e, k⟩ := c.o a z; ⟨u, e, .inl k⟩
theorem Cd.tup (c : Cd M O H) {vs : List V} (h : H a = some (.tup vs)) : ¬ (M.u O) a := fun z => by
  obtain ⟨u, e, k⟩ := c.all a z
  rw [h] at e; cases e
  rcases k with k | ⟨b, w, k⟩
  · exact k
  · cases k
theorem Cd.fresh (c : Cd M O H) (h : H a = none) : ¬ (M.u O) a := fun z => by
  rcases z with z | z
  · obtain ⟨u, e, _⟩ := c.m a z; rw [h] at e; cases e
  · obtain ⟨u, e, _⟩ := c.o a z; rw [h] at e; cases e
theorem XR.same (s : Same H H') (h : XR g M O H0 H v r) : XR g M O H0 H' v r := by
  cases r with
  | shr d => exact Rep.same s h
  | own t => obtain ⟨S, f, q⟩ := h; exact ⟨S, fun a z => ⟨(f a z).1, let ⟨u, e, m⟩ := (f a z).2; ⟨u, s _ _ e, m⟩⟩, q.same s⟩
  | tmp t => obtain ⟨S, f, q⟩ := h; exact ⟨S, f, q.same s⟩
  | vw t => obtain ⟨S, f, q⟩ := h; exact ⟨S, f, q.same s⟩
theorem XR.base {H00 : Hp} (s : Same H00 H0) (h : XR g M O H0 H v r) : XR g M O H00 H v r := by
  cases r with
  | shr d => exact h
  | own t => obtain ⟨S, f, q⟩ := h; exact ⟨S, fun a z => ⟨s.free (f a z).1, (f a z).2⟩, q⟩
  | tmp t => exact h
  | vw t => exact h
/-- anything, read -/
theorem XR.view (h : XR g M O H0 H v r) : Rep g .no H v r.d := by
  cases r with
  | shr d => exact Rep.see h
  | own t => obtain ⟨S, f, q⟩ := h; exact q.see
  | tmp t => obtain ⟨S, f, q⟩ := h; exact q.see
  | vw t => obtain ⟨S, f, q⟩ := h; exact q.see
theorem XR.flat_int {i : Int} (h : XR g M O H0 H v r) (e : r.d = .int i) : v = .int i := by
  have q := h.view; rw [e] at q; cases q; rfl
theorem XR.flat_str {i : Str} (h : XR g M O H0 H v r) (e : r.d = .str i) : v = .str i := by
  have q := h.view; rw [e] at q; cases q; rfl
theorem XR.flat_bl {i : Bool} (h : XR g M O H0 H v r) (e : r.d = .bl i) : v = .bl i := by
  have q := h.view; rw [e] at q; cases q; rfl
theorem XR.flat_non (h : XR g M O H0 H v r) (e : r.d = .non) : v = .non := by
  have q := h.view; rw [e] at q; cases q; rfl
theorem XR.scr {ns : List Int} (h : XR g M O H0 H v r) (e : r.d = .scr ns) : ∃ a, v = .ref a ∧ SqL g.K H a (ns.map V.int) := by
  have q := h.view; rw [e] at q
  cases q with
  | scr h =>
    refine ⟨_, rfl, ?_⟩
    exact h.imp (fun h => h.1) id
/-- a list, a tuple, a dict, an instance, read -/
theorem XR.lstV {ds : List D} (h : XR g M O H0 H v r) (e : r.d = .lst ds) : ∃ a vs, v = .ref a ∧ H a = some (.lst vs) ∧ RepL g .no H vs ds := by
  have q := h.view; rw [e] at q
  cases q with
  | lst hh _ rr => exact ⟨_, _, rfl, hh, rr⟩
theorem XR.tupV {ds : List D} (h : XR g M O H0 H v r) (e : r.d = .tup ds) : ∃ a vs, v = .ref a ∧ H a = some (.tup vs) ∧ RepL g .no H vs ds := by
  have q := h.view; rw [e] at q
  cases q with
  | tup hh _ rr => exact ⟨_, _, rfl, hh, rr⟩
theorem XR.dkV {ds : List (Key × D)} (h : XR g M O H0 H v r) (e : r.d = .dk ds) : ∃ a kvs, v = .ref a ∧ Rd H a (.dK kvs) ∧ kvs.map (·.1) = ds.map (·.1) ∧ RepL g .no H (kvs.map (·.2)) (ds.map (·.2)) := by
  have q := h.view; rw [e] at q
  cases q with
  | dk hh _ qq rr => exact ⟨_, _, rfl, hh, qq, rr⟩
theorem XR.dtV {ds : List (List Key × D)} (h : XR g M O H0 H v r) (e : r.d = .dt ds) : ∃ a kvs, v = .ref a ∧ Rd H a (.dT kvs) ∧ kvs.map (·.1) = ds.map (·.1) ∧ RepL g .no H (kvs.map (·.2)) (ds.map (·.2)) := by
  have q := h.view; rw [e] at q
  cases q with
  | dt hh _ qq rr => exact ⟨_, _, rfl, hh, qq, rr⟩
theorem XR.insV {c : Nat} {ds : List D} (h : XR g M O H0 H v r) (e : r.d = .ins c ds) : ∃ a dx fs, v = .ref a ∧ H a = some (.ins (g.cl c) dx fs) ∧ fs.map (·.1) = (g.at_ c).take ds.length ∧ RepL g .no H (fs.map (·.2)) ds := by
  have q := h.view; rw [e] at q
  cases q with
  | ins hh _ qq rr => exact ⟨_, _, _, rfl, hh, qq, rr⟩
/-- .. of shared things -/
def Nod (g : G) (B : AS) (H : Hp) (v : V) : D → Prop
  | .lst ds => ∃ a vs, v = .ref a ∧ H a = some (.lst vs) ∧ RepL g B H vs ds
  | .tup ds => ∃ a vs, v = .ref a ∧ H a = some (.tup vs) ∧ RepL g B H vs ds
  | .dk ds => ∃ a kvs, v = .ref a ∧ Rd H a (.dK kvs) ∧ kvs.map (·.1) = ds.map (·.1) ∧ RepL g B H (kvs.map (·.2)) (ds.map (·.2))
  | .dt ds => ∃ a kvs, v = .ref a ∧ Rd H a (.dT kvs) ∧ kvs.map (·.1) = ds.map (·.1) ∧ RepL g B H (kvs.map (·.2)) (ds.map (·.2))
  | .ins c ds => ∃ a dx fs, v = .ref a ∧ H a = some (.ins (g.cl c) dx fs) ∧ fs.map (·.1) = (g.at_ c).take ds.length ∧ RepL g B H (fs.map (·.2)) ds
  | _ => True
theorem Rep.nod {B : AS} (h : Rep g B H v d) : Nod g B H v d := by
  cases h with
  | lst h _ r => exact ⟨_, _, rfl, h, r⟩
  | tup h _ r => exact ⟨_, _, rfl, h, r⟩
  | dk h _ q r => exact ⟨_, _, rfl, h, q, r⟩
  | dt h _ q r => exact ⟨_, _, rfl, h, q, r⟩
  | ins h _ q r => exact ⟨_, _, _, rfl, h, q, r⟩
  | _ => exact trivial
theorem Top.nod {B : AS} (h : Top g B H a d) : Nod g B H (.ref a) d := by
  cases d with
  | lst ds => obtain ⟨vs, e, r⟩ := h; exact ⟨_, _, rfl, e, r⟩
  | dk ds => obtain ⟨vs, e, q, r⟩ := h; exact ⟨_, _, rfl, e, q, r⟩
  | dt ds => obtain ⟨vs, e, q, r⟩ := h; exact ⟨_, _, rfl, e, q, r⟩
  | _ => exact h.elim
theorem Nod.less {B B' : AS} (k : ∀ a, B' a → B a) (h : Nod g B H v d) : Nod g B' H v d := by
  cases d with
  | lst ds => obtain ⟨a, vs, e1, e, r⟩ := h; exact ⟨a, vs, e1, e, r.less k⟩
  | tup ds => obtain ⟨a, vs, e1, e, r⟩ := h; exact ⟨a, vs, e1, e, r.less k⟩
  | dk ds => obtain ⟨a, vs, e1, e, q, r⟩ := h; exact ⟨a, vs, e1, e, q, r.less k⟩
  | dt ds => obtain ⟨a, vs, e1, e, q, r⟩ := h; exact ⟨a, vs, e1, e, q, r.less k⟩
  | ins c ds => obtain ⟨a, dx, fs, e1, e, q, r⟩ := h; exact ⟨a, dx, fs, e1, e, q, r.less k⟩
  | _ => exact trivial
theorem OT.nod {B S : AS} {t : T} (h : OT g B H v t S) (e : t.sh = some d) : Nod g B H v d := by
  cases h with
  | lf h => cases e; exact h.nod
  | pl s h => cases e; exact h.nod
  | _ => cases e
theorem XR.nod (h : XR g M O H0 H v r) (e : r.sh = some d) : Nod g (M.u O) H v d := by
  cases r with
  | shr x => cases e; exact Rep.nod h
  | own t => obtain ⟨S, f, q⟩ := h; exact (q.nod e).less fun a z => .inl z
  | tmp t => obtain ⟨S, f, q⟩ := h; exact q.nod e
  | vw t => obtain ⟨S, f, q⟩ := h; exact q.nod e
/-- a fresh thing, or a shared one, as shared data -/
theorem OT.shared {B S : AS} {t : T} (h : OT g (B.u S) H v t S) (f : ∀ a u, S a → H a = some u → ¬ B a) : Rep g B H v t.d :=
  h.view (Tr.less fun a z => .inl z) fun a u z e => ⟨f a u z e, .inl e⟩
theorem XR.shr_own {t : T} (c : Cd M O H0) (h : XR g M O H0 H v (.own t)) : Rep g (M.u O) H v t.d := by
  obtain ⟨S, f, q⟩ := h
  exact q.shared fun a u z _ => c.fresh (f a z).1
end
end Q

end

section
set_option Elab.async false
set_option linter.all false
set_option maxRecDepth 100000
set_option maxHeartbeats 1000000
/-! Q1: operations by data. -/
namespace Q
noncomputable section
open PySem PySem.Spec PyProof.Rows L2

/-! ### data as the library's own -/
mutual
def py : D → PyData
  | .bl b => .bool b
  | .int i => .int i
  | .str x => .str x
  | .lst xs => .list (pyL xs)
  | .tup xs => .tuple (pyL xs)
  | .scr ns => .list (ns.map .int)
  | _ => .none
def pyL : List D → List PyData
  | [] => []
  | x :: xs => py x :: pyL xs
end
def sok (x : Str) : Bool := PyData.strOk x
mutual
def lay : Nat → D → Bool
  | _, .non => true
  | _, .bl _ => true
  | _, .int _ => true
  | _, .str x => sok x
  | n, .lst xs => (match n with | 0 => false | n + 1 => layL n xs)
  | n, .tup xs => (match n with | 0 => false | n + 1 => layL n xs)
  | n, .scr _ => (match n with | 0 => false | _ + 1 => true)
  | _, _ => false
def layL : Nat → List D → Bool
  | _, [] => true
  | n, x :: xs => lay n x && layL n xs
end
theorem ints_can : ∀ ns : List Int, PyData.canLayAll0 (ns.map PyData.int) = true
  | [] => rfl
  | n :: ns => by simp [PyData.canLayAll0, PyData.canLay0, ints_can ns]
theorem ints_depth : ∀ ns : List Int, PyData.depthAll (ns.map PyData.int) = 0
  | [] => rfl
  | n :: ns => by simp [PyData.depthAll, PyData.depth, ints_depth ns]
mutual
theorem lay_ok : ∀ {n : Nat} (d : D), lay n d = true → (py d).canLay0 = true ∧ (py d).depth ≤ n
  | n, .non, _ => by simp [py, PyData.canLay0, PyData.depth]
  | n, .bl _, _ => by simp [py, PyData.canLay0, PyData.depth]
  | n, .int _, _ => by simp [py, PyData.canLay0, PyData.depth]
  | n, .str x, h => by simp only [lay, sok] at h; simp [py, PyData.canLay0, PyData.depth, h]
  | 0, .lst xs, h => by simp [lay] at h
  | n + 1, .lst xs, h => by
    have := layL_ok xs (show layL n xs = true by simpa only [lay] using h)
    simp [py, PyData.canLay0, PyData.depth]; exact this
  | 0, .tup xs, h => by simp [lay] at h
  | n + 1, .tup xs, h => by
    have := layL_ok xs (show layL n xs = true by simpa only [lay] using h)
    simp [py, PyData.canLay0, PyData.depth]; exact this
  | 0, .scr ns, h => by simp [lay] at h
  | n + 1, .scr ns, h => by simp [py, PyData.canLay0, PyData.depth, ints_can, ints_depth]
  | n, .dk _, h => by simp [lay] at h
  | n, .dt _, h => by simp [lay] at h
  | n, .ins _ _, h => by simp [lay] at h
  | n, .clo _ _, h => by simp [lay] at h
theorem layL_ok : ∀ {n : Nat} (ds : List D), layL n ds = true → PyData.canLayAll0 (pyL ds) = true ∧ PyData.depthAll (pyL ds) ≤ n
  | n, [], _ => by simp [pyL, PyData.canLayAll0, PyData.depthAll]
  | n, x :: xs, h => by
    simp only [layL, Bool.and_eq_true] at h
    have h1 := lay_ok x h.1
    have h2 := layL_ok xs h.2
    simp only [pyL, PyData.canLayAll0, PyData.depthAll, h1.1, h2.1, Bool.and_self, true_and]
    omega
end
theorem shaped_of {d : D} (h : lay 60 d = true) : SeqAt.shaped (py d) = true := by
  have q := lay_ok d h
  unfold SeqAt.shaped
  rw [q.1, Bool.true_and]
  exact decide_eq_true (by omega)
theorem KLst.sq {K : PySem.W.Frag} {H : Hp} {a : Addr} {xs : List V} (h : KLst K a xs) : SqL K H a xs := .inr h
section
variable {g : G} {B : AS} {H : Hp}
theorem dp_ints : ∀ ns : List Int, DpAll g.K H (ns.map V.int) (ns.map PyData.int)
  | [] => .nil
  | n :: ns => .cons (.int n) (dp_ints ns)
mutual
theorem Rep.dp : ∀ {n : Nat} {v : V} {d : D}, Rep g B H v d → lay n d = true → Dp g.K H v (py d)
  | _, _, _, .non, _ => .non
  | _, _, _, .bl b, _ => .bl b
  | _, _, _, .int i, _ => .int i
  | _, _, _, .str x, _ => .str x
  | _, _, _, .scr (a := a) (ns := ns) h, _ => by
    simp only [py]
    refine .lst (xs := ns.map V.int) ?_ (dp_ints ns)
    exact h.imp (fun h => h.1) id
  | 0, _, _, .tup h ho r, e => by simp [lay] at e
  | n + 1, _, _, .tup h ho r, e => by
    simp only [py]
    exact .tup (SqT.of h) (RepL.dp (n := n) r (by simpa only [lay] using e))
  | 0, _, _, .lst h ho r, e => by simp [lay] at e
  | n + 1, _, _, .lst h ho r, e => by
    simp only [py]
    exact .lst (SqL.of h) (RepL.dp (n := n) r (by simpa only [lay] using e))
  | _, _, _, .dk .., e => by simp [lay] at e
  | _, _, _, .dt .., e => by simp [lay] at e
  | _, _, _, .ins .., e => by simp [lay] at e
  | _, _, _, .clo .., e => by simp [lay] at e
theorem RepL.dp : ∀ {n : Nat} {vs : List V} {ds : List D}, RepL g B H vs ds → layL n ds = true → DpAll g.K H vs (pyL ds)
  | _, _, _, .nil, _ => .nil
  | _, _, _, .cons h r, e => by
    simp only [layL, Bool.and_eq_true] at e
    exact .cons (Rep.dp h e.1) (RepL.dp r e.2)
end
theorem XR.dp {M O : AS} {H0 : Hp} {v : V} {r : R} (h : XR g M O H0 H v r) (e : lay 60 r.d = true) : Dp g.K H v (py r.d) := Rep.dp h.view e
end

/-! ### the surroundings of a piece of code -/
structure Fit (X : Cx) (g : G) (n : Nat) : Prop where
  K : X.K = g.K
  calm : X.calm = true
  nd : X.N.Nodup
  room : Room n X.A
section
variable {X : Cx} {g : G} {n : Nat}
theorem Fit.hu (f : Fit X g n) : X.A.units + 1 < cLine := hu_of f.room
theorem Fit.hu64 (f : Fit X g n) : X.A.units + 64 < cLine := f.room.units
theorem Fit.hu65 (f : Fit X g n) : X.A.units + 65 < cLine := by have := f.room.un; omega
/-- the same, within an except suite too -/
structure FitB (X : Cx) (g : G) : Prop where
  K : X.K = g.K
  nd : X.N.Nodup
  hu65 : X.A.units + 65 < cLine
theorem FitB.hu64 (f : FitB X g) : X.A.units + 64 < cLine := by have := f.hu65; omega
theorem FitB.hu (f : FitB X g) : X.A.units + 1 < cLine := by have := f.hu65; omega
theorem Fit.b (f : Fit X g n) : FitB X g := ⟨f.K, f.nd, f.hu65⟩
instance : CoeOut (Fit X g n) (FitB X g) := ⟨Fit.b⟩
end

/-! ### arithmetic -/
def keyD : D → Option Key
  | .int i => some (.inl i)
  | .str x => some (.inr x)
  | _ => none
def keysD : List D → Option (List Key)
  | [] => some []
  | d :: ds => (match keyD d with
    | some k => (match keysD ds with
      | some ks => some (k :: ks)
      | none => none)
    | none => none)
def rI (i : Int) : R := .shr (.int i)
def rS (x : Str) : R := .shr (.str x)
def rB (b : Bool) : R := .shr (.bl b)
def rL (ds : List D) : R := .own (.pl (.lst ds))
def repS (x : Str) (n : Nat) : Str := ⟨(List.replicate n x.cps.toList).flatten.toArray⟩
def binD (op : Operator) : D → D → Option R
  | .int i, .int j => (match op with
    | .Add => some (rI (i + j))
    | .Sub => some (rI (i - j))
    | .Mult => @ite _ ((-(2 ^ 64) < i ∧ i < 2 ^ 64) ∨ (-(2 ^ 64) < j ∧ j < 2 ^ 64)) (Classical.propDecidable _) (some (rI (i * j))) none
    | .FloorDiv => @ite _ (0 < j ∧ j < 2 ^ 4096) (Classical.propDecidable _) (some (rI (i / j))) none
    | .Mod => @ite _ (0 < j) (Classical.propDecidable _) (some (rI (i % j))) none
    | .Pow => @ite _ (0 ≤ j ∧ j ≤ 1000000 ∧ i.natAbs < 2 ^ 64) (Classical.propDecidable _) (some (rI (i ^ j.toNat))) none
    | .LShift => @ite _ (0 ≤ j ∧ j ≤ 1000000 ∧ i.natAbs < 2 ^ 64) (Classical.propDecidable _) (some (rI (i * 2 ^ j.toNat))) none
    | .RShift => @ite _ (0 ≤ j) (Classical.propDecidable _) (some (rI (i / 2 ^ j.toNat))) none
    | .BitAnd => some (rI (Builtin.bitAnd i j))
    | .BitXor => some (rI (Builtin.bitXor i j))
    | _ => none)
  | .str x, .str y => (match op with
    | .Add => @ite _ (x.length + y.length ≤ sizeLine) (Classical.propDecidable _) (some (rS (x ++ y))) none
    | _ => none)
  | .str x, .int k => (match op with
    | .Mult => @ite _ (x.length ≤ 1000 ∧ -1000 ≤ k ∧ k ≤ 1000) (Classical.propDecidable _) (some (rS (repS x k.toNat))) none
    | _ => none)
  | .lst xs, .lst ys => (match op with
    | .Add => @ite _ (xs.length + ys.length ≤ sizeLine) (Classical.propDecidable _) (some (rL (xs ++ ys))) none
    | _ => none)
  | .lst xs, .int k => (match op with
    | .Mult => @ite _ (-(2 ^ 63) ≤ k ∧ k < 2 ^ 63 ∧ xs.length * k.toNat ≤ sizeLine) (Classical.propDecidable _) (some (rL (List.replicate k.toNat xs).flatten)) none
    | _ => none)
  | .tup xs, .tup ys => (match op with
    | .Add => @ite _ (xs ≠ [] ∧ ys ≠ [] ∧ xs.length + ys.length ≤ sizeLine) (Classical.propDecidable _) (some (.shr (.tup (xs ++ ys)))) none
    | _ => none)
  | _, _ => none
def binR (op : Operator) (ra rb : R) : Option R := match ra.sh with
  | some a => (match rb.sh with
    | some b => binD op a b
    | none => none)
  | none => none

/-- what is asked of an operation by data -/
def ROut (g : G) (M O : AS) (H : Hp) (r : Option R) (Q : VK) : Prop := ∃ r', r = some r' ∧ ∀ v H', Same H H' → XR g M O H H' v r' → Q v H'
def rBin (g : G) (op : Operator) : R2 := fun x y H Q => ∃ M O H0 ra rb, Cd M O H ∧ XR g M O H0 H x ra ∧ XR g M O H0 H y rb ∧ ROut g M O H (binR op ra rb) Q
section
variable {g : G} {M O B : AS} {H H0 H1 : Hp} {v : V} {p : Addr} {o : HO}
theorem same_upd (hp : H p = none) : Same H (upd H p o) := fun b u e => by rw [upd_ne (ne_of_none e hp)]; exact e
/-- a new address is set aside -/
theorem Tr.aside (hp : H p = none) : Tr B H (B.u (.one p)) (upd H p o) :=
  ⟨fun a u h e q => q.elim h fun q => (by cases (show a = p from q); rw [hp] at e; cases e), fun a u _ h => .inl (same_upd hp a u h)⟩
theorem Tr.aside' (hp : H p = none) : Tr B H B (upd H p o) := ⟨fun a u h e q => h q, fun a u _ h => .inl (same_upd hp a u h)⟩
theorem new_lst {vs : List V} {ds : List D} (hp : H p = none) (r : RepL g (M.u O) H vs ds) : XR g M O H (upd H p (.lst vs)) (.ref p) (rL ds) :=
  ⟨.one p, fun a z => by cases (show a = p from z); exact ⟨hp, _, upd_same, trivial⟩, .pl rfl ⟨vs, upd_same, r.tr (Tr.aside hp)⟩⟩
theorem new_tup {vs : List V} {ds : List D} (c : Cd M O H) (hp : H p = none) (r : RepL g (M.u O) H vs ds) : XR g M O H (upd H p (.tup vs)) (.ref p) (.shr (.tup ds)) :=
  .tup upd_same (c.fresh hp) (r.tr (Tr.aside' hp))
end
set_option exponentiation.threshold 5000 in
theorem log2_of {j : Int} (h : 0 < j ∧ j < 2 ^ 4096) : CDivW 0 j := by
  refine wide_div (b := 4096) h.1 ?_ (by decide) (by decide)
  have : j.natAbs < 2 ^ 4096 := by
    have h1 : (j.natAbs : Int) = j := Int.natAbs_of_nonneg (Int.le_of_lt h.1)
    have h2 : ((j.natAbs : Nat) : Int) < ((2 ^ 4096 : Nat) : Int) := by rw [h1]; exact_mod_cast h.2
    exact_mod_cast h2
  exact this
section
variable {X : Cx} {g : G} {n : Nat}
/-- an answer that is a plain number, text, truth -/
theorem fin_shr {M O : AS} {H : Hp} {Q : VK} {v : V} {d : D} {r : Option R} (h : ROut g M O H r Q) (e : r = some (.shr d)) (q : Rep g (M.u O) H v d) : Q v H := by
  obtain ⟨r', e', k⟩ := h
  rw [e] at e'; cases e'
  exact k v H (Same.refl H) q
theorem foldl_app (x : Array Nat) : ∀ (n : Nat) (acc : Array Nat), ((List.replicate n x).foldl (· ++ ·) acc) = acc ++ ((List.replicate n x.toList).flatten.toArray)
  | 0, acc => by simp
  | n + 1, acc => by
    rw [List.replicate_succ, List.foldl_cons, foldl_app x n, List.replicate_succ, List.flatten_cons]
    apply Array.ext'
    simp
theorem repS_fold (x : Str) (n : Nat) : (⟨(List.replicate n x.cps).foldl (· ++ ·) #[]⟩ : Str) = repS x n := by
  rw [foldl_app, repS]
  simp
theorem op_rep_str {X : Cx} : OpR X (binaryOp .Mult) (fun x y H Q => ∃ a k, x = .str a ∧ y = .int k ∧ a.length ≤ 1000 ∧ -1000 ≤ k ∧ k ≤ 1000 ∧ Q (.str (repS a k.toNat)) H) := by
  intro pins s σ H x y v u Q I rx ry h
  obtain ⟨a, k, rfl, rfl, h1, h2, h3, q⟩ := h
  obtain ⟨t, rfl⟩ := rx
  obtain ⟨t', rfl⟩ := ry
  refine P.mul_str ?_ (fun k1 _ => ?_) (fun k1 _ => ?_) ?_
  · rw [decide_eq_false (by omega), decide_eq_false (by omega)]; rfl
  · have : (1 : Int) ≤ (2 ^ 63 - 1) / k := (Int.le_ediv_iff_mul_le (by omega)).mpr (by omega)
    have h4 : (1000 : Int) ≤ (2 ^ 63 - 1) / k := (Int.le_ediv_iff_mul_le (by omega)).mpr (by omega)
    omega
  · have : a.length * k.toNat ≤ 1000 * 1000 := Nat.mul_le_mul h1 (by omega)
    unfold Builtin.Str.tooLong
    rw [sizeLine_eq]
    exact decide_eq_false (by omega)
  · by_cases k1 : k < 1
    · rw [if_pos k1]
      have e : repS a k.toNat = Str.empty := by
        have : k.toNat = 0 := by omega
        rw [this]; rfl
      rw [e] at q
      exact ⟨by show 0 ≤ sizeLine; omega, .str Str.empty, H, I.tok _, ⟨_, rfl⟩, q⟩
    · rw [if_neg k1]
      by_cases k2 : (k == 1 || a.length == 0) = true
      · rw [if_pos k2]
        have e : repS a k.toNat = a := by
          rcases Bool.or_eq_true_iff.mp k2 with z | z
          · have z : k = 1 := by simpa using z
            subst z
            simp [repS]
          · have z : a.cps = #[] := by simpa [Str.length] using z
            cases a
            simp only at z
            subst z
            simp [repS]
        rw [e] at q
        exact ⟨.str a, H, I, ⟨_, rfl⟩, q⟩
      · rw [if_neg k2, repS_fold]
        refine ⟨?_, .str _, H, I.tok _, ⟨_, rfl⟩, q⟩
        have e : (repS a k.toNat).length = k.toNat * a.length := by
          simp [repS, Str.length]
        have : k.toNat * a.length ≤ 1000 * 1000 := Nat.mul_le_mul (by omega) h1
        rw [e, sizeLine_eq]; omega

theorem bin_ok (f : FitB X g) (op : Operator) : OpR X (binaryOp op) (rBin g op) := by
  intro pins s σ H x y v u Q I rx ry h
  obtain ⟨M, O, H0, ra, rb, c, ha, hb, hr⟩ := h
  have hr2 : ∃ da db, ra.sh = some da ∧ rb.sh = some db ∧ ROut g M O H (binD op da db) Q := by
    obtain ⟨r', e, k⟩ := hr
    unfold binR at e
    split at e
    · rename_i da ea
      split at e
      · rename_i db eb
        exact ⟨da, db, ea, eb, r', e, k⟩
      · cases e
    · cases e
  obtain ⟨da, db, ea, eb, hr⟩ := hr2
  have na := ha.nod ea
  have nb := hb.nod eb
  have fa := R.sh_d ea
  have fb := R.sh_d eb
  cases da with
  | int i =>
    cases db with
    | int j =>
      have ex := ha.flat_int fa
      have ey := hb.flat_int fb
      subst ex ey
      cases op with
      | Add => exact op_add pins s σ H _ _ v u Q I rx ry ⟨i, j, rfl, rfl, fin_shr hr rfl (.int _)⟩
      | Sub => exact op_sub pins s σ H _ _ v u Q I rx ry ⟨i, j, rfl, rfl, fin_shr hr rfl (.int _)⟩
      | Mult =>
        by_cases k : (-(2 ^ 64) < i ∧ i < 2 ^ 64) ∨ (-(2 ^ 64) < j ∧ j < 2 ^ 64)
        · exact op_mul pins s σ H _ _ v u Q I rx ry ⟨i, j, rfl, rfl, k, fin_shr hr (by simp only [binD]; rw [if_pos k]; rfl) (.int _)⟩
        · obtain ⟨r', e, _⟩ := hr; simp only [binD] at e; rw [if_neg k] at e; cases e
      | FloorDiv =>
        by_cases k : 0 < j ∧ j < 2 ^ 4096
        · exact op_fdivW pins s σ H _ _ v u Q I rx ry ⟨i, j, rfl, rfl, log2_of k, fin_shr hr (by simp only [binD]; rw [if_pos k]; rfl) (.int _)⟩
        · obtain ⟨r', e, _⟩ := hr; simp only [binD] at e; rw [if_neg k] at e; cases e
      | Mod =>
        by_cases k : 0 < j
        · exact op_mod pins s σ H _ _ v u Q I rx ry ⟨i, j, rfl, rfl, k, fin_shr hr (by simp only [binD]; rw [if_pos k]; rfl) (.int _)⟩
        · obtain ⟨r', e, _⟩ := hr; simp only [binD] at e; rw [if_neg k] at e; cases e
      | Pow =>
        by_cases k : 0 ≤ j ∧ j ≤ 1000000 ∧ i.natAbs < 2 ^ 64
        · exact op_pow pins s σ H _ _ v u Q I rx ry ⟨i, j, rfl, rfl, k, fin_shr hr (by simp only [binD]; rw [if_pos k]; rfl) (.int _)⟩
        · obtain ⟨r', e, _⟩ := hr; simp only [binD] at e; rw [if_neg k] at e; cases e
      | LShift =>
        by_cases k : 0 ≤ j ∧ j ≤ 1000000 ∧ i.natAbs < 2 ^ 64
        · exact op_shl pins s σ H _ _ v u Q I rx ry ⟨i, j, rfl, rfl, k, fin_shr hr (by simp only [binD]; rw [if_pos k]; rfl) (.int _)⟩
        · obtain ⟨r', e, _⟩ := hr; simp only [binD] at e; rw [if_neg k] at e; cases e
      | RShift =>
        by_cases k : 0 ≤ j
        · exact op_shr pins s σ H _ _ v u Q I rx ry ⟨i, j, rfl, rfl, k, fin_shr hr (by simp only [binD]; rw [if_pos k]; rfl) (.int _)⟩
        · obtain ⟨r', e, _⟩ := hr; simp only [binD] at e; rw [if_neg k] at e; cases e
      | BitAnd => exact op_and pins s σ H _ _ v u Q I rx ry ⟨i, j, rfl, rfl, fin_shr hr rfl (.int _)⟩
      | BitXor => exact op_xor pins s σ H _ _ v u Q I rx ry ⟨i, j, rfl, rfl, fin_shr hr rfl (.int _)⟩
      | _ => obtain ⟨r', e, _⟩ := hr; cases e
    | _ => obtain ⟨r', e, _⟩ := hr; cases e
  | str i =>
    cases db with
    | str j =>
      have ex := ha.flat_str fa
      have ey := hb.flat_str fb
      subst ex ey
      cases op with
      | Add =>
        by_cases k : i.length + j.length ≤ sizeLine
        · exact op_add_str pins s σ H _ _ v u Q I rx ry ⟨i, j, rfl, rfl, k, fin_shr hr (by simp only [binD]; rw [if_pos k]; rfl) (.str _)⟩
        · obtain ⟨r', e, _⟩ := hr; simp only [binD] at e; rw [if_neg k] at e; cases e
      | _ => obtain ⟨r', e, _⟩ := hr; cases e
    | int k =>
      have ex := ha.flat_str fa
      have ey := hb.flat_int fb
      subst ex ey
      cases op with
      | Mult =>
        by_cases z : i.length ≤ 1000 ∧ -1000 ≤ k ∧ k ≤ 1000
        · exact op_rep_str pins s σ H _ _ v u Q I rx ry ⟨i, k, rfl, rfl, z.1, z.2.1, z.2.2, fin_shr hr (by simp only [binD]; rw [if_pos z]; rfl) (.str _)⟩
        · obtain ⟨r', e, _⟩ := hr; simp only [binD] at e; rw [if_neg z] at e; cases e
      | _ => obtain ⟨r', e, _⟩ := hr; cases e
    | _ => obtain ⟨r', e, _⟩ := hr; cases e
  | lst xs =>
    obtain ⟨a, vs, rfl, e1, q1⟩ := na
    cases db with
    | lst ys =>
      obtain ⟨b, ws, rfl, e2, q2⟩ := nb
      cases op with
      | Add =>
        by_cases k : xs.length + ys.length ≤ sizeLine
        · obtain ⟨r', e, q⟩ := hr
          simp only [binD] at e; rw [if_pos k] at e; cases e
          exact op_cat pins s σ H _ _ v u Q I rx ry ⟨a, b, vs, ws, rfl, rfl, e1, e2, by rw [q1.length, q2.length]; exact k, fun p hp => q _ _ (same_upd hp) (new_lst hp (q1.append q2))⟩
        · obtain ⟨r', e, _⟩ := hr; simp only [binD] at e; rw [if_neg k] at e; cases e
      | _ => obtain ⟨r', e, _⟩ := hr; cases e
    | int k =>
      have ey := hb.flat_int fb
      subst ey
      cases op with
      | Mult =>
        by_cases z : -(2 ^ 63) ≤ k ∧ k < 2 ^ 63 ∧ xs.length * k.toNat ≤ sizeLine
        · obtain ⟨r', e, q⟩ := hr
          simp only [binD] at e; rw [if_pos z] at e; cases e
          exact op_rep pins s σ H _ _ v u Q I rx ry ⟨a, k, vs, rfl, rfl, e1, z.1, z.2.1, by rw [q1.length]; exact z.2.2, fun p hp => q _ _ (same_upd hp) (new_lst hp (q1.rep _))⟩
        · obtain ⟨r', e, _⟩ := hr; simp only [binD] at e; rw [if_neg z] at e; cases e
      | _ => obtain ⟨r', e, _⟩ := hr; cases e
    | _ => obtain ⟨r', e, _⟩ := hr; cases e
  | tup xs =>
    obtain ⟨a, vs, rfl, e1, q1⟩ := na
    cases db with
    | tup ys =>
      obtain ⟨b, ws, rfl, e2, q2⟩ := nb
      cases op with
      | Add =>
        by_cases k : xs ≠ [] ∧ ys ≠ [] ∧ xs.length + ys.length ≤ sizeLine
        · obtain ⟨r', e, q⟩ := hr
          simp only [binD] at e; rw [if_pos k] at e; cases e
          have n1 : vs ≠ [] := fun z => k.1 (by have := q1.length; rw [z] at this; exact List.eq_nil_of_length_eq_zero this.symm)
          have n2 : ws ≠ [] := fun z => k.2.1 (by have := q2.length; rw [z] at this; exact List.eq_nil_of_length_eq_zero this.symm)
          exact op_catT pins s σ H _ _ v u Q I rx ry ⟨a, b, vs, ws, rfl, rfl, SqT.of e1, SqT.of e2, n1, by rw [q1.length, q2.length]; exact k.2.2, fun z => absurd z n2, fun _ p hp => q _ _ (same_upd hp) (new_tup c hp (q1.append q2))⟩
        · obtain ⟨r', e, _⟩ := hr; simp only [binD] at e; rw [if_neg k] at e; cases e
      | _ => obtain ⟨r', e, _⟩ := hr; cases e
    | _ => obtain ⟨r', e, _⟩ := hr; cases e
  | _ => obtain ⟨r', e, _⟩ := hr; cases e
end
end
end Q

end

section
set_option Elab.async false
set_option linter.all false
set_option maxRecDepth 100000
set_option maxHeartbeats 1000000
/-! Q2: dicts by data, comparisons by data. -/
namespace Q
noncomputable section
open PySem PySem.Spec PyProof.Rows L2

/-! ### tables -/
section
variable {κ : Type} [DecidableEq κ]
def valD (ds : List (κ × D)) (k : κ) : Option D := (ds.find? fun kv => decide (kv.1 = k)).map (·.2)
def putD (ds : List (κ × D)) (k : κ) (d : D) : List (κ × D) :=
  if (ds.any fun kv => decide (kv.1 = k)) = true then ds.map (fun kv => if kv.1 = k then (kv.1, d) else kv) else ds ++ [(k, d)]
theorem valD_nil {k : κ} : valD ([] : List (κ × D)) k = none := rfl
theorem valD_cons {p : κ × D} {r : List (κ × D)} {k : κ} : valD (p :: r) k = if p.1 = k then some p.2 else valD r k := by
  by_cases e : p.1 = k
  · simp [valD, List.find?_cons, e]
  · simp [valD, List.find?_cons, e]
variable {g : G} {B : AS} {H : Hp}
theorem kv_val : ∀ {kvs : List (κ × V)} {ds : List (κ × D)} (k : κ), kvs.map (·.1) = ds.map (·.1) → RepL g B H (kvs.map (·.2)) (ds.map (·.2)) →
    (valD ds k = none ∧ valV kvs k = none) ∨ ∃ d v, valD ds k = some d ∧ valV kvs k = some v ∧ Rep g B H v d
  | [], [], _, _, _ => .inl ⟨rfl, rfl⟩
  | [], _ :: _, _, e, _ => by simp at e
  | _ :: _, [], _, e, _ => by simp at e
  | p :: ps, q :: qs, k, e, r => by
    simp only [List.map_cons, List.cons.injEq] at e
    cases r with
    | cons h r =>
      rw [valD_cons]
      by_cases z : q.1 = k
      · rw [if_pos z, valV_pos (e.1.trans z)]
        exact .inr ⟨_, _, rfl, rfl, h⟩
      · rw [if_neg z, valV_neg (fun w => z (e.1.symm.trans w))]
        exact kv_val k e.2 r
theorem any_eq : ∀ {kvs : List (κ × V)} {ds : List (κ × D)} (k : κ), kvs.map (·.1) = ds.map (·.1) → (kvs.any fun kv => decide (kv.1 = k)) = (ds.any fun kv => decide (kv.1 = k))
  | [], [], _, _ => rfl
  | [], _ :: _, _, e => by simp at e
  | _ :: _, [], _, e => by simp at e
  | p :: ps, q :: qs, k, e => by
    simp only [List.map_cons, List.cons.injEq] at e
    rw [List.any_cons, List.any_cons, any_eq k e.2, e.1]
theorem map_put : ∀ {kvs : List (κ × V)} {ds : List (κ × D)} (k : κ) {v : V} {d : D}, kvs.map (·.1) = ds.map (·.1) → RepL g B H (kvs.map (·.2)) (ds.map (·.2)) → Rep g B H v d →
    RepL g B H ((kvs.map fun kv => if kv.1 = k then (kv.1, v) else kv).map (·.2)) ((ds.map fun kv => if kv.1 = k then (kv.1, d) else kv).map (·.2))
  | [], [], _, _, _, _, _, _ => .nil
  | [], _ :: _, _, _, _, e, _, _ => by simp at e
  | _ :: _, [], _, _, _, e, _, _ => by simp at e
  | p :: ps, q :: qs, k, v, d, e, r, h => by
    simp only [List.map_cons, List.cons.injEq] at e
    cases r with
    | cons h1 r1 =>
      simp only [List.map_cons]
      refine .cons ?_ (map_put k e.2 r1 h)
      rw [e.1]
      by_cases z : q.1 = k
      · simp only [z, if_true]; exact h
      · simp only [z, if_false]; exact h1
theorem map_fst (k : κ) {α : Type} (x : α) : ∀ kvs : List (κ × α), (kvs.map fun kv => if kv.1 = k then (kv.1, x) else kv).map (·.1) = kvs.map (·.1)
  | [] => rfl
  | p :: ps => by
    simp only [List.map_cons, map_fst k x ps]
    by_cases z : p.1 = k
    · simp [z]
    · simp [z]
theorem kv_put {kvs : List (κ × V)} {ds : List (κ × D)} (k : κ) {v : V} {d : D} (e : kvs.map (·.1) = ds.map (·.1)) (r : RepL g B H (kvs.map (·.2)) (ds.map (·.2))) (h : Rep g B H v d) :
    (putK kvs k v).map (·.1) = (putD ds k d).map (·.1) ∧ RepL g B H ((putK kvs k v).map (·.2)) ((putD ds k d).map (·.2)) := by
  unfold putK putD
  rw [any_eq k e]
  by_cases z : (ds.any fun kv => decide (kv.1 = k)) = true
  · rw [if_pos z, if_pos z]
    exact ⟨by rw [map_fst, map_fst, e], map_put k e r h⟩
  · rw [if_neg z, if_neg z]
    refine ⟨by simp [e], ?_⟩
    rw [List.map_append, List.map_append]
    exact r.append (.cons h .nil)
end
section
variable {g : G} {M O B : AS} {H H0 : Hp}
theorem keyD_val {v : V} {d : D} {k : Key} (h : Rep g B H v d) (e : keyD d = some k) : v = kV k := by
  cases h <;> simp [keyD] at e <;> subst e <;> rfl
theorem keysD_val : ∀ {vs : List V} {ds : List D} {ks : List Key}, RepL g B H vs ds → keysD ds = some ks → vs = ks.map kV
  | _, _, _, .nil, e => by simp [keysD] at e; subst e; rfl
  | _, _, ks, .cons (d := d) (ds := ds) h r, e => by
    simp only [keysD] at e
    cases e1 : keyD d with
    | none => simp [e1] at e
    | some k =>
      cases e2 : keysD ds with
      | none => simp [e1, e2] at e
      | some kr =>
        simp [e1, e2] at e
        subst e
        rw [keyD_val h e1, keysD_val r e2]
        rfl

/-- reading a dict -/
def getD (dct key : D) : Option (Option D) := match dct with
  | .dk ds => (match keyD key with
    | some k => some (valD ds k)
    | none => none)
  | .dt ds => (match key with
    | .tup xs => (match keysD xs with
      | some ks => some (valD ds ks)
      | none => none)
    | _ => none)
  | _ => none
theorem get_ok {B : AS} {x y : V} {dd kd : D} {o : Option D} (hd : Nod g B H x dd) (hk : Rep g .no H y kd) (e : getD dd kd = some o) :
    ∃ a ov, x = .ref a ∧ DGet H a y ov ∧ ((o = none ∧ ov = none) ∨ ∃ d v, o = some d ∧ ov = some v ∧ Rep g B H v d) := by
  cases dd with
  | dk ds =>
    obtain ⟨a, kvs, rfl, e1, q1, q2⟩ := hd
    simp only [getD] at e
    cases ek : keyD kd with
    | none => simp [ek] at e
    | some k =>
      simp [ek] at e
      subst e
      have ey : y = kV k := keyD_val hk ek
      refine ⟨a, valV kvs k, rfl, .inl ⟨kvs, k, e1, ey, rfl⟩, ?_⟩
      rcases kv_val k q1 q2 with ⟨z1, z2⟩ | ⟨d, v, z1, z2, z3⟩
      · exact .inl ⟨z1, z2⟩
      · exact .inr ⟨d, v, z1, z2, z3⟩
  | dt ds =>
    obtain ⟨a, kvs, rfl, e1, q1, q2⟩ := hd
    simp only [getD] at e
    cases kd with
    | tup xs =>
      cases hk with
      | tup hb _ q3 =>
        cases es : keysD xs with
        | none => simp [es] at e
        | some ks =>
          simp [es] at e
          subst e
          have ev := keysD_val q3 es
          subst ev
          refine ⟨a, valV kvs ks, rfl, .inr ⟨kvs, ks, _, e1, rfl, hb, rfl⟩, ?_⟩
          rcases kv_val ks q1 q2 with ⟨z1, z2⟩ | ⟨d, v, z1, z2, z3⟩
          · exact .inl ⟨z1, z2⟩
          · exact .inr ⟨d, v, z1, z2, z3⟩
    | _ => simp at e
  | _ => simp [getD] at e
end

/-! ### comparisons -/
def isNon : D → Bool
  | .non => true
  | _ => false
def layB (a b : D) : Bool := lay 60 a && lay 60 b
def eqD : D → D → Option Bool
  | .int i, .int j => some (decide (i = j))
  | .str x, .str y => some (decide (x = y))
  | .bl x, .bl y => some (decide (x = y))
  | a, b => if layB a b = true then some (PyData.eqv (py a) (py b)) else none
def strLt (x y : Str) : Bool := decide (x.cps.toList < y.cps.toList)
def inD (x y : D) : Option Bool := match y with
  | .str z => (match x with
    | .str w => (match w.cps.toList with
      | [c] => some (decide (c ∈ z.cps.toList))
      | _ => none)
    | _ => none)
  | .dk ds => (match getD (.dk ds) x with
    | some o => some o.isSome
    | none => none)
  | .dt ds => (match getD (.dt ds) x with
    | some o => some o.isSome
    | none => none)
  | .lst ys => if layB x (.lst ys) = true then some ((pyL ys).any fun z => PyData.eqv z (py x)) else none
  | _ => none
def isD (x y : D) : Option Bool := match x, y with
  | .bl a, .bl b => some (decide (a = b))
  | x, .non => some (isNon x)
  | _, _ => none
def cmpD (op : CmpOp) (x y : D) : Option Bool := match op with
  | .Eq => eqD x y
  | .NotEq => (eqD x y).map (!·)
  | .Lt => (match x, y with
    | .int i, .int j => some (decide (i < j))
    | .str a, .str b => some (strLt a b)
    | _, _ => none)
  | .LtE => (match x, y with
    | .int i, .int j => some (decide (i ≤ j))
    | _, _ => none)
  | .Gt => (match x, y with
    | .int i, .int j => some (decide (j < i))
    | _, _ => none)
  | .GtE => (match x, y with
    | .int i, .int j => some (decide (j ≤ i))
    | _, _ => none)
  | .In => inD x y
  | .NotIn => (inD x y).map (!·)
  | .Is => isD x y
  | .IsNot => (isD x y).map (!·)
def rCmp (g : G) (op : CmpOp) : R2 := fun x y H Q => ∃ M O H0 ra rb b, Cd M O H ∧ XR g M O H0 H x ra ∧ XR g M O H0 H y rb ∧ cmpD op ra.d rb.d = some b ∧ Q (.bl b) H
section
variable {X : Cx} {g : G} {n : Nat} {M O : AS} {H H0 : Hp}
theorem op_in_dict (f : FitB X g) : OpR X (compareOp .In) (fun y x H Q => ∃ a o, x = .ref a ∧ DGet H a y o ∧ Q (.bl o.isSome) H) := by
  intro pins s σ H y x u v Q I ry rx h
  obtain ⟨a, o, rfl, gd, q⟩ := h
  cases rx
  exact d_in f.hu I gd ry fun s' I' => ⟨.bl o.isSome, H, I', rfl, q⟩
theorem op_notin_dict (f : FitB X g) : OpR X (compareOp .NotIn) (fun y x H Q => ∃ a o, x = .ref a ∧ DGet H a y o ∧ Q (.bl (!o.isSome)) H) := by
  intro pins s σ H y x u v Q I ry rx h
  obtain ⟨a, o, rfl, gd, q⟩ := h
  cases rx
  exact d_notIn f.hu I gd ry fun s' I' => ⟨.bl (!o.isSome), H, I', rfl, q⟩
/-- in, not in: the reading whatever the operator -/
def rInAny (K : PySem.W.Frag) (neg : Bool) : R2 := fun x y H Q => ∃ b : Bool, Q (.bl (if neg then !b else b)) H ∧
  ((∃ (c : Nat) (z : Str), x = .str ⟨#[c]⟩ ∧ y = .str z ∧ b = decide (c ∈ z.cps.toList)) ∨ (∃ a o, y = .ref a ∧ DGet H a x o ∧ b = o.isSome) ∨
    ∃ d ds, Dp K H x d ∧ Dp K H y (.list ds) ∧ SeqAt.shaped d = true ∧ SeqAt.shaped (.list ds) = true ∧ b = ds.any fun z => PyData.eqv z d)
theorem op_in_any (f : FitB X g) : OpR X (compareOp .In) (rInAny X.K false) := by
  intro pins s σ H x y u v Q I rx ry h
  obtain ⟨b, q, h⟩ := h
  rcases h with ⟨c, z, e1, e2, e3⟩ | ⟨a, o, e1, e2, e3⟩ | ⟨d, ds, e1, e2, e4, e5, e3⟩
  · subst e3; exact op_in_sign pins s σ H x y u v Q I rx ry ⟨c, z, e1, e2, q⟩
  · subst e3; exact op_in_dict f pins s σ H x y u v Q I rx ry ⟨a, o, e1, e2, q⟩
  · subst e3; exact op_inD f.hu65 pins s σ H x y u v Q I rx ry ⟨d, ds, e1, e2, e4, e5, q⟩
theorem op_notin_any (f : FitB X g) : OpR X (compareOp .NotIn) (rInAny X.K true) := by
  intro pins s σ H x y u v Q I rx ry h
  obtain ⟨b, q, h⟩ := h
  rcases h with ⟨c, z, e1, e2, e3⟩ | ⟨a, o, e1, e2, e3⟩ | ⟨d, ds, e1, e2, e4, e5, e3⟩
  · subst e3; exact op_notIn_sign pins s σ H x y u v Q I rx ry ⟨c, z, e1, e2, q⟩
  · subst e3; exact op_notin_dict f pins s σ H x y u v Q I rx ry ⟨a, o, e1, e2, q⟩
  · subst e3; exact op_notInD f.hu65 pins s σ H x y u v Q I rx ry ⟨d, ds, e1, e2, e4, e5, q⟩
theorem in_read {x y : V} {ra rb : R} {b neg : Bool} {K : PySem.W.Frag} (hK : K = g.K) {Q : VK} (ha : XR g M O H0 H x ra) (hb : XR g M O H0 H y rb) (e : inD ra.d rb.d = some b) (q : Q (.bl (if neg then !b else b)) H) : rInAny K neg x y H Q := by
  subst hK
  refine ⟨b, q, ?_⟩
  cases eb : rb.d with
  | str z =>
    rw [eb] at e
    cases ea : ra.d with
    | str w =>
      rw [ea] at e
      simp only [inD] at e
      split at e
      · rename_i c ec
        refine .inl ⟨c, z, ?_, hb.flat_str eb, (Option.some.inj e).symm⟩
        rw [ha.flat_str ea]
        congr 1
        cases w with
        | mk cps => congr 1; exact Array.toList_inj.mp ec
      · cases e
    | _ => rw [ea] at e; simp [inD] at e
  | dk ds =>
    rw [eb] at e
    simp only [inD] at e
    cases eo : getD (.dk ds) ra.d with
    | none => simp [eo] at e
    | some o =>
      simp [eo] at e
      obtain ⟨a, ov, e1, e2, e3⟩ := get_ok (by have := hb.view.nod; rw [eb] at this; exact this) ha.view eo
      refine .inr (.inl ⟨a, ov, e1, e2, ?_⟩)
      rcases e3 with ⟨z1, z2⟩ | ⟨d, v, z1, z2, _⟩
      · subst z1 z2; exact e.symm
      · subst z1 z2; exact e.symm
  | dt ds =>
    rw [eb] at e
    simp only [inD] at e
    cases eo : getD (.dt ds) ra.d with
    | none => simp [eo] at e
    | some o =>
      simp [eo] at e
      obtain ⟨a, ov, e1, e2, e3⟩ := get_ok (by have := hb.view.nod; rw [eb] at this; exact this) ha.view eo
      refine .inr (.inl ⟨a, ov, e1, e2, ?_⟩)
      rcases e3 with ⟨z1, z2⟩ | ⟨d, v, z1, z2, _⟩
      · subst z1 z2; exact e.symm
      · subst z1 z2; exact e.symm
  | lst ys =>
    rw [eb] at e
    simp only [inD] at e
    split at e
    · rename_i hl
      unfold layB at hl
      rw [Bool.and_eq_true] at hl
      have d2 := hb.dp (by rw [eb]; exact hl.2)
      rw [eb] at d2
      have s2 := shaped_of hl.2
      simp only [py] at d2 s2
      exact .inr (.inr ⟨_, _, ha.dp hl.1, d2, shaped_of hl.1, s2, (Option.some.inj e).symm⟩)
    · cases e
  | _ => rw [eb] at e; simp [inD] at e
def rEqAny (K : PySem.W.Frag) (neg : Bool) : R2 := fun x y H Q => ∃ b : Bool, Q (.bl (if neg then !b else b)) H ∧
  ((scal x y = true ∧ b = decide (x = y)) ∨ ∃ d e, Dp K H x d ∧ Dp K H y e ∧ SeqAt.shaped d = true ∧ SeqAt.shaped e = true ∧ b = PyData.eqv d e)
theorem op_eq_any (f : FitB X g) : OpR X (compareOp .Eq) (rEqAny X.K false) := by
  intro pins s σ H x y u v Q I rx ry h
  obtain ⟨b, q, h⟩ := h
  rcases h with ⟨e1, e2⟩ | ⟨d, e, e1, e2, e3, e4, e5⟩
  · subst e2; exact op_eq pins s σ H x y u v Q I rx ry ⟨e1, q⟩
  · subst e5; exact op_eqD f.hu64 pins s σ H x y u v Q I rx ry ⟨d, e, e1, e2, e3, e4, q⟩
theorem op_ne_any (f : FitB X g) : OpR X (compareOp .NotEq) (rEqAny X.K true) := by
  intro pins s σ H x y u v Q I rx ry h
  obtain ⟨b, q, h⟩ := h
  rcases h with ⟨e1, e2⟩ | ⟨d, e, e1, e2, e3, e4, e5⟩
  · subst e2; exact op_ne pins s σ H x y u v Q I rx ry ⟨e1, q⟩
  · subst e5; exact op_neD f.hu64 pins s σ H x y u v Q I rx ry ⟨d, e, e1, e2, e3, e4, q⟩
theorem eq_read {x y : V} {ra rb : R} {b neg : Bool} {K : PySem.W.Frag} (hK : K = g.K) {Q : VK} (ha : XR g M O H0 H x ra) (hb : XR g M O H0 H y rb) (e : eqD ra.d rb.d = some b) (q : Q (.bl (if neg then !b else b)) H) : rEqAny K neg x y H Q := by
  subst hK
  refine ⟨b, q, ?_⟩
  unfold eqD at e
  split at e
  · rename_i i j ea eb
    rw [ha.flat_int ea, hb.flat_int eb]
    refine .inl ⟨rfl, ?_⟩
    rw [← Option.some.inj e]
    by_cases z : i = j
    · subst z; simp
    · simp [z]
  · rename_i i j ea eb
    rw [ha.flat_str ea, hb.flat_str eb]
    refine .inl ⟨rfl, ?_⟩
    rw [← Option.some.inj e]
    by_cases z : i = j
    · subst z; simp
    · simp [z]
  · rename_i i j ea eb
    rw [ha.flat_bl ea, hb.flat_bl eb]
    refine .inl ⟨rfl, ?_⟩
    rw [← Option.some.inj e]
    by_cases z : i = j
    · subst z; simp
    · simp [z]
  · split at e
    · rename_i hl
      unfold layB at hl
      rw [Bool.and_eq_true] at hl
      exact .inr ⟨_, _, ha.dp hl.1, hb.dp hl.2, shaped_of hl.1, shaped_of hl.2, (Option.some.inj e).symm⟩
    · cases e
theorem not_non {B : AS} {v : V} {d : D} (h : Rep g B H v d) : decide (v = .non) = isNon d := by
  cases h <;> simp [isNon]
theorem cmp_ok (f : FitB X g) (op : CmpOp) : OpR X (compareOp op) (rCmp g op) := by
  intro pins s σ H x y v u Q I rx ry h
  obtain ⟨M, O, H0, ra, rb, b, c, ha, hb, e, q⟩ := h
  cases op with
  | Eq => exact op_eq_any f pins s σ H x y v u Q I rx ry (eq_read f.K ha hb e q)
  | NotEq =>
    simp only [cmpD, Option.map_eq_some_iff] at e
    obtain ⟨b', e, rfl⟩ := e
    exact op_ne_any f pins s σ H x y v u Q I rx ry (eq_read (neg := true) f.K ha hb e q)
  | In => exact op_in_any f pins s σ H x y v u Q I rx ry (in_read f.K ha hb e q)
  | NotIn =>
    simp only [cmpD, Option.map_eq_some_iff] at e
    obtain ⟨b', e, rfl⟩ := e
    exact op_notin_any f pins s σ H x y v u Q I rx ry (in_read (neg := true) f.K ha hb e q)
  | Lt =>
    simp only [cmpD] at e
    split at e
    · rename_i i j ea eb
      cases e
      exact op_lt pins s σ H x y v u Q I rx ry ⟨i, j, ha.flat_int ea, hb.flat_int eb, q⟩
    · rename_i i j ea eb
      cases e
      exact op_lt_str pins s σ H x y v u Q I rx ry ⟨i, j, ha.flat_str ea, hb.flat_str eb, q⟩
    · cases e
  | LtE =>
    simp only [cmpD] at e
    split at e
    · rename_i i j ea eb
      cases e
      exact op_le pins s σ H x y v u Q I rx ry ⟨i, j, ha.flat_int ea, hb.flat_int eb, q⟩
    · cases e
  | Gt =>
    simp only [cmpD] at e
    split at e
    · rename_i i j ea eb
      cases e
      exact op_gt pins s σ H x y v u Q I rx ry ⟨i, j, ha.flat_int ea, hb.flat_int eb, q⟩
    · cases e
  | GtE =>
    simp only [cmpD] at e
    split at e
    · rename_i i j ea eb
      cases e
      exact op_ge pins s σ H x y v u Q I rx ry ⟨i, j, ha.flat_int ea, hb.flat_int eb, q⟩
    · cases e
  | Is =>
    simp only [cmpD, isD] at e
    split at e
    · rename_i i j ea eb
      cases e
      exact op_isBl pins s σ H x y v u Q I rx ry ⟨i, j, ha.flat_bl ea, hb.flat_bl eb, q⟩
    · rename_i eb
      cases e
      refine op_isN pins s σ H x y v u Q I rx ry ⟨hb.flat_non eb, ?_⟩
      rw [not_non ha.view]
      exact q
    · cases e
  | IsNot =>
    simp only [cmpD, Option.map_eq_some_iff] at e
    obtain ⟨b', e, rfl⟩ := e
    simp only [isD] at e
    split at e
    · rename_i i j ea eb
      cases e
      exact op_notBl pins s σ H x y v u Q I rx ry ⟨i, j, ha.flat_bl ea, hb.flat_bl eb, q⟩
    · rename_i eb
      cases e
      refine op_notN pins s σ H x y v u Q I rx ry ⟨hb.flat_non eb, ?_⟩
      rw [not_non ha.view]
      exact q
    · cases e
end
end
end Q

end

section
set_option Elab.async false
set_option linter.all false
set_option maxRecDepth 100000
set_option maxHeartbeats 1000000
/-! Q3: expressions read as functions of the names' data; they may raise. -/
namespace Q
noncomputable section
open PySem PySem.Spec L2
open PyProof.Rows hiding St

/-- an exception: its class, its fields -/
structure Exc where
  c : Nat
  fs : List D
inductive Rx (α : Type) where
  | bad | ok (a : α) | ex (x : Exc)
namespace Rx
variable {α β : Type}
def bind (a : Rx α) (k : α → Rx β) : Rx β := match a with
  | .bad => .bad
  | .ok a => k a
  | .ex x => .ex x
def lift : Option α → Rx α
  | none => .bad
  | some a => .ok a
def map (f : α → β) (a : Rx α) : Rx β := a.bind fun x => .ok (f x)
def hold (P : α → Prop) (E : Exc → Prop) : Rx α → Prop
  | .bad => False
  | .ok a => P a
  | .ex x => E x
theorem hold.hb {P : β → Prop} {E : Exc → Prop} {a : Rx α} {k : α → Rx β} (h : (a.bind k).hold P E) : a.hold (fun r => (k r).hold P E) E := by
  cases a <;> exact h
theorem hold.imp {P P' : α → Prop} {E E' : Exc → Prop} {a : Rx α} (h : a.hold P E) (p : ∀ r, P r → P' r) (e : ∀ x, E x → E' x) : a.hold P' E' := by
  cases a with
  | bad => exact h
  | ok r => exact p r h
  | ex x => exact e x h
theorem hold.impA {P P' : α → Prop} {E E' : Exc → Prop} {a : Rx α} (h : a.hold P E) (p : ∀ r, a = .ok r → P r → P' r) (e : ∀ x, E x → E' x) : a.hold P' E' := by
  cases a with
  | bad => exact h
  | ok r => exact p r rfl h
  | ex x => exact e x h
theorem hold.hl {P : α → Prop} {E : Exc → Prop} {o : Option α} (h : (lift o).hold P E) : ∃ r, o = some r ∧ P r := by
  cases o with
  | none => exact h.elim
  | some r => exact ⟨r, rfl, h⟩
@[simp] theorem bind_ok {a : α} {k : α → Rx β} : (Rx.ok a).bind k = k a := rfl
@[simp] theorem bind_ex {x : Exc} {k : α → Rx β} : (Rx.ex x : Rx α).bind k = .ex x := rfl
@[simp] theorem bind_bad {k : α → Rx β} : (Rx.bad : Rx α).bind k = .bad := rfl
@[simp] theorem lift_some {a : α} : lift (some a) = .ok a := rfl
@[simp] theorem lift_none : lift (none : Option α) = .bad := rfl
end Rx

abbrev Rho := List (Option R)
/-- the mark of a caught exception in its slot: its class, where it lies, where its dict lies, its field -/
def XM (g : G) (H : Hp) (v : V) : T → Prop
  | .ins c [.lf (.int a)] => v = .ref a.toNat
  | .ins c [.lf (.int a), .lf (.int dd), .lf (.str nm)] => v = .ref a.toNat ∧ H dd.toNat = some (.xd ((g.at_ c).zip [.str nm]))
  | _ => False
theorem xd_no {H : Hp} {a : Addr} {fs : List (Str × V)} (h : ∃ u, H a = some u ∧ mutK u) (e : H a = some (.xd fs)) : False := by
  obtain ⟨u, e1, m⟩ := h
  rw [e] at e1
  cases e1
  exact m
theorem XM.mono {g : G} {H H' : Hp} {v : V} {t : T} (k : ∀ a fs, H a = some (.xd fs) → H' a = some (.xd fs)) (h : XM g H v t) : XM g H' v t := by
  unfold XM at h ⊢
  split at h
  · exact h
  · exact ⟨h.1, k _ _ h.2⟩
  · exact h.elim
def SR (g : G) (M O S : AS) (H : Hp) (v : V) : R → Prop
  | .shr d => Rep g (M.u O) H v d
  | .own t => OT g (M.u O) H v t S
  | .tmp t => ∃ S' : AS, (∀ a, S' a → M a) ∧ OT g (M.u O) H v t S'
  | .vw t => XM g H v t
/-- the names' data; fp: which addresses each one owns -/
structure EnvR (g : G) (M O : AS) (fp : Nat → AS) (σ : St) (H : Hp) (ρ : Rho) : Prop where
  len : σ.length = ρ.length
  at_ : ∀ (i : Nat) (r : R), ρ[i]? = some (some r) → ∃ v, σ[i]? = some (some v) ∧ SR g M O (fp i) H v r
  fo : ∀ i a, fp i a → O a
  fr : ∀ i a, fp i a → ∃ t, ρ[i]? = some (some (.own t))
  ds : ∀ i j a, i ≠ j → fp i a → ¬ fp j a
section
variable {g : G} {M O S : AS} {fp : Nat → AS} {σ : St} {H H' : Hp} {ρ : Rho} {v : V} {r : R}
theorem SR.same (s : Same H H') (h : SR g M O S H v r) : SR g M O S H' v r := by
  cases r with
  | shr d => exact Rep.same s h
  | own t => exact OT.same s h
  | tmp t => obtain ⟨S', k, q⟩ := h; exact ⟨S', k, q.same s⟩
  | vw t => exact XM.mono (fun a fs e => s _ _ e) h
theorem EnvR.same (s : Same H H') (h : EnvR g M O fp σ H ρ) : EnvR g M O fp σ H' ρ := ⟨h.len, fun i r e => let ⟨v, e1, q⟩ := h.at_ i r e; ⟨v, e1, q.same s⟩, h.fo, h.fr, h.ds⟩
end
def getR (ρ : Rho) (i : Nat) : Option R := match ρ[i]? with
  | some (some (.own t)) => some (.vw t)
  | some (some (.vw _)) => none
  | some (some r) => some r
  | _ => none

/-- an exception as it lies -/
def XEx (g : G) (B : AS) (H : Hp) (cls : Value) (d : Option Addr) (x : Exc) : Prop :=
  cls = .ref (g.cl x.c) ∧ ((x.fs = [] ∧ d = none) ∨ ∃ a vs, d = some a ∧ H a = some (.xd ((g.at_ x.c).zip vs)) ∧ vs.length = (g.at_ x.c).length ∧ RepL g B H vs x.fs ∧ x.fs ≠ [])
def EW (g : G) (M O : AS) (H : Hp) (W : WX) (σ : St) (x : Exc) : Prop := ∀ cls d H', Same H H' → XEx g (M.u O) H' cls d x → W cls d σ H'
theorem EW.same {g : G} {M O : AS} {H H1 : Hp} {W : WX} {σ : St} {x : Exc} (s : Same H H1) (h : EW g M O H W σ x) : EW g M O H1 W σ x := fun cls d H' s' q => h cls d H' (s.trans s') q
/-- the answers that may be used -/
def Ans (g : G) (M O : AS) (H : Hp) (Q : VK) (r : R) : Prop := ∀ v H', Same H H' → XR g M O H H' v r → Q v H'
theorem Ans.same {g : G} {M O : AS} {H H1 : Hp} {Q : VK} {r : R} (s : Same H H1) (h : Ans g M O H Q r) : Ans g M O H1 Q r := fun v H' s' x => h v H' (s.trans s') (x.base s)
/-- the reading of an expression that gives f of the names' data -/
def tX (g : G) (W : WX) (f : Rho → Rx R) : TE := fun σ H Q => ∃ M O fp ρ, Cd M O H ∧ EnvR g M O fp σ H ρ ∧ (f ρ).hold (Ans g M O H Q) (EW g M O H W σ)
/-- of a test -/
def tT (g : G) (W : WX) (f : Rho → Rx R) : TT := fun σ H Q => ∃ M O fp ρ, Cd M O H ∧ EnvR g M O fp σ H ρ ∧ (f ρ).hold (fun r => ∃ b, r.d = .bl b ∧ ∀ H', Same H H' → Q b H') (EW g M O H W σ)
/-- of several -/
inductive XRs (g : G) (M O : AS) (H0 H : Hp) : List V → List R → Prop
  | nil : XRs g M O H0 H [] []
  | cons {v : V} {vs : List V} {r : R} {rs : List R} : XR g M O H0 H v r → XRs g M O H0 H vs rs → XRs g M O H0 H (v :: vs) (r :: rs)
def tL (g : G) (W : WX) (f : Rho → Rx (List R)) : TA := fun σ H Q => ∃ M O fp ρ, Cd M O H ∧ EnvR g M O fp σ H ρ ∧ (f ρ).hold (fun rs => ∀ vs H', Same H H' → XRs g M O H H' vs rs → Q vs H') (EW g M O H W σ)
section
variable {g : G} {M O : AS} {H0 H H' : Hp}
theorem XRs.same (s : Same H H') : ∀ {vs : List V} {rs : List R}, XRs g M O H0 H vs rs → XRs g M O H0 H' vs rs
  | _, _, .nil => .nil
  | _, _, .cons h r => .cons (h.same s) (XRs.same s r)
theorem XRs.base {H00 : Hp} (s : Same H00 H0) : ∀ {vs : List V} {rs : List R}, XRs g M O H0 H vs rs → XRs g M O H00 H vs rs
  | _, _, .nil => .nil
  | _, _, .cons h r => .cons (h.base s) (XRs.base s r)
theorem XRs.length : ∀ {vs : List V} {rs : List R}, XRs g M O H0 H vs rs → vs.length = rs.length
  | _, _, .nil => rfl
  | _, _, .cons h r => congrArg Nat.succ r.length
end
theorem PE.to {X : Cx} {e : Expr} {t t' : TE} (h : PE X e t) (k : ∀ σ H Q, t' σ H Q → t σ H Q) : PE X e t' := ⟨fun pins s σ H Q I q => h.run pins s σ H Q I (k _ _ _ q)⟩
theorem PT.to {X : Cx} {e : Expr} {t t' : TT} (h : PT X e t) (k : ∀ σ H Q, t' σ H Q → t σ H Q) : PT X e t' := ⟨fun pins s σ H Q I q => h.run pins s σ H Q I (k _ _ _ q)⟩
theorem PW.to {X : Cx} {e : Expr} {t t' : TT} (h : PW X e t) (k : ∀ σ H Q, t' σ H Q → t σ H Q) : PW X e t' := ⟨fun wh pins s σ H Q I q => h.run wh pins s σ H Q I (k _ _ _ q)⟩
theorem PA.to {X : Cx} {e : List Expr} {t t' : TA} (h : PA X e t) (k : ∀ σ H Q, t' σ H Q → t σ H Q) : PA X e t' := ⟨fun p pins s σ H Q I q => h.run p pins s σ H Q I (k _ _ _ q)⟩

/-! ### forms of expressions that no rule treats apart -/
def okx : Expr → Bool
  | .Name .. => true
  | .Constant .. => true
  | .BinOp .. => true
  | .Compare .. => true
  | .BoolOp .. => true
  | .UnaryOp .. => true
  | .Call (.Name id _) [] [] _ => !decide (id = "super")
  | .Call .. => true
  | .Attribute .. => true
  | .Subscript .. => true
  | .Tuple .. => true
  | .List .. => true
  | .Dict .. => true
  | .ListComp .. => true
  | .IfExp .. => true
  | _ => false
theorem okx_star {e : Expr} (h : okx e = true) (es : List Expr) (env : Env) : starEach (e :: es) env = (false, eval e env) :: starEach es env := by
  cases e <;> first | rfl | (exfalso; revert h; simp [okx]; done)
theorem okx_mark {e : Expr} (h : okx e = true) (op : CmpOp) : behindInMarks op e = false := by
  cases e <;> first | rfl | (exfalso; revert h; simp [okx]; done)
theorem okx_set {e : Expr} (h : okx e = true) (env : Env) (x : Value) : foldedSetIterable e env x = pure x := by
  cases e <;> first | rfl | (exfalso; revert h; simp [okx]; done)
theorem okx_sub {e : Expr} (h : okx e = true) (o i : Value) : subscripted e false o i = operate [o, i] (getItem o i) := by
  cases e <;> first | rfl | (exfalso; revert h; simp [okx]; done)
theorem okx_base {e : Expr} (h : okx e = true) (f : Str) (env : Env) : attributeBase e f env (eval e env) = eval e env := by
  cases e with
  | Call fn as ks pos =>
    cases fn with
    | Name id p =>
      cases as with
      | nil =>
        cases ks with
        | nil =>
          have h1 : id ≠ "super" := by simpa [okx] using h
          have h2 : (id != ("super" : Str)) = true := by simpa using h1
          unfold attributeBase
          simp only [h2, Bool.true_or, if_true]
        | cons _ _ => rfl
      | cons _ _ => cases ks <;> rfl
    | _ => rfl
  | _ => first | rfl | simp [okx] at h
section
variable {X : Cx} {g : G} {n : Nat} {W : WX} {e a b c : Expr} {es : List Expr} {pos : Pos} {fa fb fc : Rho → Rx R} {fl : Rho → Rx (List R)}
theorem out_of {g : G} {M O : AS} {H H2 : Hp} {Q : VK} {o : Option R} {E : Exc → Prop} (s : Same H H2) (h : (Rx.lift o).hold (Ans g M O H Q) E) : ROut g M O H2 o Q := by
  obtain ⟨r, e, k⟩ := h.hl
  exact ⟨r, e, k.same s⟩
theorem fin_d {g : G} {M O : AS} {H H2 : Hp} {Q : VK} {v : V} {d : D} (s : Same H H2) (h : Ans g M O H Q (.shr d)) (q : Rep g (M.u O) H2 v d) : Q v H2 := h v H2 s q
theorem f_cst_int {i : Int} {j} : PE X (.Constant (.int i) j pos) (tX g W fun _ => .ok (rI i)) :=
  PE.to pe_int fun σ H Q ⟨M, O, fp, ρ, _, _, h⟩ => fin_d (Same.refl H) h (.int i)
theorem f_cst_str {i : Str} {j} : PE X (.Constant (.str i) j pos) (tX g W fun _ => .ok (rS i)) :=
  PE.to pe_str fun σ H Q ⟨M, O, fp, ρ, _, _, h⟩ => fin_d (Same.refl H) h (.str i)
theorem f_cst_bl {i : Bool} {j} : PE X (.Constant (.bool i) j pos) (tX g W fun _ => .ok (rB i)) :=
  PE.to pe_bl fun σ H Q ⟨M, O, fp, ρ, _, _, h⟩ => fin_d (Same.refl H) h (.bl i)
theorem f_cst_non {j} : PE X (.Constant .none j pos) (tX g W fun _ => .ok (.shr .non)) :=
  PE.to pe_non fun σ H Q ⟨M, O, fp, ρ, _, _, h⟩ => fin_d (Same.refl H) h .non
theorem getR_at {M O : AS} {H : Hp} {σ : St} {ρ : Rho} {fp : Nat → AS} {i : Nat} {q : R} (en : EnvR g M O fp σ H ρ) (e : getR ρ i = some q) : ∃ v, σ[i]? = some (some v) ∧ XR g M O H H v q := by
  unfold getR at e
  cases er : ρ[i]? with
  | none => rw [er] at e; cases e
  | some o =>
    cases o with
    | none => rw [er] at e; cases e
    | some r =>
      obtain ⟨v, e1, q⟩ := en.at_ i r er
      rw [er] at e
      refine ⟨v, e1, ?_⟩
      cases r with
      | shr d => cases e; exact q
      | own t => cases e; exact ⟨fp i, fun a z => en.fo i a z, q⟩
      | tmp t => cases e; exact q
      | vw t => cases e
theorem f_var {i : Nat} {x : Str} (hN : X.N[i]? = some x) (hv : Vis X.env.scope x) (hd : (x == ("__debug__" : Str)) = false) (hcd : (x == ("__classdict__" : Str)) = false) : PE X (.Name x pos) (tX g W fun ρ => .lift (getR ρ i)) :=
  PE.to (pe_var hN hv hd hcd) fun σ H Q ⟨M, O, fp, ρ, _, en, h⟩ => by
    obtain ⟨r, e, k⟩ := h.hl
    obtain ⟨v, e1, q⟩ := getR_at en e
    exact ⟨v, e1, k v H (Same.refl H) q⟩
theorem f_glob {x : Str} {v : V} {u : Value} {d : D} (hg : Gl X x) (hm : X.mg x = some u) (r : RelV v u) (hd : (x == ("__debug__" : Str)) = false) (hr : ∀ B H, Rep g B H v d) : PE X (.Name x pos) (tX g W fun _ => .ok (.shr d)) :=
  PE.to (pe_glob hg hm r hd) fun σ H Q ⟨M, O, fp, ρ, _, _, h⟩ => fin_d (Same.refl H) h (hr _ H)
/-- two in a row, then an operation -/
theorem two {r2 : R2} {F : R → R → Option R} (h : ∀ M O H0 ra rb x y H Q, Cd M O H → XR g M O H0 H x ra → XR g M O H0 H y rb → ROut g M O H (F ra rb) Q → r2 x y H Q) (σ : St) (H : Hp) (Q : VK)
    (q : tX g W (fun ρ => (fa ρ).bind fun ra => (fb ρ).bind fun rb => .lift (F ra rb)) σ H Q) : tOp r2 (tX g W fa) (tX g W fb) σ H Q := by
  obtain ⟨M, O, fp, ρ, c, en, h1⟩ := q
  refine ⟨M, O, fp, ρ, c, en, h1.hb.imp (fun ra h2 x H1 s1 xa => ⟨M, O, fp, ρ, c.same s1, en.same s1, h2.hb.imp (fun rb h3 y H2 s2 xb => ?_) fun _ => EW.same s1⟩) fun _ z => z⟩
  exact h M O H ra rb x y H2 Q ((c.same s1).same s2) (xa.same s2) (xb.base s1) (out_of (s1.trans s2) h3)
theorem f_bin (f : FitB X g) {op : Operator} (ha : PE X a (tX g W fa)) (hb : PE X b (tX g W fb)) : PE X (.BinOp a op b pos) (tX g W fun ρ => (fa ρ).bind fun ra => (fb ρ).bind fun rb => .lift (binR op ra rb)) :=
  PE.to (pe_op (bin_ok f op) ha hb) (two fun M O H0 ra rb x y H Q c xa xb h => ⟨M, O, H0, ra, rb, c, xa, xb, h⟩)
def cmpR (op : CmpOp) (ra rb : R) : Option R := (cmpD op ra.d rb.d).map rB
theorem f_cmp (f : FitB X g) {op : CmpOp} (hx : okx b = true) (ha : PE X a (tX g W fa)) (hb : PE X b (tX g W fb)) : PE X (.Compare a [op] [b] pos) (tX g W fun ρ => (fa ρ).bind fun ra => (fb ρ).bind fun rb => .lift (cmpR op ra rb)) :=
  PE.to (pe_cmpR (cmp_ok f op) ha hb (okx_mark hx op)) (two fun M O H0 ra rb x y H Q c xa xb h => by
    obtain ⟨r', e, k⟩ := h
    obtain ⟨b, e2, rfl⟩ := Option.map_eq_some_iff.mp (show (cmpD op ra.d rb.d).map rB = some r' from e)
    exact ⟨M, O, H0, ra, rb, b, c, xa, xb, e2, k _ H (Same.refl H) (.bl b)⟩)
/-- a test that is one comparison -/
theorem f_cmpT (f : FitB X g) {op : CmpOp} (hx : okx b = true) (ha : PE X a (tX g W fa)) (hb : PE X b (tX g W fb)) : PT X (.Compare a [op] [b] pos) (tT g W fun ρ => (fa ρ).bind fun ra => (fb ρ).bind fun rb => .lift (cmpR op ra rb)) :=
  PT.to (pt_cmpR (cmp_ok f op) ha hb (okx_mark hx op)) fun σ H Q ⟨M, O, fp, ρ, c, en, h1⟩ => by
    refine ⟨M, O, fp, ρ, c, en, h1.hb.imp (fun ra h2 x H1 s1 xa => ⟨M, O, fp, ρ, c.same s1, en.same s1, h2.hb.imp (fun rb h3 y H2 s2 xb => ?_) fun _ => EW.same s1⟩) fun _ z => z⟩
    obtain ⟨r', e, b', ed, k⟩ := h3.hl
    obtain ⟨bb, e2, rfl⟩ := Option.map_eq_some_iff.mp (show (cmpD op ra.d rb.d).map rB = some r' from e)
    have ed : bb = b' := D.bl.inj ed
    subst ed
    exact ⟨M, O, H, ra, rb, bb, (c.same s1).same s2, xa.same s2, xb.base s1, e2, bb, rfl, k H2 (s1.trans s2)⟩
/-- a test that is a value -/
theorem f_val (ha : PE X e (tX g W fa)) (he : ∀ whole, isTrue e X.env whole = (do let v ← whole; standAt e.pos; holding [v] (truthy v))) : PT X e (tT g W fa) :=
  PT.to (pt_val ha he) fun σ H Q ⟨M, O, fp, ρ, c, en, h1⟩ => ⟨M, O, fp, ρ, c, en, h1.imp (fun r ⟨b, ed, k⟩ v H' s xv => ⟨b, xv.flat_bl ed, k H' s⟩) fun _ z => z⟩
def chainR (o1 o2 : CmpOp) (ra rb : R) (fc : Rx R) : Rx R := match cmpD o1 ra.d rb.d with
  | some true => fc.bind fun rc => .lift (cmpR o2 rb rc)
  | some false => .ok (rB false)
  | none => .bad
theorem chain_read {o1 o2 : CmpOp} (σ : St) (H : Hp) (Q : VK) (q : tX g W (fun ρ => (fa ρ).bind fun ra => (fb ρ).bind fun rb => chainR o1 o2 ra rb (fc ρ)) σ H Q) : tChain (rCmp g o1) (rCmp g o2) (tX g W fa) (tX g W fb) (tX g W fc) σ H Q := by
  obtain ⟨M, O, fp, ρ, c, en, h1⟩ := q
  refine ⟨M, O, fp, ρ, c, en, h1.hb.imp (fun ra h2 x H1 s1 xa => ⟨M, O, fp, ρ, c.same s1, en.same s1, h2.hb.imp (fun rb h3 y H2 s2 xb => ?_) fun _ => EW.same s1⟩) fun _ z => z⟩
  have s12 := s1.trans s2
  unfold chainR at h3
  split at h3
  · rename_i e1
    refine ⟨M, O, H, ra, rb, true, c.same s12, xa.same s2, xb.base s1, e1, true, rfl, iteT ⟨M, O, fp, ρ, c.same s12, en.same s12, h3.hb.imp (fun rc h4 z H3 s3 xc => ?_) fun _ => EW.same s12⟩⟩
    obtain ⟨r', e, k⟩ := h4.hl
    obtain ⟨bb, e2, rfl⟩ := Option.map_eq_some_iff.mp (show (cmpD o2 rb.d rc.d).map rB = some r' from e)
    exact ⟨M, O, H, rb, rc, bb, (c.same s12).same s3, (xb.base s1).same s3, xc.base s12, e2, k _ H3 (s12.trans s3) (.bl bb)⟩
  · rename_i e1
    exact ⟨M, O, H, ra, rb, false, c.same s12, xa.same s2, xb.base s1, e1, false, rfl, iteF (h3 _ H2 s12 (.bl false))⟩
  · exact h3.elim
theorem f_chain (f : FitB X g) {o1 o2 : CmpOp} (hx : okx c = true) (ha : PE X a (tX g W fa)) (hb : PE X b (tX g W fb)) (hc : PE X c (tX g W fc)) :
    PE X (.Compare a [o1, o2] [b, c] pos) (tX g W fun ρ => (fa ρ).bind fun ra => (fb ρ).bind fun rb => chainR o1 o2 ra rb (fc ρ)) :=
  PE.to (pe_chain (cmp_ok f o1) (cmp_ok f o2) ha hb hc (okx_mark hx o2)) chain_read
/-- a value that is a truth, as a test -/
theorem tT_tX {f : Rho → Rx R} {σ : St} {H : Hp} {Q : Bool → Hp → Prop} (h : tT g W f σ H Q) : tX g W f σ H fun v H' => ∃ b, v = .bl b ∧ Q b H' := by
  obtain ⟨M, O, fp, ρ, c, en, h1⟩ := h
  exact ⟨M, O, fp, ρ, c, en, h1.imp (fun r ⟨b, ed, k⟩ v H' s xv => ⟨b, xv.flat_bl ed, k H' s⟩) fun _ z => z⟩
theorem f_chainT (f : FitB X g) {o1 o2 : CmpOp} (hx : okx c = true) (ha : PE X a (tX g W fa)) (hb : PE X b (tX g W fb)) (hc : PE X c (tX g W fc)) :
    PT X (.Compare a [o1, o2] [b, c] pos) (tT g W fun ρ => (fa ρ).bind fun ra => (fb ρ).bind fun rb => chainR o1 o2 ra rb (fc ρ)) :=
  PT.to (pt_chain (cmp_ok f o1) (cmp_ok f o2) ha hb hc (okx_mark hx o2)) fun σ H Q q => chain_read σ H _ (tT_tX q)
def blR : R → Option Bool
  | .shr (.bl b) => some b
  | _ => none
theorem blR_d {r : R} {b : Bool} (h : blR r = some b) : r = rB b := by
  cases r with
  | shr d => cases d <;> simp [blR] at h; subst h; rfl
  | _ => simp [blR] at h
/-- and, or from the left: the last one is the value -/
def boF (isAnd : Bool) : List (Rho → Rx R) → Rho → Rx R
  | [], _ => .bad
  | [f], ρ => f ρ
  | f :: fs, ρ => (f ρ).bind fun r => (Rx.lift (blR r)).bind fun b => if b = isAnd then boF isAnd fs ρ else .ok (rB b)
def boOp (isAnd : Bool) : BoolOp := if isAnd then .And else .Or
theorem f_bo1 {isAnd : Bool} (ha : PE X a (tX g W fa)) : PE X (.BoolOp (boOp isAnd) [a] pos) (tX g W (boF isAnd [fa])) := pe_one ha
theorem f_bo {isAnd : Bool} {fs : List (Rho → Rx R)} {f2 : Rho → Rx R} {rest : List Expr} (ha : PE X a (tX g W fa)) (hb : PE X (.BoolOp (boOp isAnd) (b :: rest) pos) (tX g W (boF isAnd (f2 :: fs)))) :
    PE X (.BoolOp (boOp isAnd) (a :: b :: rest) pos) (tX g W (boF isAnd (fa :: f2 :: fs))) := by
  have rd : ∀ σ H Q, tX g W (boF isAnd (fa :: f2 :: fs)) σ H Q → tX g W fa σ H fun x H1 => ∃ c, x = .bl c ∧ if c = isAnd then tX g W (boF isAnd (f2 :: fs)) σ H1 Q else Q (.bl c) H1 := by
    intro σ H Q ⟨M, O, fp, ρ, c, en, h1⟩
    have h1 : ((fa ρ).bind fun r => (Rx.lift (blR r)).bind fun b => if b = isAnd then boF isAnd (f2 :: fs) ρ else .ok (rB b)).hold _ _ := h1
    refine ⟨M, O, fp, ρ, c, en, h1.hb.imp (fun ra h2 x H1 s1 xa => ?_) fun _ z => z⟩
    obtain ⟨ba, eb, h3⟩ := h2.hb.hl
    refine ⟨ba, xa.flat_bl (by rw [blR_d eb]; rfl), ?_⟩
    by_cases z : ba = isAnd
    · rw [if_pos z] at h3 ⊢
      exact ⟨M, O, fp, ρ, c.same s1, en.same s1, h3.imp (fun _ => Ans.same s1) fun _ => EW.same s1⟩
    · rw [if_neg z] at h3 ⊢
      exact h3 _ H1 s1 (.bl ba)
  have go : ∀ {σ : St} {H : Hp} {Q : VK} {ρ : Rho} {M O : AS} {fp : Nat → AS} {Q1 Q2 : VK}, (∀ v H', Q1 v H' → Q2 v H') → (∃ M O fp ρ, Cd M O H ∧ EnvR g M O fp σ H ρ ∧ (fa ρ).hold (Ans g M O H Q1) (EW g M O H W σ)) → tX g W fa σ H Q2 := fun {σ H Q ρ M O fp Q1 Q2} k ⟨M, O, fp, ρ, c, en, h⟩ =>
    ⟨M, O, fp, ρ, c, en, h.imp (fun r h v H' s xv => k v H' (h v H' s xv)) fun _ z => z⟩
  cases isAnd with
  | true =>
    refine PE.to (pe_and ha hb) fun σ H Q q => go (Q := Q) (ρ := []) (M := .no) (O := .no) (fp := fun _ => .no) (fun v H' ⟨cc, e1, q⟩ => ⟨cc, e1, ?_⟩) (rd σ H Q q)
    cases cc with
    | true => rw [if_pos rfl] at q; exact iteT q
    | false => rw [if_neg (by decide)] at q; exact iteF q
  | false =>
    refine PE.to (pe_or ha hb) fun σ H Q q => go (Q := Q) (ρ := []) (M := .no) (O := .no) (fp := fun _ => .no) (fun v H' ⟨cc, e1, q⟩ => ⟨cc, e1, ?_⟩) (rd σ H Q q)
    cases cc with
    | true => rw [if_neg (by decide)] at q; exact iteT q
    | false => rw [if_pos rfl] at q; exact iteF q
theorem f_bo1T {isAnd : Bool} (ha : PT X a (tT g W fa)) : PW X (.BoolOp (boOp isAnd) [a] pos) (tT g W (boF isAnd [fa])) := by
  cases isAnd with
  | true => exact pw_and1 ha
  | false => exact pw_or1 ha
theorem f_boT {isAnd : Bool} {fs : List (Rho → Rx R)} {f2 : Rho → Rx R} {rest : List Expr} (ha : PT X a (tT g W fa)) (hb : PW X (.BoolOp (boOp isAnd) (b :: rest) pos) (tT g W (boF isAnd (f2 :: fs)))) :
    PW X (.BoolOp (boOp isAnd) (a :: b :: rest) pos) (tT g W (boF isAnd (fa :: f2 :: fs))) := by
  have rd : ∀ σ H (Q Q' : Bool → Hp → Prop), (∀ c H1, (if c = isAnd then tT g W (boF isAnd (f2 :: fs)) σ H1 Q else Q c H1) → Q' c H1) → tT g W (boF isAnd (fa :: f2 :: fs)) σ H Q → tT g W fa σ H Q' := by
    intro σ H Q Q' kk ⟨M, O, fp, ρ, c, en, h1⟩
    have h1 : ((fa ρ).bind fun r => (Rx.lift (blR r)).bind fun b => if b = isAnd then boF isAnd (f2 :: fs) ρ else .ok (rB b)).hold _ _ := h1
    refine ⟨M, O, fp, ρ, c, en, h1.hb.imp (fun ra h2 => ?_) fun _ z => z⟩
    obtain ⟨ba, eb, h3⟩ := h2.hb.hl
    refine ⟨ba, by rw [blR_d eb]; rfl, fun H1 s1 => kk _ _ ?_⟩
    by_cases z : ba = isAnd
    · rw [if_pos z] at h3 ⊢
      exact ⟨M, O, fp, ρ, c.same s1, en.same s1, h3.imp (fun _ ⟨b, eb, k⟩ => ⟨b, eb, fun H' s' => k H' (s1.trans s')⟩) fun _ => EW.same s1⟩
    · rw [if_neg z] at h3 ⊢
      obtain ⟨b, eb, k⟩ := h3
      cases eb
      exact k H1 s1
  cases isAnd with
  | true =>
    refine PW.to (pw_and ha hb) fun σ H Q q => rd σ H Q _ (fun c H1 q => ?_) q
    cases c with
    | true => rw [if_pos rfl] at q; exact iteT q
    | false => rw [if_neg (by decide)] at q; exact iteF q
  | false =>
    refine PW.to (pw_or ha hb) fun σ H Q q => rd σ H Q _ (fun c H1 q => ?_) q
    cases c with
    | true => rw [if_neg (by decide)] at q; exact iteT q
    | false => rw [if_pos rfl] at q; exact iteF q
def notR (ra : R) : Option R := (blR ra).map fun b => rB (!b)
theorem f_not (ha : PE X a (tX g W fa)) : PE X (.UnaryOp .Not a pos) (tX g W fun ρ => (fa ρ).bind fun r => .lift (notR r)) :=
  PE.to (pe_not ha) fun σ H Q ⟨M, O, fp, ρ, c, en, h1⟩ => ⟨M, O, fp, ρ, c, en, h1.hb.imp (fun ra h2 v H' s xv => by
    obtain ⟨r, e, k⟩ := h2.hl
    obtain ⟨bb, eb, rfl⟩ := Option.map_eq_some_iff.mp e
    exact ⟨bb, xv.flat_bl (by rw [blR_d eb]; rfl), k _ H' s (.bl _)⟩) fun _ z => z⟩
theorem f_notT (ha : PT X a (tT g W fa)) : PT X (.UnaryOp .Not a pos) (tT g W fun ρ => (fa ρ).bind fun r => .lift (notR r)) :=
  PT.to (pt_not ha) fun σ H Q ⟨M, O, fp, ρ, c, en, h1⟩ => ⟨M, O, fp, ρ, c, en, h1.hb.imp (fun ra h2 => by
    obtain ⟨r, e, b, ed, k⟩ := h2.hl
    obtain ⟨bb, eb, rfl⟩ := Option.map_eq_some_iff.mp e
    cases ed
    exact ⟨bb, by rw [blR_d eb]; rfl, fun H' s => k H' s⟩) fun _ z => z⟩
def negR (ra : R) : Option R := match ra.d with
  | .int i => some (rI (-i))
  | _ => none
theorem f_neg (ha : PE X a (tX g W fa)) : PE X (.UnaryOp .USub a pos) (tX g W fun ρ => (fa ρ).bind fun r => .lift (negR r)) :=
  PE.to (pe_un un_neg ha) fun σ H Q ⟨M, O, fp, ρ, c, en, h1⟩ => ⟨M, O, fp, ρ, c, en, h1.hb.imp (fun ra h2 v H' s xv => by
    obtain ⟨r, e, k⟩ := h2.hl
    unfold negR at e
    split at e
    · rename_i i ed
      cases e
      exact ⟨i, xv.flat_int ed, k _ H' s (.int _)⟩
    · cases e) fun _ z => z⟩
theorem f_ife (hc : PT X c (tT g W fc)) (ha : PE X a (tX g W fa)) (hb : PE X b (tX g W fb)) : PE X (.IfExp c a b pos) (tX g W fun ρ => (fc ρ).bind fun rc => (Rx.lift (blR rc)).bind fun t => if t = true then fa ρ else fb ρ) :=
  PE.to (pe_ifExp hc ha hb) fun σ H Q ⟨M, O, fp, ρ, c, en, h1⟩ => ⟨M, O, fp, ρ, c, en, h1.hb.imp (fun rc h2 => by
    obtain ⟨t, et, h3⟩ := h2.hb.hl
    refine ⟨t, by rw [blR_d et]; rfl, fun H1 s1 => ?_⟩
    cases t with
    | true => exact iteT ⟨M, O, fp, ρ, c.same s1, en.same s1, Rx.hold.imp h3 (fun _ => Ans.same s1) fun _ => EW.same s1⟩
    | false => exact iteF ⟨M, O, fp, ρ, c.same s1, en.same s1, Rx.hold.imp h3 (fun _ => Ans.same s1) fun _ => EW.same s1⟩) fun _ z => z⟩

/-! ### argument lists -/
theorem f_nil : PA X [] (tL g W fun _ => .ok []) := PA.to pa_nil fun σ H Q ⟨M, O, fp, ρ, c, en, h⟩ => h [] H (Same.refl H) .nil
theorem f_cons (hx : okx e = true) (ha : PE X e (tX g W fa)) (hr : PA X es (tL g W fl)) : PA X (e :: es) (tL g W fun ρ => (fa ρ).bind fun r => (fl ρ).bind fun rs => .ok (r :: rs)) :=
  PA.to (pa_cons ha hr (okx_star hx es X.env)) fun σ H Q ⟨M, O, fp, ρ, c, en, h1⟩ =>
    ⟨M, O, fp, ρ, c, en, h1.hb.imp (fun ra h2 x H1 s1 xa => ⟨M, O, fp, ρ, c.same s1, en.same s1, h2.hb.imp (fun rs h3 vs H2 s2 xs => h3 _ H2 (s1.trans s2) (.cons (xa.same s2) (xs.base s1))) fun _ => EW.same s1⟩) fun _ z => z⟩
/-- what may be put into a new object -/
def kid : R → Option D
  | .shr d => some d
  | .own t => some t.d
  | .tmp _ => none
  | .vw _ => none
def kids : List R → Option (List D)
  | [] => some []
  | r :: rs => (kid r).bind fun p => (kids rs).bind fun q => some (p :: q)
theorem kid_ok {M O : AS} {H0 H : Hp} {v : V} {r : R} {p : D} (c : Cd M O H0) (h : XR g M O H0 H v r) (e : kid r = some p) : Rep g (M.u O) H v p := by
  cases r with
  | shr d => cases e; exact h
  | own t => cases e; exact h.shr_own c
  | tmp t => cases e
  | vw t => cases e
theorem kids_ok {M O : AS} {H0 H : Hp} (c : Cd M O H0) : ∀ {vs : List V} {rs : List R} {p : List D}, XRs g M O H0 H vs rs → kids rs = some p → RepL g (M.u O) H vs p
  | _, _, _, .nil, e => by cases e; exact .nil
  | _, _, _, .cons h r, e => by
    simp only [kids] at e
    obtain ⟨p1, e1, e⟩ := Option.bind_eq_some_iff.mp e
    obtain ⟨p2, e2, e⟩ := Option.bind_eq_some_iff.mp e
    cases e
    exact .cons (kid_ok c h e1) (kids_ok c r e2)
def tupR (rs : List R) : Option R := (kids rs).bind fun p => if p.length ≤ sizeLine then some (.shr (.tup p)) else none
def lstR (rs : List R) : Option R := (kids rs).bind fun p => if p.length ≤ sizeLine then some (rL p) else none
theorem f_tup {x1} (h : PA X es (tL g W fl)) : PE X (.Tuple es x1 pos) (tX g W fun ρ => (fl ρ).bind fun rs => .lift (tupR rs)) :=
  PE.to (pe_tup h) fun σ H Q ⟨M, O, fp, ρ, c, en, h1⟩ => ⟨M, O, fp, ρ, c, en, h1.hb.imp (fun rs h2 vs H1 s1 xs => by
    obtain ⟨r, e, k⟩ := h2.hl
    obtain ⟨p, ep, e⟩ := Option.bind_eq_some_iff.mp e
    split at e
    · rename_i z
      cases e
      have q := kids_ok c xs ep
      exact ⟨by rw [q.length]; exact z, fun a ha => k _ _ (s1.trans (same_upd ha)) (XR.base s1 (new_tup (c.same s1) ha q))⟩
    · cases e) fun _ z => z⟩
theorem f_lst (h : PA X es (tL g W fl)) : PE X (.List es pos) (tX g W fun ρ => (fl ρ).bind fun rs => .lift (lstR rs)) :=
  PE.to (pe_lst h) fun σ H Q ⟨M, O, fp, ρ, c, en, h1⟩ => ⟨M, O, fp, ρ, c, en, h1.hb.imp (fun rs h2 vs H1 s1 xs => by
    obtain ⟨r, e, k⟩ := h2.hl
    obtain ⟨p, ep, e⟩ := Option.bind_eq_some_iff.mp e
    split at e
    · rename_i z
      cases e
      have q := kids_ok c xs ep
      exact ⟨by rw [q.length]; exact z, fun a ha => k _ _ (s1.trans (same_upd ha)) (XR.base s1 (new_lst ha q))⟩
    · cases e) fun _ z => z⟩
def rDk (kvs : List (Key × D)) : R := .own (.pl (.dk kvs))
def rDt (kvs : List (List Key × D)) : R := .own (.pl (.dt kvs))
theorem f_dnewK : PE X (.Dict [] [] pos) (tX g W fun _ => .ok (rDk [])) :=
  PE.to pe_dnewK fun σ H Q ⟨M, O, fp, ρ, c, en, k⟩ => fun p hp => k _ _ (same_upd hp) ⟨.one p, fun a z => by cases (show a = p from z); exact ⟨hp, _, upd_same, trivial⟩, .pl rfl ⟨[], .inl upd_same, rfl, .nil⟩⟩
theorem f_dnewT : PE X (.Dict [] [] pos) (tX g W fun _ => .ok (rDt [])) :=
  PE.to pe_dnewT fun σ H Q ⟨M, O, fp, ρ, c, en, k⟩ => fun p hp => k _ _ (same_upd hp) ⟨.one p, fun a z => by cases (show a = p from z); exact ⟨hp, _, upd_same, trivial⟩, .pl rfl ⟨[], .inl upd_same, rfl, .nil⟩⟩
end
end
end Q

end

section
set_option Elab.async false
set_option linter.all false
set_option maxRecDepth 100000
set_option maxHeartbeats 1000000
/-! Q4: subscripts, slices, fields. -/
namespace Q
noncomputable section
open PySem PySem.Spec L2
open PyProof.Rows hiding St

theorem PE.or {X : Cx} {e : Expr} {t t' : TE} (h : PE X e t) (h' : PE X e t') : PE X e (fun σ H Q => t σ H Q ∨ t' σ H Q) := ⟨fun pins s σ H Q I q => q.elim (h.run pins s σ H Q I) (h'.run pins s σ H Q I)⟩

/-! ### arguments that are plain -/
def okxs : List Expr → Bool
  | [] => true
  | e :: es => okx e && okxs es
theorem okxs_any : ∀ {es : List Expr} (env : Env) (p : Pos), okxs es = true → (backTo p (starEach es env)).any (·.1) = false
  | [], _, _, _ => rfl
  | e :: es, env, p, h => by
    have h := Bool.and_eq_true_iff.mp (show (okx e && okxs es) = true from h)
    rw [okx_star h.1]
    show ((false, eval e env) :: backTo p (starEach es env)).any (·.1) = false
    rw [List.any_cons, okxs_any env p h.2]
    rfl
theorem okxs_all : ∀ {es : List Expr} (env : Env) (p : Pos), okxs es = true → (backTo p (starEach es env)).all (fun x => !x.1) = true
  | [], _, _, _ => rfl
  | e :: es, env, p, h => by
    have h := Bool.and_eq_true_iff.mp (show (okx e && okxs es) = true from h)
    rw [okx_star h.1]
    show ((false, eval e env) :: backTo p (starEach es env)).all (fun x => !x.1) = true
    rw [List.all_cons, okxs_all env p h.2]
    rfl

/-! ### parts of trees -/
inductive Kd where
  | own | tmp | vw
def chi (o : Kd) : T → R
  | .lf d => .shr d
  | t => (match o with
    | .own => .shr t.d
    | .tmp => .tmp t
    | .vw => .vw t)
def R.tr : R → Option (Kd × T)
  | .own t => some (.own, t)
  | .tmp t => some (.tmp, t)
  | .vw t => some (.vw, t)
  | .shr _ => none
theorem chi_own {g : G} {M O S : AS} {H0 H H1 : Hp} {w : V} {c : T} (cd : Cd M O H0) (f : Fr H0 H S) (h : OT g ((M.u O).u S) H w c S) : XR g M O H1 H w (chi .own c) := by
  have q : Rep g (M.u O) H w c.d := h.shared fun a u z _ => cd.fresh (f a z).1
  cases c <;> exact q
theorem chi_vw {g : G} {M O S : AS} {H0 H : Hp} {w : V} {c : T} (f : ∀ a, S a → O a) (h : OT g (M.u O) H w c S) : XR g M O H0 H w (chi .vw c) := by
  cases c with
  | lf d => cases h with | lf q => exact q
  | _ => exact ⟨S, f, h⟩
theorem chi_tmp {g : G} {M O S : AS} {H0 H : Hp} {w : V} {c : T} (f : ∀ a, S a → M a) (h : OT g (M.u O) H w c S) : XR g M O H0 H w (chi .tmp c) := by
  cases c with
  | lf d => cases h with | lf q => exact q
  | _ => exact ⟨S, f, h⟩
theorem XR.part {g : G} {M O : AS} {H0 H : Hp} {v : V} {r : R} {o : Kd} {t : T} (cd : Cd M O H0) (h : XR g M O H0 H v r) (e : r.tr = some (o, t)) :
    ∃ B S, OT g B H v t S ∧ ∀ H1 w c, OT g B H w c S → XR g M O H1 H w (chi o c) := by
  cases r with
  | shr d => cases e
  | own t => cases e; obtain ⟨S, f, q⟩ := h; exact ⟨_, S, q, fun H1 w c k => chi_own cd f k⟩
  | tmp t => cases e; obtain ⟨S, f, q⟩ := h; exact ⟨_, S, q, fun H1 w c k => chi_tmp f k⟩
  | vw t => cases e; obtain ⟨S, f, q⟩ := h; exact ⟨_, S, q, fun H1 w c k => chi_vw f k⟩
theorem OTs.get {g : G} {B : AS} {H : Hp} : ∀ {vs : List V} {ts : List T} {S : AS} {i : Nat} {t : T}, OTs g B H vs ts S → ts[i]? = some t → ∃ v, vs[i]? = some v ∧ OT g B H v t S
  | _, _, _, _, _, .nil, e => by simp at e
  | _, _, _, 0, _, .cons S1 S2 w1 w2 ds h r, e => by simp at e; subst e; exact ⟨_, rfl, h.more w1⟩
  | _, _, _, i + 1, _, .cons S1 S2 w1 w2 ds h r, e => by
    obtain ⟨v, h1, h2⟩ := OTs.get (i := i) r (by simpa using e)
    exact ⟨v, by simpa using h1, h2.more w2⟩
def lookT (ks : List Key) (ts : List T) (k : Key) : Option T := match ks, ts with
  | k' :: ks, t :: ts => if k' = k then some t else lookT ks ts k
  | _, _ => none
theorem lookT_ok {g : G} {B : AS} {H : Hp} {k : Key} : ∀ {kvs : List (Key × V)} {ts : List T} {S : AS} {t : T}, OTs g B H (kvs.map (·.2)) ts S → lookT (kvs.map (·.1)) ts k = some t → ∃ v, valV kvs k = some v ∧ OT g B H v t S
  | [], _, _, _, _, e => by simp [lookT] at e
  | p :: kvs, [], _, _, _, e => by simp [lookT] at e
  | p :: kvs, x :: ts, S, t, h, e => by
    cases h with
    | cons S1 S2 w1 w2 ds h r =>
      simp only [List.map_cons, lookT] at e
      by_cases z : p.1 = k
      · rw [if_pos z] at e; cases e
        exact ⟨_, valV_pos z, h.more w1⟩
      · rw [if_neg z] at e
        obtain ⟨v, h1, h2⟩ := lookT_ok r e
        exact ⟨v, by rw [valV_neg z]; exact h1, h2.more w2⟩

/-! ### subscripts -/
def subD (d i : D) : Option D := match d with
  | .lst ds => (match i with
    | .int i => atI ds i
    | _ => none)
  | .tup ds => (match i with
    | .int i => atI ds i
    | _ => none)
  | .scr ns => (match i with
    | .int i => (atI ns i).map .int
    | _ => none)
  | .str z => (match i with
    | .int i => if z.length ≤ sizeLine then (atI z.cps.toList i).map fun c => .str ⟨#[c]⟩ else none
    | _ => none)
  | .dk ds => (getD (.dk ds) i).bind id
  | .dt ds => (getD (.dt ds) i).bind id
  | _ => none
def subT (t : T) (i : D) : Option T := match t with
  | .lst ts => (match i with
    | .int i => atI ts i
    | _ => none)
  | .dk ks ts => (keyD i).bind (lookT ks ts)
  | _ => none
def subR (ra ri : R) : Option R := match ra.sh with
  | some d => (subD d ri.d).map .shr
  | none => (match ra.tr with
    | some (o, t) => (subT t ri.d).map (chi o)
    | none => none)
theorem atI_rep {g : G} {B : AS} {H : Hp} {vs : List V} {ds : List D} {i : Int} {d : D} (h : RepL g B H vs ds) (e : atI ds i = some d) : ∃ v, atI vs i = some v ∧ Rep g B H v d := by
  unfold atI at e ⊢
  rw [h.length]
  obtain ⟨j, e1, e2⟩ := Option.bind_eq_some_iff.mp e
  obtain ⟨v, e3, q⟩ := h.get e2
  exact ⟨v, by rw [e1]; exact e3, q⟩
theorem atI_ot {g : G} {B S : AS} {H : Hp} {vs : List V} {ds : List T} {i : Int} {d : T} (h : OTs g B H vs ds S) (e : atI ds i = some d) : ∃ v, atI vs i = some v ∧ OT g B H v d S := by
  unfold atI at e ⊢
  rw [h.length]
  obtain ⟨j, e1, e2⟩ := Option.bind_eq_some_iff.mp e
  obtain ⟨v, e3, q⟩ := h.get e2
  exact ⟨v, by rw [e1]; exact e3, q⟩
theorem atI_map {α β : Type} {f : α → β} {xs : List α} {i : Int} {x : α} (e : atI xs i = some x) : atI (xs.map f) i = some (f x) := by
  unfold atI at e ⊢
  rw [List.length_map]
  obtain ⟨j, e1, e2⟩ := Option.bind_eq_some_iff.mp e
  rw [e1]
  show (xs.map f)[j]? = _
  rw [List.getElem?_map, e2]
  rfl
section
variable {X : Cx} {g : G} {n : Nat} {W : WX} {e a b c i : Expr} {es : List Expr} {pos : Pos} {fa fb fc : Rho → Rx R} {fl : Rho → Rx (List R)}
/-- what a subscript asks, by values -/
def rSub (g : G) : R2 := fun x y H Q => ∃ M O H0 ra rb, Cd M O H0 ∧ XR g M O H0 H x ra ∧ XR g M O H0 H y rb ∧ ROut g M O H (subR ra rb) Q
/-- the item that is read -/
theorem sub_item {M O : AS} {H0 H H1 : Hp} {x y : V} {ra rb : R} {r : R} {K : PySem.W.Frag} (hK : K = g.K) (cd : Cd M O H0) (xa : XR g M O H0 H x ra) (xb : XR g M O H0 H y rb) (e : subR ra rb = some r) :
    (∃ p vs ii w, x = .ref p ∧ y = .int ii ∧ (SqL K H p vs ∨ SqT K H p vs) ∧ atI vs ii = some w ∧ XR g M O H1 H w r) ∨
    (∃ z ii cc, x = .str z ∧ y = .int ii ∧ z.length ≤ sizeLine ∧ atI z.cps.toList ii = some cc ∧ r = rS ⟨#[cc]⟩) ∨
    ∃ p w, x = .ref p ∧ DGet H p y (some w) ∧ XR g M O H1 H w r := by
  subst hK
  unfold subR at e
  split at e
  · rename_i d ed
    obtain ⟨d', e1, rfl⟩ := Option.map_eq_some_iff.mp e
    have nd := xa.nod ed
    have vd := R.sh_d ed
    cases d with
    | lst ds =>
      simp only [subD] at e1
      split at e1
      · rename_i ii ei
        obtain ⟨p, vs, rfl, h1, h2⟩ := nd
        obtain ⟨w, h3, h4⟩ := atI_rep h2 e1
        exact .inl ⟨p, vs, ii, w, rfl, xb.flat_int ei, .inl (SqL.of h1), h3, h4⟩
      · cases e1
    | tup ds =>
      simp only [subD] at e1
      split at e1
      · rename_i ii ei
        obtain ⟨p, vs, rfl, h1, h2⟩ := nd
        obtain ⟨w, h3, h4⟩ := atI_rep h2 e1
        exact .inl ⟨p, vs, ii, w, rfl, xb.flat_int ei, .inr (SqT.of h1), h3, h4⟩
      · cases e1
    | scr ns =>
      simp only [subD] at e1
      split at e1
      · rename_i ii ei
        obtain ⟨m, e2, rfl⟩ := Option.map_eq_some_iff.mp e1
        obtain ⟨p, rfl, h1⟩ := xa.scr vd
        exact .inl ⟨p, ns.map V.int, ii, .int m, rfl, xb.flat_int ei, .inl h1, atI_map e2, .int m⟩
      · cases e1
    | str z =>
      simp only [subD] at e1
      split at e1
      · rename_i ii ei
        split at e1
        · rename_i hz
          obtain ⟨cc, e2, rfl⟩ := Option.map_eq_some_iff.mp e1
          exact .inr (.inl ⟨z, ii, cc, xa.flat_str vd, xb.flat_int ei, hz, e2, rfl⟩)
        · cases e1
      · cases e1
    | dk ds =>
      obtain ⟨o, e2, e3⟩ := Option.bind_eq_some_iff.mp (show (getD (.dk ds) rb.d).bind id = some d' from e1)
      cases (show o = some d' from e3)
      obtain ⟨p, ov, rfl, h1, h2⟩ := get_ok nd xb.view e2
      rcases h2 with ⟨z, _⟩ | ⟨d2, w, z1, z2, z3⟩
      · cases z
      · cases z1; subst z2
        exact .inr (.inr ⟨p, w, rfl, h1, z3⟩)
    | dt ds =>
      obtain ⟨o, e2, e3⟩ := Option.bind_eq_some_iff.mp (show (getD (.dt ds) rb.d).bind id = some d' from e1)
      cases (show o = some d' from e3)
      obtain ⟨p, ov, rfl, h1, h2⟩ := get_ok nd xb.view e2
      rcases h2 with ⟨z, _⟩ | ⟨d2, w, z1, z2, z3⟩
      · cases z
      · cases z1; subst z2
        exact .inr (.inr ⟨p, w, rfl, h1, z3⟩)
    | _ => cases e1
  · split at e
    · rename_i o t et
      obtain ⟨c, e1, rfl⟩ := Option.map_eq_some_iff.mp e
      obtain ⟨B, S, ot, kk⟩ := xa.part cd et
      cases ot with
      | lst S' s h w nn rr =>
        simp only [subT] at e1
        split at e1
        · rename_i ii ei
          obtain ⟨u, h3, h4⟩ := atI_ot rr e1
          exact .inl ⟨_, _, ii, u, rfl, xb.flat_int ei, .inl (SqL.of h), h3, kk _ _ _ (h4.more w)⟩
        · cases e1
      | dk S' s h ek w nn rr =>
        subst ek
        obtain ⟨k, e2, e3⟩ := Option.bind_eq_some_iff.mp (show (keyD rb.d).bind (lookT _ _) = some c from e1)
        obtain ⟨u, h3, h4⟩ := lookT_ok rr e3
        have ey := keyD_val xb.view e2
        exact .inr (.inr ⟨_, u, rfl, .inl ⟨_, k, h, ey, h3.symm⟩, kk _ _ _ (h4.more w)⟩)
      | _ => cases e1
    · cases e
theorem ix_dict (hu : X.A.units + 1 < cLine) : IxR X (fun x y H Q => ∃ a v, x = .ref a ∧ DGet H a y (some v) ∧ Q v H) := by
  intro value slice pins s σ H x y v u Q I rx ry h hs
  obtain ⟨a, w, rfl, gd, q⟩ := h
  cases rx
  exact tail_any (dict_typeIs I gd) PySem.F.slot_dict_getitem.lookup (d_getItem hu I gd ry fun w' s3 I3 rw' => ⟨w, H, I3, rw', q⟩) hs
theorem sub_ok (f : Fit X g n) : IxR X (rSub g) := by
  intro value slice pins s σ H x y v u Q I rx ry h hs
  obtain ⟨M, O, H0, ra, rb, c, xa, xb, r, e, k⟩ := h
  rcases sub_item (H1 := H) f.K c xa xb e with ⟨p, vs, ii, w, rfl, rfl, h1, h2, h3⟩ | ⟨z, ii, cc, rfl, rfl, h1, h2, rfl⟩ | ⟨p, w, rfl, h1, h2⟩
  · refine ix_seq value slice pins s σ H _ _ v u Q I rx ry ?_ hs
    rcases h1 with h1 | h1
    · exact .inl ⟨p, vs, ii, w, rfl, rfl, h1, h2, k w H (Same.refl H) h3⟩
    · exact .inr (.inl ⟨p, vs, ii, w, rfl, rfl, h1, h2, k w H (Same.refl H) h3⟩)
  · exact ix_seq value slice pins s σ H _ _ v u Q I rx ry (.inr (.inr ⟨z, ii, cc, rfl, rfl, h1, h2, k _ H (Same.refl H) (.str _)⟩)) hs
  · exact ix_dict f.hu value slice pins s σ H _ _ v u Q I rx ry ⟨p, w, rfl, h1, k w H (Same.refl H) h2⟩ hs
theorem two0 {r2 : R2} {F : R → R → Option R} (h : ∀ M O H0 ra rb x y H Q, Cd M O H0 → XR g M O H0 H x ra → XR g M O H0 H y rb → ROut g M O H (F ra rb) Q → r2 x y H Q) (σ : St) (H : Hp) (Q : VK)
    (q : tX g W (fun ρ => (fa ρ).bind fun ra => (fb ρ).bind fun rb => .lift (F ra rb)) σ H Q) : tOp r2 (tX g W fa) (tX g W fb) σ H Q := by
  obtain ⟨M, O, fp, ρ, c, en, h1⟩ := q
  refine ⟨M, O, fp, ρ, c, en, h1.hb.imp (fun ra h2 x H1 s1 xa => ⟨M, O, fp, ρ, c.same s1, en.same s1, h2.hb.imp (fun rb h3 y H2 s2 xb => ?_) fun _ => EW.same s1⟩) fun _ z => z⟩
  exact h M O H ra rb x y H2 Q c (xa.same s2) (xb.base s1) (out_of (s1.trans s2) h3)
theorem f_sub (f : Fit X g n) (hx : okx i = true) (ha : PE X a (tX g W fa)) (hb : PE X i (tX g W fb)) : PE X (.Subscript a i pos) (tX g W fun ρ => (fa ρ).bind fun ra => (fb ρ).bind fun rb => .lift (subR ra rb)) :=
  PE.to (pe_ix (sub_ok f) ha hb (fun o i => okx_sub hx o i)) (two0 fun M O H0 ra rb x y H Q c xa xb h => ⟨M, O, H0, ra, rb, c, xa, xb, h⟩)
end

/-! ### slices -/
def cutG {α : Type} (xs : List α) (lo hi : Option Int) : List α := (xs.drop (HT.sIx xs.length 0 lo)).take (HT.sIx xs.length xs.length hi - HT.sIx xs.length 0 lo)
def slcD (d : D) (lo hi : Option Int) : Option R := match d with
  | .lst ds => some (rL (cutG ds lo hi))
  | .scr ns => some (rL ((cutG ns lo hi).map .int))
  | .str z => if z.length ≤ sizeLine then some (rS (cutS z lo hi)) else none
  | .tup ds => some (.shr (.tup (cutG ds lo hi)))
  | _ => none
def slcR (ra : R) (lo hi : Option Int) : Option R := match ra.sh with
  | some d => slcD d lo hi
  | none => none
def tO (g : G) (W : WX) (f : Rho → Rx (Option Int)) : TO := fun σ H Q => ∃ M O fp ρ, Cd M O H ∧ EnvR g M O fp σ H ρ ∧ (f ρ).hold (fun o => ∀ H', Same H H' → Q o H') (EW g M O H W σ)
theorem PO.to {X : Cx} {e : Option Expr} {t t' : TO} (h : PO X e t) (k : ∀ σ H Q, t' σ H Q → t σ H Q) : PO X e t' := ⟨fun pins s σ H Q I q => h.run pins s σ H Q I (k _ _ _ q)⟩
theorem cut_rep {g : G} {B : AS} {H : Hp} {vs : List V} {ds : List D} (h : RepL g B H vs ds) (lo hi : Option Int) : RepL g B H (cutV vs lo hi) (cutG ds lo hi) := by
  unfold cutV cutG
  rw [h.length]
  exact (h.drop _).take _
theorem cut_ints (ns : List Int) (lo hi : Option Int) : cutV (ns.map V.int) lo hi = (cutG ns lo hi).map V.int := by
  unfold cutV cutG
  rw [List.length_map, List.map_take, List.map_drop]
def intR (r : R) : Option (Option Int) := match r.d with
  | .int i => some (some i)
  | _ => none
section
variable {X : Cx} {g : G} {n : Nat} {W : WX} {e a b c i : Expr} {es : List Expr} {pos p2 : Pos} {fa fb fc : Rho → Rx R} {fl : Rho → Rx (List R)} {lo hi : Option Expr} {fo fo2 : Rho → Rx (Option Int)}
theorem f_nopart : PO X none (tO g W fun _ => .ok none) := PO.to po_none fun σ H Q ⟨M, O, fp, ρ, c, en, h⟩ => h H (Same.refl H)
theorem f_part (ha : PE X a (tX g W fa)) : PO X (some a) (tO g W fun ρ => (fa ρ).bind fun r => .lift (intR r)) := PO.to (po_some ha) fun σ H Q ⟨M, O, fp, ρ, c, en, h1⟩ =>
  ⟨M, O, fp, ρ, c, en, h1.hb.imp (fun ra h2 v H' s xv => by
    obtain ⟨o, e, k⟩ := h2.hl
    unfold intR at e
    split at e
    · rename_i i ed
      cases e
      exact ⟨i, xv.flat_int ed, k H' s⟩
    · cases e) fun _ z => z⟩
theorem f_slc (f : Fit X g n) (ha : PE X a (tX g W fa)) (hl : PO X lo (tO g W fo)) (hu : PO X hi (tO g W fo2)) :
    PE X (.Subscript a (.Slice lo hi none p2) pos) (tX g W fun ρ => (fa ρ).bind fun ra => (fo ρ).bind fun l => (fo2 ρ).bind fun h => .lift (slcR ra l h)) := by
  refine PE.to (pe_slice (SlR.or (sl_list (X := X)) (SlR.or (sl_str (X := X)) (sl_tupA (X := X)))) ha hl hu) fun σ H Q ⟨M, O, fp, ρ, c, en, h1⟩ => ?_
  refine ⟨M, O, fp, ρ, c, en, h1.hb.imp (fun ra h2 x H1 s1 xa => ⟨M, O, fp, ρ, c.same s1, en.same s1, h2.hb.imp (fun l h3 H2 s2 => ⟨M, O, fp, ρ, (c.same s1).same s2, (en.same s1).same s2, h3.hb.imp (fun h h4 H3 s3 => ?_) fun _ z => EW.same s2 (EW.same s1 z)⟩) fun _ => EW.same s1⟩) fun _ z => z⟩
  have s := (s1.trans s2).trans s3
  have xa := (xa.same s2).same s3
  obtain ⟨r, e, k⟩ := h4.hl
  unfold slcR at e
  split at e
  · rename_i d ed
    have nd := xa.nod ed
    have vd := R.sh_d ed
    cases d with
    | lst ds =>
      cases e
      obtain ⟨p, vs, rfl, h1, h2⟩ := nd
      exact .inl ⟨p, vs, rfl, SqL.of h1, fun q hq => k _ _ (s.trans (same_upd hq)) (XR.base s (new_lst hq (cut_rep h2 l h)))⟩
    | scr ns =>
      cases e
      obtain ⟨p, rfl, h1⟩ := xa.scr vd
      refine .inl ⟨p, ns.map V.int, rfl, by rw [f.K]; exact h1, fun q hq => k _ _ (s.trans (same_upd hq)) (XR.base s (new_lst hq ?_))⟩
      rw [cut_ints]
      exact RepL.ints _
    | str z =>
      simp only [slcD] at e
      split at e
      · rename_i hz
        cases e
        exact .inr (.inl ⟨z, xa.flat_str vd, hz, k _ H3 s (.str _)⟩)
      · cases e
    | tup ds =>
      cases e
      obtain ⟨p, vs, rfl, h1, h2⟩ := nd
      have cr := cut_rep h2 l h
      refine .inr (.inr ⟨p, vs, rfl, SqT.of h1, fun z => ?_, fun z q hq => k _ _ (s.trans (same_upd hq)) (XR.base s (new_tup (c.same s) hq cr))⟩)
      have ev : cutG ds l h = ds := by
        unfold cutG
        rw [← h2.length, z.1, z.2, h2.length]
        simp
      rw [ev] at k
      refine k _ H3 s ?_
      show Rep g (M.u O) H3 (.ref p) (.tup ds)
      cases ra with
      | shr d => cases ed; exact xa
      | own t =>
        obtain ⟨S, f, q⟩ := xa
        cases t with
        | lf d => cases ed; cases q with | lf q => exact q.less fun a z => .inl z
        | pl d => cases ed; cases q with | pl _ t => exact t.elim
        | _ => cases ed
      | tmp t =>
        obtain ⟨S, f, q⟩ := xa
        cases t with
        | lf d => cases ed; cases q with | lf q => exact q
        | pl d => cases ed; cases q with | pl _ t => exact t.elim
        | _ => cases ed
      | vw t =>
        obtain ⟨S, f, q⟩ := xa
        cases t with
        | lf d => cases ed; cases q with | lf q => exact q
        | pl d => cases ed; cases q with | pl _ t => exact t.elim
        | _ => cases ed
    | _ => cases e
  · cases e
end

/-! ### fields -/
def fldR (j lo hi : Nat) (r : R) : Option R := match r.sh with
  | some (.ins c ds) => if lo ≤ c ∧ c < hi then (ds[j]?).map .shr else none
  | some _ => none
  | none => (match r.tr with
    | some (o, .ins c ts) => if lo ≤ c ∧ c < hi then (ts[j]?).map (chi o) else none
    | _ => none)
structure FldSat (g : G) (f : Str) (j lo hi : Nat) : Prop where
  at_ : ∀ c, lo ≤ c → c < hi → (g.at_ c)[j]? = some f ∧ (g.at_ c).Nodup ∧ Cls g.K (g.cl c) ∧ NoAttr g.K (g.cl c) f
theorem lookup_at : ∀ {fs : List (Str × V)} {names : List Str} {j : Nat} {f : Str} {v : V}, fs.map (·.1) = names → names.Nodup → names[j]? = some f → (fs.map (·.2))[j]? = some v → fs.lookup f = some v
  | [], _, _, _, _, e, _, h, _ => by subst e; simp at h
  | (f0, v0) :: fs, names, 0, f, v, e, nd, h1, h2 => by
    subst e
    simp only [List.map_cons, List.getElem?_cons_zero, Option.some.injEq] at h1 h2
    subst h1 h2
    simp [List.lookup_cons]
  | (f0, v0) :: fs, names, j + 1, f, v, e, nd, h1, h2 => by
    subst e
    simp only [List.map_cons, List.getElem?_cons_succ] at h1 h2
    simp only [List.map_cons, List.nodup_cons] at nd
    have ne : f ≠ f0 := fun z => nd.1 (by rw [← z]; exact List.mem_of_getElem? h1)
    rw [List.lookup_cons]
    have : (f == f0) = false := by simpa using ne
    rw [this]
    exact lookup_at rfl nd.2 h1 h2
theorem lookup_no : ∀ {fs : List (Str × V)} {m : Str}, m ∉ fs.map (·.1) → fs.lookup m = none
  | [], _, _ => rfl
  | (f0, v0) :: fs, m, h => by
    simp only [List.map_cons, List.mem_cons, not_or] at h
    rw [List.lookup_cons]
    have : (m == f0) = false := by simpa using h.1
    rw [this]
    exact lookup_no h.2
theorem look_pre {fs : List (Str × V)} {names : List Str} {j n : Nat} {f : Str} {v : V} (e : fs.map (·.1) = names.take n) (nd : names.Nodup) (h1 : names[j]? = some f) (h2 : (fs.map (·.2))[j]? = some v) : fs.lookup f = some v := by
  refine lookup_at e (nd.sublist (List.take_sublist _ _)) ?_ h2
  have hj : j < (names.take n).length := by
    rw [← e, List.length_map]
    have := (List.getElem?_eq_some_iff.mp h2).1
    simpa using this
  rw [List.getElem?_take_of_lt (by rw [List.length_take] at hj; omega)]
  exact h1
theorem no_pre {fs : List (Str × V)} {names : List Str} {n : Nat} {m : Str} (e : fs.map (·.1) = names.take n) (h : m ∉ names) : fs.lookup m = none :=
  lookup_no (by rw [e]; exact fun z => h (List.mem_of_mem_take z))
section
variable {X : Cx} {g : G} {n : Nat} {W : WX} {a : Expr} {pos : Pos} {fa : Rho → Rx R}
theorem f_fld (f : Fit X g n) {nm : Str} {j lo hi : Nat} (hx : okx a = true) (S : FldSat g nm j lo hi) (ha : PE X a (tX g W fa)) : PE X (.Attribute a nm pos) (tX g W fun ρ => (fa ρ).bind fun r => .lift (fldR j lo hi r)) := by
  refine PE.to (pe_fld ha (okx_base hx nm X.env)) fun σ H Q ⟨M, O, fp, ρ, c, en, h1⟩ => ⟨M, O, fp, ρ, c, en, h1.hb.imp (fun ra h2 v H1 s1 xv => ?_) fun _ z => z⟩
  obtain ⟨r, e, k⟩ := h2.hl
  unfold fldR at e
  split at e
  · rename_i cc ds ed
    split at e
    · rename_i hc
      obtain ⟨d, e1, rfl⟩ := Option.map_eq_some_iff.mp e
      obtain ⟨p, dx, fs, rfl, h1, h2, h3⟩ := xv.nod ed
      obtain ⟨w, h4, h5⟩ := h3.get e1
      obtain ⟨s1', s2', s3', s4'⟩ := S.at_ cc hc.1 hc.2
      exact ⟨p, g.cl cc, dx, fs, w, rfl, h1, by rw [f.K]; exact s3', by rw [f.K]; exact s4', look_pre h2 s2' s1' h4, k w H1 s1 h5⟩
    · cases e
  · cases e
  · split at e
    · rename_i o cc ts et
      split at e
      · rename_i hc
        obtain ⟨t, e1, rfl⟩ := Option.map_eq_some_iff.mp e
        obtain ⟨B, S', ot, kk⟩ := xv.part c et
        cases ot with
        | ins S2 ss h1 h2 w nn rr =>
          obtain ⟨u, h4, h5⟩ := rr.get e1
          obtain ⟨s1', s2', s3', s4'⟩ := S.at_ cc hc.1 hc.2
          exact ⟨_, _, _, _, u, rfl, h1, by rw [f.K]; exact s3', by rw [f.K]; exact s4', look_pre h2 s2' s1' h4, k u H1 s1 (kk _ _ _ (h5.more w))⟩
      · cases e
    · cases e
end
end
end Q

end

section
set_option Elab.async false
set_option linter.all false
set_option maxRecDepth 100000
set_option maxHeartbeats 1000000
/-! Q5: what a def promises; calls of defs, methods, classes, built-ins. -/
namespace Q
noncomputable section
open PySem PySem.Spec L2
open PyProof.Rows hiding St

/-! ### how the heap goes on -/
/-- what stood there and is nobody's own stands as it was -/
def Kp (O : AS) (H H' : Hp) : Prop := ∀ a u, ¬ O a → H a = some u → H' a = some u
/-- what is somebody's own now was so ahead, or is new -/
def Nw (O : AS) (H : Hp) (O' : AS) : Prop := ∀ a, O' a → O a ∨ H a = none
section
variable {g : G} {M O O' O2 : AS} {H H' H2 : Hp} {v : V} {d : D}
theorem Kp.refl : Kp O H H := fun _ _ _ h => h
theorem Kp.of (s : Same H H') : Kp O H H' := fun a u _ h => s a u h
theorem Nw.refl : Nw O H O := fun _ h => .inl h
theorem Kp.no (k : Kp .no H H') : Same H H' := fun a u h => k a u (fun z => z) h
theorem Nw.no (w : Nw .no H O') : ∀ a, O' a → H a = none := fun a h => (w a h).elim (fun z => z.elim) id
/-- what is shared stays so -/
theorem Kp.tr {B B' : AS} (k : Kp O H H') (ho : ∀ a, O a → B a) (w : ∀ a u, ¬ B a → H a = some u → ¬ B' a) : Tr B H B' H' :=
  ⟨w, fun a u h e => .inl (k a u (fun z => h (ho a z)) e)⟩
theorem Kp.tr' (k : Kp O H H') (w : Nw O H O') : Tr (M.u O) H (M.u O') H' :=
  k.tr (fun a z => .inr z) fun a u h e q => q.elim (fun z => h (.inl z)) fun z => (w a z).elim (fun z => h (.inr z)) fun z => by rw [e] at z; cases z
theorem Kp.trans (k : Kp O H H') (w : Nw O H O') (k2 : Kp O' H' H2) : Kp O H H2 := fun a u h e =>
  k2 a u (fun q => (w a q).elim h fun z => by rw [e] at z; cases z) (k a u h e)
theorem Nw.trans (k : Kp O H H') (w : Nw O H O') (w2 : Nw O' H' O2) : Nw O H O2 := fun a h => by
  rcases w2 a h with q | q
  · exact w a q
  · by_cases ho : O a
    · exact .inl ho
    · cases e : H a with
      | none => exact .inr rfl
      | some u => rw [k a u ho e] at q; cases q
theorem Nw.same (s : Same H H') (w : Nw O H' O') : Nw O H O' := fun a h => (w a h).imp id fun q => s.free q
end

/-! ### a def's promise -/
inductive Res where
  | ret (r : R) (ts : List T) | ex (x : Exc) (ts : List T)
  deriving Inhabited
abbrev Fn := List R → Option Res
def isOwn : R → Bool
  | .own _ => true
  | _ => false
/-- the places of the parameters that are changed -/
def iosF : Nat → List R → List Nat
  | _, [] => []
  | i, r :: rs => if isOwn r = true then i :: iosF (i + 1) rs else iosF (i + 1) rs
def ios (rs : List R) : List Nat := iosF 0 rs
/-- the answer: shared, or a tree that no name has -/
def RetR (g : G) (M O' : AS) (fp' : Nat → AS) (H' : Hp) (v : V) : R → Prop
  | .shr d => Rep g (M.u O') H' v d
  | .own t => ∃ S : AS, (∀ a, S a → O' a) ∧ (∀ j a, fp' j a → ¬ S a) ∧ OT g (M.u O') H' v t S
  | .tmp _ => False
  | .vw _ => False
def ioV (vs : List V) (is : List Nat) : St := is.map fun i => vs[i]?
def ioR (ts : List T) : Rho := ts.map fun t => some (.own t)
def ResOk (g : G) (M O : AS) (H : Hp) (vs : List V) (rs : List R) (res : Res) (Q : VK) (E : XK) : Prop := match res with
  | .ret r ts => ∀ v H' O' fp', Kp O H H' → Nw O H O' → Cd M O' H' → EnvR g M O' fp' (ioV vs (ios rs)) H' (ioR ts) → RetR g M O' fp' H' v r → Q v H'
  | .ex x ts => ∀ cls d H' O' fp', Kp O H H' → Nw O H O' → Cd M O' H' → EnvR g M O' fp' (ioV vs (ios rs)) H' (ioR ts) → XEx g (M.u O') H' cls d x → E cls d H'
def GSp (g : G) (np : Nat) (F : Fn) : Sp := fun vs H Q E => vs.length = np ∧ ∃ M O fp rs res, Cd M O H ∧ EnvR g M O fp (vs.map some) H (rs.map some) ∧ F rs = some res ∧ ResOk g M O H vs rs res Q E
structure FunSat (P : Program) (w : World) (K : PySem.W.Frag) (mg : Str → Option Value) (base : Heap) (g : G) (n : Nat) (f : Addr) (F : Fn) (np : Nat) (dfl : List D) : Prop where
  ex : ∃ (fd : FuncData) (ps : List Str) (ds : List Value) (dvs : List V), FnOk P w K mg base (L2.CX P w) n f fd ps (GSp g np F) ∧ Binds K fd ps ds ∧ Vals dvs ds ∧ ∀ B H, RepL g B H dvs dfl

/-! ### arguments -/
def argOf : R → R
  | .own t => .shr t.d
  | .vw t => .tmp t
  | r => r
/-- shared or borrowed -/
inductive ArgsR (g : G) (M : AS) (H : Hp) : List V → List R → Prop
  | nil : ArgsR g M H [] []
  | shr {v : V} {vs : List V} {d : D} {rs : List R} : Rep g M H v d → ArgsR g M H vs rs → ArgsR g M H (v :: vs) (.shr d :: rs)
  | tmp {v : V} {vs : List V} {t : T} {rs : List R} (S : AS) : (∀ a, S a → M a) → OT g M H v t S → ArgsR g M H vs rs → ArgsR g M H (v :: vs) (.tmp t :: rs)
section
variable {g : G} {M O : AS} {H0 H H1 H' : Hp}
theorem ArgsR.append : ∀ {vs ws : List V} {as bs : List R}, ArgsR g M H vs as → ArgsR g M H ws bs → ArgsR g M H (vs ++ ws) (as ++ bs)
  | _, _, _, _, .nil, h => h
  | _, _, _, _, .shr h r, q => .shr h (ArgsR.append r q)
  | _, _, _, _, .tmp S k h r, q => .tmp S k h (ArgsR.append r q)
theorem ArgsR.length : ∀ {vs : List V} {as : List R}, ArgsR g M H vs as → vs.length = as.length
  | _, _, .nil => rfl
  | _, _, .shr _ r => congrArg Nat.succ r.length
  | _, _, .tmp _ _ _ r => congrArg Nat.succ r.length
theorem ArgsR.same (s : Same H H') : ∀ {vs : List V} {as : List R}, ArgsR g M H vs as → ArgsR g M H' vs as
  | _, _, .nil => .nil
  | _, _, .shr h r => .shr (h.same s) (ArgsR.same s r)
  | _, _, .tmp S k h r => .tmp S k (h.same s) (ArgsR.same s r)
theorem ArgsR.less {M' : AS} (k : ∀ a, M' a → M a) (k2 : ∀ a, M a → M' a) : ∀ {vs : List V} {as : List R}, ArgsR g M H vs as → ArgsR g M' H vs as
  | _, _, .nil => .nil
  | _, _, .shr h r => .shr (h.less k) (ArgsR.less k k2 r)
  | _, _, .tmp S q h r => .tmp S (fun a z => k2 a (q a z)) (h.less k) (ArgsR.less k k2 r)
theorem ArgsR.shrs {vs : List V} {ds : List D} (h : RepL g M H vs ds) : ArgsR g M H vs (ds.map .shr) := by
  induction ds generalizing vs with
  | nil => cases h; exact .nil
  | cons d ds ih => cases h with | cons h r => exact .shr h (ih r)
theorem ArgsR.get : ∀ {vs : List V} {as : List R} {i : Nat} {r : R}, ArgsR g M H vs as → as[i]? = some r → ∃ v, vs[i]? = some v ∧ (match r with
    | .shr d => Rep g M H v d
    | .tmp t => ∃ S : AS, (∀ a, S a → M a) ∧ OT g M H v t S
    | .own _ => False
    | .vw _ => False)
  | _, _, _, _, .nil, e => by simp at e
  | _, _, 0, _, .shr h _, e => by simp at e; subst e; exact ⟨_, rfl, h⟩
  | _, _, 0, _, .tmp S k h _, e => by simp at e; subst e; exact ⟨_, rfl, S, k, h⟩
  | _, _, i + 1, _, .shr _ r, e => by
    obtain ⟨v, h1, h2⟩ := ArgsR.get (i := i) r (by simpa using e)
    exact ⟨v, by simpa using h1, h2⟩
  | _, _, i + 1, _, .tmp _ _ _ r, e => by
    obtain ⟨v, h1, h2⟩ := ArgsR.get (i := i) r (by simpa using e)
    exact ⟨v, by simpa using h1, h2⟩
theorem ArgsR.noOwn : ∀ {vs : List V} {as : List R} (i : Nat), ArgsR g M H vs as → iosF i as = []
  | _, _, _, .nil => rfl
  | _, _, i, .shr _ r => by
    unfold iosF
    rw [if_neg (by simp [isOwn])]
    exact r.noOwn (i + 1)
  | _, _, i, .tmp _ _ _ r => by
    unfold iosF
    rw [if_neg (by simp [isOwn])]
    exact r.noOwn (i + 1)
theorem u_no {S : AS} : ∀ a, (S.u .no) a → S a := fun a z => z.elim id fun z => z.elim
theorem ArgsR.env {vs : List V} {as : List R} (h : ArgsR g M H vs as) : EnvR g M .no (fun _ => .no) (vs.map some) H (as.map some) := by
  refine ⟨by simp [h.length], fun i r e => ?_, fun _ _ z => z, fun _ _ z => z.elim, fun _ _ _ _ z => z.elim⟩
  rw [List.getElem?_map] at e
  obtain ⟨r', e1, e2⟩ := Option.map_eq_some_iff.mp e
  cases e2
  obtain ⟨v, e3, q⟩ := h.get e1
  refine ⟨v, by rw [List.getElem?_map, e3]; rfl, ?_⟩
  cases r with
  | shr d => exact Rep.less u_no q
  | own t => exact q.elim
  | tmp t => obtain ⟨S, k, q⟩ := q; exact ⟨S, k, q.less u_no⟩
  | vw t => exact q.elim
theorem XR.arg {v : V} {r : R} (c : Cd M O H0) (h : XR g M O H0 H v r) : ∀ {vs : List V} {as : List R}, ArgsR g (M.u O) H vs as → ArgsR g (M.u O) H (v :: vs) (argOf r :: as) := fun {vs as} k => by
  cases r with
  | shr d => exact .shr h k
  | own t => exact .shr (h.shr_own c) k
  | tmp t => obtain ⟨S, f, q⟩ := h; exact .tmp S (fun a z => .inl (f a z)) q k
  | vw t => obtain ⟨S, f, q⟩ := h; exact .tmp S (fun a z => .inr (f a z)) q k
theorem XRs.args (c : Cd M O H0) : ∀ {vs : List V} {rs : List R}, XRs g M O H0 H vs rs → ArgsR g (M.u O) H vs (rs.map argOf)
  | _, _, .nil => .nil
  | _, _, .cons h q => h.arg c (q.args c)
theorem Cd.bor (c : Cd M O H) : Cd (M.u O) .no H := ⟨c.all, fun _ z => z.elim, fun _ z => z.elim⟩
theorem env_nil {fp : Nat → AS} {vs : List V} {ts : List T} (en : EnvR g M O fp (ioV vs []) H (ioR ts)) : ts = [] := by
  have := en.len
  simp [ioV, ioR] at this
  exact List.eq_nil_of_length_eq_zero this.symm
end

/-! ### calls -/
def callX (F : Fn) (dfl : List D) (rs : List R) : Rx R := match F (rs.map argOf ++ dfl.map .shr) with
  | some (.ret r []) => .ok r
  | some (.ex x []) => .ex x
  | _ => .bad
section
variable {X : Cx} {g : G} {n : Nat} {W : WX} {e a b c i : Expr} {es : List Expr} {pos p apos cpos : Pos} {fa fb fc : Rho → Rx R} {fl : Rho → Rx (List R)} {x m : Str}
theorem call_read {np : Nat} {F : Fn} {dfl : List D} {dvs : List V} {M O : AS} {H H1 : Hp} {vs : List V} {rs : List R} {Q : VK} {σ : St} (c : Cd M O H) (s1 : Same H H1) (xs : XRs g M O H H1 vs rs) (hd : ∀ B H, RepL g B H dvs dfl) (hl : (vs ++ dvs).length = np)
    (h : (callX F dfl rs).hold (Ans g M O H Q) (EW g M O H W σ)) : GSp g np F (vs ++ dvs) H1 Q (WE W σ) := by
  have ar : ArgsR g (M.u O) H1 (vs ++ dvs) (rs.map argOf ++ dfl.map .shr) := (xs.args c).append (.shrs (hd _ _))
  have c1 := (c.same s1).bor
  have io0 : ios (rs.map argOf ++ dfl.map .shr) = [] := ar.noOwn 0
  unfold callX at h
  split at h
  · rename_i r e
    refine ⟨hl, M.u O, .no, fun _ => .no, _, _, c1, ar.env, e, fun v H' O' fp' kp nw cd en rr => ?_⟩
    have s2 : Same H1 H' := kp.no
    refine h v H' (s1.trans s2) ?_
    cases r with
    | shr d => exact Rep.less (fun a z => .inl z) rr
    | own t =>
      obtain ⟨S, f, _, q⟩ := rr
      exact ⟨S, fun a z => ⟨s1.free (nw.no a (f a z)), cd.o a (f a z)⟩, q.less fun a z => z.elim .inl fun z => .inr (f a z)⟩
    | tmp t => exact rr.elim
    | vw t => exact rr.elim
  · rename_i x e
    refine ⟨hl, M.u O, .no, fun _ => .no, _, _, c1, ar.env, e, fun cls d H' O' fp' kp nw cd en xx => ?_⟩
    refine h cls d H' (s1.trans kp.no) ⟨xx.1, xx.2.imp id fun ⟨a, ws, e1, e2, e3, e4⟩ => ⟨a, ws, e1, e2, e3, e4.1.less fun a z => .inl z, e4.2⟩⟩
  · exact h.elim
/-- a name's def, to be called -/
structure CallSat (X : Cx) (g : G) (n : Nat) (x : Str) (F : Fn) (np : Nat) (dfl : List D) : Prop where
  ex : ∃ f : Addr, X.mg x = some (.ref f) ∧ PySem.W.keepIn X.K (.ref f) = true ∧ FunSat X.prog X.w X.K X.mg X.base g n f F np dfl
  db : (x == ("__debug__" : Str)) = false
theorem pe_callSD0 {CX : CXT} {k : Nat} {f : Addr} {fd : FuncData} {ps : List Str} {sp : Sp} {dvs : List V} {ds : List Value} {E : St → XK} (F : FnOk X.prog X.w X.K X.mg X.base CX k f fd ps sp) (hr : Room k X.A) (hg : Gl X x) (hm : X.mg x = some (.ref f)) (hk : PySem.W.keepIn X.K (.ref f) = true) (hb : Binds X.K fd ps ds) (hd : Vals dvs ds) (hx : ∀ σ, PassesAt CX X σ (E σ))
    (hdb : (x == ("__debug__" : Str)) = false) : PE X (.Call (.Name x p) [] [] pos) (tCallSD sp dvs E tNil) := by
  refine ⟨fun pins s σ H Q I h => ?_⟩
  refine wpAny_Call_Name_kw (ld_glob I hg hm ?_ hdb)
  exact PySem.W.callWith_K0 I.kIn hk (run_fnSD (us := []) F hr hb hd (hx σ) I .nil h)
theorem f_call (f : Fit X g n) (tk : Takes X W) {F : Fn} {np : Nat} {dfl : List D} (S : CallSat X g n x F np dfl) (hg : Gl X x) (hx : okx e = true) (hxs : okxs es = true) (ha : PA X (e :: es) (tL g W fl)) (hn : (e :: es).length + dfl.length = np) (hfl : ∀ ρ rs, fl ρ = .ok rs → rs.length = (e :: es).length) :
    PE X (.Call (.Name x p) (e :: es) [] pos) (tX g W fun ρ => (fl ρ).bind (callX F dfl)) := by
  obtain ⟨fa, h1, h2, ⟨fd, ps, ds, dvs, h3, h4, h5, h6⟩⟩ := S.ex
  refine PE.to (pe_callSD (E := WE W) h3 f.room hg h1 h2 h4 h5 (fun σ => passAt tk σ) ha S.db (okx_star hx es X.env) (okxs_any X.env pos hxs)) fun σ H Q ⟨M, O, fp, ρ, c, en, h⟩ => ?_
  refine ⟨M, O, fp, ρ, c, en, h.hb.impA (fun rs er h' vs H1 s1 xs => call_read c s1 xs h6 ?_ h') fun _ z => z⟩
  rw [List.length_append, xs.length, (h6 .no H).length, hfl ρ rs er]
  exact hn
theorem f_call0 (f : Fit X g n) (tk : Takes X W) {F : Fn} {np : Nat} {dfl : List D} (S : CallSat X g n x F np dfl) (hg : Gl X x) (hn : dfl.length = np) :
    PE X (.Call (.Name x p) [] [] pos) (tX g W fun ρ => callX F dfl []) := by
  obtain ⟨fa, h1, h2, ⟨fd, ps, ds, dvs, h3, h4, h5, h6⟩⟩ := S.ex
  refine PE.to (pe_callSD0 (E := WE W) h3 f.room hg h1 h2 h4 h5 (fun σ => passAt tk σ) S.db) fun σ H Q ⟨M, O, fp, ρ, c, en, h⟩ => ?_
  refine call_read (vs := []) (rs := []) c (Same.refl H) .nil h6 ?_ h
  rw [List.nil_append, (h6 .no H).length]
  exact hn

/-! ### methods, by the receiver's class -/
structure MethSat (X : Cx) (g : G) (n : Nat) (m : Str) (lo hi : Nat) (F : Nat → Fn) (np : Nat) (dfl : List D) : Prop where
  at_ : ∀ c, lo ≤ c → c < hi → Cls X.K (g.cl c) ∧ m ∉ g.at_ c ∧ ∃ f : Addr, Meth X.K (g.cl c) m f ∧ FunSat X.prog X.w X.K X.mg X.base g n f (F c) np dfl
def recC (lo hi : Nat) (r : R) : Option Nat := match r.d with
  | .ins c _ => if lo ≤ c ∧ c < hi then some c else none
  | _ => none
theorem recC_ok {lo hi : Nat} {r : R} {c : Nat} (h : recC lo hi r = some c) : ∃ ds, r.d = .ins c ds ∧ lo ≤ c ∧ c < hi := by
  unfold recC at h
  split at h
  · rename_i c' ds e
    split at h
    · rename_i k; cases h; exact ⟨ds, e, k⟩
    · cases h
  · cases h
theorem f_meth (f : Fit X g n) (tk : Takes X W) {F : Nat → Fn} {np lo hi : Nat} {dfl : List D} {pl : Sem Bool} (S : MethSat X g n m lo hi F np dfl) (ho : PE X a (tX g W fa)) (hx : okx e = true) (hxs : okxs es = true) (ha : PA X (e :: es) (tL g W fl)) (hn : (e :: es).length + 1 + dfl.length = np) (hfl : ∀ ρ rs, fl ρ = .ok rs → rs.length = (e :: es).length)
    (ht : eval (.Call (.Attribute a m apos) (e :: es) [] pos) X.env = (do
      let ov ← eval a X.env
      standAt apos.atName
      let (f, first) ← holding [ov] (getMethod ov m pl)
      callWith pos f first (backTo pos (starEach (e :: es) X.env)) (backToKw pos (keywordEach [] X.env)))) :
    PE X (.Call (.Attribute a m apos) (e :: es) [] pos) (tX g W fun ρ => (fa ρ).bind fun r => (Rx.lift (recC lo hi r)).bind fun c => (fl ρ).bind fun rs => callX (F c) dfl (r :: rs)) := by
  refine ⟨fun pins s σ H Q I h => ?_⟩
  obtain ⟨M, O, fp, ρ, c, en, h⟩ := h
  refine PySem.W.methodCall_KW (pl := pl) (thn (ho.run pins s σ H (fun v H1 => ∃ ra, Same H H1 ∧ XR g M O H H1 v ra ∧ ((Rx.lift (recC lo hi ra)).bind fun c => (fl ρ).bind fun rs => callX (F c) dfl (ra :: rs)).hold (Ans g M O H Q) (EW g M O H W σ)) I ⟨M, O, fp, ρ, c, en, h.hb.imp (fun ra h' v H' s xv => ⟨ra, s, xv, h'⟩) fun _ z => z⟩) fun u s1 ⟨x, H1, I1, rx, ra, sm1, xv, h1⟩ => ?_) ht
  obtain ⟨cc, ec, h2⟩ := h1.hb.hl
  obtain ⟨ds, ed, hc⟩ := recC_ok ec
  obtain ⟨s1', s2', fA, h3, ⟨fd, ps, dss, dvs, k3, k4, k5, k6⟩⟩ := S.at_ cc hc.1 hc.2
  obtain ⟨q, dx, fs, rfl, g1, g2, g3⟩ := xv.insV ed
  obtain rfl : u = Value.ref q := rx
  refine getmeth_ok I1 g1 s1' h3 (no_pre g2 s2') ?_
  refine PySem.W.callWith_K (first := [.ref q]) (h₀ := X.base) I.ok.mod.kin h3.kp (thn (ha.run pos pins s1 σ H1 (fun vs H2 => ∃ rs, rs.length = (e :: es).length ∧ Same H1 H2 ∧ XRs g M O H H2 vs rs ∧ (callX (F cc) dfl (ra :: rs)).hold (Ans g M O H Q) (EW g M O H W σ)) I1
    ⟨M, O, fp, ρ, c.same sm1, en.same sm1, h2.hb.impA (fun rs er h' vs H2 s2 xs => ⟨rs, hfl ρ rs er, s2, xs.base sm1, h'⟩) fun _ => EW.same sm1⟩) fun us s2 ⟨vs, H2, I2, r, rs, hl, sm2, xs, h4⟩ => ⟨I2.kIn, ?_⟩) (okx_star hx es X.env) (okxs_any X.env pos hxs)
  refine run_fnSD (E := WE W) (us := .ref q :: us) (vs := .ref q :: vs) k3 f.room k4 k5 (passAt tk σ) I2 (.cons rfl r) ?_
  refine call_read c (sm1.trans sm2) (.cons (xv.same sm2) xs) k6 ?_ h4
  rw [List.length_append, List.length_cons, xs.length, (k6 .no H).length, hl]
  exact hn
theorem f_meth0 (f : Fit X g n) (tk : Takes X W) {F : Nat → Fn} {np lo hi : Nat} {dfl : List D} {pl : Sem Bool} (S : MethSat X g n m lo hi F np dfl) (ho : PE X a (tX g W fa)) (hn : 1 + dfl.length = np)
    (ht : eval (.Call (.Attribute a m apos) [] [] pos) X.env = (do
      let ov ← eval a X.env
      standAt apos.atName
      let (f, first) ← holding [ov] (getMethod ov m pl)
      callWith pos f first (backTo pos (starEach [] X.env)) (backToKw pos (keywordEach [] X.env)))) :
    PE X (.Call (.Attribute a m apos) [] [] pos) (tX g W fun ρ => (fa ρ).bind fun r => (Rx.lift (recC lo hi r)).bind fun c => callX (F c) dfl [r]) := by
  refine ⟨fun pins s σ H Q I h => ?_⟩
  obtain ⟨M, O, fp, ρ, c, en, h⟩ := h
  refine PySem.W.methodCall_KW (pl := pl) (thn (ho.run pins s σ H (fun v H1 => ∃ ra, Same H H1 ∧ XR g M O H H1 v ra ∧ ((Rx.lift (recC lo hi ra)).bind fun c => callX (F c) dfl [ra]).hold (Ans g M O H Q) (EW g M O H W σ)) I ⟨M, O, fp, ρ, c, en, h.hb.imp (fun ra h' v H' s xv => ⟨ra, s, xv, h'⟩) fun _ z => z⟩) fun u s1 ⟨x, H1, I1, rx, ra, sm1, xv, h1⟩ => ?_) ht
  obtain ⟨cc, ec, h2⟩ := h1.hb.hl
  obtain ⟨ds, ed, hc⟩ := recC_ok ec
  obtain ⟨s1', s2', fA, h3, ⟨fd, ps, dss, dvs, k3, k4, k5, k6⟩⟩ := S.at_ cc hc.1 hc.2
  obtain ⟨q, dx, fs, rfl, g1, g2, g3⟩ := xv.insV ed
  obtain rfl : u = Value.ref q := rx
  refine getmeth_ok I1 g1 s1' h3 (no_pre g2 s2') ?_
  refine PySem.W.callWith_K0 (first := [.ref q]) I1.kIn h3.kp (run_fnSD (E := WE W) (us := [.ref q]) (vs := [.ref q]) k3 f.room k4 k5 (passAt tk σ) I1 (.cons rfl .nil) ?_)
  refine call_read (vs := [.ref q]) (rs := [ra]) c sm1 (.cons xv .nil) k6 ?_ h2
  rw [List.length_append, (k6 .no H).length]
  exact hn

/-! ### classes: C(..) -/
structure MakeSat (X : Cx) (g : G) (n : Nat) (x : Str) (c : Nat) (F : Fn) (np : Nat) (dfl : List D) : Prop where
  ex : ∃ (k : Nat) (f : Addr), k + 1 ≤ n ∧ X.mg x = some (.ref (g.cl c)) ∧ Mk X.K (g.cl c) f ∧ FunSat X.prog X.w X.K X.mg X.base g k f F np dfl
  db : (x == ("__debug__" : Str)) = false
/-- the new instance: shared from now on, or its maker's own (keep) -/
def makeX (keep : Bool) (c : Nat) (F : Fn) (dfl : List D) (rs : List R) : Rx R := match F (.own (.ins c []) :: (rs.map argOf ++ dfl.map .shr)) with
  | some (.ret (.shr .non) [t]) => .ok (if keep then .own t else .shr t.d)
  | some (.ex x [_]) => .ex x
  | _ => .bad
theorem run_makeS {CX : CXT} {k : Nat} {f C : Addr} {fd : FuncData} {ps : List Str} {sp : Sp} {dvs : List V} {ds : List Value} {E : XK} {pins : List (Addr × Obj)} {σ : St} {H : Hp} {s : Shared} {Q : VK} {us : List Value} {vs : List V} (M : Mk X.K C f) (F : FnOk X.prog X.w X.K X.mg X.base CX k f fd ps sp) (hr : Room (k + 1) X.A) (hb : Binds X.K fd ps ds) (hd : Vals dvs ds)
    (hx : PassesAt CX X σ E) (I : Inv X pins σ H s) (r : Vals vs us)
    (h : ∀ x dx, H x = none → H dx = none → dx ≠ x → sp (.ref x :: (vs ++ dvs)) (upd (upd H dx (.own x)) x (.ins C dx [])) (fun v H2 => v = .non ∧ Q (.ref x) H2) E) :
    wpAny (model X.prog X.w) X.A (call (.ref C) us) (EP X pins σ Q) X.xe s := by
  have hq := h (s.heap.objs.size + 1) s.heap.objs.size (I.hok.fresh (Nat.le_succ _)) (I.hok.fresh (Nat.le_refl _)) (Nat.ne_of_lt (Nat.lt_succ_self _))
  have I2 := Inv.made (C := C) I
  have r2 : Vals (V.ref (s.heap.objs.size + 1) :: (vs ++ dvs)) (Value.ref (s.heap.objs.size + 1) :: (us ++ ds)) := .cons rfl (r.append hd)
  have hl : (Value.ref (s.heap.objs.size + 1) :: us ++ ds).length = ps.length := by
    have e := r2.length
    rw [F.len _ _ _ _ hq] at e
    exact e.symm
  refine wpAny_call (make_map (f := f) I.kIn M.makes M.init (beq_iff_eq.mp M.fn) (codeAny_mono (F.run _ X.stack _ _ ⟨Value.ref (s.heap.objs.size + 1) :: us, []⟩ (Value.ref (s.heap.objs.size + 1) :: (us ++ ds)) _ _ E (hr.make C us [])
    (I2.env0.make C us []) (hb _ (Value.ref (s.heap.objs.size + 1) :: us) I2.kIn hl) r2 hq) fun r s' hq' => ?_))
  cases r with
  | error e => exact hx pins _ _ e s' I2 hq'
  | ok fl =>
    cases fl with
    | ret u =>
      obtain ⟨v, H', I3, rv, ev, q3⟩ := I2.after hq'
      subst ev
      exact ⟨rv, ⟨V.ref (s.heap.objs.size + 1), H', I3, rfl, q3⟩⟩
    | next => exact False.elim hq'
    | brk => exact False.elim hq'
    | cont => exact False.elim hq'
def tMakeS (C : Addr) (sp : Sp) (dvs : List V) (E : St → XK) (t : TA) : TE := fun σ H Q => t σ H fun vs H1 => ∀ x dx, H1 x = none → H1 dx = none → dx ≠ x →
  sp (.ref x :: (vs ++ dvs)) (upd (upd H1 dx (.own x)) x (.ins C dx [])) (fun v H2 => v = .non ∧ Q (.ref x) H2) (E σ)
theorem pe_makeS {CX : CXT} {k : Nat} {f C : Addr} {fd : FuncData} {ps : List Str} {sp : Sp} {dvs : List V} {ds : List Value} {E : St → XK} {t : TA} (M : Mk X.K C f) (F : FnOk X.prog X.w X.K X.mg X.base CX k f fd ps sp) (hr : Room (k + 1) X.A) (hg : Gl X x) (hm : X.mg x = some (.ref C)) (hb : Binds X.K fd ps ds) (hd : Vals dvs ds) (hx : ∀ σ, PassesAt CX X σ (E σ))
    (ha : PA X (e :: es) t) (hdb : (x == ("__debug__" : Str)) = false) (he : starEach (e :: es) X.env = (false, eval e X.env) :: starEach es X.env) (hpl : (backTo pos (starEach es X.env)).any (·.1) = false) :
    PE X (.Call (.Name x p) (e :: es) [] pos) (tMakeS C sp dvs E t) := by
  refine ⟨fun pins s σ H Q I h => ?_⟩
  refine wpAny_Call_Name_kw (ld_glob I hg hm ?_ hdb)
  refine PySem.W.callWith_K (h₀ := X.base) I.ok.mod.kin M.kp (thn (ha.run pos pins s σ H _ I h) fun us s1 ⟨vs, H1, I1, r, q⟩ => ⟨I1.kIn, ?_⟩) he hpl
  exact run_makeS M F hr hb hd (hx σ) I1 r q
theorem pe_makeS0 {CX : CXT} {k : Nat} {f C : Addr} {fd : FuncData} {ps : List Str} {sp : Sp} {dvs : List V} {ds : List Value} {E : St → XK} (M : Mk X.K C f) (F : FnOk X.prog X.w X.K X.mg X.base CX k f fd ps sp) (hr : Room (k + 1) X.A) (hg : Gl X x) (hm : X.mg x = some (.ref C)) (hb : Binds X.K fd ps ds) (hd : Vals dvs ds) (hx : ∀ σ, PassesAt CX X σ (E σ))
    (hdb : (x == ("__debug__" : Str)) = false) : PE X (.Call (.Name x p) [] [] pos) (tMakeS C sp dvs E tNil) := by
  refine ⟨fun pins s σ H Q I h => ?_⟩
  refine wpAny_Call_Name_kw (ld_glob I hg hm ?_ hdb)
  exact PySem.W.callWith_K0 I.kIn M.kp (run_makeS (us := []) M F hr hb hd (hx σ) I .nil h)
theorem make_read {c np : Nat} {F : Fn} {dfl : List D} {dvs : List V} {M O : AS} {H H1 : Hp} {vs : List V} {rs : List R} {Q : VK} {σ : St} {keep : Bool} (cd : Cd M O H) (s1 : Same H H1) (xs : XRs g M O H H1 vs rs) (hd : ∀ B H, RepL g B H dvs dfl) (hl : (vs ++ dvs).length + 1 = np)
    (h : (makeX keep c F dfl rs).hold (Ans g M O H Q) (EW g M O H W σ)) : ∀ x dx, H1 x = none → H1 dx = none → dx ≠ x → GSp g np F (.ref x :: (vs ++ dvs)) (upd (upd H1 dx (.own x)) x (.ins (g.cl c) dx [])) (fun v H2 => v = .non ∧ Q (.ref x) H2) (WE W σ) := by
  intro x dx hx hdx ne
  have sm : Same H1 (upd (upd H1 dx (.own x)) x (.ins (g.cl c) dx [])) := (same_upd hdx).trans (same_upd (by rw [upd_ne ne.symm]; exact hx))
  have cd1 := cd.same s1
  have ar : ArgsR g (M.u O) H1 (vs ++ dvs) (rs.map argOf ++ dfl.map .shr) := (xs.args cd).append (.shrs (hd _ _))
  have nx : ¬ (M.u O) x := cd1.fresh hx
  let H2 := upd (upd H1 dx (.own x)) x (.ins (g.cl c) dx [])
  have c2 : Cd (M.u O) (.one x) H2 := ⟨fun a z => let ⟨u, e, k⟩ := cd1.all a z; ⟨u, sm _ _ e, k⟩, fun a z => by cases (show a = x from z); exact ⟨_, upd_same, trivial⟩, fun a z => by cases (show a = x from z); exact nx⟩
  have tr : Tr (M.u O) H1 ((M.u O).u (.one x)) H2 := ⟨fun a u q e z => z.elim q fun z => (by cases (show a = x from z); rw [hx] at e; cases e), fun a u q e => .inl (sm a u e)⟩
  have en : EnvR g (M.u O) (.one x) (fun i => if i = 0 then .one x else .no) ((V.ref x :: (vs ++ dvs)).map some) H2 ((R.own (.ins c []) :: (rs.map argOf ++ dfl.map .shr)).map some) := by
    refine ⟨by have := ar.length; simp only [List.length_map, List.length_cons]; rw [this], fun i r e => ?_, fun i a z => ?_, fun i a z => ?_, fun i j a ne z1 z2 => ?_⟩
    · rw [List.getElem?_map] at e
      obtain ⟨r', e1, e2⟩ := Option.map_eq_some_iff.mp e
      cases e2
      cases i with
      | zero =>
        simp only [List.getElem?_cons_zero, Option.some.injEq] at e1
        subst e1
        exact ⟨.ref x, rfl, .ins .no rfl upd_same (by simp) (fun _ z => z.elim) (fun z => z) .nil⟩
      | succ i =>
        rw [List.getElem?_cons_succ] at e1
        obtain ⟨w, e3, q⟩ := ar.get e1
        refine ⟨w, by rw [List.getElem?_map, List.getElem?_cons_succ, e3]; rfl, ?_⟩
        cases r with
        | shr d => exact Rep.tr tr q
        | own t => exact q.elim
        | tmp t => obtain ⟨S', k, q⟩ := q; exact ⟨S', k, q.tr tr fun a u z e => .inl (sm a u e)⟩
        | vw t => exact q.elim
    · by_cases hi : i = 0
      · rw [if_pos hi] at z; exact z
      · rw [if_neg hi] at z; exact z.elim
    · by_cases hi : i = 0
      · subst hi; exact ⟨_, rfl⟩
      · rw [if_neg hi] at z; exact z.elim
    · by_cases hi : i = 0
      · rw [if_neg (fun hj => ne (hi.trans hj.symm))] at z2; exact z2
      · rw [if_neg hi] at z1; exact z1
  have io0 : ios (R.own (.ins c []) :: (rs.map argOf ++ dfl.map .shr)) = [0] := by
    have e1 : ios (R.own (.ins c []) :: (rs.map argOf ++ dfl.map .shr)) = 0 :: iosF 1 (rs.map argOf ++ dfl.map .shr) := by
      unfold ios
      rw [iosF]
      rfl
    rw [e1, ar.noOwn 1]
  have s2 : ∀ {H' : Hp}, Kp (.one x) H2 H' → Same H1 H' := fun {H'} kp b o q => kp b o (fun z => by cases (show b = x from z); rw [hx] at q; cases q) (sm b o q)
  unfold makeX at h
  split at h
  · rename_i t e
    refine ⟨by rw [List.length_cons]; exact hl, M.u O, .one x, _, _, _, c2, en, e, fun v H' O' fp' kp nw cd' en' rr => ?_⟩
    rw [io0] at en'
    obtain ⟨w, e1, q⟩ := en'.at_ 0 (.own t) rfl
    cases (show V.ref x = w from Option.some.inj (Option.some.inj e1))
    have q : OT g ((M.u O).u O') H' (.ref x) t (fp' 0) := q
    have rv : v = .non := by have rr : Rep g ((M.u O).u O') H' v .non := rr; cases rr; rfl
    subst rv
    refine ⟨rfl, h _ H' (s1.trans (s2 kp)) ?_⟩
    have fr : ∀ a, fp' 0 a → H1 a = none := fun a z => by
      rcases nw a (en'.fo 0 a z) with z | z
      · cases (show a = x from z); exact hx
      · cases q : H1 a with
        | none => rfl
        | some u => rw [sm a u q] at z; cases z
    have q2 : OT g ((M.u O).u (fp' 0)) H' (.ref x) t (fp' 0) := q.less fun a z => z.imp id (en'.fo 0 a)
    cases keep with
    | true => exact ⟨fp' 0, fun a z => ⟨s1.free (fr a z), cd'.o a (en'.fo 0 a z)⟩, q2⟩
    | false => exact q2.shared fun a u z _ => cd1.fresh (fr a z)
  · rename_i xx t e
    refine ⟨by rw [List.length_cons]; exact hl, M.u O, .one x, _, _, _, c2, en, e, fun cls d H' O' fp' kp nw cd' en' xq => ?_⟩
    exact h cls d H' (s1.trans (s2 kp)) ⟨xq.1, xq.2.imp id fun ⟨a, ws, e1, e2, e3, e4⟩ => ⟨a, ws, e1, e2, e3, e4.1.less fun a z => .inl z, e4.2⟩⟩
  · exact h.elim
theorem f_make (f : Fit X g n) (tk : Takes X W) {keep : Bool} {c : Nat} {F : Fn} {np : Nat} {dfl : List D} (S : MakeSat X g n x c F np dfl) (hg : Gl X x) (hx : okx e = true) (hxs : okxs es = true) (ha : PA X (e :: es) (tL g W fl)) (hn : (e :: es).length + dfl.length + 1 = np) (hfl : ∀ ρ rs, fl ρ = .ok rs → rs.length = (e :: es).length) :
    PE X (.Call (.Name x p) (e :: es) [] pos) (tX g W fun ρ => (fl ρ).bind (makeX keep c F dfl)) := by
  obtain ⟨kk, fa, h0, h1, h2, ⟨fd, ps, ds, dvs, h3, h4, h5, h6⟩⟩ := S.ex
  refine PE.to (pe_makeS (E := WE W) h2 h3 (f.room.mono h0) hg h1 h4 h5 (fun σ => passAt tk σ) ha S.db (okx_star hx es X.env) (okxs_any X.env pos hxs)) fun σ H Q ⟨M, O, fp, ρ, cd, en, h⟩ => ?_
  refine ⟨M, O, fp, ρ, cd, en, h.hb.impA (fun rs er h' vs H1 s1 xs => make_read cd s1 xs h6 ?_ h') fun _ z => z⟩
  rw [List.length_append, xs.length, (h6 .no H).length, hfl ρ rs er]
  exact hn
theorem f_make0 (f : Fit X g n) (tk : Takes X W) {keep : Bool} {c : Nat} {F : Fn} {np : Nat} {dfl : List D} (S : MakeSat X g n x c F np dfl) (hg : Gl X x) (hn : dfl.length + 1 = np) :
    PE X (.Call (.Name x p) [] [] pos) (tX g W fun ρ => makeX keep c F dfl []) := by
  obtain ⟨kk, fa, h0, h1, h2, ⟨fd, ps, ds, dvs, h3, h4, h5, h6⟩⟩ := S.ex
  refine PE.to (pe_makeS0 (E := WE W) h2 h3 (f.room.mono h0) hg h1 h4 h5 (fun σ => passAt tk σ) S.db) fun σ H Q ⟨M, O, fp, ρ, cd, en, h⟩ => ?_
  refine make_read (vs := []) (rs := []) cd (Same.refl H) .nil h6 ?_ h
  rw [List.nil_append, (h6 .no H).length]
  exact hn

/-! ### built-ins by their name -/
def rBlt (g : G) (F : List R → Option R) : List V → Hp → VK → Prop := fun vs H Q => ∃ M O H0 rs, Cd M O H0 ∧ Same H0 H ∧ XRs g M O H0 H vs rs ∧ ROut g M O H (F rs) Q
theorem blt_read {F : List R → Option R} {σ : St} {H : Hp} {Q : VK} (q : tX g W (fun ρ => (fl ρ).bind fun rs => .lift (F rs)) σ H Q) : tCB (rBlt g F) (tL g W fl) σ H Q := by
  obtain ⟨M, O, fp, ρ, c, en, h⟩ := q
  exact ⟨M, O, fp, ρ, c, en, h.hb.imp (fun rs h' vs H1 s1 xs => ⟨M, O, H, rs, c, s1, xs, out_of s1 h'⟩) fun _ z => z⟩
theorem f_bltB {id : String} {F : List R → Option R} (hc : CallR X (.builtin id) (rBlt g F)) (hg : Gl X x) (hm : X.mg x = none) (hv : bootBuiltins x = some (.builtin id)) (hn : x ≠ "__name__") (hd : (x == ("__debug__" : Str)) = false) (hx : okx e = true) (hxs : okxs es = true) (ha : PA X (e :: es) (tL g W fl)) :
    PE X (.Call (.Name x p) (e :: es) [] pos) (tX g W fun ρ => (fl ρ).bind fun rs => .lift (F rs)) :=
  PE.to (pe_callB hc hg hm hv ha hn hd (okx_star hx es X.env) (okxs_any X.env pos hxs)) fun σ H Q q => blt_read q
theorem f_bltT {T : String} {F : List R → Option R} (hc : CallR X (.type T) (rBlt g F)) (hg : Gl X x) (hm : X.mg x = none) (hv : bootBuiltins x = some (.type T)) (hn : x ≠ "__name__") (hd : (x == ("__debug__" : Str)) = false) (hx : okx e = true) (hxs : okxs es = true) (ha : PA X (e :: es) (tL g W fl)) :
    PE X (.Call (.Name x p) (e :: es) [] pos) (tX g W fun ρ => (fl ρ).bind fun rs => .lift (F rs)) :=
  PE.to (pe_callTy hc hg hm hv ha hn hd (okx_star hx es X.env) (okxs_any X.env pos hxs)) fun σ H Q q => blt_read q
/-! ### methods of built-in types -/
def rBm (g : G) (F : R → List R → Option R) : V → List V → Hp → VK → Prop := fun x vs H Q => ∃ M O H0 r rs, Cd M O H0 ∧ Same H0 H ∧ XR g M O H0 H x r ∧ XRs g M O H0 H vs rs ∧ ROut g M O H (F r rs) Q
/-- the value's type, for its method -/
def tyR (T : String) (r : R) : Bool := match r.d with
  | .str _ => T == "str"
  | .lst _ => T == "list"
  | .scr _ => T == "list"
  | _ => false
theorem tyR_ok {K : PySem.W.Frag} (hK : K = g.K) {T : String} {M O : AS} {H0 H : Hp} {v : V} {r : R} (h : XR g M O H0 H v r) (e : tyR T r = true) : tyV K T v H := by
  subst hK
  unfold tyR at e
  split at e
  · rename_i z ed; rw [h.flat_str ed]; exact eq_of_beq e
  · rename_i z ed
    obtain ⟨p, vs, rfl, h1, _⟩ := h.lstV ed
    exact .inl ⟨eq_of_beq e, vs, SqL.of h1⟩
  · rename_i z ed
    obtain ⟨p, rfl, h1⟩ := h.scr ed
    exact .inl ⟨eq_of_beq e, _, h1⟩
  · cases e
def tyO (T : String) (r : R) : Option Unit := if tyR T r = true then some () else none
theorem tyO_ok {T : String} {r : R} {u : Unit} (h : tyO T r = some u) : tyR T r = true := by
  unfold tyO at h
  split at h
  · rename_i z; exact z
  · cases h
theorem f_bm0 (f : Fit X g n) {T id : String} {F : R → List R → Option R} (pa : PlainAttrs T) (slot : Slot T m id) (hty : typeOf (.builtin id) = pure (.type "method_descriptor")) (hm : MtR X id (rBm g F)) (hx : okx a = true) (hl : (apos.endLine == cpos.line) = true) (ho : PE X a (tX g W fa)) :
    PE X (.Call (.Attribute a m apos) [] [] cpos) (tX g W fun ρ => (fa ρ).bind fun r => (Rx.lift (tyO T r)).bind fun _ => .lift (F r [])) :=
  PE.to (pe_bm0 pa slot hty hm ho (okx_base hx m X.env) hl) fun σ H Q ⟨M, O, fp, ρ, c, en, h⟩ => ⟨M, O, fp, ρ, c, en, h.hb.imp (fun ra h1 v H1 s1 xv => by
    obtain ⟨u, e, h2⟩ := h1.hb.hl
    exact ⟨tyR_ok f.K xv (tyO_ok e), M, O, H, ra, [], c, s1, xv, .nil, out_of s1 h2⟩) fun _ z => z⟩
theorem f_bm (f : Fit X g n) {T id : String} {F : R → List R → Option R} (pa : PlainAttrs T) (slot : Slot T m id) (hty : typeOf (.builtin id) = pure (.type "method_descriptor")) (hm : MtR X id (rBm g F)) (hxa : okx a = true) (hl : (apos.endLine == cpos.line) = true) (ho : PE X a (tX g W fa))
    (hx : okx e = true) (hxs : okxs es = true) (hfew : (e :: es).length < 30) (ha : PA X (e :: es) (tL g W fl)) :
    PE X (.Call (.Attribute a m apos) (e :: es) [] cpos) (tX g W fun ρ => (fa ρ).bind fun r => (Rx.lift (tyO T r)).bind fun _ => (fl ρ).bind fun rs => .lift (F r rs)) :=
  PE.to (pe_bm pa slot hty hm ho ha (okx_base hxa m X.env) (by
    have := okxs_all X.env cpos (es := e :: es) (by show (okx e && okxs es) = true; rw [hx, hxs]; rfl)
    rw [this]
    simp only [Bool.true_and]
    show (true && decide ((e :: es).length + 0 + 0 < 30)) = true
    simpa using hfew) hl (okx_star hx es X.env) (okxs_any X.env cpos hxs)) fun σ H Q ⟨M, O, fp, ρ, c, en, h⟩ => ⟨M, O, fp, ρ, c, en, h.hb.imp (fun ra h1 v H1 s1 xv => by
    obtain ⟨u, e, h2⟩ := h1.hb.hl
    exact ⟨tyR_ok f.K xv (tyO_ok e), M, O, fp, ρ, c.same s1, en.same s1, h2.hb.imp (fun rs h3 vs H2 s2 xs => ⟨M, O, H, ra, rs, c, s1.trans s2, xv.same s2, xs.base s1, out_of (s1.trans s2) h3⟩) fun _ => EW.same s1⟩) fun _ z => z⟩

/-! ### isinstance -/
structure IsiSat (X : Cx) (g : G) (lo hi : Nat) (t : Value) (ans : Nat → Bool) : Prop where
  at_ : ∀ c, lo ≤ c → c < hi → Cls X.K (g.cl c) ∧ PySem.W.findIn X.K (.ref (g.cl c)) "__class__" = some (some (.builtin "object.__class__")) ∧ PySem.W.specialIn X.K (.builtin "object.__class__") "__get__" = some (some (.builtin "getset_descriptor.__get__")) ∧
    PySem.W.takesIn X.K (.builtin "object.__class__") = some true ∧ PySem.W.mroIn X.K (g.cl c) (.type "object") = some true ∧ PySem.W.kitOne X.K (.ref (g.cl c)) t = some (ans c)
/-- the built-in type of data -/
def tyD : D → Option String
  | .non => some "NoneType"
  | .bl _ => some "bool"
  | .int _ => some "int"
  | .str _ => some "str"
  | .tup _ => some "tuple"
  | .lst _ => some "list"
  | .scr _ => some "list"
  | .dk _ => some "dict"
  | .dt _ => some "dict"
  | _ => none
def isiR (kit : String → Option Bool) (lo hi : Nat) (ans : Nat → Bool) (r : R) : Option R := match tyD r.d with
  | some t => (kit t).map rB
  | none => (match r.d with
    | .ins c _ => if lo ≤ c ∧ c < hi then some (rB (ans c)) else none
    | _ => none)
/-- a value's type, a locked dict's too -/
def TyQ (K : PySem.W.Frag) (H : Hp) (v : V) (t : Value) : Prop := TyX K H v t ∨ ∃ a o kvs, v = .ref a ∧ H a = some (.frz o (.dT kvs)) ∧ t = .type "dict"
theorem kit_ofQ {pins : List (Addr × Obj)} {σ : St} {H : Hp} {s : Shared} {x : V} {u t : Value} (I : Inv X pins σ H s) (rx : RelV x u) (ty : TyQ X.K H x t) : ∃ P : Heap → Prop, PySem.W.KitX X.K u t P ∧ P s.heap ∧ u ≠ .builtin "__main__.__loader__#opaque" := by
  rcases ty with ty | ⟨a, o, kvs, rfl, e, rfl⟩
  · exact kit_of I rx ty
  · cases (show u = Value.ref a from rx)
    obtain ⟨_, _, _, xs, _, o, es, ep, h1, h2, _⟩ := (show ObjOk X.prog X.w H s.heap a (.frz o (.dT kvs)) from I.hok a _ e)
    exact ⟨_, PySem.W.kitx_dict, ⟨o, h1, h2.1⟩, fun z => nomatch z⟩
theorem tyD_ok {K : PySem.W.Frag} (hK : K = g.K) {M O : AS} {H0 H : Hp} {v : V} {r : R} {t : String} (h : XR g M O H0 H v r) (e : tyD r.d = some t) : TyQ K H v (.type t) := by
  subst hK
  unfold tyD at e
  split at e <;> cases e
  · rename_i ed; rw [h.flat_non ed]; exact .inl (.base .non)
  · rename_i z ed; rw [h.flat_bl ed]; exact .inl (.base (.bl _))
  · rename_i z ed; rw [h.flat_int ed]; exact .inl (.base (.int _))
  · rename_i z ed; rw [h.flat_str ed]; exact .inl (.base (.str _))
  · rename_i z ed; obtain ⟨p, vs, rfl, h1, _⟩ := h.tupV ed; exact .inl (.base (.tup h1))
  · rename_i z ed; obtain ⟨p, vs, rfl, h1, _⟩ := h.lstV ed; exact .inl (.base (.lst h1))
  · rename_i z ed
    obtain ⟨p, rfl, h1⟩ := h.scr ed
    rcases h1 with (h1 | ⟨o, h1⟩) | ⟨o, its, n, h1, h2, _⟩
    · exact .inl (.base (.lst h1))
    · exact .inl (.base (.frz h1))
    · exact .inl (.kList h1 h2)
  · rename_i z ed
    obtain ⟨p, kvs, rfl, h1, _⟩ := h.dkV ed
    rcases h1 with h1 | ⟨o, h1⟩
    · exact .inl (.base (.dK h1))
    · exact .inl (.fDict h1)
  · rename_i z ed
    obtain ⟨p, kvs, rfl, h1, _⟩ := h.dtV ed
    rcases h1 with h1 | ⟨o, h1⟩
    · exact .inl (.base (.dT h1))
    · exact .inr ⟨p, o, kvs, rfl, h1, rfl⟩
def rIsiQ (K : PySem.W.Frag) : List V → Hp → VK → Prop := fun xs H Q => ∃ (x c : V) (t u : Value) (b : Bool), xs = [x, c] ∧ ClsV c u ∧ TyQ K H x t ∧ PySem.W.kitOne K t u = some b ∧ Q (.bl b) H
theorem call_isiQ : CallR X (.builtin "isinstance") (rIsiQ X.K) := by
  intro pins s σ H xs us Q I r h
  obtain ⟨x, c, t, u, b, rfl, k, ty, e, q⟩ := h
  obtain ⟨u1, u2, rfl, r1, r2⟩ := vals2 r
  have e2 := k.eq r2
  subst e2
  obtain ⟨P, Z, p, hx⟩ := kit_ofQ I r1 ty
  exact PySem.W.kia_one Z I.kIn p e hx fun tk => ⟨.bl b, H, I.tok tk, rfl, q⟩
theorem isi_ok (f : Fit X g n) {c : V} {u : Value} {kit : String → Option Bool} {lo hi : Nat} {ans : Nat → Bool} (hc : ClsV c u) (hk : ∀ t b, kit t = some b → PySem.W.kitOne X.K (.type t) u = some b) (S : IsiSat X g lo hi u ans) {M O : AS} {H0 H : Hp} {v : V} {r r' : R} {Q : VK}
    (h : XR g M O H0 H v r) (e : isiR kit lo hi ans r = some r') (k : ∀ v, XR g M O H H v r' → Q v H) : rIsiQ X.K [v, c] H Q := by
  unfold isiR at e
  split at e
  · rename_i t et
    obtain ⟨b, eb, rfl⟩ := Option.map_eq_some_iff.mp e
    exact ⟨v, c, .type t, u, b, rfl, hc, tyD_ok f.K h et, hk t b eb, k _ (.bl b)⟩
  · split at e
    · rename_i cc ds ed
      split at e
      · rename_i hcc
        cases e
        obtain ⟨p, dx, fs, rfl, h1, _⟩ := h.insV ed
        obtain ⟨z1, z2, z3, z4, z5, z6⟩ := S.at_ cc hcc.1 hcc.2
        exact ⟨_, c, .ref (g.cl cc), u, ans cc, rfl, hc, .inl (.base (.ins h1 z1 z2 z3 z4 z5)), z6, k _ (.bl _)⟩
      · cases e
    · cases e
theorem f_isi (f : Fit X g n) {T : Str} {c : V} {u : Value} {kit : String → Option Bool} {lo hi : Nat} {ans : Nat → Bool} {pT : Pos} (hc : ClsV c u) (hk : ∀ t b, kit t = some b → PySem.W.kitOne X.K (.type t) u = some b) (S : IsiSat X g lo hi u ans) (hg : Gl X ("isinstance" : Str)) (hm : X.mg ("isinstance" : Str) = none)
    (hx : okx a = true) (ha : PE X a (tX g W fa)) (hT : PE X (.Name T pT) (tC c)) : PE X (.Call (.Name ("isinstance" : Str) p) [a, .Name T pT] [] pos) (tX g W fun ρ => (fa ρ).bind fun r => .lift (isiR kit lo hi ans r)) :=
  PE.to (pe_callB call_isiQ hg hm (by decide +kernel) (pa_cons ha (pa_cons hT pa_nil) (okx_star hx _ X.env)) (by decide) (by decide) (okx_star hx _ X.env) rfl) fun σ H Q ⟨M, O, fp, ρ, cd, en, h⟩ => ⟨M, O, fp, ρ, cd, en, h.hb.imp (fun ra h1 v H1 s1 xv => by
    obtain ⟨r', e, k⟩ := h1.hl
    exact isi_ok f hc hk S xv e fun w q => k w H1 s1 (XR.base s1 q)) fun _ z => z⟩
end
end
end Q

end

section
set_option Elab.async false
set_option linter.all false
set_option maxRecDepth 100000
set_option maxHeartbeats 1000000
/-! QB: d.items() where the keys are tuples. -/
namespace Q
noncomputable section
open PySem PySem.Spec L2
open PyProof.Rows hiding St

/-- the pairs of a dict by tuples, each a new tuple -/
def ItiT (d : Addr) (o : Obj) (kvs : List (List Key × V)) : It :=
  ⟨fun i H => H d = some (.frz o (.dT kvs)) ∧ i < kvs.length,
   fun i H x H' => ∃ T k v q, kvs[i]? = some (k, v) ∧ x = .ref T ∧ H T = none ∧ H q = some (.tup (k.map kV)) ∧ H' = upd H T (.tup [.ref q, v]),
   fun i H => H d = some (.frz o (.dT kvs)) ∧ kvs.length ≤ i⟩
section
variable {X : Cx} {pins : List (Addr × Obj)} {σ : St} {H : Hp} {s : Shared} {d : Addr} {o : Obj}
theorem frzT_raw {kvs : List (List Key × V)} (I : Inv X pins σ H s) (h : H d = some (.frz o (.dT kvs))) :
    (d == sysModules) = false ∧ s.heap.get? d = some o ∧ ∃ (es : Array DictEntry) (ep : Nat), o.data = .dict es ep ∧ es.size = kvs.length ∧ s.heap.DictRaw d es ep ∧
      ∀ (i : Nat) (k : List Key) (v : V), kvs[i]? = some (k, v) → ∃ (en : DictEntry) (q : Addr), es[i]? = some en ∧ en.key = .ref q ∧ H q = some (.tup (k.map kV)) ∧ RelV v en.val := by
  obtain ⟨hd, z, hs, xs, pr, o2, es, ep, ho, hx, hdt, he, _⟩ := I.hok d _ h
  rw [hd] at ho
  cases ho
  have l1 : es.size = xs.length := size_of_entries he
  have l2 : kvs.length = xs.length := Paired.length pr
  refine ⟨hs, hd, es, ep, hdt, by omega, ⟨o, hd, hx, hdt⟩, fun i k v e => ?_⟩
  obtain ⟨b, hb, e1, e2, e3⟩ := paired_get pr e
  have q := entry_at he i
  rw [hb] at q
  exact ⟨_, b.2.1, q, rfl, e2, e3⟩
end
section
variable {P : Program} {w : World} {K : PySem.W.Frag} {d : Addr} {o : Obj} {es : Array DictEntry} {ep : Nat}
theorem turn_itemsT {kvs : List (List Key × V)} {elts : List Expr} {kk : Nat} {tpos : Pos} (it : Addr) (hod : o.data = .dict es ep) :
    Turn P w K (.Tuple elts kk tpos) (ItiT d o kvs) [it] it (fun i h => ∃ ka va, IsItemIter h it d i kvs.length ep ka va) where
  mem := by simp
  obj := fun i h st b hb => by
    cases List.mem_singleton.mp hb
    obtain ⟨ka, va, e⟩ := st
    exact ⟨_, e, fun v z => nomatch z⟩
  keep := fun i h h' st k => by
    obtain ⟨ka, va, e⟩ := st
    exact ⟨ka, va, k it (by simp) _ e⟩
  item := by
    intro X hP hw hK hc i pins s σ H E I hf st hg
    subst hP hw hK
    obtain ⟨hd, hi⟩ := hg
    obtain ⟨hs, hgd, es2, ep2, hdt, hsz, raw, ent⟩ := frzT_raw I hd
    obtain ⟨rfl, rfl⟩ := dict_ep hod hdt
    obtain ⟨⟨k, v⟩, hkv⟩ : ∃ p, kvs[i]? = some p := ⟨kvs[i], List.getElem?_eq_getElem hi⟩
    obtain ⟨en, q, hen, hkey, hq, rv⟩ := ent i k v hkv
    obtain ⟨ka, va, he⟩ := st
    rw [← hsz] at he
    have hlt : it < s.heap.objs.size := Heap.lt_size he
    have hie : i < es2.size := by omega
    have een : es2[i] = en := by
      rw [Array.getElem?_eq_getElem hie] at hen
      exact Option.some.inj hen
    refine wpAny_pyNext_items_item_raw he raw hie fun h' ho hT hz hk => ?_
    rw [een] at ho hT
    refine ⟨_, rfl, wpAny_letOwnedTupleGo_items (s := { s with heap := h' }) ho fun h2 he2 sb => ?_⟩
    have hT2 : h2.get? s.heap.objs.size = some { cls := .type "tuple", data := .seq #[en.key, en.val] } := (sb.2 _ (Nat.ne_of_gt hlt)).trans hT
    have new : ObjOk X.prog X.w (upd H s.heap.objs.size (.tup [.ref q, v])) h2 s.heap.objs.size (.tup [.ref q, v]) :=
      ⟨by show 2 ≤ sizeLine; decide, [en.key, en.val], .cons hkey (.cons rv .nil), ⟨_, hT2, rfl, _, rfl⟩⟩
    have I1 : Inv X pins σ (upd H s.heap.objs.size (.tup [.ref q, v])) { s with heap := h2 } :=
      I.turnedNew (t' := s.toks) (ch := [it]) (fun b ob hb e => (sb.2 b (by simpa using hb)).trans (hk b ob (by simpa using hb) e)) hf (Nat.le_refl _) new
    refine ⟨.ref s.heap.objs.size, _, I1, rfl, ⟨_, k, v, q, hkv, rfl, I.hok.fresh (Nat.le_refl _), hq, rfl⟩, ⟨en.key, en.val, ?_⟩, fun b hb => ?_⟩
    · rw [← hsz]; exact he2
    · cases List.mem_singleton.mp hb
      rw [upd_ne (Nat.ne_of_lt hlt)]
      exact (hf it (by simp)).1
  done := by
    intro X hP hw hK hc i pins s σ H E I hf st hg
    subst hP hw hK
    obtain ⟨hd, hi⟩ := hg
    obtain ⟨f0, f1, f2, f3, f4, f5⟩ := hf it (by simp)
    obtain ⟨hs, hgd, es2, ep2, hdt, hsz, raw, ent⟩ := frzT_raw I hd
    obtain ⟨rfl, rfl⟩ := dict_ep hod hdt
    obtain ⟨ka, va, he⟩ := st
    rw [← hsz] at he
    exact wpAny_pyNext_items_end_raw (I.ok.hd hc) he raw (by omega) fun h' eb => ⟨rfl, I.turned (t' := s.toks) (fun b ob hb e => eb b ob hb e) f0 f1 f3 f4 f5⟩
  self := fun A i s Q E st h => by
    obtain ⟨_, _, e⟩ := st
    exact PySem.W.kcp_self e h
end
/-! ### d.items(), whatever the keys -/
def iItemsB (td : TE) : TI := fun σ H R => td σ H fun x H1 => ∃ d o, x = .ref d ∧ ((∃ kvs, H1 d = some (.frz o (.dK kvs)) ∧ R (Iti d o kvs) H1) ∨ ∃ kvs, H1 d = some (.frz o (.dT kvs)) ∧ R (ItiT d o kvs) H1)
section
variable {X : Cx} {e : Expr} {td : TE} {apos cpos : Pos}
theorem pi_itemsB {elts : List Expr} {kk : Nat} {tpos : Pos} (he : PE X e td) (hbase : attributeBase e "items" X.env (eval e X.env) = eval e X.env) (hline : (apos.endLine == cpos.line) = true) :
    PI X (.Tuple elts kk tpos) (.Call (.Attribute e "items" apos) [] [] cpos) (iItemsB td) := by
  refine ⟨fun pins s σ H R I h => ?_⟩
  refine wpAny_Call_method (T := "dict") (id := "dict.items") hbase rfl hline F.plainAttrs_dict F.slot_dict_items F.type_dict_items (thn (he.run pins s σ H _ I h) fun u s1 ⟨x, H1, I1, rx, d, o, ex, q⟩ => ?_)
  subst ex
  obtain rfl : u = Value.ref d := rx
  rcases q with ⟨kvs, hd, q⟩ | ⟨kvs, hd, q⟩
  · obtain ⟨hs, hgd, hx, es, ep, vs, hdt, hsz, kv, hm⟩ := I1.frzK hd
    have hl : kvs.length = vs.length := Paired.length kv
    refine ⟨hm.dictOf.typeIs, hm.dictOf.mapOf.noDict, ?_⟩
    have I2 : Inv X pins σ H1 { s1 with heap := s1.heap.push { cls := .type "dict_items", data := .fields #[.ref d] } } := I1.kept (t' := s1.toks) fun b ob q => Heap.get?_push_of_some _ q
    have fin : wpAny (model X.prog X.w) X.A (pyIter (.ref s1.heap.objs.size)) (PIE X pins σ (.Tuple elts kk tpos) R) X.xe { s1 with heap := s1.heap.push { cls := .type "dict_items", data := .fields #[.ref d] } } := by
      refine wpAny_pyIter_items (d := d) (knd := mixKind X.prog X.w) ⟨_, Heap.get?_push_size _ rfl, rfl, rfl⟩ (hm.push _) (pi_one (tk := s1.toks) I2 _ (turn_items _ hdt) ⟨.none, .none, ?_⟩ q)
      rw [hl]
      exact Heap.get?_push_size _ rfl
    show wpAny _ _ (callWith cpos (.builtin "dict.items") [.ref d] [] []) _ X.xe s1
    exact method_meetsIn F.slot_dict_items F.entry_dict_items rfl (PySem.evalArgs_none ⟨rfl, hm.dictOf.typeIs, F.args_dict_items_1 _, _, meets_dict_items (mixKind X.prog X.w) d hs, ⟨vs, hm.dictOf⟩, fin⟩)
  · obtain ⟨hs, hgd, es, ep, hdt, hsz, raw, ent⟩ := frzT_raw I1 hd
    obtain ⟨oo, hoo, hx, hdd⟩ := id raw
    refine ⟨⟨oo, hoo, hx.1⟩, fun b e => ?_, ?_⟩
    · cases e
      exact ⟨oo, hoo, hx.2.1⟩
    have I2 : Inv X pins σ H1 { s1 with heap := s1.heap.push { cls := .type "dict_items", data := .fields #[.ref d] } } := I1.kept (t' := s1.toks) fun b ob q => Heap.get?_push_of_some _ q
    have fin : wpAny (model X.prog X.w) X.A (pyIter (.ref s1.heap.objs.size)) (PIE X pins σ (.Tuple elts kk tpos) R) X.xe { s1 with heap := s1.heap.push { cls := .type "dict_items", data := .fields #[.ref d] } } := by
      refine PySem.wpAny_pyIter_items_raw (d := d) ⟨_, Heap.get?_push_size _ rfl, rfl, rfl⟩ ⟨oo, Heap.get?_push_of_some _ hoo, hx, hdd⟩ (pi_one (tk := s1.toks) I2 _ (turn_itemsT _ hdt) ⟨.none, .none, ?_⟩ q)
      rw [← hsz]
      exact Heap.get?_push_size _ rfl
    show wpAny _ _ (callWith cpos (.builtin "dict.items") [.ref d] [] []) _ X.xe s1
    exact method_meetsIn F.slot_dict_items F.entry_dict_items rfl (PySem.evalArgs_none ⟨rfl, ⟨oo, hoo, hx.1⟩, F.args_dict_items_1 _, _, PySem.meets_dict_items_raw d hs, ⟨⟨es, ep, raw⟩, fin⟩⟩)
end
end
end Q

end

section
set_option Elab.async false
set_option linter.all false
set_option maxRecDepth 100000
set_option maxHeartbeats 1000000
/-! Q6: what is walked; locks; targets. -/
namespace Q
noncomputable section
open PySem PySem.Spec L2
open PyProof.Rows hiding St

/-! ### items -/
def IR (g : G) (M O : AS) (H : Hp) (v : V) : R → Prop
  | .shr d => Rep g (M.u O) H v d
  | .tmp t => ∃ S : AS, (∀ a, S a → M a) ∧ OT g (M.u O) H v t S
  | _ => False
structure Yields (g : G) (M O : AS) (H0 : Hp) (J : It) (xs : List R) : Prop where
  go : ∀ (i : Nat) (H : Hp), Kp O H0 H → i < xs.length → J.go i H
  stop : ∀ (i : Nat) (H : Hp), Kp O H0 H → i = xs.length → J.stop i H
  yld : ∀ (i : Nat) (H : Hp) (x : V) (H' : Hp) (O' : AS) (r : R), Kp O H0 H → Nw O H0 O' → Cd M O' H → xs[i]? = some r → J.yld i H x H' → Same H H' ∧ IR g M O' H' x r
theorem PI.to {X : Cx} {tg e : Expr} {t t' : TI} (h : PI X tg e t) (k : ∀ σ H R, t' σ H R → t σ H R) : PI X tg e t' := ⟨fun pins s σ H R I q => h.run pins s σ H R I (k _ _ _ q)⟩
section
variable {g : G} {M O O' : AS} {H0 H H' : Hp} {v : V} {d : D} {r : R} {a : Addr}
theorem IR.same (s : Same H H') (h : IR g M O H v r) : IR g M O H' v r := by
  cases r with
  | shr d => exact Rep.same s h
  | tmp t => obtain ⟨S, k, q⟩ := h; exact ⟨S, k, q.same s⟩
  | _ => exact h.elim
theorem OT.keep {t : T} {S : AS} (cd : Cd M O H) (k : Kp O H H') (w : Nw O H O') (f : ∀ a, S a → M a) (h : OT g (M.u O) H v t S) : OT g (M.u O') H' v t S :=
  h.tr (k.tr' w) fun a u z e => .inl (k a u (fun q => cd.d a q (f a z)) e)
/-- the object at a is nobody's own here -/
theorem XR.nO {u : HO} (c : Cd M O H0) (h : XR g M O H0 H (.ref a) r) (hn : ∀ t, r ≠ .vw t) (e : r.sh = some d) (hs : ∀ ns, d ≠ .scr ns) (t : H a = some u) : ¬ O a := by
  cases r with
  | shr x =>
    cases e
    intro z
    cases (show Rep g (M.u O) H (.ref a) d from h) with
    | scr _ => exact hs _ rfl
    | tup _ q _ => exact q (.inr z)
    | lst _ q _ => exact q (.inr z)
    | dk _ q _ _ => exact q (.inr z)
    | dt _ q _ _ => exact q (.inr z)
    | ins _ q _ _ => exact q (.inr z)
    | clo _ q _ _ _ => exact q (.inr z)
  | own x =>
    obtain ⟨S, f, q⟩ := h
    intro z
    cases q with
    | lf q =>
      cases e
      cases q with
      | scr _ => exact hs _ rfl
      | tup _ q _ => exact q (.inl (.inr z))
      | lst _ q _ => exact q (.inl (.inr z))
      | dk _ q _ _ => exact q (.inl (.inr z))
      | dt _ q _ _ => exact q (.inl (.inr z))
      | ins _ q _ _ => exact q (.inl (.inr z))
      | clo _ q _ _ _ => exact q (.inl (.inr z))
    | pl s _ => exact c.fresh (f _ s).1 (.inr z)
    | _ => cases e
  | tmp x =>
    obtain ⟨S, f, q⟩ := h
    intro z
    cases q with
    | lf q =>
      cases e
      cases q with
      | scr _ => exact hs _ rfl
      | tup _ q _ => exact q (.inr z)
      | lst _ q _ => exact q (.inr z)
      | dk _ q _ _ => exact q (.inr z)
      | dt _ q _ _ => exact q (.inr z)
      | ins _ q _ _ => exact q (.inr z)
      | clo _ q _ _ _ => exact q (.inr z)
    | pl s _ => exact c.d a z (f _ s)
    | _ => cases e
  | vw x => exact absurd rfl (hn x)
theorem map_at {α β : Type} {f : α → β} {xs : List α} {i : Nat} {y : β} (h : (xs.map f)[i]? = some y) : ∃ x, xs[i]? = some x ∧ f x = y := by
  rw [List.getElem?_map] at h
  cases e : xs[i]? with
  | none => rw [e] at h; cases h
  | some x => rw [e] at h; exact ⟨x, rfl, Option.some.inj h⟩
theorem y_lst {K : PySem.W.Frag} {vs : List V} {ds : List D} (ho : ¬ O a) (h : H a = some (.lst vs)) (r : RepL g (M.u O) H vs ds) : Yields g M O H (Itl K a) (ds.map .shr) := by
  have st : ∀ H', Kp O H H' → SqL K H' a vs := fun H' k => SqL.of (k a _ ho h)
  refine ⟨fun i H' k hi => ?_, fun i H' k hi => ⟨vs, st H' k, ?_⟩, fun i H' x H2 O' r' k w c he hy => ?_⟩
  · rw [List.length_map, ← r.length] at hi
    exact ⟨vs, vs[i], st H' k, by simp [hi]⟩
  · rw [List.length_map, ← r.length] at hi
    exact Nat.le_of_eq hi.symm
  · obtain ⟨rfl, hy⟩ := hy
    obtain ⟨d', e1, rfl⟩ := map_at he
    obtain ⟨v, e3, q⟩ := r.get e1
    have := hy vs (st _ k)
    rw [e3] at this
    cases this
    exact ⟨Same.refl _, Rep.tr (k.tr' w) q⟩
theorem chi_ir {t : T} {S : AS} (f : ∀ a, S a → M a) (h : OT g (M.u O) H v t S) : IR g M O H v (chi .tmp t) := by
  cases t with
  | lf d => cases h with | lf q => exact q
  | _ => exact ⟨S, f, h⟩
theorem y_lstT {K : PySem.W.Frag} {vs : List V} {ts : List T} {S : AS} (cd : Cd M O H) (hm : M a) (f : ∀ a, S a → M a) (h : H a = some (.lst vs)) (r : OTs g (M.u O) H vs ts S) : Yields g M O H (Itl K a) (ts.map (chi .tmp)) := by
  have ho : ¬ O a := fun z => cd.d a z hm
  have st : ∀ H', Kp O H H' → SqL K H' a vs := fun H' k => SqL.of (k a _ ho h)
  refine ⟨fun i H' k hi => ?_, fun i H' k hi => ⟨vs, st H' k, ?_⟩, fun i H' x H2 O' r' k w c he hy => ?_⟩
  · rw [List.length_map, ← r.length] at hi
    exact ⟨vs, vs[i], st H' k, by simp [hi]⟩
  · rw [List.length_map, ← r.length] at hi
    exact Nat.le_of_eq hi.symm
  · obtain ⟨rfl, hy⟩ := hy
    obtain ⟨t', e1, rfl⟩ := map_at he
    obtain ⟨v, e3, q⟩ := r.get e1
    have := hy vs (st _ k)
    rw [e3] at this
    cases this
    exact ⟨Same.refl _, chi_ir f (q.keep cd k w f)⟩
theorem y_scr {K : PySem.W.Frag} {ns : List Int} (h : (Rd H a (.lst (ns.map V.int)) ∧ ¬ O a) ∨ KLst K a (ns.map V.int)) : Yields g M O H (Itl K a) (ns.map rI) := by
  have st : ∀ H', Kp O H H' → SqL K H' a (ns.map V.int) := fun H' k => by
    exact h.imp (fun h => h.1.imp (fun q => k a _ h.2 q) fun ⟨o, q⟩ => ⟨o, k a _ h.2 q⟩) id
  refine ⟨fun i H' k hi => ?_, fun i H' k hi => ⟨_, st H' k, ?_⟩, fun i H' x H2 O' r' k w c he hy => ?_⟩
  · rw [List.length_map] at hi
    exact ⟨_, .int ns[i], st H' k, by simp [hi]⟩
  · rw [List.length_map] at hi ⊢
    exact Nat.le_of_eq hi.symm
  · obtain ⟨rfl, hy⟩ := hy
    obtain ⟨d', e1, rfl⟩ := map_at he
    have := hy _ (st _ k)
    rw [List.getElem?_map, e1] at this
    cases this
    exact ⟨Same.refl _, .int _⟩
theorem y_tup {K : PySem.W.Frag} {vs : List V} {ds : List D} (ho : ¬ O a) (h : H a = some (.tup vs)) (r : RepL g (M.u O) H vs ds) : Yields g M O H (Itt K a) (ds.map .shr) := by
  have st : ∀ H', Kp O H H' → SqT K H' a vs := fun H' k => SqT.of (k a _ ho h)
  refine ⟨fun i H' k hi => ?_, fun i H' k hi => ⟨vs, st H' k, ?_⟩, fun i H' x H2 O' r' k w c he hy => ?_⟩
  · rw [List.length_map, ← r.length] at hi
    exact ⟨vs, vs[i], st H' k, by simp [hi]⟩
  · rw [List.length_map, ← r.length] at hi
    exact Nat.le_of_eq hi.symm
  · obtain ⟨rfl, hy⟩ := hy
    obtain ⟨d', e1, rfl⟩ := map_at he
    obtain ⟨v, e3, q⟩ := r.get e1
    have := hy vs (st _ k)
    rw [e3] at this
    cases this
    exact ⟨Same.refl _, Rep.tr (k.tr' w) q⟩
def rngL (lo : Int) (n : Nat) : List R := (List.range n).map fun k => rI (lo + (k : Nat))
theorem y_rng (lo : Int) (n : Nat) : Yields g M O H (Itr lo n) (rngL lo n) := by
  refine ⟨fun i H' k hi => (by have : i < n := (by simpa [rngL] using hi); exact this), fun i H' k hi => ?_, fun i H' x H2 O' r' k w c he hy => ?_⟩
  · have : n ≤ i := by rw [hi]; simp [rngL]
    exact this
  · obtain ⟨rfl, rfl⟩ := hy
    obtain ⟨j, e1, rfl⟩ := map_at he
    have : j = i := by
      rw [List.getElem?_range] at e1
      · exact (Option.some.inj e1).symm
      · by_cases z : i < n
        · exact z
        · rw [List.getElem?_eq_none (by simpa using z)] at e1; cases e1
    subst this
    exact ⟨Same.refl _, .int _⟩
end
/-- the items of a list that is not changed within -/
def isVw : R → Bool
  | .vw _ => true
  | _ => false
def tmpL : R → Option (List R)
  | .tmp (.lst ts) => some (ts.map (chi .tmp))
  | _ => none
def itemsR (r : R) : Option (List R) := if isVw r = true then none else match r.sh with
  | some (.lst ds) => some (ds.map .shr)
  | some (.scr ns) => some (ns.map rI)
  | some _ => none
  | none => tmpL r
def itemsT (r : R) : Option (List R) := if isVw r = true then none else match r.sh with
  | some (.tup ds) => some (ds.map .shr)
  | _ => none
theorem isVw_no {r : R} (h : ¬ isVw r = true) : ∀ t, r ≠ .vw t := fun t z => h (by rw [z]; rfl)

/-! ### a dict is locked while it is walked -/
def NoFz (X : Cx) (d : Addr) : Prop := ∀ o' u', X.H_0 d ≠ some (.frz o' u')
def Un1 (X : Cx) (P : Hp → Prop) (H' : Hp) : Prop := (∃ d u od, H' d = some (.frz od u) ∧ NoFz X d ∧ P (upd H' d u)) ∨ P H'
/-- H' is H, or H with a dict locked -/
def LkH (X : Cx) (O : AS) (H H' : Hp) : Prop := H' = H ∨ ∃ d u od, H d = some u ∧ isDc u ∧ ¬ O d ∧ NoFz X d ∧ H' = upd H d (.frz od u)
theorem isDc.Mut {u : HO} (h : isDc u) : L2.Mut (some u) := by cases u <;> first | exact h.elim | trivial
section
variable {X : Cx} {e : Expr} {st : Stmt}
theorem pe_lk {td : TE} (h : PE X e td) : PE X e (fun σ H Q => td σ H fun x H1 => (∃ d u, H1 d = some u ∧ Mut (some u) ∧ ∀ od, NoFz X d → Q x (upd H1 d (.frz od u))) ∨ Q x H1) := by
  refine ⟨fun pins s σ H Q I q => thn (h.run pins s σ H _ I q) fun v s1 ⟨x, H1, I1, r, q⟩ => ?_⟩
  rcases q with ⟨d, u, hd, mu, q⟩ | q
  · obtain ⟨od, I2⟩ := I1.lock hd mu
    exact ⟨x, _, I2, r, q od (I1.nofrz hd mu)⟩
  · exact ⟨x, H1, I1, r, q⟩
theorem Un1.go {P : Hp → Prop} {H' : Hp} {pins : List (Addr × Obj)} {σ : St} {s : Shared} (I : Inv X pins σ H' s) (h : Un1 X P H') : ∃ H2, Inv X pins σ H2 s ∧ P H2 := by
  rcases h with ⟨d, u, od, e, nf, q⟩ | q
  · exact ⟨_, I.unlock e nf, q⟩
  · exact ⟨_, I, q⟩
theorem pe_unl {t : TE} (h : PE X e t) : PE X e (fun σ H Q => t σ H fun v H' => Un1 X (Q v) H') := by
  refine ⟨fun pins s σ H Q I q => thn (h.run pins s σ H _ I q) fun v s1 ⟨x, H1, I1, r, q⟩ => ?_⟩
  obtain ⟨H2, I2, q⟩ := q.go I1
  exact ⟨x, H2, I2, r, q⟩
def unD (X : Cx) (D : Ends) : Ends := ⟨fun σ' H' => Un1 X (D.nx σ') H', fun v H' => Un1 X (D.rt v) H', fun σ' H' => Un1 X (D.bk σ') H', fun σ' H' => Un1 X (D.ct σ') H'⟩
theorem ps_unl {t : TS} (h : PS X st t) : PS X st (fun D σ H => t (unD X D) σ H) := by
  refine ⟨fun pins s σ H D I q => thn (h.run pins s σ H _ I q) fun f s1 q => ?_⟩
  cases f with
  | next => obtain ⟨σ', H', I2, q⟩ := q; obtain ⟨H2, I3, q⟩ := Un1.go I2 q; exact ⟨σ', _, I3, q⟩
  | brk => obtain ⟨σ', H', I2, q⟩ := q; obtain ⟨H2, I3, q⟩ := Un1.go I2 q; exact ⟨σ', _, I3, q⟩
  | cont => obtain ⟨σ', H', I2, q⟩ := q; obtain ⟨H2, I3, q⟩ := Un1.go I2 q; exact ⟨σ', _, I3, q⟩
  | ret v => obtain ⟨x, σ', H', I2, r, q⟩ := q; obtain ⟨H2, I3, q⟩ := Un1.go I2 q; exact ⟨x, σ', _, I3, r, q⟩
end
section
variable {g : G} {X : Cx} {M O O' : AS} {H H' H2 : Hp}
theorem LkH.lk (k : LkH X O H H') (a : Addr) (u : HO) (h : H a = some u) : Lk u (H' a) := by
  rcases k with rfl | ⟨d, w, od, e, dc, ho, nf, rfl⟩
  · exact .inl h
  · by_cases z : a = d
    · subst z
      rw [e] at h; cases h
      exact .inr (.inl ⟨od, upd_same, dc⟩)
    · exact .inl (by rw [upd_ne z]; exact h)
theorem LkH.tr {B : AS} (k : LkH X O H H') : Tr B H B H' := ⟨fun _ _ h _ => h, fun a u _ h => k.lk a u h⟩
theorem LkH.cd (k : LkH X O H H') (c : Cd M O H) : Cd M O H' := by
  rcases k with rfl | ⟨d, u, od, e, dc, ho, nf, rfl⟩
  · exact c
  · refine ⟨fun a h => ?_, fun a h => ?_, ?_⟩
    · by_cases z : a = d
      · subst z; exact ⟨_, upd_same, .inr ⟨_, _, rfl⟩⟩
      · obtain ⟨w, q, m⟩ := c.m a h; exact ⟨w, by rw [upd_ne z]; exact q, m⟩
    · have z : a ≠ d := fun z => ho (z ▸ h)
      obtain ⟨w, q, m⟩ := c.o a h
      exact ⟨w, by rw [upd_ne z]; exact q, m⟩
    · exact c.d
theorem LkH.same_o (k : LkH X O H H') {a : Addr} (h : O a) : H' a = H a := by
  rcases k with rfl | ⟨d, u, od, e, dc, ho, nf, rfl⟩
  · rfl
  · rw [upd_ne (show a ≠ d from fun z => ho (by rw [← z]; exact h))]
theorem SR.lk {S : AS} {v : V} {r : R} (k : LkH X O H H') (h : SR g M O S H v r) : SR g M O S H' v r := by
  cases r with
  | shr d => exact Rep.tr k.tr h
  | own t => exact OT.tr k.tr (fun a u _ e => k.lk a u e) h
  | tmp t => obtain ⟨S', f, q⟩ := h; exact ⟨S', f, q.tr k.tr fun a u _ e => k.lk a u e⟩
  | vw t => exact XM.mono (fun a fs e => (k.lk a _ e).at nDc_xd) h
theorem EnvR.lk {fp : Nat → AS} {σ : St} {ρ : Rho} (k : LkH X O H H') (h : EnvR g M O fp σ H ρ) : EnvR g M O fp σ H' ρ := ⟨h.len, fun i r e => let ⟨v, e1, q⟩ := h.at_ i r e; ⟨v, e1, q.lk k⟩, h.fo, h.fr, h.ds⟩
/-- behind the walk the dict is free again: how all that is told goes over -/
theorem LkH.back (k : LkH X O H H') (kp : Kp O H' H2) (nw : Nw O H' O') :
    ∃ H3, (H3 = H2 ∨ ∃ d u od, H2 d = some (.frz od u) ∧ NoFz X d ∧ H3 = upd H2 d u) ∧ Kp O H H3 ∧ Nw O H O' ∧ (∀ a u, H2 a = some u → Lk u (H3 a)) ∧ (∀ a, O' a → H3 a = H2 a) ∧ ∀ {M : AS}, Cd M O' H2 → Cd M O' H3 := by
  rcases k with rfl | ⟨d, u, od, e, dc, ho, nf, rfl⟩
  · exact ⟨H2, .inl rfl, kp, nw, fun _ _ h => .inl h, fun _ _ => rfl, fun c => c⟩
  · have e2 : H2 d = some (.frz od u) := kp d _ ho upd_same
    have hd : ¬ O' d := fun z => (nw d z).elim ho fun q => by rw [upd_same] at q; cases q
    refine ⟨upd H2 d u, .inr ⟨d, u, od, e2, nf, rfl⟩, fun a w h q => ?_, fun a h => (nw a h).imp id fun q => ?_, fun a w h => ?_, fun a h => ?_, fun c => ⟨fun a h => ?_, fun a h => ?_, c.d⟩⟩
    · by_cases z : a = d
      · subst z; rw [upd_same]; rw [e] at q; exact q
      · rw [upd_ne z]; exact kp a w h (by rw [upd_ne z]; exact q)
    · by_cases z : a = d
      · subst z; rw [upd_same] at q; cases q
      · rw [upd_ne z] at q; exact q
    · by_cases z : a = d
      · subst z
        rw [e2] at h; cases h
        exact .inr (.inr ⟨od, u, rfl, dc, upd_same⟩)
      · exact .inl (by rw [upd_ne z]; exact h)
    · rw [upd_ne (show a ≠ d from fun z => hd (by rw [← z]; exact h))]
    · by_cases z : a = d
      · subst z; exact ⟨_, upd_same, .inl dc.mut⟩
      · obtain ⟨w, q, m⟩ := c.m a h; exact ⟨w, by rw [upd_ne z]; exact q, m⟩
    · obtain ⟨w, q, m⟩ := c.o a h
      exact ⟨w, by rw [upd_ne (show a ≠ d from fun z => hd (by rw [← z]; exact h))]; exact q, m⟩
theorem lkTr {B : AS} (k : ∀ a u, H a = some u → Lk u (H' a)) : Tr B H B H' := ⟨fun _ _ h _ => h, fun a u _ h => k a u h⟩
end

/-! ### what is walked, with locks -/
def tJ (X : Cx) (g : G) (W : WX) (f : Rho → Rx (List R)) : TI := fun σ H R => ∃ M O fp ρ, Cd M O H ∧ EnvR g M O fp σ H ρ ∧ (f ρ).hold (fun xs => ∀ J H1 H', Same H H1 → LkH X O H1 H' → Yields g M O H' J xs → R J H') (EW g M O H W σ)
def kD : Key → D
  | .inl i => .int i
  | .inr x => .str x
def tmpK : R → Option (List R)
  | .tmp (.dk ks _) => some (ks.map fun k => .shr (kD k))
  | _ => none
def tmpV : R → Option (List R)
  | .tmp (.dk _ ts) => some (ts.map (chi .tmp))
  | _ => none
def keysR (r : R) : Option (List R) := if isVw r = true then none else match r.sh with
  | some (.dk ds) => some (ds.map fun kv => .shr (kD kv.1))
  | some (.dt ds) => some (ds.map fun kv => .shr (.tup (kv.1.map kD)))
  | some _ => none
  | none => tmpK r
def valsR (r : R) : Option (List R) := if isVw r = true then none else match r.sh with
  | some (.dk ds) => some (ds.map fun kv => .shr kv.2)
  | some _ => none
  | none => tmpV r
def itmsR (r : R) : Option (List R) := if isVw r = true then none else match r.sh with
  | some (.dk ds) => some (ds.map fun kv => .shr (.tup [kD kv.1, kv.2]))
  | some (.dt ds) => some (ds.map fun kv => .shr (.tup [.tup (kv.1.map kD), kv.2]))
  | _ => none
/-- enumerate(xs) -/
def enumR (r : R) : Option (List R) := if isVw r = true then none else match r.sh with
  | some (.lst ds) => some (ds.zipIdx.map fun p => .shr (.tup [.int (p.2 : Nat), p.1]))
  | _ => none
def rng3R (rs : List R) : Option (List R) := match rs with
  | [r, q, s] => (match r.d, q.d, s.d with
    | .int i, .int j, .int c => @ite _ (c ≠ 0 ∧ c.natAbs < 1073741824 ∧ Builtin.Range.small i j c = true ∧ 0 ≤ Builtin.Range.rangeSize i j c) (Classical.propDecidable _) (some ((List.range (Builtin.Range.rangeSize i j c).toNat).map fun k => rI (i + (k : Nat) * c))) none
    | _, _, _ => none)
  | _ => none
section
variable {X : Cx} {g : G} {n : Nat} {W : WX} {e a b c i tg : Expr} {es : List Expr} {pos p apos cpos : Pos} {fa fb fc : Rho → Rx R} {fl : Rho → Rx (List R)} {x m : Str}
theorem kD_rep {B : AS} {H : Hp} (k : Key) : Rep g B H (kV k) (kD k) := by
  cases k with
  | inl i => exact .int i
  | inr x => exact .str x
theorem kDs_rep {B : AS} {H : Hp} : ∀ ks : List Key, RepL g B H (ks.map kV) (ks.map kD)
  | [] => .nil
  | k :: ks => .cons (kD_rep k) (kDs_rep ks)
theorem fst_at {κ α β : Type} {kvs : List (κ × α)} {ds : List (κ × β)} {i : Nat} {kv : κ × α} {q : κ × β} (e : kvs.map (·.1) = ds.map (·.1)) (h1 : kvs[i]? = some kv) (h2 : ds[i]? = some q) : kv.1 = q.1 := by
  have h3 : (kvs.map (·.1))[i]? = some kv.1 := by rw [List.getElem?_map, h1]; rfl
  have h4 : (ds.map (·.1))[i]? = some q.1 := by rw [List.getElem?_map, h2]; rfl
  rw [e, h4] at h3
  exact (Option.some.inj h3).symm
theorem len_eq {κ α β : Type} {kvs : List (κ × α)} {ds : List (κ × β)} (e : kvs.map (·.1) = ds.map (·.1)) : kvs.length = ds.length := by
  have := congrArg List.length e
  simpa using this
theorem y_keys {M O : AS} {H : Hp} {d : Addr} {o : Obj} {kvs : List (Key × V)} {ks : List Key} (ho : ¬ O d) (h : H d = some (.frz o (.dK kvs))) (q : kvs.map (·.1) = ks) : Yields g M O H (Itk d o kvs) (ks.map fun k => .shr (kD k)) := by
  subst q
  refine ⟨fun i H' k hi => ⟨k d _ ho h, by simpa using hi⟩, fun i H' k hi => ⟨k d _ ho h, by simp [hi]⟩, fun i H' x H2 O' r' k w c he hy => ?_⟩
  obtain ⟨rfl, kk, v, e1, rfl⟩ := hy
  obtain ⟨kv, e2, rfl⟩ := map_at he
  rw [List.getElem?_map, e1] at e2
  cases e2
  exact ⟨Same.refl _, kD_rep kk⟩
theorem y_keysT {M O : AS} {H : Hp} {d : Addr} {o : Obj} {kvs : List (List Key × V)} {ds : List (List Key × D)} (ho : ¬ O d) (h : H d = some (.frz o (.dT kvs))) (q : kvs.map (·.1) = ds.map (·.1)) : Yields g M O H (Itkt d o kvs) (ds.map fun kv => .shr (.tup (kv.1.map kD))) := by
  have hl := len_eq q
  refine ⟨fun i H' k hi => ⟨k d _ ho h, by simpa [hl] using hi⟩, fun i H' k hi => ⟨k d _ ho h, by simp [hi, hl]⟩, fun i H' x H2 O' r' k w c he hy => ?_⟩
  obtain ⟨rfl, kk, v, b, e1, rfl, hb'⟩ := hy
  obtain ⟨kv, e2, rfl⟩ := map_at he
  have := fst_at q e1 e2
  simp only at this
  rw [← this]
  exact ⟨Same.refl _, .tup hb' (c.tup hb') (kDs_rep _)⟩
theorem y_vals {M O : AS} {H : Hp} {d : Addr} {o : Obj} {kvs : List (Key × V)} {ds : List D} (ho : ¬ O d) (h : H d = some (.frz o (.dK kvs))) (r : RepL g (M.u O) H (kvs.map (·.2)) ds) : Yields g M O H (Itd d o kvs) (ds.map .shr) := by
  have hl : kvs.length = ds.length := by have := r.length; simpa using this
  refine ⟨fun i H' k hi => ⟨k d _ ho h, by simpa [hl] using hi⟩, fun i H' k hi => ⟨k d _ ho h, by simp [hi, hl]⟩, fun i H' x H2 O' r' k w c he hy => ?_⟩
  obtain ⟨rfl, kk, e1⟩ := hy
  obtain ⟨dd, e2, rfl⟩ := map_at he
  obtain ⟨v, e4, z⟩ := r.get e2
  rw [List.getElem?_map, e1] at e4
  cases e4
  exact ⟨Same.refl _, Rep.tr (k.tr' w) z⟩
theorem y_valsT {M O S : AS} {H : Hp} {d : Addr} {o : Obj} {kvs : List (Key × V)} {ts : List T} (cd : Cd M O H) (f : ∀ a, S a → M a) (ho : ¬ O d) (h : H d = some (.frz o (.dK kvs))) (r : OTs g (M.u O) H (kvs.map (·.2)) ts S) : Yields g M O H (Itd d o kvs) (ts.map (chi .tmp)) := by
  have hl : kvs.length = ts.length := by have := r.length; simpa using this
  refine ⟨fun i H' k hi => ⟨k d _ ho h, by simpa [hl] using hi⟩, fun i H' k hi => ⟨k d _ ho h, by simp [hi, hl]⟩, fun i H' x H2 O' r' k w c he hy => ?_⟩
  obtain ⟨rfl, kk, e1⟩ := hy
  obtain ⟨dd, e2, rfl⟩ := map_at he
  obtain ⟨v, e4, z⟩ := r.get e2
  rw [List.getElem?_map, e1] at e4
  cases e4
  exact ⟨Same.refl _, chi_ir f (z.keep cd k w f)⟩
theorem y_itms {M O : AS} {H : Hp} {d : Addr} {o : Obj} {kvs : List (Key × V)} {ds : List (Key × D)} (ho : ¬ O d) (h : H d = some (.frz o (.dK kvs))) (q : kvs.map (·.1) = ds.map (·.1)) (r : RepL g (M.u O) H (kvs.map (·.2)) (ds.map (·.2))) : Yields g M O H (Iti d o kvs) (ds.map fun kv => .shr (.tup [kD kv.1, kv.2])) := by
  have hl := len_eq q
  refine ⟨fun i H' k hi => ⟨k d _ ho h, by simpa [hl] using hi⟩, fun i H' k hi => ⟨k d _ ho h, by simp [hi, hl]⟩, fun i H' x H2 O' r' k w c he hy => ?_⟩
  obtain ⟨T, kk, v, e1, rfl, hT, rfl⟩ := hy
  obtain ⟨kv, e2, rfl⟩ := map_at he
  obtain ⟨v', e4, z⟩ := r.get (i := i) (d := kv.2) (by rw [List.getElem?_map, e2]; rfl)
  rw [List.getElem?_map, e1] at e4
  cases e4
  have := fst_at q e1 e2
  simp only at this
  refine ⟨same_upd hT, .tup upd_same (c.fresh hT) (.cons (by rw [← this]; exact kD_rep _) (.cons ?_ .nil))⟩
  exact (Rep.tr (k.tr' w) z).tr (Tr.aside' hT)
theorem y_itmsT {M O : AS} {H : Hp} {d : Addr} {o : Obj} {kvs : List (List Key × V)} {ds : List (List Key × D)} (ho : ¬ O d) (h : H d = some (.frz o (.dT kvs))) (q : kvs.map (·.1) = ds.map (·.1)) (r : RepL g (M.u O) H (kvs.map (·.2)) (ds.map (·.2))) : Yields g M O H (ItiT d o kvs) (ds.map fun kv => .shr (.tup [.tup (kv.1.map kD), kv.2])) := by
  have hl := len_eq q
  refine ⟨fun i H' k hi => ⟨k d _ ho h, by simpa [hl] using hi⟩, fun i H' k hi => ⟨k d _ ho h, by simp [hi, hl]⟩, fun i H' x H2 O' r' k w c he hy => ?_⟩
  obtain ⟨T, kk, v, b, e1, rfl, hT, hb, rfl⟩ := hy
  obtain ⟨kv, e2, rfl⟩ := map_at he
  obtain ⟨v', e4, z⟩ := r.get (i := i) (d := kv.2) (by rw [List.getElem?_map, e2]; rfl)
  rw [List.getElem?_map, e1] at e4
  cases e4
  have := fst_at q e1 e2
  simp only at this
  refine ⟨same_upd hT, .tup upd_same (c.fresh hT) (.cons ?_ (.cons ?_ .nil))⟩
  · rw [← this]
    exact Rep.tr (Tr.aside' hT) (.tup hb (c.tup hb) (kDs_rep _))
  · exact (Rep.tr (k.tr' w) z).tr (Tr.aside' hT)
theorem y_enum {M O : AS} {H : Hp} {a : Addr} {K : PySem.W.Frag} {vs : List V} {ds : List D} (ho : ¬ O a) (h : H a = some (.lst vs)) (r : RepL g (M.u O) H vs ds) : Yields g M O H (Ite K a) (ds.zipIdx.map fun p => .shr (.tup [.int (p.2 : Nat), p.1])) := by
  have st : ∀ H', Kp O H H' → SqL K H' a vs := fun H' k => SqL.of (k a _ ho h)
  refine ⟨fun i H' k hi => ?_, fun i H' k hi => ⟨vs, st H' k, ?_⟩, fun i H' x H2 O' r' k w c he hy => ?_⟩
  · rw [List.length_map, List.length_zipIdx, ← r.length] at hi
    exact ⟨vs, vs[i], st H' k, by simp [hi]⟩
  · rw [List.length_map, List.length_zipIdx, ← r.length] at hi
    exact Nat.le_of_eq hi.symm
  · obtain ⟨T, x1, rfl, hT, rfl, hy⟩ := hy
    obtain ⟨p, e1, rfl⟩ := map_at he
    rw [List.getElem?_zipIdx] at e1
    obtain ⟨dd, e2, rfl⟩ := Option.map_eq_some_iff.mp e1
    obtain ⟨v, e3, q⟩ := r.get e2
    have := hy vs (st _ k)
    rw [e3] at this
    cases this
    refine ⟨same_upd hT, .tup upd_same (c.fresh hT) (.cons ?_ (.cons ?_ .nil))⟩
    · rw [Nat.zero_add]; exact .int _
    · exact (Rep.tr (k.tr' w) q).tr (Tr.aside' hT)
/-- a dict that is about to be walked: it is nobody's own, and it is locked, or was -/
theorem dc_walk {M O : AS} {H H1 : Hp} {ra : R} {v : V} {d0 : D} (c : Cd M O H) (xv : XR g M O H H1 v ra) (hn : ∀ t, ra ≠ .vw t) (e : ra.sh = some d0) (hd : ∃ a u, v = .ref a ∧ Rd H1 a u) (hs : ∀ ns, d0 ≠ .scr ns) :
    ∀ a, v = .ref a → ¬ O a := fun a e1 => by
  subst e1
  obtain ⟨a', u, e1, r⟩ := hd
  cases e1
  obtain ⟨w, q⟩ := rd_some r
  exact xv.nO c hn e hs q
theorem i_lst (f : Fit X g n) (ha : PE X a (tX g W fa)) : PI X tg a (tJ X g W fun ρ => (fa ρ).bind fun r => .lift (itemsR r)) :=
  PI.to (pi_list ha) fun σ H J0 ⟨M, O, fp, ρ, c, en, h⟩ => ⟨M, O, fp, ρ, c, en, h.hb.imp (fun ra h1 v H1 s1 xv => by
    obtain ⟨xs, e, k⟩ := h1.hl
    unfold itemsR at e
    split at e
    · cases e
    rename_i hv
    have hn := isVw_no hv
    have e' := e
    split at e'
    · rename_i ds ed
      cases e'
      obtain ⟨p, vs, rfl, h1, h2⟩ := xv.nod ed
      exact ⟨p, rfl, ⟨_, SqL.of h1⟩, k _ H1 H1 s1 (.inl rfl) (y_lst (xv.nO c hn ed (fun _ z => by cases z) h1) h1 h2)⟩
    · rename_i ns ed
      cases e'
      have hs : ∃ p, v = .ref p ∧ ((Rd H1 p (.lst (ns.map V.int)) ∧ ¬ O p) ∨ KLst g.K p (ns.map V.int)) := by
        have key : ∀ {B : AS}, (∀ a, O a → B a) → Rep g B H1 v (.scr ns) → ∃ p, v = .ref p ∧ ((Rd H1 p (.lst (ns.map V.int)) ∧ ¬ O p) ∨ KLst g.K p (ns.map V.int)) := fun {B} hb q => by
          cases q with
          | scr q => exact ⟨_, rfl, q.imp (fun ⟨z1, z2⟩ => ⟨z1, fun z => z2 (hb _ z)⟩) id⟩
        cases ra with
        | shr d => cases ed; exact key (fun _ z => .inr z) xv
        | own t =>
          obtain ⟨S, f', q⟩ := xv
          cases q with
          | lf q => cases ed; exact key (fun _ z => .inl (.inr z)) q
          | pl s q => cases ed; exact q.elim
          | _ => cases ed
        | tmp t =>
          obtain ⟨S, f', q⟩ := xv
          cases q with
          | lf q => cases ed; exact key (fun _ z => .inr z) q
          | pl s q => cases ed; exact q.elim
          | _ => cases ed
        | vw t => exact absurd rfl (hn t)
      obtain ⟨p, rfl, h1⟩ := hs
      refine ⟨p, rfl, ⟨ns.map V.int, ?_⟩, k _ H1 H1 s1 (.inl rfl) (y_scr (by rw [f.K]; exact h1))⟩
      · rw [f.K]; exact h1.imp (fun h => h.1) id
    · cases e'
    · unfold tmpL at e'
      split at e'
      · rename_i ts _
        cases e'
        obtain ⟨S, f', q⟩ := xv
        cases q with
        | lst S' ss h1 w nn rr => exact ⟨_, rfl, ⟨_, SqL.of h1⟩, k _ H1 H1 s1 (.inl rfl) (y_lstT (c.same s1) (f' _ ss) (fun a z => f' a (w a z)) h1 rr)⟩
      · cases e') fun _ z => z⟩
theorem i_tup (f : Fit X g n) (ha : PE X a (tX g W fa)) : PI X tg a (tJ X g W fun ρ => (fa ρ).bind fun r => .lift (itemsT r)) :=
  PI.to (pi_tup ha) fun σ H J0 ⟨M, O, fp, ρ, c, en, h⟩ => ⟨M, O, fp, ρ, c, en, h.hb.imp (fun ra h1 v H1 s1 xv => by
    obtain ⟨xs, e, k⟩ := h1.hl
    unfold itemsT at e
    split at e
    · cases e
    rename_i hv
    have hn := isVw_no hv
    have e' := e
    split at e'
    · rename_i ds ed
      cases e'
      obtain ⟨p, vs, rfl, h1, h2⟩ := xv.nod ed
      exact ⟨p, rfl, ⟨_, SqT.of h1⟩, k _ H1 H1 s1 (.inl rfl) (y_tup (xv.nO c hn ed (fun _ z => by cases z) h1) h1 h2)⟩
    · cases e') fun _ z => z⟩
def rng1R : List R → Option (List R)
  | [r] => (match r.d with
    | .int j => @ite _ (-(2 ^ 62) ≤ j ∧ j < 2 ^ 62) (Classical.propDecidable _) (some (rngL 0 j.toNat)) none
    | _ => none)
  | _ => none
def rng2R : List R → Option (List R)
  | [r, q] => (match r.d, q.d with
    | .int i, .int j => @ite _ (-(2 ^ 62) ≤ i ∧ i < 2 ^ 62 ∧ -(2 ^ 62) ≤ j ∧ j < 2 ^ 62) (Classical.propDecidable _) (some (rngL i (j - i).toNat)) none
    | _, _ => none)
  | _ => none
theorem i_rng1 (hg : Gl X ("range" : Str)) (hm : X.mg ("range" : Str) = none) (hx : okx a = true) (ha : PA X [a] (tL g W fl)) : PI X tg (.Call (.Name ("range" : Str) p) [a] [] pos) (tJ X g W fun ρ => (fl ρ).bind fun rs => .lift (rng1R rs)) :=
  PI.to (pi_range1 hg hm ha (okx_star hx [] X.env)) fun σ H J0 ⟨M, O, fp, ρ, c, en, h⟩ => ⟨M, O, fp, ρ, c, en, h.hb.imp (fun rs h1 vs H1 s1 xv => by
    obtain ⟨xs, e, k⟩ := h1.hl
    unfold rng1R at e
    split at e
    · rename_i r
      split at e
      · rename_i j ej
        split at e
        · rename_i hj
          cases e
          cases xv with
          | cons h t =>
            cases t
            exact ⟨j, by rw [h.flat_int ej], hj.1, hj.2, k _ H1 H1 s1 (.inl rfl) (y_rng 0 j.toNat)⟩
        · cases e
      · cases e
    · cases e) fun _ z => z⟩
theorem i_rng2 (hg : Gl X ("range" : Str)) (hm : X.mg ("range" : Str) = none) (hx : okx a = true) (hx2 : okx b = true) (ha : PA X [a, b] (tL g W fl)) : PI X tg (.Call (.Name ("range" : Str) p) [a, b] [] pos) (tJ X g W fun ρ => (fl ρ).bind fun rs => .lift (rng2R rs)) :=
  PI.to (pi_range2 hg hm ha (by rw [okx_star hx, okx_star hx2]; rfl) (okx_star hx2 [] X.env)) fun σ H J0 ⟨M, O, fp, ρ, c, en, h⟩ => ⟨M, O, fp, ρ, c, en, h.hb.imp (fun rs h1 vs H1 s1 xv => by
    obtain ⟨xs, e, k⟩ := h1.hl
    unfold rng2R at e
    split at e
    · rename_i r q
      split at e
      · rename_i i j ei ej
        split at e
        · rename_i hj
          cases e
          cases xv with
          | cons h t =>
            cases t with
            | cons h2 t =>
              cases t
              exact ⟨i, j, by rw [h.flat_int ei, h2.flat_int ej], ⟨hj.1, hj.2.1, hj.2.2.1, hj.2.2.2⟩, k _ H1 H1 s1 (.inl rfl) (y_rng i _)⟩
        · cases e
      · cases e
    · cases e) fun _ z => z⟩
def strL (z : Str) : List R := z.cps.toList.map fun c => rS ⟨#[c]⟩
def strR (r : R) : Option (List R) := match r.d with
  | .str z => some (strL z)
  | _ => none
theorem i_str (ha : PE X a (tX g W fa)) : PI X tg a (tJ X g W fun ρ => (fa ρ).bind fun r => .lift (strR r)) :=
  PI.to (pi_str ha) fun σ H J0 ⟨M, O, fp, ρ, c, en, h⟩ => ⟨M, O, fp, ρ, c, en, h.hb.imp (fun ra h1 v H1 s1 xv => by
    obtain ⟨xs, e, k⟩ := h1.hl
    unfold strR at e
    split at e
    · rename_i z ez
      cases e
      refine ⟨z, xv.flat_str ez, k _ H1 H1 s1 (.inl rfl) ⟨fun i H' k hi => (by have : i < z.cps.size := (by simpa [strL] using hi); exact this), fun i H' k hi => ?_, fun i H' x H2 O' r' k w c he hy => ?_⟩⟩
      · have : z.cps.size ≤ i := by rw [hi]; simp [strL]
        exact this
      · obtain ⟨rfl, cc, e1, rfl⟩ := hy
        obtain ⟨j, e2, rfl⟩ := map_at he
        have : j = cc := by
          rw [Array.getElem?_toList] at e2
          rw [e1] at e2
          exact (Option.some.inj e2).symm
        subst this
        exact ⟨Same.refl _, .str _⟩
    · cases e) fun _ z => z⟩
theorem i_keys (ha : PE X a (tX g W fa)) : PI X tg a (tJ X g W fun ρ => (fa ρ).bind fun r => .lift (keysR r)) :=
  PI.to (pi_keys (pe_lk ha)) fun σ H J0 ⟨M, O, fp, ρ, c, en, h⟩ => ⟨M, O, fp, ρ, c, en, h.hb.imp (fun ra h1 v H1 s1 xv => by
    obtain ⟨xs, e, k⟩ := h1.hl
    unfold keysR at e
    split at e
    · cases e
    rename_i hv
    have hn := isVw_no hv
    have e' := e
    have hk : (∃ d kvs ks, v = .ref d ∧ ¬ O d ∧ Rd H1 d (.dK kvs) ∧ kvs.map (·.1) = ks ∧ xs = ks.map (fun k => R.shr (kD k))) ∨ ∃ d kvs, ∃ ds : List (List Key × D), v = .ref d ∧ ¬ O d ∧ Rd H1 d (.dT kvs) ∧ kvs.map (·.1) = ds.map (·.1) ∧ xs = ds.map fun kv => R.shr (.tup (kv.1.map kD)) := by
      split at e'
      · rename_i ds ed
        cases e'
        obtain ⟨d, kvs, ev, h, q, r⟩ := xv.nod ed
        exact .inl ⟨d, kvs, _, ev, dc_walk c xv hn ed ⟨d, _, ev, h⟩ (fun _ z => by cases z) d ev, h, q, by rw [List.map_map]; rfl⟩
      · rename_i ds ed
        cases e'
        obtain ⟨d, kvs, ev, h, q, r⟩ := xv.nod ed
        exact .inr ⟨d, kvs, ds, ev, dc_walk c xv hn ed ⟨d, _, ev, h⟩ (fun _ z => by cases z) d ev, h, q, rfl⟩
      · cases e'
      · unfold tmpK at e'
        split at e'
        · rename_i ks ts _
          cases e'
          obtain ⟨S, f', q⟩ := xv
          cases q with
          | dk S' ss h ek w nn rr => exact .inl ⟨_, _, _, rfl, fun z => c.d _ z (f' _ ss), h, ek, rfl⟩
        · cases e'
    rcases hk with ⟨d, kvs, ks, rfl, ho, h, q, rfl⟩ | ⟨d, kvs, ds, rfl, ho, h, q, rfl⟩
    · rcases h with h | ⟨o, h⟩
      · exact .inl ⟨d, _, h, trivial, fun od nf => ⟨d, od, rfl, .inl ⟨kvs, upd_same, k _ H1 _ s1 (.inr ⟨d, _, od, h, dc_k, ho, nf, rfl⟩) (y_keys ho upd_same q)⟩⟩⟩
      · exact .inr ⟨d, o, rfl, .inl ⟨kvs, h, k _ H1 _ s1 (.inl rfl) (y_keys ho h q)⟩⟩
    · rcases h with h | ⟨o, h⟩
      · exact .inl ⟨d, _, h, trivial, fun od nf => ⟨d, od, rfl, .inr ⟨kvs, upd_same, k _ H1 _ s1 (.inr ⟨d, _, od, h, dc_t, ho, nf, rfl⟩) (y_keysT ho upd_same q)⟩⟩⟩
      · exact .inr ⟨d, o, rfl, .inr ⟨kvs, h, k _ H1 _ s1 (.inl rfl) (y_keysT ho h q)⟩⟩) fun _ z => z⟩
theorem i_vals (hx : okx a = true) (hl : (apos.endLine == cpos.line) = true) (ha : PE X a (tX g W fa)) : PI X tg (.Call (.Attribute a ("values" : Str) apos) [] [] cpos) (tJ X g W fun ρ => (fa ρ).bind fun r => .lift (valsR r)) :=
  PI.to (pi_values (pe_lk ha) (okx_base hx _ X.env) hl) fun σ H J0 ⟨M, O, fp, ρ, c, en, h⟩ => ⟨M, O, fp, ρ, c, en, h.hb.imp (fun ra h1 v H1 s1 xv => by
    obtain ⟨xs, e, k⟩ := h1.hl
    unfold valsR at e
    split at e
    · cases e
    rename_i hv
    have hn := isVw_no hv
    have e' := e
    split at e'
    · rename_i ds ed
      cases e'
      obtain ⟨d, kvs, rfl, h, q, r⟩ := xv.nod ed
      have ho := dc_walk c xv hn ed ⟨d, _, rfl, h⟩ (fun _ z => by cases z) d rfl
      have ee : (ds.map fun kv => R.shr kv.2) = (ds.map (·.2)).map R.shr := by rw [List.map_map]; rfl
      rw [ee] at k
      rcases h with h | ⟨o, h⟩
      · exact .inl ⟨d, _, h, trivial, fun od nf => ⟨d, od, kvs, rfl, upd_same, k _ H1 _ s1 (.inr ⟨d, _, od, h, dc_k, ho, nf, rfl⟩) (y_vals ho upd_same (r.tr (LkH.tr (X := X) (.inr ⟨d, _, od, h, dc_k, ho, nf, rfl⟩))))⟩⟩
      · exact .inr ⟨d, o, kvs, rfl, h, k _ H1 _ s1 (.inl rfl) (y_vals ho h r)⟩
    · cases e'
    · unfold tmpV at e'
      split at e'
      · rename_i ks ts _
        cases e'
        obtain ⟨S, f', q⟩ := xv
        cases q with
        | @dk d kvs _ _ _ S' ss h ek w nn rr =>
          have ho : ¬ O d := fun z => c.d _ z (f' _ ss)
          have cd := c.same s1
          have fm : ∀ a, S' a → M a := fun a z => f' a (w a z)
          rcases h with h | ⟨o, h⟩
          · refine .inl ⟨d, _, h, trivial, fun od nf => ?_⟩
            have lk : LkH X O H1 (upd H1 d (.frz od (.dK kvs))) := .inr ⟨d, _, od, h, dc_k, ho, nf, rfl⟩
            exact ⟨d, od, kvs, rfl, upd_same, k _ H1 _ s1 lk (y_valsT (lk.cd cd) fm ho upd_same (rr.tr lk.tr fun a u _ e => lk.lk a u e))⟩
          · exact .inr ⟨d, o, kvs, rfl, h, k _ H1 _ s1 (.inl rfl) (y_valsT cd fm ho h rr)⟩
      · cases e') fun _ z => z⟩
theorem i_itms {elts : List Expr} {kk : Nat} {tpos : Pos} (hx : okx a = true) (hl : (apos.endLine == cpos.line) = true) (ha : PE X a (tX g W fa)) : PI X (.Tuple elts kk tpos) (.Call (.Attribute a ("items" : Str) apos) [] [] cpos) (tJ X g W fun ρ => (fa ρ).bind fun r => .lift (itmsR r)) :=
  PI.to (pi_itemsB (pe_lk ha) (okx_base hx _ X.env) hl) fun σ H J0 ⟨M, O, fp, ρ, c, en, h⟩ => ⟨M, O, fp, ρ, c, en, h.hb.imp (fun ra h1 v H1 s1 xv => by
    obtain ⟨xs, e, k⟩ := h1.hl
    unfold itmsR at e
    split at e
    · cases e
    rename_i hv
    have hn := isVw_no hv
    have e' := e
    split at e'
    · rename_i ds ed
      cases e'
      obtain ⟨d, kvs, rfl, h, q, r⟩ := xv.nod ed
      have ho := dc_walk c xv hn ed ⟨d, _, rfl, h⟩ (fun _ z => by cases z) d rfl
      rcases h with h | ⟨o, h⟩
      · exact .inl ⟨d, _, h, trivial, fun od nf => ⟨d, od, rfl, .inl ⟨kvs, upd_same, k _ H1 _ s1 (.inr ⟨d, _, od, h, dc_k, ho, nf, rfl⟩) (y_itms ho upd_same q (r.tr (LkH.tr (X := X) (.inr ⟨d, _, od, h, dc_k, ho, nf, rfl⟩))))⟩⟩⟩
      · exact .inr ⟨d, o, rfl, .inl ⟨kvs, h, k _ H1 _ s1 (.inl rfl) (y_itms ho h q r)⟩⟩
    · rename_i ds ed
      cases e'
      obtain ⟨d, kvs, rfl, h, q, r⟩ := xv.nod ed
      have ho := dc_walk c xv hn ed ⟨d, _, rfl, h⟩ (fun _ z => by cases z) d rfl
      rcases h with h | ⟨o, h⟩
      · exact .inl ⟨d, _, h, trivial, fun od nf => ⟨d, od, rfl, .inr ⟨kvs, upd_same, k _ H1 _ s1 (.inr ⟨d, _, od, h, dc_t, ho, nf, rfl⟩) (y_itmsT ho upd_same q (r.tr (LkH.tr (X := X) (.inr ⟨d, _, od, h, dc_t, ho, nf, rfl⟩))))⟩⟩⟩
      · exact .inr ⟨d, o, rfl, .inr ⟨kvs, h, k _ H1 _ s1 (.inl rfl) (y_itmsT ho h q r)⟩⟩
    · cases e') fun _ z => z⟩
theorem i_enum {elts : List Expr} {kk : Nat} {tpos : Pos} (f : Fit X g n) (hg : Gl X ("enumerate" : Str)) (hm : X.mg ("enumerate" : Str) = none) (hx : okx a = true) (ha : PA X [a] (tL g W fl)) : PI X (.Tuple elts kk tpos) (.Call (.Name ("enumerate" : Str) p) [a] [] pos) (tJ X g W fun ρ => (fl ρ).bind fun rs => .lift (match rs with | [r] => enumR r | _ => none)) :=
  PI.to (pi_enum hg hm ha (by rw [okx_star hx]; rfl)) fun σ H J0 ⟨M, O, fp, ρ, c, en, h⟩ => ⟨M, O, fp, ρ, c, en, h.hb.imp (fun rs h1 vs H1 s1 xv => by
    obtain ⟨xs, e, k⟩ := h1.hl
    split at e
    · rename_i r
      unfold enumR at e
      split at e
      · cases e
      rename_i hv
      have hn := isVw_no hv
      have e' := e
      split at e'
      · rename_i ds ed
        cases e'
        cases xv with
        | cons h t =>
          cases t
          obtain ⟨q, vs, rfl, h1, h2⟩ := h.nod ed
          exact ⟨q, vs, rfl, SqL.of h1, k _ H1 H1 s1 (.inl rfl) (y_enum (h.nO c hn ed (fun _ z => by cases z) h1) h1 h2)⟩
      · cases e'
    · cases e) fun _ z => z⟩
theorem i_rng3 (hg : Gl X ("range" : Str)) (hm : X.mg ("range" : Str) = none) (hx : okx a = true) (hx2 : okx b = true) (hx3 : okx c = true) (ha : PA X [a, b, c] (tL g W fl)) : PI X tg (.Call (.Name ("range" : Str) p) [a, b, c] [] pos) (tJ X g W fun ρ => (fl ρ).bind fun rs => .lift (rng3R rs)) :=
  PI.to (pi_range3 hg hm ha (okx_star hx _ X.env) (by rw [okx_star hx2, okx_star hx3]; rfl)) fun σ H J0 ⟨M, O, fp, ρ, c, en, h⟩ => ⟨M, O, fp, ρ, c, en, h.hb.imp (fun rs h1 vs H1 s1 xv => by
    obtain ⟨xs, e, k⟩ := h1.hl
    unfold rng3R at e
    split at e
    · rename_i r q s
      split at e
      · rename_i i j c ei ej ec
        split at e
        · rename_i hj
          cases e
          cases xv with
          | cons h t =>
            cases t with
            | cons h2 t =>
              cases t with
              | cons h3 t =>
                cases t
                refine ⟨i, j, c, (Builtin.Range.rangeSize i j c).toNat, by rw [h.flat_int ei, h2.flat_int ej, h3.flat_int ec], ⟨hj.1, hj.2.1, hj.2.2.1, (Int.toNat_of_nonneg hj.2.2.2).symm⟩, k _ H1 H1 s1 (.inl rfl) ⟨fun i' H' k hi => ?_, fun i' H' k hi => ?_, fun i' H' x H2 O' r' k w c' he hy => ?_⟩⟩
                · have : i' < (Builtin.Range.rangeSize i j c).toNat := by simpa using hi
                  exact this
                · have : (Builtin.Range.rangeSize i j c).toNat ≤ i' := by rw [hi]; simp
                  exact this
                · obtain ⟨rfl, rfl⟩ := hy
                  obtain ⟨j', e1, rfl⟩ := map_at he
                  have : j' = i' := by
                    by_cases z : i' < (Builtin.Range.rangeSize i j c).toNat
                    · rw [List.getElem?_range z] at e1
                      exact (Option.some.inj e1).symm
                    · rw [List.getElem?_eq_none (by simpa using z)] at e1; cases e1
                  subst this
                  exact ⟨Same.refl _, .int _⟩
        · cases e
      · cases e
    · cases e) fun _ z => z⟩
end
end
end Q

end

section
set_option Elab.async false
set_option linter.all false
set_option maxRecDepth 100000
set_option maxHeartbeats 1000000
/-! Q7: targets, comprehensions. -/
namespace Q
noncomputable section
open PySem PySem.Spec L2
open PyProof.Rows hiding St

/-! ### a slot is set -/
def fpSet (fp : Nat → AS) (i : Nat) (S : AS) : Nat → AS := fun j => if j = i then S else fp j
theorem fpSet_self {fp : Nat → AS} {i : Nat} {S : AS} : fpSet fp i S i = S := if_pos rfl
theorem fpSet_ne {fp : Nat → AS} {i j : Nat} {S : AS} (h : j ≠ i) : fpSet fp i S j = fp j := if_neg h
theorem EnvR.set {g : G} {M O : AS} {fp : Nat → AS} {σ : St} {H : Hp} {ρ : Rho} {v : V} {r : R} (en : EnvR g M O fp σ H ρ) (h : IR g M O H v r) (i : Nat) : EnvR g M O (fpSet fp i .no) (σ.set i (some v)) H (ρ.set i (some r)) := by
  refine ⟨by simp [en.len], fun j r' e => ?_, fun j a z => ?_, fun j a z => ?_, fun j k a ne z1 z2 => ?_⟩
  · by_cases z : i = j
    · subst z
      by_cases hi : i < ρ.length
      · rw [List.getElem?_set_self hi] at e
        cases e
        refine ⟨v, by rw [List.getElem?_set_self (by rw [en.len]; exact hi)], ?_⟩
        cases r with
        | shr d => exact h
        | own t => exact h.elim
        | tmp t => exact h
        | vw t => exact h.elim
      · rw [List.getElem?_eq_none (by simpa using hi)] at e; cases e
    · rw [List.getElem?_set_ne z] at e
      obtain ⟨w, e1, q⟩ := en.at_ j r' e
      exact ⟨w, by rw [List.getElem?_set_ne z]; exact e1, by rw [fpSet_ne (Ne.symm z)]; exact q⟩
  · by_cases q : j = i
    · subst q; rw [fpSet_self] at z; exact z.elim
    · rw [fpSet_ne q] at z; exact en.fo j a z
  · by_cases q : j = i
    · subst q; rw [fpSet_self] at z; exact z.elim
    · rw [fpSet_ne q] at z
      rw [List.getElem?_set_ne (Ne.symm q)]
      exact en.fr j a z
  · by_cases q : j = i
    · subst q; rw [fpSet_self] at z1; exact z1
    · rw [fpSet_ne q] at z1
      by_cases q2 : k = i
      · subst q2; rw [fpSet_self] at z2; exact z2
      · rw [fpSet_ne q2] at z2; exact en.ds j k a ne z1 z2

/-! ### targets -/
def gF (g : G) (F : R → Rho → Option Rho) (sl : List Nat) : TG := fun v σ H Q => ∃ M O fp ρ r ρ', EnvR g M O fp σ H ρ ∧ IR g M O H v r ∧ F r ρ = some ρ' ∧ ∀ σ' fp', (∀ j, j ∉ sl → σ'[j]? = σ[j]?) → σ'.length = σ.length → EnvR g M O fp' σ' H ρ' → Q σ' H
def gFs (g : G) (F : List R → Rho → Option Rho) (sl : List Nat) : TGs := fun vs σ H Q => ∃ M O fp ρ ds ρ', EnvR g M O fp σ H ρ ∧ RepL g (M.u O) H vs ds ∧ F (ds.map .shr) ρ = some ρ' ∧ ∀ σ' fp', (∀ j, j ∉ sl → σ'[j]? = σ[j]?) → σ'.length = σ.length → EnvR g M O fp' σ' H ρ' → Q σ' H
theorem PG.to {X : Cx} {e : Expr} {t t' : TG} (h : PG X e t) (k : ∀ v σ H Q, t' v σ H Q → t v σ H Q) : PG X e t' := ⟨fun pins s σ H v u Q I r q => h.run pins s σ H v u Q I r (k _ _ _ _ q)⟩
theorem PG.or {X : Cx} {e : Expr} {t t' : TG} (h : PG X e t) (h' : PG X e t') : PG X e (fun v σ H Q => t v σ H Q ∨ t' v σ H Q) := ⟨fun pins s σ H v u Q I r q => q.elim (h.run pins s σ H v u Q I r) (h'.run pins s σ H v u Q I r)⟩
theorem PGs.to {X : Cx} {e : List Expr} {t t' : TGs} (h : PGs X e t) (k : ∀ v σ H Q, t' v σ H Q → t v σ H Q) : PGs X e t' := ⟨fun pins s σ H v u Q I r q => h.run pins s σ H v u Q I r (k _ _ _ _ q)⟩
def nmF (i : Nat) (r : R) (ρ : Rho) : Option Rho := match r with
  | .shr d => some (ρ.set i (some (.shr d)))
  | .tmp t => some (ρ.set i (some (.tmp t)))
  | _ => none
section
variable {X : Cx} {g : G} {n : Nat} {pos : Pos} {x : Str} {e : Expr} {es : List Expr}
theorem nmF_some {i : Nat} {r : R} {ρ ρ' : Rho} (h : nmF i r ρ = some ρ') : ρ' = ρ.set i (some r) := by
  cases r with
  | shr d => cases h; rfl
  | tmp t => cases h; rfl
  | _ => cases h
theorem g_nm {i : Nat} (hN : X.N.Nodup) (hi : X.N[i]? = some x) (hx : Loc X.env.scope x) (hf : X.fn x = true ∨ X.env.scope.names.lookup x = some .local) : PG X (.Name x pos) (gF g (nmF i) [i]) :=
  PG.to (pg_name hN hi hx hf) fun v σ H Q ⟨M, O, fp, ρ, r, ρ', en, h, e, k⟩ => by
    rw [nmF_some e] at k
    exact k _ _ (fun j hj => List.getElem?_set_ne (fun z => hj (by simp [z]))) (by simp) (en.set h i)
def nilF (rs : List R) (ρ : Rho) : Option Rho := match rs with
  | [] => some ρ
  | _ => none
def consF (F : R → Rho → Option Rho) (G : List R → Rho → Option Rho) (rs : List R) (ρ : Rho) : Option Rho := match rs with
  | r :: rs => (F r ρ).bind (G rs)
  | [] => none
/-- a tuple's, or a list's, items -/
def unpD (r : R) : Option (List D) := match r.sh with
  | some (.tup ds) => some ds
  | some (.lst ds) => some ds
  | _ => none
def tupF (F : List R → Rho → Option Rho) (n : Nat) (r : R) (ρ : Rho) : Option Rho := (unpD r).bind fun ds => if ds.length = n then F (ds.map .shr) ρ else none
theorem g_nil : PGs X [] (gFs g nilF []) := PGs.to pgs_nil fun vs σ H Q ⟨M, O, fp, ρ, ds, ρ', en, h, e, k⟩ => by
  cases h with
  | nil => cases e; exact ⟨rfl, k σ fp (fun _ _ => rfl) rfl en⟩
  | cons _ _ => cases e
theorem g_cons {F : R → Rho → Option Rho} {G' : List R → Rho → Option Rho} {s1 s2 : List Nat} (h1 : PG X e (gF g F s1)) (h2 : PGs X es (gFs g G' s2)) (hs : (assignEach (e :: es) X.env).map (·.2) = assign e X.env :: (assignEach es X.env).map (·.2)) : PGs X (e :: es) (gFs g (consF F G') (s1 ++ s2)) :=
  PGs.to (pgs_cons h1 h2 hs) fun vs σ H Q ⟨M, O, fp, ρ, ds, ρ', en, h, e, k⟩ => by
    cases h with
    | nil => cases e
    | @cons v vs d ds hh ht =>
      obtain ⟨ρ1, e1, e2⟩ := Option.bind_eq_some_iff.mp (show (F (.shr d) ρ).bind (G' (ds.map .shr)) = some ρ' from e)
      refine ⟨v, vs, rfl, M, O, fp, ρ, _, ρ1, en, (show IR g M O H v (.shr d) from hh), e1, fun σ1 fp1 n1 l1 en1 => ⟨M, O, fp1, ρ1, ds, ρ', en1, ht, e2, fun σ2 fp2 n2 l2 en2 => ?_⟩⟩
      exact k σ2 fp2 (fun j hj => by
        simp only [List.mem_append, not_or] at hj
        rw [n2 j hj.2, n1 j hj.1]) (l2.trans l1) en2
theorem ir_nod {M O : AS} {H : Hp} {v : V} {r : R} {d : D} (h : IR g M O H v r) (e : r.sh = some d) : Nod g (M.u O) H v d := by
  cases r with
  | shr x => cases e; exact Rep.nod h
  | tmp t => obtain ⟨S, k, q⟩ := h; exact q.nod e
  | _ => exact h.elim
theorem g_tup {F : List R → Rho → Option Rho} {sl : List Nat} {k : Nat} (f : Fit X g n) (h : PGs X es (gFs g F sl)) {m : Nat} (hn : (assignEach es X.env).length = m) (hst : (assignEach es X.env).findIdx? (·.1) = none) : PG X (.Tuple es k pos) (gF g (tupF F m) sl) :=
  PG.to (PG.or (pg_tup f.calm h hn hst) (pg_lst f.calm h hn hst)) fun v σ H Q ⟨M, O, fp, ρ, r, ρ', en, h, e, k⟩ => by
    obtain ⟨ds, eu, e⟩ := Option.bind_eq_some_iff.mp (show (unpD r).bind (fun ds => if ds.length = m then F (ds.map .shr) ρ else none) = some ρ' from e)
    split at e
    · rename_i hl
      unfold unpD at eu
      split at eu
      · rename_i ed
        cases eu
        obtain ⟨p, vs, rfl, h1, h2⟩ := ir_nod h ed
        exact .inl ⟨p, vs, rfl, SqT.of h1, by rw [h2.length]; exact hl, M, O, fp, ρ, ds, ρ', en, h2, e, k⟩
      · rename_i ed
        cases eu
        obtain ⟨p, vs, rfl, h1, h2⟩ := ir_nod h ed
        exact .inr ⟨p, vs, rfl, SqL.of h1, by rw [h2.length]; exact hl, M, O, fp, ρ, ds, ρ', en, h2, e, k⟩
      · cases eu
    · cases e
end

/-! ### what is owned, borrowed for a while -/
def borR : R → R
  | .own t => .tmp t
  | r => r
def bor (ρ : Rho) : Rho := ρ.map fun o => o.map borR
theorem EnvR.bor {g : G} {M O : AS} {fp : Nat → AS} {σ : St} {H : Hp} {ρ : Rho} (en : EnvR g M O fp σ H ρ) : EnvR g (M.u O) .no (fun _ => .no) σ H (bor ρ) := by
  refine ⟨by simp [Q.bor, en.len], fun i r e => ?_, fun _ _ z => z, fun _ _ z => z.elim, fun _ _ _ _ z => z.elim⟩
  unfold Q.bor at e
  rw [List.getElem?_map] at e
  obtain ⟨o, e1, e2⟩ := Option.map_eq_some_iff.mp e
  obtain ⟨r', rfl, rfl⟩ := Option.map_eq_some_iff.mp e2
  obtain ⟨v, e3, q⟩ := en.at_ i r' e1
  refine ⟨v, e3, ?_⟩
  cases r' with
  | shr d => exact Rep.less u_no q
  | own t => exact ⟨fp i, fun a z => .inr (en.fo i a z), OT.less u_no q⟩
  | tmp t => obtain ⟨S, k, q⟩ := q; exact ⟨S, fun a z => .inl (k a z), q.less u_no⟩
  | vw t => exact q
theorem EnvR.wipe {g : G} {M O : AS} {H : Hp} {σ : St} {ρ : Rho} (en : EnvR g M O (fun _ => .no) σ H ρ) : ∀ vs : List Nat, ∃ ρ', ρ' = vs.foldr (fun v r => r.set v none) ρ ∧ EnvR g M O (fun _ => .no) (wipe σ vs) H ρ'
  | [] => ⟨ρ, rfl, en⟩
  | v :: vs => by
    obtain ⟨ρ', e, en'⟩ := en.wipe vs
    refine ⟨ρ'.set v none, by rw [e]; rfl, ?_⟩
    show EnvR g M O _ ((L2.wipe σ vs).set v none) H _
    refine ⟨by simp [en'.len], fun j r q => ?_, fun _ _ z => z.elim, fun _ _ z => z.elim, fun _ _ _ _ z => z.elim⟩
    by_cases z : v = j
    · subst z
      by_cases hi : v < ρ'.length
      · rw [List.getElem?_set_self hi] at q; cases q
      · rw [List.getElem?_eq_none (by simpa using hi)] at q; cases q
    · rw [List.getElem?_set_ne z] at q ⊢
      exact en'.at_ j r q
def wipeR (ρ : Rho) (vs : List Nat) : Rho := vs.foldr (fun v r => r.set v none) ρ
theorem wipe_in {σ : St} {i : Nat} : ∀ {vs : List Nat}, i ∈ vs → (wipe σ vs)[i]? = none ∨ (wipe σ vs)[i]? = some none
  | [], h => by cases h
  | v :: vs, h => by
    show ((wipe σ vs).set v none)[i]? = none ∨ ((wipe σ vs).set v none)[i]? = some none
    by_cases z : v = i
    · subst z
      by_cases hi : v < (wipe σ vs).length
      · exact .inr (List.getElem?_set_self hi)
      · exact .inl (List.getElem?_eq_none (by simpa using hi))
    · rw [List.getElem?_set_ne z]
      rcases List.mem_cons.mp h with q | q
      · exact absurd q.symm z
      · exact wipe_in q
theorem wipe_eq {σ σ' : St} {vs sl : List Nat} (hs : ∀ j ∈ sl, j ∈ vs) (h : ∀ j, j ∉ sl → σ'[j]? = (wipe σ vs)[j]?) (hl : σ'.length = (wipe σ vs).length) : wipe σ' vs = wipe σ vs := by
  refine List.ext_getElem? fun j => ?_
  have hl' : (wipe σ' vs).length = (wipe σ vs).length := by rw [wipe_length, hl]
  by_cases z : j ∈ vs
  · have b : j < (wipe σ vs).length ∨ ¬ j < (wipe σ vs).length := by omega
    rcases b with b | b
    · have h1 : (wipe σ' vs)[j]? = some none := (wipe_in z).resolve_left (fun q => by rw [List.getElem?_eq_none_iff] at q; omega)
      have h2 : (wipe σ vs)[j]? = some none := (wipe_in z).resolve_left (fun q => by rw [List.getElem?_eq_none_iff] at q; omega)
      rw [h1, h2]
    · rw [List.getElem?_eq_none (by omega), List.getElem?_eq_none (by omega)]
  · rw [wipe_out z, h j (fun q => z (hs j q))]

/-! ### comprehensions -/
/-- nothing may be raised here -/
def Rx.nox {α : Type} : Rx α → Rx α
  | .ex _ => .bad
  | r => r
theorem Rx.hold.nx {α : Type} {P : α → Prop} {E E' : Exc → Prop} {r : Rx α} (h : r.nox.hold P E) : r.hold P E' := by
  cases r with
  | bad => exact h
  | ok a => exact h
  | ex x => exact h.elim
theorem Rx.hold.nxE {α : Type} {P : α → Prop} {E : Exc → Prop} {r : Rx α} (h : r.nox.hold P E) : ∃ a, r = .ok a ∧ P a := by
  cases r with
  | bad => exact h.elim
  | ok a => exact ⟨a, rfl, h⟩
  | ex x => exact h.elim
abbrev W0 : WX := fun _ _ _ _ => False
def lcStep (ft : R → Rho → Option Rho) (fc fe : Rho → Rx R) (ρ : Rho) (x : R) : Rx (Option D) :=
  (Rx.lift (ft x ρ)).bind fun ρ1 => (fc ρ1).nox.bind fun rc => (Rx.lift (blR rc)).bind fun b => if b = true then (fe ρ1).nox.bind fun r => (Rx.lift (kid r)).bind fun d => .ok (some d) else .ok none
def lcGo (step : R → Rx (Option D)) : List R → Rx (List D)
  | [] => .ok []
  | x :: xs => (step x).bind fun o => (lcGo step xs).bind fun p => .ok (match o with
    | some q => q :: p
    | none => p)
def lcR (step : R → Rx (Option D)) (xs : List R) : Rx R := if xs.length ≤ sizeLine then (lcGo step xs).nox.bind fun p => .ok (rL p) else .bad
section
variable {X : Cx} {g : G} {n : Nat} {W : WX}
theorem PTs.to {X : Cx} {e : List Expr} {t t' : TT} (h : PTs X e t) (k : ∀ σ H Q, t' σ H Q → t σ H Q) : PTs X e t' := ⟨fun pins s σ H Q I q => h.run pins s σ H Q I (k _ _ _ q)⟩
theorem f_noif : PTs X [] (tT g W fun _ => .ok (rB true)) := PTs.to pts_nil fun σ H Q ⟨M, O, fp, ρ, c, en, h⟩ => by
  obtain ⟨b, eb, k⟩ := h
  cases eb
  exact k H (Same.refl H)
theorem ew_bor {M O : AS} {H : Hp} {σ : St} {x : Exc} (h : EW g M O H W σ x) : EW g (M.u O) .no H W σ x := fun cls d H' s q => h cls d H' s ⟨q.1, q.2.imp id fun ⟨a, ws, e1, e2, e3, e4⟩ => ⟨a, ws, e1, e2, e3, e4.1.less fun a z => .inl z, e4.2⟩⟩
theorem lc_read {fi : Rho → Rx (List R)} {ft : R → Rho → Option Rho} {fc fe : Rho → Rx R} {sl vs : List Nat} (hsl : ∀ j ∈ sl, j ∈ vs) (σ : St) (H : Hp) (Q : VK)
    (q : tX g W (fun ρ => (fi (bor ρ)).bind fun xs => lcR (lcStep ft fc fe (wipeR (bor ρ) vs)) xs) σ H Q) : tLc (tJ X g W fi) (gF g ft sl) (tT g W0 fc) (tX g W0 fe) vs σ H fun v H' => Un1 X (Q v) H' := by
  obtain ⟨M0, O0, fp0, ρ0, c0, en0, h⟩ := q
  refine ⟨M0.u O0, .no, fun _ => .no, bor ρ0, c0.bor, en0.bor, h.hb.imp (fun xs h1 J H1 H' s1 lk y D hD => ?_) fun _ => ew_bor⟩
  unfold lcR at h1
  split at h1
  · rename_i hz
    obtain ⟨all, ego, k⟩ := h1.hb.nxE
    have k : Ans g M0 O0 H Q (rL all) := k
    generalize hM : M0.u O0 = M at *
    generalize hρ : bor ρ0 = ρ at *
    have c : Cd M .no H := by rw [← hM]; exact c0.bor
    have en : EnvR g M .no (fun _ => .no) σ H ρ := by rw [← hM, ← hρ]; exact en0.bor
    have c1 := lk.cd (c.same s1)
    have en1 : EnvR g M .no (fun _ => .no) σ H' ρ := (en.same s1).lk lk
    have D1 : H1 D = none := by
      rcases lk with rfl | ⟨d, u, od, e, dc, ho, nf, rfl⟩
      · exact hD
      · by_cases z : D = d
        · subst z; rw [upd_same] at hD; cases hD
        · rw [upd_ne z] at hD; exact hD
    have D0 : H D = none := s1.free D1
    let O : AS := .one D
    let step := lcStep ft fc fe (wipeR ρ vs)
    have nwD : Nw .no H' O := fun a h => .inr (by cases (show a = D from h); exact hD)
    have envD : ∀ {H2 : Hp}, Same H' H2 → EnvR g M O (fun _ => .no) σ H2 ρ := fun {H2} s => by
      have tr : Tr (M.u .no) H' (M.u O) H2 := (Kp.of s).tr' nwD
      refine ⟨en1.len, fun i r e => ?_, fun _ _ z => z.elim, fun _ _ z => z.elim, fun _ _ _ _ z => z.elim⟩
      obtain ⟨v, e1, q⟩ := en1.at_ i r e
      refine ⟨v, e1, ?_⟩
      cases r with
      | shr d => exact Rep.tr tr q
      | own t => exact OT.tr tr (fun a u z e => z.elim) q
      | tmp t => obtain ⟨S, kk, q⟩ := q; exact ⟨S, kk, q.tr tr fun a u z e => .inl (s a u e)⟩
      | vw t => exact XM.mono (fun a fs e => s a _ e) q
    refine ⟨fun i m H2 => m = xs.length - i ∧ i ≤ xs.length ∧ Same H' H2 ∧ ∃ ws acc p2, H2 D = some (.lst ws) ∧ RepL g (M.u O) H2 ws acc ∧ lcGo step (xs.drop i) = .ok p2 ∧ acc ++ p2 = all ∧ ws.length ≤ i, ⟨xs.length, by simp, Nat.zero_le _, same_upd hD, [], [], all, upd_same, .nil, ego, rfl, Nat.le_refl _⟩, ?_⟩
    rintro i m H2 ⟨rfl, hi, sm, ws, acc, p2, hw, rw', eg, ea, hl⟩
    have cD : ∀ {H2 : Hp}, Same H' H2 → H2 D = some (.lst ws) → Cd M O H2 := fun {H2} s hw => by
      refine ⟨(c1.same s).m, fun a z => ?_, fun a z hm => ?_⟩
      · cases (show a = D from z); exact ⟨.lst ws, hw, trivial⟩
      · cases (show a = D from z)
        obtain ⟨u, e, _⟩ := c1.m D hm
        rw [hD] at e; cases e
    by_cases hlt : i < xs.length
    · refine .inr ⟨y.go i H2 (Kp.of sm) hlt, fun H3 => Same H' H3 ∧ ∃ ws acc p2, H3 D = some (.lst ws) ∧ RepL g (M.u O) H3 ws acc ∧ lcGo step (xs.drop (i + 1)) = .ok p2 ∧ acc ++ p2 = all ∧ ws.length ≤ i + 1, fun H3 h3 => ⟨_, by omega, rfl, hlt, h3⟩, fun x Hy yy => ?_⟩
      have exi : xs[i]? = some xs[i] := by simp [hlt]
      obtain ⟨sy, ry⟩ := y.yld i H2 x Hy O xs[i] (Kp.of sm) nwD (cD sm hw) exi yy
      have ed : xs.drop i = xs[i] :: xs.drop (i + 1) := List.drop_eq_getElem_cons hlt
      rw [ed] at eg
      have eg : (step xs[i]).bind (fun o => (lcGo step (xs.drop (i + 1))).bind fun p => .ok (match o with | some q => q :: p | none => p)) = .ok p2 := eg
      have bok : ∀ {α β : Type} {a : Rx α} {k : α → Rx β} {b : β}, a.bind k = .ok b → ∃ x, a = .ok x ∧ k x = .ok b := fun {α β a k b} h => by
        cases a with
        | bad => cases h
        | ok x => exact ⟨x, rfl, h⟩
        | ex x => cases h
      have lok : ∀ {α : Type} {o : Option α} {a : α}, Rx.lift o = .ok a → o = some a := fun {α o a} h => by
        cases o with
        | none => cases h
        | some b => cases h; rfl
      have nok : ∀ {α : Type} {o : Rx α} {a : α}, o.nox = .ok a → o = .ok a := fun {α o a} h => by
        cases o with
        | bad => cases h
        | ok b => exact h
        | ex b => cases h
      obtain ⟨o, eo, eg⟩ := bok eg
      obtain ⟨p3, e3, eg⟩ := bok eg
      have eo : (Rx.lift (ft xs[i] (wipeR ρ vs))).bind _ = .ok o := eo
      obtain ⟨ρ1, et, eo⟩ := bok eo
      have et := lok et
      obtain ⟨rc, ec, eo⟩ := bok eo
      have ec := nok ec
      obtain ⟨b, eb, eo⟩ := bok eo
      have eb := lok eb
      obtain ⟨ρw, ew, enw⟩ := (envD (sm.trans sy)).wipe vs
      have ew : ρw = wipeR ρ vs := ew
      subst ew
      refine ⟨M, O, fun _ => .no, wipeR ρ vs, xs[i], ρ1, enw, ry, et, fun σ2 fp2 hn hlen en2 => ⟨wipe_eq hsl hn hlen, ?_⟩⟩
      have hwy := sy _ _ hw
      have cy := cD (sm.trans sy) hwy
      refine ⟨M, O, fp2, ρ1, cy, en2, ?_⟩
      rw [ec]
      refine ⟨b, by rw [blR_d eb]; rfl, fun H3 s3 => ?_⟩
      have sm3 : Same H' H3 := (sm.trans sy).trans s3
      have hw3 : H3 D = some (.lst ws) := s3 _ _ hwy
      have rw3 : RepL g (M.u O) H3 ws acc := (rw'.same sy).same s3
      cases b with
      | false =>
        rw [if_neg (by decide)] at eo
        cases eo
        cases eg
        exact iteF ⟨sm3, ws, acc, _, hw3, rw3, e3, ea, Nat.le_succ_of_le hl⟩
      | true =>
        rw [if_pos rfl] at eo
        obtain ⟨re, ee, eo⟩ := bok eo
        have ee := nok ee
        obtain ⟨q, eq, eo⟩ := bok eo
        have eq := lok eq
        cases eo
        cases eg
        refine iteT ⟨M, O, fp2, ρ1, cy.same s3, en2.same s3, ?_⟩
        rw [ee]
        intro v H4 s4 xv
        have hw4 := s4 _ _ hw3
        have kd := kid_ok (cy.same s3) xv eq
        have nD : Tr (M.u O) H4 (M.u O) (upd H4 D (.lst (ws ++ [v]))) := ⟨fun _ _ h _ => h, fun a u h e => .inl (by rw [upd_ne (fun z => h (.inr z))]; exact e)⟩
        refine ⟨ws, hw4, Nat.lt_of_le_of_lt hl (Nat.lt_of_lt_of_le hlt hz), fun a u e => ?_, ws ++ [v], acc ++ [q], p3, upd_same, ((rw3.same s4).tr nD).append (.cons (kd.tr nD) .nil), e3, ?_, by simp; omega⟩
        · rw [upd_ne (ne_of_none e hD)]
          exact s4 _ _ (sm3 _ _ e)
        · rw [List.append_assoc]; exact ea
    · have ei : i = xs.length := by omega
      subst ei
      refine .inl ⟨y.stop _ H2 (Kp.of sm) rfl, ?_⟩
      rw [List.drop_length] at eg
      cases eg
      have ea : acc = all := by simpa using ea
      subst ea
      obtain ⟨H3, h3, kp3, nw3, lk3, ow3, cd3⟩ := lk.back (Kp.of sm) nwD
      have fin : Q (.ref D) H3 := by
        refine k _ H3 (fun a u e => kp3 a u (fun z => z) (s1 a u e)) ⟨.one D, fun a z => by cases (show a = D from z); exact ⟨D0, .lst ws, by rw [ow3 D rfl]; exact hw, trivial⟩, .pl rfl ⟨ws, by rw [ow3 D rfl]; exact hw, ?_⟩⟩
        rw [hM]
        exact rw'.tr (lkTr lk3)
      rcases h3 with rfl | ⟨d, u, od, e2, nf, rfl⟩
      · exact .inr fin
      · exact .inl ⟨d, u, od, e2, nf, fin⟩
  · exact h1.elim
end
end
end Q

end

section
set_option Elab.async false
set_option linter.all false
set_option maxRecDepth 100000
set_option maxHeartbeats 1000000
/-! Q8: statements read as functions of the names' data. -/
namespace Q
noncomputable section
open PySem PySem.Spec L2
open PyProof.Rows hiding St

inductive Out where
  | nx (ρ : Rho) | bk (ρ : Rho) | ct (ρ : Rho) | rt (r : R) (ρ : Rho) | ex (x : Exc) (ρ : Rho)
  deriving Inhabited
abbrev Pin := Nat → Option V
/-- the parameters that are changed hold what they held -/
def Pn (π : Pin) (σ : St) : Prop := ∀ i v, π i = some v → σ[i]? = some (some v)
def OutOk (g : G) (W : WX) (π : Pin) (M O : AS) (H : Hp) (out : Out) (D : Ends) : Prop := match out with
  | .nx ρ' => ∀ σ' H' O' fp', Kp O H H' → Nw O H O' → Cd M O' H' → EnvR g M O' fp' σ' H' ρ' → Pn π σ' → D.nx σ' H'
  | .bk ρ' => ∀ σ' H' O' fp', Kp O H H' → Nw O H O' → Cd M O' H' → EnvR g M O' fp' σ' H' ρ' → Pn π σ' → D.bk σ' H'
  | .ct ρ' => ∀ σ' H' O' fp', Kp O H H' → Nw O H O' → Cd M O' H' → EnvR g M O' fp' σ' H' ρ' → Pn π σ' → D.ct σ' H'
  | .rt r ρ' => ∀ v σ' H' O' fp', Kp O H H' → Nw O H O' → Cd M O' H' → EnvR g M O' fp' σ' H' ρ' → Pn π σ' → RetR g M O' fp' H' v r → D.rt v H'
  | .ex x ρ' => ∀ cls d σ' H' O' fp', Kp O H H' → Nw O H O' → Cd M O' H' → EnvR g M O' fp' σ' H' ρ' → Pn π σ' → XEx g (M.u O') H' cls d x → W cls d σ' H'
structure At (g : G) (io : List Nat) (M O : AS) (fp : Nat → AS) (ρ : Rho) (π : Pin) (σ : St) (H : Hp) : Prop where
  cd : Cd M O H
  en : EnvR g M O fp σ H ρ
  io : ∀ i v, π i = some v → i ∈ io
  pn : Pn π σ
def tS (g : G) (W : WX) (io : List Nat) (f : Rho → Option Out) : TS := fun D σ H => ∃ M O fp ρ π out, At g io M O fp ρ π σ H ∧ f ρ = some out ∧ OutOk g W π M O H out D
theorem PS.to {X : Cx} {e : Stmt} {t t' : TS} (h : PS X e t) (k : ∀ D σ H, t' D σ H → t D σ H) : PS X e t' := ⟨fun pins s σ H D I q => h.run pins s σ H D I (k _ _ _ q)⟩
theorem PSs.to {X : Cx} {e : List Stmt} {t t' : TS} (h : PSs X e t) (k : ∀ D σ H, t' D σ H → t D σ H) : PSs X e t' := ⟨fun pins s σ H D I q => h.run pins s σ H D I (k _ _ _ q)⟩
theorem PS.or {X : Cx} {e : Stmt} {t t' : TS} (h : PS X e t) (h' : PS X e t') : PS X e (fun D σ H => t D σ H ∨ t' D σ H) := ⟨fun pins s σ H D I q => q.elim (h.run pins s σ H D I) (h'.run pins s σ H D I)⟩
section
variable {g : G} {W : WX} {π : Pin} {M O O1 O' : AS} {H H1 H' : Hp} {v : V} {r : R} {out : Out} {D : Ends} {fp : Nat → AS} {σ : St} {ρ : Rho} {io : List Nat}
theorem nw_back (k : Kp O H H1) (w : Nw O H O1) {a : Addr} (h : O1 a ∨ H1 a = none) : O a ∨ H a = none := by
  rcases h with h | h
  · exact w a h
  · by_cases ho : O a
    · exact .inl ho
    · cases e : H a with
      | none => exact .inr rfl
      | some u => rw [k a u ho e] at h; cases h
theorem OutOk.on (k : Kp O H H1) (w : Nw O H O1) (h : OutOk g W π M O H out D) : OutOk g W π M O1 H1 out D := by
  cases out with
  | nx ρ' => exact fun σ' H' O' fp' k2 w2 c en => h σ' H' O' fp' (k.trans w k2) (Nw.trans k w w2) c en
  | bk ρ' => exact fun σ' H' O' fp' k2 w2 c en => h σ' H' O' fp' (k.trans w k2) (Nw.trans k w w2) c en
  | ct ρ' => exact fun σ' H' O' fp' k2 w2 c en => h σ' H' O' fp' (k.trans w k2) (Nw.trans k w w2) c en
  | rt r ρ' => exact fun v σ' H' O' fp' k2 w2 c en => h v σ' H' O' fp' (k.trans w k2) (Nw.trans k w w2) c en
  | ex x ρ' => exact fun cls d σ' H' O' fp' k2 w2 c en => h cls d σ' H' O' fp' (k.trans w k2) (Nw.trans k w w2) c en
theorem At.same (a : At g io M O fp ρ π σ H) (s : Same H H1) : At g io M O fp ρ π σ H1 := ⟨a.cd.same s, a.en.same s, a.io, a.pn⟩
/-- more addresses set aside -/
theorem EnvR.on (cd : Cd M O H) (en : EnvR g M O fp σ H ρ) (s : Same H H1) (w : Nw O H O1) (oo : ∀ a, O a → O1 a) : EnvR g M O1 fp σ H1 ρ := by
  have tr : Tr (M.u O) H (M.u O1) H1 := (Kp.of s).tr' w
  refine ⟨en.len, fun i r e => ?_, fun i a z => oo a (en.fo i a z), en.fr, en.ds⟩
  obtain ⟨v, e1, q⟩ := en.at_ i r e
  refine ⟨v, e1, ?_⟩
  cases r with
  | shr d => exact Rep.tr tr q
  | own t => exact OT.tr tr (fun a u _ e => .inl (s a u e)) q
  | tmp t => obtain ⟨S, k, q⟩ := q; exact ⟨S, k, q.tr tr fun a u _ e => .inl (s a u e)⟩
  | vw t => exact XM.mono (fun a fs e => s a _ e) q
theorem pn_set {i : Nat} (h : Pn π σ) (hi : π i = none) (v : V) : Pn π (σ.set i (some v)) := fun j w e => by
  have : i ≠ j := fun z => by subst z; rw [hi] at e; cases e
  rw [List.getElem?_set_ne this]
  exact h j w e
theorem At.free {i : Nat} (a : At g io M O fp ρ π σ H) (hi : i ∉ io) : π i = none := by
  cases e : π i with
  | none => rfl
  | some v => exact absurd (a.io i v e) hi
end
/-- an expression first -/
def bindO {α : Type} (a : Rx α) (ρ : Rho) (k : α → Option Out) : Option Out := match a with
  | .bad => none
  | .ok a => k a
  | .ex x => some (.ex x ρ)
@[simp] theorem bindO_ok {α : Type} {a : α} {ρ : Rho} {k : α → Option Out} : bindO (.ok a) ρ k = k a := rfl
@[simp] theorem bindO_ex {α : Type} {x : Exc} {ρ : Rho} {k : α → Option Out} : bindO (.ex x) ρ k = some (.ex x ρ) := rfl
@[simp] theorem bindO_bad {α : Type} {ρ : Rho} {k : α → Option Out} : bindO .bad ρ k = none := rfl
theorem bindO_hold {α : Type} {a : Rx α} {ρ : Rho} {k : α → Option Out} {out : Out} {g : G} {W : WX} {io : List Nat} {π : Pin} {M O : AS} {fp : Nat → AS} {σ : St} {H : Hp} {D : Ends} (at_ : At g io M O fp ρ π σ H) (e : bindO a ρ k = some out) (h : OutOk g W π M O H out D) :
    a.hold (fun r => k r = some out) (EW g M O H W σ) := by
  cases a with
  | bad => cases e
  | ok r => exact e
  | ex x => cases e; exact fun cls d H' s q => h cls d σ H' O fp (Kp.of s) Nw.refl (at_.cd.same s) (at_.en.same s) at_.pn q
/-- a value is put into a name's place -/
def stoF (i : Nat) (r : R) (ρ : Rho) : Option Out := if isVw r = true then none else if i < ρ.length then some (.nx (ρ.set i (some r))) else none
theorem stoF_some {i : Nat} {r : R} {ρ : Rho} {out : Out} (h : stoF i r ρ = some out) : (∀ t, r ≠ .vw t) ∧ i < ρ.length ∧ out = .nx (ρ.set i (some r)) := by
  unfold stoF at h
  split at h
  · cases h
  · rename_i z
    split at h
    · rename_i q; cases h; exact ⟨isVw_no z, q, rfl⟩
    · cases h
section
variable {X : Cx} {g : G} {n : Nat} {W : WX} {io : List Nat} {pos pos' p apos cpos : Pos} {x m : Str} {e a b : Expr} {es : List Expr} {fe fa fb : Rho → Rx R} {fl : Rho → Rx (List R)} {f1 f2 : Rho → Option Out}
/-- a fresh tree is taken in -/
theorem At.adopt {M O S : AS} {H H1 : Hp} {σ : St} {ρ : Rho} {fp : Nat → AS} {π : Pin} {t : T} {v : V} (at_ : At g io M O fp ρ π σ H) (s : Same H H1) (f : Fr H H1 S) (q : OT g ((M.u O).u S) H1 v t S) :
    Nw O H (O.u S) ∧ At g io M (O.u S) fp ρ π σ H1 ∧ RetR g M (O.u S) fp H1 v (.own t) := by
  have nw : Nw O H (O.u S) := fun a z => z.imp id fun z => (f a z).1
  refine ⟨nw, ⟨⟨(at_.cd.same s).m, fun a z => z.elim ((at_.cd.same s).o a) fun z => (f a z).2, fun a z hm => z.elim (fun z => at_.cd.d a z hm) fun z => at_.cd.fresh (f a z).1 (.inl hm)⟩, at_.en.on at_.cd s nw fun a z => .inl z, at_.io, at_.pn⟩, S, fun a z => .inr z, fun j a z z2 => at_.cd.fresh (f a z2).1 (.inr (at_.en.fo j a z)), ?_⟩
  exact q.less fun a z => z.elim (fun z => .inl (.inl z)) fun z => z.elim (fun z => .inl (.inr z)) .inr
/-- an answer is put into a slot -/
theorem At.sto {M O : AS} {H : Hp} {σ : St} {ρ : Rho} {fp : Nat → AS} {π : Pin} {r : R} {v : V} {i : Nat} (at_ : At g io M O fp ρ π σ H) (hi : i ∉ io) (hlt : i < ρ.length) (h : RetR g M O fp H v r) :
    ∃ fp1, At g io M O fp1 (ρ.set i (some r)) π (σ.set i (some v)) H := by
  have pn := pn_set at_.pn (at_.free hi) v
  cases r with
  | vw t => exact h.elim
  | tmp t => exact h.elim
  | shr d => exact ⟨_, at_.cd, at_.en.set (r := .shr d) h i, at_.io, pn⟩
  | own t =>
    obtain ⟨S, f, ds, q⟩ := h
    refine ⟨fpSet fp i S, at_.cd, ⟨by simp [at_.en.len], fun j r' e => ?_, fun j a z => ?_, fun j a z => ?_, fun j k a ne z1 z2 => ?_⟩, at_.io, pn⟩
    · by_cases z : i = j
      · subst z
        rw [List.getElem?_set_self hlt] at e
        cases e
        exact ⟨v, by rw [List.getElem?_set_self (by rw [at_.en.len]; exact hlt)], by rw [fpSet_self]; exact q⟩
      · rw [List.getElem?_set_ne z] at e
        obtain ⟨w, e1, q⟩ := at_.en.at_ j r' e
        exact ⟨w, by rw [List.getElem?_set_ne z]; exact e1, by rw [fpSet_ne (Ne.symm z)]; exact q⟩
    · by_cases q : j = i
      · subst q; rw [fpSet_self] at z; exact f a z
      · rw [fpSet_ne q] at z; exact at_.en.fo j a z
    · by_cases q : j = i
      · subst q; exact ⟨t, by rw [List.getElem?_set_self hlt]⟩
      · rw [fpSet_ne q] at z
        rw [List.getElem?_set_ne (Ne.symm q)]
        exact at_.en.fr j a z
    · by_cases q : j = i
      · subst q
        rw [fpSet_self] at z1
        rw [fpSet_ne (Ne.symm ne)] at z2
        exact ds k a z2 z1
      · rw [fpSet_ne q] at z1
        by_cases q2 : k = i
        · subst q2
          rw [fpSet_self] at z2
          exact ds j a z1 z2
        · rw [fpSet_ne q2] at z2; exact at_.en.ds j k a ne z1 z2
/-- the state behind a value was made fresh, or shared -/
theorem sto_at {M O : AS} {H H1 : Hp} {σ : St} {ρ : Rho} {fp : Nat → AS} {π : Pin} {r : R} {v : V} {i : Nat} (at_ : At g io M O fp ρ π σ H) (hi : i ∉ io) (hlt : i < ρ.length) (s : Same H H1) (xv : XR g M O H H1 v r) (hr : ∀ t, r ≠ .vw t) :
    ∃ O1 fp1, Kp O H H1 ∧ Nw O H O1 ∧ At g io M O1 fp1 (ρ.set i (some r)) π (σ.set i (some v)) H1 := by
  have pn := pn_set at_.pn (at_.free hi) v
  cases r with
  | vw t => exact absurd rfl (hr t)
  | shr d => exact ⟨O, _, Kp.of s, Nw.refl, at_.cd.same s, (at_.en.same s).set (r := .shr d) xv i, at_.io, pn⟩
  | tmp t => exact ⟨O, _, Kp.of s, Nw.refl, at_.cd.same s, (at_.en.same s).set (r := .tmp t) xv i, at_.io, pn⟩
  | own t =>
    obtain ⟨S, f, q⟩ := xv
    obtain ⟨nw, a1, rr⟩ := at_.adopt s f q
    obtain ⟨fp1, a2⟩ := a1.sto hi hlt rr
    exact ⟨_, fp1, Kp.of s, nw, a2⟩
/-- name = value -/
theorem s_asg {i : Nat} (f : FitB X g) (hio : i ∉ io) (hi : X.N[i]? = some x) (hx : Loc X.env.scope x) (hf : X.fn x = true ∨ X.env.scope.names.lookup x = some .local) (hs : swapsWith e (some (.Name x pos')) pos.line X.env = pure false) (he : PE X e (tX g W fe)) :
    PS X (.Assign [.Name x pos'] e pos) (tS g W io fun ρ => bindO (fe ρ) ρ fun r => stoF i r ρ) :=
  PS.to (ps_set f.nd hi hx he hs hf) fun D σ H ⟨M, O, fp, ρ, π, out, at_, e, k⟩ => ⟨M, O, fp, ρ, at_.cd, at_.en, (bindO_hold at_ e k).imp (fun r er v H1 s xv => by
    obtain ⟨h1, h2, rfl⟩ := stoF_some er
    obtain ⟨O1, fp1, kp, nw, a1⟩ := sto_at at_ hio h2 s xv h1
    exact k _ H1 O1 fp1 kp nw a1.cd a1.en a1.pn) fun _ z => z⟩
/-- what may be shared out: a value for a target -/
def shareR : R → Option R
  | .shr d => some (.shr d)
  | .own t => some (.shr t.d)
  | .tmp t => some (.tmp t)
  | .vw _ => none
theorem share_ok {M O : AS} {H H1 : Hp} {v : V} {r q : R} (c : Cd M O H) (xv : XR g M O H H1 v r) (e : shareR r = some q) : IR g M O H1 v q := by
  cases r with
  | shr d => cases e; exact xv
  | own t => cases e; exact xv.shr_own c
  | tmp t => cases e; exact xv
  | vw t => cases e
theorem pn_out {π : Pin} {σ σ' : St} {sl : List Nat} (pn : Pn π σ) (hio : ∀ j ∈ sl, π j = none) (h : ∀ j, j ∉ sl → σ'[j]? = σ[j]?) : Pn π σ' := fun i v e => by
  rw [h i (fun z => by rw [hio i z] at e; cases e)]
  exact pn i v e
/-- a, b = value -/
theorem s_asgT {F : R → Rho → Option Rho} {sl : List Nat} {tg : Expr} (hio : ∀ j ∈ sl, j ∉ io) (hg : PG X tg (gF g F sl)) (hs : swapsWithSole [tg] e pos.line X.env = pure false) (hw : swappedStores [tg] e X.env = pure none) (h1 : (assignEach [tg] X.env).map (·.2) = [assign tg X.env]) (he : PE X e (tX g W fe)) :
    PS X (.Assign [tg] e pos) (tS g W io fun ρ => bindO (fe ρ) ρ fun r => (shareR r).bind fun q => (F q ρ).map .nx) :=
  PS.to (ps_asg he hg hs hw h1) fun D σ H ⟨M, O, fp, ρ, π, out, at_, e, k⟩ => ⟨M, O, fp, ρ, at_.cd, at_.en, (bindO_hold at_ e k).imp (fun r er v H1 s xv => by
    obtain ⟨q, eq, e⟩ := Option.bind_eq_some_iff.mp er
    obtain ⟨ρ', e2, rfl⟩ := Option.map_eq_some_iff.mp e
    refine ⟨M, O, fp, ρ, q, ρ', at_.en.same s, share_ok at_.cd xv eq, e2, fun σ' fp' n1 _ en' => ?_⟩
    exact k σ' H1 O fp' (Kp.of s) Nw.refl (at_.cd.same s) en' (pn_out at_.pn (fun j hj => at_.free (hio j hj)) n1)) fun _ z => z⟩
theorem s_expr (hs : swapsWith e none pos.line X.env = pure false) (he : PE X e (tX g W fe)) : PS X (.Expr e pos) (tS g W io fun ρ => bindO (fe ρ) ρ fun _ => some (.nx ρ)) :=
  PS.to (ps_expr he hs) fun D σ H ⟨M, O, fp, ρ, π, out, at_, e, k⟩ => ⟨M, O, fp, ρ, at_.cd, at_.en, (bindO_hold at_ e k).imp (fun r er v H1 s xv => by
    cases er
    exact k σ H1 O fp (Kp.of s) Nw.refl (at_.cd.same s) (at_.en.same s) at_.pn) fun _ z => z⟩
def retF (r : R) (ρ : Rho) : Option Out := match r with
  | .shr d => some (.rt (.shr d) ρ)
  | .own t => some (.rt (.own t) ρ)
  | _ => none
theorem s_ret (he : PE X e (tX g W fe)) : PS X (.Return (some e) pos) (tS g W io fun ρ => bindO (fe ρ) ρ fun r => retF r ρ) :=
  PS.to (ps_ret he) fun D σ H ⟨M, O, fp, ρ, π, out, at_, e, k⟩ => ⟨M, O, fp, ρ, at_.cd, at_.en, (bindO_hold at_ e k).imp (fun r er v H1 s xv => by
    cases r with
    | shr d => cases er; exact k v σ H1 O fp (Kp.of s) Nw.refl (at_.cd.same s) (at_.en.same s) at_.pn xv
    | own t =>
      cases er
      obtain ⟨S, f, q⟩ := xv
      obtain ⟨nw, a1, rr⟩ := at_.adopt s f q
      exact k v σ H1 _ fp (Kp.of s) nw a1.cd a1.en a1.pn rr
    | _ => cases er) fun _ z => z⟩
theorem s_retN : PS X (.Return none pos) (tS g W io fun ρ => some (.rt (.shr .non) ρ)) :=
  PS.to ps_retN fun D σ H ⟨M, O, fp, ρ, π, out, at_, e, k⟩ => by
    cases e
    exact k .non σ H O fp Kp.refl Nw.refl at_.cd at_.en at_.pn Rep.non
/-- a slot's tree is given up -/
theorem At.drop {M O : AS} {H : Hp} {σ : St} {ρ : Rho} {fp : Nat → AS} {π : Pin} {i : Nat} {t : T} {q : Option R} (at_ : At g io M O fp ρ π σ H) (e : ρ[i]? = some (some (.own t)))
    (hq : ∀ r, q = some r → ∀ v, σ[i]? = some (some v) → OT g (M.u O) H v t (fp i) → IR g M (O.mi (fp i)) H v r) : At g io M (O.mi (fp i)) (fpSet fp i .no) (ρ.set i q) π σ H := by
  have hi : i < ρ.length := by
    by_cases hi : i < ρ.length
    · exact hi
    · rw [List.getElem?_eq_none (by simpa using hi)] at e; cases e
  have ls : ∀ a, (M.u (O.mi (fp i))) a → (M.u O) a := fun a z => z.imp id fun z => z.1
  refine ⟨⟨at_.cd.m, fun a z => at_.cd.o a z.1, fun a z => at_.cd.d a z.1⟩, ⟨by simp [at_.en.len], fun j r er => ?_, fun j a z => ?_, fun j a z => ?_, fun j k a ne z1 z2 => ?_⟩, at_.io, at_.pn⟩
  · by_cases z : i = j
    · subst z
      rw [List.getElem?_set_self hi] at er
      obtain ⟨v, e1, q1⟩ := at_.en.at_ i _ e
      have q2 := hq r (Option.some.inj er) v e1 q1
      refine ⟨v, e1, ?_⟩
      cases r with
      | shr d => exact q2
      | own t => exact q2.elim
      | tmp t => exact q2
      | vw t => exact q2.elim
    · rw [List.getElem?_set_ne z] at er
      obtain ⟨v, e1, q1⟩ := at_.en.at_ j r er
      refine ⟨v, e1, ?_⟩
      rw [fpSet_ne (Ne.symm z)]
      cases r with
      | shr d => exact Rep.less ls q1
      | own t => exact OT.less ls q1
      | tmp t => obtain ⟨S, k, q⟩ := q1; exact ⟨S, k, q.less ls⟩
      | vw t => exact q1
  · by_cases q : j = i
    · subst q; rw [fpSet_self] at z; exact z.elim
    · rw [fpSet_ne q] at z; exact ⟨at_.en.fo j a z, at_.en.ds j i a q z⟩
  · by_cases q : j = i
    · subst q; rw [fpSet_self] at z; exact z.elim
    · rw [fpSet_ne q] at z
      rw [List.getElem?_set_ne (Ne.symm q)]
      exact at_.en.fr j a z
  · by_cases q : j = i
    · subst q; rw [fpSet_self] at z1; exact z1
    · rw [fpSet_ne q] at z1
      by_cases q2 : k = i
      · subst q2; rw [fpSet_self] at z2; exact z2
      · rw [fpSet_ne q2] at z2; exact at_.en.ds j k a ne z1 z2
/-- a slot forgets its tree, nobody has it -/
theorem At.lay {M O : AS} {H : Hp} {σ : St} {ρ : Rho} {fp : Nat → AS} {π : Pin} {i : Nat} {t : T} (at_ : At g io M O fp ρ π σ H) (e : ρ[i]? = some (some (.own t))) :
    ∃ fp1, (∀ j a, fp1 j a → ¬ fp i a) ∧ At g io M O fp1 (ρ.set i none) π σ H := by
  refine ⟨fpSet fp i .no, fun j a z z2 => ?_, at_.cd, ⟨by simp [at_.en.len], fun j r er => ?_, fun j a z => ?_, fun j a z => ?_, fun j k a ne z1 z2 => ?_⟩, at_.io, at_.pn⟩
  · by_cases q : j = i
    · subst q; rw [fpSet_self] at z; exact z
    · rw [fpSet_ne q] at z; exact at_.en.ds j i a q z z2
  · by_cases z : i = j
    · subst z
      by_cases hi : i < ρ.length
      · rw [List.getElem?_set_self hi] at er; cases er
      · rw [List.getElem?_eq_none (by simpa using hi)] at er; cases er
    · rw [List.getElem?_set_ne z] at er
      obtain ⟨v, e1, q1⟩ := at_.en.at_ j r er
      exact ⟨v, e1, by rw [fpSet_ne (Ne.symm z)]; exact q1⟩
  · by_cases q : j = i
    · subst q; rw [fpSet_self] at z; exact z.elim
    · rw [fpSet_ne q] at z; exact at_.en.fo j a z
  · by_cases q : j = i
    · subst q; rw [fpSet_self] at z; exact z.elim
    · rw [fpSet_ne q] at z
      rw [List.getElem?_set_ne (Ne.symm q)]
      exact at_.en.fr j a z
  · by_cases q : j = i
    · subst q; rw [fpSet_self] at z1; exact z1
    · rw [fpSet_ne q] at z1
      by_cases q2 : k = i
      · subst q2; rw [fpSet_self] at z2; exact z2
      · rw [fpSet_ne q2] at z2; exact at_.en.ds j k a ne z1 z2
def ownT (ρ : Rho) (i : Nat) : Option T := match ρ[i]? with
  | some (some (.own t)) => some t
  | _ => none
theorem ownT_at {ρ : Rho} {i : Nat} {t : T} (h : ownT ρ i = some t) : ρ[i]? = some (some (.own t)) := by
  unfold ownT at h
  split at h
  · rename_i t' e; cases h; exact e
  · cases h
theorem kp_mi {O : AS} {H : Hp} {S : AS} : Nw O H (O.mi S) := fun a z => .inl z.1
/-- return x, x what was made here -/
def retvF (i : Nat) (ρ : Rho) : Option Out := (ownT ρ i).bind fun t => some (.rt (.own t) (ρ.set i none))
theorem s_retv {i : Nat} (hN : X.N[i]? = some x) (hv : Vis X.env.scope x) (hd : (x == ("__debug__" : Str)) = false) (hcd : (x == ("__classdict__" : Str)) = false) : PS X (.Return (some (.Name x p)) pos) (tS g W io (retvF i)) :=
  PS.to (ps_ret (pe_var hN hv hd hcd)) fun D σ H ⟨M, O, fp, ρ, π, out, at_, e, k⟩ => by
    obtain ⟨t, e1, e2⟩ := Option.bind_eq_some_iff.mp e
    cases e2
    have e3 := ownT_at e1
    obtain ⟨v, e4, q⟩ := at_.en.at_ i _ e3
    obtain ⟨fp1, h1, a1⟩ := at_.lay e3
    have q : OT g (M.u O) H v t (fp i) := q
    exact ⟨v, e4, k v σ H O fp1 Kp.refl Nw.refl a1.cd a1.en a1.pn ⟨fp i, fun a z => at_.en.fo i a z, h1, q⟩⟩
theorem s_pass : PS X (.Pass pos) (tS g W io fun ρ => some (.nx ρ)) := PS.to ps_pass fun D σ H ⟨M, O, fp, ρ, π, out, at_, e, k⟩ => by
  cases e; exact k σ H O fp Kp.refl Nw.refl at_.cd at_.en at_.pn
theorem s_break : PS X (.Break pos) (tS g W io fun ρ => some (.bk ρ)) := PS.to ps_break fun D σ H ⟨M, O, fp, ρ, π, out, at_, e, k⟩ => by
  cases e; exact k σ H O fp Kp.refl Nw.refl at_.cd at_.en at_.pn
theorem s_cont : PS X (.Continue pos) (tS g W io fun ρ => some (.ct ρ)) := PS.to ps_continue fun D σ H ⟨M, O, fp, ρ, π, out, at_, e, k⟩ => by
  cases e; exact k σ H O fp Kp.refl Nw.refl at_.cd at_.en at_.pn
theorem s_doc {z : Str} {j} : PS X (.Expr (.Constant (.str z) j pos) pos') (tS g W io fun ρ => some (.nx ρ)) := PS.to ps_doc fun D σ H ⟨M, O, fp, ρ, π, out, at_, e, k⟩ => by
  cases e; exact k σ H O fp Kp.refl Nw.refl at_.cd at_.en at_.pn
theorem s_never {st : Stmt} : PS X st (tS g W io fun _ => none) := PS.to ps_never fun D σ H ⟨M, O, fp, ρ, π, out, at_, e, k⟩ => by cases e
/-! ### blocks -/
def seqF (f1 f2 : Rho → Option Out) (ρ : Rho) : Option Out := (f1 ρ).bind fun o => match o with
  | .nx ρ' => f2 ρ'
  | o => some o
theorem ss_nil : PSs X [] (tS g W io fun ρ => some (.nx ρ)) := PSs.to pss_nil fun D σ H ⟨M, O, fp, ρ, π, out, at_, e, k⟩ => by
  cases e; exact k σ H O fp Kp.refl Nw.refl at_.cd at_.en at_.pn
theorem ss_cons {st : Stmt} {rest : List Stmt} (h1 : PS X st (tS g W io f1)) (h2 : PSs X rest (tS g W io f2)) : PSs X (st :: rest) (tS g W io (seqF f1 f2)) :=
  PSs.to (pss_cons h1 h2) fun D σ H ⟨M, O, fp, ρ, π, out, at_, e, k⟩ => by
    obtain ⟨o1, e1, e2⟩ := Option.bind_eq_some_iff.mp e
    refine ⟨M, O, fp, ρ, π, o1, at_, e1, ?_⟩
    cases o1 with
    | nx ρ' => exact fun σ' H' O' fp' k1 w1 c1 en1 pn1 => ⟨M, O', fp', ρ', π, out, ⟨c1, en1, at_.io, pn1⟩, e2, k.on k1 w1⟩
    | bk ρ' => cases e2; exact k
    | ct ρ' => cases e2; exact k
    | rt r ρ' => cases e2; exact k
    | ex x ρ' => cases e2; exact k
/-- a step of the data's own -/
theorem ss_ghost {F : Rho → Option Rho} {st : List Stmt} (hF : ∀ M O fp H σ ρ π ρ', At g io M O fp ρ π σ H → F ρ = some ρ' → ∃ O' fp', Nw O H O' ∧ At g io M O' fp' ρ' π σ H) (h : PSs X st (tS g W io f2)) : PSs X st (tS g W io fun ρ => (F ρ).bind f2) :=
  PSs.to h fun D σ H ⟨M, O, fp, ρ, π, out, at_, e, k⟩ => by
    obtain ⟨ρ', e1, e2⟩ := Option.bind_eq_some_iff.mp e
    obtain ⟨O', fp', nw, a1⟩ := hF M O fp H σ ρ π ρ' at_ e1
    exact ⟨M, O', fp', ρ', π, out, a1, e2, k.on Kp.refl nw⟩
/-- what was made here is changed no more -/
def frzF (i : Nat) (ρ : Rho) : Option Rho := (ownT ρ i).bind fun t => some (ρ.set i (some (.shr t.d)))
theorem frz_ok {i : Nat} (M O : AS) (fp : Nat → AS) (H : Hp) (σ : St) (ρ : Rho) (π : Pin) (ρ' : Rho) (at_ : At g io M O fp ρ π σ H) (e : frzF i ρ = some ρ') : ∃ O' fp', Nw O H O' ∧ At g io M O' fp' ρ' π σ H := by
  obtain ⟨t, e1, e2⟩ := Option.bind_eq_some_iff.mp e
  cases e2
  refine ⟨_, _, kp_mi, at_.drop (ownT_at e1) (q := some (.shr t.d)) fun r z v ev q => ?_⟩
  cases z
  exact q.view (Tr.less fun a z => z.imp id fun z => z.1) fun a u z e => ⟨fun z2 => z2.elim (fun z2 => at_.cd.d a (at_.en.fo i a z) z2) fun z2 => z2.2 z, .inl e⟩
theorem s_if {c : Expr} {p q : List Stmt} {fc : Rho → Rx R} (hc : PT X c (tT g W fc)) (ha : PSs X p (tS g W io f1)) (hb : PSs X q (tS g W io f2)) : PS X (.If c p q pos) (tS g W io fun ρ => bindO (fc ρ) ρ fun rc => (blR rc).bind fun t => if t = true then f1 ρ else f2 ρ) :=
  PS.to (ps_if hc ha hb) fun D σ H ⟨M, O, fp, ρ, π, out, at_, e, k⟩ => ⟨M, O, fp, ρ, at_.cd, at_.en, (bindO_hold at_ e k).imp (fun rc er => by
    obtain ⟨t, et, e⟩ := Option.bind_eq_some_iff.mp er
    refine ⟨t, by rw [blR_d et]; rfl, fun H1 s => ?_⟩
    cases t with
    | true => exact iteT ⟨M, O, fp, ρ, π, out, at_.same s, e, k.on (Kp.of s) Nw.refl⟩
    | false => exact iteF ⟨M, O, fp, ρ, π, out, at_.same s, e, k.on (Kp.of s) Nw.refl⟩) fun _ z => z⟩
/-! ### while -/
def whileF (fc : Rho → Rx R) (body : Rho → Option Out) : Nat → Rho → Option Out
  | 0, _ => none
  | n + 1, ρ => bindO (fc ρ) ρ fun rc => (blR rc).bind fun t => if t = true then (body ρ).bind fun o => (match o with
      | .nx ρ2 => whileF fc body n ρ2
      | .ct ρ2 => whileF fc body n ρ2
      | .bk ρ2 => some (.nx ρ2)
      | o => some o) else some (.nx ρ)
theorem s_while {c : Expr} {body : List Stmt} {fc : Rho → Rx R} {fuel : Nat} (hp : PassesOwn (model X.prog X.w) X.A X.env X.xe) (hc : PT X c (tT g W fc)) (hb : PSs X body (tS g W io f1)) : PS X (.While c body [] pos) (tS g W io (whileF fc f1 fuel)) :=
  PS.to (ps_while hp hc hb) fun D σ H ⟨M, O, fp, ρ, π, out, at_, e, k⟩ => by
    refine ⟨fun m σ2 H2 => ∃ O2 fp2 ρ2, Kp O H H2 ∧ Nw O H O2 ∧ At g io M O2 fp2 ρ2 π σ2 H2 ∧ whileF fc f1 m ρ2 = some out, ⟨fuel, O, fp, ρ, Kp.refl, Nw.refl, at_, e⟩, ?_⟩
    rintro m σ2 H2 ⟨O2, fp2, ρ2, kp, nw, a2, e2⟩
    cases m with
    | zero => cases e2
    | succ m =>
      have k2 : OutOk g W π M O2 H2 out D := k.on kp nw
      refine ⟨M, O2, fp2, ρ2, a2.cd, a2.en, (bindO_hold a2 e2 k2).imp (fun rc er => ?_) fun _ z => z⟩
      obtain ⟨t, et, e⟩ := Option.bind_eq_some_iff.mp er
      refine ⟨t, by rw [blR_d et]; rfl, fun H3 s => ?_⟩
      cases t with
      | false =>
        rw [if_neg (by decide)] at e
        cases e
        exact iteF (k2 σ2 H3 O2 fp2 (Kp.of s) Nw.refl (a2.cd.same s) (a2.en.same s) a2.pn)
      | true =>
        rw [if_pos rfl] at e
        obtain ⟨o, eo, e⟩ := Option.bind_eq_some_iff.mp e
        refine iteT ⟨fun σ4 H4 => ∃ O4 fp4 ρ4, Kp O H H4 ∧ Nw O H O4 ∧ At g io M O4 fp4 ρ4 π σ4 H4 ∧ whileF fc f1 m ρ4 = some out, fun σ4 H4 h4 => ⟨m, Nat.lt_succ_self m, h4⟩, M, O2, fp2, ρ2, π, o, a2.same s, eo, ?_⟩
        have kp3 : Kp O H H3 := kp.trans nw (Kp.of s)
        have nw3 : Nw O H O2 := nw
        have k3 := k2.on (Kp.of s) Nw.refl
        cases o with
        | nx ρ4 => exact fun σ4 H4 O4 fp4 k4 w4 c4 en4 pn4 => ⟨O4, fp4, ρ4, kp3.trans nw3 k4, Nw.trans kp3 nw3 w4, ⟨c4, en4, a2.io, pn4⟩, e⟩
        | ct ρ4 => exact fun σ4 H4 O4 fp4 k4 w4 c4 en4 pn4 => ⟨O4, fp4, ρ4, kp3.trans nw3 k4, Nw.trans kp3 nw3 w4, ⟨c4, en4, a2.io, pn4⟩, e⟩
        | bk ρ4 => cases e; exact fun σ4 H4 O4 fp4 k4 w4 c4 en4 pn4 => k3 σ4 H4 O4 fp4 k4 w4 c4 en4 pn4
        | rt r ρ4 => cases e; exact k3
        | ex x ρ4 => cases e; exact k3
/-! ### for -/
/-- the wish of what is raised, where a dict may be locked -/
def unW (X : Cx) (W : WX) : WX := fun cls d σ H => Un1 X (W cls d σ) H
theorem takes_un (tk : Takes X W) : Takes X (unW X W) := fun u s' ⟨a, B, sI, pins, σ, H, cls, d, e, I, nb, up, sky, na, os, ag, w⟩ => by
  rcases w with ⟨q, uu, od, e2, nf, w⟩ | w
  · refine tk u s' ⟨a, B, sI, pins, σ, _, cls, d, e, I.unlock e2 nf, nb, up, sky, ?_, os, ag, w⟩
    rw [upd_ne (fun z => by rw [z, e2] at na; cases na)]
    exact na
  · exact tk u s' ⟨a, B, sI, pins, σ, H, cls, d, e, I, nb, up, sky, na, os, ag, w⟩
def forF (tgt : R → Rho → Option Rho) (body : Rho → Option Out) : List R → Rho → Option Out
  | [], ρ => some (.nx ρ)
  | x :: xs, ρ => (tgt x ρ).bind fun ρ1 => (body ρ1).bind fun o => match o with
    | .nx ρ2 => forF tgt body xs ρ2
    | .ct ρ2 => forF tgt body xs ρ2
    | .bk ρ2 => some (.nx ρ2)
    | o => some o
theorem s_for {tg iter : Expr} {body : List Stmt} {fi : Rho → Rx (List R)} {F : R → Rho → Option Rho} {sl : List Nat} (f : Fit X g n) (hio : ∀ j ∈ sl, j ∉ io) (hp : PassesOwn (model X.prog X.w) X.A X.env X.xe) (hs : ∀ x, foldedSetIterable iter X.env x = pure x) (hi : PI X tg iter (tJ X g W fi)) (hg : PG X tg (gF g F sl)) (hb : PSs X body (tS g (unW X W) io f1)) :
    PS X (.For tg iter body [] pos) (tS g W io fun ρ => bindO (fi ρ) ρ fun xs => forF F f1 xs ρ) :=
  PS.to (ps_unl (ps_for hp f.calm hi hg hb hs)) fun D σ H ⟨M, O, fp, ρ, π, out, at_, e, k⟩ => ⟨M, O, fp, ρ, at_.cd, at_.en, (bindO_hold at_ e k).imp (fun xs e J H1 H' s1 lk y => by
    have c1 := lk.cd (at_.cd.same s1)
    have en1 : EnvR g M O fp σ H' ρ := (at_.en.same s1).lk lk
    refine ⟨fun i m σ2 H2 => m = xs.length - i ∧ i ≤ xs.length ∧ ∃ O2 fp2 ρ2, Kp O H' H2 ∧ Nw O H' O2 ∧ At g io M O2 fp2 ρ2 π σ2 H2 ∧ forF F f1 (xs.drop i) ρ2 = some out, ⟨xs.length, by simp, Nat.zero_le _, O, fp, ρ, Kp.refl, Nw.refl, ⟨c1, en1, at_.io, at_.pn⟩, e⟩, ?_⟩
    rintro i m σ2 H2 ⟨rfl, hi, O2, fp2, ρ2, kp, nw, a2, ef⟩
    -- how all goes over when the dict is free again
    have over : ∀ {H3 : Hp} {O3 : AS}, Kp O H' H3 → Nw O H' O3 → ∃ H4, (H4 = H3 ∨ ∃ d u od, H3 d = some (.frz od u) ∧ NoFz X d ∧ H4 = upd H3 d u) ∧ Kp O H H4 ∧ Nw O H O3 ∧ (∀ a u, H3 a = some u → Lk u (H4 a)) ∧ (∀ {fp3 : Nat → AS} {σ3 : St} {ρ3 : Rho}, At g io M O3 fp3 ρ3 π σ3 H3 → At g io M O3 fp3 ρ3 π σ3 H4) := fun {H3 O3} k3 w3 => by
      obtain ⟨H4, h4, kp4, nw4, lk4, ow4, cd4⟩ := lk.back k3 w3
      refine ⟨H4, h4, (Kp.of s1).trans Nw.refl kp4, Nw.same s1 nw4, lk4, fun {fp3 σ3 ρ3} a3 => ⟨cd4 a3.cd, ⟨a3.en.len, fun j r er => ?_, a3.en.fo, a3.en.fr, a3.en.ds⟩, a3.io, a3.pn⟩⟩
      obtain ⟨v, e1, q⟩ := a3.en.at_ j r er
      refine ⟨v, e1, ?_⟩
      cases r with
      | shr d => exact Rep.tr (lkTr lk4) q
      | own t => exact OT.tr (lkTr lk4) (fun a u _ e => lk4 a u e) q
      | tmp t => obtain ⟨S, kk, q⟩ := q; exact ⟨S, kk, q.tr (lkTr lk4) fun a u _ e => lk4 a u e⟩
      | vw t => exact XM.mono (fun a fs e => (lk4 a _ e).at nDc_xd) q
    have fin : ∀ {P : Hp → Prop} {H3 : Hp} {H4 : Hp}, (H4 = H3 ∨ ∃ d u od, H3 d = some (.frz od u) ∧ NoFz X d ∧ H4 = upd H3 d u) → P H4 → Un1 X P H3 := fun {P H3 H4} h q => by
      rcases h with rfl | ⟨d, u, od, e2, nf, rfl⟩
      · exact .inr q
      · exact .inl ⟨d, u, od, e2, nf, q⟩
    by_cases hlt : i < xs.length
    · refine .inr ⟨y.go i H2 kp hlt, fun σ3 H3 => ∃ O3 fp3 ρ3, Kp O H' H3 ∧ Nw O H' O3 ∧ At g io M O3 fp3 ρ3 π σ3 H3 ∧ forF F f1 (xs.drop (i + 1)) ρ3 = some out, fun σ3 H3 h3 => ⟨_, by omega, rfl, hlt, h3⟩, fun x Hy yy => ?_⟩
      have exi : xs[i]? = some xs[i] := by simp [hlt]
      obtain ⟨sy, ry⟩ := y.yld i H2 x Hy O2 xs[i] kp nw a2.cd exi yy
      rw [List.drop_eq_getElem_cons hlt] at ef
      obtain ⟨ρ3, et, ef⟩ := Option.bind_eq_some_iff.mp (show (F xs[i] ρ2).bind _ = some out from ef)
      obtain ⟨o, eo, ef⟩ := Option.bind_eq_some_iff.mp ef
      refine ⟨M, O2, fp2, ρ2, xs[i], ρ3, a2.en.same sy, ry, et, fun σ3 fp3 n3 _ en3 => ⟨M, O2, fp3, ρ3, π, o, ⟨a2.cd.same sy, en3, a2.io, pn_out a2.pn (fun j hj => a2.free (hio j hj)) n3⟩, eo, ?_⟩⟩
      have kpy : Kp O H' Hy := kp.trans nw (Kp.of sy)
      have go : ∀ {σ4 : St} {H4 : Hp} {O4 : AS} {fp4 : Nat → AS} {ρ4 : Rho}, forF F f1 (xs.drop (i + 1)) ρ4 = some out → Kp O2 Hy H4 → Nw O2 Hy O4 → Cd M O4 H4 → EnvR g M O4 fp4 σ4 H4 ρ4 → Pn π σ4 → ∃ O3 fp3 ρ3, Kp O H' H4 ∧ Nw O H' O3 ∧ At g io M O3 fp3 ρ3 π σ4 H4 ∧ forF F f1 (xs.drop (i + 1)) ρ3 = some out :=
        fun {σ4 H4 O4 fp4 ρ4} e k4 w4 c4 en4 pn4 => ⟨O4, fp4, ρ4, kpy.trans nw k4, Nw.trans kpy nw w4, ⟨c4, en4, a2.io, pn4⟩, e⟩
      cases o with
      | nx ρ4 => exact fun σ4 H4 O4 fp4 k4 w4 c4 en4 pn4 => go ef k4 w4 c4 en4 pn4
      | ct ρ4 => exact fun σ4 H4 O4 fp4 k4 w4 c4 en4 pn4 => go ef k4 w4 c4 en4 pn4
      | bk ρ4 =>
        cases ef
        intro σ4 H4 O4 fp4 k4 w4 c4 en4 pn4
        obtain ⟨H5, h5, kp5, nw5, lk5, a5⟩ := over (kpy.trans nw k4) (Nw.trans kpy nw w4)
        have a5 := a5 ⟨c4, en4, a2.io, pn4⟩
        exact fin h5 (k σ4 H5 O4 fp4 kp5 nw5 a5.cd a5.en a5.pn)
      | rt r ρ4 =>
        cases ef
        intro v σ4 H4 O4 fp4 k4 w4 c4 en4 pn4 q
        obtain ⟨H5, h5, kp5, nw5, lk5, a5⟩ := over (kpy.trans nw k4) (Nw.trans kpy nw w4)
        have a5 := a5 ⟨c4, en4, a2.io, pn4⟩
        refine fin h5 (k v σ4 H5 O4 fp4 kp5 nw5 a5.cd a5.en a5.pn ?_)
        cases r with
        | shr d => exact Rep.tr (lkTr lk5) q
        | own t => obtain ⟨S, f1', ds', q2⟩ := q; exact ⟨S, f1', ds', q2.tr (lkTr lk5) fun a u _ e => lk5 a u e⟩
        | _ => exact q.elim
      | ex xx ρ4 =>
        cases ef
        intro cls d σ4 H4 O4 fp4 k4 w4 c4 en4 pn4 q
        obtain ⟨H5, h5, kp5, nw5, lk5, a5⟩ := over (kpy.trans nw k4) (Nw.trans kpy nw w4)
        have a5 := a5 ⟨c4, en4, a2.io, pn4⟩
        refine fin h5 (k cls d σ4 H5 O4 fp4 kp5 nw5 a5.cd a5.en a5.pn ⟨q.1, q.2.imp id fun ⟨a, ws, e1, e2, e3, e4⟩ => ⟨a, ws, e1, (lk5 a _ e2).at ⟨id, fun _ _ z => by cases z⟩, e3, e4.1.tr (lkTr lk5), e4.2⟩⟩)
    · have ei : i = xs.length := by omega
      subst ei
      rw [List.drop_length] at ef
      cases ef
      obtain ⟨H5, h5, kp5, nw5, lk5, a5⟩ := over kp nw
      have a5 := a5 a2
      exact .inl ⟨y.stop _ H2 kp rfl, fin h5 (k σ2 H5 O2 fp2 kp5 nw5 a5.cd a5.en a5.pn)⟩) fun _ z => z⟩
end
end
end Q

end

section
set_option Elab.async false
set_option linter.all false
set_option maxRecDepth 100000
set_option maxHeartbeats 1000000
/-! Q9: parts of trees by paths; what is changed there. -/
namespace Q
noncomputable section
open PySem PySem.Spec L2
open PyProof.Rows hiding St

def T.kids : T → List T
  | .lst ts => ts
  | .dk _ ts => ts
  | .ins _ ts => ts
  | _ => []
def T.withKids (t : T) (us : List T) : T := match t with
  | .lst _ => .lst us
  | .dk ks _ => .dk ks us
  | .ins c _ => .ins c us
  | t => t
def T.at_ : List Nat → T → Option T
  | [], t => some t
  | j :: js, t => (t.kids[j]?).bind (T.at_ js)
def T.put : List Nat → T → T → T
  | [], n, _ => n
  | j :: js, n, t => match t.kids[j]? with
    | some c => t.withKids (t.kids.set j (T.put js n c))
    | none => t
def kidsO : HO → List V
  | .lst vs => vs
  | .dK kvs => kvs.map (·.2)
  | .ins _ _ fs => fs.map (·.2)
  | .frz _ (.dK kvs) => kvs.map (·.2)
  | _ => []
def walkV (H : Hp) : V → List Nat → Option V
  | v, [] => some v
  | .ref a, j :: js => (H a).bind fun u => ((kidsO u)[j]?).bind fun w => walkV H w js
  | _, _ :: _ => none
theorem walkV_same {H H' : Hp} (s : Same H H') : ∀ {is : List Nat} {v w : V}, walkV H v is = some w → walkV H' v is = some w
  | [], _, _, h => h
  | j :: js, v, w, h => by
    cases v with
    | ref a =>
      obtain ⟨u, e, h⟩ := Option.bind_eq_some_iff.mp (show (H a).bind _ = some w from h)
      obtain ⟨x, e2, h⟩ := Option.bind_eq_some_iff.mp h
      show (H' a).bind _ = some w
      rw [s a u e]
      show ((kidsO u)[j]?).bind _ = some w
      rw [e2]
      exact walkV_same s (is := js) h
    | _ => cases h
theorem walkV_app {H : Hp} {j : Nat} : ∀ {is : List Nat} {v w : V}, walkV H v is = some w → walkV H v (is ++ [j]) = walkV H w [j]
  | [], _, _, h => by cases h; rfl
  | i :: is, v, w, h => by
    cases v with
    | ref a =>
      obtain ⟨u, e, h⟩ := Option.bind_eq_some_iff.mp (show (H a).bind _ = some w from h)
      obtain ⟨x, e2, h⟩ := Option.bind_eq_some_iff.mp h
      show (H a).bind _ = _
      rw [e]
      show ((kidsO u)[i]?).bind _ = _
      rw [e2]
      exact walkV_app (is := is) h
    | _ => cases h
theorem T.at_app {j : Nat} : ∀ {is : List Nat} {t s : T}, T.at_ is t = some s → T.at_ (is ++ [j]) t = s.kids[j]?
  | [], t, s, h => by
    cases h
    show (t.kids[j]?).bind (T.at_ []) = _
    cases t.kids[j]? <;> rfl
  | i :: is, t, s, h => by
    obtain ⟨c, e, h⟩ := Option.bind_eq_some_iff.mp (show (t.kids[i]?).bind _ = some s from h)
    show (t.kids[i]?).bind _ = _
    rw [e]
    exact T.at_app (is := is) h
section
variable {g : G} {B : AS} {H : Hp}
/-- one of several trees is changed -/
theorem OTs.upd : ∀ {vs : List V} {ts : List T} {S : AS} {j : Nat} {c : T}, OTs g B H vs ts S → ts[j]? = some c → ∃ v S1, vs[j]? = some v ∧ (∀ a, S1 a → S a) ∧ OT g B H v c S1 ∧
    ∀ (B2 : AS) (H2 : Hp) (S3 : AS) (c2 : T), Tr B H B2 H2 → (∀ a, S a → ¬ S1 a → H2 a = H a) → (∀ a, S3 a → S1 a ∨ ¬ S a) → OT g B2 H2 v c2 S3 → OTs g B2 H2 vs (ts.set j c2) (fun a => (S a ∧ ¬ S1 a) ∨ S3 a)
  | _, _, _, _, _, .nil, e => by simp at e
  | _, _, S, 0, c, .cons (v := v) (vs := vs) (ts := ts) S1 S2 w1 w2 ds h r, e => by
    simp at e; subst e
    refine ⟨v, S1, rfl, w1, h, fun B2 H2 S3 c2 tr k n q => ?_⟩
    refine .cons S3 S2 (fun a z => .inr z) (fun a z => .inl ⟨w2 a z, fun z1 => ds a z1 z⟩) (fun a z z2 => ?_) q (r.tr tr fun a u z e => .inl (by rw [k a (w2 a z) (fun z1 => ds a z1 z)]; exact e))
    rcases n a z with n | n
    · exact ds a n z2
    · exact n (w2 a z2)
  | _, _, S, j + 1, c, .cons (v := v) (vs := vs) (ts := ts) S1 S2 w1 w2 ds h r, e => by
    obtain ⟨v', S1', e1, w', h', kk⟩ := OTs.upd (j := j) r (by simpa using e)
    refine ⟨v', S1', by simpa using e1, fun a z => w2 a (w' a z), h', fun B2 H2 S3 c2 tr k n q => ?_⟩
    have r' := kk B2 H2 S3 c2 tr (fun a z z1 => k a (w2 a z) z1) (fun a z => (n a z).imp id fun n z2 => n (w2 a z2)) q
    refine .cons S1 _ (fun a z => .inl ⟨w1 a z, fun z1 => ds a z (w' a z1)⟩) (fun a z => z.imp (fun z => ⟨w2 a z.1, z.2⟩) id) (fun a z z2 => ?_) (h.tr tr fun a u z e => .inl (by rw [k a (w1 a z) (fun z1 => ds a z (w' a z1))]; exact e)) r'
    rcases z2 with z2 | z2
    · exact ds a z z2.1
    · rcases n a z2 with n | n
      · exact ds a z (w' a n)
      · exact n (w1 a z)
/-- the tree's part at a path, and what follows when it is changed -/
theorem OT.path : ∀ {is : List Nat} {v : V} {t : T} {S : AS} {sub : T}, OT g B H v t S → T.at_ is t = some sub → ∃ w S', walkV H v is = some w ∧ (∀ a, S' a → S a) ∧ OT g B H w sub S' ∧
    ∀ (B2 : AS) (H2 : Hp) (S2 : AS) (t2 : T), Tr B H B2 H2 → (∀ a, S a → ¬ S' a → H2 a = H a) → (∀ a, S2 a → S' a ∨ ¬ S a) → OT g B2 H2 w t2 S2 → OT g B2 H2 v (T.put is t2 t) (fun a => (S a ∧ ¬ S' a) ∨ S2 a)
  | [], v, t, S, sub, h, e => by
    cases e
    exact ⟨v, S, rfl, fun _ z => z, h, fun B2 H2 S2 t2 tr k n q => q.more fun a z => .inr z⟩
  | j :: js, v, t, S, sub, h, e => by
    obtain ⟨c, e1, e2⟩ := Option.bind_eq_some_iff.mp (show (t.kids[j]?).bind _ = some sub from e)
    have key : ∀ {a : Addr} {u : HO} {S0 : AS} {vs : List V}, v = .ref a → S a → H a = some u → kidsO u = vs → (∀ b, S0 b → S b) → ¬ S0 a → OTs g B H vs t.kids S0 → (∀ (B2 : AS) (H2 : Hp) (S3 : AS) (us : List T), H2 a = H a → (∀ b, S3 b → b ≠ a) → us.length = t.kids.length → OTs g B2 H2 vs us S3 → OT g B2 H2 v (t.withKids us) (fun b => S3 b ∨ b = a)) →
        ∃ w S', walkV H v (j :: js) = some w ∧ (∀ a, S' a → S a) ∧ OT g B H w sub S' ∧
        ∀ (B2 : AS) (H2 : Hp) (S2 : AS) (t2 : T), Tr B H B2 H2 → (∀ a, S a → ¬ S' a → H2 a = H a) → (∀ a, S2 a → S' a ∨ ¬ S a) → OT g B2 H2 w t2 S2 → OT g B2 H2 v (T.put (j :: js) t2 t) (fun a => (S a ∧ ¬ S' a) ∨ S2 a) := fun {a u S0 vs} ev sa hu ku w0 n0 rr mk => by
      subst ev
      obtain ⟨v0, S1, f1, w1, q1, k1⟩ := rr.upd e1
      obtain ⟨w, S', f2, w2, q2, k2⟩ := OT.path (is := js) q1 e2
      refine ⟨w, S', ?_, fun b z => w0 b (w1 b (w2 b z)), q2, fun B2 H2 S2 t2 tr k n q => ?_⟩
      · show (H a).bind _ = some w
        rw [hu]
        show ((kidsO u)[j]?).bind _ = some w
        rw [ku, f1]
        exact f2
      · have q3 := k2 B2 H2 S2 t2 tr (fun b z z2 => k b (w0 b (w1 b z)) z2) (fun b z => (n b z).imp id fun n z2 => n (w0 b (w1 b z2))) q
        have hs3 : ∀ b, ((S1 b ∧ ¬ S' b) ∨ S2 b) → S1 b ∨ ¬ S0 b := fun b z => by
          rcases z with z | z
          · exact .inl z.1
          · rcases n b z with n | n
            · exact .inl (w2 b n)
            · exact .inr fun z2 => n (w0 b z2)
        have q4 := k1 B2 H2 _ _ tr (fun b z z2 => k b (w0 b z) (fun z3 => z2 (w2 b z3))) hs3 q3
        have ha' : ¬ S' a := fun z => n0 (w1 a (w2 a z))
        have q5 := mk B2 H2 _ _ (k a sa ha') (fun b z => ?_) (by simp) q4
        · show OT g B2 H2 (.ref a) (match t.kids[j]? with | some c => t.withKids (t.kids.set j (T.put js t2 c)) | none => t) _
          rw [e1]
          refine q5.more fun b z => ?_
          rcases z with (z | z | z) | z
          · exact .inl ⟨w0 b z.1, fun z2 => z.2 (w2 b z2)⟩
          · exact .inl ⟨w0 b (w1 b z.1), z.2⟩
          · exact .inr z
          · rw [z]; exact .inl ⟨sa, ha'⟩
        · intro zz
          rw [zz] at z
          rcases z with z | z | z
          · exact n0 z.1
          · exact n0 (w1 a z.1)
          · rcases n a z with n | n
            · exact ha' n
            · exact n sa
    cases h with
    | lf _ => cases e1
    | pl _ _ => cases e1
    | @lst a vs ts _ S0 sa h1 w nn rr =>
      exact key rfl sa h1 rfl w nn rr fun B2 H2 S3 us he hn hl q => .lst S3 (.inr rfl) (by rw [he]; exact h1) (fun b z => .inl z) (fun z => hn a z rfl) q
    | @dk a kvs ks ts _ S0 sa h1 ek w nn rr =>
      rcases h1 with h1 | ⟨o, h1⟩
      · exact key rfl sa h1 rfl w nn rr fun B2 H2 S3 us he hn hl q => .dk S3 (.inr rfl) (.inl (by rw [he]; exact h1)) ek (fun b z => .inl z) (fun z => hn a z rfl) q
      · exact key rfl sa h1 rfl w nn rr fun B2 H2 S3 us he hn hl q => .dk S3 (.inr rfl) (.inr ⟨o, by rw [he]; exact h1⟩) ek (fun b z => .inl z) (fun z => hn a z rfl) q
    | @ins a dx c fs ts _ S0 sa h1 ef w nn rr =>
      exact key rfl sa h1 rfl w nn rr fun B2 H2 S3 us he hn hl q => .ins S3 (.inr rfl) (by rw [he]; exact h1) (by rw [ef, show ts.length = us.length from hl.symm]) (fun b z => .inl z) (fun z => hn a z rfl) q
end
section
variable {g : G} {io : List Nat} {M O : AS} {fp : Nat → AS} {ρ : Rho} {π : Pin} {σ : St} {H : Hp}
/-- a slot's tree is changed at a path -/
theorem At.mut {i : Nat} {t sub : T} {is : List Nat} (at_ : At g io M O fp ρ π σ H) (e : ownT ρ i = some t) (ea : T.at_ is t = some sub) :
    ∃ v w S', σ[i]? = some (some v) ∧ walkV H v is = some w ∧ (∀ a, S' a → O a ∧ fp i a) ∧ OT g (M.u O) H w sub S' ∧
      ∀ (H2 : Hp) (Sx S2 : AS) (t2 : T), Kp S' H H2 → (∀ a, Sx a → S' a ∨ H a = none ∨ (O a ∧ ∀ j, ¬ fp j a)) → (∀ a, Sx a → ∃ u, H2 a = some u ∧ mutK u) → (∀ a, S2 a → Sx a) → OT g (M.u ((O.mi S').u Sx)) H2 w t2 S2 →
        Kp O H H2 ∧ Nw O H ((O.mi S').u Sx) ∧ ∃ fp2, At g io M ((O.mi S').u Sx) fp2 (ρ.set i (some (.own (T.put is t2 t)))) π σ H2 ∧ ∀ j a, fp2 j a → Sx a → S2 a := by
  have e0 := ownT_at e
  obtain ⟨v, e1, q⟩ := at_.en.at_ i _ e0
  have q : OT g (M.u O) H v t (fp i) := q
  obtain ⟨w, S', f1, f2, f3, f4⟩ := q.path ea
  have so : ∀ a, S' a → O a := fun a z => at_.en.fo i a (f2 a z)
  have hi : i < ρ.length := by
    by_cases hi : i < ρ.length
    · exact hi
    · rw [List.getElem?_eq_none (by simpa using hi)] at e0; cases e0
  refine ⟨v, w, S', e1, f1, fun a z => ⟨so a z, f2 a z⟩, f3, fun H2 Sx S2 t2 kp ns tk s2 q2 => ?_⟩
  have kpO : Kp O H H2 := fun a u h1 h2 => kp a u (fun z => h1 (so a z)) h2
  have nw : Nw O H ((O.mi S').u Sx) := fun a z => z.elim (fun z => .inl z.1) fun z => by
    rcases ns a z with z | z | z
    · exact .inl (so a z)
    · exact .inr z
    · exact .inl z.1
  have tr : Tr (M.u O) H (M.u ((O.mi S').u Sx)) H2 := kpO.tr' nw
  have nodes : ∀ a, O a → ¬ S' a → H2 a = H a := fun a z z2 => by
    obtain ⟨u, e, _⟩ := at_.cd.o a z
    rw [e]; exact kp a u z2 e
  have hSx : ∀ {j : Nat} {a : Addr}, fp j a → ¬ S' a → ¬ Sx a := fun {j a} z z1 z2 => by
    rcases ns a z2 with ns | ns | ns
    · exact z1 ns
    · obtain ⟨u, e, _⟩ := at_.cd.o a (at_.en.fo j a z)
      rw [ns] at e; cases e
    · exact ns.2 j z
  have hS' : ∀ {j : Nat} {a : Addr}, j ≠ i → fp j a → ¬ S' a := fun {j a} hj z z2 => at_.en.ds i j a (Ne.symm hj) (f2 a z2) z
  refine ⟨kpO, nw, fpSet fp i (fun a => (fp i a ∧ ¬ S' a) ∨ S2 a), ⟨⟨fun a z => ?_, fun a z => ?_, fun a z hm => ?_⟩, ⟨by simp [at_.en.len], fun j r er => ?_, fun j a z => ?_, fun j a z => ?_, fun j k a ne z1 z2 => ?_⟩, at_.io, at_.pn⟩, fun j a z z2 => ?_⟩
  · obtain ⟨u, e, m⟩ := at_.cd.m a z
    exact ⟨u, kp a u (fun z2 => at_.cd.d a (so a z2) z) e, m⟩
  · rcases z with z | z
    · obtain ⟨u, e, m⟩ := at_.cd.o a z.1
      exact ⟨u, by rw [nodes a z.1 z.2]; exact e, m⟩
    · exact tk a z
  · rcases z with z | z
    · exact at_.cd.d a z.1 hm
    · rcases ns a z with ns | ns | ns
      · exact at_.cd.d a (so a ns) hm
      · exact at_.cd.fresh ns (.inl hm)
      · exact at_.cd.d a ns.1 hm
  · by_cases z : i = j
    · subst z
      rw [List.getElem?_set_self hi] at er
      cases er
      refine ⟨v, e1, ?_⟩
      rw [fpSet_self]
      refine f4 _ H2 S2 t2 tr (fun a z z2 => nodes a (at_.en.fo i a z) z2) (fun a z => ?_) q2
      by_cases z3 : S' a
      · exact .inl z3
      · exact .inr fun z2 => hSx z2 z3 (s2 a z)
    · rw [List.getElem?_set_ne z] at er
      obtain ⟨x, e2, q3⟩ := at_.en.at_ j r er
      refine ⟨x, e2, ?_⟩
      rw [fpSet_ne (Ne.symm z)]
      cases r with
      | shr d => exact Rep.tr tr q3
      | own t' => exact OT.tr tr (fun a u z1 e => .inl (by rw [nodes a (at_.en.fo j a z1) (hS' (Ne.symm z) z1)]; exact e)) q3
      | tmp t' => obtain ⟨S, k, q⟩ := q3; exact ⟨S, k, q.tr tr fun a u z1 e => .inl (kp a u (fun z2 => at_.cd.d a (so a z2) (k a z1)) e)⟩
      | vw t' => exact XM.mono (fun a fs e => kp a _ (fun z2 => xd_no (at_.cd.o a (so a z2)) e) e) q3
  · by_cases q : j = i
    · subst q
      rw [fpSet_self] at z
      exact z.imp (fun z => ⟨at_.en.fo j a z.1, z.2⟩) (s2 a)
    · rw [fpSet_ne q] at z
      exact .inl ⟨at_.en.fo j a z, hS' q z⟩
  · by_cases q : j = i
    · subst q
      exact ⟨_, List.getElem?_set_self hi⟩
    · rw [fpSet_ne q] at z
      rw [List.getElem?_set_ne (Ne.symm q)]
      exact at_.en.fr j a z
  · by_cases q : j = i
    · subst q
      rw [fpSet_self] at z1
      rw [fpSet_ne (Ne.symm ne)] at z2
      rcases z1 with z1 | z1
      · exact at_.en.ds j k a ne z1.1 z2
      · exact hSx z2 (hS' (Ne.symm ne) z2) (s2 a z1)
    · rw [fpSet_ne q] at z1
      by_cases q2 : k = i
      · subst q2
        rw [fpSet_self] at z2
        rcases z2 with z2 | z2
        · exact at_.en.ds k j a (Ne.symm ne) z2.1 z1
        · exact hSx z1 (hS' ne z1) (s2 a z2)
      · rw [fpSet_ne q2] at z2; exact at_.en.ds j k a ne z1 z2
  · by_cases q : j = i
    · subst q
      rw [fpSet_self] at z
      exact z.elim (fun z => absurd z2 (hSx z.1 z.2)) id
    · rw [fpSet_ne q] at z
      exact absurd z2 (hSx z (hS' q z))
end
end
end Q

end

section
set_option Elab.async false
set_option linter.all false
set_option maxRecDepth 100000
set_option maxHeartbeats 1000000
/-! Q10: paths in the text; statements that change a part of a tree. -/
namespace Q
noncomputable section
open PySem PySem.Spec L2
open PyProof.Rows hiding St

/-- a part of a slot's tree -/
structure Pt where
  i : Nat
  is : List Nat
def partT (ρ : Rho) (p : Pt) : Option T := (ownT ρ p.i).bind (T.at_ p.is)
/-- the reading of a path -/
def tP (g : G) (W : WX) (f : Rho → Rx Pt) : TE := fun σ H Q => ∃ M O fp ρ, Cd M O H ∧ EnvR g M O fp σ H ρ ∧ (f ρ).hold (fun p => ∃ t, ownT ρ p.i = some t ∧ ∀ v w H', Same H H' → σ[p.i]? = some (some v) → walkV H' v p.is = some w → Q w H') (EW g M O H W σ)
/-- a field's place -/
def pfldR (j lo hi : Nat) (ρ : Rho) (p : Pt) : Option Pt := (partT ρ p).bind fun t => match t with
  | .ins c ts => if lo ≤ c ∧ c < hi ∧ j < ts.length then some ⟨p.i, p.is ++ [j]⟩ else none
  | _ => none
/-- an item's place -/
def posK : List Key → Key → Nat → Option Nat
  | [], _, _ => none
  | k' :: ks, k, n => if k' = k then some n else posK ks k (n + 1)
def psubR (t : T) (p : Pt) (r : R) : Option Pt := match t with
  | .lst ts => (match r.d with
    | .int i => (ixN ts.length i).bind fun j => some ⟨p.i, p.is ++ [j]⟩
    | _ => none)
  | .dk ks _ => (keyD r.d).bind fun k => (posK ks k 0).bind fun j => some ⟨p.i, p.is ++ [j]⟩
  | _ => none
theorem partT_own {ρ : Rho} {q : Pt} {sub : T} (h : partT ρ q = some sub) : ∃ t, ownT ρ q.i = some t := by
  unfold partT at h
  obtain ⟨t, et, _⟩ := Option.bind_eq_some_iff.mp h
  exact ⟨t, et⟩
section
variable {X : Cx} {g : G} {n : Nat} {W : WX} {io : List Nat} {pos pos' p apos cpos : Pos} {x m : Str} {e a b k : Expr} {es : List Expr} {fe fa fb fk : Rho → Rx R} {fp_ : Rho → Rx Pt}
theorem p_nm {i : Nat} (hN : X.N[i]? = some x) (hv : Vis X.env.scope x) (hd : (x == ("__debug__" : Str)) = false) (hcd : (x == ("__classdict__" : Str)) = false) : PE X (.Name x pos) (tP g W fun ρ => (Rx.lift (ownT ρ i)).bind fun _ => .ok ⟨i, []⟩) :=
  PE.to (pe_var hN hv hd hcd) fun σ H Q ⟨M, O, fp, ρ, c, en, h⟩ => by
    obtain ⟨t, et, h⟩ := h.hb.hl
    obtain ⟨t', e', k⟩ := h
    obtain ⟨v, e1, q⟩ := en.at_ i _ (ownT_at et)
    exact ⟨v, e1, k v v H (Same.refl H) e1 rfl⟩
/-- what stands at a path -/
theorem part_at {M O : AS} {fp : Nat → AS} {σ : St} {H H' : Hp} {ρ : Rho} {q : Pt} {t sub : T} {v w : V} (c : Cd M O H) (en : EnvR g M O fp σ H ρ) (s : Same H H') (e : ownT ρ q.i = some t) (ep : partT ρ q = some sub) (ev : σ[q.i]? = some (some v)) (ew : walkV H' v q.is = some w) :
    ∃ S', (∀ a, S' a → O a) ∧ OT g (M.u O) H' w sub S' := by
  unfold partT at ep
  rw [e] at ep
  obtain ⟨v', e1, q1⟩ := (en.same s).at_ q.i _ (ownT_at e)
  rw [ev] at e1; cases e1
  have q1 : OT g (M.u O) H' v t (fp q.i) := q1
  obtain ⟨w', S', f1, f2, f3, _⟩ := q1.path (show T.at_ q.is t = some sub from ep)
  rw [ew] at f1; cases f1
  exact ⟨S', fun a z => en.fo q.i a (f2 a z), f3⟩
theorem p_fld (f : Fit X g n) {nm : Str} {j lo hi : Nat} (hx : okx a = true) (S : FldSat g nm j lo hi) (ha : PE X a (tP g W fp_)) : PE X (.Attribute a nm pos) (tP g W fun ρ => (fp_ ρ).bind fun q => .lift (pfldR j lo hi ρ q)) :=
  PE.to (pe_fld ha (okx_base hx nm X.env)) fun σ H Q ⟨M, O, fp, ρ, c, en, h⟩ => ⟨M, O, fp, ρ, c, en, h.hb.imp (fun q h1 => by
    obtain ⟨q', e, t', et', k⟩ := h1.hl
    obtain ⟨sub, es, e⟩ := Option.bind_eq_some_iff.mp e
    have eo : ∃ t, ownT ρ q.i = some t := by
      unfold partT at es
      obtain ⟨t, et, _⟩ := Option.bind_eq_some_iff.mp es
      exact ⟨t, et⟩
    obtain ⟨t, et⟩ := eo
    refine ⟨t, et, fun v w H' s ev ew => ?_⟩
    obtain ⟨S', so, ot⟩ := part_at c en s et es ev ew
    split at e
    · rename_i cc ts
      split at e
      · rename_i hc
        cases e
        cases ot with
        | @ins p dx _ fs _ _ S0 ss h1 h2 w0 nn rr =>
          obtain ⟨s1', s2', s3', s4'⟩ := S.at_ cc hc.1 hc.2.1
          have hj : j < (fs.map (·.2)).length := by rw [rr.length]; exact hc.2.2
          obtain ⟨u, hu⟩ : ∃ u, (fs.map (·.2))[j]? = some u := ⟨_, List.getElem?_eq_getElem hj⟩
          refine ⟨p, g.cl cc, dx, fs, u, rfl, h1, by rw [f.K]; exact s3', by rw [f.K]; exact s4', look_pre h2 s2' s1' hu, k v u H' s ev ?_⟩
          rw [walkV_app ew]
          show (H' p).bind _ = some u
          rw [h1]
          show ((fs.map (·.2))[j]?).bind _ = some u
          rw [hu]; rfl
      · cases e
    · cases e) fun _ z => z⟩
theorem posK_at : ∀ {ks : List Key} {k : Key} {n m : Nat}, posK ks k n = some m → ∃ j, m = n + j ∧ j < ks.length ∧ ∀ kvs : List (Key × V), kvs.map (·.1) = ks → ∃ u, (kvs.map (·.2))[j]? = some u ∧ valV kvs k = some u
  | [], _, _, _, h => by cases h
  | k' :: ks, k, n, m, h => by
    unfold posK at h
    split at h
    · rename_i z
      cases h
      refine ⟨0, rfl, by simp, fun kvs e => ?_⟩
      cases kvs with
      | nil => simp at e
      | cons p kvs =>
        simp only [List.map_cons, List.cons.injEq] at e
        exact ⟨p.2, rfl, valV_pos (e.1.trans z)⟩
    · rename_i z
      obtain ⟨j, e1, e2, e3⟩ := posK_at h
      refine ⟨j + 1, by omega, by simpa using e2, fun kvs e => ?_⟩
      cases kvs with
      | nil => simp at e
      | cons p kvs =>
        simp only [List.map_cons, List.cons.injEq] at e
        obtain ⟨u, f1, f2⟩ := e3 kvs e.2
        exact ⟨u, by simpa using f1, by rw [valV_neg (fun w => z (e.1.symm.trans w))]; exact f2⟩
/-- an item's place is evaluated: P[k] -/
theorem p_sub (f : Fit X g n) (hx : okx k = true) (ha : PE X a (tP g W fp_)) (hk : PE X k (tX g W fk)) : PE X (.Subscript a k pos) (tP g W fun ρ => (fp_ ρ).bind fun q => (Rx.lift (partT ρ q)).bind fun t => (fk ρ).bind fun r => .lift (psubR t q r)) := by
  refine PE.to (pe_ix (IxR.or (ix_seq (X := X)) (ix_dict f.hu)) ha hk (fun o i => okx_sub hx o i)) fun σ H Q ⟨M, O, fp, ρ, c, en, h⟩ => ⟨M, O, fp, ρ, c, en, h.hb.imp (fun q h1 => ?_) fun _ z => z⟩
  obtain ⟨sub, es, h2⟩ := h1.hb.hl
  obtain ⟨t, et⟩ := partT_own es
  refine ⟨t, et, fun v w H1 s1 ev ew => ⟨M, O, fp, ρ, c.same s1, en.same s1, h2.hb.imp (fun r h3 y H2 s2 xy => ?_) fun _ => EW.same s1⟩⟩
  have s := s1.trans s2
  have ew2 := walkV_same s2 ew
  obtain ⟨S', so, ot⟩ := part_at c en s et es ev ew2
  obtain ⟨q', e, t', et', kk⟩ := h3.hl
  unfold psubR at e
  split at e
  · rename_i ts
    split at e
    · rename_i i ei
      obtain ⟨j, ej, e⟩ := Option.bind_eq_some_iff.mp e
      cases e
      cases ot with
      | @lst p vs _ _ S0 ss h1 w0 nn rr =>
        have hl := rr.length
        obtain ⟨u, eu⟩ : ∃ u, vs[j]? = some u := ⟨_, List.getElem?_eq_getElem (by rw [hl]; exact (ixN_seq ej).2.1)⟩
        refine .inl (.inl ⟨p, vs, i, u, rfl, xy.flat_int ei, SqL.of h1, ?_, kk v u H2 s ev ?_⟩)
        · unfold atI
          rw [hl]
          show (ixN ts.length i).bind _ = _
          rw [ej]
          exact eu
        · rw [walkV_app ew2]
          show (H2 p).bind _ = some u
          rw [h1]
          show (vs[j]?).bind _ = some u
          rw [eu]; rfl
    · cases e
  · rename_i ks ts
    obtain ⟨key, ekey, e⟩ := Option.bind_eq_some_iff.mp e
    obtain ⟨j, ej, e⟩ := Option.bind_eq_some_iff.mp e
    cases e
    cases ot with
    | @dk p kvs _ _ _ S0 ss h1 ek w0 nn rr =>
      obtain ⟨j', e1, e2, e3⟩ := posK_at ej
      have : j' = j := by omega
      subst this
      obtain ⟨u, f1, f2⟩ := e3 kvs ek
      have ey := keyD_val xy.view ekey
      refine .inr ⟨p, u, rfl, .inl ⟨kvs, key, h1, ey, f2.symm⟩, kk v u H2 s ev ?_⟩
      rw [walkV_app ew2]
      show (H2 p).bind _ = some u
      rcases h1 with h1 | ⟨o, h1⟩
      · rw [h1]
        show ((kvs.map (·.2))[j']?).bind _ = some u
        rw [f1]; rfl
      · rw [h1]
        show ((kvs.map (·.2))[j']?).bind _ = some u
        rw [f1]; rfl
  · cases e
end
end
end Q

end

section
set_option Elab.async false
set_option linter.all false
set_option maxRecDepth 100000
set_option maxHeartbeats 1000000
/-! Q11: actions (values that change what is owned), statements that change a part of a tree. -/
namespace Q
noncomputable section
open PySem PySem.Spec L2
open PyProof.Rows hiding St

inductive Ra where
  | bad | ok (r : R) (ρ : Rho) | ex (x : Exc) (ρ : Rho)
def AOk (g : G) (W : WX) (io : List Nat) (π : Pin) (M O : AS) (σ : St) (H : Hp) (Q : VK) : Ra → Prop
  | .bad => False
  | .ok r ρ' => ∀ v H' O' fp', Kp O H H' → Nw O H O' → At g io M O' fp' ρ' π σ H' → RetR g M O' fp' H' v r → Q v H'
  | .ex x ρ' => ∀ cls d H' O' fp', Kp O H H' → Nw O H O' → At g io M O' fp' ρ' π σ H' → XEx g (M.u O') H' cls d x → W cls d σ H'
def tA (g : G) (W : WX) (io : List Nat) (f : Rho → Ra) : TE := fun σ H Q => ∃ M O fp ρ π, At g io M O fp ρ π σ H ∧ AOk g W io π M O σ H Q (f ρ)
def bindA (a : Ra) (k : R → Rho → Option Out) : Option Out := match a with
  | .bad => none
  | .ok r ρ => k r ρ
  | .ex x ρ => some (.ex x ρ)
@[simp] theorem bindA_ok {r : R} {ρ : Rho} {k : R → Rho → Option Out} : bindA (.ok r ρ) k = k r ρ := rfl
@[simp] theorem bindA_ex {x : Exc} {ρ : Rho} {k : R → Rho → Option Out} : bindA (.ex x ρ) k = some (.ex x ρ) := rfl
@[simp] theorem bindA_bad {k : R → Rho → Option Out} : bindA .bad k = none := rfl
section
variable {g : G} {W : WX} {io : List Nat} {π : Pin} {M O O1 : AS} {fp : Nat → AS} {σ : St} {H H1 : Hp} {D0 : Ends} {ρ : Rho} {out : Out}
theorem bindA_hold {a : Ra} {k : R → Rho → Option Out} (at_ : At g io M O fp ρ π σ H) (e : bindA a k = some out) (h : OutOk g W π M O H out D0) {Q : VK}
    (kk : ∀ v H' O' fp' r ρ', Kp O H H' → Nw O H O' → At g io M O' fp' ρ' π σ H' → RetR g M O' fp' H' v r → k r ρ' = some out → OutOk g W π M O' H' out D0 → Q v H') : AOk g W io π M O σ H Q a := by
  cases a with
  | bad => cases e
  | ok r ρ' => exact fun v H' O' fp' k1 w1 a1 r1 => kk v H' O' fp' r ρ' k1 w1 a1 r1 e (h.on k1 w1)
  | ex x ρ' => cases e; exact fun cls d H' O' fp' k1 w1 a1 x1 => h cls d σ H' O' fp' k1 w1 a1.cd a1.en a1.pn x1
/-- less is owned -/
theorem At.less (at_ : At g io M O fp ρ π σ H) (k : ∀ a, O1 a → O a) (kf : ∀ j a, fp j a → O1 a) : At g io M O1 fp ρ π σ H := by
  have ls : ∀ a, (M.u O1) a → (M.u O) a := fun a z => z.imp id (k a)
  refine ⟨⟨at_.cd.m, fun a z => at_.cd.o a (k a z), fun a z => at_.cd.d a (k a z)⟩, ⟨at_.en.len, fun j r e => ?_, kf, at_.en.fr, at_.en.ds⟩, at_.io, at_.pn⟩
  obtain ⟨v, e1, q⟩ := at_.en.at_ j r e
  refine ⟨v, e1, ?_⟩
  cases r with
  | shr d => exact Rep.less ls q
  | own t => exact OT.less ls q
  | tmp t => obtain ⟨S, k, q⟩ := q; exact ⟨S, k, q.less ls⟩
  | vw t => exact q
theorem kp_less (k : ∀ a, O1 a → O a) : Nw O H O1 := fun a z => .inl (k a z)
/-- an answer becomes shared -/
theorem ret_leaf {r : R} {v : V} {d : D} (at_ : At g io M O fp ρ π σ H) (h : RetR g M O fp H v r) (e : kid r = some d) : ∃ O1, (∀ a, O1 a → O a) ∧ At g io M O1 fp ρ π σ H ∧ Rep g (M.u O1) H v d := by
  cases r with
  | shr x => cases e; exact ⟨O, fun _ z => z, at_, h⟩
  | own t =>
    cases e
    obtain ⟨S, f, ds, q⟩ := h
    refine ⟨O.mi S, fun a z => z.1, at_.less (fun a z => z.1) (fun j a z => ⟨at_.en.fo j a z, ds j a z⟩), ?_⟩
    exact q.view (Tr.less fun a z => z.imp id fun z => z.1) fun a u z e => ⟨fun z2 => z2.elim (fun z2 => at_.cd.d a (f a z) z2) fun z2 => z2.2 z, .inl e⟩
  | tmp t => exact h.elim
  | vw t => exact h.elim
def putP (ρ : Rho) (q : Pt) (t2 : T) : Option Rho := (ownT ρ q.i).map fun t => ρ.set q.i (some (.own (T.put q.is t2 t)))
theorem as_eq {S T : AS} (h : ∀ a, S a ↔ T a) : S = T := funext fun a => propext (h a)
theorem mi_u {O S : AS} (h : ∀ a, S a → O a) : (O.mi S).u S = O := as_eq fun a => ⟨fun z => z.elim (fun z => z.1) (h a), fun z => by
  by_cases q : S a
  · exact .inr q
  · exact .inl ⟨z, q⟩⟩
/-- a flat list or dict of a tree is changed -/
theorem At.plMut {q : Pt} {d : Q.D} (at_ : At g io M O fp ρ π σ H) (es : partT ρ q = some (.pl d)) : ∃ v a, σ[q.i]? = some (some v) ∧ walkV H v q.is = some (.ref a) ∧ O a ∧ Top g (M.u O) H a d ∧
    ∀ H2 o d2, Same H H2 → mutK o → Top g (M.u O) (upd H2 a o) a d2 → Kp O H (upd H2 a o) ∧ ∃ fp2 ρ2, putP ρ q (.pl d2) = some ρ2 ∧ At g io M O fp2 ρ2 π σ (upd H2 a o) := by
  obtain ⟨t, et⟩ := partT_own es
  have es' := es
  unfold partT at es'
  rw [et] at es'
  obtain ⟨v, w, S', f1, f2, f3', f4, f5⟩ := at_.mut et (show T.at_ q.is t = some (.pl d) from es')
  have f3 : ∀ a, S' a → O a := fun a z => (f3' a z).1
  cases f4 with
  | @pl a _ _ ss top =>
    refine ⟨v, a, f1, f2, f3 a ss, top, fun H2 o d2 s mo tp => ?_⟩
    have kp : Kp S' H (upd H2 a o) := fun b u h1 h2 => by
      rw [upd_ne (fun z => h1 (by rw [z]; exact ss))]; exact s b u h2
    have key := f5 (upd H2 a o) S' S' (.pl d2) kp (fun b z => .inl z) (fun b z => ?_) (fun _ z => z) (by rw [mi_u f3]; exact .pl ss tp)
    · rw [mi_u f3] at key
      obtain ⟨k1, k2, fp2, a2, _⟩ := key
      exact ⟨k1, fp2, _, by unfold putP; rw [et]; rfl, a2⟩
    · by_cases z2 : b = a
      · subst z2; exact ⟨o, upd_same, mo⟩
      · obtain ⟨u, e, m⟩ := at_.cd.o b (f3 b z)
        exact ⟨u, by rw [upd_ne z2]; exact s b u e, m⟩
theorem off_tr {a : Addr} {o : HO} {B : AS} (ba : B a) : Tr B H B (upd H a o) := ⟨fun _ _ h _ => h, fun b u h e => .inl (by rw [upd_ne (fun z => h (by rw [z]; exact ba))]; exact e)⟩
end
section
variable {X : Cx} {g : G} {n : Nat} {W : WX} {io : List Nat} {pos pos' p apos cpos tpos : Pos} {x m : Str} {e a b k value : Expr} {es : List Expr} {fe fa fb fk : Rho → Rx R} {fp_ : Rho → Rx Pt} {fA : Rho → Ra}
/-! ### actions -/
def aE (a : Rx R) (ρ : Rho) : Ra := match a with
  | .ok (.shr d) => .ok (.shr d) ρ
  | .ok (.own t) => .ok (.own t) ρ
  | .ex x => .ex x ρ
  | _ => .bad
theorem a_E (he : PE X e (tX g W fe)) : PE X e (tA g W io fun ρ => aE (fe ρ) ρ) :=
  PE.to he fun σ H Q ⟨M, O, fp, ρ, π, at_, h⟩ => by
    refine ⟨M, O, fp, ρ, at_.cd, at_.en, ?_⟩
    have h : AOk g W io π M O σ H Q (aE (fe ρ) ρ) := h
    cases er : fe ρ with
    | bad => rw [er] at h; exact h
    | ex x => rw [er] at h; exact fun cls d H' s q => h cls d H' O fp (Kp.of s) Nw.refl (at_.same s) q
    | ok r =>
      rw [er] at h
      intro v H1 s xv
      cases r with
      | shr d => exact h v H1 O fp (Kp.of s) Nw.refl (at_.same s) xv
      | own t =>
        obtain ⟨S, f, q⟩ := xv
        obtain ⟨nw, a1, rr⟩ := at_.adopt s f q
        exact h v H1 _ fp (Kp.of s) nw a1 rr
      | _ => exact h.elim
def aMv (i : Nat) (ρ : Rho) : Ra := match ownT ρ i with
  | some t => .ok (.own t) (ρ.set i none)
  | none => .bad
theorem a_mv {i : Nat} (hN : X.N[i]? = some x) (hv : Vis X.env.scope x) (hd : (x == ("__debug__" : Str)) = false) (hcd : (x == ("__classdict__" : Str)) = false) : PE X (.Name x p) (tA g W io (aMv i)) :=
  PE.to (pe_var hN hv hd hcd) fun σ H Q ⟨M, O, fp, ρ, π, at_, h⟩ => by
    unfold aMv at h
    split at h
    · rename_i t et
      have e3 := ownT_at et
      obtain ⟨v, e4, q⟩ := at_.en.at_ i _ e3
      obtain ⟨fp1, h1, a1⟩ := at_.lay e3
      exact ⟨v, e4, h v H O fp1 Kp.refl Nw.refl a1 ⟨fp i, fun a z => at_.en.fo i a z, h1, q⟩⟩
    · exact h.elim
/-! ### statements with an action -/
def asgA (i : Nat) (r : R) (ρ : Rho) : Option Out := if i < ρ.length then some (.nx (ρ.set i (some r))) else none
theorem s_asgA {i : Nat} (f : Fit X g n) (hio : i ∉ io) (hi : X.N[i]? = some x) (hx : Loc X.env.scope x) (hf : X.fn x = true ∨ X.env.scope.names.lookup x = some .local) (hs : swapsWith e (some (.Name x pos')) pos.line X.env = pure false) (he : PE X e (tA g W io fA)) :
    PS X (.Assign [.Name x pos'] e pos) (tS g W io fun ρ => bindA (fA ρ) (asgA i)) :=
  PS.to (ps_set f.nd hi hx he hs hf) fun D σ H ⟨M, O, fp, ρ, π, out, at_, e, k⟩ => ⟨M, O, fp, ρ, π, at_, bindA_hold at_ e k fun v H' O' fp' r ρ' k1 w1 a1 r1 er k2 => by
    unfold asgA at er
    split at er
    · rename_i hlt
      cases er
      obtain ⟨fp1, a2⟩ := a1.sto hio hlt r1
      exact k2 _ H' O' fp1 Kp.refl Nw.refl a2.cd a2.en a2.pn
    · cases er⟩
theorem s_exprA (hs : swapsWith e none pos.line X.env = pure false) (he : PE X e (tA g W io fA)) : PS X (.Expr e pos) (tS g W io fun ρ => bindA (fA ρ) fun _ ρ' => some (.nx ρ')) :=
  PS.to (ps_expr he hs) fun D σ H ⟨M, O, fp, ρ, π, out, at_, e, k⟩ => ⟨M, O, fp, ρ, π, at_, bindA_hold at_ e k fun v H' O' fp' r ρ' k1 w1 a1 r1 er k2 => by
    cases er
    exact k2 σ H' O' fp' Kp.refl Nw.refl a1.cd a1.en a1.pn⟩
theorem s_retA (he : PE X e (tA g W io fA)) : PS X (.Return (some e) pos) (tS g W io fun ρ => bindA (fA ρ) fun r ρ' => some (.rt r ρ')) :=
  PS.to (ps_ret he) fun D σ H ⟨M, O, fp, ρ, π, out, at_, e, k⟩ => ⟨M, O, fp, ρ, π, at_, bindA_hold at_ e k fun v H' O' fp' r ρ' k1 w1 a1 r1 er k2 => by
    cases er
    exact k2 v σ H' O' fp' Kp.refl Nw.refl a1.cd a1.en a1.pn r1⟩
/-! ### list methods -/
theorem few1 (env : Env) (cpos : Pos) (h : okx e = true) : ((backTo cpos (starEach [e] env)).all (fun x => !x.1) && (backToKw cpos (keywordEach [] env)).all (fun x => x.1.isSome)
      && decide ([e].length + ([] : List Keyword).length + (if ([] : List Keyword).isEmpty then 0 else 1) < 30)) = true := by
  have := okxs_all env cpos (es := [e]) (by show (okx e && true) = true; rw [h]; rfl)
  rw [this]
  rfl
def plLst : T → Option (List D)
  | .pl (.lst ds) => some ds
  | _ => none
theorem plLst_eq {t : T} {ds : List D} (h : plLst t = some ds) : t = .pl (.lst ds) := by
  unfold plLst at h
  split at h
  · cases h; rfl
  · cases h
def appF (ρ : Rho) (q : Pt) (ds : List D) (r : R) : Option Out := (kid r).bind fun d => if ds.length < sizeLine then (putP ρ q (.pl (.lst (ds ++ [d])))).map .nx else none
/-- P.append(e) -/
theorem s_app (hl : (apos.endLine == cpos.line) = true) (hxa : okx a = true) (hx : okx e = true) (ha : PE X a (tP g W fp_)) (he : PE X e (tX g W fe)) :
    PS X (.Expr (.Call (.Attribute a ("append" : Str) apos) [e] [] cpos) pos) (tS g W io fun ρ => bindO (fp_ ρ) ρ fun q => ((partT ρ q).bind plLst).bind fun ds => bindO (fe ρ) ρ fun r => appF ρ q ds r) :=
  PS.to (ps_expr (pe_bm PySem.F.plainAttrs_list PySem.F.slot_list_append PySem.F.type_list_append mt_append ha (pa_cons he pa_nil (okx_star hx [] X.env)) (okx_base hxa _ X.env) (few1 X.env cpos hx) hl (okx_star hx [] X.env) rfl)) fun D σ H ⟨M, O, fp, ρ, π, out, at_, e, k⟩ =>
    ⟨M, O, fp, ρ, at_.cd, at_.en, (bindO_hold at_ e k).imp (fun q e => by
      obtain ⟨ds, eds, e⟩ := Option.bind_eq_some_iff.mp e
      obtain ⟨sub, es, eds⟩ := Option.bind_eq_some_iff.mp eds
      obtain rfl := plLst_eq eds
      obtain ⟨t, et⟩ := partT_own es
      obtain ⟨v, a, f1, f2, f3, top, kk⟩ := at_.plMut es
      refine ⟨t, et, fun v0 w0 H1 s1 ev0 ew0 => ?_⟩
      rw [f1] at ev0; cases ev0
      rw [walkV_same s1 f2] at ew0; cases ew0
      obtain ⟨vs, h1, h2⟩ := top
      refine ⟨.inl ⟨rfl, vs, SqL.of (s1 _ _ h1)⟩, M, O, fp, ρ, at_.cd.same s1, at_.en.same s1, (bindO_hold at_ e k).imp (fun r e y H2 s2 xv => ?_) fun _ => EW.same s1⟩
      obtain ⟨d, ed, e⟩ := Option.bind_eq_some_iff.mp e
      split at e
      · rename_i hz
        obtain ⟨ρ2, ep, rfl⟩ := Option.map_eq_some_iff.mp e
        have s := s1.trans s2
        have kd := kid_ok (at_.cd.same s1) xv ed
        refine ⟨a, vs, y, rfl, rfl, s _ _ h1, by rw [h2.length]; exact hz, ?_⟩
        obtain ⟨k1, fp2, ρ3, e3, a2⟩ := kk H2 (.lst (vs ++ [y])) (.lst (ds ++ [d])) s trivial ⟨_, upd_same, ((h2.same s).tr (off_tr (.inr f3))).append (.cons (kd.tr (off_tr (.inr f3))) .nil)⟩
        rw [ep] at e3; cases e3
        exact k σ _ O fp2 k1 Nw.refl a2.cd a2.en a2.pn
      · cases e) fun _ z => z⟩
def extF (ρ : Rho) (q : Pt) (ds : List D) (r : R) : Option Out := match r.sh with
  | some (.lst es) => if ds.length + es.length ≤ sizeLine ∧ isVw r = false then (putP ρ q (.pl (.lst (ds ++ es)))).map .nx else none
  | _ => none
/-- P.extend(e) -/
theorem s_ext (hl : (apos.endLine == cpos.line) = true) (hxa : okx a = true) (hx : okx e = true) (ha : PE X a (tP g W fp_)) (he : PE X e (tX g W fe)) :
    PS X (.Expr (.Call (.Attribute a ("extend" : Str) apos) [e] [] cpos) pos) (tS g W io fun ρ => bindO (fp_ ρ) ρ fun q => ((partT ρ q).bind plLst).bind fun ds => bindO (fe ρ) ρ fun r => extF ρ q ds r) :=
  PS.to (ps_expr (pe_bm PySem.F.plainAttrs_list PySem.F.slot_list_extend PySem.F.type_list_extend mt_extend ha (pa_cons he pa_nil (okx_star hx [] X.env)) (okx_base hxa _ X.env) (few1 X.env cpos hx) hl (okx_star hx [] X.env) rfl)) fun D σ H ⟨M, O, fp, ρ, π, out, at_, e, k⟩ =>
    ⟨M, O, fp, ρ, at_.cd, at_.en, (bindO_hold at_ e k).imp (fun q e => by
      obtain ⟨ds, eds, e⟩ := Option.bind_eq_some_iff.mp e
      obtain ⟨sub, es, eds⟩ := Option.bind_eq_some_iff.mp eds
      obtain rfl := plLst_eq eds
      obtain ⟨t, et⟩ := partT_own es
      obtain ⟨v, a, f1, f2, f3, top, kk⟩ := at_.plMut es
      refine ⟨t, et, fun v0 w0 H1 s1 ev0 ew0 => ?_⟩
      rw [f1] at ev0; cases ev0
      rw [walkV_same s1 f2] at ew0; cases ew0
      obtain ⟨vs, h1, h2⟩ := top
      refine ⟨.inl ⟨rfl, vs, SqL.of (s1 _ _ h1)⟩, M, O, fp, ρ, at_.cd.same s1, at_.en.same s1, (bindO_hold at_ e k).imp (fun r e y H2 s2 xv => ?_) fun _ => EW.same s1⟩
      unfold extF at e
      split at e
      · rename_i es' er
        split at e
        · rename_i hz
          obtain ⟨ρ2, ep, rfl⟩ := Option.map_eq_some_iff.mp e
          have s := s1.trans s2
          obtain ⟨b, ws, rfl, h3, h4⟩ := xv.nod er
          refine ⟨a, b, vs, ws, rfl, rfl, s _ _ h1, h3, by rw [h2.length, h4.length]; exact hz.1, ?_⟩
          obtain ⟨k1, fp2, ρ3, e3, a2⟩ := kk H2 (.lst (vs ++ ws)) (.lst (ds ++ es')) s trivial ⟨_, upd_same, ((h2.same s).tr (off_tr (.inr f3))).append (h4.tr (off_tr (.inr f3)))⟩
          rw [ep] at e3; cases e3
          exact k σ _ O fp2 k1 Nw.refl a2.cd a2.en a2.pn
        · cases e
      · cases e) fun _ z => z⟩
/-- P.clear() -/
def clrF (ρ : Rho) (q : Pt) (t : T) : Option Out := match t with
  | .pl (.lst _) => (putP ρ q (.pl (.lst []))).map .nx
  | .pl (.dk _) => (putP ρ q (.pl (.dk []))).map .nx
  | .pl (.dt _) => (putP ρ q (.pl (.dt []))).map .nx
  | _ => none
theorem d_clearT {X : Cx} {pins : List (Addr × Obj)} {σ : St} {H : Hp} {s : Shared} {a : Addr} {kvs : List (List Key × V)} {A : Around} {E : Value → Shared → Prop} {Q : Value → Shared → Prop} (I : Inv X pins σ H s) (e : H a = some (.dT kvs)) (h : ∀ s', Inv X pins σ (upd H a (.dT [])) s' → Q .none s') :
    wpAny (model X.prog X.w) A (call (.builtin "dict.clear") [.ref a]) Q E s := by
  obtain ⟨z, hs, xs, pr, o2, es, ep, ho, hx, hdt, he, _⟩ := (show ObjOk X.prog X.w H s.heap a (.dT kvs) from I.hok a _ e)
  have l1 : es.size = xs.length := size_of_entries he
  have l2 : kvs.length = xs.length := Paired.length pr
  refine call_meetsIn PySem.F.slot_dict_clear ⟨o2, ho, hx.1⟩ PySem.F.entry_dict_clear (PySem.F.args_dict_clear_1 _) (PySem.meets_dict_clear_raw a) ⟨es, ep, ⟨o2, ho, hx, hdt⟩, by rw [l1, ← l2]; exact z, fun h' dd' hsb => h _ ?_⟩
  obtain ⟨o', ho', hx', hdt'⟩ := dd'
  exact d_write (t' := s.toks) I (by rw [e]; exact True.intro) hsb ⟨o', ho'⟩ ⟨Nat.zero_le _, hs, [], .nil, o', #[], ep + 1, ho', hx', hdt', rfl, by simp⟩
def rDClearT : V → List V → Hp → VK → Prop := fun x vs H Q => ∃ (a : Addr) (kvs : List (List Key × V)), x = .ref a ∧ vs = [] ∧ H a = some (.dT kvs) ∧ Q .non (upd H a (.dT []))
theorem mtd_clearT {X : Cx} : MtR X "dict.clear" rDClearT := by
  intro pins s σ H x vs v us Q I rx rv h
  obtain ⟨a, kvs, ex, ev, e, q⟩ := h
  subst ex
  subst ev
  obtain rfl : v = Value.ref a := rx
  have hus := rv.zero
  subst hus
  exact d_clearT I e fun s' I' => ⟨.non, _, I', rfl, q⟩
theorem own_dk {M O : AS} {H : Hp} {a : Addr} {u : HO} (c : Cd M O H) (h : O a) (r : Rd H a u) : H a = some u := by
  rcases r with r | ⟨o, r⟩
  · exact r
  · obtain ⟨w, e, m⟩ := c.o a h
    rw [r] at e; cases e
    exact m.elim
theorem s_clr (hl : (apos.endLine == cpos.line) = true) (hxa : okx a = true) (ha : PE X a (tP g W fp_)) :
    PS X (.Expr (.Call (.Attribute a ("clear" : Str) apos) [] [] cpos) pos) (tS g W io fun ρ => bindO (fp_ ρ) ρ fun q => (partT ρ q).bind fun t => clrF ρ q t) := by
  have key := PE.or (pe_bm0 (X := X) (cpos := cpos) PySem.F.plainAttrs_dict PySem.F.slot_dict_clear PySem.F.type_dict_clear mtd_clearT ha (okx_base hxa _ X.env) hl) (PE.or (pe_bm0 (X := X) (cpos := cpos) PySem.F.plainAttrs_list PySem.F.slot_list_clear PySem.F.type_list_clear mt_clear ha (okx_base hxa _ X.env) hl) (pe_dclear ha (okx_base hxa _ X.env) hl))
  refine PS.to (ps_expr key) fun D σ H ⟨M, O, fp, ρ, π, out, at_, e, k⟩ => ?_
  have e : bindO (fp_ ρ) ρ (fun q => (partT ρ q).bind fun t => clrF ρ q t) = some out := e
  cases eq : fp_ ρ with
  | bad => rw [eq] at e; cases e
  | ex x =>
    rw [eq] at e; cases e
    refine .inr (.inl ⟨M, O, fp, ρ, at_.cd, at_.en, ?_⟩)
    rw [eq]
    exact fun cls d H' s q => k cls d σ H' O fp (Kp.of s) Nw.refl (at_.cd.same s) (at_.en.same s) at_.pn q
  | ok q =>
    rw [eq] at e
    obtain ⟨sub, es, e⟩ := Option.bind_eq_some_iff.mp (show (partT ρ q).bind (fun t => clrF ρ q t) = some out from e)
    obtain ⟨t, et⟩ := partT_own es
    unfold clrF at e
    split at e
    · obtain ⟨ρ2, ep, rfl⟩ := Option.map_eq_some_iff.mp e
      obtain ⟨v, a, f1, f2, f3, top, kk⟩ := at_.plMut es
      refine .inr (.inl ⟨M, O, fp, ρ, at_.cd, at_.en, ?_⟩)
      rw [eq]
      refine ⟨t, et, fun v0 w0 H1 s1 ev0 ew0 => ?_⟩
      rw [f1] at ev0; cases ev0
      rw [walkV_same s1 f2] at ew0; cases ew0
      obtain ⟨vs, h1, h2⟩ := top
      refine ⟨.inl ⟨rfl, vs, SqL.of (s1 _ _ h1)⟩, a, vs, rfl, rfl, s1 _ _ h1, ?_⟩
      obtain ⟨k1, fp2, ρ3, e3, a2⟩ := kk H1 (.lst []) (.lst []) s1 trivial ⟨_, upd_same, .nil⟩
      rw [ep] at e3; cases e3
      exact k σ _ O fp2 k1 Nw.refl a2.cd a2.en a2.pn
    · obtain ⟨ρ2, ep, rfl⟩ := Option.map_eq_some_iff.mp e
      obtain ⟨v, a, f1, f2, f3, top, kk⟩ := at_.plMut es
      refine .inr (.inr ⟨M, O, fp, ρ, at_.cd, at_.en, ?_⟩)
      rw [eq]
      refine ⟨t, et, fun v0 w0 H1 s1 ev0 ew0 => ?_⟩
      rw [f1] at ev0; cases ev0
      rw [walkV_same s1 f2] at ew0; cases ew0
      obtain ⟨kvs, h1, h2, h3⟩ := top
      have h1 := own_dk at_.cd f3 h1
      refine ⟨.inr (.inr (.inl ⟨rfl, .inl ⟨kvs, s1 _ _ h1⟩⟩)), a, kvs, rfl, rfl, s1 _ _ h1, ?_⟩
      obtain ⟨k1, fp2, ρ3, e3, a2⟩ := kk H1 (.dK []) (.dk []) s1 trivial ⟨_, .inl upd_same, rfl, .nil⟩
      rw [ep] at e3; cases e3
      exact k σ _ O fp2 k1 Nw.refl a2.cd a2.en a2.pn
    · obtain ⟨ρ2, ep, rfl⟩ := Option.map_eq_some_iff.mp e
      obtain ⟨v, a, f1, f2, f3, top, kk⟩ := at_.plMut es
      refine .inl ⟨M, O, fp, ρ, at_.cd, at_.en, ?_⟩
      rw [eq]
      refine ⟨t, et, fun v0 w0 H1 s1 ev0 ew0 => ?_⟩
      rw [f1] at ev0; cases ev0
      rw [walkV_same s1 f2] at ew0; cases ew0
      obtain ⟨kvs, h1, h2, h3⟩ := top
      have h1 := own_dk at_.cd f3 h1
      refine ⟨.inr (.inr (.inl ⟨rfl, .inr ⟨kvs, s1 _ _ h1⟩⟩)), a, kvs, rfl, rfl, s1 _ _ h1, ?_⟩
      obtain ⟨k1, fp2, ρ3, e3, a2⟩ := kk H1 (.dT []) (.dt []) s1 trivial ⟨_, .inl upd_same, rfl, .nil⟩
      rw [ep] at e3; cases e3
      exact k σ _ O fp2 k1 Nw.refl a2.cd a2.en a2.pn
    · cases e
end
end
end Q

end

section
set_option Elab.async false
set_option linter.all false
set_option maxRecDepth 100000
set_option maxHeartbeats 1000000
/-! Q12: P[k] = v, P.f = v, P[k] += e. -/
namespace Q
noncomputable section
open PySem PySem.Spec L2
open PyProof.Rows hiding St

section
variable {g : G} {B B2 : AS} {H H2 : Hp}
theorem OTs.rep {w : V} {c2 : T} {S3 : AS} (q : OT g B2 H2 w c2 S3) (tr : Tr B H B2 H2) : ∀ {vs : List V} {ts : List T} {S : AS} (j : Nat), OTs g B H vs ts S → (∀ a u, S a → H a = some u → H2 a = some u) → (∀ a, S3 a → ¬ S a) → OTs g B2 H2 (vs.set j w) (ts.set j c2) (S.u S3)
  | _, _, _, _, .nil, _, _ => .nil
  | _, _, S, 0, .cons S1 S2 w1 w2 ds h r, k, n => .cons S3 S2 (fun a z => .inr z) (fun a z => .inl (w2 a z)) (fun a z z2 => n a z (w2 a z2)) q (r.tr tr fun a u z e => .inl (k a u (w2 a z) e))
  | _, _, S, j + 1, .cons S1 S2 w1 w2 ds h r, k, n =>
    .cons S1 (S2.u S3) (fun a z => .inl (w1 a z)) (fun a z => z.imp (w2 a) id) (fun a z z2 => z2.elim (ds a z) fun z2 => n a z2 (w1 a z)) (h.tr tr fun a u z e => .inl (k a u (w1 a z) e))
      (OTs.rep q tr j r (fun a u z e => k a u (w2 a z) e) fun a z z2 => n a z (w2 a z2))
theorem OTs.app {w : V} {c2 : T} {S3 : AS} (q : OT g B2 H2 w c2 S3) (tr : Tr B H B2 H2) : ∀ {vs : List V} {ts : List T} {S : AS}, OTs g B H vs ts S → (∀ a u, S a → H a = some u → H2 a = some u) → (∀ a, S3 a → ¬ S a) → OTs g B2 H2 (vs ++ [w]) (ts ++ [c2]) (S.u S3)
  | _, _, _, .nil, _, _ => .cons S3 .no (fun a z => .inr z) (fun a z => z.elim) (fun a z z2 => z2) q .nil
  | _, _, S, .cons S1 S2 w1 w2 ds h r, k, n =>
    .cons S1 (S2.u S3) (fun a z => .inl (w1 a z)) (fun a z => z.imp (w2 a) id) (fun a z z2 => z2.elim (ds a z) fun z2 => n a z2 (w1 a z)) (h.tr tr fun a u z e => .inl (k a u (w1 a z) e))
      (OTs.app q tr r (fun a u z e => k a u (w2 a z) e) fun a z z2 => n a z (w2 a z2))
end
theorem putK_pos {κ : Type} [DecidableEq κ] {α : Type} : ∀ {kvs : List (Key × V)} {k : Key} {w : V} {n m : Nat}, (kvs.map (·.1)).Nodup → posK (kvs.map (·.1)) k n = some m → ∃ j, m = n + j ∧ j < kvs.length ∧ putK kvs k w = kvs.set j (k, w) ∧ (kvs.map (·.1))[j]? = some k
  | [], _, _, _, _, _, h => by cases h
  | p :: kvs, k, w, n, m, nd, h => by
    simp only [List.map_cons, List.nodup_cons] at nd
    simp only [List.map_cons, posK] at h
    split at h
    · rename_i z
      cases h
      refine ⟨0, rfl, by simp, ?_, by simp [z]⟩
      have hno : ∀ q ∈ kvs, q.1 ≠ k := fun q hq e => nd.1 (by rw [z, ← e]; exact List.mem_map_of_mem hq)
      unfold putK
      rw [if_pos (by simp [z])]
      rw [List.map_cons, if_pos z]
      show (p.1, w) :: kvs.map _ = (k, w) :: kvs
      rw [z]
      congr 1
      refine (List.map_congr_left fun q hq => ?_).trans (List.map_id kvs)
      rw [if_neg (hno q hq)]; rfl
    · rename_i z
      obtain ⟨j, e1, e2, e3, e4⟩ := putK_pos (κ := κ) (α := α) (w := w) nd.2 h
      refine ⟨j + 1, by omega, by simpa using e2, ?_, by simpa using e4⟩
      have hany : (kvs.any fun kv => decide (kv.1 = k)) = true := by
        rw [List.getElem?_map] at e4
        obtain ⟨q, hq, hk⟩ := Option.map_eq_some_iff.mp e4
        exact List.any_eq_true.mpr ⟨q, List.mem_of_getElem? hq, by simp [hk]⟩
      unfold putK at e3 ⊢
      rw [if_pos hany] at e3
      rw [if_pos (by rw [List.any_cons, hany, Bool.or_true]), List.map_cons, if_neg z, e3]
      rfl
theorem putK_new {kvs : List (Key × V)} {k : Key} {w : V} : ∀ {n : Nat}, posK (kvs.map (·.1)) k n = none → putK kvs k w = kvs ++ [(k, w)] := fun {n} h => by
  have hno : (kvs.any fun kv => decide (kv.1 = k)) = false := by
    induction kvs generalizing n with
    | nil => rfl
    | cons p kvs ih =>
      simp only [List.map_cons, posK] at h
      split at h
      · cases h
      · rename_i z
        rw [List.any_cons, ih h]
        simp [z]
  unfold putK
  rw [if_neg (by rw [hno]; decide)]
/-- what is put in: a tree, or shared data -/
def childT : R → Option T
  | .shr d => some (.lf d)
  | .own t => some t
  | _ => none
def putT (t : T) (r rk : R) : Option T := match t with
  | .pl (.dk ds) => (kid r).bind fun d => (keyD rk.d).bind fun key => if ds.length < sizeLine then some (.pl (.dk (putD ds key d))) else none
  | .pl (.dt ds) => (kid r).bind fun d => (match rk.d with
    | .tup xs => (keysD xs).bind fun key => if ds.length < sizeLine then some (.pl (.dt (putD ds key d))) else none
    | _ => none)
  | .pl (.lst ds) => (kid r).bind fun d => (match rk.d with
    | .int j => (ixN ds.length j).bind fun jj => some (.pl (.lst (ds.set jj d)))
    | _ => none)
  | .lst ts => (childT r).bind fun c => (match rk.d with
    | .int j => (ixN ts.length j).bind fun jj => some (.lst (ts.set jj c))
    | _ => none)
  | .dk ks ts => (childT r).bind fun c => (keyD rk.d).bind fun key => if ks.Nodup ∧ ts.length < sizeLine then (match posK ks key 0 with
      | some j => some (.dk ks (ts.set j c))
      | none => some (.dk (ks ++ [key]) (ts ++ [c]))) else none
  | _ => none
def putF1 (ρ : Rho) (q : Pt) (t : T) (r rk : R) : Option Out := (putT t r rk).bind fun t2 => (putP ρ q t2).map .nx
theorem okx_assign {k : Expr} (h : okx k = true) (o : Expr) (env : Env) (pos' : Pos) (v : Value) : assign (.Subscript o k pos') env v = (do
      let ov ← holding [v] (eval o env)
      let iv ← holding [v, ov] (eval k env)
      standAt pos'
      holding [v, ov, iv] (setItem ov iv v)
      release [v, ov, iv] []) := by
  cases k <;> first | rfl | (exfalso; revert h; simp [okx]; done)
section
variable {X : Cx} {g : G} {n : Nat} {W : WX} {io : List Nat} {pos pos' p apos cpos tpos : Pos} {x m : Str} {e a b k value : Expr} {es : List Expr} {fe fa fb fk : Rho → Rx R} {fp_ : Rho → Rx Pt} {fA : Rho → Ra}
theorem PSet.or {t t' : TSet} (h : PSet X t) (h' : PSet X t') : PSet X (fun o i v H Q => t o i v H Q ∨ t' o i v H Q) := fun pins s σ H o i v ov iv u Q I r1 r2 r3 q => q.elim (h pins s σ H o i v ov iv u Q I r1 r2 r3) (h' pins s σ H o i v ov iv u Q I r1 r2 r3)
def rSetD : TSet := fun o i v H Q => ∃ a H', o = .ref a ∧ DPut H a i v H' ∧ Q H'
theorem set_dict (hu : X.A.units + 1 < cLine) : PSet X rSetD := by
  intro pins s σ H o i v ov iv u Q I ro ri rv h
  obtain ⟨a, H', rfl, g, q⟩ := h
  obtain rfl : ov = Value.ref a := ro
  exact d_setItem hu I g ri rv fun s' I' => ⟨H', I', q⟩
/-- a part that holds trees is changed -/
theorem At.nodeMut {M O : AS} {fp : Nat → AS} {ρ : Rho} {π : Pin} {σ : St} {H : Hp} {q : Pt} {sub : T} (at_ : At g io M O fp ρ π σ H) (es : partT ρ q = some sub) (hn : ∀ d, sub ≠ .lf d) :
    ∃ v a S', σ[q.i]? = some (some v) ∧ walkV H v q.is = some (.ref a) ∧ (∀ b, S' b → O b) ∧ S' a ∧ OT g (M.u O) H (.ref a) sub S' ∧ (∀ b, S' b → ∃ j, fp j b) ∧
    ∀ H2 o t2 S3, Same H H2 → mutK o → (∀ b, S3 b → H b = none ∨ (O b ∧ ∀ j, ¬ fp j b)) → (∀ b, S3 b → b ≠ a ∧ ∃ u, H2 b = some u ∧ mutK u) → OT g (M.u (O.u S3)) (upd H2 a o) (.ref a) t2 (S'.u S3) →
      Kp O H (upd H2 a o) ∧ Nw O H (O.u S3) ∧ ∃ fp2 ρ2, putP ρ q t2 = some ρ2 ∧ At g io M (O.u S3) fp2 ρ2 π σ (upd H2 a o) := by
  obtain ⟨t, et⟩ := partT_own es
  have es' := es
  unfold partT at es'
  rw [et] at es'
  obtain ⟨v, w, S', f1, f2, f3, f4, f5⟩ := at_.mut et (show T.at_ q.is t = some sub from es')
  have hw : ∃ a, w = .ref a := by
    cases f4 with
    | lf _ => exact absurd rfl (hn _)
    | pl _ _ => exact ⟨_, rfl⟩
    | lst _ _ _ _ _ _ => exact ⟨_, rfl⟩
    | dk _ _ _ _ _ _ _ => exact ⟨_, rfl⟩
    | ins _ _ _ _ _ _ _ => exact ⟨_, rfl⟩
  obtain ⟨a, rfl⟩ := hw
  have sa : S' a := (f4.there hn).1
  refine ⟨v, a, S', f1, f2, fun b z => (f3 b z).1, sa, f4, fun b z => ⟨q.i, (f3 b z).2⟩, fun H2 o t2 S3 s mo ns tk q2 => ?_⟩
  have e2 : ((O.mi S').u (S'.u S3)) = O.u S3 := as_eq fun b => ⟨fun z => z.elim (fun z => .inl z.1) fun z => z.imp (fun z => (f3 b z).1) id, fun z => by
    by_cases z2 : S' b
    · exact .inr (.inl z2)
    · exact z.elim (fun z => .inl ⟨z, z2⟩) fun z => .inr (.inr z)⟩
  have kp : Kp S' H (upd H2 a o) := fun b u h1 h2 => by
    rw [upd_ne (fun z => h1 (by rw [z]; exact sa))]; exact s b u h2
  have key := f5 (upd H2 a o) (S'.u S3) (S'.u S3) t2 kp (fun b z => z.elim .inl fun z => .inr (ns b z)) (fun b z => ?_) (fun _ z => z) (by rw [e2]; exact q2)
  · rw [e2] at key
    obtain ⟨k1, k2, fp2, a2, _⟩ := key
    exact ⟨k1, k2, fp2, _, by unfold putP; rw [et]; rfl, a2⟩
  · by_cases z2 : b = a
    · subst z2; exact ⟨o, upd_same, mo⟩
    · rw [upd_ne z2]
      rcases z with z | z
      · obtain ⟨u, e, m⟩ := at_.cd.o b (f3 b z).1
        exact ⟨u, s b u e, m⟩
      · exact (tk b z).2
/-- the child that is put in, as it stands behind the change at a -/
theorem child_ok {M O : AS} {fp : Nat → AS} {ρ : Rho} {π : Pin} {σ : St} {H H2 : Hp} {r : R} {c : T} {v : V} {a : Addr} {o : HO} (at_ : At g io M O fp ρ π σ H) (hr : RetR g M O fp H v r) (e : childT r = some c) (s : Same H H2) (ha : ∃ j, fp j a) :
    ∃ S3, (∀ b, S3 b → O b ∧ ∀ j, ¬ fp j b) ∧ (∀ b, S3 b → b ≠ a ∧ ∃ u, H2 b = some u ∧ mutK u) ∧ OT g (M.u (O.u S3)) (upd H2 a o) v c S3 := by
  obtain ⟨j0, hj⟩ := ha
  have oa : O a := at_.en.fo j0 a hj
  have ls : ∀ {S3 : AS}, (∀ b, S3 b → O b) → ∀ b, (M.u (O.u S3)) b → (M.u O) b := fun {S3} k b z => z.imp id fun z => z.elim id (k b)
  have tr : ∀ {S3 : AS}, (∀ b, S3 b → O b) → Tr (M.u O) H (M.u (O.u S3)) (upd H2 a o) := fun {S3} k => ⟨fun b u h _ z => h (ls k b z), fun b u h e => .inl (by rw [upd_ne (fun z => h (by rw [z]; exact .inr oa))]; exact s b u e)⟩
  cases r with
  | shr d => cases e; exact ⟨.no, fun _ z => z.elim, fun _ z => z.elim, .lf (Rep.tr (tr fun _ z => z.elim) hr)⟩
  | own t =>
    cases e
    obtain ⟨S, f, ds, q⟩ := hr
    have na : ∀ b, S b → b ≠ a := fun b z e => ds j0 b (by rw [e]; exact hj) z
    refine ⟨S, fun b z => ⟨f b z, fun j z2 => ds j b z2 z⟩, fun b z => ⟨na b z, ?_⟩, q.tr (tr f) fun b u z e => .inl (by rw [upd_ne (na b z)]; exact s b u e)⟩
    obtain ⟨u, e, m⟩ := at_.cd.o b (f b z)
    exact ⟨u, s b u e, m⟩
  | tmp t => exact hr.elim
  | vw t => exact hr.elim
def PutOk (g : G) (io : List Nat) (M O : AS) (ρ : Rho) (π : Pin) (σ : St) (H H2 : Hp) (q : Pt) (t2 : T) (vk v : V) : Prop :=
  ∃ v0 w, σ[q.i]? = some (some v0) ∧ walkV H v0 q.is = some w ∧ ∃ H3, (rSetL w vk v H2 (fun H' => H' = H3) ∨ rSetD w vk v H2 (fun H' => H' = H3)) ∧ ∃ O2 fp2 ρ2, putP ρ q t2 = some ρ2 ∧ Kp O H H3 ∧ Nw O H O2 ∧ At g io M O2 fp2 ρ2 π σ H3
/-- what a store into a part asks -/
theorem put_ok {M O : AS} {fp : Nat → AS} {ρ : Rho} {π : Pin} {σ : St} {H H2 : Hp} {q : Pt} {sub t2 : T} {r rk : R} {v vk : V} (at_ : At g io M O fp ρ π σ H) (es : partT ρ q = some sub) (e : putT sub r rk = some t2) (hr : RetR g M O fp H v r) (s : Same H H2) (xk : Rep g .no H2 vk rk.d) :
    PutOk g io M O ρ π σ H H2 q t2 vk v := by
  -- a flat part
  have flat : ∀ {d0 d : Q.D} {d2 : Q.D}, sub = .pl d0 → kid r = some d → t2 = .pl d2 → (∀ {O1 : AS} {a : Addr}, (∀ a, O1 a → O a) → O1 a → Cd M O1 H → Top g (M.u O1) H a d0 → Rep g (M.u O1) H v d → ∃ o, mutK o ∧ (rSetL (.ref a) vk v H2 (fun H' => H' = upd H2 a o) ∨ rSetD (.ref a) vk v H2 (fun H' => H' = upd H2 a o)) ∧ Top g (M.u O1) (upd H2 a o) a d2) → PutOk g io M O ρ π σ H H2 q t2 vk v := fun {d0 d d2} e1 e2 e3 mk => by
    subst e1 e3
    obtain ⟨O1, l1, a1, rp⟩ := ret_leaf at_ hr e2
    obtain ⟨v0, a, f1, f2, f3, top, kk⟩ := a1.plMut es
    obtain ⟨o, mo, st, tp⟩ := mk l1 f3 a1.cd top rp
    obtain ⟨k1, fp2, ρ2, ep, a2⟩ := kk H2 o d2 s mo tp
    exact ⟨v0, .ref a, f1, f2, _, st, O1, fp2, ρ2, ep, fun b u h1 h2 => k1 b u (fun z => h1 (l1 b z)) h2, kp_less l1, a2⟩
  -- a part that holds trees
  have nest : ∀ {c : T}, childT r = some c → (∀ d, sub ≠ .lf d) → (∀ {a : Addr} {S' : AS}, S' a → O a → OT g (M.u O) H (.ref a) sub S' → ∃ o, mutK o ∧ (rSetL (.ref a) vk v H2 (fun H' => H' = upd H2 a o) ∨ rSetD (.ref a) vk v H2 (fun H' => H' = upd H2 a o)) ∧
      ∀ S3, (∀ b, S3 b → ¬ S' b) → Tr (M.u O) H (M.u (O.u S3)) (upd H2 a o) → OT g (M.u (O.u S3)) (upd H2 a o) v c S3 → OT g (M.u (O.u S3)) (upd H2 a o) (.ref a) t2 (S'.u S3)) → PutOk g io M O ρ π σ H H2 q t2 vk v := fun {c} ec hn mk => by
    obtain ⟨v0, a, S', f1, f2, f3, f4, f5, f6, kk⟩ := at_.nodeMut es hn
    obtain ⟨o, mo, st, mk2⟩ := mk f4 (f3 a f4) f5
    obtain ⟨S3, g1, g2, g3⟩ := child_ok (o := o) at_ hr ec s (f6 a f4)
    have tr : Tr (M.u O) H (M.u (O.u S3)) (upd H2 a o) := ⟨fun b u h _ z => h (z.imp id fun z => z.elim id fun z => (g1 b z).1), fun b u h e => .inl (by rw [upd_ne (fun z => h (by rw [z]; exact .inr (f3 a f4)))]; exact s b u e)⟩
    have q2 := mk2 S3 (fun b z z2 => let ⟨j, hj⟩ := f6 b z2; (g1 b z).2 j hj) tr g3
    obtain ⟨k1, k2, fp2, ρ2, ep, a2⟩ := kk H2 o t2 S3 s mo (fun b z => .inr (g1 b z)) g2 q2
    exact ⟨v0, .ref a, f1, f2, _, st, _, fp2, ρ2, ep, k1, k2, a2⟩
  unfold putT at e
  split at e
  · -- a dict
    rename_i ds
    obtain ⟨d, ed, e⟩ := Option.bind_eq_some_iff.mp e
    obtain ⟨key, ek, e⟩ := Option.bind_eq_some_iff.mp e
    split at e
    · rename_i hz
      cases e
      have ey := keyD_val xk ek
      subst ey
      refine flat rfl ed rfl fun {O1 a} l1 oa cd top rp => ?_
      obtain ⟨kvs, h1, h2, h3⟩ := top
      have h1 := own_dk cd oa h1
      obtain ⟨p1, p2⟩ := kv_put key h2 (h3.same s) (rp.same s)
      exact ⟨.dK (putK kvs key v), trivial, .inr ⟨a, _, rfl, DPut.k (s _ _ h1) (by rw [len_eq h2]; exact hz), rfl⟩, _, .inl upd_same, p1, p2.tr (off_tr (.inr oa))⟩
    · cases e
  · rename_i ds
    obtain ⟨d, ed, e⟩ := Option.bind_eq_some_iff.mp e
    split at e
    · rename_i xs exs
      obtain ⟨key, ek, e⟩ := Option.bind_eq_some_iff.mp e
      split at e
      · rename_i hz
        cases e
        rw [exs] at xk
        cases xk with
        | tup hb _ q3 =>
          have ey := keysD_val q3 ek
          subst ey
          refine flat rfl ed rfl fun {O1 a} l1 oa cd top rp => ?_
          obtain ⟨kvs, h1, h2, h3⟩ := top
          have h1 := own_dk cd oa h1
          obtain ⟨p1, p2⟩ := kv_put key h2 (h3.same s) (rp.same s)
          exact ⟨.dT (putK kvs key v), trivial, .inr ⟨a, _, rfl, DPut.t (s _ _ h1) hb (by rw [len_eq h2]; exact hz), rfl⟩, _, .inl upd_same, p1, p2.tr (off_tr (.inr oa))⟩
      · cases e
    · cases e
  · rename_i ds
    obtain ⟨d, ed, e⟩ := Option.bind_eq_some_iff.mp e
    split at e
    · rename_i j ej
      obtain ⟨jj, ejj, e⟩ := Option.bind_eq_some_iff.mp e
      cases e
      rw [ej] at xk
      cases xk
      refine flat rfl ed rfl fun {O1 a} l1 oa cd top rp => ?_
      obtain ⟨vs, h1, h2⟩ := top
      exact ⟨.lst (vs.set jj v), trivial, .inl ⟨a, vs, j, jj, rfl, rfl, s _ _ h1, by rw [h2.length]; exact ejj, rfl⟩, _, upd_same, RepL.set ((rp.same s).tr (off_tr (.inr oa))) jj ((h2.same s).tr (off_tr (.inr oa)))⟩
    · cases e
  · -- a list of trees
    rename_i ts
    obtain ⟨c, ec, e⟩ := Option.bind_eq_some_iff.mp e
    split at e
    · rename_i j ej
      obtain ⟨jj, ejj, e⟩ := Option.bind_eq_some_iff.mp e
      cases e
      rw [ej] at xk
      cases xk
      refine nest ec (fun d z => by cases z) fun {a S'} sa oa ot => ?_
      cases ot with
      | @lst _ vs _ _ S0 ss h1 w0 nn rr =>
        refine ⟨.lst (vs.set jj v), trivial, .inl ⟨a, _, j, jj, rfl, rfl, s _ _ h1, by rw [rr.length]; exact ejj, rfl⟩, fun S3 n3 tr qc => ?_⟩
        exact .lst (S0.u S3) (.inl sa) upd_same (fun b z => z.imp (w0 b) id) (fun z => z.elim nn fun z => n3 a z sa) (OTs.rep qc tr jj rr (fun b u z e => by rw [upd_ne (fun zz => nn (by rw [← zz]; exact z))]; exact s b u e) fun b z z2 => n3 b z (w0 b z2))
    · cases e
  · -- a dict of trees
    rename_i ks ts
    obtain ⟨c, ec, e⟩ := Option.bind_eq_some_iff.mp e
    obtain ⟨key, ek, e⟩ := Option.bind_eq_some_iff.mp e
    split at e
    · rename_i hz
      have ey := keyD_val xk ek
      subst ey
      refine nest ec (fun d z => by cases z) fun {a S'} sa oa ot => ?_
      cases ot with
      | @dk _ kvs _ _ _ S0 ss h1 ekk w0 nn rr =>
        have h1 := own_dk at_.cd oa h1
        have hl : kvs.length = ts.length := by have := rr.length; simpa using this
        have nodes : ∀ b u, S0 b → H b = some u → (upd H2 a (.dK (putK kvs key v))) b = some u := fun b u z e => by rw [upd_ne (fun zz => nn (by rw [← zz]; exact z))]; exact s b u e
        refine ⟨.dK (putK kvs key v), trivial, .inr ⟨a, _, rfl, DPut.k (s _ _ h1) (by rw [hl]; exact hz.2), rfl⟩, fun S3 n3 tr qc => ?_⟩
        split at e
        · rename_i j ej
          cases e
          obtain ⟨j', e1, e2, e3, e4⟩ := putK_pos (κ := Key) (α := Nat) (w := v) (kvs := kvs) (by rw [ekk]; exact hz.1) (by rw [ekk]; exact ej)
          have : j' = j := by omega
          subst this
          refine .dk (S0.u S3) (.inl sa) (.inl upd_same) ?_ (fun b z => z.imp (w0 b) id) (fun z => z.elim nn fun z => n3 a z sa) ?_
          · rw [e3, List.map_set, ekk]
            refine List.ext_getElem? fun i => ?_
            by_cases z : j' = i
            · subst z
              rw [ekk] at e4
              rw [List.getElem?_set_self (List.getElem?_eq_some_iff.mp e4).1, e4]
            · rw [List.getElem?_set_ne z]
          · rw [show (putK kvs key v).map (·.2) = (kvs.map (·.2)).set j' v by rw [e3, List.map_set]]
            exact OTs.rep qc tr j' rr nodes fun b z z2 => n3 b z (w0 b z2)
        · rename_i ej
          cases e
          have e3 := putK_new (kvs := kvs) (w := v) (by rw [ekk]; exact ej)
          refine .dk (S0.u S3) (.inl sa) (.inl upd_same) (by rw [e3, List.map_append, ekk]; rfl) (fun b z => z.imp (w0 b) id) (fun z => z.elim nn fun z => n3 a z sa) ?_
          rw [show (putK kvs key v).map (·.2) = kvs.map (·.2) ++ [v] by rw [e3, List.map_append]; rfl]
          exact OTs.app qc tr rr nodes fun b z z2 => n3 b z (w0 b z2)
    · cases e
  · cases e
/-- P[k] = action -/
theorem s_put (f : Fit X g n) (hxk : okx k = true) (hs2 : swapsWithSole [.Subscript a k pos'] e pos.line X.env = pure false) (hw : swappedStores [.Subscript a k pos'] e X.env = pure none) (he : PE X e (tA g W io fA)) (ha : PE X a (tP g W fp_)) (hk : PE X k (tX g W fk)) :
    PS X (.Assign [.Subscript a k pos'] e pos) (tS g W io fun ρ => bindA (fA ρ) fun r ρ1 => bindO (fp_ ρ1) ρ1 fun q => (partT ρ1 q).bind fun t => bindO (fk ρ1) ρ1 fun rk => putF1 ρ1 q t r rk) :=
  PS.to (ps_asg he (pg_sub ha hk (PSet.or set_list (set_dict f.hu)) (okx_assign hxk _ X.env _)) hs2 hw) fun D σ H ⟨M, O, fp, ρ, π, out, at_, e, k⟩ => ⟨M, O, fp, ρ, π, at_, bindA_hold at_ e k fun v H' O' fp' r ρ1 k1 w1 a1 r1 e k2 => by
    refine ⟨M, O', fp', ρ1, a1.cd, a1.en, (bindO_hold a1 e k2).imp (fun q e => ?_) fun _ z => z⟩
    obtain ⟨sub, es, e⟩ := Option.bind_eq_some_iff.mp e
    obtain ⟨t, et⟩ := partT_own es
    refine ⟨t, et, fun v0 w0 H1 s1 ev0 ew0 => ⟨M, O', fp', ρ1, a1.cd.same s1, a1.en.same s1, (bindO_hold a1 e k2).imp (fun rk e y H2 s2 xk => ?_) fun _ => EW.same s1⟩⟩
    obtain ⟨t2, et2, e⟩ := Option.bind_eq_some_iff.mp e
    obtain ⟨ρ2, ep, rfl⟩ := Option.map_eq_some_iff.mp e
    have s := s1.trans s2
    obtain ⟨v0', w', f1, f2, H3, st, O2, fp2, ρ2', ep', kp, nw, a2⟩ := put_ok a1 es et2 r1 s xk.view
    rw [f1] at ev0; cases ev0
    rw [walkV_same s1 f2] at ew0; cases ew0
    rw [ep] at ep'; cases ep'
    have fin : D.nx σ H3 := k2 σ H3 O2 fp2 kp nw a2.cd a2.en a2.pn
    rcases st with ⟨p1, p2, p3, p4, e1, e2, e3, e4, e5⟩ | ⟨p1, p2, e1, e2, e3⟩
    · exact .inl ⟨p1, p2, p3, p4, e1, e2, e3, e4, by rw [e5]; exact fin⟩
    · exact .inr ⟨p1, p2, e1, e2, by rw [e3]; exact fin⟩⟩
end
end
end Q

end

section
set_option Elab.async false
set_option linter.all false
set_option maxRecDepth 100000
set_option maxHeartbeats 1000000
/-! Q13: P.f = v, P[k] += e, x += e, calls that change what they are handed. -/
namespace Q
noncomputable section
open PySem PySem.Spec L2
open PyProof.Rows hiding St

theorem putF_at {f : Str} {y : V} : ∀ {fs : List (Str × V)} {j : Nat}, (fs.map (·.1)).Nodup → (fs.map (·.1))[j]? = some f → putF f y fs = fs.set j (f, y)
  | [], j, _, h => by simp at h
  | (g, x) :: fs, 0, nd, h => by
    simp only [List.map_cons, List.getElem?_cons_zero, Option.some.injEq] at h
    subst h
    simp [putF]
  | (g, x) :: fs, j + 1, nd, h => by
    simp only [List.map_cons, List.getElem?_cons_succ] at h
    simp only [List.map_cons, List.nodup_cons] at nd
    have : g ≠ f := fun z => nd.1 (by rw [z]; exact List.mem_of_getElem? h)
    simp only [putF, if_neg this, List.set_cons_succ]
    rw [putF_at nd.2 h]
theorem putF_new {f : Str} {y : V} : ∀ {fs : List (Str × V)}, f ∉ fs.map (·.1) → putF f y fs = fs ++ [(f, y)]
  | [], _ => rfl
  | (g, x) :: fs, h => by
    simp only [List.map_cons, List.mem_cons, not_or] at h
    simp only [putF, if_neg (Ne.symm h.1), List.cons_append]
    rw [putF_new h.2]
theorem nodup_inj {α : Type} {x : α} : ∀ {l : List α} {i j : Nat}, l.Nodup → l[i]? = some x → l[j]? = some x → i = j
  | [], i, _, _, h, _ => by simp at h
  | y :: l, 0, 0, _, _, _ => rfl
  | y :: l, 0, j + 1, nd, h1, h2 => by
    simp at h1 h2; subst h1
    exact absurd (List.mem_of_getElem? h2) (List.nodup_cons.mp nd).1
  | y :: l, i + 1, 0, nd, h1, h2 => by
    simp at h1 h2; subst h2
    exact absurd (List.mem_of_getElem? h1) (List.nodup_cons.mp nd).1
  | y :: l, i + 1, j + 1, nd, h1, h2 => congrArg (· + 1) (nodup_inj (List.nodup_cons.mp nd).2 (by simpa using h1) (by simpa using h2))
def fsetT (j lo hi : Nat) (t : T) (r : R) : Option T := match t with
  | .ins c ts => (childT r).bind fun ch => if lo ≤ c ∧ c < hi ∧ ts.length < 1000 then (if j < ts.length then some (.ins c (ts.set j ch)) else if j = ts.length then some (.ins c (ts ++ [ch])) else none) else none
  | _ => none
section
variable {X : Cx} {g : G} {n : Nat} {W : WX} {io : List Nat} {pos pos' p apos cpos tpos : Pos} {x m : Str} {e a b k value : Expr} {es : List Expr} {fe fa fb fk : Rho → Rx R} {fp_ : Rho → Rx Pt} {fA : Rho → Ra} {fl : Rho → Rx (List R)}
/-- P.f = action -/
theorem s_fset (f : Fit X g n) {nm : Str} {j lo hi : Nat} (S : FldSat g nm j lo hi) (hs : swapsWith e (some (.Attribute a nm pos')) pos.line X.env = pure false) (he : PE X e (tA g W io fA)) (ha : PE X a (tP g W fp_)) :
    PS X (.Assign [.Attribute a nm pos'] e pos) (tS g W io fun ρ => bindA (fA ρ) fun r ρ1 => bindO (fp_ ρ1) ρ1 fun q => (partT ρ1 q).bind fun t => (fsetT j lo hi t r).bind fun t2 => (putP ρ1 q t2).map .nx) :=
  PS.to (ps_fld ha he hs) fun D σ H ⟨M, O, fp, ρ, π, out, at_, e, k⟩ => ⟨M, O, fp, ρ, π, at_, bindA_hold at_ e k fun v H' O' fp' r ρ1 k1 w1 a1 r1 e k2 => by
    refine ⟨M, O', fp', ρ1, a1.cd, a1.en, (bindO_hold a1 e k2).imp (fun q e => ?_) fun _ z => z⟩
    obtain ⟨sub, es, e⟩ := Option.bind_eq_some_iff.mp e
    obtain ⟨t2, et2, e⟩ := Option.bind_eq_some_iff.mp e
    obtain ⟨ρ2, ep, rfl⟩ := Option.map_eq_some_iff.mp e
    obtain ⟨t, et⟩ := partT_own es
    refine ⟨t, et, fun v0 w0 H1 s1 ev0 ew0 => ?_⟩
    unfold fsetT at et2
    split at et2
    · rename_i c ts
      obtain ⟨ch, ec, et2⟩ := Option.bind_eq_some_iff.mp et2
      split at et2
      · rename_i hc
        obtain ⟨v0', a0, S', f1, f2, f3, f4, f5, f6, kk⟩ := a1.nodeMut es (fun d z => by cases z)
        rw [f1] at ev0; cases ev0
        rw [walkV_same s1 f2] at ew0; cases ew0
        obtain ⟨z1, z2, z3, z4⟩ := S.at_ c hc.1 hc.2.1
        cases f5 with
        | @ins _ dx _ fs _ _ S0 ss h1 h2 w0 nn rr =>
          have hl : fs.length = ts.length := by have := rr.length; simpa using this
          have nd : (fs.map (·.1)).Nodup := by rw [h2]; exact z2.sublist (List.take_sublist _ _)
          refine ⟨a0, g.cl c, dx, fs, rfl, s1 _ _ h1, by rw [f.K]; exact z3, by rw [f.K]; exact z4, by rw [hl]; exact hc.2.2, ?_⟩
          let o : HO := .ins (g.cl c) dx (putF nm v fs)
          obtain ⟨S3, g1, g2, g3⟩ := child_ok (o := o) a1 r1 ec s1 (f6 a0 f4)
          have tr : Tr (M.u O') H' (M.u (O'.u S3)) (upd H1 a0 o) := ⟨fun b u h _ z => h (z.imp id fun z => z.elim id fun z => (g1 b z).1), fun b u h e => .inl (by rw [upd_ne (fun z => h (by rw [z]; exact .inr (f3 a0 f4)))]; exact s1 b u e)⟩
          have n3 : ∀ b, S3 b → ¬ S' b := fun b z z2 => let ⟨j, hj⟩ := f6 b z2; (g1 b z).2 j hj
          have nodes : ∀ b u, S0 b → H' b = some u → (upd H1 a0 o) b = some u := fun b u z e => by rw [upd_ne (fun zz => nn (by rw [← zz]; exact z))]; exact s1 b u e
          have q2 : OT g (M.u (O'.u S3)) (upd H1 a0 o) (.ref a0) t2 (S'.u S3) := by
            split at et2
            · rename_i hj
              cases et2
              have hf : (fs.map (·.1))[j]? = some nm := by rw [h2, List.getElem?_take_of_lt hj]; exact z1
              have e3 := putF_at (y := v) nd hf
              refine .ins (S0.u S3) (.inl f4) upd_same ?_ (fun b z => z.imp (w0 b) id) (fun z => z.elim nn fun z => n3 a0 z f4) ?_
              · rw [e3, List.map_set, List.length_set, ← h2]
                refine List.ext_getElem? fun i => ?_
                by_cases z : j = i
                · subst z; rw [List.getElem?_set_self (List.getElem?_eq_some_iff.mp hf).1, hf]
                · rw [List.getElem?_set_ne z]
              · rw [show (putF nm v fs).map (·.2) = (fs.map (·.2)).set j v by rw [e3, List.map_set]]
                exact OTs.rep g3 tr j rr nodes fun b z z2 => n3 b z (w0 b z2)
            · split at et2
              · rename_i hj
                cases et2
                have hf : nm ∉ fs.map (·.1) := fun z => by
                  rw [h2] at z
                  obtain ⟨i, hi⟩ := List.mem_iff_getElem?.mp z
                  by_cases hlt : i < ts.length
                  · rw [List.getElem?_take_of_lt hlt] at hi
                    have := nodup_inj z2 hi z1
                    omega
                  · rw [List.getElem?_eq_none (by rw [List.length_take]; omega)] at hi; cases hi
                have e3 := putF_new (y := v) hf
                refine .ins (S0.u S3) (.inl f4) upd_same ?_ (fun b z => z.imp (w0 b) id) (fun z => z.elim nn fun z => n3 a0 z f4) ?_
                · rw [e3, List.map_append, h2, List.length_append]
                  show _ = List.take (ts.length + 1) (g.at_ c)
                  rw [List.take_add_one, ← hj, z1]
                  rfl
                · rw [show (putF nm v fs).map (·.2) = fs.map (·.2) ++ [v] by rw [e3, List.map_append]; rfl]
                  exact OTs.app g3 tr rr nodes fun b z z2 => n3 b z (w0 b z2)
              · cases et2
          obtain ⟨kp, nw, fp2, ρ2', ep', a2⟩ := kk H1 o t2 S3 s1 trivial (fun b z => .inr (g1 b z)) g2 q2
          rw [ep] at ep'; cases ep'
          exact k2 σ _ _ fp2 kp nw a2.cd a2.en a2.pn
      · cases et2
    · cases et2⟩
/-! ### op= -/
def augI (op : Operator) (a b : Int) : Option Int := match op with
  | .Add => some (a + b)
  | .Sub => some (a - b)
  | _ => none
/-- x += e, of numbers -/
def augF (op : Operator) (i : Nat) (r : R) (ρ : Rho) : Option Out := (getR ρ i).bind fun q => match q.d, r.d with
  | .int a, .int b => (augI op a b).map fun z => .nx (ρ.set i (some (rI z)))
  | _, _ => none
theorem s_aug (f : Fit X g n) {op : Operator} {i : Nat} (hop : op = .Add ∨ op = .Sub) (hio : i ∉ io) (hN : X.N[i]? = some x) (hv : Loc X.env.scope x) (hf : X.fn x = true ∨ X.env.scope.names.lookup x = some .local) (he : PE X e (tX g W fe)) :
    PS X (.AugAssign (.Name x pos') op e pos) (tS g W io fun ρ => (getR ρ i).bind fun _ => bindO (fe ρ) ρ fun r => augF op i r ρ) := by
  have fin : ∀ {F : Int → Int → Int} {D : Ends} {σ : St} {H : Hp} {M O : AS} {fp : Nat → AS} {ρ : Rho} {π : Pin} {out : Out}, (∀ a b, augI op a b = some (F a b)) → At g io M O fp ρ π σ H → ((getR ρ i).bind fun _ => bindO (fe ρ) ρ fun r => augF op i r ρ) = some out → OutOk g W π M O H out D → tAug i (tX g W fe) (ipI F) D σ H :=
    fun {F D σ H M O fp ρ π out} hF at_ e k => by
      obtain ⟨q, eq, e⟩ := Option.bind_eq_some_iff.mp e
      obtain ⟨v, e1, xq⟩ := getR_at at_.en eq
      refine ⟨v, e1, M, O, fp, ρ, at_.cd, at_.en, (bindO_hold at_ e k).imp (fun r e w H1 s xv => ?_) fun _ z => z⟩
      obtain ⟨q', eq', e⟩ := Option.bind_eq_some_iff.mp e
      rw [eq] at eq'; cases eq'
      split at e
      · rename_i a b ea eb
        rw [hF] at e
        cases e
        exact ⟨a, b, xq.flat_int ea, xv.flat_int eb, k _ H1 O _ (Kp.of s) Nw.refl (at_.cd.same s) ((at_.en.same s).set (r := rI (F a b)) (.int _) i) (pn_set at_.pn (at_.free hio) _)⟩
      · cases e
  rcases hop with rfl | rfl
  · exact PS.to (ps_aug f.nd hN hv he ip_add hf) fun D σ H ⟨M, O, fp, ρ, π, out, at_, e, k⟩ => fin (fun _ _ => rfl) at_ e k
  · exact PS.to (ps_aug f.nd hN hv he ip_sub hf) fun D σ H ⟨M, O, fp, ρ, π, out, at_, e, k⟩ => fin (fun _ _ => rfl) at_ e k
/-- what is read of a list at a place from 0 on -/
def rGetL : V → V → Hp → VK → Prop := fun o i H Q => ∃ p xs k v, o = .ref p ∧ i = .int k ∧ H p = some (.lst xs) ∧ 0 ≤ k ∧ xs[k.toNat]? = some v ∧ Q v H
theorem get_list : PGet X rGetL := by
  intro pins s σ H o i ov iv Q I ro ri h
  obtain ⟨p, xs, k, v, rfl, rfl, hp, h0, hx, q⟩ := h
  cases ro
  obtain ⟨t, rfl⟩ := ri
  obtain ⟨its, n, r, ho, hz⟩ := I.lst hp
  obtain ⟨w, ew, rw'⟩ := r.get hx
  have hlt := (List.getElem?_eq_some_iff.mp hx).1
  have hn := line63
  exact wpAny_getItem_list ⟨_, ho, rfl, _, rfl⟩ h0 (by omega) (by simpa using ew) ⟨v, H, I, rw', q⟩
def augPre (ds : List D) (rk : R) : Option (Nat × Int) := match rk.d with
  | .int j => if 0 ≤ j then (match ds[j.toNat]? with
    | some (.int a) => some (j.toNat, a)
    | _ => none) else none
  | _ => none
theorem augPre_ok {ds : List D} {rk : R} {p : Nat × Int} (h : augPre ds rk = some p) : rk.d = .int p.1 ∧ ds[p.1]? = some (.int p.2) := by
  unfold augPre at h
  split at h
  · rename_i j ej
    split at h
    · rename_i h0
      split at h
      · rename_i a ea
        cases h
        exact ⟨by rw [ej]; congr 1; show j = ((j.toNat : Nat) : Int); omega, ea⟩
      · cases h
    · cases h
  · cases h
def augsF (op : Operator) (ρ : Rho) (q : Pt) (ds : List D) (p : Nat × Int) (r : R) : Option Out := match r.d with
  | .int b => (augI op p.2 b).bind fun z => (putP ρ q (.pl (.lst (ds.set p.1 (.int z))))).map .nx
  | _ => none
/-- P[k] += e, of a list of numbers -/
theorem s_augs (f : Fit X g n) {op : Operator} (hop : op = .Add ∨ op = .Sub) (hst : ∀ ov iv new, augStore k ov iv new = (do holding [new, ov, iv] (setItem ov iv new); release [new, ov, iv] []; pure .next)) (ha : PE X a (tP g W fp_)) (hk : PE X k (tX g W fk)) (he : PE X e (tX g W fe)) :
    PS X (.AugAssign (.Subscript a k tpos) op e pos) (tS g W io fun ρ => bindO (fp_ ρ) ρ fun q => ((partT ρ q).bind plLst).bind fun ds => bindO (fk ρ) ρ fun rk => (augPre ds rk).bind fun pr => bindO (fe ρ) ρ fun r => augsF op ρ q ds pr r) := by
  have fin : ∀ {F : Int → Int → Int} {D : Ends} {σ : St} {H : Hp} {M O : AS} {fp : Nat → AS} {ρ : Rho} {π : Pin} {out : Out}, (∀ a b, augI op a b = some (F a b)) → At g io M O fp ρ π σ H → (bindO (fp_ ρ) ρ fun q => ((partT ρ q).bind plLst).bind fun ds => bindO (fk ρ) ρ fun rk => (augPre ds rk).bind fun pr => bindO (fe ρ) ρ fun r => augsF op ρ q ds pr r) = some out → OutOk g W π M O H out D → tAugS (tP g W fp_) (tX g W fk) (tX g W fe) rGetL (ipI F) rSetL D σ H :=
    fun {F D σ H M O fp ρ π out} hF at_ e kk => ⟨M, O, fp, ρ, at_.cd, at_.en, (bindO_hold at_ e kk).imp (fun q e => by
      obtain ⟨ds, eds, e⟩ := Option.bind_eq_some_iff.mp e
      obtain ⟨sub, es, eds⟩ := Option.bind_eq_some_iff.mp eds
      obtain rfl := plLst_eq eds
      obtain ⟨t, et⟩ := partT_own es
      obtain ⟨v, a, f1, f2, f3, top, k2⟩ := at_.plMut es
      refine ⟨t, et, fun v0 w0 H1 s1 ev0 ew0 => ⟨M, O, fp, ρ, at_.cd.same s1, at_.en.same s1, (bindO_hold at_ e kk).imp (fun rk e y H2 s2 xk => ?_) fun _ => EW.same s1⟩⟩
      rw [f1] at ev0; cases ev0
      rw [walkV_same s1 f2] at ew0; cases ew0
      obtain ⟨⟨j, a0⟩, epr, e⟩ := Option.bind_eq_some_iff.mp e
      obtain ⟨ek, ed⟩ := augPre_ok epr
      have ek : rk.d = .int (j : Int) := ek
      have ed : ds[j]? = some (.int a0) := ed
      obtain ⟨vs, h1, h2⟩ := top
      have s12 := s1.trans s2
      obtain ⟨u, eu, ru⟩ := h2.get ed
      have ru : u = .int a0 := by cases ru; rfl
      subst ru
      refine ⟨a, vs, j, .int a0, rfl, xk.flat_int ek, s12 _ _ h1, by omega, by simpa using eu, M, O, fp, ρ, (at_.cd.same s1).same s2, (at_.en.same s1).same s2, (bindO_hold at_ e kk).imp (fun r e z H3 s3 xr => ?_) fun _ z => EW.same s2 (EW.same s1 z)⟩
      have s := s12.trans s3
      unfold augsF at e
      split at e
      · rename_i b eb
        rw [hF] at e
        obtain ⟨ρ2, ep, rfl⟩ := Option.map_eq_some_iff.mp (show (putP ρ q (.pl (.lst (ds.set j (.int (F a0 b)))))).map Out.nx = some out from e)
        have hj : j < vs.length := (List.getElem?_eq_some_iff.mp eu).1
        refine ⟨a0, b, rfl, xr.flat_int eb, a, vs, j, j, rfl, xk.flat_int ek, s _ _ h1, ?_, ?_⟩
        · unfold ixN; rw [if_pos (by omega), if_pos (by omega)]; rfl
        · obtain ⟨k1, fp2, ρ3, e3, a2⟩ := k2 H3 (.lst (vs.set j (.int (F a0 b)))) (.lst (ds.set j (.int (F a0 b)))) s trivial ⟨_, upd_same, RepL.set (.int _) j ((h2.same s).tr (off_tr (.inr f3)))⟩
          rw [ep] at e3; cases e3
          exact kk σ _ O fp2 k1 Nw.refl a2.cd a2.en a2.pn
      · cases e) fun _ z => z⟩
  rcases hop with rfl | rfl
  · exact PS.to (ps_augS ha hk get_list he ip_add set_list hst) fun D σ H ⟨M, O, fp, ρ, π, out, at_, e, k⟩ => fin (fun _ _ => rfl) at_ e k
  · exact PS.to (ps_augS ha hk get_list he ip_sub set_list hst) fun D σ H ⟨M, O, fp, ρ, π, out, at_, e, k⟩ => fin (fun _ _ => rfl) at_ e k
/-! ### calls that change one of the arguments: the first -/
def noVw : List R → Option (List R)
  | [] => some []
  | r :: rs => if isVw r = true then none else (noVw rs).map fun q => argOf r :: q
/-- shared, or borrowed of M; B: all that is banned -/
inductive ArgsB (g : G) (M B : AS) (H : Hp) : List V → List R → Prop
  | nil : ArgsB g M B H [] []
  | shr {v : V} {vs : List V} {d : D} {rs : List R} : Rep g B H v d → ArgsB g M B H vs rs → ArgsB g M B H (v :: vs) (.shr d :: rs)
  | tmp {v : V} {vs : List V} {t : T} {rs : List R} (S : AS) : (∀ a, S a → M a) → OT g B H v t S → ArgsB g M B H vs rs → ArgsB g M B H (v :: vs) (.tmp t :: rs)
theorem ArgsB.append {M B : AS} {H : Hp} : ∀ {vs ws : List V} {as bs : List R}, ArgsB g M B H vs as → ArgsB g M B H ws bs → ArgsB g M B H (vs ++ ws) (as ++ bs)
  | _, _, _, _, .nil, h => h
  | _, _, _, _, .shr h r, q => .shr h (ArgsB.append r q)
  | _, _, _, _, .tmp S k h r, q => .tmp S k h (ArgsB.append r q)
theorem ArgsB.length {M B : AS} {H : Hp} : ∀ {vs : List V} {as : List R}, ArgsB g M B H vs as → vs.length = as.length
  | _, _, .nil => rfl
  | _, _, .shr _ r => congrArg Nat.succ r.length
  | _, _, .tmp _ _ _ r => congrArg Nat.succ r.length
theorem ArgsB.shrs {M B : AS} {H : Hp} {vs : List V} {ds : List D} (h : RepL g B H vs ds) : ArgsB g M B H vs (ds.map .shr) := by
  induction ds generalizing vs with
  | nil => cases h; exact .nil
  | cons d ds ih => cases h with | cons h r => exact .shr h (ih r)
theorem ArgsB.get {M B : AS} {H : Hp} : ∀ {vs : List V} {as : List R} {i : Nat} {r : R}, ArgsB g M B H vs as → as[i]? = some r → ∃ v, vs[i]? = some v ∧ (match r with
    | .shr d => Rep g B H v d
    | .tmp t => ∃ S : AS, (∀ a, S a → M a) ∧ OT g B H v t S
    | .own _ => False
    | .vw _ => False)
  | _, _, _, _, .nil, e => by simp at e
  | _, _, 0, _, .shr h _, e => by simp at e; subst e; exact ⟨_, rfl, h⟩
  | _, _, 0, _, .tmp S k h _, e => by simp at e; subst e; exact ⟨_, rfl, S, k, h⟩
  | _, _, i + 1, _, .shr _ r, e => by
    obtain ⟨v, h1, h2⟩ := ArgsB.get (i := i) r (by simpa using e)
    exact ⟨v, by simpa using h1, h2⟩
  | _, _, i + 1, _, .tmp _ _ _ r, e => by
    obtain ⟨v, h1, h2⟩ := ArgsB.get (i := i) r (by simpa using e)
    exact ⟨v, by simpa using h1, h2⟩
theorem ArgsB.noOwn {M B : AS} {H : Hp} : ∀ {vs : List V} {as : List R} (i : Nat), ArgsB g M B H vs as → iosF i as = []
  | _, _, _, .nil => rfl
  | _, _, i, .shr _ r => by
    unfold iosF
    rw [if_neg (by simp [isOwn])]
    exact r.noOwn (i + 1)
  | _, _, i, .tmp _ _ _ r => by
    unfold iosF
    rw [if_neg (by simp [isOwn])]
    exact r.noOwn (i + 1)
theorem noVw_args {M O : AS} {H0 H : Hp} (c : Cd M O H0) : ∀ {vs : List V} {rs qs : List R}, XRs g M O H0 H vs rs → noVw rs = some qs → ArgsB g M (M.u O) H vs qs
  | _, _, _, .nil, e => by cases e; exact .nil
  | _, _, _, .cons (v := v) (vs := vs) (r := r) (rs := rs) h q, e => by
    unfold noVw at e
    split at e
    · cases e
    · rename_i hv
      obtain ⟨qs, e1, rfl⟩ := Option.map_eq_some_iff.mp e
      have ih := noVw_args c q e1
      cases r with
      | shr d => exact .shr h ih
      | own t => exact .shr (h.shr_own c) ih
      | tmp t => obtain ⟨S, f, q⟩ := h; exact .tmp S f q ih
      | vw t => exact absurd rfl (isVw_no hv t)
/-- f(o, ..), o a part that is changed -/
def ioX (F : Fn) (dfl : List D) (ρ : Rho) (q : Pt) (t : T) (rs : List R) : Ra := match noVw rs with
  | some qs => (match F (.own t :: (qs ++ dfl.map .shr)) with
    | some (.ret r [t2]) => (match putP ρ q t2 with
      | some ρ2 => .ok r ρ2
      | none => .bad)
    | some (.ex x [t2]) => (match putP ρ q t2 with
      | some ρ2 => .ex x ρ2
      | none => .bad)
    | _ => .bad)
  | none => .bad
def insC (lo hi : Nat) (t : T) : Option Nat := match t with
  | .ins c _ => if lo ≤ c ∧ c < hi then some c else none
  | _ => none
theorem insC_ok {lo hi : Nat} {t : T} {c : Nat} (h : insC lo hi t = some c) : ∃ ts, t = .ins c ts ∧ lo ≤ c ∧ c < hi := by
  unfold insC at h
  split at h
  · rename_i c' ds
    split at h
    · rename_i k; cases h; exact ⟨ds, rfl, k⟩
    · cases h
  · cases h
def bindRA {α : Type} (a : Rx α) (ρ : Rho) (k : α → Ra) : Ra := match a with
  | .bad => .bad
  | .ok a => k a
  | .ex x => .ex x ρ
@[simp] theorem bindRA_ok {α : Type} {a : α} {ρ : Rho} {k : α → Ra} : bindRA (.ok a) ρ k = k a := rfl
@[simp] theorem bindRA_ex {α : Type} {x : Exc} {ρ : Rho} {k : α → Ra} : bindRA (.ex x) ρ k = .ex x ρ := rfl
@[simp] theorem bindRA_bad {α : Type} {ρ : Rho} {k : α → Ra} : bindRA .bad ρ k = .bad := rfl
theorem bindRA_hold {α : Type} {a : Rx α} {M O : AS} {fp : Nat → AS} {ρ : Rho} {π : Pin} {σ : St} {H : Hp} {Q : VK} {k : α → Ra} (at_ : At g io M O fp ρ π σ H) (h : AOk g W io π M O σ H Q (bindRA a ρ k)) : a.hold (fun r => AOk g W io π M O σ H Q (k r)) (EW g M O H W σ) := by
  cases a with
  | bad => exact h
  | ok r => exact h
  | ex x => exact fun cls d H' s q => h cls d H' O fp (Kp.of s) Nw.refl (at_.same s) q
/-- the callee's promise, with its first argument changed -/
theorem io_read {np : Nat} {F : Fn} {dfl : List D} {dvs : List V} {M O : AS} {fp : Nat → AS} {ρ : Rho} {π : Pin} {σ : St} {H H2 : Hp} {q : Pt} {t1 : T} {v : V} {w : V} {vs : List V} {rs : List R} {Q : VK} (at_ : At g io M O fp ρ π σ H) (es : partT ρ q = some t1) (ev : σ[q.i]? = some (some v)) (ew : walkV H v q.is = some w) (s : Same H H2) (xs : XRs g M O H H2 vs rs)
    (hd : ∀ B H, RepL g B H dvs dfl) (hl : (vs ++ dvs).length + 1 = np) (h : AOk g W io π M O σ H Q (ioX F dfl ρ q t1 rs)) : GSp g np F (w :: (vs ++ dvs)) H2 Q (WE W σ) := by
  obtain ⟨t, et⟩ := partT_own es
  have es' := es
  unfold partT at es'
  rw [et] at es'
  obtain ⟨v', w', S', f1, f2, f3, f4, f5⟩ := at_.mut et (show T.at_ q.is t = some t1 from es')
  rw [ev] at f1; cases f1
  rw [ew] at f2; cases f2
  unfold ioX at h
  split at h
  · rename_i qs eq
    have setE : ∀ b, ((M.u (O.mi S')).u S') b ↔ (M.u O) b := fun b => ⟨fun z => z.elim (fun z => z.imp id fun z => z.1) fun z => .inr (f3 b z).1, fun z => by
      by_cases z2 : S' b
      · exact .inr z2
      · exact .inl (z.imp id fun z => ⟨z, z2⟩)⟩
    have setQ := as_eq setE
    have ar : ArgsB g M (M.u O) H2 (vs ++ dvs) (qs ++ dfl.map .shr) := (noVw_args at_.cd xs eq).append (.shrs (hd _ _))
    have cdc : Cd (M.u (O.mi S')) S' H2 := ⟨fun b z => by
        rcases z with z | z
        · obtain ⟨u, e, m⟩ := at_.cd.m b z; exact ⟨u, s b u e, m⟩
        · obtain ⟨u, e, m⟩ := at_.cd.o b z.1; exact ⟨u, s b u e, .inl m⟩, fun b z => by obtain ⟨u, e, m⟩ := at_.cd.o b (f3 b z).1; exact ⟨u, s b u e, m⟩, fun b z z2 => z2.elim (at_.cd.d b (f3 b z).1) fun z2 => z2.2 z⟩
    have enc : EnvR g (M.u (O.mi S')) S' (fun i => if i = 0 then S' else .no) ((w :: (vs ++ dvs)).map some) H2 ((R.own t1 :: (qs ++ dfl.map .shr)).map some) := by
      refine ⟨by have := ar.length; simp only [List.length_map, List.length_cons]; rw [this], fun i r e => ?_, fun i a z => ?_, fun i a z => ?_, fun i j a ne z1 z2 => ?_⟩
      · rw [List.getElem?_map] at e
        obtain ⟨r', e1, e2⟩ := Option.map_eq_some_iff.mp e
        cases e2
        cases i with
        | zero =>
          simp only [List.getElem?_cons_zero, Option.some.injEq] at e1
          subst e1
          exact ⟨w, rfl, (f4.same s).less fun b z => (setE b).mp z⟩
        | succ i =>
          rw [List.getElem?_cons_succ] at e1
          obtain ⟨w2, e3, q⟩ := ar.get e1
          refine ⟨w2, by rw [List.getElem?_map, List.getElem?_cons_succ, e3]; rfl, ?_⟩
          cases r with
          | shr d => exact Rep.less (fun b z => (setE b).mp z) q
          | own t => exact q.elim
          | tmp t =>
            obtain ⟨S, k, q⟩ := q
            exact ⟨S, fun a z => .inl (k a z), q.less fun b z => (setE b).mp z⟩
          | vw t => exact q.elim
      · by_cases hi : i = 0
        · rw [if_pos hi] at z; exact z
        · rw [if_neg hi] at z; exact z.elim
      · by_cases hi : i = 0
        · subst hi; exact ⟨_, rfl⟩
        · rw [if_neg hi] at z; exact z.elim
      · by_cases hi : i = 0
        · rw [if_neg (fun hj => ne (hi.trans hj.symm))] at z2; exact z2
        · rw [if_neg hi] at z1; exact z1
    have io0 : ios (R.own t1 :: (qs ++ dfl.map .shr)) = [0] := by
      have e1 : ios (R.own t1 :: (qs ++ dfl.map .shr)) = 0 :: iosF 1 (qs ++ dfl.map .shr) := by
        unfold ios
        rw [iosF]
        rfl
      rw [e1, ar.noOwn 1]
    -- behind the call
    have back : ∀ {H' : Hp} {O' : AS} {fp' : Nat → AS} {t2 : T} {ρ2 : Rho}, Kp S' H2 H' → Nw S' H2 O' → Cd (M.u (O.mi S')) O' H' → EnvR g (M.u (O.mi S')) O' fp' (ioV (w :: (vs ++ dvs)) [0]) H' (ioR [t2]) → putP ρ q t2 = some ρ2 →
        Kp O H H' ∧ Nw O H ((O.mi S').u O') ∧ ∃ fp2, At g io M ((O.mi S').u O') fp2 ρ2 π σ H' ∧ ∀ j a, fp2 j a → O' a → fp' 0 a := fun {H' O' fp' t2 ρ2} kp nw cd en ep => by
      obtain ⟨w2, e1, q2⟩ := en.at_ 0 (.own t2) rfl
      cases (show w = w2 from Option.some.inj (Option.some.inj e1))
      have q2 : OT g ((M.u (O.mi S')).u O') H' w t2 (fp' 0) := q2
      have r := f5 H' O' (fp' 0) t2 (fun a u n e => kp a u n (s a u e)) (fun a z => (nw a z).imp id fun z => .inl (s.free z)) cd.o (en.fo 0) (by rw [show M.u ((O.mi S').u O') = (M.u (O.mi S')).u O' from as_eq fun a => ⟨fun z => z.elim (fun z => .inl (.inl z)) fun z => z.elim (fun z => .inl (.inr z)) .inr, fun z => z.elim (fun z => z.elim .inl fun z => .inr (.inl z)) fun z => .inr (.inr z)⟩]; exact q2)
      unfold putP at ep
      rw [et] at ep
      cases ep
      exact r
    have asc : ∀ O' : AS, ∀ a, (M.u ((O.mi S').u O')) a → ((M.u (O.mi S')).u O') a := fun O' a z => z.elim (fun z => .inl (.inl z)) fun z => z.elim (fun z => .inl (.inr z)) .inr
    split at h
    · rename_i r t2 eF
      split at h
      · rename_i ρ2 ep
        refine ⟨hl, _, _, _, _, _, cdc, enc, eF, fun v H' O' fp' kp nw cd en rr => ?_⟩
        rw [io0] at en
        obtain ⟨k1, k2, fp2, a2, dj⟩ := back kp nw cd en ep
        refine h v H' _ fp2 k1 k2 a2 ?_
        cases r with
        | shr d => exact Rep.less (asc O') rr
        | own t =>
          obtain ⟨S, f, ds, q⟩ := rr
          exact ⟨S, fun a z => .inr (f a z), fun j a z z2 => ds 0 a (dj j a z (f a z2)) z2, q.less (asc O')⟩
        | tmp t => exact rr.elim
        | vw t => exact rr.elim
      · exact h.elim
    · rename_i x t2 eF
      split at h
      · rename_i ρ2 ep
        refine ⟨hl, _, _, _, _, _, cdc, enc, eF, fun cls d H' O' fp' kp nw cd en xx => ?_⟩
        rw [io0] at en
        obtain ⟨k1, k2, fp2, a2, dj⟩ := back kp nw cd en ep
        refine h cls d H' _ fp2 k1 k2 a2 ?_
        exact ⟨xx.1, xx.2.imp id fun ⟨a, ws, e1, e2, e3, e4⟩ => ⟨a, ws, e1, e2, e3, e4.1.less (asc O'), e4.2⟩⟩
      · exact h.elim
    · exact h.elim
  · exact h.elim
end
end
end Q

end

section
set_option Elab.async false
set_option linter.all false
set_option maxRecDepth 100000
set_option maxHeartbeats 1000000
/-! Q14: forms of the text; a comprehension given to a name; calls that change a part, as actions. -/
namespace Q
noncomputable section
open PySem PySem.Spec L2
open PyProof.Rows hiding St

theorem meth_ht {a : Expr} {m : Str} {apos pos : Pos} {args : List Expr} {env : Env} (ha : okx a = true) (hs : okxs args = true) (hn : args.length < 30) (hl : (apos.endLine == pos.line) = true) :
    eval (.Call (.Attribute a m apos) args [] pos) env = (do
      let ov ← eval a env
      standAt apos.atName
      let (f, first) ← holding [ov] (getMethod ov m (do return (← importBound a env).getD true))
      callWith pos f first (backTo pos (starEach args env)) (backToKw pos (keywordEach [] env))) := by
  show (do
    let ov ← attributeBase a m env (eval a env)
    standAt apos.atName
    methodCall a m apos pos env ov (args.length + 0) (backTo pos (starEach args env)) (backToKw pos (keywordEach [] env))) = _
  rw [okx_base ha]
  have hf : methodCallForm (args.length + 0) (backTo pos (starEach args env)) (backToKw pos (keywordEach [] env)) = true := by
    unfold methodCallForm
    rw [okxs_all env pos hs]
    show (true && decide (args.length + 0 + 0 < 30)) = true
    simpa using hn
  have hp : methodCallPos true a env apos pos = pure pos := by
    unfold methodCallPos
    rw [hl]
    rfl
  unfold methodCall
  rw [hf, hp]
  rfl

/-! ### forms of statements -/
def isLc : Expr → Bool
  | .ListComp .. => true
  | _ => false
theorem sw_no {e : Expr} (h : okx e = true) (hl : isLc e = false) (t : Option Expr) (l : Nat) (env : Env) : swapsWith e t l env = pure false := by
  cases e <;> first | rfl | (simp [okx] at h; done) | (simp [isLc] at hl; done)
theorem sw_att {e a : Expr} {nm : Str} {p : Pos} (h : okx e = true) (l : Nat) (env : Env) : swapsWith e (some (.Attribute a nm p)) l env = pure false := by
  cases e <;> first | rfl | (simp [okx] at h; done)
theorem sw_sub {e a k : Expr} {p : Pos} (h : okx e = true) (l : Nat) (env : Env) : swapsWithSole [.Subscript a k p] e l env = pure false := by
  cases e <;> first | rfl | (simp [okx] at h; done)
theorem sw_tup {e : Expr} {es : List Expr} {k : Nat} {p : Pos} (h : okx e = true) (l : Nat) (env : Env) : swapsWithSole [.Tuple es k p] e l env = pure false := by
  cases e <;> first | rfl | (simp [okx] at h; done)
def isTup : Expr → Bool
  | .Tuple .. => true
  | _ => false
theorem ss_tup {e : Expr} {es : List Expr} {k : Nat} {p : Pos} (h : okx e = true) (ht : isTup e = false) (env : Env) : swappedStores [.Tuple es k p] e env = pure none := by
  cases e <;> first | rfl | (simp [okx] at h; done) | (simp [isTup] at ht; done)
theorem ss_sub {e a k : Expr} {p : Pos} (env : Env) : swappedStores [.Subscript a k p] e env = pure none := rfl

/-! names and tuples of such, as targets -/
mutual
def tgx : Expr → Bool
  | .Name .. => true
  | .Tuple es _ _ => tgxs es
  | _ => false
def tgxs : List Expr → Bool
  | [] => true
  | e :: es => tgx e && tgxs es
end
theorem tgx_each {e : Expr} (h : tgx e = true) (es : List Expr) (env : Env) : assignEach (e :: es) env = (false, assign e env) :: assignEach es env := by
  cases e <;> first | rfl | (simp [tgx] at h; done)
theorem tgx_len : ∀ {es : List Expr} (env : Env), tgxs es = true → (assignEach es env).length = es.length ∧ (assignEach es env).findIdx? (·.1) = none
  | [], env, _ => ⟨rfl, rfl⟩
  | e :: es, env, h => by
    simp only [tgxs, Bool.and_eq_true] at h
    rw [tgx_each h.1]
    obtain ⟨h1, h2⟩ := tgx_len env h.2
    refine ⟨by simp [h1], ?_⟩
    rw [List.findIdx?_cons]
    simp [h2]

/-! ### a test's value -/
def tvx : Expr → Bool
  | .Name .. => true
  | .Call .. => true
  | .Attribute .. => true
  | .Subscript .. => true
  | _ => false
theorem tv_he {e : Expr} (h : tvx e = true) (env : Env) (whole : Sem Value) : isTrue e env whole = (do let v ← whole; standAt e.pos; holding [v] (truthy v)) := by
  cases e <;> first | rfl | (simp [tvx] at h; done)
end
end Q

end

section
set_option Elab.async false
set_option linter.all false
set_option maxRecDepth 100000
set_option maxHeartbeats 1000000
/-! Q15: built-ins by data. -/
namespace Q
noncomputable section
open PySem PySem.Spec L2
open PyProof.Rows hiding St

def intsD : List D → Option (List Int)
  | [] => some []
  | .int i :: ds => (intsD ds).map (i :: ·)
  | _ :: _ => none
theorem intsD_eq : ∀ {ds : List D} {ns : List Int}, intsD ds = some ns → ds = ns.map .int
  | [], ns, h => by cases h; rfl
  | .int i :: ds, ns, h => by
    obtain ⟨r, e, rfl⟩ := Option.map_eq_some_iff.mp h
    rw [intsD_eq e]; rfl
  | .non :: _, _, h => by cases h
  | .bl _ :: _, _, h => by cases h
  | .str _ :: _, _, h => by cases h
  | .scr _ :: _, _, h => by cases h
  | .tup _ :: _, _, h => by cases h
  | .lst _ :: _, _, h => by cases h
  | .dk _ :: _, _, h => by cases h
  | .dt _ :: _, _, h => by cases h
  | .ins _ _ :: _, _, h => by cases h
  | .clo _ _ :: _, _, h => by cases h
theorem intsD_map : ∀ ns : List Int, intsD (ns.map .int) = some ns
  | [] => rfl
  | n :: ns => by simp [intsD, intsD_map ns]
def blsD : List D → Option (List Bool)
  | [] => some []
  | .bl i :: ds => (blsD ds).map (i :: ·)
  | _ :: _ => none
theorem blsD_eq : ∀ {ds : List D} {ns : List Bool}, blsD ds = some ns → ds = ns.map .bl
  | [], ns, h => by cases h; rfl
  | .bl i :: ds, ns, h => by
    obtain ⟨r, e, rfl⟩ := Option.map_eq_some_iff.mp h
    rw [blsD_eq e]; rfl
  | .non :: _, _, h => by cases h
  | .int _ :: _, _, h => by cases h
  | .str _ :: _, _, h => by cases h
  | .scr _ :: _, _, h => by cases h
  | .tup _ :: _, _, h => by cases h
  | .lst _ :: _, _, h => by cases h
  | .dk _ :: _, _, h => by cases h
  | .dt _ :: _, _, h => by cases h
  | .ins _ _ :: _, _, h => by cases h
  | .clo _ _ :: _, _, h => by cases h
theorem blsD_map : ∀ ns : List Bool, blsD (ns.map .bl) = some ns
  | [] => rfl
  | n :: ns => by simp [blsD, blsD_map ns]
def strsD : List D → Option (List Str)
  | [] => some []
  | .str i :: ds => (strsD ds).map (i :: ·)
  | _ :: _ => none
theorem strsD_eq : ∀ {ds : List D} {ns : List Str}, strsD ds = some ns → ds = ns.map .str
  | [], ns, h => by cases h; rfl
  | .str i :: ds, ns, h => by
    obtain ⟨r, e, rfl⟩ := Option.map_eq_some_iff.mp h
    rw [strsD_eq e]; rfl
  | .non :: _, _, h => by cases h
  | .int _ :: _, _, h => by cases h
  | .bl _ :: _, _, h => by cases h
  | .scr _ :: _, _, h => by cases h
  | .tup _ :: _, _, h => by cases h
  | .lst _ :: _, _, h => by cases h
  | .dk _ :: _, _, h => by cases h
  | .dt _ :: _, _, h => by cases h
  | .ins _ _ :: _, _, h => by cases h
  | .clo _ _ :: _, _, h => by cases h
theorem strsD_map : ∀ ns : List Str, strsD (ns.map .str) = some ns
  | [] => rfl
  | n :: ns => by simp [strsD, strsD_map ns]

section
variable {X : Cx} {g : G} {n : Nat}
/-! ### len -/
def lenP : R → Option R
  | .vw (.pl (.dk ds)) => some (rI ds.length)
  | .vw (.pl (.dt ds)) => some (rI ds.length)
  | _ => none
theorem lenP_ok {r q : R} (h : lenP r = some q) : ∃ d : D, r = .vw (.pl d) ∧ ((∃ ds, d = .dk ds ∧ q = rI ds.length) ∨ ∃ ds, d = .dt ds ∧ q = rI ds.length) := by
  unfold lenP at h
  split at h
  · cases h; exact ⟨_, rfl, .inl ⟨_, rfl, rfl⟩⟩
  · cases h; exact ⟨_, rfl, .inr ⟨_, rfl, rfl⟩⟩
  · cases h
def lenR : List R → Option R
  | [r] => (match r.d with
    | .str z => if z.length ≤ sizeLine then some (rI z.length) else none
    | .lst ds => some (rI ds.length)
    | .tup ds => some (rI ds.length)
    | .scr ns => some (rI ns.length)
    | _ => lenP r)
  | _ => none
theorem xrs1 {M O : AS} {H0 H : Hp} {vs : List V} {r : R} (h : XRs g M O H0 H vs [r]) : ∃ v, vs = [v] ∧ XR g M O H0 H v r := by
  cases h with | cons a b => cases b; exact ⟨_, rfl, a⟩
theorem xrs2 {M O : AS} {H0 H : Hp} {vs : List V} {r q : R} (h : XRs g M O H0 H vs [r, q]) : ∃ v w, vs = [v, w] ∧ XR g M O H0 H v r ∧ XR g M O H0 H w q := by
  cases h with | cons a b => cases b with | cons b c => cases c; exact ⟨_, _, rfl, a, b⟩
theorem call_len_Q (f : Fit X g n) : CallR X (.builtin "len") (rBlt g lenR) := by
  intro pins s σ H xs us Q I r h
  obtain ⟨M, O, H0, rs, c, s0, xq, r', e, k⟩ := h
  unfold lenR at e
  split at e
  · rename_i ra
    obtain ⟨v, rfl, xv⟩ := xrs1 xq
    split at e
    · rename_i z ed
      split at e
      · rename_i hz
        cases e
        rw [xv.flat_str ed] at r
        exact call_len_str pins s σ H _ us Q I r ⟨z, rfl, hz, k _ H (Same.refl H) (.int _)⟩
      · cases e
    · rename_i ds ed
      cases e
      obtain ⟨a, vs, rfl, h1, h2⟩ := xv.lstV ed
      refine call_len_seq pins s σ H _ us Q I r ⟨a, vs, rfl, .inl (SqL.of h1), ?_⟩
      rw [h2.length]; exact k _ H (Same.refl H) (.int _)
    · rename_i ds ed
      cases e
      obtain ⟨a, vs, rfl, h1, h2⟩ := xv.tupV ed
      refine call_len_seq pins s σ H _ us Q I r ⟨a, vs, rfl, .inr (SqT.of h1), ?_⟩
      rw [h2.length]; exact k _ H (Same.refl H) (.int _)
    · rename_i ns ed
      cases e
      obtain ⟨a, rfl, h1⟩ := xv.scr ed
      refine call_len_seq pins s σ H _ us Q I r ⟨a, _, rfl, .inl (by rw [f.K]; exact h1), ?_⟩
      rw [List.length_map]; exact k _ H (Same.refl H) (.int _)
    · obtain ⟨ds, rfl, ee⟩ := lenP_ok e
      obtain ⟨S, fS, q⟩ := xv
      rcases ee with ⟨kvs, rfl, rfl⟩ | ⟨kvs, rfl, rfl⟩
      · cases q with
        | pl hs ht =>
          obtain ⟨ks, h1, h2, h3⟩ := ht
          have := own_dk (c.same s0) (fS _ hs) h1
          refine call_lenD pins s σ H _ us Q I r ⟨_, ks, rfl, this, ?_⟩
          have e : ks.length = kvs.length := by rw [← List.length_map (f := (·.1)), h2, List.length_map]
          rw [e]; exact k _ H (Same.refl H) (.int _)
      · cases q with
        | pl hs ht =>
          obtain ⟨ks, h1, h2, h3⟩ := ht
          have := own_dk (c.same s0) (fS _ hs) h1
          refine call_len_dT pins s σ H _ us Q I r ⟨_, ks, rfl, this, ?_⟩
          have e : ks.length = kvs.length := by rw [← List.length_map (f := (·.1)), h2, List.length_map]
          rw [e]; exact k _ H (Same.refl H) (.int _)
  · cases e

/-! ### list, tuple -/
def lstR1 : List R → Option R
  | [r] => (match r.sh with
    | some (.lst ds) => some (rL ds)
    | some (.tup ds) => some (rL ds)
    | some (.scr ns) => some (rL (ns.map .int))
    | some (.dk ds) => some (rL (ds.map fun kv => kD kv.1))
    | some (.dt ds) => some (rL (ds.map fun kv => .tup (kv.1.map kD)))
    | _ => none)
  | _ => none
theorem keys_rep {B : AS} {H : Hp} : ∀ {kvs : List (Key × V)} {ds : List (Key × D)}, kvs.map (·.1) = ds.map (·.1) → RepL g B H (kvs.map fun kv => kV kv.1) (ds.map fun kv => kD kv.1)
  | [], [], _ => .nil
  | p :: ps, q :: qs, h => by
    simp only [List.map_cons, List.cons.injEq] at h
    simp only [List.map_cons]
    rw [h.1]
    exact .cons (kD_rep _) (keys_rep h.2)
  | [], _ :: _, h => by simp at h
  | _ :: _, [], h => by simp at h
theorem keysT_rep {B : AS} {H : Hp} {bs : List Addr} : ∀ {kvs : List (List Key × V)} {ds : List (List Key × D)}, kvs.map (·.1) = ds.map (·.1) → IsKeys H kvs bs → (∀ b ∈ bs, ∀ vs, H b = some (.tup vs) → ¬ B b) → RepL g B H (bs.map V.ref) (ds.map fun kv => .tup (kv.1.map kD)) := by
  intro kvs ds h ik hb
  induction ik generalizing ds with
  | nil =>
    cases ds with
    | nil => exact .nil
    | cons _ _ => simp at h
  | @cons p b ps bs h1 h2 ih =>
    cases ds with
    | nil => simp at h
    | cons q qs =>
      simp only [List.map_cons, List.cons.injEq] at h
      simp only [List.map_cons]
      refine .cons ?_ (ih h.2 fun b' hb' => hb b' (List.mem_cons_of_mem _ hb'))
      rw [← h.1]
      exact .tup h1 (hb b List.mem_cons_self _ h1) (kDs_rep _)
theorem call_list_Q (f : Fit X g n) : CallR X (.type "list") (rBlt g lstR1) := by
  intro pins s σ H xs us Q I r h
  obtain ⟨M, O, H0, rs, c, s0, xq, r', e, k⟩ := h
  have c1 := c.same s0
  unfold lstR1 at e
  split at e
  · rename_i ra
    obtain ⟨v, rfl, xv⟩ := xrs1 xq
    split at e
    · rename_i ds ed
      cases e
      obtain ⟨a, vs, rfl, h1, h2⟩ := xv.nod ed
      exact call_list_of pins s σ H _ us Q I r ⟨a, vs, rfl, .inl (SqL.of h1), fun p hp => k _ _ (same_upd hp) (new_lst hp h2)⟩
    · rename_i ds ed
      cases e
      obtain ⟨a, vs, rfl, h1, h2⟩ := xv.nod ed
      exact call_list_of pins s σ H _ us Q I r ⟨a, vs, rfl, .inr (SqT.of h1), fun p hp => k _ _ (same_upd hp) (new_lst hp h2)⟩
    · rename_i ns ed
      cases e
      obtain ⟨a, rfl, h1⟩ := xv.scr (R.sh_d ed)
      exact call_list_of pins s σ H _ us Q I r ⟨a, _, rfl, .inl (by rw [f.K]; exact h1), fun p hp => k _ _ (same_upd hp) (new_lst hp (.ints ns))⟩
    · rename_i ds ed
      cases e
      obtain ⟨a, kvs, rfl, h1, h2, h3⟩ := xv.nod ed
      exact call_listD f.calm pins s σ H _ us Q I r ⟨a, kvs, rfl, h1, fun p hp => k _ _ (same_upd hp) (new_lst hp (keys_rep h2))⟩
    · rename_i ds ed
      cases e
      obtain ⟨a, kvs, rfl, h1, h2, h3⟩ := xv.nod ed
      exact call_list_dT f.calm pins s σ H _ us Q I r ⟨a, kvs, rfl, h1, fun p bs hp ik => k _ _ (same_upd hp) (new_lst hp (keysT_rep h2 ik fun b _ vs hb => c1.tup hb))⟩
    · cases e
  · cases e
def tupR1 : List R → Option R
  | [r] => (match r.sh with
    | some (.lst ds) => some (.shr (.tup ds))
    | some (.tup ds) => some (.shr (.tup ds))
    | _ => none)
  | _ => none
theorem call_tuple_Q (f : Fit X g n) : CallR X (.type "tuple") (rBlt g tupR1) := by
  intro pins s σ H xs us Q I r h
  obtain ⟨M, O, H0, rs, c, s0, xq, r', e, k⟩ := h
  have c1 := c.same s0
  unfold tupR1 at e
  split at e
  · rename_i ra
    obtain ⟨v, rfl, xv⟩ := xrs1 xq
    split at e
    · rename_i ds ed
      cases e
      obtain ⟨a, vs, rfl, h1, h2⟩ := xv.nod ed
      exact call_tuple_of pins s σ H _ us Q I r ⟨a, vs, rfl, .inl ⟨SqL.of h1, fun p hp => k _ _ (same_upd hp) (new_tup c1 hp h2)⟩⟩
    · rename_i ds ed
      cases e
      obtain ⟨a, vs, rfl, h1, h2⟩ := xv.nod ed
      exact call_tuple_of pins s σ H _ us Q I r ⟨a, vs, rfl, .inr ⟨SqT.of h1, k _ _ (Same.refl H) (.tup h1 (c1.tup h1) h2)⟩⟩
    · cases e
  · cases e

/-! ### sum, min, max, all, any -/
/-- a list's items, a written one's too -/
def lstD : D → Option (List D)
  | .lst ds => some ds
  | .scr ns => some (ns.map .int)
  | _ => none
theorem lstD_ok {M O : AS} {H0 H : Hp} {v : V} {ra : R} {ds : List D} {K : PySem.W.Frag} (hK : K = g.K) (xv : XR g M O H0 H v ra) (e : lstD ra.d = some ds) : ∃ a vs, v = .ref a ∧ SqL K H a vs ∧ RepL g .no H vs ds := by
  subst hK
  unfold lstD at e
  split at e
  · rename_i es ed
    cases e
    obtain ⟨a, vs, rfl, h1, h2⟩ := xv.lstV ed
    exact ⟨a, vs, rfl, SqL.of h1, h2⟩
  · rename_i es ed
    cases e
    obtain ⟨a, rfl, h1⟩ := xv.scr ed
    exact ⟨a, _, rfl, h1, .ints _⟩
  · cases e
def sumR : List R → Option R
  | [r] => ((lstD r.d).bind intsD).map fun ns => rI ns.sum
  | _ => none
theorem call_sum_Q (f : Fit X g n) : CallR X (.builtin "sum") (rBlt g sumR) := by
  intro pins s σ H xs us Q I r h
  obtain ⟨M, O, H0, rs, c, s0, xq, r', e, k⟩ := h
  unfold sumR at e
  split at e
  · rename_i ra
    obtain ⟨v, rfl, xv⟩ := xrs1 xq
    obtain ⟨ns, e1, rfl⟩ := Option.map_eq_some_iff.mp e
    obtain ⟨ds, e2, e3⟩ := Option.bind_eq_some_iff.mp e1
    obtain ⟨a, vs, rfl, h1, h2⟩ := lstD_ok f.K xv e2
    rw [intsD_eq e3] at h2
    rw [h2.ints_inv] at h1
    exact cr_sum f.calm pins s σ H _ us Q I r ⟨a, ns, rfl, h1, k _ H (Same.refl H) (.int _)⟩
  · cases e
def minL : List Int → Option Int
  | [] => none
  | n :: ns => some (ns.foldl min n)
def maxL : List Int → Option Int
  | [] => none
  | n :: ns => some (ns.foldl max n)
theorem foldl_min : ∀ (ns : List Int) (n : Int), (ns.foldl min n = n ∨ ns.foldl min n ∈ ns) ∧ ns.foldl min n ≤ n ∧ ∀ y ∈ ns, ns.foldl min n ≤ y
  | [], n => ⟨.inl rfl, Int.le_refl _, fun _ h => absurd h (by simp)⟩
  | m :: ns, n => by
    obtain ⟨h1, h2, h3⟩ := foldl_min ns (min n m)
    simp only [List.foldl_cons]
    have a : min n m ≤ n := by omega
    have b : min n m ≤ m := by omega
    refine ⟨?_, Int.le_trans h2 a, fun y hy => ?_⟩
    · rcases h1 with h1 | h1
      · rw [h1]
        by_cases q : n ≤ m
        · left; omega
        · right; rw [show min n m = m by omega]; exact List.mem_cons_self
      · exact .inr (List.mem_cons_of_mem _ h1)
    · rcases List.mem_cons.mp hy with e | e
      · rw [e]; exact Int.le_trans h2 b
      · exact h3 y e
theorem foldl_max : ∀ (ns : List Int) (n : Int), (ns.foldl max n = n ∨ ns.foldl max n ∈ ns) ∧ n ≤ ns.foldl max n ∧ ∀ y ∈ ns, y ≤ ns.foldl max n
  | [], n => ⟨.inl rfl, Int.le_refl _, fun _ h => absurd h (by simp)⟩
  | m :: ns, n => by
    obtain ⟨h1, h2, h3⟩ := foldl_max ns (max n m)
    simp only [List.foldl_cons]
    have a : n ≤ max n m := by omega
    have b : m ≤ max n m := by omega
    refine ⟨?_, Int.le_trans a h2, fun y hy => ?_⟩
    · rcases h1 with h1 | h1
      · rw [h1]
        by_cases q : m ≤ n
        · left; omega
        · right; rw [show max n m = m by omega]; exact List.mem_cons_self
      · exact .inr (List.mem_cons_of_mem _ h1)
    · rcases List.mem_cons.mp hy with e | e
      · rw [e]; exact Int.le_trans b h2
      · exact h3 y e
theorem minL_ok {ns : List Int} {m : Int} (h : minL ns = some m) : m ∈ ns ∧ ∀ y ∈ ns, m ≤ y := by
  cases ns with
  | nil => cases h
  | cons n ns =>
    cases h
    obtain ⟨h1, h2, h3⟩ := foldl_min ns n
    refine ⟨?_, fun y hy => ?_⟩
    · rcases h1 with e | e
      · rw [e]; exact List.mem_cons_self
      · exact List.mem_cons_of_mem _ e
    · rcases List.mem_cons.mp hy with e | e
      · rw [e]; exact h2
      · exact h3 y e
theorem maxL_ok {ns : List Int} {m : Int} (h : maxL ns = some m) : m ∈ ns ∧ ∀ y ∈ ns, y ≤ m := by
  cases ns with
  | nil => cases h
  | cons n ns =>
    cases h
    obtain ⟨h1, h2, h3⟩ := foldl_max ns n
    refine ⟨?_, fun y hy => ?_⟩
    · rcases h1 with e | e
      · rw [e]; exact List.mem_cons_self
      · exact List.mem_cons_of_mem _ e
    · rcases List.mem_cons.mp hy with e | e
      · rw [e]; exact h2
      · exact h3 y e
def minR : List R → Option R
  | [r] => (((lstD r.d).bind intsD).bind minL).map rI
  | [r, q] => (match r.d, q.d with
    | .int i, .int j => some (rI (min i j))
    | _, _ => none)
  | _ => none
def maxR : List R → Option R
  | [r] => (((lstD r.d).bind intsD).bind maxL).map rI
  | [r, q] => (match r.d, q.d with
    | .int i, .int j => some (rI (max i j))
    | _, _ => none)
  | _ => none
theorem call_min_Q (f : Fit X g n) : CallR X (.builtin "min") (rBlt g minR) := by
  intro pins s σ H xs us Q I r h
  obtain ⟨M, O, H0, rs, c, s0, xq, r', e, k⟩ := h
  unfold minR at e
  split at e
  · rename_i ra
    obtain ⟨v, rfl, xv⟩ := xrs1 xq
    obtain ⟨m, e1, rfl⟩ := Option.map_eq_some_iff.mp e
    obtain ⟨ns, e1, e4⟩ := Option.bind_eq_some_iff.mp e1
    obtain ⟨ds, e2, e3⟩ := Option.bind_eq_some_iff.mp e1
    obtain ⟨a, vs, rfl, h1, h2⟩ := lstD_ok f.K xv e2
    rw [intsD_eq e3] at h2
    rw [h2.ints_inv] at h1
    obtain ⟨z1, z2⟩ := minL_ok e4
    refine cr_min f.calm pins s σ H _ us Q I r ⟨a, ns, rfl, h1, List.length_pos_of_mem z1, fun m' q1 q2 => ?_⟩
    rw [Int.le_antisymm (q2 m z1) (z2 m' q1)]
    exact k _ H (Same.refl H) (.int _)
  · rename_i ra rb
    obtain ⟨v, w, rfl, xv, xw⟩ := xrs2 xq
    split at e
    · rename_i i j e1 e2
      cases e
      have h1 := xv.flat_int e1
      have h2 := xw.flat_int e2
      subst h1 h2
      refine call_min2 f.calm pins s σ H _ us Q I r ⟨i, j, rfl, ?_⟩
      rw [show (if j < i then j else i) = min i j by split <;> omega]
      exact k _ H (Same.refl H) (.int _)
    · cases e
  · cases e
theorem call_max_Q (f : Fit X g n) : CallR X (.builtin "max") (rBlt g maxR) := by
  intro pins s σ H xs us Q I r h
  obtain ⟨M, O, H0, rs, c, s0, xq, r', e, k⟩ := h
  unfold maxR at e
  split at e
  · rename_i ra
    obtain ⟨v, rfl, xv⟩ := xrs1 xq
    obtain ⟨m, e1, rfl⟩ := Option.map_eq_some_iff.mp e
    obtain ⟨ns, e1, e4⟩ := Option.bind_eq_some_iff.mp e1
    obtain ⟨ds, e2, e3⟩ := Option.bind_eq_some_iff.mp e1
    obtain ⟨a, vs, rfl, h1, h2⟩ := lstD_ok f.K xv e2
    rw [intsD_eq e3] at h2
    rw [h2.ints_inv] at h1
    obtain ⟨z1, z2⟩ := maxL_ok e4
    refine cr_max f.calm pins s σ H _ us Q I r ⟨a, ns, rfl, h1, List.length_pos_of_mem z1, fun m' q1 q2 => ?_⟩
    rw [Int.le_antisymm (z2 m' q1) (q2 m z1)]
    exact k _ H (Same.refl H) (.int _)
  · rename_i ra rb
    obtain ⟨v, w, rfl, xv, xw⟩ := xrs2 xq
    split at e
    · rename_i i j e1 e2
      cases e
      have h1 := xv.flat_int e1
      have h2 := xw.flat_int e2
      subst h1 h2
      refine call_max2 f.calm pins s σ H _ us Q I r ⟨i, j, rfl, ?_⟩
      rw [show (if j > i then j else i) = max i j by split <;> omega]
      exact k _ H (Same.refl H) (.int _)
    · cases e
  · cases e
def allR : List R → Option R
  | [r] => ((lstD r.d).bind blsD).map fun bs => rB (bs.all id)
  | _ => none
def anyR : List R → Option R
  | [r] => ((lstD r.d).bind blsD).map fun bs => rB (bs.any id)
  | _ => none
theorem call_all_Q (f : Fit X g n) : CallR X (.builtin "all") (rBlt g allR) := by
  intro pins s σ H xs us Q I r h
  obtain ⟨M, O, H0, rs, c, s0, xq, r', e, k⟩ := h
  unfold allR at e
  split at e
  · rename_i ra
    obtain ⟨v, rfl, xv⟩ := xrs1 xq
    obtain ⟨bs, e1, rfl⟩ := Option.map_eq_some_iff.mp e
    obtain ⟨ds, e2, e3⟩ := Option.bind_eq_some_iff.mp e1
    obtain ⟨a, vs, rfl, h1, h2⟩ := lstD_ok f.K xv e2
    rw [blsD_eq e3] at h2
    rw [h2.bls_inv] at h1
    exact cr_all f.calm pins s σ H _ us Q I r ⟨a, bs, rfl, h1, k _ H (Same.refl H) (.bl _)⟩
  · cases e
theorem call_any_Q (f : Fit X g n) : CallR X (.builtin "any") (rBlt g anyR) := by
  intro pins s σ H xs us Q I r h
  obtain ⟨M, O, H0, rs, c, s0, xq, r', e, k⟩ := h
  unfold anyR at e
  split at e
  · rename_i ra
    obtain ⟨v, rfl, xv⟩ := xrs1 xq
    obtain ⟨bs, e1, rfl⟩ := Option.map_eq_some_iff.mp e
    obtain ⟨ds, e2, e3⟩ := Option.bind_eq_some_iff.mp e1
    obtain ⟨a, vs, rfl, h1, h2⟩ := lstD_ok f.K xv e2
    rw [blsD_eq e3] at h2
    rw [h2.bls_inv] at h1
    exact cr_any f.calm pins s σ H _ us Q I r ⟨a, bs, rfl, h1, k _ H (Same.refl H) (.bl _)⟩
  · cases e

/-! ### str, int, divmod -/
def strR1 : List R → Option R
  | [r] => (match r.d with
    | .int i => if i.natAbs.log2 < 1920 then some (rS (toString i)) else none
    | _ => none)
  | _ => none
theorem call_str_Q (f : Fit X g n) : CallR X (.type "str") (rBlt g strR1) := by
  intro pins s σ H xs us Q I r h
  obtain ⟨M, O, H0, rs, c, s0, xq, r', e, k⟩ := h
  unfold strR1 at e
  split at e
  · rename_i ra
    obtain ⟨v, rfl, xv⟩ := xrs1 xq
    split at e
    · rename_i i ed
      split at e
      · rename_i hz
        cases e
        rw [xv.flat_int ed] at r
        exact call_str_int pins s σ H _ us Q I r ⟨i, rfl, hz, k _ H (Same.refl H) (.str _)⟩
      · cases e
    · cases e
  · cases e
def intR1 : List R → Option R
  | [r] => (match r.d with
    | .int i => some (rI i)
    | .bl b => some (rI (if b then 1 else 0))
    | .str z => if z.length ≤ 640 then (PySem.intText? z).map rI else none
    | _ => none)
  | _ => none
theorem call_int_Q (f : Fit X g n) : CallR X (.type "int") (rBlt g intR1) := by
  intro pins s σ H xs us Q I r h
  obtain ⟨M, O, H0, rs, c, s0, xq, r', e, k⟩ := h
  unfold intR1 at e
  split at e
  · rename_i ra
    obtain ⟨v, rfl, xv⟩ := xrs1 xq
    split at e
    · rename_i i ed
      cases e
      rw [xv.flat_int ed] at r
      exact call_int1 pins s σ H _ us Q I r (.inl ⟨i, rfl, k _ H (Same.refl H) (.int _)⟩)
    · rename_i i ed
      cases e
      rw [xv.flat_bl ed] at r
      exact call_int1 pins s σ H _ us Q I r (.inr ⟨i, rfl, k _ H (Same.refl H) (.int _)⟩)
    · rename_i z ed
      split at e
      · rename_i hz
        obtain ⟨m, em, rfl⟩ := Option.map_eq_some_iff.mp e
        rw [xv.flat_str ed] at r
        exact call_int_str pins s σ H _ us Q I r ⟨z, m, rfl, em, hz, k _ H (Same.refl H) (.int _)⟩
      · cases e
    · cases e
  · cases e
def divmodR : List R → Option R
  | [r, q] => (match r.d, q.d with
    | .int i, .int j => @ite _ (0 < j ∧ j < 2 ^ 4096) (Classical.propDecidable _) (some (.shr (.tup [.int (i / j), .int (i % j)]))) none
    | _, _ => none)
  | _ => none
theorem divp_of {i j : Int} (h : 0 < j ∧ j < 2 ^ 4096) : CDivP i j := by
  refine ⟨h.1, ?_⟩
  have := (log2_of h)
  have hn : j.natAbs < 2 ^ 4096 := by
    have h1 : (j.natAbs : Int) = j := Int.natAbs_of_nonneg (Int.le_of_lt h.1)
    have h2 : ((j.natAbs : Nat) : Int) < ((2 ^ 4096 : Nat) : Int) := by rw [h1]; exact_mod_cast h.2
    exact_mod_cast h2
  have hl : j.natAbs.log2 < 4096 := (Nat.log2_lt (by omega)).mpr hn
  show (decide ((if j == 0 then 0 else j.natAbs.log2 / 30 + 1) > 300) && _) = false
  have z : ¬ ((if j == 0 then 0 else j.natAbs.log2 / 30 + 1) > 300) := by split <;> omega
  rw [decide_eq_false z]
  rfl
theorem call_divmod_Q (f : Fit X g n) : CallR X (.builtin "divmod") (rBlt g divmodR) := by
  intro pins s σ H xs us Q I r h
  obtain ⟨M, O, H0, rs, c, s0, xq, r', e, k⟩ := h
  have c1 := c.same s0
  unfold divmodR at e
  split at e
  · rename_i ra rb
    obtain ⟨v, w, rfl, xv, xw⟩ := xrs2 xq
    split at e
    · rename_i i j e1 e2
      have h1 := xv.flat_int e1
      have h2 := xw.flat_int e2
      subst h1 h2
      split at e
      · rename_i hz
        cases e
        exact call_divmodW pins s σ H _ us Q I r ⟨i, j, rfl, divp_of hz, fun p hp => k _ _ (same_upd hp) (new_tup c1 hp (.cons (.int _) (.cons (.int _) .nil)))⟩
      · cases e
    · cases e
  · cases e

/-! ### dict -/
def dicR1 : List R → Option R
  | [r] => (match r.sh with
    | some (.dk ds) => some (rDk ds)
    | _ => none)
  | _ => none
theorem call_dict_Q (f : Fit X g n) : CallR X (.type "dict") (rBlt g dicR1) := by
  intro pins s σ H xs us Q I r h
  obtain ⟨M, O, H0, rs, c, s0, xq, r', e, k⟩ := h
  unfold dicR1 at e
  split at e
  · rename_i ra
    obtain ⟨v, rfl, xv⟩ := xrs1 xq
    split at e
    · rename_i ds ed
      cases e
      obtain ⟨a, kvs, rfl, h1, h2, h3⟩ := xv.nod ed
      refine call_dictD pins s σ H _ us Q I r ⟨a, kvs, rfl, h1, fun p hp => k _ _ (same_upd hp) ?_⟩
      exact ⟨.one p, fun a z => by cases (show a = p from z); exact ⟨hp, _, upd_same, trivial⟩, .pl rfl ⟨kvs, .inl upd_same, h2, h3.tr (Tr.aside hp)⟩⟩
    · cases e
  · cases e

/-! ### sorted -/
def leD (a b : D) : Bool := PySem.W.dataLe false py a b
def isTu : PyData → Bool
  | .tuple (_ :: _) => true
  | _ => false
def isPl : PyData → Bool
  | .none => false
  | .tuple _ => false
  | _ => true
def srtB (ds : List D) : Bool := layL 59 ds && (ds.all fun d => ds.all fun e => PySem.W.alike (py d) (py e)) && ((ds.all fun d => isTu (py d)) || ds.all fun d => isPl (py d)) && decide (ds.length ≤ sizeLine)
def sortD (ds : List D) : List D := ds.mergeSort leD
def srtR : List R → Option R
  | [r] => (match r.sh with
    | some (.lst ds) => if srtB ds = true then some (rL (sortD ds)) else none
    | _ => none)
  | _ => none
theorem layL_get {n : Nat} : ∀ {ds : List D}, layL n ds = true → ∀ d ∈ ds, lay n d = true
  | [], _, d, h => absurd h (by simp)
  | x :: xs, e, d, h => by
    simp only [layL, Bool.and_eq_true] at e
    rcases List.mem_cons.mp h with z | z
    · rw [z]; exact e.1
    · exact layL_get e.2 d z
theorem RepL.zip {B : AS} {H : Hp} : ∀ {vs : List V} {ds : List D}, RepL g B H vs ds → ∀ p ∈ vs.zip ds, Rep g B H p.1 p.2
  | _, _, .nil, p, h => absurd h (by simp)
  | _, _, .cons h r, p, q => by
    rcases List.mem_cons.mp (by simpa using q) with e | e
    · rw [e]; exact h
    · exact RepL.zip r p e
theorem RepL.of_zip {B : AS} {H : Hp} : ∀ {ps : List (V × D)}, (∀ p ∈ ps, Rep g B H p.1 p.2) → RepL g B H (ps.map Prod.fst) (ps.map Prod.snd)
  | [], _ => .nil
  | p :: ps, h => .cons (h p List.mem_cons_self) (RepL.of_zip fun q hq => h q (List.mem_cons_of_mem _ hq))
theorem each_vals : ∀ {us : List Value} {ps : List (V × D)}, PySem.W.EachIs (fun (u : Value) (p : V × D) => RelV p.1 u) us ps → Vals (ps.map Prod.fst) us
  | _, _, .nil => .nil
  | _, _, .cons h r => .cons h (each_vals r)
theorem vals_each {I : Prop} : ∀ {vs : List V} {us : List Value} {ds : List D}, Vals vs us → vs.length = ds.length → PySem.W.EachIs (fun (u : Value) (p : V × D) => RelV p.1 u) us (vs.zip ds)
  | _, _, [], .nil, _ => .nil
  | _, _, _ :: _, .cons h r, e => .cons h (vals_each (I := I) r (by simpa using e))
  | _, _, _ :: _, .nil, e => by simp at e
  | _, _, [], .cons _ _, e => by simp at e
theorem call_sorted_Q (f : Fit X g n) : CallR X (.builtin "sorted") (rBlt g srtR) := by
  intro pins s σ H xs us Q I r h
  obtain ⟨M, O, H0, rs, c, s0, xq, r', e, k⟩ := h
  unfold srtR at e
  split at e
  · rename_i ra
    obtain ⟨v, rfl, xv⟩ := xrs1 xq
    split at e
    · rename_i ds ed
      split at e
      · rename_i hz
        cases e
        obtain ⟨a, vs, rfl, h1, h2⟩ := xv.nod ed
        simp only [srtB, Bool.and_eq_true, List.all_eq_true, decide_eq_true_eq, Bool.or_eq_true] at hz
        obtain ⟨⟨⟨z1, z2⟩, z3⟩, z4⟩ := hz
        obtain ⟨its, rv, hl, hzl⟩ := I.list (SqL.of h1)
        rw [Vals.ref1 r]
        have hlen := h2.length
        have zz : ∀ p ∈ vs.zip ds, Rep g (M.u O) H p.1 p.2 := h2.zip
        have mem2 : ∀ p ∈ vs.zip ds, p.2 ∈ ds := fun p hp => (List.of_mem_zip hp).2
        refine PySem.W.sorted_data (R := fun u (p : V × D) => RelV p.1 u) (enc := fun p : V × D => py p.2) (bs := vs.zip ds) (vs := its) hl.isList (vals_each (I := True) rv hlen) ?_ ?_ ?_ ?_ ?_ fun out ho er => ?_
        · have : ∀ {us : List Value} {ps : List (V × D)}, (∀ p ∈ ps, Rep g (M.u O) H p.1 p.2 ∧ p.2 ∈ ds) → PySem.W.EachIs (fun (u : Value) (p : V × D) => RelV p.1 u) us ps → PySem.W.EachIs (fun u (p : V × D) => ∃ as, Reads s.heap u (py p.2) as) us ps := by
            intro us ps hp er
            induction er with
            | nil => exact .nil
            | @cons u p us ps h1 h2 ih =>
              refine .cons ?_ (ih fun q hq => hp q (List.mem_cons_of_mem _ hq))
              obtain ⟨q1, q2⟩ := hp p List.mem_cons_self
              exact Dp.reads I _ _ _ (by rw [f.K]; exact q1.dp (layL_get z1 _ q2)) h1
          exact this (fun p hp => ⟨zz p hp, mem2 p hp⟩) (vals_each (I := True) rv hlen)
        · intro d hd d' hd'
          obtain ⟨p, hp, rfl⟩ := List.mem_map.mp hd
          obtain ⟨q, hq, rfl⟩ := List.mem_map.mp hd'
          exact z2 _ (mem2 p hp) _ (mem2 q hq)
        · rcases z3 with z3 | z3
          · refine .inl fun d hd => ?_
            obtain ⟨p, hp, rfl⟩ := List.mem_map.mp hd
            have := z3 _ (mem2 p hp)
            unfold isTu at this
            split at this
            · rename_i x xs e; exact ⟨x, xs, e⟩
            · cases this
          · refine .inr fun d hd => ?_
            obtain ⟨p, hp, rfl⟩ := List.mem_map.mp hd
            have := z3 _ (mem2 p hp)
            constructor
            · intro e; rw [e] at this; cases this
            · intro xs e; rw [e] at this; cases this
        · rw [List.length_zip, hlen]; omega
        · intro p hp
          have := (lay_ok _ (layL_get z1 _ (mem2 p hp))).2
          have := f.hu64
          omega
        · have p1 := List.mergeSort_perm (vs.zip ds) (PySem.W.dataLe false fun p : V × D => py p.2)
          have q1 : ∀ p ∈ (vs.zip ds).mergeSort (PySem.W.dataLe false fun p : V × D => py p.2), Rep g (M.u O) H p.1 p.2 := fun p hp => zz p (p1.mem_iff.mp hp)
          have q2 := RepL.of_zip q1
          have e3 : ((vs.zip ds).mergeSort (PySem.W.dataLe false fun p : V × D => py p.2)).map Prod.snd = sortD ds := by
            have e4 := PySem.W.sort_maps (r := PySem.W.dataLe false fun p : V × D => py p.2) (s := leD) Prod.snd (l := vs.zip ds) (fun _ _ _ _ => rfl)
            rw [List.map_snd_zip (by omega)] at e4
            exact e4
          rw [e3] at q2
          have q3 := each_vals er
          obtain ⟨ep, he'⟩ := PyProof.Rows.sortedAll_at s.heap its out.toArray
          have hp : H (s.heap.objs.size + 1) = none := I.hok.fresh (Nat.le_succ _)
          refine ⟨.ref _, upd H (s.heap.objs.size + 1) (.lst (((vs.zip ds).mergeSort (PySem.W.dataLe false fun p : V × D => py p.2)).map Prod.fst)), I.laid (t' := s.toks) (fun _ _ => PyProof.Rows.sortedAll_old) (Nat.le_succ _) ⟨?_, out, ep, q3, he'⟩, rfl, k _ _ (same_upd hp) (new_lst hp q2)⟩
          rw [q2.length]
          unfold sortD
          rw [(List.mergeSort_perm _ _).length_eq]
          exact z4
      · cases e
    · cases e
  · cases e
end

/-! ### the table -/
inductive Blt
  | len | lst | tup | sum | min | max | all | any | str | int | divmod | dic | srt
def Blt.x : Blt → Str
  | .len => "len" | .lst => "list" | .tup => "tuple" | .sum => "sum" | .min => "min" | .max => "max" | .all => "all" | .any => "any" | .str => "str" | .int => "int" | .divmod => "divmod" | .dic => "dict" | .srt => "sorted"
def Blt.v : Blt → Value
  | .len => .builtin "len" | .lst => .type "list" | .tup => .type "tuple" | .sum => .builtin "sum" | .min => .builtin "min" | .max => .builtin "max" | .all => .builtin "all" | .any => .builtin "any" | .str => .type "str" | .int => .type "int" | .divmod => .builtin "divmod" | .dic => .type "dict" | .srt => .builtin "sorted"
def Blt.F : Blt → List R → Option R
  | .len => lenR | .lst => lstR1 | .tup => tupR1 | .sum => sumR | .min => minR | .max => maxR | .all => allR | .any => anyR | .str => strR1 | .int => intR1 | .divmod => divmodR | .dic => dicR1 | .srt => srtR
theorem Blt.ok {X : Cx} {g : G} {n : Nat} (f : Fit X g n) (b : Blt) : CallR X b.v (rBlt g b.F) := by
  cases b with
  | len => exact call_len_Q f
  | lst => exact call_list_Q f
  | tup => exact call_tuple_Q f
  | sum => exact call_sum_Q f
  | min => exact call_min_Q f
  | max => exact call_max_Q f
  | all => exact call_all_Q f
  | any => exact call_any_Q f
  | str => exact call_str_Q f
  | int => exact call_int_Q f
  | divmod => exact call_divmod_Q f
  | dic => exact call_dict_Q f
  | srt => exact call_sorted_Q f
theorem Blt.boot (b : Blt) : bootBuiltins b.x = some b.v := by cases b <;> decide +kernel
theorem Blt.fm (b : Blt) : (∃ id, b.v = .builtin id) ∨ ∃ T, b.v = .type T := by
  cases b <;> first | exact .inl ⟨_, rfl⟩ | exact .inr ⟨_, rfl⟩
theorem Blt.nn (b : Blt) : b.x ≠ "__name__" := by cases b <;> decide
theorem Blt.db (b : Blt) : (b.x == ("__debug__" : Str)) = false := by cases b <;> decide
end
end Q

end

section
set_option Elab.async false
set_option linter.all false
set_option maxRecDepth 100000
set_option maxHeartbeats 1000000
/-! Q16: methods of texts; d.get(k, x); slots forgotten; calls that change a part; comprehensions. -/
namespace Q
noncomputable section
open PySem PySem.Spec L2
open PyProof.Rows hiding St

/-! ### methods of texts -/
def splitR (r : R) : List R → Option R
  | [q] => (match r.d, q.d with
    | .str a, .str b => if (b.length == 0) = false ∧ a.length + 2 ≤ sizeLine then some (rL ((Txt.split a b).map .str)) else none
    | _, _ => none)
  | _ => none
def partR (r : R) : List R → Option R
  | [q] => (match r.d, q.d with
    | .str a, .str b => if (b.length == 0) = false ∧ a.length ≤ sizeLine then some (.shr (.tup [.str (Txt.partition a b).1, .str (Txt.partition a b).2.1, .str (Txt.partition a b).2.2])) else none
    | _, _ => none)
  | _ => none
def joinR (r : R) : List R → Option R
  | [q] => (match r.d, (lstD q.d).bind strsD with
    | .str a, some ys => if (ys.map (·.length)).sum + ys.length * a.length ≤ 16777216 then some (rS (Txt.join a ys)) else none
    | _, _ => none)
  | _ => none
def uppR (r : R) : List R → Option R
  | [] => (match r.d with
    | .str a => if a.length ≤ 5592405 then some (rS (Txt.upper a)) else none
    | _ => none)
  | _ => none
def isdR (r : R) : List R → Option R
  | [] => (match r.d with
    | .str a => some (rB (Txt.isdigit a))
    | _ => none)
  | _ => none
def isaR (r : R) : List R → Option R
  | [] => (match r.d with
    | .str a => some (rB (Txt.isalpha a))
    | _ => none)
  | _ => none
section
variable {X : Cx} {g : G} {n : Nat}
theorem RepL.strs {B : AS} {H : Hp} : ∀ ns : List Str, RepL g B H (ns.map V.str) (ns.map D.str)
  | [] => .nil
  | n :: ns => .cons (.str n) (RepL.strs ns)
theorem xrs0 {M O : AS} {H0 H : Hp} {vs : List V} (h : XRs g M O H0 H vs []) : vs = [] := by cases h; rfl
theorem mt_split_Q (f : Fit X g n) : MtR X "str.split" (rBm g splitR) := by
  intro pins s σ H x xs v us Q I rx rxs h
  obtain ⟨M, O, H0, r, rs, c, s0, xv, xq, r', e, k⟩ := h
  unfold splitR at e
  split at e
  · obtain ⟨w, rfl, xw⟩ := xrs1 xq
    split at e
    · rename_i a b e1 e2
      split at e
      · rename_i hz
        cases e
        exact mt_split pins s σ H _ _ v us Q I rx rxs ⟨a, b, xv.flat_str e1, by rw [xw.flat_str e2], hz.1, hz.2, fun p hp => k _ _ (same_upd hp) (new_lst hp (.strs _))⟩
      · cases e
    · cases e
  · cases e
theorem mt_part_Q (f : Fit X g n) : MtR X "str.partition" (rBm g partR) := by
  intro pins s σ H x xs v us Q I rx rxs h
  obtain ⟨M, O, H0, r, rs, c, s0, xv, xq, r', e, k⟩ := h
  have c1 := c.same s0
  unfold partR at e
  split at e
  · obtain ⟨w, rfl, xw⟩ := xrs1 xq
    split at e
    · rename_i a b e1 e2
      split at e
      · rename_i hz
        cases e
        exact mt_partition pins s σ H _ _ v us Q I rx rxs ⟨a, b, xv.flat_str e1, by rw [xw.flat_str e2], hz.1, hz.2, fun p hp => k _ _ (same_upd hp) (new_tup c1 hp (.cons (.str _) (.cons (.str _) (.cons (.str _) .nil))))⟩
      · cases e
    · cases e
  · cases e
theorem mt_join_Q (f : Fit X g n) : MtR X "str.join" (rBm g joinR) := by
  intro pins s σ H x xs v us Q I rx rxs h
  obtain ⟨M, O, H0, r, rs, c, s0, xv, xq, r', e, k⟩ := h
  unfold joinR at e
  split at e
  · obtain ⟨w, rfl, xw⟩ := xrs1 xq
    split at e
    · rename_i a ys e1 e2
      split at e
      · rename_i hz
        cases e
        obtain ⟨ds, e3, e4⟩ := Option.bind_eq_some_iff.mp e2
        obtain ⟨p, vs, rfl, h1, h2⟩ := lstD_ok f.K xw e3
        rw [strsD_eq e4] at h2
        rw [h2.strs_inv] at h1
        exact mt_join pins s σ H _ _ v us Q I rx rxs ⟨a, p, ys, xv.flat_str e1, rfl, .inl h1, hz, k _ H (Same.refl H) (.str _)⟩
      · cases e
    · cases e
  · cases e
theorem mt_upp_Q (f : Fit X g n) : MtR X "str.upper" (rBm g uppR) := by
  intro pins s σ H x xs v us Q I rx rxs h
  obtain ⟨M, O, H0, r, rs, c, s0, xv, xq, r', e, k⟩ := h
  unfold uppR at e
  split at e
  · have := xrs0 xq
    subst this
    split at e
    · rename_i a e1
      split at e
      · rename_i hz
        cases e
        exact mt_upper pins s σ H _ _ v us Q I rx rxs ⟨a, xv.flat_str e1, rfl, hz, k _ H (Same.refl H) (.str _)⟩
      · cases e
    · cases e
  · cases e
theorem mt_isd_Q (f : Fit X g n) : MtR X "str.isdigit" (rBm g isdR) := by
  intro pins s σ H x xs v us Q I rx rxs h
  obtain ⟨M, O, H0, r, rs, c, s0, xv, xq, r', e, k⟩ := h
  unfold isdR at e
  split at e
  · have := xrs0 xq
    subst this
    split at e
    · rename_i a e1
      cases e
      exact mt_isdigit pins s σ H _ _ v us Q I rx rxs ⟨a, xv.flat_str e1, rfl, trivial, k _ H (Same.refl H) (.bl _)⟩
    · cases e
  · cases e
theorem mt_isa_Q (f : Fit X g n) : MtR X "str.isalpha" (rBm g isaR) := by
  intro pins s σ H x xs v us Q I rx rxs h
  obtain ⟨M, O, H0, r, rs, c, s0, xv, xq, r', e, k⟩ := h
  unfold isaR at e
  split at e
  · have := xrs0 xq
    subst this
    split at e
    · rename_i a e1
      cases e
      exact mt_isalpha pins s σ H _ _ v us Q I rx rxs ⟨a, xv.flat_str e1, rfl, trivial, k _ H (Same.refl H) (.bl _)⟩
    · cases e
  · cases e
end
/-! ### l.count(x) -/
def rCountD (K : PySem.W.Frag) : V → List V → Hp → VK → Prop := fun x xs H Q => ∃ (a : Addr) (y : V) (d : PyData) (ds : List PyData), x = V.ref a ∧ xs = [y] ∧ Dp K H (V.ref a) (.list ds) ∧ Dp K H y d ∧
  SeqAt.shaped (.list ds) = true ∧ SeqAt.shaped d = true ∧ Q (.int ((ds.countP fun z => PyData.eqv z d : Nat) : Int)) H
theorem mt_countD {X : Cx} (hu : X.A.units + 65 < cLine) : MtR X "list.count" (rCountD X.K) := by
  intro pins s σ H x xs v us Q I rx rxs h
  obtain ⟨a, y, d, ds, rfl, rfl, hl, hy, sl, sd, q⟩ := h
  cases rx
  cases rxs with
  | cons ry rt =>
    rename_i uy ut
    cases rt
    obtain ⟨bs, r1⟩ := Dp.reads I d y uy hy ry
    have hxs : PyData.canLayAll0 ds = true := SeqAt.canLay_of_shaped sl
    have hroom : X.A.units + 1 + min (PyData.depthAll ds) d.depth < cLine := room_in_shaped sd hu
    cases hl with
    | lst hs ha =>
      obtain ⟨its, rv, ⟨⟨cls, dd, data, sls⟩, n, ho, hc, hdn, hdt⟩, hlen⟩ := I.list hs
      simp only at hc hdt
      subst hc hdt
      obtain ⟨as, h4⟩ := Dp.readsAll I ds _ its ha rv
      have hmap : its.map (SeqAt.readOf s.heap) = ds := SeqAt.readsAll_map ds its as hxs h4
      refine call_meets PySem.F.slot_list_count ⟨_, ho, rfl⟩ PySem.F.entry_list_count (PySem.F.args_list_count_2 _ _)
        (SeqAt.list_countAt a its.toArray n dd sls uy (fun u => PyData.eqv (SeqAt.readOf s.heap u) d)) ⟨ho, SeqAt.items_eqAt (vs := its.toArray) (show ReadsAll s.heap its.toArray.toList ds as from h4) r1 hxs (SeqAt.canLay_of_shaped sd) hroom, ?_⟩
      have ec : its.toArray.toList.countP (fun u => PyData.eqv (SeqAt.readOf s.heap u) d) = ds.countP fun z => PyData.eqv z d := by
        rw [← hmap, List.countP_map]; rfl
      refine ⟨.int ((ds.countP fun z => PyData.eqv z d : Nat) : Int), H, I.tok _, ⟨s.toks, ?_⟩, q⟩
      show Value.int ((its.toArray.toList.countP (fun u => PyData.eqv (SeqAt.readOf s.heap u) d) : Nat) : Int) s.toks = _
      rw [ec]
def cntR : R → List R → Option R
  | r, [q] => (match r.d with
    | .lst ds => if layB q.d (.lst ds) = true then some (.shr (.int (((pyL ds).countP fun z => PyData.eqv z (py q.d) : Nat) : Int))) else none
    | _ => none)
  | _, _ => none
theorem mt_cnt_Q {X : Cx} {g : G} {n : Nat} (f : Fit X g n) : MtR X "list.count" (rBm g cntR) := by
  intro pins s σ H x xs v us Q I rx rxs h
  obtain ⟨M, O, H0, r, rs, c, s0, xv, xq, r', e, k⟩ := h
  unfold cntR at e
  split at e
  · rename_i q
    obtain ⟨y, rfl, yv⟩ := xrs1 xq
    split at e
    · rename_i ds ed
      split at e
      · rename_i hl
        cases e
        unfold layB at hl
        rw [Bool.and_eq_true] at hl
        have d2 := xv.dp (by rw [ed]; exact hl.2)
        rw [ed] at d2
        have s2 := shaped_of hl.2
        simp only [py] at d2 s2
        obtain ⟨a, ea⟩ : ∃ a, x = V.ref a := by
          have q := xv.view
          rw [ed] at q
          cases q
          exact ⟨_, rfl⟩
        subst ea
        exact mt_countD f.hu65 pins s σ H _ _ v us Q I rx rxs ⟨a, y, _, _, rfl, rfl, by rw [f.K]; exact d2, by rw [f.K]; exact yv.dp hl.1, s2, shaped_of hl.1, k _ H (Same.refl H) (.int _)⟩
      · cases e
    · cases e
  · cases e
inductive Bm
  | split | part | join | upp | isd | isa | cnt
def Bm.T : Bm → String
  | .cnt => "list" | _ => "str"
def Bm.m : Bm → Str
  | .split => "split" | .part => "partition" | .join => "join" | .upp => "upper" | .isd => "isdigit" | .isa => "isalpha" | .cnt => "count"
def Bm.id : Bm → String
  | .split => "str.split" | .part => "str.partition" | .join => "str.join" | .upp => "str.upper" | .isd => "str.isdigit" | .isa => "str.isalpha" | .cnt => "list.count"
def Bm.F : Bm → R → List R → Option R
  | .split => splitR | .part => partR | .join => joinR | .upp => uppR | .isd => isdR | .isa => isaR | .cnt => cntR
theorem Bm.ok {X : Cx} {g : G} {n : Nat} (f : Fit X g n) (b : Bm) : MtR X b.id (rBm g b.F) := by
  cases b with
  | split => exact mt_split_Q f
  | part => exact mt_part_Q f
  | join => exact mt_join_Q f
  | upp => exact mt_upp_Q f
  | isd => exact mt_isd_Q f
  | isa => exact mt_isa_Q f
  | cnt => exact mt_cnt_Q f
theorem Bm.pa (b : Bm) : PlainAttrs b.T := by
  cases b <;> first | exact PySem.F.plainAttrs_str | exact PySem.F.plainAttrs_list
theorem Bm.slot (b : Bm) : Slot b.T b.m b.id := by
  cases b with
  | split => exact PySem.F.slot_str_split
  | part => exact PySem.F.slot_str_partition
  | join => exact PySem.F.slot_str_join
  | upp => exact PySem.F.slot_str_upper
  | isd => exact PySem.F.slot_str_isdigit
  | isa => exact PySem.F.slot_str_isalpha
  | cnt => exact PySem.F.slot_list_count
theorem Bm.ty (b : Bm) : typeOf (.builtin b.id) = pure (.type "method_descriptor") := by
  cases b with
  | split => exact PySem.F.type_str_split
  | part => exact PySem.F.type_str_partition
  | join => exact PySem.F.type_str_join
  | upp => exact PySem.F.type_str_upper
  | isd => exact PySem.F.type_str_isdigit
  | isa => exact PySem.F.type_str_isalpha
  | cnt => exact PySem.F.type_list_count

/-! ### d.get(k, x) -/
def dkO (r : R) : Option D := match r.sh with
  | some (.dk ds) => some (.dk ds)
  | some (.dt ds) => some (.dt ds)
  | _ => none
theorem dkO_ok {r : R} {d : D} (h : dkO r = some d) : r.sh = some d ∧ ((∃ ds, d = .dk ds) ∨ ∃ ds, d = .dt ds) := by
  unfold dkO at h
  split at h
  · rename_i e; cases h; exact ⟨e, .inl ⟨_, rfl⟩⟩
  · rename_i e; cases h; exact ⟨e, .inr ⟨_, rfl⟩⟩
  · cases h
def dgetR (dd : D) (rk rd : R) : Option R := match rd with
  | .shr d => (getD dd rk.d).map fun o => .shr (o.getD d)
  | _ => none
section
variable {X : Cx} {g : G} {n : Nat} {W : WX} {io : List Nat} {pos pos' p apos cpos : Pos} {x m : Str} {a b k d e : Expr} {es : List Expr} {fa fb fk fd : Rho → Rx R} {fl : Rho → Rx (List R)}
theorem f_dget (f : Fit X g n) (hxa : okx a = true) (hxk : okx k = true) (hxd : okx d = true) (hl : (apos.endLine == cpos.line) = true) (ha : PE X a (tX g W fa)) (hk : PE X k (tX g W fk)) (hd : PE X d (tX g W fd)) :
    PE X (.Call (.Attribute a ("get" : Str) apos) [k, d] [] cpos) (tX g W fun ρ => (fa ρ).bind fun ra => (Rx.lift (dkO ra)).bind fun dd => (fk ρ).bind fun rk => (fd ρ).bind fun rd => .lift (dgetR dd rk rd)) := by
  have tr : backTo cpos (starEach [k, d] X.env) = [(false, eval k X.env), (false, eval d X.env)] := by
    rw [okx_star hxk, okx_star hxd]; rfl
  have few := okxs_all (es := [k, d]) X.env cpos (by simp [okxs, hxk, hxd])
  refine PE.to (pe_dget2 f.hu ha hk hd ⟨okx_base hxa _ _, by rw [few]; rfl, hl, tr⟩) fun σ H Q ⟨M, O, fp, ρ, c, en, h⟩ => ?_
  refine ⟨M, O, fp, ρ, c, en, h.hb.imp (fun ra h1 v H1 s1 xv => ?_) fun _ z => z⟩
  obtain ⟨dd, ed, h2⟩ := h1.hb.hl
  obtain ⟨es, hdd⟩ := dkO_ok ed
  have nd := xv.nod es
  have isd : ∃ q, v = .ref q ∧ IsD H1 q := by
    rcases hdd with ⟨ds, rfl⟩ | ⟨ds, rfl⟩
    · obtain ⟨q, kvs, rfl, h3, _⟩ := nd; exact ⟨q, rfl, .inl ⟨kvs, h3⟩⟩
    · obtain ⟨q, kvs, rfl, h3, _⟩ := nd; exact ⟨q, rfl, .inr ⟨kvs, h3⟩⟩
  obtain ⟨q, rfl, isd⟩ := isd
  refine ⟨q, rfl, isd, M, O, fp, ρ, c.same s1, en.same s1, h2.hb.imp (fun rk h3 y H2 s2 xk => ⟨M, O, fp, ρ, (c.same s1).same s2, (en.same s1).same s2, h3.hb.imp (fun rd h4 z H3 s3 xd => ?_) fun _ => EW.same (s1.trans s2)⟩) fun _ => EW.same s1⟩
  obtain ⟨r', e, kk⟩ := h4.hl
  unfold dgetR at e
  split at e
  · rename_i dv
    obtain ⟨o, eo, rfl⟩ := Option.map_eq_some_iff.mp e
    have s23 := s2.trans s3
    have nd3 : Nod g (M.u O) H3 (.ref q) dd := XR.nod (xv.same s23) es
    obtain ⟨q', ov, e1, e2, e3⟩ := get_ok nd3 (xk.same s3).view eo
    cases e1
    refine ⟨ov, e2, kk _ H3 (s1.trans s23) ?_⟩
    rcases e3 with ⟨rfl, rfl⟩ | ⟨dd', v', rfl, rfl, e3⟩
    · exact xd
    · exact e3
  · cases e
end

/-! ### a slot is forgotten -/
def fgtF (i : Nat) (ρ : Rho) : Option Rho := some (ρ.set i none)
theorem fgt_ok {g : G} {io : List Nat} {i : Nat} (M O : AS) (fp : Nat → AS) (H : Hp) (σ : St) (ρ : Rho) (π : Pin) (ρ' : Rho) (at_ : At g io M O fp ρ π σ H) (e : fgtF i ρ = some ρ') : ∃ O' fp', Nw O H O' ∧ At g io M O' fp' ρ' π σ H := by
  cases e
  by_cases h : ∃ t, ρ[i]? = some (some (.own t))
  · obtain ⟨t, h⟩ := h
    obtain ⟨fp1, _, a⟩ := at_.lay h
    exact ⟨O, fp1, Nw.refl, a⟩
  · have no : ∀ a, ¬ fp i a := fun a z => h (at_.en.fr i a z)
    refine ⟨O, fp, Nw.refl, at_.cd, ⟨by simp [at_.en.len], fun j r er => ?_, at_.en.fo, fun j a z => ?_, at_.en.ds⟩, at_.io, at_.pn⟩
    · by_cases q : i = j
      · subst q
        by_cases hl : i < ρ.length
        · rw [List.getElem?_set_self hl] at er; cases er
        · rw [List.getElem?_eq_none (by simpa using hl)] at er; cases er
      · rw [List.getElem?_set_ne q] at er
        exact at_.en.at_ j r er
    · have q : i ≠ j := fun e => by subst e; exact no a z
      rw [List.getElem?_set_ne q]
      exact at_.en.fr j a z

/-! ### calls that change a part -/
def ioA (F : Fn) (dfl : List D) (rs : List R) (ρ : Rho) (q : Pt) : Ra := match partT ρ q with
  | some t => ioX F dfl ρ q t rs
  | none => .bad
def insO (lo hi : Nat) (ρ : Rho) (q : Pt) : Option Nat := (partT ρ q).bind (insC lo hi)
section
variable {X : Cx} {g : G} {n : Nat} {W : WX} {io : List Nat} {pos pos' p apos cpos : Pos} {x m : Str} {a b k d e : Expr} {es : List Expr} {fa fb fk fd : Rho → Rx R} {fl : Rho → Rx (List R)} {fp_ : Rho → Rx Pt}
/-- where the part stands -/
def PAt (g : G) (W : WX) (io : List Nat) (M O : AS) (ρ : Rho) (π : Pin) (σ : St) (H : Hp) (Q : VK) (K : Pt → Ra) : VK := fun w H1 => ∃ q t v0, Same H H1 ∧ ownT ρ q.i = some t ∧ σ[q.i]? = some (some v0) ∧ walkV H1 v0 q.is = some w ∧ AOk g W io π M O σ H Q (K q)
theorem pat_of {M O : AS} {fp : Nat → AS} {ρ : Rho} {π : Pin} {σ : St} {H : Hp} {Q : VK} {K : Pt → Ra} (at_ : At g io M O fp ρ π σ H) (hK : ∀ q, AOk g W io π M O σ H Q (K q) → ∃ t, ownT ρ q.i = some t) (h : AOk g W io π M O σ H Q (bindRA (fp_ ρ) ρ K)) :
    tP g W fp_ σ H (PAt g W io M O ρ π σ H Q K) := by
  refine ⟨M, O, fp, ρ, at_.cd, at_.en, (bindRA_hold at_ h).imp (fun q h1 => ?_) fun _ z => z⟩
  obtain ⟨t, et⟩ := hK q h1
  exact ⟨t, et, fun v w H' s ev ew => ⟨q, t, v, s, et, ev, ew, h1⟩⟩
theorem walk_back {M O : AS} {fp : Nat → AS} {ρ : Rho} {π : Pin} {σ : St} {H H1 : Hp} {q : Pt} {sub : T} {v0 w : V} (at_ : At g io M O fp ρ π σ H) (s : Same H H1) (ep : partT ρ q = some sub) (ev : σ[q.i]? = some (some v0)) (ew : walkV H1 v0 q.is = some w) : walkV H v0 q.is = some w := by
  obtain ⟨t, et⟩ := partT_own ep
  have ep' := ep
  unfold partT at ep'
  rw [et] at ep'
  obtain ⟨v', w', S', f1, f2, _⟩ := at_.mut et (show T.at_ q.is t = some sub from ep')
  rw [f1] at ev; cases ev
  rw [walkV_same s f2] at ew; cases ew
  exact f2
/-- P.m(..), P a part that is changed -/
theorem a_iom (f : Fit X g n) (tk : Takes X W) {F : Nat → Fn} {np lo hi : Nat} {dfl : List D} {pl : Sem Bool} (S : MethSat X g n m lo hi F np dfl) (ho : PE X a (tP g W fp_)) (hx : okx e = true) (hxs : okxs es = true) (ha : PA X (e :: es) (tL g W fl)) (hn : (e :: es).length + 1 + dfl.length = np) (hfl : ∀ ρ rs, fl ρ = .ok rs → rs.length = (e :: es).length)
    (ht : eval (.Call (.Attribute a m apos) (e :: es) [] pos) X.env = (do
      let ov ← eval a X.env
      standAt apos.atName
      let (f, first) ← holding [ov] (getMethod ov m pl)
      callWith pos f first (backTo pos (starEach (e :: es) X.env)) (backToKw pos (keywordEach [] X.env)))) :
    PE X (.Call (.Attribute a m apos) (e :: es) [] pos) (tA g W io fun ρ => bindRA (fp_ ρ) ρ fun q => bindRA (Rx.lift (insO lo hi ρ q)) ρ fun c => bindRA (fl ρ) ρ fun rs => ioA (F c) dfl rs ρ q) := by
  refine ⟨fun pins s σ H Q I h => ?_⟩
  obtain ⟨M, O, fp, ρ, π, at_, h⟩ := h
  refine PySem.W.methodCall_KW (pl := pl) (thn (ho.run pins s σ H _ I (pat_of at_ (fun q h1 => ?_) h)) fun u s1 ⟨w, H1, I1, rw', q, t, v0, sm1, et, ev, ew, h1⟩ => ?_) ht
  · obtain ⟨c, ec, _⟩ := (bindRA_hold at_ h1).hl
    obtain ⟨sub, ep, _⟩ := Option.bind_eq_some_iff.mp ec
    exact partT_own ep
  obtain ⟨cc, ec, h2⟩ := (bindRA_hold at_ h1).hl
  obtain ⟨sub, ep, ec⟩ := Option.bind_eq_some_iff.mp ec
  obtain ⟨ts, rfl, hc⟩ := insC_ok ec
  obtain ⟨s1', s2', fA, h3, ⟨fd, ps, dss, dvs, k3, k4, k5, k6⟩⟩ := S.at_ cc hc.1 hc.2
  obtain ⟨S', _, q1⟩ := part_at at_.cd at_.en sm1 et ep ev ew
  cases q1 with
  | @ins q' dx _ fs _ _ S2 z1 z2 z3 z4 z5 z6 =>
  obtain rfl : u = Value.ref q' := rw'
  refine getmeth_ok I1 z2 s1' h3 (no_pre z3 s2') ?_
  refine PySem.W.callWith_K (first := [.ref q']) (h₀ := X.base) I.ok.mod.kin h3.kp (thn (ha.run pos pins s1 σ H1 (fun vs H2 => ∃ rs, rs.length = (e :: es).length ∧ Same H1 H2 ∧ XRs g M O H H2 vs rs ∧ AOk g W io π M O σ H Q (ioX (F cc) dfl ρ q (.ins cc ts) rs)) I1
    ⟨M, O, fp, ρ, at_.cd.same sm1, at_.en.same sm1, (bindRA_hold at_ h2).impA (fun rs er h' vs H2 s2 xs => ⟨rs, hfl ρ rs er, s2, xs.base sm1, ?_⟩) fun _ => EW.same sm1⟩) fun us s2 ⟨vs, H2, I2, r, rs, hl, sm2, xs, h4⟩ => ⟨I2.kIn, ?_⟩) (okx_star hx es X.env) (okxs_any X.env pos hxs)
  · unfold ioA at h'
    rw [ep] at h'
    exact h'
  refine run_fnSD (E := WE W) (us := .ref q' :: us) (vs := .ref q' :: vs) k3 f.room k4 k5 (passAt tk σ) I2 (.cons rfl r) ?_
  refine io_read at_ ep ev (walk_back at_ sm1 ep ev ew) (sm1.trans sm2) xs k6 ?_ h4
  rw [List.length_append, xs.length, (k6 .no H).length, hl]
  omega
theorem a_iom0 (f : Fit X g n) (tk : Takes X W) {F : Nat → Fn} {np lo hi : Nat} {dfl : List D} {pl : Sem Bool} (S : MethSat X g n m lo hi F np dfl) (ho : PE X a (tP g W fp_)) (hn : 1 + dfl.length = np)
    (ht : eval (.Call (.Attribute a m apos) [] [] pos) X.env = (do
      let ov ← eval a X.env
      standAt apos.atName
      let (f, first) ← holding [ov] (getMethod ov m pl)
      callWith pos f first (backTo pos (starEach [] X.env)) (backToKw pos (keywordEach [] X.env)))) :
    PE X (.Call (.Attribute a m apos) [] [] pos) (tA g W io fun ρ => bindRA (fp_ ρ) ρ fun q => bindRA (Rx.lift (insO lo hi ρ q)) ρ fun c => ioA (F c) dfl [] ρ q) := by
  refine ⟨fun pins s σ H Q I h => ?_⟩
  obtain ⟨M, O, fp, ρ, π, at_, h⟩ := h
  refine PySem.W.methodCall_KW (pl := pl) (thn (ho.run pins s σ H _ I (pat_of at_ (fun q h1 => ?_) h)) fun u s1 ⟨w, H1, I1, rw', q, t, v0, sm1, et, ev, ew, h1⟩ => ?_) ht
  · obtain ⟨c, ec, _⟩ := (bindRA_hold at_ h1).hl
    obtain ⟨sub, ep, _⟩ := Option.bind_eq_some_iff.mp ec
    exact partT_own ep
  obtain ⟨cc, ec, h2⟩ := (bindRA_hold at_ h1).hl
  obtain ⟨sub, ep, ec⟩ := Option.bind_eq_some_iff.mp ec
  obtain ⟨ts, rfl, hc⟩ := insC_ok ec
  obtain ⟨s1', s2', fA, h3, ⟨fd, ps, dss, dvs, k3, k4, k5, k6⟩⟩ := S.at_ cc hc.1 hc.2
  obtain ⟨S', _, q1⟩ := part_at at_.cd at_.en sm1 et ep ev ew
  cases q1 with
  | @ins q' dx _ fs _ _ S2 z1 z2 z3 z4 z5 z6 =>
  obtain rfl : u = Value.ref q' := rw'
  refine getmeth_ok I1 z2 s1' h3 (no_pre z3 s2') ?_
  refine PySem.W.callWith_K0 (first := [.ref q']) I1.kIn h3.kp (run_fnSD (E := WE W) (us := [.ref q']) (vs := [.ref q']) k3 f.room k4 k5 (passAt tk σ) I1 (.cons rfl .nil) ?_)
  unfold ioA at h2
  rw [ep] at h2
  refine io_read (vs := []) (rs := []) at_ ep ev (walk_back at_ sm1 ep ev ew) sm1 .nil k6 ?_ h2
  rw [List.nil_append, (k6 .no H).length]
  omega
/-- what is known of a class whose function is called by the class's name -/
structure ClsFn (X : Cx) (g : G) (n : Nat) (x m : Str) (F : Fn) (np : Nat) (dfl : List D) : Prop where
  ex : ∃ C f : Addr, X.mg x = some (.ref C) ∧ PySem.W.specialIn X.K (.ref C) "__getattribute__" = some (some (.builtin "type.__getattribute__")) ∧ PySem.W.readsIn X.K C (.type "type") = true ∧
    PySem.W.findCls X.K (.ref C) (.type "type") m = some (.val (.ref f)) ∧ PySem.W.keepIn X.K (.ref f) = true ∧ FunSat X.prog X.w X.K X.mg X.base g n f F np dfl
  db : (x == ("__debug__" : Str)) = false
/-- C.__init__(P, ..), P a part that is changed -/
theorem a_ioi (f : Fit X g n) (tk : Takes X W) {F : Fn} {np : Nat} {dfl : List D} {pl : Sem Bool} (S : ClsFn X g n x m F np dfl) (hg : Gl X x) (ho : PE X a (tP g W fp_)) (hxa : okx a = true) (hxs : okxs es = true) (ha : PA X es (tL g W fl)) (hn : es.length + 1 + dfl.length = np) (hfl : ∀ ρ rs, fl ρ = .ok rs → rs.length = es.length)
    (ht : eval (.Call (.Attribute (.Name x p) m apos) (a :: es) [] pos) X.env = (do
      let ov ← eval (.Name x p) X.env
      standAt apos.atName
      let (f, first) ← holding [ov] (getMethod ov m pl)
      callWith pos f first (backTo pos (starEach (a :: es) X.env)) (backToKw pos (keywordEach [] X.env)))) :
    PE X (.Call (.Attribute (.Name x p) m apos) (a :: es) [] pos) (tA g W io fun ρ => bindRA (fp_ ρ) ρ fun q => bindRA (Rx.lift (partT ρ q)) ρ fun t => bindRA (fl ρ) ρ fun rs => ioX F dfl ρ q t rs) := by
  refine ⟨fun pins s σ H Q I h => ?_⟩
  obtain ⟨M, O, fp, ρ, π, at_, h⟩ := h
  obtain ⟨C, fA, e1, e2, e3, e4, e5, ⟨fd, ps, dss, dvs, k3, k4, k5, k6⟩⟩ := S.ex
  refine PySem.W.methodCall_KW (pl := pl) (ld_glob I hg e1 ?_ S.db) ht
  refine PySem.W.method_cls I.kIn e2 (PySem.W.cls_value I.kIn e3 e4 rfl ?_)
  have hea : PA X (a :: es) (fun σ H Q' => tP g W fp_ σ H fun w H1 => tL g W fl σ H1 fun vs H2 => Q' (w :: vs) H2) := pa_cons ho ha (okx_star hxa es X.env)
  refine PySem.W.callWith_K (first := []) (h₀ := X.base) I.ok.mod.kin e5 (thn (hea.run pos pins _ σ H (fun vs H2 => ∃ w ws q t v0 rs, vs = w :: ws ∧ rs.length = es.length ∧ Same H H2 ∧ partT ρ q = some t ∧ σ[q.i]? = some (some v0) ∧ walkV H v0 q.is = some w ∧ XRs g M O H H2 ws rs ∧ AOk g W io π M O σ H Q (ioX F dfl ρ q t rs)) (I.tok _) ?_) fun us s2 ⟨vs, H2, I2, r, w, ws, q, t, v0, rs, evs, hl, sm2, ep, ev, ew, xs, h4⟩ => ⟨I2.kIn, ?_⟩) (okx_star hxa es X.env) (okxs_any X.env pos hxs)
  · refine ⟨M, O, fp, ρ, at_.cd, at_.en, (bindRA_hold at_ h).imp (fun q h1 => ?_) fun _ z => z⟩
    obtain ⟨t, ep, h2⟩ := (bindRA_hold at_ h1).hl
    obtain ⟨t0, et⟩ := partT_own ep
    exact ⟨t0, et, fun v w H1 s1 ev ew => ⟨M, O, fp, ρ, at_.cd.same s1, at_.en.same s1, (bindRA_hold at_ h2).impA (fun rs er h' vs H2 s2 xs => ⟨w, vs, q, t, v, rs, rfl, hfl ρ rs er, s1.trans s2, ep, ev, walk_back at_ s1 ep ev ew, xs.base s1, h'⟩) fun _ => EW.same s1⟩⟩
  subst evs
  cases r with
  | cons r1 r2 =>
  refine run_fnSD (E := WE W) k3 f.room k4 k5 (passAt tk σ) I2 (.cons r1 r2) ?_
  refine io_read at_ ep ev ew sm2 xs k6 ?_ h4
  rw [List.length_append, xs.length, (k6 .no H).length, hl]
  omega
end

/-! ### comprehensions -/
section
variable {X : Cx} {g : G} {n : Nat} {W : WX} {io : List Nat} {pos spos pos' py : Pos} {elt tg iter : Expr} {ifs : List Expr} {scope : Scope} {own : List (Str × Nat)} {fi : Rho → Rx (List R)} {ft : R → Rho → Option Rho} {fc fe : Rho → Rx R} {sl : List Nat} {y : Str}
theorem f_lc (f : Fit X g n) (hsl : ∀ j ∈ sl, j ∈ own.map (·.2)) (hi : PI X tg iter (tJ X g W fi)) (ok : BlkOk X.N X.env.scope scope own)
    (hg : ∀ (s : Shared) (H : Hp) (C : Addr) (cl : List (Str × Addr)) (fp : List Addr), PG (X.blk s H scope (compEnvC scope cl C X.env) fp) tg (gF g ft sl)) (ht : ∀ (s : Shared) (H : Hp) (C : Addr) (cl : List (Str × Addr)) (fp : List Addr), PTs (X.blk s H scope (compEnvC scope cl C X.env) fp) ifs (tT g W0 fc))
    (he : ∀ (s : Shared) (H : Hp) (C : Addr) (cl : List (Str × Addr)) (fp : List Addr), PE (X.blk s H scope (compEnvC scope cl C X.env) fp) elt (tX g W0 fe)) (hs : ∀ x, foldedSetIterable iter X.env x = pure x) :
    PE X (.ListComp elt [⟨tg, iter, ifs, 0⟩] scope pos) (tX g W fun ρ => (fi (bor ρ)).bind fun xs => lcR (lcStep ft fc fe (wipeR (bor ρ) (own.map (·.2)))) xs) :=
  PE.to (pe_unl (pe_lc f.calm f.nd hi ok hg ht he hs)) fun σ H Q q => lc_read hsl σ H Q q
/-- name = [..] -/
theorem s_asgLc {i : Nat} (f : Fit X g n) (hio : i ∉ io) (hy : X.N[i]? = some y) (hyl : X.env.scope.names.lookup y = some .local) (hk : X.env.scope.kind = .function) (hln : (py.line == pos.line) = true)
    (hno : (scope.names.any fun (n, k) => n == y && (k == .local || k == .cell)) = false) (hsl : ∀ j ∈ sl, j ∈ own.map (·.2)) (hi : PI X tg iter (tJ X g W fi)) (ok : BlkOk X.N X.env.scope scope own)
    (hg : ∀ (s : Shared) (H : Hp) (C : Addr) (cl : List (Str × Addr)) (fp : List Addr), PG (X.blk s H scope (compEnvC scope cl C X.env) fp) tg (gF g ft sl)) (ht : ∀ (s : Shared) (H : Hp) (C : Addr) (cl : List (Str × Addr)) (fp : List Addr), PTs (X.blk s H scope (compEnvC scope cl C X.env) fp) ifs (tT g W0 fc))
    (he : ∀ (s : Shared) (H : Hp) (C : Addr) (cl : List (Str × Addr)) (fp : List Addr), PE (X.blk s H scope (compEnvC scope cl C X.env) fp) elt (tX g W0 fe)) (hs : ∀ x, foldedSetIterable iter X.env x = pure x) :
    PS X (.Assign [.Name y py] (.ListComp elt [⟨tg, iter, ifs, 0⟩] scope pos) spos) (tS g W io fun ρ => bindO ((fi (bor ρ)).bind fun xs => lcR (lcStep ft fc fe (wipeR (bor ρ) (own.map (·.2)))) xs) ρ fun r => stoF i r ρ) :=
  PS.to (ps_unl (ps_setLc f.calm f.nd hy hyl (sw_true hk hyl hln hno) hi ok hg ht he hs)) fun D σ H ⟨M, O, fp, ρ, π, out, at_, e, k⟩ =>
    lc_read hsl σ H (fun v H' => D.nx (σ.set i (some v)) H') ⟨M, O, fp, ρ, at_.cd, at_.en, (bindO_hold at_ e k).imp (fun r er v H1 s xv => by
    obtain ⟨h1, h2, rfl⟩ := stoF_some er
    obtain ⟨O1, fp1, kp, nw, a1⟩ := sto_at at_ hio h2 s xv h1
    exact k _ H1 O1 fp1 kp nw a1.cd a1.en a1.pn) fun _ z => z⟩
end

/-! ### tolerant forms -/
def frzT (i : Nat) (ρ : Rho) : Option Rho := match ownT ρ i with
  | some t => some (ρ.set i (some (.shr t.d)))
  | none => some ρ
theorem frzT_ok {g : G} {io : List Nat} {i : Nat} (M O : AS) (fp : Nat → AS) (H : Hp) (σ : St) (ρ : Rho) (π : Pin) (ρ' : Rho) (at_ : At g io M O fp ρ π σ H) (e : frzT i ρ = some ρ') : ∃ O' fp', Nw O H O' ∧ At g io M O' fp' ρ' π σ H := by
  unfold frzT at e
  split at e
  · rename_i t et
    exact frz_ok M O fp H σ ρ π ρ' at_ (by unfold frzF; rw [et]; exact e)
  · cases e; exact ⟨O, fp, Nw.refl, at_⟩
def retT (i : Nat) (ρ : Rho) : Option Out := match ownT ρ i with
  | some t => some (.rt (.own t) (ρ.set i none))
  | none => bindO (Rx.lift (getR ρ i)) ρ fun r => retF r ρ
section
variable {X : Cx} {g : G} {n : Nat} {W : WX} {io : List Nat} {pos pos' p apos cpos : Pos} {x m : Str} {a b k d e : Expr} {es : List Expr} {fa fb fk fd : Rho → Rx R} {fl : Rho → Rx (List R)} {fp_ : Rho → Rx Pt}
theorem s_retT {i : Nat} (hN : X.N[i]? = some x) (hv : Vis X.env.scope x) (hd : (x == ("__debug__" : Str)) = false) (hcd : (x == ("__classdict__" : Str)) = false) : PS X (.Return (some (.Name x p)) pos) (tS g W io (retT i)) :=
  PS.to (PS.or (s_retv (W := W) (io := io) (g := g) hN hv hd hcd) (s_ret (W := W) (io := io) (f_var (g := g) (W := W) hN hv hd hcd))) fun D σ H ⟨M, O, fp, ρ, π, out, at_, e, k⟩ => by
    unfold retT at e
    split at e
    · rename_i t et
      exact .inl ⟨M, O, fp, ρ, π, out, at_, by unfold retvF; rw [et]; exact e, k⟩
    · exact .inr ⟨M, O, fp, ρ, π, out, at_, e, k⟩
/-- f(P, ..), P a part that is changed -/
theorem a_iof (f : Fit X g n) (tk : Takes X W) {F : Fn} {np : Nat} {dfl : List D} (S : CallSat X g n x F np dfl) (hg : Gl X x) (ho : PE X a (tP g W fp_)) (hxa : okx a = true) (hxs : okxs es = true) (ha : PA X es (tL g W fl)) (hn : es.length + 1 + dfl.length = np) (hfl : ∀ ρ rs, fl ρ = .ok rs → rs.length = es.length) :
    PE X (.Call (.Name x p) (a :: es) [] pos) (tA g W io fun ρ => bindRA (fp_ ρ) ρ fun q => bindRA (Rx.lift (partT ρ q)) ρ fun t => bindRA (fl ρ) ρ fun rs => ioX F dfl ρ q t rs) := by
  obtain ⟨fA, h1, h2, ⟨fd, ps, dss, dvs, k3, k4, k5, k6⟩⟩ := S.ex
  have hea : PA X (a :: es) (fun σ H Q' => tP g W fp_ σ H fun w H1 => tL g W fl σ H1 fun vs H2 => Q' (w :: vs) H2) := pa_cons ho ha (okx_star hxa es X.env)
  refine PE.to (pe_callSD (E := WE W) k3 f.room hg h1 h2 k4 k5 (fun σ => passAt tk σ) hea S.db (okx_star hxa es X.env) (okxs_any X.env pos hxs)) fun σ H Q ⟨M, O, fp, ρ, π, at_, h⟩ => ?_
  refine ⟨M, O, fp, ρ, at_.cd, at_.en, (bindRA_hold at_ h).imp (fun q h1 => ?_) fun _ z => z⟩
  obtain ⟨t, ep, h2⟩ := (bindRA_hold at_ h1).hl
  obtain ⟨t0, et⟩ := partT_own ep
  refine ⟨t0, et, fun v w H1 s1 ev ew => ⟨M, O, fp, ρ, at_.cd.same s1, at_.en.same s1, (bindRA_hold at_ h2).impA (fun rs er h' vs H2 s2 xs => ?_) fun _ => EW.same s1⟩⟩
  refine io_read at_ ep ev (walk_back at_ s1 ep ev ew) (s1.trans s2) (xs.base s1) k6 ?_ h'
  rw [List.length_append, xs.length, (k6 .no H).length, hfl ρ rs er]
  omega
/-! ### whatever is walked -/
def anyI (r : R) : Option (List R) := match itemsR r with
  | some xs => some xs
  | none => (match itemsT r with
    | some xs => some xs
    | none => (match keysR r with
      | some xs => some xs
      | none => strR r))
theorem PI.or {tg e : Expr} {t t' : TI} (h : PI X tg e t) (h' : PI X tg e t') : PI X tg e (fun σ H R => t σ H R ∨ t' σ H R) := ⟨fun pins s σ H R I q => q.elim (h.run pins s σ H R I) (h'.run pins s σ H R I)⟩
theorem i_any {tg : Expr} (f : Fit X g n) (ha : PE X a (tX g W fa)) : PI X tg a (tJ X g W fun ρ => (fa ρ).bind fun r => .lift (anyI r)) := by
  refine PI.to (PI.or (i_lst (tg := tg) f ha) (PI.or (i_tup (tg := tg) f ha) (PI.or (i_keys (tg := tg) ha) (i_str (tg := tg) ha)))) fun σ H R' ⟨M, O, fp, ρ, c, en, h⟩ => ?_
  have h : ((fa ρ).bind fun r => Rx.lift (anyI r)).hold (fun xs => ∀ J H1 H', Same H H1 → LkH X O H1 H' → Yields g M O H' J xs → R' J H') (EW g M O H W σ) := h
  have go : ∀ F : R → Option (List R), (∀ r, fa ρ = .ok r → F r = anyI r) → tJ X g W (fun ρ => (fa ρ).bind fun r => .lift (F r)) σ H R' := fun F hF => ⟨M, O, fp, ρ, c, en, by
    show ((fa ρ).bind fun r => Rx.lift (F r)).hold _ _
    cases er : fa ρ with
    | bad => rw [er] at h; exact h.elim
    | ex x => rw [er] at h; exact h
    | ok r => rw [er] at h; simp only [Rx.bind_ok] at h ⊢; rw [hF r er]; exact h⟩
  cases er : fa ρ with
  | bad => exact .inl (go _ fun r e => by rw [er] at e; cases e)
  | ex x => exact .inl (go _ fun r e => by rw [er] at e; cases e)
  | ok r =>
    cases e1 : itemsR r with
    | some xs => exact .inl (go _ fun r' e => by rw [er] at e; cases e; simp only [anyI, e1])
    | none =>
      cases e2 : itemsT r with
      | some xs => exact .inr (.inl (go _ fun r' e => by rw [er] at e; cases e; simp only [anyI, e1, e2]))
      | none =>
        cases e3 : keysR r with
        | some xs => exact .inr (.inr (.inl (go _ fun r' e => by rw [er] at e; cases e; simp only [anyI, e1, e2, e3])))
        | none => exact .inr (.inr (.inr (go _ fun r' e => by rw [er] at e; cases e; simp only [anyI, e1, e2, e3])))
end

/-! ### slices with a step -/
def pick3 {α : Type} (xs : List α) (lo hi : Option Int) (st : Int) : List α :=
  (sliceRange (sliceBounds lo hi (some st) xs.length).1 (sliceBounds lo hi (some st) xs.length).2.1 (sliceBounds lo hi (some st) xs.length).2.2).filterMap (xs[·]?)
def slc3R (ra : R) (lo hi : Option Int) (st : Option Int) : Option R := match ra.sh, st with
  | some (.lst ds), some s => if s ≠ 0 ∧ (pick3 ds lo hi s).length ≤ sizeLine then some (rL (pick3 ds lo hi s)) else none
  | _, _ => none
theorem pick_rep {g : G} {B : AS} {H : Hp} {vs : List V} {ds : List D} (h : RepL g B H vs ds) : ∀ l : List Nat, RepL g B H (l.filterMap (vs[·]?)) (l.filterMap (ds[·]?))
  | [] => .nil
  | i :: l => by
    have ih := pick_rep h l
    by_cases hi : i < ds.length
    · obtain ⟨v, e1, q⟩ := h.get (List.getElem?_eq_getElem hi)
      rw [List.filterMap_cons, List.filterMap_cons, e1, List.getElem?_eq_getElem hi]
      exact .cons q ih
    · have e1 : ds[i]? = none := List.getElem?_eq_none (by omega)
      have e2 : vs[i]? = none := List.getElem?_eq_none (by rw [h.length]; omega)
      rw [List.filterMap_cons, List.filterMap_cons, e1, e2]
      exact ih
theorem vals_get : ∀ {xs : List V} {us : List Value} {i : Nat} {x : V}, Vals xs us → xs[i]? = some x → ∃ u, us[i]? = some u ∧ RelV x u
  | _, _, _, _, .nil, e => by simp at e
  | _, _, 0, _, .cons h _, e => by simp at e; subst e; exact ⟨_, rfl, h⟩
  | _, _, i + 1, _, .cons _ r, e => by
    obtain ⟨u, h1, h2⟩ := vals_get (i := i) r (by simpa using e)
    exact ⟨u, by simpa using h1, h2⟩
theorem vals_pick {xs : List V} {us : List Value} (h : Vals xs us) : ∀ l : List Nat, Vals (l.filterMap (xs[·]?)) (l.filterMap (us[·]?))
  | [] => .nil
  | i :: l => by
    have ih := vals_pick h l
    by_cases hi : i < xs.length
    · obtain ⟨u, e1, q⟩ := vals_get h (List.getElem?_eq_getElem hi)
      rw [List.filterMap_cons, List.filterMap_cons, List.getElem?_eq_getElem hi, e1]
      exact .cons q ih
    · have e1 : xs[i]? = none := List.getElem?_eq_none (by omega)
      have e2 : us[i]? = none := List.getElem?_eq_none (by rw [← h.length]; omega)
      rw [List.filterMap_cons, List.filterMap_cons, e1, e2]
      exact ih
section
variable {X : Cx} {g : G} {n : Nat} {W : WX} {pos p2 : Pos} {a e : Expr} {lo hi : Option Expr} {fa : Rho → Rx R} {fo fo2 fo3 : Rho → Rx (Option Int)}
theorem f_slc3 (f : Fit X g n) (hx : okx a = true) (ha : PE X a (tX g W fa)) (hl : PO X lo (tO g W fo)) (hu : PO X hi (tO g W fo2)) (hst : PO X (some e) (tO g W fo3)) :
    PE X (.Subscript a (.Slice lo hi (some e) p2) pos) (tX g W fun ρ => (fa ρ).bind fun ra => (fo ρ).bind fun l => (fo2 ρ).bind fun h => (fo3 ρ).bind fun s => .lift (slc3R ra l h s)) := by
  refine ⟨fun pins s σ H Q I ⟨M, O, fp, ρ, c, en, h⟩ => ?_⟩
  refine Subscript_ (thn (ha.run pins s σ H (fun x H1 => ∃ ra, Same H H1 ∧ XR g M O H H1 x ra ∧ ((fo ρ).bind fun l => (fo2 ρ).bind fun h => (fo3 ρ).bind fun s => .lift (slc3R ra l h s)).hold (Ans g M O H Q) (EW g M O H W σ)) I ⟨M, O, fp, ρ, c, en, h.hb.imp (fun ra h' v H' s xv => ⟨ra, s, xv, h'⟩) fun _ z => z⟩) fun v s1 ⟨x, H1, I1, r1, ra, sm1, xa, h1⟩ => ?_)
  refine wpAny_Slice (thn (hl.run pins s1 σ H1 (fun o H2 => Same H1 H2 ∧ ((fo2 ρ).bind fun h => (fo3 ρ).bind fun s => .lift (slc3R ra o h s)).hold (Ans g M O H Q) (EW g M O H W σ)) I1 ⟨M, O, fp, ρ, c.same sm1, en.same sm1, h1.hb.imp (fun l h' H' s => ⟨s, h'⟩) fun _ => EW.same sm1⟩) fun vl s2 ⟨l, H2, I2, pl, sm2, h2⟩ => ?_)
  have s12 := sm1.trans sm2
  refine thn (hu.run pins s2 σ H2 (fun o H3 => Same H2 H3 ∧ ((fo3 ρ).bind fun s => .lift (slc3R ra l o s)).hold (Ans g M O H Q) (EW g M O H W σ)) I2 ⟨M, O, fp, ρ, c.same s12, en.same s12, h2.hb.imp (fun l h' H' s => ⟨s, h'⟩) fun _ => EW.same s12⟩) fun vu s3 ⟨u, H3, I3, pu, sm3, h3⟩ => ?_
  have s13 := s12.trans sm3
  refine thn (hst.run pins s3 σ H3 (fun o H4 => Same H3 H4 ∧ (Rx.lift (slc3R ra l u o)).hold (Ans g M O H Q) (EW g M O H W σ)) I3 ⟨M, O, fp, ρ, c.same s13, en.same s13, h3.hb.imp (fun l h' H' s => ⟨s, h'⟩) fun _ => EW.same s13⟩) fun vs s4 ⟨o, H4, I4, ps, sm4, h4⟩ => ?_
  have s14 := s13.trans sm4
  obtain ⟨r, er, k⟩ := h4.hl
  unfold slc3R at er
  split at er
  · rename_i ds st ed
    split at er
    · rename_i hz
      cases er
      obtain ⟨p, xs, rfl, q1, q2⟩ := (((xa.same sm2).same sm3).same sm4).nod ed
      cases r1
      have I5 : Inv X pins σ H4 { s4 with heap := s4.heap.push { cls := .type "slice", data := .fields #[vl, vu, vs] } } := I4.kept (t' := s4.toks) fun b ob q => Heap.get?_push_of_some _ q
      obtain ⟨its, rv, ht, hzl⟩ := I5.list (SqL.of q1)
      have hlen := rv.length
      show wpAny (model X.prog X.w) X.A (subscriptTail a (.Slice lo hi (some e) p2) (.ref p) (.ref s4.heap.objs.size)) (EP X pins σ Q) X.xe { s4 with heap := s4.heap.push { cls := .type "slice", data := .fields #[vl, vu, vs] } }
      refine tail_any (ops := [.ref p, .ref s4.heap.objs.size]) ht.isList.typeIs (PySem.slot_list_getitem.lookup) ?_ (by with_unfolding_all rfl)
      refine wpAny_getItem_list_slice ht.isList (Heap.IsSliceOf.new _ vl vu vs) pl pu ps (fun z => hz.1 (Option.some.inj z)) ?_ (by rw [List.size_toArray]; omega)
      have el : xs.length = ds.length := q2.length
      have hn : H4 (s4.heap.push { cls := .type "slice", data := .fields #[vl, vu, vs] }).objs.size = none := I5.hok.fresh (Nat.le_refl _)
      refine ⟨.ref _, upd H4 _ (.lst (pick3 xs l u st)), I5.laid (t' := s4.toks) (o := .lst (pick3 xs l u st)) (fun b ob q => Heap.get?_push_of_some _ q) (Nat.le_refl _) ?_, rfl, k _ _ (s14.trans (same_upd hn)) (XR.base s14 (new_lst hn ?_))⟩
      · refine ⟨?_, _, 0, vals_pick rv (sliceRange (sliceBounds l u (some st) xs.length).1 (sliceBounds l u (some st) xs.length).2.1 (sliceBounds l u (some st) xs.length).2.2), ?_⟩
        · have := (pick_rep q2 (sliceRange (sliceBounds l u (some st) xs.length).1 (sliceBounds l u (some st) xs.length).2.1 (sliceBounds l u (some st) xs.length).2.2)).length
          unfold pick3 at hz ⊢
          rw [← el] at hz
          rw [this]; exact hz.2
        · unfold slicePick
          rw [List.size_toArray, hlen]
          refine (Heap.get?_push_size _ rfl).trans ?_
          have e : ∀ z : List Nat, z.filterMap (its.toArray[·]?) = z.filterMap (its[·]?) := fun z => congrFun (congrArg List.filterMap (funext fun i => by simp)) _
          rw [e]
      · unfold pick3
        rw [el]
        exact pick_rep q2 _
    · cases er
  · cases er
end
end
end Q

end

section
set_option Elab.async false
set_option linter.all false
set_option maxRecDepth 100000
set_option maxHeartbeats 1000000
/-! QA: list and sum of d.values(); min with default=. -/
namespace Q
noncomputable section
open PySem PySem.Spec L2
open PyProof.Rows hiding St

section
variable {X : Cx} {o : Expr} {p pos apos mpos : Pos} {td : TE}
/-- the view of a dict's values, made and handed on -/
theorem view_run {R : Addr → List (Key × V) → Hp → Prop} {G : Value → Shared → Prop} (hd : PE X o td) (hbase : attributeBase o "values" X.env (eval o X.env) = eval o X.env) (hline : (apos.endLine == mpos.line) = true)
    {pins : List (Addr × Obj)} {s : Shared} {σ : St} {H : Hp} (I : Inv X pins σ H s) (h : td σ H fun x H1 => ∃ a kvs, x = V.ref a ∧ Rd H1 a (.dK kvs) ∧ R a kvs H1)
    (k : ∀ (s1 : Shared) (a : Addr) (kvs : List (Key × V)) (H1 : Hp) (vs : List (Key × Value)) (ep : Nat), Inv X pins σ H1 s1 → R a kvs H1 → kvs.length ≤ sizeLine → KV kvs vs → s1.heap.DictAt (mixKind X.prog X.w) a vs ep →
      G (.ref s1.heap.objs.size) { s1 with heap := s1.heap.push { cls := .type "dict_values", data := .fields #[.ref a] } }) :
    wpAny (model X.prog X.w) X.A (eval (.Call (.Attribute o "values" apos) [] [] mpos) X.env) G X.xe s := by
  refine wpAny_Call_method0_late hbase hline (thn (hd.run pins s σ H _ I h) fun v s1 ⟨x, H1, I1, r1, a, kvs, ex, ha, q⟩ => ?_)
  subst ex
  have ev : v = Value.ref a := r1
  subst ev
  obtain ⟨hz, hsys, vs, rel, dfo⟩ := dk_rd I1.hok ha
  obtain ⟨ep, dat⟩ := dfo.dictAt
  have dtt := dat
  obtain ⟨oo, es, hoo, ex, _⟩ := dtt
  refine ⟨"dict", "dict.values", F.plainAttrs_dict, F.slot_dict_values, F.type_dict_values, ⟨oo, hoo, ex.1⟩, fun b e => ?_, Calls.callWith_builtin rfl (PySem.evalArgs_none ?_)⟩
  · cases e
    exact ⟨oo, hoo, ex.2.1⟩
  refine call_meetsIn F.slot_dict_values ⟨oo, hoo, ex.1⟩ F.entry_dict_values (F.args_dict_values_1 _) (meets_dict_values (mixKind X.prog X.w) a hsys) ⟨⟨vs, dfo⟩, ?_⟩
  exact k s1 a kvs H1 vs ep I1 q hz rel dat
theorem pushed (s1 : Shared) (a : Addr) (b : Addr) (u : Obj) (e : s1.heap.get? b = some u) : (s1.heap.push { cls := .type "dict_values", data := .fields #[.ref a] }).get? b = some u := Heap.get?_push_of_some _ e
theorem kv_at {κ : Type} : ∀ {kvs : List (κ × V)} {vs : List (κ × Value)} (r : KV kvs vs) {i : Nat} {k : κ} {v : Value}, vs[i]? = some (k, v) → ∃ x, (kvs.map Prod.snd)[i]? = some x ∧ RelV x v := by
  intro kvs vs r i k v e
  obtain ⟨x, h1, h2⟩ := KV.at' r e
  exact ⟨x, by rw [List.getElem?_map, h1]; rfl, h2⟩
theorem vals_at : ∀ (xs : List V) (us : List Value), us.length = xs.length → (∀ (j : Nat) (v : Value), us[j]? = some v → ∃ x, xs[j]? = some x ∧ RelV x v) → Vals xs us
  | [], [], _, _ => .nil
  | x :: xs, u :: us, hl, h => by
    obtain ⟨y, e, q⟩ := h 0 u rfl
    cases Option.some.inj (show some x = some y from e)
    exact .cons q (vals_at xs us (by simpa using hl) fun j v e => by simpa using h (j + 1) v (by simpa using e))
  | [], _ :: _, hl, _ => by simp at hl
  | _ :: _, [], hl, _ => by simp at hl
theorem preSum_all (is : List Int) : preSum (fun i => is.getD i 0) is.length = is.sum := by
  rw [preSum_getD, List.take_length]
def tLVals (td : TE) : TE := fun σ H Q => td σ H fun x H1 => ∃ a kvs, x = V.ref a ∧ Rd H1 a (.dK kvs) ∧ ∀ q, H1 q = none → Q (.ref q) (upd H1 q (.lst (kvs.map Prod.snd)))
theorem pe_lvals (hc : X.calm = true) (hg : Gl X "list") (hm : X.mg "list" = none) (hd : PE X o td) (hbase : attributeBase o "values" X.env (eval o X.env) = eval o X.env) (hline : (apos.endLine == mpos.line) = true) :
    PE X (.Call (.Name "list" p) [.Call (.Attribute o "values" apos) [] [] mpos] [] pos) (tLVals td) := by
  refine ⟨fun pins s σ H Q I h => wpAny_Call_Name_kw (ld_blt I hg hm (u := .type "list") (by first | rfl | decide +kernel) ?_ (by first | decide +kernel | decide) (by first | decide +kernel | decide))⟩
  refine PySem.callWith_type1 (view_run (R := fun a (kvs : List (Key × V)) H1 => ∀ q, H1 q = none → Q (.ref q) (upd H1 q (.lst (kvs.map Prod.snd)))) hd hbase hline I h fun s1 a kvs H1 vs ep I1 q hz rel dat => ?_)
  have k1 := pushed s1 a
  refine PySem.W.kdl_call (PySem.W.kdl_values (r := s1.heap.objs.size) (knd := mixKind X.prog X.w) (kvs := vs) (ep := ep) (d := a)) (I1.ok.hd hc) ⟨⟨_, Heap.get?_push_size _ rfl, rfl, rfl⟩, dat.keep k1⟩ (by rw [← KV.length rel]; exact hz) fun h' tk acc c' hk hD hacc => ?_
  have hlt : s1.heap.objs.size < (s1.heap.push { cls := .type "dict_values", data := .fields #[.ref a] }).objs.size := by rw [Heap.size_push]; exact Nat.lt_succ_self _
  have hv : Vals (kvs.map Prod.snd) acc.toList := vals_at _ _ (by rw [Array.length_toList, hacc.1, List.length_map]; exact (KV.length rel).symm) fun j v e => by
    obtain ⟨k, e2⟩ := hacc.2 j v (by rw [← Array.getElem?_toList]; exact e)
    exact kv_at rel e2
  refine ⟨.ref _, upd H1 _ (.lst (kvs.map Prod.snd)), I1.laid (t' := tk) (fun b o e => hk b o (k1 b o e)) (Nat.le_of_lt hlt) (show ObjOk X.prog X.w _ _ _ (.lst (kvs.map Prod.snd)) from ⟨by rw [List.length_map]; exact hz, acc.toList, c', hv, by rw [Array.toArray_toList]; exact hD⟩), rfl, q _ (I1.hok.fresh (Nat.le_of_lt hlt))⟩
def tSVals (td : TE) : TE := fun σ H Q => td σ H fun x H1 => ∃ (a : Addr) (kvs : List (Key × V)), x = V.ref a ∧ Rd H1 a (.dK kvs) ∧ ∃ is : List Int, kvs.map Prod.snd = is.map V.int ∧ Q (.int is.sum) H1
theorem pe_svals (hc : X.calm = true) (hg : Gl X "sum") (hm : X.mg "sum" = none) (hd : PE X o td) (hbase : attributeBase o "values" X.env (eval o X.env) = eval o X.env) (hline : (apos.endLine == mpos.line) = true) :
    PE X (.Call (.Name "sum" p) [.Call (.Attribute o "values" apos) [] [] mpos] [] pos) (tSVals td) := by
  refine ⟨fun pins s σ H Q I h => wpAny_Call_Name_kw (ld_blt I hg hm (u := .builtin "sum") (by first | rfl | decide +kernel) ?_ (by first | decide +kernel | decide) (by first | decide +kernel | decide))⟩
  refine PySem.callWith_builtin1 (view_run (R := fun a (kvs : List (Key × V)) H1 => ∃ is : List Int, kvs.map Prod.snd = is.map V.int ∧ Q (.int is.sum) H1) hd hbase hline I h fun s1 a kvs H1 vs ep I1 ⟨is, hv, q⟩ hz rel dat => ?_)
  have k1 := pushed s1 a
  refine call_sum_walkAnyS ?_
  have dat1 : (s1.heap.push { cls := .type "dict_values", data := .fields #[.ref a] }).DictAt (mixKind X.prog X.w) a vs ep := dat.keep k1
  have hlt : a < s1.heap.objs.size := by
    obtain ⟨oo, es, hoo, _⟩ := dat
    exact Heap.lt_size hoo
  have hsz : (s1.heap.push { cls := .type "dict_values", data := .fields #[.ref a] }).objs.size = s1.heap.objs.size + 1 := Heap.size_push _ _
  have hval : ∀ (i : Nat) (v : Value), (∃ k, vs[i]? = some (k, v)) → ∃ t, v = Value.int (is.getD i 0) t := fun i v ⟨k, hk⟩ => by
    obtain ⟨x, h1, h2⟩ := kv_at rel hk
    rw [hv, List.getElem?_map] at h1
    obtain ⟨j, hj, e2⟩ := Option.map_eq_some_iff.mp h1
    subst e2
    obtain ⟨t, e3⟩ := h2
    exact ⟨t, by rw [e3, List.getD_eq_getElem?_getD, hj]; rfl⟩
  refine wpAny_pyIter_values (v := s1.heap.objs.size) (d := a) ⟨_, Heap.get?_push_size _ rfl, rfl, rfl⟩ dat1 ?_
  refine ⟨_, _, _, _, _, _, _, fun i => is.getD i 0, rfl, (Walks.dictValues (knd := mixKind X.prog X.w) (A := X.A.in1) (I1.ok.hd hc) (s1.heap.push { cls := .type "dict_values", data := .fields #[.ref a] }).objs.size a (by rw [hsz]; exact Nat.ne_of_lt (Nat.lt_succ_of_lt hlt)) vs ep).toS, ⟨⟨_, Heap.get?_push_size _ rfl, rfl, rfl⟩, dat1.keep fun b u e => Heap.get?_push_of_some _ e⟩, fun b hb => ?_, hval, fun s' t' hm => ?_⟩
  · show b < ((s1.heap.push _).push _).objs.size
    rw [Heap.size_push, hsz]
    rw [hsz] at hb
    rcases List.mem_cons.mp hb with e | hb
    · subst e; exact Nat.lt_succ_self _
    · cases List.mem_singleton.mp hb
      exact Nat.lt_succ_of_lt (Nat.lt_succ_of_lt hlt)
  · have hk : ∀ b o, s1.heap.get? b = some o → s'.heap.get? b = some o := fun b o e =>
      hm.heap b o (fun hI => by
        have h3 := Heap.lt_size e
        have h4 := List.mem_singleton.mp hI
        rw [hsz] at h4
        subst h4
        exact absurd h3 (Nat.not_lt.mpr (Nat.le_succ _))) (Heap.get?_push_of_some _ (k1 b o e))
    rw [Moved.eq_with hm]
    refine ⟨.int _, H1, I1.kept (t' := s'.toks) hk, ⟨t', rfl⟩, ?_⟩
    have hl : vs.length = is.length := by
      have e1 := congrArg List.length hv
      rw [List.length_map, List.length_map] at e1
      rw [← e1]; exact (KV.length rel).symm
    rw [hl, preSum_all]
    exact q
/-- min(xs, default=d) of ints -/
def rMinDef (K : PySem.W.Frag) : List V → List V → Hp → VK → Prop := fun xs zs H Q => ∃ (a : Addr) (ns : List Int) (d : Int), xs = [V.ref a] ∧ zs = [V.int d] ∧ SqL K H a (ns.map V.int) ∧ (ns = [] → Q (.int d) H) ∧ ∀ m, m ∈ ns → (∀ j ∈ ns, m ≤ j) → Q (.int m) H
theorem reads_ints {h : Heap} : ∀ {ns : List Int} {us : List Value}, Vals (ns.map V.int) us → ReadsAll h us (ns.map PyData.int) []
  | [], [], _ => .nil
  | n :: ns, u :: us, .cons r rs => by
    obtain ⟨t, rfl⟩ := r
    exact .cons (as := []) (bs := []) (.int n t) (reads_ints rs)
theorem depth_ints : ∀ ns : List Int, PyData.depthAll (ns.map PyData.int) = 0
  | [] => rfl
  | n :: ns => by
    rw [List.map_cons, PyData.depthAll, depth_ints ns]
    rfl
theorem cr_minDef (hc : X.calm = true) (hu : X.A.units + 1 < cLine) : CallRK X (.builtin "min") [Str.ofString "default"] (rMinDef X.K) := by
  intro pins s σ H xs zs us ws Q I r rz h
  obtain ⟨a, ns, d, rfl, rfl, hs, q0, q1⟩ := h
  obtain ⟨its, rv, hl, _⟩ := I.list hs
  rw [Vals.ref1 r]
  obtain ⟨w1, rfl, t1, rfl⟩ := vals1 rz
  show wpAny _ _ (call (.builtin "min") [.ref a] [(Str.ofString "default", .int d t1)]) _ _ _
  refine PySem.W.min_list_default (as := []) (xs := ns.map PyData.int) (I.ok.hd hc) hl.isList (by simpa using reads_ints rv) ⟨?_, ?_⟩ ?_ (fun e h' tk hk => ?_) fun y ys i v h' tk bs e hv hr hk => ?_
  · intro x hx y hy
    obtain ⟨i, _, rfl⟩ := List.mem_map.mp hx
    obtain ⟨j, _, rfl⟩ := List.mem_map.mp hy
    rfl
  · intro x hx
    obtain ⟨i, _, rfl⟩ := List.mem_map.mp hx
    exact fun h => nomatch h
  · rw [depth_ints]; exact hu
  · exact ⟨.int d, H, I.kept (t' := tk) hk, ⟨t1, rfl⟩, q0 (List.map_eq_nil_iff.mp e)⟩
  · cases ns with
    | nil => cases e
    | cons n ns =>
      cases e
      rw [PySem.W.minD_ints] at hr
      cases hr
      refine ⟨.int _, H, I.kept (t' := tk) hk, ⟨_, rfl⟩, ?_⟩
      obtain ⟨z1, z2⟩ := minL_ok (ns := n :: ns) (m := ns.foldl min n) rfl
      exact q1 _ z1 z2
end
/-! ### by data -/
section
variable {X : Cx} {g : G} {n : Nat} {W : WX} {o e e2 : Expr} {p pos apos mpos kpos : Pos} {fa fb : Rho → Rx R}
def lvalsR (r : R) : Option R := match r.sh with
  | some (.dk ds) => some (rL (ds.map (·.2)))
  | _ => none
def svalsR (r : R) : Option R := match r.sh with
  | some (.dk ds) => (intsD (ds.map (·.2))).map fun ns => rI ns.sum
  | _ => none
theorem f_lvals (f : Fit X g n) (hg : Gl X "list") (hm : X.mg "list" = none) (ho : okx o = true) (hline : (apos.endLine == mpos.line) = true) (ha : PE X o (tX g W fa)) :
    PE X (.Call (.Name "list" p) [.Call (.Attribute o "values" apos) [] [] mpos] [] pos) (tX g W fun ρ => (fa ρ).bind fun r => .lift (lvalsR r)) := by
  refine PE.to (pe_lvals f.calm hg hm ha (okx_base ho _ _) hline) fun σ H Q ⟨M, O, fp, ρ, c, en, h⟩ => ⟨M, O, fp, ρ, c, en, h.hb.imp (fun ra h1 v H1 s1 xv => ?_) fun _ z => z⟩
  obtain ⟨r, er, k⟩ := h1.hl
  unfold lvalsR at er
  split at er
  · rename_i ds es
    cases er
    obtain ⟨q, kvs, rfl, h3, h4, h5⟩ := xv.nod es
    exact ⟨q, kvs, rfl, h3, fun a hn => k _ _ (s1.trans (same_upd hn)) (XR.base s1 (new_lst hn h5))⟩
  · cases er
theorem f_svals (f : Fit X g n) (hg : Gl X "sum") (hm : X.mg "sum" = none) (ho : okx o = true) (hline : (apos.endLine == mpos.line) = true) (ha : PE X o (tX g W fa)) :
    PE X (.Call (.Name "sum" p) [.Call (.Attribute o "values" apos) [] [] mpos] [] pos) (tX g W fun ρ => (fa ρ).bind fun r => .lift (svalsR r)) := by
  refine PE.to (pe_svals f.calm hg hm ha (okx_base ho _ _) hline) fun σ H Q ⟨M, O, fp, ρ, c, en, h⟩ => ⟨M, O, fp, ρ, c, en, h.hb.imp (fun ra h1 v H1 s1 xv => ?_) fun _ z => z⟩
  obtain ⟨r, er, k⟩ := h1.hl
  unfold svalsR at er
  split at er
  · rename_i ds es
    obtain ⟨ns, e1, rfl⟩ := Option.map_eq_some_iff.mp er
    obtain ⟨q, kvs, rfl, h3, h4, h5⟩ := xv.nod es
    rw [intsD_eq e1] at h5
    exact ⟨q, kvs, rfl, h3, ns, h5.ints_inv, k _ _ s1 (.int _)⟩
  · cases er
/-- min(xs, default=d) -/
def mindR (r q : R) : Option R := match (lstD r.d).bind intsD, q.d with
  | some ns, .int d => some (rI ((minL ns).getD d))
  | _, _ => none
theorem f_mind (f : Fit X g n) (hg : Gl X "min") (hm : X.mg "min" = none) (ho : okx e = true) (h2 : okx e2 = true) (ha : PE X e (tX g W fa)) (hb : PE X e2 (tX g W fb)) :
    PE X (.Call (.Name "min" p) [e] [⟨some "default", e2, kpos⟩] pos) (tX g W fun ρ => (fa ρ).bind fun r => (fb ρ).bind fun q => .lift (mindR r q)) := by
  refine PE.to (pe_callBK (cr_minDef f.calm f.hu) hg hm (by first | rfl | decide +kernel) (pa_cons ha pa_nil (okx_star ho [] X.env)) (pk_cons hb pk_nil) (he := by rw [okx_star ho]; rfl) (hpl := by rw [okx_star ho]; rfl)) fun σ H Q ⟨M, O, fp, ρ, c, en, h⟩ => ?_
  refine ⟨M, O, fp, ρ, c, en, h.hb.imp (fun ra h1 v H1 s1 xv => ⟨M, O, fp, ρ, c.same s1, en.same s1, h1.hb.imp (fun rb h3 w H2 s2 xw => ?_) fun _ => EW.same s1⟩) fun _ z => z⟩
  obtain ⟨r, er, k⟩ := h3.hl
  unfold mindR at er
  split at er
  · rename_i ns d e1 ed
    cases er
    obtain ⟨ds, e3, e4⟩ := Option.bind_eq_some_iff.mp e1
    obtain ⟨a, vs, rfl, h4, h5⟩ := lstD_ok f.K (xv.same s2) e3
    rw [intsD_eq e4] at h5
    rw [h5.ints_inv] at h4
    refine ⟨a, ns, d, rfl, by rw [xw.flat_int ed], h4, fun e0 => ?_, fun m z1 z2 => ?_⟩
    · subst e0
      exact k _ H2 (s1.trans s2) (.int _)
    · cases ns with
      | nil => cases z1
      | cons n ns =>
        obtain ⟨y1, y2⟩ := minL_ok (ns := n :: ns) (m := ns.foldl min n) rfl
        have : m = ns.foldl min n := Int.le_antisymm (z2 _ y1) (y2 _ z1)
        subst this
        exact k _ H2 (s1.trans s2) (.int _)
  · cases er
/-- {k: v}, of plain data -/
def flatD : D → Bool
  | .non => true
  | .bl _ => true
  | .int _ => true
  | .str _ => true
  | _ => false
def dis1R (rk rv : R) : Option R := (keyD rk.d).bind fun k => if flatD rv.d = true then some (rDk [(k, rv.d)]) else none
theorem f_dis1 (ha : PE X e (tX g W fa)) (hb : PE X e2 (tX g W fb)) : PE X (.Dict [some e] [e2] pos) (tX g W fun ρ => (fa ρ).bind fun rk => (fb ρ).bind fun rv => .lift (dis1R rk rv)) := by
  refine PE.to (pe_disp (pps_cons ha hb pps_nil) rfl rfl (by simp) (by simp)) fun σ H Q ⟨M, O, fp, ρ, c, en, h⟩ => fun a hn => ?_
  have s0 : Same H (upd H a (.dK [])) := same_upd hn
  refine ⟨M, O, fp, ρ, c.same s0, en.same s0, h.hb.imp (fun rk h1 v H1 s1 xv => ⟨M, O, fp, ρ, (c.same s0).same s1, (en.same s0).same s1, h1.hb.imp (fun rv h2 w H2 s2 xw => ?_) fun _ => EW.same (s0.trans s1)⟩) fun _ => EW.same s0⟩
  obtain ⟨r, er, k⟩ := h2.hl
  unfold dis1R at er
  obtain ⟨ky, ek, er⟩ := Option.bind_eq_some_iff.mp er
  split at er
  · rename_i hf
    cases er
    have hp : H2 a = some (.dK []) := s2 _ _ (s1 _ _ upd_same)
    have hk : v = kV ky := by
      cases ed : rk.d with
      | int i => rw [ed] at ek; cases ek; exact xv.flat_int ed
      | str i => rw [ed] at ek; cases ek; exact xv.flat_str ed
      | _ => rw [ed] at ek; cases ek
    have hw : ∀ B H', Rep g B H' w rv.d := by
      intro B H'
      cases ed : rv.d with
      | non => rw [xw.flat_non ed]; exact .non
      | bl b => rw [xw.flat_bl ed]; exact .bl _
      | int i => rw [xw.flat_int ed]; exact .int _
      | str i => rw [xw.flat_str ed]; exact .str _
      | _ => rw [ed] at hf; cases hf
    refine ⟨hp, [(ky, w)], by rw [hk]; rfl, by simp, ?_⟩
    have sm : Same H (upd H2 a (.dK [(ky, w)])) := fun b u eb => by
      have hne : b ≠ a := fun z => by subst z; rw [hn] at eb; cases eb
      rw [upd_ne hne]
      exact s2 _ _ (s1 _ _ (s0 _ _ eb))
    exact k _ _ sm ⟨.one a, fun b z => by cases (show b = a from z); exact ⟨hn, _, upd_same, trivial⟩, .pl rfl ⟨[(ky, w)], .inl upd_same, rfl, .cons (hw _ _) .nil⟩⟩
  · cases er
end
end
end Q

end

section
set_option Elab.async false
set_option linter.all false
set_option maxRecDepth 100000
set_option maxHeartbeats 1000000
/-! QC: exceptions: raised, caught, looked at. -/
namespace Q
noncomputable section
open PySem PySem.Spec L2
open PyProof.Rows hiding St

section
variable {X : Cx} {g : G} {n : Nat} {W : WX} {io : List Nat} {pos : Pos} {e : Expr}
/-- raise C('m') -/
theorem s_rse (hc : X.calm = true) (tk : Takes X W) {c : Nat} (he : PMk X e (fun _ H Q => Q (.ref (g.cl c)) none H)) : PS X (.Raise (some e) none pos) (tS g W io fun ρ => some (.ex ⟨c, []⟩ ρ)) :=
  PS.to (ps_raise hc tk he) fun D σ H ⟨M, O, fp, ρ, π, out, at_, e, k⟩ => by
    cases e
    exact k _ none σ H O fp (Kp.of (Same.refl H)) Nw.refl at_.cd at_.en at_.pn ⟨rfl, .inl ⟨rfl, rfl⟩⟩
end
/-! ### within an except suite -/
/-- what is known of an own exception class -/
structure XcC (K : PySem.W.Frag) (C : Addr) : Prop where
  cl : (PySem.W.clsIn K C).isSome = true
  ga : PySem.W.findIn K (.ref C) "__getattribute__" = some (some (.builtin "BaseException.__getattribute__"))
  gt : PySem.W.findIn K (.ref C) "__getattr__" = some none
  sub : PySem.W.subIn K (.ref C) (.type "BaseException") = some true
  hd : PySem.W.hasDictIn K C = true
  ha : PySem.W.findIn K (.ref C) "__class__" = some (some (.builtin "object.__class__"))
  hn : PySem.W.specialIn K (.builtin "object.__class__") "__get__" = some (some (.builtin "getset_descriptor.__get__"))
  ht : PySem.W.takesIn K (.builtin "object.__class__") = some true
  hm : PySem.W.mroIn K C (.type "object") = some true
def rIsX (K : PySem.W.Frag) (D a : Addr) (d : Option Addr) : List V → Hp → VK → Prop := fun xs H Q => ∃ (c : V) (u : Value) (b : Bool), xs = [.ref a, c] ∧ ClsV c u ∧ PySem.W.kitOne K (.ref D) u = some b ∧ (∀ dd, d = some dd → ∃ fs, H dd = some (.xd fs)) ∧ Q (.bl b) H
theorem call_isX {X : Cx} {a D : Addr} {oe : Obj} {d : Option Addr} {pn : List (Addr × Obj)} (C : XcC X.K D) (hz : Zc (.ref D) d oe) (hf : ∃ vs, oe.data = .fields vs) : CallR (X.suite a ((a, oe) :: pn)) (.builtin "isinstance") (rIsX X.K D a d) := by
  intro pins s σ H xs us Q I r h
  obtain ⟨c, cv, b, rfl, hcv, e, hdd, q⟩ := h
  cases r with
  | cons rx rr =>
    cases rr with
    | cons rt rr =>
      cases rr
      cases rx
      have ec := hcv.eq rt
      subst ec
      obtain ⟨hget, _⟩ := I.pin (a, oe) (List.mem_append.mpr (.inl List.mem_cons_self))
      obtain ⟨vs, hv⟩ := hf
      have J : ∃ od, PySem.W.InstAt s.heap a oe D od := by
        cases d with
        | none =>
          obtain ⟨oc, od, oda, osl⟩ := oe
          obtain ⟨h1, h2⟩ := hz
          dsimp only at h1 h2 hv
          subst h1 h2 hv
          exact ⟨none, hget, rfl, rfl, trivial⟩
        | some dd =>
          obtain ⟨fs, hx⟩ := hdd dd rfl
          obtain ⟨mA, hns, hr⟩ := (show ObjOk X.prog X.w H s.heap dd (.xd fs) from I.hok dd _ hx)
          obtain ⟨od, ho, hl⟩ := lookIn_ns hns
          exact ⟨some od, hget, hz.1, by unfold PySem.W.notCls; rw [hv] <;> rfl, by rw [hz.2]; exact ho⟩
      obtain ⟨od, J⟩ := J
      exact PySem.W.kia_one (PySem.W.kitx_exc C.cl C.ga C.gt C.sub C.ha C.hn C.ht C.hm) I.kIn J e (fun z => nomatch z) fun tk => ⟨.bl b, H, I.kept (t' := tk) fun _ _ z => z, rfl, q⟩
/-- the context of a suite whose exception bears the mark t -/
structure HC (X Y : Cx) (g : G) (t : T) (a c : Nat) (d : Option Addr) : Prop where
  ex : ∃ (oe : Obj) (pn : List (Addr × Obj)), Y = X.suite a ((a, oe) :: pn) ∧ Zc (.ref (g.cl c)) d oe ∧ ∃ vs, oe.data = .fields vs
  t : (t = .ins c [.lf (.int (a : Nat))] ∧ d = none) ∨ ∃ (dd : Addr) (nm : Str), t = .ins c [.lf (.int (a : Nat)), .lf (.int (dd : Nat)), .lf (.str nm)] ∧ d = some dd ∧ (g.at_ c).length = 1
/-- what is asked of the mark in slot i -/
def markR {α : Type} (mk : Option T) (i : Nat) (ρ : Rho) (k : T → Rx α) : Rx α := match mk with
  | some t => @ite _ (ρ[i]? = some (some (.vw t))) (Classical.propDecidable _) (k t) .bad
  | none => .bad
theorem markR_hold {α : Type} {mk : Option T} {i : Nat} {ρ : Rho} {k : T → Rx α} {P : α → Prop} {E : Exc → Prop} (h : (markR mk i ρ k).hold P E) : ∃ t, mk = some t ∧ ρ[i]? = some (some (.vw t)) ∧ (k t).hold P E := by
  unfold markR at h
  split at h
  · rename_i t
    by_cases q : ρ[i]? = some (some (.vw t))
    · rw [if_pos q] at h; exact ⟨t, rfl, q, h⟩
    · rw [if_neg q] at h; exact h.elim
  · exact h.elim
def xcT : T → Option Nat
  | .ins c _ => some c
  | _ => none
def xnT : T → Option Str
  | .ins _ [_, _, .lf (.str nm)] => some nm
  | _ => none
section
variable {X Y : Cx} {g : G} {n : Nat} {W : WX} {io : List Nat} {pos p p1 pT : Pos} {e : Expr} {t : T} {a c i : Nat} {d : Option Addr}
theorem XM.at {H : Hp} {v : V} (hc : HC X Y g t a c d) (h : XM g H v t) : v = .ref a ∧ ∀ dd, d = some dd → ∃ nm, t = .ins c [.lf (.int (a : Nat)), .lf (.int (dd : Nat)), .lf (.str nm)] ∧ H dd = some (.xd ((g.at_ c).zip [.str nm])) := by
  rcases hc.t with ⟨rfl, rfl⟩ | ⟨dd, nm, rfl, rfl, _⟩
  · exact ⟨h, fun _ z => nomatch z⟩
  · refine ⟨h.1, fun d2 z => ?_⟩
    cases z
    exact ⟨nm, rfl, h.2⟩
theorem f_isX {nm T : Str} {cv : V} {u : Value} {b : Bool} (hc : HC X Y g t a c d) (C : XcC X.K (g.cl c)) (hu : ClsV cv u) (hk : PySem.W.kitOne X.K (.ref (g.cl c)) u = some b) (hg : Gl Y ("isinstance" : Str)) (hm : Y.mg ("isinstance" : Str) = none)
    (hN : Y.N[i]? = some nm) (hv : Vis Y.env.scope nm) (hd : (nm == ("__debug__" : Str)) = false) (hcd : (nm == ("__classdict__" : Str)) = false) (hT : PE Y (.Name T pT) (tC cv)) :
    PE Y (.Call (.Name ("isinstance" : Str) p) [.Name nm p1, .Name T pT] [] pos) (tX g W fun ρ => markR (some t) i ρ fun _ => .ok (rB b)) := by
  obtain ⟨oe, pn, rfl, hz, hf⟩ := hc.ex
  refine PE.to (pe_callB (call_isX C hz hf) hg hm (by decide +kernel) (pa_cons (pe_var hN hv hd hcd) (pa_cons hT pa_nil rfl) rfl) (by decide) (by decide) rfl rfl) fun σ H Q ⟨M, O, fp, ρ, cd, en, h⟩ => ?_
  obtain ⟨t', et, er, h1⟩ := markR_hold h
  cases et
  obtain ⟨v, e1, q⟩ := en.at_ i _ er
  obtain ⟨rfl, hdd⟩ := XM.at hc q
  exact ⟨_, e1, cv, u, b, rfl, hu, hk, fun dd z => let ⟨nm, _, z2⟩ := hdd dd z; ⟨_, z2⟩, h1 _ H (Same.refl H) (.bl _)⟩
theorem f_xnm {nm f : Str} (hc : HC X Y g t a c d) (C : XcC X.K (g.cl c)) (hno : PySem.W.findIn X.K (.ref (g.cl c)) f = some none) (ha : g.at_ c = [f])
    (hN : Y.N[i]? = some nm) (hv : Vis Y.env.scope nm) (hd : (nm == ("__debug__" : Str)) = false) (hcd : (nm == ("__classdict__" : Str)) = false) :
    PE Y (.Attribute (.Name nm p1) f pos) (tX g W fun ρ => markR (some t) i ρ fun t => (Rx.lift (xnT t)).bind fun z => .ok (rS z)) := by
  obtain ⟨oe, pn, rfl, hz, hf⟩ := hc.ex
  refine PE.to (pe_xf ⟨C.ga, C.gt, C.sub, C.hd⟩ hno hz hf (pe_var hN hv hd hcd)) fun σ H Q ⟨M, O, fp, ρ, cd, en, h⟩ => ?_
  obtain ⟨t', et, er, h1⟩ := markR_hold h
  cases et
  obtain ⟨v, e1, q⟩ := en.at_ i _ er
  obtain ⟨rfl, hdd⟩ := XM.at hc q
  rcases hc.t with ⟨rfl, rfl⟩ | ⟨dd, z, rfl, rfl, _⟩
  · obtain ⟨z, ez, _⟩ := h1.hb.hl
    cases ez
  · obtain ⟨nm2, et, ed⟩ := hdd dd rfl
    cases et
    refine ⟨_, e1, rfl, rfl, dd, _, .str z, rfl, ed, ?_, h1 _ H (Same.refl H) (.str _)⟩
    rw [ha]
    simp [List.zip]
end
/-! ### try -/
def markOf (q : Exc) (a dd : Nat) : Option T := match q.fs with
  | [] => some (.ins q.c [.lf (.int a)])
  | [.str nm] => some (.ins q.c [.lf (.int a), .lf (.int dd), .lf (.str nm)])
  | _ => none
def delO (i : Nat) : Out → Option Out
  | .nx ρ => some (.nx (ρ.set i none))
  | .bk ρ => some (.bk (ρ.set i none))
  | .ct ρ => some (.ct (ρ.set i none))
  | .rt r ρ => some (.rt r (ρ.set i none))
  | .ex _ _ => none
/-- the suite, wherever its exception lies -/
def sutF (i : Nat) (fh : T → Rho → Option Out) (q : Exc) (ρ : Rho) : Option Out :=
  @dite _ (ρ[i]? = some none ∧ ∃ o, ∀ a dd : Nat, ((markOf q a dd).bind fun t => (fh t (ρ.set i (some (.vw t)))).bind (delO i)) = some o) (Classical.propDecidable _) (fun h => some h.2.choose) fun _ => none
theorem sutF_eq {i : Nat} {fh : T → Rho → Option Out} {q : Exc} {ρ : Rho} {o : Out} (h0 : ρ[i]? = some none) (h : ∀ a dd : Nat, ((markOf q a dd).bind fun t => (fh t (ρ.set i (some (.vw t)))).bind (delO i)) = some o) : sutF i fh q ρ = some o := by
  have hh : ρ[i]? = some none ∧ ∃ o, ∀ a dd : Nat, ((markOf q a dd).bind fun t => (fh t (ρ.set i (some (.vw t)))).bind (delO i)) = some o := ⟨h0, o, h⟩
  unfold sutF
  rw [dif_pos hh]
  have h1 := hh.2.choose_spec 0 0
  rw [h 0 0] at h1
  exact h1.symm
theorem sutF_at {i : Nat} {fh : T → Rho → Option Out} {q : Exc} {ρ : Rho} {o : Out} (h : sutF i fh q ρ = some o) : ρ[i]? = some none ∧ ∀ a dd : Nat, ((markOf q a dd).bind fun t => (fh t (ρ.set i (some (.vw t)))).bind (delO i)) = some o := by
  unfold sutF at h
  by_cases z : ρ[i]? = some none ∧ ∃ o, ∀ a dd : Nat, ((markOf q a dd).bind fun t => (fh t (ρ.set i (some (.vw t)))).bind (delO i)) = some o
  · rw [dif_pos z] at h
    cases h
    exact ⟨z.1, z.2.choose_spec⟩
  · rw [dif_neg z] at h; cases h
def tryF (i : Nat) (isa : Nat → Option Bool) (fb : Rho → Option Out) (fh : T → Rho → Option Out) (ρ : Rho) : Option Out := (fb ρ).bind fun o => match o with
  | .ex q ρ' => (isa q.c).bind fun b => if b = true then sutF i fh q ρ' else some (.ex q ρ')
  | o => some o
section
variable {g : G} {M O O1 : AS} {fp : Nat → AS} {σ : St} {H : Hp} {ρ : Rho} {π : Pin} {io : List Nat} {i : Nat} {v : V} {t : T}
/-- the exception is noted in its slot -/
theorem At.note (at_ : At g io M O fp ρ π σ H) (hi : i ∉ io) (h0 : ρ[i]? = some none) (h : XM g H v t) : At g (i :: io) M O fp (ρ.set i (some (.vw t))) π (σ.set i (some v)) H := by
  have no : ∀ a, ¬ fp i a := fun a z => by
    obtain ⟨t, e⟩ := at_.en.fr i a z
    rw [h0] at e; cases e
  have hlt : i < ρ.length := by
    by_cases z : i < ρ.length
    · exact z
    · rw [List.getElem?_eq_none (by omega)] at h0; cases h0
  refine ⟨at_.cd, ⟨by simp [at_.en.len], fun j r er => ?_, at_.en.fo, fun j a z => ?_, at_.en.ds⟩, fun j v e => List.mem_cons_of_mem _ (at_.io j v e), pn_set at_.pn (at_.free hi) v⟩
  · by_cases q : i = j
    · subst q
      rw [List.getElem?_set_self hlt] at er
      cases er
      exact ⟨v, List.getElem?_set_self (by rw [at_.en.len]; exact hlt), h⟩
    · rw [List.getElem?_set_ne q] at er
      rw [List.getElem?_set_ne q]
      exact at_.en.at_ j r er
  · have q : i ≠ j := fun e => by subst e; exact no a z
    rw [List.getElem?_set_ne q]
    exact at_.en.fr j a z
/-- a slot is emptied, in the names' values too -/
theorem EnvR.unset (cd : Cd M O H) (en : EnvR g M O fp σ H ρ) : ∃ fp', EnvR g M O fp' (σ.set i none) H (ρ.set i none) ∧ ∀ j a, fp' j a → fp j a := by
  refine ⟨fun j a => fp j a ∧ j ≠ i, ⟨by simp [en.len], fun j r er => ?_, fun j a z => en.fo j a z.1, fun j a z => ?_, fun j k a ne z1 z2 => en.ds j k a ne z1.1 z2.1⟩, fun j a z => z.1⟩
  · by_cases q : i = j
    · subst q
      by_cases hl : i < ρ.length
      · rw [List.getElem?_set_self hl] at er; cases er
      · rw [List.getElem?_eq_none (by simpa using hl)] at er; cases er
    · rw [List.getElem?_set_ne q] at er
      obtain ⟨v, e1, e2⟩ := en.at_ j r er
      refine ⟨v, by rw [List.getElem?_set_ne q]; exact e1, ?_⟩
      cases r with
      | own t => exact OT.more (fun a z => ⟨z, fun e => q e.symm⟩) e2
      | _ => exact e2
  · rw [List.getElem?_set_ne (Ne.symm z.2)]
    exact en.fr j a z.1
theorem Pn.unset (h : Pn π σ) (hi : π i = none) : Pn π (σ.set i none) := fun j w e => by
  have : i ≠ j := fun z => by subst z; rw [hi] at e; cases e
  rw [List.getElem?_set_ne this]
  exact h j w e
end
section
variable {X : Cx} {g : G} {n : Nat} {W : WX} {io : List Nat} {pos pos' np : Pos} {x nm : Str} {c i : Nat} {body suite : List Stmt} {b₀ : Stmt} {isa : Nat → Option Bool} {fb : Rho → Option Out} {fh : T → Rho → Option Out}
theorem s_try (hs : X.stack = X.env :: X.outer) (hf : X.env.frame = some X.env.locals) (hN : X.N.Nodup) (hi : X.N[i]? = some nm) (hln : X.env.kindOf nm = some .local) (hc : Names X x (.ref (g.cl c))) (tk : Takes X W) (hio : i ∉ io)
    (hex : ∀ c' b, isa c' = some b → PySem.W.exmOne X.K (.ref (g.cl c')) (.ref (g.cl c)) = some b)
    (hb : ∀ (W' : WX) (pn : List (Addr × Obj)) (xe : Value → Shared → Prop), Takes (X.tr pn xe) W' → PassesOwn (model X.prog X.w) X.A X.env xe → PSs (X.tr pn xe) body (tS g W' io fb))
    (hh : ∀ t Y a c d, HC X Y g t a c d → PSs Y (b₀ :: suite) (tS g (fun _ _ _ _ => False) (i :: io) (fh t))) :
    PS X (.Try body [.ExceptHandler (some (.Name x np)) (some nm) (b₀ :: suite) pos'] [] [] pos) (tS g W io (tryF i isa fb fh)) := by
  refine PS.to (ps_try_as (tb := fun W' => tS g W' io fb) (ts := fun a cls d D σ H => ∃ t c, cls = .ref (g.cl c) ∧ ((t = T.ins c [.lf (.int (a : Nat))] ∧ d = none) ∨ ∃ (dd : Addr) (nm : Str), t = T.ins c [.lf (.int (a : Nat)), .lf (.int (dd : Nat)), .lf (.str nm)] ∧ d = some dd ∧ (g.at_ c).length = 1) ∧ tS g (fun _ _ _ _ => False) (i :: io) (fh t) D σ H) hs hf hN hi hln hc tk hb fun a oe cls d pn hz hfl => ?_) fun D σ H ⟨M, O, fp, ρ, π, out, at_, e, k⟩ => ?_
  · refine ⟨fun pins s σ H D I ⟨t, c, ec, ht, h⟩ => ?_⟩
    subst ec
    exact (hh t _ a c d ⟨⟨oe, pn, rfl, hz, hfl⟩, ht⟩).run pins s σ H D I h
  · obtain ⟨o, eb, e⟩ := Option.bind_eq_some_iff.mp e
    refine ⟨M, O, fp, ρ, π, o, at_, eb, ?_⟩
    cases o with
    | nx ρ' => cases e; exact k
    | bk ρ' => cases e; exact k
    | ct ρ' => cases e; exact k
    | rt r ρ' => cases e; exact k
    | ex q ρ' =>
      simp only at e
      obtain ⟨b, hb1, e⟩ := Option.bind_eq_some_iff.mp e
      intro cls d σ' H' O' fp' kp nw cd en pn xx
      have ec : cls = .ref (g.cl q.c) := xx.1
      subst ec
      refine ⟨b, hex _ _ hb1, fun eb2 a na => ?_, fun eb2 => ?_⟩
      · subst eb2
        rw [if_pos rfl] at e
        obtain ⟨h0, hall⟩ := sutF_at e
        have at' : At g io M O' fp' ρ' π σ' H' := ⟨cd, en, at_.io, pn⟩
        have hpi := at'.free hio
        -- the mark
        have mk : ∃ t dd, markOf q a dd = some t ∧ XM g H' (.ref a) t ∧ ((t = T.ins q.c [.lf (.int (a : Nat))] ∧ d = none) ∨ ∃ (dd : Addr) (nm : Str), t = T.ins q.c [.lf (.int (a : Nat)), .lf (.int (dd : Nat)), .lf (.str nm)] ∧ d = some dd ∧ (g.at_ q.c).length = 1) := by
          have hall0 := hall 0 0
          obtain ⟨t0, et0, _⟩ := Option.bind_eq_some_iff.mp hall0
          unfold markOf at et0 ⊢
          rcases xx.2 with ⟨z1, z2⟩ | ⟨dd, vs, z1, z2, z3, z4, z5⟩
          · subst z2
            rw [z1]
            exact ⟨_, 0, rfl, rfl, .inl ⟨rfl, rfl⟩⟩
          · subst z1
            split at et0
            · rename_i ef
              exact absurd ef z5
            · rename_i nm ef
              rw [ef] at z4
              cases z4 with
              | cons q1 q2 =>
                cases q2
                cases q1
                exact ⟨_, dd, rfl, ⟨rfl, z2⟩, .inr ⟨dd, nm, rfl, rfl, z3.symm⟩⟩
            · cases et0
        obtain ⟨t, dd, em, hx, ht⟩ := mk
        have h1 := hall a dd
        rw [em, Option.bind_some] at h1
        obtain ⟨oh, eh, ed⟩ := Option.bind_eq_some_iff.mp h1
        refine ⟨t, q.c, rfl, ht, M, O', fp', _, π, oh, at'.note hio h0 hx, eh, ?_⟩
        cases oh with
        | nx ρ2 =>
          cases ed
          intro σ2 H2 O2 fp2 kp2 nw2 cd2 en2 pn2
          obtain ⟨fp3, en3, _⟩ := EnvR.unset (i := i) cd2 en2
          exact k _ H2 O2 fp3 (kp.trans nw kp2) (Nw.trans kp nw nw2) cd2 en3 (Pn.unset pn2 hpi)
        | bk ρ2 =>
          cases ed
          intro σ2 H2 O2 fp2 kp2 nw2 cd2 en2 pn2
          obtain ⟨fp3, en3, _⟩ := EnvR.unset (i := i) cd2 en2
          exact k _ H2 O2 fp3 (kp.trans nw kp2) (Nw.trans kp nw nw2) cd2 en3 (Pn.unset pn2 hpi)
        | ct ρ2 =>
          cases ed
          intro σ2 H2 O2 fp2 kp2 nw2 cd2 en2 pn2
          obtain ⟨fp3, en3, _⟩ := EnvR.unset (i := i) cd2 en2
          exact k _ H2 O2 fp3 (kp.trans nw kp2) (Nw.trans kp nw nw2) cd2 en3 (Pn.unset pn2 hpi)
        | rt r ρ2 =>
          cases ed
          intro v σ2 H2 O2 fp2 kp2 nw2 cd2 en2 pn2 rr
          obtain ⟨fp3, en3, le⟩ := EnvR.unset (i := i) cd2 en2
          refine k v _ H2 O2 fp3 (kp.trans nw kp2) (Nw.trans kp nw nw2) cd2 en3 (Pn.unset pn2 hpi) ?_
          cases r with
          | own t => obtain ⟨S, q1, q2, q3⟩ := rr; exact ⟨S, q1, fun j a z => q2 j a (le j a z), q3⟩
          | _ => exact rr
        | ex q2 ρ2 => cases ed
      · subst eb2
        rw [if_neg (by decide)] at e
        cases e
        exact k _ d σ' H' O' fp' kp nw cd en pn xx
end
/-! ### an own exception class with its own __init__ -/
/-- what is known of the class by whose name the base's __init__ is called -/
structure BasC (K : PySem.W.Frag) (B : Addr) : Prop where
  sg : PySem.W.specialIn K (.ref B) "__getattribute__" = some (some (.builtin "type.__getattribute__"))
  rd : PySem.W.readsIn K B (.type "type") = true
  fi : PySem.W.findCls K (.ref B) (.type "type") "__init__" = some (.val (.builtin "ValueError.__init__"))
section
variable {X : Cx} {e : Expr} {es : List Expr} {ta : TA} {p p1 p2 pos : Pos} {x : Str} {B : Addr}
theorem pe_binit {pl : Sem Bool} (hg : Gl X x) (hm : X.mg x = some (.ref B)) (hdb : (x == ("__debug__" : Str)) = false) (vB : BasC X.K B) (ha : PA X (e :: es) ta)
    (hc : eval (.Call (.Attribute (.Name x p1) "__init__" p2) (e :: es) [] pos) X.env = (do
      let ov ← eval (.Name x p1) X.env
      standAt p2.atName
      let (f, first) ← holding [ov] (getMethod ov "__init__" pl)
      callWith pos f first (backTo pos (starEach (e :: es) X.env)) (backToKw pos (keywordEach [] X.env))))
    (he : starEach (e :: es) X.env = (false, eval e X.env) :: starEach es X.env) (hpl : (backTo pos (starEach es X.env)).any (·.1) = false) :
    PE X (.Call (.Attribute (.Name x p1) "__init__" p2) (e :: es) [] pos) (tVeI X.K ta) := by
  refine ⟨fun pins s σ H Q I h => ?_⟩
  refine PySem.W.methodCall_KW (pl := pl) (ld_glob I hg hm ?_ hdb) hc
  refine PySem.W.method_cls I.kIn vB.sg (PySem.W.cls_value I.kIn vB.rd vB.fi rfl ?_)
  show wpAny _ _ (callWith pos (Value.builtin "ValueError.__init__") [] (backTo pos (starEach (e :: es) X.env)) []) _ _ _
  refine PyProof.Rows.callWith_method1 (thn (ha.run pos pins _ σ H _ (I.tok _) h) fun us s1 ⟨vs, H1, I1, r1, a, C, ws, ev, hl, T, ea, q⟩ => ?_) he hpl
  subst ev
  cases r1 with
  | @cons _ u0 _ ur ra rw' =>
    obtain rfl : u0 = Value.ref a := ra
    have hlen : ur.length ≤ sizeLine := by
      rw [← Paired.length rw', sizeLine_eq]
      omega
    exact oinit_ok T I1 ea hlen fun s' J => ⟨.non, H1, J, rfl, q⟩
end
/-- what such an __init__ promises -/
def spX (K : PySem.W.Frag) (fld : Str) : Sp := fun vs H Q E => ∃ (a C : Addr) (u : V), vs = [.ref a, u] ∧ OexC K C ∧ PySem.W.findIn K (.ref C) fld = some none ∧ H a = some (exo a C none) ∧ ∀ dx, H dx = none → dx ≠ a → Q .non (upd (upd H dx (exd dx [(fld, u)])) a (exo a C (some dx)))
theorem xinit_ok {P : Program} {w : World} {K : PySem.W.Frag} {mg : Str → Option Value} {base : Heap} {x qual self nm B fld m : Str} {params : Arguments} {scope : Scope} {kws : List (Str × V)} {f : Addr} {fd : FuncData} {j : Nat} {p1 p2 p3 p4 p5 p6 p7 p8 p9 p10 : Pos} {CB : Addr} {l : Nat}
    (F : FunD K x qual params [.Expr (.Call (.Attribute (.Name B p1) "__init__" p2) [.Name self p3, .Constant (.str m) j p4] [] p5) p6, .Assign [.Attribute (.Name self p7) fld p8] (.Name nm p9) p10] scope [] kws f fd)
    (S : FnScope [self, nm] [self, nm] scope) (hg : scope.names.lookup B = some .globalImplicit) (hdb : (B == ("__debug__" : Str)) = false) (hm : mg B = some (.ref CB)) (vB : BasC K CB)
    (v1 : Vis scope self ∧ (self == ("__debug__" : Str)) = false ∧ (self == ("__classdict__" : Str)) = false) (v2 : Vis scope nm ∧ (nm == ("__debug__" : Str)) = false ∧ (nm == ("__classdict__" : Str)) = false) (hl : (p2.endLine == p5.line) = true) : FnOk P w K mg base (L2.CX P w) (l + 1) f fd [self, nm] (spX K fld) := by
  refine F.ok S (fun vs H Q E ⟨a, C, u, e, _⟩ => by rw [e]; rfl) fun cdv A outer s H vs Q E hr ⟨a, C, u, ev, oC, hno, ea, q⟩ => ?_
  subst ev
  have pS : ∀ p, PE (cxOf (L2.CX P w) P w K mg base [self, nm] qual scope f cdv A outer s H E) (.Name self p) (tVar 0) := fun p => pe_var rfl v1.1 v1.2.1 v1.2.2
  have pN : ∀ p, PE (cxOf (L2.CX P w) P w K mg base [self, nm] qual scope f cdv A outer s H E) (.Name nm p) (tVar 1) := fun p => pe_var rfl v2.1 v2.2.1 v2.2.2
  refine ⟨_, pss_cons (ps_expr (pe_binit hg hm hdb vB (pa_cons (pS _) (pa_cons pe_str pa_nil rfl) rfl) (meth_ht rfl rfl (by simp) hl) rfl rfl)) (pss_cons (ps_ost (pS _) (pN _)) pss_nil), ?_⟩
  exact ⟨.ref a, rfl, a, C, [.str m], rfl, by simp, oC, ea, u, rfl, .ref a, rfl, a, C, rfl, oC, hno, .inl ⟨ea, fun dx h1 h2 => q dx h1 h2⟩⟩
section
variable {X : Cx} {g : G} {n : Nat} {W : WX} {io : List Nat} {pos pos' p : Pos} {x fld : Str} {e : Expr} {fe : Rho → Rx R} {c : Nat} {fI : Addr} {fd : FuncData} {ps : List Str}
/-- raise C(e), the class's own __init__ keeping e in its one field -/
def rseF (c : Nat) (fe : Rho → Rx R) (ρ : Rho) : Option Out := bindO (fe ρ) ρ fun r => match r.d with
  | .str z => some (.ex ⟨c, [.str z]⟩ ρ)
  | _ => none
theorem s_rse1 (f : Fit X g (n + 1)) (tk : Takes X W) (T : OexC X.K (g.cl c)) (hno : PySem.W.findIn X.K (.ref (g.cl c)) fld = some none) (hat : g.at_ c = [fld]) (iC : PySem.W.findIn X.K (.ref (g.cl c)) "__init__" = some (some (.ref fI))) (tI : PySem.W.typeIn X.K (.ref fI) = some (.type "function"))
    (F1 : FnOk X.prog X.w X.K X.mg X.base (L2.CX X.prog X.w) n fI fd ps (spX X.K fld)) (hb : Binds X.K fd ps []) (hg : Gl X x) (hm : X.mg x = some (.ref (g.cl c))) (hdb : (x == ("__debug__" : Str)) = false) (hx : okx e = true) (ha : PE X e (tX g W fe)) :
    PS X (.Raise (some (.Call (.Name x p) [e] [] pos)) none pos') (tS g W io (rseF c fe)) := by
  refine PS.to (ps_raise f.calm tk (pmk_oex (sp := spX X.K fld) (dvs := []) T iC tI F1 f.room hb .nil (fun pins σ H s er s' I h => ?_) hg hm (pa_cons ha pa_nil (okx_star hx [] X.env)) hdb (okx_star hx [] X.env) rfl)) fun D σ H ⟨M, O, fp, ρ, π, out, at_, eo, k⟩ => ?_
  · obtain ⟨a, B, H', cls, dd, _, _, _, _, _, _, _, hE⟩ := h
    exact hE.elim
  · refine ⟨M, O, fp, ρ, at_.cd, at_.en, (bindO_hold at_ eo k).imp (fun r h1 v H1 s1 xv => ?_) fun q z => ?_⟩
    · split at h1
      · rename_i z ez
        cases h1
        have ev := xv.flat_str ez
        subst ev
        refine ⟨by simp, fun a ha => ⟨a, g.cl c, .str z, rfl, T, hno, upd_same, fun dx h1 h2 => ⟨rfl, dx, [(fld, .str z)], upd_same, ?_, ?_, ?_⟩⟩⟩
        · rw [upd_ne h2, upd_same]
        · rw [upd_ne h2] at h1; exact h1
        · rw [upd_ne h2] at h1
          have sm : Same H1 (upd (del (upd (upd (upd H1 a (exo a (g.cl c) none)) dx (exd dx [(fld, .str z)])) a (exo a (g.cl c) (some dx))) a) dx (.xd [(fld, .str z)])) := fun b u eb => by
            have b1 : b ≠ a := fun q => by subst q; rw [ha] at eb; cases eb
            have b2 : b ≠ dx := fun q => by subst q; rw [h1] at eb; cases eb
            rw [upd_ne b2, del_ne b1, upd_ne b1, upd_ne b2, upd_ne b1]
            exact eb
          have s2 := s1.trans sm
          refine k _ _ σ _ O fp (Kp.of s2) Nw.refl (at_.cd.same s2) (at_.en.same s2) at_.pn ⟨rfl, .inr ⟨dx, [.str z], rfl, ?_, ?_, .cons (.str _) .nil, by simp⟩⟩
          · rw [upd_same]
            show some (HO.xd [(fld, V.str z)]) = some (.xd ((g.at_ c).zip [.str z]))
            rw [hat]; rfl
          · rw [show g.at_ (Exc.c ⟨c, [.str z]⟩) = [fld] from hat]; rfl
      · cases h1
    · exact z
end
/-! ### the written part's words on an own exception class -/
def oexB (K : PySem.W.Frag) (C : Addr) : Bool := match K.lookup C with
  | some ⟨.type "type", _, .cls cd, sl⟩ => (match cd.mro, sl.toList with
    | .ref C' :: bm, [_, _, _, _, some (.builtin n), _] => C' == C && n == "ValueError.__new__" && !cd.hasDel && cd.hasDict && PySem.HandSPX.refsVE bm
    | _, _ => false)
  | _ => false
theorem oexB_ok {K : PySem.W.Frag} {C : Addr} (q : oexB K C = true) : ∃ nm qn N bs bm sn sub ab col dd k0 k1 k2 k3 k5, K.lookup C = some (excClassObj nm qn C N bs bm true sn sub ab col dd k0 k1 k2 k3 k5 "ValueError.__new__") ∧ PySem.HandSPX.refsVE bm = true := by
  unfold oexB at q
  split at q
  · rename_i dd cd sl ho
    split at q
    · rename_i C' bm k0 k1 k2 k3 n k5 hm hs
      simp only [Bool.and_eq_true, beq_iff_eq, Bool.not_eq_true'] at q
      obtain ⟨⟨⟨⟨rfl, rfl⟩, hdel⟩, hdc⟩, ht⟩ := q
      obtain ⟨nm, bs, mro, ns, qn, hd, sn, sub, ab, col, del⟩ := cd
      dsimp only at hm hdel hdc
      subst hm hdel hdc
      have hsl : sl = #[k0, k1, k2, k3, some (.builtin "ValueError.__new__"), k5] := by
        obtain ⟨l⟩ := sl
        simp only at hs
        rw [hs]
      subst hsl
      exact ⟨nm, qn, ns, bs, bm, sn, sub, ab, col, dd, k0, k1, k2, k3, k5, ho, ht⟩
    · cases q
  · cases q
end
end Q

end

section
set_option Elab.async false
set_option linter.all false
set_option maxRecDepth 100000
set_option maxHeartbeats 1000000
/-! QD: an empty dict of trees; a, b = x, y of plain locals; l.count(x). -/
namespace Q
noncomputable section
open PySem PySem.Spec L2
open PyProof.Rows hiding St

section
variable {X : Cx} {g : G} {n : Nat} {W : WX} {io : List Nat} {pos p apos cpos : Pos} {x y m : Str} {e a b : Expr} {fl : Rho → Rx (List R)}
theorem f_dnewR : PE X (.Dict [] [] pos) (tX g W fun _ => .ok (.own (.dk [] []))) :=
  PE.to pe_dnewK fun σ H Q ⟨M, O, fp, ρ, c, en, k⟩ => fun p hp => k _ _ (same_upd hp) ⟨.one p, fun a z => by cases (show a = p from z); exact ⟨hp, _, upd_same, trivial⟩, .dk .no rfl (.inl upd_same) rfl (fun _ z => z.elim) id .nil⟩
/-! ### a field of an own instance is changed no more -/
mutual
theorem OTs.frz1 {g : G} {B : AS} {H : Hp} : ∀ {vs : List V} {ts : List T} {S : AS} {j : Nat} {t : T}, OTs g B H vs ts S → ts[j]? = some t →
    ∃ Sj : AS, (∀ a, Sj a → S a) ∧ ∀ B' : AS, (∀ a, B' a → B a) → (∀ a, Sj a → ¬ B' a) → OTs g B' H vs (ts.set j (.lf t.d)) (fun a => S a ∧ ¬ Sj a)
  | _, _, _, _, _, .nil, e => by simp at e
  | _, _, _, 0, _, .cons S1 S2 w1 w2 ds h r, e => by
    cases e
    refine ⟨S1, w1, fun B' hB hn => ?_⟩
    exact .cons .no S2 (fun _ z => z.elim) (fun a z => ⟨w2 a z, fun z1 => ds a z1 z⟩) (fun _ z => z.elim) (.lf (h.view (Tr.less hB) fun a u z e => ⟨hn a z, .inl e⟩)) (r.less hB)
  | _, _, _, j + 1, _, .cons S1 S2 w1 w2 ds h r, e => by
    obtain ⟨Sj, q1, q2⟩ := OTs.frz1 r (j := j) (by simpa using e)
    refine ⟨Sj, fun a z => w2 a (q1 a z), fun B' hB hn => ?_⟩
    exact .cons S1 _ (fun a z => ⟨w1 a z, fun z1 => ds a z (q1 a z1)⟩) (fun a z => ⟨w2 a z.1, z.2⟩) (fun a z z1 => ds a z z1.1) (h.less hB) (q2 B' hB hn)
end
def frfF (i j : Nat) (ρ : Rho) : Option Rho := match ownT ρ i with
  | some (.ins c ts) => (ts[j]?).map fun t => ρ.set i (some (.own (.ins c (ts.set j (.lf t.d)))))
  | _ => none
theorem frf_ok {g : G} {io : List Nat} {i j : Nat} (M O : AS) (fp : Nat → AS) (H : Hp) (σ : St) (ρ : Rho) (π : Pin) (ρ' : Rho) (at_ : At g io M O fp ρ π σ H) (e : frfF i j ρ = some ρ') : ∃ O' fp', Nw O H O' ∧ At g io M O' fp' ρ' π σ H := by
  unfold frfF at e
  split at e
  · rename_i c ts et
    obtain ⟨t, ej, rfl⟩ := Option.map_eq_some_iff.mp e
    have er := ownT_at et
    have hi : i < ρ.length := by
      by_cases hi : i < ρ.length
      · exact hi
      · rw [List.getElem?_eq_none (by simpa using hi)] at er; cases er
    obtain ⟨v, ev, q⟩ := at_.en.at_ i _ er
    have q : OT g (M.u O) H v (.ins c ts) (fp i) := q
    cases q with
    | @ins a dx _ fs _ _ S' s h ek w n r =>
      obtain ⟨Sj, q1, q2⟩ := OTs.frz1 r ej
      have ls : ∀ b, (M.u (O.mi Sj)) b → (M.u O) b := fun b z => z.imp id fun z => z.1
      have hn : ∀ b, Sj b → ¬ (M.u (O.mi Sj)) b := fun b z z2 => z2.elim (fun z2 => at_.cd.d b (at_.en.fo i b (w b (q1 b z))) z2) fun z2 => z2.2 z
      refine ⟨O.mi Sj, fun k b => fp k b ∧ (k = i → ¬ Sj b), fun b z => .inl z.1, ⟨at_.cd.m, fun b z => at_.cd.o b z.1, fun b z => at_.cd.d b z.1⟩, ⟨by simp [at_.en.len], fun k r' er' => ?_, fun k b z => ⟨at_.en.fo k b z.1, fun z2 => ?_⟩, fun k b z => ?_, fun k l b ne z1 z2 => at_.en.ds k l b ne z1.1 z2.1⟩, at_.io, at_.pn⟩
      · by_cases z : i = k
        · subst z
          rw [List.getElem?_set_self hi] at er'
          cases er'
          refine ⟨_, ev, ?_⟩
          show OT g (M.u (O.mi Sj)) H (.ref a) (.ins c (ts.set j (.lf t.d))) _
          exact .ins (fun b => S' b ∧ ¬ Sj b) ⟨s, fun _ z => n (q1 a z)⟩ h (by simpa using ek) (fun b z => ⟨w b z.1, fun _ => z.2⟩) (fun z => n z.1) (q2 _ ls hn)
        · rw [List.getElem?_set_ne z] at er'
          obtain ⟨v', e1, q1'⟩ := at_.en.at_ k r' er'
          refine ⟨v', e1, ?_⟩
          cases r' with
          | shr d => exact Rep.less ls q1'
          | own t' => exact (OT.less ls q1').more fun b z2 => ⟨z2, fun e => absurd e.symm z⟩
          | tmp t' => obtain ⟨S, k', q⟩ := q1'; exact ⟨S, k', q.less ls⟩
          | vw t' => exact q1'
      · by_cases z3 : k = i
        · exact z.2 z3 z2
        · exact at_.en.ds k i b z3 z.1 (w b (q1 b z2))
      · by_cases z3 : k = i
        · subst z3
          exact ⟨_, by rw [List.getElem?_set_self hi]⟩
        · rw [List.getElem?_set_ne (Ne.symm z3)]
          exact at_.en.fr k b z.1
  · cases e
/-! ### a, b = x, y -/
def sw2F (i j : Nat) (rs : List R) (ρ : Rho) : Option Out := match kids rs with
  | some [d, d'] => some (.nx ((ρ.set i (some (.shr d))).set j (some (.shr d'))))
  | _ => none
def swOk (u v : Expr) : Bool := !([u, v].any fun | .Starred .. => true | _ => false) && !([u, v].all (foldedForSure 8)) && !([u, v].all (constantsAlone 8))
theorem sw_pair {px py pt pt2 : Pos} {kt k2} {u v : Expr} {env : Env} (hk : env.blockKind = .function) (hx : env.kindOf x = some .local) (hy : env.kindOf y = some .local) (hxy : x ≠ y) (hl : (px.line == py.line) = true) (h : swOk u v = true) :
    swappedStores [.Tuple [.Name x px, .Name y py] kt pt] (.Tuple [u, v] k2 pt2) env = pure (some [x, y]) := by
  unfold swOk at h
  simp only [Bool.and_eq_true, Bool.not_eq_true'] at h
  obtain ⟨⟨h1, h2⟩, h3⟩ := h
  have hl' : (py.line == px.line) = true := by
    have := eq_of_beq hl
    rw [this]; exact beq_self_eq_true _
  have e1 : ([x, y] : List Str).eraseDups = [x, y] := by
    have : (y == x) = false := beq_eq_false_iff_ne.mpr (Ne.symm hxy)
    simp [List.eraseDups_cons, this]
  have e2 : ([Expr.Name x px, Expr.Name y py].filterMap fun
    | .Name id pos => if env.kindOf id == some .local && pos.line == px.line then some id else none
    | _ => none) = [x, y] := by
    simp only [List.filterMap_cons, List.filterMap_nil, hx, hy, hl', beq_self_eq_true, Bool.and_true, if_true]
  show (do
    if !(([Expr.Name x px, Expr.Name y py].length == 2 || [Expr.Name x px, Expr.Name y py].length == 3)) || [u, v].length != [Expr.Name x px, Expr.Name y py].length || env.blockKind != .function then return none
    if [u, v].any fun | .Starred .. => true | _ => false then return none
    let names := ([Expr.Name x px, Expr.Name y py].filterMap fun
      | .Name id pos => if env.kindOf id == some .local && pos.line == px.line then some id else none
      | _ => none)
    if names.length != [Expr.Name x px, Expr.Name y py].length || names.eraseDups.length != names.length then return none
    if [u, v].all (foldedForSure 8) then return none
    if [u, v].all (constantsAlone 8) then unsupported "assign.tuple-of-constant-expressions:order-of-the-stores"
    return some names : Sem (Option (List Str))) = _
  rw [e2, h1, h2, h3, hk]
  simp only [e1]
  rfl
theorem s_sw2 {i j : Nat} {px py pt pt2 : Pos} {kt k2} (hc : X.calm = true) (hN : X.N.Nodup) (hi : X.N[i]? = some x) (hj : X.N[j]? = some y) (hij : i ≠ j) (hx : X.env.scope.names.lookup x = some .local) (hy : X.env.scope.names.lookup y = some .local)
    (hio : i ∉ io) (hjo : j ∉ io) (ha : PA X [a, b] (tL g W fl)) (hw : swappedStores [.Tuple [.Name x px, .Name y py] kt pt] (.Tuple [a, b] k2 pt2) X.env = pure (some [x, y])) :
    PS X (.Assign [.Tuple [.Name x px, .Name y py] kt pt] (.Tuple [a, b] k2 pt2) pos) (tS g W io fun ρ => bindO (fl ρ) ρ fun rs => sw2F i j rs ρ) :=
  PS.to (ps_par hc hN hi hj hij hx hy ha hw) fun D σ H ⟨M, O, fp, ρ, π, out, at_, e, k⟩ => ⟨M, O, fp, ρ, at_.cd, at_.en, (bindO_hold at_ e k).imp (fun rs er vs H1 s xs => by
    unfold sw2F at er
    split at er
    · rename_i d d' ek
      cases er
      have q := kids_ok at_.cd xs ek
      cases q with
      | cons q1 q =>
        cases q with
        | cons q2 q =>
          cases q
          refine ⟨_, _, rfl, ?_⟩
          have en1 := (at_.en.same s).set (r := .shr d) q1 i
          have en2 := en1.set (r := .shr d') q2 j
          exact k _ H1 O _ (Kp.of s) Nw.refl (at_.cd.same s) en2 (pn_set (pn_set at_.pn (at_.free hio) _) (at_.free hjo) _)
    · cases er) fun _ z => z⟩
end
end
end Q

end

section
set_option Elab.async false
set_option linter.all false
set_option maxRecDepth 100000
set_option maxHeartbeats 1000000
/-! QE: sorted(d.keys()) where the keys are tuples. -/
namespace Q
noncomputable section
open PySem PySem.Spec L2
open PyProof.Rows hiding St

mutual
theorem reads_old {h : Heap} : ∀ {v : Value} {d : PyData} {as : List Addr}, Reads h v d as → ∀ a ∈ as, ∃ o, h.get? a = some o
  | _, _, _, .none, a, z => nomatch z
  | _, _, _, .bool _, a, z => nomatch z
  | _, _, _, .int _ _, a, z => nomatch z
  | _, _, _, .str _ _, a, z => nomatch z
  | _, _, _, .list ho _ _ r, a, z => by
    rcases List.mem_cons.mp z with e | z
    · rw [e]; exact ⟨_, ho⟩
    · exact reads_oldL r a z
  | _, _, _, .tuple _ _ _ r, a, z => reads_oldL r a z
  | _, _, _, .dict ho _ _ r r2, a, z => by
    rcases List.mem_append.mp z with z | z
    · rcases List.mem_cons.mp z with e | z
      · rw [e]; exact ⟨_, ho⟩
      · exact reads_oldL r a z
    · exact reads_oldL r2 a z
theorem reads_oldL {h : Heap} : ∀ {vs : List Value} {ds : List PyData} {as : List Addr}, ReadsAll h vs ds as → ∀ a ∈ as, ∃ o, h.get? a = some o
  | _, _, _, .nil, a, z => nomatch z
  | _, _, _, .cons r rs, a, z => by
    rcases List.mem_append.mp z with z | z
    · exact reads_old r a z
    · exact reads_oldL rs a z
end
section
open PySem.W PySem.Calls PyProof.V
variable {prog : Program} {w : World} {A : Around} {E : Value → Shared → Prop} {s : Shared} {T : String} {r d : Addr} {n : Nat} {P : Nat → Value → Prop} {OK : Heap → Prop}
theorem sorted_src {Q : Value → Shared → Prop} (K : KdlSrc prog w T r d n P OK) (hh : A.handled = none) (hok : OK s.heap) (hn : n ≤ sizeLine)
    (h : ∀ (h' : Heap) (tk : Nat) (vs : List Value), (∀ b o, s.heap.get? b = some o → h'.get? b = some o) → vs.length = n → (∀ (j : Nat) (v : Value), vs[j]? = some v → P j v) →
      wpAny (model prog w) A.in1 (call (.builtin "list.sort") [.ref h'.objs.size]) (fun _ s' => Q (.ref h'.objs.size) s') E { s with heap := h'.push { cls := .type "list", data := .seq vs.toArray }, toks := tk }) :
    wpAny (model prog w) A (call (.builtin "sorted") [.ref r]) Q E s := by
  refine call_function_entry kind_sorted plain_sorted entry_sorted (args_sorted1 _) ?_
  unfold Builtin.«sorted»
  refine wpAny_bind (m := checkCount "sorted" 1 1 _) (wpAny_pure ?_)
  refine wpAny_bind (kdu_collect (A := A.in1) K hh hok hn fun h' tk acc hk hacc => ?_)
  have hl : acc.toList.length = n := by rw [Array.length_toList]; exact hacc.1
  refine wpAny_bind (wpAny_newList ?_ (by rw [hl]; exact hn))
  have hg := h h' tk acc.toList hk hl (fun j v e => hacc.2 j v (by rw [← Array.getElem?_toList]; exact e))
  refine wpAny_bind (wpAny_holding (wpAny_mono hg (fun _ s' x => ?_) fun _ _ e => e))
  exact wpAny_pure ⟨_, rfl, x⟩
end
section
variable {X : Cx} {o : Expr} {p pos apos mpos : Pos} {td : TE}
theorem rdT_raw {pins : List (Addr × Obj)} {σ : St} {H : Hp} {s : Shared} {d : Addr} {kvs : List (List Key × V)} (I : Inv X pins σ H s) (h : Rd H d (.dT kvs)) :
    (d == sysModules) = false ∧ kvs.length ≤ sizeLine ∧ ∃ (es : Array DictEntry) (ep : Nat), es.size = kvs.length ∧ s.heap.DictRaw d es ep ∧
      ∀ (i : Nat) (k : List Key) (v : V), kvs[i]? = some (k, v) → ∃ (en : DictEntry) (q : Addr), es[i]? = some en ∧ en.key = .ref q ∧ H q = some (.tup (k.map kV)) := by
  obtain ⟨z, hs, xs, pr, o2, es, ep, ho, hx, hdt, he, _⟩ := (show ObjOk X.prog X.w H s.heap d (.dT kvs) from rd_of I.hok h)
  have l1 : es.size = xs.length := size_of_entries he
  have l2 : kvs.length = xs.length := Paired.length pr
  refine ⟨hs, z, es, ep, by omega, ⟨o2, ho, hx, hdt⟩, fun i k v e => ?_⟩
  obtain ⟨b, hb, e1, e2, e3⟩ := paired_get pr e
  have q := entry_at he i
  rw [hb] at q
  exact ⟨_, b.2.1, q, rfl, e2⟩
def tSK (K : PySem.W.Frag) (U : Nat) (td : TE) : TE := fun σ H Q => td σ H fun x H1 => ∃ a kvs, x = V.ref a ∧ Rd H1 a (.dT kvs) ∧
  ∀ qs : List Addr, qs.length = kvs.length → (∀ (i : Nat) (k : List Key) (v : V) (q : Addr), kvs[i]? = some (k, v) → qs[i]? = some q → H1 q = some (.tup (k.map kV))) →
    ∃ bs : List (V × D), bs.map (·.1) = qs.map V.ref ∧ (∀ z ∈ bs, Dp K H1 z.1 (py z.2)) ∧ PySem.W.AllAlike (bs.map fun z => py z.2) ∧ PySem.W.Sortable (bs.map fun z => py z.2) ∧ (∀ z ∈ bs, U + 3 + (py z.2).depth < cLine) ∧
      ∀ p, H1 p = none → Q (.ref p) (upd H1 p (.lst ((bs.mergeSort (PySem.W.dataLe false fun z => py z.2)).map (·.1))))
theorem each_of {R : Value → V × D → Prop} : ∀ {us : List Value} {bs : List (V × D)}, us.length = bs.length → (∀ (i : Nat) u b, us[i]? = some u → bs[i]? = some b → R u b) → PySem.W.EachIs R us bs
  | [], [], _, _ => .nil
  | u :: us, b :: bs, hl, h => .cons (h 0 u b rfl rfl) (each_of (by simpa using hl) fun i u b h1 h2 => h (i + 1) u b (by simpa using h1) (by simpa using h2))
  | [], _ :: _, hl, _ => by simp at hl
  | _ :: _, [], hl, _ => by simp at hl
theorem pe_skeys (hc : X.calm = true) (hg : Gl X "sorted") (hm : X.mg "sorted" = none) (hd : PE X o td) (hbase : attributeBase o "keys" X.env (eval o X.env) = eval o X.env) (hline : (apos.endLine == mpos.line) = true) :
    PE X (.Call (.Name "sorted" p) [.Call (.Attribute o "keys" apos) [] [] mpos] [] pos) (tSK X.K X.A.units td) := by
  refine ⟨fun pins s σ H Q I h => wpAny_Call_Name_kw (ld_blt I hg hm (u := .builtin "sorted") (by first | rfl | decide +kernel) ?_ (by first | decide +kernel | decide) (by first | decide +kernel | decide))⟩
  refine PySem.callWith_builtin1 ?_
  refine wpAny_Call_method0_late hbase hline (thn (hd.run pins s σ H _ I h) fun v s1 ⟨x, H1, I1, r1, a, kvs, ex, ha, q⟩ => ?_)
  subst ex
  have ev : v = Value.ref a := r1
  subst ev
  obtain ⟨hsys, hz, es, ep, hsz, raw, ent⟩ := rdT_raw I1 ha
  obtain ⟨oo, hoo, ex, hdt⟩ := id raw
  refine ⟨"dict", "dict.keys", F.plainAttrs_dict, F.slot_dict_keys, F.type_dict_keys, ⟨oo, hoo, ex.1⟩, fun b e => ?_, Calls.callWith_builtin rfl (PySem.evalArgs_none ?_)⟩
  · cases e
    exact ⟨oo, hoo, ex.2.1⟩
  refine call_meetsIn F.slot_dict_keys ⟨oo, hoo, ex.1⟩ F.entry_dict_keys (F.args_dict_keys_1 _) (PySem.meets_dict_keys_raw a hsys) ⟨⟨es, ep, raw⟩, ?_⟩
  have k1 : ∀ b u, s1.heap.get? b = some u → (s1.heap.push { cls := .type "dict_keys", data := .fields #[.ref a] }).get? b = some u := fun b u e => Heap.get?_push_of_some _ e
  have raw1 : (s1.heap.push { cls := .type "dict_keys", data := .fields #[.ref a] }).DictRaw a es ep := ⟨oo, k1 _ _ hoo, ex, hdt⟩
  have hlt : s1.heap.objs.size < (s1.heap.push { cls := .type "dict_keys", data := .fields #[.ref a] }).objs.size := by rw [Heap.size_push]; exact Nat.lt_succ_self _
  refine sorted_src (PySem.KdlSrc.rawKeys (r := s1.heap.objs.size) (d := a) (es := es) (ep := ep)) (I1.ok.hd hc) ⟨⟨_, Heap.get?_push_size _ rfl, rfl, rfl⟩, raw1⟩ (by rw [hsz]; exact hz) fun h' tk vs hk hl hv => ?_
  -- the keys' places
  have hq : ∀ j : Nat, j < kvs.length → ∃ qj : Addr, vs[j]? = some (.ref qj) ∧ ∀ k v, kvs[j]? = some (k, v) → H1 qj = some (.tup (k.map kV)) := fun j hj => by
    obtain ⟨⟨k, v⟩, hkv⟩ : ∃ p, kvs[j]? = some p := ⟨_, List.getElem?_eq_getElem hj⟩
    obtain ⟨en, qj, hen, hkey, htup⟩ := ent j k v hkv
    have hjv : j < vs.length := by omega
    obtain ⟨hi, e2⟩ := hv j _ (List.getElem?_eq_getElem hjv)
    have e3 : es[j] = en := by
      rw [Array.getElem?_eq_getElem hi] at hen
      exact Option.some.inj hen
    refine ⟨qj, ?_, fun k' v' e => ?_⟩
    · rw [List.getElem?_eq_getElem hjv, e2, e3, hkey]
    · rw [hkv] at e; cases e; exact htup
  obtain ⟨qs, hql, hqs⟩ : ∃ qs : List Addr, qs.length = kvs.length ∧ ∀ (j : Nat) (qj : Addr), qs[j]? = some qj → vs[j]? = some (.ref qj) ∧ ∀ k v, kvs[j]? = some (k, v) → H1 qj = some (.tup (k.map kV)) := by
    refine ⟨(List.range kvs.length).map fun j => if hj : j < kvs.length then Classical.choose (hq j hj) else 0, by simp, fun j qj e => ?_⟩
    rw [List.getElem?_map] at e
    obtain ⟨j', ej, e⟩ := Option.map_eq_some_iff.mp e
    have hj : j < kvs.length := by
      by_cases c : j < kvs.length
      · exact c
      · rw [List.getElem?_eq_none (by simpa using c)] at ej; cases ej
    rw [List.getElem?_range hj] at ej
    cases ej
    rw [dif_pos hj] at e
    subst e
    exact Classical.choose_spec (hq j hj)
  obtain ⟨bs, eb, hdp, hal, hso, hdep, fin⟩ := q qs hql fun i k v q h1 h2 => (hqs i q h2).2 k v h1
  have lb : bs.length = kvs.length := by
    have := congrArg List.length eb
    simpa [hql] using this
  have lv : vs.length = bs.length := by omega
  have hat : ∀ (i : Nat) (b : V × D), bs[i]? = some b → ∃ qi, b.1 = V.ref qi ∧ vs[i]? = some (.ref qi) := fun i b e => by
    have e2 : (bs.map (·.1))[i]? = some b.1 := by rw [List.getElem?_map, e]; rfl
    rw [eb, List.getElem?_map] at e2
    obtain ⟨qi, e3, e4⟩ := Option.map_eq_some_iff.mp e2
    exact ⟨qi, e4.symm, (hqs i qi e3).1⟩
  have relv : PySem.W.EachIs (fun (u : Value) (z : V × D) => RelV z.1 u) vs bs := each_of lv fun i u b h1 h2 => by
    obtain ⟨qi, e1, e2⟩ := hat i b h2
    rw [h1] at e2
    rw [e1, Option.some.inj e2]
    rfl
  have kall : ∀ b u, s1.heap.get? b = some u → (h'.push { cls := .type "list", data := .seq vs.toArray }).get? b = some u := fun b u e => Heap.get?_push_of_some _ (hk _ _ (k1 _ _ e))
  have szle : s1.heap.objs.size ≤ h'.objs.size := by
    have h2 := Heap.lt_size (hk _ _ (Heap.get?_push_size s1.heap (o := { cls := .type "dict_keys", data := .fields #[.ref a] }) rfl))
    exact Nat.le_of_lt h2
  have reads : PySem.W.EachIs (fun (u : Value) (z : V × D) => ∃ as, Reads (h'.push { cls := .type "list", data := .seq vs.toArray }) u (py z.2) as ∧ h'.objs.size ∉ as) vs bs := each_of lv fun i u b h1 h2 => by
    obtain ⟨qi, e1, e2⟩ := hat i b h2
    rw [h1] at e2
    have hr : RelV b.1 u := by rw [e1, Option.some.inj e2]; rfl
    obtain ⟨as, rd⟩ := Dp.reads I1 _ _ _ (hdp b (List.mem_of_getElem? h2)) hr
    refine ⟨as, PyProof.Rows.Reads.keeps kall rd, fun z => ?_⟩
    obtain ⟨o', ho'⟩ := reads_old rd _ z
    exact absurd (Heap.lt_size ho') (Nat.not_lt.mpr szle)
  have hD : (h'.push { cls := .type "list", data := .seq vs.toArray }).get? h'.objs.size = some (seqObj "list" vs.toArray 0) := Heap.get?_push_size _ rfl
  refine PySem.W.list_sort_data (R := fun (u : Value) (z : V × D) => RelV z.1 u) (enc := fun z : V × D => py z.2) (n := 0) hD relv reads hal hso (by rw [lb]; exact hz) (fun b hb => by
    have := hdep b hb
    have e : X.A.in1.units ≤ X.A.units + 2 := by
      show _ ≤ _
      first | exact Nat.le_refl _ | (simp [Around.in1, Around.units]) | omega
    omega) fun out ho er => ?_
  have hnone : H1 h'.objs.size = none := I1.hok.fresh szle
  have q3 := each_vals er
  obtain ⟨ep', he'⟩ := PyProof.Rows.sortedHeap_at (out := out.toArray) hD
  refine ⟨.ref h'.objs.size, _, I1.laid (a := h'.objs.size) (o := .lst ((bs.mergeSort (PySem.W.dataLe false fun z => py z.2)).map (·.1))) (t' := tk) (fun b u e => ?_) szle ⟨?_, out, ep', q3, he'⟩, rfl, fin _ hnone⟩
  · have hb : b < s1.heap.objs.size := Heap.lt_size e
    rw [PyProof.Rows.sortedHeap_old (Nat.ne_of_lt (Nat.lt_of_lt_of_le hb szle)) (by rw [Heap.size_push]; exact Nat.lt_succ_of_lt (Nat.lt_of_lt_of_le hb szle))]
    exact kall b u e
  · rw [List.length_map, List.length_mergeSort, lb]; exact hz
/-- .. by data -/
def skeysR (r : R) : Option R := match r.sh with
  | some (.dt ds) => if srtB (ds.map fun kv => .tup (kv.1.map kD)) = true then some (rL (sortD (ds.map fun kv => .tup (kv.1.map kD)))) else none
  | _ => none
theorem rep_keys {g : G} {B : AS} {H : Hp} : ∀ k : List Key, RepL g B H (k.map kV) (k.map kD)
  | [] => .nil
  | .inl i :: k => .cons (.int i) (rep_keys k)
  | .inr x :: k => .cons (.str x) (rep_keys k)
theorem f_skeys {g : G} {n : Nat} {W : WX} {fa : Rho → Rx R} (f : Fit X g n) (hg : Gl X "sorted") (hm : X.mg "sorted" = none) (ho : okx o = true) (hline : (apos.endLine == mpos.line) = true) (ha : PE X o (tX g W fa)) :
    PE X (.Call (.Name "sorted" p) [.Call (.Attribute o "keys" apos) [] [] mpos] [] pos) (tX g W fun ρ => (fa ρ).bind fun r => .lift (skeysR r)) := by
  refine PE.to (pe_skeys f.calm hg hm ha (okx_base ho _ _) hline) fun σ H Q ⟨M, O, fp, ρ, c, en, h⟩ => ⟨M, O, fp, ρ, c, en, h.hb.imp (fun ra h1 v H1 s1 xv => ?_) fun _ z => z⟩
  obtain ⟨r', er, k⟩ := h1.hl
  unfold skeysR at er
  split at er
  · rename_i ds ed
    split at er
    · rename_i hz
      cases er
      obtain ⟨a, kvs, ev, hd, hk, hr⟩ := xv.nod ed
      refine ⟨a, kvs, ev, hd, fun qs hql hq => ?_⟩
      simp only [srtB, Bool.and_eq_true, List.all_eq_true, decide_eq_true_eq, Bool.or_eq_true] at hz
      obtain ⟨⟨⟨z1, z2⟩, z3⟩, z4⟩ := hz
      have lk : kvs.length = ds.length := by simpa using congrArg List.length hk
      obtain ⟨es, ees⟩ : ∃ es : List D, es = ds.map fun kv => D.tup (kv.1.map kD) := ⟨_, rfl⟩
      rw [← ees] at z1 z2 z3
      have les : es.length = qs.length := by rw [ees, List.length_map]; omega
      have rep : RepL g (M.u O) H1 (qs.map V.ref) es := by
        have go : ∀ (qs : List Addr) (kvs : List (List Key × V)) (ds : List (List Key × D)), qs.length = kvs.length → kvs.map (·.1) = ds.map (·.1) → (∀ (i : Nat) (k : List Key) (v : V) (q : Addr), kvs[i]? = some (k, v) → qs[i]? = some q → H1 q = some (.tup (k.map kV))) → RepL g (M.u O) H1 (qs.map V.ref) (ds.map fun kv => D.tup (kv.1.map kD)) := by
          intro qs
          induction qs with
          | nil =>
            intro kvs ds h1 h2 _
            have : ds = [] := by
              have h3 := congrArg List.length h2
              simp only [List.length_map] at h3
              exact List.eq_nil_of_length_eq_zero (by rw [← h3, ← h1]; rfl)
            rw [this]; exact .nil
          | cons q qs ih =>
            intro kvs ds h1 h2 h3
            cases kvs with
            | nil => simp at h1
            | cons kv kvs =>
              cases ds with
              | nil => simp at h2
              | cons d ds =>
                simp only [List.map_cons, List.cons.injEq] at h2
                have e := h3 0 kv.1 kv.2 q rfl rfl
                have c1 := c.same s1
                refine .cons ?_ (ih kvs ds (by simpa using h1) h2.2 fun i k v q e1 e2 => h3 (i + 1) k v q (by simpa using e1) (by simpa using e2))
                show Rep g (M.u O) H1 (.ref q) (.tup (d.1.map kD))
                rw [← h2.1]
                exact .tup e (c1.tup e) (rep_keys _)
        rw [ees]
        exact go qs kvs ds hql hk hq
      have e1 : ((qs.map V.ref).zip es).map (·.1) = qs.map V.ref := List.map_fst_zip (by rw [List.length_map]; omega)
      have e2 : ((qs.map V.ref).zip es).map (·.2) = es := List.map_snd_zip (by rw [List.length_map]; omega)
      have zz := rep.zip
      have mem2 : ∀ z ∈ (qs.map V.ref).zip es, z.2 ∈ es := fun z hz => (List.of_mem_zip hz).2
      refine ⟨(qs.map V.ref).zip es, e1, fun z hz => ?_, ?_, ?_, fun z hz => ?_, fun p hp => ?_⟩
      · rw [f.K]
        exact (zz z hz).dp (layL_get z1 _ (mem2 z hz))
      · intro d hd d' hd'
        obtain ⟨x, hx, rfl⟩ := List.mem_map.mp hd
        obtain ⟨y, hy, rfl⟩ := List.mem_map.mp hd'
        exact z2 _ (mem2 x hx) _ (mem2 y hy)
      · rcases z3 with z3 | z3
        · refine .inl fun d hd => ?_
          obtain ⟨x, hx, rfl⟩ := List.mem_map.mp hd
          have := z3 _ (mem2 x hx)
          unfold isTu at this
          split at this
          · rename_i x xs e; exact ⟨x, xs, e⟩
          · cases this
        · refine .inr fun d hd => ?_
          obtain ⟨x, hx, rfl⟩ := List.mem_map.mp hd
          have := z3 _ (mem2 x hx)
          constructor
          · intro e; rw [e] at this; cases this
          · intro xs e; rw [e] at this; cases this
      · have := (lay_ok _ (layL_get z1 _ (mem2 z hz))).2
        have := f.hu64
        omega
      · have p1 := List.mergeSort_perm ((qs.map V.ref).zip es) (PySem.W.dataLe false fun p : V × D => py p.2)
        have q1 : ∀ z ∈ ((qs.map V.ref).zip es).mergeSort (PySem.W.dataLe false fun p : V × D => py p.2), Rep g (M.u O) H1 z.1 z.2 := fun z hz => zz z (p1.mem_iff.mp hz)
        have q2 := RepL.of_zip q1
        have e3 : (((qs.map V.ref).zip es).mergeSort (PySem.W.dataLe false fun p : V × D => py p.2)).map Prod.snd = sortD es := by
          have e4 := PySem.W.sort_maps (r := PySem.W.dataLe false fun p : V × D => py p.2) (s := leD) Prod.snd (l := (qs.map V.ref).zip es) (fun _ _ _ _ => rfl)
          rw [e2] at e4
          exact e4
        rw [e3, congrArg sortD ees] at q2
        exact k _ _ (s1.trans (same_upd hp)) (XR.base s1 (new_lst hp q2))
    · cases er
  · cases er
end
end
end Q

end

section
set_option Elab.async false
set_option linter.all false
set_option maxRecDepth 100000
set_option maxHeartbeats 1000000
/-! Q17: code as terms of its own (IR): what it gives. -/
namespace Q
noncomputable section
open PySem PySem.Spec L2
open PyProof.Rows hiding St

/-- isinstance of a value of a built-in type -/
inductive Tk
  | int | bool | str | list | tuple | dict | own (c : Nat)
def Tk.kit : Tk → String → Option Bool
  | .int, t => if t = "int" ∨ t = "bool" then some true else if t = "NoneType" ∨ t = "str" ∨ t = "list" ∨ t = "tuple" ∨ t = "dict" then some false else none
  | .bool, t => if t = "bool" then some true else if t = "NoneType" ∨ t = "int" ∨ t = "str" ∨ t = "list" ∨ t = "tuple" ∨ t = "dict" then some false else none
  | .str, t => if t = "str" then some true else if t = "NoneType" ∨ t = "int" ∨ t = "bool" ∨ t = "list" ∨ t = "tuple" ∨ t = "dict" then some false else none
  | .list, t => if t = "list" then some true else if t = "NoneType" ∨ t = "int" ∨ t = "bool" ∨ t = "str" ∨ t = "tuple" ∨ t = "dict" then some false else none
  | .tuple, t => if t = "tuple" then some true else if t = "NoneType" ∨ t = "int" ∨ t = "bool" ∨ t = "str" ∨ t = "list" ∨ t = "dict" then some false else none
  | .dict, t => if t = "dict" then some true else if t = "NoneType" ∨ t = "int" ∨ t = "bool" ∨ t = "str" ∨ t = "list" ∨ t = "tuple" then some false else none
  | .own _, t => if t = "NoneType" ∨ t = "int" ∨ t = "bool" ∨ t = "str" ∨ t = "list" ∨ t = "tuple" ∨ t = "dict" then some false else none

mutual
inductive E
  | var (i : Nat)
  | cst (d : D)
  | glo (x : Str)
  | bin (op : Operator) (a b : E)
  | neg (a : E)
  | cmp (op : CmpOp) (a b : E)
  | chn (o1 o2 : CmpOp) (a b c : E)
  | bo (isAnd : Bool) (es : Es)
  | not (a : E)
  | ife (c a b : E)
  | tup (es : Es)
  | lst (es : Es)
  | dnew (t : Bool)
  | dtre
  | skeys (a : E)
  | sub (a i : E)
  | slc (a : E) (lo hi : Eo)
  | slc3 (a : E) (lo hi : Eo) (st : E)
  | fld (a : E) (f : Str) (j lo hi : Nat)
  | call (x : Str) (k : Nat) (es : Es)
  | mth (a : E) (m : Str) (lo hi : Nat) (ks : List Nat) (es : Es)
  | mk (keep : Bool) (x : Str) (c k : Nat) (es : Es)
  | blt (b : Blt) (es : Es)
  | bm (b : Bm) (a : E) (es : Es)
  | isi (T : Tk) (lo hi : Nat) (a : E)
  | dget (a k d : E)
  | lvals (a : E) | svals (a : E) | mind (a d : E) | dis1 (k v : E)
  | isX (i : Nat) (T : Option Nat) | xnm (i : Nat) (f : Str)
  | lc (own : List (Str × Nat)) (it : Itr) (tg : Tg) (c : Eo) (elt : E)
inductive Es
  | nil | cons (e : E) (es : Es)
inductive Eo
  | no | so (e : E)
inductive Itr
  | any (e : E) | r1 (e : E) | r2 (a b : E) | vs (e : E) | its (e : E) | en (e : E) | r3 (a b c : E)
inductive Tg
  | nm (i : Nat) | tp (ts : Tgs)
inductive Tgs
  | nil | cons (t : Tg) (ts : Tgs)
end
inductive Pa
  | nm (i : Nat) | fld (p : Pa) (f : Str) (j lo hi : Nat) | sub (p : Pa) (k : E)
inductive Ac
  | e (e : E) | mv (i : Nat)
  | iom (p : Pa) (m : Str) (lo hi : Nat) (ks : List Nat) (es : Es)
  | ioi (x : Str) (c : Nat) (p : Pa) (k : Nat) (es : Es)
  | iof (x : Str) (p : Pa) (k : Nat) (es : Es)
mutual
inductive S
  | asg (i : Nat) (e : E)
  | asgLc (i : Nat) (e : E)
  | asgT (t : Tg) (e : E)
  | sw2 (i j : Nat) (a b : E)
  | ex (e : E)
  | asgA (i : Nat) (a : Ac) | exA (a : Ac) | retA (a : Ac)
  | ret (e : E) | retN | retv (i : Nat)
  | pass | brk | cnt | doc | nev
  | if_ (c : E) (p q : Ss)
  | whl (c : E) (b : Ss)
  | for_ (t : Tg) (it : Itr) (b : Ss)
  | app (p : Pa) (e : E) | ext (p : Pa) (e : E) | clr (p : Pa)
  | put (p : Pa) (k : E) (a : Ac) | fset (p : Pa) (f : Str) (j lo hi : Nat) (a : Ac)
  | aug (op : Operator) (i : Nat) (e : E) | augs (op : Operator) (p : Pa) (k e : E)
  | rse (x : Str) (c : Nat) | rse1 (x : Str) (c : Nat) (e : E) | try_ (b : Ss) (x : Str) (c : Nat) (i : Nat) (h : Ss)
inductive Ss
  | nil | cons (s : S) (ss : Ss) | frz (i : Nat) (ss : Ss) | fgt (i : Nat) (ss : Ss) | frf (i j : Nat) (ss : Ss)
end
def Es.len : Es → Nat
  | .nil => 0
  | .cons _ es => es.len + 1
def Tgs.len : Tgs → Nat
  | .nil => 0
  | .cons _ es => es.len + 1
mutual
def Tg.sl : Tg → List Nat
  | .nm i => [i]
  | .tp ts => ts.sl
def Tgs.sl : Tgs → List Nat
  | .nil => []
  | .cons t ts => t.sl ++ ts.sl
end
mutual
def Tg.F : Tg → R → Rho → Option Rho
  | .nm i => nmF i
  | .tp ts => tupF ts.F ts.len
def Tgs.F : Tgs → List R → Rho → Option Rho
  | .nil => nilF
  | .cons t ts => consF t.F ts.F
end

/-- what the surroundings give: defs, constants, isinstance -/
structure CallE where
  F : Fn
  np : Nat
  dfl : List D
structure Gm where
  fn : Nat → CallE
  glo : Str → Option D
  isi : Tk → Nat → Bool
  fuel : Nat
  xs : Nat → Option Nat → Option Bool
  xa : Option T
/-! ### what it gives -/
section
variable (Γ : Gm)
mutual
def ev : E → Rho → Rx R
  | .var i, ρ => .lift (getR ρ i)
  | .cst d, _ => .ok (.shr d)
  | .glo x, _ => (Rx.lift (Γ.glo x)).bind fun d => .ok (.shr d)
  | .bin op a b, ρ => (ev a ρ).bind fun ra => (ev b ρ).bind fun rb => .lift (binR op ra rb)
  | .neg a, ρ => (ev a ρ).bind fun r => .lift (negR r)
  | .cmp op a b, ρ => (ev a ρ).bind fun ra => (ev b ρ).bind fun rb => .lift (cmpR op ra rb)
  | .chn o1 o2 a b c, ρ => (ev a ρ).bind fun ra => (ev b ρ).bind fun rb => chainR o1 o2 ra rb (ev c ρ)
  | .bo isAnd es, ρ => boE isAnd es ρ
  | .not a, ρ => (ev a ρ).bind fun r => .lift (notR r)
  | .ife c a b, ρ => (ev c ρ).bind fun rc => (Rx.lift (blR rc)).bind fun t => if t = true then ev a ρ else ev b ρ
  | .tup es, ρ => (evs es ρ).bind fun rs => .lift (tupR rs)
  | .lst es, ρ => (evs es ρ).bind fun rs => .lift (lstR rs)
  | .dnew t, _ => .ok (if t then rDt [] else rDk [])
  | .dtre, _ => .ok (.own (.dk [] []))
  | .skeys a, ρ => (ev a ρ).bind fun r => .lift (skeysR r)
  | .sub a i, ρ => (ev a ρ).bind fun ra => (ev i ρ).bind fun ri => .lift (subR ra ri)
  | .slc a lo hi, ρ => (ev a ρ).bind fun ra => (evo lo ρ).bind fun l => (evo hi ρ).bind fun h => .lift (slcR ra l h)
  | .slc3 a lo hi st, ρ => (ev a ρ).bind fun ra => (evo lo ρ).bind fun l => (evo hi ρ).bind fun h => ((ev st ρ).bind fun r => .lift (intR r)).bind fun s => .lift (slc3R ra l h s)
  | .fld a _ j lo hi, ρ => (ev a ρ).bind fun r => .lift (fldR j lo hi r)
  | .call _ k es, ρ => (evs es ρ).bind (callX (Γ.fn k).F (Γ.fn k).dfl)
  | .mth a _ lo hi ks es, ρ => (ev a ρ).bind fun r => (Rx.lift (recC lo hi r)).bind fun c => (evs es ρ).bind fun rs => callX (Γ.fn (ks.getD (c - lo) 0)).F [] (r :: rs)
  | .mk keep _ c k es, ρ => (evs es ρ).bind (makeX keep c (Γ.fn k).F (Γ.fn k).dfl)
  | .blt b es, ρ => (evs es ρ).bind fun rs => .lift (b.F rs)
  | .bm b a es, ρ => (ev a ρ).bind fun r => (Rx.lift (tyO b.T r)).bind fun _ => (evs es ρ).bind fun rs => .lift (b.F r rs)
  | .isi T lo hi a, ρ => (ev a ρ).bind fun r => .lift (isiR T.kit lo hi (Γ.isi T) r)
  | .dget a k d, ρ => (ev a ρ).bind fun ra => (Rx.lift (dkO ra)).bind fun dd => (ev k ρ).bind fun rk => (ev d ρ).bind fun rd => .lift (dgetR dd rk rd)
  | .lvals a, ρ => (ev a ρ).bind fun r => .lift (lvalsR r)
  | .svals a, ρ => (ev a ρ).bind fun r => .lift (svalsR r)
  | .mind a d, ρ => (ev a ρ).bind fun r => (ev d ρ).bind fun q => .lift (mindR r q)
  | .dis1 k v, ρ => (ev k ρ).bind fun r => (ev v ρ).bind fun q => .lift (dis1R r q)
  | .isX i T, ρ => markR Γ.xa i ρ fun t => (Rx.lift ((xcT t).bind fun c => Γ.xs c T)).bind fun b => .ok (rB b)
  | .xnm i _, ρ => markR Γ.xa i ρ fun t => (Rx.lift ((xcT t).bind fun c => (Γ.xs c none).bind fun _ => xnT t)).bind fun z => .ok (rS z)
  | .lc own it tg c elt, ρ => (evI it (bor ρ)).bind fun xs => lcR (lcStep tg.F (evc c) (ev elt) (wipeR (bor ρ) (own.map (·.2)))) xs
def evs : Es → Rho → Rx (List R)
  | .nil, _ => .ok []
  | .cons e es, ρ => (ev e ρ).bind fun r => (evs es ρ).bind fun rs => .ok (r :: rs)
def evo : Eo → Rho → Rx (Option Int)
  | .no, _ => .ok none
  | .so e, ρ => (ev e ρ).bind fun r => .lift (intR r)
def evc : Eo → Rho → Rx R
  | .no, _ => .ok (rB true)
  | .so e, ρ => ev e ρ
def evI : Itr → Rho → Rx (List R)
  | .any e, ρ => (ev e ρ).bind fun r => .lift (anyI r)
  | .r1 e, ρ => (ev e ρ).bind fun r => .lift (rng1R [r])
  | .r2 a b, ρ => (ev a ρ).bind fun r => (ev b ρ).bind fun q => .lift (rng2R [r, q])
  | .vs e, ρ => (ev e ρ).bind fun r => .lift (valsR r)
  | .its e, ρ => (ev e ρ).bind fun r => .lift (itmsR r)
  | .en e, ρ => (ev e ρ).bind fun r => .lift (enumR r)
  | .r3 a b c, ρ => (ev a ρ).bind fun r => (ev b ρ).bind fun q => (ev c ρ).bind fun s => .lift (rng3R [r, q, s])
def boE : Bool → Es → Rho → Rx R
  | _, .nil, _ => .bad
  | _, .cons e .nil, ρ => ev e ρ
  | isAnd, .cons e (.cons f fs), ρ => (ev e ρ).bind fun r => (Rx.lift (blR r)).bind fun b => if b = isAnd then boE isAnd (.cons f fs) ρ else .ok (rB b)
end
def evP : Pa → Rho → Rx Pt
  | .nm i, ρ => (Rx.lift (ownT ρ i)).bind fun _ => .ok ⟨i, []⟩
  | .fld p _ j lo hi, ρ => (evP p ρ).bind fun q => .lift (pfldR j lo hi ρ q)
  | .sub p k, ρ => (evP p ρ).bind fun q => (Rx.lift (partT ρ q)).bind fun t => (ev Γ k ρ).bind fun r => .lift (psubR t q r)
def evA : Ac → Rho → Ra
  | .e e, ρ => aE (ev Γ e ρ) ρ
  | .mv i, ρ => aMv i ρ
  | .iom p _ lo hi ks es, ρ => bindRA (evP Γ p ρ) ρ fun q => bindRA (Rx.lift (insO lo hi ρ q)) ρ fun c => bindRA (evs Γ es ρ) ρ fun rs => ioA (Γ.fn (ks.getD (c - lo) 0)).F [] rs ρ q
  | .ioi _ _ p k es, ρ => bindRA (evP Γ p ρ) ρ fun q => bindRA (Rx.lift (partT ρ q)) ρ fun t => bindRA (evs Γ es ρ) ρ fun rs => ioX (Γ.fn k).F (Γ.fn k).dfl ρ q t rs
  | .iof _ p k es, ρ => bindRA (evP Γ p ρ) ρ fun q => bindRA (Rx.lift (partT ρ q)) ρ fun t => bindRA (evs Γ es ρ) ρ fun rs => ioX (Γ.fn k).F (Γ.fn k).dfl ρ q t rs
mutual
def evS : Gm → S → Rho → Option Out
  | Γ, .asg i e, ρ => bindO (ev Γ e ρ) ρ fun r => stoF i r ρ
  | Γ, .asgLc i e, ρ => bindO (ev Γ e ρ) ρ fun r => stoF i r ρ
  | Γ, .asgT t e, ρ => bindO (ev Γ e ρ) ρ fun r => (shareR r).bind fun q => (t.F q ρ).map .nx
  | Γ, .sw2 i j a b, ρ => bindO (evs Γ (.cons a (.cons b .nil)) ρ) ρ fun rs => sw2F i j rs ρ
  | Γ, .ex e, ρ => bindO (ev Γ e ρ) ρ fun _ => some (.nx ρ)
  | Γ, .asgA i a, ρ => bindA (evA Γ a ρ) (asgA i)
  | Γ, .exA a, ρ => bindA (evA Γ a ρ) fun _ ρ' => some (.nx ρ')
  | Γ, .retA a, ρ => bindA (evA Γ a ρ) fun r ρ' => some (.rt r ρ')
  | Γ, .ret e, ρ => bindO (ev Γ e ρ) ρ fun r => retF r ρ
  | Γ, .retN, ρ => some (.rt (.shr .non) ρ)
  | Γ, .retv i, ρ => retT i ρ
  | Γ, .pass, ρ => some (.nx ρ)
  | Γ, .brk, ρ => some (.bk ρ)
  | Γ, .cnt, ρ => some (.ct ρ)
  | Γ, .doc, ρ => some (.nx ρ)
  | Γ, .nev, _ => none
  | Γ, .if_ c p q, ρ => bindO (ev Γ c ρ) ρ fun rc => (blR rc).bind fun t => if t = true then evSs Γ p ρ else evSs Γ q ρ
  | Γ, .whl c b, ρ => whileF (ev Γ c) (evSs Γ b) Γ.fuel ρ
  | Γ, .for_ t it b, ρ => bindO (evI Γ it ρ) ρ fun xs => forF t.F (evSs Γ b) xs ρ
  | Γ, .app p e, ρ => bindO (evP Γ p ρ) ρ fun q => ((partT ρ q).bind plLst).bind fun ds => bindO (ev Γ e ρ) ρ fun r => appF ρ q ds r
  | Γ, .ext p e, ρ => bindO (evP Γ p ρ) ρ fun q => ((partT ρ q).bind plLst).bind fun ds => bindO (ev Γ e ρ) ρ fun r => extF ρ q ds r
  | Γ, .clr p, ρ => bindO (evP Γ p ρ) ρ fun q => (partT ρ q).bind fun t => clrF ρ q t
  | Γ, .put p k a, ρ => bindA (evA Γ a ρ) fun r ρ1 => bindO (evP Γ p ρ1) ρ1 fun q => (partT ρ1 q).bind fun t => bindO (ev Γ k ρ1) ρ1 fun rk => putF1 ρ1 q t r rk
  | Γ, .fset p _ j lo hi a, ρ => bindA (evA Γ a ρ) fun r ρ1 => bindO (evP Γ p ρ1) ρ1 fun q => (partT ρ1 q).bind fun t => (fsetT j lo hi t r).bind fun t2 => (putP ρ1 q t2).map .nx
  | _, .rse _ c, ρ => some (.ex ⟨c, []⟩ ρ)
  | Γ, .rse1 _ c e, ρ => rseF c (ev Γ e) ρ
  | Γ, .try_ b _ c i h, ρ => tryF i (fun c' => Γ.xs c' (some c)) (evSs Γ b) (fun t => evSs { Γ with xa := some t } h) ρ
  | Γ, .aug op i e, ρ => (getR ρ i).bind fun _ => bindO (ev Γ e ρ) ρ fun r => augF op i r ρ
  | Γ, .augs op p k e, ρ => bindO (evP Γ p ρ) ρ fun q => ((partT ρ q).bind plLst).bind fun ds => bindO (ev Γ k ρ) ρ fun rk => (augPre ds rk).bind fun pr => bindO (ev Γ e ρ) ρ fun r => augsF op ρ q ds pr r
def evSs : Gm → Ss → Rho → Option Out
  | Γ, .nil, ρ => some (.nx ρ)
  | Γ, .cons s ss, ρ => seqF (evS Γ s) (evSs Γ ss) ρ
  | Γ, .frz i ss, ρ => (frzT i ρ).bind (evSs Γ ss)
  | Γ, .frf i j ss, ρ => (frfF i j ρ).bind (evSs Γ ss)
  | Γ, .fgt i ss, ρ => (fgtF i ρ).bind (evSs Γ ss)
end
end

/-! ### a def; a program -/
structure FnI where
  N : List Str
  np : Nat
  io : List Nat
  body : Ss
def outs (io : List Nat) (ρ : Rho) : Option (List T) := match io with
  | [] => some []
  | i :: is => (ownT ρ i).bind fun t => (outs is ρ).map (t :: ·)
def endF (io : List Nat) : Out → Option Res
  | .nx ρ => (outs io ρ).map (.ret (.shr .non))
  | .rt r ρ => (outs io ρ).map (.ret r)
  | .ex x ρ => (outs io ρ).map (.ex x)
  | _ => none
def FnI.run (f : FnI) (Γ : Gm) : Fn := fun rs =>
  if rs.length = f.np ∧ ios rs = f.io then (evSs Γ f.body (rs.map some ++ List.replicate (f.N.length - f.np) none)).bind (endF f.io) else none
structure DefI where
  fi : Nat
  at_ : Str × Option Str
  ir : FnI
  dfl : List D
structure ClsI where
  x : Str
  at_ : List Str
  ini : Option Nat
  ms : List (Str × Nat)
  sup : List Nat
  exc : Bool
/-- an exception class that is looked at -/
def ClsI.xon (i : ClsI) : Bool := i.exc && !i.sup.isEmpty
structure Pd where
  fns : List DefI
  cls : List ClsI
  glo : List (Str × D)
  free : List Str
def Pd.isi (pd : Pd) : Tk → Nat → Bool
  | .own c', c => (match pd.cls[c]? with
    | some i => i.sup.contains c'
    | none => false)
  | _, _ => false
/-- is exception class c under c'; under ValueError -/
def Pd.xs (pd : Pd) (c : Nat) (c' : Option Nat) : Option Bool := (match pd.cls[c]? with
  | some i => if i.xon = true then (match c' with
    | none => some true
    | some k => (match pd.cls[k]? with
      | some j => if j.xon = true then some (i.sup.contains k) else none
      | none => none)) else none
  | none => none)
def Pd.gm (pd : Pd) (Fs : Nat → Fn) (fuel : Nat) : Gm where
  fn := fun k => match pd.fns[k]? with
    | some i => ⟨Fs k, i.ir.np, i.dfl⟩
    | none => ⟨Fs k, 0, []⟩
  glo := fun x => pd.glo.lookup x
  isi := pd.isi
  fuel := fuel
  xs := pd.xs
  xa := none
def Pd.F (pd : Pd) (fuel : Nat) : Nat → Nat → Fn
  | 0, _ => fun _ => none
  | d + 1, k => match pd.fns[k]? with
    | some i => i.ir.run (pd.gm (pd.F fuel d) fuel)
    | none => fun _ => none
end
end Q

end

section
set_option Elab.async false
set_option linter.all false
set_option maxRecDepth 100000
set_option maxHeartbeats 1000000
/-! Q18: the check of terms against the row's text: expressions. -/
namespace Q
noncomputable section
open PySem PySem.Spec L2
open PyProof.Rows hiding St

/-- what the text's surroundings give: the model's program and world, the written part .. -/
structure Wd where
  prog : Program
  w : World
  K : PySem.W.Frag
  mg : Str → Option Value
  base : Heap
def wdOf (X : Cx) : Wd := ⟨X.prog, X.w, X.K, X.mg, X.base⟩
/-- a scope: the names by slot -/
structure Zc where
  N : List Str
  sc : Scope
  fn : Str → Bool
  top : Bool
def Zc.blk (Z : Zc) (scope : Scope) : Zc := ⟨Z.N, relS scope Z.sc, fun x => scope.names.lookup x == some .cell, false⟩
structure Sit (X : Cx) (g : G) (n : Nat) (Z : Zc) (W : Wd) : Prop where
  fit : Fit X g n
  N : X.N = Z.N
  sc : X.env.scope = Z.sc
  fn : X.fn = Z.fn
  wd : wdOf X = W
  kind : X.env.scope.kind = .function
  top : Z.top = true → X.stack = X.env :: X.outer ∧ X.env.frame = some X.env.locals

/-! ### the check -/
def visB (sc : Scope) (x : Str) : Bool := (match sc.names.lookup x with
  | some .local => true
  | some .cell => true
  | some .free => true
  | _ => false) && !decide (x = "__debug__") && !decide (x = "__classdict__")
def glB (sc : Scope) (x : Str) : Bool := (match sc.names.lookup x with
  | some .globalImplicit => true
  | _ => false) && !decide (x = "__debug__")
def locB (Z : Zc) (x : Str) : Bool := match Z.sc.names.lookup x with
  | some .local => true
  | some .cell => Z.fn x
  | _ => false
def cstB : D → Const → Bool
  | .non, .none => true
  | .bl b, .bool c => b == c
  | .int i, .int j => decide (i = j)
  | .str x, .str y => decide (x = y)
  | _, _ => false
mutual
def chT (Z : Zc) : Tg → Expr → Bool
  | .nm i, e => (match e with
    | .Name x _ => decide (Z.N[i]? = some x) && locB Z x
    | _ => false)
  | .tp ts, e => (match e with
    | .Tuple es _ _ => chTs Z ts es
    | _ => false)
def chTs (Z : Zc) : Tgs → List Expr → Bool
  | .nil, es => (match es with
    | [] => true
    | _ => false)
  | .cons t ts, es => (match es with
    | e :: es => chT Z t e && chTs Z ts es
    | _ => false)
end
def bopB (isAnd : Bool) (op : BoolOp) : Bool := match isAnd, op with
  | true, .And => true
  | false, .Or => true
  | _, _ => false
def rngAll (lo hi : Nat) (p : Nat → Bool) : Bool := (List.range (hi - lo)).all fun k => p (lo + k)
theorem rngAll_ok {lo hi : Nat} {p : Nat → Bool} (h : rngAll lo hi p = true) (c : Nat) (h1 : lo ≤ c) (h2 : c < hi) : p c = true := by
  have := List.all_eq_true.mp h (c - lo) (List.mem_range.mpr (by omega))
  rwa [show lo + (c - lo) = c by omega] at this
namespace Pd
variable (pd : Pd)
def fldB (f : Str) (j lo hi : Nat) : Bool := rngAll lo hi fun c => match pd.cls[c]? with
  | some i => decide (i.at_[j]? = some f) && decide i.at_.Nodup && !i.exc
  | none => false
def callB (x : Str) (k len : Nat) : Bool := match pd.fns[k]? with
  | some i => decide (i.at_ = (x, none)) && decide (len + i.dfl.length = i.ir.np)
  | none => false
def methB (m : Str) (lo hi : Nat) (ks : List Nat) (len : Nat) : Bool := rngAll lo hi fun c => match pd.cls[c]? with
  | some i => !i.exc && decide (i.ms.lookup m = some (ks.getD (c - lo) 0)) && !i.at_.contains m && (match pd.fns[ks.getD (c - lo) 0]? with
    | some j => j.dfl.isEmpty && decide (len + 1 = j.ir.np)
    | none => false)
  | none => false
def iniB (o : Option Nat) (k : Nat) : Bool := match o with
  | some k0 => (match pd.fns[k0]?, pd.fns[k]? with
    | some j0, some j => decide (j0.at_ = j.at_)
    | _, _ => false)
  | none => false
def makeB (x : Str) (c k len : Nat) : Bool := match pd.cls[c]? with
  | some i => !i.exc && decide (i.x = x) && pd.iniB i.ini k && (match pd.fns[k]? with
    | some j => decide (len + j.dfl.length + 1 = j.ir.np)
    | none => false)
  | none => false
def freeB (x : Str) : Bool := pd.free.contains x
def tyB (T : Tk) (x : Str) (lo hi : Nat) : Bool := (rngAll lo hi fun c => match pd.cls[c]? with
  | some i => !i.exc
  | none => false) && (match T with
  | .int => decide (x = "int") && pd.freeB x
  | .bool => decide (x = "bool") && pd.freeB x
  | .str => decide (x = "str") && pd.freeB x
  | .list => decide (x = "list") && pd.freeB x
  | .tuple => decide (x = "tuple") && pd.freeB x
  | .dict => decide (x = "dict") && pd.freeB x
  | .own c => (match pd.cls[c]? with
    | some i => !i.exc && decide (i.x = x)
    | none => false))
mutual
def ch (Z : Zc) : E → Expr → Bool
  | .var i, e => (match e with
    | .Name x _ => decide (Z.N[i]? = some x) && visB Z.sc x
    | _ => false)
  | .cst d, e => (match e with
    | .Constant c _ _ => cstB d c
    | _ => false)
  | .glo x, e => (match e with
    | .Name y _ => decide (y = x) && glB Z.sc x && (pd.glo.lookup x).isSome
    | _ => false)
  | .bin op a b, e => (match e with
    | .BinOp l o r _ => decide (o = op) && ch Z a l && ch Z b r
    | _ => false)
  | .neg a, e => (match e with
    | .UnaryOp .USub l _ => ch Z a l
    | _ => false)
  | .cmp op a b, e => (match e with
    | .Compare l [o] [r] _ => decide (o = op) && ch Z a l && ch Z b r
    | _ => false)
  | .chn o1 o2 a b c, e => (match e with
    | .Compare l [p1, p2] [r, q] _ => decide (p1 = o1) && decide (p2 = o2) && ch Z a l && ch Z b r && ch Z c q
    | _ => false)
  | .bo isAnd es, e => (match e with
    | .BoolOp op (x :: xs) _ => bopB isAnd op && chs Z es (x :: xs)
    | _ => false)
  | .not a, e => (match e with
    | .UnaryOp .Not l _ => ch Z a l
    | _ => false)
  | .ife c a b, e => (match e with
    | .IfExp t l r _ => ch Z c t && tst c t && ch Z a l && ch Z b r
    | _ => false)
  | .tup es, e => (match e with
    | .Tuple xs _ _ => chs Z es xs
    | _ => false)
  | .lst es, e => (match e with
    | .List xs _ => chs Z es xs
    | _ => false)
  | .dnew _, e => (match e with
    | .Dict [] [] _ => true
    | _ => false)
  | .dtre, e => (match e with
    | .Dict [] [] _ => true
    | _ => false)
  | .sub a i, e => (match e with
    | .Subscript l r _ => ch Z a l && ch Z i r
    | _ => false)
  | .slc a lo hi, e => (match e with
    | .Subscript l (.Slice x y none _) _ => ch Z a l && cho Z lo x && cho Z hi y
    | _ => false)
  | .slc3 a lo hi st, e => (match e with
    | .Subscript l (.Slice x y (some z) _) _ => ch Z a l && cho Z lo x && cho Z hi y && ch Z st z
    | _ => false)
  | .fld a f j lo hi, e => (match e with
    | .Attribute l m _ => decide (m = f) && ch Z a l && pd.fldB f j lo hi
    | _ => false)
  | .call x k es, e => (match e with
    | .Call (.Name y _) xs [] _ => decide (y = x) && glB Z.sc x && chs Z es xs && pd.callB x k es.len && !decide (x = "super")
    | _ => false)
  | .mth a m lo hi ks es, e => (match e with
    | .Call (.Attribute l y apos) xs [] pos => decide (y = m) && ch Z a l && chs Z es xs && pd.methB m lo hi ks es.len && (apos.endLine == pos.line) && decide (xs.length < 30)
    | _ => false)
  | .mk _ x c k es, e => (match e with
    | .Call (.Name y _) xs [] _ => decide (y = x) && glB Z.sc x && chs Z es xs && pd.makeB x c k es.len && !decide (x = "super")
    | _ => false)
  | .blt b es, e => (match e with
    | .Call (.Name y _) (z :: zs) [] _ => decide (y = b.x) && glB Z.sc y && chs Z es (z :: zs) && pd.freeB b.x
    | _ => false)
  | .bm b a es, e => (match e with
    | .Call (.Attribute l y apos) xs [] pos => decide (y = b.m) && ch Z a l && chs Z es xs && (apos.endLine == pos.line) && decide (xs.length < 30)
    | _ => false)
  | .isi T lo hi a, e => (match e with
    | .Call (.Name y _) [l, .Name t _] [] _ => decide (y = "isinstance") && pd.freeB "isinstance" && pd.tyB T t lo hi && glB Z.sc y && glB Z.sc t && ch Z a l
    | _ => false)
  | .dget a k d, e => (match e with
    | .Call (.Attribute l y apos) [r, q] [] pos => decide (y = "get") && ch Z a l && ch Z k r && ch Z d q && (apos.endLine == pos.line)
    | _ => false)
  | .lvals a, e => (match e with
    | .Call (.Name x _) [.Call (.Attribute l y apos) [] [] mpos] [] _ => decide (x = "list") && decide (y = "values") && glB Z.sc x && pd.freeB x && ch Z a l && (apos.endLine == mpos.line)
    | _ => false)
  | .skeys a, e => (match e with
    | .Call (.Name x _) [.Call (.Attribute l y apos) [] [] mpos] [] _ => decide (x = "sorted") && decide (y = "keys") && glB Z.sc x && pd.freeB x && ch Z a l && (apos.endLine == mpos.line)
    | _ => false)
  | .svals a, e => (match e with
    | .Call (.Name x _) [.Call (.Attribute l y apos) [] [] mpos] [] _ => decide (x = "sum") && decide (y = "values") && glB Z.sc x && pd.freeB x && ch Z a l && (apos.endLine == mpos.line)
    | _ => false)
  | .mind a d, e => (match e with
    | .Call (.Name x _) [l] [⟨some y, q, _⟩] _ => decide (x = "min") && decide (y = "default") && glB Z.sc x && pd.freeB x && ch Z a l && ch Z d q
    | _ => false)
  | .dis1 k v, e => (match e with
    | .Dict [some l] [r] _ => ch Z k l && ch Z v r
    | _ => false)
  | .isX _ _, _ => false
  | .xnm _ _, _ => false
  | .lc own it tg c elt, e => (match e with
    | .ListComp x [⟨t, i, ifs, 0⟩] scope _ => blkC Z.N Z.sc scope own && (tg.sl.all fun j => (own.map (·.2)).contains j) && chI Z it t i && chT (Z.blk scope) tg t && chc (Z.blk scope) c ifs && ch (Z.blk scope) elt x
    | _ => false)
def chs (Z : Zc) : Es → List Expr → Bool
  | .nil, es => (match es with
    | [] => true
    | _ => false)
  | .cons e es, xs => (match xs with
    | x :: xs => ch Z e x && chs Z es xs
    | _ => false)
def cho (Z : Zc) : Eo → Option Expr → Bool
  | .no, e => (match e with
    | none => true
    | _ => false)
  | .so a, e => (match e with
    | some x => ch Z a x
    | _ => false)
def chc (Z : Zc) : Eo → List Expr → Bool
  | .no, e => (match e with
    | [] => true
    | _ => false)
  | .so a, e => (match e with
    | [x] => ch Z a x && tst a x
    | _ => false)
def chI (Z : Zc) : Itr → Expr → Expr → Bool
  | .any a, _, e => ch Z a e
  | .r1 a, _, e => (match e with
    | .Call (.Name y _) [x] [] _ => decide (y = "range") && pd.freeB "range" && glB Z.sc y && ch Z a x
    | _ => false)
  | .r2 a b, _, e => (match e with
    | .Call (.Name y _) [x, z] [] _ => decide (y = "range") && pd.freeB "range" && glB Z.sc y && ch Z a x && ch Z b z
    | _ => false)
  | .vs a, _, e => (match e with
    | .Call (.Attribute l y apos) [] [] pos => decide (y = "values") && (apos.endLine == pos.line) && ch Z a l
    | _ => false)
  | .en a, t, e => (match t, e with
    | .Tuple _ _ _, .Call (.Name y _) [x] [] _ => decide (y = "enumerate") && pd.freeB "enumerate" && glB Z.sc y && ch Z a x
    | _, _ => false)
  | .r3 a b c, _, e => (match e with
    | .Call (.Name y _) [x, z, u] [] _ => decide (y = "range") && pd.freeB "range" && glB Z.sc y && ch Z a x && ch Z b z && ch Z c u
    | _ => false)
  | .its a, t, e => (match t, e with
    | .Tuple _ _ _, .Call (.Attribute l y apos) [] [] pos => decide (y = "items") && (apos.endLine == pos.line) && ch Z a l
    | _, _ => false)
/-- a test: a comparison, and, or, not; or a value -/
def tst : E → Expr → Bool
  | .cmp .., _ => true
  | .chn .., _ => true
  | .not a, e => (match e with
    | .UnaryOp _ l _ => tst a l
    | _ => false)
  | .bo _ es, e => (match e with
    | .BoolOp _ xs _ => tsts es xs
    | _ => false)
  | _, e => tvx e
def tsts : Es → List Expr → Bool
  | .nil, es => (match es with
    | [] => true
    | _ => false)
  | .cons e es, xs => (match xs with
    | x :: xs => tst e x && tsts es xs
    | _ => false)
end
/-! ### within an except suite, its exception in slot i -/
def xtB : Option Nat → Str → Bool
  | some c, t => (match pd.cls[c]? with
    | some i => decide (i.x = t) && i.xon
    | none => false)
  | none, t => decide (t = "ValueError") && pd.freeB "ValueError"
def xfB (f : Str) : Bool := pd.cls.all fun i => !i.xon || i.at_.isEmpty || decide (i.at_ = [f])
mutual
def chX (Z : Zc) (i : Nat) : E → Expr → Bool
  | .var j, e => (match e with
    | .Name x _ => decide (Z.N[j]? = some x) && visB Z.sc x
    | _ => false)
  | .cst d, e => (match e with
    | .Constant c _ _ => cstB d c
    | _ => false)
  | .isX j T, e => (match e with
    | .Call (.Name y _) [.Name nm _, .Name t _] [] _ => decide (y = "isinstance") && pd.freeB "isinstance" && glB Z.sc y && decide (j = i) && decide (Z.N[i]? = some nm) && visB Z.sc nm && glB Z.sc t && pd.xtB T t
    | _ => false)
  | .xnm j f, e => (match e with
    | .Attribute (.Name nm _) m _ => decide (m = f) && decide (j = i) && decide (Z.N[i]? = some nm) && visB Z.sc nm && pd.xfB f
    | _ => false)
  | .not a, e => (match e with
    | .UnaryOp .Not l _ => chX Z i a l
    | _ => false)
  | .lst es, e => (match e with
    | .List xs _ => chXs Z i es xs
    | _ => false)
  | .bin op a b, e => (match e with
    | .BinOp l o r _ => decide (o = op) && chX Z i a l && chX Z i b r
    | _ => false)
  | .bo isAnd es, e => (match e with
    | .BoolOp op (x :: xs) _ => bopB isAnd op && chXs Z i es (x :: xs)
    | _ => false)
  | _, _ => false
def chXs (Z : Zc) (i : Nat) : Es → List Expr → Bool
  | .nil, es => (match es with
    | [] => true
    | _ => false)
  | .cons e es, xs => (match xs with
    | x :: xs => chX Z i e x && chXs Z i es xs
    | _ => false)
end
mutual
def chH (Z : Zc) (io : List Nat) (i : Nat) : S → Stmt → Bool
  | .asg j e, st => (match st with
    | .Assign [.Name x py] v _ => decide (Z.N[j]? = some x) && locB Z x && !io.contains j && pd.chX Z i e v
    | _ => false)
  | .ret e, st => (match st with
    | .Return (some v) _ => pd.chX Z i e v
    | _ => false)
  | .if_ c p q, st => (match st with
    | .If t a b _ => pd.chX Z i c t && pd.tst c t && chHs Z io i p a && chHs Z io i q b
    | _ => false)
  | _, _ => false
def chHs (Z : Zc) (io : List Nat) (i : Nat) : Ss → List Stmt → Bool
  | .nil, es => (match es with
    | [] => true
    | _ => false)
  | .cons s ss, es => (match es with
    | x :: xs => chH Z io i s x && chHs Z io i ss xs
    | _ => false)
  | .frz j ss, es => chHs Z io i ss es
  | .frf _ _ _, _ => false
  | .fgt j ss, es => chHs Z io i ss es
end
end Pd
end
end Q

end

section
set_option Elab.async false
set_option linter.all false
set_option maxRecDepth 100000
set_option maxHeartbeats 1000000
/-! Q19: what passes the check is what the text does: expressions. -/
namespace Q
noncomputable section
open PySem PySem.Spec L2
open PyProof.Rows hiding St

/-! ### what is asked of the surroundings -/
def Tk.v (g : G) : Tk → Value
  | .int => .type "int"
  | .bool => .type "bool"
  | .str => .type "str"
  | .list => .type "list"
  | .tuple => .type "tuple"
  | .dict => .type "dict"
  | .own c => .ref (g.cl c)
structure Sat (W : Wd) (g : G) (l : Nat) (pd : Pd) (Fs : Nat → Fn) (adr : Nat → Addr) : Prop where
  fn : ∀ k i, pd.fns[k]? = some i → FunSat W.prog W.w W.K W.mg W.base g l (adr k) (Fs k) i.ir.np i.dfl ∧ PySem.W.keepIn W.K (.ref (adr k)) = true ∧ (i.at_.2 = none → W.mg i.at_.1 = some (.ref (adr k)) ∧ (i.at_.1 == ("__debug__" : Str)) = false)
  at_ : ∀ c i, pd.cls[c]? = some i → g.at_ c = i.at_
  cls : ∀ c i, pd.cls[c]? = some i → i.exc = false → Cls W.K (g.cl c) ∧ W.mg i.x = some (.ref (g.cl c)) ∧ (i.x == ("__debug__" : Str)) = false ∧ (∀ f ∈ i.at_, NoAttr W.K (g.cl c) f) ∧ (∀ m k, i.ms.lookup m = some k → Meth W.K (g.cl c) m (adr k)) ∧ (∀ k, i.ini = some k → Mk W.K (g.cl c) (adr k) ∧ PySem.W.specialIn W.K (.ref (g.cl c)) "__getattribute__" = some (some (.builtin "type.__getattribute__")) ∧ PySem.W.readsIn W.K (g.cl c) (.type "type") = true ∧ PySem.W.findCls W.K (.ref (g.cl c)) (.type "type") "__init__" = some (.val (.ref (adr k))))
  glo : ∀ x d, pd.glo.lookup x = some d → ∃ v u, W.mg x = some u ∧ RelV v u ∧ ∀ B H, Rep g B H v d
  free : ∀ x, x ∈ pd.free → W.mg x = none
  isa : ∀ c i, pd.cls[c]? = some i → i.exc = false → PySem.W.findIn W.K (.ref (g.cl c)) "__class__" = some (some (.builtin "object.__class__")) ∧ PySem.W.specialIn W.K (.builtin "object.__class__") "__get__" = some (some (.builtin "getset_descriptor.__get__")) ∧
    PySem.W.takesIn W.K (.builtin "object.__class__") = some true ∧ PySem.W.mroIn W.K (g.cl c) (.type "object") = some true
  isk : ∀ c i, pd.cls[c]? = some i → i.exc = false → ∀ T : Tk, (∀ c', T = .own c' → ∃ i', pd.cls[c']? = some i' ∧ i'.exc = false) → PySem.W.kitOne W.K (.ref (g.cl c)) (T.v g) = some (pd.isi T c)
  iso : ∀ c i, pd.cls[c]? = some i → i.exc = false → ∀ t : String, t = "NoneType" ∨ t = "int" ∨ t = "bool" ∨ t = "str" ∨ t = "list" ∨ t = "tuple" ∨ t = "dict" → PySem.W.kitOne W.K (.type t) (.ref (g.cl c)) = some false
  K : W.K = g.K
  same : ∀ k k' i i', pd.fns[k]? = some i → pd.fns[k']? = some i' → i.at_ = i'.at_ → adr k = adr k'
  one : 1 ≤ l
  xc : ∀ c i, pd.cls[c]? = some i → i.xon = true → XcC W.K (g.cl c) ∧ W.mg i.x = some (.ref (g.cl c)) ∧ (i.x == ("__debug__" : Str)) = false ∧ PySem.W.keepIn W.K (.ref (g.cl c)) = true ∧ (∀ f ∈ i.at_, PySem.W.findIn W.K (.ref (g.cl c)) f = some none) ∧ PySem.W.kitOne W.K (.ref (g.cl c)) (.type "ValueError") = some true
  xk : ∀ c i c' j, pd.cls[c]? = some i → i.xon = true → pd.cls[c']? = some j → j.xon = true → PySem.W.kitOne W.K (.ref (g.cl c)) (.ref (g.cl c')) = some (i.sup.contains c') ∧ PySem.W.exmOne W.K (.ref (g.cl c)) (.ref (g.cl c')) = some (i.sup.contains c')
  xr : ∀ c i, pd.cls[c]? = some i → i.xon = true → PySem.W.typeIn W.K (.ref (g.cl c)) = some (.type "type") ∧ (i.ini = none → PySem.W.excIn W.K (g.cl c) [.type "ValueError", .type "Exception", .type "BaseException", .type "object"] "ValueError.__new__" = true)
  xi : ∀ c i, pd.cls[c]? = some i → i.xon = true → ∀ k, i.ini = some k → ∃ (f : Str) (fI : Addr) (fd : FuncData) (ps : List Str), i.at_ = [f] ∧ OexC W.K (g.cl c) ∧ PySem.W.findIn W.K (.ref (g.cl c)) "__init__" = some (some (.ref fI)) ∧ PySem.W.typeIn W.K (.ref fI) = some (.type "function") ∧ Binds W.K fd ps [] ∧ ∀ m, FnOk W.prog W.w W.K W.mg W.base (L2.CX W.prog W.w) (m + 1) fI fd ps (spX W.K f)

theorem FunSat.mono {P : Program} {w : World} {K : PySem.W.Frag} {mg : Str → Option Value} {base : Heap} {g : G} {n m : Nat} {f : Addr} {F : Fn} {np : Nat} {dfl : List D} (h : FunSat P w K mg base g n f F np dfl) (k : n ≤ m) : FunSat P w K mg base g m f F np dfl := by
  obtain ⟨fd, ps, ds, dvs, h1, h2, h3, h4⟩ := h.ex
  exact ⟨fd, ps, ds, dvs, h1.mono k, h2, h3, h4⟩

/-! ### names -/
section
variable {X : Cx} {g : G} {n : Nat} {Z : Zc} {W : Wd} {x : Str}
theorem visB_ok (s : Sit X g n Z W) (h : visB Z.sc x = true) : Vis X.env.scope x ∧ (x == ("__debug__" : Str)) = false ∧ (x == ("__classdict__" : Str)) = false := by
  unfold visB at h
  simp only [Bool.and_eq_true, Bool.not_eq_true', decide_eq_false_iff_not] at h
  obtain ⟨⟨h1, h2⟩, h3⟩ := h
  refine ⟨?_, beq_eq_false_iff_ne.mpr h2, beq_eq_false_iff_ne.mpr h3⟩
  unfold Vis
  rw [s.sc]
  split at h1
  · exact .inl (by assumption)
  · exact .inr (.inl (by assumption))
  · exact .inr (.inr (by assumption))
  · cases h1
theorem glB_ok (s : Sit X g n Z W) (h : glB Z.sc x = true) : Gl X x ∧ (x == ("__debug__" : Str)) = false := by
  unfold glB at h
  simp only [Bool.and_eq_true, Bool.not_eq_true', decide_eq_false_iff_not] at h
  refine ⟨?_, beq_eq_false_iff_ne.mpr h.2⟩
  show X.env.scope.names.lookup x = some .globalImplicit
  rw [s.sc]
  split at h
  · assumption
  · cases h.1
theorem locB_ok (s : Sit X g n Z W) (h : locB Z x = true) : L2.Loc X.env.scope x ∧ (X.fn x = true ∨ X.env.scope.names.lookup x = some .local) := by
  unfold locB at h
  unfold L2.Loc
  rw [s.sc, s.fn]
  split at h
  · rename_i e; exact ⟨.inl e, .inr e⟩
  · rename_i e; exact ⟨.inr e, .inl h⟩
  · cases h
end

/-! ### forms -/
mutual
theorem chT_tgx {Z : Zc} : ∀ (t : Tg) (e : Expr), chT Z t e = true → tgx e = true
  | .nm i, e, h => by
    simp only [chT] at h
    split at h
    · rfl
    · cases h
  | .tp ts, e, h => by
    simp only [chT] at h
    split at h
    · rename_i es _ _
      simp only [tgx]
      exact (chTs_tgx ts es h).1
    · cases h
theorem chTs_tgx {Z : Zc} : ∀ (t : Tgs) (e : List Expr), chTs Z t e = true → tgxs e = true ∧ e.length = t.len
  | .nil, e, h => by
    simp only [chTs] at h
    split at h
    · exact ⟨rfl, rfl⟩
    · cases h
  | .cons t ts, e, h => by
    simp only [chTs] at h
    split at h
    · rename_i e es
      simp only [Bool.and_eq_true] at h
      obtain ⟨a, b⟩ := chTs_tgx ts es h.2
      exact ⟨by simp only [tgxs, chT_tgx t e h.1, a, Bool.and_self], by simp [Tgs.len, b]⟩
    · cases h
end
mutual
theorem chT_ok {X : Cx} {g : G} {n : Nat} {Z : Zc} {W : Wd} (s : Sit X g n Z W) : ∀ (t : Tg) (e : Expr), chT Z t e = true → PG X e (gF g t.F t.sl)
  | .nm i, e, h => by
    simp only [chT] at h
    split at h
    · simp only [Bool.and_eq_true, decide_eq_true_eq] at h
      obtain ⟨h1, h2⟩ := locB_ok s h.2
      exact g_nm s.fit.nd (by rw [s.N]; exact h.1) h1 h2
    · cases h
  | .tp ts, e, h => by
    simp only [chT] at h
    split at h
    · rename_i es _ _
      obtain ⟨a, b⟩ := chTs_tgx ts es h
      obtain ⟨h1, h2⟩ := tgx_len X.env a
      exact g_tup s.fit (chTs_ok s ts es h) (by rw [h1, b]) h2
    · cases h
theorem chTs_ok {X : Cx} {g : G} {n : Nat} {Z : Zc} {W : Wd} (s : Sit X g n Z W) : ∀ (t : Tgs) (e : List Expr), chTs Z t e = true → PGs X e (gFs g t.F t.sl)
  | .nil, e, h => by
    simp only [chTs] at h
    split at h
    · exact g_nil
    · cases h
  | .cons t ts, e, h => by
    simp only [chTs] at h
    split at h
    · rename_i e es
      simp only [Bool.and_eq_true] at h
      exact g_cons (chT_ok s t e h.1) (chTs_ok s ts es h.2) (by rw [tgx_each (chT_tgx t e h.1)]; rfl)
    · cases h
end
theorem okx_nm {y : Str} {p pos : Pos} {xs : List Expr} (h : y ≠ "super") : okx (.Call (.Name y p) xs [] pos) = true := by
  cases xs with
  | nil => simp only [okx, Bool.not_eq_true', decide_eq_false_iff_not]; exact h
  | cons _ _ => rfl
theorem ch_okx {pd : Pd} {Z : Zc} (e : E) (x : Expr) (h : pd.ch Z e x = true) : okx x = true := by
  cases e <;> simp only [Pd.ch] at h <;> first
    | (cases h; done)
    | skip
  all_goals split at h <;> first
    | rfl
    | (cases h; done)
    | (simp only [Bool.and_eq_true, Bool.not_eq_true', decide_eq_false_iff_not, decide_eq_true_eq] at h
       exact okx_nm fun e => h.2 (h.1.1.1.1.symm.trans e))
theorem chs_okxs {pd : Pd} {Z : Zc} : ∀ (e : Es) (x : List Expr), pd.chs Z e x = true → okxs x = true ∧ x.length = e.len
  | .nil, x, h => by
    simp only [Pd.chs] at h
    split at h
    · exact ⟨rfl, rfl⟩
    · cases h
  | .cons e es, x, h => by
    simp only [Pd.chs] at h
    split at h
    · simp only [Bool.and_eq_true] at h
      obtain ⟨a, b⟩ := chs_okxs es _ h.2
      exact ⟨by simp only [okxs, ch_okx e _ h.1, a, Bool.and_self], by simp [Es.len, b]⟩
    · cases h
theorem evs_len {Γ : Gm} : ∀ (es : Es) (ρ : Rho) (rs : List R), evs Γ es ρ = .ok rs → rs.length = es.len
  | .nil, ρ, rs, h => by simp only [evs] at h; cases h; rfl
  | .cons e es, ρ, rs, h => by
    simp only [evs] at h
    cases e1 : ev Γ e ρ with
    | bad => rw [e1] at h; cases h
    | ex x => rw [e1] at h; cases h
    | ok r =>
      rw [e1] at h
      simp only [Rx.bind_ok] at h
      cases e2 : evs Γ es ρ with
      | bad => rw [e2] at h; cases h
      | ex x => rw [e2] at h; cases h
      | ok rs' =>
        rw [e2] at h
        cases h
        simp [Es.len, evs_len es ρ rs' e2]
theorem Rx.bind_assoc {α β γ : Type} (a : Rx α) (k : α → Rx β) (l : β → Rx γ) : (a.bind k).bind l = a.bind fun x => (k x).bind l := by cases a <;> rfl
theorem kit_B {a b : String} {r : Bool} {K : PySem.W.Frag} (h : kitB a b = some r) : PySem.W.kitOne K (.type a) (.type b) = some r := kit_ty h
theorem Tk.kit_ok {K : PySem.W.Frag} {g : G} {T : Tk} (ho : ∀ c, T = .own c → ∀ t : String, t = "NoneType" ∨ t = "int" ∨ t = "bool" ∨ t = "str" ∨ t = "list" ∨ t = "tuple" ∨ t = "dict" → PySem.W.kitOne K (.type t) (.ref (g.cl c)) = some false) (t : String) (b : Bool) (h : T.kit t = some b) : PySem.W.kitOne K (.type t) (T.v g) = some b := by
  cases T with
  | own c =>
    simp only [Tk.kit] at h
    split at h
    · rename_i hz; cases h; exact ho c rfl t hz
    · cases h
  | _ =>
    simp only [Tk.kit] at h
    split at h
    · rename_i hz
      cases h
      first
        | (subst hz; exact kit_ty (by decide +kernel))
        | (rcases hz with rfl | rfl <;> exact kit_ty (by decide +kernel))
    · split at h
      · rename_i hz
        cases h
        first
          | (rcases hz with rfl | rfl | rfl | rfl | rfl | rfl <;> exact kit_ty (by decide +kernel))
          | (rcases hz with rfl | rfl | rfl | rfl | rfl <;> exact kit_ty (by decide +kernel))
      · cases h
end
end Q

end

section
set_option Elab.async false
set_option linter.all false
set_option maxRecDepth 100000
set_option maxHeartbeats 2000000
/-! Q20: expressions that pass the check. -/
namespace Q
noncomputable section
open PySem PySem.Spec L2
open PyProof.Rows hiding St

theorem boOp_ok {isAnd : Bool} {op : BoolOp} (h : bopB isAnd op = true) : op = boOp isAnd := by
  unfold bopB at h
  split at h <;> first | rfl | cases h
/-- the parts' functions -/
def Es.fs (Γ : Gm) : Es → List (Rho → Rx R)
  | .nil => []
  | .cons e es => ev Γ e :: es.fs Γ
theorem boE_eq {Γ : Gm} {isAnd : Bool} : ∀ (es : Es) (ρ : Rho), boE Γ isAnd es ρ = boF isAnd (es.fs Γ) ρ
  | .nil, _ => by simp only [boE, Es.fs, boF]
  | .cons e .nil, _ => by simp only [boE, Es.fs, boF]
  | .cons e (.cons f fs), ρ => by
    simp only [boE, Es.fs]
    rw [boE_eq (.cons f fs) ρ]
    rfl

section
variable {W : Wd} {g : G} {l : Nat} {pd : Pd} {Fs : Nat → Fn} {adr : Nat → Addr} {fuel : Nat}
theorem gm_fn {k : Nat} {i : DefI} (h : pd.fns[k]? = some i) : ((pd.gm Fs fuel).fn k).F = Fs k ∧ ((pd.gm Fs fuel).fn k).dfl = i.dfl := by
  constructor <;> simp [Pd.gm, h]
theorem fld_sat (hs : Sat W g l pd Fs adr) {f : Str} {j lo hi : Nat} (h : pd.fldB f j lo hi = true) : FldSat g f j lo hi := by
  refine ⟨fun c h1 h2 => ?_⟩
  have := rngAll_ok h c h1 h2
  split at this
  · rename_i i ei
    simp only [Bool.and_eq_true, decide_eq_true_eq, Bool.not_eq_true'] at this
    obtain ⟨⟨q1, q2⟩, q3⟩ := this
    obtain ⟨z1, z2, z3, z4, z5, z6⟩ := hs.cls c i ei q3
    rw [hs.at_ c i ei]
    rw [hs.K] at z1 z4
    exact ⟨q1, q2, z1, z4 f (List.mem_of_getElem? q1)⟩
  · cases this
theorem call_sat {X : Cx} {n : Nat} {Z : Zc} (hs : Sat W g l pd Fs adr) (s : Sit X g n Z W) (hl : l + 1 ≤ n) {x : Str} {k len : Nat} (h : pd.callB x k len = true) : CallSat X g n x ((pd.gm Fs fuel).fn k).F (len + ((pd.gm Fs fuel).fn k).dfl.length) ((pd.gm Fs fuel).fn k).dfl := by
  unfold Pd.callB at h
  split at h
  · rename_i i ei
    simp only [Bool.and_eq_true, decide_eq_true_eq] at h
    obtain ⟨h1, h2⟩ := h
    obtain ⟨f1, f2, f3⟩ := hs.fn k i ei
    obtain ⟨f3, f4⟩ := f3 (by rw [h1])
    rw [h1] at f3 f4
    rw [(gm_fn ei).1, (gm_fn ei).2, h2]
    obtain ⟨rfl⟩ := s.wd
    exact ⟨⟨adr k, f3, f2, f1.mono (by omega)⟩, f4⟩
  · cases h
theorem meth_sat {X : Cx} {n : Nat} {Z : Zc} (hs : Sat W g l pd Fs adr) (s : Sit X g n Z W) (hl : l + 1 ≤ n) {m : Str} {lo hi : Nat} {ks : List Nat} {len : Nat} (h : pd.methB m lo hi ks len = true) : MethSat X g n m lo hi (fun c => ((pd.gm Fs fuel).fn (ks.getD (c - lo) 0)).F) (len + 1) [] := by
  refine ⟨fun c h1 h2 => ?_⟩
  have := rngAll_ok h c h1 h2
  split at this
  · rename_i i ei
    simp only [Bool.and_eq_true, decide_eq_true_eq, Bool.not_eq_true'] at this
    obtain ⟨⟨⟨q1, q2⟩, q3⟩, q4⟩ := this
    split at q4
    · rename_i j ej
      simp only [Bool.and_eq_true, decide_eq_true_eq] at q4
      obtain ⟨z1, z2, z3, z4, z5, z6⟩ := hs.cls c i ei q1
      obtain ⟨f1, f2, f3⟩ := hs.fn _ j ej
      rw [(gm_fn ej).1, hs.at_ c i ei]
      have e0 : j.dfl = [] := by simpa using q4.1
      rw [e0, ← q4.2] at f1
      obtain ⟨rfl⟩ := s.wd
      exact ⟨z1, by simpa using q3, _, z5 m _ q2, f1.mono (by omega)⟩
    · cases q4
  · cases this
theorem ini_sat (hs : Sat W g l pd Fs adr) {o : Option Nat} {k : Nat} (h : pd.iniB o k = true) : ∃ k0, o = some k0 ∧ adr k0 = adr k := by
  unfold Pd.iniB at h
  split at h
  · rename_i k0
    split at h
    · rename_i j0 j e0 e
      exact ⟨k0, rfl, hs.same _ _ _ _ e0 e (of_decide_eq_true h)⟩
    · cases h
  · cases h
theorem make_sat {X : Cx} {n : Nat} {Z : Zc} (hs : Sat W g l pd Fs adr) (s : Sit X g n Z W) (hl : l + 1 ≤ n) {x : Str} {c k len : Nat} (h : pd.makeB x c k len = true) : MakeSat X g n x c ((pd.gm Fs fuel).fn k).F (len + ((pd.gm Fs fuel).fn k).dfl.length + 1) ((pd.gm Fs fuel).fn k).dfl := by
  unfold Pd.makeB at h
  split at h
  · rename_i i ei
    simp only [Bool.and_eq_true, decide_eq_true_eq, Bool.not_eq_true'] at h
    obtain ⟨⟨⟨q1, q2⟩, q3⟩, q4⟩ := h
    split at q4
    · rename_i j ej
      simp only [decide_eq_true_eq] at q4
      obtain ⟨z1, z2, z3, z4, z5, z6⟩ := hs.cls c i ei q1
      obtain ⟨f1, f2, f3⟩ := hs.fn _ j ej
      rw [(gm_fn ej).1, (gm_fn ej).2, q4]
      obtain ⟨rfl⟩ := s.wd
      subst q2
      obtain ⟨k0, q5, q6⟩ := ini_sat hs q3
      exact ⟨⟨l, adr k, hl, z2, by rw [← q6]; exact (z6 k0 q5).1, f1⟩, z3⟩
    · cases q4
  · cases h
theorem init_sat {X : Cx} {n : Nat} {Z : Zc} (hs : Sat W g l pd Fs adr) (s : Sit X g n Z W) (hl : l + 1 ≤ n) {x : Str} {c k len : Nat} (h : pd.makeB x c k len = true) : ClsFn X g n x "__init__" ((pd.gm Fs fuel).fn k).F (len + ((pd.gm Fs fuel).fn k).dfl.length + 1) ((pd.gm Fs fuel).fn k).dfl := by
  unfold Pd.makeB at h
  split at h
  · rename_i i ei
    simp only [Bool.and_eq_true, decide_eq_true_eq, Bool.not_eq_true'] at h
    obtain ⟨⟨⟨q1, q2⟩, q3⟩, q4⟩ := h
    split at q4
    · rename_i j ej
      simp only [decide_eq_true_eq] at q4
      obtain ⟨z1, z2, z3, z4, z5, z6⟩ := hs.cls c i ei q1
      obtain ⟨k0, q5, q6⟩ := ini_sat hs q3
      obtain ⟨w1, w2, w3, w4⟩ := z6 k0 q5
      rw [q6] at w4
      obtain ⟨f1, f2, f3⟩ := hs.fn _ j ej
      rw [(gm_fn ej).1, (gm_fn ej).2, q4]
      obtain ⟨rfl⟩ := s.wd
      subst q2
      exact ⟨⟨g.cl c, adr k, z2, w2, w3, w4, f2, f1.mono (by omega)⟩, z3⟩
    · cases q4
  · cases h
theorem free_ok {X : Cx} {n : Nat} {Z : Zc} (hs : Sat W g l pd Fs adr) (s : Sit X g n Z W) {x : Str} (h : pd.freeB x = true) : X.mg x = none := by
  obtain ⟨rfl⟩ := s.wd
  exact hs.free x (by simpa [Pd.freeB] using h)
theorem isi_sat {X : Cx} {n : Nat} {Z : Zc} (hs : Sat W g l pd Fs adr) (s : Sit X g n Z W) {T : Tk} {x : Str} {lo hi : Nat} {pT : Pos} (h : pd.tyB T x lo hi = true) (hg : glB Z.sc x = true) :
    ∃ c, ClsV c (T.v g) ∧ (∀ t b, T.kit t = some b → PySem.W.kitOne X.K (.type t) (T.v g) = some b) ∧ IsiSat X g lo hi (T.v g) (pd.isi T) ∧ PE X (.Name x pT) (tC c) := by
  unfold Pd.tyB at h
  simp only [Bool.and_eq_true] at h
  obtain ⟨h1, h2⟩ := h
  obtain ⟨gx, gd⟩ := glB_ok s hg
  have hc : ∀ c, lo ≤ c → c < hi → ∃ i, pd.cls[c]? = some i ∧ i.exc = false := fun c a b => by
    have := rngAll_ok h1 c a b
    split at this
    · rename_i i ei; exact ⟨i, ei, by simpa using this⟩
    · cases this
  have ho : ∀ c', T = .own c' → ∃ i, pd.cls[c']? = some i ∧ i.exc = false ∧ i.x = x := fun c' e => by
    subst e
    have h2 : (match pd.cls[c']? with
      | some i => !i.exc && decide (i.x = x)
      | none => false) = true := h2
    split at h2
    · rename_i i ei
      simp only [Bool.and_eq_true, decide_eq_true_eq, Bool.not_eq_true'] at h2
      exact ⟨i, ei, h2.1, h2.2⟩
    · cases h2
  have wd := s.wd
  obtain ⟨rfl⟩ := wd
  have isi : IsiSat X g lo hi (T.v g) (pd.isi T) := ⟨fun c a b => by
    obtain ⟨i, ei, hx⟩ := hc c a b
    obtain ⟨z1, z2, z3, z4⟩ := hs.isa c i ei hx
    exact ⟨(hs.cls c i ei hx).1, z1, z2, z3, z4, hs.isk c i ei hx T fun c' e => let ⟨i', a, b, _⟩ := ho c' e; ⟨i', a, b⟩⟩⟩
  have kit : ∀ t b, T.kit t = some b → PySem.W.kitOne X.K (.type t) (T.v g) = some b := fun t b => Tk.kit_ok (fun c e t ht => by
    obtain ⟨i, ei, hx, _⟩ := ho c e
    exact hs.iso c i ei hx t ht) t b
  cases T with
  | own c =>
    obtain ⟨i, ei, hx, rfl⟩ := ho c rfl
    exact ⟨.ref (g.cl c), .own _, kit, isi, pe_glob gx (hs.cls c i ei hx).2.1 rfl gd⟩
  | int => simp only [Bool.and_eq_true, decide_eq_true_eq] at h2; rw [h2.1] at gx gd; rw [h2.1]; exact ⟨.ty "int", .ty _, kit, isi, pe_bltn gx (free_ok hs s (h2.1 ▸ h2.2)) (by decide +kernel) rfl (by decide) gd⟩
  | bool => simp only [Bool.and_eq_true, decide_eq_true_eq] at h2; rw [h2.1] at gx gd; rw [h2.1]; exact ⟨.ty "bool", .ty _, kit, isi, pe_bltn gx (free_ok hs s (h2.1 ▸ h2.2)) (by decide +kernel) rfl (by decide) gd⟩
  | str => simp only [Bool.and_eq_true, decide_eq_true_eq] at h2; rw [h2.1] at gx gd; rw [h2.1]; exact ⟨.ty "str", .ty _, kit, isi, pe_bltn gx (free_ok hs s (h2.1 ▸ h2.2)) (by decide +kernel) rfl (by decide) gd⟩
  | list => simp only [Bool.and_eq_true, decide_eq_true_eq] at h2; rw [h2.1] at gx gd; rw [h2.1]; exact ⟨.ty "list", .ty _, kit, isi, pe_bltn gx (free_ok hs s (h2.1 ▸ h2.2)) (by decide +kernel) rfl (by decide) gd⟩
  | tuple => simp only [Bool.and_eq_true, decide_eq_true_eq] at h2; rw [h2.1] at gx gd; rw [h2.1]; exact ⟨.ty "tuple", .ty _, kit, isi, pe_bltn gx (free_ok hs s (h2.1 ▸ h2.2)) (by decide +kernel) rfl (by decide) gd⟩
  | dict => simp only [Bool.and_eq_true, decide_eq_true_eq] at h2; rw [h2.1] at gx gd; rw [h2.1]; exact ⟨.ty "dict", .ty _, kit, isi, pe_bltn gx (free_ok hs s (h2.1 ▸ h2.2)) (by decide +kernel) rfl (by decide) gd⟩
theorem sit_blk {X : Cx} {n : Nat} {Z : Zc} {scope : Scope} (s : Sit X g n Z W) (hk : scope.kind = .function) (sh : Shared) (H : Hp) (C : Addr) (cl : List (Str × Addr)) (fp : List Addr) : Sit (X.blk sh H scope (compEnvC scope cl C X.env) fp) g n (Z.blk scope) W := by
  obtain ⟨f, h1, h2, h3, h4, h5, h6⟩ := s
  refine ⟨⟨f.K, f.calm, f.nd, f.room⟩, h1, ?_, rfl, h4, hk, fun z => nomatch z⟩
  show relabel scope X.env = relS scope Z.sc
  rw [← h2]
  rfl

theorem chI_okx {Z : Zc} (e : Itr) (t x : Expr) (h : pd.chI Z e t x = true) : okx x = true := by
  cases e <;> simp only [Pd.chI] at h <;> first
    | exact ch_okx _ _ h
    | (split at h <;> first | rfl | (cases h; done))
theorem vt {X : Cx} {Wx : WX} {e : E} {x : Expr} {f : Rho → Rx R} (he : pd.tst e x = tvx x) (p : PE X x (tX g Wx f)) : PE X x (tX g Wx f) ∧ (pd.tst e x = true → PT X x (tT g Wx f)) :=
  ⟨p, fun ht => f_val p (tv_he (he ▸ ht) X.env)⟩
mutual
theorem ch_ok (hs : Sat W g l pd Fs adr) {n : Nat} (hl : l + 1 ≤ n) : ∀ (e : E) (x : Expr) (X : Cx) (Wx : WX) (Z : Zc), Sit X g n Z W → Takes X Wx → pd.ch Z e x = true → PE X x (tX g Wx (ev (pd.gm Fs fuel) e)) ∧ (pd.tst e x = true → PT X x (tT g Wx (ev (pd.gm Fs fuel) e)))
  | .var i, x, X, Wx, Z, s, tk, h => by
    simp only [Pd.ch] at h
    split at h
    · simp only [Bool.and_eq_true, decide_eq_true_eq] at h
      obtain ⟨h1, h2, h3⟩ := visB_ok s h.2
      exact vt rfl (f_var (by rw [s.N]; exact h.1) h1 h2 h3)
    · cases h
  | .cst d, x, X, Wx, Z, s, tk, h => by
    simp only [Pd.ch] at h
    split at h
    · unfold cstB at h
      split at h
      · exact vt rfl (f_cst_non)
      · rw [beq_iff_eq] at h; subst h; exact vt rfl (f_cst_bl)
      · rw [decide_eq_true_eq] at h; subst h; exact vt rfl (f_cst_int)
      · rw [decide_eq_true_eq] at h; subst h; exact vt rfl (f_cst_str)
      · cases h
    · cases h
  | .glo y, x, X, Wx, Z, s, tk, h => by
    simp only [Pd.ch] at h
    split at h
    · simp only [Bool.and_eq_true, decide_eq_true_eq] at h
      obtain ⟨⟨ey, h1⟩, h2⟩ := h
      obtain ⟨g1, g2⟩ := glB_ok s h1
      obtain ⟨d, ed⟩ := Option.isSome_iff_exists.mp h2
      obtain ⟨v, u, z1, z2, z3⟩ := hs.glo _ _ ed
      have e : ev (pd.gm Fs fuel) (.glo y) = fun _ => .ok (.shr d) := by
        funext ρ
        simp only [ev]
        show (Rx.lift (pd.glo.lookup y)).bind _ = _
        rw [ed]; rfl
      rw [e, ey]
      obtain ⟨rfl⟩ := s.wd
      exact vt rfl (f_glob g1 z1 z2 g2 z3)
    · cases h
  | .bin op a b, x, X, Wx, Z, s, tk, h => by
    simp only [Pd.ch] at h
    split at h
    · simp only [Bool.and_eq_true, decide_eq_true_eq] at h
      obtain ⟨⟨rfl, h1⟩, h2⟩ := h
      exact vt rfl (f_bin s.fit (ch_ok hs hl a _ X Wx Z s tk h1).1 (ch_ok hs hl b _ X Wx Z s tk h2).1)
    · cases h
  | .neg a, x, X, Wx, Z, s, tk, h => by
    simp only [Pd.ch] at h
    split at h
    · exact vt rfl (f_neg (ch_ok hs hl a _ X Wx Z s tk h).1)
    · cases h
  | .cmp op a b, x, X, Wx, Z, s, tk, h => by
    simp only [Pd.ch] at h
    split at h
    · simp only [Bool.and_eq_true, decide_eq_true_eq] at h
      obtain ⟨⟨rfl, h1⟩, h2⟩ := h
      have p := (ch_ok hs hl a _ X Wx Z s tk h1).1
      have q := (ch_ok hs hl b _ X Wx Z s tk h2).1
      exact ⟨f_cmp s.fit (ch_okx b _ h2) p q, fun _ => f_cmpT s.fit (ch_okx b _ h2) p q⟩
    · cases h
  | .chn o1 o2 a b c, x, X, Wx, Z, s, tk, h => by
    simp only [Pd.ch] at h
    split at h
    · simp only [Bool.and_eq_true, decide_eq_true_eq] at h
      obtain ⟨⟨⟨⟨rfl, rfl⟩, h1⟩, h2⟩, h3⟩ := h
      have p := (ch_ok hs hl a _ X Wx Z s tk h1).1
      have q := (ch_ok hs hl b _ X Wx Z s tk h2).1
      have r := (ch_ok hs hl c _ X Wx Z s tk h3).1
      exact ⟨f_chain s.fit (ch_okx c _ h3) p q r, fun _ => f_chainT s.fit (ch_okx c _ h3) p q r⟩
    · cases h
  | .bo isAnd es, x, X, Wx, Z, s, tk, h => by
    simp only [Pd.ch] at h
    split at h
    · simp only [Bool.and_eq_true] at h
      rw [boOp_ok h.1]
      have e : ev (pd.gm Fs fuel) (.bo isAnd es) = boF isAnd (es.fs (pd.gm Fs fuel)) := funext fun ρ => by simp only [ev]; exact boE_eq es ρ
      rw [e]
      obtain ⟨p, q⟩ := bo_ok hs hl es isAnd _ X Wx Z s tk (by simp) h.2
      exact ⟨p _, fun ht => (q ht _).pt⟩
    · cases h
  | .not a, x, X, Wx, Z, s, tk, h => by
    simp only [Pd.ch] at h
    split at h
    · obtain ⟨p, q⟩ := ch_ok hs hl a _ X Wx Z s tk h
      exact ⟨f_not p, fun ht => f_notT (q ht)⟩
    · cases h
  | .ife c a b, x, X, Wx, Z, s, tk, h => by
    simp only [Pd.ch] at h
    split at h
    · simp only [Bool.and_eq_true] at h
      exact vt rfl (f_ife ((ch_ok hs hl c _ X Wx Z s tk h.1.1.1).2 h.1.1.2) (ch_ok hs hl a _ X Wx Z s tk h.1.2).1 (ch_ok hs hl b _ X Wx Z s tk h.2).1)
    · cases h
  | .tup es, x, X, Wx, Z, s, tk, h => by
    simp only [Pd.ch] at h
    split at h
    · exact vt rfl (f_tup (chs_ok hs hl es _ X Wx Z s tk h))
    · cases h
  | .lst es, x, X, Wx, Z, s, tk, h => by
    simp only [Pd.ch] at h
    split at h
    · exact vt rfl (f_lst (chs_ok hs hl es _ X Wx Z s tk h))
    · cases h
  | .dtre, x, X, Wx, Z, s, tk, h => by
    simp only [Pd.ch] at h
    split at h
    · exact vt rfl (f_dnewR)
    · cases h
  | .dnew t, x, X, Wx, Z, s, tk, h => by
    simp only [Pd.ch] at h
    split at h
    · cases t with
      | true => exact vt rfl (f_dnewT)
      | false => exact vt rfl (f_dnewK)
    · cases h
  | .sub a i, x, X, Wx, Z, s, tk, h => by
    simp only [Pd.ch] at h
    split at h
    · simp only [Bool.and_eq_true] at h
      exact vt rfl (f_sub s.fit (ch_okx i _ h.2) (ch_ok hs hl a _ X Wx Z s tk h.1).1 (ch_ok hs hl i _ X Wx Z s tk h.2).1)
    · cases h
  | .slc a lo hi, x, X, Wx, Z, s, tk, h => by
    simp only [Pd.ch] at h
    split at h
    · simp only [Bool.and_eq_true] at h
      exact vt rfl (f_slc s.fit (ch_ok hs hl a _ X Wx Z s tk h.1.1).1 (cho_ok hs hl lo _ X Wx Z s tk h.1.2) (cho_ok hs hl hi _ X Wx Z s tk h.2))
    · cases h
  | .slc3 a lo hi st, x, X, Wx, Z, s, tk, h => by
    simp only [Pd.ch] at h
    split at h
    · simp only [Bool.and_eq_true] at h
      exact vt rfl (f_slc3 s.fit (ch_okx a _ h.1.1.1) (ch_ok hs hl a _ X Wx Z s tk h.1.1.1).1 (cho_ok hs hl lo _ X Wx Z s tk h.1.1.2) (cho_ok hs hl hi _ X Wx Z s tk h.1.2) (f_part (ch_ok hs hl st _ X Wx Z s tk h.2).1))
    · cases h
  | .fld a f j lo hi, x, X, Wx, Z, s, tk, h => by
    simp only [Pd.ch] at h
    split at h
    · simp only [Bool.and_eq_true, decide_eq_true_eq] at h
      obtain ⟨⟨rfl, h1⟩, h2⟩ := h
      exact vt rfl (f_fld s.fit (ch_okx a _ h1) (fld_sat hs h2) (ch_ok hs hl a _ X Wx Z s tk h1).1)
    · cases h
  | .call y k es, x, X, Wx, Z, s, tk, h => by
    simp only [Pd.ch] at h
    split at h
    · rename_i xs _
      simp only [Bool.and_eq_true, decide_eq_true_eq] at h
      obtain ⟨⟨⟨⟨rfl, h1⟩, h2⟩, h3⟩, _⟩ := h
      obtain ⟨g1, _⟩ := glB_ok s h1
      obtain ⟨o1, o2⟩ := chs_okxs es _ h2
      have sat := call_sat (fuel := fuel) hs s hl h3
      have args := chs_ok hs hl es _ X Wx Z s tk h2
      cases xs with
      | nil =>
        cases es with
        | nil => exact vt rfl (f_call0 s.fit tk sat g1 (by simp [Es.len]))
        | cons _ _ => simp [Es.len] at o2
      | cons z zs =>
        simp only [okxs, Bool.and_eq_true] at o1
        exact vt rfl (f_call s.fit tk sat g1 o1.1 o1.2 args (by rw [o2]) fun ρ rs e => by rw [evs_len es ρ rs e, o2])
    · cases h
  | .mth a m lo hi ks es, x, X, Wx, Z, s, tk, h => by
    simp only [Pd.ch] at h
    split at h
    · rename_i xs _
      simp only [Bool.and_eq_true, decide_eq_true_eq] at h
      obtain ⟨⟨⟨⟨⟨rfl, h1⟩, h2⟩, h3⟩, h4⟩, h5⟩ := h
      obtain ⟨o1, o2⟩ := chs_okxs es _ h2
      have sat := meth_sat (fuel := fuel) hs s hl h3
      have args := chs_ok hs hl es _ X Wx Z s tk h2
      have ho := (ch_ok hs hl a _ X Wx Z s tk h1).1
      have o0 := o1
      cases xs with
      | nil =>
        cases es with
        | nil => exact vt rfl (f_meth0 s.fit tk sat ho (by simp [Es.len]) (meth_ht (ch_okx a _ h1) o0 h5 h4))
        | cons _ _ => simp [Es.len] at o2
      | cons z zs =>
        simp only [okxs, Bool.and_eq_true] at o1
        exact vt rfl (f_meth s.fit tk sat ho o1.1 o1.2 args (by rw [o2]; rfl) (fun ρ rs e => by rw [evs_len es ρ rs e, o2]) (meth_ht (ch_okx a _ h1) o0 h5 h4))
    · cases h
  | .mk keep y c k es, x, X, Wx, Z, s, tk, h => by
    simp only [Pd.ch] at h
    split at h
    · rename_i xs _
      simp only [Bool.and_eq_true, decide_eq_true_eq] at h
      obtain ⟨⟨⟨⟨rfl, h1⟩, h2⟩, h3⟩, _⟩ := h
      obtain ⟨g1, _⟩ := glB_ok s h1
      obtain ⟨o1, o2⟩ := chs_okxs es _ h2
      have sat := make_sat (fuel := fuel) hs s hl h3
      have args := chs_ok hs hl es _ X Wx Z s tk h2
      cases xs with
      | nil =>
        cases es with
        | nil => exact vt rfl (f_make0 s.fit tk sat g1 (by simp [Es.len]))
        | cons _ _ => simp [Es.len] at o2
      | cons z zs =>
        simp only [okxs, Bool.and_eq_true] at o1
        exact vt rfl (f_make s.fit tk sat g1 o1.1 o1.2 args (by rw [o2]) fun ρ rs e => by rw [evs_len es ρ rs e, o2])
    · cases h
  | .blt b es, x, X, Wx, Z, s, tk, h => by
    simp only [Pd.ch] at h
    split at h
    · simp only [Bool.and_eq_true, decide_eq_true_eq] at h
      obtain ⟨⟨⟨rfl, h1⟩, h2⟩, h3⟩ := h
      obtain ⟨g1, _⟩ := glB_ok s h1
      obtain ⟨o1, o2⟩ := chs_okxs es _ h2
      simp only [okxs, Bool.and_eq_true] at o1
      have args := chs_ok hs hl es _ X Wx Z s tk h2
      have mg := free_ok hs s h3
      have ok := Blt.ok s.fit b
      have bt := Blt.boot b
      rcases Blt.fm b with ⟨id, e⟩ | ⟨T, e⟩
      · rw [e] at ok bt; exact vt rfl (f_bltB ok g1 mg bt b.nn b.db o1.1 o1.2 args)
      · rw [e] at ok bt; exact vt rfl (f_bltT ok g1 mg bt b.nn b.db o1.1 o1.2 args)
    · cases h
  | .bm b a es, x, X, Wx, Z, s, tk, h => by
    simp only [Pd.ch] at h
    split at h
    · rename_i xs _
      simp only [Bool.and_eq_true, decide_eq_true_eq] at h
      obtain ⟨⟨⟨⟨rfl, h1⟩, h2⟩, h3⟩, h4⟩ := h
      obtain ⟨o1, o2⟩ := chs_okxs es _ h2
      have args := chs_ok hs hl es _ X Wx Z s tk h2
      have ho := (ch_ok hs hl a _ X Wx Z s tk h1).1
      cases xs with
      | nil =>
        cases es with
        | nil => exact vt rfl (f_bm0 s.fit b.pa b.slot b.ty (b.ok s.fit) (ch_okx a _ h1) h3 ho)
        | cons _ _ => simp [Es.len] at o2
      | cons z zs =>
        simp only [okxs, Bool.and_eq_true] at o1
        exact vt rfl (f_bm s.fit b.pa b.slot b.ty (b.ok s.fit) (ch_okx a _ h1) h3 ho o1.1 o1.2 h4 args)
    · cases h
  | .isi T lo hi a, x, X, Wx, Z, s, tk, h => by
    simp only [Pd.ch] at h
    split at h
    · simp only [Bool.and_eq_true, decide_eq_true_eq] at h
      obtain ⟨⟨⟨⟨⟨rfl, h0⟩, h1⟩, h2⟩, h3⟩, h4⟩ := h
      obtain ⟨g1, _⟩ := glB_ok s h2
      obtain ⟨c, z1, z2, z3, z4⟩ := isi_sat hs s h1 h3
      exact vt rfl (f_isi s.fit z1 z2 z3 g1 (free_ok hs s h0) (ch_okx a _ h4) (ch_ok hs hl a _ X Wx Z s tk h4).1 z4)
    · cases h
  | .dget a k d, x, X, Wx, Z, s, tk, h => by
    simp only [Pd.ch] at h
    split at h
    · simp only [Bool.and_eq_true, decide_eq_true_eq] at h
      obtain ⟨⟨⟨⟨rfl, h1⟩, h2⟩, h3⟩, h4⟩ := h
      exact vt rfl (f_dget s.fit (ch_okx a _ h1) (ch_okx k _ h2) (ch_okx d _ h3) h4 (ch_ok hs hl a _ X Wx Z s tk h1).1 (ch_ok hs hl k _ X Wx Z s tk h2).1 (ch_ok hs hl d _ X Wx Z s tk h3).1)
    · cases h
  | .lvals a, x, X, Wx, Z, s, tk, h => by
    simp only [Pd.ch] at h
    split at h
    · simp only [Bool.and_eq_true, decide_eq_true_eq] at h
      obtain ⟨⟨⟨⟨⟨rfl, rfl⟩, h1⟩, h2⟩, h3⟩, h4⟩ := h
      exact vt rfl (f_lvals s.fit (glB_ok s h1).1 (free_ok hs s h2) (ch_okx a _ h3) h4 (ch_ok hs hl a _ X Wx Z s tk h3).1)
    · cases h
  | .skeys a, x, X, Wx, Z, s, tk, h => by
    simp only [Pd.ch] at h
    split at h
    · simp only [Bool.and_eq_true, decide_eq_true_eq] at h
      obtain ⟨⟨⟨⟨⟨rfl, rfl⟩, h1⟩, h2⟩, h3⟩, h4⟩ := h
      exact vt rfl (f_skeys s.fit (glB_ok s h1).1 (free_ok hs s h2) (ch_okx a _ h3) h4 (ch_ok hs hl a _ X Wx Z s tk h3).1)
    · cases h
  | .svals a, x, X, Wx, Z, s, tk, h => by
    simp only [Pd.ch] at h
    split at h
    · simp only [Bool.and_eq_true, decide_eq_true_eq] at h
      obtain ⟨⟨⟨⟨⟨rfl, rfl⟩, h1⟩, h2⟩, h3⟩, h4⟩ := h
      exact vt rfl (f_svals s.fit (glB_ok s h1).1 (free_ok hs s h2) (ch_okx a _ h3) h4 (ch_ok hs hl a _ X Wx Z s tk h3).1)
    · cases h
  | .mind a d, x, X, Wx, Z, s, tk, h => by
    simp only [Pd.ch] at h
    split at h
    · simp only [Bool.and_eq_true, decide_eq_true_eq] at h
      obtain ⟨⟨⟨⟨⟨rfl, rfl⟩, h1⟩, h2⟩, h3⟩, h4⟩ := h
      exact vt rfl (f_mind s.fit (glB_ok s h1).1 (free_ok hs s h2) (ch_okx a _ h3) (ch_okx d _ h4) (ch_ok hs hl a _ X Wx Z s tk h3).1 (ch_ok hs hl d _ X Wx Z s tk h4).1)
    · cases h
  | .dis1 k v, x, X, Wx, Z, s, tk, h => by
    simp only [Pd.ch] at h
    split at h
    · simp only [Bool.and_eq_true] at h
      exact vt rfl (f_dis1 (ch_ok hs hl k _ X Wx Z s tk h.1).1 (ch_ok hs hl v _ X Wx Z s tk h.2).1)
    · cases h
  | .isX i T, x, X, Wx, Z, s, tk, h => by simp only [Pd.ch] at h; cases h
  | .xnm i f, x, X, Wx, Z, s, tk, h => by simp only [Pd.ch] at h; cases h
  | .lc own it tg c elt, x, X, Wx, Z, s, tk, h => by
    simp only [Pd.ch] at h
    split at h
    · simp only [Bool.and_eq_true] at h
      obtain ⟨⟨⟨⟨⟨h1, h2⟩, h3⟩, h4⟩, h5⟩, h6⟩ := h
      rw [← s.N, ← s.sc] at h1
      have bk := blkOk_by h1
      have sb := fun sh H C cl fp => sit_blk s bk.kind sh H C cl fp
      refine vt rfl (f_lc s.fit (fun j hj => by simpa using List.all_eq_true.mp h2 j hj) (chI_ok hs hl it _ _ X Wx Z s tk h3) bk (fun sh H C cl fp => chT_ok (sb sh H C cl fp) tg _ h4) (fun sh H C cl fp => chc_ok hs hl c _ _ W0 _ (sb sh H C cl fp) takes0 h5) (fun sh H C cl fp => (ch_ok hs hl elt _ _ W0 _ (sb sh H C cl fp) takes0 h6).1) (fun y => okx_set (chI_okx it _ _ h3) X.env y))
    · cases h
theorem chs_ok (hs : Sat W g l pd Fs adr) {n : Nat} (hl : l + 1 ≤ n) : ∀ (e : Es) (x : List Expr) (X : Cx) (Wx : WX) (Z : Zc), Sit X g n Z W → Takes X Wx → pd.chs Z e x = true → PA X x (tL g Wx (evs (pd.gm Fs fuel) e))
  | .nil, x, X, Wx, Z, s, tk, h => by
    simp only [Pd.chs] at h
    split at h
    · exact f_nil
    · cases h
  | .cons e es, x, X, Wx, Z, s, tk, h => by
    simp only [Pd.chs] at h
    split at h
    · simp only [Bool.and_eq_true] at h
      exact f_cons (ch_okx e _ h.1) (ch_ok hs hl e _ X Wx Z s tk h.1).1 (chs_ok hs hl es _ X Wx Z s tk h.2)
    · cases h
theorem bo_ok (hs : Sat W g l pd Fs adr) {n : Nat} (hl : l + 1 ≤ n) : ∀ (e : Es) (isAnd : Bool) (x : List Expr) (X : Cx) (Wx : WX) (Z : Zc), Sit X g n Z W → Takes X Wx → x ≠ [] → pd.chs Z e x = true →
    (∀ pos, PE X (.BoolOp (boOp isAnd) x pos) (tX g Wx (boF isAnd (e.fs (pd.gm Fs fuel))))) ∧ (pd.tsts e x = true → ∀ pos, PW X (.BoolOp (boOp isAnd) x pos) (tT g Wx (boF isAnd (e.fs (pd.gm Fs fuel)))))
  | .nil, isAnd, x, X, Wx, Z, s, tk, hx, h => by
    cases x with
    | nil => exact absurd rfl hx
    | cons y ys => simp only [Pd.chs] at h; cases h
  | .cons e .nil, isAnd, x, X, Wx, Z, s, tk, hx, h => by
    cases x with
    | nil => exact absurd rfl hx
    | cons y ys =>
      rw [Pd.chs, Bool.and_eq_true] at h
      obtain ⟨p, q⟩ := ch_ok hs hl e _ X Wx Z s tk h.1
      cases ys with
      | cons z zs => have h2 := h.2; simp only [Pd.chs] at h2; cases h2
      | nil =>
        refine ⟨fun pos => f_bo1 p, fun ht pos => ?_⟩
        rw [Pd.tsts, Bool.and_eq_true] at ht
        exact f_bo1T (q ht.1)
  | .cons e (.cons f fs), isAnd, x, X, Wx, Z, s, tk, hx, h => by
    cases x with
    | nil => exact absurd rfl hx
    | cons y ys =>
      rw [Pd.chs, Bool.and_eq_true] at h
      obtain ⟨p, q⟩ := ch_ok hs hl e _ X Wx Z s tk h.1
      cases ys with
      | nil => have h2 := h.2; simp only [Pd.chs] at h2; cases h2
      | cons z zs =>
        obtain ⟨p2, q2⟩ := bo_ok hs hl (.cons f fs) isAnd _ X Wx Z s tk (by simp) h.2
        refine ⟨fun pos => f_bo p (p2 pos), fun ht pos => ?_⟩
        rw [Pd.tsts, Bool.and_eq_true] at ht
        exact f_boT (q ht.1) (q2 ht.2 pos)
theorem cho_ok (hs : Sat W g l pd Fs adr) {n : Nat} (hl : l + 1 ≤ n) : ∀ (e : Eo) (x : Option Expr) (X : Cx) (Wx : WX) (Z : Zc), Sit X g n Z W → Takes X Wx → pd.cho Z e x = true → PO X x (tO g Wx (evo (pd.gm Fs fuel) e))
  | .no, x, X, Wx, Z, s, tk, h => by
    simp only [Pd.cho] at h
    split at h
    · exact f_nopart
    · cases h
  | .so a, x, X, Wx, Z, s, tk, h => by
    simp only [Pd.cho] at h
    split at h
    · exact f_part (ch_ok hs hl a _ X Wx Z s tk h).1
    · cases h
theorem chc_ok (hs : Sat W g l pd Fs adr) {n : Nat} (hl : l + 1 ≤ n) : ∀ (e : Eo) (x : List Expr) (X : Cx) (Wx : WX) (Z : Zc), Sit X g n Z W → Takes X Wx → pd.chc Z e x = true → PTs X x (tT g Wx (evc (pd.gm Fs fuel) e))
  | .no, x, X, Wx, Z, s, tk, h => by
    simp only [Pd.chc] at h
    split at h
    · exact f_noif
    · cases h
  | .so a, x, X, Wx, Z, s, tk, h => by
    simp only [Pd.chc] at h
    split at h
    · simp only [Bool.and_eq_true] at h
      exact pts_one ((ch_ok hs hl a _ X Wx Z s tk h.1).2 h.2)
    · cases h
theorem chI_ok (hs : Sat W g l pd Fs adr) {n : Nat} (hl : l + 1 ≤ n) : ∀ (e : Itr) (t x : Expr) (X : Cx) (Wx : WX) (Z : Zc), Sit X g n Z W → Takes X Wx → pd.chI Z e t x = true → PI X t x (tJ X g Wx (evI (pd.gm Fs fuel) e))
  | .any a, t, x, X, Wx, Z, s, tk, h => by
    simp only [Pd.chI] at h
    exact i_any s.fit (ch_ok hs hl a _ X Wx Z s tk h).1
  | .r1 a, t, x, X, Wx, Z, s, tk, h => by
    simp only [Pd.chI] at h
    split at h
    · simp only [Bool.and_eq_true, decide_eq_true_eq] at h
      obtain ⟨⟨⟨rfl, h1⟩, h2⟩, h3⟩ := h
      refine PI.to (i_rng1 (tg := t) (glB_ok s h2).1 (free_ok hs s h1) (ch_okx a _ h3) (f_cons (ch_okx a _ h3) (ch_ok hs hl a _ X Wx Z s tk h3).1 f_nil)) fun σ H R q => ?_
      simp only [Rx.bind_assoc, Rx.bind_ok]
      exact q
    · cases h
  | .r2 a b, t, x, X, Wx, Z, s, tk, h => by
    simp only [Pd.chI] at h
    split at h
    · simp only [Bool.and_eq_true, decide_eq_true_eq] at h
      obtain ⟨⟨⟨⟨rfl, h1⟩, h2⟩, h3⟩, h4⟩ := h
      refine PI.to (i_rng2 (tg := t) (glB_ok s h2).1 (free_ok hs s h1) (ch_okx a _ h3) (ch_okx b _ h4) (f_cons (ch_okx a _ h3) (ch_ok hs hl a _ X Wx Z s tk h3).1 (f_cons (ch_okx b _ h4) (ch_ok hs hl b _ X Wx Z s tk h4).1 f_nil))) fun σ H R q => ?_
      simp only [Rx.bind_assoc, Rx.bind_ok]
      exact q
    · cases h
  | .vs a, t, x, X, Wx, Z, s, tk, h => by
    simp only [Pd.chI] at h
    split at h
    · simp only [Bool.and_eq_true, decide_eq_true_eq] at h
      obtain ⟨⟨rfl, h1⟩, h2⟩ := h
      exact i_vals (ch_okx a _ h2) h1 (ch_ok hs hl a _ X Wx Z s tk h2).1
    · cases h
  | .its a, t, x, X, Wx, Z, s, tk, h => by
    simp only [Pd.chI] at h
    split at h
    · simp only [Bool.and_eq_true, decide_eq_true_eq] at h
      obtain ⟨⟨rfl, h1⟩, h2⟩ := h
      exact i_itms (ch_okx a _ h2) h1 (ch_ok hs hl a _ X Wx Z s tk h2).1
    · cases h
  | .en a, t, x, X, Wx, Z, s, tk, h => by
    simp only [Pd.chI] at h
    split at h
    · simp only [Bool.and_eq_true, decide_eq_true_eq] at h
      obtain ⟨⟨⟨rfl, h1⟩, h2⟩, h3⟩ := h
      refine PI.to (i_enum s.fit (glB_ok s h2).1 (free_ok hs s h1) (ch_okx a _ h3) (f_cons (ch_okx a _ h3) (ch_ok hs hl a _ X Wx Z s tk h3).1 f_nil)) fun σ H R q => ?_
      simp only [Rx.bind_assoc, Rx.bind_ok]
      exact q
    · cases h
  | .r3 a b c, t, x, X, Wx, Z, s, tk, h => by
    simp only [Pd.chI] at h
    split at h
    · simp only [Bool.and_eq_true, decide_eq_true_eq] at h
      obtain ⟨⟨⟨⟨⟨rfl, h1⟩, h2⟩, h3⟩, h4⟩, h5⟩ := h
      refine PI.to (i_rng3 (tg := t) (glB_ok s h2).1 (free_ok hs s h1) (ch_okx a _ h3) (ch_okx b _ h4) (ch_okx c _ h5) (f_cons (ch_okx a _ h3) (ch_ok hs hl a _ X Wx Z s tk h3).1 (f_cons (ch_okx b _ h4) (ch_ok hs hl b _ X Wx Z s tk h4).1 (f_cons (ch_okx c _ h5) (ch_ok hs hl c _ X Wx Z s tk h5).1 f_nil)))) fun σ H R q => ?_
      simp only [Rx.bind_assoc, Rx.bind_ok]
      exact q
    · cases h
end
end
/-! ### within an except suite -/
section
variable {W : Wd} {g : G} {l : Nat} {pd : Pd} {Fs : Nat → Fn} {adr : Nat → Addr} {fuel : Nat}
theorem xt_ok {X Y : Cx} {n : Nat} {Z : Zc} (hs : Sat W g l pd Fs adr) (s : Sit X g n Z W) {a : Addr} {pn : List (Addr × Obj)} (hy : Y = X.suite a pn) {T : Option Nat} {t : Str} (h : pd.xtB T t = true) (hg : glB Z.sc t = true) {c : Nat} {b : Bool} (eb : pd.xs c T = some b) :
    ∃ cv u, ClsV cv u ∧ PySem.W.kitOne X.K (.ref (g.cl c)) u = some b ∧ ∀ pT, PE Y (.Name t pT) (tC cv) := by
  subst hy
  obtain ⟨gx, gd⟩ := glB_ok s hg
  unfold Pd.xs at eb
  split at eb
  · rename_i ic ec
    split at eb
    · rename_i xc
      cases T with
      | none =>
        cases eb
        simp only [Pd.xtB, Bool.and_eq_true, decide_eq_true_eq] at h
        have mg := free_ok hs s h.2
        obtain ⟨rfl⟩ := s.wd
        rw [h.1] at gx gd
        rw [h.1]
        exact ⟨.ty "ValueError", _, .ty _, (hs.xc c ic ec xc).2.2.2.2.2, fun _ => pe_bltn gx mg (by decide +kernel) rfl (by decide) gd⟩
      | some k =>
        simp only at eb
        split at eb
        · rename_i j ej
          split at eb
          · rename_i xj
            cases eb
            simp only [Pd.xtB, ej, Bool.and_eq_true, decide_eq_true_eq] at h
            obtain ⟨rfl⟩ := s.wd
            rw [← h.1] at gx gd ⊢
            exact ⟨.ref (g.cl k), _, .own _, (hs.xk c ic k j ec xc ej xj).1, fun _ => pe_glob gx (hs.xc k j ej xj).2.1 rfl gd⟩
          · cases eb
        · cases eb
    · cases eb
  · cases eb
theorem bad_pe {Y : Cx} {Wx : WX} {x : Expr} {f : Rho → Rx R} (h : ∀ (ρ : Rho) (P : R → Prop) (E : Exc → Prop), (f ρ).hold P E → False) : PE Y x (tX g Wx f) :=
  ⟨fun pins s σ H Q I ⟨M, O, fp, ρ, _, _, z⟩ => (h _ _ _ z).elim⟩
/-- the surroundings of a suite whose exception bears the mark t -/
def Gm.at (Γ : Gm) (t : T) : Gm := { Γ with xa := some t }
theorem xs_on {c : Nat} {T : Option Nat} {b : Bool} (h : pd.xs c T = some b) : ∃ i, pd.cls[c]? = some i ∧ i.xon = true := by
  unfold Pd.xs at h
  split at h
  · rename_i i ei
    split at h
    · exact ⟨i, ei, by assumption⟩
    · cases h
  · cases h
section
variable {X Y : Cx} {n : Nat} {Z : Zc} {Wx : WX} {i : Nat} {t : T} {a c : Nat} {d : Option Addr}
theorem HC.cls (hc : HC X Y g t a c d) : xcT t = some c := by
  rcases hc.t with ⟨rfl, _⟩ | ⟨dd, nm, rfl, _⟩ <;> rfl
theorem HC.y (hc : HC X Y g t a c d) : ∃ pn, Y = X.suite a pn := by
  obtain ⟨oe, pn, h, _⟩ := hc.ex
  exact ⟨_, h⟩
theorem HC.fit (hc : HC X Y g t a c d) (f : FitB X g) : FitB Y g := by
  obtain ⟨pn, rfl⟩ := hc.y
  exact ⟨f.K, f.nd, f.hu65⟩
theorem chX_okx {pd : Pd} {Z : Zc} {i : Nat} (e : E) (x : Expr) (h : pd.chX Z i e x = true) : okx x = true := by
  cases e <;> simp only [Pd.chX] at h <;> first
    | (cases h; done)
    | skip
  all_goals split at h <;> first | rfl | (cases h; done)
mutual
theorem chX_ok (hs : Sat W g l pd Fs adr) (s : Sit X g n Z W) (hc : HC X Y g t a c d) : ∀ (e : E) (x : Expr), pd.chX Z i e x = true → PE Y x (tX g Wx (ev ((pd.gm Fs fuel).at t) e)) ∧ (pd.tst e x = true → PT Y x (tT g Wx (ev ((pd.gm Fs fuel).at t) e)))
  | .var j, x, h => by
    simp only [Pd.chX] at h
    split at h
    · simp only [Bool.and_eq_true, decide_eq_true_eq] at h
      obtain ⟨h1, h2, h3⟩ := visB_ok s h.2
      obtain ⟨pn, rfl⟩ := hc.y
      exact vt rfl (f_var (by show X.N[j]? = _; rw [s.N]; exact h.1) h1 h2 h3)
    · cases h
  | .cst d, x, h => by
    simp only [Pd.chX] at h
    split at h
    · unfold cstB at h
      split at h
      · exact vt rfl (f_cst_non)
      · rw [beq_iff_eq] at h; subst h; exact vt rfl (f_cst_bl)
      · rw [decide_eq_true_eq] at h; subst h; exact vt rfl (f_cst_int)
      · rw [decide_eq_true_eq] at h; subst h; exact vt rfl (f_cst_str)
      · cases h
    · cases h
  | .isX j T, x, h => by
    simp only [Pd.chX] at h
    split at h
    · simp only [Bool.and_eq_true, decide_eq_true_eq] at h
      obtain ⟨⟨⟨⟨⟨⟨⟨rfl, h1⟩, h2⟩, rfl⟩, h3⟩, h4⟩, h5⟩, h6⟩ := h
      obtain ⟨v1, v2, v3⟩ := visB_ok s h4
      have mg := free_ok hs s h1
      refine vt rfl ?_
      cases eb : pd.xs c T with
      | none =>
        refine bad_pe fun ρ P E z => ?_
        simp only [ev] at z
        obtain ⟨t', et, er, z⟩ := markR_hold z
        cases et
        rw [hc.cls] at z
        have z : ((Rx.lift (pd.xs c T)).bind fun b => Rx.ok (rB b)).hold P E := z
        rw [eb] at z
        exact z
      | some b =>
        obtain ⟨ic, ec, xc⟩ := xs_on eb
        obtain ⟨pn, hy⟩ := hc.y
        obtain ⟨cv, u, z1, z2, z3⟩ := xt_ok hs s hy h6 h5 eb
        have e : ev ((pd.gm Fs fuel).at t) (.isX j T) = fun ρ => markR (some t) j ρ fun _ => .ok (rB b) := by
          funext ρ
          simp only [ev]
          show markR (some t) j ρ _ = _
          unfold markR
          simp only
          congr 1
          rw [hc.cls]
          show ((Rx.lift (pd.xs c T)).bind fun b => Rx.ok (rB b)) = _
          rw [eb]; rfl
        rw [e]
        obtain ⟨g1, _⟩ := glB_ok s h2
        have C := (hs.xc c ic ec xc).1
        obtain ⟨rfl⟩ := s.wd
        have wdK : True := trivial
        subst hy
        exact f_isX hc C z1 z2 g1 mg (by show X.N[j]? = _; rw [s.N]; exact h3) v1 v2 v3 (z3 _)
    · cases h
  | .xnm j f, x, h => by
    simp only [Pd.chX] at h
    split at h
    · simp only [Bool.and_eq_true, decide_eq_true_eq] at h
      obtain ⟨⟨⟨⟨rfl, rfl⟩, h3⟩, h4⟩, h5⟩ := h
      obtain ⟨v1, v2, v3⟩ := visB_ok s h4
      refine vt rfl ?_
      have un : ∀ (ρ : Rho) (P : R → Prop) (E : Exc → Prop), (ev ((pd.gm Fs fuel).at t) (.xnm j ‹Str›) ρ).hold P E → (∃ b, pd.xs c none = some b) ∧ ∃ z, xnT t = some z := fun ρ P E z => by
        simp only [ev] at z
        obtain ⟨t', et, er, z⟩ := markR_hold z
        cases et
        rw [hc.cls] at z
        have z : ((Rx.lift ((pd.xs c none).bind fun _ => xnT t)).bind fun z => Rx.ok (rS z)).hold P E := z
        obtain ⟨z1, e1, _⟩ := z.hb.hl
        obtain ⟨b, e2, e3⟩ := Option.bind_eq_some_iff.mp e1
        exact ⟨⟨b, e2⟩, z1, e3⟩
      cases eb : pd.xs c none with
      | none => exact bad_pe fun ρ P E z => by obtain ⟨⟨b, q⟩, _⟩ := un ρ P E z; rw [eb] at q; cases q
      | some b =>
        obtain ⟨ic, ec, xc⟩ := xs_on eb
        have hat := hs.at_ c ic ec
        have xf := List.all_eq_true.mp h5 ic (List.mem_of_getElem? ec)
        simp only [xc, Bool.not_true, Bool.false_or, Bool.or_eq_true, decide_eq_true_eq] at xf
        rcases xf with xf | xf
        · refine bad_pe fun ρ P E z => ?_
          obtain ⟨_, z, ez⟩ := un ρ P E z
          rcases hc.t with ⟨rfl, _⟩ | ⟨dd, nm, rfl, _, hl⟩
          · cases ez
          · rw [hat] at hl
            rw [List.isEmpty_iff.mp xf] at hl
            cases hl
        · have e : ev ((pd.gm Fs fuel).at t) (.xnm j ‹Str›) = fun ρ => markR (some t) j ρ fun t => (Rx.lift (xnT t)).bind fun z => .ok (rS z) := by
            funext ρ
            simp only [ev]
            show markR (some t) j ρ _ = _
            unfold markR
            simp only
            congr 1
            rw [hc.cls]
            show ((Rx.lift ((pd.xs c none).bind fun _ => xnT t)).bind fun z => Rx.ok (rS z)) = _
            rw [eb]; rfl
          rw [e]
          obtain ⟨C, _, _, _, hno, _⟩ := hs.xc c ic ec xc
          obtain ⟨rfl⟩ := s.wd
          obtain ⟨pn, hy⟩ := hc.y
          subst hy
          exact f_xnm hc C (hno _ (by rw [xf]; exact List.mem_cons_self)) (by rw [hat, xf]) (by show X.N[j]? = _; rw [s.N]; exact h3) v1 v2 v3
    · cases h
  | .not a, x, h => by
    simp only [Pd.chX] at h
    split at h
    · obtain ⟨p, q⟩ := chX_ok hs s hc a _ h
      exact ⟨f_not p, fun ht => f_notT (q ht)⟩
    · cases h
  | .lst es, x, h => by
    simp only [Pd.chX] at h
    split at h
    · exact vt rfl (f_lst (chXs_ok hs s hc es _ h))
    · cases h
  | .bin op a b, x, h => by
    simp only [Pd.chX] at h
    split at h
    · simp only [Bool.and_eq_true, decide_eq_true_eq] at h
      obtain ⟨⟨rfl, h1⟩, h2⟩ := h
      exact vt rfl (f_bin (hc.fit s.fit) (chX_ok hs s hc a _ h1).1 (chX_ok hs s hc b _ h2).1)
    · cases h
  | .bo isAnd es, x, h => by
    simp only [Pd.chX] at h
    split at h
    · simp only [Bool.and_eq_true] at h
      rw [boOp_ok h.1]
      have e : ev ((pd.gm Fs fuel).at t) (.bo isAnd es) = boF isAnd (es.fs ((pd.gm Fs fuel).at t)) := funext fun ρ => by simp only [ev]; exact boE_eq es ρ
      rw [e]
      obtain ⟨p, q⟩ := boX_ok hs s hc es isAnd _ (by simp) h.2
      exact ⟨p _, fun ht => (q ht _).pt⟩
    · cases h
  | .glo y, x, h => by simp only [Pd.chX] at h; cases h
  | .neg a, x, h => by simp only [Pd.chX] at h; cases h
  | .cmp op a b, x, h => by simp only [Pd.chX] at h; cases h
  | .chn o1 o2 a b c, x, h => by simp only [Pd.chX] at h; cases h
  | .ife c a b, x, h => by simp only [Pd.chX] at h; cases h
  | .tup es, x, h => by simp only [Pd.chX] at h; cases h
  | .dnew t, x, h => by simp only [Pd.chX] at h; cases h
  | .dtre, x, h => by simp only [Pd.chX] at h; cases h
  | .sub a i, x, h => by simp only [Pd.chX] at h; cases h
  | .slc a lo hi, x, h => by simp only [Pd.chX] at h; cases h
  | .slc3 a lo hi st, x, h => by simp only [Pd.chX] at h; cases h
  | .fld a f j lo hi, x, h => by simp only [Pd.chX] at h; cases h
  | .call y k es, x, h => by simp only [Pd.chX] at h; cases h
  | .mth a m lo hi ks es, x, h => by simp only [Pd.chX] at h; cases h
  | .mk keep y c k es, x, h => by simp only [Pd.chX] at h; cases h
  | .blt b es, x, h => by simp only [Pd.chX] at h; cases h
  | .bm b a es, x, h => by simp only [Pd.chX] at h; cases h
  | .isi T lo hi a, x, h => by simp only [Pd.chX] at h; cases h
  | .dget a k d, x, h => by simp only [Pd.chX] at h; cases h
  | .lvals a, x, h => by simp only [Pd.chX] at h; cases h
  | .svals a, x, h => by simp only [Pd.chX] at h; cases h
  | .skeys a, x, h => by simp only [Pd.chX] at h; cases h
  | .mind a d, x, h => by simp only [Pd.chX] at h; cases h
  | .dis1 k v, x, h => by simp only [Pd.chX] at h; cases h
  | .lc own it tg c elt, x, h => by simp only [Pd.chX] at h; cases h
theorem chXs_ok (hs : Sat W g l pd Fs adr) (s : Sit X g n Z W) (hc : HC X Y g t a c d) : ∀ (e : Es) (x : List Expr), pd.chXs Z i e x = true → PA Y x (tL g Wx (evs ((pd.gm Fs fuel).at t) e))
  | .nil, x, h => by
    simp only [Pd.chXs] at h
    split at h
    · exact f_nil
    · cases h
  | .cons e es, x, h => by
    simp only [Pd.chXs] at h
    split at h
    · simp only [Bool.and_eq_true] at h
      exact f_cons (chX_okx e _ h.1) (chX_ok hs s hc e _ h.1).1 (chXs_ok hs s hc es _ h.2)
    · cases h
theorem boX_ok (hs : Sat W g l pd Fs adr) (s : Sit X g n Z W) (hc : HC X Y g t a c d) : ∀ (e : Es) (isAnd : Bool) (x : List Expr), x ≠ [] → pd.chXs Z i e x = true →
    (∀ pos, PE Y (.BoolOp (boOp isAnd) x pos) (tX g Wx (boF isAnd (e.fs ((pd.gm Fs fuel).at t))))) ∧ (pd.tsts e x = true → ∀ pos, PW Y (.BoolOp (boOp isAnd) x pos) (tT g Wx (boF isAnd (e.fs ((pd.gm Fs fuel).at t)))))
  | .nil, isAnd, x, hx, h => by
    cases x with
    | nil => exact absurd rfl hx
    | cons y ys => simp only [Pd.chXs] at h; cases h
  | .cons e .nil, isAnd, x, hx, h => by
    cases x with
    | nil => exact absurd rfl hx
    | cons y ys =>
      rw [Pd.chXs, Bool.and_eq_true] at h
      obtain ⟨p, q⟩ := chX_ok hs s hc e _ h.1
      cases ys with
      | cons z zs => have h2 := h.2; simp only [Pd.chXs] at h2; cases h2
      | nil =>
        refine ⟨fun pos => f_bo1 p, fun ht pos => ?_⟩
        rw [Pd.tsts, Bool.and_eq_true] at ht
        exact f_bo1T (q ht.1)
  | .cons e (.cons f fs), isAnd, x, hx, h => by
    cases x with
    | nil => exact absurd rfl hx
    | cons y ys =>
      rw [Pd.chXs, Bool.and_eq_true] at h
      obtain ⟨p, q⟩ := chX_ok hs s hc e _ h.1
      cases ys with
      | nil => have h2 := h.2; simp only [Pd.chXs] at h2; cases h2
      | cons z zs =>
        obtain ⟨p2, q2⟩ := boX_ok hs s hc (.cons f fs) isAnd _ (by simp) h.2
        refine ⟨fun pos => f_bo p (p2 pos), fun ht pos => ?_⟩
        rw [Pd.tsts, Bool.and_eq_true] at ht
        exact f_boT (q ht.1) (q2 ht.2 pos)
end
end
end
end
end Q

end

section
set_option Elab.async false
set_option linter.all false
set_option maxRecDepth 100000
set_option maxHeartbeats 2000000
/-! Q21: the check of statements, and what follows. -/
namespace Q
noncomputable section
open PySem PySem.Spec L2
open PyProof.Rows hiding St

/-! ### the check -/
def swB (Z : Zc) (v : Expr) (y : Str) (py : Pos) : Bool := match v with
  | .ListComp _ _ scope pos => (Z.sc.names.lookup y == some .local) && (py.line == pos.line) && !(scope.names.any fun (n, k) => n == y && (k == .local || k == .cell))
  | _ => false
def locB' (Z : Zc) (x : Str) : Bool := match Z.sc.names.lookup x with
  | some .local => true
  | _ => false
def lclB (sc : Scope) (x : Str) : Bool := match sc.names.lookup x with
  | some .local => true
  | _ => false
theorem lclB_ok {sc : Scope} {x : Str} (h : lclB sc x = true) : sc.names.lookup x = some .local := by
  unfold lclB at h
  split at h
  · assumption
  · cases h
namespace Pd
variable (pd : Pd)
def rseB (x : Str) (c : Nat) (one : Bool) : Bool := match pd.cls[c]? with
  | some i => decide (i.x = x) && i.xon && (i.ini.isSome == one)
  | none => false
def chP (Z : Zc) : Pa → Expr → Bool
  | .nm i, e => (match e with
    | .Name x _ => decide (Z.N[i]? = some x) && visB Z.sc x
    | _ => false)
  | .fld p f j lo hi, e => (match e with
    | .Attribute l m _ => decide (m = f) && chP Z p l && pd.fldB f j lo hi
    | _ => false)
  | .sub p k, e => (match e with
    | .Subscript l r _ => chP Z p l && pd.ch Z k r
    | _ => false)
def chA (Z : Zc) : Ac → Expr → Bool
  | .e e, x => pd.ch Z e x
  | .mv i, x => (match x with
    | .Name x _ => decide (Z.N[i]? = some x) && visB Z.sc x
    | _ => false)
  | .iom p m lo hi ks es, x => (match x with
    | .Call (.Attribute l y apos) xs [] pos => decide (y = m) && chP pd Z p l && pd.chs Z es xs && pd.methB m lo hi ks es.len && (apos.endLine == pos.line) && decide (xs.length < 30)
    | _ => false)
  | .ioi x c p k es, e => (match e with
    | .Call (.Attribute (.Name y _) m apos) (z :: zs) [] pos => decide (m = "__init__") && decide (y = x) && glB Z.sc x && chP pd Z p z && pd.chs Z es zs && pd.makeB x c k es.len && (apos.endLine == pos.line) && decide ((z :: zs).length < 30)
    | _ => false)
  | .iof x p k es, e => (match e with
    | .Call (.Name y _) (z :: zs) [] _ => decide (y = x) && glB Z.sc x && chP pd Z p z && pd.chs Z es zs && pd.callB x k (es.len + 1)
    | _ => false)
mutual
def chS (Z : Zc) (io : List Nat) : S → Stmt → Bool
  | .asg i e, st => (match st with
    | .Assign [.Name x py] v _ => decide (Z.N[i]? = some x) && locB Z x && !io.contains i && pd.ch Z e v && !swB Z v x py
    | _ => false)
  | .asgLc i e, st => (match st with
    | .Assign [.Name x py] v _ => decide (Z.N[i]? = some x) && !io.contains i && pd.ch Z e v && swB Z v x py
    | _ => false)
  | .asgT t e, st => (match st with
    | .Assign [.Tuple es k p] v _ => chT Z t (.Tuple es k p) && (t.sl.all fun j => !io.contains j) && pd.ch Z e v && !isTup v
    | _ => false)
  | .sw2 i j a b, st => (match st with
    | .Assign [.Tuple [.Name x px, .Name y py] _ _] (.Tuple [u, v] _ _) _ => decide (Z.N[i]? = some x) && decide (Z.N[j]? = some y) && decide (i ≠ j) && decide (x ≠ y) && lclB Z.sc x && lclB Z.sc y && !io.contains i && !io.contains j && (px.line == py.line) && swOk u v && pd.ch Z a u && pd.ch Z b v
    | _ => false)
  | .ex e, st => (match st with
    | .Expr v _ => pd.ch Z e v && !isLc v
    | _ => false)
  | .asgA i a, st => (match st with
    | .Assign [.Name x py] v _ => decide (Z.N[i]? = some x) && locB Z x && !io.contains i && chA pd Z a v && okx v && !swB Z v x py
    | _ => false)
  | .exA a, st => (match st with
    | .Expr v _ => chA pd Z a v && okx v && !isLc v
    | _ => false)
  | .retA a, st => (match st with
    | .Return (some v) _ => chA pd Z a v
    | _ => false)
  | .ret e, st => (match st with
    | .Return (some v) _ => pd.ch Z e v
    | _ => false)
  | .retN, st => (match st with
    | .Return none _ => true
    | _ => false)
  | .retv i, st => (match st with
    | .Return (some (.Name x _)) _ => decide (Z.N[i]? = some x) && visB Z.sc x
    | _ => false)
  | .pass, st => (match st with
    | .Pass _ => true
    | _ => false)
  | .brk, st => (match st with
    | .Break _ => true
    | _ => false)
  | .cnt, st => (match st with
    | .Continue _ => true
    | _ => false)
  | .doc, st => (match st with
    | .Expr (.Constant (.str _) _ _) _ => true
    | _ => false)
  | .nev, _ => true
  | .if_ c p q, st => (match st with
    | .If t a b _ => pd.ch Z c t && pd.tst c t && chSs Z io p a && chSs Z io q b
    | _ => false)
  | .whl c b, st => (match st with
    | .While t a [] _ => pd.ch Z c t && pd.tst c t && chSs Z io b a
    | _ => false)
  | .for_ t it b, st => (match st with
    | .For tg i a [] _ => chT Z t tg && (t.sl.all fun j => !io.contains j) && pd.chI Z it tg i && chSs Z io b a
    | _ => false)
  | .app p e, st => (match st with
    | .Expr (.Call (.Attribute a m apos) [v] [] cpos) _ => decide (m = "append") && (apos.endLine == cpos.line) && chP pd Z p a && pd.ch Z e v
    | _ => false)
  | .ext p e, st => (match st with
    | .Expr (.Call (.Attribute a m apos) [v] [] cpos) _ => decide (m = "extend") && (apos.endLine == cpos.line) && chP pd Z p a && pd.ch Z e v
    | _ => false)
  | .clr p, st => (match st with
    | .Expr (.Call (.Attribute a m apos) [] [] cpos) _ => decide (m = "clear") && (apos.endLine == cpos.line) && chP pd Z p a
    | _ => false)
  | .put p k a, st => (match st with
    | .Assign [.Subscript l r _] v _ => chP pd Z p l && pd.ch Z k r && chA pd Z a v && okx v
    | _ => false)
  | .fset p f j lo hi a, st => (match st with
    | .Assign [.Attribute l m _] v _ => decide (m = f) && chP pd Z p l && pd.fldB f j lo hi && chA pd Z a v && okx v
    | _ => false)
  | .aug op i e, st => (match st with
    | .AugAssign (.Name x _) o v _ => decide (o = op) && (decide (op = .Add) || decide (op = .Sub)) && decide (Z.N[i]? = some x) && locB Z x && !io.contains i && pd.ch Z e v
    | _ => false)
  | .augs op p k e, st => (match st with
    | .AugAssign (.Subscript l r _) o v _ => decide (o = op) && (decide (op = .Add) || decide (op = .Sub)) && chP pd Z p l && pd.ch Z k r && pd.ch Z e v
    | _ => false)
  | .rse x c, st => (match st with
    | .Raise (some (.Call (.Name y _) [.Constant (.str _) _ _] [] _)) none _ => decide (y = x) && glB Z.sc x && pd.rseB x c false
    | _ => false)
  | .rse1 x c e, st => (match st with
    | .Raise (some (.Call (.Name y _) [v] [] _)) none _ => decide (y = x) && glB Z.sc x && pd.rseB x c true && pd.ch Z e v
    | _ => false)
  | .try_ b x c i h, st => (match st with
    | .Try body [.ExceptHandler (some (.Name y _)) (some nm) (b0 :: suite) _] [] [] _ => Z.top && decide (y = x) && glB Z.sc x && pd.xtB (some c) x && decide (Z.N[i]? = some nm) && locB' Z nm && !io.contains i && chSs Z io b body && pd.chHs Z (i :: io) i h (b0 :: suite)
    | _ => false)
def chSs (Z : Zc) (io : List Nat) : Ss → List Stmt → Bool
  | .nil, ss => (match ss with
    | [] => true
    | _ => false)
  | .cons s ss, l => (match l with
    | x :: xs => chS Z io s x && chSs Z io ss xs
    | _ => false)
  | .frz _ ss, l => chSs Z io ss l
  | .frf _ _ ss, l => chSs Z io ss l
  | .fgt _ ss, l => chSs Z io ss l
end
end Pd

/-! ### what follows -/
theorem sw_calc {X : Cx} {g : G} {n : Nat} {Z : Zc} {W : Wd} (s : Sit X g n Z W) {v : Expr} {y : Str} {py : Pos} (l : Nat) (h : okx v = true) (hz : swB Z v y py = false) : swapsWith v (some (.Name y py)) l X.env = pure false := by
  cases v with
  | ListComp elt gs scope pos =>
    have hb : X.env.blockKind = .function := by unfold Env.blockKind; rw [s.kind]; rfl
    unfold swB at hz
    rw [← s.sc] at hz
    unfold swapsWith
    simp only [hb, Expr.pos]
    show pure _ = pure false
    congr 1
  | _ => first | rfl | (simp [okx] at h; done)
section
variable {W : Wd} {g : G} {l : Nat} {pd : Pd} {Fs : Nat → Fn} {adr : Nat → Addr} {fuel : Nat}
theorem chP_okx {Z : Zc} (e : Pa) (x : Expr) (h : pd.chP Z e x = true) : okx x = true := by
  cases e <;> simp only [Pd.chP] at h <;> split at h <;> first | rfl | (cases h; done)
theorem chP_ok (hs : Sat W g l pd Fs adr) {n : Nat} (hl : l + 1 ≤ n) {X : Cx} {Wx : WX} {Z : Zc} (s : Sit X g n Z W) (tk : Takes X Wx) : ∀ (e : Pa) (x : Expr), pd.chP Z e x = true → PE X x (tP g Wx (evP (pd.gm Fs fuel) e))
  | .nm i, x, h => by
    simp only [Pd.chP] at h
    split at h
    · simp only [Bool.and_eq_true, decide_eq_true_eq] at h
      obtain ⟨h1, h2, h3⟩ := visB_ok s h.2
      exact p_nm (by rw [s.N]; exact h.1) h1 h2 h3
    · cases h
  | .fld p f j lo hi, x, h => by
    simp only [Pd.chP] at h
    split at h
    · simp only [Bool.and_eq_true, decide_eq_true_eq] at h
      obtain ⟨⟨rfl, h1⟩, h2⟩ := h
      exact p_fld s.fit (chP_okx p _ h1) (fld_sat hs h2) (chP_ok hs hl s tk p _ h1)
    · cases h
  | .sub p k, x, h => by
    simp only [Pd.chP] at h
    split at h
    · simp only [Bool.and_eq_true] at h
      exact p_sub s.fit (ch_okx k _ h.2) (chP_ok hs hl s tk p _ h.1) (ch_ok hs hl k _ X Wx Z s tk h.2).1
    · cases h
theorem chA_ok (hs : Sat W g l pd Fs adr) {n : Nat} (hl : l + 1 ≤ n) {X : Cx} {Wx : WX} {Z : Zc} {io : List Nat} (s : Sit X g n Z W) (tk : Takes X Wx) (a : Ac) (x : Expr) (h : pd.chA Z a x = true) : PE X x (tA g Wx io (evA (pd.gm Fs fuel) a)) := by
  cases a with
  | e e =>
    simp only [Pd.chA] at h
    exact a_E (ch_ok hs hl e _ X Wx Z s tk h).1
  | mv i =>
    simp only [Pd.chA] at h
    split at h
    · simp only [Bool.and_eq_true, decide_eq_true_eq] at h
      obtain ⟨h1, h2, h3⟩ := visB_ok s h.2
      exact a_mv (by rw [s.N]; exact h.1) h1 h2 h3
    · cases h
  | iom p m lo hi ks es =>
    simp only [Pd.chA] at h
    split at h
    · rename_i xs _
      simp only [Bool.and_eq_true, decide_eq_true_eq] at h
      obtain ⟨⟨⟨⟨⟨rfl, h1⟩, h2⟩, h3⟩, h4⟩, h5⟩ := h
      obtain ⟨o1, o2⟩ := chs_okxs es _ h2
      have sat := meth_sat (fuel := fuel) hs s hl h3
      have args := chs_ok (fuel := fuel) hs hl es _ X Wx Z s tk h2
      have ho := chP_ok (fuel := fuel) hs hl s tk p _ h1
      have o0 := o1
      cases xs with
      | nil =>
        cases es with
        | nil => exact a_iom0 s.fit tk sat ho (by simp [Es.len]) (meth_ht (chP_okx p _ h1) o0 h5 h4)
        | cons _ _ => simp [Es.len] at o2
      | cons z zs =>
        simp only [okxs, Bool.and_eq_true] at o1
        exact a_iom s.fit tk sat ho o1.1 o1.2 args (by rw [o2]; rfl) (fun ρ rs e => by rw [evs_len es ρ rs e, o2]) (meth_ht (chP_okx p _ h1) o0 h5 h4)
    · cases h
  | ioi y c p k es =>
    simp only [Pd.chA] at h
    split at h
    · simp only [Bool.and_eq_true, decide_eq_true_eq] at h
      obtain ⟨⟨⟨⟨⟨⟨⟨rfl, rfl⟩, h1⟩, h2⟩, h3⟩, h4⟩, h5⟩, h6⟩ := h
      obtain ⟨g1, _⟩ := glB_ok s h1
      obtain ⟨o1, o2⟩ := chs_okxs es _ h3
      have sat := init_sat (fuel := fuel) hs s hl h4
      have args := chs_ok (fuel := fuel) hs hl es _ X Wx Z s tk h3
      have ho := chP_ok (fuel := fuel) hs hl s tk p _ h2
      have oz := chP_okx p _ h2
      exact a_ioi s.fit tk sat g1 ho oz o1 args (by rw [o2]; omega) (fun ρ rs e => by rw [evs_len es ρ rs e, o2]) (meth_ht rfl (by simp only [okxs, oz, o1, Bool.and_self]) h6 h5)
    · cases h
  | iof y p k es =>
    simp only [Pd.chA] at h
    split at h
    · simp only [Bool.and_eq_true, decide_eq_true_eq] at h
      obtain ⟨⟨⟨⟨rfl, h1⟩, h2⟩, h3⟩, h4⟩ := h
      obtain ⟨g1, _⟩ := glB_ok s h1
      obtain ⟨o1, o2⟩ := chs_okxs es _ h3
      have sat := call_sat (fuel := fuel) hs s hl h4
      have args := chs_ok (fuel := fuel) hs hl es _ X Wx Z s tk h3
      exact a_iof s.fit tk sat g1 (chP_ok (fuel := fuel) hs hl s tk p _ h2) (chP_okx p _ h2) o1 args (by rw [o2]) (fun ρ rs e => by rw [evs_len es ρ rs e, o2])
    · cases h
theorem aug_st {k : Expr} (h : okx k = true) : ∀ ov iv new, augStore k ov iv new = (do holding [new, ov, iv] (setItem ov iv new); release [new, ov, iv] []; pure .next) := by
  intro ov iv new
  cases k <;> first | rfl | (simp [okx] at h; done)
theorem notio {io : List Nat} {i : Nat} (h : (!io.contains i) = true) : i ∉ io := by simpa using h
theorem opAS {op : Operator} (h : (decide (op = .Add) || decide (op = .Sub)) = true) : op = .Add ∨ op = .Sub := by simpa using h
/-! ### within an except suite -/
theorem chX_lc {Z : Zc} {i : Nat} (e : E) (x : Expr) (h : pd.chX Z i e x = true) : isLc x = false := by
  cases e <;> simp only [Pd.chX] at h <;> first
    | (cases h; done)
    | skip
  all_goals split at h <;> first | rfl | (cases h; done)
section
variable {X Y : Cx} {n : Nat} {Z : Zc} {Wx : WX} {i : Nat} {t : T} {a c : Nat} {d : Option Addr} {io : List Nat}
mutual
theorem chH_ok (hs : Sat W g l pd Fs adr) (s : Sit X g n Z W) (hc : HC X Y g t a c d) : ∀ (h : S) (st : Stmt), pd.chH Z io i h st = true → PS Y st (tS g Wx io (evS ((pd.gm Fs fuel).at t) h))
  | .asg j e, st, h => by
    simp only [Pd.chH] at h
    split at h
    · simp only [Bool.and_eq_true, decide_eq_true_eq] at h
      obtain ⟨⟨⟨h1, h2⟩, h3⟩, h4⟩ := h
      obtain ⟨q1, q2⟩ := locB_ok s h2
      have fb := hc.fit s.fit
      have p := (chX_ok (fuel := fuel) (Wx := Wx) hs s hc e _ h4).1
      obtain ⟨pn, rfl⟩ := hc.y
      exact s_asg fb (notio h3) (by show X.N[j]? = _; rw [s.N]; exact h1) q1 q2 (sw_no (chX_okx e _ h4) (chX_lc e _ h4) _ _ _) p
    · cases h
  | .ret e, st, h => by
    simp only [Pd.chH] at h
    split at h
    · exact s_ret (chX_ok hs s hc e _ h).1
    · cases h
  | .if_ c p q, st, h => by
    simp only [Pd.chH] at h
    split at h
    · simp only [Bool.and_eq_true] at h
      exact s_if ((chX_ok hs s hc c _ h.1.1.1).2 h.1.1.2) (chHs_ok hs s hc p _ h.1.2) (chHs_ok hs s hc q _ h.2)
    · cases h
  | .asgLc i e, st, hh => by simp only [Pd.chH] at hh; cases hh
  | .asgT t e, st, hh => by simp only [Pd.chH] at hh; cases hh
  | .sw2 i j a b, st, hh => by simp only [Pd.chH] at hh; cases hh
  | .ex e, st, hh => by simp only [Pd.chH] at hh; cases hh
  | .asgA i a, st, hh => by simp only [Pd.chH] at hh; cases hh
  | .exA a, st, hh => by simp only [Pd.chH] at hh; cases hh
  | .retA a, st, hh => by simp only [Pd.chH] at hh; cases hh
  | .retN, st, hh => by simp only [Pd.chH] at hh; cases hh
  | .retv i, st, hh => by simp only [Pd.chH] at hh; cases hh
  | .pass, st, hh => by simp only [Pd.chH] at hh; cases hh
  | .brk, st, hh => by simp only [Pd.chH] at hh; cases hh
  | .cnt, st, hh => by simp only [Pd.chH] at hh; cases hh
  | .doc, st, hh => by simp only [Pd.chH] at hh; cases hh
  | .nev, st, hh => by simp only [Pd.chH] at hh; cases hh
  | .whl c b, st, hh => by simp only [Pd.chH] at hh; cases hh
  | .for_ t it b, st, hh => by simp only [Pd.chH] at hh; cases hh
  | .app p e, st, hh => by simp only [Pd.chH] at hh; cases hh
  | .ext p e, st, hh => by simp only [Pd.chH] at hh; cases hh
  | .clr p, st, hh => by simp only [Pd.chH] at hh; cases hh
  | .put p k a, st, hh => by simp only [Pd.chH] at hh; cases hh
  | .fset p f j lo hi a, st, hh => by simp only [Pd.chH] at hh; cases hh
  | .aug op i e, st, hh => by simp only [Pd.chH] at hh; cases hh
  | .augs op p k e, st, hh => by simp only [Pd.chH] at hh; cases hh
  | .rse x c, st, hh => by simp only [Pd.chH] at hh; cases hh
  | .rse1 x c e, st, hh => by simp only [Pd.chH] at hh; cases hh
  | .try_ b x c i h, st, hh => by simp only [Pd.chH] at hh; cases hh
theorem chHs_ok (hs : Sat W g l pd Fs adr) (s : Sit X g n Z W) (hc : HC X Y g t a c d) : ∀ (h : Ss) (st : List Stmt), pd.chHs Z io i h st = true → PSs Y st (tS g Wx io (evSs ((pd.gm Fs fuel).at t) h))
  | .nil, st, h => by
    simp only [Pd.chHs] at h
    split at h
    · exact ss_nil
    · cases h
  | .cons t ts, st, h => by
    simp only [Pd.chHs] at h
    split at h
    · simp only [Bool.and_eq_true] at h
      exact ss_cons (chH_ok hs s hc t _ h.1) (chHs_ok hs s hc ts _ h.2)
    · cases h
  | .frf _ _ _, st, h => by simp only [Pd.chHs] at h; cases h
  | .frz j ts, st, h => by
    simp only [Pd.chHs] at h
    exact ss_ghost (frzT_ok (i := j)) (chHs_ok hs s hc ts _ h)
  | .fgt j ts, st, h => by
    simp only [Pd.chHs] at h
    exact ss_ghost (fgt_ok (i := j)) (chHs_ok hs s hc ts _ h)
end
end
theorem sit_tr {X : Cx} {n : Nat} {Z : Zc} (s : Sit X g n Z W) (pn : List (Addr × Obj)) (xe : Value → Shared → Prop) : Sit (X.tr pn xe) g n Z W := by
  obtain ⟨f, h1, h2, h3, h4, h5, h6⟩ := s
  exact ⟨⟨f.K, f.calm, f.nd, f.room⟩, h1, h2, h3, h4, h5, h6⟩
theorem exm_ok {X : Cx} {n : Nat} {Z : Zc} (hs : Sat W g l pd Fs adr) (s : Sit X g n Z W) {c c' : Nat} {b : Bool} (h : pd.xs c' (some c) = some b) : PySem.W.exmOne X.K (.ref (g.cl c')) (.ref (g.cl c)) = some b := by
  obtain ⟨i, ei, xi⟩ := xs_on h
  unfold Pd.xs at h
  rw [ei] at h
  simp only [xi, if_true] at h
  split at h
  · rename_i j ej
    split at h
    · rename_i xj
      cases h
      obtain ⟨rfl⟩ := s.wd
      exact (hs.xk c' i c j ei xi ej xj).2
    · cases h
  · cases h
theorem xt_mg {X : Cx} {n : Nat} {Z : Zc} (hs : Sat W g l pd Fs adr) (s : Sit X g n Z W) {c : Nat} {x : Str} (h2 : pd.xtB (some c) x = true) : X.mg x = some (.ref (g.cl c)) := by
  simp only [Pd.xtB] at h2
  split at h2
  · rename_i j ej
    simp only [Bool.and_eq_true, decide_eq_true_eq] at h2
    have z := (hs.xc c j ej h2.2).2.1
    obtain ⟨rfl⟩ := s.wd
    rw [h2.1] at z
    exact z
  · cases h2
theorem rse_ok {x : Str} {c : Nat} {one : Bool} (h : pd.rseB x c one = true) : ∃ i, pd.cls[c]? = some i ∧ i.x = x ∧ i.xon = true ∧ i.ini.isSome = one := by
  unfold Pd.rseB at h
  split at h
  · rename_i i ei
    simp only [Bool.and_eq_true, decide_eq_true_eq, beq_iff_eq] at h
    exact ⟨i, ei, h.1.1, h.1.2, h.2⟩
  · cases h
mutual
theorem chS_ok (hs : Sat W g l pd Fs adr) {n : Nat} (hl : l + 1 ≤ n) : ∀ (t : S) (st : Stmt) (X : Cx) (Wx : WX) (Z : Zc) (io : List Nat), Sit X g n Z W → Takes X Wx → PassesOwn (model X.prog X.w) X.A X.env X.xe → pd.chS Z io t st = true → PS X st (tS g Wx io (evS (pd.gm Fs fuel) t))
  | .asg i e, st, X, Wx, Z, io, s, tk, po, h => by
    simp only [Pd.chS] at h
    split at h
    · simp only [Bool.and_eq_true, decide_eq_true_eq] at h
      obtain ⟨⟨⟨⟨h1, h2⟩, h3⟩, h4⟩, h5⟩ := h
      obtain ⟨q1, q2⟩ := locB_ok s h2
      exact s_asg s.fit (notio h3) (by rw [s.N]; exact h1) q1 q2 (sw_calc s _ (ch_okx e _ h4) (by simpa using h5)) (ch_ok hs hl e _ X Wx Z s tk h4).1
    · cases h
  | .asgLc i e, st, X, Wx, Z, io, s, tk, po, h => by
    simp only [Pd.chS] at h
    split at h
    · simp only [Bool.and_eq_true, decide_eq_true_eq] at h
      obtain ⟨⟨⟨h1, h3⟩, h4⟩, h5⟩ := h
      cases e with
      | lc own it tg c elt =>
        simp only [Pd.ch] at h4
        split at h4
        · simp only [Bool.and_eq_true] at h4
          obtain ⟨⟨⟨⟨⟨k1, k2⟩, k3⟩, k4⟩, k5⟩, k6⟩ := h4
          rw [← s.N, ← s.sc] at k1
          have bk := blkOk_by k1
          have sb := fun sh H C cl fp => sit_blk s bk.kind sh H C cl fp
          simp only [swB, Bool.and_eq_true, Bool.not_eq_true', beq_iff_eq] at h5
          rw [← s.sc] at h5
          exact s_asgLc s.fit (notio h3) (by rw [s.N]; exact h1) h5.1.1 s.kind (by simpa using h5.1.2) h5.2 (fun j hj => by simpa using List.all_eq_true.mp k2 j hj) (chI_ok hs hl it _ _ X Wx Z s tk k3) bk (fun sh H C cl fp => chT_ok (sb sh H C cl fp) tg _ k4) (fun sh H C cl fp => chc_ok hs hl c _ _ W0 _ (sb sh H C cl fp) takes0 k5) (fun sh H C cl fp => (ch_ok hs hl elt _ _ W0 _ (sb sh H C cl fp) takes0 k6).1) (fun y => okx_set (chI_okx it _ _ k3) X.env y)
        · cases h4
      | _ =>
        exfalso
        simp only [Pd.ch] at h4
        first
          | (cases h4; done)
          | (split at h4 <;> first | (simp [swB] at h5; done) | (cases h4; done))
    · cases h
  | .asgT t e, st, X, Wx, Z, io, s, tk, po, h => by
    simp only [Pd.chS] at h
    split at h
    · simp only [Bool.and_eq_true] at h
      obtain ⟨⟨⟨h1, h2⟩, h3⟩, h4⟩ := h
      exact s_asgT (fun j hj => notio (List.all_eq_true.mp h2 j hj)) (chT_ok s t _ h1) (sw_tup (ch_okx e _ h3) _ _) (ss_tup (ch_okx e _ h3) (by simpa using h4) _) rfl (ch_ok hs hl e _ X Wx Z s tk h3).1
    · cases h
  | .sw2 i j a b, st, X, Wx, Z, io, s, tk, po, h => by
    simp only [Pd.chS] at h
    split at h
    · rename_i x px y py _ _ u v _ _ _
      simp only [Bool.and_eq_true, decide_eq_true_eq] at h
      obtain ⟨⟨⟨⟨⟨⟨⟨⟨⟨⟨⟨h1, h2⟩, h3⟩, h4⟩, h5⟩, h6⟩, h7⟩, h8⟩, h9⟩, h10⟩, h11⟩, h12⟩ := h
      have hb : X.env.blockKind = .function := by unfold Env.blockKind; rw [s.kind]; rfl
      have l1 : X.env.scope.names.lookup x = some .local := by rw [s.sc]; exact lclB_ok h5
      have l2 : X.env.scope.names.lookup y = some .local := by rw [s.sc]; exact lclB_ok h6
      exact s_sw2 s.fit.calm s.fit.nd (by rw [s.N]; exact h1) (by rw [s.N]; exact h2) h3 l1 l2 (notio h7) (notio h8) (chs_ok hs hl (.cons a (.cons b .nil)) [u, v] X Wx Z s tk (by simp only [Pd.chs, h11, h12, Bool.and_self])) (sw_pair hb l1 l2 h4 h9 h10)
    · cases h
  | .ex e, st, X, Wx, Z, io, s, tk, po, h => by
    simp only [Pd.chS] at h
    split at h
    · simp only [Bool.and_eq_true] at h
      exact s_expr (sw_no (ch_okx e _ h.1) (by simpa using h.2) _ _ _) (ch_ok hs hl e _ X Wx Z s tk h.1).1
    · cases h
  | .asgA i a, st, X, Wx, Z, io, s, tk, po, h => by
    simp only [Pd.chS] at h
    split at h
    · simp only [Bool.and_eq_true, decide_eq_true_eq] at h
      obtain ⟨⟨⟨⟨⟨h1, h2⟩, h3⟩, h4⟩, h5⟩, h6⟩ := h
      obtain ⟨q1, q2⟩ := locB_ok s h2
      exact s_asgA s.fit (notio h3) (by rw [s.N]; exact h1) q1 q2 (sw_calc s _ h5 (by simpa using h6)) (chA_ok hs hl s tk a _ h4)
    · cases h
  | .exA a, st, X, Wx, Z, io, s, tk, po, h => by
    simp only [Pd.chS] at h
    split at h
    · simp only [Bool.and_eq_true] at h
      exact s_exprA (sw_no h.1.2 (by simpa using h.2) _ _ _) (chA_ok hs hl s tk a _ h.1.1)
    · cases h
  | .retA a, st, X, Wx, Z, io, s, tk, po, h => by
    simp only [Pd.chS] at h
    split at h
    · exact s_retA (chA_ok hs hl s tk a _ h)
    · cases h
  | .ret e, st, X, Wx, Z, io, s, tk, po, h => by
    simp only [Pd.chS] at h
    split at h
    · exact s_ret (ch_ok hs hl e _ X Wx Z s tk h).1
    · cases h
  | .retN, st, X, Wx, Z, io, s, tk, po, h => by
    simp only [Pd.chS] at h
    split at h
    · exact s_retN
    · cases h
  | .retv i, st, X, Wx, Z, io, s, tk, po, h => by
    simp only [Pd.chS] at h
    split at h
    · simp only [Bool.and_eq_true, decide_eq_true_eq] at h
      obtain ⟨h1, h2, h3⟩ := visB_ok s h.2
      exact s_retT (by rw [s.N]; exact h.1) h1 h2 h3
    · cases h
  | .pass, st, X, Wx, Z, io, s, tk, po, h => by
    simp only [Pd.chS] at h
    split at h
    · exact s_pass
    · cases h
  | .brk, st, X, Wx, Z, io, s, tk, po, h => by
    simp only [Pd.chS] at h
    split at h
    · exact s_break
    · cases h
  | .cnt, st, X, Wx, Z, io, s, tk, po, h => by
    simp only [Pd.chS] at h
    split at h
    · exact s_cont
    · cases h
  | .doc, st, X, Wx, Z, io, s, tk, po, h => by
    simp only [Pd.chS] at h
    split at h
    · exact s_doc
    · cases h
  | .nev, st, X, Wx, Z, io, s, tk, po, h => s_never
  | .if_ c p q, st, X, Wx, Z, io, s, tk, po, h => by
    simp only [Pd.chS] at h
    split at h
    · simp only [Bool.and_eq_true] at h
      exact s_if ((ch_ok hs hl c _ X Wx Z s tk h.1.1.1).2 h.1.1.2) (chSs_ok hs hl p _ X Wx Z io s tk po h.1.2) (chSs_ok hs hl q _ X Wx Z io s tk po h.2)
    · cases h
  | .whl c b, st, X, Wx, Z, io, s, tk, po, h => by
    simp only [Pd.chS] at h
    split at h
    · simp only [Bool.and_eq_true] at h
      exact s_while po ((ch_ok hs hl c _ X Wx Z s tk h.1.1).2 h.1.2) (chSs_ok hs hl b _ X Wx Z io s tk po h.2)
    · cases h
  | .for_ t it b, st, X, Wx, Z, io, s, tk, po, h => by
    simp only [Pd.chS] at h
    split at h
    · simp only [Bool.and_eq_true] at h
      obtain ⟨⟨⟨h1, h2⟩, h3⟩, h4⟩ := h
      exact s_for s.fit (fun j hj => notio (List.all_eq_true.mp h2 j hj)) po (fun y => okx_set (chI_okx it _ _ h3) X.env y) (chI_ok hs hl it _ _ X Wx Z s tk h3) (chT_ok s t _ h1) (chSs_ok hs hl b _ X (unW X Wx) Z io s (takes_un tk) po h4)
    · cases h
  | .app p e, st, X, Wx, Z, io, s, tk, po, h => by
    simp only [Pd.chS] at h
    split at h
    · simp only [Bool.and_eq_true, decide_eq_true_eq] at h
      obtain ⟨⟨⟨rfl, h2⟩, h3⟩, h4⟩ := h
      exact s_app h2 (chP_okx p _ h3) (ch_okx e _ h4) (chP_ok hs hl s tk p _ h3) (ch_ok hs hl e _ X Wx Z s tk h4).1
    · cases h
  | .ext p e, st, X, Wx, Z, io, s, tk, po, h => by
    simp only [Pd.chS] at h
    split at h
    · simp only [Bool.and_eq_true, decide_eq_true_eq] at h
      obtain ⟨⟨⟨rfl, h2⟩, h3⟩, h4⟩ := h
      exact s_ext h2 (chP_okx p _ h3) (ch_okx e _ h4) (chP_ok hs hl s tk p _ h3) (ch_ok hs hl e _ X Wx Z s tk h4).1
    · cases h
  | .clr p, st, X, Wx, Z, io, s, tk, po, h => by
    simp only [Pd.chS] at h
    split at h
    · simp only [Bool.and_eq_true, decide_eq_true_eq] at h
      obtain ⟨⟨rfl, h2⟩, h3⟩ := h
      exact s_clr h2 (chP_okx p _ h3) (chP_ok hs hl s tk p _ h3)
    · cases h
  | .put p k a, st, X, Wx, Z, io, s, tk, po, h => by
    simp only [Pd.chS] at h
    split at h
    · simp only [Bool.and_eq_true] at h
      obtain ⟨⟨⟨h1, h2⟩, h3⟩, h4⟩ := h
      exact s_put s.fit (ch_okx k _ h2) (sw_sub h4 _ _) rfl (chA_ok hs hl s tk a _ h3) (chP_ok hs hl s tk p _ h1) (ch_ok hs hl k _ X Wx Z s tk h2).1
    · cases h
  | .fset p f j lo hi a, st, X, Wx, Z, io, s, tk, po, h => by
    simp only [Pd.chS] at h
    split at h
    · simp only [Bool.and_eq_true, decide_eq_true_eq] at h
      obtain ⟨⟨⟨⟨rfl, h1⟩, h2⟩, h3⟩, h4⟩ := h
      exact s_fset s.fit (fld_sat hs h2) (sw_att h4 _ _) (chA_ok hs hl s tk a _ h3) (chP_ok hs hl s tk p _ h1)
    · cases h
  | .aug op i e, st, X, Wx, Z, io, s, tk, po, h => by
    simp only [Pd.chS] at h
    split at h
    · simp only [Bool.and_eq_true, decide_eq_true_eq] at h
      obtain ⟨⟨⟨⟨⟨rfl, h1⟩, h2⟩, h3⟩, h4⟩, h5⟩ := h
      obtain ⟨q1, q2⟩ := locB_ok s h3
      exact s_aug s.fit (opAS h1) (notio h4) (by rw [s.N]; exact h2) q1 q2 (ch_ok hs hl e _ X Wx Z s tk h5).1
    · cases h
  | .augs op p k e, st, X, Wx, Z, io, s, tk, po, h => by
    simp only [Pd.chS] at h
    split at h
    · simp only [Bool.and_eq_true, decide_eq_true_eq] at h
      obtain ⟨⟨⟨⟨rfl, h1⟩, h2⟩, h3⟩, h4⟩ := h
      exact s_augs s.fit (opAS h1) (aug_st (ch_okx k _ h3)) (chP_ok hs hl s tk p _ h2) (ch_ok hs hl k _ X Wx Z s tk h3).1 (ch_ok hs hl e _ X Wx Z s tk h4).1
    · cases h
  | .rse x c, st, X, Wx, Z, io, s, tk, po, h => by
    simp only [Pd.chS] at h
    split at h
    · simp only [Bool.and_eq_true, decide_eq_true_eq] at h
      obtain ⟨⟨rfl, h1⟩, h2⟩ := h
      obtain ⟨g1, g2⟩ := glB_ok s h1
      obtain ⟨i, ei, rfl, xi, ini⟩ := rse_ok h2
      have ini : i.ini = none := by simpa using ini
      obtain ⟨x1, x2, x3, x4, x5, x6⟩ := hs.xc c i ei xi
      obtain ⟨r1, r2⟩ := hs.xr c i ei xi
      obtain ⟨rfl⟩ := s.wd
      exact s_rse s.fit.calm tk (pmk_own PySem.F.excBase_ValueError (r2 ini) x2 x4 (raises_own x1.sub r1) g1 g2)
    · cases h
  | .rse1 x c e, st, X, Wx, Z, io, s, tk, po, h => by
    simp only [Pd.chS] at h
    split at h
    · simp only [Bool.and_eq_true, decide_eq_true_eq] at h
      obtain ⟨⟨⟨rfl, h1⟩, h2⟩, h3⟩ := h
      obtain ⟨g1, g2⟩ := glB_ok s h1
      obtain ⟨i, ei, rfl, xi, ini⟩ := rse_ok h2
      obtain ⟨k, ek⟩ := Option.isSome_iff_exists.mp ini
      obtain ⟨f, fI, fd, ps, a1, a2, a3, a4, a5, a6⟩ := hs.xi c i ei xi k ek
      obtain ⟨x1, x2, x3, x4, x5, x6⟩ := hs.xc c i ei xi
      have one := hs.one
      obtain ⟨m, rfl⟩ : ∃ m, n = m + 1 + 1 := ⟨n - 2, by omega⟩
      have hat := hs.at_ c i ei
      have p := (ch_ok (fuel := fuel) hs hl e _ X Wx Z s tk h3).1
      obtain ⟨rfl⟩ := s.wd
      exact s_rse1 s.fit tk a2 (x5 f (by rw [a1]; exact List.mem_cons_self)) (by rw [hat, a1]) a3 a4 (a6 m) a5 g1 x2 g2 (ch_okx e _ h3) p
    · cases h
  | .try_ b x c i hd, st, X, Wx, Z, io, s, tk, po, h => by
    simp only [Pd.chS] at h
    split at h
    · simp only [Bool.and_eq_true, decide_eq_true_eq] at h
      obtain ⟨⟨⟨⟨⟨⟨⟨⟨h0, rfl⟩, h1⟩, h2⟩, h3⟩, h4⟩, h5⟩, h6⟩, h7⟩ := h
      obtain ⟨g1, g2⟩ := glB_ok s h1
      obtain ⟨t1, t2⟩ := s.top h0
      have hX := xt_mg hs s h2
      refine s_try t1 t2 s.fit.nd (by rw [s.N]; exact h3) ?_ ⟨g1, g2, .inl hX⟩ tk (notio h5) (fun c' b' eb => exm_ok hs s eb) (fun W' pn xe tk' po' => chSs_ok hs hl b _ (X.tr pn xe) W' Z io (sit_tr s pn xe) tk' po' h6) (fun t Y a c d hc => chHs_ok hs s hc hd _ h7)
      show X.env.scope.names.lookup _ = _
      rw [s.sc]
      unfold locB' at h4
      split at h4
      · assumption
      · cases h4
    · cases h
theorem chSs_ok (hs : Sat W g l pd Fs adr) {n : Nat} (hl : l + 1 ≤ n) : ∀ (t : Ss) (st : List Stmt) (X : Cx) (Wx : WX) (Z : Zc) (io : List Nat), Sit X g n Z W → Takes X Wx → PassesOwn (model X.prog X.w) X.A X.env X.xe → pd.chSs Z io t st = true → PSs X st (tS g Wx io (evSs (pd.gm Fs fuel) t))
  | .nil, st, X, Wx, Z, io, s, tk, po, h => by
    simp only [Pd.chSs] at h
    split at h
    · exact ss_nil
    · cases h
  | .cons t ts, st, X, Wx, Z, io, s, tk, po, h => by
    simp only [Pd.chSs] at h
    split at h
    · simp only [Bool.and_eq_true] at h
      exact ss_cons (chS_ok hs hl t _ X Wx Z io s tk po h.1) (chSs_ok hs hl ts _ X Wx Z io s tk po h.2)
    · cases h
  | .frf i j ts, st, X, Wx, Z, io, s, tk, po, h => by
    simp only [Pd.chSs] at h
    exact ss_ghost (frf_ok (i := i) (j := j)) (chSs_ok hs hl ts _ X Wx Z io s tk po h)
  | .frz i ts, st, X, Wx, Z, io, s, tk, po, h => by
    simp only [Pd.chSs] at h
    exact ss_ghost (frzT_ok (i := i)) (chSs_ok hs hl ts _ X Wx Z io s tk po h)
  | .fgt i ts, st, X, Wx, Z, io, s, tk, po, h => by
    simp only [Pd.chSs] at h
    exact ss_ghost (fgt_ok (i := i)) (chSs_ok hs hl ts _ X Wx Z io s tk po h)
end
end
end
end Q

end

section
set_option Elab.async false
set_option linter.all false
set_option maxRecDepth 100000
set_option maxHeartbeats 1000000
/-! Q22: defs that pass the check keep their promise; all defs, by the depth of calls. -/
namespace Q
noncomputable section
open PySem PySem.Spec L2
open PyProof.Rows hiding St

theorem iosF_ge : ∀ (rs : List R) (i : Nat), (∀ x ∈ iosF i rs, i ≤ x ∧ x < i + rs.length) ∧ (iosF i rs).Nodup
  | [], i => ⟨fun x h => by simp [iosF] at h, by simp [iosF]⟩
  | r :: rs, i => by
    obtain ⟨h1, h2⟩ := iosF_ge rs (i + 1)
    unfold iosF
    split
    · refine ⟨fun x h => ?_, List.nodup_cons.mpr ⟨fun h => ?_, h2⟩⟩
      · rcases List.mem_cons.mp h with rfl | h
        · exact ⟨Nat.le_refl _, by simp⟩
        · have := h1 x h; simp only [List.length_cons]; omega
      · have := h1 i h; omega
    · refine ⟨fun x h => ?_, h2⟩
      have := h1 x h; simp only [List.length_cons]; omega
section
variable {g : G} {M O : AS} {H : Hp} {fp : Nat → AS} {vs : List V} {rs : List R}
/-- slots behind the parameters -/
theorem EnvR.more (en : EnvR g M O fp (vs.map some) H (rs.map some)) (k : Nat) : EnvR g M O fp (vs.map some ++ List.replicate k none) H (rs.map some ++ List.replicate k none) := by
  have hl : vs.length = rs.length := by simpa using en.len
  have get : ∀ (i : Nat) (r : R), (rs.map some ++ List.replicate k none)[i]? = some (some r) → (rs.map some)[i]? = some (some r) := fun i r h => by
    by_cases hi : i < rs.length
    · rwa [List.getElem?_append_left (by simpa using hi)] at h
    · rw [List.getElem?_append_right (by simpa using hi), List.getElem?_replicate] at h
      split at h <;> cases h
  refine ⟨by simp [hl], fun i r h => ?_, en.fo, fun i a z => ?_, en.ds⟩
  · obtain ⟨v, h1, h2⟩ := en.at_ i r (get i r h)
    have hi : i < (vs.map some).length := by
      by_cases q : i < (vs.map some).length
      · exact q
      · rw [List.getElem?_eq_none (by omega)] at h1; cases h1
    exact ⟨v, by rw [List.getElem?_append_left hi]; exact h1, h2⟩
  · obtain ⟨t, h1⟩ := en.fr i a z
    have hi : i < (rs.map some).length := by
      by_cases q : i < (rs.map some).length
      · exact q
      · rw [List.getElem?_eq_none (by omega)] at h1; cases h1
    exact ⟨t, by rw [List.getElem?_append_left hi]; exact h1⟩
end
theorem outs_get : ∀ {io : List Nat} {ρ : Rho} {ts : List T}, outs io ρ = some ts → ts.length = io.length ∧ ∀ (j i : Nat) (t : T), io[j]? = some i → ts[j]? = some t → ownT ρ i = some t
  | [], ρ, ts, h => by cases h; exact ⟨rfl, fun j i t h => by simp at h⟩
  | i :: is, ρ, ts, h => by
    unfold outs at h
    obtain ⟨t, e1, h⟩ := Option.bind_eq_some_iff.mp h
    obtain ⟨ts', e2, rfl⟩ := Option.map_eq_some_iff.mp h
    obtain ⟨q1, q2⟩ := outs_get e2
    refine ⟨by simp [q1], fun j k u h1 h2 => ?_⟩
    cases j with
    | zero => simp at h1 h2; subst h1 h2; exact e1
    | succ j => exact q2 j k u (by simpa using h1) (by simpa using h2)
/-- the parameters that were changed, as they are at the end -/
theorem EnvR.io {g : G} {M O : AS} {H : Hp} {fp : Nat → AS} {σ : St} {ρ : Rho} {vs : List V} {io : List Nat} {ts : List T} (en : EnvR g M O fp σ H ρ) (e : outs io ρ = some ts) (nd : io.Nodup) (pn : ∀ i ∈ io, ∃ v, vs[i]? = some v ∧ σ[i]? = some (some v)) :
    ∃ fp', EnvR g M O fp' (ioV vs io) H (ioR ts) ∧ ∀ j a, fp' j a → ∃ k, fp k a := by
  obtain ⟨hl, hg⟩ := outs_get e
  refine ⟨fun j a => ∃ i, io[j]? = some i ∧ fp i a, ⟨by simp [ioV, ioR, hl], fun j r h => ?_, fun j a ⟨i, _, z⟩ => en.fo i a z, fun j a ⟨i, ei, z⟩ => ?_, fun i j a ne ⟨k1, e1, z1⟩ ⟨k2, e2, z2⟩ => ?_⟩, fun j a ⟨i, _, z⟩ => ⟨i, z⟩⟩
  · unfold ioR at h
    rw [List.getElem?_map] at h
    obtain ⟨t, et, h⟩ := Option.map_eq_some_iff.mp h
    cases h
    have hj : j < io.length := by
      by_cases q : j < io.length
      · exact q
      · rw [List.getElem?_eq_none (by omega)] at et; cases et
    have ei : io[j]? = some io[j] := List.getElem?_eq_getElem hj
    obtain ⟨v', h1, h2⟩ := en.at_ _ _ (ownT_at (hg j _ t ei et))
    obtain ⟨v, h3, h4⟩ := pn io[j] (List.getElem_mem hj)
    rw [h1] at h4; cases h4
    refine ⟨v', ?_, ?_⟩
    · unfold ioV; rw [List.getElem?_map, ei]; simp [h3]
    · exact OT.more (fun a z => ⟨_, ei, z⟩) h2
  · obtain ⟨t, h1⟩ := en.fr i a z
    have hj : j < ts.length := by
      rw [hl]
      by_cases q : j < io.length
      · exact q
      · rw [List.getElem?_eq_none (by omega)] at ei; cases ei
    exact ⟨ts[j], by unfold ioR; rw [List.getElem?_map, List.getElem?_eq_getElem hj]; rfl⟩
  · refine en.ds k1 k2 a (fun z => ?_) z1 z2
    subst z
    exact ne (nodup_inj nd e1 e2)
theorem RetR.of {g : G} {M O : AS} {fp fp' : Nat → AS} {H : Hp} {v : V} {r : R} (h : RetR g M O fp H v r) (k : ∀ j a, fp' j a → ∃ i, fp i a) : RetR g M O fp' H v r := by
  cases r with
  | shr d => exact h
  | own t => obtain ⟨S, h1, h2, h3⟩ := h; exact ⟨S, h1, fun j a z => let ⟨i, z⟩ := k j a z; h2 i a z, h3⟩
  | tmp t => exact h
  | vw t => exact h

section
variable {W : Wd} {g : G} {l : Nat} {pd : Pd} {Fs : Nat → Fn} {adr : Nat → Addr} {fuel : Nat}
theorem fn_ok (hs : Sat W g l pd Fs adr) {ir : FnI} {x qual : Str} {params : Arguments} {body : List Stmt} {scope : Scope} {dvs : List V} {kws : List (Str × V)} {f : Addr} {fd : FuncData} (F : FunD W.K x qual params body scope dvs kws f fd)
    (S : FnScope ir.N (ir.N.take ir.np) scope) (hnp : ir.np ≤ ir.N.length) (hc : pd.chSs ⟨ir.N, scope, fun _ => true, true⟩ ir.io ir.body body = true) :
    FnOk W.prog W.w W.K W.mg W.base (L2.CX W.prog W.w) (l + 2) f fd (ir.N.take ir.np) (GSp g ir.np (ir.run (pd.gm Fs fuel))) := by
  have hps : (ir.N.take ir.np).length = ir.np := by rw [List.length_take]; omega
  refine F.ok S (fun vs H Q E h => by rw [hps]; exact h.1) fun cdv A outer s H vs Q E hr h => ?_
  obtain ⟨hl, M, O, fp, rs, res, cd, en, eF, k⟩ := h
  have hrl : rs.length = ir.np := by have := en.len; simp at this; omega
  unfold FnI.run at eF
  split at eF
  · rename_i hio
    obtain ⟨out, eo, ee⟩ := Option.bind_eq_some_iff.mp eF
    have sit : Sit (cxOf (L2.CX W.prog W.w) W.prog W.w W.K W.mg W.base ir.N qual scope f cdv A outer s H E) g (l + 1) ⟨ir.N, scope, fun _ => true, true⟩ W := ⟨⟨hs.K, rfl, S.nd, hr⟩, rfl, rfl, rfl, rfl, S.kind, fun _ => ⟨rfl, rfl⟩⟩
    refine ⟨_, chSs_ok (fuel := fuel) hs (Nat.le_refl _) ir.body body _ (fun cls d _ H' => E cls d H') _ ir.io sit (takes_of rfl rfl rfl rfl) (passes_of rfl) hc, ?_⟩
    obtain ⟨ge, nd⟩ := iosF_ge rs 0
    have ioe : ios rs = iosF 0 rs := rfl
    rw [← hio.2]
    have hen : EnvR g M O fp (L2.start ir.N vs) H (rs.map some ++ List.replicate (ir.N.length - ir.np) none) := by
      unfold L2.start; rw [hl]; exact en.more _
    have vget : ∀ i ∈ ios rs, ∃ v, vs[i]? = some v := fun i hi => by
      have := (ge i (ioe ▸ hi)).2
      exact ⟨vs[i]'(by omega), List.getElem?_eq_getElem (by omega)⟩
    refine ⟨M, O, fp, _, fun i => if i ∈ ios rs then vs[i]? else none, out, ⟨cd, hen, fun i v h => ?_, fun i v h => ?_⟩, eo, ?_⟩
    · have h : (if i ∈ ios rs then vs[i]? else none) = some v := h
      by_cases q : i ∈ ios rs
      · exact q
      · rw [if_neg q] at h; cases h
    · have h : (if i ∈ ios rs then vs[i]? else none) = some v := h
      by_cases q : i ∈ ios rs
      · rw [if_pos q] at h
        unfold L2.start
        have hi : i < (vs.map some).length := by
          by_cases q : i < vs.length
          · simpa using q
          · rw [List.getElem?_eq_none (by omega)] at h; cases h
        rw [List.getElem?_append_left hi, List.getElem?_map, h]; rfl
      · rw [if_neg q] at h; cases h
    · have pins : ∀ {σ' : St}, Pn (fun i => if i ∈ ios rs then vs[i]? else none) σ' → ∀ i ∈ ios rs, ∃ v, vs[i]? = some v ∧ σ'[i]? = some (some v) := fun {σ'} pn i hi => by
        obtain ⟨v, ev⟩ := vget i hi
        exact ⟨v, ev, pn i v (by show (if i ∈ ios rs then vs[i]? else none) = some v; rw [if_pos hi]; exact ev)⟩
      have nd' : (ios rs).Nodup := nd
      rw [← hio.2] at ee
      cases out with
      | nx ρ' =>
        obtain ⟨ts, et, rfl⟩ := Option.map_eq_some_iff.mp ee
        intro σ' H' O' fp' kp nw cd' en' pn
        obtain ⟨fp2, en2, _⟩ := en'.io et nd' (pins pn)
        exact k .non H' O' fp2 kp nw cd' en2 Rep.non
      | rt r ρ' =>
        obtain ⟨ts, et, rfl⟩ := Option.map_eq_some_iff.mp ee
        intro v σ' H' O' fp' kp nw cd' en' pn rr
        obtain ⟨fp2, en2, le⟩ := en'.io et nd' (pins pn)
        exact k v H' O' fp2 kp nw cd' en2 (rr.of le)
      | ex x ρ' =>
        obtain ⟨ts, et, rfl⟩ := Option.map_eq_some_iff.mp ee
        intro cls d σ' H' O' fp' kp nw cd' en' pn rr
        obtain ⟨fp2, en2, le⟩ := en'.io et nd' (pins pn)
        exact k cls d H' O' fp2 kp nw cd' en2 rr
      | bk ρ' => cases ee
      | ct ρ' => cases ee
  · cases eF

/-- what is known of a def of the text -/
structure DefOk (W : Wd) (g : G) (pd : Pd) (f : Addr) (i : DefI) : Prop where
  ex : ∃ (x qual : Str) (params : Arguments) (body : List Stmt) (scope : Scope) (dvs : List V) (kws : List (Str × V)) (fd : FuncData) (ds : List Value) (dv : List V),
    FunD W.K x qual params body scope dvs kws f fd ∧ FnScope i.ir.N (i.ir.N.take i.ir.np) scope ∧ i.ir.np ≤ i.ir.N.length ∧ pd.chSs ⟨i.ir.N, scope, fun _ => true, true⟩ i.ir.io i.ir.body body = true ∧
      Binds W.K fd (i.ir.N.take i.ir.np) ds ∧ Vals dv ds ∧ ∀ B H, RepL g B H dv i.dfl
/-- the text's facts -/
structure Sta (W : Wd) (g : G) (pd : Pd) (adr : Nat → Addr) : Prop where
  fn : ∀ k i, pd.fns[k]? = some i → DefOk W g pd (adr k) i ∧ PySem.W.keepIn W.K (.ref (adr k)) = true ∧ (i.at_.2 = none → W.mg i.at_.1 = some (.ref (adr k)) ∧ (i.at_.1 == ("__debug__" : Str)) = false)
  rest : Sat W g 1 ⟨[], pd.cls, pd.glo, pd.free⟩ (fun _ => fun _ => none) adr
  same : ∀ k k' i i', pd.fns[k]? = some i → pd.fns[k']? = some i' → i.at_ = i'.at_ → adr k = adr k'
theorem sat_of {Fs : Nat → Fn} (h : Sta W g pd adr) (h1 : 1 ≤ l) (hf : ∀ k i, pd.fns[k]? = some i → FunSat W.prog W.w W.K W.mg W.base g l (adr k) (Fs k) i.ir.np i.dfl) : Sat W g l pd Fs adr where
  fn := fun k i e => ⟨hf k i e, (h.fn k i e).2⟩
  at_ := h.rest.at_
  cls := h.rest.cls
  glo := h.rest.glo
  free := h.rest.free
  isa := h.rest.isa
  isk := fun c i e x T hT => by
    have := h.rest.isk c i e x T hT
    rw [this]
    cases T <;> rfl
  iso := h.rest.iso
  K := h.rest.K
  same := h.same
  one := h1
  xc := h.rest.xc
  xk := h.rest.xk
  xr := h.rest.xr
  xi := h.rest.xi
theorem fun_none {f : Addr} {i : DefI} (h : DefOk W g pd f i) (l : Nat) : FunSat W.prog W.w W.K W.mg W.base g l f (fun _ => none) i.ir.np i.dfl := by
  obtain ⟨x, qual, params, body, scope, dvs, kws, fd, ds, dv, h1, h2, h3, h4, h5, h6, h7⟩ := h.ex
  refine ⟨fd, i.ir.N.take i.ir.np, ds, dv, ⟨fun vs H Q E ⟨_, _, _, _, _, _, _, _, e, _⟩ => (nomatch e), fun A outer s H args us vs Q E _ _ _ _ ⟨_, _, _, _, _, _, _, _, e, _⟩ => (nomatch e)⟩, h5, h6, h7⟩
theorem sat_all (h : Sta W g pd adr) (fuel : Nat) : ∀ d, Sat W g (2 * d + 1) pd (pd.F fuel d) adr
  | 0 => sat_of h (by omega) fun k i e => fun_none (h.fn k i e).1 _
  | d + 1 => by
    have ih := sat_all h fuel d
    refine sat_of h (by omega) fun k i e => ?_
    obtain ⟨x, qual, params, body, scope, dvs, kws, fd, ds, dv, h1, h2, h3, h4, h5, h6, h7⟩ := (h.fn k i e).1.ex
    have eF : pd.F fuel (d + 1) k = i.ir.run (pd.gm (pd.F fuel d) fuel) := by
      show (match pd.fns[k]? with
        | some i => i.ir.run (pd.gm (pd.F fuel d) fuel)
        | none => fun _ => none) = _
      rw [e]
    rw [eF]
    exact ⟨fd, i.ir.N.take i.ir.np, ds, dv, fn_ok ih h1 h2 h3 h4, h5, h6, h7⟩
end
end
end Q

end

section
set_option Elab.async false
set_option linter.all false
set_option maxRecDepth 100000
set_option maxHeartbeats 1000000
/-! Q23: the text's facts off the head. -/
namespace Q
noncomputable section
open PySem PySem.Spec L2
open PyProof.Rows hiding St

def adrOf (pd : Pd) (K : PySem.W.Frag) (k : Nat) : Addr := match pd.fns[k]? with
  | some i => He.fAd K i.at_
  | none => 0
def gOf (pd : Pd) (K : PySem.W.Frag) : G where
  K := K
  cl := fun c => match pd.cls[c]? with
    | some i => He.ga K i.x
    | none => 0
  at_ := fun c => match pd.cls[c]? with
    | some i => i.at_
    | none => []
  fo := fun _ _ _ _ => False

/-! ### classes, constants, free names -/
def tys : List String := ["NoneType", "int", "bool", "str", "list", "tuple", "dict"]
def clsB (pd : Pd) (K : PySem.W.Frag) (i : ClsI) : Bool := i.exc || (
  (He.Fa.cls i.x).ok K && (He.Fa.glo i.x).ok K && !(i.x == ("__debug__" : Str)) && (i.at_.all fun f => (He.Fa.noat i.x f).ok K) &&
  (i.ms.all fun q => He.eqO (PySem.W.findIn K (.ref (He.ga K i.x)) q.1) (some (some (.ref (adrOf pd K q.2)))) && PySem.W.isFn K (.ref (adrOf pd K q.2)) && PySem.W.keepIn K (.ref (adrOf pd K q.2))) &&
  (match i.ini with
    | none => true
    | some k => PySem.W.makesIn K (He.ga K i.x) && He.eqO (PySem.W.findIn K (.ref (He.ga K i.x)) "__init__") (some (some (.ref (adrOf pd K k)))) && PySem.W.isFn K (.ref (adrOf pd K k)) && PySem.W.keepIn K (.ref (He.ga K i.x)) &&
      He.eqO (PySem.W.specialIn K (.ref (He.ga K i.x)) "__getattribute__") (some (some (.builtin "type.__getattribute__"))) && PySem.W.readsIn K (He.ga K i.x) (.type "type") && (match PySem.W.findCls K (.ref (He.ga K i.x)) (.type "type") "__init__" with
        | some (.val v) => decide (v = .ref (adrOf pd K k))
        | _ => false)) &&
  He.eqO (PySem.W.findIn K (.ref (He.ga K i.x)) "__class__") (some (some (.builtin "object.__class__"))) && He.eqO (PySem.W.specialIn K (.builtin "object.__class__") "__get__") (some (some (.builtin "getset_descriptor.__get__"))) &&
  decide (PySem.W.takesIn K (.builtin "object.__class__") = some true) && decide (PySem.W.mroIn K (He.ga K i.x) (.type "object") = some true) &&
  (["int", "bool", "str", "list", "tuple", "dict"].all fun t => decide (PySem.W.kitOne K (.ref (He.ga K i.x)) (.type t) = some false)) &&
  ((List.range pd.cls.length).all fun c' => match pd.cls[c']? with
    | some j => j.exc || decide (PySem.W.kitOne K (.ref (He.ga K i.x)) (.ref (He.ga K j.x)) = some (i.sup.contains c'))
    | none => false) &&
  (tys.all fun t => decide (PySem.W.kitOne K (.type t) (.ref (He.ga K i.x)) = some false)))
def gloB (K : PySem.W.Frag) (q : Str × D) : Bool := match q.2 with
  | .str z => (He.Fa.str q.1 z).ok K
  | .int i => (He.Fa.int q.1 i).ok K
  | _ => false
/-! ### exception classes -/
def basB (K : PySem.W.Frag) (B : Addr) : Bool := He.eqO (PySem.W.specialIn K (.ref B) "__getattribute__") (some (some (.builtin "type.__getattribute__"))) && PySem.W.readsIn K B (.type "type") && (match PySem.W.findCls K (.ref B) (.type "type") "__init__" with
  | some (.val v) => decide (v = .builtin "ValueError.__init__")
  | _ => false)
theorem basB_ok {K : PySem.W.Frag} {B : Addr} (h : basB K B = true) : BasC K B := by
  simp only [basB, Bool.and_eq_true] at h
  obtain ⟨⟨h1, h2⟩, h3⟩ := h
  refine ⟨He.eqO_ok h1, h2, ?_⟩
  split at h3
  · rename_i v ev
    rw [decide_eq_true_eq] at h3
    rw [ev, h3]
  · cases h3
/-- an __init__ that calls the base's with a text, and keeps its argument -/
def xiB (K : PySem.W.Frag) (d : He.DefD) (N : List Str) (f : Str) : Bool := match N, d.body with
  | [self, nm], [.Expr (.Call (.Attribute (.Name B _) m p2) [.Name s1 _, .Constant (.str _) _ _] [] p5) _, .Assign [.Attribute (.Name s2 _) f2 _] (.Name n2 _) _] =>
    decide (m = "__init__") && decide (s1 = self) && decide (s2 = self) && decide (f2 = f) && decide (n2 = nm) && glB d.scope B && visB d.scope self && visB d.scope nm && (p2.endLine == p5.line) && (He.Fa.glo B).ok K && basB K (He.ga K B)
  | _, _ => false
def xclsB (pd : Pd) (fn : List He.DefD) (K : PySem.W.Frag) (i : ClsI) : Bool := !i.xon || (
  ((PySem.W.clsIn K (He.ga K i.x)).isSome && He.eqO (PySem.W.findIn K (.ref (He.ga K i.x)) "__getattribute__") (some (some (.builtin "BaseException.__getattribute__"))) && He.eqO (PySem.W.findIn K (.ref (He.ga K i.x)) "__getattr__") (some none) &&
    decide (PySem.W.subIn K (.ref (He.ga K i.x)) (.type "BaseException") = some true) && PySem.W.hasDictIn K (He.ga K i.x) && He.eqO (PySem.W.findIn K (.ref (He.ga K i.x)) "__class__") (some (some (.builtin "object.__class__"))) &&
    He.eqO (PySem.W.specialIn K (.builtin "object.__class__") "__get__") (some (some (.builtin "getset_descriptor.__get__"))) && decide (PySem.W.takesIn K (.builtin "object.__class__") = some true) && decide (PySem.W.mroIn K (He.ga K i.x) (.type "object") = some true)) &&
  ((He.Fa.glo i.x).ok K && !(i.x == ("__debug__" : Str)) && PySem.W.keepIn K (.ref (He.ga K i.x)) && (i.at_.all fun f => He.eqO (PySem.W.findIn K (.ref (He.ga K i.x)) f) (some none)) && decide (PySem.W.kitOne K (.ref (He.ga K i.x)) (.type "ValueError") = some true)) &&
  ((List.range pd.cls.length).all fun c' => match pd.cls[c']? with
    | some j => !j.xon || (decide (PySem.W.kitOne K (.ref (He.ga K i.x)) (.ref (He.ga K j.x)) = some (i.sup.contains c')) && decide (PySem.W.exmOne K (.ref (He.ga K i.x)) (.ref (He.ga K j.x)) = some (i.sup.contains c')))
    | none => false) &&
  decide (PySem.W.typeIn K (.ref (He.ga K i.x)) = some (.type "type")) &&
  (match i.ini with
    | none => PySem.W.excIn K (He.ga K i.x) He.veBase "ValueError.__new__"
    | some k => (match pd.fns[k]? with
      | some j => (match fn[j.fi]?, i.at_ with
        | some d, [f] => oexB K (He.ga K i.x) && He.eqO (PySem.W.findIn K (.ref (He.ga K i.x)) "__setattr__") (some (some (.builtin "object.__setattr__"))) && He.eqO (PySem.W.findIn K (.ref (He.ga K i.x)) "__init__") (some (some (.ref (He.fAd K d.at_)))) &&
          decide (PySem.W.typeIn K (.ref (He.fAd K d.at_)) = some (.type "function")) && xiB K d j.ir.N f && decide (j.ir.np = 2) && d.dfl.isEmpty
        | _, _ => false)
      | none => false)))
def exQ (pd : Pd) (fn : List He.DefD) (K : PySem.W.Frag) : Bool := (pd.cls.all fun i => clsB pd K i && xclsB pd fn K i) && (pd.glo.all fun q => gloB K q) && (pd.free.all fun x => (He.Fa.free x).ok K) &&
  (pd.fns.all fun i => i.at_.2.isSome || ((He.Fa.glo i.at_.1).ok K && !(i.at_.1 == ("__debug__" : Str))))
theorem lookup_mem {α β : Type} [BEq α] [LawfulBEq α] {a : α} {b : β} : ∀ {l : List (α × β)}, l.lookup a = some b → (a, b) ∈ l
  | [], h => by cases h
  | (x, y) :: l, h => by
    by_cases e : a = x
    · subst e; simp at h; subst h; exact List.mem_cons_self
    · have q : (a == x) = false := beq_eq_false_iff_ne.mpr e
      simp only [List.lookup_cons, q] at h
      exact List.mem_cons_of_mem _ (lookup_mem h)
/-! ### defs -/
def dvD : He.Dv → Option D
  | .non => some .non
  | .bl b => some (.bl b)
  | .int i => some (.int i)
  | .str x => some (.str x)
  | _ => none
def flatEq : D → D → Bool
  | .non, .non => true
  | .bl a, .bl b => a == b
  | .int a, .int b => decide (a = b)
  | .str a, .str b => decide (a = b)
  | _, _ => false
theorem flatEq_ok {a b : D} (h : flatEq a b = true) : a = b := by
  unfold flatEq at h
  split at h
  · rfl
  · rw [beq_iff_eq] at h; rw [h]
  · rw [decide_eq_true_eq] at h; rw [h]
  · rw [decide_eq_true_eq] at h; rw [h]
  · cases h
def dflsB : List He.Dv → List D → Bool
  | [], [] => true
  | v :: vs, d :: ds => (match dvD v with
    | some e => flatEq e d
    | none => false) && dflsB vs ds
  | _, _ => false
theorem dfls_ok {g : G} {K : PySem.W.Frag} {B : AS} {H : Hp} : ∀ {vs : List He.Dv} {ds : List D}, dflsB vs ds = true → RepL g B H (vs.map (He.Dv.v K)) ds
  | [], [], _ => .nil
  | v :: vs, d :: ds, h => by
    simp only [dflsB, Bool.and_eq_true] at h
    refine .cons ?_ (dfls_ok h.2)
    have q := h.1
    split at q
    · rename_i e ee
      have q := flatEq_ok q
      subst q
      cases v <;> simp only [dvD] at ee <;> cases ee
      · exact .non
      · exact .bl _
      · exact .int _
      · exact .str _
    · cases q
  | [], _ :: _, h => by cases h
  | _ :: _, [], h => by cases h
def defB (pd : Pd) (d : He.DefD) (i : DefI) : Bool :=
  (match d.scope.kind with
    | .function => true
    | _ => false) && !d.scope.isCoroutine && !d.scope.isGenerator && decide i.ir.N.Nodup && ((i.ir.N.take i.ir.np).all fun x => match d.scope.names.lookup x with
    | some .local => true
    | some .cell => true
    | _ => false) && (d.scope.names.all fun y => match y.2 with
    | .free => false
    | _ => true) && decide (i.ir.np ≤ i.ir.N.length) && pd.chSs ⟨i.ir.N, d.scope, fun _ => true, true⟩ i.ir.io i.ir.body d.body && dflsB (d.dfl.drop (d.dfl.length - i.dfl.length)) i.dfl && d.kwd.isEmpty && decide (d.at_ = i.at_) && decide (i.dfl.length ≤ d.dfl.length) && decide (i.dfl.length ≤ i.ir.np)
def defsB (pd : Pd) (fn : List He.DefD) : Bool := pd.fns.all fun i => match fn[i.fi]? with
  | some d => defB pd d i
  | none => false
/-- how arguments bind -/
def BindOk (d : He.DefD) (ps : List Str) (m : Nat) : Prop := match d.dfl with
  | [] => ∀ (kV doc pm : Value) (an : Option Addr) (cdv ct : Value) (us : List Value), us.length = ps.length → bindArgs (PySem.W.fnOf d.name d.qual d.params d.body d.scope .none kV doc pm an cdv ct) ⟨us, []⟩ = pure (ps.zip us)
  | _ :: _ => ∀ (T : Addr) (kV doc pm : Value) (an : Option Addr) (cdv ct : Value) (us its : List Value), us.length = ps.length - m → its.length = d.dfl.length →
      ∃ k, bindArgs (PySem.W.fnOf d.name d.qual d.params d.body d.scope (.ref T) kV doc pm an cdv ct) ⟨us, []⟩ = seqItems? (.ref T) >>= k ∧ k (some its.toArray) = pure (ps.zip (us ++ its.drop (d.dfl.length - m)))
def BindAll (fn : List He.DefD) : List DefI → Prop
  | [] => True
  | i :: is => (∃ d, fn[i.fi]? = some d ∧ BindOk d (i.ir.N.take i.ir.np) i.dfl.length) ∧ BindAll fn is
theorem BindAll.at : ∀ {fn : List He.DefD} {is : List DefI}, BindAll fn is → ∀ i ∈ is, ∃ d, fn[i.fi]? = some d ∧ BindOk d (i.ir.N.take i.ir.np) i.dfl.length
  | _, [], _, i, h => absurd h (by simp)
  | fn, j :: js, h, i, hi => by
    rcases List.mem_cons.mp hi with rfl | hi
    · exact h.1
    · exact BindAll.at h.2 i hi
theorem scope_ok {pd : Pd} {d : He.DefD} {i : DefI} (h : defB pd d i = true) : FnScope i.ir.N (i.ir.N.take i.ir.np) d.scope := by
  simp only [defB, Bool.and_eq_true, Bool.not_eq_true', decide_eq_true_eq] at h
  obtain ⟨⟨⟨⟨⟨⟨⟨⟨⟨⟨⟨⟨h1, h2⟩, h3⟩, h4⟩, h5⟩, h6⟩, h7⟩, h8⟩, h9⟩, h10⟩, h11⟩, h12⟩, h13⟩ := h
  have hps : (i.ir.N.take i.ir.np).length = i.ir.np := by rw [List.length_take]; omega
  refine ⟨?_, h2, h3, h4, by rw [hps], fun x hx => ?_, fun y hy e => ?_⟩
  · split at h1
    · assumption
    · cases h1
  · have q := List.all_eq_true.mp h5 x hx
    split at q
    · exact .inl (by assumption)
    · exact .inr (by assumption)
    · cases q
  · have q := List.all_eq_true.mp h6 y hy
    rw [e] at q
    cases q
theorem def_ok {W : Wd} {g : G} {pd : Pd} {d : He.DefD} {i : DefI} {f : Addr} {fd : FuncData} (F : FunD W.K d.name d.qual d.params d.body d.scope (d.dvs W.K) (d.kws W.K) f fd) (h : defB pd d i = true) (b : BindOk d (i.ir.N.take i.ir.np) i.dfl.length) : DefOk W g pd f i := by
  simp only [defB, Bool.and_eq_true, Bool.not_eq_true', decide_eq_true_eq] at h
  obtain ⟨⟨⟨⟨⟨⟨⟨⟨⟨⟨⟨⟨h1, h2⟩, h3⟩, h4⟩, h5⟩, h6⟩, h7⟩, h8⟩, h9⟩, h10⟩, h11⟩, h12⟩, h13⟩ := h
  have hps : (i.ir.N.take i.ir.np).length = i.ir.np := by rw [List.length_take]; omega
  have hl : (d.dvs W.K).length = d.dfl.length := by simp [He.DefD.dvs]
  have S : FnScope i.ir.N (i.ir.N.take i.ir.np) d.scope := by
    refine ⟨?_, h2, h3, h4, by rw [hps], fun x hx => ?_, fun y hy e => ?_⟩
    · split at h1
      · assumption
      · cases h1
    · have q := List.all_eq_true.mp h5 x hx
      split at q
      · exact .inl (by assumption)
      · exact .inr (by assumption)
      · cases q
    · have q := List.all_eq_true.mp h6 y hy
      rw [e] at q
      cases q
  have rep : ∀ B H, RepL g B H ((d.dvs W.K).drop (d.dfl.length - i.dfl.length)) i.dfl := fun B H => by
    unfold He.DefD.dvs
    rw [← List.map_drop]
    exact dfls_ok h9
  cases e : d.dfl with
  | nil =>
    have e1 : d.dvs W.K = [] := by simp [He.DefD.dvs, e]
    have e2 : i.dfl = [] := by rw [e] at h12; exact List.eq_nil_of_length_eq_zero (by simpa using h12)
    unfold BindOk at b
    rw [e] at b
    rw [e1] at F
    exact ⟨_, _, _, _, _, _, _, fd, [], [], F, S, h7, h8, F.bindsN b, .nil, fun B H => by rw [e2]; exact .nil⟩
  | cons v vs =>
    unfold BindOk at b
    rw [e] at b
    have hne : d.dvs W.K ≠ [] := by simp [He.DefD.dvs, e]
    obtain ⟨ds, hd, hb⟩ := F.binds1 (ps := i.ir.N.take i.ir.np) (i.ir.np - i.dfl.length) (d.dfl.length - i.dfl.length) hne (by rw [hl, hps]; omega) fun T kV doc pm an cdv ct us its h1 h2 => by
      have := b T kV doc pm an cdv ct us its (by rw [hps]; exact h1) (by rw [h2, hl, e])
      rw [e]; exact this
    exact ⟨_, _, _, _, _, _, _, fd, ds, _, F, S, h7, h8, hb, hd, rep⟩
theorem visS_ok {sc : Scope} {x : Str} (h : visB sc x = true) : Vis sc x ∧ (x == ("__debug__" : Str)) = false ∧ (x == ("__classdict__" : Str)) = false := by
  unfold visB at h
  simp only [Bool.and_eq_true, Bool.not_eq_true', decide_eq_false_iff_not] at h
  obtain ⟨⟨h1, h2⟩, h3⟩ := h
  refine ⟨?_, beq_eq_false_iff_ne.mpr h2, beq_eq_false_iff_ne.mpr h3⟩
  unfold Vis
  split at h1
  · exact .inl (by assumption)
  · exact .inr (.inl (by assumption))
  · exact .inr (.inr (by assumption))
  · cases h1
theorem glS_ok {sc : Scope} {x : Str} (h : glB sc x = true) : sc.names.lookup x = some .globalImplicit ∧ (x == ("__debug__" : Str)) = false := by
  unfold glB at h
  simp only [Bool.and_eq_true, Bool.not_eq_true', decide_eq_false_iff_not] at h
  refine ⟨?_, beq_eq_false_iff_ne.mpr h.2⟩
  split at h
  · assumption
  · cases h.1
theorem sta_rest {pd : Pd} {fn : List He.DefD} {K : PySem.W.Frag} {h : Heap} {mg : Str → Option Value} {W : Wd} (X : K.In h) (G : h.Ns mainGlobals mg) (hK : W.K = K) (hmg : W.mg = mg) (e : exQ pd fn K = true) (cc : He.SaysD [] fn K) (hd : defsB pd fn = true) (hb : BindAll fn pd.fns) : Sat W (gOf pd K) 1 ⟨[], pd.cls, pd.glo, pd.free⟩ (fun _ => fun _ => none) (adrOf pd K) := by
  subst hK hmg
  simp only [exQ, Bool.and_eq_true] at e
  obtain ⟨⟨⟨e1, e2⟩, e3⟩, e4⟩ := e
  have cl : ∀ c i, pd.cls[c]? = some i → (gOf pd W.K).cl c = He.ga W.K i.x := fun c i e => by simp [gOf, e]
  have cB : ∀ c i, pd.cls[c]? = some i → i.exc = false → clsB pd W.K i = true := fun c i e x => (Bool.and_eq_true_iff.mp (List.all_eq_true.mp e1 i (List.mem_of_getElem? e))).1
  have xB : ∀ c i, pd.cls[c]? = some i → i.xon = true → xclsB pd fn W.K i = true := fun c i e x => (Bool.and_eq_true_iff.mp (List.all_eq_true.mp e1 i (List.mem_of_getElem? e))).2
  refine { fn := fun k i e => by simp at e, at_ := fun c i e => by simp [gOf, show pd.cls[c]? = some i from e], cls := fun c i ei x => ?_, glo := fun x d e => ?_, free := fun x hx => ?_, isa := fun c i ei x => ?_, isk := fun c i ei x T hT => ?_, iso := fun c i ei x t ht => ?_, K := rfl, same := fun k k' i i' e => by simp at e, one := Nat.le_refl 1, xc := fun c i ei x => ?_, xk := fun c i c' j ei x ej y => ?_, xr := fun c i ei x => ?_, xi := fun c i ei x k ek => ?_ }
  · have b := cB c i ei x
    simp only [clsB, x, Bool.false_or, Bool.and_eq_true] at b
    obtain ⟨⟨⟨⟨⟨⟨⟨⟨⟨⟨⟨⟨b1, b2⟩, b3⟩, b4⟩, b5⟩, b6⟩, b7⟩, b8⟩, b9⟩, b10⟩, b11⟩, b12⟩, b13⟩ := b
    rw [cl c i ei]
    refine ⟨He.cls_ok b1, He.glo_ok X G b2, by simpa using b3, fun f hf => He.noat_ok (List.all_eq_true.mp b4 f hf), fun m k hm => ?_, fun k hk => ?_⟩
    · have q := List.all_eq_true.mp b5 (m, k) (lookup_mem hm)
      simp only [Bool.and_eq_true] at q
      exact ⟨He.eqO_ok q.1.1, q.1.2, q.2⟩
    · rw [hk] at b6
      simp only [Bool.and_eq_true] at b6
      obtain ⟨⟨⟨⟨⟨⟨c1, c2⟩, c3⟩, c4⟩, c5⟩, c6⟩, c7⟩ := b6
      refine ⟨⟨c1, He.eqO_ok c2, c3, c4⟩, He.eqO_ok c5, c6, ?_⟩
      split at c7
      · rename_i v ev
        rw [decide_eq_true_eq] at c7
        rw [ev, c7]
      · cases c7
  · have q := List.all_eq_true.mp e2 (x, d) (lookup_mem e)
    unfold gloB at q
    split at q
    · rename_i z ez
      simp only at ez
      subst ez
      obtain ⟨t, et⟩ := He.str_ok X G q
      exact ⟨.str z, _, et, ⟨_, rfl⟩, fun B H => .str z⟩
    · rename_i z ez
      simp only at ez
      subst ez
      obtain ⟨t, et⟩ := He.int_ok X G q
      exact ⟨.int z, _, et, ⟨_, rfl⟩, fun B H => .int z⟩
    · cases q
  · exact He.free_ok X G (List.all_eq_true.mp e3 x hx)
  · have b := cB c i ei x
    simp only [clsB, x, Bool.false_or, Bool.and_eq_true] at b
    obtain ⟨⟨⟨⟨⟨⟨⟨⟨⟨⟨⟨⟨b1, b2⟩, b3⟩, b4⟩, b5⟩, b6⟩, b7⟩, b8⟩, b9⟩, b10⟩, b11⟩, b12⟩, b13⟩ := b
    rw [cl c i ei]
    exact ⟨He.eqO_ok b7, He.eqO_ok b8, of_decide_eq_true b9, of_decide_eq_true b10⟩
  · have b := cB c i ei x
    simp only [clsB, x, Bool.false_or, Bool.and_eq_true] at b
    obtain ⟨⟨⟨⟨⟨⟨⟨⟨⟨⟨⟨⟨b1, b2⟩, b3⟩, b4⟩, b5⟩, b6⟩, b7⟩, b8⟩, b9⟩, b10⟩, b11⟩, b12⟩, b13⟩ := b
    rw [cl c i ei]
    have ty : ∀ t, t ∈ ["int", "bool", "str", "list", "tuple", "dict"] → PySem.W.kitOne W.K (.ref (He.ga W.K i.x)) (.type t) = some false := fun t ht => of_decide_eq_true (List.all_eq_true.mp b11 t ht)
    cases T with
    | own c' =>
      obtain ⟨j, ej, xj⟩ := hT c' rfl
      have ej : pd.cls[c']? = some j := ej
      have q := List.all_eq_true.mp b12 c' (List.mem_range.mpr (by
        by_cases z : c' < pd.cls.length
        · exact z
        · rw [List.getElem?_eq_none (by omega)] at ej; cases ej))
      rw [ej] at q
      simp only [xj, Bool.false_or, decide_eq_true_eq] at q
      show PySem.W.kitOne W.K _ (.ref ((gOf pd W.K).cl c')) = _
      rw [cl c' j ej, q]
      have ei : pd.cls[c]? = some i := ei
      simp [Pd.isi, ei]
    | int => exact ty "int" (by simp)
    | bool => exact ty "bool" (by simp)
    | str => exact ty "str" (by simp)
    | list => exact ty "list" (by simp)
    | tuple => exact ty "tuple" (by simp)
    | dict => exact ty "dict" (by simp)
  · have b := cB c i ei x
    simp only [clsB, x, Bool.false_or, Bool.and_eq_true] at b
    obtain ⟨⟨⟨⟨⟨⟨⟨⟨⟨⟨⟨⟨b1, b2⟩, b3⟩, b4⟩, b5⟩, b6⟩, b7⟩, b8⟩, b9⟩, b10⟩, b11⟩, b12⟩, b13⟩ := b
    rw [cl c i ei]
    exact of_decide_eq_true (List.all_eq_true.mp b13 t (by rcases ht with rfl | rfl | rfl | rfl | rfl | rfl | rfl <;> simp [tys]))
  · have b := xB c i ei x
    simp only [xclsB, x, Bool.not_true, Bool.false_or, Bool.and_eq_true] at b
    obtain ⟨⟨⟨⟨b1, b2⟩, b3⟩, b4⟩, b5⟩ := b
    obtain ⟨⟨⟨⟨⟨⟨⟨⟨c1, c2⟩, c3⟩, c4⟩, c5⟩, c6⟩, c7⟩, c8⟩, c9⟩ := b1
    obtain ⟨⟨⟨⟨d1, d2⟩, d3⟩, d4⟩, d5⟩ := b2
    rw [cl c i ei]
    exact ⟨⟨c1, He.eqO_ok c2, He.eqO_ok c3, of_decide_eq_true c4, c5, He.eqO_ok c6, He.eqO_ok c7, of_decide_eq_true c8, of_decide_eq_true c9⟩, He.glo_ok X G d1, by simpa using d2, d3, fun f hf => He.eqO_ok (List.all_eq_true.mp d4 f hf), of_decide_eq_true d5⟩
  · have b := xB c i ei x
    simp only [xclsB, x, Bool.not_true, Bool.false_or, Bool.and_eq_true] at b
    obtain ⟨⟨⟨⟨b1, b2⟩, b3⟩, b4⟩, b5⟩ := b
    have ej : pd.cls[c']? = some j := ej
    have q := List.all_eq_true.mp b3 c' (List.mem_range.mpr (by
      by_cases z : c' < pd.cls.length
      · exact z
      · rw [List.getElem?_eq_none (by omega)] at ej; cases ej))
    rw [ej] at q
    simp only [y, Bool.not_true, Bool.false_or, Bool.and_eq_true, decide_eq_true_eq] at q
    rw [cl c i ei, cl c' j ej]
    exact q
  · have b := xB c i ei x
    simp only [xclsB, x, Bool.not_true, Bool.false_or, Bool.and_eq_true] at b
    obtain ⟨⟨⟨⟨b1, b2⟩, b3⟩, b4⟩, b5⟩ := b
    rw [cl c i ei]
    refine ⟨of_decide_eq_true b4, fun en => ?_⟩
    rw [en] at b5
    exact b5
  · have b := xB c i ei x
    simp only [xclsB, x, Bool.not_true, Bool.false_or, Bool.and_eq_true] at b
    obtain ⟨⟨⟨⟨b1, b2⟩, b3⟩, b4⟩, b5⟩ := b
    rw [cl c i ei]
    rw [ek] at b5
    simp only at b5
    split at b5
    · rename_i j ej
      split at b5
      · rename_i d f ed ea
        simp only [Bool.and_eq_true, decide_eq_true_eq] at b5
        obtain ⟨⟨⟨⟨⟨⟨f1, f2⟩, f3⟩, f4⟩, f5⟩, f6⟩, f7⟩ := b5
        have mj := List.mem_of_getElem? ej
        have q := List.all_eq_true.mp hd j mj
        rw [ed] at q
        have q : defB pd d j = true := q
        have S := scope_ok q
        obtain ⟨d', ed', bo⟩ := hb.at j mj
        rw [ed] at ed'
        cases ed'
        obtain ⟨fd, F⟩ := cc.def_ j.fi ed
        have edf : d.dfl = [] := by simpa using f7
        have edv : d.dvs W.K = [] := by simp [He.DefD.dvs, edf]
        unfold xiB at f5
        split at f5
        · rename_i self nm _ B _ m p2 s1 _ _ _ _ p5 _ s2 _ f2' _ n2 _ _ eN eb
          simp only [Bool.and_eq_true, decide_eq_true_eq] at f5
          obtain ⟨⟨⟨⟨⟨⟨⟨⟨⟨⟨rfl, rfl⟩, rfl⟩, rfl⟩, rfl⟩, g1⟩, g2⟩, g3⟩, g4⟩, g5⟩, g6⟩ := f5
          rw [eN, f6] at S bo
          rw [eb, edv] at F
          unfold BindOk at bo
          rw [edf, eb] at bo
          refine ⟨_, _, fd, [_, _], ea, ⟨oexB_ok f1, He.eqO_ok f2, of_decide_eq_true b1.1.1.1.1.1.2, of_decide_eq_true b4, ?_⟩, He.eqO_ok f3, f4, F.bindsN bo, fun l => xinit_ok F S (glS_ok g1).1 (glS_ok g1).2 (He.glo_ok X G g5) (basB_ok g6) (visS_ok g2) (visS_ok g3) g4⟩
          exact b2.1.1.2
        · cases f5
      · cases b5
    · cases b5

/-- all that is asked of the text -/
theorem sta_of {pd : Pd} {fn : List He.DefD} {K : PySem.W.Frag} {h : Heap} {mg : Str → Option Value} {W : Wd} (X : K.In h) (G : h.Ns mainGlobals mg) (hK : W.K = K) (hmg : W.mg = mg) (e : exQ pd fn K = true) (c : He.SaysD [] fn K) (hd : defsB pd fn = true) (hb : BindAll fn pd.fns) : Sta W (gOf pd K) pd (adrOf pd K) where
  rest := sta_rest X G hK hmg e c hd hb
  same := fun k k' i i' e1 e2 ea => by simp only [adrOf, e1, e2, ea]
  fn := fun k i ei => by
    have mi := List.mem_of_getElem? ei
    obtain ⟨d, ed, b⟩ := hb.at i mi
    have q := List.all_eq_true.mp hd i mi
    rw [ed] at q
    have q : defB pd d i = true := q
    have ea : d.at_ = i.at_ := by
      have q := q
      simp only [defB, Bool.and_eq_true, decide_eq_true_eq] at q
      exact q.1.1.2
    obtain ⟨fd, F⟩ := c.def_ i.fi ed
    have ad : adrOf pd K k = He.fAd K d.at_ := by simp [adrOf, ei, ea]
    subst hK hmg
    rw [ad]
    refine ⟨def_ok F q b, F.kp, fun en => ?_⟩
    simp only [exQ, Bool.and_eq_true] at e
    have z := List.all_eq_true.mp e.2 i mi
    rw [en] at z
    simp only [Option.isSome_none, Bool.false_or, Bool.and_eq_true, Bool.not_eq_true'] at z
    refine ⟨?_, z.2⟩
    have : He.fAd W.K d.at_ = He.ga W.K i.at_.1 := by
      rw [ea]
      unfold He.fAd
      rw [en]
    rw [this]
    exact He.glo_ok X G z.1
end
end Q

end

section
set_option Elab.async false
set_option linter.all false
set_option maxRecDepth 100000
set_option maxHeartbeats 1000000
/-! Q24: the end of a law. -/
namespace Q
noncomputable section
open PySem PySem.Spec L2
open PyProof.Rows hiding St

/-! ### the head's facts, the interpreter's own statics among them -/
def asS (g : Addr → Option Obj) (n : Nat) : List Addr := He.asD g n ++ [cStatics]
def obsS (n : Nat) (fn : List He.DefD) (ex : PySem.W.Frag → Bool) (g : Addr → Option Obj) : He.AlX := (He.obsT [] fn [] (He.frT g (asS g n)), ex (He.frT g (asS g n)))
def hookS (n : Nat) (fn : List He.DefD) (ex : PySem.W.Frag → Bool) : PySem.W.Hook where
  α := He.AlX
  obs := fun s => obsS n fn ex s.heap.get?
  val := fun w => He.valX fn [] w
  says := fun w h => ∃ K : PySem.W.Frag, K.In h ∧ He.SaysX [] fn [] [] ex w h K
  of := fun _ _ e => ⟨_, He.frT_in, congrArg (fun z : He.AlX => z.1) e, congrArg (fun z : He.AlX => z.2) e, (fun _ hp => nomatch hp), (fun _ hp => nomatch hp), fun _ hp => nomatch hp⟩
  keeps := fun _ _ _ ⟨K, hK, c⟩ k => ⟨K, PySem.W.Frag.In.keeps hK k, ⟨c.t, c.more, c.hd, c.out, fun p hp => k _ _ (c.empty p hp)⟩⟩
theorem obsS_eq {n : Nat} {fn : List He.DefD} {ex : PySem.W.Frag → Bool} {g : Addr → Option Obj} {s : Shared} (h : ∀ a, g a = s.heap.get? a) : obsS n fn ex g = (hookS n fn ex).obs s := by
  have e : g = s.heap.get? := funext h
  rw [e] <;> rfl
theorem rep_scr {g : G} {H : Hp} {a : Addr} {ns : List Int} (h : SqL g.K H a (ns.map V.int)) : Rep g (AS.no.u .no) H (.ref a) (.scr ns) :=
  .scr (h.imp (fun r => ⟨r, fun z => z.elim id id⟩) id)
theorem law_sp {g : G} {H : Hp} {a : Addr} {ns : List Int} {F : Fn} (h : SqL g.K H a (ns.map V.int)) (e : F [.shr (.scr ns)] = some (.ret (.shr (.bl true)) [])) : GSp g 1 F [.ref a] H (fun v _ => v = .bl true) fun _ _ _ => False := by
  refine ⟨rfl, .no, .no, fun _ => .no, [.shr (.scr ns)], _, ⟨fun _ z => z.elim, fun _ z => z.elim, fun _ z => z.elim⟩, ⟨rfl, fun i r er => ?_, fun _ _ z => z, fun _ _ z => z.elim, fun _ _ _ _ z => z.elim⟩, e, fun v H' O' fp' kp nw cd en rr => ?_⟩
  · cases i with
    | zero =>
      simp at er
      subst er
      exact ⟨_, rfl, rep_scr h⟩
    | succ i => simp at er
  · have rr : Rep g _ H' v (.bl true) := rr
    cases rr
    rfl
theorem law_walk {l : PySem.W.OpenLaw} {q : Program} {loose : List Str} {XP : (Str → Option Value) → Heap → Prop} {d : DefRec} {pd : Pd} {fn : List He.DefD} {n m kL dm : Nat} {iL : DefI} {dL : He.DefD} {x : Str}
    (hn : l.most = some n) (hn2 : n ≤ sizeLine) (hdf : d.params.defaults = []) (hr : Room (2 * dm + 1) callerA) (hname : d.name = "law")
    (hd : defsB pd fn = true) (hb : BindAll fn pd.fns) (hL : pd.fns[kL]? = some iL) (ha : iL.at_ = (("law" : Str), none)) (hdL : fn[iL.fi]? = some dL) (hdfl : dL.dfl = []) (hnp : iL.ir.np = 1) (hx : iL.ir.N.take 1 = [x])
    (math : ∀ ns : List Int, ns.length ≤ n → (∀ z ∈ ns, Builtin.Int.intBits z ≤ 1048576) → ∃ fuel d, d ≤ dm ∧ pd.F fuel d kL [.shr (.scr ns)] = some (.ret (.shr (.bl true)) [])) :
    PySem.W.WalkO q loose XP (hookS m fn (exQ pd fn)).says l.row.toRowW d [] (fun f vs => PySem.call f vs) := by
  refine LamX.walk_ofTsE (CX := L2.CX l.prog) (n := n) (k := 2 * dm + 1) (x := x) hn hn2 hdf hr (fun w mg fa h Y G hmg => ?_) fun w H s e s' z => ?_
  · obtain ⟨K, KX, c⟩ := Y
    refine ⟨K, KX, ?_⟩
    obtain ⟨fd, F⟩ := c.t.d.def_ iL.fi hdL
    have sta := fun base => sta_of (W := ⟨l.prog, w, K, mg, base⟩) KX G rfl rfl c.more c.t.d hd hb
    have mi := List.mem_of_getElem? hL
    have qB := List.all_eq_true.mp hd iL mi
    rw [hdL] at qB
    have qB : defB pd dL iL = true := qB
    have ea : dL.at_ = iL.at_ := by
      have q := qB
      simp only [defB, Bool.and_eq_true, decide_eq_true_eq] at q
      exact q.1.1.2
    have ad : adrOf pd K kL = He.fAd K dL.at_ := by simp [adrOf, hL, ea]
    have hfa : fa = He.fAd K dL.at_ := by
      have z := ((sta h).fn kL iL hL).2.2 (by rw [ha])
      rw [ha] at z
      have z1 := z.1
      rw [hname] at hmg
      have z1 : mg "law" = some (.ref (adrOf pd K kL)) := z1
      rw [hmg] at z1
      rw [← ad]
      cases z1; rfl
    have kws : dL.kws K = [] := by
      have q := qB
      simp only [defB, Bool.and_eq_true] at q
      have : dL.kwd = [] := by simpa using q.1.1.1.2
      simp [He.DefD.kws, this]
    obtain ⟨d', ed', bo⟩ := hb.at iL mi
    rw [hdL] at ed'
    cases ed'
    unfold BindOk at bo
    rw [hdfl, hnp, hx] at bo
    have dv : dL.dvs K = [] := by simp [He.DefD.dvs, hdfl]
    have F' := F
    rw [dv] at F'
    refine ⟨fd, [], fun vs H Q E => ∃ fuel e, e + 1 ≤ dm ∧ GSp (gOf pd K) 1 (iL.ir.run (pd.gm (pd.F fuel e) fuel)) vs H Q E, fun p hp => absurd hp (by simp), fun p hp => absurd hp (by simp), fun p hp => absurd hp (by simp), fun s u => ?_, fun H a ns hl hbits _ hS => ?_, fun base hKb hGb _ => ?_⟩
    · exact FunD.bindsA (ps := [x]) F' bo s [u] rfl
    · obtain ⟨fuel, e, he, eF⟩ := math ns hl hbits
      cases e with
      | zero => cases eF
      | succ e =>
        have eF' : pd.F fuel (e + 1) kL = iL.ir.run (pd.gm (pd.F fuel e) fuel) := by
          show (match pd.fns[kL]? with
            | some i => i.ir.run (pd.gm (pd.F fuel e) fuel)
            | none => fun _ => none) = _
          rw [hL]
        rw [eF'] at eF
        exact ⟨fuel, e, he, law_sp hS eF⟩
    · have key : ∀ fuel e, e + 1 ≤ dm → FnOk l.prog w K mg base (L2.CX l.prog w) (2 * dm + 1) fa fd [x] (GSp (gOf pd K) 1 (iL.ir.run (pd.gm (pd.F fuel e) fuel))) := fun fuel e he => by
        have S := sat_all (sta base) fuel e
        have q := qB
        simp only [defB, Bool.and_eq_true, Bool.not_eq_true', decide_eq_true_eq] at q
        obtain ⟨x', qual, params, body, scope, dvs, kws', fd', ds, dv', h1, h2, h3, h4, h5, h6, h7⟩ := (def_ok (W := ⟨l.prog, w, K, mg, base⟩) (g := gOf pd K) F qB (by
          unfold BindOk; rw [hdfl, hnp, hx]; exact bo)).ex
        obtain ⟨⟨⟨⟨⟨⟨⟨⟨⟨⟨⟨⟨q1, q2⟩, q3⟩, q4⟩, q5⟩, q6⟩, q7⟩, q8⟩, q9⟩, q10⟩, q11⟩, q12⟩, q13⟩ := q
        have hps : (iL.ir.N.take iL.ir.np).length = iL.ir.np := by rw [List.length_take]; omega
        have Sc : FnScope iL.ir.N (iL.ir.N.take iL.ir.np) dL.scope := by
          refine ⟨?_, q2, q3, q4, by rw [hps], fun x hx => ?_, fun y hy e => ?_⟩
          · split at q1
            · assumption
            · cases q1
          · have q := List.all_eq_true.mp q5 x hx
            split at q
            · exact .inl (by assumption)
            · exact .inr (by assumption)
            · cases q
          · have q := List.all_eq_true.mp q6 y hy
            rw [e] at q
            cases q
        have ok := fn_ok (fuel := fuel) S (ir := iL.ir) F Sc q7 q8
        rw [hnp, hx] at ok
        rw [hfa]
        exact ok.mono (by omega)
      refine ⟨fun vs H Q E ⟨fuel, e, he, z⟩ => (key fuel e he).len vs H Q E z, fun A outer s H args us vs Q E hr he hb' hv ⟨fuel, e, hee, z⟩ => (key fuel e hee).run A outer s H args us vs Q E hr he hb' hv z⟩
  · obtain ⟨a, B, H', cls, dd, _, _, _, _, _, _, _, hE⟩ := z
    exact hE
end
end Q

end

section
set_option Elab.async false
set_option linter.all false
set_option maxRecDepth 100000
set_option maxHeartbeats 1000000
/-! Q25: rules for reckoning what a def gives. -/
namespace Q
noncomputable section
open PySem PySem.Spec L2
open PyProof.Rows hiding St

section
variable {α β : Type}
theorem x_ok (a : α) (k : α → Rx β) : (Rx.ok a).bind k = k a := rfl
theorem x_bad (k : α → Rx β) : (Rx.bad : Rx α).bind k = .bad := rfl
theorem x_ex (x : Exc) (k : α → Rx β) : (Rx.ex x : Rx α).bind k = .ex x := rfl
theorem x_some (a : α) : Rx.lift (some a) = .ok a := rfl
theorem x_none : Rx.lift (none : Option α) = .bad := rfl
theorem x_nok (a : α) : (Rx.ok a).nox = .ok a := rfl
theorem o_ok (a : α) (ρ : Rho) (k : α → Option Out) : bindO (.ok a) ρ k = k a := rfl
theorem o_ex (x : Exc) (ρ : Rho) (k : α → Option Out) : bindO (.ex x : Rx α) ρ k = some (.ex x ρ) := rfl
theorem a_ok (r : R) (ρ : Rho) (k : R → Rho → Option Out) : bindA (.ok r ρ) k = k r ρ := rfl
theorem a_ex (x : Exc) (ρ : Rho) (k : R → Rho → Option Out) : bindA (.ex x ρ) k = some (.ex x ρ) := rfl
theorem ra_ok (a : α) (ρ : Rho) (k : α → Ra) : bindRA (.ok a) ρ k = k a := rfl
theorem ra_ex (x : Exc) (ρ : Rho) (k : α → Ra) : bindRA (.ex x : Rx α) ρ k = .ex x ρ := rfl
end
section
variable (ρ : Rho) (o : Option R) (i : Nat) (d : D) (t : T) (r : R)
theorem g_shr : getR (some (.shr d) :: ρ) 0 = some (.shr d) := rfl
theorem g_own : getR (some (.own t) :: ρ) 0 = some (.vw t) := rfl
theorem g_tmp : getR (some (.tmp t) :: ρ) 0 = some (.tmp t) := rfl
theorem g_suc : getR (o :: ρ) (i + 1) = getR ρ i := rfl
theorem w_own : ownT (some (.own t) :: ρ) 0 = some t := rfl
theorem w_shr : ownT (some (.shr d) :: ρ) 0 = none := rfl
theorem w_tmp : ownT (some (.tmp t) :: ρ) 0 = none := rfl
theorem w_suc : ownT (o :: ρ) (i + 1) = ownT ρ i := rfl
theorem sto_shr (h : i < ρ.length) : stoF i (.shr d) ρ = some (.nx (ρ.set i (some (.shr d)))) := by simp [stoF, isVw, h]
theorem sto_own (h : i < ρ.length) : stoF i (.own t) ρ = some (.nx (ρ.set i (some (.own t)))) := by simp [stoF, isVw, h]
theorem sto_tmp (h : i < ρ.length) : stoF i (.tmp t) ρ = some (.nx (ρ.set i (some (.tmp t)))) := by simp [stoF, isVw, h]
theorem asg_ok (h : i < ρ.length) : asgA i r ρ = some (.nx (ρ.set i (some r))) := by simp [asgA, h]
theorem ret_shr : retF (.shr d) ρ = some (.rt (.shr d) ρ) := rfl
theorem ret_own : retF (.own t) ρ = some (.rt (.own t) ρ) := rfl
theorem frz_own : frzT 0 (some (.own t) :: ρ) = some (some (.shr t.d) :: ρ) := rfl
theorem frz_shr : frzT 0 (some (.shr d) :: ρ) = some (some (.shr d) :: ρ) := rfl
theorem frz_tmp : frzT 0 (some (.tmp t) :: ρ) = some (some (.tmp t) :: ρ) := rfl
theorem frz_non : frzT 0 (none :: ρ) = some (none :: ρ) := rfl
theorem frz_suc : frzT (i + 1) (o :: ρ) = (frzT i ρ).map (o :: ·) := by
  have e : ownT (o :: ρ) (i + 1) = ownT ρ i := rfl
  unfold frzT
  rw [e]
  cases ownT ρ i <;> rfl
theorem fgt_ : fgtF i ρ = some (ρ.set i none) := rfl
theorem seq_nx (f1 f2 : Rho → Option Out) (ρ' : Rho) (h : f1 ρ = some (.nx ρ')) : seqF f1 f2 ρ = f2 ρ' := by simp [seqF, h]
theorem seq_e (f1 f2 : Rho → Option Out) : seqF f1 f2 ρ = (f1 ρ).bind fun o => match o with
  | .nx ρ' => f2 ρ'
  | o => some o := rfl
theorem sh_shr : (R.shr d).sh = some d := rfl
theorem sh_own : (R.own (.pl d)).sh = some d := rfl
theorem sh_tmp : (R.tmp (.pl d)).sh = some d := rfl
theorem sh_vw : (R.vw (.pl d)).sh = some d := rfl
theorem d_shr : (R.shr d).d = d := rfl
theorem d_own : (R.own t).d = t.d := rfl
theorem d_tmp : (R.tmp t).d = t.d := rfl
theorem d_vw : (R.vw t).d = t.d := rfl
theorem T_pl : (T.pl d).d = d := rfl
theorem T_lf : (T.lf d).d = d := rfl
theorem bl_ (b : Bool) : blR (.shr (.bl b)) = some b := rfl
theorem rI_ (n : Int) : rI n = .shr (.int n) := rfl
theorem rS_ (n : Str) : rS n = .shr (.str n) := rfl
theorem rB_ (n : Bool) : rB n = .shr (.bl n) := rfl
theorem rL_ (n : List D) : rL n = .own (.pl (.lst n)) := rfl
theorem kid_shr : kid (.shr d) = some d := rfl
theorem kid_own : kid (.own t) = some t.d := rfl
theorem kids_nil : kids [] = some [] := rfl
theorem kids_cons (rs : List R) : kids (r :: rs) = (kid r).bind fun p => (kids rs).bind fun q => some (p :: q) := rfl
theorem cmp_ (op : CmpOp) (a b : R) : cmpR op a b = (cmpD op a.d b.d).map rB := rfl
theorem not_ : notR r = (blR r).map fun b => rB (!b) := rfl
theorem int_ (n : Int) : intR (.shr (.int n)) = some (some n) := rfl
theorem sz_ok {n : Nat} (h : n ≤ 16777216) : n ≤ sizeLine := h
theorem tup_ (rs : List R) (ds : List D) (h : kids rs = some ds) (hl : ds.length ≤ 16777216) : tupR rs = some (.shr (.tup ds)) := by
  simp [tupR, h, sz_ok hl]
theorem lst_ (rs : List R) (ds : List D) (h : kids rs = some ds) (hl : ds.length ≤ 16777216) : lstR rs = some (.own (.pl (.lst ds))) := by
  simp [lstR, h, sz_ok hl, rL]
theorem arg_shr : argOf (.shr d) = .shr d := rfl
theorem arg_own : argOf (.own t) = .shr t.d := rfl
theorem arg_vw : argOf (.vw t) = .tmp t := rfl
theorem arg_tmp : argOf (.tmp t) = .tmp t := rfl
theorem call_ret {F : Fn} {dfl : List D} {rs : List R} {r : R} (h : F (rs.map argOf ++ dfl.map .shr) = some (.ret r [])) : callX F dfl rs = .ok r := by simp [callX, h]
theorem call_e (F : Fn) (dfl : List D) (rs : List R) : callX F dfl rs = match F (rs.map argOf ++ dfl.map .shr) with
  | some (.ret r []) => .ok r
  | some (.ex x []) => .ex x
  | _ => .bad := rfl
theorem mk_e (keep : Bool) (c : Nat) (F : Fn) (dfl : List D) (rs : List R) : makeX keep c F dfl rs = match F (.own (.ins c []) :: (rs.map argOf ++ dfl.map .shr)) with
  | some (.ret (.shr .non) [t]) => .ok (if keep then .own t else .shr t.d)
  | some (.ex x [_]) => .ex x
  | _ => .bad := rfl
theorem end_nx (io : List Nat) : endF io (.nx ρ) = (outs io ρ).map (.ret (.shr .non)) := rfl
theorem end_rt (io : List Nat) : endF io (.rt r ρ) = (outs io ρ).map (.ret r) := rfl
theorem end_ex (io : List Nat) (x : Exc) : endF io (.ex x ρ) = (outs io ρ).map (.ex x) := rfl
theorem outs_nil : outs [] ρ = some [] := rfl
theorem outs_cons (is : List Nat) : outs (i :: is) ρ = (ownT ρ i).bind fun t => (outs is ρ).map (t :: ·) := rfl
end
/-! ### numbers, texts, lists -/
section
variable (i j : Int) (x y : Str) (xs ys : List D)
theorem b_sh (op : Operator) {ra rb : R} {a b : D} (ha : ra.sh = some a) (hb : rb.sh = some b) : binR op ra rb = binD op a b := by simp [binR, ha, hb]
theorem b_add : binD .Add (.int i) (.int j) = some (.shr (.int (i + j))) := rfl
theorem b_sub : binD .Sub (.int i) (.int j) = some (.shr (.int (i - j))) := rfl
theorem b_mulr (h : -18446744073709551616 < j ∧ j < 18446744073709551616) : binD .Mult (.int i) (.int j) = some (.shr (.int (i * j))) := by
  simp only [binD]; rw [if_pos (.inr (by simpa using h))]; rfl
theorem b_mull (h : -18446744073709551616 < i ∧ i < 18446744073709551616) : binD .Mult (.int i) (.int j) = some (.shr (.int (i * j))) := by
  simp only [binD]; rw [if_pos (.inl (by simpa using h))]; rfl
theorem b_fdiv (h : 0 < j ∧ j < 115792089237316195423570985008687907853269984665640564039457584007913129639936) : binD .FloorDiv (.int i) (.int j) = some (.shr (.int (i / j))) := by
  simp only [binD]
  rw [if_pos ⟨h.1, Int.lt_trans h.2 (by decide)⟩]; rfl
theorem b_mod (h : 0 < j) : binD .Mod (.int i) (.int j) = some (.shr (.int (i % j))) := by
  simp only [binD]; rw [if_pos h]; rfl
theorem b_pow (h : 0 ≤ j ∧ j ≤ 1000000 ∧ i.natAbs < 18446744073709551616) : binD .Pow (.int i) (.int j) = some (.shr (.int (i ^ j.toNat))) := by
  simp only [binD]; rw [if_pos (by simpa using h)]; rfl
theorem b_shl (h : 0 ≤ j ∧ j ≤ 1000000 ∧ i.natAbs < 18446744073709551616) : binD .LShift (.int i) (.int j) = some (.shr (.int (i * 2 ^ j.toNat))) := by
  simp only [binD]; rw [if_pos (by simpa using h)]; rfl
theorem b_shr (h : 0 ≤ j) : binD .RShift (.int i) (.int j) = some (.shr (.int (i / 2 ^ j.toNat))) := by
  simp only [binD]; rw [if_pos h]; rfl
theorem b_and : binD .BitAnd (.int i) (.int j) = some (.shr (.int (Builtin.bitAnd i j))) := rfl
theorem b_xor : binD .BitXor (.int i) (.int j) = some (.shr (.int (Builtin.bitXor i j))) := rfl
theorem b_cat (h : x.length + y.length ≤ 16777216) : binD .Add (.str x) (.str y) = some (.shr (.str (x ++ y))) := by
  simp only [binD]; rw [if_pos (sz_ok h)]; rfl
theorem b_app (h : xs.length + ys.length ≤ 16777216) : binD .Add (.lst xs) (.lst ys) = some (.own (.pl (.lst (xs ++ ys)))) := by
  simp only [binD]; rw [if_pos (sz_ok h)]; rfl
theorem b_tup (h : xs ≠ [] ∧ ys ≠ [] ∧ xs.length + ys.length ≤ 16777216) : binD .Add (.tup xs) (.tup ys) = some (.shr (.tup (xs ++ ys))) := by
  simp only [binD]; rw [if_pos ⟨h.1, h.2.1, sz_ok h.2.2⟩]
theorem c_lt : cmpD .Lt (.int i) (.int j) = some (decide (i < j)) := rfl
theorem c_le : cmpD .LtE (.int i) (.int j) = some (decide (i ≤ j)) := rfl
theorem c_gt : cmpD .Gt (.int i) (.int j) = some (decide (j < i)) := rfl
theorem c_ge : cmpD .GtE (.int i) (.int j) = some (decide (j ≤ i)) := rfl
theorem c_eq (a b : D) : cmpD .Eq a b = eqD a b := rfl
theorem c_ne (a b : D) : cmpD .NotEq a b = (eqD a b).map (!·) := rfl
theorem c_in (a b : D) : cmpD .In a b = inD a b := rfl
theorem c_nin (a b : D) : cmpD .NotIn a b = (inD a b).map (!·) := rfl
theorem c_is (a b : D) : cmpD .Is a b = isD a b := rfl
theorem c_isn (a b : D) : cmpD .IsNot a b = (isD a b).map (!·) := rfl
theorem c_slt : cmpD .Lt (.str x) (.str y) = some (strLt x y) := rfl
theorem e_int : eqD (.int i) (.int j) = some (decide (i = j)) := rfl
theorem e_str : eqD (.str x) (.str y) = some (decide (x = y)) := rfl
theorem e_bl (a b : Bool) : eqD (.bl a) (.bl b) = some (decide (a = b)) := rfl
theorem is_bl (a b : Bool) : isD (.bl a) (.bl b) = some (decide (a = b)) := rfl
theorem is_non : isD .non .non = some true := rfl
theorem is_int : isD (.int i) .non = some false := rfl
theorem is_str : isD (.str x) .non = some false := rfl
theorem is_lst : isD (.lst xs) .non = some false := rfl
theorem is_ins (c : Nat) : isD (.ins c xs) .non = some false := rfl
theorem len_lst (r : R) (h : r.d = .lst xs) : lenR [r] = some (.shr (.int xs.length)) := by simp only [lenR, h, rI]
theorem len_tup (r : R) (h : r.d = .tup xs) : lenR [r] = some (.shr (.int xs.length)) := by simp only [lenR, h, rI]
theorem len_scr (r : R) (ns : List Int) (h : r.d = .scr ns) : lenR [r] = some (.shr (.int ns.length)) := by simp only [lenR, h, rI]
theorem len_str (r : R) (h : r.d = .str x) (hl : x.length ≤ 16777216) : lenR [r] = some (.shr (.int x.length)) := by simp only [lenR, h, rI]; rw [if_pos (sz_ok hl)]
theorem len_dk (ds : List (Key × D)) : lenR [.vw (.pl (.dk ds))] = some (.shr (.int ds.length)) := rfl
theorem len_dt (ds : List (List Key × D)) : lenR [.vw (.pl (.dt ds))] = some (.shr (.int ds.length)) := rfl
theorem lst1_lst (r : R) (h : r.sh = some (.lst xs)) : lstR1 [r] = some (.own (.pl (.lst xs))) := by simp only [lstR1, h, rL]
theorem lst1_tup (r : R) (h : r.sh = some (.tup xs)) : lstR1 [r] = some (.own (.pl (.lst xs))) := by simp only [lstR1, h, rL]
theorem srt_ (r : R) (h : r.sh = some (.lst xs)) (hb : srtB xs = true) : srtR [r] = some (.own (.pl (.lst (sortD xs)))) := by simp only [srtR, h, rL]; rw [if_pos hb]
theorem sub_sh {ra ri : R} {d : D} (h : ra.sh = some d) : subR ra ri = (subD d ri.d).map .shr := by simp only [subR, h]
theorem s_lst : subD (.lst xs) (.int i) = atI xs i := rfl
theorem s_tup : subD (.tup xs) (.int i) = atI xs i := rfl
theorem s_scr (ns : List Int) : subD (.scr ns) (.int i) = (atI ns i).map .int := rfl
theorem s_dk (ds : List (Key × D)) (d : D) : subD (.dk ds) d = (Q.getD (.dk ds) d).bind id := rfl
theorem s_dt (ds : List (List Key × D)) (d : D) : subD (.dt ds) d = (Q.getD (.dt ds) d).bind id := rfl
theorem slc_sh {ra : R} {d : D} (lo hi : Option Int) (h : ra.sh = some d) : slcR ra lo hi = slcD d lo hi := by simp only [slcR, h]
theorem sl_lst (lo hi : Option Int) : slcD (.lst xs) lo hi = some (.own (.pl (.lst (cutG xs lo hi)))) := rfl
theorem sl_tup (lo hi : Option Int) : slcD (.tup xs) lo hi = some (.shr (.tup (cutG xs lo hi))) := rfl
theorem sl_scr (ns : List Int) (lo hi : Option Int) : slcD (.scr ns) lo hi = some (.own (.pl (.lst ((cutG ns lo hi).map .int)))) := rfl
theorem at_lit {α : Type} (xs : List α) (n : Nat) : atI xs (n : Int) = xs[n]? := by
  unfold atI ixN
  rw [if_pos (Int.natCast_nonneg n)]
  by_cases h : (n : Int) < xs.length
  · rw [if_pos h]; simp
  · rw [if_neg h]
    have : xs.length ≤ n := by omega
    simp [List.getElem?_eq_none this]
theorem at_nn {α : Type} (xs : List α) {i : Int} (h : 0 ≤ i) : atI xs i = xs[i.toNat]? := by
  have := at_lit xs i.toNat
  rwa [Int.toNat_of_nonneg h] at this
theorem at_0 {α : Type} (x : α) (xs : List α) : atI (x :: xs) 0 = some x := at_lit (x :: xs) 0
theorem at_1 {α : Type} (x y : α) (xs : List α) : atI (x :: y :: xs) 1 = some y := at_lit (x :: y :: xs) 1
theorem at_2 {α : Type} (x y z : α) (xs : List α) : atI (x :: y :: z :: xs) 2 = some z := at_lit (x :: y :: z :: xs) 2
theorem at_3 {α : Type} (x y z u : α) (xs : List α) : atI (x :: y :: z :: u :: xs) 3 = some u := at_lit (x :: y :: z :: u :: xs) 3
/-- one of a written list by a number mod its length -/
theorem at_mod {α : Type} (xs : List α) (d : α) (n : Int) (h : xs ≠ []) : atI xs (n % xs.length) = some (xs.getD (n % xs.length).toNat d) := by
  have hp : 0 < (xs.length : Int) := by
    have := List.length_pos_iff.mpr h
    omega
  have h1 := Int.emod_nonneg n (Int.ne_of_gt hp)
  have h2 := Int.emod_lt_of_pos n hp
  rw [at_nn xs h1]
  have h3 : (n % xs.length).toNat < xs.length := by omega
  rw [List.getElem?_eq_getElem h3]
  simp [List.getD, List.getElem?_eq_getElem h3]
theorem any_lst (r : R) (hv : isVw r = false) (h : r.sh = some (.lst xs)) : anyI r = some (xs.map .shr) := by simp [anyI, itemsR, hv, h]
theorem any_scr (r : R) (ns : List Int) (hv : isVw r = false) (h : r.sh = some (.scr ns)) : anyI r = some (ns.map rI) := by simp [anyI, itemsR, hv, h]
theorem any_tup (r : R) (hv : isVw r = false) (h : r.sh = some (.tup xs)) : anyI r = some (xs.map .shr) := by simp [anyI, itemsR, itemsT, hv, h]
theorem any_dk (r : R) (ds : List (Key × D)) (hv : isVw r = false) (h : r.sh = some (.dk ds)) : anyI r = some (ds.map fun kv => .shr (kD kv.1)) := by simp [anyI, itemsR, itemsT, keysR, hv, h]
theorem any_dt (r : R) (ds : List (List Key × D)) (hv : isVw r = false) (h : r.sh = some (.dt ds)) : anyI r = some (ds.map fun kv => .shr (.tup (kv.1.map kD))) := by simp [anyI, itemsR, itemsT, keysR, hv, h]
theorem rng1_ (r : R) (h : r.d = .int j) (hj : -4611686018427387904 ≤ j ∧ j < 4611686018427387904) : rng1R [r] = some (rngL 0 j.toNat) := by
  simp only [rng1R, h]; rw [if_pos (by simpa using hj)]
theorem rng2_ (r q : R) (h : r.d = .int i) (h' : q.d = .int j) (hi : -4611686018427387904 ≤ i ∧ i < 4611686018427387904) (hj : -4611686018427387904 ≤ j ∧ j < 4611686018427387904) : rng2R [r, q] = some (rngL i (j - i).toNat) := by
  simp only [rng2R, h, h']; rw [if_pos (by simpa [and_assoc] using And.intro hi hj)]
end
/-! ### loops -/
theorem for_map {α σ : Type} {tgt : R → Rho → Option Rho} {body : Rho → Option Out} (g : α → R) (enc : σ → Rho) (f : σ → α → σ) (P : σ → Prop) :
    ∀ (xs : List α) (s : σ), P s → (∀ s x, x ∈ xs → P s → P (f s x) ∧ ∃ ρ1, tgt (g x) (enc s) = some ρ1 ∧ (body ρ1 = some (.nx (enc (f s x))) ∨ body ρ1 = some (.ct (enc (f s x))))) →
      P (xs.foldl f s) ∧ forF tgt body (xs.map g) (enc s) = some (.nx (enc (xs.foldl f s)))
  | [], s, hP, _ => ⟨hP, rfl⟩
  | x :: xs, s, hP, h => by
    obtain ⟨hP', ρ1, h1, h2⟩ := h s x (List.mem_cons_self ..) hP
    have ih := for_map g enc f P xs (f s x) hP' fun s y hy hp => h s y (List.mem_cons_of_mem _ hy) hp
    refine ⟨ih.1, ?_⟩
    rcases h2 with h2 | h2 <;> simp only [List.map_cons, forF, h1, h2, Option.bind_some, List.foldl_cons] <;> exact ih.2
theorem for_eq {α σ : Type} {tgt : R → Rho → Option Rho} {body : Rho → Option Out} (g : α → R) (enc : σ → Rho) (f : σ → α → σ) (P : σ → Prop) (xs : List α) (s : σ) (hP : P s)
    (h : ∀ s x, x ∈ xs → P s → P (f s x) ∧ ∃ ρ1, tgt (g x) (enc s) = some ρ1 ∧ (body ρ1 = some (.nx (enc (f s x))) ∨ body ρ1 = some (.ct (enc (f s x))))) :
    forF tgt body (xs.map g) (enc s) = some (.nx (enc (xs.foldl f s))) := (for_map g enc f P xs s hP h).2
/-- without a state to keep -/
theorem for_id {α : Type} {tgt : R → Rho → Option Rho} {body : Rho → Option Out} (g : α → R) (ρ : Rho) (xs : List α)
    (h : ∀ x ∈ xs, ∃ ρ1, tgt (g x) ρ = some ρ1 ∧ (body ρ1 = some (.nx ρ) ∨ body ρ1 = some (.ct ρ))) : forF tgt body (xs.map g) ρ = some (.nx ρ) := by
  have := for_eq (σ := Unit) g (fun _ => ρ) (fun s _ => s) (fun _ => True) xs () trivial fun s x hx _ => ⟨trivial, h x hx⟩
  exact this
theorem lc_map {α : Type} {step : R → Rx (Option D)} (g : α → R) (p : α → Bool) (f : α → D) : ∀ (xs : List α), (∀ x ∈ xs, step (g x) = .ok (if p x = true then some (f x) else none)) → lcGo step (xs.map g) = .ok ((xs.filter p).map f)
  | [], _ => rfl
  | x :: xs, h => by
    have ih := lc_map g p f xs fun y hy => h y (List.mem_cons_of_mem _ hy)
    simp only [List.map_cons, lcGo, h x (List.mem_cons_self ..), Rx.bind, ih]
    by_cases hp : p x = true <;> simp [hp]
theorem lcR_map {α : Type} {step : R → Rx (Option D)} (g : α → R) (p : α → Bool) (f : α → D) (xs : List α) (hl : xs.length ≤ 16777216) (h : ∀ x ∈ xs, step (g x) = .ok (if p x = true then some (f x) else none)) :
    lcR step (xs.map g) = .ok (.own (.pl (.lst ((xs.filter p).map f)))) := by
  rw [lcR, if_pos (by simpa using sz_ok hl), lc_map g p f xs h]
  rfl
theorem lcR_all {α : Type} {step : R → Rx (Option D)} (g : α → R) (f : α → D) (xs : List α) (hl : xs.length ≤ 16777216) (h : ∀ x ∈ xs, step (g x) = .ok (some (f x))) :
    lcR step (xs.map g) = .ok (.own (.pl (.lst (xs.map f)))) := by
  have := lcR_map g (fun _ => true) f xs hl fun x hx => by rw [if_pos rfl]; exact h x hx
  rw [List.filter_eq_self.mpr fun _ _ => rfl] at this
  exact this
theorem rngL_map (lo : Int) (n : Nat) : rngL lo n = (List.range n).map fun k => .shr (.int (lo + (k : Nat))) := rfl
end
end Q

end

section
set_option Elab.async false
set_option linter.all false
set_option maxRecDepth 100000
set_option maxHeartbeats 1000000
/-! Q26: plain data: equality, order; rows of pairs as dicts. -/
namespace Q
noncomputable section
open PySem PySem.Spec L2
open PyProof.Rows hiding St

mutual
def pln : Nat → D → Bool
  | _, .non => true
  | _, .int _ => true
  | _, .str x => sok x
  | n, .lst xs => (match n with | 0 => false | n + 1 => plnL n xs)
  | n, .tup xs => (match n with | 0 => false | n + 1 => plnL n xs)
  | _, _ => false
def plnL : Nat → List D → Bool
  | _, [] => true
  | n, x :: xs => pln n x && plnL n xs
end
mutual
theorem pln_lay : ∀ (n : Nat) (d : D), pln n d = true → lay n d = true
  | _, .non, _ => by simp [lay]
  | _, .int _, _ => by simp [lay]
  | _, .str _, h => by simpa [lay, pln] using h
  | 0, .lst _, h => by simp [pln] at h
  | n + 1, .lst xs, h => by simp only [pln] at h; simp only [lay]; exact plnL_lay n xs h
  | 0, .tup _, h => by simp [pln] at h
  | n + 1, .tup xs, h => by simp only [pln] at h; simp only [lay]; exact plnL_lay n xs h
  | _, .bl _, h => by simp [pln] at h
  | _, .scr _, h => by simp [pln] at h
  | _, .dk _, h => by simp [pln] at h
  | _, .dt _, h => by simp [pln] at h
  | _, .ins _ _, h => by simp [pln] at h
  | _, .clo _ _, h => by simp [pln] at h
theorem plnL_lay : ∀ (n : Nat) (ds : List D), plnL n ds = true → layL n ds = true
  | _, [], _ => by simp [layL]
  | n, d :: ds, h => by
    simp only [plnL, Bool.and_eq_true] at h
    simp only [layL, Bool.and_eq_true]
    exact ⟨pln_lay n d h.1, plnL_lay n ds h.2⟩
end
mutual
theorem pln_eqv : ∀ (n m : Nat) (a b : D), pln n a = true → pln m b = true → (PyData.eqv (py a) (py b) = true ↔ a = b)
  | n, m, .non, b, _, h => by cases b <;> simp [pln, py, PyData.eqv] at h ⊢
  | n, m, .int i, b, _, h => by cases b <;> simp [pln, py, PyData.eqv] at h ⊢
  | n, m, .str x, b, _, h => by cases b <;> simp [pln, py, PyData.eqv] at h ⊢
  | 0, _, .lst _, _, h, _ => by simp [pln] at h
  | 0, _, .tup _, _, h, _ => by simp [pln] at h
  | n + 1, m, .lst xs, b, h, h' => by
    cases b with
    | lst ys =>
      cases m with
      | zero => simp [pln] at h'
      | succ m =>
        simp only [pln] at h h'
        simp only [py, PyData.eqv, D.lst.injEq]
        exact plnL_eqv n m xs ys h h'
    | _ => simp [pln, py, PyData.eqv] at h' ⊢
  | n + 1, m, .tup xs, b, h, h' => by
    cases b with
    | tup ys =>
      cases m with
      | zero => simp [pln] at h'
      | succ m =>
        simp only [pln] at h h'
        simp only [py, PyData.eqv, D.tup.injEq]
        exact plnL_eqv n m xs ys h h'
    | _ => simp [pln, py, PyData.eqv] at h' ⊢
  | _, _, .bl _, _, h, _ => by simp [pln] at h
  | _, _, .scr _, _, h, _ => by simp [pln] at h
  | _, _, .dk _, _, h, _ => by simp [pln] at h
  | _, _, .dt _, _, h, _ => by simp [pln] at h
  | _, _, .ins _ _, _, h, _ => by simp [pln] at h
  | _, _, .clo _ _, _, h, _ => by simp [pln] at h
theorem plnL_eqv : ∀ (n m : Nat) (a b : List D), plnL n a = true → plnL m b = true → (PyData.eqvAll (pyL a) (pyL b) = true ↔ a = b)
  | _, _, [], [], _, _ => by simp [pyL, PyData.eqvAll]
  | _, _, [], _ :: _, _, _ => by simp [pyL, PyData.eqvAll]
  | _, _, _ :: _, [], _, _ => by simp [pyL, PyData.eqvAll]
  | n, m, a :: as, b :: bs, h, h' => by
    simp only [plnL, Bool.and_eq_true] at h h'
    simp only [pyL, PyData.eqvAll, Bool.and_eq_true, List.cons.injEq]
    rw [pln_eqv n m a b h.1 h'.1, plnL_eqv n m as bs h.2 h'.2]
end
theorem plnL_map {α : Type} (f : α → D) (n : Nat) (h : ∀ x, pln n (f x) = true) (xs : List α) : plnL n (xs.map f) = true := by
  induction xs with
  | nil => simp [plnL]
  | cons x xs ih => simp [plnL, h x, ih]
theorem plnL_mapM {α : Type} (f : α → D) (n : Nat) (xs : List α) (h : ∀ x ∈ xs, pln n (f x) = true) : plnL n (xs.map f) = true := by
  induction xs with
  | nil => simp [plnL]
  | cons x xs ih => simp [plnL, h x (List.mem_cons_self ..), ih fun y hy => h y (List.mem_cons_of_mem _ hy)]
mutual
theorem pln_mono : ∀ (n m : Nat) (d : D), n ≤ m → pln n d = true → pln m d = true
  | _, _, .non, _, _ => by simp [pln]
  | _, _, .int _, _, _ => by simp [pln]
  | _, _, .str _, _, h => by simpa [pln] using h
  | 0, _, .lst _, _, h => by simp [pln] at h
  | 0, _, .tup _, _, h => by simp [pln] at h
  | n + 1, 0, .lst _, l, _ => by omega
  | n + 1, 0, .tup _, l, _ => by omega
  | n + 1, m + 1, .lst xs, l, h => by simp only [pln] at h ⊢; exact plnL_mono n m xs (by omega) h
  | n + 1, m + 1, .tup xs, l, h => by simp only [pln] at h ⊢; exact plnL_mono n m xs (by omega) h
  | _, _, .bl _, _, h => by simp [pln] at h
  | _, _, .scr _, _, h => by simp [pln] at h
  | _, _, .dk _, _, h => by simp [pln] at h
  | _, _, .dt _, _, h => by simp [pln] at h
  | _, _, .ins _ _, _, h => by simp [pln] at h
  | _, _, .clo _ _, _, h => by simp [pln] at h
theorem plnL_mono : ∀ (n m : Nat) (ds : List D), n ≤ m → plnL n ds = true → plnL m ds = true
  | _, _, [], _, _ => by simp [plnL]
  | n, m, d :: ds, l, h => by
    simp only [plnL, Bool.and_eq_true] at h ⊢
    exact ⟨pln_mono n m d l h.1, plnL_mono n m ds l h.2⟩
end
/-- == of plain data -/
theorem eqD_pln {a b : D} (ha : pln 60 a = true) (hb : pln 60 b = true) : (a = b → eqD a b = some true) ∧ (a ≠ b → eqD a b = some false) := by
  have gen : eqD a b = some (PyData.eqv (py a) (py b)) := by
    have hl : layB a b = true := by simp [layB, pln_lay _ _ ha, pln_lay _ _ hb]
    unfold eqD
    split
    · simp [py, PyData.eqv]; rfl
    · simp [py, PyData.eqv]; rfl
    · simp [pln] at ha
    · rw [if_pos hl]
  have k := pln_eqv 60 60 a b ha hb
  rw [gen]
  exact ⟨fun e => congrArg some (k.mpr e), fun e => congrArg some (by
    cases q : PyData.eqv (py a) (py b) with
    | false => rfl
    | true => exact absurd (k.mp q) e)⟩
theorem eqD_of {α : Type} [DecidableEq α] {f : α → D} (inj : ∀ x y, f x = f y → x = y) (h : ∀ x, pln 60 (f x) = true) (x y : α) : eqD (f x) (f y) = some (decide (x = y)) := by
  by_cases e : x = y
  · subst e; rw [(eqD_pln (h x) (h x)).1 rfl, decide_eq_true rfl]
  · rw [(eqD_pln (h x) (h y)).2 fun q => e (inj x y q), decide_eq_false e]
theorem map_injL {α : Type} {f : α → D} (inj : ∀ x y, f x = f y → x = y) : ∀ (xs ys : List α), xs.map f = ys.map f → xs = ys
  | [], [], _ => rfl
  | [], _ :: _, h => by simp at h
  | _ :: _, [], h => by simp at h
  | x :: xs, y :: ys, h => by
    simp only [List.map_cons, List.cons.injEq] at h
    rw [inj x y h.1, map_injL inj xs ys h.2]
theorem eqD_lst {α : Type} [DecidableEq α] {f : α → D} (inj : ∀ x y, f x = f y → x = y) (h : ∀ x, pln 59 (f x) = true) (xs ys : List α) : eqD (.lst (xs.map f)) (.lst (ys.map f)) = some (decide (xs = ys)) :=
  eqD_of (f := fun xs : List α => D.lst (xs.map f)) (fun x y e => map_injL inj x y (D.lst.inj e)) (fun x => by simp only [pln]; exact plnL_map f 59 h x) xs ys
theorem inD_lst {α : Type} [DecidableEq α] {f : α → D} (inj : ∀ x y, f x = f y → x = y) (h : ∀ x, pln 59 (f x) = true) (x : α) (ys : List α) : inD (f x) (.lst (ys.map f)) = some (decide (x ∈ ys)) := by
  have hl : layB (f x) (.lst (ys.map f)) = true := by
    have h1 := pln_lay 60 _ (pln_mono 59 60 _ (by omega) (h x))
    have h2 : lay 60 (.lst (ys.map f)) = true := pln_lay 60 _ (by simp only [pln]; exact plnL_map f 59 h ys)
    simp [layB, h1, h2]
  simp only [inD]
  rw [if_pos hl]
  refine congrArg some ?_
  clear hl
  induction ys with
  | nil => simp [pyL]
  | cons y ys ih =>
    simp only [List.map_cons, pyL, List.any_cons, ih]
    have k := pln_eqv 59 59 (f y) (f x) (h y) (h x)
    by_cases e : x = y
    · subst e; simp [k.mpr rfl]
    · have : PyData.eqv (py (f y)) (py (f x)) = false := by
        cases q : PyData.eqv (py (f y)) (py (f x)) with
        | false => rfl
        | true => exact absurd (inj _ _ (k.mp q)).symm e
      simp [this, e]
/-! ### sorted -/
theorem layL_map {α : Type} (f : α → D) (n : Nat) (h : ∀ x, lay n (f x) = true) (xs : List α) : layL n (xs.map f) = true := by
  induction xs with
  | nil => simp [layL]
  | cons x xs ih => simp [layL, h x, ih]
theorem srtB_map {α : Type} {f : α → D} (h1 : ∀ x, pln 59 (f x) = true) (h2 : ∀ x y, PySem.W.alike (py (f x)) (py (f y)) = true) (h3 : (∀ x, isTu (py (f x)) = true) ∨ ∀ x, isPl (py (f x)) = true) (xs : List α) (hl : xs.length ≤ 16777216) : srtB (xs.map f) = true := by
  simp only [srtB, Bool.and_eq_true, Bool.or_eq_true, decide_eq_true_eq, List.length_map]
  refine ⟨⟨⟨layL_map f 59 (fun x => pln_lay _ _ (h1 x)) xs, ?_⟩, ?_⟩, sz_ok hl⟩
  · simp only [List.all_map, List.all_eq_true, Function.comp]
    intro x _ y _
    exact h2 x y
  · rcases h3 with h3 | h3
    · left; simp only [List.all_map, List.all_eq_true, Function.comp]; intro x _; exact h3 x
    · right; simp only [List.all_map, List.all_eq_true, Function.comp]; intro x _; exact h3 x
def srt {α : Type} (f : α → D) (xs : List α) : List α := xs.mergeSort fun a b => leD (f a) (f b)
theorem sortD_map {α : Type} (f : α → D) (xs : List α) : sortD (xs.map f) = (srt f xs).map f := by
  unfold sortD srt
  exact (List.map_mergeSort (f := f) (l := xs) (r := fun a b => leD (f a) (f b)) (s := leD) fun _ _ _ _ => rfl).symm
theorem srt_perm {α : Type} (f : α → D) (xs : List α) : (srt f xs).Perm xs := List.mergeSort_perm ..
theorem srt_len {α : Type} (f : α → D) (xs : List α) : (srt f xs).length = xs.length := List.length_mergeSort ..
/-! ### dicts as rows of pairs -/
section
variable {κ κ' v : Type} [DecidableEq κ] [DecidableEq κ']
def aput (m : List (κ × v)) (k : κ) (x : v) : List (κ × v) :=
  if (m.any fun p => decide (p.1 = k)) = true then m.map (fun p => if p.1 = k then (p.1, x) else p) else m ++ [(k, x)]
def aget (m : List (κ × v)) (k : κ) : Option v := (m.find? fun p => decide (p.1 = k)).map (·.2)
theorem putD_map {ek : κ' → κ} (inj : ∀ a b, ek a = ek b → a = b) (ed : v → D) (m : List (κ' × v)) (k : κ') (x : v) :
    putD (m.map fun p => (ek p.1, ed p.2)) (ek k) (ed x) = (aput m k x).map fun p => (ek p.1, ed p.2) := by
  have q : ∀ a, decide (ek a = ek k) = decide (a = k) := fun a => by
    by_cases e : a = k
    · simp [e]
    · rw [decide_eq_false e, decide_eq_false fun z => e (inj _ _ z)]
  have e1 : ((m.map fun p => (ek p.1, ed p.2)).any fun kv => decide (kv.1 = ek k)) = m.any fun p => decide (p.1 = k) := by
    rw [List.any_map]
    exact congrArg (fun z => m.any z) (funext fun p => q p.1)
  unfold putD aput
  rw [e1]
  split
  · simp only [List.map_map]
    refine List.map_congr_left fun p _ => ?_
    by_cases e : p.1 = k
    · simp [e]
    · have : ek p.1 ≠ ek k := fun z => e (inj _ _ z)
      simp [e, this]
  · simp
theorem valD_map {ek : κ' → κ} (inj : ∀ a b, ek a = ek b → a = b) (ed : v → D) (m : List (κ' × v)) (k : κ') :
    valD (m.map fun p => (ek p.1, ed p.2)) (ek k) = (aget m k).map ed := by
  have q : ∀ a, decide (ek a = ek k) = decide (a = k) := fun a => by
    by_cases e : a = k
    · simp [e]
    · rw [decide_eq_false e, decide_eq_false fun z => e (inj _ _ z)]
  unfold valD aget
  rw [List.find?_map]
  have : ((fun kv : κ × D => decide (kv.1 = ek k)) ∘ fun p : κ' × v => (ek p.1, ed p.2)) = fun p => decide (p.1 = k) := funext fun p => q p.1
  rw [this]
  cases m.find? fun p => decide (p.1 = k) <;> rfl
theorem aput_len (m : List (κ × v)) (k : κ) (x : v) : (aput m k x).length ≤ m.length + 1 := by
  unfold aput
  split <;> simp
theorem aget_nil (k : κ) : aget ([] : List (κ × v)) k = none := rfl
theorem aget_cons (p : κ × v) (m : List (κ × v)) (k : κ) : aget (p :: m) k = if p.1 = k then some p.2 else aget m k := by
  unfold aget
  by_cases e : p.1 = k <;> simp [List.find?_cons, e]
theorem aget_append (m m' : List (κ × v)) (k : κ) : aget (m ++ m') k = (aget m k).or (aget m' k) := by
  induction m with
  | nil => rfl
  | cons p m ih =>
    rw [List.cons_append, aget_cons, aget_cons, ih]
    by_cases e : p.1 = k <;> simp [e]
theorem aget_mem {m : List (κ × v)} {k : κ} : (∃ x, (k, x) ∈ m) → ∃ x, aget m k = some x := by
  rintro ⟨x, h⟩
  induction m with
  | nil => simp at h
  | cons p m ih =>
    rw [aget_cons]
    by_cases e : p.1 = k
    · exact ⟨p.2, by simp [e]⟩
    · rw [if_neg e]
      refine ih ?_
      rcases List.mem_cons.mp h with h | h
      · exact absurd (by rw [← h]) e
      · exact h
theorem aget_some {m : List (κ × v)} {k : κ} {x : v} (h : aget m k = some x) : (k, x) ∈ m := by
  induction m with
  | nil => simp [aget_nil] at h
  | cons p m ih =>
    rw [aget_cons] at h
    by_cases e : p.1 = k
    · rw [if_pos e] at h
      cases h; cases e
      exact List.mem_cons_self ..
    · rw [if_neg e] at h
      exact List.mem_cons_of_mem _ (ih h)
theorem any_key {m : List (κ × v)} {k : κ} : (m.any fun p => decide (p.1 = k)) = true ↔ k ∈ m.map (·.1) := by
  simp only [List.any_eq_true, decide_eq_true_eq, List.mem_map]
theorem aput_keys (m : List (κ × v)) (k : κ) (x : v) : (aput m k x).map (·.1) = if k ∈ m.map (·.1) then m.map (·.1) else m.map (·.1) ++ [k] := by
  unfold aput
  by_cases h : (m.any fun p => decide (p.1 = k)) = true
  · rw [if_pos h, if_pos (any_key.mp h), List.map_map]
    refine List.map_congr_left fun p _ => ?_
    by_cases e : p.1 = k <;> simp [e]
  · rw [if_neg h, if_neg fun z => h (any_key.mpr z)]
    simp
theorem aget_none {m : List (κ × v)} {k : κ} : aget m k = none ↔ k ∉ m.map (·.1) := by
  induction m with
  | nil => simp [aget_nil]
  | cons p m ih =>
    rw [aget_cons]
    by_cases e : p.1 = k
    · simp [e]
    · rw [if_neg e, ih, List.map_cons, List.mem_cons]
      have : ¬ k = p.1 := fun z => e z.symm
      simp only [this, false_or]
theorem aget_put (m : List (κ × v)) (k k' : κ) (x : v) : aget (aput m k x) k' = if k' = k then some x else aget m k' := by
  unfold aput
  by_cases h : (m.any fun p => decide (p.1 = k)) = true
  · rw [if_pos h]
    induction m with
    | nil => simp at h
    | cons p m ih =>
      rw [List.map_cons, aget_cons, aget_cons]
      by_cases e : p.1 = k
      · rw [if_pos e]
        by_cases e' : k' = k
        · simp [e', e]
        · have : ¬ p.1 = k' := fun z => e' (z.symm.trans e)
          rw [if_neg e', if_neg this, if_neg this]
          by_cases h' : (m.any fun p => decide (p.1 = k)) = true
          · rw [ih h', if_neg e']
          · have : m.map (fun p => if p.1 = k then (p.1, x) else p) = m := by
              refine (List.map_congr_left fun q hq => ?_).trans (List.map_id m)
              have : ¬ q.1 = k := fun z => h' (List.any_eq_true.mpr ⟨q, hq, decide_eq_true z⟩)
              simp [this]
            rw [this]
      · have h' : (m.any fun p => decide (p.1 = k)) = true := by simpa [e] using h
        rw [if_neg e, ih h']
        by_cases e' : k' = k
        · subst e'; simp [e]
        · simp [e']
  · rw [if_neg h, aget_append, aget_cons, aget_nil]
    have hn : k ∉ m.map (·.1) := fun z => h (any_key.mpr z)
    by_cases e' : k' = k
    · subst e'
      rw [aget_none.mpr hn]; simp
    · have : ¬ k = k' := fun z => e' z.symm
      simp [e', this]
end
/-! ### names; one of a written list -/
structure Nam where
  s : Str
  ok : sok s = true
instance : DecidableEq Nam := fun a b => if h : a.s = b.s then .isTrue (by cases a; cases b; cases h; rfl) else .isFalse fun e => h (congrArg Nam.s e)
theorem Nam.inj {a b : Nam} (h : a.s = b.s) : a = b := by cases a; cases b; cases h; rfl
theorem at_map {α : Type} (f : α → D) (xs : List α) (i : Int) : atI (xs.map f) i = (atI xs i).map f := by
  unfold atI
  rw [List.length_map]
  cases ixN xs.length i with
  | none => rfl
  | some j => simp
theorem at_modM {α : Type} (f : α → D) (xs : List α) (d : α) (n m : Int) (hm : m = xs.length) (h : xs ≠ []) : atI (xs.map f) (n % m) = some (f (xs.getD (n % m).toNat d)) := by
  subst hm
  rw [at_map, at_mod xs d n h]
  rfl
theorem at_i2 (a b n : Int) : atI [D.int a, D.int b] (n % 2) = some (.int ([a, b].getD (n % 2).toNat 0)) := at_modM D.int [a, b] 0 n 2 rfl (by simp)
theorem at_i3 (a b c n : Int) : atI [D.int a, D.int b, D.int c] (n % 3) = some (.int ([a, b, c].getD (n % 3).toNat 0)) := at_modM D.int [a, b, c] 0 n 3 rfl (by simp)
theorem at_i4 (a b c d n : Int) : atI [D.int a, D.int b, D.int c, D.int d] (n % 4) = some (.int ([a, b, c, d].getD (n % 4).toNat 0)) := at_modM D.int [a, b, c, d] 0 n 4 rfl (by simp)
theorem at_i5 (a b c d e n : Int) : atI [D.int a, D.int b, D.int c, D.int d, D.int e] (n % 5) = some (.int ([a, b, c, d, e].getD (n % 5).toNat 0)) := at_modM D.int [a, b, c, d, e] 0 n 5 rfl (by simp)
theorem at_i6 (a b c d e f n : Int) : atI [D.int a, D.int b, D.int c, D.int d, D.int e, D.int f] (n % 6) = some (.int ([a, b, c, d, e, f].getD (n % 6).toNat 0)) := at_modM D.int [a, b, c, d, e, f] 0 n 6 rfl (by simp)
theorem at_i7 (a b c d e f g n : Int) : atI [D.int a, D.int b, D.int c, D.int d, D.int e, D.int f, D.int g] (n % 7) = some (.int ([a, b, c, d, e, f, g].getD (n % 7).toNat 0)) := at_modM D.int [a, b, c, d, e, f, g] 0 n 7 rfl (by simp)
theorem at_i8 (a b c d e f g h n : Int) : atI [D.int a, D.int b, D.int c, D.int d, D.int e, D.int f, D.int g, D.int h] (n % 8) = some (.int ([a, b, c, d, e, f, g, h].getD (n % 8).toNat 0)) := at_modM D.int [a, b, c, d, e, f, g, h] 0 n 8 rfl (by simp)
theorem at_i9 (a b c d e f g h i n : Int) : atI [D.int a, D.int b, D.int c, D.int d, D.int e, D.int f, D.int g, D.int h, D.int i] (n % 9) = some (.int ([a, b, c, d, e, f, g, h, i].getD (n % 9).toNat 0)) := at_modM D.int [a, b, c, d, e, f, g, h, i] 0 n 9 rfl (by simp)
theorem at_i10 (a b c d e f g h i j n : Int) : atI [D.int a, D.int b, D.int c, D.int d, D.int e, D.int f, D.int g, D.int h, D.int i, D.int j] (n % 10) = some (.int ([a, b, c, d, e, f, g, h, i, j].getD (n % 10).toNat 0)) := at_modM D.int [a, b, c, d, e, f, g, h, i, j] 0 n 10 rfl (by simp)
theorem at_i11 (a b c d e f g h i j k n : Int) : atI [D.int a, D.int b, D.int c, D.int d, D.int e, D.int f, D.int g, D.int h, D.int i, D.int j, D.int k] (n % 11) = some (.int ([a, b, c, d, e, f, g, h, i, j, k].getD (n % 11).toNat 0)) := at_modM D.int [a, b, c, d, e, f, g, h, i, j, k] 0 n 11 rfl (by simp)
theorem at_i12 (a b c d e f g h i j k l n : Int) : atI [D.int a, D.int b, D.int c, D.int d, D.int e, D.int f, D.int g, D.int h, D.int i, D.int j, D.int k, D.int l] (n % 12) = some (.int ([a, b, c, d, e, f, g, h, i, j, k, l].getD (n % 12).toNat 0)) := at_modM D.int [a, b, c, d, e, f, g, h, i, j, k, l] 0 n 12 rfl (by simp)
theorem at_i13 (a b c d e f g h i j k l m n : Int) : atI [D.int a, D.int b, D.int c, D.int d, D.int e, D.int f, D.int g, D.int h, D.int i, D.int j, D.int k, D.int l, D.int m] (n % 13) = some (.int ([a, b, c, d, e, f, g, h, i, j, k, l, m].getD (n % 13).toNat 0)) := at_modM D.int [a, b, c, d, e, f, g, h, i, j, k, l, m] 0 n 13 rfl (by simp)
end
end Q

end

section
set_option Elab.async false
set_option linter.all false
set_option maxRecDepth 100000
set_option maxHeartbeats 1000000
/-! Q27: the equations of what terms give, one at a time; printed by genq27.py. -/
namespace Q
noncomputable section
open PySem PySem.Spec L2
open PyProof.Rows hiding St

/-- what follows a statement -/
def seqO (o : Option Out) (f : Rho → Option Out) : Option Out := o.bind fun o => match o with
  | .nx ρ' => f ρ'
  | o => some o
theorem seq_o (f1 f2 : Rho → Option Out) (ρ : Rho) : seqF f1 f2 ρ = seqO (f1 ρ) f2 := rfl
theorem so_nx (ρ : Rho) (f : Rho → Option Out) : seqO (some (.nx ρ)) f = f ρ := rfl
theorem so_rt (r : R) (ρ : Rho) (f : Rho → Option Out) : seqO (some (.rt r ρ)) f = some (.rt r ρ) := rfl
theorem so_bk (ρ : Rho) (f : Rho → Option Out) : seqO (some (.bk ρ)) f = some (.bk ρ) := rfl
theorem so_ct (ρ : Rho) (f : Rho → Option Out) : seqO (some (.ct ρ)) f = some (.ct ρ) := rfl
theorem so_ex (x : Exc) (ρ : Rho) (f : Rho → Option Out) : seqO (some (.ex x ρ)) f = some (.ex x ρ) := rfl
theorem so_if (c : Prop) [Decidable c] (a b : Option Out) (f : Rho → Option Out) : seqO (if c then a else b) f = if c then seqO a f else seqO b f := by split <;> rfl
def ifO (c : Rx R) (ρ : Rho) (f g : Rho → Option Out) : Option Out := bindO c ρ fun rc => (blR rc).bind fun t => if t = true then f ρ else g ρ
theorem if_t (ρ : Rho) (f g : Rho → Option Out) : ifO (.ok (.shr (.bl true))) ρ f g = f ρ := rfl
theorem if_f (ρ : Rho) (f g : Rho → Option Out) : ifO (.ok (.shr (.bl false))) ρ f g = g ρ := rfl
theorem if_d (c : Prop) [Decidable c] (ρ : Rho) (f g : Rho → Option Out) : ifO (.ok (.shr (.bl (decide c)))) ρ f g = if c then f ρ else g ρ := by
  by_cases h : c <;> simp [ifO, blR, bindO, h]
theorem if_nd (c : Prop) [Decidable c] (ρ : Rho) (f g : Rho → Option Out) : ifO (.ok (.shr (.bl (!decide c)))) ρ f g = if c then g ρ else f ρ := by
  by_cases h : c <;> simp [ifO, blR, bindO, h]
theorem if_x (x : Exc) (ρ : Rho) (f g : Rho → Option Out) : ifO (.ex x) ρ f g = some (.ex x ρ) := rfl
def ifR (c : Rx R) (ρ : Rho) (f g : Rho → Rx R) : Rx R := c.bind fun rc => (Rx.lift (blR rc)).bind fun t => if t = true then f ρ else g ρ
theorem ir_t (ρ : Rho) (f g : Rho → Rx R) : ifR (.ok (.shr (.bl true))) ρ f g = f ρ := rfl
theorem ir_f (ρ : Rho) (f g : Rho → Rx R) : ifR (.ok (.shr (.bl false))) ρ f g = g ρ := rfl
theorem ir_d (c : Prop) [Decidable c] (ρ : Rho) (f g : Rho → Rx R) : ifR (.ok (.shr (.bl (decide c)))) ρ f g = if c then f ρ else g ρ := by
  by_cases h : c <;> simp [ifR, blR, Rx.bind, Rx.lift, h]
def boO (c : Rx R) (ρ : Rho) (isAnd : Bool) (f : Rho → Rx R) : Rx R := c.bind fun r => (Rx.lift (blR r)).bind fun b => if b = isAnd then f ρ else .ok (rB b)
theorem bo_1 (Γ : Gm) (k : Bool) (e : E) (ρ : Rho) : boE Γ k (.cons e .nil) ρ = (ev Γ e ρ).bind fun r => .ok r := by
  show ev Γ e ρ = _
  cases ev Γ e ρ <;> rfl
theorem bo_n (Γ : Gm) (k : Bool) (e e' : E) (es : Es) (ρ : Rho) : boE Γ k (.cons e (.cons e' es)) ρ = boO (ev Γ e ρ) ρ k (boE Γ k (.cons e' es)) := rfl
theorem bo_tt (ρ : Rho) (f : Rho → Rx R) : boO (.ok (.shr (.bl true))) ρ true f = f ρ := rfl
theorem bo_tf (ρ : Rho) (f : Rho → Rx R) : boO (.ok (.shr (.bl true))) ρ false f = .ok (.shr (.bl true)) := rfl
theorem bo_ft (ρ : Rho) (f : Rho → Rx R) : boO (.ok (.shr (.bl false))) ρ true f = .ok (.shr (.bl false)) := rfl
theorem bo_ff (ρ : Rho) (f : Rho → Rx R) : boO (.ok (.shr (.bl false))) ρ false f = f ρ := rfl
theorem bo_x (x : Exc) (k : Bool) (ρ : Rho) (f : Rho → Rx R) : boO (.ex x) ρ k f = .ex x := rfl
/-- where both sides are plain answers -/
theorem bo_an (b : Bool) (ρ : Rho) (f : Rho → Rx R) : boO (.ok (.shr (.bl b))) ρ true f = if b = true then f ρ else .ok (.shr (.bl false)) := by cases b <;> rfl
theorem bo_or (b : Bool) (ρ : Rho) (f : Rho → Rx R) : boO (.ok (.shr (.bl b))) ρ false f = if b = true then .ok (.shr (.bl true)) else f ρ := by cases b <;> rfl
theorem ite_bl (c : Prop) [Decidable c] (a b : Bool) : (if c then Rx.ok (R.shr (.bl a)) else Rx.ok (R.shr (.bl b))) = Rx.ok (R.shr (.bl (if c then a else b))) := by split <;> rfl
theorem ite_ff (c : Prop) [Decidable c] (b : Bool) : (if c then b else false) = (decide c && b) := by by_cases h : c <;> simp [h]
theorem ite_tt (c : Prop) [Decidable c] (b : Bool) : (if c then true else b) = (decide c || b) := by by_cases h : c <;> simp [h]
theorem if_b (b : Bool) (ρ : Rho) (f g : Rho → Option Out) : ifO (.ok (.shr (.bl b))) ρ f g = if b = true then f ρ else g ρ := rfl
theorem ir_b (b : Bool) (ρ : Rho) (f g : Rho → Rx R) : ifR (.ok (.shr (.bl b))) ρ f g = if b = true then f ρ else g ρ := rfl
def rseO (c : Nat) (x : Rx R) (ρ : Rho) : Option Out := bindO x ρ fun r => match r.d with
  | .str z => some (.ex ⟨c, [.str z]⟩ ρ)
  | _ => none
theorem rse_s (c : Nat) (z : Str) (ρ : Rho) : rseO c (.ok (.shr (.str z))) ρ = some (.ex ⟨c, [.str z]⟩ ρ) := rfl
theorem rse_x (c : Nat) (x : Exc) (ρ : Rho) : rseO c (.ex x) ρ = some (.ex x ρ) := rfl
def tryO (i : Nat) (isa : Nat → Option Bool) (fh : T → Rho → Option Out) (o : Option Out) : Option Out := o.bind fun o => match o with
  | .ex q ρ' => (isa q.c).bind fun b => if b = true then sutF i fh q ρ' else some (.ex q ρ')
  | o => some o
theorem try_nx (i : Nat) (isa : Nat → Option Bool) (fh : T → Rho → Option Out) (ρ : Rho) : tryO i isa fh (some (.nx ρ)) = some (.nx ρ) := rfl
theorem try_bk (i : Nat) (isa : Nat → Option Bool) (fh : T → Rho → Option Out) (ρ : Rho) : tryO i isa fh (some (.bk ρ)) = some (.bk ρ) := rfl
theorem try_ct (i : Nat) (isa : Nat → Option Bool) (fh : T → Rho → Option Out) (ρ : Rho) : tryO i isa fh (some (.ct ρ)) = some (.ct ρ) := rfl
theorem try_rt (i : Nat) (isa : Nat → Option Bool) (fh : T → Rho → Option Out) (r : R) (ρ : Rho) : tryO i isa fh (some (.rt r ρ)) = some (.rt r ρ) := rfl
theorem try_ex (i : Nat) (isa : Nat → Option Bool) (fh : T → Rho → Option Out) (c : Nat) (fs : List D) (ρ : Rho) : tryO i isa fh (some (.ex ⟨c, fs⟩ ρ)) = (isa c).bind fun b => if b = true then sutF i fh ⟨c, fs⟩ ρ else some (.ex ⟨c, fs⟩ ρ) := rfl
theorem try_if (i : Nat) (isa : Nat → Option Bool) (fh : T → Rho → Option Out) (c : Prop) [Decidable c] (a b : Option Out) : tryO i isa fh (if c then a else b) = if c then tryO i isa fh a else tryO i isa fh b := by split <;> rfl
/-- the suite's answer is alike wherever its exception lies -/
theorem sut_0 (i : Nat) (fh : T → Rho → Option Out) (c : Nat) (ρ : Rho) (h0 : ρ[i]? = some none) (h : ∀ a : Nat, (fh (.ins c [.lf (.int a)]) (ρ.set i (some (.vw (.ins c [.lf (.int a)]))))).bind (delO i) = (fh (.ins c [.lf (.int 0)]) (ρ.set i (some (.vw (.ins c [.lf (.int 0)]))))).bind (delO i)) :
    sutF i fh ⟨c, []⟩ ρ = (fh (.ins c [.lf (.int 0)]) (ρ.set i (some (.vw (.ins c [.lf (.int 0)]))))).bind (delO i) := by
  cases e : (fh (.ins c [.lf (.int 0)]) (ρ.set i (some (.vw (.ins c [.lf (.int 0)]))))).bind (delO i) with
  | none =>
    unfold sutF
    rw [dif_neg]
    rintro ⟨_, o, z⟩
    have := z 0 0
    simp only [markOf, Option.bind_some] at this
    rw [show ((0 : Nat) : Int) = 0 from rfl, e] at this
    cases this
  | some o => exact sutF_eq h0 fun a dd => by simp only [markOf, Option.bind_some]; rw [h a, e]
theorem sut_1 (i : Nat) (fh : T → Rho → Option Out) (c : Nat) (nm : Str) (ρ : Rho) (h0 : ρ[i]? = some none) (h : ∀ a d : Nat, (fh (.ins c [.lf (.int a), .lf (.int d), .lf (.str nm)]) (ρ.set i (some (.vw (.ins c [.lf (.int a), .lf (.int d), .lf (.str nm)]))))).bind (delO i) = (fh (.ins c [.lf (.int 0), .lf (.int 0), .lf (.str nm)]) (ρ.set i (some (.vw (.ins c [.lf (.int 0), .lf (.int 0), .lf (.str nm)]))))).bind (delO i)) :
    sutF i fh ⟨c, [.str nm]⟩ ρ = (fh (.ins c [.lf (.int 0), .lf (.int 0), .lf (.str nm)]) (ρ.set i (some (.vw (.ins c [.lf (.int 0), .lf (.int 0), .lf (.str nm)]))))).bind (delO i) := by
  cases e : (fh (.ins c [.lf (.int 0), .lf (.int 0), .lf (.str nm)]) (ρ.set i (some (.vw (.ins c [.lf (.int 0), .lf (.int 0), .lf (.str nm)]))))).bind (delO i) with
  | none =>
    unfold sutF
    rw [dif_neg]
    rintro ⟨_, o, z⟩
    have := z 0 0
    simp only [markOf, Option.bind_some] at this
    rw [show ((0 : Nat) : Int) = 0 from rfl, e] at this
    cases this
  | some o => exact sutF_eq h0 fun a dd => by simp only [markOf, Option.bind_some]; rw [h a dd, e]
theorem del_nx (i : Nat) (ρ : Rho) : delO i (.nx ρ) = some (.nx (ρ.set i none)) := rfl
theorem del_bk (i : Nat) (ρ : Rho) : delO i (.bk ρ) = some (.bk (ρ.set i none)) := rfl
theorem del_ct (i : Nat) (ρ : Rho) : delO i (.ct ρ) = some (.ct (ρ.set i none)) := rfl
theorem del_rt (i : Nat) (r : R) (ρ : Rho) : delO i (.rt r ρ) = some (.rt r (ρ.set i none)) := rfl
theorem at_xa (Γ : Gm) (t : T) : (Γ.at t).xa = some t := rfl
theorem at_xs (Γ : Gm) (t : T) : (Γ.at t).xs = Γ.xs := rfl
theorem at_fn (Γ : Gm) (t : T) : (Γ.at t).fn = Γ.fn := rfl
theorem at_glo (Γ : Gm) (t : T) : (Γ.at t).glo = Γ.glo := rfl
theorem mark_at {α : Type} (t : T) (i : Nat) (ρ : Rho) (k : T → Rx α) (h : ρ[i]? = some (some (.vw t))) : markR (some t) i ρ k = k t := by unfold markR; exact if_pos h
theorem xcT_ (c : Nat) (xs : List T) : xcT (.ins c xs) = some c := rfl
theorem xnT_ (c : Nat) (x y : T) (nm : Str) : xnT (.ins c [x, y, .lf (.str nm)]) = some nm := rfl
theorem rDt_ (l : List (List Key × D)) : rDt l = .own (.pl (.dt l)) := rfl
theorem rDk_ (l : List (Key × D)) : rDk l = .own (.pl (.dk l)) := rfl
theorem any_sl (xs : List D) : anyI (.shr (.lst xs)) = some (xs.map .shr) := any_lst xs _ rfl rfl
theorem any_ol (xs : List D) : anyI (.own (.pl (.lst xs))) = some (xs.map .shr) := any_lst xs _ rfl rfl
theorem any_tl (xs : List D) : anyI (.tmp (.pl (.lst xs))) = some (xs.map .shr) := any_lst xs _ rfl rfl
theorem any_st (xs : List D) : anyI (.shr (.tup xs)) = some (xs.map .shr) := any_tup xs _ rfl rfl
theorem any_ss (ns : List Int) : anyI (.shr (.scr ns)) = some (ns.map fun n => .shr (.int n)) := any_scr _ ns rfl rfl
theorem any_sk (ds : List (Key × D)) : anyI (.shr (.dk ds)) = some (ds.map fun kv => .shr (kD kv.1)) := any_dk _ ds rfl rfl
theorem any_sT (ds : List (List Key × D)) : anyI (.shr (.dt ds)) = some (ds.map fun kv => .shr (.tup (kv.1.map kD))) := any_dt _ ds rfl rfl
theorem any_tk (ds : List (Key × D)) : anyI (.tmp (.pl (.dk ds))) = some (ds.map fun kv => .shr (kD kv.1)) := any_dk _ ds rfl rfl
theorem any_tT (ds : List (List Key × D)) : anyI (.tmp (.pl (.dt ds))) = some (ds.map fun kv => .shr (.tup (kv.1.map kD))) := any_dt _ ds rfl rfl
theorem b_pow' (i j : Int) (h : 0 ≤ j ∧ j ≤ 1000000 ∧ -18446744073709551616 < i ∧ i < 18446744073709551616) : binD .Pow (.int i) (.int j) = some (.shr (.int (i ^ j.toNat))) := b_pow i j ⟨h.1, h.2.1, by omega⟩
theorem b_shl' (i j : Int) (h : 0 ≤ j ∧ j ≤ 1000000 ∧ -18446744073709551616 < i ∧ i < 18446744073709551616) : binD .LShift (.int i) (.int j) = some (.shr (.int (i * 2 ^ j.toNat))) := b_shl i j ⟨h.1, h.2.1, by omega⟩
theorem for_e {α σ : Type} {tgt : R → Rho → Option Rho} {body : Rho → Option Out} {ys : List R} {ρ : Rho} (g : α → R) (enc : σ → Rho) (f : σ → α → σ) (P : σ → Prop) (xs : List α) (s : σ) (hy : ys = xs.map g) (hr : ρ = enc s) (hP : P s)
    (h : ∀ s x, x ∈ xs → P s → P (f s x) ∧ ∃ ρ1, tgt (g x) (enc s) = some ρ1 ∧ (body ρ1 = some (.nx (enc (f s x))) ∨ body ρ1 = some (.ct (enc (f s x))))) :
    forF tgt body ys ρ = some (.nx (enc (xs.foldl f s))) := by subst hy; subst hr; exact for_eq g enc f P xs s hP h
theorem for_n {α σ : Type} {tgt : R → Rho → Option Rho} {body : Rho → Option Out} {ys : List R} {ρ : Rho} (g : α → R) (enc : σ → Rho) (f : σ → α → σ) (P : Nat → σ → Prop) (xs : List α) (s : σ) (hy : ys = xs.map g) (hr : ρ = enc s) (hP : P 0 s)
    (h : ∀ k s x, x ∈ xs → k < xs.length → P k s → P (k + 1) (f s x) ∧ ∃ ρ1, tgt (g x) (enc s) = some ρ1 ∧ (body ρ1 = some (.nx (enc (f s x))) ∨ body ρ1 = some (.ct (enc (f s x))))) :
    forF tgt body ys ρ = some (.nx (enc (xs.foldl f s))) := by
  subst hy; subst hr
  have go : ∀ (l : List α) (k : Nat) (s : σ), k + l.length = xs.length → (∀ x ∈ l, x ∈ xs) → P k s → forF tgt body (l.map g) (enc s) = some (.nx (enc (l.foldl f s))) := by
    intro l
    induction l with
    | nil => intro k s _ _ _; rfl
    | cons x l ih =>
      intro k s hk hm hP
      obtain ⟨hP', ρ1, h1, h2⟩ := h k s x (hm x (List.mem_cons_self ..)) (by simp at hk; omega) hP
      have ih := ih (k + 1) (f s x) (by simp at hk; omega) (fun y hy => hm y (List.mem_cons_of_mem _ hy)) hP'
      rcases h2 with h2 | h2 <;> simp only [List.map_cons, forF, h1, h2, Option.bind_some, List.foldl_cons] <;> exact ih
  exact go xs 0 s (by simp) (fun _ h => h) hP
theorem foldl_inv {α σ : Type} (f : σ → α → σ) (P : Nat → σ → Prop) (h : ∀ k s x, P k s → P (k + 1) (f s x)) : ∀ (xs : List α) (k : Nat) (s : σ), P k s → P (k + xs.length) (xs.foldl f s)
  | [], _, _, p => p
  | x :: xs, k, s, p => by
    have := foldl_inv f P h xs (k + 1) (f s x) (h k s x p)
    simpa [Nat.add_comm, Nat.add_left_comm, Nat.add_assoc] using this
theorem for_i {α : Type} {tgt : R → Rho → Option Rho} {body : Rho → Option Out} {ys : List R} {ρ : Rho} (g : α → R) (xs : List α) (hy : ys = xs.map g)
    (h : ∀ x ∈ xs, ∃ ρ1, tgt (g x) ρ = some ρ1 ∧ (body ρ1 = some (.nx ρ) ∨ body ρ1 = some (.ct ρ))) : forF tgt body ys ρ = some (.nx ρ) := by subst hy; exact for_id g ρ xs h
theorem lc_e {α : Type} {step : R → Rx (Option D)} {ys : List R} (g : α → R) (p : α → Bool) (f : α → D) (xs : List α) (hy : ys = xs.map g) (hl : xs.length ≤ 16777216) (h : ∀ x ∈ xs, step (g x) = .ok (if p x = true then some (f x) else none)) :
    lcR step ys = .ok (.own (.pl (.lst ((xs.filter p).map f)))) := by subst hy; exact lcR_map g p f xs hl h
theorem lc_a {α : Type} {step : R → Rx (Option D)} {ys : List R} (g : α → R) (f : α → D) (xs : List α) (hy : ys = xs.map g) (hl : xs.length ≤ 16777216) (h : ∀ x ∈ xs, step (g x) = .ok (some (f x))) :
    lcR step ys = .ok (.own (.pl (.lst (xs.map f)))) := by subst hy; exact lcR_all g f xs hl h
theorem kD_l (i : Int) : kD (.inl i) = .int i := rfl
theorem kD_r (x : Str) : kD (.inr x) = .str x := rfl
theorem map_shr {α : Type} (f : α → D) (xs : List α) : (xs.map f).map R.shr = xs.map fun x => R.shr (f x) := by rw [List.map_map]; rfl
theorem map_map {α β γ : Type} (f : α → β) (g : β → γ) (xs : List α) : (xs.map f).map g = xs.map fun x => g (f x) := by rw [List.map_map]; rfl
theorem ev_var (Γ : Gm) (i : Nat) (ρ : Rho) : ev Γ (.var i) ρ = .lift (getR ρ i) := rfl
theorem ev_cst (Γ : Gm) (d : D) (ρ : Rho) : ev Γ (.cst d) ρ = .ok (.shr d) := rfl
theorem ev_glo (Γ : Gm) (x : Str) (ρ : Rho) : ev Γ (.glo x) ρ = (Rx.lift (Γ.glo x)).bind fun d => .ok (.shr d) := rfl
theorem ev_bin (Γ : Gm) (op : Operator) (a : E) (b : E) (ρ : Rho) : ev Γ (.bin op a b) ρ = (ev Γ a ρ).bind fun ra => (ev Γ b ρ).bind fun rb => .lift (binR op ra rb) := rfl
theorem ev_neg (Γ : Gm) (a : E) (ρ : Rho) : ev Γ (.neg a) ρ = (ev Γ a ρ).bind fun r => .lift (negR r) := rfl
theorem ev_cmp (Γ : Gm) (op : CmpOp) (a : E) (b : E) (ρ : Rho) : ev Γ (.cmp op a b) ρ = (ev Γ a ρ).bind fun ra => (ev Γ b ρ).bind fun rb => .lift (cmpR op ra rb) := rfl
theorem ev_chn (Γ : Gm) (o1 : CmpOp) (o2 : CmpOp) (a : E) (b : E) (c : E) (ρ : Rho) : ev Γ (.chn o1 o2 a b c) ρ = (ev Γ a ρ).bind fun ra => (ev Γ b ρ).bind fun rb => chainR o1 o2 ra rb (ev Γ c ρ) := rfl
theorem ev_bo (Γ : Gm) (isAnd : Bool) (es : Es) (ρ : Rho) : ev Γ (.bo isAnd es) ρ = boE Γ isAnd es ρ := rfl
theorem ev_not (Γ : Gm) (a : E) (ρ : Rho) : ev Γ (.not a) ρ = (ev Γ a ρ).bind fun r => .lift (notR r) := rfl
theorem ev_ife (Γ : Gm) (c : E) (a : E) (b : E) (ρ : Rho) : ev Γ (.ife c a b) ρ = ifR (ev Γ c ρ) ρ (ev Γ a) (ev Γ b) := rfl
theorem ev_tup (Γ : Gm) (es : Es) (ρ : Rho) : ev Γ (.tup es) ρ = (evs Γ es ρ).bind fun rs => .lift (tupR rs) := rfl
theorem ev_lst (Γ : Gm) (es : Es) (ρ : Rho) : ev Γ (.lst es) ρ = (evs Γ es ρ).bind fun rs => .lift (lstR rs) := rfl
theorem ev_skeys (Γ : Gm) (a : E) (ρ : Rho) : ev Γ (.skeys a) ρ = (ev Γ a ρ).bind fun r => .lift (skeysR r) := rfl
theorem ev_dtre (Γ : Gm) (ρ : Rho) : ev Γ .dtre ρ = .ok (.own (.dk [] [])) := rfl
theorem evS_sw2 (Γ : Gm) (i j : Nat) (a b : E) (ρ : Rho) : evS Γ (.sw2 i j a b) ρ = bindO (evs Γ (.cons a (.cons b .nil)) ρ) ρ fun rs => sw2F i j rs ρ := rfl
theorem ev_dnew (Γ : Gm) (t : Bool) (ρ : Rho) : ev Γ (.dnew t) ρ = .ok (if t then rDt [] else rDk []) := rfl
theorem ev_sub (Γ : Gm) (a : E) (i : E) (ρ : Rho) : ev Γ (.sub a i) ρ = (ev Γ a ρ).bind fun ra => (ev Γ i ρ).bind fun ri => .lift (subR ra ri) := rfl
theorem ev_slc (Γ : Gm) (a : E) (lo : Eo) (hi : Eo) (ρ : Rho) : ev Γ (.slc a lo hi) ρ = (ev Γ a ρ).bind fun ra => (evo Γ lo ρ).bind fun l => (evo Γ hi ρ).bind fun h => .lift (slcR ra l h) := rfl
theorem ev_slc3 (Γ : Gm) (a : E) (lo : Eo) (hi : Eo) (st : E) (ρ : Rho) : ev Γ (.slc3 a lo hi st) ρ = (ev Γ a ρ).bind fun ra => (evo Γ lo ρ).bind fun l => (evo Γ hi ρ).bind fun h => ((ev Γ st ρ).bind fun r => .lift (intR r)).bind fun s => .lift (slc3R ra l h s) := rfl
theorem ev_fld (Γ : Gm) (a : E) (u1 : Str) (j : Nat) (lo : Nat) (hi : Nat) (ρ : Rho) : ev Γ (.fld a u1 j lo hi) ρ = (ev Γ a ρ).bind fun r => .lift (fldR j lo hi r) := rfl
theorem ev_call (Γ : Gm) (u0 : Str) (k : Nat) (es : Es) (ρ : Rho) : ev Γ (.call u0 k es) ρ = (evs Γ es ρ).bind (callX (Γ.fn k).F (Γ.fn k).dfl) := rfl
theorem ev_mth (Γ : Gm) (a : E) (u1 : Str) (lo : Nat) (hi : Nat) (ks : List Nat) (es : Es) (ρ : Rho) : ev Γ (.mth a u1 lo hi ks es) ρ = (ev Γ a ρ).bind fun r => (Rx.lift (recC lo hi r)).bind fun c => (evs Γ es ρ).bind fun rs => callX (Γ.fn (ks.getD (c - lo) 0)).F [] (r :: rs) := rfl
theorem ev_mk (Γ : Gm) (keep : Bool) (u1 : Str) (c : Nat) (k : Nat) (es : Es) (ρ : Rho) : ev Γ (.mk keep u1 c k es) ρ = (evs Γ es ρ).bind (makeX keep c (Γ.fn k).F (Γ.fn k).dfl) := rfl
theorem ev_blt (Γ : Gm) (b : Blt) (es : Es) (ρ : Rho) : ev Γ (.blt b es) ρ = (evs Γ es ρ).bind fun rs => .lift (b.F rs) := rfl
theorem ev_bm (Γ : Gm) (b : Bm) (a : E) (es : Es) (ρ : Rho) : ev Γ (.bm b a es) ρ = (ev Γ a ρ).bind fun r => (Rx.lift (tyO b.T r)).bind fun _ => (evs Γ es ρ).bind fun rs => .lift (b.F r rs) := rfl
theorem ev_isi (Γ : Gm) (T : Tk) (lo : Nat) (hi : Nat) (a : E) (ρ : Rho) : ev Γ (.isi T lo hi a) ρ = (ev Γ a ρ).bind fun r => .lift (isiR T.kit lo hi (Γ.isi T) r) := rfl
theorem ev_dget (Γ : Gm) (a : E) (k : E) (d : E) (ρ : Rho) : ev Γ (.dget a k d) ρ = (ev Γ a ρ).bind fun ra => (Rx.lift (dkO ra)).bind fun dd => (ev Γ k ρ).bind fun rk => (ev Γ d ρ).bind fun rd => .lift (dgetR dd rk rd) := rfl
theorem ev_lvals (Γ : Gm) (a : E) (ρ : Rho) : ev Γ (.lvals a) ρ = (ev Γ a ρ).bind fun r => .lift (lvalsR r) := rfl
theorem ev_svals (Γ : Gm) (a : E) (ρ : Rho) : ev Γ (.svals a) ρ = (ev Γ a ρ).bind fun r => .lift (svalsR r) := rfl
theorem ev_mind (Γ : Gm) (a : E) (d : E) (ρ : Rho) : ev Γ (.mind a d) ρ = (ev Γ a ρ).bind fun r => (ev Γ d ρ).bind fun q => .lift (mindR r q) := rfl
theorem ev_dis1 (Γ : Gm) (k : E) (v : E) (ρ : Rho) : ev Γ (.dis1 k v) ρ = (ev Γ k ρ).bind fun r => (ev Γ v ρ).bind fun q => .lift (dis1R r q) := rfl
theorem ev_isX (Γ : Gm) (i : Nat) (T : Option Nat) (ρ : Rho) : ev Γ (.isX i T) ρ = markR Γ.xa i ρ fun t => (Rx.lift ((xcT t).bind fun c => Γ.xs c T)).bind fun b => .ok (rB b) := rfl
theorem ev_xnm (Γ : Gm) (i : Nat) (u1 : Str) (ρ : Rho) : ev Γ (.xnm i u1) ρ = markR Γ.xa i ρ fun t => (Rx.lift ((xcT t).bind fun c => (Γ.xs c none).bind fun _ => xnT t)).bind fun z => .ok (rS z) := rfl
theorem ev_lc (Γ : Gm) (own : List (Str × Nat)) (it : Itr) (tg : Tg) (c : Eo) (elt : E) (ρ : Rho) : ev Γ (.lc own it tg c elt) ρ = (evI Γ it (bor ρ)).bind fun xs => lcR (lcStep tg.F (evc Γ c) (ev Γ elt) (wipeR (bor ρ) (own.map (·.2)))) xs := rfl
theorem evs_nil (Γ : Gm)  (ρ : Rho) : evs Γ .nil ρ = .ok [] := rfl
theorem evs_cons (Γ : Gm) (e : E) (es : Es) (ρ : Rho) : evs Γ (.cons e es) ρ = (ev Γ e ρ).bind fun r => (evs Γ es ρ).bind fun rs => .ok (r :: rs) := rfl
theorem evo_no (Γ : Gm)  (ρ : Rho) : evo Γ .no ρ = .ok none := rfl
theorem evo_so (Γ : Gm) (e : E) (ρ : Rho) : evo Γ (.so e) ρ = (ev Γ e ρ).bind fun r => .lift (intR r) := rfl
theorem evc_no (Γ : Gm)  (ρ : Rho) : evc Γ .no ρ = .ok (rB true) := rfl
theorem evc_so (Γ : Gm) (e : E) (ρ : Rho) : evc Γ (.so e) ρ = ev Γ e ρ := rfl
theorem evI_any (Γ : Gm) (e : E) (ρ : Rho) : evI Γ (.any e) ρ = (ev Γ e ρ).bind fun r => .lift (anyI r) := rfl
theorem evI_r1 (Γ : Gm) (e : E) (ρ : Rho) : evI Γ (.r1 e) ρ = (ev Γ e ρ).bind fun r => .lift (rng1R [r]) := rfl
theorem evI_r2 (Γ : Gm) (a : E) (b : E) (ρ : Rho) : evI Γ (.r2 a b) ρ = (ev Γ a ρ).bind fun r => (ev Γ b ρ).bind fun q => .lift (rng2R [r, q]) := rfl
theorem evI_vs (Γ : Gm) (e : E) (ρ : Rho) : evI Γ (.vs e) ρ = (ev Γ e ρ).bind fun r => .lift (valsR r) := rfl
theorem evI_its (Γ : Gm) (e : E) (ρ : Rho) : evI Γ (.its e) ρ = (ev Γ e ρ).bind fun r => .lift (itmsR r) := rfl
theorem evI_en (Γ : Gm) (e : E) (ρ : Rho) : evI Γ (.en e) ρ = (ev Γ e ρ).bind fun r => .lift (enumR r) := rfl
theorem evI_r3 (Γ : Gm) (a : E) (b : E) (c : E) (ρ : Rho) : evI Γ (.r3 a b c) ρ = (ev Γ a ρ).bind fun r => (ev Γ b ρ).bind fun q => (ev Γ c ρ).bind fun s => .lift (rng3R [r, q, s]) := rfl
theorem evP_nm (Γ : Gm) (i : Nat) (ρ : Rho) : evP Γ (.nm i) ρ = (Rx.lift (ownT ρ i)).bind fun _ => .ok ⟨i, []⟩ := rfl
theorem evP_fld (Γ : Gm) (p : Pa) (u1 : Str) (j : Nat) (lo : Nat) (hi : Nat) (ρ : Rho) : evP Γ (.fld p u1 j lo hi) ρ = (evP Γ p ρ).bind fun q => .lift (pfldR j lo hi ρ q) := rfl
theorem evP_sub (Γ : Gm) (p : Pa) (k : E) (ρ : Rho) : evP Γ (.sub p k) ρ = (evP Γ p ρ).bind fun q => (Rx.lift (partT ρ q)).bind fun t => (ev Γ k ρ).bind fun r => .lift (psubR t q r) := rfl
theorem evA_e (Γ : Gm) (e : E) (ρ : Rho) : evA Γ (.e e) ρ = aE (ev Γ e ρ) ρ := rfl
theorem evA_mv (Γ : Gm) (i : Nat) (ρ : Rho) : evA Γ (.mv i) ρ = aMv i ρ := rfl
theorem evA_iom (Γ : Gm) (p : Pa) (u1 : Str) (lo : Nat) (hi : Nat) (ks : List Nat) (es : Es) (ρ : Rho) : evA Γ (.iom p u1 lo hi ks es) ρ = bindRA (evP Γ p ρ) ρ fun q => bindRA (Rx.lift (insO lo hi ρ q)) ρ fun c => bindRA (evs Γ es ρ) ρ fun rs => ioA (Γ.fn (ks.getD (c - lo) 0)).F [] rs ρ q := rfl
theorem evA_ioi (Γ : Gm) (u0 : Str) (u1 : Nat) (p : Pa) (k : Nat) (es : Es) (ρ : Rho) : evA Γ (.ioi u0 u1 p k es) ρ = bindRA (evP Γ p ρ) ρ fun q => bindRA (Rx.lift (partT ρ q)) ρ fun t => bindRA (evs Γ es ρ) ρ fun rs => ioX (Γ.fn k).F (Γ.fn k).dfl ρ q t rs := rfl
theorem evA_iof (Γ : Gm) (u0 : Str) (p : Pa) (k : Nat) (es : Es) (ρ : Rho) : evA Γ (.iof u0 p k es) ρ = bindRA (evP Γ p ρ) ρ fun q => bindRA (Rx.lift (partT ρ q)) ρ fun t => bindRA (evs Γ es ρ) ρ fun rs => ioX (Γ.fn k).F (Γ.fn k).dfl ρ q t rs := rfl
theorem evS_asg (Γ : Gm) (i : Nat) (e : E) (ρ : Rho) : evS Γ (.asg i e) ρ = bindO (ev Γ e ρ) ρ fun r => stoF i r ρ := rfl
theorem evS_asgLc (Γ : Gm) (i : Nat) (e : E) (ρ : Rho) : evS Γ (.asgLc i e) ρ = bindO (ev Γ e ρ) ρ fun r => stoF i r ρ := rfl
theorem evS_asgT (Γ : Gm) (t : Tg) (e : E) (ρ : Rho) : evS Γ (.asgT t e) ρ = bindO (ev Γ e ρ) ρ fun r => (shareR r).bind fun q => (t.F q ρ).map .nx := rfl
theorem evS_ex (Γ : Gm) (e : E) (ρ : Rho) : evS Γ (.ex e) ρ = bindO (ev Γ e ρ) ρ fun _ => some (.nx ρ) := rfl
theorem evS_asgA (Γ : Gm) (i : Nat) (a : Ac) (ρ : Rho) : evS Γ (.asgA i a) ρ = bindA (evA Γ a ρ) (asgA i) := rfl
theorem evS_exA (Γ : Gm) (a : Ac) (ρ : Rho) : evS Γ (.exA a) ρ = bindA (evA Γ a ρ) fun _ ρ' => some (.nx ρ') := rfl
theorem evS_retA (Γ : Gm) (a : Ac) (ρ : Rho) : evS Γ (.retA a) ρ = bindA (evA Γ a ρ) fun r ρ' => some (.rt r ρ') := rfl
theorem evS_ret (Γ : Gm) (e : E) (ρ : Rho) : evS Γ (.ret e) ρ = bindO (ev Γ e ρ) ρ fun r => retF r ρ := rfl
theorem evS_retN (Γ : Gm)  (ρ : Rho) : evS Γ .retN ρ = some (.rt (.shr .non) ρ) := rfl
theorem evS_retv (Γ : Gm) (i : Nat) (ρ : Rho) : evS Γ (.retv i) ρ = retT i ρ := rfl
theorem evS_pass (Γ : Gm)  (ρ : Rho) : evS Γ .pass ρ = some (.nx ρ) := rfl
theorem evS_brk (Γ : Gm)  (ρ : Rho) : evS Γ .brk ρ = some (.bk ρ) := rfl
theorem evS_cnt (Γ : Gm)  (ρ : Rho) : evS Γ .cnt ρ = some (.ct ρ) := rfl
theorem evS_doc (Γ : Gm)  (ρ : Rho) : evS Γ .doc ρ = some (.nx ρ) := rfl
theorem evS_if (Γ : Gm) (c : E) (p : Ss) (q : Ss) (ρ : Rho) : evS Γ (.if_ c p q) ρ = ifO (ev Γ c ρ) ρ (evSs Γ p) (evSs Γ q) := rfl
theorem evS_whl (Γ : Gm) (c : E) (b : Ss) (ρ : Rho) : evS Γ (.whl c b) ρ = whileF (ev Γ c) (evSs Γ b) Γ.fuel ρ := rfl
theorem evS_for (Γ : Gm) (t : Tg) (it : Itr) (b : Ss) (ρ : Rho) : evS Γ (.for_ t it b) ρ = bindO (evI Γ it ρ) ρ fun xs => forF t.F (evSs Γ b) xs ρ := rfl
theorem evS_app (Γ : Gm) (p : Pa) (e : E) (ρ : Rho) : evS Γ (.app p e) ρ = bindO (evP Γ p ρ) ρ fun q => ((partT ρ q).bind plLst).bind fun ds => bindO (ev Γ e ρ) ρ fun r => appF ρ q ds r := rfl
theorem evS_ext (Γ : Gm) (p : Pa) (e : E) (ρ : Rho) : evS Γ (.ext p e) ρ = bindO (evP Γ p ρ) ρ fun q => ((partT ρ q).bind plLst).bind fun ds => bindO (ev Γ e ρ) ρ fun r => extF ρ q ds r := rfl
theorem evS_clr (Γ : Gm) (p : Pa) (ρ : Rho) : evS Γ (.clr p) ρ = bindO (evP Γ p ρ) ρ fun q => (partT ρ q).bind fun t => clrF ρ q t := rfl
theorem evS_put (Γ : Gm) (p : Pa) (k : E) (a : Ac) (ρ : Rho) : evS Γ (.put p k a) ρ = bindA (evA Γ a ρ) fun r ρ1 => bindO (evP Γ p ρ1) ρ1 fun q => (partT ρ1 q).bind fun t => bindO (ev Γ k ρ1) ρ1 fun rk => putF1 ρ1 q t r rk := rfl
theorem evS_fset (Γ : Gm) (p : Pa) (u1 : Str) (j : Nat) (lo : Nat) (hi : Nat) (a : Ac) (ρ : Rho) : evS Γ (.fset p u1 j lo hi a) ρ = bindA (evA Γ a ρ) fun r ρ1 => bindO (evP Γ p ρ1) ρ1 fun q => (partT ρ1 q).bind fun t => (fsetT j lo hi t r).bind fun t2 => (putP ρ1 q t2).map .nx := rfl
theorem evS_rse (Γ : Gm) (u0 : Str) (c : Nat) (ρ : Rho) : evS Γ (.rse u0 c) ρ = some (.ex ⟨c, []⟩ ρ) := rfl
theorem evS_rse1 (Γ : Gm) (u0 : Str) (c : Nat) (e : E) (ρ : Rho) : evS Γ (.rse1 u0 c e) ρ = rseO c (ev Γ e ρ) ρ := rfl
theorem evS_try (Γ : Gm) (b : Ss) (u1 : Str) (c : Nat) (i : Nat) (h : Ss) (ρ : Rho) : evS Γ (.try_ b u1 c i h) ρ = tryO i (fun k => Γ.xs k (some c)) (fun t => evSs (Γ.at t) h) (evSs Γ b ρ) := rfl
theorem evS_aug (Γ : Gm) (op : Operator) (i : Nat) (e : E) (ρ : Rho) : evS Γ (.aug op i e) ρ = (getR ρ i).bind fun _ => bindO (ev Γ e ρ) ρ fun r => augF op i r ρ := rfl
theorem evS_augs (Γ : Gm) (op : Operator) (p : Pa) (k : E) (e : E) (ρ : Rho) : evS Γ (.augs op p k e) ρ = bindO (evP Γ p ρ) ρ fun q => ((partT ρ q).bind plLst).bind fun ds => bindO (ev Γ k ρ) ρ fun rk => (augPre ds rk).bind fun pr => bindO (ev Γ e ρ) ρ fun r => augsF op ρ q ds pr r := rfl
theorem evSs_nil (Γ : Gm)  (ρ : Rho) : evSs Γ .nil ρ = some (.nx ρ) := rfl
theorem evSs_cons (Γ : Gm) (s : S) (ss : Ss) (ρ : Rho) : evSs Γ (.cons s ss) ρ = seqO (evS Γ s ρ) (evSs Γ ss) := seq_o ..
theorem evSs_frf (Γ : Gm) (i j : Nat) (ss : Ss) (ρ : Rho) : evSs Γ (.frf i j ss) ρ = (frfF i j ρ).bind (evSs Γ ss) := rfl
theorem evSs_frz (Γ : Gm) (i : Nat) (ss : Ss) (ρ : Rho) : evSs Γ (.frz i ss) ρ = (frzT i ρ).bind (evSs Γ ss) := rfl
theorem evSs_fgt (Γ : Gm) (i : Nat) (ss : Ss) (ρ : Rho) : evSs Γ (.fgt i ss) ρ = (fgtF i ρ).bind (evSs Γ ss) := rfl
/- SET: ev_skeys, ev_dtre, evS_sw2, sw2F, evSs_frf, frfF, ev_var, ev_cst, ev_glo, ev_bin, ev_neg, ev_cmp, ev_chn, ev_bo, ev_not, ev_ife, ev_tup, ev_lst, ev_dnew, ev_sub, ev_slc, ev_slc3, ev_fld, ev_call, ev_mth, ev_mk, ev_blt, ev_bm, ev_isi, ev_dget, ev_lvals, ev_svals, ev_mind, ev_dis1, ev_isX, ev_xnm, ev_lc, evs_nil, evs_cons, evo_no, evo_so, evc_no, evc_so, evI_any, evI_r1, evI_r2, evI_vs, evI_its, evI_en, evI_r3, evP_nm, evP_fld, evP_sub, evA_e, evA_mv, evA_iom, evA_ioi, evA_iof, evS_asg, evS_asgLc, evS_asgT, evS_ex, evS_asgA, evS_exA, evS_retA, evS_ret, evS_retN, evS_retv, evS_pass, evS_brk, evS_cnt, evS_doc, evS_if, evS_whl, evS_for, evS_app, evS_ext, evS_clr, evS_put, evS_fset, evS_rse, evS_rse1, evS_try, evS_aug, evS_augs, evSs_nil, evSs_cons, evSs_frz, evSs_fgt -/
end
end Q

end

section
set_option Elab.async false
set_option linter.all false
set_option maxRecDepth 100000
set_option maxHeartbeats 1000000
/-! Q28: more plain laws. -/
namespace Q
noncomputable section
open PySem PySem.Spec L2
open PyProof.Rows hiding St

theorem pick_len {α : Type} (xs : List α) (k : Nat) (st : Int) (h : 0 < st) : (pick3 xs (some k) none st).length ≤ xs.length := by
  refine Nat.le_trans (List.length_filterMap_le ..) ?_
  rw [sliceRange, List.length_map, List.length_range]
  have h3 : ∀ a b n : Int, 0 ≤ a → b ≤ n → 0 ≤ n → ((if st > 0 then (if a < b then (b - a + st - 1) / st else 0) else (if a > b then (a - b - st - 1) / (-st) else 0) : Int)) ≤ n := by
    intro a b n ha hb hn
    rw [if_pos h]
    split
    · rename_i hab
      have h1 : (b - a) * 1 ≤ (b - a) * st := Int.mul_le_mul_of_nonneg_left (by omega) (by omega)
      have h2 : (b - a + st - 1) / st < b - a + 1 := Int.ediv_lt_of_lt_mul h (by rw [Int.add_mul]; omega)
      omega
    · exact hn
  have h4 := h3 (sliceBounds (some k) none (some st) xs.length).1 (sliceBounds (some k) none (some st) xs.length).2.1 xs.length ?_ ?_ (by omega)
  · have h5 : (sliceBounds (some k) none (some st) xs.length).2.2 = st := by simp [sliceBounds]
    simp only [h5]
    omega
  · simp only [sliceBounds]
    rw [Option.getD_some, if_pos h]
    omega
  · simp only [sliceBounds]
    rw [Option.getD_some, if_pos h]
    omega
theorem pick_map {α β : Type} (f : α → β) (xs : List α) (lo hi : Option Int) (st : Int) : pick3 (xs.map f) lo hi st = (pick3 xs lo hi st).map f := by
  unfold pick3
  rw [List.length_map, List.map_filterMap]
  congr 1
  funext i
  rw [List.getElem?_map]
theorem slc3_s {xs : List D} {r : R} {lo hi : Option Int} {st : Int} (h : r.sh = some (.lst xs)) (h0 : st ≠ 0 ∧ (pick3 xs lo hi st).length ≤ 16777216) : slc3R r lo hi (some st) = some (.own (.pl (.lst (pick3 xs lo hi st)))) := by
  simp only [slc3R, h]
  rw [if_pos ⟨h0.1, h0.2⟩]
  rfl
theorem slc3_l (xs : List D) (lo hi : Option Int) (st : Int) (h0 : st ≠ 0 ∧ (pick3 xs lo hi st).length ≤ 16777216) : slc3R (.shr (.lst xs)) lo hi (some st) = some (.own (.pl (.lst (pick3 xs lo hi st)))) := slc3_s rfl h0
theorem rng1_s (j : Int) (hj : -4611686018427387904 ≤ j ∧ j < 4611686018427387904) : rng1R [.shr (.int j)] = some ((List.range j.toNat).map fun k => .shr (.int (k : Nat))) := by
  rw [rng1_ j _ rfl hj, rngL_map]
  simp
theorem rng2_s (i j : Int) (hj : -4611686018427387904 ≤ i ∧ i < 4611686018427387904 ∧ -4611686018427387904 ≤ j ∧ j < 4611686018427387904) : rng2R [.shr (.int i), .shr (.int j)] = some ((List.range (j - i).toNat).map fun k => .shr (.int (i + (k : Nat)))) := by
  rw [rng2_ i j _ _ rfl rfl ⟨hj.1, hj.2.1⟩ hj.2.2, rngL_map]
/-- one of some written values -/
theorem getD_mem {α : Type} (xs : List α) (n : Nat) (d : α) (h : n < xs.length) : xs.getD n d ∈ xs := by
  simp [List.getD, List.getElem?_eq_getElem h]
theorem getD_mod {α : Type} (xs : List α) (n : Int) (d : α) (m : Int) (hm : m = xs.length) (h : 0 < m) : xs.getD (n % m).toNat d ∈ xs := by
  apply getD_mem
  have h1 := Int.emod_nonneg n (Int.ne_of_gt h)
  have h2 := Int.emod_lt_of_pos n h
  omega
theorem cutG_len {α : Type} (xs : List α) (lo hi : Option Int) : (cutG xs lo hi).length ≤ xs.length := by
  unfold cutG
  rw [List.length_take, List.length_drop]
  omega
theorem size_ : sizeLine = 16777216 := rfl
theorem foldl_filter {α : Type} (p : α → Prop) [DecidablePred p] : ∀ (xs acc : List α), xs.foldl (fun acc r => if p r then acc ++ [r] else acc) acc = acc ++ xs.filter fun r => decide (p r)
  | [], acc => by simp
  | x :: xs, acc => by
    rw [List.foldl_cons, foldl_filter p xs]
    by_cases h : p x <;> simp [h]
theorem foldl_map {α β : Type} (f : α → β) : ∀ (xs : List α) (acc : List β), xs.foldl (fun acc r => acc ++ [f r]) acc = acc ++ xs.map f
  | [], acc => by simp
  | x :: xs, acc => by
    rw [List.foldl_cons, foldl_map f xs]
    simp
theorem sIx_s (n d : Nat) (i : Int) (h : 0 ≤ i) : HT.sIx n d (some i) = min i.toNat n := by
  show (if i < 0 then _ else min i.toNat n) = _
  rw [if_neg (by omega)]
theorem drop_min {α : Type} (xs : List α) (i : Nat) : xs.drop (min i xs.length) = xs.drop i := by
  by_cases h : i ≤ xs.length
  · rw [Nat.min_eq_left h]
  · rw [Nat.min_eq_right (by omega), List.drop_length, List.drop_eq_nil_of_le (by omega)]
theorem take_ge {α : Type} (xs : List α) (n m : Nat) (h : n = m ∨ (xs.length ≤ n ∧ xs.length ≤ m)) : xs.take n = xs.take m := by
  rcases h with h | h
  · rw [h]
  · rw [List.take_of_length_le h.1, List.take_of_length_le h.2]
theorem cut_to {α : Type} (xs : List α) (i : Int) (h : 0 ≤ i) : cutG xs none (some i) = xs.take i.toNat := by
  unfold cutG
  rw [sIx_s _ _ _ h, HT.sIx_none, List.drop_zero]
  exact take_ge _ _ _ (by omega)
theorem cut_from {α : Type} (xs : List α) (i : Int) (h : 0 ≤ i) : cutG xs (some i) none = xs.drop i.toNat := by
  unfold cutG
  rw [sIx_s _ _ _ h, HT.sIx_none, drop_min]
  rw [List.take_of_length_le]
  rw [List.length_drop]; omega
theorem cut_mid {α : Type} (xs : List α) (i j : Int) (h : 0 ≤ i ∧ 0 ≤ j) : cutG xs (some i) (some j) = (xs.drop i.toNat).take (j.toNat - i.toNat) := by
  unfold cutG
  rw [sIx_s _ _ _ h.1, sIx_s _ _ _ h.2, drop_min]
  apply take_ge
  rw [List.length_drop]
  omega
theorem cut_all {α : Type} (xs : List α) : cutG xs none none = xs := by
  unfold cutG
  rw [HT.sIx_none, HT.sIx_none, List.drop_zero, Nat.sub_zero, List.take_length]
/-! ### texts, truths -/
theorem any_str (x : Str) : anyI (.shr (.str x)) = some (x.cps.toList.map fun c => .shr (.str ⟨#[c]⟩)) := rfl
theorem len_s (x : Str) (h : x.length ≤ 16777216) : lenR [.shr (.str x)] = some (.shr (.int x.length)) := len_str x _ rfl h
theorem in_s (c : Nat) (z : Str) : inD (.str ⟨#[c]⟩) (.str z) = some (decide (c ∈ z.cps.toList)) := rfl
theorem ch_ll (i j : Int) (rc : Rx R) : chainR .LtE .LtE (.shr (.int i)) (.shr (.int j)) rc = if i ≤ j then rc.bind (fun rc => .lift (cmpR .LtE (.shr (.int j)) rc)) else .ok (.shr (.bl false)) := by
  by_cases h : i ≤ j <;> simp [chainR, R.d, cmpD, h, rB]
theorem ch_lt (i j : Int) (rc : Rx R) : chainR .LtE .Lt (.shr (.int i)) (.shr (.int j)) rc = if i ≤ j then rc.bind (fun rc => .lift (cmpR .Lt (.shr (.int j)) rc)) else .ok (.shr (.bl false)) := by
  by_cases h : i ≤ j <;> simp [chainR, R.d, cmpD, h, rB]
theorem ch_tl (i j : Int) (rc : Rx R) : chainR .Lt .LtE (.shr (.int i)) (.shr (.int j)) rc = if i < j then rc.bind (fun rc => .lift (cmpR .LtE (.shr (.int j)) rc)) else .ok (.shr (.bl false)) := by
  by_cases h : i < j <;> simp [chainR, R.d, cmpD, h, rB]
theorem ch_tt (i j : Int) (rc : Rx R) : chainR .Lt .Lt (.shr (.int i)) (.shr (.int j)) rc = if i < j then rc.bind (fun rc => .lift (cmpR .Lt (.shr (.int j)) rc)) else .ok (.shr (.bl false)) := by
  by_cases h : i < j <;> simp [chainR, R.d, cmpD, h, rB]
theorem bls_map {α : Type} (p : α → Bool) : ∀ xs : List α, blsD (xs.map fun x => .bl (p x)) = some (xs.map p)
  | [] => rfl
  | x :: xs => by simp [blsD, bls_map p xs]
theorem ints_map {α : Type} (p : α → Int) : ∀ xs : List α, intsD (xs.map fun x => .int (p x)) = some (xs.map p)
  | [] => rfl
  | x :: xs => by simp [intsD, ints_map p xs]
theorem strs_map {α : Type} (p : α → Str) : ∀ xs : List α, strsD (xs.map fun x => .str (p x)) = some (xs.map p)
  | [] => rfl
  | x :: xs => by simp [strsD, strs_map p xs]
theorem all_b {α : Type} (p : α → Bool) (xs : List α) : allR [.own (.pl (.lst (xs.map fun x => .bl (p x))))] = some (.shr (.bl (xs.all p))) := by
  simp [allR, R.d, T.d, lstD, bls_map, rB, List.all_map]
theorem any_b {α : Type} (p : α → Bool) (xs : List α) : anyR [.own (.pl (.lst (xs.map fun x => .bl (p x))))] = some (.shr (.bl (xs.any p))) := by
  simp [anyR, R.d, T.d, lstD, bls_map, rB, List.any_map]
theorem sum_i {α : Type} (p : α → Int) (xs : List α) : sumR [.own (.pl (.lst (xs.map fun x => .int (p x))))] = some (.shr (.int (xs.map p).sum)) := by
  simp [sumR, R.d, T.d, lstD, ints_map, rI]
theorem str_i (i : Int) (h : -1000000000000000000000000000000 < i ∧ i < 1000000000000000000000000000000) : strR1 [.shr (.int i)] = some (.shr (.str (Str.ofString (toString i)))) := by
  have h1 : i.natAbs.log2 < 1920 := by
    by_cases h0 : i.natAbs = 0
    · rw [h0]; decide
    · refine (Nat.log2_lt h0).mpr ?_
      have : i.natAbs < 2 ^ 100 := by omega
      exact Nat.lt_of_lt_of_le this (Nat.pow_le_pow_right (by omega) (by omega))
  show (if i.natAbs.log2 < 1920 then _ else _) = _
  rw [if_pos h1]; rfl
theorem join_ (a : Str) (ys : List Str) (ds : List D) (hd : strsD ds = some ys) (h : (ys.map (·.length)).sum + ys.length * a.length ≤ 16777216) : joinR (.shr (.str a)) [.own (.pl (.lst ds))] = some (.shr (.str (Txt.join a ys))) := by
  simp only [joinR, R.d, T.d, lstD, Option.bind_some, hd]
  rw [if_pos h]; rfl
end
end Q

end

section
set_option Elab.async false
set_option linter.all false
set_option maxRecDepth 100000
set_option maxHeartbeats 1000000
/-! Q29: texts as lists of signs; names of doors and rooms. -/
namespace Q
noncomputable section
open PySem PySem.Spec
open PyProof.Rows hiding St

def st (l : List Nat) : Str := ⟨l.toArray⟩
theorem st_app (a b : List Nat) : st a ++ st b = st (a ++ b) := by
  show Str.append _ _ = _
  simp [Str.append, st]
theorem st_len (a : List Nat) : (st a).length = a.length := by simp [Str.length, st]
theorem st_cps (a : List Nat) : (st a).cps.toList = a := by simp [st]
theorem st_inj {a b : List Nat} (h : st a = st b) : a = b := by
  have := congrArg (fun s : Str => s.cps.toList) h
  simpa [st] using this
theorem cutS_st (a : List Nat) (lo hi : Option Int) : L2.cutS (st a) lo hi = st (cutG a lo hi) := by
  simp only [L2.cutS, cutG, st_len, st_cps]
  rfl
theorem s_assoc (a b c : Str) : a ++ b ++ c = a ++ (b ++ c) := by
  show Str.append (Str.append _ _) _ = Str.append _ (Str.append _ _)
  simp [Str.append]
theorem s_len (a b : Str) : (a ++ b).length = a.length + b.length := by
  show (Str.append a b).length = _
  simp [Str.append, Str.length]
theorem num_len (n : Int) (h : 0 ≤ n ∧ n < 1000000000000000000000000000000) : (Str.ofString (toString n)).length ≤ 30 := by
  rw [Str.ofString_eq_toList]
  obtain ⟨m, rfl⟩ := Int.eq_ofNat_of_zero_le h.1
  have e : toString (m : Int) = String.ofList (Nat.toDigits 10 m) := rfl
  rw [e]
  have := (Nat.length_toDigits_le_iff (b := 10) (n := m) (k := 30) (by omega) (by omega)).mpr (by omega)
  simpa [Str.length] using this
theorem one_st (c : Nat) : (⟨#[c]⟩ : Str) = st [c] := rfl
theorem any_S (l : List Nat) : anyI (.shr (.str (st l))) = some (l.map fun c => .shr (.str (st [c]))) := by rw [any_str, st_cps]; rfl
theorem in_S (c : Nat) (l : List Nat) : inD (.str (st [c])) (.str (st l)) = some (decide (c ∈ l)) := by
  have := in_s c (st l)
  rw [st_cps] at this
  exact this
theorem len_S (l : List Nat) (h : l.length ≤ 16777216) : lenR [.shr (.str (st l))] = some (.shr (.int l.length)) := by
  have := len_s (st l) (by rw [st_len]; exact h)
  rwa [st_len] at this
theorem sl_S (l : List Nat) (lo hi : Option Int) (h : l.length ≤ 16777216) : slcD (.str (st l)) lo hi = some (.shr (.str (st (cutG l lo hi)))) := by
  show (if (st l).length ≤ sizeLine then some (rS (L2.cutS (st l) lo hi)) else none) = _
  rw [if_pos (by rw [st_len]; exact h), cutS_st]
  rfl
theorem s_S (l : List Nat) (i : Int) (h : l.length ≤ 16777216) : subD (.str (st l)) (.int i) = (L2.atI l i).map fun c => .str (st [c]) := by
  show (if (st l).length ≤ sizeLine then (L2.atI (st l).cps.toList i).map fun c => D.str ⟨#[c]⟩ else none) = _
  rw [if_pos (by rw [st_len]; exact h), st_cps]
  rfl
theorem b_S (a b : List Nat) (h : a.length + b.length ≤ 16777216) : binD .Add (.str (st a)) (.str (st b)) = some (.shr (.str (st (a ++ b)))) := by
  rw [b_cat _ _ (by rw [st_len, st_len]; exact h), st_app]
theorem e_S (a b : List Nat) : eqD (.str (st a)) (.str (st b)) = some (decide (a = b)) := by
  rw [e_str]
  exact congrArg some (decide_eq_decide.mpr ⟨st_inj, fun h => by rw [h]⟩)
/-! ### small letters -/
def abc : List Nat := [97, 98, 99, 100, 101, 102, 103, 104, 105, 106, 107, 108, 109, 110, 111, 112, 113, 114, 115, 116, 117, 118, 119, 120, 121, 122]
theorem abc_s : Str.ofString "abcdefghijklmnopqrstuvwxyz" = st abc := by decide +kernel
theorem abc_len : abc.length = 26 := by decide
theorem at_abc (n : Int) : L2.atI abc (n % 26) = some (abc.getD (n % 26).toNat 97) := by
  have := at_mod abc 97 n (by simp [abc])
  exact this
theorem mem_abc (n : Int) : abc.getD (n % 26).toNat 97 ∈ abc := getD_mod abc n 97 26 rfl (by omega)
/-- a name as the program wants it -/
structure Nm where
  l : List Nat
  h1 : 1 ≤ l.length
  h8 : l.length ≤ 8
  ha : ∀ c ∈ l, c ∈ abc
instance : DecidableEq Nm := fun a b => if h : a.l = b.l then .isTrue (by cases a; cases b; cases h; rfl) else .isFalse fun e => h (congrArg Nm.l e)
def Nm.s (n : Nm) : Str := st n.l
theorem Nm.inj {a b : Nm} (h : a.s = b.s) : a = b := by
  have := st_inj h
  cases a; cases b; cases this; rfl
theorem Nm.len (n : Nm) : n.s.length ≤ 8 := by rw [Nm.s, st_len]; exact n.h8
/-- a text of signs that the model takes -/
theorem abc_lt : ∀ c ∈ abc, c < 0x110000 := by decide
theorem sok_abc (l : List Nat) (ha : ∀ c ∈ l, c ∈ abc) : sok (st l) = true := by
  show (l.toArray.all fun c => decide (c < 0x110000)) = true
  rw [List.all_toArray, List.all_eq_true]
  intro c hc
  exact decide_eq_true (abc_lt c (ha c hc))
theorem Nm.ok (n : Nm) : sok n.s = true := sok_abc n.l n.ha
def Nm.nam (n : Nm) : Nam := ⟨n.s, n.ok⟩
theorem cat_ok {x y : Str} {n m : Nat} (hx : x.length ≤ n) (hy : y.length ≤ m) (h : n + m ≤ 16777216) : binD .Add (.str x) (.str y) = some (.shr (.str (x ++ y))) ∧ (x ++ y).length ≤ n + m :=
  ⟨b_cat _ _ (by omega), by rw [s_len]; omega⟩
theorem int_b (b : Bool) : intR1 [.shr (.bl b)] = some (.shr (.int (if b = true then 1 else 0))) := by cases b <;> rfl
theorem max_ (i j : Int) : maxR [.shr (.int i), .shr (.int j)] = some (.shr (.int (max i j))) := rfl
theorem min_ (i j : Int) : minR [.shr (.int i), .shr (.int j)] = some (.shr (.int (min i j))) := rfl
theorem divmod_ (i j : Int) (h : 0 < j ∧ j < 115792089237316195423570985008687907853269984665640564039457584007913129639936) : divmodR [.shr (.int i), .shr (.int j)] = some (.shr (.tup [.int (i / j), .int (i % j)])) := by
  show (@ite _ (0 < j ∧ j < 2 ^ 4096) (Classical.propDecidable _) _ _) = _
  rw [if_pos ⟨h.1, Int.lt_trans h.2 (by decide)⟩]
theorem b_rep (xs : List D) (k : Int) (h : 0 ≤ k ∧ k < 1000 ∧ xs.length * k.toNat ≤ 16777216) : binD .Mult (.lst xs) (.int k) = some (.own (.pl (.lst (List.replicate k.toNat xs).flatten))) := by
  simp only [binD]
  rw [if_pos ⟨by omega, by omega, h.2.2⟩]
  rfl
def numT (n : Int) : Str := Str.ofString (toString n)
def okN (n : Int) : Prop := 0 ≤ n ∧ n < 1000000000000000000000000000000
theorem numT_len {n : Int} (h : okN n) : (numT n).length ≤ 30 := num_len n h
theorem numT_sum : ∀ ns : List Int, (∀ n ∈ ns, okN n) → ((ns.map numT).map (·.length)).sum ≤ 30 * ns.length
  | [], _ => by simp
  | n :: ns, h => by
    have h1 := numT_len (h n (List.mem_cons_self ..))
    have h2 := numT_sum ns fun m hm => h m (List.mem_cons_of_mem _ hm)
    simp only [List.map_cons, List.sum_cons, List.length_cons]
    omega
theorem strs_nums (ns : List Int) : strsD (ns.map fun n => .str (numT n)) = some (ns.map numT) := strs_map numT ns
/-- both ways of an if lead on alike -/
theorem so_both {α : Type} {c : Prop} [Decidable c] {f : Rho → Option Out} {k : Out → Option Res} {T : Option Res} (mk : α → Rho) (a b : α)
    (h : ∀ x, (x = if c then a else b) → (seqO (some (.nx (mk x))) f).bind k = T) : (seqO (if c then some (.nx (mk a)) else some (.nx (mk b))) f).bind k = T := by
  by_cases hc : c
  · rw [if_pos hc]; exact h a (by rw [if_pos hc])
  · rw [if_neg hc]; exact h b (by rw [if_neg hc])
/-- a loop that stops with an answer at the first bad one -/
theorem for_all {α : Type} {tgt : R → Rho → Option Rho} {body : Rho → Option Out} {ρ : Rho} (g : α → R) (p : α → Bool) (r : R) : ∀ (xs : List α),
    (∀ x ∈ xs, ∃ ρ1, tgt (g x) ρ = some ρ1 ∧ (p x = true → body ρ1 = some (.nx ρ)) ∧ (p x = false → ∃ ρ2, body ρ1 = some (.rt r ρ2))) →
    (xs.all p = true → forF tgt body (xs.map g) ρ = some (.nx ρ)) ∧ (xs.all p = false → ∃ ρ2, forF tgt body (xs.map g) ρ = some (.rt r ρ2))
  | [], _ => ⟨fun _ => rfl, fun h => by simp at h⟩
  | x :: xs, h => by
    obtain ⟨ρ1, h1, h2, h3⟩ := h x (List.mem_cons_self ..)
    have ih := for_all g p r xs fun y hy => h y (List.mem_cons_of_mem _ hy)
    cases hp : p x with
    | true =>
      simp only [List.map_cons, forF, h1, h2 hp, Option.bind_some, List.all_cons, hp, Bool.true_and]
      exact ih
    | false =>
      obtain ⟨ρ2, h4⟩ := h3 hp
      simp only [List.map_cons, forF, h1, h4, Option.bind_some, List.all_cons, hp, Bool.false_and]
      exact ⟨fun z => (by cases z), fun _ => ⟨ρ2, rfl⟩⟩
theorem for_stop {α : Type} {tgt : R → Rho → Option Rho} {body : Rho → Option Out} {ρ : Rho} {ys : List R} {f : Rho → Option Out} {T : Option Out} (g : α → R) (p : α → Bool) (r : R) (xs : List α) (hy : ys = xs.map g)
    (h : ∀ x ∈ xs, ∃ ρ1, tgt (g x) ρ = some ρ1 ∧ (p x = true → body ρ1 = some (.nx ρ)) ∧ (p x = false → ∃ ρ2, body ρ1 = some (.rt r ρ2)))
    (h1 : xs.all p = true → f ρ = T) (h2 : xs.all p = false → ∀ ρ2, some (.rt r ρ2) = T) : seqO (forF tgt body ys ρ) f = T := by
  subst hy
  obtain ⟨a1, a2⟩ := for_all g p r xs h
  cases e : xs.all p with
  | true => rw [a1 e]; exact h1 e
  | false =>
    obtain ⟨ρ2, e2⟩ := a2 e
    rw [e2]; exact h2 e ρ2
theorem for_stopB {α : Type} {tgt : R → Rho → Option Rho} {body : Rho → Option Out} {ρ : Rho} {ys : List R} {f : Rho → Option Out} {k : Out → Option Res} {T : Option Res} (g : α → R) (p : α → Bool) (r : R) (xs : List α) (hy : ys = xs.map g)
    (h : ∀ x ∈ xs, ∃ ρ1, tgt (g x) ρ = some ρ1 ∧ (p x = true → body ρ1 = some (.nx ρ)) ∧ (p x = false → ∃ ρ2, body ρ1 = some (.rt r ρ2)))
    (h1 : xs.all p = true → (f ρ).bind k = T) (h2 : xs.all p = false → ∀ ρ2, k (.rt r ρ2) = T) : (seqO (forF tgt body ys ρ) f).bind k = T := by
  subst hy
  obtain ⟨a1, a2⟩ := for_all g p r xs h
  cases e : xs.all p with
  | true => rw [a1 e]; exact h1 e
  | false =>
    obtain ⟨ρ2, e2⟩ := a2 e
    rw [e2]; exact h2 e ρ2
end
end Q

end

section
set_option Elab.async false
set_option linter.all false
set_option maxRecDepth 100000
set_option maxHeartbeats 1000000
/-! Q30: dicts of names; loops by what is done. -/
namespace Q
noncomputable section
open PySem PySem.Spec
open PyProof.Rows hiding St

theorem for_p {α : Type} {tgt : R → Rho → Option Rho} {body : Rho → Option Out} {ys : List R} {ρ : Rho} (g : α → R) (enc : List α → Rho) (xs : List α) (hy : ys = xs.map g) (hr : ρ = enc [])
    (h : ∀ done x rest, xs = done ++ x :: rest → ∃ ρ1, tgt (g x) (enc done) = some ρ1 ∧ (body ρ1 = some (.nx (enc (done ++ [x]))) ∨ body ρ1 = some (.ct (enc (done ++ [x]))))) :
    forF tgt body ys ρ = some (.nx (enc xs)) := by
  subst hy; subst hr
  have go : ∀ (l done : List α), xs = done ++ l → forF tgt body (l.map g) (enc done) = some (.nx (enc xs)) := by
    intro l
    induction l with
    | nil => intro done e; rw [e, List.append_nil]; rfl
    | cons x l ih =>
      intro done e
      obtain ⟨ρ1, h1, h2⟩ := h done x l e
      have ih := ih (done ++ [x]) (by rw [e, List.append_assoc]; rfl)
      rcases h2 with h2 | h2 <;> simp only [List.map_cons, forF, h1, h2, Option.bind_some] <;> exact ih
  exact go xs [] rfl
/-! ### dicts by names -/
section
variable {v : Type} (ed : v → D) (m : List (Nm × v)) (n : Nm) (x : v)
def kd : List (L2.Key × D) := m.map fun p => (Sum.inr p.1.s, ed p.2)
def nk (n : Nm) : L2.Key := Sum.inr n.s
theorem nk_inj : ∀ a b : Nm, nk a = nk b → a = b := fun a b h => Nm.inj (Sum.inr.inj h)
theorem kd_nil : kd ed [] = [] := rfl
theorem kd_len : (kd ed m).length = m.length := by simp [kd]
theorem kd_put : putD (kd ed m) (Sum.inr n.s) (ed x) = kd ed (aput m n x) := putD_map nk_inj ed m n x
theorem kd_val : valD (kd ed m) (Sum.inr n.s) = (aget m n).map ed := valD_map nk_inj ed m n
theorem kd_getD : Q.getD (.dk (kd ed m)) (.str n.s) = some ((aget m n).map ed) := by
  rw [← kd_val]; rfl
theorem aget_isSome : (aget m n).isSome = decide (n ∈ m.map (·.1)) := by
  cases h : aget m n with
  | none => rw [aget_none.mp h |> decide_eq_false]; rfl
  | some y =>
    have : n ∈ m.map (·.1) := by
      by_cases q : n ∈ m.map (·.1)
      · exact q
      · rw [aget_none.mpr q] at h; cases h
    rw [decide_eq_true this]; rfl
theorem kd_in : inD (.str n.s) (.dk (kd ed m)) = some (decide (n ∈ m.map (·.1))) := by
  show (match Q.getD (.dk (kd ed m)) (.str n.s) with
    | some o => some o.isSome
    | none => none) = _
  rw [kd_getD, ← aget_isSome]
  simp
theorem kd_sub : subD (.dk (kd ed m)) (.str n.s) = (aget m n).map ed := by
  rw [s_dk, kd_getD]; rfl
theorem kd_dget (d : D) : dgetR (.dk (kd ed m)) (.shr (.str n.s)) (.shr d) = some (.shr (((aget m n).map ed).getD d)) := by
  simp only [dgetR, R.d, kd_getD, Option.map_some]
theorem kd_keys : ((kd ed m).map fun kv => R.shr (kD kv.1)) = m.map fun p => R.shr (.str p.1.s) := by
  rw [kd, List.map_map]; rfl
theorem kd_its : ((kd ed m).map fun kv => R.shr (.tup [kD kv.1, kv.2])) = m.map fun p => R.shr (.tup [.str p.1.s, ed p.2]) := by
  rw [kd, List.map_map]; rfl
theorem kd_vals : (kd ed m).map (·.2) = m.map fun p => ed p.2 := by
  rw [kd, List.map_map]; rfl
end
theorem aput_new {κ v : Type} [DecidableEq κ] (m : List (κ × v)) (k : κ) (x : v) (h : k ∉ m.map (·.1)) : aput m k x = m ++ [(k, x)] := by
  unfold aput
  rw [if_neg]
  simp only [List.any_eq_true, decide_eq_true_eq, not_exists, not_and]
  intro p hp e
  exact h (List.mem_map.mpr ⟨p, hp, e⟩)
theorem aget_nd {κ v : Type} [DecidableEq κ] : ∀ (m : List (κ × v)) (k : κ) (x : v), (m.map (·.1)).Nodup → (k, x) ∈ m → aget m k = some x
  | [], _, _, _, h => by cases h
  | (k', x') :: m, k, x, nd, h => by
    rw [List.map_cons, List.nodup_cons] at nd
    rw [aget_cons]
    rcases List.mem_cons.mp h with e | h
    · cases e; rw [if_pos rfl]
    · have : ¬ k' = k := fun e => nd.1 (by rw [e]; exact List.mem_map.mpr ⟨_, h, rfl⟩)
      rw [if_neg this]
      exact aget_nd m k x nd.2 h
theorem map_id_ {α : Type} (xs : List α) : List.map (fun x => x) xs = xs := List.map_id' xs
/-! ### items, values -/
theorem its_s (ds : List (L2.Key × D)) : itmsR (.shr (.dk ds)) = some (ds.map fun kv => .shr (.tup [kD kv.1, kv.2])) := rfl
theorem its_t (ds : List (L2.Key × D)) : itmsR (.tmp (.pl (.dk ds))) = some (ds.map fun kv => .shr (.tup [kD kv.1, kv.2])) := rfl
theorem vls_s (ds : List (L2.Key × D)) : valsR (.shr (.dk ds)) = some (ds.map fun kv => .shr kv.2) := rfl
theorem vls_t (ds : List (L2.Key × D)) : valsR (.tmp (.pl (.dk ds))) = some (ds.map fun kv => .shr kv.2) := rfl
theorem mind_ (xs : List Int) (d : Int) (r : R) (h : r.d = .lst (xs.map .int)) : mindR r (.shr (.int d)) = some (.shr (.int ((minL xs).getD d))) := by
  have e : intsD (xs.map D.int) = some xs := by simpa using ints_map id xs
  simp only [mindR, h, lstD, Option.bind_some, e]
  rfl
theorem mind_o (xs : List Int) (d : Int) : mindR (.own (.pl (.lst (xs.map .int)))) (.shr (.int d)) = some (.shr (.int ((minL xs).getD d))) := mind_ xs d _ rfl
theorem minL_nn (xs : List Int) (h : ∀ x ∈ xs, 0 ≤ x) : 0 ≤ (minL xs).getD 0 := by
  cases e : minL xs with
  | none => simp
  | some m => exact h m (minL_ok e).1
end
end Q

end

section
set_option Elab.async false
set_option linter.all false
set_option maxRecDepth 100000
set_option maxHeartbeats 1000000
/-! Q31: rows of a plan; their sums by turn and door. -/
namespace Q
noncomputable section
open PySem PySem.Spec
open PyProof.Rows hiding St

abbrev PRow := Int × Nm × Int
def rowD (r : PRow) : D := .tup [.int r.1, .str r.2.1.s, .int r.2.2]
abbrev Ky := Int × Nm
def tk (k : Ky) : List L2.Key := [Sum.inl k.1, Sum.inr k.2.s]
theorem tk_inj (a b : Ky) (h : tk a = tk b) : a = b := by
  simp only [tk, List.cons.injEq, Sum.inl.injEq, Sum.inr.injEq, and_true] at h
  exact Prod.ext h.1 (Nm.inj h.2)
section
variable {v : Type} (ed : v → D) (m : List (Ky × v)) (t : Int) (n : Nm) (x : v)
def kt : List (List L2.Key × D) := m.map fun p => (tk p.1, ed p.2)
theorem kt_len : (kt ed m).length = m.length := by simp [kt]
theorem kt_put : putD (kt ed m) [Sum.inl t, Sum.inr n.s] (ed x) = kt ed (aput m (t, n) x) := putD_map tk_inj ed m (t, n) x
theorem kt_val : valD (kt ed m) [Sum.inl t, Sum.inr n.s] = (aget m (t, n)).map ed := valD_map tk_inj ed m (t, n)
theorem kt_getD : Q.getD (.dt (kt ed m)) (.tup [.int t, .str n.s]) = some ((aget m (t, n)).map ed) := by
  rw [← kt_val]; rfl
theorem kt_sub : subD (.dt (kt ed m)) (.tup [.int t, .str n.s]) = (aget m (t, n)).map ed := by
  rw [s_dt, kt_getD]; rfl
theorem kt_dget (d : D) : dgetR (.dt (kt ed m)) (.shr (.tup [.int t, .str n.s])) (.shr d) = some (.shr (((aget m (t, n)).map ed).getD d)) := by
  simp only [dgetR, R.d, kt_getD, Option.map_some]
end
/-! ### sums -/
def acc (m : List (Ky × Int)) (r : PRow) : List (Ky × Int) := aput m (r.1, r.2.1) ((aget m (r.1, r.2.1)).getD 0 + r.2.2)
def sums (rs : List PRow) : List (Ky × Int) := rs.foldl acc []
theorem sums_app (rs : List PRow) (r : PRow) : sums (rs ++ [r]) = acc (sums rs) r := by simp [sums]
theorem sums_len (rs : List PRow) : (sums rs).length ≤ rs.length := by
  have := foldl_inv acc (fun k m => m.length ≤ k) (fun k m p h => Nat.le_trans (aput_len ..) (Nat.succ_le_succ h)) rs 0 [] (Nat.le_refl _)
  rwa [Nat.zero_add] at this
/-- how many go by a door at a turn -/
def many (rs : List PRow) (t : Int) (n : Nm) : Int := ((rs.filter fun r => decide (r.1 = t) && decide (r.2.1 = n)).map fun r => r.2.2).sum
theorem sums_get (rs : List PRow) (t : Int) (n : Nm) : (aget (sums rs) (t, n)).getD 0 = many rs t n := by
  have : ∀ (rs : List PRow) (m : List (Ky × Int)), (aget (rs.foldl acc m) (t, n)).getD 0 = (aget m (t, n)).getD 0 + many rs t n := by
    intro rs
    induction rs with
    | nil => intro m; simp [many]
    | cons r rs ih =>
      intro m
      rw [List.foldl_cons, ih, acc, aget_put]
      by_cases h : (t, n) = (r.1, r.2.1)
      · rw [if_pos h]
        cases h
        simp [many, Int.add_assoc]
      · rw [if_neg h]
        have : ¬ (r.1 = t ∧ r.2.1 = n) := fun z => h (by rw [z.1, z.2])
        have e : (decide (r.1 = t) && decide (r.2.1 = n)) = false := by simpa using this
        simp [many, e]
  have h := this rs []
  rw [show aget ([] : List (Ky × Int)) (t, n) = none from rfl] at h
  simpa [sums] using h
/-! ### names in order -/
def nmD (n : Nm) : D := .str n.s
theorem nm_srt (xs : List Nm) (hl : xs.length ≤ 16777216) : srtB (xs.map nmD) = true :=
  srtB_map (fun n => by simp [pln, nmD, Nm.ok]) (fun x y => by simp [nmD, py, PySem.W.alike]) (.inr fun x => by simp [nmD, py, isPl]) xs hl
theorem at_last {α : Type} (xs : List α) (x : α) : L2.atI (xs ++ [x]) (-1) = some x := by
  unfold L2.atI L2.ixN
  rw [if_neg (by omega), List.length_append, List.length_singleton]
  rw [if_pos (by omega)]
  have : (-1 + ((xs.length + 1 : Nat) : Int)).toNat = xs.length := by omega
  rw [this]
  simp
theorem neg_ (n : Int) : negR (.shr (.int n)) = some (.shr (.int (-n))) := rfl
theorem nd_map {α : Type} {f : Nat → α} (n : Nat) (h : ∀ i j, i < n → j < n → f i = f j → i = j) : ((List.range n).map f).Nodup := by
  rw [List.Nodup, List.pairwise_map]
  exact List.Pairwise.imp_of_mem (fun {a b} ha hb hab e => hab (h a b (List.mem_range.mp ha) (List.mem_range.mp hb) e)) List.nodup_range
theorem eq_refl {α : Type} (f : α → D) (h : ∀ x, pln 59 (f x) = true) (xs : List α) : eqD (.lst (xs.map f)) (.lst (xs.map f)) = some true := by
  have : pln 60 (.lst (xs.map f)) = true := by simp only [pln]; exact plnL_map f 59 h xs
  exact (eqD_pln this this).1 rfl
theorem row_pln (r : PRow) : pln 59 (rowD r) = true := by simp [pln, plnL, rowD, r.2.1.ok]
end
end Q

end

section
set_option Elab.async false
set_option linter.all false
set_option maxRecDepth 100000
set_option maxHeartbeats 1000000
/-! Q32: loops that change one or two places; sorted lists. -/
namespace Q
noncomputable section
open PySem PySem.Spec
open PyProof.Rows hiding St

/-- a loop that changes one place -/
theorem for_a1 {α : Type} {tgt : R → Rho → Option Rho} {body : Rho → Option Out} {ys : List R} {ρ : Rho} (i : Nat) (g : α → R) (enc : List α → R) (xs : List α) (hy : ys = xs.map g) (hr : ρ.set i (some (enc [])) = ρ)
    (h : ∀ done x rest, xs = done ++ x :: rest → ∃ ρ1, tgt (g x) (ρ.set i (some (enc done))) = some ρ1 ∧ (body ρ1 = some (.nx (ρ.set i (some (enc (done ++ [x]))))) ∨ body ρ1 = some (.ct (ρ.set i (some (enc (done ++ [x]))))))) :
    forF tgt body ys ρ = some (.nx (ρ.set i (some (enc xs)))) :=
  for_p g (fun done => ρ.set i (some (enc done))) xs hy hr.symm h
/-- a loop that changes two places -/
theorem for_a2 {α : Type} {tgt : R → Rho → Option Rho} {body : Rho → Option Out} {ys : List R} {ρ : Rho} (i j : Nat) (g : α → R) (e1 e2 : List α → R) (xs : List α) (hy : ys = xs.map g) (hr : (ρ.set i (some (e1 []))).set j (some (e2 [])) = ρ)
    (h : ∀ done x rest, xs = done ++ x :: rest → ∃ ρ1, tgt (g x) ((ρ.set i (some (e1 done))).set j (some (e2 done))) = some ρ1 ∧ (body ρ1 = some (.nx ((ρ.set i (some (e1 (done ++ [x])))).set j (some (e2 (done ++ [x]))))) ∨ body ρ1 = some (.ct ((ρ.set i (some (e1 (done ++ [x])))).set j (some (e2 (done ++ [x]))))))) :
    forF tgt body ys ρ = some (.nx ((ρ.set i (some (e1 xs))).set j (some (e2 xs)))) :=
  for_p g (fun done => (ρ.set i (some (e1 done))).set j (some (e2 done))) xs hy hr.symm h
theorem done_len {α : Type} {xs done rest : List α} {x : α} (e : xs = done ++ x :: rest) : done.length < xs.length := by
  rw [e]; simp
theorem done_mem {α : Type} {xs done rest : List α} {x : α} (e : xs = done ++ x :: rest) : x ∈ xs := by
  rw [e]; simp
/-! ### sorted -/
def tok (d : D) : List (Int ⊕ List Nat) := PySem.W.keyToks (py d)
theorem leD_total : PySem.W.TotalLe leD := PySem.W.sortLe_total (PyProof.Rows.listOrd PyProof.Rows.itemOrd) false fun b => PySem.W.keyToks (py b)
theorem leD_anti {a b : D} (h1 : leD a b = true) (h2 : leD b a = true) : tok a = tok b := by
  have h1 : (!PyProof.Rows.lexLt PyProof.Rows.itemOrd (tok b) (tok a)) = true := h1
  have h2 : (!PyProof.Rows.lexLt PyProof.Rows.itemOrd (tok a) (tok b)) = true := h2
  simp only [Bool.not_eq_true'] at h1 h2
  exact PyProof.Rows.lex_total _ _ h2 h1
theorem leD_lt {a b : D} : leD a b = false ↔ PyProof.Rows.lexLt PyProof.Rows.itemOrd (tok b) (tok a) = true := by
  show (!PyProof.Rows.lexLt PyProof.Rows.itemOrd (tok b) (tok a)) = false ↔ _
  simp
section
variable {α : Type} (f : α → D)
theorem srt_pw (xs : List α) : (srt f xs).Pairwise fun a b => leD (f a) (f b) = true :=
  List.pairwise_mergeSort (fun a b c => leD_total.trans (f a) (f b) (f c)) (fun a b => by have := leD_total.total (f a) (f b); simpa using this) xs
theorem mem_srt {xs : List α} {x : α} : x ∈ srt f xs ↔ x ∈ xs := (srt_perm f xs).mem_iff
variable (inj : ∀ a b, tok (f a) = tok (f b) → a = b)
include inj
theorem srt_uniq {xs ys : List α} (p : xs.Perm ys) (hx : xs.Pairwise fun a b => leD (f a) (f b) = true) (hy : ys.Pairwise fun a b => leD (f a) (f b) = true) : xs = ys :=
  p.eq_of_pairwise (fun a b _ _ h1 h2 => inj a b (leD_anti h1 h2)) hx hy
theorem srt_of_perm {xs ys : List α} (p : xs.Perm ys) : srt f xs = srt f ys :=
  srt_uniq f inj (((srt_perm f xs).trans p).trans (srt_perm f ys).symm) (srt_pw f xs) (srt_pw f ys)
theorem srt_self {xs : List α} (h : xs.Pairwise fun a b => leD (f a) (f b) = true) : srt f xs = xs :=
  srt_uniq f inj (srt_perm f xs) (srt_pw f xs) h
end
theorem tok_int (i : Int) : tok (.int i) = [.inl i] := rfl
theorem tok_str (x : Str) : tok (.str x) = [.inr x.cps.toList] := rfl
theorem tok_tup (xs : List D) : tok (.tup xs) = PySem.W.keyToksAll (pyL xs) := rfl
theorem toks_nil : PySem.W.keyToksAll (pyL []) = [.inl 0] := rfl
theorem toks_cons (x : D) (xs : List D) : PySem.W.keyToksAll (pyL (x :: xs)) = .inl 1 :: (tok x ++ PySem.W.keyToksAll (pyL xs)) := rfl
theorem nm_cps {a b : Nm} : a.s.cps.toList = b.s.cps.toList ↔ a = b := by
  constructor
  · intro h
    have : a.l = b.l := by simpa [Nm.s, st] using h
    cases a; cases b; cases this; rfl
  · intro h; rw [h]
theorem tok_nm (a b : Nm) (h : tok (nmD a) = tok (nmD b)) : a = b := by
  simpa only [nmD, tok_str, List.cons.injEq, Sum.inr.injEq, and_true, nm_cps] using h
theorem tok_row (a b : PRow) (h : tok (rowD a) = tok (rowD b)) : a = b := by
  obtain ⟨t, n, k⟩ := a
  obtain ⟨t', n', k'⟩ := b
  simp only [rowD, tok_tup, toks_cons, toks_nil, tok_int, tok_str, List.cons_append, List.nil_append, List.cons.injEq, Sum.inl.injEq, Sum.inr.injEq, nm_cps, and_true, true_and] at h
  obtain ⟨h1, h2, h3⟩ := h
  rw [h1, h2, h3]
theorem row_alike (x y : PRow) : PySem.W.alike (py (rowD x)) (py (rowD y)) = true := by simp [rowD, py, pyL, PySem.W.alike, PySem.W.alikeAll]
theorem row_srt (xs : List PRow) (hl : xs.length ≤ 16777216) : srtB (xs.map rowD) = true :=
  srtB_map row_pln row_alike (.inl fun x => by simp [rowD, py, pyL, isTu]) xs hl
/-! ### sums as rows -/
def sumRows (rs : List PRow) : List PRow := (sums rs).map fun p => (p.1.1, p.1.2, p.2)
theorem acc_keys (m : List (Ky × Int)) (r : PRow) (h : (m.map (·.1)).Nodup) : ((acc m r).map (·.1)).Nodup := by
  unfold acc
  rw [aput_keys]
  split
  · exact h
  · rename_i q
    rw [List.nodup_append]
    exact ⟨h, by simp, fun a ha b hb => by rw [List.mem_singleton.mp hb]; exact fun e => q (e ▸ ha)⟩
theorem sums_nd (rs : List PRow) : ((sums rs).map (·.1)).Nodup := by
  have : ∀ (rs : List PRow) (m : List (Ky × Int)), (m.map (·.1)).Nodup → ((rs.foldl acc m).map (·.1)).Nodup := by
    intro rs
    induction rs with
    | nil => intro m h; exact h
    | cons r rs ih => intro m h; exact ih _ (acc_keys m r h)
  exact this rs [] (by simp)
theorem sums_mem_key (rs : List PRow) (k : Ky) : k ∈ (sums rs).map (·.1) ↔ ∃ r ∈ rs, (r.1, r.2.1) = k := by
  have : ∀ (rs : List PRow) (m : List (Ky × Int)), k ∈ (rs.foldl acc m).map (·.1) ↔ k ∈ m.map (·.1) ∨ ∃ r ∈ rs, (r.1, r.2.1) = k := by
    intro rs
    induction rs with
    | nil => intro m; simp
    | cons r rs ih =>
      intro m
      rw [List.foldl_cons, ih, acc, aput_keys]
      constructor
      · rintro (h | ⟨r', h, e⟩)
        · split at h
          · exact .inl h
          · rcases List.mem_append.mp h with h | h
            · exact .inl h
            · exact .inr ⟨r, List.mem_cons_self .., (List.mem_singleton.mp h).symm⟩
        · exact .inr ⟨r', List.mem_cons_of_mem _ h, e⟩
      · rintro (h | ⟨r', h, e⟩)
        · left; split
          · exact h
          · exact List.mem_append_left _ h
        · rcases List.mem_cons.mp h with h | h
          · subst h; left; split
            · rename_i q; rw [← e]; exact q
            · rw [← e]; simp
          · exact .inr ⟨r', h, e⟩
  have h := this rs []
  simpa [sums] using h
theorem sums_mem (rs : List PRow) (k : Ky) (x : Int) : (k, x) ∈ sums rs ↔ (∃ r ∈ rs, (r.1, r.2.1) = k) ∧ x = many rs k.1 k.2 := by
  constructor
  · intro h
    have h1 : k ∈ (sums rs).map (·.1) := List.mem_map.mpr ⟨_, h, rfl⟩
    have h2 := aget_nd (sums rs) k x (sums_nd rs) h
    have h3 := sums_get rs k.1 k.2
    rw [show (k.1, k.2) = k from rfl, h2] at h3
    exact ⟨(sums_mem_key rs k).mp h1, h3⟩
  · rintro ⟨h1, h2⟩
    obtain ⟨p, hp, e⟩ := List.mem_map.mp ((sums_mem_key rs k).mpr h1)
    obtain ⟨k', x'⟩ := p
    cases e
    have h3 := aget_nd (sums rs) k' x' (sums_nd rs) hp
    have h4 := sums_get rs k'.1 k'.2
    rw [show (k'.1, k'.2) = k' from rfl, h3] at h4
    have : x' = x := by rw [h2]; exact h4
    rw [← this]; exact hp
theorem nd_of_map {α β : Type} (f : α → β) {xs : List α} (h : (xs.map f).Nodup) : xs.Nodup := by
  rw [List.Nodup, List.pairwise_map] at h
  exact h.imp fun h e => h (by rw [e])
theorem sums_perm {rs rs' : List PRow} (h : ∀ r, (∃ q ∈ rs, (q.1, q.2.1) = r) ↔ ∃ q ∈ rs', (q.1, q.2.1) = r) (hm : ∀ t n, many rs t n = many rs' t n) : (sums rs).Perm (sums rs') := by
  refine (List.perm_ext_iff_of_nodup (nd_of_map _ (sums_nd rs)) (nd_of_map _ (sums_nd rs'))).mpr fun p => ?_
  obtain ⟨k, x⟩ := p
  rw [sums_mem, sums_mem, h k, hm]
theorem sum_perm {xs ys : List Int} (p : xs.Perm ys) : xs.sum = ys.sum := by
  induction p with
  | nil => rfl
  | cons x _ ih => simp [ih]
  | swap x y l => simp only [List.sum_cons]; omega
  | trans _ _ h1 h2 => rw [h1, h2]
theorem many_perm {rs rs' : List PRow} (p : rs.Perm rs') (t : Int) (n : Nm) : many rs t n = many rs' t n :=
  sum_perm ((p.filter _).map _)
theorem sums_of_perm {rs rs' : List PRow} (p : rs.Perm rs') : (sums rs).Perm (sums rs') :=
  sums_perm (fun r => by constructor <;> rintro ⟨q, h, e⟩ <;> exact ⟨q, by first | exact p.mem_iff.mp h | exact p.mem_iff.mpr h, e⟩) (many_perm p)
theorem many_app (a b : List PRow) (t : Int) (n : Nm) : many (a ++ b) t n = many a t n + many b t n := by
  simp [many, List.filter_append, List.map_append, List.sum_append]
end
end Q
namespace Q
noncomputable section
open PySem PySem.Spec
open PyProof.Rows hiding St
section
variable {v : Type} (ed : v → D) (m : List (Ky × v))
theorem kt_keys : ((kt ed m).map fun kv => R.shr (.tup (kv.1.map kD))) = m.map fun p => R.shr (.tup [.int p.1.1, .str p.1.2.s]) := by
  rw [kt, List.map_map]; rfl
theorem kt_its : ((kt ed m).map fun kv => R.shr (.tup [.tup (kv.1.map kD), kv.2])) = m.map fun p => R.shr (.tup [.tup [.int p.1.1, .str p.1.2.s], ed p.2]) := by
  rw [kt, List.map_map]; rfl
end
theorem its_sT (ds : List (List L2.Key × D)) : itmsR (.shr (.dt ds)) = some (ds.map fun kv => .shr (.tup [.tup (kv.1.map kD), kv.2])) := rfl
theorem its_tT (ds : List (List L2.Key × D)) : itmsR (.tmp (.pl (.dt ds))) = some (ds.map fun kv => .shr (.tup [.tup (kv.1.map kD), kv.2])) := rfl
theorem its_oT (ds : List (List L2.Key × D)) : itmsR (.own (.pl (.dt ds))) = some (ds.map fun kv => .shr (.tup [.tup (kv.1.map kD), kv.2])) := rfl
theorem its_o (ds : List (L2.Key × D)) : itmsR (.own (.pl (.dk ds))) = some (ds.map fun kv => .shr (.tup [kD kv.1, kv.2])) := rfl
theorem enum_s (xs : List D) : enumR (.shr (.lst xs)) = some (xs.zipIdx.map fun p => .shr (.tup [.int (p.2 : Nat), p.1])) := rfl
theorem enum_o (xs : List D) : enumR (.own (.pl (.lst xs))) = some (xs.zipIdx.map fun p => .shr (.tup [.int (p.2 : Nat), p.1])) := rfl
theorem enum_t (xs : List D) : enumR (.tmp (.pl (.lst xs))) = some (xs.zipIdx.map fun p => .shr (.tup [.int (p.2 : Nat), p.1])) := rfl
/-- range(i, j, -1) -/
theorem rng3_dn (i j : Int) (h : -4611686018427387904 ≤ i ∧ i < 4611686018427387904 ∧ -4611686018427387904 ≤ j ∧ j < 4611686018427387904) : rng3R [.shr (.int i), .shr (.int j), .shr (.int (-1))] = some ((List.range (i - j).toNat).map fun k => .shr (.int (i - (k : Nat)))) := by
  have hz : L2.RgC i j (-1) (i - j).toNat := L2.RgC.neg (by omega) (by omega) (by omega) (by omega)
  obtain ⟨h1, h2, h3, h4⟩ := hz
  show (@ite _ _ (Classical.propDecidable _) _ _) = _
  rw [if_pos ⟨h1, h2, h3, by rw [h4]; omega⟩, h4]
  refine congrArg some ?_
  rw [Int.toNat_natCast]
  refine List.map_congr_left fun k _ => ?_
  show R.shr (.int (i + (k : Int) * -1)) = _
  congr 2; omega
end
end Q
namespace Q
noncomputable section
open PySem PySem.Spec
open PyProof.Rows hiding St
section
variable (xs : List D) (ns : List Int)
theorem len_s1 : lenR [.shr (.lst xs)] = some (.shr (.int xs.length)) := len_lst xs _ rfl
theorem len_o1 : lenR [.own (.pl (.lst xs))] = some (.shr (.int xs.length)) := len_lst xs _ rfl
theorem len_t1 : lenR [.tmp (.pl (.lst xs))] = some (.shr (.int xs.length)) := len_lst xs _ rfl
theorem len_v1 : lenR [.vw (.pl (.lst xs))] = some (.shr (.int xs.length)) := len_lst xs _ rfl
theorem len_s2 : lenR [.shr (.tup xs)] = some (.shr (.int xs.length)) := len_tup xs _ rfl
theorem len_s3 : lenR [.shr (.scr ns)] = some (.shr (.int ns.length)) := len_scr _ ns rfl
theorem len_v2 (ts : List T) : lenR [.vw (.lst ts)] = some (.shr (.int ts.length)) := by
  have : (R.vw (.lst ts)).d = .lst (ts.map T.d) := by simp [R.d, T.d, T.ds_map]
  rw [len_lst _ _ this, List.length_map]
theorem len_t2 (ts : List T) : lenR [.tmp (.lst ts)] = some (.shr (.int ts.length)) := by
  have : (R.tmp (.lst ts)).d = .lst (ts.map T.d) := by simp [R.d, T.d, T.ds_map]
  rw [len_lst _ _ this, List.length_map]
end
end
end Q
namespace Q
open PySem PySem.Spec
open PyProof.Rows hiding St
noncomputable section
theorem fm_map {α β : Type} (f : α → Option β) (g : α → β) : ∀ xs : List α, (∀ x ∈ xs, f x = some (g x)) → xs.filterMap f = xs.map g
  | [], _ => rfl
  | x :: xs, h => by
    rw [List.filterMap_cons, h x (List.mem_cons_self ..), List.map_cons, fm_map f g xs fun y hy => h y (List.mem_cons_of_mem _ hy)]
theorem pick_rev {α : Type} (xs : List α) : pick3 xs none none (-1) = xs.reverse := by
  cases xs with
  | nil => rfl
  | cons a l =>
    have hn : 0 < (a :: l).length := by simp
    generalize hx : a :: l = xs at hn
    have hb : sliceBounds none none (some (-1)) xs.length = ((xs.length : Int) - 1, -1, -1) := by
      simp [sliceBounds]
    unfold pick3
    rw [hb]
    have hr : sliceRange ((xs.length : Int) - 1) (-1) (-1) = (List.range xs.length).map fun k => xs.length - 1 - k := by
      unfold sliceRange
      have hc : (if (-1 : Int) > 0 then (if ((xs.length : Int) - 1) < -1 then (-1 - ((xs.length : Int) - 1) + -1 - 1) / -1 else 0) else (if ((xs.length : Int) - 1) > -1 then (((xs.length : Int) - 1) - -1 - -1 - 1) / (- -1) else 0)) = (xs.length : Int) := by
        rw [if_neg (by omega), if_pos (by omega), Int.neg_neg, Int.ediv_one]
        omega
      simp only [hc, Int.toNat_natCast]
      refine List.map_congr_left fun k hk => ?_
      have := List.mem_range.mp hk
      omega
    simp only [hr]
    rw [fm_map _ (fun k => xs.getD k a) _ fun k hk => by
      obtain ⟨j, hj, rfl⟩ := List.mem_map.mp hk
      have := List.mem_range.mp hj
      have h2 : xs.length - 1 - j < xs.length := by omega
      simp [List.getD, List.getElem?_eq_getElem h2]]
    rw [List.map_map]
    apply List.ext_getElem
    · simp
    · intro i h1 h2
      simp only [List.length_map, List.length_range] at h1
      have h2 : xs.length - 1 - i < xs.length := by omega
      simp [List.getD, List.getElem?_eq_getElem h2]
end
end Q
namespace Q
open PySem PySem.Spec
open PyProof.Rows hiding St
theorem gm_F (pd : Pd) (Fs : Nat → Fn) (w k : Nat) : ((pd.gm Fs w).fn k).F = Fs k := by
  unfold Pd.gm
  dsimp only
  split <;> rfl
/-! ### dicts by rooms and turns -/
abbrev Kr := Nm × Int
def rk (k : Kr) : List L2.Key := [Sum.inr k.1.s, Sum.inl k.2]
theorem rk_inj (a b : Kr) (h : rk a = rk b) : a = b := by
  simp only [rk, List.cons.injEq, Sum.inl.injEq, Sum.inr.injEq, and_true] at h
  exact Prod.ext (Nm.inj h.1) h.2
section
variable {v : Type} (ed : v → D) (m : List (Kr × v)) (t : Int) (n : Nm) (x : v)
noncomputable def kr : List (List L2.Key × D) := m.map fun p => (rk p.1, ed p.2)
theorem kr_len : (kr ed m).length = m.length := by simp [kr]
theorem kr_put : putD (kr ed m) [Sum.inr n.s, Sum.inl t] (ed x) = kr ed (aput m (n, t) x) := putD_map rk_inj ed m (n, t) x
theorem kr_val : valD (kr ed m) [Sum.inr n.s, Sum.inl t] = (aget m (n, t)).map ed := valD_map rk_inj ed m (n, t)
theorem kr_getD : Q.getD (.dt (kr ed m)) (.tup [.str n.s, .int t]) = some ((aget m (n, t)).map ed) := by
  rw [← kr_val]; rfl
theorem kr_sub : subD (.dt (kr ed m)) (.tup [.str n.s, .int t]) = (aget m (n, t)).map ed := by
  rw [s_dt, kr_getD]; rfl
theorem kr_in : inD (.tup [.str n.s, .int t]) (.dt (kr ed m)) = some (aget m (n, t)).isSome := by
  show (match Q.getD (.dt (kr ed m)) (.tup [.str n.s, .int t]) with
    | some o => some o.isSome
    | none => none) = _
  rw [kr_getD]
  simp
theorem kr_keys : ((kr ed m).map fun kv => R.shr (.tup (kv.1.map kD))) = m.map fun p => R.shr (.tup [.str p.1.1.s, .int p.1.2]) := by
  rw [kr, List.map_map]; rfl
end
theorem kt_in {v : Type} (ed : v → D) (m : List (Ky × v)) (t : Int) (n : Nm) : inD (.tup [.int t, .str n.s]) (.dt (kt ed m)) = some (aget m (t, n)).isSome := by
  show (match Q.getD (.dt (kt ed m)) (.tup [.int t, .str n.s]) with
    | some o => some o.isSome
    | none => none) = _
  rw [kt_getD]
  simp
end Q
namespace Q
open PySem PySem.Spec
open PyProof.Rows hiding St
theorem svals_i {ed : Int → D} (he : ∀ x, ed x = .int x) {m : List (Nm × Int)} {s : Int} (h : (m.map (·.2)).sum = s) : svalsR (.shr (.dk (kd ed m))) = some (.shr (.int s)) := by
  subst h
  show (intsD ((kd ed m).map (·.2))).map (fun ns => rI ns.sum) = _
  rw [kd_vals]
  have := ints_map (fun p : Nm × Int => p.2) m
  simp only [he]
  rw [this]
  rfl
theorem lst1_d (ds : List (L2.Key × D)) : lstR1 [.shr (.dk ds)] = some (.own (.pl (.lst (ds.map fun kv => kD kv.1)))) := rfl
theorem lst1_t (ds : List (List L2.Key × D)) : lstR1 [.shr (.dt ds)] = some (.own (.pl (.lst (ds.map fun kv => .tup (kv.1.map kD))))) := rfl
theorem kd_ks {v : Type} (ed : v → D) (m : List (Nm × v)) : ((kd ed m).map fun kv => kD kv.1) = m.map fun p => .str p.1.s := by
  rw [kd, List.map_map]; rfl
end Q
namespace Q
theorem range_done {n k : Nat} {done rest : List Nat} (e : List.range n = done ++ k :: rest) : k = done.length := by
  have h := congrArg (fun l => l[done.length]?) e
  simp only [List.getElem?_append_right (Nat.le_refl _), Nat.sub_self, List.getElem?_cons_zero] at h
  have hl : done.length < n := by
    have := congrArg List.length e
    simp only [List.length_range, List.length_append, List.length_cons] at this
    omega
  rw [List.getElem?_range hl] at h
  exact (Option.some.inj h).symm
end Q
namespace Q
section
variable (lo hi c j : Nat) (ds : List D) (ts : List T)
theorem rec_s : recC lo hi (.shr (.ins c ds)) = if lo ≤ c ∧ c < hi then some c else none := rfl
theorem rec_own_i : recC lo hi (.own (.ins c ts)) = if lo ≤ c ∧ c < hi then some c else none := rfl
theorem rec_own_l : recC lo hi (.own (.lf (.ins c ds))) = if lo ≤ c ∧ c < hi then some c else none := rfl
theorem rec_own_p : recC lo hi (.own (.pl (.ins c ds))) = if lo ≤ c ∧ c < hi then some c else none := rfl
theorem rec_tmp_i : recC lo hi (.tmp (.ins c ts)) = if lo ≤ c ∧ c < hi then some c else none := rfl
theorem rec_tmp_l : recC lo hi (.tmp (.lf (.ins c ds))) = if lo ≤ c ∧ c < hi then some c else none := rfl
theorem rec_tmp_p : recC lo hi (.tmp (.pl (.ins c ds))) = if lo ≤ c ∧ c < hi then some c else none := rfl
theorem rec_vw_i : recC lo hi (.vw (.ins c ts)) = if lo ≤ c ∧ c < hi then some c else none := rfl
theorem rec_vw_l : recC lo hi (.vw (.lf (.ins c ds))) = if lo ≤ c ∧ c < hi then some c else none := rfl
theorem rec_vw_p : recC lo hi (.vw (.pl (.ins c ds))) = if lo ≤ c ∧ c < hi then some c else none := rfl
theorem fld_s : fldR j lo hi (.shr (.ins c ds)) = if lo ≤ c ∧ c < hi then (ds[j]?).map .shr else none := rfl
theorem fld_own_i : fldR j lo hi (.own (.ins c ts)) = if lo ≤ c ∧ c < hi then (ts[j]?).map (chi .own) else none := rfl
theorem fld_own_l : fldR j lo hi (.own (.lf (.ins c ds))) = if lo ≤ c ∧ c < hi then (ds[j]?).map .shr else none := rfl
theorem fld_own_p : fldR j lo hi (.own (.pl (.ins c ds))) = if lo ≤ c ∧ c < hi then (ds[j]?).map .shr else none := rfl
theorem fld_tmp_i : fldR j lo hi (.tmp (.ins c ts)) = if lo ≤ c ∧ c < hi then (ts[j]?).map (chi .tmp) else none := rfl
theorem fld_tmp_l : fldR j lo hi (.tmp (.lf (.ins c ds))) = if lo ≤ c ∧ c < hi then (ds[j]?).map .shr else none := rfl
theorem fld_tmp_p : fldR j lo hi (.tmp (.pl (.ins c ds))) = if lo ≤ c ∧ c < hi then (ds[j]?).map .shr else none := rfl
theorem fld_vw_i : fldR j lo hi (.vw (.ins c ts)) = if lo ≤ c ∧ c < hi then (ts[j]?).map (chi .vw) else none := rfl
theorem fld_vw_l : fldR j lo hi (.vw (.lf (.ins c ds))) = if lo ≤ c ∧ c < hi then (ds[j]?).map .shr else none := rfl
theorem fld_vw_p : fldR j lo hi (.vw (.pl (.ins c ds))) = if lo ≤ c ∧ c < hi then (ds[j]?).map .shr else none := rfl
end
end Q
namespace Q
theorem b_repS (l : List Nat) (k : Int) (h : l.length ≤ 1000 ∧ -1000 ≤ k ∧ k ≤ 1000) : binD .Mult (.str (st l)) (.int k) = some (.shr (.str (st (List.replicate k.toNat l).flatten))) := by
  simp only [binD]
  rw [if_pos (by rw [st_len]; exact h), repS, st_cps]
  rfl
end Q
namespace Q
theorem zip_range {α : Type} (d : α) (L : List α) : L.zipIdx = (List.range L.length).map fun k => (L.getD k d, k) := by
  apply List.ext_getElem
  · simp
  · intro i h1 h2
    simp only [List.length_zipIdx] at h1
    simp [List.getD, List.getElem?_eq_getElem h1]
theorem enum_I (L : List Int) : ((L.map D.int).zipIdx.map fun p => R.shr (.tup [.int (p.2 : Nat), p.1])) = (List.range L.length).map fun k : Nat => R.shr (.tup [.int (k : Nat), .int (L.getD k 0)]) := by
  rw [zip_range (D.int 0), List.length_map, List.map_map]
  refine List.map_congr_left fun k hk => ?_
  have := List.mem_range.mp hk
  simp [List.getD, List.getElem?_eq_getElem this]
theorem enum_Is (L : List Int) : enumR (.shr (.lst (L.map D.int))) = some ((List.range L.length).map fun k : Nat => R.shr (.tup [.int (k : Nat), .int (L.getD k 0)])) := by
  rw [enum_s, enum_I]
theorem enum_Io (L : List Int) : enumR (.own (.pl (.lst (L.map D.int)))) = some ((List.range L.length).map fun k : Nat => R.shr (.tup [.int (k : Nat), .int (L.getD k 0)])) := by
  rw [enum_o, enum_I]
theorem getD_memL {α : Type} (L : List α) (k : Nat) (d : α) (h : k < L.length) : L.getD k d ∈ L := getD_mem L k d h
/-! ### sums by fibres -/
theorem sum_add {α : Type} (f g : α → Int) : ∀ xs : List α, (xs.map fun x => f x + g x).sum = (xs.map f).sum + (xs.map g).sum
  | [] => rfl
  | x :: xs => by simp only [List.map_cons, List.sum_cons, sum_add f g xs]; omega
theorem sum_sub {α : Type} (f g : α → Int) : ∀ xs : List α, (xs.map fun x => f x - g x).sum = (xs.map f).sum - (xs.map g).sum
  | [] => rfl
  | x :: xs => by simp only [List.map_cons, List.sum_cons, sum_sub f g xs]; omega
theorem sum_zero {α : Type} (f : α → Int) : ∀ xs : List α, (∀ x ∈ xs, f x = 0) → (xs.map f).sum = 0
  | [], _ => rfl
  | x :: xs, h => by
    rw [List.map_cons, List.sum_cons, h x (List.mem_cons_self ..), sum_zero f xs fun y hy => h y (List.mem_cons_of_mem _ hy)]
    rfl
theorem sum_ite1 (m : Nm) (c : Int) : ∀ ns : List Nm, ns.Nodup → m ∈ ns → (ns.map fun n => if m = n then c else 0).sum = c
  | n :: ns, nd, hm => by
    rw [List.nodup_cons] at nd
    rw [List.map_cons, List.sum_cons]
    by_cases e : m = n
    · subst e
      rw [if_pos rfl, sum_zero _ _ fun x hx => if_neg fun z => nd.1 (by rw [z]; exact hx)]; omega
    · rw [if_neg e, sum_ite1 m c ns nd.2 ((List.mem_cons.mp hm).resolve_left e)]; omega
theorem sum_fib {α : Type} (rooms : List Nm) (nd : rooms.Nodup) (key : α → Option Nm) (f : α → Int) : ∀ ds : List α, (∀ x ∈ ds, ∀ n, key x = some n → n ∈ rooms) →
    (rooms.map fun n => ((ds.filter fun x => decide (key x = some n)).map f).sum).sum = ((ds.filter fun x => (key x).isSome).map f).sum
  | [], _ => by simp [sum_zero]
  | x :: ds, h => by
    have ih := sum_fib rooms nd key f ds fun y hy => h y (List.mem_cons_of_mem _ hy)
    cases e : key x with
    | none =>
      have h1 : ∀ n, (x :: ds).filter (fun x => decide (key x = some n)) = ds.filter fun x => decide (key x = some n) := fun n => by simp [e]
      have h2 : (x :: ds).filter (fun x => (key x).isSome) = ds.filter fun x => (key x).isSome := by simp [e]
      simp only [h1, h2, ih]
    | some m =>
      have hm := h x (List.mem_cons_self ..) m e
      have h1 : ∀ n, (((x :: ds).filter (fun x => decide (key x = some n))).map f).sum = (if m = n then f x else 0) + ((ds.filter fun x => decide (key x = some n)).map f).sum := fun n => by
        by_cases z : m = n
        · subst z; simp [e]
        · simp [e, z]
      have h2 : (x :: ds).filter (fun x => (key x).isSome) = x :: ds.filter fun x => (key x).isSome := by simp [e]
      simp only [h1, h2]
      rw [sum_add, sum_ite1 m (f x) rooms nd hm, ih, List.map_cons, List.sum_cons]
end Q

end

section
set_option Elab.async false
set_option linter.all false
set_option maxRecDepth 100000
set_option maxHeartbeats 1000000
/-! G: the IR of . Printed by gen.py. -/
namespace k22
open PySem PySem.Spec L2 Q
open PyProof.Rows hiding St

def i_summed : FnI := ⟨["plan", "moved", "turn", "name", "number"], 1, [],
  (.cons (.asg 1 (.dnew true)) (.cons (.for_ (.tp (.cons (.nm 2) (.cons (.nm 3) (.cons (.nm 4) .nil)))) (.any (.var 0)) (.cons (.put (.nm 1) (.tup (.cons (.var 2) (.cons (.var 3) .nil))) (.e (.bin .Add (.dget (.var 1) (.tup (.cons (.var 2) (.cons (.var 3) .nil))) (.cst (.int 0))) (.var 4)))) (.fgt 3 (.fgt 4 (.fgt 2 .nil))))) (.fgt 3 (.fgt 4 (.fgt 0 (.fgt 2 (.cons (.retv 1) .nil)))))))⟩
def i_gone : FnI := ⟨["moved", "turn", "names", "name"], 3, [],
  (.cons (.ret (.blt .sum (.cons (.lc [("name", 3)] (.any (.var 2)) (.nm 3) .no (.dget (.var 0) (.tup (.cons (.var 1) (.cons (.var 3) .nil))) (.cst (.int 0)))) .nil))) .nil)⟩
def i_there : FnI := ⟨["house", "plan", "moved", "inside", "room", "turn", "left", "came"], 2, [],
  (.cons (.asg 2 (.call "summed" 18 (.cons (.var 1) .nil))) (.frz 2 (.fgt 1 (.cons (.asg 3 (.dnew true)) (.cons (.for_ (.nm 4) (.any (.mth (.var 0) "rooms" 10 11 [15] .nil)) (.cons (.put (.nm 3) (.tup (.cons (.var 4) (.cons (.fld (.var 0) "first" 0 10 11) .nil))) (.e (.mth (.var 0) "found" 10 11 [16] (.cons (.var 4) .nil)))) (.fgt 4 .nil))) (.fgt 4 (.cons (.for_ (.nm 5) (.r2 (.fld (.var 0) "first" 0 10 11) (.fld (.var 0) "last" 1 10 11)) (.cons (.for_ (.nm 4) (.any (.mth (.var 0) "rooms" 10 11 [15] .nil)) (.cons (.asg 6 (.call "gone" 22 (.cons (.var 2) (.cons (.var 5) (.cons (.mth (.var 0) "from_room" 10 11 [23] (.cons (.var 4) .nil)) .nil))))) (.frz 6 (.cons (.asg 7 (.call "gone" 22 (.cons (.var 2) (.cons (.var 5) (.cons (.mth (.var 0) "into" 10 11 [33] (.cons (.var 4) .nil)) .nil))))) (.frz 7 (.cons (.put (.nm 3) (.tup (.cons (.var 4) (.cons (.bin .Add (.var 5) (.cst (.int 1))) .nil))) (.e (.bin .Add (.bin .Sub (.sub (.var 3) (.tup (.cons (.var 4) (.cons (.var 5) .nil)))) (.var 6)) (.var 7)))) (.fgt 7 (.fgt 6 (.fgt 4 .nil))))))))) (.fgt 7 (.fgt 6 (.fgt 4 (.fgt 5 .nil)))))) (.fgt 7 (.fgt 0 (.fgt 6 (.fgt 2 (.fgt 4 (.fgt 5 (.cons (.retv 3) .nil))))))))))))))⟩
def i_let_by : FnI := ⟨["house", "name", "turn"], 3, [],
  (.cons (.if_ (.cmp .NotIn (.var 1) (.mth (.var 0) "doors" 10 11 [9] .nil)) (.cons (.ret (.cst (.int 0))) .nil) .nil) (.cons (.ret (.mth (.var 0) "lets" 10 11 [32] (.cons (.var 1) (.cons (.var 2) .nil)))) .nil))⟩
def i_faults : FnI := ⟨["house", "plan", "moved", "found", "turn", "name", "inside", "room"], 2, [],
  (.cons (.asg 2 (.call "summed" 18 (.cons (.var 1) .nil))) (.frz 2 (.cons (.asg 3 (.lst .nil)) (.cons (.for_ (.tp (.cons (.nm 4) (.cons (.nm 5) .nil))) (.any (.var 2)) (.cons (.if_ (.cmp .Gt (.sub (.var 2) (.tup (.cons (.var 4) (.cons (.var 5) .nil)))) (.call "let_by" 19 (.cons (.var 0) (.cons (.var 5) (.cons (.var 4) .nil))))) (.cons (.app (.nm 3) (.tup (.cons (.var 4) (.cons (.cst (.str "door")) (.cons (.var 5) .nil))))) (.fgt 5 (.fgt 4 .nil))) .nil) (.fgt 5 (.fgt 4 .nil)))) (.fgt 5 (.fgt 4 (.cons (.asg 6 (.call "there" 20 (.cons (.var 0) (.cons (.var 1) .nil)))) (.frz 6 (.fgt 1 (.cons (.for_ (.tp (.cons (.nm 7) (.cons (.nm 4) .nil))) (.any (.mth (.var 0) "pairs" 10 11 [21] .nil)) (.cons (.if_ (.cmp .Gt (.sub (.var 6) (.tup (.cons (.var 7) (.cons (.var 4) .nil)))) (.mth (.var 0) "holds" 10 11 [17] (.cons (.var 7) .nil))) (.cons (.app (.nm 3) (.tup (.cons (.var 4) (.cons (.cst (.str "full")) (.cons (.var 7) .nil))))) .nil) .nil) (.cons (.if_ (.bo true (.cons (.cmp .Lt (.var 4) (.fld (.var 0) "last" 1 10 11)) (.cons (.cmp .Gt (.call "gone" 22 (.cons (.var 2) (.cons (.var 4) (.cons (.mth (.var 0) "from_room" 10 11 [23] (.cons (.var 7) .nil)) .nil)))) (.sub (.var 6) (.tup (.cons (.var 7) (.cons (.var 4) .nil))))) .nil))) (.cons (.app (.nm 3) (.tup (.cons (.var 4) (.cons (.cst (.str "leave")) (.cons (.var 7) .nil))))) (.fgt 7 (.fgt 4 .nil))) .nil) (.fgt 7 (.fgt 4 .nil))))) (.frz 3 (.fgt 0 (.fgt 6 (.fgt 2 (.fgt 7 (.fgt 4 (.cons (.ret (.blt .srt (.cons (.var 3) .nil))) .nil)))))))))))))))))⟩
def i_Twice___init__ : FnI := ⟨["self", "name"], 2, [], (.cons .nev (.cons .nev .nil))⟩
def i_NoRoom___init__ : FnI := ⟨["self", "name"], 2, [], (.cons .nev (.cons .nev .nil))⟩
def i_Unknown___init__ : FnI := ⟨["self", "name"], 2, [], (.cons .nev (.cons .nev .nil))⟩
def i_is_whole : FnI := ⟨["thing"], 1, [],
  (.cons (.ret (.bo true (.cons (.isi .int 7 11 (.var 0)) (.cons (.not (.isi .bool 7 11 (.var 0))) .nil)))) .nil)⟩
def i_is_name : FnI := ⟨["thing", "sign"], 1, [],
  (.cons (.if_ (.bo false (.cons (.not (.isi .str 7 11 (.var 0))) (.cons (.not (.chn .LtE .LtE (.cst (.int 1)) (.blt .len (.cons (.var 0) .nil)) (.glo "MOST_LETTERS"))) .nil))) (.cons (.ret (.cst (.bl false))) .nil) .nil) (.cons (.ret (.blt .all (.cons (.lc [("sign", 1)] (.any (.var 0)) (.nm 1) .no (.cmp .In (.var 1) (.glo "LETTERS"))) .nil))) .nil))⟩
def i_numbered : FnI := ⟨["number", "least"], 2, [],
  (.cons (.if_ (.bo false (.cons (.not (.call "is_whole" 36 (.cons (.var 0) .nil))) (.cons (.cmp .Lt (.var 0) (.var 1)) .nil))) (.cons (.rse "NoDoor" 1) .nil) .nil) (.fgt 1 (.cons (.retv 0) .nil)))⟩
def i_named : FnI := ⟨["thing"], 1, [],
  (.cons (.if_ (.not (.call "is_name" 37 (.cons (.var 0) .nil))) (.cons (.rse "NoDoor" 1) .nil) .nil) (.cons (.retv 0) .nil))⟩
def i_Door___init__ : FnI := ⟨["self", "name", "start", "end", "wide"], 5, [0],
  (.cons (.fset (.nm 0) "name" 0 7 10 (.e (.call "named" 35 (.cons (.var 1) .nil)))) (.fgt 1 (.cons (.fset (.nm 0) "start" 1 7 10 (.e (.call "named" 35 (.cons (.var 2) .nil)))) (.fgt 2 (.cons (.fset (.nm 0) "end" 2 7 10 (.e (.var 3))) (.cons (.if_ (.cmp .IsNot (.var 3) (.cst .non)) (.cons (.ex (.call "named" 35 (.cons (.var 3) .nil))) (.fgt 3 .nil)) .nil) (.fgt 3 (.cons (.fset (.nm 0) "wide" 3 7 10 (.e (.call "numbered" 34 (.cons (.var 4) (.cons (.cst (.int 0)) .nil))))) (.fgt 4 .nil)))))))))⟩
def i_Door_is_exit : FnI := ⟨["self"], 1, [],
  (.cons (.ret (.cmp .Is (.fld (.var 0) "end" 2 7 10) (.cst .non))) .nil)⟩
def i_Door_lets : FnI := ⟨["self", "turn"], 2, [],
  (.cons (.ret (.fld (.var 0) "wide" 3 7 8)) .nil)⟩
def i_Until___init__ : FnI := ⟨["self", "name", "start", "end", "wide", "until"], 6, [0],
  (.cons (.exA (.ioi "Door" 7 (.nm 0) 26 (.cons (.var 1) (.cons (.var 2) (.cons (.var 3) (.cons (.var 4) .nil)))))) (.fgt 3 (.fgt 1 (.fgt 2 (.fgt 4 (.cons (.fset (.nm 0) "stops" 4 8 9 (.e (.call "numbered" 34 (.cons (.var 5) (.cons (.cst (.int 0)) .nil))))) (.fgt 5 .nil)))))))⟩
def i_Until_lets : FnI := ⟨["self", "turn"], 2, [],
  (.cons (.if_ (.cmp .Lt (.var 1) (.fld (.var 0) "stops" 4 8 9)) (.cons (.ret (.fld (.var 0) "wide" 3 8 9)) .nil) .nil) (.fgt 0 (.fgt 1 (.cons (.ret (.cst (.int 0))) .nil))))⟩
def i_Marked___init__ : FnI := ⟨["self", "name", "start", "end", "wide", "bits"], 6, [0],
  (.cons (.exA (.ioi "Door" 7 (.nm 0) 26 (.cons (.var 1) (.cons (.var 2) (.cons (.var 3) (.cons (.var 4) .nil)))))) (.fgt 3 (.fgt 1 (.fgt 2 (.fgt 4 (.cons (.fset (.nm 0) "bits" 4 9 10 (.e (.call "numbered" 34 (.cons (.var 5) (.cons (.cst (.int 0)) .nil))))) (.fgt 5 .nil)))))))⟩
def i_Marked_lets : FnI := ⟨["self", "turn"], 2, [],
  (.cons (.ret (.bin .Mult (.fld (.var 0) "wide" 3 9 10) (.bin .BitAnd (.bin .RShift (.fld (.var 0) "bits" 4 9 10) (.var 1)) (.cst (.int 1))))) .nil)⟩
def i_refuse_twice : FnI := ⟨["names", "seen", "name"], 1, [],
  (.cons (.asg 1 (.dnew false)) (.cons (.for_ (.nm 2) (.any (.var 0)) (.cons (.if_ (.cmp .In (.var 2) (.var 1)) (.cons (.rse1 "Twice" 4 (.var 2)) .nil) .nil) (.cons (.put (.nm 1) (.var 2) (.e (.cst (.bl true)))) (.fgt 2 .nil)))) (.fgt 2 (.fgt 0 (.fgt 1 .nil)))))⟩
def i_refuse_strange : FnI := ⟨["names", "known", "name"], 2, [],
  (.cons (.for_ (.nm 2) (.any (.var 0)) (.cons (.if_ (.cmp .NotIn (.var 2) (.var 1)) (.cons (.rse1 "NoRoom" 5 (.var 2)) .nil) .nil) (.fgt 2 .nil))) (.fgt 1 (.fgt 2 (.fgt 0 .nil))))⟩
def i_House___init__ : FnI := ⟨["self", "rooms", "doors", "people", "last", "first", "name", "number", "door"], 6, [0],
  (.cons (.if_ (.bo false (.cons (.cmp .Lt (.var 5) (.cst (.int 0))) (.cons (.cmp .Lt (.var 4) (.var 5)) .nil))) (.cons (.rse "NoTurn" 3) .nil) .nil) (.cons (.fset (.nm 0) "first" 0 10 11 (.e (.var 5))) (.fgt 5 (.cons (.fset (.nm 0) "last" 1 10 11 (.e (.var 4))) (.fgt 4 (.cons (.ex (.call "refuse_twice" 27 (.cons (.lc [("name", 6), ("number", 7)] (.any (.var 1)) (.tp (.cons (.nm 6) (.cons (.nm 7) .nil))) .no (.var 6)) .nil))) (.cons (.ex (.call "refuse_twice" 27 (.cons (.lc [("door", 8)] (.any (.var 2)) (.nm 8) .no (.fld (.var 8) "name" 0 7 10)) .nil))) (.cons (.fset (.nm 0) "room" 2 10 11 (.e (.dnew false))) (.cons (.for_ (.tp (.cons (.nm 6) (.cons (.nm 7) .nil))) (.any (.var 1)) (.cons (.put (.fld (.nm 0) "room" 2 10 11) (.var 6) (.e (.var 7))) (.fgt 6 (.fgt 7 .nil)))) (.fgt 6 (.fgt 7 (.fgt 1 (.cons (.fset (.nm 0) "ways" 3 10 11 (.e (.dnew false))) (.cons (.for_ (.nm 8) (.any (.var 2)) (.cons (.put (.fld (.nm 0) "ways" 3 10 11) (.fld (.var 8) "name" 0 7 10) (.e (.var 8))) (.cons (.ex (.call "refuse_strange" 28 (.cons (.lst (.cons (.fld (.var 8) "start" 1 7 10) .nil)) (.cons (.fld (.var 0) "room" 2 10 11) .nil)))) (.cons (.if_ (.not (.mth (.var 8) "is_exit" 7 10 [29, 29, 29] .nil)) (.cons (.ex (.call "refuse_strange" 28 (.cons (.lst (.cons (.fld (.var 8) "end" 2 7 10) .nil)) (.cons (.fld (.var 0) "room" 2 10 11) .nil)))) (.fgt 8 .nil)) .nil) (.fgt 8 .nil))))) (.fgt 8 (.fgt 2 (.cons (.ex (.call "refuse_strange" 28 (.cons (.lc [("name", 6), ("number", 7)] (.any (.var 3)) (.tp (.cons (.nm 6) (.cons (.nm 7) .nil))) .no (.var 6)) (.cons (.fld (.var 0) "room" 2 10 11) .nil)))) (.cons (.fset (.nm 0) "inside" 4 10 11 (.e (.dnew false))) (.cons (.for_ (.tp (.cons (.nm 6) (.cons (.nm 7) .nil))) (.any (.var 3)) (.cons (.put (.fld (.nm 0) "inside" 4 10 11) (.var 6) (.e (.bin .Add (.dget (.fld (.var 0) "inside" 4 10 11) (.var 6) (.cst (.int 0))) (.var 7)))) (.fgt 6 (.fgt 7 .nil)))) (.fgt 6 (.fgt 7 (.cons (.ex (.mth (.var 0) "refuse_numbers" 10 11 [30] (.cons (.lc [("name", 6), ("number", 7)] (.any (.var 3)) (.tp (.cons (.nm 6) (.cons (.nm 7) .nil))) .no (.var 7)) .nil))) (.fgt 3 .nil)))))))))))))))))))))))⟩
def i_House_refuse_numbers : FnI := ⟨["self", "numbers", "name", "number"], 2, [],
  (.cons (.if_ (.cmp .Lt (.mind (.bin .Add (.var 1) (.lvals (.fld (.var 0) "room" 2 10 11))) (.cst (.int 0))) (.cst (.int 0))) (.cons (.rse "NoHouse" 2) .nil) .nil) (.fgt 1 (.cons (.for_ (.tp (.cons (.nm 2) (.cons (.nm 3) .nil))) (.its (.fld (.var 0) "inside" 4 10 11)) (.cons (.if_ (.cmp .Gt (.var 3) (.sub (.fld (.var 0) "room" 2 10 11) (.var 2))) (.cons (.rse "NoHouse" 2) .nil) .nil) (.fgt 2 (.fgt 3 .nil)))) (.fgt 2 (.fgt 3 (.fgt 0 .nil))))))⟩
def i_House_sure : FnI := ⟨["self", "room"], 2, [],
  (.cons (.if_ (.cmp .NotIn (.var 1) (.fld (.var 0) "room" 2 10 11)) (.cons (.rse1 "NoRoom" 5 (.var 1)) .nil) .nil) (.fgt 1 (.fgt 0 .nil)))⟩
def i_House_rooms : FnI := ⟨["self"], 1, [],
  (.cons (.ret (.blt .lst (.cons (.fld (.var 0) "room" 2 10 11) .nil))) .nil)⟩
def i_House_doors : FnI := ⟨["self"], 1, [],
  (.cons (.ret (.blt .lst (.cons (.fld (.var 0) "ways" 3 10 11) .nil))) .nil)⟩
def i_House_holds : FnI := ⟨["self", "room"], 2, [],
  (.cons (.ex (.mth (.var 0) "sure" 10 11 [31] (.cons (.var 1) .nil))) (.cons (.ret (.sub (.fld (.var 0) "room" 2 10 11) (.var 1))) .nil))⟩
def i_House_found : FnI := ⟨["self", "room"], 2, [],
  (.cons (.ex (.mth (.var 0) "sure" 10 11 [31] (.cons (.var 1) .nil))) (.cons (.ret (.dget (.fld (.var 0) "inside" 4 10 11) (.var 1) (.cst (.int 0)))) .nil))⟩
def i_House_door : FnI := ⟨["self", "name"], 2, [],
  (.cons (.if_ (.cmp .NotIn (.var 1) (.fld (.var 0) "ways" 3 10 11)) (.cons (.rse1 "Unknown" 6 (.var 1)) .nil) .nil) (.cons (.ret (.sub (.fld (.var 0) "ways" 3 10 11) (.var 1))) .nil))⟩
def i_House_lets : FnI := ⟨["self", "name", "turn", "door"], 3, [],
  (.cons (.asg 3 (.mth (.var 0) "door" 10 11 [13] (.cons (.var 1) .nil))) (.frz 3 (.fgt 1 (.cons (.if_ (.bo false (.cons (.cmp .Lt (.var 2) (.fld (.var 0) "first" 0 10 11)) (.cons (.cmp .GtE (.var 2) (.fld (.var 0) "last" 1 10 11)) .nil))) (.cons (.ret (.cst (.int 0))) .nil) .nil) (.fgt 0 (.cons (.ret (.mth (.var 3) "lets" 7 10 [10, 11, 12] (.cons (.var 2) .nil))) .nil))))))⟩
def i_House_into : FnI := ⟨["self", "room", "name", "door"], 2, [],
  (.cons (.ex (.mth (.var 0) "sure" 10 11 [31] (.cons (.var 1) .nil))) (.cons (.ret (.lc [("name", 2), ("door", 3)] (.its (.fld (.var 0) "ways" 3 10 11)) (.tp (.cons (.nm 2) (.cons (.nm 3) .nil))) (.so (.cmp .Eq (.fld (.var 3) "end" 2 7 10) (.var 1))) (.var 2))) .nil))⟩
def i_House_from_room : FnI := ⟨["self", "room", "name", "door"], 2, [],
  (.cons (.ex (.mth (.var 0) "sure" 10 11 [31] (.cons (.var 1) .nil))) (.cons (.ret (.lc [("name", 2), ("door", 3)] (.its (.fld (.var 0) "ways" 3 10 11)) (.tp (.cons (.nm 2) (.cons (.nm 3) .nil))) (.so (.cmp .Eq (.fld (.var 3) "start" 1 7 10) (.var 1))) (.var 2))) .nil))⟩
def i_House_pairs : FnI := ⟨["self", "found", "turn", "room"], 1, [],
  (.cons (.asg 1 (.lst .nil)) (.cons (.for_ (.nm 2) (.r2 (.fld (.var 0) "first" 0 10 11) (.bin .Add (.fld (.var 0) "last" 1 10 11) (.cst (.int 1)))) (.cons (.ext (.nm 1) (.lc [("room", 3)] (.any (.fld (.var 0) "room" 2 10 11)) (.nm 3) .no (.tup (.cons (.var 3) (.cons (.var 2) .nil))))) (.fgt 2 .nil))) (.fgt 0 (.fgt 2 (.cons (.retv 1) .nil)))))⟩
def i__law_cell_at : FnI := ⟨["_law_script", "_law_k"], 2, [],
  (.cons (.if_ (.cmp .Lt (.var 1) (.blt .len (.cons (.var 0) .nil))) (.cons (.ret (.sub (.var 0) (.var 1))) .nil) .nil) (.fgt 1 (.fgt 0 (.cons (.ret (.cst (.int 0))) .nil))))⟩
def i__law_drawn : FnI := ⟨["_law_cell", "_law_k", "_law_number"], 2, [],
  (.cons (.asg 2 (.bin .Mod (.bin .Mult (.bin .Add (.bin .Add (.var 0) (.bin .Mult (.cst (.int 7883)) (.var 1))) (.cst (.int 1))) (.cst (.int 48271))) (.cst (.int 2147483647)))) (.frz 2 (.fgt 0 (.fgt 1 (.cons (.ret (.bin .Mod (.bin .Mult (.var 2) (.bin .Add (.bin .FloorDiv (.var 2) (.cst (.int 1009))) (.cst (.int 69621)))) (.cst (.int 2147483647)))) .nil)))))⟩
def i__law_door : FnI := ⟨["_law_name", "_law_rooms", "_law_draw", "_law_first", "_law_start", "_law_end", "_law_wide"], 4, [],
  (.cons (.asg 4 (.sub (.sub (.var 1) (.bin .Mod (.var 2) (.blt .len (.cons (.var 1) .nil)))) (.cst (.int 0)))) (.frz 4 (.cons (.asg 5 (.sub (.lst (.cons (.cst .non) (.cons (.sub (.sub (.var 1) (.bin .Mod (.bin .FloorDiv (.var 2) (.cst (.int 8))) (.blt .len (.cons (.var 1) .nil)))) (.cst (.int 0))) (.cons (.sub (.sub (.var 1) (.bin .Mod (.bin .FloorDiv (.var 2) (.cst (.int 64))) (.blt .len (.cons (.var 1) .nil)))) (.cst (.int 0))) .nil)))) (.bin .Mod (.bin .FloorDiv (.var 2) (.cst (.int 5))) (.cst (.int 3))))) (.frz 5 (.fgt 1 (.cons (.asg 6 (.bin .Mod (.bin .FloorDiv (.var 2) (.cst (.int 512))) (.cst (.int 6)))) (.frz 6 (.cons (.if_ (.cmp .Eq (.bin .Mod (.bin .FloorDiv (.var 2) (.cst (.int 3))) (.cst (.int 4))) (.cst (.int 0))) (.cons (.ret (.mk false "Until" 8 24 (.cons (.var 0) (.cons (.var 4) (.cons (.var 5) (.cons (.var 6) (.cons (.bin .Add (.var 3) (.bin .Mod (.bin .FloorDiv (.var 2) (.cst (.int 4096))) (.cst (.int 7)))) .nil))))))) .nil) .nil) (.fgt 3 (.cons (.if_ (.cmp .Eq (.bin .Mod (.bin .FloorDiv (.var 2) (.cst (.int 3))) (.cst (.int 4))) (.cst (.int 1))) (.cons (.ret (.mk false "Marked" 9 25 (.cons (.var 0) (.cons (.var 4) (.cons (.var 5) (.cons (.var 6) (.cons (.bin .FloorDiv (.var 2) (.cst (.int 4096))) .nil))))))) .nil) .nil) (.fgt 2 (.cons (.ret (.mk false "Door" 7 26 (.cons (.var 0) (.cons (.var 4) (.cons (.var 5) (.cons (.var 6) .nil)))))) .nil))))))))))))⟩
def i__law_house : FnI := ⟨["_law_script", "_law_cell", "_law_rooms", "_law_first", "_law_doors", "_law_k", "_law_people"], 1, [],
  (.cons (.asg 1 (.call "_law_cell_at" 5 (.cons (.var 0) (.cons (.cst (.int 0)) .nil)))) (.frz 1 (.cons (.asg 2 (.lc [("_law_k", 5)] (.r1 (.bin .Add (.cst (.int 1)) (.bin .Mod (.var 1) (.cst (.int 5))))) (.nm 5) .no (.tup (.cons (.sub (.cst (.str "mnabc")) (.var 5)) (.cons (.bin .Mod (.bin .FloorDiv (.var 1) (.bin .Add (.cst (.int 7)) (.var 5))) (.cst (.int 9))) .nil))))) (.frz 2 (.cons (.asg 3 (.sub (.lst (.cons (.cst (.int 0)) (.cons (.cst (.int 4)) (.cons (.cst (.int 8)) (.cons (.bin .Mod (.bin .FloorDiv (.var 1) (.cst (.int 60))) (.bin .Pow (.cst (.int 10)) (.cst (.int 11)))) .nil))))) (.bin .Mod (.bin .FloorDiv (.var 1) (.cst (.int 5))) (.cst (.int 4))))) (.frz 3 (.cons (.asg 4 (.lst .nil)) (.cons (.for_ (.nm 5) (.r1 (.bin .Mod (.call "_law_cell_at" 5 (.cons (.var 0) (.cons (.cst (.int 1)) .nil))) (.cst (.int 8)))) (.cons (.app (.nm 4) (.call "_law_door" 6 (.cons (.sub (.cst (.str "stqrnxu")) (.var 5)) (.cons (.var 2) (.cons (.call "_law_drawn" 7 (.cons (.call "_law_cell_at" 5 (.cons (.var 0) (.cons (.cst (.int 1)) .nil))) (.cons (.var 5) .nil))) (.cons (.var 3) .nil)))))) (.fgt 5 .nil))) (.frz 4 (.fgt 5 (.fgt 0 (.cons (.asgLc 6 (.lc [("_law_k", 5)] (.r1 (.blt .len (.cons (.var 2) .nil))) (.nm 5) .no (.tup (.cons (.sub (.sub (.var 2) (.var 5)) (.cst (.int 0))) (.cons (.bin .Mod (.bin .FloorDiv (.var 1) (.bin .Add (.var 5) (.cst (.int 3)))) (.bin .Add (.sub (.sub (.var 2) (.var 5)) (.cst (.int 1))) (.cst (.int 1)))) .nil))))) (.frz 6 (.cons (.ret (.mk false "House" 10 8 (.cons (.var 2) (.cons (.var 4) (.cons (.var 6) (.cons (.bin .Add (.bin .Add (.var 3) (.cst (.int 2))) (.bin .Mod (.bin .FloorDiv (.var 1) (.cst (.int 15))) (.cst (.int 7)))) (.cons (.var 3) .nil))))))) .nil))))))))))))))⟩
def i__law_plan : FnI := ⟨["_law_house_here", "_law_script", "_law_names", "_law_rows", "_law_k", "_law_cell", "_law_draw", "_law_turn", "_law_name"], 2, [],
  (.cons (.asg 2 (.mth (.var 0) "doors" 10 11 [9] .nil)) (.frz 2 (.cons (.asg 3 (.lst .nil)) (.cons (.for_ (.tp (.cons (.nm 4) (.cons (.nm 5) .nil))) (.en (.slc (.var 1) (.so (.cst (.int 2))) (.so (.cst (.int 32))))) (.cons (.asg 6 (.call "_law_drawn" 7 (.cons (.var 5) (.cons (.var 4) .nil)))) (.frz 6 (.fgt 4 (.cons (.asg 7 (.bin .Add (.fld (.var 0) "first" 0 10 11) (.bin .Mod (.var 6) (.bin .Sub (.fld (.var 0) "last" 1 10 11) (.fld (.var 0) "first" 0 10 11))))) (.frz 7 (.cons (.asg 8 (.cst (.str "zz"))) (.frz 8 (.cons (.if_ (.bo true (.cons (.cmp .NotEq (.var 2) (.lst .nil)) (.cons (.cmp .Gt (.bin .Mod (.bin .FloorDiv (.var 6) (.cst (.int 32))) (.cst (.int 16))) (.cst (.int 0))) .nil))) (.cons (.asg 8 (.sub (.var 2) (.bin .Mod (.bin .FloorDiv (.var 6) (.cst (.int 512))) (.blt .len (.cons (.var 2) .nil))))) (.frz 8 .nil)) .nil) (.cons (.if_ (.cmp .Eq (.bin .Mod (.bin .FloorDiv (.var 6) (.cst (.int 32))) (.cst (.int 16))) (.cst (.int 1))) (.cons (.asg 7 (.sub (.lst (.cons (.blt .max (.cons (.cst (.int 0)) (.cons (.bin .Sub (.fld (.var 0) "first" 0 10 11) (.cst (.int 1))) .nil))) (.cons (.fld (.var 0) "last" 1 10 11) .nil))) (.bin .Mod (.bin .FloorDiv (.var 6) (.cst (.int 8192))) (.cst (.int 2))))) (.frz 7 .nil)) .nil) (.cons (.app (.nm 3) (.tup (.cons (.var 7) (.cons (.var 8) (.cons (.sub (.lst (.cons (.cst (.int 0)) (.cons (.cst (.int 1)) (.cons (.cst (.int 1)) (.cons (.cst (.int 2)) (.cons (.cst (.int 1)) (.cons (.cst (.int 3)) (.cons (.cst (.int 2)) (.cons (.bin .Mod (.var 5) (.bin .Pow (.cst (.int 10)) (.cst (.int 11)))) .nil))))))))) (.bin .Mod (.bin .FloorDiv (.var 6) (.cst (.int 16384))) (.cst (.int 8)))) .nil))))) (.fgt 5 (.fgt 6 (.fgt 8 (.fgt 7 .nil))))))))))))))) (.fgt 5 (.fgt 6 (.fgt 0 (.fgt 4 (.fgt 8 (.fgt 2 (.fgt 1 (.fgt 7 (.cons (.retv 3) .nil)))))))))))))⟩
def i__law_gone : FnI := ⟨["_law_house_here", "_law_plan_here", "_law_turn", "_law_names", "_law_at", "_law_name", "_law_number"], 4, [],
  (.cons (.ret (.blt .sum (.cons (.lc [("_law_at", 4), ("_law_name", 5), ("_law_number", 6)] (.any (.var 1)) (.tp (.cons (.nm 4) (.cons (.nm 5) (.cons (.nm 6) .nil)))) (.so (.bo true (.cons (.cmp .Eq (.var 4) (.var 2)) (.cons (.cmp .In (.var 5) (.var 3)) .nil)))) (.var 6)) .nil))) .nil)⟩
def i__law_due : FnI := ⟨["_law_house_here", "_law_plan_here", "_law_found", "_law_turn", "_law_name", "_law_number", "_law_let", "_law_room", "_law_inside", "_law_out", "_law_come", "_law_left"], 2, [],
  (.cons (.asg 2 (.dnew true)) (.cons (.for_ (.tp (.cons (.nm 3) (.cons (.nm 4) (.cons (.nm 5) .nil)))) (.any (.var 1)) (.cons (.asg 6 (.cst (.int 0))) (.frz 6 (.cons (.if_ (.bo true (.cons (.cmp .In (.var 4) (.mth (.var 0) "doors" 10 11 [9] .nil)) (.cons (.chn .LtE .Lt (.fld (.var 0) "first" 0 10 11) (.var 3) (.fld (.var 0) "last" 1 10 11)) .nil))) (.cons (.asg 6 (.mth (.mth (.var 0) "door" 10 11 [13] (.cons (.var 4) .nil)) "lets" 7 10 [10, 11, 12] (.cons (.var 3) .nil))) (.frz 6 .nil)) .nil) (.cons (.if_ (.cmp .Gt (.call "_law_gone" 14 (.cons (.var 0) (.cons (.var 1) (.cons (.var 3) (.cons (.lst (.cons (.var 4) .nil)) .nil))))) (.var 6)) (.cons (.put (.nm 2) (.tup (.cons (.var 3) (.cons (.cst (.str "door")) (.cons (.var 4) .nil)))) (.e (.cst (.bl true)))) (.fgt 4 (.fgt 3 .nil))) .nil) (.fgt 6 (.fgt 4 (.fgt 3 (.fgt 5 .nil))))))))) (.fgt 6 (.fgt 4 (.fgt 5 (.fgt 3 (.cons (.for_ (.nm 7) (.any (.mth (.var 0) "rooms" 10 11 [15] .nil)) (.cons (.asg 8 (.mth (.var 0) "found" 10 11 [16] (.cons (.var 7) .nil))) (.frz 8 (.cons (.asgLc 9 (.lc [("_law_name", 4)] (.any (.mth (.var 0) "doors" 10 11 [9] .nil)) (.nm 4) (.so (.cmp .Eq (.fld (.mth (.var 0) "door" 10 11 [13] (.cons (.var 4) .nil)) "start" 1 7 10) (.var 7))) (.var 4))) (.frz 9 (.cons (.asgLc 10 (.lc [("_law_name", 4)] (.any (.mth (.var 0) "doors" 10 11 [9] .nil)) (.nm 4) (.so (.cmp .Eq (.fld (.mth (.var 0) "door" 10 11 [13] (.cons (.var 4) .nil)) "end" 2 7 10) (.var 7))) (.var 4))) (.frz 10 (.cons (.for_ (.nm 3) (.r2 (.fld (.var 0) "first" 0 10 11) (.bin .Add (.fld (.var 0) "last" 1 10 11) (.cst (.int 1)))) (.cons (.if_ (.cmp .Gt (.var 8) (.mth (.var 0) "holds" 10 11 [17] (.cons (.var 7) .nil))) (.cons (.put (.nm 2) (.tup (.cons (.var 3) (.cons (.cst (.str "full")) (.cons (.var 7) .nil)))) (.e (.cst (.bl true)))) .nil) .nil) (.cons (.asg 11 (.call "_law_gone" 14 (.cons (.var 0) (.cons (.var 1) (.cons (.var 3) (.cons (.var 9) .nil)))))) (.frz 11 (.cons (.if_ (.bo true (.cons (.cmp .Lt (.var 3) (.fld (.var 0) "last" 1 10 11)) (.cons (.cmp .Gt (.var 11) (.var 8)) .nil))) (.cons (.put (.nm 2) (.tup (.cons (.var 3) (.cons (.cst (.str "leave")) (.cons (.var 7) .nil)))) (.e (.cst (.bl true)))) .nil) .nil) (.cons (.asg 8 (.bin .Add (.bin .Sub (.var 8) (.var 11)) (.call "_law_gone" 14 (.cons (.var 0) (.cons (.var 1) (.cons (.var 3) (.cons (.var 10) .nil))))))) (.frz 8 (.fgt 11 (.fgt 3 .nil))))))))) (.fgt 10 (.fgt 8 (.fgt 11 (.fgt 9 (.fgt 7 (.fgt 3 .nil)))))))))))))) (.frz 2 (.fgt 10 (.fgt 0 (.fgt 8 (.fgt 11 (.fgt 9 (.fgt 1 (.fgt 7 (.fgt 3 (.cons (.ret (.skeys (.var 2))) .nil)))))))))))))))))⟩
def i_law : FnI := ⟨["_law_script", "_law_house_here", "_law_plan_here", "_law_handed", "_law_due_here", "_law_found"], 1, [],
  (.cons (.asg 1 (.call "_law_house" 1 (.cons (.var 0) .nil))) (.frz 1 (.cons (.asg 2 (.call "_law_plan" 2 (.cons (.var 1) (.cons (.var 0) .nil)))) (.frz 2 (.fgt 0 (.cons (.asg 3 (.blt .lst (.cons (.var 2) .nil))) (.frz 3 (.cons (.asg 4 (.call "_law_due" 3 (.cons (.var 1) (.cons (.var 2) .nil)))) (.frz 4 (.cons (.asg 5 (.call "faults" 4 (.cons (.var 1) (.cons (.var 3) .nil)))) (.cons (.if_ (.bo false (.cons (.not (.isi .list 7 11 (.var 5))) (.cons (.cmp .NotEq (.var 5) (.var 4)) (.cons (.cmp .NotEq (.var 3) (.var 2)) .nil)))) (.cons (.ret (.cst (.bl false))) .nil) .nil) (.fgt 2 (.cons (.app (.nm 5) (.tup (.cons (.cst (.int 0)) (.cons (.cst (.str "full")) (.cons (.cst (.str "m")) .nil))))) (.fgt 5 (.cons (.ret (.bo true (.cons (.cmp .Eq (.call "faults" 4 (.cons (.var 1) (.cons (.var 3) .nil))) (.var 4)) (.cons (.cmp .Eq (.call "faults" 4 (.cons (.var 1) (.cons (.lst .nil) .nil))) (.lst .nil)) .nil)))) .nil)))))))))))))))⟩
def fns : List DefI := [
  ⟨40, ("law", none), i_law, []⟩,
  ⟨36, ("_law_house", none), i__law_house, []⟩,
  ⟨37, ("_law_plan", none), i__law_plan, []⟩,
  ⟨39, ("_law_due", none), i__law_due, []⟩,
  ⟨4, ("faults", none), i_faults, []⟩,
  ⟨33, ("_law_cell_at", none), i__law_cell_at, []⟩,
  ⟨35, ("_law_door", none), i__law_door, []⟩,
  ⟨34, ("_law_drawn", none), i__law_drawn, []⟩,
  ⟨21, ("House", some "__init__"), i_House___init__, []⟩,
  ⟨25, ("House", some "doors"), i_House_doors, []⟩,
  ⟨14, ("Door", some "lets"), i_Door_lets, []⟩,
  ⟨16, ("Until", some "lets"), i_Until_lets, []⟩,
  ⟨18, ("Marked", some "lets"), i_Marked_lets, []⟩,
  ⟨28, ("House", some "door"), i_House_door, []⟩,
  ⟨38, ("_law_gone", none), i__law_gone, []⟩,
  ⟨24, ("House", some "rooms"), i_House_rooms, []⟩,
  ⟨27, ("House", some "found"), i_House_found, []⟩,
  ⟨26, ("House", some "holds"), i_House_holds, []⟩,
  ⟨0, ("summed", none), i_summed, []⟩,
  ⟨3, ("let_by", none), i_let_by, []⟩,
  ⟨2, ("there", none), i_there, []⟩,
  ⟨32, ("House", some "pairs"), i_House_pairs, []⟩,
  ⟨1, ("gone", none), i_gone, []⟩,
  ⟨31, ("House", some "from_room"), i_House_from_room, []⟩,
  ⟨15, ("Until", some "__init__"), i_Until___init__, []⟩,
  ⟨17, ("Marked", some "__init__"), i_Marked___init__, []⟩,
  ⟨12, ("Door", some "__init__"), i_Door___init__, []⟩,
  ⟨19, ("refuse_twice", none), i_refuse_twice, []⟩,
  ⟨20, ("refuse_strange", none), i_refuse_strange, []⟩,
  ⟨13, ("Door", some "is_exit"), i_Door_is_exit, []⟩,
  ⟨22, ("House", some "refuse_numbers"), i_House_refuse_numbers, []⟩,
  ⟨23, ("House", some "sure"), i_House_sure, []⟩,
  ⟨29, ("House", some "lets"), i_House_lets, []⟩,
  ⟨30, ("House", some "into"), i_House_into, []⟩,
  ⟨10, ("numbered", none), i_numbered, []⟩,
  ⟨11, ("named", none), i_named, []⟩,
  ⟨8, ("is_whole", none), i_is_whole, []⟩,
  ⟨9, ("is_name", none), i_is_name, []⟩,
  ⟨5, ("Twice", some "__init__"), i_Twice___init__, []⟩,
  ⟨6, ("NoRoom", some "__init__"), i_NoRoom___init__, []⟩,
  ⟨7, ("Unknown", some "__init__"), i_Unknown___init__, []⟩]
def cls : List ClsI := [
  ⟨"OutError", [], none, [], [0], true⟩,
  ⟨"NoDoor", [], none, [], [1, 0], true⟩,
  ⟨"NoHouse", [], none, [], [2, 0], true⟩,
  ⟨"NoTurn", [], none, [], [3, 0], true⟩,
  ⟨"Twice", ["name"], some 38, [], [4, 0], true⟩,
  ⟨"NoRoom", ["name"], some 39, [], [5, 0], true⟩,
  ⟨"Unknown", ["name"], some 40, [], [6, 0], true⟩,
  ⟨"Door", ["name", "start", "end", "wide"], some 26, [("is_exit", 29), ("lets", 10)], [7], false⟩,
  ⟨"Until", ["name", "start", "end", "wide", "stops"], some 24, [("is_exit", 29), ("lets", 11)], [8, 7], false⟩,
  ⟨"Marked", ["name", "start", "end", "wide", "bits"], some 25, [("is_exit", 29), ("lets", 12)], [9, 7], false⟩,
  ⟨"House", ["first", "last", "room", "ways", "inside"], some 8, [("refuse_numbers", 30), ("sure", 31), ("rooms", 15), ("doors", 9), ("holds", 17), ("found", 16), ("door", 13), ("lets", 32), ("into", 33), ("from_room", 23), ("pairs", 21)], [10], false⟩]
def pd : Pd := ⟨fns, cls, [("LETTERS", .str "abcdefghijklmnopqrstuvwxyz"), ("MOST_LETTERS", .int 8)], ["all", "bool", "enumerate", "int", "isinstance", "len", "list", "max", "min", "range", "sorted", "str", "sum"]⟩
theorem l_LETTERS (Fs : Nat → Fn) (w : Nat) : (pd.gm Fs w).glo "LETTERS" = some (.str "abcdefghijklmnopqrstuvwxyz") := rfl
theorem l_MOST_LETTERS (Fs : Nat → Fn) (w : Nat) : (pd.gm Fs w).glo "MOST_LETTERS" = some (.int 8) := rfl
theorem g_isi_7_7 (Fs : Nat → Fn) (w : Nat) : (pd.gm Fs w).isi (.own 7) 7 = true := id rfl
theorem g_isi_7_8 (Fs : Nat → Fn) (w : Nat) : (pd.gm Fs w).isi (.own 7) 8 = true := id rfl
theorem g_isi_7_9 (Fs : Nat → Fn) (w : Nat) : (pd.gm Fs w).isi (.own 7) 9 = true := id rfl
theorem g_isi_7_10 (Fs : Nat → Fn) (w : Nat) : (pd.gm Fs w).isi (.own 7) 10 = false := id rfl
theorem g_isi_8_7 (Fs : Nat → Fn) (w : Nat) : (pd.gm Fs w).isi (.own 8) 7 = false := id rfl
theorem g_isi_8_8 (Fs : Nat → Fn) (w : Nat) : (pd.gm Fs w).isi (.own 8) 8 = true := id rfl
theorem g_isi_8_9 (Fs : Nat → Fn) (w : Nat) : (pd.gm Fs w).isi (.own 8) 9 = false := id rfl
theorem g_isi_8_10 (Fs : Nat → Fn) (w : Nat) : (pd.gm Fs w).isi (.own 8) 10 = false := id rfl
theorem g_isi_9_7 (Fs : Nat → Fn) (w : Nat) : (pd.gm Fs w).isi (.own 9) 7 = false := id rfl
theorem g_isi_9_8 (Fs : Nat → Fn) (w : Nat) : (pd.gm Fs w).isi (.own 9) 8 = false := id rfl
theorem g_isi_9_9 (Fs : Nat → Fn) (w : Nat) : (pd.gm Fs w).isi (.own 9) 9 = true := id rfl
theorem g_isi_9_10 (Fs : Nat → Fn) (w : Nat) : (pd.gm Fs w).isi (.own 9) 10 = false := id rfl
theorem g_isi_10_7 (Fs : Nat → Fn) (w : Nat) : (pd.gm Fs w).isi (.own 10) 7 = false := id rfl
theorem g_isi_10_8 (Fs : Nat → Fn) (w : Nat) : (pd.gm Fs w).isi (.own 10) 8 = false := id rfl
theorem g_isi_10_9 (Fs : Nat → Fn) (w : Nat) : (pd.gm Fs w).isi (.own 10) 9 = false := id rfl
theorem g_isi_10_10 (Fs : Nat → Fn) (w : Nat) : (pd.gm Fs w).isi (.own 10) 10 = true := id rfl
theorem g_xs_0 (Fs : Nat → Fn) (w : Nat) : (pd.gm Fs w).xs 0 none = some true := rfl
theorem g_xs_0_0 (Fs : Nat → Fn) (w : Nat) : (pd.gm Fs w).xs 0 (some 0) = some true := rfl
theorem g_xs_0_1 (Fs : Nat → Fn) (w : Nat) : (pd.gm Fs w).xs 0 (some 1) = some false := rfl
theorem g_xs_0_2 (Fs : Nat → Fn) (w : Nat) : (pd.gm Fs w).xs 0 (some 2) = some false := rfl
theorem g_xs_0_3 (Fs : Nat → Fn) (w : Nat) : (pd.gm Fs w).xs 0 (some 3) = some false := rfl
theorem g_xs_0_4 (Fs : Nat → Fn) (w : Nat) : (pd.gm Fs w).xs 0 (some 4) = some false := rfl
theorem g_xs_0_5 (Fs : Nat → Fn) (w : Nat) : (pd.gm Fs w).xs 0 (some 5) = some false := rfl
theorem g_xs_0_6 (Fs : Nat → Fn) (w : Nat) : (pd.gm Fs w).xs 0 (some 6) = some false := rfl
theorem g_xs_1 (Fs : Nat → Fn) (w : Nat) : (pd.gm Fs w).xs 1 none = some true := rfl
theorem g_xs_1_0 (Fs : Nat → Fn) (w : Nat) : (pd.gm Fs w).xs 1 (some 0) = some true := rfl
theorem g_xs_1_1 (Fs : Nat → Fn) (w : Nat) : (pd.gm Fs w).xs 1 (some 1) = some true := rfl
theorem g_xs_1_2 (Fs : Nat → Fn) (w : Nat) : (pd.gm Fs w).xs 1 (some 2) = some false := rfl
theorem g_xs_1_3 (Fs : Nat → Fn) (w : Nat) : (pd.gm Fs w).xs 1 (some 3) = some false := rfl
theorem g_xs_1_4 (Fs : Nat → Fn) (w : Nat) : (pd.gm Fs w).xs 1 (some 4) = some false := rfl
theorem g_xs_1_5 (Fs : Nat → Fn) (w : Nat) : (pd.gm Fs w).xs 1 (some 5) = some false := rfl
theorem g_xs_1_6 (Fs : Nat → Fn) (w : Nat) : (pd.gm Fs w).xs 1 (some 6) = some false := rfl
theorem g_xs_2 (Fs : Nat → Fn) (w : Nat) : (pd.gm Fs w).xs 2 none = some true := rfl
theorem g_xs_2_0 (Fs : Nat → Fn) (w : Nat) : (pd.gm Fs w).xs 2 (some 0) = some true := rfl
theorem g_xs_2_1 (Fs : Nat → Fn) (w : Nat) : (pd.gm Fs w).xs 2 (some 1) = some false := rfl
theorem g_xs_2_2 (Fs : Nat → Fn) (w : Nat) : (pd.gm Fs w).xs 2 (some 2) = some true := rfl
theorem g_xs_2_3 (Fs : Nat → Fn) (w : Nat) : (pd.gm Fs w).xs 2 (some 3) = some false := rfl
theorem g_xs_2_4 (Fs : Nat → Fn) (w : Nat) : (pd.gm Fs w).xs 2 (some 4) = some false := rfl
theorem g_xs_2_5 (Fs : Nat → Fn) (w : Nat) : (pd.gm Fs w).xs 2 (some 5) = some false := rfl
theorem g_xs_2_6 (Fs : Nat → Fn) (w : Nat) : (pd.gm Fs w).xs 2 (some 6) = some false := rfl
theorem g_xs_3 (Fs : Nat → Fn) (w : Nat) : (pd.gm Fs w).xs 3 none = some true := rfl
theorem g_xs_3_0 (Fs : Nat → Fn) (w : Nat) : (pd.gm Fs w).xs 3 (some 0) = some true := rfl
theorem g_xs_3_1 (Fs : Nat → Fn) (w : Nat) : (pd.gm Fs w).xs 3 (some 1) = some false := rfl
theorem g_xs_3_2 (Fs : Nat → Fn) (w : Nat) : (pd.gm Fs w).xs 3 (some 2) = some false := rfl
theorem g_xs_3_3 (Fs : Nat → Fn) (w : Nat) : (pd.gm Fs w).xs 3 (some 3) = some true := rfl
theorem g_xs_3_4 (Fs : Nat → Fn) (w : Nat) : (pd.gm Fs w).xs 3 (some 4) = some false := rfl
theorem g_xs_3_5 (Fs : Nat → Fn) (w : Nat) : (pd.gm Fs w).xs 3 (some 5) = some false := rfl
theorem g_xs_3_6 (Fs : Nat → Fn) (w : Nat) : (pd.gm Fs w).xs 3 (some 6) = some false := rfl
theorem g_xs_4 (Fs : Nat → Fn) (w : Nat) : (pd.gm Fs w).xs 4 none = some true := rfl
theorem g_xs_4_0 (Fs : Nat → Fn) (w : Nat) : (pd.gm Fs w).xs 4 (some 0) = some true := rfl
theorem g_xs_4_1 (Fs : Nat → Fn) (w : Nat) : (pd.gm Fs w).xs 4 (some 1) = some false := rfl
theorem g_xs_4_2 (Fs : Nat → Fn) (w : Nat) : (pd.gm Fs w).xs 4 (some 2) = some false := rfl
theorem g_xs_4_3 (Fs : Nat → Fn) (w : Nat) : (pd.gm Fs w).xs 4 (some 3) = some false := rfl
theorem g_xs_4_4 (Fs : Nat → Fn) (w : Nat) : (pd.gm Fs w).xs 4 (some 4) = some true := rfl
theorem g_xs_4_5 (Fs : Nat → Fn) (w : Nat) : (pd.gm Fs w).xs 4 (some 5) = some false := rfl
theorem g_xs_4_6 (Fs : Nat → Fn) (w : Nat) : (pd.gm Fs w).xs 4 (some 6) = some false := rfl
theorem g_xs_5 (Fs : Nat → Fn) (w : Nat) : (pd.gm Fs w).xs 5 none = some true := rfl
theorem g_xs_5_0 (Fs : Nat → Fn) (w : Nat) : (pd.gm Fs w).xs 5 (some 0) = some true := rfl
theorem g_xs_5_1 (Fs : Nat → Fn) (w : Nat) : (pd.gm Fs w).xs 5 (some 1) = some false := rfl
theorem g_xs_5_2 (Fs : Nat → Fn) (w : Nat) : (pd.gm Fs w).xs 5 (some 2) = some false := rfl
theorem g_xs_5_3 (Fs : Nat → Fn) (w : Nat) : (pd.gm Fs w).xs 5 (some 3) = some false := rfl
theorem g_xs_5_4 (Fs : Nat → Fn) (w : Nat) : (pd.gm Fs w).xs 5 (some 4) = some false := rfl
theorem g_xs_5_5 (Fs : Nat → Fn) (w : Nat) : (pd.gm Fs w).xs 5 (some 5) = some true := rfl
theorem g_xs_5_6 (Fs : Nat → Fn) (w : Nat) : (pd.gm Fs w).xs 5 (some 6) = some false := rfl
theorem g_xs_6 (Fs : Nat → Fn) (w : Nat) : (pd.gm Fs w).xs 6 none = some true := rfl
theorem g_xs_6_0 (Fs : Nat → Fn) (w : Nat) : (pd.gm Fs w).xs 6 (some 0) = some true := rfl
theorem g_xs_6_1 (Fs : Nat → Fn) (w : Nat) : (pd.gm Fs w).xs 6 (some 1) = some false := rfl
theorem g_xs_6_2 (Fs : Nat → Fn) (w : Nat) : (pd.gm Fs w).xs 6 (some 2) = some false := rfl
theorem g_xs_6_3 (Fs : Nat → Fn) (w : Nat) : (pd.gm Fs w).xs 6 (some 3) = some false := rfl
theorem g_xs_6_4 (Fs : Nat → Fn) (w : Nat) : (pd.gm Fs w).xs 6 (some 4) = some false := rfl
theorem g_xs_6_5 (Fs : Nat → Fn) (w : Nat) : (pd.gm Fs w).xs 6 (some 5) = some false := rfl
theorem g_xs_6_6 (Fs : Nat → Fn) (w : Nat) : (pd.gm Fs w).xs 6 (some 6) = some true := rfl
theorem F_law (w d : Nat) : pd.F w (d + 1) 0 = i_law.run (pd.gm (pd.F w d) w) := rfl
theorem g_law (Fs : Nat → Fn) (w : Nat) : (pd.gm Fs w).fn 0 = ⟨Fs 0, 1, []⟩ := rfl
theorem F__law_house (w d : Nat) : pd.F w (d + 1) 1 = i__law_house.run (pd.gm (pd.F w d) w) := rfl
theorem g__law_house (Fs : Nat → Fn) (w : Nat) : (pd.gm Fs w).fn 1 = ⟨Fs 1, 1, []⟩ := rfl
theorem F__law_plan (w d : Nat) : pd.F w (d + 1) 2 = i__law_plan.run (pd.gm (pd.F w d) w) := rfl
theorem g__law_plan (Fs : Nat → Fn) (w : Nat) : (pd.gm Fs w).fn 2 = ⟨Fs 2, 2, []⟩ := rfl
theorem F__law_due (w d : Nat) : pd.F w (d + 1) 3 = i__law_due.run (pd.gm (pd.F w d) w) := rfl
theorem g__law_due (Fs : Nat → Fn) (w : Nat) : (pd.gm Fs w).fn 3 = ⟨Fs 3, 2, []⟩ := rfl
theorem F_faults (w d : Nat) : pd.F w (d + 1) 4 = i_faults.run (pd.gm (pd.F w d) w) := rfl
theorem g_faults (Fs : Nat → Fn) (w : Nat) : (pd.gm Fs w).fn 4 = ⟨Fs 4, 2, []⟩ := rfl
theorem F__law_cell_at (w d : Nat) : pd.F w (d + 1) 5 = i__law_cell_at.run (pd.gm (pd.F w d) w) := rfl
theorem g__law_cell_at (Fs : Nat → Fn) (w : Nat) : (pd.gm Fs w).fn 5 = ⟨Fs 5, 2, []⟩ := rfl
theorem F__law_door (w d : Nat) : pd.F w (d + 1) 6 = i__law_door.run (pd.gm (pd.F w d) w) := rfl
theorem g__law_door (Fs : Nat → Fn) (w : Nat) : (pd.gm Fs w).fn 6 = ⟨Fs 6, 4, []⟩ := rfl
theorem F__law_drawn (w d : Nat) : pd.F w (d + 1) 7 = i__law_drawn.run (pd.gm (pd.F w d) w) := rfl
theorem g__law_drawn (Fs : Nat → Fn) (w : Nat) : (pd.gm Fs w).fn 7 = ⟨Fs 7, 2, []⟩ := rfl
theorem F_House___init__ (w d : Nat) : pd.F w (d + 1) 8 = i_House___init__.run (pd.gm (pd.F w d) w) := rfl
theorem g_House___init__ (Fs : Nat → Fn) (w : Nat) : (pd.gm Fs w).fn 8 = ⟨Fs 8, 6, []⟩ := rfl
theorem F_House_doors (w d : Nat) : pd.F w (d + 1) 9 = i_House_doors.run (pd.gm (pd.F w d) w) := rfl
theorem g_House_doors (Fs : Nat → Fn) (w : Nat) : (pd.gm Fs w).fn 9 = ⟨Fs 9, 1, []⟩ := rfl
theorem F_Door_lets (w d : Nat) : pd.F w (d + 1) 10 = i_Door_lets.run (pd.gm (pd.F w d) w) := rfl
theorem g_Door_lets (Fs : Nat → Fn) (w : Nat) : (pd.gm Fs w).fn 10 = ⟨Fs 10, 2, []⟩ := rfl
theorem F_Until_lets (w d : Nat) : pd.F w (d + 1) 11 = i_Until_lets.run (pd.gm (pd.F w d) w) := rfl
theorem g_Until_lets (Fs : Nat → Fn) (w : Nat) : (pd.gm Fs w).fn 11 = ⟨Fs 11, 2, []⟩ := rfl
theorem F_Marked_lets (w d : Nat) : pd.F w (d + 1) 12 = i_Marked_lets.run (pd.gm (pd.F w d) w) := rfl
theorem g_Marked_lets (Fs : Nat → Fn) (w : Nat) : (pd.gm Fs w).fn 12 = ⟨Fs 12, 2, []⟩ := rfl
theorem F_House_door (w d : Nat) : pd.F w (d + 1) 13 = i_House_door.run (pd.gm (pd.F w d) w) := rfl
theorem g_House_door (Fs : Nat → Fn) (w : Nat) : (pd.gm Fs w).fn 13 = ⟨Fs 13, 2, []⟩ := rfl
theorem F__law_gone (w d : Nat) : pd.F w (d + 1) 14 = i__law_gone.run (pd.gm (pd.F w d) w) := rfl
theorem g__law_gone (Fs : Nat → Fn) (w : Nat) : (pd.gm Fs w).fn 14 = ⟨Fs 14, 4, []⟩ := rfl
theorem F_House_rooms (w d : Nat) : pd.F w (d + 1) 15 = i_House_rooms.run (pd.gm (pd.F w d) w) := rfl
theorem g_House_rooms (Fs : Nat → Fn) (w : Nat) : (pd.gm Fs w).fn 15 = ⟨Fs 15, 1, []⟩ := rfl
theorem F_House_found (w d : Nat) : pd.F w (d + 1) 16 = i_House_found.run (pd.gm (pd.F w d) w) := rfl
theorem g_House_found (Fs : Nat → Fn) (w : Nat) : (pd.gm Fs w).fn 16 = ⟨Fs 16, 2, []⟩ := rfl
theorem F_House_holds (w d : Nat) : pd.F w (d + 1) 17 = i_House_holds.run (pd.gm (pd.F w d) w) := rfl
theorem g_House_holds (Fs : Nat → Fn) (w : Nat) : (pd.gm Fs w).fn 17 = ⟨Fs 17, 2, []⟩ := rfl
theorem F_summed (w d : Nat) : pd.F w (d + 1) 18 = i_summed.run (pd.gm (pd.F w d) w) := rfl
theorem g_summed (Fs : Nat → Fn) (w : Nat) : (pd.gm Fs w).fn 18 = ⟨Fs 18, 1, []⟩ := rfl
theorem F_let_by (w d : Nat) : pd.F w (d + 1) 19 = i_let_by.run (pd.gm (pd.F w d) w) := rfl
theorem g_let_by (Fs : Nat → Fn) (w : Nat) : (pd.gm Fs w).fn 19 = ⟨Fs 19, 3, []⟩ := rfl
theorem F_there (w d : Nat) : pd.F w (d + 1) 20 = i_there.run (pd.gm (pd.F w d) w) := rfl
theorem g_there (Fs : Nat → Fn) (w : Nat) : (pd.gm Fs w).fn 20 = ⟨Fs 20, 2, []⟩ := rfl
theorem F_House_pairs (w d : Nat) : pd.F w (d + 1) 21 = i_House_pairs.run (pd.gm (pd.F w d) w) := rfl
theorem g_House_pairs (Fs : Nat → Fn) (w : Nat) : (pd.gm Fs w).fn 21 = ⟨Fs 21, 1, []⟩ := rfl
theorem F_gone (w d : Nat) : pd.F w (d + 1) 22 = i_gone.run (pd.gm (pd.F w d) w) := rfl
theorem g_gone (Fs : Nat → Fn) (w : Nat) : (pd.gm Fs w).fn 22 = ⟨Fs 22, 3, []⟩ := rfl
theorem F_House_from_room (w d : Nat) : pd.F w (d + 1) 23 = i_House_from_room.run (pd.gm (pd.F w d) w) := rfl
theorem g_House_from_room (Fs : Nat → Fn) (w : Nat) : (pd.gm Fs w).fn 23 = ⟨Fs 23, 2, []⟩ := rfl
theorem F_Until___init__ (w d : Nat) : pd.F w (d + 1) 24 = i_Until___init__.run (pd.gm (pd.F w d) w) := rfl
theorem g_Until___init__ (Fs : Nat → Fn) (w : Nat) : (pd.gm Fs w).fn 24 = ⟨Fs 24, 6, []⟩ := rfl
theorem F_Marked___init__ (w d : Nat) : pd.F w (d + 1) 25 = i_Marked___init__.run (pd.gm (pd.F w d) w) := rfl
theorem g_Marked___init__ (Fs : Nat → Fn) (w : Nat) : (pd.gm Fs w).fn 25 = ⟨Fs 25, 6, []⟩ := rfl
theorem F_Door___init__ (w d : Nat) : pd.F w (d + 1) 26 = i_Door___init__.run (pd.gm (pd.F w d) w) := rfl
theorem g_Door___init__ (Fs : Nat → Fn) (w : Nat) : (pd.gm Fs w).fn 26 = ⟨Fs 26, 5, []⟩ := rfl
theorem F_refuse_twice (w d : Nat) : pd.F w (d + 1) 27 = i_refuse_twice.run (pd.gm (pd.F w d) w) := rfl
theorem g_refuse_twice (Fs : Nat → Fn) (w : Nat) : (pd.gm Fs w).fn 27 = ⟨Fs 27, 1, []⟩ := rfl
theorem F_refuse_strange (w d : Nat) : pd.F w (d + 1) 28 = i_refuse_strange.run (pd.gm (pd.F w d) w) := rfl
theorem g_refuse_strange (Fs : Nat → Fn) (w : Nat) : (pd.gm Fs w).fn 28 = ⟨Fs 28, 2, []⟩ := rfl
theorem F_Door_is_exit (w d : Nat) : pd.F w (d + 1) 29 = i_Door_is_exit.run (pd.gm (pd.F w d) w) := rfl
theorem g_Door_is_exit (Fs : Nat → Fn) (w : Nat) : (pd.gm Fs w).fn 29 = ⟨Fs 29, 1, []⟩ := rfl
theorem F_House_refuse_numbers (w d : Nat) : pd.F w (d + 1) 30 = i_House_refuse_numbers.run (pd.gm (pd.F w d) w) := rfl
theorem g_House_refuse_numbers (Fs : Nat → Fn) (w : Nat) : (pd.gm Fs w).fn 30 = ⟨Fs 30, 2, []⟩ := rfl
theorem F_House_sure (w d : Nat) : pd.F w (d + 1) 31 = i_House_sure.run (pd.gm (pd.F w d) w) := rfl
theorem g_House_sure (Fs : Nat → Fn) (w : Nat) : (pd.gm Fs w).fn 31 = ⟨Fs 31, 2, []⟩ := rfl
theorem F_House_lets (w d : Nat) : pd.F w (d + 1) 32 = i_House_lets.run (pd.gm (pd.F w d) w) := rfl
theorem g_House_lets (Fs : Nat → Fn) (w : Nat) : (pd.gm Fs w).fn 32 = ⟨Fs 32, 3, []⟩ := rfl
theorem F_House_into (w d : Nat) : pd.F w (d + 1) 33 = i_House_into.run (pd.gm (pd.F w d) w) := rfl
theorem g_House_into (Fs : Nat → Fn) (w : Nat) : (pd.gm Fs w).fn 33 = ⟨Fs 33, 2, []⟩ := rfl
theorem F_numbered (w d : Nat) : pd.F w (d + 1) 34 = i_numbered.run (pd.gm (pd.F w d) w) := rfl
theorem g_numbered (Fs : Nat → Fn) (w : Nat) : (pd.gm Fs w).fn 34 = ⟨Fs 34, 2, []⟩ := rfl
theorem F_named (w d : Nat) : pd.F w (d + 1) 35 = i_named.run (pd.gm (pd.F w d) w) := rfl
theorem g_named (Fs : Nat → Fn) (w : Nat) : (pd.gm Fs w).fn 35 = ⟨Fs 35, 1, []⟩ := rfl
theorem F_is_whole (w d : Nat) : pd.F w (d + 1) 36 = i_is_whole.run (pd.gm (pd.F w d) w) := rfl
theorem g_is_whole (Fs : Nat → Fn) (w : Nat) : (pd.gm Fs w).fn 36 = ⟨Fs 36, 1, []⟩ := rfl
theorem F_is_name (w d : Nat) : pd.F w (d + 1) 37 = i_is_name.run (pd.gm (pd.F w d) w) := rfl
theorem g_is_name (Fs : Nat → Fn) (w : Nat) : (pd.gm Fs w).fn 37 = ⟨Fs 37, 1, []⟩ := rfl
theorem F_Twice___init__ (w d : Nat) : pd.F w (d + 1) 38 = i_Twice___init__.run (pd.gm (pd.F w d) w) := rfl
theorem g_Twice___init__ (Fs : Nat → Fn) (w : Nat) : (pd.gm Fs w).fn 38 = ⟨Fs 38, 2, []⟩ := rfl
theorem F_NoRoom___init__ (w d : Nat) : pd.F w (d + 1) 39 = i_NoRoom___init__.run (pd.gm (pd.F w d) w) := rfl
theorem g_NoRoom___init__ (Fs : Nat → Fn) (w : Nat) : (pd.gm Fs w).fn 39 = ⟨Fs 39, 2, []⟩ := rfl
theorem F_Unknown___init__ (w d : Nat) : pd.F w (d + 1) 40 = i_Unknown___init__.run (pd.gm (pd.F w d) w) := rfl
theorem g_Unknown___init__ (Fs : Nat → Fn) (w : Nat) : (pd.gm Fs w).fn 40 = ⟨Fs 40, 2, []⟩ := rfl
end k22

end

section
set_option Elab.async false
set_option linter.all false
set_option maxRecDepth 100000
set_option maxHeartbeats 1000000
namespace k22
open PySem PySem.Spec Q
local macro_rules | `(tactic| simp only [qs0]) => `(tactic| simp only [ev_var, ev_cst, ev_glo, ev_bin, ev_neg, ev_cmp, ev_chn, ev_bo, ev_not, ev_ife, ev_tup, ev_lst, ev_dnew, ev_sub, ev_slc, ev_slc3, ev_fld, ev_call, ev_mth, ev_mk, ev_blt, ev_bm, ev_isi, ev_dget, ev_lc, evs_nil, evs_cons, evo_no, evo_so, evc_no, evc_so, evI_any, evI_r1, evI_r2, evI_vs, evI_its, evP_nm, evP_fld, evP_sub, evA_e, evA_mv, evA_iom, evA_ioi, evA_iof, evS_asg, evS_asgLc, evS_asgT, evS_ex, evS_asgA, evS_exA, evS_retA, evS_ret, evS_retN, evS_retv, evS_pass, evS_brk, evS_cnt, evS_doc, evS_if, evS_whl, evS_for, evS_app, evS_ext, evS_clr, evS_put, evS_fset, evS_aug, evS_augs, evSs_nil, evSs_cons, evSs_frz, evSs_fgt, so_nx, so_rt, so_bk, so_ct, so_ex, if_t, if_f, if_b, if_x, ir_t, ir_f, ir_b, bo_1, bo_n, bo_tt, bo_tf, bo_ft, bo_ff, bo_x, bo_an, bo_or, ite_bl, ite_ff, ite_tt, Bool.not_eq_true', decide_eq_false_iff_not, ite_not, Bool.and_eq_true, Bool.or_eq_true, Bool.decide_eq_true, FnI.run, FnI.N, FnI.np, FnI.io, FnI.body, x_ok, x_ex, x_some, x_nok, o_ok, o_ex, a_ok, a_ex, ra_ok, ra_ex, g_shr, g_own, g_tmp, g_suc, w_own, w_shr, w_tmp, w_suc, sto_shr, sto_own, sto_tmp, asg_ok, ret_shr, ret_own, retT, rDt_, rDk_, frz_own, frz_shr, frz_tmp, frz_non, frz_suc, fgt_, R.sh, T.sh, R.tr, T.kids, T.withKids, sh_shr, sh_own, sh_tmp, sh_vw, d_shr, d_own, d_tmp, d_vw, T_pl, T_lf, T.d, T.ds, bl_, rI_, rS_, rB_, rL_, kid_shr, kid_own, kids_nil, kids_cons, cmp_, not_, int_, tup_, lst_, arg_shr, arg_own, arg_vw, arg_tmp, call_e, mk_e, end_nx, end_rt, end_ex, outs_nil, outs_cons, b_sh, b_add, b_sub, b_mulr, b_mull, b_fdiv, b_mod, b_pow', b_shl', b_shr, Int.reduceToNat, Int.reduceMod, Int.reduceDiv, Int.reduceEq, Int.reduceNe, b_and, b_xor, b_app, b_tup, c_lt, c_le, c_gt, c_ge, c_eq, c_ne, c_in, c_nin, c_is, c_isn, c_slt, e_int, e_str, e_bl, is_bl, is_non, is_int, is_str, is_lst, is_ins, Blt.F, Bm.F, len_s1, len_o1, len_t1, len_v1, len_s2, len_s3, len_v2, len_t2, len_dk, len_dt, lst1_lst, lst1_tup, sub_sh, s_lst, s_tup, s_scr, s_dk, s_dt, slc_sh, sl_lst, sl_tup, sl_scr, at_i2, at_i3, at_i4, at_i5, at_i6, at_i7, at_i8, at_i9, at_i10, at_i11, at_i12, at_i13, at_0, at_1, at_2, at_3, any_sl, any_ol, any_tl, any_st, any_ss, any_sk, any_sT, any_tk, any_tT, map_map, kD_l, kD_r, rng1_s, rng2_s, slc3_l, size_, any_S, in_S, len_S, sl_S, s_S, b_S, e_S, at_abc, abc_s, abc_len, Int.emod_nonneg, ch_ll, ch_lt, ch_tl, ch_tt, all_b, any_b, sum_i, int_b, max_, min_, divmod_, b_rep, String.reduceEq, cut_to, cut_from, cut_mid, cut_all, List.take_succ_cons, List.take_zero, List.drop_succ_cons, List.drop_zero, ne_eq, not_false_eq_true, isVw, isOwn, ios, iosF, Tg.F, Tgs.F, Tgs.len, nmF, consF, nilF, tupF, unpD, chi, rec_s, rec_own_i, rec_own_l, rec_own_p, rec_tmp_i, rec_tmp_l, rec_tmp_p, rec_vw_i, rec_vw_l, rec_vw_p, fld_s, fld_own_i, fld_own_l, fld_own_p, fld_tmp_i, fld_tmp_l, fld_tmp_p, fld_vw_i, fld_vw_l, fld_vw_p, isiR, tyD, beq_self_eq_true, tyO, tyR, Bm.T, strsD, Tk.kit, partT, T.at_, T.put, putP, aE, aMv, shareR, appF, extF, clrF, plLst, childT, putT, putF1, keyD, keysD, fsetT, augF, augI, augPre, augsF, noVw, ioX, ioA, insC, insO, pfldR, psubR, dkO, dgetR, bor, borR, wipeR, Q.getD, lcStep, L2.ixN, Int.cast_ofNat_Int, List.set_cons_succ, List.set_cons_zero, List.length_cons, List.length_nil, List.length_map, List.length_range, List.length_set, List.map_cons, List.map_nil, List.cons_append, List.getElem?_cons_succ, List.getElem?_cons_zero, List.nil_append, List.append_nil, List.replicate, List.flatten_cons, List.flatten_nil, List.set, List.getD_cons_zero, List.getD_cons_succ, List.foldr, Option.bind_some, Option.bind_none, Option.map_some, Option.map_none, Option.some.injEq, Option.getD_some, Option.getD_none, Nat.reduceAdd, Nat.reduceMul, Nat.reduceSub, Nat.reduceLT, Nat.reduceLeDiff, Nat.reduceBEq, reduceCtorEq, reduceIte, decide_eq_true_eq, if_true, if_false, ite_true, ite_false, decide_true, decide_false, and_true, true_and, and_self, or_true, true_or, or_false, false_or, false_and, and_false, or_self, Bool.false_eq_true, Bool.not_true, Bool.not_false, Bool.and_self, Bool.true_and, Bool.and_true, Bool.false_and, Bool.and_false, Bool.or_self, Bool.true_or, Bool.or_true, Bool.false_or, Bool.or_false, Int.reduceLT, Int.reduceLE, Int.reducePow, Int.reduceNeg, Int.reduceAdd, Int.reduceMul, Int.reduceSub, Nat.reducePow, id_eq, D.lst.injEq, D.scr.injEq, D.tup.injEq, D.dk.injEq, D.dt.injEq, D.str.injEq, D.int.injEq, D.ins.injEq, D.bl.injEq, ev_skeys, ev_dtre, evS_sw2, sw2F, evSs_frf, frfF, ev_lvals, ev_svals, ev_mind, ev_dis1, ev_isX, ev_xnm, evI_en, evI_r3, evS_rse, evS_rse1, evS_try, dis1R, keyD, flatD, lvalsR, svalsR, its_s, its_t, vls_s, vls_t, mind_o, kd_len, kd_put, kd_val, kd_in, kd_sub, kd_dget, kd_keys, kd_its, kd_vals, map_id_, kt_len, kt_put, kt_val, kt_sub, kt_dget, at_last, neg_, its_sT, its_tT, its_oT, its_o, kt_its, kt_keys, enum_Is, enum_Io, rng3_dn, kr_len, kr_put, kr_val, kr_sub, kr_keys, b_repS, rse_s, rse_x, try_nx, try_bk, try_ct, try_rt, try_ex, sut_0, sut_1, del_nx, del_bk, del_ct, del_rt, at_xa, at_xs, at_fn, at_glo, mark_at, xcT_, xnT_, forall_const, imp_self, implies_true, l_LETTERS, l_MOST_LETTERS, g_isi_7_7, g_isi_7_8, g_isi_7_9, g_isi_7_10, g_isi_8_7, g_isi_8_8, g_isi_8_9, g_isi_8_10, g_isi_9_7, g_isi_9_8, g_isi_9_9, g_isi_9_10, g_isi_10_7, g_isi_10_8, g_isi_10_9, g_isi_10_10, g_xs_0, g_xs_0_0, g_xs_0_1, g_xs_0_2, g_xs_0_3, g_xs_0_4, g_xs_0_5, g_xs_0_6, g_xs_1, g_xs_1_0, g_xs_1_1, g_xs_1_2, g_xs_1_3, g_xs_1_4, g_xs_1_5, g_xs_1_6, g_xs_2, g_xs_2_0, g_xs_2_1, g_xs_2_2, g_xs_2_3, g_xs_2_4, g_xs_2_5, g_xs_2_6, g_xs_3, g_xs_3_0, g_xs_3_1, g_xs_3_2, g_xs_3_3, g_xs_3_4, g_xs_3_5, g_xs_3_6, g_xs_4, g_xs_4_0, g_xs_4_1, g_xs_4_2, g_xs_4_3, g_xs_4_4, g_xs_4_5, g_xs_4_6, g_xs_5, g_xs_5_0, g_xs_5_1, g_xs_5_2, g_xs_5_3, g_xs_5_4, g_xs_5_5, g_xs_5_6, g_xs_6, g_xs_6_0, g_xs_6_1, g_xs_6_2, g_xs_6_3, g_xs_6_4, g_xs_6_5, g_xs_6_6, g_law, g__law_house, g__law_plan, g__law_due, g_faults, g__law_cell_at, g__law_door, g__law_drawn, g_House___init__, g_House_doors, g_Door_lets, g_Until_lets, g_Marked_lets, g_House_door, g__law_gone, g_House_rooms, g_House_found, g_House_holds, g_summed, g_let_by, g_there, g_House_pairs, g_gone, g_House_from_room, g_Until___init__, g_Marked___init__, g_Door___init__, g_refuse_twice, g_refuse_strange, g_Door_is_exit, g_House_refuse_numbers, g_House_sure, g_House_lets, g_House_into, g_numbered, g_named, g_is_whole, g_is_name, g_Twice___init__, g_NoRoom___init__, g_Unknown___init__])
local macro_rules | `(tactic| simp only [qs0, $args,*]) => `(tactic| simp only [$args,*, ev_var, ev_cst, ev_glo, ev_bin, ev_neg, ev_cmp, ev_chn, ev_bo, ev_not, ev_ife, ev_tup, ev_lst, ev_dnew, ev_sub, ev_slc, ev_slc3, ev_fld, ev_call, ev_mth, ev_mk, ev_blt, ev_bm, ev_isi, ev_dget, ev_lc, evs_nil, evs_cons, evo_no, evo_so, evc_no, evc_so, evI_any, evI_r1, evI_r2, evI_vs, evI_its, evP_nm, evP_fld, evP_sub, evA_e, evA_mv, evA_iom, evA_ioi, evA_iof, evS_asg, evS_asgLc, evS_asgT, evS_ex, evS_asgA, evS_exA, evS_retA, evS_ret, evS_retN, evS_retv, evS_pass, evS_brk, evS_cnt, evS_doc, evS_if, evS_whl, evS_for, evS_app, evS_ext, evS_clr, evS_put, evS_fset, evS_aug, evS_augs, evSs_nil, evSs_cons, evSs_frz, evSs_fgt, so_nx, so_rt, so_bk, so_ct, so_ex, if_t, if_f, if_b, if_x, ir_t, ir_f, ir_b, bo_1, bo_n, bo_tt, bo_tf, bo_ft, bo_ff, bo_x, bo_an, bo_or, ite_bl, ite_ff, ite_tt, Bool.not_eq_true', decide_eq_false_iff_not, ite_not, Bool.and_eq_true, Bool.or_eq_true, Bool.decide_eq_true, FnI.run, FnI.N, FnI.np, FnI.io, FnI.body, x_ok, x_ex, x_some, x_nok, o_ok, o_ex, a_ok, a_ex, ra_ok, ra_ex, g_shr, g_own, g_tmp, g_suc, w_own, w_shr, w_tmp, w_suc, sto_shr, sto_own, sto_tmp, asg_ok, ret_shr, ret_own, retT, rDt_, rDk_, frz_own, frz_shr, frz_tmp, frz_non, frz_suc, fgt_, R.sh, T.sh, R.tr, T.kids, T.withKids, sh_shr, sh_own, sh_tmp, sh_vw, d_shr, d_own, d_tmp, d_vw, T_pl, T_lf, T.d, T.ds, bl_, rI_, rS_, rB_, rL_, kid_shr, kid_own, kids_nil, kids_cons, cmp_, not_, int_, tup_, lst_, arg_shr, arg_own, arg_vw, arg_tmp, call_e, mk_e, end_nx, end_rt, end_ex, outs_nil, outs_cons, b_sh, b_add, b_sub, b_mulr, b_mull, b_fdiv, b_mod, b_pow', b_shl', b_shr, Int.reduceToNat, Int.reduceMod, Int.reduceDiv, Int.reduceEq, Int.reduceNe, b_and, b_xor, b_app, b_tup, c_lt, c_le, c_gt, c_ge, c_eq, c_ne, c_in, c_nin, c_is, c_isn, c_slt, e_int, e_str, e_bl, is_bl, is_non, is_int, is_str, is_lst, is_ins, Blt.F, Bm.F, len_s1, len_o1, len_t1, len_v1, len_s2, len_s3, len_v2, len_t2, len_dk, len_dt, lst1_lst, lst1_tup, sub_sh, s_lst, s_tup, s_scr, s_dk, s_dt, slc_sh, sl_lst, sl_tup, sl_scr, at_i2, at_i3, at_i4, at_i5, at_i6, at_i7, at_i8, at_i9, at_i10, at_i11, at_i12, at_i13, at_0, at_1, at_2, at_3, any_sl, any_ol, any_tl, any_st, any_ss, any_sk, any_sT, any_tk, any_tT, map_map, kD_l, kD_r, rng1_s, rng2_s, slc3_l, size_, any_S, in_S, len_S, sl_S, s_S, b_S, e_S, at_abc, abc_s, abc_len, Int.emod_nonneg, ch_ll, ch_lt, ch_tl, ch_tt, all_b, any_b, sum_i, int_b, max_, min_, divmod_, b_rep, String.reduceEq, cut_to, cut_from, cut_mid, cut_all, List.take_succ_cons, List.take_zero, List.drop_succ_cons, List.drop_zero, ne_eq, not_false_eq_true, isVw, isOwn, ios, iosF, Tg.F, Tgs.F, Tgs.len, nmF, consF, nilF, tupF, unpD, chi, rec_s, rec_own_i, rec_own_l, rec_own_p, rec_tmp_i, rec_tmp_l, rec_tmp_p, rec_vw_i, rec_vw_l, rec_vw_p, fld_s, fld_own_i, fld_own_l, fld_own_p, fld_tmp_i, fld_tmp_l, fld_tmp_p, fld_vw_i, fld_vw_l, fld_vw_p, isiR, tyD, beq_self_eq_true, tyO, tyR, Bm.T, strsD, Tk.kit, partT, T.at_, T.put, putP, aE, aMv, shareR, appF, extF, clrF, plLst, childT, putT, putF1, keyD, keysD, fsetT, augF, augI, augPre, augsF, noVw, ioX, ioA, insC, insO, pfldR, psubR, dkO, dgetR, bor, borR, wipeR, Q.getD, lcStep, L2.ixN, Int.cast_ofNat_Int, List.set_cons_succ, List.set_cons_zero, List.length_cons, List.length_nil, List.length_map, List.length_range, List.length_set, List.map_cons, List.map_nil, List.cons_append, List.getElem?_cons_succ, List.getElem?_cons_zero, List.nil_append, List.append_nil, List.replicate, List.flatten_cons, List.flatten_nil, List.set, List.getD_cons_zero, List.getD_cons_succ, List.foldr, Option.bind_some, Option.bind_none, Option.map_some, Option.map_none, Option.some.injEq, Option.getD_some, Option.getD_none, Nat.reduceAdd, Nat.reduceMul, Nat.reduceSub, Nat.reduceLT, Nat.reduceLeDiff, Nat.reduceBEq, reduceCtorEq, reduceIte, decide_eq_true_eq, if_true, if_false, ite_true, ite_false, decide_true, decide_false, and_true, true_and, and_self, or_true, true_or, or_false, false_or, false_and, and_false, or_self, Bool.false_eq_true, Bool.not_true, Bool.not_false, Bool.and_self, Bool.true_and, Bool.and_true, Bool.false_and, Bool.and_false, Bool.or_self, Bool.true_or, Bool.or_true, Bool.false_or, Bool.or_false, Int.reduceLT, Int.reduceLE, Int.reducePow, Int.reduceNeg, Int.reduceAdd, Int.reduceMul, Int.reduceSub, Nat.reducePow, id_eq, D.lst.injEq, D.scr.injEq, D.tup.injEq, D.dk.injEq, D.dt.injEq, D.str.injEq, D.int.injEq, D.ins.injEq, D.bl.injEq, ev_skeys, ev_dtre, evS_sw2, sw2F, evSs_frf, frfF, ev_lvals, ev_svals, ev_mind, ev_dis1, ev_isX, ev_xnm, evI_en, evI_r3, evS_rse, evS_rse1, evS_try, dis1R, keyD, flatD, lvalsR, svalsR, its_s, its_t, vls_s, vls_t, mind_o, kd_len, kd_put, kd_val, kd_in, kd_sub, kd_dget, kd_keys, kd_its, kd_vals, map_id_, kt_len, kt_put, kt_val, kt_sub, kt_dget, at_last, neg_, its_sT, its_tT, its_oT, its_o, kt_its, kt_keys, enum_Is, enum_Io, rng3_dn, kr_len, kr_put, kr_val, kr_sub, kr_keys, b_repS, rse_s, rse_x, try_nx, try_bk, try_ct, try_rt, try_ex, sut_0, sut_1, del_nx, del_bk, del_ct, del_rt, at_xa, at_xs, at_fn, at_glo, mark_at, xcT_, xnT_, forall_const, imp_self, implies_true, l_LETTERS, l_MOST_LETTERS, g_isi_7_7, g_isi_7_8, g_isi_7_9, g_isi_7_10, g_isi_8_7, g_isi_8_8, g_isi_8_9, g_isi_8_10, g_isi_9_7, g_isi_9_8, g_isi_9_9, g_isi_9_10, g_isi_10_7, g_isi_10_8, g_isi_10_9, g_isi_10_10, g_xs_0, g_xs_0_0, g_xs_0_1, g_xs_0_2, g_xs_0_3, g_xs_0_4, g_xs_0_5, g_xs_0_6, g_xs_1, g_xs_1_0, g_xs_1_1, g_xs_1_2, g_xs_1_3, g_xs_1_4, g_xs_1_5, g_xs_1_6, g_xs_2, g_xs_2_0, g_xs_2_1, g_xs_2_2, g_xs_2_3, g_xs_2_4, g_xs_2_5, g_xs_2_6, g_xs_3, g_xs_3_0, g_xs_3_1, g_xs_3_2, g_xs_3_3, g_xs_3_4, g_xs_3_5, g_xs_3_6, g_xs_4, g_xs_4_0, g_xs_4_1, g_xs_4_2, g_xs_4_3, g_xs_4_4, g_xs_4_5, g_xs_4_6, g_xs_5, g_xs_5_0, g_xs_5_1, g_xs_5_2, g_xs_5_3, g_xs_5_4, g_xs_5_5, g_xs_5_6, g_xs_6, g_xs_6_0, g_xs_6_1, g_xs_6_2, g_xs_6_3, g_xs_6_4, g_xs_6_5, g_xs_6_6, g_law, g__law_house, g__law_plan, g__law_due, g_faults, g__law_cell_at, g__law_door, g__law_drawn, g_House___init__, g_House_doors, g_Door_lets, g_Until_lets, g_Marked_lets, g_House_door, g__law_gone, g_House_rooms, g_House_found, g_House_holds, g_summed, g_let_by, g_there, g_House_pairs, g_gone, g_House_from_room, g_Until___init__, g_Marked___init__, g_Door___init__, g_refuse_twice, g_refuse_strange, g_Door_is_exit, g_House_refuse_numbers, g_House_sure, g_House_lets, g_House_into, g_numbered, g_named, g_is_whole, g_is_name, g_Twice___init__, g_NoRoom___init__, g_Unknown___init__])
theorem cell_ (w d : Nat) (ns : List Int) (k : Int) (hk : 0 ≤ k) : pd.F w (d + 1) 5 [.shr (.scr ns), .shr (.int k)] = some (.ret (.shr (.int (ns.getD k.toNat 0))) []) := by
  rw [F__law_cell_at, i__law_cell_at]
  by_cases h : k < ns.length
  · have h2 : ns[k.toNat]? = some (ns.getD k.toNat 0) := by
      have : k.toNat < ns.length := by omega
      simp [List.getD, List.getElem?_eq_getElem this]
    simp only [qs0, h, at_nn ns hk, h2]
  · have h2 : ns.getD k.toNat 0 = 0 := by
      have : ns.length ≤ k.toNat := by omega
      simp [List.getD, List.getElem?_eq_none this]
    simp only [qs0, h, h2]
theorem whole_ (w d : Nat) (n : Int) : pd.F w (d + 1) 36 [.shr (.int n)] = some (.ret (.shr (.bl true)) []) := by
  rw [F_is_whole, i_is_whole]
  simp only [qs0]
theorem name_ (w d : Nat) (l : List Nat) (h1 : 1 ≤ l.length) (h8 : l.length ≤ 8) (ha : ∀ c ∈ l, c ∈ abc) : pd.F w (d + 1) 37 [.shr (.str (st l))] = some (.ret (.shr (.bl true)) []) := by
  rw [F_is_name, i_is_name]
  have e1 : (1 : Int) ≤ (l.length : Int) := by omega
  have e2 : (l.length : Int) ≤ 8 := by omega
  have e3 : l.length ≤ 16777216 := by omega
  simp only [qs0, e1, e2, e3, abc_s]
  rw [lc_a (fun c : Nat => R.shr (.str (st [c]))) (fun c => D.bl (decide (c ∈ abc))) l ?a ?b ?c]
  case a => rfl
  case b => exact e3
  case c =>
    intro c hc
    simp only [qs0, lcStep]
  have hall : (l.all fun c => decide (c ∈ abc)) = true := by simpa using ha
  simp only [qs0, hall]
theorem named_ (w d : Nat) (l : List Nat) (h1 : 1 ≤ l.length) (h8 : l.length ≤ 8) (ha : ∀ c ∈ l, c ∈ abc) : pd.F w (d + 2) 35 [.shr (.str (st l))] = some (.ret (.shr (.str (st l))) []) := by
  rw [F_named, i_named]
  simp only [qs0, name_ w d l h1 h8 ha]
theorem num_ (w d : Nat) (n l : Int) (h : l ≤ n) : pd.F w (d + 2) 34 [.shr (.int n), .shr (.int l)] = some (.ret (.shr (.int n)) []) := by
  rw [F_numbered, i_numbered]
  have h' : ¬ n < l := by omega
  simp only [qs0, whole_, h']
theorem nm_ (w d : Nat) (n : Nm) : pd.F w (d + 2) 35 [.shr (.str n.s)] = some (.ret (.shr (.str n.s)) []) := named_ w d n.l n.h1 n.h8 n.ha
def eD : Option Nm → D
  | none => .non
  | some n => .str n.s
structure Dr where
  nm : Nm
  st : Nm
  en : Option Nm
  c : Nat
  ds : List D
  lets : Int → Int
def Dr.d (x : Dr) : D := .ins x.c (.str x.nm.s :: .str x.st.s :: eD x.en :: x.ds)
theorem exk_ (c : Nat) (h : 7 ≤ c ∧ c < 10) : ([29, 29, 29] : List Nat).getD (c - 7) 0 = 29 := by
  have h1 : c - 7 < 10 - 7 := by omega
  have : ∀ i < 10 - 7, ([29, 29, 29] : List Nat).getD i 0 = 29 := by decide
  exact this _ h1
def iB (b : Bool) : D := .bl b
def iI (n : Int) : D := .int n
theorem twice_ (w d : Nat) (xs : List Nm) (nd : xs.Nodup) (hl : xs.length ≤ 1000000) : pd.F w (d + 1) 27 [.shr (.lst (xs.map fun n => .str n.s))] = some (.ret (.shr .non) []) := by
  rw [F_refuse_twice, i_refuse_twice]
  simp only [qs0]
  rw [for_p (fun n : Nm => R.shr (.str n.s)) (fun done : List Nm => [some (.shr (.lst (xs.map fun n => .str n.s))), some (.own (.pl (.dk (kd iB (done.map fun n => (n, true)))))), none]) xs ?a ?b ?h]
  case a => rfl
  case b => rfl
  case h =>
    intro done x rest e
    refine ⟨_, rfl, .inl ?_⟩
    rw [e] at nd
    have h1 : x ∉ done := fun h => (List.nodup_append.mp nd).2.2 x h x (List.mem_cons_self ..) rfl
    have h2 : x ∉ (done.map fun n => (n, true)).map (·.1) := by simpa using h1
    have h3 : done.length < 16777216 := by
      have := congrArg List.length e
      simp only [List.length_append, List.length_cons] at this
      omega
    have h4 : kd iB (aput (done.map fun n => (n, true)) x true) = kd iB ((done ++ [x]).map fun n => (n, true)) := by rw [aput_new _ _ _ h2, List.map_append]; rfl
    have h5 : putD (kd iB (done.map fun n => (n, true))) (Sum.inr x.s) (.bl true) = _ := kd_put iB (done.map fun n => (n, true)) x true
    rw [h4] at h5
    simp only [qs0, h1, h3, h5]
  simp only [qs0]
theorem strange_ {v : Type} (w d : Nat) (ed : v → D) (m : List (Nm × v)) (xs : List Nm) (h : ∀ x ∈ xs, x ∈ m.map (·.1)) : pd.F w (d + 1) 28 [.shr (.lst (xs.map fun n => .str n.s)), .shr (.dk (kd ed m))] = some (.ret (.shr .non) []) := by
  rw [F_refuse_strange, i_refuse_strange]
  simp only [qs0]
  rw [for_i (fun n : Nm => R.shr (.str n.s)) xs ?a ?h]
  case a => rfl
  case h =>
    intro x hx
    have h1 := h x hx
    refine ⟨_, rfl, .inl ?_⟩
    simp only [qs0, h1]
  simp only [qs0]
theorem strangeT_ {v : Type} (w d : Nat) (ed : v → D) (m : List (Nm × v)) (xs : List Nm) (h : ∀ x ∈ xs, x ∈ m.map (·.1)) : pd.F w (d + 1) 28 [.shr (.lst (xs.map fun n => .str n.s)), .tmp (.pl (.dk (kd ed m)))] = some (.ret (.shr .non) []) := by
  rw [F_refuse_strange, i_refuse_strange]
  simp only [qs0]
  rw [for_i (fun n : Nm => R.shr (.str n.s)) xs ?a ?h]
  case a => rfl
  case h =>
    intro x hx
    have h1 := h x hx
    refine ⟨_, rfl, .inl ?_⟩
    simp only [qs0, h1]
  simp only [qs0]
theorem hexit_ (w d : Nat) (x : Dr) (hc : 7 ≤ x.c ∧ x.c < 10) : pd.F w (d + 1) 29 [.shr x.d] = some (.ret (.shr (.bl x.en.isNone)) []) := by
  rw [F_Door_is_exit, i_Door_is_exit]
  obtain ⟨a, b, e, n, ds, ls⟩ := x
  cases e <;> simp only [qs0, Dr.d, eD, hc, Option.isNone]
def ppl (ps : List (Nm × Int)) : List (Nm × Int) := ps.foldl (fun m p => aput m p.1 ((aget m p.1).getD 0 + p.2)) []
theorem ppl_len (ps : List (Nm × Int)) : (ppl ps).length ≤ ps.length := by
  have := foldl_inv (fun (m : List (Nm × Int)) (p : Nm × Int) => aput m p.1 ((aget m p.1).getD 0 + p.2)) (fun k m => m.length ≤ k) (fun k m p h => Nat.le_trans (aput_len ..) (Nat.succ_le_succ h)) ps 0 [] (Nat.le_refl _)
  rwa [Nat.zero_add] at this
theorem numbers_ (w d : Nat) (a b : D) (t : T) (rs : List (Nm × Int)) (m : List (Nm × Int)) (ns : List Int) (hl : ns.length + rs.length ≤ 1000000) (h0 : ∀ n ∈ ns, 0 ≤ n) (h1 : ∀ p ∈ rs, 0 ≤ p.2)
    (h2 : ∀ p ∈ m, ∃ n, aget rs p.1 = some n ∧ p.2 ≤ n) :
    pd.F w (d + 1) 30 [.tmp (.ins 10 [.lf a, .lf b, .pl (.dk (kd iI rs)), t, .pl (.dk (kd iI m))]), .shr (.lst (ns.map .int))] = some (.ret (.shr .non) []) := by
  rw [F_House_refuse_numbers, i_House_refuse_numbers]
  have e1 : List.map D.int ns ++ List.map (fun p => iI p.snd) rs = (ns ++ rs.map (·.2)).map D.int := by rw [List.map_append, List.map_map]; rfl
  have h3 : ns.length + rs.length ≤ 16777216 := by omega
  have h4 : ¬ (minL (ns ++ rs.map (·.2))).getD 0 < 0 := by
    have := minL_nn (ns ++ rs.map (·.2)) fun x hx => by
      rcases List.mem_append.mp hx with hx | hx
      · exact h0 x hx
      · obtain ⟨p, hp, rfl⟩ := List.mem_map.mp hx
        exact h1 p hp
    omega
  simp only [qs0, e1, h3, h4]
  rw [for_i (fun p : Nm × Int => R.shr (.tup [.str p.1.s, .int p.2])) m ?a ?h]
  case a => rfl
  case h =>
    intro p hp
    obtain ⟨n, q1, q2⟩ := h2 p hp
    have q3 : ¬ n < p.2 := by omega
    refine ⟨_, rfl, .inl ?_⟩
    simp only [qs0, q1, q3, iI]
  simp only [qs0]
structure Hs where
  fi : Int
  la : Int
  rs : List (Nm × Int)
  ds : List Dr
  ps : List (Nm × Int)
def dD (x : Dr) : D := x.d
def Hs.d (h : Hs) : D := .ins 10 [.int h.fi, .int h.la, .dk (kd iI h.rs), .dk (kd dD (h.ds.map fun x => (x.nm, x))), .dk (kd iI (ppl h.ps))]
structure HsOk (h : Hs) : Prop where
  f0 : 0 ≤ h.fi ∧ h.fi ≤ h.la
  rl : h.rs.length ≤ 1000
  dl : h.ds.length ≤ 1000
  dc : ∀ x ∈ h.ds, 7 ≤ x.c ∧ x.c < 10
  pl : h.ps.length ≤ 1000
  rn : (h.rs.map (·.1)).Nodup
  dn : (h.ds.map (·.nm)).Nodup
  sin : ∀ x ∈ h.ds, x.st ∈ h.rs.map (·.1)
  ein : ∀ x ∈ h.ds, ∀ e, x.en = some e → e ∈ h.rs.map (·.1)
  pin : ∀ p ∈ h.ps, p.1 ∈ h.rs.map (·.1)
  r0 : ∀ p ∈ h.rs, 0 ≤ p.2
  p0 : ∀ p ∈ h.ps, 0 ≤ p.2
  pm : ∀ p ∈ ppl h.ps, ∃ n, aget h.rs p.1 = some n ∧ p.2 ≤ n
def rmD (p : Nm × Int) : D := .tup [.str p.1.s, .int p.2]
theorem hinit_ (w d : Nat) (h : Hs) (ok : HsOk h) : i_House___init__.run (pd.gm (pd.F w (d + 2)) w) [.own (.ins 10 []), .shr (.lst (h.rs.map rmD)), .shr (.lst (h.ds.map dD)), .shr (.lst (h.ps.map rmD)), .shr (.int h.la), .shr (.int h.fi)] =
    some (.ret (.shr .non) [.ins 10 [.lf (.int h.fi), .lf (.int h.la), .pl (.dk (kd iI h.rs)), .pl (.dk (kd dD (h.ds.map fun x => (x.nm, x)))), .pl (.dk (kd iI (ppl h.ps)))]]) := by
  rw [i_House___init__]
  have h1 : ¬ h.fi < 0 := by have := ok.f0.1; omega
  have h2 : ¬ h.la < h.fi := by have := ok.f0.2; omega
  have lr := ok.rl
  have ld := ok.dl
  have lp := ok.pl
  have tw1 : pd.F w (d + 2) 27 [.shr (.lst (h.rs.map fun p => .str p.1.s))] = some (.ret (.shr .non) []) := by
    have := twice_ w (d + 1) (h.rs.map (·.1)) ok.rn (by rw [List.length_map]; omega)
    rwa [List.map_map] at this
  have tw2 : pd.F w (d + 2) 27 [.shr (.lst (h.ds.map fun x => .str x.nm.s))] = some (.ret (.shr .non) []) := by
    have := twice_ w (d + 1) (h.ds.map (·.nm)) ok.dn (by rw [List.length_map]; omega)
    rwa [List.map_map] at this
  have st3 : pd.F w (d + 2) 28 [.shr (.lst (h.ps.map fun p => .str p.1.s)), .tmp (.pl (.dk (kd iI h.rs)))] = some (.ret (.shr .non) []) := by
    have := strangeT_ w (d + 1) iI h.rs (h.ps.map (·.1)) (fun x hx => by
      obtain ⟨p, hp, rfl⟩ := List.mem_map.mp hx
      exact ok.pin p hp)
    rwa [List.map_map] at this
  simp only [qs0, h1, h2]
  rw [lc_a (fun p => R.shr (rmD p)) (fun p => D.str p.1.s) h.rs ?a ?b ?c]
  case a => rfl
  case b => omega
  case c => intro p _; simp only [qs0, lcStep, rmD]
  simp only [qs0, tw1]
  rw [lc_a (fun x => R.shr (dD x)) (fun x => D.str x.nm.s) h.ds ?a ?b ?c]
  case a => rfl
  case b => omega
  case c =>
    intro x hx
    have hc := ok.dc x hx
    simp only [qs0, lcStep, dD, Dr.d, hc]
  simp only [qs0, tw2]
  rw [for_p (fun p => R.shr (rmD p)) (fun done : List (Nm × Int) => [some (.own (.ins 10 [.lf (.int h.fi), .lf (.int h.la), .pl (.dk (kd iI done))])), some (.shr (.lst (h.rs.map rmD))), some (.shr (.lst (h.ds.map dD))), some (.shr (.lst (h.ps.map rmD))), none, none, none, none, none]) h.rs ?a ?b ?h]
  case a => rfl
  case b => rfl
  case h =>
    intro done x rest e
    refine ⟨_, rfl, .inl ?_⟩
    have nd := ok.rn
    rw [e, List.map_append, List.map_cons] at nd
    have h3 : x.1 ∉ done.map (·.1) := fun h => (List.nodup_append.mp nd).2.2 _ h _ (List.mem_cons_self ..) rfl
    have h4 : done.length < 16777216 := by
      have := congrArg List.length e
      simp only [List.length_append, List.length_cons] at this
      omega
    have h5 : putD (kd iI done) (Sum.inr x.1.s) (.int x.2) = kd iI (done ++ [x]) := by
      have := kd_put iI done x.1 x.2
      rwa [aput_new _ _ _ h3] at this
    simp only [qs0, rmD, h4, h5]
  simp only [qs0]
  rw [for_p (fun x => R.shr (dD x)) (fun done : List Dr => [some (.own (.ins 10 [.lf (.int h.fi), .lf (.int h.la), .pl (.dk (kd iI h.rs)), .pl (.dk (kd dD (done.map fun x => (x.nm, x))))])), none, some (.shr (.lst (h.ds.map dD))), some (.shr (.lst (h.ps.map rmD))), none, none, none, none, none]) h.ds ?a ?b ?h]
  case a => rfl
  case b => rfl
  case h =>
    intro done x rest e
    refine ⟨_, rfl, .inl ?_⟩
    have nd := ok.dn
    rw [e, List.map_append, List.map_cons] at nd
    have h3 : x.nm ∉ (done.map fun x => (x.nm, x)).map (·.1) := fun h => (List.nodup_append.mp nd).2.2 x.nm (by simpa using h) _ (List.mem_cons_self ..) rfl
    have h4 : done.length < 16777216 := by
      have := congrArg List.length e
      simp only [List.length_append, List.length_cons] at this
      omega
    have h5 : putD (kd dD (done.map fun x => (x.nm, x))) (Sum.inr x.nm.s) (dD x) = kd dD ((done ++ [x]).map fun x => (x.nm, x)) := by
      have := kd_put dD (done.map fun x => (x.nm, x)) x.nm x
      rw [aput_new _ _ _ h3] at this
      rw [List.map_append]; exact this
    have hx : x ∈ h.ds := by rw [e]; simp
    have s1 : pd.F w (d + 2) 28 [.shr (.lst [.str x.st.s]), .tmp (.pl (.dk (kd iI h.rs)))] = some (.ret (.shr .non) []) :=
      strangeT_ w (d + 1) iI h.rs [x.st] (by simpa using ok.sin x hx)
    have hc := ok.dc x hx
    have he := hexit_ w (d + 1) x hc
    have hk := exk_ x.c hc
    obtain ⟨a, b, en, n, ds, ls⟩ := x
    simp only [dD, Dr.d] at h5 he s1 hc hk
    cases en with
    | none =>
      simp only [eD, Option.isNone] at h5 he
      simp only [qs0, dD, Dr.d, eD, h4, h5, he, s1, hc, hk, gm_F]
    | some en =>
      have s2 : pd.F w (d + 2) 28 [.shr (.lst [.str en.s]), .tmp (.pl (.dk (kd iI h.rs)))] = some (.ret (.shr .non) []) :=
        strangeT_ w (d + 1) iI h.rs [en] (by simpa using ok.ein _ hx en rfl)
      simp only [eD, Option.isNone] at h5 he
      simp only [qs0, dD, Dr.d, eD, h4, h5, he, s1, s2, hc, hk, gm_F]
  simp only [qs0]
  rw [lc_a (fun p => R.shr (rmD p)) (fun p => D.str p.1.s) h.ps ?a ?b ?c]
  case a => rfl
  case b => omega
  case c => intro p _; simp only [qs0, lcStep, rmD]
  simp only [qs0, st3]
  rw [for_p (fun p => R.shr (rmD p)) (fun done : List (Nm × Int) => [some (.own (.ins 10 [.lf (.int h.fi), .lf (.int h.la), .pl (.dk (kd iI h.rs)), .pl (.dk (kd dD (h.ds.map fun x => (x.nm, x)))), .pl (.dk (kd iI (ppl done)))])), none, none, some (.shr (.lst (h.ps.map rmD))), none, none, none, none, none]) h.ps ?a ?b ?h]
  case a => rfl
  case b => rfl
  case h =>
    intro done x rest e
    refine ⟨_, rfl, .inl ?_⟩
    have h4 : (ppl done).length < 16777216 := by
      have h6 := congrArg List.length e
      simp only [List.length_append, List.length_cons] at h6
      have := ppl_len done
      omega
    have h5 : ppl (done ++ [x]) = aput (ppl done) x.1 ((aget (ppl done) x.1).getD 0 + x.2) := by simp [ppl]
    have h6 : putD (kd iI (ppl done)) (Sum.inr x.1.s) (.int ((aget (ppl done) x.1).getD 0 + x.2)) = kd iI (ppl (done ++ [x])) := by
      rw [h5]; exact kd_put iI (ppl done) x.1 _
    have h7 : ((aget (ppl done) x.1).map iI).getD (.int 0) = .int ((aget (ppl done) x.1).getD 0) := by
      cases aget (ppl done) x.1 <;> rfl
    simp only [qs0, rmD, h4, h6, h7]
  simp only [qs0]
  rw [lc_a (fun p => R.shr (rmD p)) (fun p => D.int p.2) h.ps ?a ?b ?c]
  case a => rfl
  case b => omega
  case c => intro p _; simp only [qs0, lcStep, rmD]
  have nb := numbers_ w (d + 1) (.int h.fi) (.int h.la) (.pl (.dk (kd dD (h.ds.map fun x => (x.nm, x))))) h.rs (ppl h.ps) (h.ps.map (·.2)) (by rw [List.length_map]; omega) (fun n hn => by
    obtain ⟨p, hp, rfl⟩ := List.mem_map.mp hn
    exact ok.p0 p hp) ok.r0 ok.pm
  rw [List.map_map] at nb
  have nb : pd.F w (d + 2) 30 [.tmp (.ins 10 [.lf (.int h.fi), .lf (.int h.la), .pl (.dk (kd iI h.rs)), .pl (.dk (kd dD (h.ds.map fun x => (x.nm, x)))), .pl (.dk (kd iI (ppl h.ps)))]), .shr (.lst (h.ps.map fun p => D.int p.2))] = some (.ret (.shr .non) []) := nb
  simp only [qs0, nb]
end k22

end

section
set_option Elab.async false
set_option linter.all false
set_option maxRecDepth 100000
set_option maxHeartbeats 1000000
namespace k22
open PySem PySem.Spec Q
local macro_rules | `(tactic| simp only [qs0]) => `(tactic| simp only [ev_var, ev_cst, ev_glo, ev_bin, ev_neg, ev_cmp, ev_chn, ev_bo, ev_not, ev_ife, ev_tup, ev_lst, ev_dnew, ev_sub, ev_slc, ev_slc3, ev_fld, ev_call, ev_mth, ev_mk, ev_blt, ev_bm, ev_isi, ev_dget, ev_lc, evs_nil, evs_cons, evo_no, evo_so, evc_no, evc_so, evI_any, evI_r1, evI_r2, evI_vs, evI_its, evP_nm, evP_fld, evP_sub, evA_e, evA_mv, evA_iom, evA_ioi, evA_iof, evS_asg, evS_asgLc, evS_asgT, evS_ex, evS_asgA, evS_exA, evS_retA, evS_ret, evS_retN, evS_retv, evS_pass, evS_brk, evS_cnt, evS_doc, evS_if, evS_whl, evS_for, evS_app, evS_ext, evS_clr, evS_put, evS_fset, evS_aug, evS_augs, evSs_nil, evSs_cons, evSs_frz, evSs_fgt, so_nx, so_rt, so_bk, so_ct, so_ex, if_t, if_f, if_b, if_x, ir_t, ir_f, ir_b, bo_1, bo_n, bo_tt, bo_tf, bo_ft, bo_ff, bo_x, bo_an, bo_or, ite_bl, ite_ff, ite_tt, Bool.not_eq_true', decide_eq_false_iff_not, ite_not, Bool.and_eq_true, Bool.or_eq_true, Bool.decide_eq_true, FnI.run, FnI.N, FnI.np, FnI.io, FnI.body, x_ok, x_ex, x_some, x_nok, o_ok, o_ex, a_ok, a_ex, ra_ok, ra_ex, g_shr, g_own, g_tmp, g_suc, w_own, w_shr, w_tmp, w_suc, sto_shr, sto_own, sto_tmp, asg_ok, ret_shr, ret_own, retT, rDt_, rDk_, frz_own, frz_shr, frz_tmp, frz_non, frz_suc, fgt_, R.sh, T.sh, R.tr, T.kids, T.withKids, sh_shr, sh_own, sh_tmp, sh_vw, d_shr, d_own, d_tmp, d_vw, T_pl, T_lf, T.d, T.ds, bl_, rI_, rS_, rB_, rL_, kid_shr, kid_own, kids_nil, kids_cons, cmp_, not_, int_, tup_, lst_, arg_shr, arg_own, arg_vw, arg_tmp, call_e, mk_e, end_nx, end_rt, end_ex, outs_nil, outs_cons, b_sh, b_add, b_sub, b_mulr, b_mull, b_fdiv, b_mod, b_pow', b_shl', b_shr, Int.reduceToNat, Int.reduceMod, Int.reduceDiv, Int.reduceEq, Int.reduceNe, b_and, b_xor, b_app, b_tup, c_lt, c_le, c_gt, c_ge, c_eq, c_ne, c_in, c_nin, c_is, c_isn, c_slt, e_int, e_str, e_bl, is_bl, is_non, is_int, is_str, is_lst, is_ins, Blt.F, Bm.F, len_s1, len_o1, len_t1, len_v1, len_s2, len_s3, len_v2, len_t2, len_dk, len_dt, lst1_lst, lst1_tup, sub_sh, s_lst, s_tup, s_scr, s_dk, s_dt, slc_sh, sl_lst, sl_tup, sl_scr, at_i2, at_i3, at_i4, at_i5, at_i6, at_i7, at_i8, at_i9, at_i10, at_i11, at_i12, at_i13, at_0, at_1, at_2, at_3, any_sl, any_ol, any_tl, any_st, any_ss, any_sk, any_sT, any_tk, any_tT, map_map, kD_l, kD_r, rng1_s, rng2_s, slc3_l, size_, any_S, in_S, len_S, sl_S, s_S, b_S, e_S, at_abc, abc_s, abc_len, Int.emod_nonneg, ch_ll, ch_lt, ch_tl, ch_tt, all_b, any_b, sum_i, int_b, max_, min_, divmod_, b_rep, String.reduceEq, cut_to, cut_from, cut_mid, cut_all, List.take_succ_cons, List.take_zero, List.drop_succ_cons, List.drop_zero, ne_eq, not_false_eq_true, isVw, isOwn, ios, iosF, Tg.F, Tgs.F, Tgs.len, nmF, consF, nilF, tupF, unpD, chi, rec_s, rec_own_i, rec_own_l, rec_own_p, rec_tmp_i, rec_tmp_l, rec_tmp_p, rec_vw_i, rec_vw_l, rec_vw_p, fld_s, fld_own_i, fld_own_l, fld_own_p, fld_tmp_i, fld_tmp_l, fld_tmp_p, fld_vw_i, fld_vw_l, fld_vw_p, isiR, tyD, beq_self_eq_true, tyO, tyR, Bm.T, strsD, Tk.kit, partT, T.at_, T.put, putP, aE, aMv, shareR, appF, extF, clrF, plLst, childT, putT, putF1, keyD, keysD, fsetT, augF, augI, augPre, augsF, noVw, ioX, ioA, insC, insO, pfldR, psubR, dkO, dgetR, bor, borR, wipeR, Q.getD, lcStep, L2.ixN, Int.cast_ofNat_Int, List.set_cons_succ, List.set_cons_zero, List.length_cons, List.length_nil, List.length_map, List.length_range, List.length_set, List.map_cons, List.map_nil, List.cons_append, List.getElem?_cons_succ, List.getElem?_cons_zero, List.nil_append, List.append_nil, List.replicate, List.flatten_cons, List.flatten_nil, List.set, List.getD_cons_zero, List.getD_cons_succ, List.foldr, Option.bind_some, Option.bind_none, Option.map_some, Option.map_none, Option.some.injEq, Option.getD_some, Option.getD_none, Nat.reduceAdd, Nat.reduceMul, Nat.reduceSub, Nat.reduceLT, Nat.reduceLeDiff, Nat.reduceBEq, reduceCtorEq, reduceIte, decide_eq_true_eq, if_true, if_false, ite_true, ite_false, decide_true, decide_false, and_true, true_and, and_self, or_true, true_or, or_false, false_or, false_and, and_false, or_self, Bool.false_eq_true, Bool.not_true, Bool.not_false, Bool.and_self, Bool.true_and, Bool.and_true, Bool.false_and, Bool.and_false, Bool.or_self, Bool.true_or, Bool.or_true, Bool.false_or, Bool.or_false, Int.reduceLT, Int.reduceLE, Int.reducePow, Int.reduceNeg, Int.reduceAdd, Int.reduceMul, Int.reduceSub, Nat.reducePow, id_eq, D.lst.injEq, D.scr.injEq, D.tup.injEq, D.dk.injEq, D.dt.injEq, D.str.injEq, D.int.injEq, D.ins.injEq, D.bl.injEq, ev_skeys, ev_dtre, evS_sw2, sw2F, evSs_frf, frfF, ev_lvals, ev_svals, ev_mind, ev_dis1, ev_isX, ev_xnm, evI_en, evI_r3, evS_rse, evS_rse1, evS_try, dis1R, keyD, flatD, lvalsR, svalsR, its_s, its_t, vls_s, vls_t, mind_o, kd_len, kd_put, kd_val, kd_in, kd_sub, kd_dget, kd_keys, kd_its, kd_vals, map_id_, kt_len, kt_put, kt_val, kt_sub, kt_dget, at_last, neg_, its_sT, its_tT, its_oT, its_o, kt_its, kt_keys, enum_Is, enum_Io, rng3_dn, kr_len, kr_put, kr_val, kr_sub, kr_keys, b_repS, rse_s, rse_x, try_nx, try_bk, try_ct, try_rt, try_ex, sut_0, sut_1, del_nx, del_bk, del_ct, del_rt, at_xa, at_xs, at_fn, at_glo, mark_at, xcT_, xnT_, forall_const, imp_self, implies_true, l_LETTERS, l_MOST_LETTERS, g_isi_7_7, g_isi_7_8, g_isi_7_9, g_isi_7_10, g_isi_8_7, g_isi_8_8, g_isi_8_9, g_isi_8_10, g_isi_9_7, g_isi_9_8, g_isi_9_9, g_isi_9_10, g_isi_10_7, g_isi_10_8, g_isi_10_9, g_isi_10_10, g_xs_0, g_xs_0_0, g_xs_0_1, g_xs_0_2, g_xs_0_3, g_xs_0_4, g_xs_0_5, g_xs_0_6, g_xs_1, g_xs_1_0, g_xs_1_1, g_xs_1_2, g_xs_1_3, g_xs_1_4, g_xs_1_5, g_xs_1_6, g_xs_2, g_xs_2_0, g_xs_2_1, g_xs_2_2, g_xs_2_3, g_xs_2_4, g_xs_2_5, g_xs_2_6, g_xs_3, g_xs_3_0, g_xs_3_1, g_xs_3_2, g_xs_3_3, g_xs_3_4, g_xs_3_5, g_xs_3_6, g_xs_4, g_xs_4_0, g_xs_4_1, g_xs_4_2, g_xs_4_3, g_xs_4_4, g_xs_4_5, g_xs_4_6, g_xs_5, g_xs_5_0, g_xs_5_1, g_xs_5_2, g_xs_5_3, g_xs_5_4, g_xs_5_5, g_xs_5_6, g_xs_6, g_xs_6_0, g_xs_6_1, g_xs_6_2, g_xs_6_3, g_xs_6_4, g_xs_6_5, g_xs_6_6, g_law, g__law_house, g__law_plan, g__law_due, g_faults, g__law_cell_at, g__law_door, g__law_drawn, g_House___init__, g_House_doors, g_Door_lets, g_Until_lets, g_Marked_lets, g_House_door, g__law_gone, g_House_rooms, g_House_found, g_House_holds, g_summed, g_let_by, g_there, g_House_pairs, g_gone, g_House_from_room, g_Until___init__, g_Marked___init__, g_Door___init__, g_refuse_twice, g_refuse_strange, g_Door_is_exit, g_House_refuse_numbers, g_House_sure, g_House_lets, g_House_into, g_numbered, g_named, g_is_whole, g_is_name, g_Twice___init__, g_NoRoom___init__, g_Unknown___init__])
local macro_rules | `(tactic| simp only [qs0, $args,*]) => `(tactic| simp only [$args,*, ev_var, ev_cst, ev_glo, ev_bin, ev_neg, ev_cmp, ev_chn, ev_bo, ev_not, ev_ife, ev_tup, ev_lst, ev_dnew, ev_sub, ev_slc, ev_slc3, ev_fld, ev_call, ev_mth, ev_mk, ev_blt, ev_bm, ev_isi, ev_dget, ev_lc, evs_nil, evs_cons, evo_no, evo_so, evc_no, evc_so, evI_any, evI_r1, evI_r2, evI_vs, evI_its, evP_nm, evP_fld, evP_sub, evA_e, evA_mv, evA_iom, evA_ioi, evA_iof, evS_asg, evS_asgLc, evS_asgT, evS_ex, evS_asgA, evS_exA, evS_retA, evS_ret, evS_retN, evS_retv, evS_pass, evS_brk, evS_cnt, evS_doc, evS_if, evS_whl, evS_for, evS_app, evS_ext, evS_clr, evS_put, evS_fset, evS_aug, evS_augs, evSs_nil, evSs_cons, evSs_frz, evSs_fgt, so_nx, so_rt, so_bk, so_ct, so_ex, if_t, if_f, if_b, if_x, ir_t, ir_f, ir_b, bo_1, bo_n, bo_tt, bo_tf, bo_ft, bo_ff, bo_x, bo_an, bo_or, ite_bl, ite_ff, ite_tt, Bool.not_eq_true', decide_eq_false_iff_not, ite_not, Bool.and_eq_true, Bool.or_eq_true, Bool.decide_eq_true, FnI.run, FnI.N, FnI.np, FnI.io, FnI.body, x_ok, x_ex, x_some, x_nok, o_ok, o_ex, a_ok, a_ex, ra_ok, ra_ex, g_shr, g_own, g_tmp, g_suc, w_own, w_shr, w_tmp, w_suc, sto_shr, sto_own, sto_tmp, asg_ok, ret_shr, ret_own, retT, rDt_, rDk_, frz_own, frz_shr, frz_tmp, frz_non, frz_suc, fgt_, R.sh, T.sh, R.tr, T.kids, T.withKids, sh_shr, sh_own, sh_tmp, sh_vw, d_shr, d_own, d_tmp, d_vw, T_pl, T_lf, T.d, T.ds, bl_, rI_, rS_, rB_, rL_, kid_shr, kid_own, kids_nil, kids_cons, cmp_, not_, int_, tup_, lst_, arg_shr, arg_own, arg_vw, arg_tmp, call_e, mk_e, end_nx, end_rt, end_ex, outs_nil, outs_cons, b_sh, b_add, b_sub, b_mulr, b_mull, b_fdiv, b_mod, b_pow', b_shl', b_shr, Int.reduceToNat, Int.reduceMod, Int.reduceDiv, Int.reduceEq, Int.reduceNe, b_and, b_xor, b_app, b_tup, c_lt, c_le, c_gt, c_ge, c_eq, c_ne, c_in, c_nin, c_is, c_isn, c_slt, e_int, e_str, e_bl, is_bl, is_non, is_int, is_str, is_lst, is_ins, Blt.F, Bm.F, len_s1, len_o1, len_t1, len_v1, len_s2, len_s3, len_v2, len_t2, len_dk, len_dt, lst1_lst, lst1_tup, sub_sh, s_lst, s_tup, s_scr, s_dk, s_dt, slc_sh, sl_lst, sl_tup, sl_scr, at_i2, at_i3, at_i4, at_i5, at_i6, at_i7, at_i8, at_i9, at_i10, at_i11, at_i12, at_i13, at_0, at_1, at_2, at_3, any_sl, any_ol, any_tl, any_st, any_ss, any_sk, any_sT, any_tk, any_tT, map_map, kD_l, kD_r, rng1_s, rng2_s, slc3_l, size_, any_S, in_S, len_S, sl_S, s_S, b_S, e_S, at_abc, abc_s, abc_len, Int.emod_nonneg, ch_ll, ch_lt, ch_tl, ch_tt, all_b, any_b, sum_i, int_b, max_, min_, divmod_, b_rep, String.reduceEq, cut_to, cut_from, cut_mid, cut_all, List.take_succ_cons, List.take_zero, List.drop_succ_cons, List.drop_zero, ne_eq, not_false_eq_true, isVw, isOwn, ios, iosF, Tg.F, Tgs.F, Tgs.len, nmF, consF, nilF, tupF, unpD, chi, rec_s, rec_own_i, rec_own_l, rec_own_p, rec_tmp_i, rec_tmp_l, rec_tmp_p, rec_vw_i, rec_vw_l, rec_vw_p, fld_s, fld_own_i, fld_own_l, fld_own_p, fld_tmp_i, fld_tmp_l, fld_tmp_p, fld_vw_i, fld_vw_l, fld_vw_p, isiR, tyD, beq_self_eq_true, tyO, tyR, Bm.T, strsD, Tk.kit, partT, T.at_, T.put, putP, aE, aMv, shareR, appF, extF, clrF, plLst, childT, putT, putF1, keyD, keysD, fsetT, augF, augI, augPre, augsF, noVw, ioX, ioA, insC, insO, pfldR, psubR, dkO, dgetR, bor, borR, wipeR, Q.getD, lcStep, L2.ixN, Int.cast_ofNat_Int, List.set_cons_succ, List.set_cons_zero, List.length_cons, List.length_nil, List.length_map, List.length_range, List.length_set, List.map_cons, List.map_nil, List.cons_append, List.getElem?_cons_succ, List.getElem?_cons_zero, List.nil_append, List.append_nil, List.replicate, List.flatten_cons, List.flatten_nil, List.set, List.getD_cons_zero, List.getD_cons_succ, List.foldr, Option.bind_some, Option.bind_none, Option.map_some, Option.map_none, Option.some.injEq, Option.getD_some, Option.getD_none, Nat.reduceAdd, Nat.reduceMul, Nat.reduceSub, Nat.reduceLT, Nat.reduceLeDiff, Nat.reduceBEq, reduceCtorEq, reduceIte, decide_eq_true_eq, if_true, if_false, ite_true, ite_false, decide_true, decide_false, and_true, true_and, and_self, or_true, true_or, or_false, false_or, false_and, and_false, or_self, Bool.false_eq_true, Bool.not_true, Bool.not_false, Bool.and_self, Bool.true_and, Bool.and_true, Bool.false_and, Bool.and_false, Bool.or_self, Bool.true_or, Bool.or_true, Bool.false_or, Bool.or_false, Int.reduceLT, Int.reduceLE, Int.reducePow, Int.reduceNeg, Int.reduceAdd, Int.reduceMul, Int.reduceSub, Nat.reducePow, id_eq, D.lst.injEq, D.scr.injEq, D.tup.injEq, D.dk.injEq, D.dt.injEq, D.str.injEq, D.int.injEq, D.ins.injEq, D.bl.injEq, ev_skeys, ev_dtre, evS_sw2, sw2F, evSs_frf, frfF, ev_lvals, ev_svals, ev_mind, ev_dis1, ev_isX, ev_xnm, evI_en, evI_r3, evS_rse, evS_rse1, evS_try, dis1R, keyD, flatD, lvalsR, svalsR, its_s, its_t, vls_s, vls_t, mind_o, kd_len, kd_put, kd_val, kd_in, kd_sub, kd_dget, kd_keys, kd_its, kd_vals, map_id_, kt_len, kt_put, kt_val, kt_sub, kt_dget, at_last, neg_, its_sT, its_tT, its_oT, its_o, kt_its, kt_keys, enum_Is, enum_Io, rng3_dn, kr_len, kr_put, kr_val, kr_sub, kr_keys, b_repS, rse_s, rse_x, try_nx, try_bk, try_ct, try_rt, try_ex, sut_0, sut_1, del_nx, del_bk, del_ct, del_rt, at_xa, at_xs, at_fn, at_glo, mark_at, xcT_, xnT_, forall_const, imp_self, implies_true, l_LETTERS, l_MOST_LETTERS, g_isi_7_7, g_isi_7_8, g_isi_7_9, g_isi_7_10, g_isi_8_7, g_isi_8_8, g_isi_8_9, g_isi_8_10, g_isi_9_7, g_isi_9_8, g_isi_9_9, g_isi_9_10, g_isi_10_7, g_isi_10_8, g_isi_10_9, g_isi_10_10, g_xs_0, g_xs_0_0, g_xs_0_1, g_xs_0_2, g_xs_0_3, g_xs_0_4, g_xs_0_5, g_xs_0_6, g_xs_1, g_xs_1_0, g_xs_1_1, g_xs_1_2, g_xs_1_3, g_xs_1_4, g_xs_1_5, g_xs_1_6, g_xs_2, g_xs_2_0, g_xs_2_1, g_xs_2_2, g_xs_2_3, g_xs_2_4, g_xs_2_5, g_xs_2_6, g_xs_3, g_xs_3_0, g_xs_3_1, g_xs_3_2, g_xs_3_3, g_xs_3_4, g_xs_3_5, g_xs_3_6, g_xs_4, g_xs_4_0, g_xs_4_1, g_xs_4_2, g_xs_4_3, g_xs_4_4, g_xs_4_5, g_xs_4_6, g_xs_5, g_xs_5_0, g_xs_5_1, g_xs_5_2, g_xs_5_3, g_xs_5_4, g_xs_5_5, g_xs_5_6, g_xs_6, g_xs_6_0, g_xs_6_1, g_xs_6_2, g_xs_6_3, g_xs_6_4, g_xs_6_5, g_xs_6_6, g_law, g__law_house, g__law_plan, g__law_due, g_faults, g__law_cell_at, g__law_door, g__law_drawn, g_House___init__, g_House_doors, g_Door_lets, g_Until_lets, g_Marked_lets, g_House_door, g__law_gone, g_House_rooms, g_House_found, g_House_holds, g_summed, g_let_by, g_there, g_House_pairs, g_gone, g_House_from_room, g_Until___init__, g_Marked___init__, g_Door___init__, g_refuse_twice, g_refuse_strange, g_Door_is_exit, g_House_refuse_numbers, g_House_sure, g_House_lets, g_House_into, g_numbered, g_named, g_is_whole, g_is_name, g_Twice___init__, g_NoRoom___init__, g_Unknown___init__])
theorem sure_ (w d : Nat) (h : Hs) (n : Nm) (hn : n ∈ h.rs.map (·.1)) : pd.F w (d + 1) 31 [.shr h.d, .shr (.str n.s)] = some (.ret (.shr .non) []) := by
  rw [F_House_sure, i_House_sure]
  simp only [qs0, Hs.d, hn]
theorem rooms_ (w d : Nat) (h : Hs) : pd.F w (d + 1) 15 [.shr h.d] = some (.ret (.own (.pl (.lst ((h.rs.map (·.1)).map nmD)))) []) := by
  rw [F_House_rooms, i_House_rooms]
  have e : (h.rs.map (·.1)).map nmD = h.rs.map fun p => D.str p.1.s := by rw [List.map_map]; rfl
  rw [e]
  simp only [qs0, Hs.d, lst1_d, kd_ks]
theorem doors_h (w d : Nat) (h : Hs) : pd.F w (d + 1) 9 [.shr h.d] = some (.ret (.own (.pl (.lst ((h.ds.map (·.nm)).map nmD)))) []) := by
  rw [F_House_doors, i_House_doors]
  have e : (h.ds.map (·.nm)).map nmD = (h.ds.map fun x => (x.nm, x)).map fun p => D.str p.1.s := by rw [List.map_map, List.map_map]; rfl
  rw [e]
  simp only [qs0, Hs.d, lst1_d, kd_ks]
def holdsR (h : Hs) (n : Nm) : Int := (aget h.rs n).getD 0
theorem aget_mem_some {v : Type} (m : List (Nm × v)) (n : Nm) (hn : n ∈ m.map (·.1)) : ∃ x, aget m n = some x := by
  obtain ⟨p, hp, rfl⟩ := List.mem_map.mp hn
  exact aget_mem ⟨p.2, hp⟩
theorem holds_ (w d : Nat) (h : Hs) (n : Nm) (hn : n ∈ h.rs.map (·.1)) : pd.F w (d + 2) 17 [.shr h.d, .shr (.str n.s)] = some (.ret (.shr (.int (holdsR h n))) []) := by
  rw [F_House_holds, i_House_holds]
  have hs := sure_ w d h n hn
  rw [Hs.d] at hs
  obtain ⟨x, hx⟩ := aget_mem_some h.rs n hn
  simp only [qs0, Hs.d, hs, holdsR, hx, iI]
def foundR (h : Hs) (n : Nm) : Int := (aget (ppl h.ps) n).getD 0
theorem found_ (w d : Nat) (h : Hs) (n : Nm) (hn : n ∈ h.rs.map (·.1)) : pd.F w (d + 2) 16 [.shr h.d, .shr (.str n.s)] = some (.ret (.shr (.int (foundR h n))) []) := by
  rw [F_House_found, i_House_found]
  have hs := sure_ w d h n hn
  rw [Hs.d] at hs
  have h7 : ((aget (ppl h.ps) n).map iI).getD (.int 0) = .int (foundR h n) := by
    unfold foundR; cases aget (ppl h.ps) n <;> rfl
  simp only [qs0, Hs.d, hs, h7]
def totalR (h : Hs) : Int := ((ppl h.ps).map (·.2)).sum
theorem door_get (h : Hs) (ok : HsOk h) (x : Dr) (hx : x ∈ h.ds) : aget (h.ds.map fun x => (x.nm, x)) x.nm = some x :=
  aget_nd _ _ _ (by rw [List.map_map]; exact ok.dn) (List.mem_map.mpr ⟨x, hx, rfl⟩)
theorem door_ (w d : Nat) (h : Hs) (ok : HsOk h) (x : Dr) (hx : x ∈ h.ds) : pd.F w (d + 1) 13 [.shr h.d, .shr (.str x.nm.s)] = some (.ret (.shr x.d) []) := by
  rw [F_House_door, i_House_door]
  have h1 := door_get h ok x hx
  have h2 : x.nm ∈ h.ds.map (·.nm) := List.mem_map.mpr ⟨x, hx, rfl⟩
  simp only [qs0, Hs.d, h1, h2, dD]
def letsR (h : Hs) (x : Dr) (t : Int) : Int := if t < h.fi ∨ h.la ≤ t then 0 else x.lets t
def LetsOk (n : Nat) (x : Dr) : Prop := (∀ t, 0 ≤ t → 0 ≤ x.lets t) ∧ ∀ (w d : Nat) (t : Int), 0 ≤ t ∧ t < 1000000000000000000 → pd.F w (d + n) (([10, 11, 12] : List Nat).getD (x.c - 7) 0) [.shr x.d, .shr (.int t)] = some (.ret (.shr (.int (x.lets t))) [])
theorem lets_ (w d k : Nat) (h : Hs) (ok : HsOk h) (hl : ∀ x ∈ h.ds, LetsOk k x) (hb : h.la < 1000000000000000000) (x : Dr) (hx : x ∈ h.ds) (t : Int) : pd.F w (d + k + 2) 32 [.shr h.d, .shr (.str x.nm.s), .shr (.int t)] = some (.ret (.shr (.int (letsR h x t))) []) := by
  rw [F_House_lets, i_House_lets]
  have h1 := door_ w (d + k) h ok x hx
  have hc := ok.dc x hx
  have h0 := ok.f0
  rw [Hs.d] at h1
  by_cases c1 : t < h.fi
  · have e : letsR h x t = 0 := by unfold letsR; rw [if_pos (.inl c1)]
    simp only [qs0, Hs.d, h1, c1, e]
  · by_cases c2 : h.la ≤ t
    · have e : letsR h x t = 0 := by unfold letsR; rw [if_pos (.inr c2)]
      simp only [qs0, Hs.d, h1, c1, c2, e]
    · have e : letsR h x t = x.lets t := by unfold letsR; rw [if_neg (by omega)]
      have h3 := (hl x hx).2 w (d + 1) t (by omega)
      rw [show d + 1 + k = d + k + 1 from by omega] at h3
      have hd : x.d = .ins x.c (.str x.nm.s :: .str x.st.s :: eD x.en :: x.ds) := rfl
      rw [hd] at h1 h3
      simp only [qs0, Hs.d, h1, c1, c2, e, hc, gm_F, h3]
def intoR (h : Hs) (n : Nm) : List Nm := (h.ds.filter fun x => decide (x.en = some n)).map (·.nm)
def fromR (h : Hs) (n : Nm) : List Nm := (h.ds.filter fun x => decide (x.st = n)).map (·.nm)
theorem fromR_len (h : Hs) (ok : HsOk h) (n : Nm) : (fromR h n).length ≤ 1000 := by
  have h1 := ok.dl
  have h2 := List.length_filter_le (fun x : Dr => decide (x.st = n)) h.ds
  rw [fromR, List.length_map]; omega
theorem intoR_len (h : Hs) (ok : HsOk h) (n : Nm) : (intoR h n).length ≤ 1000 := by
  have h1 := ok.dl
  have h2 := List.length_filter_le (fun x : Dr => decide (x.en = some n)) h.ds
  rw [intoR, List.length_map]; omega
theorem fromR_ (w d : Nat) (h : Hs) (ok : HsOk h) (n : Nm) (hn : n ∈ h.rs.map (·.1)) : pd.F w (d + 2) 23 [.shr h.d, .shr (.str n.s)] = some (.ret (.own (.pl (.lst ((fromR h n).map nmD)))) []) := by
  rw [F_House_from_room, i_House_from_room]
  have hs := sure_ w d h n hn
  have ld := ok.dl
  rw [Hs.d] at hs
  simp only [qs0, Hs.d, hs]
  rw [lc_e (fun x : Dr => R.shr (.tup [.str x.nm.s, dD x])) (fun x : Dr => decide (x.st = n)) (fun x => nmD x.nm) h.ds ?a ?b ?c]
  case a => rfl
  case b => omega
  case c =>
    intro x hx
    have hc := ok.dc x hx
    have e : (x.st.s = n.s) = (x.st = n) := propext ⟨Nm.inj, fun h => by rw [h]⟩
    simp only [qs0, lcStep, dD, Dr.d, nmD, e, hc]
    by_cases h : x.st = n <;> simp [h]
  simp only [qs0, fromR]
theorem eq_eD (e : Option Nm) (n : Nm) : eqD (eD e) (.str n.s) = some (decide (e = some n)) := by
  cases e with
  | none =>
    have : eqD (eD none) (.str n.s) = some false := (eqD_pln (b := .str n.s) (by simp [eD, pln]) (by simp [pln, n.ok])).2 (by simp [eD])
    rw [this]; simp
  | some m =>
    show eqD (.str m.s) (.str n.s) = _
    rw [e_str]
    by_cases h : m = n
    · simp [h]
    · have h2 : ¬ m.s = n.s := fun e => h (Nm.inj e)
      simp [h, h2]
theorem intoR_ (w d : Nat) (h : Hs) (ok : HsOk h) (n : Nm) (hn : n ∈ h.rs.map (·.1)) : pd.F w (d + 2) 33 [.shr h.d, .shr (.str n.s)] = some (.ret (.own (.pl (.lst ((intoR h n).map nmD)))) []) := by
  rw [F_House_into, i_House_into]
  have hs := sure_ w d h n hn
  have ld := ok.dl
  rw [Hs.d] at hs
  simp only [qs0, Hs.d, hs]
  rw [lc_e (fun x : Dr => R.shr (.tup [.str x.nm.s, dD x])) (fun x : Dr => decide (x.en = some n)) (fun x => nmD x.nm) h.ds ?a ?b ?c]
  case a => rfl
  case b => omega
  case c =>
    intro x hx
    have hc := ok.dc x hx
    simp only [qs0, lcStep, dD, Dr.d, nmD, eq_eD, hc]
    by_cases h : x.en = some n <;> simp [h]
  simp only [qs0, intoR]
def turnsR (h : Hs) : List Int := (List.range (h.la + 1 - h.fi).toNat).map fun k : Nat => h.fi + (k : Int)
def pairsR (h : Hs) : List Kr := (turnsR h).flatMap fun t => (h.rs.map (·.1)).map fun n => (n, t)
def krD (k : Kr) : D := .tup [.str k.1.s, .int k.2]
theorem pairs_ (w d : Nat) (h : Hs) (ok : HsOk h) (hb : h.la < 1000000000000000000) (hz : h.la - h.fi ≤ 1000) : pd.F w (d + 1) 21 [.shr h.d] = some (.ret (.own (.pl (.lst ((pairsR h).map krD)))) []) := by
  rw [F_House_pairs, i_House_pairs]
  have h0 := ok.f0
  have hr := ok.rl
  have h1 : -4611686018427387904 ≤ h.fi ∧ h.fi < 4611686018427387904 ∧ -4611686018427387904 ≤ h.la + 1 ∧ h.la + 1 < 4611686018427387904 := by omega
  simp only [qs0, Hs.d, h1]
  rw [for_a1 1 (fun k : Nat => R.shr (.int (h.fi + (k : Int)))) (fun done : List Nat => .own (.pl (.lst ((done.flatMap fun k : Nat => (h.rs.map (·.1)).map fun n => (n, h.fi + (k : Int))).map krD)))) (List.range (h.la + 1 - h.fi).toNat) ?a ?b ?h]
  case a => rfl
  case b => rfl
  case h =>
    intro done k rest e
    refine ⟨_, rfl, .inl ?_⟩
    have hd := done_len e
    rw [List.length_range] at hd
    have hl : (done.flatMap fun k : Nat => (h.rs.map (·.1)).map fun n => (n, h.fi + (k : Int))).length ≤ 1000 * done.length := by
      induction done with
      | nil => simp
      | cons x xs _ =>
        refine Nat.le_trans (Nat.le_of_eq (by rw [List.length_flatMap])) ?_
        have : ∀ l : List Nat, (l.map fun k : Nat => ((h.rs.map (·.1)).map fun n => (n, h.fi + (k : Int))).length).sum = h.rs.length * l.length := by
          intro l
          induction l with
          | nil => simp
          | cons y ys ih => rw [List.map_cons, List.sum_cons, ih]; simp [Nat.mul_succ]; omega
        rw [this]
        exact Nat.mul_le_mul_right _ hr
    rw [List.flatMap_append, List.map_append]
    generalize (done.flatMap fun k : Nat => (h.rs.map (·.1)).map fun n => (n, h.fi + (k : Int))) = P at hl
    have hl2 : P.length + h.rs.length ≤ 16777216 := by omega
    simp only [qs0]
    rw [lc_a (fun p : Nm × Int => R.shr (.str p.1.s)) (fun p => krD (p.1, h.fi + (k : Int))) h.rs ?a ?b ?c]
    case a => first | exact kd_keys iI h.rs | rfl
    case b => omega
    case c => intro p _; simp only [qs0, lcStep, krD]
    simp only [qs0, hl2, List.flatMap_cons, List.flatMap_nil]
  have e2 : ((List.range (h.la + 1 - h.fi).toNat).flatMap fun k : Nat => (h.rs.map (·.1)).map fun n => (n, h.fi + (k : Int))) = pairsR h := by
    unfold pairsR turnsR
    rw [List.flatMap_map]
  rw [e2]
  simp only [qs0]
theorem nd_map {α β : Type} (f : α → β) : ∀ {l : List α}, (∀ x ∈ l, ∀ y ∈ l, f x = f y → x = y) → l.Nodup → (l.map f).Nodup
  | [], _, _ => by simp
  | a :: l, h, nd => by
    rw [List.map_cons, List.nodup_cons]
    obtain ⟨n1, n2⟩ := List.nodup_cons.mp nd
    refine ⟨fun hm => ?_, nd_map f (fun x hx y hy => h x (List.mem_cons_of_mem _ hx) y (List.mem_cons_of_mem _ hy)) n2⟩
    obtain ⟨b, hb, e⟩ := List.mem_map.mp hm
    exact n1 ((h b (List.mem_cons_of_mem _ hb) a (List.mem_cons_self ..) e) ▸ hb)
theorem abc_mem (i : Nat) : abc.getD i 97 ∈ abc := by
  by_cases h : i < abc.length
  · have e : abc.getD i 97 = abc[i] := by simp [List.getD, List.getElem?_eq_getElem h]
    rw [e]; exact List.getElem_mem h
  · have e : abc.getD i 97 = 97 := by simp [List.getD, List.getElem?_eq_none (Nat.le_of_not_lt h)]
    rw [e]; decide
theorem abc_at (i : Nat) (h : i < 26) : L2.atI abc (i : Int) = some (abc.getD i 97) := by
  rw [at_nn _ (by omega)]
  have : i < abc.length := by rw [abc_len]; exact h
  simp [List.getD, List.getElem?_eq_getElem this]
def kDf : Nm := ⟨[97], by decide, by decide, by decide⟩
def pickR (rs : List (Nm × Int)) (i : Int) : Nm × Int := rs.getD (i % (rs.length : Int)).toNat (kDf, 0)
theorem at_rs (rs : List (Nm × Int)) (hr : 0 < rs.length) (i : Int) : L2.atI (rs.map rmD) (i % (rs.length : Int)) = some (rmD (pickR rs i)) :=
  at_modM rmD rs (kDf, 0) i rs.length rfl (by intro h; rw [h] at hr; exact absurd hr (by decide))
theorem pick_mem (rs : List (Nm × Int)) (hr : 0 < rs.length) (i : Int) : pickR rs i ∈ rs := getD_mod rs i _ rs.length rfl (by omega)
/-! names that a house has not -/
theorem kd_valx {v : Type} (ed : v → D) (m : List (Nm × v)) (x : Str) (h : ∀ p ∈ m, p.1.s ≠ x) : valD (kd ed m) (Sum.inr x) = none := by
  unfold valD
  rw [Option.map_eq_none_iff, List.find?_eq_none]
  intro q hq
  obtain ⟨p, hp, rfl⟩ := List.mem_map.mp hq
  simp only [decide_eq_true_eq]
  exact fun e => h p hp (Sum.inr.inj e)
theorem kd_inx {v : Type} (ed : v → D) (m : List (Nm × v)) (x : Str) (h : ∀ p ∈ m, p.1.s ≠ x) : inD (.str x) (.dk (kd ed m)) = some false := by
  show (match Q.getD (.dk (kd ed m)) (.str x) with
    | some o => some o.isSome
    | none => none) = _
  have : Q.getD (.dk (kd ed m)) (.str x) = some (valD (kd ed m) (Sum.inr x)) := rfl
  rw [this, kd_valx ed m x h]; rfl
theorem in_nms (x : Str) (hx : sok x = true) (ns : List Nm) : inD (.str x) (.lst (ns.map nmD)) = some (decide (x ∈ ns.map (·.s))) := by
  have h := inD_lst (α := {x : Str // sok x = true}) (f := fun y => D.str y.1) (fun a b e => Subtype.ext (D.str.inj e)) (fun y => by simp [pln, y.2]) ⟨x, hx⟩ (ns.map fun n => ⟨n.s, n.ok⟩)
  rw [List.map_map] at h
  refine Eq.trans h (congrArg some ?_)
  rw [decide_eq_decide, List.mem_map, List.mem_map]
  constructor
  · rintro ⟨n, hn, e⟩; exact ⟨n, hn, congrArg Subtype.val e⟩
  · rintro ⟨n, hn, e⟩; exact ⟨n, hn, Subtype.ext e⟩
theorem cutG_mem {α : Type} (l : List α) (lo hi : Option Int) (c : α) (h : c ∈ cutG l lo hi) : c ∈ l := List.mem_of_mem_drop (List.mem_of_mem_take h)
/-! what people's rows add up to -/
theorem ppl_nd (ps : List (Nm × Int)) : ((ppl ps).map (·.1)).Nodup := by
  have : ∀ (ps m : List (Nm × Int)), (m.map (·.1)).Nodup → ((ps.foldl (fun m p => aput m p.1 ((aget m p.1).getD 0 + p.2)) m).map (·.1)).Nodup := by
    intro ps
    induction ps with
    | nil => intro m h; exact h
    | cons p ps ih =>
      intro m h
      refine ih _ ?_
      rw [aput_keys]
      split
      · exact h
      · rename_i q
        rw [List.nodup_append]
        exact ⟨h, by simp, fun a ha b hb => by rw [List.mem_singleton.mp hb]; exact fun e => q (e ▸ ha)⟩
  exact this ps [] (by simp)
theorem ppl_key (ps : List (Nm × Int)) (n : Nm) : n ∈ (ppl ps).map (·.1) ↔ n ∈ ps.map (·.1) := by
  have : ∀ (ps m : List (Nm × Int)), n ∈ (ps.foldl (fun m p => aput m p.1 ((aget m p.1).getD 0 + p.2)) m).map (·.1) ↔ n ∈ m.map (·.1) ∨ n ∈ ps.map (·.1) := by
    intro ps
    induction ps with
    | nil => intro m; simp
    | cons p ps ih =>
      intro m
      rw [List.foldl_cons, ih, aput_keys]
      split
      · rename_i q
        refine ⟨fun h => h.imp_right (List.mem_cons_of_mem _), fun h => h.elim .inl fun h => ?_⟩
        rcases List.mem_cons.mp h with h | h
        · exact .inl (h ▸ q)
        · exact .inr h
      · rw [List.mem_append, List.mem_singleton, List.map_cons, List.mem_cons, or_assoc]
  have h := this ps []
  simpa [ppl] using h
def ofR (ps : List (Nm × Int)) (n : Nm) : Int := ((ps.filter fun p => decide (p.1 = n)).map (·.2)).sum
theorem ppl_get (ps : List (Nm × Int)) (n : Nm) : (aget (ppl ps) n).getD 0 = ofR ps n := by
  have : ∀ (ps m : List (Nm × Int)), (aget (ps.foldl (fun m p => aput m p.1 ((aget m p.1).getD 0 + p.2)) m) n).getD 0 = (aget m n).getD 0 + ofR ps n := by
    intro ps
    induction ps with
    | nil => intro m; simp [ofR]
    | cons p ps ih =>
      intro m
      rw [List.foldl_cons, ih, aget_put]
      by_cases h : n = p.1
      · rw [if_pos h]
        cases h
        simp [ofR, Int.add_assoc]
      · rw [if_neg h]
        have e : decide (p.1 = n) = false := decide_eq_false fun z => h z.symm
        simp [ofR, e]
  have h := this ps []
  rw [show aget ([] : List (Nm × Int)) n = none from rfl] at h
  simpa [ppl] using h
theorem ppl_mem (ps : List (Nm × Int)) {p : Nm × Int} (hp : p ∈ ppl ps) : p.2 = ofR ps p.1 ∧ p.1 ∈ ps.map (·.1) := by
  have h1 := aget_nd (ppl ps) p.1 p.2 (ppl_nd ps) hp
  refine ⟨?_, (ppl_key ps p.1).mp (List.mem_map.mpr ⟨p, hp, rfl⟩)⟩
  rw [← ppl_get, h1]; rfl
theorem ppl_in (ps : List (Nm × Int)) (n : Nm) (h : n ∈ ps.map (·.1)) : (n, ofR ps n) ∈ ppl ps := by
  obtain ⟨p, hp, rfl⟩ := List.mem_map.mp ((ppl_key ps n).mpr h)
  rw [← (ppl_mem ps hp).1]; exact hp
theorem ofR_app (a b : List (Nm × Int)) (n : Nm) : ofR (a ++ b) n = ofR a n + ofR b n := by simp [ofR, List.sum_append]
theorem ofR_cons (p : Nm × Int) (b : List (Nm × Int)) (n : Nm) : ofR (p :: b) n = (if p.1 = n then p.2 else 0) + ofR b n := by
  by_cases h : p.1 = n <;> simp [ofR, h]
theorem ofR_nil (n : Nm) : ofR [] n = 0 := rfl
theorem ofR_zero (ps : List (Nm × Int)) (h : ∀ p ∈ ps, p.2 = 0) (n : Nm) : ofR ps n = 0 := by
  induction ps with
  | nil => rfl
  | cons p ps ih =>
    rw [ofR_cons, ih fun q hq => h q (List.mem_cons_of_mem _ hq), h p (List.mem_cons_self ..)]
    split <;> rfl
theorem first_bad {α : Type} (P : α → Prop) : ∀ (l : List α), (∃ x ∈ l, ¬ P x) → ∃ pre x0 post, l = pre ++ x0 :: post ∧ (∀ x ∈ pre, P x) ∧ ¬ P x0
  | [], h => by obtain ⟨x, hx, _⟩ := h; cases hx
  | a :: l, h => by
    by_cases ha : P a
    · have h2 : ∃ x ∈ l, ¬ P x := by
        obtain ⟨x, hx, hn⟩ := h
        rcases List.mem_cons.mp hx with rfl | hx
        · exact absurd ha hn
        · exact ⟨x, hx, hn⟩
      obtain ⟨pre, x0, post, e, h3, h4⟩ := first_bad P l h2
      refine ⟨a :: pre, x0, post, by rw [e]; rfl, fun x hx => ?_, h4⟩
      rcases List.mem_cons.mp hx with rfl | hx
      · exact ha
      · exact h3 x hx
    · exact ⟨[], a, l, rfl, fun x hx => by (cases hx), ha⟩
theorem minL_neg (l : List Int) (h : ∃ x ∈ l, x < 0) : (minL l).getD 0 < 0 := by
  obtain ⟨x, hx, h0⟩ := h
  cases e : minL l with
  | none => cases l with
    | nil => cases hx
    | cons a l => simp [minL] at e
  | some m =>
    have := (minL_ok e).2 x hx
    show m < 0
    omega
theorem ofR_nd : ∀ (ps : List (Nm × Int)), (ps.map (·.1)).Nodup → ∀ p ∈ ps, ofR ps p.1 = p.2
  | [], _, p, hp => by cases hp
  | q :: ps, nd, p, hp => by
    rw [List.map_cons, List.nodup_cons] at nd
    rw [ofR_cons]
    have z : ∀ n, n ∉ ps.map (·.1) → ofR ps n = 0 := fun n hn => by
      unfold ofR
      rw [List.filter_eq_nil_iff.mpr fun r hr => by simp only [decide_eq_true_eq]; exact fun e => hn (List.mem_map.mpr ⟨r, hr, e⟩)]
      rfl
    rcases List.mem_cons.mp hp with rfl | hp
    · rw [if_pos rfl, z _ nd.1]; omega
    · have : ¬ q.1 = p.1 := fun e => nd.1 (by rw [e]; exact List.mem_map.mpr ⟨p, hp, rfl⟩)
      rw [if_neg this, ofR_nd ps nd.2 p hp]; omega
/-- people in rooms of their own, no more than each holds -/
theorem pm_nd (rs ps : List (Nm × Int)) (rn : (rs.map (·.1)).Nodup) (nd : (ps.map (·.1)).Nodup) (h : ∀ p ∈ ps, ∃ n, (p.1, n) ∈ rs ∧ p.2 ≤ n) : ∀ p ∈ ppl ps, ∃ n, aget rs p.1 = some n ∧ p.2 ≤ n := by
  intro p hp
  obtain ⟨h1, h2⟩ := ppl_mem ps hp
  obtain ⟨q, hq, e⟩ := List.mem_map.mp h2
  obtain ⟨n, hn, hle⟩ := h q hq
  rw [e] at hn
  refine ⟨n, aget_nd rs _ _ rn hn, ?_⟩
  rw [h1, ← e, ofR_nd ps nd q hq]
  exact hle
theorem binit_Door (w d : Nat) (a b : Nm) (e : Option Nm) (n : Int) (h : 0 ≤ n) : i_Door___init__.run (pd.gm (pd.F w (d + 2)) w) [.own (.ins 7 []), .shr (.str a.s), .shr (.str b.s), .shr (eD e), .shr (.int n)] = some (.ret (.shr .non) [.ins 7 [.lf (.str a.s), .lf (.str b.s), .lf (eD e), .lf (.int n)]]) := by
  rw [i_Door___init__]
  cases e <;> simp only [qs0, nm_, num_, h, eD]
theorem binit_Until (w d : Nat) (a b : Nm) (e : Option Nm) (n : Int) (h : 0 ≤ n) : i_Door___init__.run (pd.gm (pd.F w (d + 2)) w) [.own (.ins 8 []), .shr (.str a.s), .shr (.str b.s), .shr (eD e), .shr (.int n)] = some (.ret (.shr .non) [.ins 8 [.lf (.str a.s), .lf (.str b.s), .lf (eD e), .lf (.int n)]]) := by
  rw [i_Door___init__]
  cases e <;> simp only [qs0, nm_, num_, h, eD]
theorem binit_Marked (w d : Nat) (a b : Nm) (e : Option Nm) (n : Int) (h : 0 ≤ n) : i_Door___init__.run (pd.gm (pd.F w (d + 2)) w) [.own (.ins 9 []), .shr (.str a.s), .shr (.str b.s), .shr (eD e), .shr (.int n)] = some (.ret (.shr .non) [.ins 9 [.lf (.str a.s), .lf (.str b.s), .lf (eD e), .lf (.int n)]]) := by
  rw [i_Door___init__]
  cases e <;> simp only [qs0, nm_, num_, h, eD]
theorem init_Until (w d : Nat) (a b : Nm) (e : Option Nm) (n s : Int) (h : 0 ≤ n) (hs : 0 ≤ s) : pd.F w (d + 4) 24 [.own (.ins 8 []), .shr (.str a.s), .shr (.str b.s), .shr (eD e), .shr (.int n), .shr (.int s)] = some (.ret (.shr .non) [.ins 8 [.lf (.str a.s), .lf (.str b.s), .lf (eD e), .lf (.int n), .lf (.int s)]]) := by
  rw [F_Until___init__, i_Until___init__]
  have hb := fun d => binit_Until w d a b e n h
  simp only [← F_Door___init__] at hb
  simp only [qs0, num_, h, hs, hb]
theorem init_Marked (w d : Nat) (a b : Nm) (e : Option Nm) (n s : Int) (h : 0 ≤ n) (hs : 0 ≤ s) : pd.F w (d + 4) 25 [.own (.ins 9 []), .shr (.str a.s), .shr (.str b.s), .shr (eD e), .shr (.int n), .shr (.int s)] = some (.ret (.shr .non) [.ins 9 [.lf (.str a.s), .lf (.str b.s), .lf (eD e), .lf (.int n), .lf (.int s)]]) := by
  rw [F_Marked___init__, i_Marked___init__]
  have hb := fun d => binit_Marked w d a b e n h
  simp only [← F_Door___init__] at hb
  simp only [qs0, num_, h, hs, hb]
theorem lets_Door (w d : Nat) (a b : Nm) (e : Option Nm) (n t : Int) : pd.F w (d + 1) 10 [.shr (.ins 7 [.str a.s, .str b.s, eD e, .int n]), .shr (.int t)] = some (.ret (.shr (.int n)) []) := by
  rw [F_Door_lets, i_Door_lets]
  simp only [qs0]
theorem lets_Until (w d : Nat) (a b : Nm) (e : Option Nm) (n s t : Int) : pd.F w (d + 1) 11 [.shr (.ins 8 [.str a.s, .str b.s, eD e, .int n, .int s]), .shr (.int t)] = some (.ret (.shr (.int (if t < s then n else 0))) []) := by
  rw [F_Until_lets, i_Until_lets]
  by_cases h : t < s <;> simp only [qs0, h]
def markL (n s t : Int) : Int := n * (s / 2 ^ t.toNat % 2)
theorem lets_Marked (w d : Nat) (a b : Nm) (e : Option Nm) (n s t : Int) (ht : 0 ≤ t) : pd.F w (d + 1) 12 [.shr (.ins 9 [.str a.s, .str b.s, eD e, .int n, .int s]), .shr (.int t)] = some (.ret (.shr (.int (markL n s t))) []) := by
  rw [F_Marked_lets, i_Marked_lets]
  have hb : -18446744073709551616 < s / 2 ^ t.toNat % 2 ∧ s / 2 ^ t.toNat % 2 < 18446744073709551616 := by omega
  simp only [qs0, ht, PyProof.Rows.bitAnd_m1, hb, markL]
theorem markL_nn (n s t : Int) (hn : 0 ≤ n) : 0 ≤ markL n s t := by
  unfold markL
  exact Int.mul_nonneg hn (by omega)
end k22

end

section
set_option Elab.async false
set_option linter.all false
set_option maxRecDepth 100000
set_option maxHeartbeats 1000000
namespace k22
open PySem PySem.Spec Q
local macro_rules | `(tactic| simp only [qs0]) => `(tactic| simp only [ev_var, ev_cst, ev_glo, ev_bin, ev_neg, ev_cmp, ev_chn, ev_bo, ev_not, ev_ife, ev_tup, ev_lst, ev_dnew, ev_sub, ev_slc, ev_slc3, ev_fld, ev_call, ev_mth, ev_mk, ev_blt, ev_bm, ev_isi, ev_dget, ev_lc, evs_nil, evs_cons, evo_no, evo_so, evc_no, evc_so, evI_any, evI_r1, evI_r2, evI_vs, evI_its, evP_nm, evP_fld, evP_sub, evA_e, evA_mv, evA_iom, evA_ioi, evA_iof, evS_asg, evS_asgLc, evS_asgT, evS_ex, evS_asgA, evS_exA, evS_retA, evS_ret, evS_retN, evS_retv, evS_pass, evS_brk, evS_cnt, evS_doc, evS_if, evS_whl, evS_for, evS_app, evS_ext, evS_clr, evS_put, evS_fset, evS_aug, evS_augs, evSs_nil, evSs_cons, evSs_frz, evSs_fgt, so_nx, so_rt, so_bk, so_ct, so_ex, if_t, if_f, if_b, if_x, ir_t, ir_f, ir_b, bo_1, bo_n, bo_tt, bo_tf, bo_ft, bo_ff, bo_x, bo_an, bo_or, ite_bl, ite_ff, ite_tt, Bool.not_eq_true', decide_eq_false_iff_not, ite_not, Bool.and_eq_true, Bool.or_eq_true, Bool.decide_eq_true, FnI.run, FnI.N, FnI.np, FnI.io, FnI.body, x_ok, x_ex, x_some, x_nok, o_ok, o_ex, a_ok, a_ex, ra_ok, ra_ex, g_shr, g_own, g_tmp, g_suc, w_own, w_shr, w_tmp, w_suc, sto_shr, sto_own, sto_tmp, asg_ok, ret_shr, ret_own, retT, rDt_, rDk_, frz_own, frz_shr, frz_tmp, frz_non, frz_suc, fgt_, R.sh, T.sh, R.tr, T.kids, T.withKids, sh_shr, sh_own, sh_tmp, sh_vw, d_shr, d_own, d_tmp, d_vw, T_pl, T_lf, T.d, T.ds, bl_, rI_, rS_, rB_, rL_, kid_shr, kid_own, kids_nil, kids_cons, cmp_, not_, int_, tup_, lst_, arg_shr, arg_own, arg_vw, arg_tmp, call_e, mk_e, end_nx, end_rt, end_ex, outs_nil, outs_cons, b_sh, b_add, b_sub, b_mulr, b_mull, b_fdiv, b_mod, b_pow', b_shl', b_shr, Int.reduceToNat, Int.reduceMod, Int.reduceDiv, Int.reduceEq, Int.reduceNe, b_and, b_xor, b_app, b_tup, c_lt, c_le, c_gt, c_ge, c_eq, c_ne, c_in, c_nin, c_is, c_isn, c_slt, e_int, e_str, e_bl, is_bl, is_non, is_int, is_str, is_lst, is_ins, Blt.F, Bm.F, len_s1, len_o1, len_t1, len_v1, len_s2, len_s3, len_v2, len_t2, len_dk, len_dt, lst1_lst, lst1_tup, sub_sh, s_lst, s_tup, s_scr, s_dk, s_dt, slc_sh, sl_lst, sl_tup, sl_scr, at_i2, at_i3, at_i4, at_i5, at_i6, at_i7, at_i8, at_i9, at_i10, at_i11, at_i12, at_i13, at_0, at_1, at_2, at_3, any_sl, any_ol, any_tl, any_st, any_ss, any_sk, any_sT, any_tk, any_tT, map_map, kD_l, kD_r, rng1_s, rng2_s, slc3_l, size_, any_S, in_S, len_S, sl_S, s_S, b_S, e_S, at_abc, abc_s, abc_len, Int.emod_nonneg, ch_ll, ch_lt, ch_tl, ch_tt, all_b, any_b, sum_i, int_b, max_, min_, divmod_, b_rep, String.reduceEq, cut_to, cut_from, cut_mid, cut_all, List.take_succ_cons, List.take_zero, List.drop_succ_cons, List.drop_zero, ne_eq, not_false_eq_true, isVw, isOwn, ios, iosF, Tg.F, Tgs.F, Tgs.len, nmF, consF, nilF, tupF, unpD, chi, rec_s, rec_own_i, rec_own_l, rec_own_p, rec_tmp_i, rec_tmp_l, rec_tmp_p, rec_vw_i, rec_vw_l, rec_vw_p, fld_s, fld_own_i, fld_own_l, fld_own_p, fld_tmp_i, fld_tmp_l, fld_tmp_p, fld_vw_i, fld_vw_l, fld_vw_p, isiR, tyD, beq_self_eq_true, tyO, tyR, Bm.T, strsD, Tk.kit, partT, T.at_, T.put, putP, aE, aMv, shareR, appF, extF, clrF, plLst, childT, putT, putF1, keyD, keysD, fsetT, augF, augI, augPre, augsF, noVw, ioX, ioA, insC, insO, pfldR, psubR, dkO, dgetR, bor, borR, wipeR, Q.getD, lcStep, L2.ixN, Int.cast_ofNat_Int, List.set_cons_succ, List.set_cons_zero, List.length_cons, List.length_nil, List.length_map, List.length_range, List.length_set, List.map_cons, List.map_nil, List.cons_append, List.getElem?_cons_succ, List.getElem?_cons_zero, List.nil_append, List.append_nil, List.replicate, List.flatten_cons, List.flatten_nil, List.set, List.getD_cons_zero, List.getD_cons_succ, List.foldr, Option.bind_some, Option.bind_none, Option.map_some, Option.map_none, Option.some.injEq, Option.getD_some, Option.getD_none, Nat.reduceAdd, Nat.reduceMul, Nat.reduceSub, Nat.reduceLT, Nat.reduceLeDiff, Nat.reduceBEq, reduceCtorEq, reduceIte, decide_eq_true_eq, if_true, if_false, ite_true, ite_false, decide_true, decide_false, and_true, true_and, and_self, or_true, true_or, or_false, false_or, false_and, and_false, or_self, Bool.false_eq_true, Bool.not_true, Bool.not_false, Bool.and_self, Bool.true_and, Bool.and_true, Bool.false_and, Bool.and_false, Bool.or_self, Bool.true_or, Bool.or_true, Bool.false_or, Bool.or_false, Int.reduceLT, Int.reduceLE, Int.reducePow, Int.reduceNeg, Int.reduceAdd, Int.reduceMul, Int.reduceSub, Nat.reducePow, id_eq, D.lst.injEq, D.scr.injEq, D.tup.injEq, D.dk.injEq, D.dt.injEq, D.str.injEq, D.int.injEq, D.ins.injEq, D.bl.injEq, ev_skeys, ev_dtre, evS_sw2, sw2F, evSs_frf, frfF, ev_lvals, ev_svals, ev_mind, ev_dis1, ev_isX, ev_xnm, evI_en, evI_r3, evS_rse, evS_rse1, evS_try, dis1R, keyD, flatD, lvalsR, svalsR, its_s, its_t, vls_s, vls_t, mind_o, kd_len, kd_put, kd_val, kd_in, kd_sub, kd_dget, kd_keys, kd_its, kd_vals, map_id_, kt_len, kt_put, kt_val, kt_sub, kt_dget, at_last, neg_, its_sT, its_tT, its_oT, its_o, kt_its, kt_keys, enum_Is, enum_Io, rng3_dn, kr_len, kr_put, kr_val, kr_sub, kr_keys, b_repS, rse_s, rse_x, try_nx, try_bk, try_ct, try_rt, try_ex, sut_0, sut_1, del_nx, del_bk, del_ct, del_rt, at_xa, at_xs, at_fn, at_glo, mark_at, xcT_, xnT_, forall_const, imp_self, implies_true, l_LETTERS, l_MOST_LETTERS, g_isi_7_7, g_isi_7_8, g_isi_7_9, g_isi_7_10, g_isi_8_7, g_isi_8_8, g_isi_8_9, g_isi_8_10, g_isi_9_7, g_isi_9_8, g_isi_9_9, g_isi_9_10, g_isi_10_7, g_isi_10_8, g_isi_10_9, g_isi_10_10, g_xs_0, g_xs_0_0, g_xs_0_1, g_xs_0_2, g_xs_0_3, g_xs_0_4, g_xs_0_5, g_xs_0_6, g_xs_1, g_xs_1_0, g_xs_1_1, g_xs_1_2, g_xs_1_3, g_xs_1_4, g_xs_1_5, g_xs_1_6, g_xs_2, g_xs_2_0, g_xs_2_1, g_xs_2_2, g_xs_2_3, g_xs_2_4, g_xs_2_5, g_xs_2_6, g_xs_3, g_xs_3_0, g_xs_3_1, g_xs_3_2, g_xs_3_3, g_xs_3_4, g_xs_3_5, g_xs_3_6, g_xs_4, g_xs_4_0, g_xs_4_1, g_xs_4_2, g_xs_4_3, g_xs_4_4, g_xs_4_5, g_xs_4_6, g_xs_5, g_xs_5_0, g_xs_5_1, g_xs_5_2, g_xs_5_3, g_xs_5_4, g_xs_5_5, g_xs_5_6, g_xs_6, g_xs_6_0, g_xs_6_1, g_xs_6_2, g_xs_6_3, g_xs_6_4, g_xs_6_5, g_xs_6_6, g_law, g__law_house, g__law_plan, g__law_due, g_faults, g__law_cell_at, g__law_door, g__law_drawn, g_House___init__, g_House_doors, g_Door_lets, g_Until_lets, g_Marked_lets, g_House_door, g__law_gone, g_House_rooms, g_House_found, g_House_holds, g_summed, g_let_by, g_there, g_House_pairs, g_gone, g_House_from_room, g_Until___init__, g_Marked___init__, g_Door___init__, g_refuse_twice, g_refuse_strange, g_Door_is_exit, g_House_refuse_numbers, g_House_sure, g_House_lets, g_House_into, g_numbered, g_named, g_is_whole, g_is_name, g_Twice___init__, g_NoRoom___init__, g_Unknown___init__])
local macro_rules | `(tactic| simp only [qs0, $args,*]) => `(tactic| simp only [$args,*, ev_var, ev_cst, ev_glo, ev_bin, ev_neg, ev_cmp, ev_chn, ev_bo, ev_not, ev_ife, ev_tup, ev_lst, ev_dnew, ev_sub, ev_slc, ev_slc3, ev_fld, ev_call, ev_mth, ev_mk, ev_blt, ev_bm, ev_isi, ev_dget, ev_lc, evs_nil, evs_cons, evo_no, evo_so, evc_no, evc_so, evI_any, evI_r1, evI_r2, evI_vs, evI_its, evP_nm, evP_fld, evP_sub, evA_e, evA_mv, evA_iom, evA_ioi, evA_iof, evS_asg, evS_asgLc, evS_asgT, evS_ex, evS_asgA, evS_exA, evS_retA, evS_ret, evS_retN, evS_retv, evS_pass, evS_brk, evS_cnt, evS_doc, evS_if, evS_whl, evS_for, evS_app, evS_ext, evS_clr, evS_put, evS_fset, evS_aug, evS_augs, evSs_nil, evSs_cons, evSs_frz, evSs_fgt, so_nx, so_rt, so_bk, so_ct, so_ex, if_t, if_f, if_b, if_x, ir_t, ir_f, ir_b, bo_1, bo_n, bo_tt, bo_tf, bo_ft, bo_ff, bo_x, bo_an, bo_or, ite_bl, ite_ff, ite_tt, Bool.not_eq_true', decide_eq_false_iff_not, ite_not, Bool.and_eq_true, Bool.or_eq_true, Bool.decide_eq_true, FnI.run, FnI.N, FnI.np, FnI.io, FnI.body, x_ok, x_ex, x_some, x_nok, o_ok, o_ex, a_ok, a_ex, ra_ok, ra_ex, g_shr, g_own, g_tmp, g_suc, w_own, w_shr, w_tmp, w_suc, sto_shr, sto_own, sto_tmp, asg_ok, ret_shr, ret_own, retT, rDt_, rDk_, frz_own, frz_shr, frz_tmp, frz_non, frz_suc, fgt_, R.sh, T.sh, R.tr, T.kids, T.withKids, sh_shr, sh_own, sh_tmp, sh_vw, d_shr, d_own, d_tmp, d_vw, T_pl, T_lf, T.d, T.ds, bl_, rI_, rS_, rB_, rL_, kid_shr, kid_own, kids_nil, kids_cons, cmp_, not_, int_, tup_, lst_, arg_shr, arg_own, arg_vw, arg_tmp, call_e, mk_e, end_nx, end_rt, end_ex, outs_nil, outs_cons, b_sh, b_add, b_sub, b_mulr, b_mull, b_fdiv, b_mod, b_pow', b_shl', b_shr, Int.reduceToNat, Int.reduceMod, Int.reduceDiv, Int.reduceEq, Int.reduceNe, b_and, b_xor, b_app, b_tup, c_lt, c_le, c_gt, c_ge, c_eq, c_ne, c_in, c_nin, c_is, c_isn, c_slt, e_int, e_str, e_bl, is_bl, is_non, is_int, is_str, is_lst, is_ins, Blt.F, Bm.F, len_s1, len_o1, len_t1, len_v1, len_s2, len_s3, len_v2, len_t2, len_dk, len_dt, lst1_lst, lst1_tup, sub_sh, s_lst, s_tup, s_scr, s_dk, s_dt, slc_sh, sl_lst, sl_tup, sl_scr, at_i2, at_i3, at_i4, at_i5, at_i6, at_i7, at_i8, at_i9, at_i10, at_i11, at_i12, at_i13, at_0, at_1, at_2, at_3, any_sl, any_ol, any_tl, any_st, any_ss, any_sk, any_sT, any_tk, any_tT, map_map, kD_l, kD_r, rng1_s, rng2_s, slc3_l, size_, any_S, in_S, len_S, sl_S, s_S, b_S, e_S, at_abc, abc_s, abc_len, Int.emod_nonneg, ch_ll, ch_lt, ch_tl, ch_tt, all_b, any_b, sum_i, int_b, max_, min_, divmod_, b_rep, String.reduceEq, cut_to, cut_from, cut_mid, cut_all, List.take_succ_cons, List.take_zero, List.drop_succ_cons, List.drop_zero, ne_eq, not_false_eq_true, isVw, isOwn, ios, iosF, Tg.F, Tgs.F, Tgs.len, nmF, consF, nilF, tupF, unpD, chi, rec_s, rec_own_i, rec_own_l, rec_own_p, rec_tmp_i, rec_tmp_l, rec_tmp_p, rec_vw_i, rec_vw_l, rec_vw_p, fld_s, fld_own_i, fld_own_l, fld_own_p, fld_tmp_i, fld_tmp_l, fld_tmp_p, fld_vw_i, fld_vw_l, fld_vw_p, isiR, tyD, beq_self_eq_true, tyO, tyR, Bm.T, strsD, Tk.kit, partT, T.at_, T.put, putP, aE, aMv, shareR, appF, extF, clrF, plLst, childT, putT, putF1, keyD, keysD, fsetT, augF, augI, augPre, augsF, noVw, ioX, ioA, insC, insO, pfldR, psubR, dkO, dgetR, bor, borR, wipeR, Q.getD, lcStep, L2.ixN, Int.cast_ofNat_Int, List.set_cons_succ, List.set_cons_zero, List.length_cons, List.length_nil, List.length_map, List.length_range, List.length_set, List.map_cons, List.map_nil, List.cons_append, List.getElem?_cons_succ, List.getElem?_cons_zero, List.nil_append, List.append_nil, List.replicate, List.flatten_cons, List.flatten_nil, List.set, List.getD_cons_zero, List.getD_cons_succ, List.foldr, Option.bind_some, Option.bind_none, Option.map_some, Option.map_none, Option.some.injEq, Option.getD_some, Option.getD_none, Nat.reduceAdd, Nat.reduceMul, Nat.reduceSub, Nat.reduceLT, Nat.reduceLeDiff, Nat.reduceBEq, reduceCtorEq, reduceIte, decide_eq_true_eq, if_true, if_false, ite_true, ite_false, decide_true, decide_false, and_true, true_and, and_self, or_true, true_or, or_false, false_or, false_and, and_false, or_self, Bool.false_eq_true, Bool.not_true, Bool.not_false, Bool.and_self, Bool.true_and, Bool.and_true, Bool.false_and, Bool.and_false, Bool.or_self, Bool.true_or, Bool.or_true, Bool.false_or, Bool.or_false, Int.reduceLT, Int.reduceLE, Int.reducePow, Int.reduceNeg, Int.reduceAdd, Int.reduceMul, Int.reduceSub, Nat.reducePow, id_eq, D.lst.injEq, D.scr.injEq, D.tup.injEq, D.dk.injEq, D.dt.injEq, D.str.injEq, D.int.injEq, D.ins.injEq, D.bl.injEq, ev_skeys, ev_dtre, evS_sw2, sw2F, evSs_frf, frfF, ev_lvals, ev_svals, ev_mind, ev_dis1, ev_isX, ev_xnm, evI_en, evI_r3, evS_rse, evS_rse1, evS_try, dis1R, keyD, flatD, lvalsR, svalsR, its_s, its_t, vls_s, vls_t, mind_o, kd_len, kd_put, kd_val, kd_in, kd_sub, kd_dget, kd_keys, kd_its, kd_vals, map_id_, kt_len, kt_put, kt_val, kt_sub, kt_dget, at_last, neg_, its_sT, its_tT, its_oT, its_o, kt_its, kt_keys, enum_Is, enum_Io, rng3_dn, kr_len, kr_put, kr_val, kr_sub, kr_keys, b_repS, rse_s, rse_x, try_nx, try_bk, try_ct, try_rt, try_ex, sut_0, sut_1, del_nx, del_bk, del_ct, del_rt, at_xa, at_xs, at_fn, at_glo, mark_at, xcT_, xnT_, forall_const, imp_self, implies_true, l_LETTERS, l_MOST_LETTERS, g_isi_7_7, g_isi_7_8, g_isi_7_9, g_isi_7_10, g_isi_8_7, g_isi_8_8, g_isi_8_9, g_isi_8_10, g_isi_9_7, g_isi_9_8, g_isi_9_9, g_isi_9_10, g_isi_10_7, g_isi_10_8, g_isi_10_9, g_isi_10_10, g_xs_0, g_xs_0_0, g_xs_0_1, g_xs_0_2, g_xs_0_3, g_xs_0_4, g_xs_0_5, g_xs_0_6, g_xs_1, g_xs_1_0, g_xs_1_1, g_xs_1_2, g_xs_1_3, g_xs_1_4, g_xs_1_5, g_xs_1_6, g_xs_2, g_xs_2_0, g_xs_2_1, g_xs_2_2, g_xs_2_3, g_xs_2_4, g_xs_2_5, g_xs_2_6, g_xs_3, g_xs_3_0, g_xs_3_1, g_xs_3_2, g_xs_3_3, g_xs_3_4, g_xs_3_5, g_xs_3_6, g_xs_4, g_xs_4_0, g_xs_4_1, g_xs_4_2, g_xs_4_3, g_xs_4_4, g_xs_4_5, g_xs_4_6, g_xs_5, g_xs_5_0, g_xs_5_1, g_xs_5_2, g_xs_5_3, g_xs_5_4, g_xs_5_5, g_xs_5_6, g_xs_6, g_xs_6_0, g_xs_6_1, g_xs_6_2, g_xs_6_3, g_xs_6_4, g_xs_6_5, g_xs_6_6, g_law, g__law_house, g__law_plan, g__law_due, g_faults, g__law_cell_at, g__law_door, g__law_drawn, g_House___init__, g_House_doors, g_Door_lets, g_Until_lets, g_Marked_lets, g_House_door, g__law_gone, g_House_rooms, g_House_found, g_House_holds, g_summed, g_let_by, g_there, g_House_pairs, g_gone, g_House_from_room, g_Until___init__, g_Marked___init__, g_Door___init__, g_refuse_twice, g_refuse_strange, g_Door_is_exit, g_House_refuse_numbers, g_House_sure, g_House_lets, g_House_into, g_numbered, g_named, g_is_whole, g_is_name, g_Twice___init__, g_NoRoom___init__, g_Unknown___init__])
theorem summed_ (w d : Nat) (rs : List PRow) (hl : rs.length ≤ 1000000) : pd.F w (d + 1) 18 [.shr (.lst (rs.map rowD))] = some (.ret (.own (.pl (.dt (kt iI (sums rs))))) []) := by
  rw [F_summed, i_summed]
  simp only [qs0]
  rw [for_p (fun r : PRow => R.shr (rowD r)) (fun done : List PRow => [some (.shr (.lst (rs.map rowD))), some (.own (.pl (.dt (kt iI (sums done))))), none, none, none]) rs ?a ?b ?h]
  case a => rfl
  case b => rfl
  case h =>
    intro done x rest e
    refine ⟨_, rfl, .inl ?_⟩
    have h4 : (sums done).length < 16777216 := by
      have h6 := congrArg List.length e
      simp only [List.length_append, List.length_cons] at h6
      have := sums_len done
      omega
    have h6 : putD (kt iI (sums done)) [Sum.inl x.1, Sum.inr x.2.1.s] (.int ((aget (sums done) (x.1, x.2.1)).getD 0 + x.2.2)) = kt iI (sums (done ++ [x])) := by
      rw [sums_app]; exact kt_put iI (sums done) x.1 x.2.1 _
    have h7 : ((aget (sums done) (x.1, x.2.1)).map iI).getD (.int 0) = .int ((aget (sums done) (x.1, x.2.1)).getD 0) := by
      cases aget (sums done) (x.1, x.2.1) <;> rfl
    simp only [qs0, rowD, h4, h6, h7]
  simp only [qs0]
def goneR (rs : List PRow) (t : Int) (ns : List Nm) : Int := (ns.map fun n => many rs t n).sum
theorem gone_ (w d : Nat) (rs : List PRow) (t : Int) (ns : List Nm) (hl : ns.length ≤ 1000000) : pd.F w (d + 1) 22 [.shr (.dt (kt iI (sums rs))), .shr (.int t), .shr (.lst (ns.map nmD))] = some (.ret (.shr (.int (goneR rs t ns))) []) := by
  rw [F_gone, i_gone]
  simp only [qs0]
  rw [lc_a (fun n : Nm => R.shr (nmD n)) (fun n => .int (many rs t n)) ns ?a ?b ?c]
  case a => rfl
  case b => omega
  case c =>
    intro n _
    have h7 : ((aget (sums rs) (t, n)).map iI).getD (.int 0) = .int (many rs t n) := by
      rw [← sums_get]; cases aget (sums rs) (t, n) <;> rfl
    simp only [qs0, lcStep, nmD, h7]
  simp only [qs0, goneR]
/-! ### who is there -/
def rooR (h : Hs) : List Nm := h.rs.map (·.1)
def inR (h : Hs) (rs : List PRow) (n : Nm) : Nat → Int
  | 0 => foundR h n
  | k + 1 => inR h rs n k - goneR rs (h.fi + (k : Int)) (fromR h n) + goneR rs (h.fi + (k : Int)) (intoR h n)
def blkR (h : Hs) (rs : List PRow) (j : Nat) : List (Kr × Int) := (rooR h).map fun n => ((n, h.fi + (j : Int)), inR h rs n j)
def tabR (h : Hs) (rs : List PRow) (m : Nat) : List (Kr × Int) := (List.range m).flatMap (blkR h rs)
def thereR (h : Hs) (rs : List PRow) : List (Kr × Int) := tabR h rs ((h.la - h.fi).toNat + 1)
theorem aget_blk (f : Nm → Int) (t t0 : Int) (n0 : Nm) : ∀ ns : List Nm, aget (ns.map fun n => ((n, t), f n)) (n0, t0) = if n0 ∈ ns ∧ t0 = t then some (f n0) else none
  | [] => by simp [aget_nil]
  | n :: ns => by
    rw [List.map_cons, aget_cons, aget_blk f t t0 n0 ns]
    by_cases h1 : n = n0
    · subst h1
      by_cases h2 : t0 = t
      · subst h2; simp
      · have : ¬ t = t0 := fun e => h2 e.symm
        simp [h2, this]
    · have : ¬ n0 = n := fun e => h1 e.symm
      simp [h1, this]
theorem aget_tab (h : Hs) (rs : List PRow) (n0 : Nm) (t0 : Int) : ∀ m, aget (tabR h rs m) (n0, t0) = if n0 ∈ rooR h ∧ h.fi ≤ t0 ∧ t0 < h.fi + (m : Int) then some (inR h rs n0 (t0 - h.fi).toNat) else none
  | 0 => by
    have : ¬ (n0 ∈ rooR h ∧ h.fi ≤ t0 ∧ t0 < h.fi + ((0 : Nat) : Int)) := by omega
    rw [if_neg this]; rfl
  | m + 1 => by
    have e : tabR h rs (m + 1) = tabR h rs m ++ blkR h rs m := by simp [tabR, List.range_succ]
    rw [e, aget_append, aget_tab h rs n0 t0 m, blkR, aget_blk (fun n => inR h rs n m)]
    by_cases h1 : n0 ∈ rooR h
    · by_cases h2 : h.fi ≤ t0 ∧ t0 < h.fi + (m : Int)
      · have h3 : h.fi ≤ t0 ∧ t0 < h.fi + ((m + 1 : Nat) : Int) := by omega
        rw [if_pos ⟨h1, h2⟩, if_pos (show n0 ∈ rooR h ∧ h.fi ≤ t0 ∧ t0 < h.fi + ((m + 1 : Nat) : Int) from ⟨h1, h3⟩)]; rfl
      · rw [if_neg (fun z => h2 z.2)]
        by_cases h4 : t0 = h.fi + (m : Int)
        · have h3 : h.fi ≤ t0 ∧ t0 < h.fi + ((m + 1 : Nat) : Int) := by omega
          have h5 : (t0 - h.fi).toNat = m := by omega
          rw [if_pos ⟨h1, h4⟩, if_pos ⟨h1, h3⟩, h5]; rfl
        · rw [if_neg (fun z => h4 z.2), if_neg (fun z => by omega)]; rfl
    · rw [if_neg (fun z => h1 z.1), if_neg (fun z => h1 z.1), if_neg (fun z => h1 z.1)]; rfl
theorem tabR_len (h : Hs) (rs : List PRow) : ∀ m, (tabR h rs m).length = h.rs.length * m
  | 0 => rfl
  | m + 1 => by
    have e : tabR h rs (m + 1) = tabR h rs m ++ blkR h rs m := by simp [tabR, List.range_succ]
    rw [e, List.length_append, tabR_len h rs m, blkR, List.length_map, rooR, List.length_map, Nat.mul_succ]
theorem there_ (w d : Nat) (h : Hs) (ok : HsOk h) (hb : h.la < 1000000000000000000) (hz : h.la - h.fi ≤ 1000) (rs : List PRow) (hl : rs.length ≤ 1000000) :
    pd.F w (d + 3) 20 [.shr h.d, .shr (.lst (rs.map rowD))] = some (.ret (.own (.pl (.dt (kr iI (thereR h rs))))) []) := by
  rw [F_there, i_there]
  have h0 := ok.f0
  have hr := ok.rl
  have hsm := summed_ w (d + 1) rs hl
  have hro := rooms_ w (d + 1) h
  have hz1 : -4611686018427387904 ≤ h.fi ∧ h.fi < 4611686018427387904 ∧ -4611686018427387904 ≤ h.la ∧ h.la < 4611686018427387904 := by omega
  have hfi : fldR 0 10 (10 + 1) (.shr h.d) = some (.shr (.int h.fi)) := rfl
  have hla : fldR 1 10 (10 + 1) (.shr h.d) = some (.shr (.int h.la)) := rfl
  have hrc : recC 10 (10 + 1) (.shr h.d) = some 10 := rfl
  simp only [Nat.reduceAdd] at hfi hla hrc
  have ef : (h.rs.map (·.1)) = rooR h := rfl
  rw [ef] at hro
  simp only [qs0, hsm, hro, hrc, Nat.sub_self]
  rw [for_a1 3 (fun n : Nm => R.shr (nmD n)) (fun done : List Nm => .own (.pl (.dt (kr iI (done.map fun n => ((n, h.fi), foundR h n)))))) (rooR h) ?a ?b ?h]
  case a => rfl
  case b => rfl
  case h =>
    intro done n rest e
    refine ⟨_, rfl, .inl ?_⟩
    have hn : n ∈ h.rs.map (·.1) := done_mem e
    have nd := ok.rn
    have hnd : n ∉ done := fun z => by
      rw [show h.rs.map (·.1) = done ++ n :: rest from e] at nd
      exact (List.nodup_append.mp nd).2.2 n z n (List.mem_cons_self ..) rfl
    have hf := found_ w d h n hn
    have hd := done_len e
    have hdl : done.length < 16777216 := by rw [rooR, List.length_map] at hd; omega
    have h4 : aput (done.map fun n => ((n, h.fi), foundR h n)) (n, h.fi) (foundR h n) = (done ++ [n]).map fun n => ((n, h.fi), foundR h n) := by
      have hb : aget (done.map fun n => ((n, h.fi), foundR h n)) (n, h.fi) = none := by rw [aget_blk (fun n => foundR h n), if_neg (fun z => hnd z.1)]
      rw [aput_new _ _ _ (aget_none.mp hb), List.map_append]; rfl
    have h5 : putD (kr iI (done.map fun n => ((n, h.fi), foundR h n))) [Sum.inr n.s, Sum.inl h.fi] (.int (foundR h n)) = kr iI ((done ++ [n]).map fun n => ((n, h.fi), foundR h n)) := by
      rw [← h4]; exact kr_put iI _ h.fi n (foundR h n)
    simp only [qs0, nmD, hfi, hf, hrc, Nat.sub_self, hdl, h5]
  have e1 : ((rooR h).map fun n => ((n, h.fi), foundR h n)) = tabR h rs 1 := by
    simp [tabR, blkR, inR]
  rw [e1]
  simp only [qs0, hfi, hla, hz1]
  rw [for_a1 3 (fun k : Nat => R.shr (.int (h.fi + (k : Int)))) (fun done : List Nat => .own (.pl (.dt (kr iI (tabR h rs (done.length + 1)))))) (List.range (h.la - h.fi).toNat) ?a ?b ?h]
  case a => rfl
  case b => rfl
  case h =>
    intro done k rest e
    refine ⟨_, rfl, .inl ?_⟩
    have hk : k = done.length := range_done e
    have hd := done_len e
    rw [List.length_range] at hd
    rw [← hk] at hd ⊢
    have hm : (done ++ [k]).length = k + 1 := by rw [List.length_append, ← hk]; rfl
    rw [hm]
    have e2 : tabR h rs (k + 1 + 1) = tabR h rs (k + 1) ++ blkR h rs (k + 1) := by simp [tabR, List.range_succ]
    have hT := tabR_len h rs (k + 1)
    have hT2 : (tabR h rs (k + 1)).length ≤ 1000 * 1001 := by rw [hT]; exact Nat.mul_le_mul hr (by omega)
    have hag := fun n0 t0 => aget_tab h rs n0 t0 (k + 1)
    rw [e2]
    simp only [qs0, hro, hrc, Nat.sub_self]
    generalize tabR h rs (k + 1) = P at hag hT2
    rw [for_a1 3 (fun n : Nm => R.shr (nmD n)) (fun dn : List Nm => .own (.pl (.dt (kr iI (P ++ dn.map fun n => ((n, h.fi + ((k + 1 : Nat) : Int)), inR h rs n (k + 1))))))) (rooR h) ?a ?b ?h]
    case a => rfl
    case b => rw [List.map_nil, List.append_nil]; rfl
    case h =>
      intro dn n rest' e'
      refine ⟨_, rfl, .inl ?_⟩
      have hn : n ∈ h.rs.map (·.1) := done_mem e'
      have hn2 : n ∈ rooR h := hn
      have nd := ok.rn
      have hnd : n ∉ dn := fun z => by
        rw [show h.rs.map (·.1) = dn ++ n :: rest' from e'] at nd
        exact (List.nodup_append.mp nd).2.2 n z n (List.mem_cons_self ..) rfl
      have hd' := done_len e'
      have hdl : (P ++ dn.map fun n => ((n, h.fi + ((k + 1 : Nat) : Int)), inR h rs n (k + 1))).length < 16777216 := by
        rw [rooR, List.length_map] at hd'
        rw [List.length_append, List.length_map]; omega
      have hfr := fromR_ w d h ok n hn
      have hin := intoR_ w d h ok n hn
      have hg1 := gone_ w (d + 1) rs (h.fi + (k : Int)) (fromR h n) (by have := fromR_len h ok n; omega)
      have hg2 := gone_ w (d + 1) rs (h.fi + (k : Int)) (intoR h n) (by have := intoR_len h ok n; omega)
      have ha : aget (P ++ dn.map fun n => ((n, h.fi + ((k + 1 : Nat) : Int)), inR h rs n (k + 1))) (n, h.fi + (k : Int)) = some (inR h rs n k) := by
        rw [aget_append, hag, if_pos ⟨hn2, by omega⟩]
        have : (h.fi + (k : Int) - h.fi).toNat = k := by omega
        rw [this]; rfl
      have hk1 : h.fi + (k : Int) + 1 = h.fi + ((k + 1 : Nat) : Int) := by omega
      have hb : aget (P ++ dn.map fun n => ((n, h.fi + ((k + 1 : Nat) : Int)), inR h rs n (k + 1))) (n, h.fi + ((k + 1 : Nat) : Int)) = none := by
        rw [aget_append, hag, if_neg (by omega), aget_blk (fun n => inR h rs n (k + 1)), if_neg (fun z => hnd z.1)]; rfl
      have h4 : aput (P ++ dn.map fun n => ((n, h.fi + ((k + 1 : Nat) : Int)), inR h rs n (k + 1))) (n, h.fi + ((k + 1 : Nat) : Int)) (inR h rs n (k + 1)) = P ++ (dn ++ [n]).map fun n => ((n, h.fi + ((k + 1 : Nat) : Int)), inR h rs n (k + 1)) := by
        rw [aput_new _ _ _ (aget_none.mp hb), List.map_append, List.append_assoc]; rfl
      generalize (P ++ dn.map fun n => ((n, h.fi + ((k + 1 : Nat) : Int)), inR h rs n (k + 1))) = S at hdl ha h4
      have h5 : putD (kr iI S) [Sum.inr n.s, Sum.inl (h.fi + ((k + 1 : Nat) : Int))] (.int (inR h rs n (k + 1))) = kr iI (P ++ (dn ++ [n]).map fun n => ((n, h.fi + ((k + 1 : Nat) : Int)), inR h rs n (k + 1))) := by
        rw [← h4]; exact kr_put iI S _ n _
      have e6 : inR h rs n k - goneR rs (h.fi + (k : Int)) (fromR h n) + goneR rs (h.fi + (k : Int)) (intoR h n) = inR h rs n (k + 1) := rfl
      simp only [qs0, nmD, hfr, hin, hrc, Nat.sub_self, hg1, hg2, ha, hk1, iI, e6, hdl, h5]
    simp only [qs0, blkR]
  have e3 : tabR h rs ((List.range (h.la - h.fi).toNat).length + 1) = thereR h rs := by rw [List.length_range]; rfl
  rw [e3]
  simp only [qs0]
def exitsR (h : Hs) : List Nm := (h.ds.filter fun x => x.en.isNone).map (·.nm)
def outsR (h : Hs) (rs : List PRow) : List (Int × Int) := (List.range (h.la - h.fi).toNat).map fun k : Nat => (h.fi + (k : Int), goneR rs (h.fi + (k : Int)) (exitsR h))
def i2D (p : Int × Int) : D := .tup [.int p.1, .int p.2]
theorem exitsR_len (h : Hs) (ok : HsOk h) : (exitsR h).length ≤ 1000 := by
  have h1 := ok.dl
  have h2 := List.length_filter_le (fun x : Dr => x.en.isNone) h.ds
  rw [exitsR, List.length_map]; omega
theorem outsR_len (h : Hs) (rs : List PRow) : (outsR h rs).length = (h.la - h.fi).toNat := by rw [outsR, List.length_map, List.length_range]
def outByR (h : Hs) (rs : List PRow) (t : Int) : Int := (((outsR h rs).filter fun p => decide (p.1 < t)).map (·.2)).sum
def spentR (h : Hs) (rs : List PRow) : Int := ((outsR h rs).map fun p => p.2 * (p.1 + 1 - h.fi)).sum + (totalR h - ((outsR h rs).map (·.2)).sum) * (h.la - h.fi)
/-! ### what is wrong -/
abbrev Flt := Int × Nm × Nm
def fltD (f : Flt) : D := .tup [.int f.1, .str f.2.1.s, .str f.2.2.s]
def kDoor : Nm := ⟨[100, 111, 111, 114], by decide, by decide, by decide⟩
def kFull : Nm := ⟨[102, 117, 108, 108], by decide, by decide, by decide⟩
def kLeave : Nm := ⟨[108, 101, 97, 118, 101], by decide, by decide, by decide⟩
theorem kDoor_s : Str.ofString "door" = kDoor.s := by decide +kernel
theorem kFull_s : Str.ofString "full" = kFull.s := by decide +kernel
theorem kLeave_s : Str.ofString "leave" = kLeave.s := by decide +kernel
theorem flt_pln (f : Flt) : pln 59 (fltD f) = true := by simp [pln, plnL, fltD, f.2.1.ok, f.2.2.ok]
theorem flt_srt (xs : List Flt) (hl : xs.length ≤ 16777216) : srtB (xs.map fltD) = true :=
  srtB_map flt_pln (fun x y => by simp [fltD, py, pyL, PySem.W.alike, PySem.W.alikeAll]) (.inl fun x => by simp [fltD, py, pyL, isTu]) xs hl
theorem tok_flt (a b : Flt) (h : tok (fltD a) = tok (fltD b)) : a = b := by
  obtain ⟨t, n, k⟩ := a
  obtain ⟨t', n', k'⟩ := b
  simp only [fltD, tok_tup, toks_cons, toks_nil, tok_int, tok_str, List.cons_append, List.nil_append, List.cons.injEq, Sum.inl.injEq, Sum.inr.injEq, nm_cps, and_true, true_and] at h
  obtain ⟨h1, h2, h3⟩ := h
  rw [h1, h2, h3]
def letByR (h : Hs) (n : Nm) (t : Int) : Int := match aget (h.ds.map fun x => (x.nm, x)) n with
  | none => 0
  | some x => letsR h x t
theorem let_by_ (w d k : Nat) (h : Hs) (ok : HsOk h) (hl : ∀ x ∈ h.ds, LetsOk k x) (hb : h.la < 1000000000000000000) (n : Nm) (t : Int) : pd.F w (d + k + 3) 19 [.shr h.d, .shr (.str n.s), .shr (.int t)] = some (.ret (.shr (.int (letByR h n t))) []) := by
  rw [F_let_by, i_let_by]
  have hdo := doors_h w (d + k + 1) h
  have hrc : recC 10 (10 + 1) (.shr h.d) = some 10 := rfl
  simp only [Nat.reduceAdd] at hrc
  have hin := inD_lst (f := nmD) (fun x y h => Nm.inj (D.str.inj h)) (fun x => by simp [pln, nmD, x.ok]) n (h.ds.map (·.nm))
  have hin : inD (.str n.s) (.lst (h.ds.map fun x => nmD x.nm)) = some (decide (n ∈ h.ds.map (·.nm))) := by
    rw [List.map_map] at hin
    exact hin
  unfold letByR
  cases e : aget (h.ds.map fun x => (x.nm, x)) n with
  | none =>
    have h2 : n ∉ h.ds.map (·.nm) := by
      have := aget_none.mp e
      rwa [List.map_map] at this
    rw [decide_eq_false h2] at hin
    simp only [qs0, hdo, hrc, Nat.sub_self, hin]
  | some x =>
    obtain ⟨y, hy, e2⟩ := List.mem_map.mp (aget_some e)
    have e3 : y = x := congrArg Prod.snd e2
    have e4 : y.nm = n := congrArg Prod.fst e2
    subst e3
    subst e4
    have h2 : y.nm ∈ h.ds.map (·.nm) := List.mem_map.mpr ⟨y, hy, rfl⟩
    rw [decide_eq_true h2] at hin
    have hle := lets_ w d k h ok hl hb y hy t
    rw [show d + k + 2 = d + k + 2 from rfl] at hle
    simp only [qs0, hdo, hrc, Nat.sub_self, hin, hle]
def doorF (h : Hs) (rs : List PRow) (p : Ky × Int) : List Flt := if letByR h p.1.2 p.1.1 < p.2 then [(p.1.1, kDoor, p.1.2)] else []
def pairF (h : Hs) (rs : List PRow) (p : Kr) : List Flt :=
  (if holdsR h p.1 < inR h rs p.1 (p.2 - h.fi).toNat then [(p.2, kFull, p.1)] else []) ++
  (if p.2 < h.la ∧ inR h rs p.1 (p.2 - h.fi).toNat < goneR rs p.2 (fromR h p.1) then [(p.2, kLeave, p.1)] else [])
def fltsR (h : Hs) (rs : List PRow) : List Flt := (sums rs).flatMap (doorF h rs) ++ (pairsR h).flatMap (pairF h rs)
theorem fm_len' {α β : Type} (f : α → List β) (n : Nat) (h : ∀ x, (f x).length ≤ n) : ∀ xs : List α, (xs.flatMap f).length ≤ n * xs.length
  | [] => by simp
  | x :: xs => by
    have := fm_len' f n h xs
    have := h x
    rw [List.flatMap_cons, List.length_append, List.length_cons, Nat.mul_succ]
    omega
theorem pairsR_mem (h : Hs) (p : Kr) : p ∈ pairsR h ↔ p.1 ∈ h.rs.map (·.1) ∧ h.fi ≤ p.2 ∧ p.2 ≤ h.la := by
  simp only [pairsR, turnsR, List.mem_flatMap, List.mem_map, List.mem_range]
  constructor
  · rintro ⟨t, ⟨k, hk, rfl⟩, n, ⟨q, hq, rfl⟩, rfl⟩
    exact ⟨⟨q, hq, rfl⟩, by show h.fi ≤ h.fi + (k : Int); omega, by show h.fi + (k : Int) ≤ h.la; omega⟩
  · rintro ⟨⟨q, hq, e⟩, h1, h2⟩
    exact ⟨p.2, ⟨(p.2 - h.fi).toNat, by omega, by omega⟩, p.1, ⟨q, hq, e⟩, rfl⟩
theorem pairsR_len (h : Hs) : (pairsR h).length = h.rs.length * (h.la + 1 - h.fi).toNat := by
  have : ∀ l : List Int, (l.flatMap fun t => (h.rs.map (·.1)).map fun n => (n, t)).length = h.rs.length * l.length := by
    intro l
    induction l with
    | nil => rfl
    | cons x l ih => rw [List.flatMap_cons, List.length_append, ih, List.length_map, List.length_map, List.length_cons, Nat.mul_succ]; omega
  rw [pairsR, this, turnsR, List.length_map, List.length_range]
theorem faults_ (w d k : Nat) (h : Hs) (ok : HsOk h) (hle : ∀ x ∈ h.ds, LetsOk k x) (hb : h.la < 1000000000000000000) (hz : h.la - h.fi ≤ 1000) (rs : List PRow) (hl : rs.length ≤ 1000000) :
    pd.F w (d + k + 4) 4 [.shr h.d, .shr (.lst (rs.map rowD))] = some (.ret (.own (.pl (.lst ((srt fltD (fltsR h rs)).map fltD)))) []) := by
  rw [F_faults, i_faults]
  have h0 := ok.f0
  have hr := ok.rl
  have hsm := summed_ w (d + k + 2) rs hl
  have hsl := sums_len rs
  have hth := there_ w (d + k) h ok hb hz rs hl
  have hpa := pairs_ w (d + k + 2) h ok hb hz
  have hfi : fldR 0 10 (10 + 1) (.shr h.d) = some (.shr (.int h.fi)) := rfl
  have hla : fldR 1 10 (10 + 1) (.shr h.d) = some (.shr (.int h.la)) := rfl
  have hrc : recC 10 (10 + 1) (.shr h.d) = some 10 := rfl
  simp only [Nat.reduceAdd] at hfi hla hrc
  simp only [qs0, hsm, kt_keys]
  rw [for_a1 3 (fun p : Ky × Int => R.shr (.tup [.int p.1.1, .str p.1.2.s])) (fun done : List (Ky × Int) => .own (.pl (.lst ((done.flatMap (doorF h rs)).map fltD)))) (sums rs) ?a ?b ?h1]
  case a => rfl
  case b => rfl
  case h1 =>
    intro done p rest e
    refine ⟨_, rfl, .inl ?_⟩
    have hp := done_mem e
    have hd := done_len e
    have hdl := fm_len' (doorF h rs) 1 (fun x => by unfold doorF; split <;> simp) done
    have hdl2 : (done.flatMap (doorF h rs)).length < 16777216 := by omega
    have ha : aget (sums rs) (p.1.1, p.1.2) = some p.2 := aget_nd (sums rs) p.1 p.2 (sums_nd rs) hp
    have hlb := let_by_ w d k h ok hle hb p.1.2 p.1.1
    have e2 : (done ++ [p]).flatMap (doorF h rs) = done.flatMap (doorF h rs) ++ doorF h rs p := by simp
    rw [e2]
    by_cases c : letByR h p.1.2 p.1.1 < p.2
    · have e3 : doorF h rs p = [(p.1.1, kDoor, p.1.2)] := if_pos c
      simp only [qs0, ha, hlb, iI, c, e3, hdl2, List.map_append, fltD, kDoor_s]
    · have e3 : doorF h rs p = [] := if_neg c
      simp only [qs0, ha, hlb, iI, c, e3]
  simp only [qs0, hth, hpa, hrc, Nat.sub_self]
  have hD : ((sums rs).flatMap (doorF h rs)).length ≤ 1000000 := by
    have := fm_len' (doorF h rs) 1 (fun x => by unfold doorF; split <;> simp) (sums rs)
    omega
  have hPl := pairsR_len h
  have hPl2 : (pairsR h).length ≤ 1000 * 1001 := by rw [hPl]; exact Nat.mul_le_mul hr (by omega)
  have hfe : fltsR h rs = (sums rs).flatMap (doorF h rs) ++ (pairsR h).flatMap (pairF h rs) := rfl
  generalize (sums rs).flatMap (doorF h rs) = DF at hD hfe
  rw [for_a1 3 (fun p : Kr => R.shr (krD p)) (fun done : List Kr => .own (.pl (.lst ((DF ++ done.flatMap (pairF h rs)).map fltD)))) (pairsR h) ?a ?b ?h2]
  case a => rfl
  case b => rw [List.flatMap_nil, List.append_nil]; rfl
  case h2 =>
    intro done p rest e
    refine ⟨_, rfl, .inl ?_⟩
    have hp := (pairsR_mem h p).mp (done_mem e)
    have hd := done_len e
    have hdl := fm_len' (pairF h rs) 2 (fun x => by unfold pairF; rw [List.length_append]; split <;> split <;> simp) done
    have e2 : (done ++ [p]).flatMap (pairF h rs) = done.flatMap (pairF h rs) ++ pairF h rs p := by simp
    rw [e2, ← List.append_assoc]
    have hL : (DF ++ done.flatMap (pairF h rs)).length < 16777216 - 1 := by rw [List.length_append]; omega
    generalize DF ++ done.flatMap (pairF h rs) = L at hL
    have hL1 : L.length < 16777216 := by omega
    have hL2 : L.length + 1 < 16777216 := by omega
    have ha : aget (thereR h rs) (p.1, p.2) = some (inR h rs p.1 (p.2 - h.fi).toNat) := by
      rw [thereR, aget_tab, if_pos ⟨hp.1, by omega, by omega⟩]
    have hho := holds_ w (d + k + 1) h p.1 hp.1
    have hfr := fromR_ w (d + k + 1) h ok p.1 hp.1
    have hg := gone_ w (d + k + 2) rs p.2 (fromR h p.1) (by have := fromR_len h ok p.1; omega)
    have eF : pairF h rs p = (if holdsR h p.1 < inR h rs p.1 (p.2 - h.fi).toNat then [(p.2, kFull, p.1)] else []) ++ (if p.2 < h.la ∧ inR h rs p.1 (p.2 - h.fi).toNat < goneR rs p.2 (fromR h p.1) then [(p.2, kLeave, p.1)] else []) := rfl
    rw [eF]
    by_cases c1 : holdsR h p.1 < inR h rs p.1 (p.2 - h.fi).toNat <;> by_cases c2 : p.2 < h.la <;> by_cases c3 : inR h rs p.1 (p.2 - h.fi).toNat < goneR rs p.2 (fromR h p.1) <;>
      simp only [qs0, krD, ha, iI, hho, hfr, hg, hrc, Nat.sub_self, hla, c1, c2, c3, hL1, hL2, List.map_append, List.length_append, fltD, kFull_s, kLeave_s, List.append_assoc]
  have hF : (fltsR h rs).length ≤ 16777216 := by
    have := fm_len' (pairF h rs) 2 (fun x => by unfold pairF; rw [List.length_append]; split <;> split <;> simp) (pairsR h)
    rw [hfe, List.length_append]; omega
  rw [← hfe]
  have hsr := flt_srt (fltsR h rs) hF
  simp only [qs0, srt_, hsr, sortD_map]
/-! who goes, row by row -/
theorem sum_add2 {α : Type} (f g : α → Int) (xs : List α) : (xs.map f).sum + (xs.map g).sum = (xs.map fun x => f x + g x).sum := (sum_add f g xs).symm
theorem sum_sub2 {α : Type} (f g : α → Int) : ∀ xs : List α, (xs.map f).sum - (xs.map g).sum = (xs.map fun x => f x - g x).sum
  | [] => rfl
  | x :: xs => by
    have := sum_sub2 f g xs
    simp only [List.map_cons, List.sum_cons]
    omega
theorem many_rows (rs : List PRow) (t : Int) (n : Nm) : many rs t n = (rs.map fun r => if r.1 = t ∧ r.2.1 = n then r.2.2 else 0).sum := by
  induction rs with
  | nil => rfl
  | cons r rs ih =>
    simp only [List.map_cons, List.sum_cons, ← ih]
    by_cases h : r.1 = t ∧ r.2.1 = n
    · rw [if_pos h]
      have e : (decide (r.1 = t) && decide (r.2.1 = n)) = true := by simpa using h
      simp [many, e]
    · rw [if_neg h]
      have e : (decide (r.1 = t) && decide (r.2.1 = n)) = false := by simpa using h
      simp [many, e]
theorem gone_rows (rs : List PRow) (t : Int) : ∀ ns : List Nm, ns.Nodup → goneR rs t ns = (rs.map fun r => if r.1 = t ∧ r.2.1 ∈ ns then r.2.2 else 0).sum
  | [], _ => by
    unfold goneR
    simp only [List.map_nil, List.sum_nil, List.not_mem_nil, and_false, if_false]
    exact (sum_zero _ _ fun _ _ => rfl).symm
  | n :: ns, nd => by
    have ih := gone_rows rs t ns (List.nodup_cons.mp nd).2
    have h1 : goneR rs t (n :: ns) = many rs t n + goneR rs t ns := by simp [goneR]
    rw [h1, ih, many_rows, sum_add2]
    refine congrArg List.sum (List.map_congr_left fun r _ => ?_)
    by_cases e : r.1 = t
    · by_cases e2 : r.2.1 = n
      · have : r.2.1 ∉ ns := by rw [e2]; exact (List.nodup_cons.mp nd).1
        simp [e, e2] at this ⊢
        simp [this]
      · simp [e, e2]
    · simp [e]
def doorAt (h : Hs) (n : Nm) : Option Dr := aget (h.ds.map fun x => (x.nm, x)) n
theorem doorAt_mem {h : Hs} {n : Nm} {x : Dr} (e : doorAt h n = some x) : x ∈ h.ds ∧ x.nm = n := by
  have := aget_some e
  obtain ⟨y, hy, e2⟩ := List.mem_map.mp this
  cases e2
  exact ⟨hy, rfl⟩
theorem doorAt_some {h : Hs} (ok : HsOk h) {x : Dr} (hx : x ∈ h.ds) : doorAt h x.nm = some x := door_get h ok x hx
theorem doorAt_none {h : Hs} {n : Nm} (hn : n ∉ h.ds.map (·.nm)) : doorAt h n = none := by
  cases e : doorAt h n with
  | none => rfl
  | some x => exact absurd (List.mem_map.mpr ⟨x, (doorAt_mem e).1, (doorAt_mem e).2⟩) hn
theorem from_mem (h : Hs) (ok : HsOk h) (n m : Nm) : m ∈ fromR h n ↔ ∃ x, doorAt h m = some x ∧ x.st = n := by
  unfold fromR
  rw [List.mem_map]
  constructor
  · rintro ⟨x, hx, rfl⟩
    obtain ⟨h1, h2⟩ := List.mem_filter.mp hx
    exact ⟨x, doorAt_some ok h1, of_decide_eq_true h2⟩
  · rintro ⟨x, hx, e⟩
    obtain ⟨h1, h2⟩ := doorAt_mem hx
    exact ⟨x, List.mem_filter.mpr ⟨h1, decide_eq_true e⟩, h2⟩
theorem into_mem (h : Hs) (ok : HsOk h) (n m : Nm) : m ∈ intoR h n ↔ ∃ x, doorAt h m = some x ∧ x.en = some n := by
  unfold intoR
  rw [List.mem_map]
  constructor
  · rintro ⟨x, hx, rfl⟩
    obtain ⟨h1, h2⟩ := List.mem_filter.mp hx
    exact ⟨x, doorAt_some ok h1, of_decide_eq_true h2⟩
  · rintro ⟨x, hx, e⟩
    obtain ⟨h1, h2⟩ := doorAt_mem hx
    exact ⟨x, List.mem_filter.mpr ⟨h1, decide_eq_true e⟩, h2⟩
theorem nd_filter {h : Hs} (ok : HsOk h) (p : Dr → Bool) : ((h.ds.filter p).map (·.nm)).Nodup := by
  have := ok.dn
  rw [List.Nodup, List.pairwise_map] at this ⊢
  exact List.Pairwise.filter p this
/-- what a row does to a room's people ahead of a turn -/
def dlt1 (h : Hs) (n : Nm) (r : PRow) : Int := match doorAt h r.2.1 with
  | none => 0
  | some x => (if x.en = some n then r.2.2 else 0) - (if x.st = n then r.2.2 else 0)
def dlt (h : Hs) (n : Nm) (t : Int) (r : PRow) : Int := if h.fi ≤ r.1 ∧ r.1 < t then dlt1 h n r else 0
theorem inR_rows (h : Hs) (ok : HsOk h) (rs : List PRow) (n : Nm) : ∀ k : Nat, inR h rs n k = foundR h n + (rs.map (dlt h n (h.fi + (k : Int)))).sum
  | 0 => by
    have : (rs.map (dlt h n (h.fi + ((0 : Nat) : Int)))).sum = 0 := sum_zero _ _ fun r _ => by
      unfold dlt
      rw [if_neg (by omega)]
    rw [this]
    show foundR h n = _
    omega
  | k + 1 => by
    have ih := inR_rows h ok rs n k
    have g1 := gone_rows rs (h.fi + (k : Int)) (fromR h n) (nd_filter ok _)
    have g2 := gone_rows rs (h.fi + (k : Int)) (intoR h n) (nd_filter ok _)
    show inR h rs n k - goneR rs (h.fi + (k : Int)) (fromR h n) + goneR rs (h.fi + (k : Int)) (intoR h n) = _
    rw [ih, g1, g2]
    have e : (rs.map (dlt h n (h.fi + ((k + 1 : Nat) : Int)))).sum = (rs.map fun r => dlt h n (h.fi + (k : Int)) r + ((if r.1 = h.fi + (k : Int) ∧ r.2.1 ∈ intoR h n then r.2.2 else 0) - (if r.1 = h.fi + (k : Int) ∧ r.2.1 ∈ fromR h n then r.2.2 else 0))).sum := by
      refine congrArg List.sum (List.map_congr_left fun r _ => ?_)
      unfold dlt
      by_cases e1 : r.1 = h.fi + (k : Int)
      · rw [if_pos (by omega), if_neg (by omega)]
        simp only [e1, true_and, Int.zero_add]
        unfold dlt1
        have a1 := from_mem h ok n r.2.1
        have a2 := into_mem h ok n r.2.1
        cases ed : doorAt h r.2.1 with
        | none =>
          rw [ed] at a1 a2
          have b1 : r.2.1 ∉ fromR h n := fun z => by obtain ⟨x, hx, _⟩ := a1.mp z; cases hx
          have b2 : r.2.1 ∉ intoR h n := fun z => by obtain ⟨x, hx, _⟩ := a2.mp z; cases hx
          simp [b1, b2]
        | some x =>
          rw [ed] at a1 a2
          have b1 : r.2.1 ∈ fromR h n ↔ x.st = n := a1.trans ⟨fun ⟨y, hy, e⟩ => by cases hy; exact e, fun e => ⟨x, rfl, e⟩⟩
          have b2 : r.2.1 ∈ intoR h n ↔ x.en = some n := a2.trans ⟨fun ⟨y, hy, e⟩ => by cases hy; exact e, fun e => ⟨x, rfl, e⟩⟩
          simp only [b1, b2]
      · have c1 : ¬ (r.1 = h.fi + (k : Int) ∧ r.2.1 ∈ intoR h n) := fun z => e1 z.1
        have c2 : ¬ (r.1 = h.fi + (k : Int) ∧ r.2.1 ∈ fromR h n) := fun z => e1 z.1
        rw [if_neg c1, if_neg c2]
        by_cases c3 : h.fi ≤ r.1 ∧ r.1 < h.fi + (k : Int)
        · rw [if_pos c3, if_pos (by omega)]; omega
        · rw [if_neg c3, if_neg (by omega)]; omega
    rw [e, ← sum_add2, ← sum_sub2]
    omega
theorem there_keys (h : Hs) (ok : HsOk h) (rs : List PRow) : (thereR h rs).map (·.1) = pairsR h := by
  have f0 := ok.f0
  unfold thereR tabR pairsR turnsR
  have e : (h.la + 1 - h.fi).toNat = (h.la - h.fi).toNat + 1 := by omega
  rw [e, List.flatMap_map, List.map_flatMap]
  congr 1
  funext k
  show (blkR h rs k).map (·.1) = _
  unfold blkR
  rw [List.map_map]
  rfl
theorem kr_pln (k : Kr) : pln 59 (krD k) = true := by simp [pln, plnL, krD, k.1.ok]
theorem kr_srt (xs : List Kr) (hl : xs.length ≤ 16777216) : srtB (xs.map krD) = true :=
  srtB_map kr_pln (fun x y => by simp [krD, py, pyL, PySem.W.alike, PySem.W.alikeAll]) (.inl fun x => by simp [krD, py, pyL, isTu]) xs hl
end k22

end

section
set_option Elab.async false
set_option linter.all false
set_option maxRecDepth 100000
set_option maxHeartbeats 1000000
namespace k22
open PySem PySem.Spec Q
local macro_rules | `(tactic| simp only [qs0]) => `(tactic| simp only [ev_var, ev_cst, ev_glo, ev_bin, ev_neg, ev_cmp, ev_chn, ev_bo, ev_not, ev_ife, ev_tup, ev_lst, ev_dnew, ev_sub, ev_slc, ev_slc3, ev_fld, ev_call, ev_mth, ev_mk, ev_blt, ev_bm, ev_isi, ev_dget, ev_lc, evs_nil, evs_cons, evo_no, evo_so, evc_no, evc_so, evI_any, evI_r1, evI_r2, evI_vs, evI_its, evP_nm, evP_fld, evP_sub, evA_e, evA_mv, evA_iom, evA_ioi, evA_iof, evS_asg, evS_asgLc, evS_asgT, evS_ex, evS_asgA, evS_exA, evS_retA, evS_ret, evS_retN, evS_retv, evS_pass, evS_brk, evS_cnt, evS_doc, evS_if, evS_whl, evS_for, evS_app, evS_ext, evS_clr, evS_put, evS_fset, evS_aug, evS_augs, evSs_nil, evSs_cons, evSs_frz, evSs_fgt, so_nx, so_rt, so_bk, so_ct, so_ex, if_t, if_f, if_b, if_x, ir_t, ir_f, ir_b, bo_1, bo_n, bo_tt, bo_tf, bo_ft, bo_ff, bo_x, bo_an, bo_or, ite_bl, ite_ff, ite_tt, Bool.not_eq_true', decide_eq_false_iff_not, ite_not, Bool.and_eq_true, Bool.or_eq_true, Bool.decide_eq_true, FnI.run, FnI.N, FnI.np, FnI.io, FnI.body, x_ok, x_ex, x_some, x_nok, o_ok, o_ex, a_ok, a_ex, ra_ok, ra_ex, g_shr, g_own, g_tmp, g_suc, w_own, w_shr, w_tmp, w_suc, sto_shr, sto_own, sto_tmp, asg_ok, ret_shr, ret_own, retT, rDt_, rDk_, frz_own, frz_shr, frz_tmp, frz_non, frz_suc, fgt_, R.sh, T.sh, R.tr, T.kids, T.withKids, sh_shr, sh_own, sh_tmp, sh_vw, d_shr, d_own, d_tmp, d_vw, T_pl, T_lf, T.d, T.ds, bl_, rI_, rS_, rB_, rL_, kid_shr, kid_own, kids_nil, kids_cons, cmp_, not_, int_, tup_, lst_, arg_shr, arg_own, arg_vw, arg_tmp, call_e, mk_e, end_nx, end_rt, end_ex, outs_nil, outs_cons, b_sh, b_add, b_sub, b_mulr, b_mull, b_fdiv, b_mod, b_pow', b_shl', b_shr, Int.reduceToNat, Int.reduceMod, Int.reduceDiv, Int.reduceEq, Int.reduceNe, b_and, b_xor, b_app, b_tup, c_lt, c_le, c_gt, c_ge, c_eq, c_ne, c_in, c_nin, c_is, c_isn, c_slt, e_int, e_str, e_bl, is_bl, is_non, is_int, is_str, is_lst, is_ins, Blt.F, Bm.F, len_s1, len_o1, len_t1, len_v1, len_s2, len_s3, len_v2, len_t2, len_dk, len_dt, lst1_lst, lst1_tup, sub_sh, s_lst, s_tup, s_scr, s_dk, s_dt, slc_sh, sl_lst, sl_tup, sl_scr, at_i2, at_i3, at_i4, at_i5, at_i6, at_i7, at_i8, at_i9, at_i10, at_i11, at_i12, at_i13, at_0, at_1, at_2, at_3, any_sl, any_ol, any_tl, any_st, any_ss, any_sk, any_sT, any_tk, any_tT, map_map, kD_l, kD_r, rng1_s, rng2_s, slc3_l, size_, any_S, in_S, len_S, sl_S, s_S, b_S, e_S, at_abc, abc_s, abc_len, Int.emod_nonneg, ch_ll, ch_lt, ch_tl, ch_tt, all_b, any_b, sum_i, int_b, max_, min_, divmod_, b_rep, String.reduceEq, cut_to, cut_from, cut_mid, cut_all, List.take_succ_cons, List.take_zero, List.drop_succ_cons, List.drop_zero, ne_eq, not_false_eq_true, isVw, isOwn, ios, iosF, Tg.F, Tgs.F, Tgs.len, nmF, consF, nilF, tupF, unpD, chi, rec_s, rec_own_i, rec_own_l, rec_own_p, rec_tmp_i, rec_tmp_l, rec_tmp_p, rec_vw_i, rec_vw_l, rec_vw_p, fld_s, fld_own_i, fld_own_l, fld_own_p, fld_tmp_i, fld_tmp_l, fld_tmp_p, fld_vw_i, fld_vw_l, fld_vw_p, isiR, tyD, beq_self_eq_true, tyO, tyR, Bm.T, strsD, Tk.kit, partT, T.at_, T.put, putP, aE, aMv, shareR, appF, extF, clrF, plLst, childT, putT, putF1, keyD, keysD, fsetT, augF, augI, augPre, augsF, noVw, ioX, ioA, insC, insO, pfldR, psubR, dkO, dgetR, bor, borR, wipeR, Q.getD, lcStep, L2.ixN, Int.cast_ofNat_Int, List.set_cons_succ, List.set_cons_zero, List.length_cons, List.length_nil, List.length_map, List.length_range, List.length_set, List.map_cons, List.map_nil, List.cons_append, List.getElem?_cons_succ, List.getElem?_cons_zero, List.nil_append, List.append_nil, List.replicate, List.flatten_cons, List.flatten_nil, List.set, List.getD_cons_zero, List.getD_cons_succ, List.foldr, Option.bind_some, Option.bind_none, Option.map_some, Option.map_none, Option.some.injEq, Option.getD_some, Option.getD_none, Nat.reduceAdd, Nat.reduceMul, Nat.reduceSub, Nat.reduceLT, Nat.reduceLeDiff, Nat.reduceBEq, reduceCtorEq, reduceIte, decide_eq_true_eq, if_true, if_false, ite_true, ite_false, decide_true, decide_false, and_true, true_and, and_self, or_true, true_or, or_false, false_or, false_and, and_false, or_self, Bool.false_eq_true, Bool.not_true, Bool.not_false, Bool.and_self, Bool.true_and, Bool.and_true, Bool.false_and, Bool.and_false, Bool.or_self, Bool.true_or, Bool.or_true, Bool.false_or, Bool.or_false, Int.reduceLT, Int.reduceLE, Int.reducePow, Int.reduceNeg, Int.reduceAdd, Int.reduceMul, Int.reduceSub, Nat.reducePow, id_eq, D.lst.injEq, D.scr.injEq, D.tup.injEq, D.dk.injEq, D.dt.injEq, D.str.injEq, D.int.injEq, D.ins.injEq, D.bl.injEq, ev_skeys, ev_dtre, evS_sw2, sw2F, evSs_frf, frfF, ev_lvals, ev_svals, ev_mind, ev_dis1, ev_isX, ev_xnm, evI_en, evI_r3, evS_rse, evS_rse1, evS_try, dis1R, keyD, flatD, lvalsR, svalsR, its_s, its_t, vls_s, vls_t, mind_o, kd_len, kd_put, kd_val, kd_in, kd_sub, kd_dget, kd_keys, kd_its, kd_vals, map_id_, kt_len, kt_put, kt_val, kt_sub, kt_dget, at_last, neg_, its_sT, its_tT, its_oT, its_o, kt_its, kt_keys, enum_Is, enum_Io, rng3_dn, kr_len, kr_put, kr_val, kr_sub, kr_keys, b_repS, rse_s, rse_x, try_nx, try_bk, try_ct, try_rt, try_ex, sut_0, sut_1, del_nx, del_bk, del_ct, del_rt, at_xa, at_xs, at_fn, at_glo, mark_at, xcT_, xnT_, forall_const, imp_self, implies_true, l_LETTERS, l_MOST_LETTERS, g_isi_7_7, g_isi_7_8, g_isi_7_9, g_isi_7_10, g_isi_8_7, g_isi_8_8, g_isi_8_9, g_isi_8_10, g_isi_9_7, g_isi_9_8, g_isi_9_9, g_isi_9_10, g_isi_10_7, g_isi_10_8, g_isi_10_9, g_isi_10_10, g_xs_0, g_xs_0_0, g_xs_0_1, g_xs_0_2, g_xs_0_3, g_xs_0_4, g_xs_0_5, g_xs_0_6, g_xs_1, g_xs_1_0, g_xs_1_1, g_xs_1_2, g_xs_1_3, g_xs_1_4, g_xs_1_5, g_xs_1_6, g_xs_2, g_xs_2_0, g_xs_2_1, g_xs_2_2, g_xs_2_3, g_xs_2_4, g_xs_2_5, g_xs_2_6, g_xs_3, g_xs_3_0, g_xs_3_1, g_xs_3_2, g_xs_3_3, g_xs_3_4, g_xs_3_5, g_xs_3_6, g_xs_4, g_xs_4_0, g_xs_4_1, g_xs_4_2, g_xs_4_3, g_xs_4_4, g_xs_4_5, g_xs_4_6, g_xs_5, g_xs_5_0, g_xs_5_1, g_xs_5_2, g_xs_5_3, g_xs_5_4, g_xs_5_5, g_xs_5_6, g_xs_6, g_xs_6_0, g_xs_6_1, g_xs_6_2, g_xs_6_3, g_xs_6_4, g_xs_6_5, g_xs_6_6, g_law, g__law_house, g__law_plan, g__law_due, g_faults, g__law_cell_at, g__law_door, g__law_drawn, g_House___init__, g_House_doors, g_Door_lets, g_Until_lets, g_Marked_lets, g_House_door, g__law_gone, g_House_rooms, g_House_found, g_House_holds, g_summed, g_let_by, g_there, g_House_pairs, g_gone, g_House_from_room, g_Until___init__, g_Marked___init__, g_Door___init__, g_refuse_twice, g_refuse_strange, g_Door_is_exit, g_House_refuse_numbers, g_House_sure, g_House_lets, g_House_into, g_numbered, g_named, g_is_whole, g_is_name, g_Twice___init__, g_NoRoom___init__, g_Unknown___init__])
local macro_rules | `(tactic| simp only [qs0, $args,*]) => `(tactic| simp only [$args,*, ev_var, ev_cst, ev_glo, ev_bin, ev_neg, ev_cmp, ev_chn, ev_bo, ev_not, ev_ife, ev_tup, ev_lst, ev_dnew, ev_sub, ev_slc, ev_slc3, ev_fld, ev_call, ev_mth, ev_mk, ev_blt, ev_bm, ev_isi, ev_dget, ev_lc, evs_nil, evs_cons, evo_no, evo_so, evc_no, evc_so, evI_any, evI_r1, evI_r2, evI_vs, evI_its, evP_nm, evP_fld, evP_sub, evA_e, evA_mv, evA_iom, evA_ioi, evA_iof, evS_asg, evS_asgLc, evS_asgT, evS_ex, evS_asgA, evS_exA, evS_retA, evS_ret, evS_retN, evS_retv, evS_pass, evS_brk, evS_cnt, evS_doc, evS_if, evS_whl, evS_for, evS_app, evS_ext, evS_clr, evS_put, evS_fset, evS_aug, evS_augs, evSs_nil, evSs_cons, evSs_frz, evSs_fgt, so_nx, so_rt, so_bk, so_ct, so_ex, if_t, if_f, if_b, if_x, ir_t, ir_f, ir_b, bo_1, bo_n, bo_tt, bo_tf, bo_ft, bo_ff, bo_x, bo_an, bo_or, ite_bl, ite_ff, ite_tt, Bool.not_eq_true', decide_eq_false_iff_not, ite_not, Bool.and_eq_true, Bool.or_eq_true, Bool.decide_eq_true, FnI.run, FnI.N, FnI.np, FnI.io, FnI.body, x_ok, x_ex, x_some, x_nok, o_ok, o_ex, a_ok, a_ex, ra_ok, ra_ex, g_shr, g_own, g_tmp, g_suc, w_own, w_shr, w_tmp, w_suc, sto_shr, sto_own, sto_tmp, asg_ok, ret_shr, ret_own, retT, rDt_, rDk_, frz_own, frz_shr, frz_tmp, frz_non, frz_suc, fgt_, R.sh, T.sh, R.tr, T.kids, T.withKids, sh_shr, sh_own, sh_tmp, sh_vw, d_shr, d_own, d_tmp, d_vw, T_pl, T_lf, T.d, T.ds, bl_, rI_, rS_, rB_, rL_, kid_shr, kid_own, kids_nil, kids_cons, cmp_, not_, int_, tup_, lst_, arg_shr, arg_own, arg_vw, arg_tmp, call_e, mk_e, end_nx, end_rt, end_ex, outs_nil, outs_cons, b_sh, b_add, b_sub, b_mulr, b_mull, b_fdiv, b_mod, b_pow', b_shl', b_shr, Int.reduceToNat, Int.reduceMod, Int.reduceDiv, Int.reduceEq, Int.reduceNe, b_and, b_xor, b_app, b_tup, c_lt, c_le, c_gt, c_ge, c_eq, c_ne, c_in, c_nin, c_is, c_isn, c_slt, e_int, e_str, e_bl, is_bl, is_non, is_int, is_str, is_lst, is_ins, Blt.F, Bm.F, len_s1, len_o1, len_t1, len_v1, len_s2, len_s3, len_v2, len_t2, len_dk, len_dt, lst1_lst, lst1_tup, sub_sh, s_lst, s_tup, s_scr, s_dk, s_dt, slc_sh, sl_lst, sl_tup, sl_scr, at_i2, at_i3, at_i4, at_i5, at_i6, at_i7, at_i8, at_i9, at_i10, at_i11, at_i12, at_i13, at_0, at_1, at_2, at_3, any_sl, any_ol, any_tl, any_st, any_ss, any_sk, any_sT, any_tk, any_tT, map_map, kD_l, kD_r, rng1_s, rng2_s, slc3_l, size_, any_S, in_S, len_S, sl_S, s_S, b_S, e_S, at_abc, abc_s, abc_len, Int.emod_nonneg, ch_ll, ch_lt, ch_tl, ch_tt, all_b, any_b, sum_i, int_b, max_, min_, divmod_, b_rep, String.reduceEq, cut_to, cut_from, cut_mid, cut_all, List.take_succ_cons, List.take_zero, List.drop_succ_cons, List.drop_zero, ne_eq, not_false_eq_true, isVw, isOwn, ios, iosF, Tg.F, Tgs.F, Tgs.len, nmF, consF, nilF, tupF, unpD, chi, rec_s, rec_own_i, rec_own_l, rec_own_p, rec_tmp_i, rec_tmp_l, rec_tmp_p, rec_vw_i, rec_vw_l, rec_vw_p, fld_s, fld_own_i, fld_own_l, fld_own_p, fld_tmp_i, fld_tmp_l, fld_tmp_p, fld_vw_i, fld_vw_l, fld_vw_p, isiR, tyD, beq_self_eq_true, tyO, tyR, Bm.T, strsD, Tk.kit, partT, T.at_, T.put, putP, aE, aMv, shareR, appF, extF, clrF, plLst, childT, putT, putF1, keyD, keysD, fsetT, augF, augI, augPre, augsF, noVw, ioX, ioA, insC, insO, pfldR, psubR, dkO, dgetR, bor, borR, wipeR, Q.getD, lcStep, L2.ixN, Int.cast_ofNat_Int, List.set_cons_succ, List.set_cons_zero, List.length_cons, List.length_nil, List.length_map, List.length_range, List.length_set, List.map_cons, List.map_nil, List.cons_append, List.getElem?_cons_succ, List.getElem?_cons_zero, List.nil_append, List.append_nil, List.replicate, List.flatten_cons, List.flatten_nil, List.set, List.getD_cons_zero, List.getD_cons_succ, List.foldr, Option.bind_some, Option.bind_none, Option.map_some, Option.map_none, Option.some.injEq, Option.getD_some, Option.getD_none, Nat.reduceAdd, Nat.reduceMul, Nat.reduceSub, Nat.reduceLT, Nat.reduceLeDiff, Nat.reduceBEq, reduceCtorEq, reduceIte, decide_eq_true_eq, if_true, if_false, ite_true, ite_false, decide_true, decide_false, and_true, true_and, and_self, or_true, true_or, or_false, false_or, false_and, and_false, or_self, Bool.false_eq_true, Bool.not_true, Bool.not_false, Bool.and_self, Bool.true_and, Bool.and_true, Bool.false_and, Bool.and_false, Bool.or_self, Bool.true_or, Bool.or_true, Bool.false_or, Bool.or_false, Int.reduceLT, Int.reduceLE, Int.reducePow, Int.reduceNeg, Int.reduceAdd, Int.reduceMul, Int.reduceSub, Nat.reducePow, id_eq, D.lst.injEq, D.scr.injEq, D.tup.injEq, D.dk.injEq, D.dt.injEq, D.str.injEq, D.int.injEq, D.ins.injEq, D.bl.injEq, ev_skeys, ev_dtre, evS_sw2, sw2F, evSs_frf, frfF, ev_lvals, ev_svals, ev_mind, ev_dis1, ev_isX, ev_xnm, evI_en, evI_r3, evS_rse, evS_rse1, evS_try, dis1R, keyD, flatD, lvalsR, svalsR, its_s, its_t, vls_s, vls_t, mind_o, kd_len, kd_put, kd_val, kd_in, kd_sub, kd_dget, kd_keys, kd_its, kd_vals, map_id_, kt_len, kt_put, kt_val, kt_sub, kt_dget, at_last, neg_, its_sT, its_tT, its_oT, its_o, kt_its, kt_keys, enum_Is, enum_Io, rng3_dn, kr_len, kr_put, kr_val, kr_sub, kr_keys, b_repS, rse_s, rse_x, try_nx, try_bk, try_ct, try_rt, try_ex, sut_0, sut_1, del_nx, del_bk, del_ct, del_rt, at_xa, at_xs, at_fn, at_glo, mark_at, xcT_, xnT_, forall_const, imp_self, implies_true, l_LETTERS, l_MOST_LETTERS, g_isi_7_7, g_isi_7_8, g_isi_7_9, g_isi_7_10, g_isi_8_7, g_isi_8_8, g_isi_8_9, g_isi_8_10, g_isi_9_7, g_isi_9_8, g_isi_9_9, g_isi_9_10, g_isi_10_7, g_isi_10_8, g_isi_10_9, g_isi_10_10, g_xs_0, g_xs_0_0, g_xs_0_1, g_xs_0_2, g_xs_0_3, g_xs_0_4, g_xs_0_5, g_xs_0_6, g_xs_1, g_xs_1_0, g_xs_1_1, g_xs_1_2, g_xs_1_3, g_xs_1_4, g_xs_1_5, g_xs_1_6, g_xs_2, g_xs_2_0, g_xs_2_1, g_xs_2_2, g_xs_2_3, g_xs_2_4, g_xs_2_5, g_xs_2_6, g_xs_3, g_xs_3_0, g_xs_3_1, g_xs_3_2, g_xs_3_3, g_xs_3_4, g_xs_3_5, g_xs_3_6, g_xs_4, g_xs_4_0, g_xs_4_1, g_xs_4_2, g_xs_4_3, g_xs_4_4, g_xs_4_5, g_xs_4_6, g_xs_5, g_xs_5_0, g_xs_5_1, g_xs_5_2, g_xs_5_3, g_xs_5_4, g_xs_5_5, g_xs_5_6, g_xs_6, g_xs_6_0, g_xs_6_1, g_xs_6_2, g_xs_6_3, g_xs_6_4, g_xs_6_5, g_xs_6_6, g_law, g__law_house, g__law_plan, g__law_due, g_faults, g__law_cell_at, g__law_door, g__law_drawn, g_House___init__, g_House_doors, g_Door_lets, g_Until_lets, g_Marked_lets, g_House_door, g__law_gone, g_House_rooms, g_House_found, g_House_holds, g_summed, g_let_by, g_there, g_House_pairs, g_gone, g_House_from_room, g_Until___init__, g_Marked___init__, g_Door___init__, g_refuse_twice, g_refuse_strange, g_Door_is_exit, g_House_refuse_numbers, g_House_sure, g_House_lets, g_House_into, g_numbered, g_named, g_is_whole, g_is_name, g_Twice___init__, g_NoRoom___init__, g_Unknown___init__])
/-! the faults that are due, as a dict's keys -/
def fk (f : Flt) : List L2.Key := [Sum.inl f.1, Sum.inr f.2.1.s, Sum.inr f.2.2.s]
theorem fk_inj (a b : Flt) (h : fk a = fk b) : a = b := by
  simp only [fk, List.cons.injEq, Sum.inl.injEq, Sum.inr.injEq, and_true] at h
  exact Prod.ext h.1 (Prod.ext (Nm.inj h.2.1) (Nm.inj h.2.2))
noncomputable def kf (m : List (Flt × Bool)) : List (List L2.Key × D) := m.map fun p => (fk p.1, iB p.2)
theorem kf_len (m : List (Flt × Bool)) : (kf m).length = m.length := by simp [kf]
theorem kf_put (m : List (Flt × Bool)) (t : Int) (a b : Nm) : putD (kf m) [Sum.inl t, Sum.inr a.s, Sum.inr b.s] (.bl true) = kf (aput m (t, a, b) true) := putD_map fk_inj iB m (t, a, b) true
theorem kf_keys (m : List (Flt × Bool)) : ((kf m).map fun kv => D.tup (kv.1.map kD)) = (m.map (·.1)).map fltD := by
  rw [kf, List.map_map, List.map_map]; rfl
def ins (m : List (Flt × Bool)) (f : Flt) : List (Flt × Bool) := aput m f true
theorem ins_mem (m : List (Flt × Bool)) (f g : Flt) : g ∈ (ins m f).map (·.1) ↔ g ∈ m.map (·.1) ∨ g = f := by
  unfold ins
  rw [aput_keys]
  split
  · rename_i h
    constructor
    · exact .inl
    · rintro (h2 | rfl)
      · exact h2
      · exact h
  · rw [List.mem_append, List.mem_singleton]
theorem ins_nd (m : List (Flt × Bool)) (f : Flt) (h : (m.map (·.1)).Nodup) : ((ins m f).map (·.1)).Nodup := by
  unfold ins
  rw [aput_keys]
  split
  · exact h
  · rename_i q
    rw [List.nodup_append]
    exact ⟨h, by simp, fun a ha b hb => by rw [List.mem_singleton.mp hb]; exact fun e => q (e ▸ ha)⟩
theorem ins_len (m : List (Flt × Bool)) (f : Flt) : (ins m f).length ≤ m.length + 1 := aput_len ..
def insIf (c : Prop) [Decidable c] (m : List (Flt × Bool)) (f : Flt) : List (Flt × Bool) := if c then ins m f else m
def rowS (h : Hs) (rs : List PRow) (m : List (Flt × Bool)) (r : PRow) : List (Flt × Bool) := insIf (letByR h r.2.1 r.1 < many rs r.1 r.2.1) m (r.1, kDoor, r.2.1)
def turnF (h : Hs) (rs : List PRow) (n : Nm) (m : List (Flt × Bool)) (k : Nat) : List (Flt × Bool) :=
  insIf (h.fi + (k : Int) < h.la ∧ inR h rs n k < goneR rs (h.fi + (k : Int)) (fromR h n)) (insIf (holdsR h n < inR h rs n k) m (h.fi + (k : Int), kFull, n)) (h.fi + (k : Int), kLeave, n)
def roomF (h : Hs) (rs : List PRow) (m : List (Flt × Bool)) (n : Nm) : List (Flt × Bool) := (List.range (h.la + 1 - h.fi).toNat).foldl (turnF h rs n) m
def dueM (h : Hs) (rs : List PRow) : List (Flt × Bool) := (rooR h).foldl (roomF h rs) (rs.foldl (rowS h rs) [])
theorem insIf_mem (c : Prop) [Decidable c] (m : List (Flt × Bool)) (f g : Flt) : g ∈ (insIf c m f).map (·.1) ↔ g ∈ m.map (·.1) ∨ (c ∧ g = f) := by
  unfold insIf
  split
  · rename_i h
    rw [ins_mem]; simp [h]
  · rename_i h
    simp [h]
theorem insIf_nd (c : Prop) [Decidable c] (m : List (Flt × Bool)) (f : Flt) (h : (m.map (·.1)).Nodup) : ((insIf c m f).map (·.1)).Nodup := by
  unfold insIf
  split
  · exact ins_nd m f h
  · exact h
theorem insIf_len (c : Prop) [Decidable c] (m : List (Flt × Bool)) (f : Flt) : (insIf c m f).length ≤ m.length + 1 := by
  unfold insIf
  split
  · exact ins_len m f
  · omega
theorem fold_mem {α : Type} (st : List (Flt × Bool) → α → List (Flt × Bool)) (P : α → Flt → Prop) (hs : ∀ m a g, g ∈ (st m a).map (·.1) ↔ g ∈ m.map (·.1) ∨ P a g) : ∀ (xs : List α) (m : List (Flt × Bool)) (g : Flt), g ∈ (xs.foldl st m).map (·.1) ↔ g ∈ m.map (·.1) ∨ ∃ a ∈ xs, P a g
  | [], m, g => by simp
  | a :: xs, m, g => by
    rw [List.foldl_cons, fold_mem st P hs xs, hs]
    constructor
    · rintro ((h | h) | ⟨b, hb, h⟩)
      · exact .inl h
      · exact .inr ⟨a, List.mem_cons_self .., h⟩
      · exact .inr ⟨b, List.mem_cons_of_mem _ hb, h⟩
    · rintro (h | ⟨b, hb, h⟩)
      · exact .inl (.inl h)
      · rcases List.mem_cons.mp hb with rfl | hb
        · exact .inl (.inr h)
        · exact .inr ⟨b, hb, h⟩
theorem fold_nd {α : Type} (st : List (Flt × Bool) → α → List (Flt × Bool)) (hs : ∀ m a, (m.map (·.1)).Nodup → ((st m a).map (·.1)).Nodup) : ∀ (xs : List α) (m : List (Flt × Bool)), (m.map (·.1)).Nodup → ((xs.foldl st m).map (·.1)).Nodup
  | [], _, h => h
  | a :: xs, m, h => fold_nd st hs xs (st m a) (hs m a h)
theorem fold_len {α : Type} (st : List (Flt × Bool) → α → List (Flt × Bool)) (c : Nat) (hs : ∀ m a, (st m a).length ≤ m.length + c) : ∀ (xs : List α) (m : List (Flt × Bool)), (xs.foldl st m).length ≤ m.length + c * xs.length
  | [], m => by simp
  | a :: xs, m => by
    have h1 := fold_len st c hs xs (st m a)
    have h2 := hs m a
    rw [List.foldl_cons, List.length_cons, Nat.mul_add]
    omega
def turnP (h : Hs) (rs : List PRow) (n : Nm) (k : Nat) (g : Flt) : Prop :=
  (holdsR h n < inR h rs n k ∧ g = (h.fi + (k : Int), kFull, n)) ∨ ((h.fi + (k : Int) < h.la ∧ inR h rs n k < goneR rs (h.fi + (k : Int)) (fromR h n)) ∧ g = (h.fi + (k : Int), kLeave, n))
theorem turnF_mem (h : Hs) (rs : List PRow) (n : Nm) (m : List (Flt × Bool)) (k : Nat) (g : Flt) : g ∈ (turnF h rs n m k).map (·.1) ↔ g ∈ m.map (·.1) ∨ turnP h rs n k g := by
  unfold turnF turnP
  rw [insIf_mem, insIf_mem, or_assoc]
theorem roomF_mem (h : Hs) (rs : List PRow) (m : List (Flt × Bool)) (n : Nm) (g : Flt) : g ∈ (roomF h rs m n).map (·.1) ↔ g ∈ m.map (·.1) ∨ ∃ k ∈ List.range (h.la + 1 - h.fi).toNat, turnP h rs n k g :=
  fold_mem (turnF h rs n) (turnP h rs n) (turnF_mem h rs n) _ m g
theorem due_mem (h : Hs) (rs : List PRow) (g : Flt) : g ∈ (dueM h rs).map (·.1) ↔ (∃ r ∈ rs, letByR h r.2.1 r.1 < many rs r.1 r.2.1 ∧ g = (r.1, kDoor, r.2.1)) ∨ ∃ n ∈ rooR h, ∃ k ∈ List.range (h.la + 1 - h.fi).toNat, turnP h rs n k g := by
  unfold dueM
  rw [fold_mem (roomF h rs) (fun n g => ∃ k ∈ List.range (h.la + 1 - h.fi).toNat, turnP h rs n k g) (roomF_mem h rs), fold_mem (rowS h rs) (fun r g => letByR h r.2.1 r.1 < many rs r.1 r.2.1 ∧ g = (r.1, kDoor, r.2.1)) (fun m r g => insIf_mem _ _ _ _)]
  simp
theorem due_nd (h : Hs) (rs : List PRow) : ((dueM h rs).map (·.1)).Nodup :=
  fold_nd _ (fun m n hm => fold_nd _ (fun m k hm => insIf_nd _ _ _ (insIf_nd _ _ _ hm)) _ _ hm) _ _ (fold_nd _ (fun m r hm => insIf_nd _ _ _ hm) _ _ (by simp))
theorem sums_keys (rs : List PRow) : ((sums rs).map (·.1)).Nodup ∧ ∀ k, k ∈ (sums rs).map (·.1) ↔ ∃ r ∈ rs, (r.1, r.2.1) = k := by
  have : ∀ (rs : List PRow) (m : List (Ky × Int)), (m.map (·.1)).Nodup → ((rs.foldl acc m).map (·.1)).Nodup ∧ ∀ k, k ∈ (rs.foldl acc m).map (·.1) ↔ k ∈ m.map (·.1) ∨ ∃ r ∈ rs, (r.1, r.2.1) = k := by
    intro rs
    induction rs with
    | nil => intro m h; exact ⟨h, fun k => by simp⟩
    | cons r rs ih =>
      intro m h
      have e : (acc m r).map (·.1) = if (r.1, r.2.1) ∈ m.map (·.1) then m.map (·.1) else m.map (·.1) ++ [(r.1, r.2.1)] := by
        unfold acc
        rw [aput_keys]
        by_cases q : (r.1, r.2.1) ∈ m.map (·.1)
        · rw [if_pos q, if_pos q]
        · rw [if_neg q, if_neg q]
      have nd : ((acc m r).map (·.1)).Nodup := by
        rw [e]
        split
        · exact h
        · rename_i q
          rw [List.nodup_append]
          exact ⟨h, by simp, fun a ha b hb => by rw [List.mem_singleton.mp hb]; exact fun e => q (e ▸ ha)⟩
      obtain ⟨i1, i2⟩ := ih (acc m r) nd
      refine ⟨i1, fun k => ?_⟩
      rw [List.foldl_cons, i2]
      have : k ∈ (acc m r).map (·.1) ↔ k ∈ m.map (·.1) ∨ (r.1, r.2.1) = k := by
        rw [e]
        split
        · rename_i q
          constructor
          · exact .inl
          · rintro (h | rfl)
            · exact h
            · exact q
        · rw [List.mem_append, List.mem_singleton]
          constructor
          · rintro (h | rfl)
            · exact .inl h
            · exact .inr rfl
          · rintro (h | rfl)
            · exact .inl h
            · exact .inr rfl
      rw [this]
      constructor
      · rintro ((h | h) | ⟨s, hs, h⟩)
        · exact .inl h
        · exact .inr ⟨r, List.mem_cons_self .., h⟩
        · exact .inr ⟨s, List.mem_cons_of_mem _ hs, h⟩
      · rintro (h | ⟨s, hs, h⟩)
        · exact .inl (.inl h)
        · rcases List.mem_cons.mp hs with rfl | hs
          · exact .inl (.inr h)
          · exact .inr ⟨s, hs, h⟩
  have h := this rs [] (by simp)
  exact ⟨h.1, fun k => by rw [sums, h.2]; simp⟩
theorem sums_val (rs : List PRow) {p : Ky × Int} (hp : p ∈ sums rs) : p.2 = many rs p.1.1 p.1.2 := by
  have h1 := aget_nd (sums rs) p.1 p.2 (sums_keys rs).1 hp
  rw [← sums_get, show (p.1.1, p.1.2) = p.1 from rfl, h1]; rfl
theorem flts_mem (h : Hs) (ok : HsOk h) (rs : List PRow) (g : Flt) : g ∈ fltsR h rs ↔ (∃ r ∈ rs, letByR h r.2.1 r.1 < many rs r.1 r.2.1 ∧ g = (r.1, kDoor, r.2.1)) ∨ ∃ n ∈ rooR h, ∃ k ∈ List.range (h.la + 1 - h.fi).toNat, turnP h rs n k g := by
  unfold fltsR
  rw [List.mem_append, List.mem_flatMap, List.mem_flatMap]
  refine or_congr ?_ ?_
  · constructor
    · rintro ⟨p, hp, hg⟩
      have hv := sums_val rs hp
      obtain ⟨r, hr, e⟩ := ((sums_keys rs).2 p.1).mp (List.mem_map.mpr ⟨p, hp, rfl⟩)
      have e1 : r.1 = p.1.1 := congrArg Prod.fst e
      have e2 : r.2.1 = p.1.2 := congrArg Prod.snd e
      unfold doorF at hg
      split at hg
      · rename_i c
        refine ⟨r, hr, ?_, ?_⟩
        · rw [e1, e2, ← hv]; exact c
        · rw [List.mem_singleton.mp hg, e1, e2]
      · cases hg
    · rintro ⟨r, hr, c, rfl⟩
      obtain ⟨p, hp, e⟩ := List.mem_map.mp (((sums_keys rs).2 (r.1, r.2.1)).mpr ⟨r, hr, rfl⟩)
      have hv := sums_val rs hp
      refine ⟨p, hp, ?_⟩
      unfold doorF
      rw [hv, e, if_pos c]
      exact List.mem_singleton.mpr rfl
  · have f0 := ok.f0
    constructor
    · rintro ⟨p, hp, hg⟩
      obtain ⟨hn, h1, h2⟩ := (pairsR_mem h p).mp hp
      refine ⟨p.1, hn, (p.2 - h.fi).toNat, List.mem_range.mpr (by omega), ?_⟩
      have e : h.fi + ((p.2 - h.fi).toNat : Int) = p.2 := by omega
      unfold turnP
      rw [e]
      unfold pairF at hg
      rcases List.mem_append.mp hg with hg | hg
      · split at hg
        · rename_i c
          exact .inl ⟨c, List.mem_singleton.mp hg⟩
        · cases hg
      · split at hg
        · rename_i c
          exact .inr ⟨c, List.mem_singleton.mp hg⟩
        · cases hg
    · rintro ⟨n, hn, k, hk, hg⟩
      have hk := List.mem_range.mp hk
      refine ⟨(n, h.fi + (k : Int)), (pairsR_mem h _).mpr ⟨hn, by show h.fi ≤ h.fi + (k : Int); omega, by show h.fi + (k : Int) ≤ h.la; omega⟩, ?_⟩
      have e : (h.fi + (k : Int) - h.fi).toNat = k := by omega
      unfold pairF
      simp only [e]
      unfold turnP at hg
      rcases hg with ⟨c, rfl⟩ | ⟨c, rfl⟩
      · rw [if_pos c]; exact List.mem_append_left _ (List.mem_singleton.mpr rfl)
      · rw [if_pos c]; exact List.mem_append_right _ (List.mem_singleton.mpr rfl)
theorem fm_nd {α β : Type} (f : α → List β) : ∀ {xs : List α}, xs.Nodup → (∀ x ∈ xs, (f x).Nodup) → (∀ x ∈ xs, ∀ y ∈ xs, ∀ b, b ∈ f x → b ∈ f y → x = y) → (xs.flatMap f).Nodup
  | [], _, _, _ => by simp
  | x :: xs, nd, h1, h2 => by
    obtain ⟨n1, n2⟩ := List.nodup_cons.mp nd
    rw [List.flatMap_cons, List.nodup_append]
    refine ⟨h1 x (List.mem_cons_self ..), fm_nd f n2 (fun y hy => h1 y (List.mem_cons_of_mem _ hy)) (fun y hy z hz => h2 y (List.mem_cons_of_mem _ hy) z (List.mem_cons_of_mem _ hz)), fun a ha b hb e => ?_⟩
    subst e
    obtain ⟨y, hy, hb⟩ := List.mem_flatMap.mp hb
    have := h2 x (List.mem_cons_self ..) y (List.mem_cons_of_mem _ hy) a ha hb
    exact n1 (this ▸ hy)
theorem k_ne : kDoor ≠ kFull ∧ kDoor ≠ kLeave ∧ kFull ≠ kLeave := ⟨fun h => absurd (congrArg Nm.l h) (by decide), fun h => absurd (congrArg Nm.l h) (by decide), fun h => absurd (congrArg Nm.l h) (by decide)⟩
theorem pairs_nd (h : Hs) (ok : HsOk h) : (pairsR h).Nodup := by
  unfold pairsR
  refine fm_nd _ ?_ (fun t _ => ?_) (fun t _ u _ p h1 h2 => ?_)
  · unfold turnsR
    exact Q.nd_map _ fun i j _ _ e => by omega
  · have := ok.rn
    rw [List.Nodup, List.pairwise_map]
    exact List.Pairwise.imp (fun {a b} h e => h (congrArg Prod.fst e)) this
  · obtain ⟨n, _, rfl⟩ := List.mem_map.mp h1
    obtain ⟨m, _, e⟩ := List.mem_map.mp h2
    exact (congrArg Prod.snd e).symm
theorem flts_nd (h : Hs) (ok : HsOk h) (rs : List PRow) : (fltsR h rs).Nodup := by
  unfold fltsR
  rw [List.nodup_append]
  refine ⟨fm_nd _ ?_ (fun p _ => ?_) (fun p hp q hq b h1 h2 => ?_), fm_nd _ (pairs_nd h ok) (fun p _ => ?_) (fun p _ q _ b h1 h2 => ?_), fun a ha b hb e => ?_⟩
  · have := (sums_keys rs).1
    rw [List.Nodup, List.pairwise_map] at this
    exact List.Pairwise.imp (fun {a b} h e => h (congrArg Prod.fst e)) this
  · unfold doorF; split <;> simp
  · have k1 : p.1 = q.1 := by
      unfold doorF at h1 h2
      split at h1
      · split at h2
        · have e := (List.mem_singleton.mp h1).symm.trans (List.mem_singleton.mp h2)
          exact Prod.ext (congrArg (·.1) e) (congrArg (·.2.2) e)
        · cases h2
      · cases h1
    have v1 := sums_val rs hp
    have v2 := sums_val rs hq
    exact Prod.ext k1 (by rw [v1, v2, k1])
  · unfold pairF
    split <;> split <;> simp [k_ne.2.2]
  · have z : ∀ p : Kr, b ∈ pairF h rs p → b.1 = p.2 ∧ b.2.2 = p.1 := fun p hb => by
      unfold pairF at hb
      rcases List.mem_append.mp hb with hb | hb <;> split at hb
      · rw [List.mem_singleton.mp hb]; exact ⟨rfl, rfl⟩
      · cases hb
      · rw [List.mem_singleton.mp hb]; exact ⟨rfl, rfl⟩
      · cases hb
    have a1 := z p h1
    have a2 := z q h2
    exact Prod.ext (a1.2.symm.trans a2.2) (a1.1.symm.trans a2.1)
  · subst e
    obtain ⟨p, _, ha⟩ := List.mem_flatMap.mp ha
    obtain ⟨q, _, hb⟩ := List.mem_flatMap.mp hb
    have e1 : a.2.1 = kDoor := by
      unfold doorF at ha
      split at ha
      · rw [List.mem_singleton.mp ha]
      · cases ha
    unfold pairF at hb
    rcases List.mem_append.mp hb with hb | hb <;> split at hb
    · rw [List.mem_singleton.mp hb] at e1; exact k_ne.1 e1.symm
    · cases hb
    · rw [List.mem_singleton.mp hb] at e1; exact k_ne.2.1 e1.symm
    · cases hb
theorem due_srt (h : Hs) (ok : HsOk h) (rs : List PRow) : srt fltD ((dueM h rs).map (·.1)) = srt fltD (fltsR h rs) :=
  srt_of_perm fltD tok_flt ((List.perm_ext_iff_of_nodup (due_nd h rs) (flts_nd h ok rs)).mpr fun g => (due_mem h rs g).trans (flts_mem h ok rs g).symm)
theorem sum_nn' {α : Type} (f : α → Int) : ∀ xs : List α, (∀ x ∈ xs, 0 ≤ f x) → 0 ≤ (xs.map f).sum
  | [], _ => by simp
  | x :: xs, h => by
    have h1 := h x (List.mem_cons_self ..)
    have h2 := sum_nn' f xs fun y hy => h y (List.mem_cons_of_mem _ hy)
    simp only [List.map_cons, List.sum_cons]
    omega
theorem found_nn' (h : Hs) (ok : HsOk h) (n : Nm) : 0 ≤ foundR h n ∧ foundR h n ≤ holdsR h n := by
  have f : foundR h n = ofR h.ps n := ppl_get h.ps n
  by_cases c : n ∈ h.ps.map (·.1)
  · have hp := ppl_in h.ps n c
    obtain ⟨m, h1, h2⟩ := ok.pm _ hp
    have h1 : aget h.rs n = some m := h1
    have h2 : ofR h.ps n ≤ m := h2
    refine ⟨?_, ?_⟩
    · rw [f]
      exact sum_nn' _ _ fun p hp => ok.p0 p (List.mem_filter.mp hp).1
    · rw [f, holdsR, h1]; exact h2
  · have z : ofR h.ps n = 0 := by
      unfold ofR
      rw [List.filter_eq_nil_iff.mpr fun r hr => by simp only [decide_eq_true_eq]; exact fun e => c (List.mem_map.mpr ⟨r, hr, e⟩)]
      rfl
    rw [f, z]
    refine ⟨by decide, ?_⟩
    rw [holdsR]
    cases e : aget h.rs n with
    | none => exact Int.le_refl _
    | some m => exact ok.r0 _ (aget_some e)
theorem flts_nil (h : Hs) (ok : HsOk h) : fltsR h [] = [] := by
  have z : ∀ n k, inR h [] n k = foundR h n := fun n k => by
    rw [inR_rows h ok]; simp
  have g0 : ∀ t ns, goneR [] t ns = 0 := fun t ns => sum_zero _ _ fun n _ => by simp [many]
  unfold fltsR
  have e1 : sums [] = [] := rfl
  rw [e1]
  simp only [List.flatMap_nil, List.nil_append, List.flatMap_eq_nil_iff]
  intro p _
  have := found_nn' h ok p.1
  unfold pairF
  rw [z, g0, if_neg (by omega), if_neg (by omega)]
  rfl
end k22

end

section
set_option Elab.async false
set_option linter.all false
set_option maxRecDepth 100000
set_option maxHeartbeats 1000000
namespace k22
open PySem PySem.Spec Q
local macro_rules | `(tactic| simp only [qs0]) => `(tactic| simp only [ev_var, ev_cst, ev_glo, ev_bin, ev_neg, ev_cmp, ev_chn, ev_bo, ev_not, ev_ife, ev_tup, ev_lst, ev_dnew, ev_sub, ev_slc, ev_slc3, ev_fld, ev_call, ev_mth, ev_mk, ev_blt, ev_bm, ev_isi, ev_dget, ev_lc, evs_nil, evs_cons, evo_no, evo_so, evc_no, evc_so, evI_any, evI_r1, evI_r2, evI_vs, evI_its, evP_nm, evP_fld, evP_sub, evA_e, evA_mv, evA_iom, evA_ioi, evA_iof, evS_asg, evS_asgLc, evS_asgT, evS_ex, evS_asgA, evS_exA, evS_retA, evS_ret, evS_retN, evS_retv, evS_pass, evS_brk, evS_cnt, evS_doc, evS_if, evS_whl, evS_for, evS_app, evS_ext, evS_clr, evS_put, evS_fset, evS_aug, evS_augs, evSs_nil, evSs_cons, evSs_frz, evSs_fgt, so_nx, so_rt, so_bk, so_ct, so_ex, if_t, if_f, if_b, if_x, ir_t, ir_f, ir_b, bo_1, bo_n, bo_tt, bo_tf, bo_ft, bo_ff, bo_x, bo_an, bo_or, ite_bl, ite_ff, ite_tt, Bool.not_eq_true', decide_eq_false_iff_not, ite_not, Bool.and_eq_true, Bool.or_eq_true, Bool.decide_eq_true, FnI.run, FnI.N, FnI.np, FnI.io, FnI.body, x_ok, x_ex, x_some, x_nok, o_ok, o_ex, a_ok, a_ex, ra_ok, ra_ex, g_shr, g_own, g_tmp, g_suc, w_own, w_shr, w_tmp, w_suc, sto_shr, sto_own, sto_tmp, asg_ok, ret_shr, ret_own, retT, rDt_, rDk_, frz_own, frz_shr, frz_tmp, frz_non, frz_suc, fgt_, R.sh, T.sh, R.tr, T.kids, T.withKids, sh_shr, sh_own, sh_tmp, sh_vw, d_shr, d_own, d_tmp, d_vw, T_pl, T_lf, T.d, T.ds, bl_, rI_, rS_, rB_, rL_, kid_shr, kid_own, kids_nil, kids_cons, cmp_, not_, int_, tup_, lst_, arg_shr, arg_own, arg_vw, arg_tmp, call_e, mk_e, end_nx, end_rt, end_ex, outs_nil, outs_cons, b_sh, b_add, b_sub, b_mulr, b_mull, b_fdiv, b_mod, b_pow', b_shl', b_shr, Int.reduceToNat, Int.reduceMod, Int.reduceDiv, Int.reduceEq, Int.reduceNe, b_and, b_xor, b_app, b_tup, c_lt, c_le, c_gt, c_ge, c_eq, c_ne, c_in, c_nin, c_is, c_isn, c_slt, e_int, e_str, e_bl, is_bl, is_non, is_int, is_str, is_lst, is_ins, Blt.F, Bm.F, len_s1, len_o1, len_t1, len_v1, len_s2, len_s3, len_v2, len_t2, len_dk, len_dt, lst1_lst, lst1_tup, sub_sh, s_lst, s_tup, s_scr, s_dk, s_dt, slc_sh, sl_lst, sl_tup, sl_scr, at_i2, at_i3, at_i4, at_i5, at_i6, at_i7, at_i8, at_i9, at_i10, at_i11, at_i12, at_i13, at_0, at_1, at_2, at_3, any_sl, any_ol, any_tl, any_st, any_ss, any_sk, any_sT, any_tk, any_tT, map_map, kD_l, kD_r, rng1_s, rng2_s, slc3_l, size_, any_S, in_S, len_S, sl_S, s_S, b_S, e_S, at_abc, abc_s, abc_len, Int.emod_nonneg, ch_ll, ch_lt, ch_tl, ch_tt, all_b, any_b, sum_i, int_b, max_, min_, divmod_, b_rep, String.reduceEq, cut_to, cut_from, cut_mid, cut_all, List.take_succ_cons, List.take_zero, List.drop_succ_cons, List.drop_zero, ne_eq, not_false_eq_true, isVw, isOwn, ios, iosF, Tg.F, Tgs.F, Tgs.len, nmF, consF, nilF, tupF, unpD, chi, rec_s, rec_own_i, rec_own_l, rec_own_p, rec_tmp_i, rec_tmp_l, rec_tmp_p, rec_vw_i, rec_vw_l, rec_vw_p, fld_s, fld_own_i, fld_own_l, fld_own_p, fld_tmp_i, fld_tmp_l, fld_tmp_p, fld_vw_i, fld_vw_l, fld_vw_p, isiR, tyD, beq_self_eq_true, tyO, tyR, Bm.T, strsD, Tk.kit, partT, T.at_, T.put, putP, aE, aMv, shareR, appF, extF, clrF, plLst, childT, putT, putF1, keyD, keysD, fsetT, augF, augI, augPre, augsF, noVw, ioX, ioA, insC, insO, pfldR, psubR, dkO, dgetR, bor, borR, wipeR, Q.getD, lcStep, L2.ixN, Int.cast_ofNat_Int, List.set_cons_succ, List.set_cons_zero, List.length_cons, List.length_nil, List.length_map, List.length_range, List.length_set, List.map_cons, List.map_nil, List.cons_append, List.getElem?_cons_succ, List.getElem?_cons_zero, List.nil_append, List.append_nil, List.replicate, List.flatten_cons, List.flatten_nil, List.set, List.getD_cons_zero, List.getD_cons_succ, List.foldr, Option.bind_some, Option.bind_none, Option.map_some, Option.map_none, Option.some.injEq, Option.getD_some, Option.getD_none, Nat.reduceAdd, Nat.reduceMul, Nat.reduceSub, Nat.reduceLT, Nat.reduceLeDiff, Nat.reduceBEq, reduceCtorEq, reduceIte, decide_eq_true_eq, if_true, if_false, ite_true, ite_false, decide_true, decide_false, and_true, true_and, and_self, or_true, true_or, or_false, false_or, false_and, and_false, or_self, Bool.false_eq_true, Bool.not_true, Bool.not_false, Bool.and_self, Bool.true_and, Bool.and_true, Bool.false_and, Bool.and_false, Bool.or_self, Bool.true_or, Bool.or_true, Bool.false_or, Bool.or_false, Int.reduceLT, Int.reduceLE, Int.reducePow, Int.reduceNeg, Int.reduceAdd, Int.reduceMul, Int.reduceSub, Nat.reducePow, id_eq, D.lst.injEq, D.scr.injEq, D.tup.injEq, D.dk.injEq, D.dt.injEq, D.str.injEq, D.int.injEq, D.ins.injEq, D.bl.injEq, ev_skeys, ev_dtre, evS_sw2, sw2F, evSs_frf, frfF, ev_lvals, ev_svals, ev_mind, ev_dis1, ev_isX, ev_xnm, evI_en, evI_r3, evS_rse, evS_rse1, evS_try, dis1R, keyD, flatD, lvalsR, svalsR, its_s, its_t, vls_s, vls_t, mind_o, kd_len, kd_put, kd_val, kd_in, kd_sub, kd_dget, kd_keys, kd_its, kd_vals, map_id_, kt_len, kt_put, kt_val, kt_sub, kt_dget, at_last, neg_, its_sT, its_tT, its_oT, its_o, kt_its, kt_keys, enum_Is, enum_Io, rng3_dn, kr_len, kr_put, kr_val, kr_sub, kr_keys, b_repS, rse_s, rse_x, try_nx, try_bk, try_ct, try_rt, try_ex, sut_0, sut_1, del_nx, del_bk, del_ct, del_rt, at_xa, at_xs, at_fn, at_glo, mark_at, xcT_, xnT_, forall_const, imp_self, implies_true, l_LETTERS, l_MOST_LETTERS, g_isi_7_7, g_isi_7_8, g_isi_7_9, g_isi_7_10, g_isi_8_7, g_isi_8_8, g_isi_8_9, g_isi_8_10, g_isi_9_7, g_isi_9_8, g_isi_9_9, g_isi_9_10, g_isi_10_7, g_isi_10_8, g_isi_10_9, g_isi_10_10, g_xs_0, g_xs_0_0, g_xs_0_1, g_xs_0_2, g_xs_0_3, g_xs_0_4, g_xs_0_5, g_xs_0_6, g_xs_1, g_xs_1_0, g_xs_1_1, g_xs_1_2, g_xs_1_3, g_xs_1_4, g_xs_1_5, g_xs_1_6, g_xs_2, g_xs_2_0, g_xs_2_1, g_xs_2_2, g_xs_2_3, g_xs_2_4, g_xs_2_5, g_xs_2_6, g_xs_3, g_xs_3_0, g_xs_3_1, g_xs_3_2, g_xs_3_3, g_xs_3_4, g_xs_3_5, g_xs_3_6, g_xs_4, g_xs_4_0, g_xs_4_1, g_xs_4_2, g_xs_4_3, g_xs_4_4, g_xs_4_5, g_xs_4_6, g_xs_5, g_xs_5_0, g_xs_5_1, g_xs_5_2, g_xs_5_3, g_xs_5_4, g_xs_5_5, g_xs_5_6, g_xs_6, g_xs_6_0, g_xs_6_1, g_xs_6_2, g_xs_6_3, g_xs_6_4, g_xs_6_5, g_xs_6_6, g_law, g__law_house, g__law_plan, g__law_due, g_faults, g__law_cell_at, g__law_door, g__law_drawn, g_House___init__, g_House_doors, g_Door_lets, g_Until_lets, g_Marked_lets, g_House_door, g__law_gone, g_House_rooms, g_House_found, g_House_holds, g_summed, g_let_by, g_there, g_House_pairs, g_gone, g_House_from_room, g_Until___init__, g_Marked___init__, g_Door___init__, g_refuse_twice, g_refuse_strange, g_Door_is_exit, g_House_refuse_numbers, g_House_sure, g_House_lets, g_House_into, g_numbered, g_named, g_is_whole, g_is_name, g_Twice___init__, g_NoRoom___init__, g_Unknown___init__])
local macro_rules | `(tactic| simp only [qs0, $args,*]) => `(tactic| simp only [$args,*, ev_var, ev_cst, ev_glo, ev_bin, ev_neg, ev_cmp, ev_chn, ev_bo, ev_not, ev_ife, ev_tup, ev_lst, ev_dnew, ev_sub, ev_slc, ev_slc3, ev_fld, ev_call, ev_mth, ev_mk, ev_blt, ev_bm, ev_isi, ev_dget, ev_lc, evs_nil, evs_cons, evo_no, evo_so, evc_no, evc_so, evI_any, evI_r1, evI_r2, evI_vs, evI_its, evP_nm, evP_fld, evP_sub, evA_e, evA_mv, evA_iom, evA_ioi, evA_iof, evS_asg, evS_asgLc, evS_asgT, evS_ex, evS_asgA, evS_exA, evS_retA, evS_ret, evS_retN, evS_retv, evS_pass, evS_brk, evS_cnt, evS_doc, evS_if, evS_whl, evS_for, evS_app, evS_ext, evS_clr, evS_put, evS_fset, evS_aug, evS_augs, evSs_nil, evSs_cons, evSs_frz, evSs_fgt, so_nx, so_rt, so_bk, so_ct, so_ex, if_t, if_f, if_b, if_x, ir_t, ir_f, ir_b, bo_1, bo_n, bo_tt, bo_tf, bo_ft, bo_ff, bo_x, bo_an, bo_or, ite_bl, ite_ff, ite_tt, Bool.not_eq_true', decide_eq_false_iff_not, ite_not, Bool.and_eq_true, Bool.or_eq_true, Bool.decide_eq_true, FnI.run, FnI.N, FnI.np, FnI.io, FnI.body, x_ok, x_ex, x_some, x_nok, o_ok, o_ex, a_ok, a_ex, ra_ok, ra_ex, g_shr, g_own, g_tmp, g_suc, w_own, w_shr, w_tmp, w_suc, sto_shr, sto_own, sto_tmp, asg_ok, ret_shr, ret_own, retT, rDt_, rDk_, frz_own, frz_shr, frz_tmp, frz_non, frz_suc, fgt_, R.sh, T.sh, R.tr, T.kids, T.withKids, sh_shr, sh_own, sh_tmp, sh_vw, d_shr, d_own, d_tmp, d_vw, T_pl, T_lf, T.d, T.ds, bl_, rI_, rS_, rB_, rL_, kid_shr, kid_own, kids_nil, kids_cons, cmp_, not_, int_, tup_, lst_, arg_shr, arg_own, arg_vw, arg_tmp, call_e, mk_e, end_nx, end_rt, end_ex, outs_nil, outs_cons, b_sh, b_add, b_sub, b_mulr, b_mull, b_fdiv, b_mod, b_pow', b_shl', b_shr, Int.reduceToNat, Int.reduceMod, Int.reduceDiv, Int.reduceEq, Int.reduceNe, b_and, b_xor, b_app, b_tup, c_lt, c_le, c_gt, c_ge, c_eq, c_ne, c_in, c_nin, c_is, c_isn, c_slt, e_int, e_str, e_bl, is_bl, is_non, is_int, is_str, is_lst, is_ins, Blt.F, Bm.F, len_s1, len_o1, len_t1, len_v1, len_s2, len_s3, len_v2, len_t2, len_dk, len_dt, lst1_lst, lst1_tup, sub_sh, s_lst, s_tup, s_scr, s_dk, s_dt, slc_sh, sl_lst, sl_tup, sl_scr, at_i2, at_i3, at_i4, at_i5, at_i6, at_i7, at_i8, at_i9, at_i10, at_i11, at_i12, at_i13, at_0, at_1, at_2, at_3, any_sl, any_ol, any_tl, any_st, any_ss, any_sk, any_sT, any_tk, any_tT, map_map, kD_l, kD_r, rng1_s, rng2_s, slc3_l, size_, any_S, in_S, len_S, sl_S, s_S, b_S, e_S, at_abc, abc_s, abc_len, Int.emod_nonneg, ch_ll, ch_lt, ch_tl, ch_tt, all_b, any_b, sum_i, int_b, max_, min_, divmod_, b_rep, String.reduceEq, cut_to, cut_from, cut_mid, cut_all, List.take_succ_cons, List.take_zero, List.drop_succ_cons, List.drop_zero, ne_eq, not_false_eq_true, isVw, isOwn, ios, iosF, Tg.F, Tgs.F, Tgs.len, nmF, consF, nilF, tupF, unpD, chi, rec_s, rec_own_i, rec_own_l, rec_own_p, rec_tmp_i, rec_tmp_l, rec_tmp_p, rec_vw_i, rec_vw_l, rec_vw_p, fld_s, fld_own_i, fld_own_l, fld_own_p, fld_tmp_i, fld_tmp_l, fld_tmp_p, fld_vw_i, fld_vw_l, fld_vw_p, isiR, tyD, beq_self_eq_true, tyO, tyR, Bm.T, strsD, Tk.kit, partT, T.at_, T.put, putP, aE, aMv, shareR, appF, extF, clrF, plLst, childT, putT, putF1, keyD, keysD, fsetT, augF, augI, augPre, augsF, noVw, ioX, ioA, insC, insO, pfldR, psubR, dkO, dgetR, bor, borR, wipeR, Q.getD, lcStep, L2.ixN, Int.cast_ofNat_Int, List.set_cons_succ, List.set_cons_zero, List.length_cons, List.length_nil, List.length_map, List.length_range, List.length_set, List.map_cons, List.map_nil, List.cons_append, List.getElem?_cons_succ, List.getElem?_cons_zero, List.nil_append, List.append_nil, List.replicate, List.flatten_cons, List.flatten_nil, List.set, List.getD_cons_zero, List.getD_cons_succ, List.foldr, Option.bind_some, Option.bind_none, Option.map_some, Option.map_none, Option.some.injEq, Option.getD_some, Option.getD_none, Nat.reduceAdd, Nat.reduceMul, Nat.reduceSub, Nat.reduceLT, Nat.reduceLeDiff, Nat.reduceBEq, reduceCtorEq, reduceIte, decide_eq_true_eq, if_true, if_false, ite_true, ite_false, decide_true, decide_false, and_true, true_and, and_self, or_true, true_or, or_false, false_or, false_and, and_false, or_self, Bool.false_eq_true, Bool.not_true, Bool.not_false, Bool.and_self, Bool.true_and, Bool.and_true, Bool.false_and, Bool.and_false, Bool.or_self, Bool.true_or, Bool.or_true, Bool.false_or, Bool.or_false, Int.reduceLT, Int.reduceLE, Int.reducePow, Int.reduceNeg, Int.reduceAdd, Int.reduceMul, Int.reduceSub, Nat.reducePow, id_eq, D.lst.injEq, D.scr.injEq, D.tup.injEq, D.dk.injEq, D.dt.injEq, D.str.injEq, D.int.injEq, D.ins.injEq, D.bl.injEq, ev_skeys, ev_dtre, evS_sw2, sw2F, evSs_frf, frfF, ev_lvals, ev_svals, ev_mind, ev_dis1, ev_isX, ev_xnm, evI_en, evI_r3, evS_rse, evS_rse1, evS_try, dis1R, keyD, flatD, lvalsR, svalsR, its_s, its_t, vls_s, vls_t, mind_o, kd_len, kd_put, kd_val, kd_in, kd_sub, kd_dget, kd_keys, kd_its, kd_vals, map_id_, kt_len, kt_put, kt_val, kt_sub, kt_dget, at_last, neg_, its_sT, its_tT, its_oT, its_o, kt_its, kt_keys, enum_Is, enum_Io, rng3_dn, kr_len, kr_put, kr_val, kr_sub, kr_keys, b_repS, rse_s, rse_x, try_nx, try_bk, try_ct, try_rt, try_ex, sut_0, sut_1, del_nx, del_bk, del_ct, del_rt, at_xa, at_xs, at_fn, at_glo, mark_at, xcT_, xnT_, forall_const, imp_self, implies_true, l_LETTERS, l_MOST_LETTERS, g_isi_7_7, g_isi_7_8, g_isi_7_9, g_isi_7_10, g_isi_8_7, g_isi_8_8, g_isi_8_9, g_isi_8_10, g_isi_9_7, g_isi_9_8, g_isi_9_9, g_isi_9_10, g_isi_10_7, g_isi_10_8, g_isi_10_9, g_isi_10_10, g_xs_0, g_xs_0_0, g_xs_0_1, g_xs_0_2, g_xs_0_3, g_xs_0_4, g_xs_0_5, g_xs_0_6, g_xs_1, g_xs_1_0, g_xs_1_1, g_xs_1_2, g_xs_1_3, g_xs_1_4, g_xs_1_5, g_xs_1_6, g_xs_2, g_xs_2_0, g_xs_2_1, g_xs_2_2, g_xs_2_3, g_xs_2_4, g_xs_2_5, g_xs_2_6, g_xs_3, g_xs_3_0, g_xs_3_1, g_xs_3_2, g_xs_3_3, g_xs_3_4, g_xs_3_5, g_xs_3_6, g_xs_4, g_xs_4_0, g_xs_4_1, g_xs_4_2, g_xs_4_3, g_xs_4_4, g_xs_4_5, g_xs_4_6, g_xs_5, g_xs_5_0, g_xs_5_1, g_xs_5_2, g_xs_5_3, g_xs_5_4, g_xs_5_5, g_xs_5_6, g_xs_6, g_xs_6_0, g_xs_6_1, g_xs_6_2, g_xs_6_3, g_xs_6_4, g_xs_6_5, g_xs_6_6, g_law, g__law_house, g__law_plan, g__law_due, g_faults, g__law_cell_at, g__law_door, g__law_drawn, g_House___init__, g_House_doors, g_Door_lets, g_Until_lets, g_Marked_lets, g_House_door, g__law_gone, g_House_rooms, g_House_found, g_House_holds, g_summed, g_let_by, g_there, g_House_pairs, g_gone, g_House_from_room, g_Until___init__, g_Marked___init__, g_Door___init__, g_refuse_twice, g_refuse_strange, g_Door_is_exit, g_House_refuse_numbers, g_House_sure, g_House_lets, g_House_into, g_numbered, g_named, g_is_whole, g_is_name, g_Twice___init__, g_NoRoom___init__, g_Unknown___init__])
def drawn (c k : Int) : Int :=
  let n := (c + 7883 * k + 1) * 48271 % 2147483647
  n * (n / 1009 + 69621) % 2147483647
theorem drawn_ (w d : Nat) (c k : Int) : pd.F w (d + 1) 7 [.shr (.int c), .shr (.int k)] = some (.ret (.shr (.int (drawn c k))) []) := by
  rw [F__law_drawn, i__law_drawn]
  have h1 : ∀ x : Int, -18446744073709551616 < x % 2147483647 / 1009 + 69621 ∧ x % 2147483647 / 1009 + 69621 < 18446744073709551616 := fun x => by omega
  simp only [qs0, h1, drawn]
theorem drawn_nn (c k : Int) : 0 ≤ drawn c k := by
  unfold drawn
  exact Int.emod_nonneg _ (by omega)
def l1 (i : Nat) : Nm := ⟨[abc.getD i 97], by simp, by simp, fun c hc => by rw [List.mem_singleton.mp hc]; exact abc_mem i⟩
theorem abc_inj : ∀ i : Nat, i < 26 → ∀ j : Nat, j < 26 → abc.getD i 97 = abc.getD j 97 → i = j := by decide
theorem l1_inj (i j : Nat) (hi : i < 26) (hj : j < 26) (h : l1 i = l1 j) : i = j := abc_inj i hi j hj (List.cons.inj (congrArg Nm.l h)).1
theorem q_mnabc : Str.ofString "mnabc" = st [109, 110, 97, 98, 99] := by decide +kernel
theorem q_st : Str.ofString "stqrnxu" = st [115, 116, 113, 114, 110, 120, 117] := by decide +kernel
theorem q_zz : Str.ofString "zz" = st [122, 122] := by decide +kernel
def nZz : Nm := ⟨[122, 122], by decide, by decide, by decide⟩
def i5 (k : Nat) : Nat := [12, 13, 0, 1, 2].getD k 0
def i7 (k : Nat) : Nat := [18, 19, 16, 17, 13, 23, 20].getD k 0
theorem i5_inj : ∀ i : Nat, i < 5 → ∀ j : Nat, j < 5 → i5 i = i5 j → i = j := by decide
theorem i7_inj : ∀ i : Nat, i < 7 → ∀ j : Nat, j < 7 → i7 i = i7 j → i = j := by decide
theorem i5_lt : ∀ i : Nat, i < 5 → i5 i < 26 := by decide
theorem i7_lt : ∀ i : Nat, i < 7 → i7 i < 26 := by decide
theorem at_mnabc (k : Nat) (h : k < 5) : L2.atI [109, 110, 97, 98, 99] (k : Int) = some (abc.getD (i5 k) 97) := by
  have : k = 0 ∨ k = 1 ∨ k = 2 ∨ k = 3 ∨ k = 4 := by omega
  rcases this with rfl | rfl | rfl | rfl | rfl <;> rfl
theorem at_st (k : Nat) (h : k < 7) : L2.atI [115, 116, 113, 114, 110, 120, 117] (k : Int) = some (abc.getD (i7 k) 97) := by
  have : k = 0 ∨ k = 1 ∨ k = 2 ∨ k = 3 ∨ k = 4 ∨ k = 5 ∨ k = 6 := by omega
  rcases this with rfl | rfl | rfl | rfl | rfl | rfl | rfl <;> rfl
def rsK (c : Int) (n : Nat) : List (Nm × Int) := (List.range n).map fun k : Nat => (l1 (i5 k), c / (7 + (k : Int)) % 9)
def psK (c : Int) (n : Nat) : List (Nm × Int) := (List.range n).map fun k : Nat => (l1 (i5 k), c / ((k : Int) + 3) % (c / (7 + (k : Int)) % 9 + 1))
def enK (rs : List (Nm × Int)) (v : Int) : Option Nm := ([none, some (pickR rs (v / 8)).1, some (pickR rs (v / 64)).1] : List (Option Nm)).getD (v / 5 % 3).toNat none
def drK (rs : List (Nm × Int)) (fi : Int) (nm : Nm) (v : Int) : Dr :=
  if v / 3 % 4 = 0 then ⟨nm, (pickR rs v).1, enK rs v, 8, [.int (v / 512 % 6), .int (fi + v / 4096 % 7)], fun t => if t < fi + v / 4096 % 7 then v / 512 % 6 else 0⟩
  else if v / 3 % 4 = 1 then ⟨nm, (pickR rs v).1, enK rs v, 9, [.int (v / 512 % 6), .int (v / 4096)], fun t => markL (v / 512 % 6) (v / 4096) t⟩
  else ⟨nm, (pickR rs v).1, enK rs v, 7, [.int (v / 512 % 6)], fun _ => v / 512 % 6⟩
theorem drK_nm (rs fi nm v) : (drK rs fi nm v).nm = nm := by unfold drK; split; rfl; split <;> rfl
theorem drK_st (rs fi nm v) : (drK rs fi nm v).st = (pickR rs v).1 := by unfold drK; split; rfl; split <;> rfl
theorem drK_en (rs fi nm v) : (drK rs fi nm v).en = enK rs v := by unfold drK; split; rfl; split <;> rfl
theorem inc : (7 ≤ 7 ∧ 7 < 10) ∧ (7 ≤ 8 ∧ 8 < 10) ∧ (7 ≤ 9 ∧ 9 < 10) := by decide
theorem drK_c (rs fi nm v) : 7 ≤ (drK rs fi nm v).c ∧ (drK rs fi nm v).c < 10 := by
  unfold drK
  split
  · exact inc.2.1
  · split
    · exact inc.2.2
    · exact inc.1
theorem drK_lets (rs fi nm v) (hv : 0 ≤ v) : LetsOk 1 (drK rs fi nm v) := by
  unfold drK
  by_cases c1 : v / 3 % 4 = 0
  · rw [if_pos c1]
    refine ⟨fun t _ => ?_, fun w d t _ => lets_Until w d nm (pickR rs v).1 (enK rs v) (v / 512 % 6) (fi + v / 4096 % 7) t⟩
    show 0 ≤ if t < fi + v / 4096 % 7 then v / 512 % 6 else 0
    split <;> omega
  · rw [if_neg c1]
    by_cases c2 : v / 3 % 4 = 1
    · rw [if_pos c2]
      exact ⟨fun t _ => markL_nn _ _ _ (by omega), fun w d t ht => lets_Marked w d nm (pickR rs v).1 (enK rs v) (v / 512 % 6) (v / 4096) t ht.1⟩
    · rw [if_neg c2]
      refine ⟨fun t _ => ?_, fun w d t _ => lets_Door w d nm (pickR rs v).1 (enK rs v) (v / 512 % 6) t⟩
      show 0 ≤ v / 512 % 6
      omega
theorem ldoor_ (w d : Nat) (rs : List (Nm × Int)) (hr : 0 < rs.length) (hl : rs.length ≤ 16777216) (nm : Nm) (v fi : Int) (hv : 0 ≤ v) (hf : 0 ≤ fi) :
    pd.F w (d + 5) 6 [.shr (.str nm.s), .shr (.lst (rs.map rmD)), .shr (.int v), .shr (.int fi)] = some (.ret (.shr (drK rs fi nm v).d) []) := by
  rw [F__law_door, i__law_door]
  have h0 : 0 < (rs.length : Int) := by omega
  have a1 := at_rs rs hr
  have ee : L2.atI [D.non, D.str (pickR rs (v / 8)).1.s, D.str (pickR rs (v / 64)).1.s] (v / 5 % 3) = some (eD (enK rs v)) :=
    at_modM eD [none, some (pickR rs (v / 8)).1, some (pickR rs (v / 64)).1] none _ 3 rfl (by simp)
  have hw : 0 ≤ v / 512 % 6 := by omega
  have b1 := init_Until w d nm (pickR rs v).1 (enK rs v) (v / 512 % 6) (fi + v / 4096 % 7) hw (by omega)
  have b2 := init_Marked w d nm (pickR rs v).1 (enK rs v) (v / 512 % 6) (v / 4096) hw (by omega)
  have b3 := binit_Door w (d + 1) nm (pickR rs v).1 (enK rs v) (v / 512 % 6) hw
  rw [← F_Door___init__] at b3
  unfold drK
  by_cases c1 : v / 3 % 4 = 0
  · rw [if_pos c1]
    simp only [qs0, c1, a1, ee, h0, hl, rmD, b1, Dr.d]
  · rw [if_neg c1]
    by_cases c2 : v / 3 % 4 = 1
    · rw [if_pos c2]
      simp only [qs0, c1, c2, a1, ee, h0, hl, rmD, b2, Dr.d]
    · rw [if_neg c2]
      simp only [qs0, c1, c2, a1, ee, h0, hl, rmD, b3, Dr.d]
structure Good (h : Hs) : Prop where
  ok : HsOk h
  la : h.la < 1000000000000000000
  lt : h.fi < h.la
  sz : h.la - h.fi ≤ 1000
  dl : h.ds.length ≤ 7
  rl : h.rs.length ≤ 5
  le : ∀ x ∈ h.ds, LetsOk 1 x
def dsK (rs : List (Nm × Int)) (fi c1 : Int) (m : Nat) : List Dr := (List.range m).map fun k : Nat => drK rs fi (l1 (i7 k)) (drawn c1 k)
def hsK (c c1 : Int) (n m : Nat) (fi la : Int) : Hs := ⟨fi, la, rsK c n, dsK (rsK c n) fi c1 m, psK c n⟩
theorem good_ (c c1 : Int) (n m : Nat) (hn : 1 ≤ n ∧ n ≤ 5) (hm : m ≤ 7) (fi la : Int) (hf : 0 ≤ fi ∧ fi < la ∧ la < 1000000000000) (hl : la - fi ≤ 50) : Good (hsK c c1 n m fi la) := by
  have lrs : (rsK c n).length = n := by simp [rsK]
  have hr : 0 < (rsK c n).length := by omega
  have e1 : (rsK c n).map (·.1) = (List.range n).map fun k : Nat => l1 (i5 k) := by rw [rsK, List.map_map]; rfl
  have e2 : (psK c n).map (·.1) = (List.range n).map fun k : Nat => l1 (i5 k) := by rw [psK, List.map_map]; rfl
  have nd : ((List.range n).map fun k : Nat => l1 (i5 k)).Nodup := by
    refine k22.nd_map _ (fun i hi j hj h => ?_) List.nodup_range
    have := List.mem_range.mp hi
    have := List.mem_range.mp hj
    exact i5_inj i (by omega) j (by omega) (l1_inj _ _ (i5_lt i (by omega)) (i5_lt j (by omega)) h)
  refine ⟨⟨by show 0 ≤ fi ∧ fi ≤ la; omega, by show (rsK c n).length ≤ 1000; omega, by simp [hsK, dsK]; omega, fun x hx => ?_, by show (psK c n).length ≤ 1000; simp [psK]; omega, by show ((rsK c n).map (·.1)).Nodup; rw [e1]; exact nd, ?_, fun x hx => ?_, fun x hx e he => ?_, fun p hp => ?_, fun p hp => ?_, fun p hp => ?_, ?_⟩, by show la < _; omega, hf.2.1, by show la - fi ≤ 1000; omega, by simp [hsK, dsK]; omega, by show (rsK c n).length ≤ 5; omega, fun x hx => ?_⟩
  · obtain ⟨k, _, rfl⟩ := List.mem_map.mp hx
    exact drK_c ..
  · show ((dsK (rsK c n) fi c1 m).map (·.nm)).Nodup
    have e3 : (dsK (rsK c n) fi c1 m).map (·.nm) = (List.range m).map fun k : Nat => l1 (i7 k) := by
      rw [dsK, List.map_map]
      exact List.map_congr_left fun k _ => drK_nm ..
    rw [e3]
    refine k22.nd_map _ (fun i hi j hj h => ?_) List.nodup_range
    have := List.mem_range.mp hi
    have := List.mem_range.mp hj
    exact i7_inj i (by omega) j (by omega) (l1_inj _ _ (i7_lt i (by omega)) (i7_lt j (by omega)) h)
  · obtain ⟨k, _, rfl⟩ := List.mem_map.mp hx
    rw [drK_st]
    exact List.mem_map.mpr ⟨_, pick_mem _ hr _, rfl⟩
  · obtain ⟨k, _, rfl⟩ := List.mem_map.mp hx
    rw [drK_en] at he
    unfold enK at he
    generalize drawn c1 k = v at he
    have hz : v / 5 % 3 = 0 ∨ v / 5 % 3 = 1 ∨ v / 5 % 3 = 2 := by omega
    rcases hz with hz | hz | hz <;> rw [hz] at he
    · cases he
    · cases he
      exact List.mem_map.mpr ⟨_, pick_mem _ hr _, rfl⟩
    · cases he
      exact List.mem_map.mpr ⟨_, pick_mem _ hr _, rfl⟩
  · show _ ∈ (rsK c n).map (·.1)
    rw [e1, ← e2]; exact List.mem_map.mpr ⟨p, hp, rfl⟩
  · obtain ⟨k, _, rfl⟩ := List.mem_map.mp hp
    show 0 ≤ c / (7 + (k : Int)) % 9; omega
  · obtain ⟨k, _, rfl⟩ := List.mem_map.mp hp
    exact Int.emod_nonneg _ (by omega)
  · refine pm_nd (rsK c n) (psK c n) (by rw [e1]; exact nd) (by rw [e2]; exact nd) fun p hp => ?_
    obtain ⟨k, hk, rfl⟩ := List.mem_map.mp hp
    refine ⟨c / (7 + (k : Int)) % 9, List.mem_map.mpr ⟨k, hk, rfl⟩, ?_⟩
    have := Int.emod_lt_of_pos (c / ((k : Int) + 3)) (show 0 < c / (7 + (k : Int)) % 9 + 1 by omega)
    show c / ((k : Int) + 3) % (c / (7 + (k : Int)) % 9 + 1) ≤ c / (7 + (k : Int)) % 9
    omega
  · obtain ⟨k, _, rfl⟩ := List.mem_map.mp hx
    exact drK_lets _ _ _ _ (drawn_nn ..)
theorem house_ (w d : Nat) (ns : List Int) : ∃ h, pd.F w (d + 6) 1 [.shr (.scr ns)] = some (.ret (.shr h.d) []) ∧ Good h := by
  rw [F__law_house, i__law_house]
  generalize ec : ns.getD 0 0 = c
  generalize ec1 : ns.getD 1 0 = c1
  have hm : ∃ n : Nat, 1 + c % 5 = (n : Int) ∧ 1 ≤ n ∧ n ≤ 5 := ⟨(1 + c % 5).toNat, by omega, by omega, by omega⟩
  obtain ⟨n, en, n1, n4⟩ := hm
  have hm : ∃ m : Nat, c1 % 8 = (m : Int) ∧ m ≤ 7 := ⟨(c1 % 8).toNat, by omega, by omega⟩
  obtain ⟨m, em, m4⟩ := hm
  have hbn : -4611686018427387904 ≤ (n : Int) ∧ (n : Int) < 4611686018427387904 := by omega
  have hbm : -4611686018427387904 ≤ (m : Int) ∧ (m : Int) < 4611686018427387904 := by omega
  have lrs : (rsK c n).length = n := by simp [rsK]
  have hr : 0 < (rsK c n).length := by omega
  have hl3 : (rsK c n).length ≤ 16777216 := by omega
  have hbr : -4611686018427387904 ≤ ((rsK c n).length : Int) ∧ ((rsK c n).length : Int) < 4611686018427387904 := by omega
  obtain ⟨fi, efi, hfi⟩ : ∃ fi : Int, fi = ([0, 4, 8, c / 60 % 100000000000] : List Int).getD (c / 5 % 4).toNat 0 ∧ 0 ≤ fi ∧ fi < 100000000000 := by
    have hz : c / 5 % 4 = 0 ∨ c / 5 % 4 = 1 ∨ c / 5 % 4 = 2 ∨ c / 5 % 4 = 3 := by omega
    refine ⟨_, rfl, ?_⟩
    rcases hz with hz | hz | hz | hz <;> rw [hz]
    · show (0 : Int) ≤ 0 ∧ (0 : Int) < 100000000000
      decide
    · show (0 : Int) ≤ 4 ∧ (4 : Int) < 100000000000
      decide
    · show (0 : Int) ≤ 8 ∧ (8 : Int) < 100000000000
      decide
    · show 0 ≤ c / 60 % 100000000000 ∧ c / 60 % 100000000000 < 100000000000
      omega
  have g := good_ c c1 n m ⟨n1, n4⟩ m4 fi (fi + 2 + c / 15 % 7) (by omega) (by omega)
  refine ⟨_, ?_, g⟩
  have ai := at_i4 0 4 8 (c / 60 % 100000000000) (c / 5)
  rw [← efi] at ai
  simp only [qs0, cell_, ec, ec1, en, hbn, q_mnabc]
  rw [lc_a (fun k : Nat => R.shr (.int k)) (fun k : Nat => rmD (l1 (i5 k), c / (7 + (k : Int)) % 9)) (List.range n) ?aa ?bb ?cc]
  case aa => rfl
  case bb => rw [List.length_range]; omega
  case cc =>
    intro k hk
    have hk := List.mem_range.mp hk
    have a := at_mnabc k (by omega)
    have e : (l1 (i5 k)).s = st [abc.getD (i5 k) 97] := rfl
    have hp : 0 < 7 + (k : Int) ∧ 7 + (k : Int) < 115792089237316195423570985008687907853269984665640564039457584007913129639936 := by omega
    simp only [qs0, lcStep, q_mnabc, a, rmD, e, hp]
  have e2 : (List.range n).map (fun k : Nat => rmD (l1 (i5 k), c / (7 + (k : Int)) % 9)) = (rsK c n).map rmD := by simp only [rsK, List.map_map]; rfl
  rw [e2]
  simp only [qs0, cell_, ec1, em, hbm, ai]
  rw [for_a1 4 (fun k : Nat => R.shr (.int k)) (fun done : List Nat => .own (.pl (.lst ((done.map fun k : Nat => drK (rsK c n) fi (l1 (i7 k)) (drawn c1 k)).map dD)))) (List.range m) ?a ?b ?hh]
  case a => rfl
  case b => rfl
  case hh =>
    intro done k rest e
    refine ⟨_, rfl, .inl ?_⟩
    have hk := range_done e
    have hd := done_len e
    rw [List.length_range] at hd
    have hd2 : done.length < 16777216 := by omega
    have a2 := at_st k (by omega)
    have hin := ldoor_ w d (rsK c n) hr hl3 (l1 (i7 k)) (drawn c1 k) fi (drawn_nn ..) hfi.1
    have en1 : (l1 (i7 k)).s = st [abc.getD (i7 k) 97] := rfl
    rw [en1] at hin
    simp only [qs0, drawn_, cell_, ec1, q_st, a2, hl3, hd2, hin, List.map_append, dD]
  have e4 : ((List.range m).map fun k : Nat => drK (rsK c n) fi (l1 (i7 k)) (drawn c1 k)) = dsK (rsK c n) fi c1 m := rfl
  rw [e4]
  simp only [qs0, hl3, hbr]
  rw [lc_a (fun k : Nat => R.shr (.int k)) (fun k : Nat => rmD (l1 (i5 k), c / ((k : Int) + 3) % (c / (7 + (k : Int)) % 9 + 1))) (List.range n) ?aa3 ?bb3 ?cc3]
  case aa3 => rw [show ((rsK c n).length : Int).toNat = n from by omega]
  case bb3 => rw [List.length_range]; omega
  case cc3 =>
    intro k hk
    have hk := List.mem_range.mp hk
    have a : L2.atI ((rsK c n).map rmD) (k : Int) = some (rmD (l1 (i5 k), c / (7 + (k : Int)) % 9)) := by
      rw [at_nn _ (by omega), List.getElem?_map, rsK, List.getElem?_map]
      simp [List.getElem?_range hk]
    have hp : 0 < c / (7 + (k : Int)) % 9 + 1 ∧ c / (7 + (k : Int)) % 9 + 1 < 115792089237316195423570985008687907853269984665640564039457584007913129639936 := by omega
    have hp6 : 0 < (k : Int) + 3 ∧ (k : Int) + 3 < 115792089237316195423570985008687907853269984665640564039457584007913129639936 := by omega
    simp only [qs0, lcStep, a, hp, hp6, rmD, hl3]
  have e3 : (List.range n).map (fun k : Nat => rmD (l1 (i5 k), c / ((k : Int) + 3) % (c / (7 + (k : Int)) % 9 + 1))) = (psK c n).map rmD := by simp only [psK, List.map_map]; rfl
  rw [e3]
  have hi := hinit_ w (d + 2) _ g.ok
  rw [← F_House___init__] at hi
  simp only [hsK] at hi
  try simp only [map_map] at hi
  simp only [qs0, hi, Hs.d, hsK]
def nmP (ns : List Nm) (v : Int) : Nm := if ns ≠ [] ∧ 0 < v / 32 % 16 then ns.getD (v / 512 % (ns.length : Int)).toNat nZz else nZz
def tuP (h : Hs) (v : Int) : Int := if v / 32 % 16 = 1 then ([max 0 (h.fi - 1), h.la] : List Int).getD (v / 8192 % 2).toNat 0 else h.fi + v % (h.la - h.fi)
def numP (v c : Int) : Int := ([0, 1, 1, 2, 1, 3, 2, c % 100000000000] : List Int).getD (v / 16384 % 8).toNat 0
def row1 (h : Hs) (k : Nat) (c : Int) : PRow := (tuP h (drawn c k), nmP (h.ds.map (·.nm)) (drawn c k), numP (drawn c k) c)
def planL (h : Hs) (cs : List Int) (ks : List Nat) : List PRow := ks.map fun k => row1 h k (cs.getD k 0)
theorem eq_nil (n : Nm) (ns : List Nm) : eqD (.lst ((n :: ns).map nmD)) (.lst []) = some false := by
  have h : pln 60 (.lst ((n :: ns).map nmD)) = true := by simp only [pln]; exact plnL_map nmD 59 (fun x => by simp [pln, nmD, x.ok]) _
  have h2 : pln 60 (.lst []) = true := by decide
  exact (eqD_pln h h2).2 (by simp)
theorem plan_ (w d : Nat) (h : Hs) (g : Good h) (ns : List Int) (hns : ns.length ≤ 63) : ∃ pl : List PRow, pl.length ≤ 1000 ∧ pd.F w (d + 2) 2 [.shr h.d, .shr (.scr ns)] = some (.ret (.own (.pl (.lst (pl.map rowD)))) []) := by
  rw [F__law_plan, i__law_plan]
  obtain ⟨cs, ecs⟩ : ∃ cs : List Int, cs = (ns.drop 2).take 30 := ⟨_, rfl⟩
  have lcs : cs.length ≤ 30 := by rw [ecs, List.length_take]; omega
  refine ⟨planL h cs (List.range cs.length), by rw [planL, List.length_map, List.length_range]; omega, ?_⟩
  have r2 := doors_h w d h
  rw [Hs.d] at r2
  have ld := g.dl
  have f0 := g.ok.f0
  have lt := g.lt
  have hb := g.la
  have lt2 : 0 < h.la - h.fi ∧ h.la - h.fi < 115792089237316195423570985008687907853269984665640564039457584007913129639936 := by omega
  simp only [qs0, Hs.d, r2]
  have ecs2 : (ns.drop 2).take 30 = cs := ecs.symm
  simp only [qs0, ecs2]
  rw [for_a1 3 (fun k : Nat => R.shr (.tup [.int (k : Int), .int (cs.getD k 0)])) (fun done : List Nat => .own (.pl (.lst ((planL h cs done).map rowD)))) (List.range cs.length) ?a ?b ?hh]
  case a => rfl
  case b => rfl
  case hh =>
    intro done k rest e
    refine ⟨_, rfl, .inl ?_⟩
    have hd := done_len e
    rw [List.length_range] at hd
    have hd2 : (planL h cs done).length < 16777216 := by rw [planL, List.length_map]; omega
    have e2 : planL h cs (done ++ [k]) = planL h cs done ++ [row1 h k (cs.getD k 0)] := by simp [planL]
    rw [e2]
    generalize planL h cs done = pl0 at hd2 ⊢
    generalize cs.getD k 0 = c
    have ai : L2.atI [D.int 0, D.int 1, D.int 1, D.int 2, D.int 1, D.int 3, D.int 2, D.int (c % 100000000000)] (drawn c (k : Int) / 16384 % 8) = some (.int (numP (drawn c k) c)) := at_modM D.int [0, 1, 1, 2, 1, 3, 2, c % 100000000000] 0 _ 8 rfl (by simp)
    have a2 := at_i2 (max 0 (h.fi - 1)) h.la (drawn c k / 8192)
    have hnm : ∀ r, r = nmP (h.ds.map (·.nm)) (drawn c k) → r.s = r.s := fun _ _ => rfl
    have zs : nZz.s = st [122, 122] := rfl
    obtain ⟨v, ev⟩ : ∃ v, v = drawn c (k : Int) := ⟨_, rfl⟩
    rw [← ev] at ai a2
    have hv : row1 h k c = (tuP h v, nmP (h.ds.map (·.nm)) v, numP v c) := by rw [ev]; rfl
    rw [hv]
    have ev2 := ev.symm
    obtain ⟨ds, eds⟩ : ∃ ds, ds = h.ds.map (·.nm) := ⟨_, rfl⟩
    have eds2 : h.ds.map (fun x => nmD x.nm) = ds.map nmD := by rw [eds, List.map_map]; rfl
    rw [← eds]
    have lds : ds.length ≤ 7 := by rw [eds, List.length_map]; exact ld
    cases ds with
    | nil =>
      have z : eqD (.lst []) (.lst []) = some true := by decide +kernel
      have nz : nmP [] v = nZz := rfl
      by_cases c1 : v / 32 % 16 = 1
      · have et : tuP h v = ([max 0 (h.fi - 1), h.la] : List Int).getD (v / 8192 % 2).toNat 0 := if_pos c1
        simp only [qs0, Hs.d, drawn_, ev2, lt2, eds2, z, c1, a2, ai, hd2, List.map_append, rowD, et, nz, q_zz, zs]
      · have et : tuP h v = h.fi + v % (h.la - h.fi) := if_neg c1
        simp only [qs0, Hs.d, drawn_, ev2, lt2, eds2, z, c1, a2, ai, hd2, List.map_append, rowD, et, nz, q_zz, zs]
    | cons n0 ns0 =>
      have z := eq_nil n0 ns0
      obtain ⟨ds, eds⟩ : ∃ ds, ds = n0 :: ns0 := ⟨_, rfl⟩
      rw [← eds] at z eds2 lds ⊢
      have ne : ds ≠ [] := by rw [eds]; simp
      have hl : ds.length ≤ 16777216 := by omega
      have h0 : 0 < (ds.length : Int) := by have := List.length_pos_iff.mpr ne; omega
      have a1 : L2.atI (ds.map nmD) (v / 512 % (ds.length : Int)) = some (.str (ds.getD (v / 512 % (ds.length : Int)).toNat nZz).s) := at_modM nmD ds nZz (v / 512) _ rfl ne
      by_cases c0 : 0 < v / 32 % 16
      · have nz : nmP ds v = ds.getD (v / 512 % (ds.length : Int)).toNat nZz := if_pos ⟨ne, c0⟩
        by_cases c1 : v / 32 % 16 = 1
        · have et : tuP h v = ([max 0 (h.fi - 1), h.la] : List Int).getD (v / 8192 % 2).toNat 0 := if_pos c1
          simp only [qs0, Hs.d, drawn_, ev2, lt2, eds2, z, c0, c1, a1, a2, ai, hl, h0, hd2, List.map_append, rowD, et, nz, q_zz]
        · have et : tuP h v = h.fi + v % (h.la - h.fi) := if_neg c1
          simp only [qs0, Hs.d, drawn_, ev2, lt2, eds2, z, c0, c1, a1, a2, ai, hl, h0, hd2, List.map_append, rowD, et, nz, q_zz]
      · have nz : nmP ds v = nZz := if_neg (fun z => c0 z.2)
        have c1 : ¬ v / 32 % 16 = 1 := by omega
        have et : tuP h v = h.fi + v % (h.la - h.fi) := if_neg c1
        simp only [qs0, Hs.d, drawn_, ev2, lt2, eds2, z, c0, c1, a2, ai, hl, h0, hd2, List.map_append, rowD, et, nz, q_zz, zs]
  simp only [qs0]
theorem sum_fil {α : Type} (f : α → Int) (p : α → Bool) : ∀ xs : List α, ((xs.filter p).map f).sum = (xs.map fun x => if p x = true then f x else 0).sum
  | [] => rfl
  | x :: xs => by
    have := sum_fil f p xs
    by_cases h : p x = true <;> simp [List.filter_cons, h, this]
theorem lgone_ (w d : Nat) (D0 : D) (rs : List PRow) (hl : rs.length ≤ 1000000) (t : Int) (ns : List Nm) (nd : ns.Nodup) :
    pd.F w (d + 1) 14 [.shr D0, .shr (.lst (rs.map rowD)), .shr (.int t), .shr (.lst (ns.map nmD))] = some (.ret (.shr (.int (goneR rs t ns))) []) := by
  rw [F__law_gone, i__law_gone]
  simp only [qs0]
  rw [lc_e (fun r : PRow => R.shr (rowD r)) (fun r : PRow => decide (r.1 = t ∧ r.2.1 ∈ ns)) (fun r => .int r.2.2) rs ?a ?b ?c]
  case a => first | rfl | (rw [List.map_map]; rfl)
  case b => omega
  case c =>
    intro r hr
    have iq := in_nms r.2.1.s r.2.1.ok ns
    have iq2 : (r.2.1.s ∈ ns.map (·.s)) ↔ r.2.1 ∈ ns := by
      constructor
      · intro z
        obtain ⟨m, hm, e⟩ := List.mem_map.mp z
        rw [← Nm.inj e]; exact hm
      · intro z; exact List.mem_map.mpr ⟨_, z, rfl⟩
    have iq3 : inD (.str r.2.1.s) (.lst (ns.map nmD)) = some (decide (r.2.1 ∈ ns)) := by
      rw [iq]; exact congrArg some (decide_eq_decide.mpr iq2)
    by_cases c1 : r.1 = t
    · by_cases c2 : r.2.1 ∈ ns
      · rw [decide_eq_true c2] at iq3
        simp only [qs0, lcStep, rowD, c1, c2, iq3]
      · rw [decide_eq_false c2] at iq3
        simp only [qs0, lcStep, rowD, c1, c2, iq3]
    · simp only [qs0, lcStep, rowD, c1]
  have e : goneR rs t ns = ((rs.filter fun r : PRow => decide (r.1 = t ∧ r.2.1 ∈ ns)).map (·.2.2)).sum := by
    rw [gone_rows rs t ns nd, sum_fil]
    refine congrArg List.sum (List.map_congr_left fun r _ => ?_)
    simp only [decide_eq_true_eq]
  rw [e]
  simp only [qs0, sum_i]
theorem foldl_snoc {α β : Type} (f : β → α → β) (b : β) (xs : List α) (x : α) : (xs ++ [x]).foldl f b = f (xs.foldl f b) x := by simp
theorem turnF_len (h : Hs) (rs n m k) : (turnF h rs n m k).length ≤ m.length + 2 := by
  unfold turnF
  have h1 := insIf_len (h.fi + (k : Int) < h.la ∧ inR h rs n k < goneR rs (h.fi + (k : Int)) (fromR h n)) (insIf (holdsR h n < inR h rs n k) m (h.fi + (k : Int), kFull, n)) (h.fi + (k : Int), kLeave, n)
  have h2 := insIf_len (holdsR h n < inR h rs n k) m (h.fi + (k : Int), kFull, n)
  omega
theorem due_ (w d : Nat) (h : Hs) (g : Good h) (rs : List PRow) (hl : rs.length ≤ 1000) :
    pd.F w (d + 4) 3 [.shr h.d, .shr (.lst (rs.map rowD))] = some (.ret (.own (.pl (.lst ((srt fltD ((dueM h rs).map (·.1))).map fltD)))) []) := by
  rw [F__law_due, i__law_due]
  have ok := g.ok
  have f0 := ok.f0
  have hla := g.la
  have hsz := g.sz
  have hrl := g.rl
  have hdl := g.dl
  have hz1 : -4611686018427387904 ≤ h.fi ∧ h.fi < 4611686018427387904 ∧ -4611686018427387904 ≤ h.la + 1 ∧ h.la + 1 < 4611686018427387904 := by omega
  have r2 := doors_h w (d + 2) h
  have r3 := rooms_ w (d + 2) h
  rw [Hs.d] at r2 r3
  simp only [map_map] at r2 r3
  simp only [qs0]
  rw [for_a1 2 (fun r : PRow => R.shr (rowD r)) (fun done : List PRow => .own (.pl (.dt (kf (done.foldl (rowS h rs) []))))) rs ?a ?b ?hh]
  case a => first | rfl | (rw [List.map_map]; rfl)
  case b => rfl
  case hh =>
    intro done r rest e
    refine ⟨_, rfl, .inl ?_⟩
    have hd := done_len e
    rw [foldl_snoc]
    have hk := fold_len (rowS h rs) 1 (fun m r => insIf_len _ _ _) done []
    rw [List.length_nil] at hk
    generalize done.foldl (rowS h rs) [] = m0 at hk ⊢
    have hk2 : m0.length < 16777216 := by omega
    have ekf := kf_len m0
    have kp := kf_put m0 r.1 kDoor r.2.1
    have lg := lgone_ w (d + 2) h.d rs (by omega) r.1 [r.2.1] (by simp)
    have eg : goneR rs r.1 [r.2.1] = many rs r.1 r.2.1 := by simp [goneR]
    rw [eg, Hs.d] at lg
    simp only [List.map_cons, List.map_nil, nmD] at lg
    have e5 : rowS h rs m0 r = insIf (letByR h r.2.1 r.1 < many rs r.1 r.2.1) m0 (r.1, kDoor, r.2.1) := rfl
    have iq := in_nms r.2.1.s r.2.1.ok (h.ds.map (·.nm))
    have iq2 : (r.2.1.s ∈ (h.ds.map (·.nm)).map (·.s)) ↔ r.2.1 ∈ h.ds.map (·.nm) := by
      constructor
      · intro z
        obtain ⟨m, hm, e⟩ := List.mem_map.mp z
        rw [← Nm.inj e]; exact hm
      · intro z; exact List.mem_map.mpr ⟨_, z, rfl⟩
    generalize hM : many rs r.1 r.2.1 = M at lg e5
    by_cases c1 : r.2.1 ∈ h.ds.map (·.nm)
    · rw [decide_eq_true (iq2.mpr c1)] at iq
      simp only [map_map] at iq
      obtain ⟨x, hx, ex⟩ := List.mem_map.mp c1
      have eL : letByR h r.2.1 r.1 = letsR h x r.1 := by
        unfold letByR
        rw [show aget (h.ds.map fun x => (x.nm, x)) r.2.1 = some x from ex ▸ door_get h ok x hx]
      by_cases c2 : h.fi ≤ r.1
      · by_cases c3 : r.1 < h.la
        · have dg := door_ w (d + 2) h ok x hx
          have hc := ok.dc x hx
          have h3 := (g.le x hx).2 w (d + 2) r.1 (by omega)
          have hd : x.d = .ins x.c (.str x.nm.s :: .str x.st.s :: eD x.en :: x.ds) := rfl
          rw [Hs.d, hd, ex] at dg
          rw [hd, ex] at h3
          have eL2 : letsR h x r.1 = x.lets r.1 := by unfold letsR; rw [if_neg (by omega)]
          rw [eL, eL2] at e5
          rw [e5]
          by_cases c4 : x.lets r.1 < M
          · have e6 : insIf (x.lets r.1 < M) m0 (r.1, kDoor, r.2.1) = aput m0 (r.1, kDoor, r.2.1) true := if_pos c4
            rw [e6]
            simp only [qs0, Hs.d, rowD, r2, iq, c2, c3, dg, hc, gm_F, h3, lg, c4, kDoor_s, kp, ekf, hk2]
          · have e6 : insIf (x.lets r.1 < M) m0 (r.1, kDoor, r.2.1) = m0 := if_neg c4
            rw [e6]
            simp only [qs0, Hs.d, rowD, r2, iq, c2, c3, dg, hc, gm_F, h3, lg, c4]
        · have eL2 : letsR h x r.1 = 0 := by unfold letsR; rw [if_pos (by omega)]
          rw [eL, eL2] at e5
          rw [e5]
          by_cases c4 : 0 < M
          · have e6 : insIf (0 < M) m0 (r.1, kDoor, r.2.1) = aput m0 (r.1, kDoor, r.2.1) true := if_pos c4
            rw [e6]
            simp only [qs0, Hs.d, rowD, r2, iq, c2, c3, lg, c4, kDoor_s, kp, ekf, hk2]
          · have e6 : insIf (0 < M) m0 (r.1, kDoor, r.2.1) = m0 := if_neg c4
            rw [e6]
            simp only [qs0, Hs.d, rowD, r2, iq, c2, c3, lg, c4]
      · have eL2 : letsR h x r.1 = 0 := by unfold letsR; rw [if_pos (by omega)]
        rw [eL, eL2] at e5
        rw [e5]
        by_cases c4 : 0 < M
        · have e6 : insIf (0 < M) m0 (r.1, kDoor, r.2.1) = aput m0 (r.1, kDoor, r.2.1) true := if_pos c4
          rw [e6]
          simp only [qs0, Hs.d, rowD, r2, iq, c2, lg, c4, kDoor_s, kp, ekf, hk2]
        · have e6 : insIf (0 < M) m0 (r.1, kDoor, r.2.1) = m0 := if_neg c4
          rw [e6]
          simp only [qs0, Hs.d, rowD, r2, iq, c2, lg, c4]
    · rw [decide_eq_false (fun z => c1 (iq2.mp z))] at iq
      simp only [map_map] at iq
      have eL : letByR h r.2.1 r.1 = 0 := by
        unfold letByR
        rw [show aget (h.ds.map fun x => (x.nm, x)) r.2.1 = none from doorAt_none c1]
      rw [eL] at e5
      rw [e5]
      by_cases c4 : 0 < M
      · have e6 : insIf (0 < M) m0 (r.1, kDoor, r.2.1) = aput m0 (r.1, kDoor, r.2.1) true := if_pos c4
        rw [e6]
        simp only [qs0, Hs.d, rowD, r2, iq, lg, c4, kDoor_s, kp, ekf, hk2]
      · have e6 : insIf (0 < M) m0 (r.1, kDoor, r.2.1) = m0 := if_neg c4
        rw [e6]
        simp only [qs0, Hs.d, rowD, r2, iq, lg, c4]
  have hk1 := fold_len (rowS h rs) 1 (fun m r => insIf_len _ _ _) rs []
  rw [List.length_nil] at hk1
  have edue : dueM h rs = (rooR h).foldl (roomF h rs) (rs.foldl (rowS h rs) []) := rfl
  rw [edue]
  generalize rs.foldl (rowS h rs) [] = m1 at hk1 ⊢
  simp only [qs0, Hs.d, r3]
  have K : (h.la + 1 - h.fi).toNat ≤ 1001 := by omega
  have rl2 : ∀ m n, (roomF h rs m n).length ≤ m.length + 2 * 1001 := fun m n => by
    have := fold_len (turnF h rs n) 2 (turnF_len h rs n) (List.range (h.la + 1 - h.fi).toNat) m
    rw [List.length_range] at this
    unfold roomF
    omega
  have hro : (rooR h).length ≤ 5 := by unfold rooR; rw [List.length_map]; exact hrl
  rw [for_a1 2 (fun n : Nm => R.shr (nmD n)) (fun done : List Nm => .own (.pl (.dt (kf (done.foldl (roomF h rs) m1))))) (rooR h) ?a2 ?b2 ?hh2]
  case a2 => unfold rooR; rw [List.map_map]; rfl
  case b2 => rfl
  case hh2 =>
    intro done n rest e
    refine ⟨_, rfl, .inl ?_⟩
    have hd := done_len e
    have hn : n ∈ h.rs.map (·.1) := done_mem e
    rw [foldl_snoc]
    have hk := fold_len (roomF h rs) 2002 rl2 done m1
    generalize done.foldl (roomF h rs) m1 = m0 at hk ⊢
    have hf := found_ w (d + 1) h n hn
    have hh := holds_ w (d + 1) h n hn
    rw [Hs.d] at hf hh
    simp only [qs0, Hs.d, nmD, hf, r2]
    rw [lc_e (fun x : Dr => R.shr (nmD x.nm)) (fun x : Dr => decide (x.st = n)) (fun x => nmD x.nm) h.ds ?a3 ?b3 ?c3]
    case a3 => first | rfl | (rw [List.map_map]; rfl)
    case b3 => omega
    case c3 =>
      intro x hx
      have hc := ok.dc x hx
      have dg := door_ w (d + 2) h ok x hx
      have e : (x.st.s = n.s) = (x.st = n) := propext ⟨Nm.inj, fun h => by rw [h]⟩
      rw [Hs.d, Dr.d] at dg
      by_cases c : x.st = n <;> simp only [qs0, lcStep, Dr.d, nmD, dg, hc, e, c]
    simp only [qs0, Hs.d, r2]
    rw [lc_e (fun x : Dr => R.shr (nmD x.nm)) (fun x : Dr => decide (x.en = some n)) (fun x => nmD x.nm) h.ds ?a4 ?b4 ?c4]
    case a4 => first | rfl | (rw [List.map_map]; rfl)
    case b4 => omega
    case c4 =>
      intro x hx
      have hc := ok.dc x hx
      have dg := door_ w (d + 2) h ok x hx
      have q1 := eq_eD x.en n
      rw [Hs.d, Dr.d] at dg
      by_cases c : x.en = some n
      · have eR : (if decide (x.en = some n) = true then some (nmD x.nm) else none) = some (nmD x.nm) := if_pos (decide_eq_true c)
        rw [decide_eq_true c] at q1
        rw [eR]
        simp only [qs0, lcStep, Dr.d, nmD, dg, hc, q1]
      · rw [decide_eq_false c] at q1
        simp only [qs0, lcStep, Dr.d, nmD, dg, hc, q1, c]
    have ef : (h.ds.filter fun x => decide (x.st = n)).map (fun x => nmD x.nm) = (fromR h n).map nmD := by rw [fromR, List.map_map]; rfl
    have ei : (h.ds.filter fun x => decide (x.en = some n)).map (fun x => nmD x.nm) = (intoR h n).map nmD := by rw [intoR, List.map_map]; rfl
    rw [ef, ei]
    have nf : (fromR h n).Nodup := nd_filter ok _
    have ni : (intoR h n).Nodup := nd_filter ok _
    have lf := fun t => lgone_ w (d + 2) h.d rs (by omega) t (fromR h n) nf
    have li := fun t => lgone_ w (d + 2) h.d rs (by omega) t (intoR h n) ni
    rw [Hs.d] at lf li
    simp only [qs0, Hs.d, hz1]
    have erf : roomF h rs m0 n = (List.range (h.la + 1 - h.fi).toNat).foldl (turnF h rs n) m0 := rfl
    rw [erf]
    rw [for_a2 2 8 (fun k : Nat => R.shr (.int (h.fi + (k : Int)))) (fun done : List Nat => .own (.pl (.dt (kf (done.foldl (turnF h rs n) m0))))) (fun done : List Nat => .shr (.int (inR h rs n done.length))) (List.range (h.la + 1 - h.fi).toNat) ?a5 ?b5 ?hh5]
    case a5 => first | rfl | (rw [List.map_map]; rfl)
    case b5 => rfl
    case hh5 =>
      intro dn k rst e5
      refine ⟨_, rfl, .inl ?_⟩
      have hk5 := range_done e5
      have hd5 := done_len e5
      rw [List.length_range] at hd5
      have hx := fold_len (turnF h rs n) 2 (turnF_len h rs n) dn m0
      rw [foldl_snoc, List.length_append, List.length_singleton]
      have ein : inR h rs n (dn.length + 1) = inR h rs n dn.length - goneR rs (h.fi + (dn.length : Int)) (fromR h n) + goneR rs (h.fi + (dn.length : Int)) (intoR h n) := rfl
      rw [ein, ← hk5]
      generalize dn.foldl (turnF h rs n) m0 = m2 at hx ⊢
      have hx2 : m2.length + 1 < 16777216 := by omega
      have hx3 : m2.length < 16777216 := by omega
      have e6 : turnF h rs n m2 k = insIf (h.fi + (k : Int) < h.la ∧ inR h rs n k < goneR rs (h.fi + (k : Int)) (fromR h n)) (insIf (holdsR h n < inR h rs n k) m2 (h.fi + (k : Int), kFull, n)) (h.fi + (k : Int), kLeave, n) := rfl
      have lf := lf (h.fi + (k : Int))
      have li := li (h.fi + (k : Int))
      have kp1 := kf_put m2 (h.fi + (k : Int)) kFull n
      have kp2 := kf_put m2 (h.fi + (k : Int)) kLeave n
      have kp3 := kf_put (aput m2 (h.fi + (k : Int), kFull, n) true) (h.fi + (k : Int)) kLeave n
      have ln1 := kf_len m2
      have ln2 := kf_len (aput m2 (h.fi + (k : Int), kFull, n) true)
      have ln3 := aput_len m2 (h.fi + (k : Int), kFull, n) true
      have ln4 : (aput m2 (h.fi + (k : Int), kFull, n) true).length < 16777216 := by omega
      generalize inR h rs n k = I at e6 ⊢
      generalize goneR rs (h.fi + (k : Int)) (fromR h n) = O at e6 lf ⊢
      generalize goneR rs (h.fi + (k : Int)) (intoR h n) = C at li ⊢
      generalize holdsR h n = Hd at e6 hh
      rw [e6]
      by_cases c1 : Hd < I
      · have z1 : insIf (Hd < I) m2 (h.fi + (k : Int), kFull, n) = aput m2 (h.fi + (k : Int), kFull, n) true := if_pos c1
        rw [z1]
        by_cases c2 : h.fi + (k : Int) < h.la
        · by_cases c3 : I < O
          · have z2 : ∀ m f, insIf (h.fi + (k : Int) < h.la ∧ I < O) m f = aput m f true := fun m f => if_pos ⟨c2, c3⟩
            rw [z2]
            simp only [qs0, Hs.d, hh, lf, li, c1, c2, c3, kFull_s, kLeave_s, kp1, kp3, ln1, ln2, ln4, hx3]
          · have z2 : ∀ m f, insIf (h.fi + (k : Int) < h.la ∧ I < O) m f = m := fun m f => if_neg fun z => c3 z.2
            rw [z2]
            simp only [qs0, Hs.d, hh, lf, li, c1, c2, c3, kFull_s, kLeave_s, kp1, kp3, ln1, ln2, ln4, hx3]
        · have z2 : ∀ m f, insIf (h.fi + (k : Int) < h.la ∧ I < O) m f = m := fun m f => if_neg fun z => c2 z.1
          rw [z2]
          simp only [qs0, Hs.d, hh, lf, li, c1, c2, kFull_s, kLeave_s, kp1, kp3, ln1, ln2, ln4, hx3]
      · have z1 : insIf (Hd < I) m2 (h.fi + (k : Int), kFull, n) = m2 := if_neg c1
        rw [z1]
        by_cases c2 : h.fi + (k : Int) < h.la
        · by_cases c3 : I < O
          · have z2 : ∀ m f, insIf (h.fi + (k : Int) < h.la ∧ I < O) m f = aput m f true := fun m f => if_pos ⟨c2, c3⟩
            rw [z2]
            simp only [qs0, Hs.d, hh, lf, li, c1, c2, c3, kFull_s, kLeave_s, kp1, kp2, ln1, ln2, ln4, hx3]
          · have z2 : ∀ m f, insIf (h.fi + (k : Int) < h.la ∧ I < O) m f = m := fun m f => if_neg fun z => c3 z.2
            rw [z2]
            simp only [qs0, Hs.d, hh, lf, li, c1, c2, c3, kFull_s, kLeave_s, kp1, kp2, ln1, ln2, ln4, hx3]
        · have z2 : ∀ m f, insIf (h.fi + (k : Int) < h.la ∧ I < O) m f = m := fun m f => if_neg fun z => c2 z.1
          rw [z2]
          simp only [qs0, Hs.d, hh, lf, li, c1, c2, kFull_s, kLeave_s, kp1, kp2, ln1, ln2, ln4, hx3]
    simp only [qs0]
  have hkF := fold_len (roomF h rs) 2002 rl2 (rooR h) m1
  generalize (rooR h).foldl (roomF h rs) m1 = mF at hkF ⊢
  have sb := flt_srt (mF.map (·.1)) (by rw [List.length_map]; omega)
  have sk : skeysR (.shr (.dt (kf mF))) = some (rL ((srt fltD (mF.map (·.1))).map fltD)) := by
    show (if srtB ((kf mF).map fun kv => D.tup (kv.1.map kD)) = true then some (rL (sortD ((kf mF).map fun kv => D.tup (kv.1.map kD)))) else none) = _
    rw [kf_keys, if_pos sb, sortD_map]
  simp only [qs0, sk]
theorem due_len (h : Hs) (g : Good h) (rs : List PRow) : (dueM h rs).length ≤ rs.length + 2002 * 5 := by
  have hsz := g.sz
  have rl2 : ∀ m n, (roomF h rs m n).length ≤ m.length + 2 * 1001 := fun m n => by
    have := fold_len (turnF h rs n) 2 (turnF_len h rs n) (List.range (h.la + 1 - h.fi).toNat) m
    rw [List.length_range] at this
    unfold roomF
    omega
  have hro : (rooR h).length ≤ 5 := by unfold rooR; rw [List.length_map]; exact g.rl
  have h1 := fold_len (rowS h rs) 1 (fun m r => insIf_len _ _ _) rs []
  have h2 := fold_len (roomF h rs) 2002 rl2 (rooR h) (rs.foldl (rowS h rs) [])
  rw [List.length_nil] at h1
  unfold dueM
  omega
theorem law_ (w d : Nat) (ns : List Int) (hns : ns.length ≤ 63) : pd.F w (d + 7) 0 [.shr (.scr ns)] = some (.ret (.shr (.bl true)) []) := by
  rw [F_law, i_law]
  obtain ⟨h, e, g⟩ := house_ w d ns
  obtain ⟨pl, lpl, ep⟩ := plan_ w (d + 4) h g ns hns
  have ld := due_ w (d + 2) h g pl (by omega)
  rw [due_srt h g.ok pl] at ld
  have ff := faults_ w (d + 1) 1 h g.ok g.le g.la g.sz pl (by omega)
  have f0 := faults_ w (d + 1) 1 h g.ok g.le g.la g.sz [] (by simp)
  rw [flts_nil h g.ok] at f0
  have z : srt fltD [] = [] := List.mergeSort_nil
  rw [z] at f0
  have er := eq_refl rowD row_pln pl
  have ef := eq_refl fltD flt_pln (srt fltD (fltsR h pl))
  have e0 : eqD (.lst []) (.lst []) = some true := by decide +kernel
  have ll : (srt fltD (fltsR h pl)).length < 16777216 := by
    rw [← due_srt h g.ok pl, srt_len, List.length_map]
    have := due_len h g pl
    omega
  rw [Hs.d] at e ep ld ff f0
  simp only [List.map_nil] at f0
  simp only [qs0, e, ep, ld, ff, f0, er, ef, e0, ll]
theorem math : ∀ ns : List Int, ns.length ≤ 63 → (∀ z ∈ ns, Builtin.Int.intBits z ≤ 1048576) → ∃ fuel d, d ≤ 100 ∧ pd.F fuel d 0 [.shr (.scr ns)] = some (.ret (.shr (.bl true)) []) := by
  intro ns hl _
  exact ⟨0, 7, by decide, law_ 0 0 ns hl⟩
end k22

end

section
set_option Elab.async false
set_option linter.all false
set_option maxRecDepth 100000
set_option maxHeartbeats 0
/-! H: the head of . Printed by gen.py. -/
namespace k22
open PySem PySem.Spec L2 Q
open PyProof.Rows hiding St

def top (i : Nat) : Stmt := PySem.Challenge.pw_firstout_k22_all_that_is_wrong.main.body.getD i (.Pass ⟨0, 0, 0, 0⟩)
def fnD : List He.DefD := [
  ⟨("summed", none), "summed", "summed", defArgs (top 2), defBody (top 2), defScope (top 2), [], []⟩,
  ⟨("gone", none), "gone", "gone", defArgs (top 3), defBody (top 3), defScope (top 3), [], []⟩,
  ⟨("there", none), "there", "there", defArgs (top 4), defBody (top 4), defScope (top 4), [], []⟩,
  ⟨("let_by", none), "let_by", "let_by", defArgs (top 5), defBody (top 5), defScope (top 5), [], []⟩,
  ⟨("faults", none), "faults", "faults", defArgs (top 6), defBody (top 6), defScope (top 6), [], []⟩,
  ⟨("Twice", some "__init__"), "__init__", "Twice.__init__", defArgs (inClass (top 12) 0), defBody (inClass (top 12) 0), defScope (inClass (top 12) 0), [], []⟩,
  ⟨("NoRoom", some "__init__"), "__init__", "NoRoom.__init__", defArgs (inClass (top 13) 0), defBody (inClass (top 13) 0), defScope (inClass (top 13) 0), [], []⟩,
  ⟨("Unknown", some "__init__"), "__init__", "Unknown.__init__", defArgs (inClass (top 14) 0), defBody (inClass (top 14) 0), defScope (inClass (top 14) 0), [], []⟩,
  ⟨("is_whole", none), "is_whole", "is_whole", defArgs (top 16), defBody (top 16), defScope (top 16), [], []⟩,
  ⟨("is_name", none), "is_name", "is_name", defArgs (top 20), defBody (top 20), defScope (top 20), [], []⟩,
  ⟨("numbered", none), "numbered", "numbered", defArgs (top 21), defBody (top 21), defScope (top 21), [], []⟩,
  ⟨("named", none), "named", "named", defArgs (top 22), defBody (top 22), defScope (top 22), [], []⟩,
  ⟨("Door", some "__init__"), "__init__", "Door.__init__", defArgs (inClass (top 23) 0), defBody (inClass (top 23) 0), defScope (inClass (top 23) 0), [.non, .int 1], []⟩,
  ⟨("Door", some "is_exit"), "is_exit", "Door.is_exit", defArgs (inClass (top 23) 1), defBody (inClass (top 23) 1), defScope (inClass (top 23) 1), [], []⟩,
  ⟨("Door", some "lets"), "lets", "Door.lets", defArgs (inClass (top 23) 2), defBody (inClass (top 23) 2), defScope (inClass (top 23) 2), [], []⟩,
  ⟨("Until", some "__init__"), "__init__", "Until.__init__", defArgs (inClass (top 24) 0), defBody (inClass (top 24) 0), defScope (inClass (top 24) 0), [], []⟩,
  ⟨("Until", some "lets"), "lets", "Until.lets", defArgs (inClass (top 24) 1), defBody (inClass (top 24) 1), defScope (inClass (top 24) 1), [], []⟩,
  ⟨("Marked", some "__init__"), "__init__", "Marked.__init__", defArgs (inClass (top 25) 0), defBody (inClass (top 25) 0), defScope (inClass (top 25) 0), [], []⟩,
  ⟨("Marked", some "lets"), "lets", "Marked.lets", defArgs (inClass (top 25) 1), defBody (inClass (top 25) 1), defScope (inClass (top 25) 1), [], []⟩,
  ⟨("refuse_twice", none), "refuse_twice", "refuse_twice", defArgs (top 27), defBody (top 27), defScope (top 27), [], []⟩,
  ⟨("refuse_strange", none), "refuse_strange", "refuse_strange", defArgs (top 28), defBody (top 28), defScope (top 28), [], []⟩,
  ⟨("House", some "__init__"), "__init__", "House.__init__", defArgs (inClass (top 29) 0), defBody (inClass (top 29) 0), defScope (inClass (top 29) 0), [.int 0], []⟩,
  ⟨("House", some "refuse_numbers"), "refuse_numbers", "House.refuse_numbers", defArgs (inClass (top 29) 1), defBody (inClass (top 29) 1), defScope (inClass (top 29) 1), [], []⟩,
  ⟨("House", some "sure"), "sure", "House.sure", defArgs (inClass (top 29) 2), defBody (inClass (top 29) 2), defScope (inClass (top 29) 2), [], []⟩,
  ⟨("House", some "rooms"), "rooms", "House.rooms", defArgs (inClass (top 29) 3), defBody (inClass (top 29) 3), defScope (inClass (top 29) 3), [], []⟩,
  ⟨("House", some "doors"), "doors", "House.doors", defArgs (inClass (top 29) 4), defBody (inClass (top 29) 4), defScope (inClass (top 29) 4), [], []⟩,
  ⟨("House", some "holds"), "holds", "House.holds", defArgs (inClass (top 29) 5), defBody (inClass (top 29) 5), defScope (inClass (top 29) 5), [], []⟩,
  ⟨("House", some "found"), "found", "House.found", defArgs (inClass (top 29) 6), defBody (inClass (top 29) 6), defScope (inClass (top 29) 6), [], []⟩,
  ⟨("House", some "door"), "door", "House.door", defArgs (inClass (top 29) 8), defBody (inClass (top 29) 8), defScope (inClass (top 29) 8), [], []⟩,
  ⟨("House", some "lets"), "lets", "House.lets", defArgs (inClass (top 29) 9), defBody (inClass (top 29) 9), defScope (inClass (top 29) 9), [], []⟩,
  ⟨("House", some "into"), "into", "House.into", defArgs (inClass (top 29) 10), defBody (inClass (top 29) 10), defScope (inClass (top 29) 10), [], []⟩,
  ⟨("House", some "from_room"), "from_room", "House.from_room", defArgs (inClass (top 29) 11), defBody (inClass (top 29) 11), defScope (inClass (top 29) 11), [], []⟩,
  ⟨("House", some "pairs"), "pairs", "House.pairs", defArgs (inClass (top 29) 12), defBody (inClass (top 29) 12), defScope (inClass (top 29) 12), [], []⟩,
  ⟨("_law_cell_at", none), "_law_cell_at", "_law_cell_at", defArgs (top 31), defBody (top 31), defScope (top 31), [], []⟩,
  ⟨("_law_drawn", none), "_law_drawn", "_law_drawn", defArgs (top 32), defBody (top 32), defScope (top 32), [], []⟩,
  ⟨("_law_door", none), "_law_door", "_law_door", defArgs (top 33), defBody (top 33), defScope (top 33), [], []⟩,
  ⟨("_law_house", none), "_law_house", "_law_house", defArgs (top 34), defBody (top 34), defScope (top 34), [], []⟩,
  ⟨("_law_plan", none), "_law_plan", "_law_plan", defArgs (top 35), defBody (top 35), defScope (top 35), [], []⟩,
  ⟨("_law_gone", none), "_law_gone", "_law_gone", defArgs (top 36), defBody (top 36), defScope (top 36), [], []⟩,
  ⟨("_law_due", none), "_law_due", "_law_due", defArgs (top 37), defBody (top 37), defScope (top 37), [], []⟩,
  ⟨("law", none), "law", "law", defArgs (top 38), defBody (top 38), defScope (top 38), [], []⟩]
abbrev R : PySem.W.OpenRow := PySem.W.OpenLaw.row PySem.Challenge.rw_firstout_k22_all_that_is_wrong
abbrev hk : PySem.W.Hook := hookS 6 fnD (exQ pd fnD)
def ob (s : PySem.W.SharedT) : He.AlX := obsS 6 fnD (exQ pd fnD) (HandSHeadRun.getT s)
theorem ob_eq (s : PySem.W.SharedT) : ob s = hk.obs s.abs := obsS_eq (HandSHeadRun.getT_eq s)
def loose0 : List Str := ["_wall", "summed", "gone", "there", "let_by", "faults", "is_whole", "is_name", "numbered", "named", "refuse_twice", "refuse_strange", "_law_cell_at", "_law_drawn", "_law_door", "_law_house", "_law_plan", "_law_gone", "_law_due", "OutError", "NoDoor", "NoHouse", "NoTurn", "Twice", "NoRoom", "Unknown", "Door", "Until", "Marked", "House"]
def loose1 : List Str := ["LETTERS", "MOST_LETTERS"]
def loose : List Str := loose0 ++ loose1
theorem defs : defsB pd fnD = true := by decide +kernel
theorem binds : BindAll fnD pd.fns := ⟨⟨_, rfl, fun _ _ _ _ _ _ us hl => match us, hl with | [_], _ => rfl⟩,
  ⟨_, rfl, fun _ _ _ _ _ _ us hl => match us, hl with | [_], _ => rfl⟩,
  ⟨_, rfl, fun _ _ _ _ _ _ us hl => match us, hl with | [_, _], _ => rfl⟩,
  ⟨_, rfl, fun _ _ _ _ _ _ us hl => match us, hl with | [_, _], _ => rfl⟩,
  ⟨_, rfl, fun _ _ _ _ _ _ us hl => match us, hl with | [_, _], _ => rfl⟩,
  ⟨_, rfl, fun _ _ _ _ _ _ us hl => match us, hl with | [_, _], _ => rfl⟩,
  ⟨_, rfl, fun _ _ _ _ _ _ us hl => match us, hl with | [_, _, _, _], _ => rfl⟩,
  ⟨_, rfl, fun _ _ _ _ _ _ us hl => match us, hl with | [_, _], _ => rfl⟩,
  ⟨_, rfl, fun _ _ _ _ _ _ _ us its h1 h2 => match us, its, h1, h2 with | [_, _, _, _, _, _], [_], _, _ => ⟨_, rfl, rfl⟩⟩,
  ⟨_, rfl, fun _ _ _ _ _ _ us hl => match us, hl with | [_], _ => rfl⟩,
  ⟨_, rfl, fun _ _ _ _ _ _ us hl => match us, hl with | [_, _], _ => rfl⟩,
  ⟨_, rfl, fun _ _ _ _ _ _ us hl => match us, hl with | [_, _], _ => rfl⟩,
  ⟨_, rfl, fun _ _ _ _ _ _ us hl => match us, hl with | [_, _], _ => rfl⟩,
  ⟨_, rfl, fun _ _ _ _ _ _ us hl => match us, hl with | [_, _], _ => rfl⟩,
  ⟨_, rfl, fun _ _ _ _ _ _ us hl => match us, hl with | [_, _, _, _], _ => rfl⟩,
  ⟨_, rfl, fun _ _ _ _ _ _ us hl => match us, hl with | [_], _ => rfl⟩,
  ⟨_, rfl, fun _ _ _ _ _ _ us hl => match us, hl with | [_, _], _ => rfl⟩,
  ⟨_, rfl, fun _ _ _ _ _ _ us hl => match us, hl with | [_, _], _ => rfl⟩,
  ⟨_, rfl, fun _ _ _ _ _ _ us hl => match us, hl with | [_], _ => rfl⟩,
  ⟨_, rfl, fun _ _ _ _ _ _ us hl => match us, hl with | [_, _, _], _ => rfl⟩,
  ⟨_, rfl, fun _ _ _ _ _ _ us hl => match us, hl with | [_, _], _ => rfl⟩,
  ⟨_, rfl, fun _ _ _ _ _ _ us hl => match us, hl with | [_], _ => rfl⟩,
  ⟨_, rfl, fun _ _ _ _ _ _ us hl => match us, hl with | [_, _, _], _ => rfl⟩,
  ⟨_, rfl, fun _ _ _ _ _ _ us hl => match us, hl with | [_, _], _ => rfl⟩,
  ⟨_, rfl, fun _ _ _ _ _ _ us hl => match us, hl with | [_, _, _, _, _, _], _ => rfl⟩,
  ⟨_, rfl, fun _ _ _ _ _ _ us hl => match us, hl with | [_, _, _, _, _, _], _ => rfl⟩,
  ⟨_, rfl, fun _ _ _ _ _ _ _ us its h1 h2 => match us, its, h1, h2 with | [_, _, _, _, _], [_, _], _, _ => ⟨_, rfl, rfl⟩⟩,
  ⟨_, rfl, fun _ _ _ _ _ _ us hl => match us, hl with | [_], _ => rfl⟩,
  ⟨_, rfl, fun _ _ _ _ _ _ us hl => match us, hl with | [_, _], _ => rfl⟩,
  ⟨_, rfl, fun _ _ _ _ _ _ us hl => match us, hl with | [_], _ => rfl⟩,
  ⟨_, rfl, fun _ _ _ _ _ _ us hl => match us, hl with | [_, _], _ => rfl⟩,
  ⟨_, rfl, fun _ _ _ _ _ _ us hl => match us, hl with | [_, _], _ => rfl⟩,
  ⟨_, rfl, fun _ _ _ _ _ _ us hl => match us, hl with | [_, _, _], _ => rfl⟩,
  ⟨_, rfl, fun _ _ _ _ _ _ us hl => match us, hl with | [_, _], _ => rfl⟩,
  ⟨_, rfl, fun _ _ _ _ _ _ us hl => match us, hl with | [_, _], _ => rfl⟩,
  ⟨_, rfl, fun _ _ _ _ _ _ us hl => match us, hl with | [_], _ => rfl⟩,
  ⟨_, rfl, fun _ _ _ _ _ _ us hl => match us, hl with | [_], _ => rfl⟩,
  ⟨_, rfl, fun _ _ _ _ _ _ us hl => match us, hl with | [_], _ => rfl⟩,
  ⟨_, rfl, fun _ _ _ _ _ _ us hl => match us, hl with | [_, _], _ => rfl⟩,
  ⟨_, rfl, fun _ _ _ _ _ _ us hl => match us, hl with | [_, _], _ => rfl⟩,
  ⟨_, rfl, fun _ _ _ _ _ _ us hl => match us, hl with | [_, _], _ => rfl⟩, trivial⟩
theorem run (w : World) : HandSHeadRun.RunEq R (PySem.W.view R.prog [38]) hk ob 20000 loose w := by
  intro os
  kernel_rfl
section
open PySem.W PySem.Calls HandSHeadRun
abbrev qv : Program := PySem.W.view R.prog [38]
abbrev dd : PySem.DefRec := HandSHeadRun.topDef R.prog 38
theorem h_e : opening R.prog = plainProg R.prog.main.scope.names := by kernel_rfl
theorem h_f (s) : fenceModules? R.prog s = some s := by kernel_rfl
theorem h_1 : defOf qv R.name = some (dd, []) := by kernel_rfl
theorem h_2 : R.prog.theDef R.name = some (dd.params, dd.body, dd.scope) := by kernel_rfl
theorem h_3 : kwWritten? dd.params.kwonlyargs dd.params.kw_defaults = some [] := by kernel_rfl
theorem h_4 : (!R.writes || R.records.isEmpty) = true := by rfl
theorem h_5 : (chainsOk qv && opensWell R.prog && (frees R.toRowW && R.within.isEmpty)) = true := by decide +kernel
def Math : Prop := ∀ ns : List Int, ns.length ≤ 63 → (∀ z ∈ ns, Builtin.Int.intBits z ≤ 1048576) → ∃ fuel d, d ≤ 100 ∧ pd.F fuel d 0 [.shr (.scr ns)] = some (.ret (.shr (.bl true)) [])
theorem h_c (math : Math) : PySem.W.WalkO qv loose (XL qv []) (hookS 6 fnD (exQ pd fnD)).says R.toRowW dd [] (fun f vs => PySem.call f vs) :=
  Q.law_walk (l := PySem.Challenge.rw_firstout_k22_all_that_is_wrong) (pd := pd) (fn := fnD) (n := 63) (kL := 0) (dm := 100) (x := "_law_script") rfl (by decide) (by kernel_rfl) ⟨rfl, by decide, by decide⟩ (by kernel_rfl) defs binds rfl rfl rfl rfl rfl rfl math
theorem holds (math : Math) : PySem.Challenge.rw_firstout_k22_all_that_is_wrong.Holds := by
  w_on; o_law
  refine HandSHeadRun.head_any (r := OpenLaw.row PySem.Challenge.rw_firstout_k22_all_that_is_wrong) (q := qv) (H := hk) (ob := ob) (M := 20000) (loose := loose) (d := dd) (kwd := []) ob_eq
    h_e h_f run h_1 h_2 h_3 h_4 (by first | assumption | decide +kernel) h_5 ⟨rfl, rfl, rfl, rfl, rfl, by decide +kernel⟩ ?hw (h_c math)
  case hw => w_witness2
end
end k22

end

set_option Elab.async false
theorem PySem.Challenge.cw_firstout_k22_all_that_is_wrong_holds : PySem.Challenge.rw_firstout_k22_all_that_is_wrong.Holds :=
  k22.holds k22.math
