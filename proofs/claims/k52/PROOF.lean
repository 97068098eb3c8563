import PyProof.Rows.All
import HandS.ForMost
import HandS.Lambda
import HandS.EndTab
import KE.KDictKeyed
import PyProof.LayNew
import HandS.TupAny
import HandS.WideBits
import HandS.IsInst
import HandS.Style
import HandS.Deep
import HandS.Flow
import HandS.Star
import HandS.Zip
import KE.GoesMore
import PyProof.ReprRoads
import KE.KLam
import HandS.HeadHook4
import HandS.HeadWalk
import KE.KRevSl
import PyProof.ReprLen
import PyProof.P3Eq
import HandS.Head0
import HandS.Head1
import HandS.Head2
import HandS.HeadEnd
import HandS.Conv
import KE.SortData
import KE.DataMinMax
import HandS.TupSets
import HandS.Strs
import HandS.Gcd
import KE.KTupSum
import HandS.TryOnly
import HandS.TupLen
import KE.KDictWalk
import HandS.RepeatKit
import Wide.All
import OpenK.AllK
import PySem.Challenge.RW_laneswaps_k52_whole_alike_beside_nets
set_option Elab.async false
set_option linter.all false
set_option maxRecDepth 100000
set_option maxHeartbeats 1000000
/-! keys of dicts that are tuples; a dict with such keys as a tracked thing -/
namespace DL
open PySem PySem.Spec L2 LamX
mutual
/-- data as a key, up to == -/
def keyOf : PyData → Option NestedKey
  | .none => some .none
  | .bool b => some (.num (if b then 1 else 0))
  | .int i => some (.num i)
  | .str x => some (.text x)
  | .tuple ds => match keysOf ds with
    | some ks => some (.tup ks)
    | none => none
  | .list _ => none
  | .dict _ => none
def keysOf : List PyData → Option (List NestedKey)
  | [] => some []
  | d :: ds => match keyOf d, keysOf ds with
    | some a, some b => some (a :: b)
    | _, _ => none
end
mutual
/-- no text in it: its hash is the same in all worlds -/
def noText : NestedKey → Bool
  | .none => true
  | .num _ => true
  | .text _ => false
  | .tup ks => noTexts ks
def noTexts : List NestedKey → Bool
  | [] => true
  | k :: ks => noText k && noTexts ks
end
mutual
def hsh : NestedKey → Int
  | .none => reduceHash 0xFCA86420
  | .num i => hashInt i
  | .text _ => 0
  | .tup ks => reduceHash (Builtin.Tuple.tupleHashOf (hshs ks))
def hshs : List NestedKey → List Int
  | [] => []
  | k :: ks => hsh k :: hshs ks
end
mutual
theorem hash_hsh (w : World) : ∀ (k : NestedKey), noText k = true → k.hash w = hsh k
  | .none, _ => by rw [NestedKey.hash, hsh]
  | .num i, _ => by rw [NestedKey.hash, hsh]
  | .text x, h => by rw [noText] at h; cases h
  | .tup ks, h => by rw [noText] at h; rw [NestedKey.hash, hsh, hash_hshs w ks h]
theorem hash_hshs (w : World) : ∀ (ks : List NestedKey), noTexts ks = true → NestedKey.hashes w ks = hshs ks
  | [], _ => by rw [NestedKey.hashes, hshs]
  | k :: ks, h => by
    rw [noTexts, Bool.and_eq_true] at h
    rw [NestedKey.hashes, hshs, hash_hsh w k h.1, hash_hshs w ks h.2]
end
/-- a key that may stand in such a dict: a tuple, without texts, not too deep -/
def keyOk (k : NestedKey) : Prop := noText k = true ∧ k.depth ≤ 8
abbrev Ent := NestedKey × Addr × V
abbrev EntV := NestedKey × Addr × Value
def entV (x : EntV) : DictEntry := ⟨hsh x.1, .ref x.2.1, x.2.2⟩
def EntR (x : Ent) (y : EntV) : Prop := x.1 = y.1 ∧ x.2.1 = y.2.1 ∧ RelV x.2.2 y.2.2
def DnOk (a : Addr) (o : Obj) (xs : List Ent) (h : Heap) : Prop :=
  (a == sysModules) = false ∧ xs.length ≤ sizeLine ∧ (xs.map (·.1)).Nodup ∧ (∀ x ∈ xs, keyOk x.1) ∧
    ∃ (ys : List EntV) (es : Array DictEntry) (ep : Nat), Paired EntR xs ys ∧ h.get? a = some o ∧ o.ExactDict ∧ o.data = .dict es ep ∧ es.toList = ys.map entV
/-- the dict at a: its object, keys, where they stand, values -/
def DN (a : Addr) (o : Obj) (xs : List Ent) : HO := .ext (DnOk a o xs)
theorem DnOk.stay {a : Addr} {o : Obj} {xs : List Ent} {h1 h2 : Heap} (x : DnOk a o xs h1) (k : ∀ o, h1.get? a = some o → h2.get? a = some o) : DnOk a o xs h2 := by
  obtain ⟨a1, a2, a3, a4, ys, es, ep, p, e, r⟩ := x
  exact ⟨a1, a2, a3, a4, ys, es, ep, p, k o e, r⟩
theorem DnOk.ok {P : Program} {w : World} {H : Hp} {a : Addr} {o : Obj} {xs : List Ent} {h : Heap} (x : DnOk a o xs h) : ObjOk P w H h a (DN a o xs) :=
  ⟨x, let ⟨_, _, _, _, _, _, _, _, e, _⟩ := x; ⟨o, e⟩, fun _ _ y k => y.stay k⟩
theorem DnOk.of {P : Program} {w : World} {H : Hp} {a : Addr} {o : Obj} {xs : List Ent} {h : Heap} (x : ObjOk P w H h a (DN a o xs)) : DnOk a o xs h := x.1
end DL
set_option maxRecDepth 100000
set_option maxHeartbeats 1000000
/-! Data over the hand layer: what a value stands for, environments of data, what an expression comes to. -/
namespace DL
open PySem PySem.Spec L2 LamX

abbrev D := PyData
/-- what can be changed by its holder -/
inductive Box where
  | lst (ds : List D)
  | dct (kvs : List (D × D))
def Box.toD : Box → D
  | .lst ds => .list ds
  | .dct kvs => .dict kvs
/-- what an expression comes to: data, a new thing that none else holds, the thing in a slot -/
inductive RV where
  | val (d : D)
  | new (b : Box)
  | var (i : Nat)
/-- a slot: nothing, data, a thing of one's own, a thing lent by the caller -/
inductive Sl where
  | emp
  | sh (d : D)
  | own (b : Box)
  | lent (b : Box)
abbrev DEnv := List Sl
abbrev As := Addr → Prop
abbrev Tb := List (Addr × Str)

def As.or (A B : As) : As := fun a => A a ∨ B a

/-- all that is tracked and not in O stands as it was, but for tables -/
def Stp (O : As) (H H' : Hp) : Prop := ∀ a o, H a = some o → ¬ O a → (∀ ps, o ≠ .tbl ps) → H' a = some o
/-- what is new now was new before -/
def Fre (H H' : Hp) : Prop := ∀ a, H' a = none → H a = none
/-- what a box is -/
inductive BoxO : HO → Prop
  | lst (xs : List V) : BoxO (.lst xs)
  | dK (ks : List (Key × V)) : BoxO (.dK ks)
  | dT (ks : List (List Key × V)) : BoxO (.dT ks)
  | dn (a : Addr) (o : Obj) (xs : List Ent) : BoxO (.ext (DnOk a o xs))
def OB (O : As) (H : Hp) : Prop := ∀ a, O a → ∃ o, H a = some o ∧ BoxO o

theorem Stp.refl (O : As) (H : Hp) : Stp O H H := fun _ _ h _ _ => h
theorem Fre.refl (H : Hp) : Fre H H := fun _ h => h
theorem Fre.trans {H H1 H2 : Hp} (a : Fre H H1) (b : Fre H1 H2) : Fre H H2 := fun x h => a x (b x h)
theorem Fre.upd (H : Hp) (p : Addr) (o : HO) : Fre H (upd H p o) := fun a h => by
  by_cases e : a = p
  · subst e; rw [upd_same] at h; cases h
  · rw [upd_ne e] at h; exact h
theorem Stp.upd_new {O : As} {H : Hp} {p : Addr} {o : HO} (h : H p = none) : Stp O H (upd H p o) := fun a u e _ _ => by
  rw [upd_ne (ne_of_none e h)]; exact e
theorem Stp.upd_own {O : As} {H : Hp} {p : Addr} {o : HO} (h : O p) : Stp O H (upd H p o) := fun a u e n _ => by
  rw [upd_ne (fun z => n (by rw [z]; exact h))]; exact e
theorem Fre.some {H H' : Hp} (f : Fre H H') {a : Addr} {o : HO} (h : H a = some o) : ∃ o', H' a = some o' := by
  cases e : H' a with
  | none => rw [f a e] at h; cases h
  | some o' => exact ⟨o', rfl⟩
theorem Stp.mono {O O' : As} {H H' : Hp} (h : Stp O H H') (s : ∀ a, O a → O' a) : Stp O' H H' := fun a o e n t => h a o e (fun z => n (s a z)) t
theorem Stp.trans {O O' : As} {H H1 H2 : Hp} (a : Stp O H H1) (b : Stp O' H1 H2) (s : ∀ x, O' x → O x ∨ H x = none) : Stp O H H2 := fun x o e n t =>
  b x o (a x o e n t) (fun z => (s x z).elim n fun q => by rw [e] at q; cases q) t

/-- a list of the written part -/
def KLst (K : PySem.W.Frag) (a : Addr) (xs : List V) : Prop :=
  ∃ (o : Obj) (its : Array Value) (n : Nat), K.lookup a = some o ∧ o.cls = .type "list" ∧ o.dict = none ∧ o.data = .seq its n ∧ its.size ≤ sizeLine ∧ Vals xs its.toList
def LsR (K : PySem.W.Frag) (O : As) (H : Hp) (a : Addr) (xs : List V) : Prop := (¬ O a ∧ Rd H a (.lst xs)) ∨ KLst K a xs

/-- a tuple that has no dict of its own -/
def SqP (K : PySem.W.Frag) (H : Hp) (a : Addr) (xs : List V) : Prop :=
  (∃ o : Obj, o.dict = none ∧ H a = some (.frz o (.tup xs))) ∨
    ∃ (o : Obj) (its : Array Value) (n : Nat), K.lookup a = some o ∧ o.dict = none ∧ o.cls = .type "tuple" ∧ o.data = .seq its n ∧ its.size ≤ sizeLine ∧ Vals xs its.toList
theorem SqP.sq {K : PySem.W.Frag} {H : Hp} {a : Addr} {xs : List V} (h : SqP K H a xs) : SqT K H a xs :=
  h.elim (fun ⟨o, _, e⟩ => .inl (.inr ⟨o, e⟩)) fun ⟨o, its, n, e, _, r⟩ => .inr ⟨o, its, n, e, r⟩
mutual
inductive Rp (K : PySem.W.Frag) (O : As) (H : Hp) : V → D → Prop
  | non : Rp K O H .non .none
  | bl (b : Bool) : Rp K O H (.bl b) (.bool b)
  | int (i : Int) : Rp K O H (.int i) (.int i)
  | str (x : Str) : Rp K O H (.str x) (.str x)
  /-- a function with its code, handed on as it is -/
  | fnc {a c : Addr} {q : Str} : ¬ O c → H c = some (CodeO c q) → Rp K O H (.ref a) (.dict [(.list [], .tuple [.int a, .int c, .str q])])
  | lst {a : Addr} {xs : List V} {ds : List D} : LsR K O H a xs → RpL K O H xs ds → Rp K O H (.ref a) (.list ds)
  | tup {a : Addr} {xs : List V} {ds : List D} : SqP K H a xs → RpL K O H xs ds → Rp K O H (.ref a) (.tuple ds)
  /-- a pair that an iterator hands out: it is taken apart at once -/
  | wk {a : Addr} {xs : List V} {ds : List D} : SqT K H a xs → RpL K O H xs ds → Rp K O H (.ref a) (.dict [(.list [.list []], .tuple ds)])
  | dct {a : Addr} {ks : List (Key × V)} {kvs : List (D × D)} : ¬ O a → Rd H a (.dK ks) → RpL K O H (ks.map fun p => kV p.1) (kvs.map (·.1)) → RpL K O H (ks.map (·.2)) (kvs.map (·.2)) → Rp K O H (.ref a) (.dict kvs)
  /-- a dict whose keys are tuples -/
  | dcn {a : Addr} {o : Obj} {xs : List Ent} {kvs : List (D × D)} : ¬ O a → H a = some (DN a o xs) → xs ≠ [] → (kvs.map fun p => keyOf p.1) = xs.map (fun x => some x.1) → RpL K O H (xs.map fun x => .ref x.2.1) (kvs.map (·.1)) → RpL K O H (xs.map fun x => x.2.2) (kvs.map (·.2)) → Rp K O H (.ref a) (.dict kvs)
inductive RpL (K : PySem.W.Frag) (O : As) (H : Hp) : List V → List D → Prop
  | nil : RpL K O H [] []
  | cons {v : V} {vs : List V} {d : D} {ds : List D} : Rp K O H v d → RpL K O H vs ds → RpL K O H (v :: vs) (d :: ds)
end

section
variable {K : PySem.W.Frag} {O O' : As} {H H' : Hp}

theorem LsR.mono {a : Addr} {xs : List V} (h : LsR K O H a xs) (s : O' a → O a) : LsR K O' H a xs :=
  h.imp (fun ⟨n, r⟩ => ⟨fun z => n (s z), r⟩) id
theorem Rd.tracked {a : Addr} {u : HO} (h : Rd H a u) : ∃ o, H a = some o := h.elim (fun h => ⟨_, h⟩) fun ⟨_, h⟩ => ⟨_, h⟩
theorem Stp.rd {a : Addr} {u : HO} (h : Stp O H H') (n : ¬ O a) (t : ∀ ps, u ≠ .tbl ps) (r : Rd H a u) : Rd H' a u :=
  r.imp (fun e => h a _ e n t) fun ⟨o, e⟩ => ⟨o, h a _ e n fun ps z => by cases z⟩
theorem LsR.stp {a : Addr} {xs : List V} (h : LsR K O H a xs) (s : Stp O H H') : LsR K O H' a xs :=
  h.imp (fun ⟨n, r⟩ => ⟨n, s.rd n (fun ps z => by cases z) r⟩) id
theorem SqT.stp {a : Addr} {xs : List V} (h : SqT K H a xs) (s : Stp O H H') (b : OB O H) : SqT K H' a xs :=
  h.imp (fun r => s.rd (fun z => by
    obtain ⟨o, e, q⟩ := b a z
    rcases r with r | ⟨u, r⟩
    · rw [r] at e; cases e; cases q
    · rw [r] at e; cases e; cases q) (fun ps z => by cases z) r) id
theorem SqP.stp {a : Addr} {xs : List V} (h : SqP K H a xs) (s : Stp O H H') (b : OB O H) : SqP K H' a xs :=
  h.imp (fun ⟨o, d, e⟩ => ⟨o, d, s a _ e (fun z => by
    obtain ⟨o', e', q⟩ := b a z
    rw [e] at e'; cases e'; cases q) (fun ps z => by cases z)⟩) id
theorem LsR.sq {a : Addr} {xs : List V} (h : LsR K O H a xs) : SqL K H a xs := h.imp (fun z => z.2) id

theorem Rp.mono_all {K : PySem.W.Frag} {O O' : As} {H : Hp} (s : ∀ a, O' a → O a) : (∀ {v d}, Rp K O H v d → Rp K O' H v d) ∧ (∀ {vs ds}, RpL K O H vs ds → RpL K O' H vs ds) := by
  refine ⟨fun {v d} h => ?_, fun {vs ds} h => ?_⟩
  · exact Rp.rec (motive_1 := fun v d _ => Rp K O' H v d) (motive_2 := fun vs ds _ => RpL K O' H vs ds) .non .bl .int .str (fun n e => .fnc (fun z => n (s _ z)) e) (fun h _ ih => .lst (h.mono (s _)) ih) (fun h _ ih => .tup h ih) (fun h _ ih => .wk h ih) (fun n r _ _ i1 i2 => .dct (fun z => n (s _ z)) r i1 i2) (fun n e q q2 _ _ i1 i2 => .dcn (fun z => n (s _ z)) e q q2 i1 i2) .nil (fun _ _ i1 i2 => .cons i1 i2) h
  · exact RpL.rec (motive_1 := fun v d _ => Rp K O' H v d) (motive_2 := fun vs ds _ => RpL K O' H vs ds) .non .bl .int .str (fun n e => .fnc (fun z => n (s _ z)) e) (fun h _ ih => .lst (h.mono (s _)) ih) (fun h _ ih => .tup h ih) (fun h _ ih => .wk h ih) (fun n r _ _ i1 i2 => .dct (fun z => n (s _ z)) r i1 i2) (fun n e q q2 _ _ i1 i2 => .dcn (fun z => n (s _ z)) e q q2 i1 i2) .nil (fun _ _ i1 i2 => .cons i1 i2) h
theorem Rp.mono {v : V} {d : D} (h : Rp K O H v d) (s : ∀ a, O' a → O a) : Rp K O' H v d := (Rp.mono_all s).1 h
theorem RpL.mono {v : List V} {d : List D} (h : RpL K O H v d) (s : ∀ a, O' a → O a) : RpL K O' H v d := (Rp.mono_all s).2 h
theorem Rp.stp_all {K : PySem.W.Frag} {O : As} {H H' : Hp} (s : Stp O H H') (b : OB O H) : (∀ {v d}, Rp K O H v d → Rp K O H' v d) ∧ (∀ {vs ds}, RpL K O H vs ds → RpL K O H' vs ds) := by
  refine ⟨fun {v d} h => ?_, fun {vs ds} h => ?_⟩
  · exact Rp.rec (motive_1 := fun v d _ => Rp K O H' v d) (motive_2 := fun vs ds _ => RpL K O H' vs ds) .non .bl .int .str (fun n e => .fnc n (s _ _ e n fun ps => codeO_ne ps)) (fun h _ ih => .lst (h.stp s) ih) (fun h _ ih => .tup (SqP.stp h s b) ih) (fun h _ ih => .wk (SqT.stp h s b) ih) (fun n r _ _ i1 i2 => .dct n (s.rd n (fun ps z => by cases z) r) i1 i2) (fun n e q q2 _ _ i1 i2 => .dcn n (s _ _ e n fun ps z => by cases z) q q2 i1 i2) .nil (fun _ _ i1 i2 => .cons i1 i2) h
  · exact RpL.rec (motive_1 := fun v d _ => Rp K O H' v d) (motive_2 := fun vs ds _ => RpL K O H' vs ds) .non .bl .int .str (fun n e => .fnc n (s _ _ e n fun ps => codeO_ne ps)) (fun h _ ih => .lst (h.stp s) ih) (fun h _ ih => .tup (SqP.stp h s b) ih) (fun h _ ih => .wk (SqT.stp h s b) ih) (fun n r _ _ i1 i2 => .dct n (s.rd n (fun ps z => by cases z) r) i1 i2) (fun n e q q2 _ _ i1 i2 => .dcn n (s _ _ e n fun ps z => by cases z) q q2 i1 i2) .nil (fun _ _ i1 i2 => .cons i1 i2) h
theorem Rp.stp {v : V} {d : D} (h : Rp K O H v d) (s : Stp O H H') (b : OB O H) : Rp K O H' v d := (Rp.stp_all s b).1 h
theorem RpL.stp {v : List V} {d : List D} (h : RpL K O H v d) (s : Stp O H H') (b : OB O H) : RpL K O H' v d := (Rp.stp_all s b).2 h
/-- addresses that are new are not of it -/
theorem Rp.fresh_all {K : PySem.W.Frag} {O N : As} {H : Hp} (f : ∀ a, N a → H a = none) : (∀ {v d}, Rp K O H v d → Rp K (O.or N) H v d) ∧ (∀ {vs ds}, RpL K O H vs ds → RpL K (O.or N) H vs ds) := by
  have key : ∀ {a : Addr} {u : HO}, ¬ O a → Rd H a u → ¬ (O.or N) a := fun n r z => z.elim n fun z => by
    obtain ⟨o, e⟩ := Rd.tracked r
    rw [f _ z] at e; cases e
  have l : ∀ {a : Addr} {xs : List V}, LsR K O H a xs → LsR K (O.or N) H a xs := fun h => h.imp (fun ⟨n, r⟩ => ⟨key n r, r⟩) id
  refine ⟨fun {v d} h => ?_, fun {vs ds} h => ?_⟩
  · exact Rp.rec (motive_1 := fun v d _ => Rp K (O.or N) H v d) (motive_2 := fun vs ds _ => RpL K (O.or N) H vs ds) .non .bl .int .str (fun n e => .fnc (fun z => z.elim n fun z => by rw [f _ z] at e; cases e) e) (fun h _ ih => .lst (l h) ih) (fun h _ ih => .tup h ih) (fun h _ ih => .wk h ih) (fun n r _ _ i1 i2 => .dct (key n r) r i1 i2) (fun n e q q2 _ _ i1 i2 => .dcn (key n (.inl e)) e q q2 i1 i2) .nil (fun _ _ i1 i2 => .cons i1 i2) h
  · exact RpL.rec (motive_1 := fun v d _ => Rp K (O.or N) H v d) (motive_2 := fun vs ds _ => RpL K (O.or N) H vs ds) .non .bl .int .str (fun n e => .fnc (fun z => z.elim n fun z => by rw [f _ z] at e; cases e) e) (fun h _ ih => .lst (l h) ih) (fun h _ ih => .tup h ih) (fun h _ ih => .wk h ih) (fun n r _ _ i1 i2 => .dct (key n r) r i1 i2) (fun n e q q2 _ _ i1 i2 => .dcn (key n (.inl e)) e q q2 i1 i2) .nil (fun _ _ i1 i2 => .cons i1 i2) h
theorem Rp.fresh {N : As} {v : V} {d : D} (h : Rp K O H v d) (f : ∀ a, N a → H a = none) : Rp K (O.or N) H v d := (Rp.fresh_all f).1 h
theorem RpL.fresh {N : As} {v : List V} {d : List D} (h : RpL K O H v d) (f : ∀ a, N a → H a = none) : RpL K (O.or N) H v d := (Rp.fresh_all f).2 h

/-- a dict of either kind -/
def DctR (K : PySem.W.Frag) (O : As) (H : Hp) (a : Addr) (kvs : List (D × D)) : Prop :=
  (∃ ks : List (Key × V), H a = some (.dK ks) ∧ RpL K O H (ks.map fun p => kV p.1) (kvs.map (·.1)) ∧ RpL K O H (ks.map (·.2)) (kvs.map (·.2))) ∨
    ∃ (o : Obj) (xs : List Ent), H a = some (DN a o xs) ∧ xs ≠ [] ∧ (kvs.map fun p => keyOf p.1) = xs.map (fun x => some x.1) ∧ RpL K O H (xs.map fun x => V.ref x.2.1) (kvs.map (·.1)) ∧ RpL K O H (xs.map fun x => x.2.2) (kvs.map (·.2))
theorem DctR.imp {K K' : PySem.W.Frag} {O O' : As} {H H' : Hp} {a : Addr} {kvs : List (D × D)} (h : DctR K O H a kvs) (k : ∀ o, H a = some o → H' a = some o) (f : ∀ {vs ds}, RpL K O H vs ds → RpL K' O' H' vs ds) : DctR K' O' H' a kvs :=
  Or.imp (fun ⟨ks, e, r1, r2⟩ => ⟨ks, k _ e, f r1, f r2⟩) (fun ⟨o, xs, e, q, q2, r1, r2⟩ => ⟨o, xs, k _ e, q, q2, f r1, f r2⟩) h
/-- what a box holds -/
def BxR (K : PySem.W.Frag) (O : As) (H : Hp) (a : Addr) : Box → Prop
  | .lst ds => ∃ vs, H a = some (.lst vs) ∧ RpL K O H vs ds
  | .dct kvs => DctR K O H a kvs
theorem BxR.mono {a : Addr} {b : Box} (h : BxR K O H a b) (s : ∀ a, O' a → O a) : BxR K O' H a b := by
  cases b with
  | lst ds => obtain ⟨vs, e, r⟩ := h; exact ⟨vs, e, r.mono s⟩
  | dct kvs => exact h.imp (fun _ e => e) fun r => r.mono s
theorem BxR.fresh {N : As} {a : Addr} {b : Box} (h : BxR K O H a b) (f : ∀ a, N a → H a = none) : BxR K (O.or N) H a b := by
  cases b with
  | lst ds => obtain ⟨vs, e, r⟩ := h; exact ⟨vs, e, r.fresh f⟩
  | dct kvs => exact h.imp (fun _ e => e) fun r => r.fresh f
/-- the box's own object kept, all else stepped -/
theorem BxR.stp {a : Addr} {b : Box} (h : BxR K O H a b) (s : Stp O H H') (ob : OB O H) (k : ∀ o, H a = some o → H' a = some o) : BxR K O H' a b := by
  cases b with
  | lst ds => obtain ⟨vs, e, r⟩ := h; exact ⟨vs, k _ e, r.stp s ob⟩
  | dct kvs => exact h.imp k fun r => r.stp s ob
theorem BxR.boxish {a : Addr} {b : Box} (h : BxR K O H a b) : ∃ o, H a = some o ∧ BoxO o := by
  cases b with
  | lst ds => obtain ⟨vs, e, r⟩ := h; exact ⟨_, e, .lst _⟩
  | dct kvs =>
    rcases h with ⟨ks, e, r⟩ | ⟨o, ks, e, r⟩
    · exact ⟨_, e, .dK _⟩
    · exact ⟨_, e, .dn _ _ _⟩
/-- a box that is no more changed -/
theorem BxR.rp {a : Addr} {b : Box} (h : BxR K O H a b) (n : ¬ O a) : Rp K O H (.ref a) b.toD := by
  cases b with
  | lst ds => obtain ⟨vs, e, r⟩ := h; exact .lst (.inl ⟨n, .inl e⟩) r
  | dct kvs =>
    rcases h with ⟨ks, e, r1, r2⟩ | ⟨o, xs, e, q, q2, r1, r2⟩
    · exact .dct n (.inl e) r1 r2
    · exact .dcn n e q q2 r1 r2

/-! ### environments -/
def IsBx (ρ : DEnv) (i : Nat) (b : Box) : Prop := ρ[i]? = some (.own b) ∨ ρ[i]? = some (.lent b)
def Ow (σ : St) (ρ : DEnv) : As := fun a => ∃ i b, IsBx ρ i b ∧ σ[i]? = some (some (.ref a))
/-- σ, H stand for ρ; E0: what stood at the entry; B: what is to be left alone -/
structure ER (K : PySem.W.Frag) (E0 B : As) (σ : St) (H : Hp) (ρ : DEnv) : Prop where
  len : ρ.length = σ.length
  sh : ∀ (i : Nat) (d : D), ρ[i]? = some (Sl.sh d) → ∃ v, σ[i]? = some (some v) ∧ Rp K (B.or (Ow σ ρ)) H v d
  bx : ∀ (i : Nat) (b : Box), IsBx ρ i b → ∃ a : Addr, σ[i]? = some (some (.ref a)) ∧ ¬ B a ∧ BxR K (B.or (Ow σ ρ)) H a b
  inj : ∀ (i j : Nat) (b c : Box) (a : Addr), IsBx ρ i b → IsBx ρ j c → σ[i]? = some (some (.ref a)) → σ[j]? = some (some (.ref a)) → i = j
  bo : OB B H
  e0 : ∀ a, E0 a → ∃ o, H a = some o
  new : ∀ (i : Nat) (b : Box) (a : Addr), ρ[i]? = some (Sl.own b) → σ[i]? = some (some (.ref a)) → ¬ E0 a

variable {E0 B : As} {σ : St} {ρ ρ' : DEnv}
theorem ER.ob (e : ER K E0 B σ H ρ) : OB (B.or (Ow σ ρ)) H := fun a z => by
  rcases z with z | ⟨i, b, hb, hi⟩
  · exact e.bo a z
  · obtain ⟨a', h1, _, h3⟩ := e.bx i b hb
    rw [hi] at h1; cases h1
    exact h3.boxish
theorem ER.obo (e : ER K E0 B σ H ρ) : OB (Ow σ ρ) H := fun a z => e.ob a (.inr z)

/-- the slots may only lose what they own -/
structure Le (ρ ρ' : DEnv) : Prop where
  len : ρ'.length = ρ.length
  own : ∀ (i : Nat) (b' : Box), ρ'[i]? = some (Sl.own b') → ∃ b : Box, ρ[i]? = some (Sl.own b)
  lent : ∀ (i : Nat) (b' : Box), ρ'[i]? = some (Sl.lent b') → ∃ b : Box, ρ[i]? = some (Sl.lent b)
  back : ∀ (i : Nat) (b : Box), ρ[i]? = some (Sl.lent b) → ∃ b' : Box, ρ'[i]? = some (Sl.lent b')
theorem Le.refl (ρ : DEnv) : Le ρ ρ := ⟨rfl, fun _ b h => ⟨b, h⟩, fun _ b h => ⟨b, h⟩, fun _ b h => ⟨b, h⟩⟩
theorem Le.trans {ρ1 ρ2 : DEnv} (a : Le ρ ρ1) (b : Le ρ1 ρ2) : Le ρ ρ2 :=
  ⟨b.len.trans a.len, fun i x h => let ⟨y, hy⟩ := b.own i x h; a.own i y hy, fun i x h => let ⟨y, hy⟩ := b.lent i x h; a.lent i y hy, fun i x h => let ⟨y, hy⟩ := a.back i x h; b.back i y hy⟩
theorem Le.ow (h : Le ρ ρ') : ∀ a, Ow σ ρ' a → Ow σ ρ a := fun a ⟨i, b, hb, hi⟩ => by
  rcases hb with hb | hb
  · obtain ⟨c, hc⟩ := h.own i b hb; exact ⟨i, c, .inl hc, hi⟩
  · obtain ⟨c, hc⟩ := h.lent i b hb; exact ⟨i, c, .inr hc, hi⟩

/-! ### results -/
/-- the new things among results -/
def Nw (vs : List V) (rs : List RV) : As := fun a => ∃ (j : Nat) (b : Box), rs[j]? = some (RV.new b) ∧ vs[j]? = some (V.ref a)
/-- one result; O: what it must not hold -/
def R1 (K : PySem.W.Frag) (O : As) (σ : St) (H H' : Hp) (v : V) : RV → Prop
  | .val d => Rp K O H' v d
  | .new b => ∃ a, v = .ref a ∧ H a = none ∧ BxR K O H' a b
  | .var i => σ[i]? = some (some v)
structure RRs (K : PySem.W.Frag) (O : As) (σ : St) (H H' : Hp) (vs : List V) (rs : List RV) : Prop where
  len : rs.length = vs.length
  at_ : ∀ (j : Nat) (v : V) (r : RV), vs[j]? = some v → rs[j]? = some r → R1 K O σ H H' v r
  inj : ∀ (i j : Nat) (b c : Box) (a : Addr), rs[i]? = some (RV.new b) → rs[j]? = some (RV.new c) → vs[i]? = some (V.ref a) → vs[j]? = some (V.ref a) → i = j
/-- behind the coming to of vs, as rs -/
structure After (K : PySem.W.Frag) (T : Tb) (E0 B : As) (σ : St) (H : Hp) (ρ : DEnv) (vs : List V) (H' : Hp) (rs : List RV) (ρ' : DEnv) : Prop where
  stp : Stp (Ow σ ρ) H H'
  fre : Fre H H'
  tab : Tabs T H'
  le : Le ρ ρ'
  er : ER K E0 (B.or (Nw vs rs)) σ H' ρ'
  rr : RRs K ((B.or (Nw vs rs)).or (Ow σ ρ')) σ H H' vs rs

abbrev WE := DEnv → (RV → DEnv → Prop) → Prop
abbrev WA := DEnv → (List RV → DEnv → Prop) → Prop
abbrev WT := DEnv → (Bool → DEnv → Prop) → Prop
def tE (K : PySem.W.Frag) (T : Tb) (w : WE) : TE := fun σ H Q => ∃ E0 B ρ Qd, ER K E0 B σ H ρ ∧ Tabs T H ∧ w ρ Qd ∧ ∀ v H' r ρ', Qd r ρ' → After K T E0 B σ H ρ [v] H' [r] ρ' → Q v H'
def tA (K : PySem.W.Frag) (T : Tb) (w : WA) : TA := fun σ H Q => ∃ E0 B ρ Qd, ER K E0 B σ H ρ ∧ Tabs T H ∧ w ρ Qd ∧ ∀ vs H' rs ρ', Qd rs ρ' → After K T E0 B σ H ρ vs H' rs ρ' → Q vs H'
def tT (K : PySem.W.Frag) (T : Tb) (w : WT) : TT := fun σ H Q => ∃ E0 B ρ Qd, ER K E0 B σ H ρ ∧ Tabs T H ∧ w ρ Qd ∧ ∀ b H' ρ', Qd b ρ' → After K T E0 B σ H ρ [] H' [] ρ' → Q b H'
end
/-- heaps with one object over and over -/
theorem heap_of (oc : Obj) (hf : oc.isFreed = false) : ∀ n : Nat, ∃ h : Heap, h.objs.size = n ∧ (∀ b, b < n → h.get? b = some oc) ∧ ∀ b o, h.get? b = some o → o = oc
  | 0 => ⟨{}, rfl, fun b hb => absurd hb (Nat.not_lt_zero _), fun b o e => by
      have := Heap.lt_size e
      exact absurd this (Nat.not_lt_zero _)⟩
  | n + 1 => by
    obtain ⟨h, e1, e2, e3⟩ := heap_of oc hf n
    refine ⟨h.push oc, by rw [Heap.size_push, e1], fun b hb => ?_, fun b o e => ?_⟩
    · by_cases hn : b < n
      · exact Heap.get?_push_of_some _ (e2 b hn)
      · have : b = h.objs.size := by rw [e1]; exact Nat.le_antisymm (Nat.le_of_lt_succ hb) (Nat.le_of_not_lt hn)
        rw [this]
        exact Heap.get?_push_size _ hf
    · rcases Heap.get?_push_cases e with ⟨_, q⟩ | q
      · exact q
      · exact e3 b o q
theorem code_not {c : Addr} {q : Str} (h : BoxO (CodeO c q)) : False := by
  have key : ∀ o, BoxO o → o = CodeO c q → False := fun o h e => by
    cases h with
    | dn a o xs =>
      have e : DnOk a o xs = fun h : Heap => ∃ (oc : Obj) (vs : Array Value) (t : Tok), h.get? c = some oc ∧ oc.data = .fields vs ∧ vs[1]? = some (.str q t) := by injection e
      obtain ⟨h, _, h2, h3⟩ := heap_of { cls := .none, data := .fields #[.none, .str q 0] } rfl (c + 1)
      have hd : DnOk a o xs h := by
        rw [e]
        exact ⟨_, _, 0, h2 c (Nat.lt_succ_self c), rfl, rfl⟩
      obtain ⟨_, _, _, _, ys, es, ep, _, g, _, g2, _⟩ := hd
      rw [h3 a o g] at g2
      cases g2
    | _ => cases e
  exact key _ h rfl
end DL
set_option maxRecDepth 100000
set_option maxHeartbeats 1000000
namespace DL
open PySem PySem.Spec L2 LamX

section
variable {K : PySem.W.Frag} {T : Tb} {E0 B B' O O' N : As} {σ : L2.St} {ρ ρ1 ρ2 ρ3 : DEnv} {H H1 H2 H3 : Hp} {vs us : List V} {rs qs : List RV} {v : V} {r : RV} {d : D} {ds : List D} {X : Cx} {e e1 e2 : Expr} {es : List Expr} {pos : Pos}

theorem As.or_mono {A A' C C' : As} (h1 : ∀ a, A a → A' a) (h2 : ∀ a, C a → C' a) : ∀ a, (A.or C) a → (A'.or C') a := fun a h => h.imp (h1 a) (h2 a)
theorem Same.stp (h : Same H H1) : Stp O H H1 := fun a o e _ _ => h a o e
theorem Same.upd {p : Addr} {o : HO} (h : H p = none) : Same H (upd H p o) := fun a u e => by rw [upd_ne (ne_of_none e h)]; exact e
theorem Tabs.same (t : Tabs T H) (h : Same H H1) : Tabs T H1 := t.ext h
theorem RpL.length : ∀ {vs : List V} {ds : List D}, RpL K O H vs ds → vs.length = ds.length
  | _, _, .nil => rfl
  | _, _, .cons _ t => by rw [List.length_cons, List.length_cons, RpL.length t]
theorem RpL.get : ∀ {vs : List V} {ds : List D} {i : Nat} {v : V}, RpL K O H vs ds → vs[i]? = some v → ∃ d, ds[i]? = some d ∧ Rp K O H v d
  | _, _, _, _, .nil, e => by simp at e
  | _, _, 0, _, .cons r _, e => by simp at e; subst e; exact ⟨_, rfl, r⟩
  | _, _, i + 1, _, .cons _ t, e => by
    obtain ⟨d, h1, h2⟩ := RpL.get (i := i) t (by simpa using e)
    exact ⟨d, by simpa using h1, h2⟩
theorem RpL.get' : ∀ {vs : List V} {ds : List D} {i : Nat} {d : D}, RpL K O H vs ds → ds[i]? = some d → ∃ v, vs[i]? = some v ∧ Rp K O H v d
  | _, _, _, _, .nil, e => by simp at e
  | _, _, 0, _, .cons r _, e => by simp at e; subst e; exact ⟨_, rfl, r⟩
  | _, _, i + 1, _, .cons _ t, e => by
    obtain ⟨d, h1, h2⟩ := RpL.get' (i := i) t (by simpa using e)
    exact ⟨d, by simpa using h1, h2⟩
theorem RpL.of_get : ∀ {vs : List V} {ds : List D}, vs.length = ds.length → (∀ (i : Nat) (v : V) (d : D), vs[i]? = some v → ds[i]? = some d → Rp K O H v d) → RpL K O H vs ds
  | [], [], _, _ => .nil
  | v :: vs, d :: ds, l, h => .cons (h 0 v d rfl rfl) (RpL.of_get (by simpa using l) fun i v d a b => h (i + 1) v d (by simpa using a) (by simpa using b))
  | [], _ :: _, l, _ => by simp at l
  | _ :: _, [], l, _ => by simp at l
theorem RpL.append : ∀ {vs us : List V} {ds es : List D}, RpL K O H vs ds → RpL K O H us es → RpL K O H (vs ++ us) (ds ++ es)
  | _, _, _, _, .nil, s => s
  | _, _, _, _, .cons r t, s => .cons r (RpL.append t s)
theorem RpL.take : ∀ {vs : List V} {ds : List D} (n : Nat), RpL K O H vs ds → RpL K O H (vs.take n) (ds.take n)
  | _, _, 0, _ => .nil
  | _, _, _ + 1, .nil => .nil
  | _, _, n + 1, .cons r t => .cons r (RpL.take n t)
theorem RpL.drop : ∀ {vs : List V} {ds : List D} (n : Nat), RpL K O H vs ds → RpL K O H (vs.drop n) (ds.drop n)
  | _, _, 0, r => r
  | _, _, _ + 1, .nil => .nil
  | _, _, n + 1, .cons _ t => RpL.drop n t
theorem RpL.set (r : Rp K O H v d) : ∀ {vs : List V} {ds : List D} (i : Nat), RpL K O H vs ds → RpL K O H (vs.set i v) (ds.set i d)
  | _, _, _, .nil => .nil
  | _, _, 0, .cons _ t => .cons r t
  | _, _, i + 1, .cons q t => .cons q (RpL.set r i t)
theorem RpL.reverse : ∀ {vs : List V} {ds : List D}, RpL K O H vs ds → RpL K O H vs.reverse ds.reverse
  | _, _, .nil => .nil
  | _, _, .cons r t => by rw [List.reverse_cons, List.reverse_cons]; exact RpL.append (RpL.reverse t) (.cons r .nil)
theorem RpL.ints : ∀ (ns : List Int), RpL K O H (ns.map V.int) (ns.map PyData.int)
  | [] => .nil
  | n :: ns => .cons (.int n) (RpL.ints ns)

theorem ER.mono (e : ER K E0 B σ H ρ) (s : ∀ a, B' a → B a) : ER K E0 B' σ H ρ where
  len := e.len
  sh := fun i d h => let ⟨v, h1, h2⟩ := e.sh i d h; ⟨v, h1, h2.mono (As.or_mono s fun _ z => z)⟩
  bx := fun i b h => let ⟨a, h1, h2, h3⟩ := e.bx i b h; ⟨a, h1, fun z => h2 (s a z), h3.mono (As.or_mono s fun _ z => z)⟩
  inj := e.inj
  bo := fun a z => e.bo a (s a z)
  e0 := e.e0
  new := e.new
theorem or_swap {A C N : As} : ∀ a, ((A.or N).or C) a → ((A.or C).or N) a := fun a h => by
  rcases h with (h | h) | h
  · exact .inl (.inl h)
  · exact .inr h
  · exact .inl (.inr h)
/-- THE MOVE: from H to H', where all but O stood still, and what is to be left alone is of O or new -/
theorem Rp.move_all {K : PySem.W.Frag} {O O' : As} {H H' : Hp} (s : Stp O H H') (b : OB O H) (n : ∀ a, O' a → O a ∨ H a = none) : (∀ {v d}, Rp K O H v d → Rp K O' H' v d) ∧ (∀ {vs ds}, RpL K O H vs ds → RpL K O' H' vs ds) := by
  have key : ∀ {a : Addr} {u : HO}, ¬ O a → Rd H a u → ¬ O' a := fun h r z => (n _ z).elim h fun z => by
    obtain ⟨o, e⟩ := Rd.tracked r
    rw [z] at e; cases e
  have l : ∀ {a : Addr} {xs : List V}, LsR K O H a xs → LsR K O' H' a xs := fun h => h.imp (fun ⟨n, r⟩ => ⟨key n r, s.rd n (fun ps z => by cases z) r⟩) id
  refine ⟨fun {v d} h => ?_, fun {vs ds} h => ?_⟩
  · exact Rp.rec (motive_1 := fun v d _ => Rp K O' H' v d) (motive_2 := fun vs ds _ => RpL K O' H' vs ds) .non .bl .int .str (fun m e => .fnc (fun z => (n _ z).elim m fun z => by rw [z] at e; cases e) (s _ _ e m fun ps => codeO_ne ps)) (fun h _ ih => .lst (l h) ih) (fun h _ ih => .tup (SqP.stp h s b) ih) (fun h _ ih => .wk (SqT.stp h s b) ih) (fun n r _ _ i1 i2 => .dct (key n r) (s.rd n (fun ps z => by cases z) r) i1 i2) (fun n e q q2 _ _ i1 i2 => .dcn (key n (.inl e)) (s _ _ e n fun ps z => by cases z) q q2 i1 i2) .nil (fun _ _ i1 i2 => .cons i1 i2) h
  · exact RpL.rec (motive_1 := fun v d _ => Rp K O' H' v d) (motive_2 := fun vs ds _ => RpL K O' H' vs ds) .non .bl .int .str (fun m e => .fnc (fun z => (n _ z).elim m fun z => by rw [z] at e; cases e) (s _ _ e m fun ps => codeO_ne ps)) (fun h _ ih => .lst (l h) ih) (fun h _ ih => .tup (SqP.stp h s b) ih) (fun h _ ih => .wk (SqT.stp h s b) ih) (fun n r _ _ i1 i2 => .dct (key n r) (s.rd n (fun ps z => by cases z) r) i1 i2) (fun n e q q2 _ _ i1 i2 => .dcn (key n (.inl e)) (s _ _ e n fun ps z => by cases z) q q2 i1 i2) .nil (fun _ _ i1 i2 => .cons i1 i2) h
theorem Rp.move (h : Rp K O H v d) (s : Stp O H H1) (b : OB O H) (n : ∀ a, O' a → O a ∨ H a = none) : Rp K O' H1 v d := (Rp.move_all s b n).1 h
theorem RpL.move (h : RpL K O H vs ds) (s : Stp O H H1) (b : OB O H) (n : ∀ a, O' a → O a ∨ H a = none) : RpL K O' H1 vs ds := (Rp.move_all s b n).2 h
theorem BxR.move {a : Addr} {b : Box} (h : BxR K O H a b) (s : Stp O H H1) (ob : OB O H) (n : ∀ a, O' a → O a ∨ H a = none) (k : ∀ o, H a = some o → H1 a = some o) : BxR K O' H1 a b := by
  cases b with
  | lst ds => obtain ⟨vs, e, r⟩ := h; exact ⟨vs, k _ e, r.move s ob n⟩
  | dct kvs => exact h.imp k fun r => r.move s ob n
theorem R1.move (h : R1 K O σ H H1 v r) (s : Stp O H1 H2) (b : OB O H1) (n : ∀ a, O' a → O a ∨ H1 a = none) (k : ∀ a c, v = .ref a → r = .new c → ∀ o, H1 a = some o → H2 a = some o) : R1 K O' σ H H2 v r := by
  cases r with
  | val d => exact Rp.move h s b n
  | new c => obtain ⟨a, h1, h2, h3⟩ := h; exact ⟨a, h1, h2, h3.move s b n (k a c h1 rfl)⟩
  | var i => exact h
/-- the environment, where its own things stand still too -/
theorem ER.move (e : ER K E0 B σ H ρ) (s : Same H H1) (f : Fre H H1) (n : ∀ a, B' a → B a ∨ H a = none) (o : OB B' H1) : ER K E0 B' σ H1 ρ := by
  have nn : ∀ a, (B'.or (Ow σ ρ)) a → (B.or (Ow σ ρ)) a ∨ H a = none := fun a z => z.elim (fun z => (n a z).imp .inl id) fun z => .inl (.inr z)
  exact {
    len := e.len
    sh := fun i d h => let ⟨v, h1, h2⟩ := e.sh i d h; ⟨v, h1, h2.move (Same.stp s) e.ob nn⟩
    bx := fun i b h => by
      obtain ⟨a, h1, h2, h3⟩ := e.bx i b h
      refine ⟨a, h1, fun z => (n a z).elim h2 fun z => ?_, h3.move (Same.stp s) e.ob nn fun o q => s _ _ q⟩
      obtain ⟨u, q, _⟩ := h3.boxish
      rw [z] at q; cases q
    inj := e.inj
    bo := o
    e0 := fun a z => let ⟨u, h⟩ := e.e0 a z; f.some h
    new := e.new }
theorem Rp.same (h : Rp K O H v d) (s : Same H H1) (b : OB O H) : Rp K O H1 v d := h.move (Same.stp s) b fun _ z => .inl z
theorem RpL.same (h : RpL K O H vs ds) (s : Same H H1) (b : OB O H) : RpL K O H1 vs ds := h.move (Same.stp s) b fun _ z => .inl z
theorem ER.grow (e : ER K E0 B σ H ρ) (s : Same H H1) (f : Fre H H1) (n : ∀ a, N a → H a = none) (o : OB N H1) : ER K E0 (B.or N) σ H1 ρ :=
  e.move s f (fun a z => z.imp id (n a)) fun a z => z.elim (fun z => let ⟨u, h1, h2⟩ := e.bo a z; ⟨u, s _ _ h1, h2⟩) (o a)
theorem ER.same (e : ER K E0 B σ H ρ) (s : Same H H1) (f : Fre H H1) : ER K E0 B σ H1 ρ :=
  e.move s f (fun _ z => .inl z) fun a z => let ⟨u, h1, h2⟩ := e.bo a z; ⟨u, s _ _ h1, h2⟩
/-- others' things changed (L), the rest as it was: what ρ stands for lies in B.or L or not -/
theorem nw_val {d : D} : ∀ a, Nw [v] [.val d] a → False := fun a ⟨j, b, h1, _⟩ => by
  cases j with
  | zero => cases h1
  | succ j => simp at h1
theorem nw_var {i : Nat} : ∀ a, Nw [v] [.var i] a → False := fun a ⟨j, b, h1, _⟩ => by
  cases j with
  | zero => cases h1
  | succ j => simp at h1
theorem nw_nil : ∀ a, Nw vs [] a → False := fun a ⟨j, b, h1, _⟩ => by simp at h1
theorem nw_one {b : Box} : ∀ a, Nw [v] [.new b] a → v = .ref a := fun a ⟨j, c, h1, h2⟩ => by
  cases j with
  | zero => simpa using h2
  | succ j => simp at h1
theorem nw_at {b : Box} {a : Addr} : Nw [V.ref a] [.new b] a := ⟨0, b, rfl, rfl⟩
theorem nw_vals : ∀ {ds : List D} (a), Nw vs (ds.map RV.val) a → False := fun {ds} a ⟨j, b, h1, _⟩ => by
  rw [List.getElem?_map] at h1
  cases q : ds[j]? with
  | none => rw [q] at h1; cases h1
  | some z => rw [q] at h1; cases h1
theorem RRs.one (h : R1 K O σ H H1 v r) : RRs K O σ H H1 [v] [r] where
  len := rfl
  at_ := fun j v' r' h1 h2 => by
    cases j with
    | zero => cases h1; cases h2; exact h
    | succ j => simp at h1
  inj := fun i j b c a h1 h2 _ _ => by
    cases i with
    | zero => cases j with
      | zero => rfl
      | succ j => simp at h2
    | succ i => simp at h1
theorem R1.mono (h : R1 K O σ H H1 v r) (s : ∀ a, O' a → O a) : R1 K O' σ H H1 v r := by
  cases r with
  | val d => exact Rp.mono h s
  | new b => obtain ⟨a, h1, h2, h3⟩ := h; exact ⟨a, h1, h2, h3.mono s⟩
  | var i => exact h
theorem RRs.mono (h : RRs K O σ H H1 vs rs) (s : ∀ a, O' a → O a) : RRs K O' σ H H1 vs rs := ⟨h.len, fun j v r a b => (h.at_ j v r a b).mono s, h.inj⟩

/-- data, only new things having been laid -/
theorem After.ofVal (e : ER K E0 B σ H ρ) (t : Tabs T H) (s : Same H H1) (f : Fre H H1) (r : Rp K (B.or (Ow σ ρ)) H1 v d) : After K T E0 B σ H ρ [v] H1 [.val d] ρ where
  stp := Same.stp s
  fre := f
  tab := t.ext s
  le := .refl ρ
  er := (e.same s f).mono fun a z => z.elim id fun z => (nw_val a z).elim
  rr := .one (Rp.mono r (As.or_mono (fun a z => z.elim id fun z => (nw_val a z).elim) fun _ z => z))
theorem After.ofVar {i : Nat} (e : ER K E0 B σ H ρ) (t : Tabs T H) (h : σ[i]? = some (some v)) : After K T E0 B σ H ρ [v] H [.var i] ρ where
  stp := .refl _ _
  fre := .refl _
  tab := t
  le := .refl ρ
  er := e.mono fun a z => z.elim id fun z => (nw_var a z).elim
  rr := .one h
theorem After.ofNil (e : ER K E0 B σ H ρ) (t : Tabs T H) : After K T E0 B σ H ρ [] H [] ρ where
  stp := .refl _ _
  fre := .refl _
  tab := t
  le := .refl ρ
  er := e.mono fun a z => z.elim id fun z => (nw_nil a z).elim
  rr := ⟨rfl, fun j v r h _ => by simp at h, fun i j b c a h _ _ _ => by simp at h⟩

/-- one behind the other -/
theorem After.seq (a : After K T E0 B σ H ρ vs H1 rs ρ1) (b : After K T E0 (B.or (Nw vs rs)) σ H1 ρ1 us H2 qs ρ2) : After K T E0 B σ H ρ (vs ++ us) H2 (rs ++ qs) ρ2 := by
  have lv := a.rr.len
  have lu := b.rr.len
  have sp : ∀ {j : Nat} {c : Box} {x : Addr}, (rs ++ qs)[j]? = some (.new c) → (vs ++ us)[j]? = some (.ref x) → (rs[j]? = some (.new c) ∧ vs[j]? = some (.ref x)) ∨ (∃ k, j = rs.length + k ∧ qs[k]? = some (.new c) ∧ us[k]? = some (.ref x)) := fun {j c x} h1 h2 => by
    by_cases hj : j < rs.length
    · rw [List.getElem?_append_left hj] at h1
      rw [List.getElem?_append_left (by omega)] at h2
      exact .inl ⟨h1, h2⟩
    · rw [List.getElem?_append_right (by omega)] at h1
      rw [List.getElem?_append_right (by omega)] at h2
      exact .inr ⟨j - rs.length, by omega, h1, by rw [lv]; exact h2⟩
  have nw : ∀ x, (B.or (Nw (vs ++ us) (rs ++ qs))) x → ((B.or (Nw vs rs)).or (Nw us qs)) x := fun x z => by
    rcases z with z | ⟨j, c, h1, h2⟩
    · exact .inl (.inl z)
    · rcases sp h1 h2 with ⟨q1, q2⟩ | ⟨k, _, q1, q2⟩
      · exact .inl (.inr ⟨j, c, q1, q2⟩)
      · exact .inr ⟨k, c, q1, q2⟩
  have nwq : ∀ x, Nw us qs x → H1 x = none := fun x ⟨j, c, h1, h2⟩ => by
    obtain ⟨y, e, n, _⟩ := b.rr.at_ j _ _ h2 h1
    cases e; exact n
  have nwr : ∀ x, Nw vs rs x → ∃ o, H1 x = some o ∧ BoxO o := fun x ⟨j, c, h1, h2⟩ => by
    obtain ⟨y, e, _, q⟩ := a.rr.at_ j _ _ h2 h1
    cases e
    exact q.boxish
  have obA := a.er.ob
  have st : Stp (((B.or (Nw vs rs)).or (Ow σ ρ1))) H1 H2 := b.stp.mono fun _ z => .inr z
  have nn : ∀ x, ((B.or (Nw (vs ++ us) (rs ++ qs))).or (Ow σ ρ2)) x → ((B.or (Nw vs rs)).or (Ow σ ρ1)) x ∨ H1 x = none := fun x z => by
    rcases z with z | z
    · rcases nw x z with z | z
      · exact .inl (.inl z)
      · exact .inr (nwq x z)
    · exact .inl (.inr (b.le.ow x z))
  have kp : ∀ x c, Nw vs rs x → H1 x = some c → H2 x = some c := fun x c z q => b.stp x c q (fun w => by
    obtain ⟨i, bb, hb, hi⟩ := w
    obtain ⟨y, h1, h2, _⟩ := a.er.bx i bb hb
    rw [hi] at h1; cases h1
    exact h2 (.inr z)) fun ps w => by
      obtain ⟨o, h1, h2⟩ := nwr x z
      rw [q] at h1; cases h1
      subst w; cases h2
  refine ⟨a.stp.trans b.stp (fun x z => .inl (a.le.ow x z)), a.fre.trans b.fre, b.tab, a.le.trans b.le, b.er.mono nw, ⟨?_, fun j v r h1 h2 => ?_, fun i j b1 c x h1 h2 h3 h4 => ?_⟩⟩
  · rw [List.length_append, List.length_append, lv, lu]
  · by_cases hj : j < rs.length
    · rw [List.getElem?_append_left (by omega)] at h1
      rw [List.getElem?_append_left hj] at h2
      exact (a.rr.at_ j v r h1 h2).move st obA nn fun x c ex er o q => kp x o ⟨j, c, by rw [← er]; exact h2, by rw [← ex]; exact h1⟩ q
    · rw [List.getElem?_append_right (by omega)] at h1
      rw [List.getElem?_append_right (by omega)] at h2
      have q := (b.rr.at_ (j - rs.length) v r (by rw [lv]; exact h1) h2).mono (O' := ((B.or (Nw (vs ++ us) (rs ++ qs))).or (Ow σ ρ2))) fun x z => z.imp (nw x) id
      cases r with
      | val d => exact q
      | new c => obtain ⟨y, e1, e2, e3⟩ := q; exact ⟨y, e1, a.fre y e2, e3⟩
      | var i => exact q
  · rcases sp h1 h3 with ⟨q1, q2⟩ | ⟨k, ek, q1, q2⟩
    · rcases sp h2 h4 with ⟨p1, p2⟩ | ⟨m, em, p1, p2⟩
      · exact a.rr.inj i j b1 c x q1 p1 q2 p2
      · obtain ⟨o, z, _⟩ := nwr x ⟨i, b1, q1, q2⟩
        rw [nwq x ⟨m, c, p1, p2⟩] at z; cases z
    · rcases sp h2 h4 with ⟨p1, p2⟩ | ⟨m, em, p1, p2⟩
      · obtain ⟨o, z, _⟩ := nwr x ⟨j, c, p1, p2⟩
        rw [nwq x ⟨k, b1, q1, q2⟩] at z; cases z
      · rw [ek, em, b.rr.inj k m b1 c x q1 p1 q2 p2]
end
end DL
set_option maxRecDepth 100000
set_option maxHeartbeats 1000000
namespace DL
open PySem PySem.Spec L2 LamX

/-- what an operation comes to -/
inductive DV where
  | val (d : D)
  | new (b : Box)
def DV.rv : DV → RV
  | .val d => .val d
  | .new b => .new b
def lookR (ρ : DEnv) : RV → Option D
  | .val d => some d
  | .new b => some b.toD
  | .var i => match ρ[i]? with
    | some (.sh d) => some d
    | some (.own b) => some b.toD
    | some (.lent b) => some b.toD
    | _ => none
def lookK (ρ : DEnv) (r : RV) (k : D → Prop) : Prop := match lookR ρ r with
  | some d => k d
  | none => False
def looksK (ρ : DEnv) : List RV → (List D → Prop) → Prop
  | [], k => k []
  | r :: rs, k => lookK ρ r fun d => looksK ρ rs fun ds => k (d :: ds)
theorem lookK_some {ρ : DEnv} {r : RV} {k : D → Prop} (h : lookK ρ r k) : ∃ d, lookR ρ r = some d ∧ k d := by
  unfold lookK at h
  cases e : lookR ρ r with
  | none => rw [e] at h; exact h.elim
  | some d => rw [e] at h; exact ⟨d, rfl, h⟩

section
variable {K : PySem.W.Frag} {T : Tb} {E0 B B' O O' N : As} {σ : L2.St} {ρ ρ1 ρ2 ρ3 : DEnv} {H H1 H2 H3 : Hp} {vs us : List V} {rs qs : List RV} {v : V} {r : RV} {d : D} {ds : List D} {X : Cx} {e e1 e2 : Expr} {es : List Expr} {pos : Pos}

/-- what v holds, v itself maybe a thing that is changed -/
def RpB (K : PySem.W.Frag) (O : As) (H : Hp) (v : V) (d : D) : Prop := Rp K O H v d ∨ ∃ a b, v = .ref a ∧ d = Box.toD b ∧ BxR K O H a b
inductive RpBs (K : PySem.W.Frag) (O : As) (H : Hp) : List V → List D → Prop
  | nil : RpBs K O H [] []
  | cons {v : V} {vs : List V} {d : D} {ds : List D} : RpB K O H v d → RpBs K O H vs ds → RpBs K O H (v :: vs) (d :: ds)
theorem RpB.int {i : Int} (h : RpB K O H v (.int i)) : v = .int i := by
  rcases h with h | ⟨a, b, _, e, _⟩
  · cases h; rfl
  · cases b <;> cases e
theorem RpB.bool {i : Bool} (h : RpB K O H v (.bool i)) : v = .bl i := by
  rcases h with h | ⟨a, b, _, e, _⟩
  · cases h; rfl
  · cases b <;> cases e
theorem RpB.str {i : Str} (h : RpB K O H v (.str i)) : v = .str i := by
  rcases h with h | ⟨a, b, _, e, _⟩
  · cases h; rfl
  · cases b <;> cases e
theorem RpB.non (h : RpB K O H v .none) : v = .non := by
  rcases h with h | ⟨a, b, _, e, _⟩
  · cases h; rfl
  · cases b <;> cases e
def fnD (a c : Addr) (q : Str) : D := .dict [(.list [], .tuple [.int a, .int c, .str q])]
theorem RpB.tupP (h : RpB K O H v (.tuple ds)) : ∃ a xs, v = .ref a ∧ SqP K H a xs ∧ RpL K O H xs ds := by
  rcases h with h | ⟨a, b, _, e, _⟩
  · cases h with
    | tup h1 h2 => exact ⟨_, _, rfl, h1, h2⟩
  · cases b <;> cases e
theorem RpB.tup (h : RpB K O H v (.tuple ds)) : ∃ a xs, v = .ref a ∧ SqT K H a xs ∧ RpL K O H xs ds := by
  obtain ⟨a, xs, e, h1, h2⟩ := h.tupP
  exact ⟨a, xs, e, h1.sq, h2⟩
/-- what an iterator hands out as a pair -/
def wkD (ds : List D) : D := .dict [(.list [.list []], .tuple ds)]
theorem RpB.lst (h : RpB K O H v (.list ds)) : ∃ a xs, v = .ref a ∧ SqL K H a xs ∧ RpL K O H xs ds := by
  rcases h with h | ⟨a, b, ev, e, q⟩
  · cases h with
    | lst h1 h2 => exact ⟨_, _, rfl, h1.sq, h2⟩
  · cases b with
    | lst es =>
      cases e
      obtain ⟨xs, h1, h2⟩ := q
      exact ⟨a, xs, ev, SqL.of h1, h2⟩
    | dct kvs => cases e
def noRaw (kvs : List (D × D)) : Prop := ∀ (x : List D) (y : D), kvs ≠ [(.list x, y)]
theorem RpB.dct_ref {kvs : List (D × D)} (h : RpB K O H v (.dict kvs)) : ∃ a, v = .ref a := by
  rcases h with h | ⟨a, b, ev, e, q⟩
  · cases h <;> exact ⟨_, rfl⟩
  · exact ⟨a, ev⟩
def isRaw (d : D) : Bool := match d with
  | .dict ((.list _, _) :: _) => true
  | .dict ((.tuple _, _) :: _) => true
  | _ => false
theorem noRaw_of {kvs : List (D × D)} (h : isRaw (.dict kvs) = false) : noRaw kvs := fun x y e => by
  subst e; cases h
/-- what is known of a dict: by keys that are numbers and texts, by keys that are tuples -/
def DctL (K : PySem.W.Frag) (O : As) (H : Hp) (a : Addr) (kvs : List (D × D)) : Prop :=
  (∃ ks : List (Key × V), Rd H a (.dK ks) ∧ RpL K O H (ks.map fun p => kV p.1) (kvs.map (·.1)) ∧ RpL K O H (ks.map (·.2)) (kvs.map (·.2))) ∨
    ∃ (o : Obj) (xs : List Ent), H a = some (DN a o xs) ∧ xs ≠ [] ∧ (kvs.map fun p => keyOf p.1) = xs.map (fun x => some x.1) ∧ RpL K O H (xs.map fun x => V.ref x.2.1) (kvs.map (·.1)) ∧ RpL K O H (xs.map fun x => x.2.2) (kvs.map (·.2))
theorem DctR.look {kvs : List (D × D)} {a : Addr} (h : DctR K O H a kvs) : DctL K O H a kvs := Or.imp (fun ⟨ks, e, r⟩ => ⟨ks, .inl e, r⟩) id h
theorem RpB.dct {kvs : List (D × D)} (nr : noRaw kvs) (h : RpB K O H v (.dict kvs)) : ∃ a, v = .ref a ∧ DctL K O H a kvs := by
  rcases h with h | ⟨a, b, ev, e, q⟩
  · cases h with
    | fnc n e => exact (nr _ _ rfl).elim
    | wk h1 h2 => exact (nr _ _ rfl).elim
    | dct n h1 h2 h3 => exact ⟨_, rfl, .inl ⟨_, h1, h2, h3⟩⟩
    | dcn n e q q2 h1 h2 => exact ⟨_, rfl, .inr ⟨_, _, e, q, q2, h1, h2⟩⟩
  · cases b with
    | lst es => cases e
    | dct es =>
      cases e
      exact ⟨a, ev, DctR.look q⟩

theorem After.look {j : Nat} (A : After K T E0 B σ H ρ vs H1 rs ρ1) (h : vs[j]? = some v) (hr : rs[j]? = some r) (hd : lookR ρ1 r = some d) : RpB K (B.or (Ow σ ρ1)) H1 v d := by
  have q := A.rr.at_ j v r h hr
  have m : ∀ a, (B.or (Ow σ ρ1)) a → ((B.or (Nw vs rs)).or (Ow σ ρ1)) a := As.or_mono (fun _ z => .inl z) fun _ z => z
  cases r with
  | val d' => cases hd; exact .inl (Rp.mono q m)
  | new b => obtain ⟨a, h1, h2, h3⟩ := q; cases hd; exact .inr ⟨a, b, h1, rfl, h3.mono m⟩
  | var i =>
    have q : σ[i]? = some (some v) := q
    cases e : ρ1[i]? with
    | none => simp [lookR, e] at hd
    | some sl =>
      cases sl with
      | emp => simp [lookR, e] at hd
      | sh d' =>
        have hd' : d' = d := by simpa [lookR, e] using hd
        subst hd'
        obtain ⟨v', h1, h2⟩ := A.er.sh i d' e
        rw [q] at h1; cases h1
        exact .inl (h2.mono m)
      | own b =>
        have hd' : b.toD = d := by simpa [lookR, e] using hd
        subst hd'
        obtain ⟨a, h1, _, h3⟩ := A.er.bx i b (.inl e)
        rw [q] at h1; cases h1
        exact .inr ⟨a, b, rfl, rfl, h3.mono m⟩
      | lent b =>
        have hd' : b.toD = d := by simpa [lookR, e] using hd
        subst hd'
        obtain ⟨a, h1, _, h3⟩ := A.er.bx i b (.inr e)
        rw [q] at h1; cases h1
        exact .inr ⟨a, b, rfl, rfl, h3.mono m⟩
theorem After.obx (A : After K T E0 B σ H ρ vs H1 rs ρ1) : OB (B.or (Ow σ ρ1)) H1 := fun a z => A.er.ob a (As.or_mono (fun _ z => .inl z) (fun _ z => z) a z)
theorem After.looks : ∀ {rs' : List RV} {vs' : List V} {k : List D → Prop}, (A : After K T E0 B σ H ρ vs H1 rs ρ1) → (∀ (j : Nat) (v : V) (r : RV), vs'[j]? = some v → rs'[j]? = some r → ∃ i : Nat, vs[i]? = some v ∧ rs[i]? = some r) → rs'.length = vs'.length → looksK ρ1 rs' k → ∃ ds, RpBs K (B.or (Ow σ ρ1)) H1 vs' ds ∧ k ds
  | [], [], k, _, _, _, h => ⟨[], .nil, h⟩
  | r :: rs', v :: vs', k, A, hs, l, h => by
    obtain ⟨d, hd, h⟩ := lookK_some (show lookK ρ1 r fun d => looksK ρ1 rs' fun ds => k (d :: ds) from h)
    obtain ⟨i, h1, h2⟩ := hs 0 v r rfl rfl
    obtain ⟨ds, q, hk⟩ := After.looks (rs' := rs') (vs' := vs') A (fun j v r a b => hs (j + 1) v r (by simpa using a) (by simpa using b)) (by simpa using l) h
    exact ⟨d :: ds, .cons (A.look h1 h2 hd) q, hk⟩
  | [], _ :: _, _, _, _, l, _ => by simp at l
  | _ :: _, [], _, _, _, l, _ => by simp at l

def OpAft (K : PySem.W.Frag) (O : As) (H : Hp) (v : V) (H' : Hp) : DV → Prop
  | .val d => Rp K O H' v d
  | .new b => ∃ a, v = .ref a ∧ H a = none ∧ BxR K (O.or fun x => x = a) H' a b
theorem After.op {dv : DV} (A : After K T E0 B σ H ρ vs H1 rs ρ1) (s : Same H1 H2) (f : Fre H1 H2) (q : OpAft K (B.or (Ow σ ρ1)) H1 v H2 dv) : After K T E0 B σ H ρ [v] H2 [dv.rv] ρ1 := by
  have eB : ER K E0 B σ H1 ρ1 := A.er.mono fun _ z => .inl z
  cases dv with
  | val d =>
    have b := After.ofVal (T := T) (d := d) (v := v) eB A.tab s f q
    exact { stp := A.stp.trans b.stp fun x z => .inl (A.le.ow x z), fre := A.fre.trans f, tab := b.tab, le := A.le, er := b.er, rr := .one (by
      have := b.rr.at_ 0 v (.val d) rfl rfl
      exact this) }
  | new b =>
    obtain ⟨a, ev, na, hb⟩ := q
    subst ev
    refine { stp := A.stp.trans (Same.stp (O := Ow σ ρ1) s) fun x z => .inl (A.le.ow x z), fre := A.fre.trans f, tab := A.tab.ext s, le := A.le, er := ?_, rr := .one ?_ }
    · refine eB.grow s f (fun x z => ?_) fun x z => ?_
      · have e := nw_one x z
        cases e; exact na
      · have e := nw_one x z
        cases e; exact hb.boxish
    · refine ⟨a, rfl, A.fre a na, hb.mono fun x z => ?_⟩
      rcases z with (z | z) | z
      · exact .inl (.inl z)
      · have e := nw_one x z
        cases e; exact .inr rfl
      · exact .inl (.inr z)

/-- a two-place operation over data -/
def Op2 (K : PySem.W.Frag) (r : R2) (g : D → D → (DV → Prop) → Prop) : Prop := ∀ (O : As) (H : Hp) (x y : V) (d e : D) (Qd : DV → Prop) (Q : VK), OB O H → RpB K O H x d → RpB K O H y e → g d e Qd →
  (∀ v H' dv, Qd dv → Same H H' → Fre H H' → OpAft K O H v H' dv → Q v H') → r x y H Q
/-- an operation on a list of values over data -/
def OpN (K : PySem.W.Frag) (r : List V → Hp → VK → Prop) (g : List D → (DV → Prop) → Prop) : Prop := ∀ (O : As) (H : Hp) (xs : List V) (ds : List D) (Qd : DV → Prop) (Q : VK), OB O H → RpBs K O H xs ds → g ds Qd →
  (∀ v H' dv, Qd dv → Same H H' → Fre H H' → OpAft K O H v H' dv → Q v H') → r xs H Q

theorem _root_.L2.PE.imp {t t' : TE} (h : PE X e t) (f : ∀ σ H Q, t' σ H Q → t σ H Q) : PE X e t' := ⟨fun pins s σ H Q I w => h.run pins s σ H Q I (f σ H Q w)⟩
theorem _root_.L2.PA.imp {t t' : TA} (h : PA X es t) (f : ∀ σ H Q, t' σ H Q → t σ H Q) : PA X es t' := ⟨fun p pins s σ H Q I w => h.run p pins s σ H Q I (f σ H Q w)⟩
theorem _root_.L2.PT.imp {t t' : TT} (h : PT X e t) (f : ∀ σ H Q, t' σ H Q → t σ H Q) : PT X e t' := ⟨fun pins s σ H Q I w => h.run pins s σ H Q I (f σ H Q w)⟩

def wVar (i : Nat) : WE := fun ρ Q => match ρ[i]? with
  | some .emp => False
  | none => False
  | _ => Q (.var i) ρ
def wC (d : D) : WE := fun ρ Q => Q (.val d) ρ
theorem d_var (i : Nat) {x : Str} (hN : X.N[i]? = some x := by rfl) (hv : Vis X.env.scope x := by first | exact Or.inl rfl | exact Or.inr (Or.inl rfl) | exact Or.inr (Or.inr rfl)) (hd : (x == ("__debug__" : Str)) = false := by decide)
    (hcd : (x == ("__classdict__" : Str)) = false := by decide) : PE X (.Name x pos) (tE X.K T (wVar i)) := by
  refine (pe_var hN hv hd hcd).imp fun σ H Q h => ?_
  obtain ⟨E0, B, ρ, Qd, er, tb, hw, k⟩ := h
  have fin : ∀ v, σ[i]? = some (some v) → Qd (.var i) ρ → tVar i σ H Q := fun v hv q => ⟨v, hv, k v H _ ρ q (.ofVar er tb hv)⟩
  unfold wVar at hw
  cases e : ρ[i]? with
  | none => rw [e] at hw; exact hw.elim
  | some sl =>
    rw [e] at hw
    cases sl with
    | emp => exact hw.elim
    | sh d => obtain ⟨v, h1, _⟩ := er.sh i d e; exact fin v h1 hw
    | own b => obtain ⟨a, h1, _⟩ := er.bx i b (.inl e); exact fin _ h1 hw
    | lent b => obtain ⟨a, h1, _⟩ := er.bx i b (.inr e); exact fin _ h1 hw
theorem d_c {v : V} {d : D} (h : PE X e (tC v)) (r : ∀ O H, Rp X.K O H v d) : PE X e (tE X.K T (wC d)) := by
  refine h.imp fun σ H Q h => ?_
  obtain ⟨E0, B, ρ, Qd, er, tb, hw, k⟩ := h
  exact k _ _ _ _ hw (.ofVal er tb (Same.refl H) (Fre.refl H) (r _ _))
theorem d_int {i j} : PE X (.Constant (.int i) j pos) (tE X.K T (wC (.int i))) := d_c pe_int fun _ _ => .int i
theorem d_bl {i j} : PE X (.Constant (.bool i) j pos) (tE X.K T (wC (.bool i))) := d_c pe_bl fun _ _ => .bl i
theorem d_non {j} : PE X (.Constant .none j pos) (tE X.K T (wC .none)) := d_c pe_non fun _ _ => .non
theorem d_str {i j} : PE X (.Constant (.str i) j pos) (tE X.K T (wC (.str i))) := d_c pe_str fun _ _ => .str i

def wOp2 (g : D → D → (DV → Prop) → Prop) (wa wb : WE) : WE := fun ρ Q => wa ρ fun r1 ρ1 => wb ρ1 fun r2 ρ2 => lookK ρ2 r1 fun d1 => lookK ρ2 r2 fun d2 => g d1 d2 fun dv => Q dv.rv ρ2
/-- two expressions in a row, their data -/
theorem two {wa wb : WE} {R : V → V → Hp → Prop} (er : ER K E0 B σ H ρ) (tb : Tabs T H) {k : D → D → DEnv → Prop} (h : wa ρ fun r1 ρ1 => wb ρ1 fun r2 ρ2 => lookK ρ2 r1 fun d1 => lookK ρ2 r2 fun d2 => k d1 d2 ρ2)
    (f : ∀ x y H2 r1 r2 d1 d2 ρ2, After K T E0 B σ H ρ [x, y] H2 [r1, r2] ρ2 → RpB K (B.or (Ow σ ρ2)) H2 x d1 → RpB K (B.or (Ow σ ρ2)) H2 y d2 → k d1 d2 ρ2 → R x y H2) : tE K T wa σ H fun x H1 => tE K T wb σ H1 fun y H2 => R x y H2 := by
  refine ⟨E0, B, ρ, _, er, tb, h, fun x H1 r1 ρ1 q A1 => ?_⟩
  refine ⟨E0, _, ρ1, _, A1.er, A1.tab, q, fun y H2 r2 ρ2 q A2 => ?_⟩
  obtain ⟨d1, e1, q⟩ := lookK_some q
  obtain ⟨d2, e2, q⟩ := lookK_some q
  have A := A1.seq A2
  exact f x y H2 r1 r2 d1 d2 ρ2 A (A.look (j := 0) rfl rfl e1) (A.look (j := 1) rfl rfl e2) q
theorem d_op {op : Operator} {r : R2} {g : D → D → (DV → Prop) → Prop} {wa wb : WE} (ho : OpR X (binaryOp op) r) (og : Op2 X.K r g) (ha : PE X e1 (tE X.K T wa)) (hb : PE X e2 (tE X.K T wb)) : PE X (.BinOp e1 op e2 pos) (tE X.K T (wOp2 g wa wb)) := by
  refine (pe_op ho ha hb).imp fun σ H Q h => ?_
  obtain ⟨E0, B, ρ, Qd, er, tb, hw, k⟩ := h
  exact two er tb (k := fun d1 d2 ρ2 => g d1 d2 fun dv => Qd dv.rv ρ2) hw fun x y H2 r1 r2 d1 d2 ρ2 A h1 h2 q => og _ H2 x y d1 d2 _ _ A.obx h1 h2 q fun v H' dv q s f oa => k v H' _ ρ2 q (A.op s f oa)
theorem d_cmp {op : CmpOp} {r : R2} {g : D → D → (DV → Prop) → Prop} {wa wb : WE} (ho : OpR X (compareOp op) r) (og : Op2 X.K r g) (ha : PE X e1 (tE X.K T wa)) (hb : PE X e2 (tE X.K T wb)) (hm : behindInMarks op e2 = false := by first | exact nomark _ | rfl) :
    PE X (.Compare e1 [op] [e2] pos) (tE X.K T (wOp2 g wa wb)) := by
  refine (pe_cmpR ho ha hb hm).imp fun σ H Q h => ?_
  obtain ⟨E0, B, ρ, Qd, er, tb, hw, k⟩ := h
  exact two er tb (k := fun d1 d2 ρ2 => g d1 d2 fun dv => Qd dv.rv ρ2) hw fun x y H2 r1 r2 d1 d2 ρ2 A h1 h2 q => og _ H2 x y d1 d2 _ _ A.obx h1 h2 q fun v H' dv q s f oa => k v H' _ ρ2 q (A.op s f oa)
def bK (dv : DV) (k : Bool → Prop) : Prop := match dv with
  | .val (.bool b) => k b
  | _ => False
def wOp2T (g : D → D → (DV → Prop) → Prop) (wa wb : WE) : WT := fun ρ Q => wa ρ fun r1 ρ1 => wb ρ1 fun r2 ρ2 => lookK ρ2 r1 fun d1 => lookK ρ2 r2 fun d2 => g d1 d2 fun dv => bK dv fun b => Q b ρ2
theorem After.toNil (A : After K T E0 B σ H ρ vs H1 rs ρ1) (s : Same H1 H2) (f : Fre H1 H2) : After K T E0 B σ H ρ [] H2 [] ρ1 where
  stp := A.stp.trans (Same.stp (O := Ow σ ρ1) s) fun x z => .inl (A.le.ow x z)
  fre := A.fre.trans f
  tab := A.tab.ext s
  le := A.le
  er := ((A.er.mono fun _ z => .inl z).same s f).mono fun a z => z.elim id fun z => (nw_nil a z).elim
  rr := ⟨rfl, fun j v r h _ => by simp at h, fun i j b c a h _ _ _ => by simp at h⟩
theorem t_cmp {op : CmpOp} {r : R2} {g : D → D → (DV → Prop) → Prop} {wa wb : WE} (ho : OpR X (compareOp op) r) (og : Op2 X.K r g) (ha : PE X e1 (tE X.K T wa)) (hb : PE X e2 (tE X.K T wb)) (hm : behindInMarks op e2 = false := by first | exact nomark _ | rfl) :
    PT X (.Compare e1 [op] [e2] pos) (tT X.K T (wOp2T g wa wb)) := by
  refine (pt_cmpR ho ha hb hm).imp fun σ H Q h => ?_
  obtain ⟨E0, B, ρ, Qd, er, tb, hw, k⟩ := h
  refine two er tb (k := fun d1 d2 ρ2 => g d1 d2 fun dv => bK dv fun b => Qd b ρ2) hw fun x y H2 r1 r2 d1 d2 ρ2 A h1 h2 q => og _ H2 x y d1 d2 _ _ A.obx h1 h2 q fun v H' dv q s f oa => ?_
  cases dv with
  | new b => exact (show False from q).elim
  | val d =>
    cases d with
    | bool b =>
      have ev : v = .bl b := RpB.bool (.inl oa)
      exact ⟨b, ev, k b H' ρ2 q (A.toNil s f)⟩
    | _ => exact (show False from q).elim
end
end DL
set_option maxRecDepth 100000
set_option maxHeartbeats 1000000
namespace DL
open PySem PySem.Spec L2 LamX

def fz (ρ : DEnv) : RV → Option (D × DEnv)
  | .val d => some (d, ρ)
  | .new b => some (b.toD, ρ)
  | .var i => match ρ[i]? with
    | some (.sh d) => some (d, ρ)
    | some (.own b) => some (b.toD, ρ.set i (.sh b.toD))
    | _ => none
def fzK (ρ : DEnv) (r : RV) (k : D → DEnv → Prop) : Prop := match fz ρ r with
  | some (d, ρ') => k d ρ'
  | none => False
inductive Arg where
  | sh (d : D)
  | ln (b : Box)
/-- what is shared is data from now on (false); what is lent waits (true) -/
def shK (ρ : DEnv) : List Bool → List RV → (List Arg → DEnv → Prop) → Prop
  | [], [], k => k [] ρ
  | false :: ms, r :: rs, k => fzK ρ r fun d ρ1 => shK ρ1 ms rs fun as ρ2 => k (.sh d :: as) ρ2
  | true :: ms, r :: rs, k => shK ρ ms rs fun as ρ2 => k (.ln (.lst []) :: as) ρ2
  | _, _, _ => False
def bxOf (ρ : DEnv) : RV → Option Box
  | .val _ => none
  | .new b => some b
  | .var i => match ρ[i]? with
    | some (.own b) => some b
    | some (.lent b) => some b
    | _ => none
def lnK (ρ : DEnv) : List RV → List Arg → (List Arg → Prop) → Prop
  | [], [], k => k []
  | r :: rs, .sh d :: as, k => lnK ρ rs as fun as => k (.sh d :: as)
  | r :: rs, .ln _ :: as, k => match bxOf ρ r with
    | some b => lnK ρ rs as fun as => k (.ln b :: as)
    | none => False
  | _, _, _ => False
def fzsK (ρ : DEnv) : List RV → (List D → DEnv → Prop) → Prop
  | [], k => k [] ρ
  | r :: rs, k => fzK ρ r fun d ρ1 => fzsK ρ1 rs fun ds ρ2 => k (d :: ds) ρ2

section
variable {K : PySem.W.Frag} {T : Tb} {E0 B B' BN BL O O' N : As} {σ : L2.St} {ρ ρ1 ρ2 ρ3 : DEnv} {H H1 H2 H3 : Hp} {vs us : List V} {rs qs : List RV} {v : V} {r : RV} {d : D} {ds : List D} {X : Cx} {e e1 e2 : Expr} {es : List Expr} {pos : Pos}

theorem fzK_some {k : D → DEnv → Prop} (h : fzK ρ r k) : ∃ d ρ', fz ρ r = some (d, ρ') ∧ k d ρ' := by
  unfold fzK at h
  cases e : fz ρ r with
  | none => rw [e] at h; exact h.elim
  | some p => obtain ⟨d, ρ'⟩ := p; rw [e] at h; exact ⟨d, ρ', rfl, h⟩
theorem isBx_set {i j : Nat} {s : Sl} {b : Box} (hs : ∀ c, s ≠ .own c ∧ s ≠ .lent c) (h : IsBx (ρ.set i s) j b) : j ≠ i ∧ IsBx ρ j b := by
  by_cases e : i = j
  · subst e
    rcases h with h | h
    · by_cases hl : i < ρ.length
      · rw [List.getElem?_set_self hl] at h; exact ((hs b).1 (Option.some.inj h)).elim
      · rw [List.getElem?_eq_none (by simpa using hl)] at h; cases h
    · by_cases hl : i < ρ.length
      · rw [List.getElem?_set_self hl] at h; exact ((hs b).2 (Option.some.inj h)).elim
      · rw [List.getElem?_eq_none (by simpa using hl)] at h; cases h
  · refine ⟨fun z => e z.symm, ?_⟩
    unfold IsBx at h ⊢
    rw [List.getElem?_set_ne e] at h
    exact h
theorem sl_sh {d : D} : ∀ c, (Sl.sh d) ≠ .own c ∧ (Sl.sh d) ≠ .lent c := fun c => ⟨fun z => (nomatch z), fun z => (nomatch z)⟩
theorem sl_emp : ∀ c, Sl.emp ≠ .own c ∧ Sl.emp ≠ .lent c := fun c => ⟨fun z => (nomatch z), fun z => (nomatch z)⟩
theorem Le.set {i : Nat} {s : Sl} {b : Box} (h : ρ[i]? = some (.own b)) (hs : ∀ c, s ≠ .own c ∧ s ≠ .lent c) : Le ρ (ρ.set i s) := by
  refine ⟨by simp, fun j c hc => ?_, fun j c hc => ?_, fun j c hc => ?_⟩
  · obtain ⟨n, q⟩ := isBx_set hs (.inl hc)
    rw [List.getElem?_set_ne (Ne.symm n)] at hc
    exact ⟨c, hc⟩
  · obtain ⟨n, q⟩ := isBx_set hs (.inr hc)
    rw [List.getElem?_set_ne (Ne.symm n)] at hc
    exact ⟨c, hc⟩
  · refine ⟨c, ?_⟩
    rw [List.getElem?_set_ne (fun z => by subst z; rw [h] at hc; cases hc)]
    exact hc
theorem ER.fz1 {i : Nat} {b : Box} (er : ER K E0 B σ H ρ) (h : ρ[i]? = some (.own b)) : ER K E0 B σ H (ρ.set i (.sh b.toD)) ∧ ∀ v, σ[i]? = some (some v) → Rp K (B.or (Ow σ (ρ.set i (.sh b.toD)))) H v b.toD := by
  have le := Le.set (s := .sh b.toD) h sl_sh
  have m : ∀ a, (B.or (Ow σ (ρ.set i (.sh b.toD)))) a → (B.or (Ow σ ρ)) a := As.or_mono (fun _ z => z) fun a z => le.ow a z
  have il : i < ρ.length := (List.getElem?_eq_some_iff.mp h).1
  obtain ⟨a, h1, h2, h3⟩ := er.bx i b (.inl h)
  have na : ¬ (B.or (Ow σ (ρ.set i (.sh b.toD)))) a := fun z => by
    rcases z with z | ⟨j, c, hj, hs⟩
    · exact h2 z
    · obtain ⟨n, q⟩ := isBx_set sl_sh hj
      exact n (er.inj j i c b a q (.inl h) hs h1)
  have rp : Rp K (B.or (Ow σ (ρ.set i (.sh b.toD)))) H (.ref a) b.toD := (h3.mono m).rp na
  refine ⟨{ len := by rw [List.length_set]; exact er.len, sh := fun j d hd => ?_, bx := fun j c hc => ?_, inj := fun j l c c' x hc hc' => er.inj j l c c' x (isBx_set sl_sh hc).2 (isBx_set sl_sh hc').2, bo := er.bo, e0 := er.e0, new := fun j c x hc => ?_ }, fun v hv => ?_⟩
  · by_cases e : i = j
    · subst e
      rw [List.getElem?_set_self il] at hd
      cases hd
      exact ⟨_, h1, rp⟩
    · rw [List.getElem?_set_ne e] at hd
      obtain ⟨v, q1, q2⟩ := er.sh j d hd
      exact ⟨v, q1, q2.mono m⟩
  · obtain ⟨x, q1, q2, q3⟩ := er.bx j c (isBx_set sl_sh hc).2
    exact ⟨x, q1, q2, q3.mono m⟩
  · obtain ⟨b', hb'⟩ := le.own j c hc
    exact er.new j b' x hb'
  · rw [h1] at hv; cases hv; exact rp

/-- one result made data; the new things of BL keep away -/
theorem fz_ok {ρ' : DEnv} (er : ER K E0 BN σ H1 ρ) (m : ∀ a, BL a → BN a) (h : R1 K (BN.or (Ow σ ρ)) σ H H1 v r) (hn : ∀ b a, r = .new b → v = .ref a → BN a ∧ ¬ BL a) (f : fz ρ r = some (d, ρ')) :
    ER K E0 BN σ H1 ρ' ∧ Le ρ ρ' ∧ Rp K (BL.or (Ow σ ρ')) H1 v d := by
  have mm : ∀ a, (BL.or (Ow σ ρ)) a → (BN.or (Ow σ ρ)) a := As.or_mono m fun _ z => z
  cases r with
  | val d' =>
    cases f
    exact ⟨er, .refl _, Rp.mono h mm⟩
  | new b =>
    cases f
    obtain ⟨a, e1, _, e2⟩ := h
    obtain ⟨h1, h2⟩ := hn b a rfl e1
    subst e1
    refine ⟨er, .refl _, (e2.mono mm).rp fun z => z.elim h2 fun ⟨i, c, hc, hi⟩ => ?_⟩
    obtain ⟨x, q1, q2, _⟩ := er.bx i c hc
    rw [hi] at q1; cases q1
    exact q2 h1
  | var i =>
    cases e : ρ[i]? with
    | none => simp [fz, e] at f
    | some sl =>
      cases sl with
      | emp => simp [fz, e] at f
      | lent b => simp [fz, e] at f
      | sh d' =>
        simp [fz, e] at f
        obtain ⟨f1, f2⟩ := f
        subst f1; subst f2
        obtain ⟨v', q1, q2⟩ := er.sh i d' e
        have h : σ[i]? = some (some v) := h
        rw [h] at q1; cases q1
        exact ⟨er, .refl _, q2.mono mm⟩
      | own b =>
        simp [fz, e] at f
        obtain ⟨f1, f2⟩ := f
        subst f1; subst f2
        obtain ⟨q1, q2⟩ := er.fz1 e
        exact ⟨q1, Le.set e sl_sh, (q2 v h).mono (As.or_mono m fun _ z => z)⟩
theorem fzs_ok : ∀ {rs : List RV} {vs : List V} {ρ : DEnv} {k : List D → DEnv → Prop}, ER K E0 BN σ H1 ρ → (∀ a, BL a → BN a) → (∀ (j : Nat) (v : V) (r : RV), vs[j]? = some v → rs[j]? = some r → R1 K (BN.or (Ow σ ρ)) σ H H1 v r) →
    (∀ (j : Nat) (b : Box) (a : Addr), rs[j]? = some (.new b) → vs[j]? = some (.ref a) → BN a ∧ ¬ BL a) → rs.length = vs.length → fzsK ρ rs k →
    ∃ ds ρ', k ds ρ' ∧ ER K E0 BN σ H1 ρ' ∧ Le ρ ρ' ∧ RpL K (BL.or (Ow σ ρ')) H1 vs ds
  | [], [], ρ, k, er, m, _, _, _, h => ⟨[], ρ, h, er, .refl _, .nil⟩
  | r :: rs, v :: vs, ρ, k, er, m, hr, hn, l, h => by
    obtain ⟨d, ρ1, f, h⟩ := fzK_some (show fzK ρ r fun d ρ1 => fzsK ρ1 rs fun ds ρ2 => k (d :: ds) ρ2 from h)
    obtain ⟨e1, l1, q1⟩ := fz_ok er m (hr 0 v r rfl rfl) (fun b a e e' => hn 0 b a (by rw [e] <;> rfl) (by rw [e'] <;> rfl)) f
    obtain ⟨ds, ρ2, hk, e2, l2, q2⟩ := fzs_ok (rs := rs) (vs := vs) e1 m (fun j v r a b => (hr (j + 1) v r (by simpa using a) (by simpa using b)).mono (As.or_mono (fun _ z => z) fun a z => l1.ow a z)) (fun j b a h1 h2 => hn (j + 1) b a (by simpa using h1) (by simpa using h2)) (by simpa using l) h
    exact ⟨d :: ds, ρ2, hk, e2, l1.trans l2, .cons (q1.mono (As.or_mono (fun _ z => z) fun a z => l2.ow a z)) q2⟩
  | [], _ :: _, _, _, _, _, _, _, l, _ => by simp at l
  | _ :: _, [], _, _, _, _, _, _, l, _ => by simp at l
theorem Nw.notB (er0 : ER K E0 B σ H ρ) (A : After K T E0 B σ H ρ vs H1 rs ρ1) : ∀ a, Nw vs rs a → ¬ B a := fun a ⟨j, b, h1, h2⟩ z => by
  obtain ⟨x, e, n, _⟩ := A.rr.at_ j _ _ h2 h1
  cases e
  obtain ⟨o, q, _⟩ := er0.bo a z
  rw [n] at q; cases q
theorem After.freeze {k : List D → DEnv → Prop} (er0 : ER K E0 B σ H ρ) (A : After K T E0 B σ H ρ vs H1 rs ρ1) (h : fzsK ρ1 rs k) : ∃ ds ρ2, k ds ρ2 ∧ After K T E0 B σ H ρ vs H1 (ds.map RV.val) ρ2 ∧ RpL K (B.or (Ow σ ρ2)) H1 vs ds := by
  obtain ⟨ds, ρ2, hk, e, l, q⟩ := fzs_ok (BL := B) A.er (fun _ z => .inl z) A.rr.at_ (fun j b a h1 h2 => ⟨.inr ⟨j, b, h1, h2⟩, Nw.notB er0 A a ⟨j, b, h1, h2⟩⟩) A.rr.len h
  have lq := q.length
  refine ⟨ds, ρ2, hk, { stp := A.stp, fre := A.fre, tab := A.tab, le := A.le.trans l, er := e.mono fun a z => z.elim .inl fun z => (nw_vals a z).elim, rr := ⟨by rw [List.length_map]; exact lq.symm, fun j v r h1 h2 => ?_, fun i j b c a h1 _ _ _ => ?_⟩ }, q⟩
  · rw [List.getElem?_map] at h2
    obtain ⟨d, h3, h4⟩ := q.get h1
    rw [h3] at h2; cases h2
    exact Rp.mono h4 (As.or_mono (fun a z => z.elim id fun z => (nw_vals a z).elim) fun _ z => z)
  · rw [List.getElem?_map] at h1
    cases q : ds[i]? with
    | none => rw [q] at h1; cases h1
    | some z => rw [q] at h1; cases h1

/-! ### arguments, displays -/
def wNil : WA := fun ρ Q => Q [] ρ
def wCons (wa : WE) (wr : WA) : WA := fun ρ Q => wa ρ fun r ρ1 => wr ρ1 fun rs ρ2 => Q (r :: rs) ρ2
def itK (d : D) (k : List D → Prop) : Prop := match d with
  | .list ds => k ds
  | .tuple ds => k ds
  | _ => False
def wStar (wa : WE) (wr : WA) : WA := fun ρ Q => wa ρ fun r ρ1 => lookK ρ1 r fun d => itK d fun ds => wr ρ1 fun rs ρ2 => Q (ds.map RV.val ++ rs) ρ2
theorem da_nil : PA X [] (tA X.K T wNil) := pa_nil.imp fun σ H Q h => by
  obtain ⟨E0, B, ρ, Qd, er, tb, hw, k⟩ := h
  exact k _ _ _ _ hw (.ofNil er tb)
theorem da_cons {wa : WE} {wr : WA} (ha : PE X e (tE X.K T wa)) (hr : PA X es (tA X.K T wr)) (hs : starEach (e :: es) X.env = (false, eval e X.env) :: starEach es X.env := by rfl) : PA X (e :: es) (tA X.K T (wCons wa wr)) :=
  (pa_cons ha hr hs).imp fun σ H Q h => by
    obtain ⟨E0, B, ρ, Qd, er, tb, hw, k⟩ := h
    exact ⟨E0, B, ρ, _, er, tb, hw, fun x H1 r1 ρ1 q A1 => ⟨E0, _, ρ1, _, A1.er, A1.tab, q, fun ys H2 rs ρ2 q A2 => k _ _ _ _ q (A1.seq A2)⟩⟩
theorem RpB.items (h : RpB K O H v d) {k : List D → Prop} (q : itK d k) : ∃ a xs ds, v = .ref a ∧ (SqL K H a xs ∨ SqT K H a xs) ∧ RpL K O H xs ds ∧ k ds := by
  cases d with
  | list ds => obtain ⟨a, xs, e, h1, h2⟩ := h.lst; exact ⟨a, xs, ds, e, .inl h1, h2, q⟩
  | tuple ds => obtain ⟨a, xs, e, h1, h2⟩ := h.tup; exact ⟨a, xs, ds, e, .inr h1, h2, q⟩
  | _ => exact (show False from q).elim
theorem After.vals {xs : List V} (A : After K T E0 B σ H ρ vs H1 rs ρ1) (h : RpL K (B.or (Ow σ ρ1)) H1 xs ds) : After K T E0 B σ H ρ xs H1 (ds.map RV.val) ρ1 where
  stp := A.stp
  fre := A.fre
  tab := A.tab
  le := A.le
  er := A.er.mono fun a z => z.elim .inl fun z => (nw_vals a z).elim
  rr := ⟨by rw [List.length_map]; exact h.length.symm, fun j v r h1 h2 => by
      rw [List.getElem?_map] at h2
      obtain ⟨d, h3, h4⟩ := h.get h1
      rw [h3] at h2; cases h2
      exact Rp.mono h4 (As.or_mono (fun a z => z.elim id fun z => (nw_vals a z).elim) fun _ z => z), fun i j b c a h1 _ _ _ => by
      rw [List.getElem?_map] at h1
      cases q : ds[i]? with
      | none => rw [q] at h1; cases h1
      | some z => rw [q] at h1; cases h1⟩
theorem da_star {wa : WE} {wr : WA} {p : Pos} (ha : PE X e (tE X.K T wa)) (hr : PA X es (tA X.K T wr)) : PA X (.Starred e p :: es) (tA X.K T (wStar wa wr)) :=
  (StX.pa_star ha hr).imp fun σ H Q h => by
    obtain ⟨E0, B, ρ, Qd, er, tb, hw, k⟩ := h
    refine ⟨E0, B, ρ, _, er, tb, hw, fun x H1 r1 ρ1 q A1 => ?_⟩
    obtain ⟨d, hd, q⟩ := lookK_some q
    obtain ⟨a, xs, ds, e, hs, hl, q⟩ := (A1.look (j := 0) rfl rfl hd).items q
    refine ⟨a, xs, e, hs.symm, E0, _, ρ1, _, (A1.vals hl).er, A1.tab, q, fun ys H2 rs ρ2 q A2 => k _ _ _ _ q ((A1.vals hl).seq A2)⟩

theorem sz_le {n : Nat} (h : n ≤ 16777216) : n ≤ sizeLine := by rw [sizeLine_eq]; exact h
def wTup (wa : WA) : WE := fun ρ Q => wa ρ fun rs ρ1 => fzsK ρ1 rs fun ds ρ2 => ds.length ≤ 16777216 ∧ Q (.val (.tuple ds)) ρ2
def wLst (wa : WA) : WE := fun ρ Q => wa ρ fun rs ρ1 => fzsK ρ1 rs fun ds ρ2 => ds.length ≤ 16777216 ∧ Q (.new (.lst ds)) ρ2
theorem SqP.of {a : Addr} {xs : List V} {o : Obj} (h : o.dict = none) : SqP K (upd H a (.frz o (.tup xs))) a xs := .inl ⟨o, h, upd_same⟩
theorem opaft_tup {a : Addr} {xs : List V} {o : Obj} (ob : OB O H) (n : H a = none) (dn : o.dict = none) (h : RpL K O H xs ds) : OpAft K O H (.ref a) (upd H a (.frz o (.tup xs))) (.val (.tuple ds)) :=
  .tup (SqP.of dn) (h.same (Same.upd n) ob)
/-- a tuple is laid: its object is known, and has no dict -/
theorem laidT {pins : List (Addr × Obj)} {s : Shared} {h' : Heap} {a : Addr} {its : List Value} {n t' : Nat} {xs : List V} (I : Inv X pins σ H s) (k : ∀ b u, s.heap.get? b = some u → h'.get? b = some u) (hp : s.heap.objs.size ≤ a)
    (ho : h'.get? a = some { cls := .type "tuple", data := .seq its.toArray n }) (r : Vals xs its) (hz : xs.length ≤ sizeLine) : Inv X pins σ (upd H a (.frz { cls := .type "tuple", data := .seq its.toArray n } (.tup xs))) { s with heap := h', toks := t' } :=
  I.laid k hp ⟨ho, hz, its, r, ⟨_, ho, rfl, _, rfl⟩⟩
/-- a new tuple comes to -/
def NewT (H : Hp) (xs : List V) (Q : VK) : Prop := ∀ (p : Addr) (o : Obj), H p = none → o.dict = none → Q (.ref p) (upd H p (.frz o (.tup xs)))
def tTupP (t : TA) : TE := fun σ H Q => t σ H fun xs H1 => xs.length ≤ sizeLine ∧ NewT H1 xs Q
theorem pe_tupP {x1} {t : TA} (h : PA X es t) : PE X (.Tuple es x1 pos) (tTupP t) :=
  ⟨fun pins s σ H Q I hq => wpAny_Tuple_spliced (thn (h.run pos pins s σ H _ I hq) fun us s1 ⟨xs, H1, I1, r, z, q⟩ => ⟨by rw [← r.length]; exact z,
    ⟨.ref s1.heap.objs.size, _, laidT (t' := s1.toks) I1 (fun b u e => Heap.get?_push_of_some _ e) (Nat.le_refl _) (Heap.get?_push_size _ rfl) r z, rfl, q _ _ (I1.hok.fresh (Nat.le_refl _)) rfl⟩⟩)⟩
theorem opaft_lst {a : Addr} {xs : List V} (ob : OB O H) (n : H a = none) (h : RpL K O H xs ds) : OpAft K O H (.ref a) (upd H a (.lst xs)) (.new (.lst ds)) :=
  ⟨a, rfl, n, xs, upd_same, h.move (Same.stp (Same.upd n)) ob fun x z => z.imp id fun z => by rw [z]; exact n⟩
theorem d_tup {wa : WA} {x1} (h : PA X es (tA X.K T wa)) : PE X (.Tuple es x1 pos) (tE X.K T (wTup wa)) := (pe_tupP h).imp fun σ H Q h => by
  obtain ⟨E0, B, ρ, Qd, er, tb, hw, k⟩ := h
  refine ⟨E0, B, ρ, _, er, tb, hw, fun xs H1 rs ρ1 q A => ?_⟩
  obtain ⟨ds, ρ2, ⟨hz, q⟩, A2, rl⟩ := A.freeze er q
  refine ⟨by rw [rl.length]; exact sz_le hz, fun p o hp dn => k _ _ _ ρ2 q ?_⟩
  exact A2.op (dv := .val (.tuple ds)) (Same.upd hp) (Fre.upd _ _ _) (opaft_tup A2.obx hp dn rl)
theorem d_lst {wa : WA} (h : PA X es (tA X.K T wa)) : PE X (.List es pos) (tE X.K T (wLst wa)) := (pe_lst h).imp fun σ H Q h => by
  obtain ⟨E0, B, ρ, Qd, er, tb, hw, k⟩ := h
  refine ⟨E0, B, ρ, _, er, tb, hw, fun xs H1 rs ρ1 q A => ?_⟩
  obtain ⟨ds, ρ2, ⟨hz, q⟩, A2, rl⟩ := A.freeze er q
  refine ⟨by rw [rl.length]; exact sz_le hz, fun p hp => k _ _ _ ρ2 q ?_⟩
  exact A2.op (dv := .new (.lst ds)) (Same.upd hp) (Fre.upd _ _ _) (opaft_lst A2.obx hp rl)

/-! ### built-ins by name -/
def wCB (g : List D → (DV → Prop) → Prop) (wa : WA) : WE := fun ρ Q => wa ρ fun rs ρ1 => looksK ρ1 rs fun ds => g ds fun dv => Q dv.rv ρ1
theorem tcb {r : List V → Hp → VK → Prop} {g : List D → (DV → Prop) → Prop} {wa : WA} (og : OpN K r g) : ∀ σ H Q, tE K T (wCB g wa) σ H Q → tCB r (tA K T wa) σ H Q := fun σ H Q h => by
  obtain ⟨E0, B, ρ, Qd, er, tb, hw, k⟩ := h
  refine ⟨E0, B, ρ, _, er, tb, hw, fun xs H1 rs ρ1 q A => ?_⟩
  obtain ⟨ds, rb, q⟩ := A.looks (rs' := rs) (vs' := xs) (fun j v r a b => ⟨j, a, b⟩) A.rr.len q
  exact og _ H1 xs ds _ _ A.obx rb q fun v H' dv q s f oa => k v H' _ ρ1 q (A.op s f oa)
theorem d_callB {x : Str} {id : String} {p : Pos} {r : List V → Hp → VK → Prop} {g : List D → (DV → Prop) → Prop} {wa : WA} (hc : CallR X (.builtin id) r) (og : OpN X.K r g) (hm : X.mg x = none) (hv : bootBuiltins x = some (.builtin id)) (ha : PA X (e :: es) (tA X.K T wa))
    (hg : Gl X x := by rfl) (hn : x ≠ "__name__" := by decide) (hdb : (x == ("__debug__" : Str)) = false := by decide)
    (he : starEach (e :: es) X.env = (false, eval e X.env) :: starEach es X.env := by rfl) (hpl : (backTo pos (starEach es X.env)).any (·.1) = false := by rfl) : PE X (.Call (.Name x p) (e :: es) [] pos) (tE X.K T (wCB g wa)) :=
  (pe_callB hc hg hm hv ha hn hdb he hpl).imp (tcb og)
theorem d_callTy {x : Str} {T' : String} {p : Pos} {r : List V → Hp → VK → Prop} {g : List D → (DV → Prop) → Prop} {wa : WA} (hc : CallR X (.type T') r) (og : OpN X.K r g) (hm : X.mg x = none) (hv : bootBuiltins x = some (.type T')) (ha : PA X (e :: es) (tA X.K T wa))
    (hg : Gl X x := by rfl) (hn : x ≠ "__name__" := by decide) (hdb : (x == ("__debug__" : Str)) = false := by decide)
    (he : starEach (e :: es) X.env = (false, eval e X.env) :: starEach es X.env := by rfl) (hpl : (backTo pos (starEach es X.env)).any (·.1) = false := by rfl) : PE X (.Call (.Name x p) (e :: es) [] pos) (tE X.K T (wCB g wa)) :=
  (pe_callTy hc hg hm hv ha hn hdb he hpl).imp (tcb og)
end
end DL
set_option maxRecDepth 100000
set_option maxHeartbeats 1000000
namespace DL
open PySem PySem.Spec L2 LamX

/-- what is wanted behind a statement, over data -/
structure DP where
  nx : DEnv → Prop
  rt : RV → DEnv → Prop
  bk : DEnv → Prop := fun _ => False
  ct : DEnv → Prop := fun _ => False
abbrev WS := DEnv → DP → Prop
/-- the lent things' places -/
def Lt (σ : L2.St) (ρ : DEnv) : As := fun a => ∃ (i : Nat) (b : Box), ρ[i]? = some (.lent b) ∧ σ[i]? = some (some (V.ref a))

/-- behind a statement -/
structure SAft (K : PySem.W.Frag) (T : Tb) (E0 B : As) (σ : L2.St) (H : Hp) (ρ : DEnv) (σ' : L2.St) (H' : Hp) (ρ' : DEnv) : Prop where
  stp : Stp (Ow σ ρ) H H'
  fre : Fre H H'
  tab : Tabs T H'
  ow : ∀ a, Ow σ' ρ' a → Ow σ ρ a ∨ H a = none
  er : ER K E0 B σ' H' ρ'
  lent : ∀ (i : Nat) (b : Box), ρ[i]? = some (.lent b) → (∃ b' : Box, ρ'[i]? = some (.lent b')) ∧ σ'[i]? = σ[i]?
  lent' : ∀ (i : Nat) (b : Box), ρ'[i]? = some (.lent b) → ∃ b' : Box, ρ[i]? = some (.lent b')
/-- behind a return -/
structure RetA (K : PySem.W.Frag) (T : Tb) (E0 B : As) (σ : L2.St) (H : Hp) (ρ : DEnv) (v : V) (H' : Hp) (r : RV) (ρ' : DEnv) : Prop where
  stp : Stp (Ow σ ρ) H H'
  fre : Fre H H'
  tab : Tabs T H'
  bo : OB (B.or (Nw [v] [r])) H'
  lent : ∀ (i : Nat) (b : Box), ρ[i]? = some (.lent b) → ∃ (b' : Box) (a : Addr), ρ'[i]? = some (.lent b') ∧ σ[i]? = some (some (V.ref a)) ∧ ¬ (B.or (Nw [v] [r])) a ∧ BxR K ((B.or (Nw [v] [r])).or (Lt σ ρ)) H' a b'
  rr : match r with
    | .val d => Rp K ((B.or (Nw [v] [r])).or (Lt σ ρ)) H' v d
    | .new b => ∃ a, v = .ref a ∧ ¬ E0 a ∧ BxR K ((B.or (Nw [v] [r])).or (Lt σ ρ)) H' a b
    | .var _ => False
def tS (K : PySem.W.Frag) (T : Tb) (w : WS) : TS := fun D σ H => ∃ E0 B ρ P, ER K E0 B σ H ρ ∧ Tabs T H ∧ w ρ P ∧
  (∀ σ' H' ρ', P.nx ρ' → SAft K T E0 B σ H ρ σ' H' ρ' → D.nx σ' H') ∧
  (∀ v H' r ρ', P.rt r ρ' → RetA K T E0 B σ H ρ v H' r ρ' → D.rt v H') ∧
  (∀ σ' H' ρ', P.bk ρ' → SAft K T E0 B σ H ρ σ' H' ρ' → D.bk σ' H') ∧
  (∀ σ' H' ρ', P.ct ρ' → SAft K T E0 B σ H ρ σ' H' ρ' → D.ct σ' H')

section
variable {K : PySem.W.Frag} {T : Tb} {E0 B B' O O' N : As} {σ σ1 σ2 : L2.St} {ρ ρ1 ρ2 ρ3 : DEnv} {H H1 H2 H3 : Hp} {vs us : List V} {rs qs : List RV} {v : V} {r : RV} {d : D} {ds : List D} {X : Cx} {e e1 e2 : Expr} {es : List Expr} {st : Stmt} {sts : List Stmt} {pos : Pos}

theorem _root_.L2.PS.imp {t t' : TS} (h : PS X st t) (f : ∀ D σ H, t' D σ H → t D σ H) : PS X st t' := ⟨fun pins s σ H D I w => h.run pins s σ H D I (f D σ H w)⟩
theorem _root_.L2.PSs.imp {t t' : TS} (h : PSs X sts t) (f : ∀ D σ H, t' D σ H → t D σ H) : PSs X sts t' := ⟨fun pins s σ H D I w => h.run pins s σ H D I (f D σ H w)⟩

theorem Lt.ow : ∀ a, Lt σ ρ a → Ow σ ρ a := fun a ⟨i, b, h1, h2⟩ => ⟨i, b, .inr h1, h2⟩
theorem SAft.refl (er : ER K E0 B σ H ρ) (tb : Tabs T H) : SAft K T E0 B σ H ρ σ H ρ where
  stp := .refl _ _
  fre := .refl _
  tab := tb
  ow := fun _ z => .inl z
  er := er
  lent := fun i b h => ⟨⟨b, h⟩, rfl⟩
  lent' := fun i b h => ⟨b, h⟩
theorem SAft.trans (a : SAft K T E0 B σ H ρ σ1 H1 ρ1) (b : SAft K T E0 B σ1 H1 ρ1 σ2 H2 ρ2) : SAft K T E0 B σ H ρ σ2 H2 ρ2 where
  stp := a.stp.trans b.stp a.ow
  fre := a.fre.trans b.fre
  tab := b.tab
  ow := fun x z => (b.ow x z).elim (a.ow x) fun z => .inr (a.fre x z)
  er := b.er
  lent := fun i c h => by
    obtain ⟨⟨c1, h1⟩, e1⟩ := a.lent i c h
    obtain ⟨h2, e2⟩ := b.lent i c1 h1
    exact ⟨h2, e2.trans e1⟩
  lent' := fun i c h => by
    obtain ⟨c1, h1⟩ := b.lent' i c h
    exact a.lent' i c1 h1
theorem SAft.lt (a : SAft K T E0 B σ H ρ σ1 H1 ρ1) : ∀ x, Lt σ ρ x ↔ Lt σ1 ρ1 x := fun x => by
  constructor
  · rintro ⟨i, b, h1, h2⟩
    obtain ⟨⟨b', h3⟩, e⟩ := a.lent i b h1
    exact ⟨i, b', h3, by rw [e]; exact h2⟩
  · rintro ⟨i, b, h1, h2⟩
    obtain ⟨b', h3⟩ := a.lent' i b h1
    obtain ⟨_, e⟩ := a.lent i b' h3
    exact ⟨i, b', h3, by rw [← e]; exact h2⟩
theorem SAft.ret (a : SAft K T E0 B σ H ρ σ1 H1 ρ1) (b : RetA K T E0 B σ1 H1 ρ1 v H2 r ρ2) : RetA K T E0 B σ H ρ v H2 r ρ2 := by
  have m : ∀ x, ((B.or (Nw [v] [r])).or (Lt σ ρ)) x → ((B.or (Nw [v] [r])).or (Lt σ1 ρ1)) x := As.or_mono (fun _ z => z) fun x z => (a.lt x).mp z
  refine { stp := a.stp.trans b.stp a.ow, fre := a.fre.trans b.fre, tab := b.tab, bo := b.bo, lent := fun i c h => ?_, rr := ?_ }
  · obtain ⟨⟨c1, h1⟩, e1⟩ := a.lent i c h
    obtain ⟨c2, x, q1, q2, q3, q4⟩ := b.lent i c1 h1
    exact ⟨c2, x, q1, by rw [← e1]; exact q2, q3, q4.mono m⟩
  · cases r with
    | val d => exact Rp.mono b.rr m
    | new c => obtain ⟨x, q1, q2, q3⟩ := b.rr; exact ⟨x, q1, q2, q3.mono m⟩
    | var i => exact b.rr
/-- an expression's end, its result dropped -/
theorem After.saft (A : After K T E0 B σ H ρ vs H1 rs ρ1) : SAft K T E0 B σ H ρ σ H1 ρ1 where
  stp := A.stp
  fre := A.fre
  tab := A.tab
  ow := fun x z => .inl (A.le.ow x z)
  er := A.er.mono fun _ z => .inl z
  lent := fun i b h => ⟨A.le.back i b h, rfl⟩
  lent' := fun i b h => A.le.lent i b h

/-! ### blocks -/
def wNext : WS := fun ρ P => P.nx ρ
def wSeq (a b : WS) : WS := fun ρ P => a ρ { P with nx := fun ρ1 => b ρ1 P }
theorem ss_nil : PSs X [] (tS X.K T wNext) := pss_nil.imp fun D σ H h => by
  obtain ⟨E0, B, ρ, P, er, tb, hw, k, _⟩ := h
  exact k σ H ρ hw (.refl er tb)
theorem ss_cons {a b : WS} (h1 : PS X st (tS X.K T a)) (h2 : PSs X sts (tS X.K T b)) : PSs X (st :: sts) (tS X.K T (wSeq a b)) := (pss_cons h1 h2).imp fun D σ H h => by
  obtain ⟨E0, B, ρ, P, er, tb, hw, k, kr, kb, kc⟩ := h
  refine ⟨E0, B, ρ, { P with nx := fun ρ1 => b ρ1 P }, er, tb, hw, fun σ1 H1 ρ1 q A => ?_, kr, kb, kc⟩
  exact ⟨E0, B, ρ1, P, A.er, A.tab, q, fun σ2 H2 ρ2 q A2 => k σ2 H2 ρ2 q (A.trans A2), fun v H' r ρ' q A2 => kr v H' r ρ' q (A.ret A2), fun σ2 H2 ρ2 q A2 => kb σ2 H2 ρ2 q (A.trans A2), fun σ2 H2 ρ2 q A2 => kc σ2 H2 ρ2 q (A.trans A2)⟩
theorem ss_one {a : WS} (h1 : PS X st (tS X.K T a)) : PSs X [st] (tS X.K T a) := pss_one h1
def wBrk : WS := fun ρ P => P.bk ρ
def wCont : WS := fun ρ P => P.ct ρ
theorem s_pass : PS X (.Pass pos) (tS X.K T wNext) := ps_pass.imp fun D σ H h => by
  obtain ⟨E0, B, ρ, P, er, tb, hw, k, _⟩ := h
  exact k σ H ρ hw (.refl er tb)
theorem s_break : PS X (.Break pos) (tS X.K T wBrk) := ps_break.imp fun D σ H h => by
  obtain ⟨E0, B, ρ, P, er, tb, hw, k, _, kb, _⟩ := h
  exact kb σ H ρ hw (.refl er tb)
theorem s_continue : PS X (.Continue pos) (tS X.K T wCont) := ps_continue.imp fun D σ H h => by
  obtain ⟨E0, B, ρ, P, er, tb, hw, k, _, _, kc⟩ := h
  exact kc σ H ρ hw (.refl er tb)
def wNever : WS := fun _ _ => False
theorem s_never : PS X st (tS X.K T wNever) := ps_never.imp fun D σ H h => by
  obtain ⟨E0, B, ρ, P, er, tb, hw, _⟩ := h
  exact hw
theorem ss_never : PSs X sts (tS X.K T wNever) := pss_never.imp fun D σ H h => by
  obtain ⟨E0, B, ρ, P, er, tb, hw, _⟩ := h
  exact hw
def wDrop (wa : WE) : WS := fun ρ P => wa ρ fun _ ρ1 => P.nx ρ1
theorem s_expr {wa : WE} (he : PE X e (tE X.K T wa)) (hs : swapsWith e none pos.line X.env = pure false := by rfl) : PS X (.Expr e pos) (tS X.K T (wDrop wa)) := (ps_expr he hs).imp fun D σ H h => by
  obtain ⟨E0, B, ρ, P, er, tb, hw, k, _⟩ := h
  exact ⟨E0, B, ρ, _, er, tb, hw, fun v H1 r ρ1 q A => k σ H1 ρ1 q A.saft⟩
def wIf (c : WT) (a b : WS) : WS := fun ρ P => c ρ fun x ρ1 => match x with
  | true => a ρ1 P
  | false => b ρ1 P
theorem s_if {c : Expr} {a b : List Stmt} {wc : WT} {wa wb : WS} (hc : PT X c (tT X.K T wc)) (ha : PSs X a (tS X.K T wa)) (hb : PSs X b (tS X.K T wb)) : PS X (.If c a b pos) (tS X.K T (wIf wc wa wb)) := (ps_if hc ha hb).imp fun D σ H h => by
  obtain ⟨E0, B, ρ, P, er, tb, hw, k, kr, kb, kc⟩ := h
  refine ⟨E0, B, ρ, _, er, tb, hw, fun x H1 ρ1 q A0 => ?_⟩
  have A := A0.saft
  have go : ∀ {w : WS}, w ρ1 P → tS X.K T w D σ H1 := fun q => ⟨E0, B, ρ1, P, A.er, A.tab, q, fun σ2 H2 ρ2 q A2 => k σ2 H2 ρ2 q (A.trans A2), fun v H' r ρ' q A2 => kr v H' r ρ' q (A.ret A2), fun σ2 H2 ρ2 q A2 => kb σ2 H2 ρ2 q (A.trans A2), fun σ2 H2 ρ2 q A2 => kc σ2 H2 ρ2 q (A.trans A2)⟩
  cases x with
  | true => exact L2.iteT (go q)
  | false => exact L2.iteF (go q)

/-! ### names stored -/
/-- slot i gets r: its own thing, data -/
def putR (ρ : DEnv) (i : Nat) (r : RV) (k : DEnv → Prop) : Prop := match r with
  | .new b => k (ρ.set i (.own b))
  | .val d => k (ρ.set i (.sh d))
  | .var j => fzK ρ (.var j) fun d ρ1 => k (ρ1.set i (.sh d))
def putK (ρ : DEnv) (i : Nat) (r : RV) (k : DEnv → Prop) : Prop := match ρ[i]? with
  | some (.lent _) => False
  | none => False
  | _ => putR ρ i r k
theorem isBx_put {i j : Nat} {s : Sl} {b : Box} (h : IsBx (ρ.set i s) j b) : (j = i ∧ IsBx [s] 0 b) ∨ (j ≠ i ∧ IsBx ρ j b) := by
  by_cases e : i = j
  · subst e
    have hl : i < ρ.length := by
      rcases h with h | h <;> (have := (List.getElem?_eq_some_iff.mp h).1; simpa using this)
    refine .inl ⟨rfl, ?_⟩
    unfold IsBx at h ⊢
    rw [List.getElem?_set_self hl] at h
    exact h
  · refine .inr ⟨fun z => e z.symm, ?_⟩
    unfold IsBx at h ⊢
    rw [List.getElem?_set_ne e] at h
    exact h
/-- data at slot i -/
theorem ER.put_sh {i : Nat} (er : ER K E0 B σ H ρ) (hl : ∀ b, ρ[i]? ≠ some (.lent b)) (h : Rp K (B.or (Ow σ ρ)) H v d) (hi : i < ρ.length) : ER K E0 B (σ.set i (some v)) H (ρ.set i (.sh d)) ∧ (∀ a, Ow (σ.set i (some v)) (ρ.set i (.sh d)) a → Ow σ ρ a) := by
  have il : i < σ.length := by rw [← er.len]; exact hi
  have ow : ∀ a, Ow (σ.set i (some v)) (ρ.set i (.sh d)) a → Ow σ ρ a := fun a ⟨j, b, hb, hj⟩ => by
    obtain ⟨n, q⟩ := isBx_set sl_sh hb
    rw [List.getElem?_set_ne (Ne.symm n)] at hj
    exact ⟨j, b, q, hj⟩
  have m : ∀ a, (B.or (Ow (σ.set i (some v)) (ρ.set i (.sh d)))) a → (B.or (Ow σ ρ)) a := As.or_mono (fun _ z => z) ow
  refine ⟨{ len := by rw [List.length_set, List.length_set]; exact er.len, sh := fun j x hx => ?_, bx := fun j b hb => ?_, inj := fun j l b c a h1 h2 h3 h4 => ?_, bo := er.bo, e0 := er.e0, new := fun j b a h1 h2 => ?_ }, ow⟩
  · by_cases e : i = j
    · subst e
      rw [List.getElem?_set_self hi] at hx; cases hx
      exact ⟨v, by rw [List.getElem?_set_self il], h.mono m⟩
    · rw [List.getElem?_set_ne e] at hx
      obtain ⟨u, q1, q2⟩ := er.sh j x hx
      exact ⟨u, by rw [List.getElem?_set_ne e]; exact q1, q2.mono m⟩
  · obtain ⟨n, q⟩ := isBx_set sl_sh hb
    obtain ⟨a, q1, q2, q3⟩ := er.bx j b q
    exact ⟨a, by rw [List.getElem?_set_ne (Ne.symm n)]; exact q1, q2, q3.mono m⟩
  · obtain ⟨n1, q1⟩ := isBx_set sl_sh h1
    obtain ⟨n2, q2⟩ := isBx_set sl_sh h2
    rw [List.getElem?_set_ne (Ne.symm n1)] at h3
    rw [List.getElem?_set_ne (Ne.symm n2)] at h4
    exact er.inj j l b c a q1 q2 h3 h4
  · obtain ⟨n, q⟩ := isBx_set sl_sh (.inl h1)
    rw [List.getElem?_set_ne (Ne.symm n)] at h1
    rw [List.getElem?_set_ne (Ne.symm n)] at h2
    exact er.new j b a h1 h2
/-- a new thing of one's own at slot i; it was to be left alone (N) until now -/
theorem ER.put_own {i : Nat} {a : Addr} {b : Box} (er : ER K E0 (B.or N) σ H ρ) (hl : ∀ b, ρ[i]? ≠ some (.lent b)) (h : BxR K ((B.or N).or (Ow σ ρ)) H a b) (hN : N a) (nB : ¬ B a) (nE : ¬ E0 a) (hi : i < ρ.length) :
    ER K E0 B (σ.set i (some (.ref a))) H (ρ.set i (.own b)) ∧ (∀ x, Ow (σ.set i (some (.ref a))) (ρ.set i (.own b)) x → Ow σ ρ x ∨ x = a) := by
  have il : i < σ.length := by rw [← er.len]; exact hi
  have ow : ∀ x, Ow (σ.set i (some (.ref a))) (ρ.set i (.own b)) x → Ow σ ρ x ∨ x = a := fun x ⟨j, c, hb, hj⟩ => by
    rcases isBx_put hb with ⟨e, q⟩ | ⟨n, q⟩
    · subst e
      rw [List.getElem?_set_self il] at hj
      cases hj; exact .inr rfl
    · rw [List.getElem?_set_ne (Ne.symm n)] at hj
      exact .inl ⟨j, c, q, hj⟩
  have m : ∀ x, (B.or (Ow (σ.set i (some (.ref a))) (ρ.set i (.own b)))) x → ((B.or N).or (Ow σ ρ)) x := fun x z => by
    rcases z with z | z
    · exact .inl (.inl z)
    · rcases ow x z with z | z
      · exact .inr z
      · subst z; exact .inl (.inr hN)
  have nOw : ∀ j c, IsBx ρ j c → σ[j]? ≠ some (some (.ref a)) := fun j c hc e => by
    obtain ⟨x, q1, q2, _⟩ := er.bx j c hc
    rw [e] at q1; cases q1
    exact q2 (.inr hN)
  refine ⟨{ len := by rw [List.length_set, List.length_set]; exact er.len, sh := fun j x hx => ?_, bx := fun j c hb => ?_, inj := fun j l c c' x h1 h2 h3 h4 => ?_, bo := fun x z => er.bo x (.inl z), e0 := er.e0, new := fun j c x h1 h2 => ?_ }, ow⟩
  · by_cases e : i = j
    · subst e
      rw [List.getElem?_set_self hi] at hx; cases hx
    · rw [List.getElem?_set_ne e] at hx
      obtain ⟨u, q1, q2⟩ := er.sh j x hx
      exact ⟨u, by rw [List.getElem?_set_ne e]; exact q1, q2.mono m⟩
  · rcases isBx_put hb with ⟨e, q⟩ | ⟨n, q⟩
    · subst e
      have : c = b := by
        rcases q with q | q
        · simpa using q.symm
        · simp at q
      subst this
      exact ⟨a, by rw [List.getElem?_set_self il], nB, h.mono m⟩
    · obtain ⟨x, q1, q2, q3⟩ := er.bx j c q
      exact ⟨x, by rw [List.getElem?_set_ne (Ne.symm n)]; exact q1, fun z => q2 (.inl z), q3.mono m⟩
  · rcases isBx_put h1 with ⟨e1, q1⟩ | ⟨n1, q1⟩
    · rcases isBx_put h2 with ⟨e2, q2⟩ | ⟨n2, q2⟩
      · rw [e1, e2]
      · subst e1
        rw [List.getElem?_set_self il] at h3; cases h3
        rw [List.getElem?_set_ne (Ne.symm n2)] at h4
        exact (nOw l c' q2 h4).elim
    · rcases isBx_put h2 with ⟨e2, q2⟩ | ⟨n2, q2⟩
      · subst e2
        rw [List.getElem?_set_self il] at h4; cases h4
        rw [List.getElem?_set_ne (Ne.symm n1)] at h3
        exact (nOw j c q1 h3).elim
      · rw [List.getElem?_set_ne (Ne.symm n1)] at h3
        rw [List.getElem?_set_ne (Ne.symm n2)] at h4
        exact er.inj j l c c' x q1 q2 h3 h4
  · by_cases e : i = j
    · subst e
      rw [List.getElem?_set_self il] at h2; cases h2
      exact nE
    · rw [List.getElem?_set_ne e] at h1
      rw [List.getElem?_set_ne e] at h2
      exact er.new j c x h1 h2

/-- one result stored at slot i -/
theorem After.put {i : Nat} {k : DEnv → Prop} (er0 : ER K E0 B σ H ρ) (A : After K T E0 B σ H ρ [v] H1 [r] ρ1) (h : putK ρ1 i r k) : ∃ ρ2, k ρ2 ∧ SAft K T E0 B σ H ρ (σ.set i (some v)) H1 ρ2 := by
  have hl : ∀ b, ρ1[i]? ≠ some (.lent b) := fun b e => by unfold putK at h; rw [e] at h; exact h
  have hi : i < ρ1.length := by
    cases e : ρ1[i]? with
    | none => unfold putK at h; rw [e] at h; exact h.elim
    | some s => exact (List.getElem?_eq_some_iff.mp e).1
  have h' : putR ρ1 i r k := by
    unfold putK at h
    cases e : ρ1[i]? with
    | none => rw [e] at h; exact h.elim
    | some s =>
      rw [e] at h
      cases s with
      | lent b => exact h.elim
      | _ => exact h
  have lentK : ∀ {ρ' : DEnv} {s : Sl}, (∀ b, s ≠ .lent b) → (∀ b, ρ'[i]? ≠ some (.lent b)) → Le ρ ρ' → i < ρ'.length →
      (∀ (j : Nat) (b : Box), ρ[j]? = some (.lent b) → (∃ b' : Box, (ρ'.set i s)[j]? = some (.lent b')) ∧ (σ.set i (some v))[j]? = σ[j]?) ∧ (∀ (j : Nat) (b : Box), (ρ'.set i s)[j]? = some (.lent b) → ∃ b' : Box, ρ[j]? = some (.lent b')) := fun {ρ' s} hs hn le hi' => by
    refine ⟨fun j b hb => ?_, fun j b hb => ?_⟩
    · obtain ⟨b', q⟩ := le.back j b hb
      have n : i ≠ j := fun z => by subst z; exact hn b' q
      exact ⟨⟨b', by rw [List.getElem?_set_ne n]; exact q⟩, by rw [List.getElem?_set_ne n]⟩
    · by_cases e : i = j
      · subst e
        rw [List.getElem?_set_self hi'] at hb
        exact (hs b (Option.some.inj hb)).elim
      · rw [List.getElem?_set_ne e] at hb
        exact le.lent j b hb
  cases r with
  | val d =>
    have q := A.rr.at_ 0 v _ rfl rfl
    have eB : ER K E0 B σ H1 ρ1 := A.er.mono fun _ z => .inl z
    obtain ⟨e1, o1⟩ := eB.put_sh hl (Rp.mono q (As.or_mono (fun _ z => .inl z) fun _ z => z)) hi
    obtain ⟨l1, l2⟩ := lentK (s := .sh d) (fun b z => (nomatch z)) hl A.le hi
    exact ⟨_, h', { stp := A.stp, fre := A.fre, tab := A.tab, ow := fun x z => .inl (A.le.ow x (o1 x z)), er := e1, lent := l1, lent' := l2 }⟩
  | new b =>
    obtain ⟨a, ev, na, q⟩ := A.rr.at_ 0 v _ rfl rfl
    subst ev
    have nB : ¬ B a := Nw.notB er0 A a nw_at
    have nE : ¬ E0 a := fun z => by
      obtain ⟨o, h1⟩ := er0.e0 a z
      rw [na] at h1; cases h1
    obtain ⟨e1, o1⟩ := A.er.put_own hl q nw_at nB nE hi
    obtain ⟨l1, l2⟩ := lentK (s := .own b) (fun b z => (nomatch z)) hl A.le hi
    refine ⟨_, h', { stp := A.stp, fre := A.fre, tab := A.tab, ow := fun x z => ?_, er := e1, lent := l1, lent' := l2 }⟩
    rcases o1 x z with z | z
    · exact .inl (A.le.ow x z)
    · subst z; exact .inr na
  | var j =>
    obtain ⟨d, ρ2, f, hk⟩ := fzK_some (show fzK ρ1 (.var j) fun d ρ2 => k (ρ2.set i (.sh d)) from h')
    have eB : ER K E0 B σ H1 ρ1 := A.er.mono fun _ z => .inl z
    obtain ⟨e2, l2, q2⟩ := fz_ok (BL := B) (r := .var j) (H := H) (v := v) eB (fun _ z => z) (A.rr.at_ 0 v _ rfl rfl) (fun b a z => (nomatch z)) f
    have hl2 : ∀ b, ρ2[i]? ≠ some (.lent b) := fun b z => by
      obtain ⟨c, hc⟩ := l2.lent i b z
      exact hl c hc
    have hi2 : i < ρ2.length := by rw [l2.len]; exact hi
    obtain ⟨e1, o1⟩ := e2.put_sh hl2 q2 hi2
    obtain ⟨m1, m2⟩ := lentK (s := .sh d) (fun b z => (nomatch z)) hl2 (A.le.trans l2) hi2
    exact ⟨_, hk, { stp := A.stp, fre := A.fre, tab := A.tab, ow := fun x z => .inl ((A.le.trans l2).ow x (o1 x z)), er := e1, lent := m1, lent' := m2 }⟩

def wSet (i : Nat) (wa : WE) : WS := fun ρ P => wa ρ fun r ρ1 => putK ρ1 i r P.nx
theorem s_set {i : Nat} {x : Str} {wa : WE} {pos' : Pos} (hN : X.N.Nodup) (he : PE X e (tE X.K T wa)) (hi : X.N[i]? = some x := by rfl) (hx : Loc X.env.scope x := by first | exact .inl rfl | exact .inr rfl)
    (hs : swapsWith e (some (.Name x pos')) pos.line X.env = pure false := by rfl) (hf : X.fn x = true ∨ X.env.scope.names.lookup x = some .local := by first | exact .inl rfl | exact .inr rfl | assumption) :
    PS X (.Assign [.Name x pos'] e pos) (tS X.K T (wSet i wa)) := (ps_set hN hi hx he hs hf).imp fun D σ H h => by
  obtain ⟨E0, B, ρ, P, er, tb, hw, k, _⟩ := h
  refine ⟨E0, B, ρ, _, er, tb, hw, fun v H1 r ρ1 q A => ?_⟩
  obtain ⟨ρ2, hk, S⟩ := A.put er q
  exact k _ _ _ hk S

/-! ### return -/
def retK (ρ : DEnv) (r : RV) (k : RV → DEnv → Prop) : Prop := match r with
  | .val d => k (.val d) ρ
  | .new b => k (.new b) ρ
  | .var i => match ρ[i]? with
    | some (.sh d) => k (.val d) ρ
    | some (.own b) => k (.new b) (ρ.set i .emp)
    | _ => False
theorem RetA.of (er0 : ER K E0 B σ H ρ) (A : After K T E0 B σ H ρ [v] H1 [r] ρ1) {k : RV → DEnv → Prop} (h : retK ρ1 r k) : ∃ r' ρ2, k r' ρ2 ∧ RetA K T E0 B σ H ρ v H1 r' ρ2 := by
  have lt : ∀ {x}, Lt σ ρ x → Ow σ ρ1 x := fun {x} ⟨i, b, h1, h2⟩ => by
    obtain ⟨b', q⟩ := A.le.back i b h1
    exact ⟨i, b', .inr q, h2⟩
  -- data
  have data : ∀ {d : D}, Rp K (B.or (Ow σ ρ1)) H1 v d → RetA K T E0 B σ H ρ v H1 (.val d) ρ1 := fun {d} q => by
    have eB : ER K E0 B σ H1 ρ1 := A.er.mono fun _ z => .inl z
    have m : ∀ x, ((B.or (Nw [v] [.val d])).or (Lt σ ρ)) x → (B.or (Ow σ ρ1)) x := fun x z => by
      rcases z with (z | z) | z
      · exact .inl z
      · exact (nw_val x z).elim
      · exact .inr (lt z)
    refine { stp := A.stp, fre := A.fre, tab := A.tab, bo := fun x z => eB.bo x (z.elim id fun z => (nw_val x z).elim), lent := fun i b hb => ?_, rr := Rp.mono q m }
    obtain ⟨b', q'⟩ := A.le.back i b hb
    obtain ⟨a, h1, h2, h3⟩ := eB.bx i b' (.inr q')
    exact ⟨b', a, q', h1, fun z => z.elim h2 fun z => nw_val a z, h3.mono m⟩
  cases r with
  | val d => exact ⟨.val d, ρ1, h, data (Rp.mono (A.rr.at_ 0 v _ rfl rfl) (As.or_mono (fun _ z => .inl z) fun _ z => z))⟩
  | new b =>
    obtain ⟨a, ev, na, q⟩ := A.rr.at_ 0 v _ rfl rfl
    have nE : ¬ E0 a := fun z => by
      obtain ⟨o, h1⟩ := er0.e0 a z
      rw [na] at h1; cases h1
    have m : ∀ x, ((B.or (Nw [v] [.new b])).or (Lt σ ρ)) x → ((B.or (Nw [v] [.new b])).or (Ow σ ρ1)) x := As.or_mono (fun _ z => z) fun x z => lt z
    refine ⟨.new b, ρ1, h, { stp := A.stp, fre := A.fre, tab := A.tab, bo := A.er.bo, lent := fun i c hc => ?_, rr := ⟨a, ev, nE, q.mono m⟩ }⟩
    obtain ⟨b', q'⟩ := A.le.back i c hc
    obtain ⟨x, h1, h2, h3⟩ := A.er.bx i b' (.inr q')
    exact ⟨b', x, q', h1, h2, h3.mono m⟩
  | var i =>
    have hv : σ[i]? = some (some v) := A.rr.at_ 0 v _ rfl rfl
    have eB : ER K E0 B σ H1 ρ1 := A.er.mono fun _ z => .inl z
    cases e : ρ1[i]? with
    | none => unfold retK at h; simp only [e] at h
    | some sl =>
      unfold retK at h
      simp only [e] at h
      cases sl with
      | emp => exact h.elim
      | lent b => exact h.elim
      | sh d =>
        obtain ⟨v', q1, q2⟩ := eB.sh i d e
        rw [hv] at q1; cases q1
        exact ⟨.val d, ρ1, h, data q2⟩
      | own b =>
        obtain ⟨a, h1, h2, h3⟩ := eB.bx i b (.inl e)
        rw [hv] at h1; cases h1
        have il : i < ρ1.length := (List.getElem?_eq_some_iff.mp e).1
        have m : ∀ x, ((B.or (Nw [V.ref a] [.new b])).or (Lt σ ρ)) x → (B.or (Ow σ ρ1)) x := fun x z => by
          rcases z with (z | z) | z
          · exact .inl z
          · have := nw_one x z
            cases this
            exact .inr ⟨i, b, .inl e, hv⟩
          · exact .inr (lt z)
        refine ⟨.new b, ρ1.set i .emp, h, { stp := A.stp, fre := A.fre, tab := A.tab, bo := fun x z => z.elim (eB.bo x) fun z => ?_, lent := fun j c hc => ?_, rr := ⟨a, rfl, eB.new i b a e hv, h3.mono m⟩ }⟩
        · have := nw_one x z
          cases this
          exact h3.boxish
        · obtain ⟨b', q'⟩ := A.le.back j c hc
          obtain ⟨x, g1, g2, g3⟩ := eB.bx j b' (.inr q')
          have nij : i ≠ j := fun z => by subst z; rw [e] at q'; cases q'
          refine ⟨b', x, by rw [List.getElem?_set_ne nij]; exact q', g1, fun z => z.elim g2 fun z => ?_, g3.mono m⟩
          have := nw_one x z
          cases this
          exact nij (eB.inj i j b b' a (.inl e) (.inr q') hv g1)
def wRet (wa : WE) : WS := fun ρ P => wa ρ fun r ρ1 => retK ρ1 r P.rt
theorem s_ret {wa : WE} (he : PE X e (tE X.K T wa)) : PS X (.Return (some e) pos) (tS X.K T (wRet wa)) := (ps_ret he).imp fun D σ H h => by
  obtain ⟨E0, B, ρ, P, er, tb, hw, _, k, _⟩ := h
  refine ⟨E0, B, ρ, _, er, tb, hw, fun v H1 r ρ1 q A => ?_⟩
  obtain ⟨r', ρ2, hk, R⟩ := RetA.of er A q
  exact k _ _ _ _ hk R
theorem s_retN : PS X (.Return none pos) (tS X.K T (wRet (wC .none))) := ps_retN.imp fun D σ H h => by
  obtain ⟨E0, B, ρ, P, er, tb, hw, _, k, _⟩ := h
  obtain ⟨r', ρ2, hk, R⟩ := RetA.of er (After.ofVal (v := .non) (d := .none) er tb (Same.refl H) (Fre.refl H) .non) (show retK ρ (.val .none) P.rt from hw)
  exact k _ _ _ _ hk R
end
end DL
set_option maxRecDepth 100000
set_option maxHeartbeats 1000000
namespace DL
open PySem PySem.Spec L2 LamX

abbrev DSp := List Arg → (DV → List Arg → Prop) → Prop
/-- the lent things among arguments -/
def La (vs : List V) (as : List Arg) : As := fun a => ∃ (j : Nat) (b : Box), as[j]? = some (Arg.ln b) ∧ vs[j]? = some (V.ref a)
def A1 (K : PySem.W.Frag) (B O : As) (H : Hp) (v : V) : Arg → Prop
  | .sh d => Rp K O H v d
  | .ln b => ∃ x, v = .ref x ∧ ¬ B x ∧ BxR K O H x b
structure ArgsR (K : PySem.W.Frag) (B : As) (H : Hp) (vs : List V) (as : List Arg) : Prop where
  len : as.length = vs.length
  at_ : ∀ (j : Nat) (v : V) (a : Arg), vs[j]? = some v → as[j]? = some a → A1 K B (B.or (La vs as)) H v a
  inj : ∀ (i j : Nat) (b c : Box) (a : Addr), as[i]? = some (Arg.ln b) → as[j]? = some (Arg.ln c) → vs[i]? = some (V.ref a) → vs[j]? = some (V.ref a) → i = j
  bo : OB B H
structure Shp (as as' : List Arg) : Prop where
  len : as'.length = as.length
  sh : ∀ (j : Nat) (d : D), as'[j]? = some (Arg.sh d) → as[j]? = some (Arg.sh d)
  ln : ∀ (j : Nat) (b : Box), as'[j]? = some (Arg.ln b) → ∃ c : Box, as[j]? = some (Arg.ln c)
  ln' : ∀ (j : Nat) (b : Box), as[j]? = some (Arg.ln b) → ∃ c : Box, as'[j]? = some (Arg.ln c)
structure AftF (K : PySem.W.Frag) (T : Tb) (B : As) (vs : List V) (as : List Arg) (H : Hp) (v : V) (H' : Hp) (dv : DV) (as' : List Arg) : Prop where
  stp : Stp (La vs as) H H'
  fre : Fre H H'
  tab : Tabs T H'
  shp : Shp as as'
  args : ArgsR K (B.or (Nw [v] [dv.rv])) H' vs as'
  rr : R1 K ((B.or (Nw [v] [dv.rv])).or (La vs as)) [] H H' v dv.rv
/-- a promise over data -/
def spOf (K : PySem.W.Frag) (T : Tb) (g : DSp) : Sp := fun vs H Q _ => ∃ B as Qd, ArgsR K B H vs as ∧ Tabs T H ∧ g as Qd ∧ ∀ v H' dv as', Qd dv as' → AftF K T B vs as H v H' dv as' → Q v H'

def slA : Arg → Sl
  | .sh d => .sh d
  | .ln b => .lent b
def startD (n : Nat) (as : List Arg) : DEnv := as.map slA ++ List.replicate (n - as.length) .emp
def outs : List Arg → DEnv → List Arg
  | .sh d :: as, _ :: ρ => .sh d :: outs as ρ
  | .ln _ :: as, .lent b :: ρ => .ln b :: outs as ρ
  | .ln b :: as, _ :: ρ => .ln b :: outs as ρ
  | as, _ => as
abbrev E0' : XK := fun _ _ _ => False
def rvK (r : RV) (k : DV → Prop) : Prop := match r with
  | .val d => k (.val d)
  | .new b => k (.new b)
  | .var _ => False

section
variable {K : PySem.W.Frag} {T : Tb} {E0 B B' O O' N : As} {σ σ1 σ2 : L2.St} {ρ ρ1 ρ2 ρ3 : DEnv} {H H1 H2 H3 : Hp} {vs us : List V} {rs qs : List RV} {as as' : List Arg} {v : V} {r : RV} {d : D} {ds : List D} {X : Cx} {e e1 e2 : Expr} {es : List Expr} {st : Stmt} {sts : List Stmt} {pos : Pos}

theorem startD_get {n i : Nat} : (startD n as)[i]? = (match as[i]? with | some a => some (slA a) | none => if i < as.length + (n - as.length) then some .emp else none) := by
  unfold startD
  by_cases h : i < as.length
  · rw [List.getElem?_append_left (by simpa using h), List.getElem?_map]
    rw [List.getElem?_eq_getElem h]; rfl
  · rw [List.getElem?_append_right (by simpa using h), List.getElem?_replicate, List.getElem?_eq_none (by omega : as.length ≤ i)]
    simp only [List.length_map]
    by_cases h2 : i - as.length < n - as.length
    · rw [if_pos h2, if_pos (by omega)]
    · rw [if_neg h2, if_neg (by omega)]
theorem startD_bx {n i : Nat} {b : Box} (h : IsBx (startD n as) i b) : (startD n as)[i]? = some (.lent b) ∧ as[i]? = some (.ln b) := by
  unfold IsBx at h
  rw [startD_get] at h ⊢
  cases e : as[i]? with
  | none => rw [e] at h; simp only at h; rcases h with h | h <;> (split at h <;> cases h)
  | some a =>
    rw [e] at h
    cases a with
    | sh d => rcases h with h | h <;> cases h
    | ln c =>
      rcases h with h | h
      · cases h
      · cases h; exact ⟨rfl, rfl⟩
theorem start_get {Nn : List Str} {i : Nat} {v : V} (h : vs[i]? = some v) : (L2.start Nn vs)[i]? = some (some v) := by
  unfold L2.start
  have hl : i < vs.length := (List.getElem?_eq_some_iff.mp h).1
  rw [List.getElem?_append_left (by simpa using hl), List.getElem?_map, h] <;> rfl
theorem start_get' {Nn : List Str} {i : Nat} {v : V} (h : (L2.start Nn vs)[i]? = some (some v)) : vs[i]? = some v := by
  unfold L2.start at h
  by_cases hl : i < vs.length
  · rw [List.getElem?_append_left (by simpa using hl), List.getElem?_map] at h
    cases e : vs[i]? with
    | none => rw [e] at h; cases h
    | some u => rw [e] at h; cases h; rfl
  · rw [List.getElem?_append_right (by simpa using hl), List.getElem?_replicate] at h
    split at h <;> cases h
theorem outs_len : ∀ {as : List Arg} {ρ : DEnv}, (outs as ρ).length = as.length
  | .sh d :: as, _ :: ρ => by simp only [outs, List.length_cons, outs_len (as := as) (ρ := ρ)]
  | .ln b :: as, s :: ρ => by cases s <;> simp only [outs, List.length_cons, outs_len (as := as) (ρ := ρ)]
  | [], _ => by simp [outs]
  | _ :: _, [] => by simp [outs]
theorem outs_get : ∀ {as : List Arg} {ρ : DEnv} {j : Nat} {a : Arg}, as[j]? = some a → (outs as ρ)[j]? = some (match a with | .sh d => .sh d | .ln b => match ρ[j]? with | some (.lent c) => .ln c | _ => .ln b)
  | a :: as, [], j, x, h => by
    simp only [outs]
    rw [h]
    cases x <;> simp
  | .sh d :: as, s :: ρ, 0, x, h => by cases h; simp [outs]
  | .ln b :: as, s :: ρ, 0, x, h => by cases h; cases s <;> simp [outs]
  | .sh d :: as, s :: ρ, j + 1, x, h => by
    have := outs_get (as := as) (ρ := ρ) (j := j) (a := x) (by simpa using h)
    simpa [outs] using this
  | .ln b :: as, s :: ρ, j + 1, x, h => by
    have := outs_get (as := as) (ρ := ρ) (j := j) (a := x) (by simpa using h)
    cases s <;> simpa [outs] using this
  | [], _, j, x, h => by simp at h
theorem ow_start {n : Nat} {Nn : List Str} : ∀ a, Ow (L2.start Nn vs) (startD n as) a ↔ La vs as a := fun a => by
  constructor
  · rintro ⟨i, b, h1, h2⟩
    exact ⟨i, b, (startD_bx h1).2, start_get' h2⟩
  · rintro ⟨j, b, h1, h2⟩
    exact ⟨j, b, .inr (by rw [startD_get, h1]; rfl), start_get h2⟩
theorem lt_start {n : Nat} {Nn : List Str} : ∀ a, Lt (L2.start Nn vs) (startD n as) a ↔ La vs as a := fun a => by
  constructor
  · rintro ⟨i, b, h1, h2⟩
    exact ⟨i, b, (startD_bx (.inr h1)).2, start_get' h2⟩
  · rintro ⟨j, b, h1, h2⟩
    exact ⟨j, b, (by rw [startD_get, h1]; rfl), start_get h2⟩
theorem er_start {Nn : List Str} (h : ArgsR K B H vs as) (hl : as.length ≤ Nn.length) : ER K (fun a => ∃ o, H a = some o) B (L2.start Nn vs) H (startD Nn.length as) := by
  have m : ∀ a, (B.or (Ow (L2.start Nn vs) (startD Nn.length as))) a → (B.or (La vs as)) a := As.or_mono (fun _ z => z) fun a z => (ow_start a).mp z
  have hlen := h.len
  refine { len := by unfold startD L2.start; simp only [List.length_append, List.length_map, List.length_replicate]; omega, sh := fun i d hd => ?_, bx := fun i b hb => ?_, inj := fun i j b c a h1 h2 h3 h4 => h.inj i j b c a (startD_bx h1).2 (startD_bx h2).2 (start_get' h3) (start_get' h4), bo := h.bo, e0 := fun _ z => z, new := fun i b a h1 _ => ?_ }
  · rw [startD_get] at hd
    cases e : as[i]? with
    | none => rw [e] at hd; simp only at hd; split at hd <;> cases hd
    | some a =>
      rw [e] at hd
      cases a with
      | ln b => cases hd
      | sh d' =>
        cases hd
        have hi : i < vs.length := by rw [← hlen]; exact (List.getElem?_eq_some_iff.mp e).1
        obtain ⟨v, hv⟩ : ∃ v, vs[i]? = some v := ⟨_, List.getElem?_eq_getElem hi⟩
        exact ⟨v, start_get hv, (Rp.mono (h.at_ i v _ hv e) m)⟩
  · have e := (startD_bx hb).2
    have hi : i < vs.length := by rw [← hlen]; exact (List.getElem?_eq_some_iff.mp e).1
    obtain ⟨v, hv⟩ : ∃ v, vs[i]? = some v := ⟨_, List.getElem?_eq_getElem hi⟩
    obtain ⟨x, q1, q2, q3⟩ := h.at_ i v _ hv e
    subst q1
    exact ⟨x, start_get hv, q2, q3.mono m⟩
  · obtain ⟨q, _⟩ := startD_bx (.inl h1)
    rw [h1] at q; cases q
theorem aftF_of {Nn : List Str} {ρ' : DEnv} {dv : DV} (h : ArgsR K B H vs as) (R : RetA K T (fun a => ∃ o, H a = some o) B (L2.start Nn vs) H (startD Nn.length as) v H1 dv.rv ρ') : AftF K T B vs as H v H1 dv (outs as ρ') := by
  have m : ∀ a, ((B.or (Nw [v] [dv.rv])).or (La vs as)) a → ((B.or (Nw [v] [dv.rv])).or (Lt (L2.start Nn vs) (startD Nn.length as))) a := As.or_mono (fun _ z => z) fun a z => (lt_start a).mpr z
  have shp : Shp as (outs as ρ') := by
    have key : ∀ {j : Nat} {x : Arg}, (outs as ρ')[j]? = some x → ∃ y, as[j]? = some y ∧ x = (match y with | .sh d => .sh d | .ln b => match ρ'[j]? with | some (.lent c) => .ln c | _ => .ln b) := fun {j x} hx => by
      have hj : j < as.length := by rw [← outs_len (as := as) (ρ := ρ')]; exact (List.getElem?_eq_some_iff.mp hx).1
      obtain ⟨y, hy⟩ : ∃ y, as[j]? = some y := ⟨_, List.getElem?_eq_getElem hj⟩
      rw [outs_get hy] at hx
      exact ⟨y, hy, (Option.some.inj hx).symm⟩
    refine ⟨outs_len, fun j d hd => ?_, fun j b hb => ?_, fun j b hb => ?_⟩
    · obtain ⟨y, h1, h2⟩ := key hd
      cases y with
      | sh d' => cases h2; exact h1
      | ln b => simp only at h2; split at h2 <;> cases h2
    · obtain ⟨y, h1, h2⟩ := key hb
      cases y with
      | sh d' => cases h2
      | ln c => exact ⟨c, h1⟩
    · rw [outs_get hb]
      simp only
      split
      · exact ⟨_, rfl⟩
      · exact ⟨_, rfl⟩
  have la : ∀ a, La vs (outs as ρ') a ↔ La vs as a := fun a => by
    constructor
    · rintro ⟨j, b, h1, h2⟩; obtain ⟨c, hc⟩ := shp.ln j b h1; exact ⟨j, c, hc, h2⟩
    · rintro ⟨j, b, h1, h2⟩; obtain ⟨c, hc⟩ := shp.ln' j b h1; exact ⟨j, c, hc, h2⟩
  refine { stp := R.stp.mono fun a z => (ow_start a).mp z, fre := R.fre, tab := R.tab, shp := shp, args := ⟨by rw [outs_len]; exact h.len, fun j u x h1 h2 => ?_, fun i j b c a h1 h2 h3 h4 => ?_, R.bo⟩, rr := ?_ }
  · have m2 : ∀ a, ((B.or (Nw [v] [dv.rv])).or (La vs (outs as ρ'))) a → ((B.or (Nw [v] [dv.rv])).or (Lt (L2.start Nn vs) (startD Nn.length as))) a := fun a z => m a (As.or_mono (fun _ z => z) (fun a z => (la a).mp z) a z)
    cases x with
    | sh d =>
      have e := shp.sh j d h2
      have q : Rp K (B.or (La vs as)) H u d := h.at_ j u _ h1 e
      have ob : OB (B.or (La vs as)) H := fun a z => by
        rcases z with z | ⟨i, b, z1, z2⟩
        · exact h.bo a z
        · obtain ⟨y, e1, _, e3⟩ := h.at_ i _ _ z2 z1
          cases e1; exact e3.boxish
      have st : Stp (B.or (La vs as)) H H1 := R.stp.mono fun a z => .inr ((ow_start a).mp z)
      refine q.move st ob fun a z => ?_
      rcases z with (z | z) | z
      · exact .inl (.inl z)
      · refine .inr ?_
        cases dv with
        | val d => exact (nw_val a z).elim
        | new b =>
          have ev := nw_one a z
          subst ev
          obtain ⟨y, e1, e2, _⟩ := R.rr
          cases e1
          cases q : H a with
          | none => rfl
          | some o => exact (e2 ⟨o, q⟩).elim
      · exact .inl (.inr ((la a).mp z))
    | ln b =>
      obtain ⟨c, hc⟩ := shp.ln j b h2
      obtain ⟨b', a, q1, q2, q3, q4⟩ := R.lent j c (by rw [startD_get, hc]; rfl)
      have e := outs_get (ρ := ρ') hc
      rw [h2, q1] at e
      cases e
      have := start_get' q2
      rw [h1] at this; cases this
      exact ⟨a, rfl, q3, q4.mono m2⟩
  · obtain ⟨b', hb⟩ := shp.ln i b h1
    obtain ⟨c', hc⟩ := shp.ln j c h2
    exact h.inj i j b' c' a hb hc h3 h4
  · cases dv with
    | val d => exact Rp.mono R.rr m
    | new b =>
      obtain ⟨y, e1, e2, e3⟩ := R.rr
      refine ⟨y, e1, ?_, e3.mono m⟩
      cases q : H y with
      | none => rfl
      | some o => exact (e2 ⟨o, q⟩).elim

variable {P : Program} {w : World} {mg : Str → Option Value} {base : Heap}
/-- a def's promise where no repr is under way -/
structure FnG (P : Program) (w : World) (K : PySem.W.Frag) (mg : Str → Option Value) (base : Heap) (k : Nat) (f : Addr) (fd : FuncData) (ps : List Str) (sp : Sp) : Prop where
  len : ∀ us H Q E, sp us H Q E → us.length = ps.length
  run : ∀ (A : Around) (outer : List Env) (s : Shared) (H : Hp) (args : Args) (us : List Value) (xs : List V) (Q : VK) (E : XK), Room k A → A.guards = some [] → Env0 P w K mg base A outer s H → BindsTo s fd args (ps.zip us) → Vals xs us → sp xs H Q E →
    codeAny (model P w) A (.call (.ref f) args) (CR CX0 outer P w H s Q E) s
theorem FnG.mono {j k : Nat} {f : Addr} {fd : FuncData} {ps : List Str} {sp : Sp} (F : FnG P w K mg base j f fd ps sp) (h : j ≤ k) : FnG P w K mg base k f fd ps sp := ⟨F.len, fun A outer s H args us xs Q E hr => F.run A outer s H args us xs Q E (hr.mono h)⟩
/-- THE RULE for a def over data -/
theorem fn_d {x qual : Str} {f : Addr} {fd : FuncData} {Nn ps : List Str} {k : Nat} {g : DSp} {wb : WS} (F : Fun K x qual st f fd) (S : FnScope Nn ps (defScope st)) (hl : ps.length ≤ Nn.length)
    (hb : ∀ (cdv : Value) (A : Around) (outer : List Env) (s : Shared) (H : Hp) (E : XK), Room k (A.deeper (PyProof.Rows.envOfC qual (defScope st) s.heap.objs.size f cdv)) → A.guards = some [] → PSs (cxOf CX0 P w K mg base Nn qual (defScope st) f cdv A outer s H E).nox (defBody st) (tS K T wb))
    (hg : ∀ as Qd, g as Qd → as.length = ps.length ∧ wb (startD Nn.length as) { nx := fun ρ => Qd (.val .none) (outs as ρ), rt := fun r ρ => rvK r fun dv => Qd dv (outs as ρ) }) :
    FnG P w K mg base (k + 1) f fd ps (spOf K T g) := by
  have hlen : ∀ vs H Q E, spOf K T g vs H Q E → vs.length = ps.length := fun vs H Q E h => by
    obtain ⟨B, as, Qd, ar, _, hq, _⟩ := h
    rw [← ar.len]; exact (hg as Qd hq).1
  refine ⟨hlen, fun A outer s H args us vs Q E hr hG e0 hbd rv h => ?_⟩
  obtain ⟨oc, od, kV, doc, pm, an, cdv, ct, osl, rfl, lk, hcd⟩ := F.ex
  refine run_ofS lk hcd S hr e0 hbd rv (hlen _ _ _ _ h) fun hr' => ?_
  obtain ⟨B, as, Qd, ar, tb, hq, kk⟩ := h
  obtain ⟨hn, hw⟩ := hg as Qd hq
  refine ⟨_, (hb cdv A outer s H E hr' hG).nox, ?_⟩
  have er := er_start (Nn := Nn) ar (by rw [hn]; exact hl)
  refine ⟨_, B, _, _, er, tb, hw, fun σ' H' ρ' q Sa => ?_, fun v H' r ρ' q R => ?_, fun _ _ _ q _ => q.elim, fun _ _ _ q _ => q.elim⟩
  · obtain ⟨r', ρ2, hk, R⟩ := RetA.of Sa.er (After.ofVal (v := .non) (d := .none) Sa.er Sa.tab (Same.refl H') (Fre.refl H') .non) (show retK ρ' (.val .none) (fun r ρ => r = .val .none ∧ ρ = ρ') from ⟨rfl, rfl⟩)
    obtain ⟨e1, e2⟩ := hk
    subst e1; subst e2
    exact kk .non H' (.val .none) _ q (aftF_of ar (Sa.ret R))
  · cases r with
    | val d => exact kk v H' (.val d) _ q (aftF_of (dv := .val d) ar R)
    | new b => exact kk v H' (.new b) _ q (aftF_of (dv := .new b) ar R)
    | var i => exact (show False from q).elim
/-- the call, as the machine runs it -/
theorem run_g {X : Cx} {pins : List (Addr × Obj)} {σ : L2.St} {H : Hp} {s : Shared} {Q : VK} {k : Nat} {f : Addr} {fd : FuncData} {ps : List Str} {sp : Sp} {args : Args} {us : List Value} {xs : List V} (F : FnG X.prog X.w X.K X.mg X.base k f fd ps sp) (hr : Room k X.A) (hG : X.A.guards = some []) (I : Inv X pins σ H s)
    (hb : BindsTo s fd args (ps.zip us)) (r : Vals xs us) (h : sp xs H Q E0') : wpAny (model X.prog X.w) X.A (call (.ref f) args.pos args.kw) (EP X pins σ Q) X.xe s := by
  refine wpAny_call (codeAny_mono (F.run X.A X.stack s H args us xs Q E0' hr hG I.env0 hb r h) fun z s2 hq => ?_)
  cases z with
  | error e => exact (show False from hq).elim
  | ok fl =>
    cases fl with
    | ret u => exact I.after hq
    | next => exact (show False from hq).elim
    | brk => exact (show False from hq).elim
    | cont => exact (show False from hq).elim
end
end DL
set_option maxRecDepth 100000
set_option maxHeartbeats 1000000
namespace DL
open PySem PySem.Spec L2 LamX

def setBx (ρ : DEnv) (i : Nat) (b : Box) : DEnv := match ρ[i]? with
  | some (.own _) => ρ.set i (.own b)
  | some (.lent _) => ρ.set i (.lent b)
  | _ => ρ
def backE : List RV → List Arg → DEnv → DEnv
  | .var i :: rs, .ln b :: as, ρ => backE rs as (setBx ρ i b)
  | _ :: rs, _ :: as, ρ => backE rs as ρ
  | _, _, ρ => ρ
def lvars : List RV → List Arg → List Nat
  | .var i :: rs, .ln _ :: as => i :: lvars rs as
  | _ :: rs, _ :: as => lvars rs as
  | _, _ => []
def argsK (g : DSp) (ms : List Bool) (ρ : DEnv) (rs : List RV) (k : RV → DEnv → Prop) : Prop :=
  shK ρ ms rs fun as0 ρ2 => lnK ρ2 rs as0 fun as => (lvars rs as).Nodup ∧ g as fun dv as' => k dv.rv (backE rs as' ρ2)

section
variable {K : PySem.W.Frag} {T : Tb} {E0 B B' BN BL O O' N : As} {σ σ1 σ2 : L2.St} {ρ ρ1 ρ2 ρ3 : DEnv} {H H1 H2 H3 : Hp} {vs us : List V} {rs qs : List RV} {as as' : List Arg} {ms : List Bool} {v : V} {r : RV} {d : D} {ds : List D} {X : Cx} {e e1 e2 : Expr} {es : List Expr} {st : Stmt} {sts : List Stmt} {pos : Pos}

theorem setBx_get {i j : Nat} {b : Box} : (setBx ρ i b)[j]? = if j = i then (match ρ[i]? with | some (.own _) => some (.own b) | some (.lent _) => some (.lent b) | x => x) else ρ[j]? := by
  unfold setBx
  cases e : ρ[i]? with
  | none => by_cases h : j = i
            · subst h; simp [e]
            · simp [h]
  | some s =>
    have il : i < ρ.length := (List.getElem?_eq_some_iff.mp e).1
    cases s <;> by_cases h : j = i
    · subst h; simp [e]
    · simp [h]
    · subst h; simp [e]
    · simp [h]
    · subst h; simp only [if_true]; rw [List.getElem?_set_self il]
    · simp only [if_neg h]; rw [List.getElem?_set_ne (Ne.symm h)]
    · subst h; simp only [if_true]; rw [List.getElem?_set_self il]
    · simp only [if_neg h]; rw [List.getElem?_set_ne (Ne.symm h)]
theorem setBx_len {i : Nat} {b : Box} : (setBx ρ i b).length = ρ.length := by
  unfold setBx
  split <;> simp
/-- the same kind of thing at each slot -/
def Kin (s s' : Option Sl) : Prop := match s, s' with
  | some (.own _), some (.own _) => True
  | some (.lent _), some (.lent _) => True
  | some (.sh d), some (.sh d') => d = d'
  | some .emp, some .emp => True
  | none, none => True
  | _, _ => False
theorem Kin.refl (s : Option Sl) : Kin s s := by
  cases s with
  | none => trivial
  | some s => cases s <;> first | trivial | exact rfl
theorem Kin.trans {a b c : Option Sl} (h : Kin a b) (h' : Kin b c) : Kin a c := by
  cases a with
  | none => cases b with
    | none => exact h'
    | some b => exact h.elim
  | some a => cases b with
    | none => cases a <;> exact h.elim
    | some b => cases c with
      | none => cases b <;> exact h'.elim
      | some c => cases a <;> cases b <;> first | exact h.elim | (cases c <;> first | exact h'.elim | trivial | exact Eq.trans h h')
theorem kin_setBx {i j : Nat} {b : Box} : Kin ρ[j]? (setBx ρ i b)[j]? := by
  rw [setBx_get]
  by_cases h : j = i
  · subst h
    rw [if_pos rfl]
    cases e : ρ[j]? with
    | none => trivial
    | some s => cases s <;> first | trivial | exact rfl
  · rw [if_neg h]; exact .refl _
theorem kin_backE : ∀ {rs : List RV} {as : List Arg} {ρ : DEnv} {j : Nat}, Kin ρ[j]? (backE rs as ρ)[j]?
  | [], as, ρ, j => by unfold backE; exact .refl _
  | r :: rs, [], ρ, j => by cases r <;> (unfold backE; exact .refl _)
  | .var i :: rs, .ln b :: as, ρ, j => by
    show Kin ρ[j]? (backE rs as (setBx ρ i b))[j]?
    exact kin_setBx.trans kin_backE
  | .var i :: rs, .sh d :: as, ρ, j => kin_backE (rs := rs) (as := as)
  | .val d :: rs, a :: as, ρ, j => by cases a <;> exact kin_backE (rs := rs) (as := as)
  | .new d :: rs, a :: as, ρ, j => by cases a <;> exact kin_backE (rs := rs) (as := as)
theorem backE_len : ∀ {rs : List RV} {as : List Arg} {ρ : DEnv}, (backE rs as ρ).length = ρ.length
  | [], as, ρ => by unfold backE; rfl
  | r :: rs, [], ρ => by cases r <;> (unfold backE; rfl)
  | .var i :: rs, .ln b :: as, ρ => by
    show (backE rs as (setBx ρ i b)).length = ρ.length
    rw [backE_len, setBx_len]
  | .var i :: rs, .sh d :: as, ρ => backE_len (rs := rs) (as := as)
  | .val d :: rs, a :: as, ρ => by cases a <;> exact backE_len (rs := rs) (as := as)
  | .new d :: rs, a :: as, ρ => by cases a <;> exact backE_len (rs := rs) (as := as)
theorem backE_not : ∀ {rs : List RV} {as : List Arg} {ρ : DEnv} {i : Nat}, i ∉ lvars rs as → (backE rs as ρ)[i]? = ρ[i]?
  | [], as, ρ, j, _ => by unfold backE; rfl
  | r :: rs, [], ρ, j, _ => by cases r <;> (unfold backE; rfl)
  | .var i :: rs, .ln b :: as, ρ, j, h => by
    have h : j ∉ i :: lvars rs as := h
    rw [List.mem_cons, not_or] at h
    show (backE rs as (setBx ρ i b))[j]? = ρ[j]?
    rw [backE_not h.2, setBx_get, if_neg h.1]
  | .var i :: rs, .sh d :: as, ρ, j, h => backE_not (rs := rs) (as := as) h
  | .val d :: rs, a :: as, ρ, j, h => by cases a <;> exact backE_not (rs := rs) (as := as) h
  | .new d :: rs, a :: as, ρ, j, h => by cases a <;> exact backE_not (rs := rs) (as := as) h
theorem mem_lvars : ∀ {rs : List RV} {as : List Arg} {i : Nat}, i ∈ lvars rs as ↔ ∃ (j : Nat) (b : Box), rs[j]? = some (.var i) ∧ as[j]? = some (.ln b)
  | [], as, i => by simp [lvars]
  | r :: rs, [], i => by cases r <;> simp [lvars]
  | .var k :: rs, .ln b :: as, i => by
    show i ∈ k :: lvars rs as ↔ _
    rw [List.mem_cons, mem_lvars]
    constructor
    · rintro (h | ⟨j, c, h1, h2⟩)
      · subst h; exact ⟨0, b, rfl, rfl⟩
      · exact ⟨j + 1, c, by simpa using h1, by simpa using h2⟩
    · rintro ⟨j, c, h1, h2⟩
      cases j with
      | zero => exact .inl (by simpa using h1.symm)
      | succ j => exact .inr ⟨j, c, by simpa using h1, by simpa using h2⟩
  | .var k :: rs, .sh d :: as, i => by
    show i ∈ lvars rs as ↔ _
    rw [mem_lvars]
    constructor
    · rintro ⟨j, c, h1, h2⟩; exact ⟨j + 1, c, by simpa using h1, by simpa using h2⟩
    · rintro ⟨j, c, h1, h2⟩
      cases j with
      | zero => simp at h2
      | succ j => exact ⟨j, c, by simpa using h1, by simpa using h2⟩
  | .val d :: rs, a :: as, i => by
    have e : lvars (.val d :: rs) (a :: as) = lvars rs as := by cases a <;> rfl
    rw [e, mem_lvars]
    constructor
    · rintro ⟨j, c, h1, h2⟩; exact ⟨j + 1, c, by simpa using h1, by simpa using h2⟩
    · rintro ⟨j, c, h1, h2⟩
      cases j with
      | zero => simp at h1
      | succ j => exact ⟨j, c, by simpa using h1, by simpa using h2⟩
  | .new d :: rs, a :: as, i => by
    have e : lvars (.new d :: rs) (a :: as) = lvars rs as := by cases a <;> rfl
    rw [e, mem_lvars]
    constructor
    · rintro ⟨j, c, h1, h2⟩; exact ⟨j + 1, c, by simpa using h1, by simpa using h2⟩
    · rintro ⟨j, c, h1, h2⟩
      cases j with
      | zero => simp at h1
      | succ j => exact ⟨j, c, by simpa using h1, by simpa using h2⟩
theorem backE_in : ∀ {rs : List RV} {as : List Arg} {ρ : DEnv} {i j : Nat} {b c : Box}, (lvars rs as).Nodup → rs[j]? = some (.var i) → as[j]? = some (.ln b) → IsBx (backE rs as ρ) i c → c = b
  | [], as, ρ, i, j, b, c, _, h, _, _ => by simp at h
  | r :: rs, [], ρ, i, j, b, c, _, _, h, _ => by simp at h
  | .var k :: rs, .ln b' :: as, ρ, i, j, b, c, nd, h1, h2, h3 => by
    have nd : (k :: lvars rs as).Nodup := nd
    rw [List.nodup_cons] at nd
    have h3 : IsBx (backE rs as (setBx ρ k b')) i c := h3
    cases j with
    | zero =>
      have e1 : k = i := by simpa using h1
      have e2 : b' = b := by simpa using h2
      subst e1; subst e2
      unfold IsBx at h3
      rw [backE_not nd.1, setBx_get, if_pos rfl] at h3
      cases e : ρ[k]? with
      | none => rw [e] at h3; rcases h3 with h | h <;> cases h
      | some s => rw [e] at h3; cases s <;> rcases h3 with h | h <;> (cases h; try rfl)
    | succ j => exact backE_in nd.2 (by simpa using h1) (by simpa using h2) h3
  | .var k :: rs, .sh d :: as, ρ, i, j, b, c, nd, h1, h2, h3 => by
    cases j with
    | zero => simp at h2
    | succ j => exact backE_in (rs := rs) (as := as) nd (by simpa using h1) (by simpa using h2) h3
  | .val d :: rs, a :: as, ρ, i, j, b, c, nd, h1, h2, h3 => by
    cases j with
    | zero => simp at h1
    | succ j => cases a <;> exact backE_in (rs := rs) (as := as) nd (by simpa using h1) (by simpa using h2) h3
  | .new d :: rs, a :: as, ρ, i, j, b, c, nd, h1, h2, h3 => by
    cases j with
    | zero => simp at h1
    | succ j => cases a <;> exact backE_in (rs := rs) (as := as) nd (by simpa using h1) (by simpa using h2) h3
theorem Kin.bx {i : Nat} {b : Box} (h : Kin ρ[i]? ρ1[i]?) (q : IsBx ρ1 i b) : ∃ b', IsBx ρ i b' := by
  unfold IsBx at q ⊢
  rcases q with q | q <;> rw [q] at h <;> cases e : ρ[i]? with
  | none => rw [e] at h; exact h.elim
  | some s => rw [e] at h; cases s <;> first | exact h.elim | exact ⟨_, .inl rfl⟩ | exact ⟨_, .inr rfl⟩
theorem le_kin (hl : ρ1.length = ρ.length) (h : ∀ j : Nat, Kin ρ[j]? ρ1[j]?) : Le ρ ρ1 := by
  refine ⟨hl, fun i b q => ?_, fun i b q => ?_, fun i b q => ?_⟩ <;> have k := h i <;> rw [q] at k
  · cases e : ρ[i]? with
    | none => rw [e] at k; exact k.elim
    | some s => rw [e] at k; cases s <;> first | exact k.elim | exact ⟨_, rfl⟩
  · cases e : ρ[i]? with
    | none => rw [e] at k; exact k.elim
    | some s => rw [e] at k; cases s <;> first | exact k.elim | exact ⟨_, rfl⟩
  · cases e : ρ1[i]? with
    | none => rw [e] at k; exact k.elim
    | some s => rw [e] at k; cases s <;> first | exact k.elim | exact ⟨_, rfl⟩

/-- shared arguments made data -/
theorem sh_ok : ∀ {rs : List RV} {vs : List V} {ms : List Bool} {ρ : DEnv} {k : List Arg → DEnv → Prop}, ER K E0 BN σ H1 ρ → (∀ a, BL a → BN a) → (∀ (j : Nat) (v : V) (r : RV), vs[j]? = some v → rs[j]? = some r → R1 K (BN.or (Ow σ ρ)) σ H H1 v r) →
    (∀ (j : Nat) (b : Box) (a : Addr), ms[j]? = some false → rs[j]? = some (.new b) → vs[j]? = some (.ref a) → BN a ∧ ¬ BL a) → rs.length = vs.length → shK ρ ms rs k →
    ∃ as ρ', k as ρ' ∧ ER K E0 BN σ H1 ρ' ∧ Le ρ ρ' ∧ as.length = rs.length ∧ ∀ (j : Nat) (v : V) (a : Arg), vs[j]? = some v → as[j]? = some a → match a with | .sh d => Rp K (BL.or (Ow σ ρ')) H1 v d | .ln _ => ms[j]? = some true
  | [], [], [], ρ, k, er, m, _, _, _, h => ⟨[], ρ, h, er, .refl _, rfl, fun j v a h _ => by simp at h⟩
  | r :: rs, v :: vs, false :: ms, ρ, k, er, m, hr, hn, l, h => by
    obtain ⟨d, ρ1, f, h⟩ := fzK_some (show fzK ρ r fun d ρ1 => shK ρ1 ms rs fun as ρ2 => k (.sh d :: as) ρ2 from h)
    obtain ⟨e1, l1, q1⟩ := fz_ok er m (hr 0 v r rfl rfl) (fun b a e e' => hn 0 b a rfl (by rw [e] <;> rfl) (by rw [e'] <;> rfl)) f
    obtain ⟨as, ρ2, hk, e2, l2, la, q2⟩ := sh_ok (rs := rs) (vs := vs) (ms := ms) e1 m (fun j v r a b => (hr (j + 1) v r (by simpa using a) (by simpa using b)).mono (As.or_mono (fun _ z => z) fun a z => l1.ow a z)) (fun j b a h1 h2 h3 => hn (j + 1) b a (by simpa using h1) (by simpa using h2) (by simpa using h3)) (by simpa using l) h
    refine ⟨.sh d :: as, ρ2, hk, e2, l1.trans l2, by simp [la], fun j u a h1 h2 => ?_⟩
    cases j with
    | zero => cases h1; cases h2; exact q1.mono (As.or_mono (fun _ z => z) fun a z => l2.ow a z)
    | succ j => exact q2 j u a (by simpa using h1) (by simpa using h2)
  | r :: rs, v :: vs, true :: ms, ρ, k, er, m, hr, hn, l, h => by
    have h : shK ρ ms rs fun as ρ2 => k (.ln (.lst []) :: as) ρ2 := h
    obtain ⟨as, ρ2, hk, e2, l2, la, q2⟩ := sh_ok (rs := rs) (vs := vs) (ms := ms) er m (fun j v r a b => hr (j + 1) v r (by simpa using a) (by simpa using b)) (fun j b a h1 h2 h3 => hn (j + 1) b a (by simpa using h1) (by simpa using h2) (by simpa using h3)) (by simpa using l) h
    refine ⟨.ln (.lst []) :: as, ρ2, hk, e2, l2, by simp [la], fun j u a h1 h2 => ?_⟩
    cases j with
    | zero => cases h1; cases h2; exact rfl
    | succ j => exact q2 j u a (by simpa using h1) (by simpa using h2)
  | [], _ :: _, _, _, _, _, _, _, _, l, _ => by simp at l
  | _ :: _, [], _, _, _, _, _, _, _, l, _ => by simp at l
  | [], [], b :: _, _, _, _, _, _, _, _, h => by cases b <;> exact (show False from h).elim
  | _ :: _, _ :: _, [], _, _, _, _, _, _, _, h => (show False from h).elim
theorem ln_ok : ∀ {rs : List RV} {as0 : List Arg} {k : List Arg → Prop}, lnK ρ rs as0 k → ∃ as, k as ∧ as.length = as0.length ∧ ∀ (j : Nat) (a : Arg), as[j]? = some a → match a with | .sh d => as0[j]? = some (.sh d) | .ln b => (∃ c, as0[j]? = some (.ln c)) ∧ ∃ r, rs[j]? = some r ∧ bxOf ρ r = some b
  | [], [], k, h => ⟨[], h, rfl, fun j a h => by simp at h⟩
  | r :: rs, .sh d :: as0, k, h => by
    obtain ⟨as, hk, l, q⟩ := ln_ok (show lnK ρ rs as0 fun as => k (.sh d :: as) from h)
    refine ⟨.sh d :: as, hk, by simp [l], fun j a ha => ?_⟩
    cases j with
    | zero => cases ha; rfl
    | succ j => simpa using q j a (by simpa using ha)
  | r :: rs, .ln b :: as0, k, h => by
    cases e : bxOf ρ r with
    | none => simp only [lnK, e] at h
    | some c =>
      simp only [lnK, e] at h
      obtain ⟨as, hk, l, q⟩ := ln_ok h
      refine ⟨.ln c :: as, hk, by simp [l], fun j a ha => ?_⟩
      cases j with
      | zero => cases ha; exact ⟨⟨b, rfl⟩, r, rfl, e⟩
      | succ j => simpa using q j a (by simpa using ha)
  | [], _ :: _, _, h => (show False from h).elim
  | _ :: _, [], _, h => (show False from h).elim

/-- the arguments handed over, and what comes back -/
theorem call_core {g : DSp} {k : RV → DEnv → Prop} (er0 : ER K E0 B σ H ρ) (A : After K T E0 B σ H ρ vs H1 rs ρ1) (h : argsK g ms ρ1 rs k) :
    ∃ B' as Qd, ArgsR K B' H1 vs as ∧ Tabs T H1 ∧ g as Qd ∧ ∀ v H' dv as', Qd dv as' → AftF K T B' vs as H1 v H' dv as' → ∃ ρ3, k dv.rv ρ3 ∧ After K T E0 B σ H ρ [v] H' [dv.rv] ρ3 := by
  let Tm : As := fun a => ∃ (j : Nat) (b : Box), ms[j]? = some true ∧ rs[j]? = some (.new b) ∧ vs[j]? = some (V.ref a)
  have tmN : ∀ a, Tm a → Nw vs rs a := fun a ⟨j, b, _, h2, h3⟩ => ⟨j, b, h2, h3⟩
  have nwF : ∀ a, Nw vs rs a → H a = none := fun a ⟨j, b, h1, h2⟩ => by
    obtain ⟨x, e, n, _⟩ := A.rr.at_ j _ _ h2 h1
    cases e; exact n
  have notB := Nw.notB er0 A
  have mBL : ∀ a, (B.or Tm) a → (B.or (Nw vs rs)) a := As.or_mono (fun _ z => z) tmN
  obtain ⟨as0, ρ2, h, er2, l2, la0, hsh⟩ := sh_ok (BL := B.or Tm) A.er mBL A.rr.at_ (fun j b a h1 h2 h3 => ⟨.inr ⟨j, b, h2, h3⟩, fun z => z.elim (notB a ⟨j, b, h2, h3⟩) fun ⟨j', b', g1, g2, g3⟩ => by
    have e := A.rr.inj j j' b b' a h2 g2 h3 g3
    subst e
    rw [h1] at g1; cases g1⟩) A.rr.len h
  obtain ⟨as, ⟨nd, hq⟩, la, hln⟩ := ln_ok h
  have lenv : as.length = vs.length := by rw [la, la0, A.rr.len]
  -- what a lent argument is
  have lent : ∀ (j : Nat) (u : V) (b : Box), vs[j]? = some u → as[j]? = some (.ln b) → ms[j]? = some true ∧ ∃ x, u = .ref x ∧ BxR K ((B.or Tm).or (Ow σ ρ2)) H1 x b ∧ ((∃ c, rs[j]? = some (.new c) ∧ Tm x) ∨ ∃ i, rs[j]? = some (.var i) ∧ IsBx ρ2 i b ∧ σ[i]? = some (some (V.ref x)) ∧ Ow σ ρ2 x) := fun j u b h1 h2 => by
    obtain ⟨⟨c, hc⟩, r, hr, hb⟩ := hln j _ h2
    have hm : ms[j]? = some true := hsh j u _ h1 hc
    refine ⟨hm, ?_⟩
    have q := A.rr.at_ j u r h1 hr
    cases r with
    | val d => cases hb
    | new c' =>
      cases hb
      obtain ⟨x, e1, e2, e3⟩ := q
      subst e1
      exact ⟨x, rfl, e3.mono (As.or_mono mBL fun a z => l2.ow a z), .inl ⟨_, hr, j, _, hm, hr, h1⟩⟩
    | var i =>
      have q : σ[i]? = some (some u) := q
      have hb' : IsBx ρ2 i b := by
        unfold bxOf at hb
        cases e : ρ2[i]? with
        | none => simp [e] at hb
        | some s => cases s <;> simp [e] at hb <;> subst hb <;> first | exact .inl e | exact .inr e
      obtain ⟨x, e1, e2, e3⟩ := er2.bx i b hb'
      rw [q] at e1; cases e1
      exact ⟨x, rfl, e3.mono (As.or_mono mBL fun _ z => z), .inr ⟨i, hr, hb', q, ⟨i, b, hb', q⟩⟩⟩
  have at_v : ∀ {j : Nat} {a : Arg}, as[j]? = some a → ∃ u, vs[j]? = some u := fun {j a} ha => ⟨_, List.getElem?_eq_getElem (by rw [← lenv]; exact (List.getElem?_eq_some_iff.mp ha).1)⟩
  have laS : ∀ a, La vs as a → ((B.or Tm).or (Ow σ ρ2)) a := fun a ⟨j, b, h1, h2⟩ => by
    obtain ⟨_, x, e, _, q⟩ := lent j _ b h2 h1
    cases e
    rcases q with ⟨_, _, z⟩ | ⟨_, _, _, _, z⟩
    · exact .inl (.inr z)
    · exact .inr z
  have laT : ∀ a, La vs as a → Tm a ∨ Ow σ ρ2 a := fun a ⟨j, b, h1, h2⟩ => by
    obtain ⟨_, x, e, _, q⟩ := lent j _ b h2 h1
    cases e
    rcases q with ⟨_, _, z⟩ | ⟨_, _, _, _, z⟩
    · exact .inl z
    · exact .inr z
  let Bc : As := fun a => ((B.or Tm).or (Ow σ ρ2)) a ∧ ¬ La vs as a
  have bcS : ∀ a, (Bc.or (La vs as)) a → ((B.or Tm).or (Ow σ ρ2)) a := fun a z => z.elim (fun z => z.1) (laS a)
  have bcT : ∀ a, ((B.or Tm).or (Ow σ ρ2)) a → (Bc.or (La vs as)) a := fun a z => by
    by_cases q : La vs as a
    · exact .inr q
    · exact .inl ⟨z, q⟩
  have ob2 : OB ((B.or (Nw vs rs)).or (Ow σ ρ2)) H1 := er2.ob
  have obBL : OB ((B.or Tm).or (Ow σ ρ2)) H1 := fun a z => ob2 a (As.or_mono mBL (fun _ z => z) a z)
  have own_notB : ∀ {i : Nat} {b : Box} {x : Addr}, IsBx ρ2 i b → σ[i]? = some (some (V.ref x)) → ¬ (B.or (Nw vs rs)) x := fun {i b x} hb hi z => by
    obtain ⟨y, q1, q2, _⟩ := er2.bx i b hb
    rw [hi] at q1; cases q1
    exact q2 z
  have ar : ArgsR K Bc H1 vs as := by
    refine ⟨lenv, fun j u a h1 h2 => ?_, fun i j b c a h1 h2 h3 h4 => ?_, fun a z => obBL a z.1⟩
    · cases a with
      | sh d =>
        have e0 := hln j _ h2
        exact (show Rp K ((B.or Tm).or (Ow σ ρ2)) H1 u d from hsh j u _ h1 e0).mono bcS
      | ln b =>
        obtain ⟨_, x, e, bx, _⟩ := lent j u b h1 h2
        subst e
        exact ⟨x, rfl, fun z => z.2 ⟨j, b, h2, h1⟩, bx.mono bcS⟩
    · obtain ⟨m1, x, e, _, q⟩ := lent i _ b h3 h1
      cases e
      obtain ⟨m2, y, e, _, p⟩ := lent j _ c h4 h2
      cases e
      rcases q with ⟨c1, r1, _⟩ | ⟨i1, r1, b1, s1, _⟩
      · rcases p with ⟨c2, r2, _⟩ | ⟨i2, r2, b2, s2, _⟩
        · exact A.rr.inj i j c1 c2 a r1 r2 h3 h4
        · exact (own_notB b2 s2 (.inr ⟨i, c1, r1, h3⟩)).elim
      · rcases p with ⟨c2, r2, _⟩ | ⟨i2, r2, b2, s2, _⟩
        · exact (own_notB b1 s1 (.inr ⟨j, c2, r2, h4⟩)).elim
        · have ei := er2.inj i1 i2 b c a b1 b2 s1 s2
          subst ei
          -- the same variable lent twice
          have : ∀ {rs : List RV} {as : List Arg} {i j k : Nat} {b c : Box}, (lvars rs as).Nodup → rs[i]? = some (.var k) → as[i]? = some (.ln b) → rs[j]? = some (.var k) → as[j]? = some (.ln c) → i = j := by
            intro rs
            induction rs with
            | nil => intro as i j k b c _ h; simp at h
            | cons r rs ih =>
              intro as i j k b c nd g1 g2 g3 g4
              cases as with
              | nil => simp at g2
              | cons a as =>
                cases i with
                | zero =>
                  cases j with
                  | zero => rfl
                  | succ j =>
                    simp at g1 g2 g3 g4
                    subst g1; subst g2
                    have nd : (k :: lvars rs as).Nodup := nd
                    rw [List.nodup_cons] at nd
                    exact (nd.1 (mem_lvars.mpr ⟨j, c, g3, g4⟩)).elim
                | succ i =>
                  cases j with
                  | zero =>
                    simp at g1 g2 g3 g4
                    subst g3; subst g4
                    have nd : (k :: lvars rs as).Nodup := nd
                    rw [List.nodup_cons] at nd
                    exact (nd.1 (mem_lvars.mpr ⟨i, b, g1, g2⟩)).elim
                  | succ j =>
                    simp at g1 g2 g3 g4
                    have nd' : (lvars rs as).Nodup := by
                      cases r with
                      | var q => cases a with
                        | ln z => exact (List.nodup_cons.mp (show (q :: lvars rs as).Nodup from nd)).2
                        | sh z => exact nd
                      | val q => cases a <;> exact nd
                      | new q => cases a <;> exact nd
                    rw [ih nd' g1 g2 g3 g4]
          exact this nd r1 h1 r2 h2
  refine ⟨Bc, as, _, ar, A.tab, hq, fun v H' dv as' q F => ⟨_, q, ?_⟩⟩
  -- the state behind the call
  have kin : ∀ j : Nat, Kin ρ2[j]? (backE rs as' ρ2)[j]? := fun j => kin_backE
  have l3 : Le ρ2 (backE rs as' ρ2) := le_kin backE_len kin
  have nd' : (lvars rs as').Nodup := by
    have : ∀ {rs : List RV} {as as' : List Arg}, Shp as as' → lvars rs as' = lvars rs as := by
      intro rs
      induction rs with
      | nil => intro as as' _; simp [lvars]
      | cons r rs ih =>
        intro as as' s
        cases as with
        | nil =>
          cases as' with
          | nil => rfl
          | cons a as' => have := s.len; simp at this
        | cons a as =>
          cases as' with
          | nil => have := s.len; simp at this
          | cons a' as' =>
            have s' : Shp as as' := ⟨by have := s.len; simpa using this, fun j d h => by have := s.sh (j + 1) d (by simpa using h); simpa using this, fun j b h => by have := s.ln (j + 1) b (by simpa using h); simpa using this, fun j b h => by have := s.ln' (j + 1) b (by simpa using h); simpa using this⟩
            have e := ih s'
            cases r with
            | val d => cases a <;> cases a' <;> exact e
            | new d => cases a <;> cases a' <;> exact e
            | var i =>
              cases a with
              | sh d => cases a' with
                | sh d' => exact e
                | ln b => obtain ⟨c, hc⟩ := s.ln 0 b rfl; simp at hc
              | ln b => cases a' with
                | sh d' => have := s.sh 0 d' rfl; simp at this
                | ln b' =>
                  show i :: lvars rs as' = i :: lvars rs as
                  rw [e]
    rw [this F.shp]; exact nd
  have nwv : ∀ a, Nw [v] [dv.rv] a → H1 a = none := fun a z => by
    cases dv with
    | val d => exact (nw_val a z).elim
    | new b =>
      have e := nw_one a z
      subst e
      obtain ⟨x, e1, e2, _⟩ := F.rr
      cases e1; exact e2
  have stO : Stp ((B.or (Nw vs rs)).or (Ow σ ρ2)) H1 H' := F.stp.mono fun a z => As.or_mono mBL (fun _ z => z) a (laS a z)
  have nn : ∀ a, ((B.or (Nw [v] [dv.rv])).or (Ow σ (backE rs as' ρ2))) a → ((B.or (Nw vs rs)).or (Ow σ ρ2)) a ∨ H1 a = none := fun a z => by
    rcases z with (z | z) | z
    · exact .inl (.inl (.inl z))
    · exact .inr (nwv a z)
    · exact .inl (.inr (l3.ow a z))
  have toBc : ∀ a, ((B.or (Nw [v] [dv.rv])).or (Ow σ (backE rs as' ρ2))) a → ((Bc.or (Nw [v] [dv.rv])).or (La vs as)) a := fun a z => by
    rcases z with (z | z) | z
    · exact (bcT a (.inl (.inl z))).elim (fun z => .inl (.inl z)) .inr
    · exact .inl (.inr z)
    · exact (bcT a (.inr (l3.ow a z))).elim (fun z => .inl (.inl z)) .inr
  have laE : ∀ a, La vs as' a ↔ La vs as a := fun a => by
    constructor
    · rintro ⟨j, b, h1, h2⟩; obtain ⟨c, hc⟩ := F.shp.ln j b h1; exact ⟨j, c, hc, h2⟩
    · rintro ⟨j, b, h1, h2⟩; obtain ⟨c, hc⟩ := F.shp.ln' j b h1; exact ⟨j, c, hc, h2⟩
  have nLaB : ∀ a, B a → ¬ La vs as a := fun a hb z => by
    rcases laT a z with z | ⟨i, b, z1, z2⟩
    · exact notB a (tmN a z) hb
    · exact own_notB z1 z2 (.inl hb)
  refine { stp := A.stp.trans F.stp fun a z => ?_, fre := A.fre.trans F.fre, tab := F.tab, le := A.le.trans (l2.trans l3), er := ?_, rr := .one ?_ }
  · rcases laT a z with z | z
    · exact .inr (nwF a (tmN a z))
    · exact .inl ((A.le.trans l2).ow a z)
  · refine { len := by rw [backE_len]; exact er2.len, sh := fun i d hd => ?_, bx := fun i b hb => ?_, inj := fun i j b c a h1 h2 h3 h4 => ?_, bo := fun a z => ?_, e0 := fun a z => ?_, new := fun i b a h1 h2 => ?_ }
    · have k := kin i
      rw [hd] at k
      have e : ρ2[i]? = some (.sh d) := by
        cases e : ρ2[i]? with
        | none => rw [e] at k; exact k.elim
        | some s => rw [e] at k; cases s <;> first | exact k.elim | (have k : _ = _ := k; rw [k])
      obtain ⟨u, q1, q2⟩ := er2.sh i d e
      exact ⟨u, q1, q2.move stO ob2 nn⟩
    · obtain ⟨b0, hb0⟩ := (kin i).bx hb
      obtain ⟨x, q1, q2, q3⟩ := er2.bx i b0 hb0
      have xo : ∃ o, H1 x = some o := let ⟨o, z, _⟩ := q3.boxish; ⟨o, z⟩
      refine ⟨x, q1, fun z => ?_, ?_⟩
      · rcases z with z | z
        · exact q2 (.inl z)
        · obtain ⟨o, z1⟩ := xo
          rw [nwv x z] at z1; cases z1
      · by_cases hi : i ∈ lvars rs as'
        · obtain ⟨j, b', g1, g2⟩ := mem_lvars.mp hi
          have eb := backE_in nd' g1 g2 hb
          subst eb
          have lj : j < vs.length := by rw [← lenv, ← F.shp.len]; exact (List.getElem?_eq_some_iff.mp g2).1
          obtain ⟨u, hu⟩ : ∃ u, vs[j]? = some u := ⟨_, List.getElem?_eq_getElem lj⟩
          have hv : σ[i]? = some (some u) := A.rr.at_ j u _ hu g1
          rw [q1] at hv; cases hv
          obtain ⟨y, p1, _, p3⟩ := F.args.at_ j _ _ hu g2
          cases p1
          exact p3.mono fun a z => by
            rcases toBc a z with z | z
            · exact .inl z
            · exact .inr ((laE a).mpr z)
        · have e := backE_not (ρ := ρ2) hi
          have hb' : IsBx ρ2 i b := by unfold IsBx at hb ⊢; rw [e] at hb; exact hb
          obtain ⟨x', q1', _, q3'⟩ := er2.bx i b hb'
          rw [q1] at q1'; cases q1'
          have nL : ¬ La vs as x := fun z => by
            obtain ⟨j, c, z1, z2⟩ := z
            obtain ⟨_, y, ey, _, p⟩ := lent j _ c z2 z1
            cases ey
            rcases p with ⟨c1, r1, _⟩ | ⟨i1, r1, b1, s1, _⟩
            · exact q2 (.inr ⟨j, c1, r1, z2⟩)
            · have ei := er2.inj i1 i c b0 x b1 hb0 s1 q1
              subst ei
              obtain ⟨c', hc'⟩ := F.shp.ln' j c z1
              exact hi (mem_lvars.mpr ⟨j, c', r1, hc'⟩)
          refine q3'.move stO ob2 nn fun o ho => F.stp x o ho nL fun ps z => ?_
          obtain ⟨o', z1, z2⟩ := q3'.boxish
          rw [ho] at z1; cases z1
          subst z; cases z2
    · obtain ⟨b', hb'⟩ := (kin i).bx h1
      obtain ⟨c', hc'⟩ := (kin j).bx h2
      exact er2.inj i j b' c' a hb' hc' h3 h4
    · rcases z with z | z
      · obtain ⟨o, z1, z2⟩ := er2.bo a (.inl z)
        exact ⟨o, F.stp a o z1 (nLaB a z) (fun ps z => by subst z; cases z2), z2⟩
      · exact F.args.bo a (.inr z)
    · obtain ⟨o, z1⟩ := er2.e0 a z
      exact F.fre.some z1
    · have k := kin i
      rw [h1] at k
      cases e : ρ2[i]? with
      | none => rw [e] at k; exact k.elim
      | some s => rw [e] at k; cases s <;> first | exact k.elim | exact er2.new i _ a e h2
  · have q := F.rr
    cases dv with
    | val d => exact Rp.mono q toBc
    | new b => obtain ⟨x, e1, e2, e3⟩ := q; exact ⟨x, e1, A.fre x e2, e3.mono toBc⟩

/-! ### the call -/
def wCall (g : DSp) (ms : List Bool) (wa : WA) : WE := fun ρ Q => wa ρ fun rs ρ1 => argsK g ms ρ1 rs Q
theorem d_call {g : DSp} {ms : List Bool} {wa : WA} {k : Nat} {f : Addr} {fd : FuncData} {ps : List Str} {x : Str} {p : Pos} {kl : Nat} (F : FnG X.prog X.w X.K X.mg X.base kl f fd ps (spOf X.K T g)) (hr : Room k X.A) (hG : X.A.guards = some []) (hm : X.mg x = some (.ref f)) (hk : PySem.W.keepIn X.K (.ref f) = true)
    (hb : Binds X.K fd ps []) (ha : PA X (e :: es) (tA X.K T wa)) (hkl : kl ≤ k := by decide) (hg : Gl X x := by rfl) (hdb : (x == ("__debug__" : Str)) = false := by decide) (he : starEach (e :: es) X.env = (false, eval e X.env) :: starEach es X.env := by rfl) (hpl : (backTo pos (starEach es X.env)).any (·.1) = false := by rfl) :
    PE X (.Call (.Name x p) (e :: es) [] pos) (tE X.K T (wCall g ms wa)) := by
  refine ⟨fun pins s σ H Q I h => ?_⟩
  obtain ⟨E0, B, ρ, Qd, er, tb, hw, kk⟩ := h
  refine wpAny_Call_Name_kw (ld_glob I hg hm ?_ hdb)
  refine PySem.W.callWith_K (h₀ := X.base) I.ok.mod.kin hk (thn (ha.run pos pins s σ H (fun vs H1 => spOf X.K T g vs H1 Q E0') I ⟨E0, B, ρ, _, er, tb, hw, fun vs H1 rs ρ1 q A => ?_⟩) fun us s1 ⟨vs, H1, I1, r, q⟩ => ⟨I1.kIn, ?_⟩) he hpl
  · obtain ⟨B', as, Qd', ar, tb1, hq, c⟩ := call_core er A q
    refine ⟨B', as, Qd', ar, tb1, hq, fun v H' dv as' q F => ?_⟩
    obtain ⟨ρ3, hk3, A3⟩ := c v H' dv as' q F
    exact kk v H' _ ρ3 hk3 A3
  · have hl : us.length = ps.length := by rw [← r.length]; exact F.len _ _ _ _ q
    have bb := hb s1 us I1.kIn (by rw [List.append_nil]; exact hl)
    rw [List.append_nil] at bb
    exact run_g (args := ⟨us, []⟩) (F.mono hkl) hr hG I1 bb r q
end
end DL
set_option maxRecDepth 100000
set_option maxHeartbeats 1000000
namespace DL
open PySem PySem.Spec L2 LamX

abbrev WG := D → DEnv → (DEnv → Prop) → Prop
abbrev WGs := List D → DEnv → (DEnv → Prop) → Prop
abbrev WI := DEnv → (List D → DEnv → Prop) → Prop
/-- but for S the slots are as they were -/
def But (S : List Nat) (σ σ' : L2.St) (ρ ρ' : DEnv) : Prop := σ'.length = σ.length ∧ (∀ j : Nat, j ∉ S → σ'[j]? = σ[j]?) ∧ ρ'.length = ρ.length ∧ ∀ (j : Nat) (b : Box), ρ'[j]? = some (.own b) → ∃ b' : Box, ρ[j]? = some (.own b')
/-- S: the slots that a target may store -/
def tG (K : PySem.W.Frag) (T : Tb) (S : List Nat) (w : WG) : TG := fun v σ H Q => ∃ E0 B ρ d Qd, ER K E0 B σ H ρ ∧ Tabs T H ∧ Rp K (B.or (Ow σ ρ)) H v d ∧ w d ρ Qd ∧ ∀ σ' H' ρ', Qd ρ' → SAft K T E0 B σ H ρ σ' H' ρ' → But S σ σ' ρ ρ' → Q σ' H'
def tGs (K : PySem.W.Frag) (T : Tb) (S : List Nat) (w : WGs) : TGs := fun vs σ H Q => ∃ E0 B ρ ds Qd, ER K E0 B σ H ρ ∧ Tabs T H ∧ RpL K (B.or (Ow σ ρ)) H vs ds ∧ w ds ρ Qd ∧ ∀ σ' H' ρ', Qd ρ' → SAft K T E0 B σ H ρ σ' H' ρ' → But S σ σ' ρ ρ' → Q σ' H'
/-- what is walked comes to the items ds -/
structure ItD (K : PySem.W.Frag) (O : As) (H1 : Hp) (J : It) (ds : List D) : Prop where
  go : ∀ (i : Nat) (H : Hp), Stp O H1 H → i < ds.length → J.go i H
  yld : ∀ (i : Nat) (H : Hp) (x : V) (H' : Hp) (O' : As), Stp O H1 H → (∀ a, O' a → O a ∨ H1 a = none) → OB O' H → i < ds.length → J.yld i H x H' → ∃ d, ds[i]? = some d ∧ Same H H' ∧ Fre H H' ∧ Rp K O' H' x d
  stop : ∀ (i : Nat) (H : Hp), Stp O H1 H → ds.length ≤ i → J.stop i H
def tI (K : PySem.W.Frag) (T : Tb) (w : WI) : TI := fun σ H R => ∃ E0 B ρ Qd, ER K E0 B σ H ρ ∧ Tabs T H ∧ w ρ Qd ∧ ∀ J H' ds ρ', Qd ds ρ' → After K T E0 B σ H ρ [] H' [] ρ' → ItD K (B.or (Ow σ ρ')) H' J ds → R J H'

section
variable {K : PySem.W.Frag} {T : Tb} {E0 B B' BN BL O O' N : As} {σ σ1 σ2 : L2.St} {ρ ρ1 ρ2 ρ3 : DEnv} {H H1 H2 H3 : Hp} {vs us : List V} {rs qs : List RV} {v : V} {r : RV} {d : D} {ds : List D} {X : Cx} {e e1 e2 tg iter : Expr} {es : List Expr} {st : Stmt} {sts : List Stmt} {pos : Pos}

theorem _root_.L2.PG.imp {t t' : TG} (h : PG X e t) (f : ∀ v σ H Q, t' v σ H Q → t v σ H Q) : PG X e t' := ⟨fun pins s σ H v u Q I r w => h.run pins s σ H v u Q I r (f v σ H Q w)⟩
theorem _root_.L2.PGs.imp {t t' : TGs} (h : PGs X es t) (f : ∀ v σ H Q, t' v σ H Q → t v σ H Q) : PGs X es t' := ⟨fun pins s σ H v u Q I r w => h.run pins s σ H v u Q I r (f v σ H Q w)⟩
theorem _root_.L2.PI.imp {t t' : TI} (h : PI X tg iter t) (f : ∀ σ H R, t' σ H R → t σ H R) : PI X tg iter t' := ⟨fun pins s σ H R I w => h.run pins s σ H R I (f σ H R w)⟩

/-! ### targets -/
def gNm (i : Nat) : WG := fun d ρ Q => putK ρ i (.val d) Q
theorem putK_val {i : Nat} {k : DEnv → Prop} (h : putK ρ i (.val d) k) : (∀ b, ρ[i]? ≠ some (.lent b)) ∧ i < ρ.length ∧ k (ρ.set i (.sh d)) := by
  unfold putK at h
  cases e : ρ[i]? with
  | none => rw [e] at h; exact h.elim
  | some s =>
    rw [e] at h
    have il : i < ρ.length := (List.getElem?_eq_some_iff.mp e).1
    cases s with
    | lent b => exact h.elim
    | emp => exact ⟨fun b z => (nomatch z), il, h⟩
    | sh x => exact ⟨fun b z => (nomatch z), il, h⟩
    | own x => exact ⟨fun b z => (nomatch z), il, h⟩
theorem saft_put {i : Nat} (er : ER K E0 B σ H ρ) (tb : Tabs T H) (hl : ∀ b, ρ[i]? ≠ some (.lent b)) (hi : i < ρ.length) (h : Rp K (B.or (Ow σ ρ)) H v d) : SAft K T E0 B σ H ρ (σ.set i (some v)) H (ρ.set i (.sh d)) := by
  obtain ⟨e1, o1⟩ := er.put_sh hl h hi
  refine { stp := .refl _ _, fre := .refl _, tab := tb, ow := fun x z => .inl (o1 x z), er := e1, lent := fun j b hb => ?_, lent' := fun j b hb => ?_ }
  · have n : i ≠ j := fun z => by subst z; exact hl b hb
    exact ⟨⟨b, by rw [List.getElem?_set_ne n]; exact hb⟩, by rw [List.getElem?_set_ne n]⟩
  · by_cases e : i = j
    · subst e
      rw [List.getElem?_set_self hi] at hb; cases hb
    · rw [List.getElem?_set_ne e] at hb; exact ⟨b, hb⟩
theorem g_name {i : Nat} {x : Str} (hN : X.N.Nodup) (hi : X.N[i]? = some x := by rfl) (hx : Loc X.env.scope x := by first | exact .inl rfl | exact .inr rfl) (hf : X.fn x = true ∨ X.env.scope.names.lookup x = some .local := by first | exact .inl rfl | exact .inr rfl | assumption) : PG X (.Name x pos) (tG X.K T [i] (gNm i)) :=
  (pg_name hN hi hx hf).imp fun v σ H Q h => by
    obtain ⟨E0, B, ρ, d, Qd, er, tb, hr, hw, k⟩ := h
    obtain ⟨h1, h2, h3⟩ := putK_val hw
    exact k _ _ _ h3 (saft_put er tb h1 h2 hr) ⟨by simp, fun j hj => by rw [List.getElem?_set_ne (fun z => hj (by simp [z]))], by simp, fun j b hb => by
      obtain ⟨_, q⟩ := isBx_set sl_sh (.inl hb)
      by_cases e : i = j
      · subst e
        rw [List.getElem?_set_self h2] at hb; cases hb
      · rw [List.getElem?_set_ne e] at hb; exact ⟨b, hb⟩⟩
def gsNil : WGs := fun ds ρ Q => match ds with
  | [] => Q ρ
  | _ => False
def gsCons (g : WG) (gs : WGs) : WGs := fun ds ρ Q => match ds with
  | d :: r => g d ρ fun ρ1 => gs r ρ1 Q
  | [] => False
def gTp (n : Nat) (gs : WGs) : WG := fun d ρ Q => match d with
  | .tuple ds => ds.length = n ∧ gs ds ρ Q
  | .dict [(.list [.list []], .tuple ds)] => ds.length = n ∧ gs ds ρ Q
  | _ => False
theorem keys_list {xs : List Ent} {x : List D} {y : D} {r : List (D × D)} (n : xs ≠ []) (h : (((PyData.list x, y) :: r).map fun p => keyOf p.1) = xs.map (fun x => some x.1)) : False := by
  cases xs with
  | nil => exact n rfl
  | cons z zs =>
    rw [List.map_cons, List.map_cons, List.cons_eq_cons] at h
    have := h.1
    rw [keyOf] at this
    cases this
/-- no key of a dict is a list -/
theorem key_list {ks : List (Key × V)} {x : List D} {y : D} {r : List (D × D)} (h : RpL K O H (ks.map fun p => kV p.1) (((PyData.list x, y) :: r).map (·.1))) : False := by
  cases ks with
  | nil => cases h
  | cons p ks =>
    cases h with
    | cons h _ =>
      obtain ⟨k, w⟩ := p
      cases k <;> cases h
theorem g_nil : PGs X [] (tGs X.K T [] gsNil) := pgs_nil.imp fun vs σ H Q h => by
  obtain ⟨E0, B, ρ, ds, Qd, er, tb, hr, hw, k⟩ := h
  cases hr with
  | nil => exact ⟨rfl, k _ _ _ hw (.refl er tb) ⟨rfl, fun _ _ => rfl, rfl, fun j b h => ⟨b, h⟩⟩⟩
  | cons _ _ => exact (show False from hw).elim
theorem Rp.after (h : Rp K (B.or (Ow σ ρ)) H v d) (er : ER K E0 B σ H ρ) (A : SAft K T E0 B σ H ρ σ1 H1 ρ1) : Rp K (B.or (Ow σ1 ρ1)) H1 v d :=
  h.move (A.stp.mono fun _ z => .inr z) er.ob fun a z => by
    rcases z with z | z
    · exact .inl (.inl z)
    · exact (A.ow a z).imp .inr id
theorem RpL.after (h : RpL K (B.or (Ow σ ρ)) H vs ds) (er : ER K E0 B σ H ρ) (A : SAft K T E0 B σ H ρ σ1 H1 ρ1) : RpL K (B.or (Ow σ1 ρ1)) H1 vs ds :=
  h.move (A.stp.mono fun _ z => .inr z) er.ob fun a z => by
    rcases z with z | z
    · exact .inl (.inl z)
    · exact (A.ow a z).imp .inr id
theorem But.trans {S S' : List Nat} (a : But S σ σ1 ρ ρ1) (b : But S' σ1 σ2 ρ1 ρ2) : But (S ++ S') σ σ2 ρ ρ2 := ⟨b.1.trans a.1, fun j hj => by
  rw [List.mem_append, not_or] at hj
  exact (b.2.1 j hj.2).trans (a.2.1 j hj.1), b.2.2.1.trans a.2.2.1, fun j c h => let ⟨c1, h1⟩ := b.2.2.2 j c h; a.2.2.2 j c1 h1⟩
theorem But.le {S : List Nat} (b : But S σ σ1 ρ ρ1) (A : SAft K T E0 B σ H ρ σ1 H1 ρ1) : Le ρ ρ1 := ⟨b.2.2.1, b.2.2.2, fun i c h => A.lent' i c h, fun i c h => (A.lent i c h).1⟩
theorem g_cons {g : WG} {gs : WGs} {S S' : List Nat} (h1 : PG X e (tG X.K T S g)) (h2 : PGs X es (tGs X.K T S' gs)) (hs : (assignEach (e :: es) X.env).map (·.2) = assign e X.env :: (assignEach es X.env).map (·.2) := by rfl) : PGs X (e :: es) (tGs X.K T (S ++ S') (gsCons g gs)) := (pgs_cons h1 h2 hs).imp fun vs σ H Q h => by
  obtain ⟨E0, B, ρ, ds, Qd, er, tb, hr, hw, k⟩ := h
  cases hr with
  | nil => exact (show False from hw).elim
  | cons r rs =>
    refine ⟨_, _, rfl, E0, B, ρ, _, _, er, tb, r, hw, fun σ1 H1 ρ1 q A b1 => ?_⟩
    exact ⟨E0, B, ρ1, _, _, A.er, A.tab, rs.after er A, q, fun σ2 H2 ρ2 q A2 b2 => k _ _ _ q (A.trans A2) (b1.trans b2)⟩
/-- a tuple of names and places -/
theorem g_tup {gs : WGs} {k n : Nat} {S : List Nat} (hc : X.calm = true) (h : PGs X es (tGs X.K T S gs)) (hn : (assignEach es X.env).length = n := by rfl) (hst : (assignEach es X.env).findIdx? (·.1) = none := by rfl) : PG X (.Tuple es k pos) (tG X.K T S (gTp n gs)) := by
  refine (pg_tup hc h hn hst).imp fun v σ H Q h => ?_
  obtain ⟨E0, B, ρ, d, Qd, er, tb, hr, hw, k⟩ := h
  cases hr with
  | tup s r =>
    obtain ⟨l, hw⟩ := hw
    exact ⟨_, _, rfl, s.sq, by rw [r.length]; exact l, E0, B, ρ, _, _, er, tb, r, hw, k⟩
  | wk s r =>
    obtain ⟨l, hw⟩ := hw
    exact ⟨_, _, rfl, s, by rw [r.length]; exact l, E0, B, ρ, _, _, er, tb, r, hw, k⟩
  | dct n h1 h2 h3 =>
    unfold gTp at hw
    split at hw
    · rename_i e; cases e
    · rename_i e; cases e; exact (key_list h2).elim
    · exact hw.elim
  | dcn n e q q2 h1 h2 =>
    unfold gTp at hw
    split at hw
    · rename_i e; cases e
    · rename_i e; cases e
      exact (keys_list q q2).elim
    · exact hw.elim
  | _ => exact (show False from hw).elim
/-- e stored at a target -/
def wAsg (wa : WE) (g : WG) : WS := fun ρ P => wa ρ fun r ρ1 => fzK ρ1 r fun d ρ2 => g d ρ2 P.nx
theorem After.fz1 {k : D → DEnv → Prop} (er0 : ER K E0 B σ H ρ) (A : After K T E0 B σ H ρ [v] H1 [r] ρ1) (h : fzK ρ1 r k) : ∃ d ρ2, k d ρ2 ∧ After K T E0 B σ H ρ [] H1 [] ρ2 ∧ Rp K (B.or (Ow σ ρ2)) H1 v d := by
  obtain ⟨d, ρ2, f, hk⟩ := fzK_some h
  obtain ⟨e1, l1, q1⟩ := fz_ok (BL := B) A.er (fun _ z => .inl z) (A.rr.at_ 0 v r rfl rfl) (fun b a e e' => by subst e; subst e'; exact ⟨.inr nw_at, Nw.notB er0 A a nw_at⟩) f
  exact ⟨d, ρ2, hk, { stp := A.stp, fre := A.fre, tab := A.tab, le := A.le.trans l1, er := (e1.mono fun _ z => .inl z).mono fun a z => z.elim id fun z => (nw_nil a z).elim, rr := ⟨rfl, fun j v r h _ => by simp at h, fun i j b c a h _ _ _ => by simp at h⟩ }, q1⟩
theorem s_asg {wa : WE} {g : WG} {S : List Nat} (he : PE X e (tE X.K T wa)) (hg : PG X tg (tG X.K T S g)) (hs : swapsWithSole [tg] e pos.line X.env = pure false := by rfl) (hw : swappedStores [tg] e X.env = pure none := by rfl) (h1 : (assignEach [tg] X.env).map (·.2) = [assign tg X.env] := by rfl) : PS X (.Assign [tg] e pos) (tS X.K T (wAsg wa g)) :=
  (ps_asg he hg hs hw h1).imp fun D σ H h => by
    obtain ⟨E0, B, ρ, P, er, tb, hw, k, _⟩ := h
    refine ⟨E0, B, ρ, _, er, tb, hw, fun v H1 r ρ1 q A => ?_⟩
    obtain ⟨d, ρ2, hk, A2, rp⟩ := A.fz1 er q
    exact ⟨E0, B, ρ2, d, _, A2.saft.er, A2.tab, rp, hk, fun σ2 H2 ρ3 q A3 _ => k _ _ _ q (A2.saft.trans A3)⟩
def wPar (i j : Nat) (wa : WA) : WS := fun ρ P => wa ρ fun rs ρ1 => match rs with
  | [r1, r2] => fzzK ρ1 r1 r2 fun r1 r2 ρ2 => putK ρ2 i r1 fun ρ3 => putK ρ3 j r2 P.nx
  | _ => False
 where fzzK (ρ : DEnv) (r1 r2 : RV) (k : RV → RV → DEnv → Prop) : Prop := fzN ρ r1 fun r1 ρ1 => fzN ρ1 r2 fun r2 ρ2 => k r1 r2 ρ2
       fzN (ρ : DEnv) (r : RV) (k : RV → DEnv → Prop) : Prop := match r with
  | .new b => k (.new b) ρ
  | r => fzK ρ r fun d ρ1 => k (.val d) ρ1

/-! ### a thing of one's own changed -/
theorem codeO_lst {c : Addr} {q : Str} (xs : List V) : CodeO c q ≠ .lst xs := fun z => by
  unfold CodeO at z
  cases z
theorem tabs_upd {a : Addr} {xs ys : List V} (er : ER K E0 B σ H ρ) (t : Tabs T H) (h : H a = some (.lst xs)) : Tabs T (upd H a (.lst ys)) := fun p hp => by
  obtain ⟨ps, h1, h2, h3⟩ := t p hp
  refine ⟨ps, by rw [upd_ne (fun z => by rw [z, h] at h1; cases h1)]; exact h1, h2, fun pos cv hc => ?_⟩
  obtain ⟨c, e1, e2⟩ := h3 pos cv hc
  exact ⟨c, e1, by rw [upd_ne (fun z => by rw [z, h] at e2; exact codeO_lst xs (Option.some.inj e2).symm)]; exact e2⟩
theorem ER.mut {i : Nat} {a : Addr} {b : Box} {vs0 vs1 : List V} {ds1 : List D} (er : ER K E0 B σ H ρ) (tb : Tabs T H) (hb : IsBx ρ i b) (hi : σ[i]? = some (some (.ref a))) (hl : H a = some (.lst vs0)) (h : RpL K (B.or (Ow σ ρ)) H vs1 ds1) :
    SAft K T E0 B σ H ρ σ (upd H a (.lst vs1)) (setBx ρ i (.lst ds1)) := by
  have oa : Ow σ ρ a := ⟨i, b, hb, hi⟩
  have kin : ∀ j : Nat, Kin ρ[j]? (setBx ρ i (.lst ds1))[j]? := fun j => kin_setBx
  have le := le_kin (ρ := ρ) setBx_len kin
  have st : Stp (B.or (Ow σ ρ)) H (upd H a (.lst vs1)) := Stp.upd_own (.inr oa)
  have mm : ∀ x, (B.or (Ow σ (setBx ρ i (.lst ds1)))) x → (B.or (Ow σ ρ)) x ∨ H x = none := fun x z => .inl (As.or_mono (fun _ z => z) (fun x z => le.ow x z) x z)
  have nB : ¬ B a := fun z => by
    obtain ⟨y, q1, q2, _⟩ := er.bx i b hb
    rw [hi] at q1; cases q1
    exact q2 z
  have er' : ER K E0 B σ (upd H a (.lst vs1)) (setBx ρ i (.lst ds1)) := by
    refine { len := by rw [setBx_len]; exact er.len, sh := fun j d hd => ?_, bx := fun j c hc => ?_, inj := fun j l c c' x h1 h2 h3 h4 => ?_, bo := fun x z => ?_, e0 := fun x z => ?_, new := fun j c x h1 h2 => ?_ }
    · have k := kin j
      rw [hd] at k
      have e : ρ[j]? = some (.sh d) := by
        cases e : ρ[j]? with
        | none => rw [e] at k; exact k.elim
        | some s => rw [e] at k; cases s <;> first | exact k.elim | (have k : _ = _ := k; rw [k])
      obtain ⟨u, q1, q2⟩ := er.sh j d e
      exact ⟨u, q1, q2.move st er.ob mm⟩
    · obtain ⟨c0, hc0⟩ := (kin j).bx hc
      obtain ⟨x, q1, q2, q3⟩ := er.bx j c0 hc0
      refine ⟨x, q1, q2, ?_⟩
      by_cases e : j = i
      · subst e
        rw [hi] at q1; cases q1
        have ec : c = .lst ds1 := by
          unfold IsBx at hc
          rw [setBx_get, if_pos rfl] at hc
          rcases hb with hb | hb <;> rw [hb] at hc <;> rcases hc with hc | hc <;> cases hc <;> rfl
        subst ec
        exact ⟨vs1, upd_same, h.move st er.ob mm⟩
      · have hc' : IsBx ρ j c := by
          unfold IsBx at hc ⊢
          rw [setBx_get, if_neg e] at hc
          exact hc
        obtain ⟨x', q1', _, q3'⟩ := er.bx j c hc'
        rw [q1] at q1'; cases q1'
        have nx : x ≠ a := fun z => by subst z; exact e (er.inj j i c b x hc' hb q1 hi)
        exact q3'.move st er.ob mm fun o ho => by rw [upd_ne nx]; exact ho
    · obtain ⟨b1, h1'⟩ := (kin j).bx h1
      obtain ⟨b2, h2'⟩ := (kin l).bx h2
      exact er.inj j l b1 b2 x h1' h2' h3 h4
    · obtain ⟨o, z1, z2⟩ := er.bo x z
      exact ⟨o, by rw [upd_ne (fun e => nB (by rw [← e]; exact z))]; exact z1, z2⟩
    · obtain ⟨o, z1⟩ := er.e0 x z
      exact (Fre.upd H a _).some z1
    · obtain ⟨c0, hc0⟩ := le.own j c h1
      exact er.new j c0 x hc0 h2
  exact { stp := Stp.upd_own oa, fre := Fre.upd _ _ _, tab := tabs_upd er tb hl, ow := fun x z => .inl (le.ow x z), er := er', lent := fun j c hc => ⟨le.back j c hc, rfl⟩, lent' := fun j c hc => le.lent j c hc }
end
end DL
set_option maxRecDepth 100000
set_option maxHeartbeats 1000000
namespace DL
open PySem PySem.Spec L2 LamX

section
variable {K : PySem.W.Frag} {T : Tb} {E0 B B' BN BL O O' N : As} {σ σ1 σ2 : L2.St} {ρ ρ1 ρ2 ρ3 : DEnv} {H H1 H2 H3 : Hp} {vs us : List V} {rs qs : List RV} {v u : V} {r q : RV} {d : D} {ds : List D} {X : Cx} {e e1 e2 tg iter : Expr} {es : List Expr} {st : Stmt} {sts : List Stmt} {pos : Pos}

/-! ### a, b = e1, e2 -/
structure PutA (K : PySem.W.Frag) (E0 B N : As) (σ : L2.St) (H : Hp) (ρ : DEnv) (σ' : L2.St) (ρ' : DEnv) : Prop where
  er : ER K E0 B σ' H ρ'
  ow : ∀ x, Ow σ' ρ' x → Ow σ ρ x ∨ N x
  lent : ∀ (j : Nat) (b : Box), ρ[j]? = some (.lent b) → ρ'[j]? = some (.lent b) ∧ σ'[j]? = σ[j]?
  lent' : ∀ (j : Nat) (b : Box), ρ'[j]? = some (.lent b) → ρ[j]? = some (.lent b)
theorem putK_new {i : Nat} {b : Box} {k : DEnv → Prop} (h : putK ρ i (.new b) k) : (∀ b, ρ[i]? ≠ some (.lent b)) ∧ i < ρ.length ∧ k (ρ.set i (.own b)) := by
  unfold putK at h
  cases e : ρ[i]? with
  | none => rw [e] at h; exact h.elim
  | some s =>
    rw [e] at h
    have il : i < ρ.length := (List.getElem?_eq_some_iff.mp e).1
    cases s with
    | lent b => exact h.elim
    | emp => exact ⟨fun b z => (nomatch z), il, h⟩
    | sh x => exact ⟨fun b z => (nomatch z), il, h⟩
    | own x => exact ⟨fun b z => (nomatch z), il, h⟩
theorem lent_set {i : Nat} {s : Sl} {w : Option V} (hs : ∀ b, s ≠ .lent b) (hn : ∀ b, ρ[i]? ≠ some (.lent b)) (hi : i < ρ.length) :
    (∀ (j : Nat) (b : Box), ρ[j]? = some (.lent b) → (ρ.set i s)[j]? = some (.lent b) ∧ (σ.set i w)[j]? = σ[j]?) ∧ ∀ (j : Nat) (b : Box), (ρ.set i s)[j]? = some (.lent b) → ρ[j]? = some (.lent b) := by
  refine ⟨fun j b hb => ?_, fun j b hb => ?_⟩
  · have n : i ≠ j := fun z => by subst z; exact hn b hb
    exact ⟨by rw [List.getElem?_set_ne n]; exact hb, by rw [List.getElem?_set_ne n]⟩
  · by_cases e : i = j
    · subst e
      rw [List.getElem?_set_self hi] at hb
      exact (hs b (Option.some.inj hb)).elim
    · rw [List.getElem?_set_ne e] at hb; exact hb
def PR (K : PySem.W.Frag) (E0 B N : As) (σ : L2.St) (H : Hp) (ρ : DEnv) (v : V) : RV → Prop
  | .val d => Rp K (B.or (Ow σ ρ)) H v d
  | .new b => ∃ a, v = .ref a ∧ N a ∧ ¬ B a ∧ ¬ E0 a ∧ BxR K ((B.or N).or (Ow σ ρ)) H a b
  | .var _ => False
theorem put1 {i : Nat} {k : DEnv → Prop} (er : ER K E0 (B.or N) σ H ρ) (hr : PR K E0 B N σ H ρ v r) (h : putK ρ i r k) : ∃ ρ', k ρ' ∧ PutA K E0 B N σ H ρ (σ.set i (some v)) ρ' := by
  cases r with
  | val d =>
    obtain ⟨h1, h2, h3⟩ := putK_val h
    have eB : ER K E0 B σ H ρ := er.mono fun _ z => .inl z
    obtain ⟨e1, o1⟩ := eB.put_sh h1 hr h2
    obtain ⟨l1, l2⟩ := lent_set (σ := σ) (w := some v) (s := .sh d) (fun b z => (nomatch z)) h1 h2
    exact ⟨_, h3, e1, fun x z => .inl (o1 x z), l1, l2⟩
  | new b =>
    obtain ⟨a, ev, hN, nB, nE, q⟩ := hr
    subst ev
    obtain ⟨h1, h2, h3⟩ := putK_new h
    obtain ⟨e1, o1⟩ := er.put_own h1 q hN nB nE h2
    obtain ⟨l1, l2⟩ := lent_set (σ := σ) (w := some (V.ref a)) (s := .own b) (fun b z => (nomatch z)) h1 h2
    exact ⟨_, h3, e1, fun x z => (o1 x z).imp id fun z => by rw [z]; exact hN, l1, l2⟩
  | var i => exact hr.elim
/-- data, or new -/
theorem fzN_ok {k : RV → DEnv → Prop} (er : ER K E0 BN σ H1 ρ) (m : ∀ a, BL a → BN a) (h : R1 K (BN.or (Ow σ ρ)) σ H H1 v r) (hq : wPar.fzN ρ r k) :
    ∃ r' ρ', k r' ρ' ∧ ER K E0 BN σ H1 ρ' ∧ Le ρ ρ' ∧ ((∃ d, r' = .val d ∧ (∀ b, r ≠ .new b) ∧ Rp K (BN.or (Ow σ ρ')) H1 v d) ∨ ∃ b, r' = .new b ∧ r = .new b ∧ ρ' = ρ) := by
  cases r with
  | new b => exact ⟨.new b, ρ, hq, er, .refl _, .inr ⟨b, rfl, rfl, rfl⟩⟩
  | val d =>
    obtain ⟨d', ρ', f, hk⟩ := fzK_some (show fzK ρ (.val d) fun d ρ1 => k (.val d) ρ1 from hq)
    obtain ⟨e1, l1, q1⟩ := fz_ok (BL := BN) er (fun _ z => z) h (fun b a z => (nomatch z)) f
    exact ⟨.val d', ρ', hk, e1, l1, .inl ⟨d', rfl, fun b z => (nomatch z), q1⟩⟩
  | var i =>
    obtain ⟨d', ρ', f, hk⟩ := fzK_some (show fzK ρ (.var i) fun d ρ1 => k (.val d) ρ1 from hq)
    obtain ⟨e1, l1, q1⟩ := fz_ok (BL := BN) er (fun _ z => z) h (fun b a z => (nomatch z)) f
    exact ⟨.val d', ρ', hk, e1, l1, .inl ⟨d', rfl, fun b z => (nomatch z), q1⟩⟩
theorem s_par {i j : Nat} {x y : Str} {a b : Expr} {wa : WA} {px py pt : Pos} {kt k2 pt2} (hc : X.calm = true) (hN : X.N.Nodup) (ha : PA X [a, b] (tA X.K T wa)) (hi : X.N[i]? = some x := by rfl) (hj : X.N[j]? = some y := by rfl) (hij : i ≠ j := by decide)
    (hx : X.env.scope.names.lookup x = some .local := by rfl) (hy : X.env.scope.names.lookup y = some .local := by rfl)
    (hw : swappedStores [.Tuple [.Name x px, .Name y py] kt pt] (.Tuple [a, b] k2 pt2) X.env = pure (some [x, y]) := by rfl)
    (hs : swapsWithSole [.Tuple [.Name x px, .Name y py] kt pt] (.Tuple [a, b] k2 pt2) pos.line X.env = pure false := by rfl) :
    PS X (.Assign [.Tuple [.Name x px, .Name y py] kt pt] (.Tuple [a, b] k2 pt2) pos) (tS X.K T (wPar i j wa)) :=
  (ps_par hc hN hi hj hij hx hy ha hw hs).imp fun D σ H h => by
    obtain ⟨E0, B, ρ, P, er, tb, hw, k, _⟩ := h
    refine ⟨E0, B, ρ, _, er, tb, hw, fun vs H1 rs ρ1 q A => ?_⟩
    have hq : ∃ r1 r2, rs = [r1, r2] ∧ wPar.fzzK ρ1 r1 r2 fun r1 r2 ρ2 => putK ρ2 i r1 fun ρ3 => putK ρ3 j r2 P.nx := by
      match rs, q with
      | [r1, r2], q => exact ⟨r1, r2, rfl, q⟩
      | [], q => exact q.elim
      | [_], q => exact q.elim
      | _ :: _ :: _ :: _, q => exact q.elim
    obtain ⟨r1, r2, ers, hq⟩ := hq
    subst ers
    have hl := A.rr.len
    obtain ⟨v1, v2, ev⟩ : ∃ v1 v2, vs = [v1, v2] := by
      match vs, hl with
      | [v1, v2], _ => exact ⟨v1, v2, rfl⟩
    subst ev
    refine ⟨v1, v2, rfl, ?_⟩
    -- both made data or new
    obtain ⟨s1, ρ2, hq, e2, l2, q1⟩ := fzN_ok (BL := B) A.er (fun _ z => .inl z) (A.rr.at_ 0 v1 r1 rfl rfl) (show wPar.fzN ρ1 r1 fun r1 ρ2 => wPar.fzN ρ2 r2 fun r2 ρ3 => putK ρ3 i r1 fun ρ4 => putK ρ4 j r2 P.nx from hq)
    obtain ⟨s2, ρ3, hq, e3, l3, q2⟩ := fzN_ok (BL := B) e2 (fun _ z => .inl z) ((A.rr.at_ 1 v2 r2 rfl rfl).mono (As.or_mono (fun _ z => z) fun a z => l2.ow a z)) hq
    have le3 := l2.trans l3
    let N1 : As := fun a => (∃ b, r1 = .new b) ∧ v1 = .ref a
    let N2 : As := fun a => (∃ b, r2 = .new b) ∧ v2 = .ref a
    have hN : ∀ a, N1 a ∨ N2 a → Nw [v1, v2] [r1, r2] a := fun a z => by
      rcases z with ⟨⟨b, e⟩, e'⟩ | ⟨⟨b, e⟩, e'⟩
      · subst e; subst e'; exact ⟨0, b, rfl, rfl⟩
      · subst e; subst e'; exact ⟨1, b, rfl, rfl⟩
    have hN' : ∀ a, Nw [v1, v2] [r1, r2] a → N1 a ∨ N2 a := fun a ⟨n, b, z1, z2⟩ => by
      match n, z1, z2 with
      | 0, z1, z2 => exact .inl ⟨⟨b, by simpa using z1⟩, by simpa using z2⟩
      | 1, z1, z2 => exact .inr ⟨⟨b, by simpa using z1⟩, by simpa using z2⟩
      | n + 2, z1, z2 => simp at z1
    have fresh : ∀ a, Nw [v1, v2] [r1, r2] a → H a = none := fun a ⟨n, b, h1, h2⟩ => by
      obtain ⟨x, e, nn, _⟩ := A.rr.at_ n _ _ h2 h1
      cases e; exact nn
    have notB := Nw.notB er A
    have notE : ∀ a, Nw [v1, v2] [r1, r2] a → ¬ E0 a := fun a z w => by
      obtain ⟨o, h1⟩ := er.e0 a w
      rw [fresh a z] at h1; cases h1
    have e3' : ER X.K E0 ((B.or N2).or N1) σ H1 ρ3 := e3.mono fun a z => by
      rcases z with (z | z) | z
      · exact .inl z
      · exact .inr (hN a (.inr z))
      · exact .inr (hN a (.inl z))
    have mB : ∀ a, (((B.or N2).or N1).or (Ow σ ρ3)) a → ((B.or (Nw [v1, v2] [r1, r2])).or (Ow σ ρ3)) a := As.or_mono (fun a z => by
      rcases z with (z | z) | z
      · exact .inl z
      · exact .inr (hN a (.inr z))
      · exact .inr (hN a (.inl z))) fun _ z => z
    have ne12 : ∀ a, N1 a → ¬ N2 a := fun a ⟨⟨b, e⟩, e'⟩ ⟨⟨c, f⟩, f'⟩ => by
      subst e; subst f; subst e'
      have := A.rr.inj 0 1 b c a rfl rfl rfl (by rw [f'] <;> rfl)
      cases this
    have p1 : PR X.K E0 (B.or N2) N1 σ H1 ρ3 v1 s1 := by
      rcases q1 with ⟨d, es, _, rp⟩ | ⟨b, es, er1, _⟩
      · subst es
        exact Rp.mono rp fun a z => by
          rcases z with (z | z) | z
          · exact .inl (.inl z)
          · exact .inl (.inr (hN a (.inr z)))
          · exact .inr (l3.ow a z)
      · subst es; subst er1
        obtain ⟨a, ea, _, hb⟩ := A.rr.at_ 0 v1 _ rfl rfl
        subst ea
        have n1 : N1 a := ⟨⟨b, rfl⟩, rfl⟩
        exact ⟨a, rfl, n1, fun z => z.elim (notB a (hN a (.inl n1))) (ne12 a n1), notE a (hN a (.inl n1)), hb.mono fun x z => As.or_mono (fun _ z => z) (fun x z => le3.ow x z) x (mB x z)⟩
    obtain ⟨ρ4, hq, P1⟩ := put1 e3' p1 hq
    have mo : ∀ a, ((B.or N2).or (Ow (σ.set i (some v1)) ρ4)) a → ((B.or (Nw [v1, v2] [r1, r2])).or (Ow σ ρ3)) a := fun a z => by
      rcases z with (z | z) | z
      · exact .inl (.inl z)
      · exact .inl (.inr (hN a (.inr z)))
      · rcases P1.ow a z with z | z
        · exact .inr z
        · exact .inl (.inr (hN a (.inl z)))
    have p2 : PR X.K E0 B N2 (σ.set i (some v1)) H1 ρ4 v2 s2 := by
      rcases q2 with ⟨d, es, _, rp⟩ | ⟨b, es, er1, er2⟩
      · subst es
        exact Rp.mono rp fun a z => mo a (As.or_mono (fun _ z => .inl z) (fun _ z => z) a z)
      · subst es; subst er1; subst er2
        obtain ⟨a, ea, _, hb⟩ := A.rr.at_ 1 v2 _ rfl rfl
        subst ea
        have n2 : N2 a := ⟨⟨b, rfl⟩, rfl⟩
        exact ⟨a, rfl, n2, notB a (hN a (.inr n2)), notE a (hN a (.inr n2)), hb.mono fun x z => As.or_mono (fun _ z => z) (fun x z => le3.ow x z) x (mo x z)⟩
    obtain ⟨ρ5, hq, P2⟩ := put1 P1.er p2 hq
    refine k _ _ ρ5 hq { stp := A.stp, fre := A.fre, tab := A.tab, ow := fun a z => ?_, er := P2.er, lent := fun n b hb => ?_, lent' := fun n b hb => ?_ }
    · rcases P2.ow a z with z | z
      · rcases P1.ow a z with z | z
        · exact .inl ((A.le.trans le3).ow a z)
        · exact .inr (fresh a (hN a (.inl z)))
      · exact .inr (fresh a (hN a (.inr z)))
    · obtain ⟨b', hb'⟩ := (A.le.trans le3).back n b hb
      obtain ⟨g1, g2⟩ := P1.lent n b' hb'
      obtain ⟨g3, g4⟩ := P2.lent n b' g1
      exact ⟨⟨b', g3⟩, g4.trans g2⟩
    · exact (A.le.trans le3).lent n b (P1.lent' n b (P2.lent' n b hb))

/-! ### x[i] = e, x a thing of one's own or lent -/
def intK (d : D) (k : Int → Prop) : Prop := match d with
  | .int i => k i
  | _ => False
def lstOf (ρ : DEnv) (i : Nat) (k : List D → Prop) : Prop := match ρ[i]? with
  | some (.own (.lst ds)) => k ds
  | some (.lent (.lst ds)) => k ds
  | _ => False
theorem lstOf_some {i : Nat} {k : List D → Prop} (h : lstOf ρ i k) : ∃ ds, IsBx ρ i (.lst ds) ∧ k ds := by
  unfold lstOf at h
  cases e : ρ[i]? with
  | none => rw [e] at h; exact h.elim
  | some s =>
    rw [e] at h
    cases s with
    | emp => exact h.elim
    | sh d => exact h.elim
    | own b => cases b with
      | lst ds => exact ⟨ds, .inl e, h⟩
      | dct kvs => exact h.elim
    | lent b => cases b with
      | lst ds => exact ⟨ds, .inr e, h⟩
      | dct kvs => exact h.elim
def gSb (x : Nat) (wi : WE) : WG := fun d ρ Q => lstOf ρ x fun _ => wi ρ fun r ρ1 => lookK ρ1 r fun di => intK di fun k => lstOf ρ1 x fun ds => match ixN ds.length k with
  | some j => Q (setBx ρ1 x (.lst (ds.set j d)))
  | none => False
theorem g_sub {x : Nat} {xn : Str} {i : Expr} {wi : WE} {px : Pos} (hi : PE X i (tE X.K T wi)) (hN : X.N[x]? = some xn := by rfl) (hv : Vis X.env.scope xn := by first | exact Or.inl rfl | exact Or.inr (Or.inl rfl) | exact Or.inr (Or.inr rfl))
    (hd : (xn == ("__debug__" : Str)) = false := by decide) (hcd : (xn == ("__classdict__" : Str)) = false := by decide)
    (ha : ∀ v, assign (.Subscript (.Name xn px) i pos) X.env v = (do
      let ov ← holding [v] (eval (.Name xn px) X.env)
      let iv ← holding [v, ov] (eval i X.env)
      standAt pos
      holding [v, ov, iv] (setItem ov iv v)
      release [v, ov, iv] []) := by intro _; rfl) : PG X (.Subscript (.Name xn px) i pos) (tG X.K T [] (gSb x wi)) :=
  (pg_sub (pe_var hN hv hd hcd) hi set_list ha).imp fun v σ H Q h => by
    obtain ⟨E0, B, ρ, d, Qd, er, tb, hr, hw, k⟩ := h
    obtain ⟨ds0, hb0, hw⟩ := lstOf_some hw
    obtain ⟨a, h1, _, _⟩ := er.bx x _ hb0
    refine ⟨.ref a, h1, E0, B, ρ, _, er, tb, hw, fun iv H2 r ρ1 q A => ?_⟩
    obtain ⟨di, hd, q⟩ := lookK_some q
    cases di with
    | int n =>
      have q : lstOf ρ1 x fun ds => match ixN ds.length n with | some j => Qd (setBx ρ1 x (.lst (ds.set j d))) | none => False := q
      obtain ⟨ds, hb, q⟩ := lstOf_some q
      cases ej : ixN ds.length n with
      | none => rw [ej] at q; exact q.elim
      | some j =>
        rw [ej] at q
        have S := A.saft
        obtain ⟨a', h1', h2, h3⟩ := S.er.bx x _ hb
        rw [h1] at h1'; cases h1'
        obtain ⟨vs, h4, h5⟩ := h3
        have ei : iv = .int n := (A.look (j := 0) rfl rfl hd).int
        refine ⟨a, vs, n, j, rfl, ei, h4, by rw [h5.length]; exact ej, ?_⟩
        exact k σ _ _ q (S.trans (S.er.mut S.tab hb h1 h4 (RpL.set (hr.after er S) j h5))) ⟨rfl, fun _ _ => rfl, setBx_len.trans A.le.len, fun n c hc => let ⟨c1, h1⟩ := (le_kin (ρ := ρ1) setBx_len fun _ => kin_setBx).own n c hc; A.le.own n c1 h1⟩
    | _ => exact (show False from q).elim
end
end DL
set_option maxRecDepth 100000
set_option maxHeartbeats 1000000
namespace DL
open PySem PySem.Spec L2 LamX

/-- the slots vs emptied (none of them lent) -/
def clr (ρ : DEnv) : List Nat → Option DEnv
  | [] => some ρ
  | v :: vs => match clr ρ vs with
    | none => none
    | some ρ' => match ρ'[v]? with
      | some (.lent _) => none
      | _ => some (ρ'.set v .emp)
def clK (ρ : DEnv) (vs : List Nat) (k : DEnv → Prop) : Prop := match clr ρ vs with
  | some ρ' => k ρ'
  | none => False
def forL (g : WG) (wb : WS) : List D → DEnv → DP → Prop
  | [], ρ, P => P.nx ρ
  | d :: ds, ρ, P => g d ρ fun ρ1 => wb ρ1 { nx := fun ρ2 => forL g wb ds ρ2 P, rt := P.rt, bk := P.nx, ct := fun ρ2 => forL g wb ds ρ2 P }
def wFor (wi : WI) (g : WG) (wb : WS) : WS := fun ρ P => wi ρ fun ds ρ1 => forL g wb ds ρ1 P
def lcL (vs : List Nat) (g : WG) (tt : WT) (te : WE) : List D → List D → DEnv → (List D → DEnv → Prop) → Prop
  | [], acc, ρ, k => k acc ρ
  | d :: ds, acc, ρ, k => clK ρ vs fun ρ => g d ρ fun ρ1 => tt ρ1 fun b ρ2 => match b with
    | true => te ρ2 fun r ρ3 => fzK ρ3 r fun y ρ4 => acc.length < 16777216 ∧ clK ρ4 vs fun ρ5 => lcL vs g tt te ds (acc ++ [y]) ρ5 k
    | false => clK ρ2 vs fun ρ5 => lcL vs g tt te ds acc ρ5 k
def wLc (wi : WI) (g : WG) (tt : WT) (te : WE) (vs : List Nat) : WE := fun ρ Q => wi ρ fun ds ρ1 => clK ρ1 vs fun ρ2 => lcL vs g tt te ds [] ρ2 fun acc ρ3 => Q (.new (.lst acc)) ρ3
def lc2L (vs vs1 : List Nat) (g : WG) (tt : WT) (wi1 : WI) (g1 : WG) (tt1 : WT) (te : WE) : List D → List D → DEnv → (List D → DEnv → Prop) → Prop
  | [], acc, ρ, k => k acc ρ
  | d :: ds, acc, ρ, k => clK ρ vs fun ρ => g d ρ fun ρ1 => tt ρ1 fun b ρ2 => match b with
    | true => wi1 ρ2 fun ds1 ρ3 => clK ρ3 vs1 fun ρ4 => lcL vs1 g1 tt1 te ds1 acc ρ4 fun acc' ρ5 => clK ρ5 vs fun ρ6 => lc2L vs vs1 g tt wi1 g1 tt1 te ds acc' ρ6 k
    | false => clK ρ2 vs fun ρ6 => lc2L vs vs1 g tt wi1 g1 tt1 te ds acc ρ6 k
def wLc2 (wi : WI) (g : WG) (tt : WT) (wi1 : WI) (g1 : WG) (tt1 : WT) (te : WE) (vs vs1 : List Nat) : WE := fun ρ Q => wi ρ fun ds ρ1 => clK ρ1 vs fun ρ2 => lc2L vs vs1 g tt wi1 g1 tt1 te ds [] ρ2 fun acc ρ3 => Q (.new (.lst acc)) ρ3

section
variable {K : PySem.W.Frag} {T : Tb} {E0 B B' BN BL O O' N : As} {σ σ0 σ1 σ2 : L2.St} {ρ ρ1 ρ2 ρ3 : DEnv} {H H1 H2 H3 : Hp} {vs us : List V} {rs qs : List RV} {v u : V} {r q : RV} {d : D} {ds acc : List D} {X : Cx} {e e1 e2 tg iter : Expr} {es : List Expr} {st : Stmt} {sts : List Stmt} {pos : Pos}

theorem clK_some {is : List Nat} {k : DEnv → Prop} (h : clK ρ is k) : ∃ ρ', clr ρ is = some ρ' ∧ k ρ' := by
  unfold clK at h
  cases e : clr ρ is with
  | none => rw [e] at h; exact h.elim
  | some ρ' => rw [e] at h; exact ⟨ρ', rfl, h⟩
theorem clr_len : ∀ {is : List Nat} {ρ' : DEnv}, clr ρ is = some ρ' → ρ'.length = ρ.length
  | [], ρ', h => by cases h; rfl
  | v :: is, ρ', h => by
    simp only [clr] at h
    cases e : clr ρ is with
    | none => rw [e] at h; cases h
    | some ρ1 =>
      rw [e] at h
      have l := clr_len e
      simp only at h
      split at h
      · cases h
      · cases h; rw [List.length_set]; exact l
/-- which of the slots are things -/
theorem clr_get : ∀ {is : List Nat} {ρ' : DEnv} {j : Nat}, clr ρ is = some ρ' → (j ∉ is → ρ'[j]? = ρ[j]?) ∧ (j ∈ is → (∀ s, ρ'[j]? = some s → s = .emp) ∧ ∀ b, ρ[j]? ≠ some (.lent b))
  | [], ρ', j, h => by cases h; exact ⟨fun _ => rfl, fun h => by simp at h⟩
  | v :: is, ρ', j, h => by
    simp only [clr] at h
    cases e : clr ρ is with
    | none => rw [e] at h; cases h
    | some ρ1 =>
      rw [e] at h
      obtain ⟨q1, q2⟩ := clr_get (j := j) e
      have hl : (∀ b, ρ1[v]? ≠ some (.lent b)) ∧ ρ' = ρ1.set v .emp := by
        simp only at h
        split at h
        · cases h
        · rename_i hn
          exact ⟨fun b z => hn b z, (Option.some.inj h).symm⟩
      obtain ⟨hl, eρ⟩ := hl
      subst eρ
      refine ⟨fun hj => ?_, fun hj => ?_⟩
      · rw [List.mem_cons, not_or] at hj
        rw [List.getElem?_set_ne (Ne.symm hj.1)]
        exact q1 hj.2
      · by_cases ej : v = j
        · subst ej
          refine ⟨fun s hs => ?_, fun b z => ?_⟩
          · by_cases il : v < ρ1.length
            · rw [List.getElem?_set_self il] at hs; exact (Option.some.inj hs).symm
            · rw [List.getElem?_eq_none (by simpa using il)] at hs; cases hs
          · by_cases hv : v ∈ is
            · exact (q2 hv).2 b z
            · exact hl b ((q1 hv).trans z)
        · have hj' : j ∈ is := (List.mem_cons.mp hj).resolve_left (Ne.symm ej)
          obtain ⟨p1, p2⟩ := q2 hj'
          exact ⟨fun s hs => p1 s (by rw [List.getElem?_set_ne ej] at hs; exact hs), p2⟩
/-- the environment without the slots is, whatever stands there -/
theorem ER.clear {is : List Nat} {ρ' : DEnv} (er : ER K E0 B σ H ρ) (c : clr ρ is = some ρ') (hl : σ1.length = σ.length) (hs : ∀ j : Nat, j ∉ is → σ1[j]? = σ[j]?) :
    ER K E0 B σ1 H ρ' ∧ (∀ a, Ow σ1 ρ' a → Ow σ ρ a) ∧ Le ρ ρ' := by
  have bx : ∀ {j : Nat} {b : Box}, IsBx ρ' j b → j ∉ is ∧ IsBx ρ j b := fun {j b} hb => by
    have nj : j ∉ is := fun z => by
      rcases hb with hb | hb
      · have := ((clr_get (j := j) c).2 z).1 _ hb; cases this
      · have := ((clr_get (j := j) c).2 z).1 _ hb; cases this
    refine ⟨nj, ?_⟩
    unfold IsBx at hb ⊢
    rw [(clr_get c).1 nj] at hb; exact hb
  have ow : ∀ a, Ow σ1 ρ' a → Ow σ ρ a := fun a ⟨j, b, hb, hj⟩ => by
    obtain ⟨nj, q⟩ := bx hb
    exact ⟨j, b, q, by rw [← hs j nj]; exact hj⟩
  have m : ∀ a, (B.or (Ow σ1 ρ')) a → (B.or (Ow σ ρ)) a := As.or_mono (fun _ z => z) ow
  refine ⟨{ len := by rw [clr_len c, hl]; exact er.len, sh := fun j d hd => ?_, bx := fun j b hb => ?_, inj := fun i j b c' a h1 h2 h3 h4 => ?_, bo := er.bo, e0 := er.e0, new := fun j b a h1 h2 => ?_ }, ow, ⟨clr_len c, fun j b hb => ?_, fun j b hb => ?_, fun j b hb => ?_⟩⟩
  · have nj : j ∉ is := fun z => by have := ((clr_get (j := j) c).2 z).1 _ hd; cases this
    obtain ⟨u, q1, q2⟩ := er.sh j d (by rw [← (clr_get c).1 nj]; exact hd)
    exact ⟨u, by rw [hs j nj]; exact q1, q2.mono m⟩
  · obtain ⟨nj, q⟩ := bx hb
    obtain ⟨a, q1, q2, q3⟩ := er.bx j b q
    exact ⟨a, by rw [hs j nj]; exact q1, q2, q3.mono m⟩
  · obtain ⟨n1, q1⟩ := bx h1
    obtain ⟨n2, q2⟩ := bx h2
    exact er.inj i j b c' a q1 q2 (by rw [← hs i n1]; exact h3) (by rw [← hs j n2]; exact h4)
  · obtain ⟨nj, q⟩ := bx (.inl h1)
    exact er.new j b a (by rw [← (clr_get c).1 nj]; exact h1) (by rw [← hs j nj]; exact h2)
  · obtain ⟨nj, q⟩ := bx (.inl hb)
    exact ⟨b, by rw [← (clr_get c).1 nj]; exact hb⟩
  · obtain ⟨nj, q⟩ := bx (.inr hb)
    exact ⟨b, by rw [← (clr_get c).1 nj]; exact hb⟩
  · have nj : j ∉ is := fun z => ((clr_get (j := j) c).2 z).2 b hb
    exact ⟨b, by rw [(clr_get c).1 nj]; exact hb⟩

/-! ### for -/
theorem SAft.same (a : SAft K T E0 B σ H ρ σ1 H1 ρ1) (s : Same H1 H2) (f : Fre H1 H2) : SAft K T E0 B σ H ρ σ1 H2 ρ1 where
  stp := a.stp.trans (Same.stp (O := Ow σ ρ) s) fun _ z => .inl z
  fre := a.fre.trans f
  tab := a.tab.ext s
  ow := a.ow
  er := a.er.same s f
  lent := a.lent
  lent' := a.lent'
theorem s_for {body : List Stmt} {wi : WI} {g : WG} {wb : WS} {S : List Nat} (hp : PassesOwn (model X.prog X.w) X.A X.env X.xe) (hc : X.calm = true) (hi : PI X tg iter (tI X.K T wi)) (hg : PG X tg (tG X.K T S g)) (hb : PSs X body (tS X.K T wb)) (hs : ∀ x, foldedSetIterable iter X.env x = pure x := by intro _; rfl) :
    PS X (.For tg iter body [] pos) (tS X.K T (wFor wi g wb)) := (ps_for hp hc hi hg hb hs).imp fun D σ H h => by
  obtain ⟨E0, B, ρ, P, er, tb, hw, k, kr, kb, kc⟩ := h
  refine ⟨E0, B, ρ, _, er, tb, hw, fun J H1 ds ρ1 q A I => ?_⟩
  have S0 := A.saft
  refine ⟨fun i m σ' H' => m + i = ds.length ∧ ∃ ρ', SAft X.K T E0 B σ H1 ρ1 σ' H' ρ' ∧ forL g wb (ds.drop i) ρ' P, ⟨ds.length, rfl, ρ1, .refl S0.er S0.tab, q⟩, fun i m σ' H' hW => ?_⟩
  obtain ⟨em, ρ', S', q⟩ := hW
  have st : Stp (B.or (Ow σ ρ1)) H1 H' := S'.stp.mono fun _ z => .inr z
  by_cases hi : i < ds.length
  · refine .inr ⟨I.go i H' st hi, fun σ2 H2 => ∃ ρ2, SAft X.K T E0 B σ H1 ρ1 σ2 H2 ρ2 ∧ forL g wb (ds.drop (i + 1)) ρ2 P, fun σ2 H2 ⟨ρ2, q1, q2⟩ => ⟨m - 1, by omega, by omega, ρ2, q1, q2⟩, fun x H2 hy => ?_⟩
    obtain ⟨d, hd, sm, fr, rp⟩ := I.yld i H' x H2 (B.or (Ow σ' ρ')) st (fun a z => by
      rcases z with z | z
      · exact .inl (.inl z)
      · exact (S'.ow a z).imp .inr id) S'.er.ob hi hy
    have S2 := S'.same sm fr
    have ed : ds.drop i = d :: ds.drop (i + 1) := by
      have h1 := List.getElem?_eq_some_iff.mp hd
      obtain ⟨h1, h2⟩ := h1
      rw [List.drop_eq_getElem_cons h1, h2]
    rw [ed] at q
    refine ⟨E0, B, ρ', d, _, S2.er, S2.tab, rp, q, fun σ3 H3 ρ3 q A3 _ => ?_⟩
    have S3 := S2.trans A3
    refine ⟨E0, B, ρ3, _, S3.er, S3.tab, q, fun σ4 H4 ρ4 q A4 => ⟨ρ4, S3.trans A4, q⟩, fun v H4 r ρ4 q A4 => kr v H4 r ρ4 q ((S0.trans S3).ret A4), fun σ4 H4 ρ4 q A4 => k σ4 H4 ρ4 q ((S0.trans S3).trans A4), fun σ4 H4 ρ4 q A4 => ⟨ρ4, S3.trans A4, q⟩⟩
  · have e : ds.drop i = [] := List.drop_of_length_le (by omega)
    rw [e] at q
    exact .inl ⟨I.stop i H' st (by omega), k σ' H' ρ' q (S0.trans S')⟩

/-! ### comprehensions -/
/-- the state between two turns: D the new list, acc its items -/
structure CSt (K : PySem.W.Frag) (T : Tb) (E0 B : As) (Dd : Addr) (σ : L2.St) (H0 : Hp) (ρ0 : DEnv) (H : Hp) (ρ : DEnv) (acc : List D) : Prop where
  er : ER K E0 (B.or fun x => x = Dd) σ H ρ
  tab : Tabs T H
  fre : Fre H0 H
  le : Le ρ0 ρ
  stp : Stp (As.or (Ow σ ρ0) fun x => x = Dd) H0 H
  acc : ∃ xs, H Dd = some (.lst xs) ∧ RpL K ((B.or fun x => x = Dd).or (Ow σ ρ)) H xs acc
theorem wipe_get {σ : L2.St} {j : Nat} : ∀ {is : List Nat}, j ∉ is → (L2.wipe σ is)[j]? = σ[j]? := fun h => wipe_out h
theorem wipe_but {is S : List Nat} (hS : ∀ j ∈ S, j ∈ is) (b : But S (L2.wipe σ is) σ2 ρ ρ1) : L2.wipe σ2 is = L2.wipe σ is := by
  apply List.ext_getElem?
  intro j
  by_cases hj : j ∈ is
  · have key : ∀ (τ : L2.St) (is : List Nat), τ.length = σ.length → j ∈ is → (L2.wipe τ is)[j]? = if j < σ.length then some none else none := by
      intro τ is hl
      induction is with
      | nil => intro h; simp at h
      | cons a is ih =>
        intro h
        show ((L2.wipe τ is).set a none)[j]? = _
        by_cases e : a = j
        · subst e
          by_cases il : a < σ.length
          · rw [List.getElem?_set_self (by rw [L2.wipe_length, hl]; exact il), if_pos il]
          · rw [List.getElem?_eq_none (by simp [L2.wipe_length, hl]; omega), if_neg il]
        · rw [List.getElem?_set_ne e]
          exact ih ((List.mem_cons.mp h).resolve_left (Ne.symm e))
    rw [key σ2 is (by have := b.1; rw [L2.wipe_length] at this; exact this) hj, key σ is rfl hj]
  · rw [wipe_get hj, wipe_get hj, b.2.1 j (fun z => hj (hS j z)), wipe_get hj]
/-- all turns: from a state to the state behind the last one -/
theorem lc_turns {is S : List Nat} {g : WG} {tt : WT} {te : WE} {J : It} {Dd : Addr} {k : List D → DEnv → Prop} {Qd : Hp → Prop} {H0 : Hp} {ρ0 : DEnv} (hS : ∀ j ∈ S, j ∈ is) (h : lcL is g tt te ds acc ρ1 k) (C : CSt K T E0 B Dd σ H0 ρ0 H1 ρ1 acc)
    {Ob : As} {Hb : Hp} (I : ItD K Ob Hb J ds) (stb : Stp Ob Hb H1) (avb : ∀ a, ((B.or fun x => x = Dd).or (Ow σ ρ1)) a → Ob a ∨ Hb a = none) (nt : ∀ H ρ acc, k acc ρ → CSt K T E0 B Dd σ H0 ρ0 H ρ acc → Qd H) :
    ∃ W : Nat → Nat → Hp → Prop, (∃ m, W 0 m H1) ∧ ∀ i m H, W i m H → (J.stop i H ∧ Qd H) ∨ (J.go i H ∧ ∃ Nx : Hp → Prop, (∀ H', Nx H' → ∃ m', m' < m ∧ W (i + 1) m' H') ∧ ∀ x H', J.yld i H x H' → tG K T S g x (L2.wipe σ is) H' fun σ2 H2 => L2.wipe σ2 is = L2.wipe σ is ∧ tT K T tt σ2 H2 fun b H3 =>
      if b = true then tE K T te σ2 H3 fun y H4 => ∃ acc, H4 Dd = some (.lst acc) ∧ acc.length < sizeLine ∧ Nx (upd H4 Dd (.lst (acc ++ [y]))) else Nx H3) := by
  refine ⟨fun i m H => m + i = ds.length ∧ ∃ ρ acc, CSt K T E0 B Dd σ H0 ρ0 H ρ acc ∧ Stp Ob Hb H ∧ (∀ a, Ow σ ρ a → Ow σ ρ1 a) ∧ lcL is g tt te (ds.drop i) acc ρ k, ⟨ds.length, rfl, ρ1, acc, C, stb, fun _ z => z, h⟩, fun i m H hW => ?_⟩
  obtain ⟨em, ρ, acc', C', st, ow1, q⟩ := hW
  by_cases hi : ¬ i < ds.length
  · have e : ds.drop i = [] := List.drop_of_length_le (by omega)
    rw [e] at q
    exact .inl ⟨I.stop i H st (by omega), nt H ρ acc' q C'⟩
  have hi : i < ds.length := by omega
  refine .inr ⟨I.go i H st hi, fun H' => ∃ ρ' acc'', CSt K T E0 B Dd σ H0 ρ0 H' ρ' acc'' ∧ Stp Ob Hb H' ∧ (∀ a, Ow σ ρ' a → Ow σ ρ1 a) ∧ lcL is g tt te (ds.drop (i + 1)) acc'' ρ' k, fun H' ⟨ρ', a', c1, c2, c3, c4⟩ => ⟨m - 1, by omega, by omega, ρ', a', c1, c2, c3, c4⟩, fun x H' hy => ?_⟩
  obtain ⟨d, hd, sm, fr, rp⟩ := I.yld i H x H' ((B.or fun x => x = Dd).or (Ow σ ρ)) st (fun a z => by
    rcases z with z | z
    · exact avb a (.inl z)
    · exact avb a (.inr (ow1 a z))) C'.er.ob hi hy
  have ed : ds.drop i = d :: ds.drop (i + 1) := by
    obtain ⟨h1, h2⟩ := List.getElem?_eq_some_iff.mp hd
    rw [List.drop_eq_getElem_cons h1, h2]
  rw [ed] at q
  obtain ⟨ρc, ec, q⟩ := clK_some q
  have er' : ER K E0 (B.or fun x => x = Dd) σ H' ρ := C'.er.same sm fr
  obtain ⟨erc, owc, lec⟩ := er'.clear (σ1 := L2.wipe σ is) ec (L2.wipe_length _ _) fun j hj => wipe_get hj
  have dd : ∀ o, H Dd = some o → H' Dd = some o := fun o z => sm _ _ z
  have nD : ¬ Ow (L2.wipe σ is) ρc Dd := fun ⟨j, b, hb, hj⟩ => by
    obtain ⟨a, q1, q2, _⟩ := erc.bx j b hb
    rw [hj] at q1; cases q1
    exact q2 (.inr rfl)
  -- what was held for the list so far, whatever comes
  have held : ∀ {σ3 : L2.St} {H3 : Hp} {ρ3 : DEnv}, Stp (Ow (L2.wipe σ is) ρc) H' H3 → (∀ a, Ow σ3 ρ3 a → Ow (L2.wipe σ is) ρc a ∨ H' a = none) → ∃ xs, H3 Dd = some (.lst xs) ∧ RpL K ((B.or fun x => x = Dd).or (Ow σ3 ρ3)) H3 xs acc' := fun {σ3 H3 ρ3} s w => by
    obtain ⟨xs, h1, h2⟩ := C'.acc
    have h1' := dd _ h1
    refine ⟨xs, s Dd _ h1' nD (fun ps z => by cases z), (h2.move (Same.stp sm) C'.er.ob (fun _ z => .inl z)).move (s.mono fun a z => .inr (owc a z)) er'.ob fun a z => ?_⟩
    rcases z with z | z
    · exact .inl (.inl z)
    · exact (w a z).imp (fun z => .inr (owc a z)) id
  have stH' : Stp Ob Hb H' := st.trans (Same.stp (O := Ob) sm) fun _ z => .inl z
  have ow2 : ∀ a, Ow (L2.wipe σ is) ρc a → Ow σ ρ1 a := fun a z => ow1 a (owc a z)
  -- back to the outer state
  have back : ∀ {σ3 : L2.St} {H3 : Hp} {ρ3 ρ5 : DEnv} {xs : List V} {acc3 : List D}, Stp (As.or (Ow (L2.wipe σ is) ρc) fun x => x = Dd) H' H3 → Fre H' H3 → Tabs T H3 → Le ρc ρ3 → ER K E0 (B.or fun x => x = Dd) σ3 H3 ρ3 → L2.wipe σ3 is = L2.wipe σ is → clr ρ3 is = some ρ5 → H3 Dd = some (.lst xs) →
      RpL K ((B.or fun x => x = Dd).or (Ow σ3 ρ3)) H3 xs acc3 → CSt K T E0 B Dd σ H0 ρ0 H3 ρ5 acc3 ∧ Stp Ob Hb H3 ∧ ∀ a, Ow σ ρ5 a → Ow σ ρ1 a := fun {σ3 H3 ρ3 ρ5 xs acc3} s f t le e ew ec5 hD hacc => by
    have lenσ : σ.length = σ3.length := by have := congrArg List.length ew; rw [L2.wipe_length, L2.wipe_length] at this; exact this.symm
    obtain ⟨e5, o5, l5⟩ := e.clear (σ1 := σ) ec5 lenσ fun j hj => by
      have := congrArg (fun τ : L2.St => τ[j]?) ew
      have this : (L2.wipe σ3 is)[j]? = (L2.wipe σ is)[j]? := this
      rw [wipe_get hj, wipe_get hj] at this
      exact this.symm
    have le' : Le ρ ρ5 := lec.trans (le.trans l5)
    have s' : Stp (As.or (Ow σ ρ0) fun x => x = Dd) H H3 := (Same.stp (O := As.or (Ow σ ρ0) fun x => x = Dd) sm).trans s fun a z => by
      rcases z with z | z
      · exact .inl (.inl (C'.le.ow a (owc a z)))
      · exact .inl (.inr z)
    refine ⟨⟨e5, t, C'.fre.trans (fr.trans f), C'.le.trans le', C'.stp.trans s' fun _ z => .inl z, xs, hD, hacc.mono (As.or_mono (fun _ z => z) o5)⟩, stH'.trans s fun a z => ?_, fun a z => ow1 a (le'.ow a z)⟩
    rcases z with z | z
    · exact avb a (.inr (ow2 a z))
    · exact avb a (.inl (.inr z))
  refine ⟨E0, _, ρc, d, _, erc, C'.tab.ext sm, rp.mono (As.or_mono (fun _ z => z) owc), q, fun σ2 H2 ρ2 q A2 bt => ?_⟩
  have ew := wipe_but hS bt
  have le2 : Le ρc ρ2 := bt.le A2
  refine ⟨ew, E0, _, ρ2, _, A2.er, A2.tab, q, fun b H3 ρ3 q A3 => ?_⟩
  have S3 := A2.trans A3.saft
  have toD : ∀ {H3 : Hp}, Stp (Ow (L2.wipe σ is) ρc) H' H3 → Stp (As.or (Ow (L2.wipe σ is) ρc) fun x => x = Dd) H' H3 := fun s => s.mono fun _ z => .inl z
  cases b with
  | false =>
    refine L2.iteF ?_
    obtain ⟨ρ5, ec5, q⟩ := clK_some q
    obtain ⟨xs, h1, h2⟩ := held S3.stp S3.ow
    obtain ⟨c1, c2, c3⟩ := back (toD S3.stp) S3.fre S3.tab (le2.trans A3.le) S3.er ew ec5 h1 h2
    exact ⟨ρ5, acc', c1, c2, c3, q⟩
  | true =>
    refine L2.iteT ⟨E0, _, ρ3, _, S3.er, S3.tab, q, fun y H4 r ρ4 q A4 => ?_⟩
    obtain ⟨yd, ρ5, ⟨hz, q⟩, A5, ry⟩ := A4.fz1 S3.er q
    obtain ⟨ρ6, ec6, q⟩ := clK_some q
    have S5 := S3.trans A5.saft
    obtain ⟨xs, h1, h2⟩ := held S5.stp S5.ow
    have nD5 : ¬ Ow σ2 ρ5 Dd := fun ⟨j, b, hb, hj⟩ => by
      obtain ⟨a, q1, q2, _⟩ := S5.er.bx j b hb
      rw [hj] at q1; cases q1
      exact q2 (.inr rfl)
    have sU : Stp ((B.or fun x => x = Dd).or (Ow σ2 ρ5)) H4 (upd H4 Dd (.lst (xs ++ [y]))) := Stp.upd_own (.inl (.inr rfl))
    have eU : ER K E0 (B.or fun x => x = Dd) σ2 (upd H4 Dd (.lst (xs ++ [y]))) ρ5 := by
      refine { len := S5.er.len, sh := fun j x hx => ?_, bx := fun j b hb => ?_, inj := S5.er.inj, bo := fun a z => ?_, e0 := fun a z => (Fre.upd H4 Dd _).some (S5.er.e0 a z).choose_spec, new := S5.er.new }
      · obtain ⟨u, q1, q2⟩ := S5.er.sh j x hx
        exact ⟨u, q1, q2.move sU S5.er.ob fun _ z => .inl z⟩
      · obtain ⟨a, q1, q2, q3⟩ := S5.er.bx j b hb
        refine ⟨a, q1, q2, q3.move sU S5.er.ob (fun _ z => .inl z) fun o ho => ?_⟩
        rw [upd_ne (fun z => q2 (.inr z))]; exact ho
      · by_cases e : a = Dd
        · subst e; exact ⟨_, upd_same, .lst _⟩
        · obtain ⟨o, z1, z2⟩ := S5.er.bo a z
          exact ⟨o, by rw [upd_ne e]; exact z1, z2⟩
    have hacc : RpL K ((B.or fun x => x = Dd).or (Ow σ2 ρ5)) (upd H4 Dd (.lst (xs ++ [y]))) (xs ++ [y]) (acc' ++ [yd]) :=
      (RpL.append h2 (.cons ry .nil)).move sU S5.er.ob fun _ z => .inl z
    obtain ⟨c1, c2, c3⟩ := back (H3 := upd H4 Dd (.lst (xs ++ [y]))) ((toD S5.stp).trans (Stp.upd_own (O := As.or (Ow (L2.wipe σ is) ρc) fun x => x = Dd) (.inr rfl)) fun _ z => .inl z) (S5.fre.trans (Fre.upd _ _ _)) (tabs_upd S5.er S5.tab h1) (le2.trans (A3.le.trans A5.le)) eU ew ec6 upd_same hacc
    refine ⟨xs, h1, ?_, ρ6, acc' ++ [yd], c1, c2, c3, q⟩
    rw [h2.length, sizeLine_eq]; exact hz

theorem tE_new_list {Dd : Addr} {acc : List D} {H0 : Hp} {ρ0 : DEnv} (A : After K T E0 B σ H ρ [] H0 [] ρ0) (n : H0 Dd = none) (C : CSt K T E0 B Dd σ H0 ρ0 H1 ρ1 acc) : After K T E0 B σ H ρ [.ref Dd] H1 [.new (.lst acc)] ρ1 where
  stp := A.stp.trans C.stp fun a z => by
    rcases z with z | z
    · exact .inl (A.le.ow a z)
    · subst z; exact .inr (A.fre a n)
  fre := A.fre.trans C.fre
  tab := C.tab
  le := A.le.trans C.le
  er := C.er.mono fun a z => z.imp id fun z => by
    have := nw_one a z
    cases this; rfl
  rr := .one ⟨Dd, rfl, A.fre Dd n, by
    obtain ⟨xs, h1, h2⟩ := C.acc
    exact ⟨xs, h1, h2.mono fun a z => by
      rcases z with (z | z) | z
      · exact .inl (.inl z)
      · have := nw_one a z
        cases this; exact .inl (.inr rfl)
      · exact .inr z⟩⟩
theorem CSt.start {Dd : Addr} (er : ER K E0 B σ H ρ) (tb : Tabs T H) (n : H Dd = none) (er1 : ER K E0 B σ H ρ1) (le : Le ρ ρ1) : CSt K T E0 B Dd σ H ρ (upd H Dd (.lst [])) ρ1 [] where
  er := er1.grow (N := fun x => x = Dd) (Same.upd n) (Fre.upd _ _ _) (fun a z => by rw [z]; exact n) fun a z => ⟨.lst [], by have z : a = Dd := z; subst z; exact upd_same, .lst _⟩
  tab := tb.ext (Same.upd n)
  fre := Fre.upd _ _ _
  le := le
  stp := Same.stp (Same.upd n)
  acc := ⟨[], upd_same, .nil⟩
/-- a clause's tests -/
theorem ts_nil : PTs X [] (tT X.K T fun ρ Q => Q true ρ) := ⟨fun pins s σ H Q I h => by
  refine pts_nil.run pins s σ H Q I ?_
  obtain ⟨E0, B, ρ, Qd, er, tb, hw, k⟩ := h
  exact k true H ρ hw (.ofNil er tb)⟩
theorem ts_one {c : Expr} {w : WT} (h : PT X c (tT X.K T w)) : PTs X [c] (tT X.K T w) := pts_one h
abbrev wYes : WT := fun ρ Q => Q true ρ
theorem tlc {is S : List Nat} {wi : WI} {g : WG} {tt : WT} {te : WE} (hS : ∀ j ∈ S, j ∈ is) : ∀ σ H Q, tE K T (wLc wi g tt te is) σ H Q → tLc (tI K T wi) (tG K T S g) (tT K T tt) (tE K T te) is σ H Q := fun σ H Q h => by
  obtain ⟨E0, B, ρ, Qd, er, tb, hw, k⟩ := h
  refine ⟨E0, B, ρ, _, er, tb, hw, fun J H1 ds ρ1 q A I => fun Dd hD => ?_⟩
  obtain ⟨ρ2, ec, q⟩ := clK_some q
  have S1 := A.saft
  obtain ⟨er2, ow2, le2⟩ := S1.er.clear (σ1 := σ) ec rfl fun _ _ => rfl
  have C := CSt.start S1.er S1.tab hD er2 le2
  exact lc_turns (Qd := Q (.ref Dd)) hS q C I (Same.stp (Same.upd hD)) (fun a z => by
    rcases z with (z | z) | z
    · exact .inl (.inl z)
    · have z : a = Dd := z
      subst z; exact .inr hD
    · exact .inl (.inr (ow2 a z))) fun H' ρ' acc q C' => k _ _ _ ρ' q (tE_new_list A hD C')
theorem d_lc {elt : Expr} {ifs : List Expr} {scope : Scope} {own : List (Str × Nat)} {S : List Nat} {wi : WI} {g : WG} {tt : WT} {te : WE} (hc : X.calm = true) (hN : X.N.Nodup) (hi : PI X tg iter (tI X.K T wi)) (ok : BlkOk X.N X.env.scope scope own)
    (hg : ∀ (s : Shared) (H : Hp) (C : Addr) (cl : List (Str × Addr)) (fp : List Addr), PG (X.blk s H scope (PySem.compEnvC scope cl C X.env) fp) tg (tG X.K T S g)) (ht : ∀ (s : Shared) (H : Hp) (C : Addr) (cl : List (Str × Addr)) (fp : List Addr), PTs (X.blk s H scope (PySem.compEnvC scope cl C X.env) fp) ifs (tT X.K T tt))
    (he : ∀ (s : Shared) (H : Hp) (C : Addr) (cl : List (Str × Addr)) (fp : List Addr), PE (X.blk s H scope (PySem.compEnvC scope cl C X.env) fp) elt (tE X.K T te)) (hS : ∀ j ∈ S, j ∈ own.map (·.2) := by decide) (hs : ∀ x, foldedSetIterable iter X.env x = pure x := by intro _; rfl) :
    PE X (.ListComp elt [⟨tg, iter, ifs, 0⟩] scope pos) (tE X.K T (wLc wi g tt te (own.map (·.2)))) := (pe_lc hc hN hi ok hg ht he hs).imp (tlc hS)
end
end DL
set_option maxRecDepth 100000
set_option maxHeartbeats 1000000
namespace DL
open PySem PySem.Spec L2 LamX

section
variable {K : PySem.W.Frag} {T : Tb} {E0 B B' BN BL O O' N : As} {σ σ0 σ1 σ2 : L2.St} {ρ ρ1 ρ2 ρ3 : DEnv} {H H1 H2 H3 : Hp} {vs us : List V} {rs qs : List RV} {v u : V} {r q : RV} {d : D} {ds acc : List D} {X : Cx} {e e1 e2 tg iter a b c : Expr} {es : List Expr} {st : Stmt} {sts : List Stmt} {pos : Pos}

/-! ### comprehensions stored on one line; two clauses -/
theorem s_setLc {i : Nat} {y : Str} {py : Pos} {elt : Expr} {ifs : List Expr} {scope : Scope} {own : List (Str × Nat)} {spos : Pos} {S : List Nat} {wi : WI} {g : WG} {tt : WT} {te : WE} (hc : X.calm = true) (hN : X.N.Nodup)
    (hi : PI X tg iter (tI X.K T wi)) (ok : BlkOk X.N X.env.scope scope own)
    (hg : ∀ (s : Shared) (H : Hp) (C : Addr) (cl : List (Str × Addr)) (fp : List Addr), PG (X.blk s H scope (PySem.compEnvC scope cl C X.env) fp) tg (tG X.K T S g)) (ht : ∀ (s : Shared) (H : Hp) (C : Addr) (cl : List (Str × Addr)) (fp : List Addr), PTs (X.blk s H scope (PySem.compEnvC scope cl C X.env) fp) ifs (tT X.K T tt))
    (he : ∀ (s : Shared) (H : Hp) (C : Addr) (cl : List (Str × Addr)) (fp : List Addr), PE (X.blk s H scope (PySem.compEnvC scope cl C X.env) fp) elt (tE X.K T te)) (hS : ∀ j ∈ S, j ∈ own.map (·.2) := by decide)
    (hy : X.N[i]? = some y := by rfl) (hyl : X.env.scope.names.lookup y = some .local := by rfl) (hsw : swapsWith (.ListComp elt [⟨tg, iter, ifs, 0⟩] scope pos) (some (.Name y py)) spos.line X.env = pure true := by exact sw_true rfl rfl rfl (by decide +kernel)) (hs : ∀ x, foldedSetIterable iter X.env x = pure x := by intro _; rfl) :
    PS X (.Assign [.Name y py] (.ListComp elt [⟨tg, iter, ifs, 0⟩] scope pos) spos) (tS X.K T (wSet i (wLc wi g tt te (own.map (·.2))))) :=
  (ps_setLc hc hN hy hyl hsw hi ok hg ht he hs).imp fun D σ H h => by
    obtain ⟨E0, B, ρ, P, er, tb, hw, k, _⟩ := h
    refine tlc hS σ H _ ⟨E0, B, ρ, _, er, tb, hw, fun v H1 r ρ1 q A => ?_⟩
    obtain ⟨ρ2, hk, S⟩ := A.put er q
    exact k _ _ _ hk S
theorem lc2_turns {is is1 S S1 : List Nat} {g g1 : WG} {tt tt1 : WT} {wi1 : WI} {te : WE} {J : It} {Dd : Addr} {k : List D → DEnv → Prop} {Qd : Hp → Prop} {H0 : Hp} {ρ0 : DEnv} (hS : ∀ j ∈ S, j ∈ is) (hS1 : ∀ j ∈ S1, j ∈ is1) (hsub : ∀ j ∈ is1, j ∈ is) (h : lc2L is is1 g tt wi1 g1 tt1 te ds acc ρ1 k) (C : CSt K T E0 B Dd σ H0 ρ0 H1 ρ1 acc)
    {Ob : As} {Hb : Hp} (I : ItD K Ob Hb J ds) (stb : Stp Ob Hb H1) (avb : ∀ a, ((B.or fun x => x = Dd).or (Ow σ ρ1)) a → Ob a ∨ Hb a = none) (nt : ∀ H ρ acc, k acc ρ → CSt K T E0 B Dd σ H0 ρ0 H ρ acc → Qd H) :
    ∃ W : Nat → Nat → Hp → Prop, (∃ m, W 0 m H1) ∧ ∀ i m H, W i m H → (J.stop i H ∧ Qd H) ∨ (J.go i H ∧ ∃ Nx : Hp → Prop, (∀ H', Nx H' → ∃ m', m' < m ∧ W (i + 1) m' H') ∧ ∀ x H', J.yld i H x H' → tG K T S g x (L2.wipe σ is) H' fun σ2 H2 => L2.wipe σ2 is = L2.wipe σ is ∧ tT K T tt σ2 H2 fun b H3 =>
      if b = true then tI K T wi1 σ2 H3 fun J1 H4 => ∃ W1 : Nat → Nat → Hp → Prop, (∃ m, W1 0 m H4) ∧ ∀ j k H, W1 j k H →
        (J1.stop j H ∧ Nx H) ∨ (J1.go j H ∧ ∃ Nx1 : Hp → Prop, (∀ H', Nx1 H' → ∃ k', k' < k ∧ W1 (j + 1) k' H') ∧ ∀ x H', J1.yld j H x H' → tG K T S1 g1 x (L2.wipe σ2 is1) H' fun σ3 H5 => L2.wipe σ3 is1 = L2.wipe σ2 is1 ∧ tT K T tt1 σ3 H5 fun b H6 =>
          if b = true then tE K T te σ3 H6 fun y H7 => ∃ acc, H7 Dd = some (.lst acc) ∧ acc.length < sizeLine ∧ Nx1 (upd H7 Dd (.lst (acc ++ [y]))) else Nx1 H6)
      else Nx H3) := by
  refine ⟨fun i m H => m + i = ds.length ∧ ∃ ρ acc, CSt K T E0 B Dd σ H0 ρ0 H ρ acc ∧ Stp Ob Hb H ∧ (∀ a, Ow σ ρ a → Ow σ ρ1 a) ∧ lc2L is is1 g tt wi1 g1 tt1 te (ds.drop i) acc ρ k, ⟨ds.length, rfl, ρ1, acc, C, stb, fun _ z => z, h⟩, fun i m H hW => ?_⟩
  obtain ⟨em, ρ, acc', C', st, ow1, q⟩ := hW
  by_cases hi : ¬ i < ds.length
  · have e : ds.drop i = [] := List.drop_of_length_le (by omega)
    rw [e] at q
    exact .inl ⟨I.stop i H st (by omega), nt H ρ acc' q C'⟩
  have hi : i < ds.length := by omega
  refine .inr ⟨I.go i H st hi, fun H' => ∃ ρ' acc'', CSt K T E0 B Dd σ H0 ρ0 H' ρ' acc'' ∧ Stp Ob Hb H' ∧ (∀ a, Ow σ ρ' a → Ow σ ρ1 a) ∧ lc2L is is1 g tt wi1 g1 tt1 te (ds.drop (i + 1)) acc'' ρ' k, fun H' ⟨ρ', a', c1, c2, c3, c4⟩ => ⟨m - 1, by omega, by omega, ρ', a', c1, c2, c3, c4⟩, fun x H' hy => ?_⟩
  obtain ⟨d, hd, sm, fr, rp⟩ := I.yld i H x H' ((B.or fun x => x = Dd).or (Ow σ ρ)) st (fun a z => by
    rcases z with z | z
    · exact avb a (.inl z)
    · exact avb a (.inr (ow1 a z))) C'.er.ob hi hy
  have ed : ds.drop i = d :: ds.drop (i + 1) := by
    obtain ⟨h1, h2⟩ := List.getElem?_eq_some_iff.mp hd
    rw [List.drop_eq_getElem_cons h1, h2]
  rw [ed] at q
  obtain ⟨ρc, ec, q⟩ := clK_some q
  have er' : ER K E0 (B.or fun x => x = Dd) σ H' ρ := C'.er.same sm fr
  obtain ⟨erc, owc, lec⟩ := er'.clear (σ1 := L2.wipe σ is) ec (L2.wipe_length _ _) fun j hj => wipe_get hj
  have nD : ¬ Ow (L2.wipe σ is) ρc Dd := fun ⟨j, b, hb, hj⟩ => by
    obtain ⟨a, q1, q2, _⟩ := erc.bx j b hb
    rw [hj] at q1; cases q1
    exact q2 (.inr rfl)
  have dd : ∀ o, H Dd = some o → H' Dd = some o := fun o z => sm _ _ z
  have held : ∀ {σ3 : L2.St} {H3 : Hp} {ρ3 : DEnv}, Stp (Ow (L2.wipe σ is) ρc) H' H3 → (∀ a, Ow σ3 ρ3 a → Ow (L2.wipe σ is) ρc a ∨ H' a = none) → ∃ xs, H3 Dd = some (.lst xs) ∧ RpL K ((B.or fun x => x = Dd).or (Ow σ3 ρ3)) H3 xs acc' := fun {σ3 H3 ρ3} s w => by
    obtain ⟨xs, h1, h2⟩ := C'.acc
    have h1' := dd _ h1
    refine ⟨xs, s Dd _ h1' nD (fun ps z => by cases z), (h2.move (Same.stp sm) C'.er.ob (fun _ z => .inl z)).move (s.mono fun a z => .inr (owc a z)) er'.ob fun a z => ?_⟩
    rcases z with z | z
    · exact .inl (.inl z)
    · exact (w a z).imp (fun z => .inr (owc a z)) id
  have stH' : Stp Ob Hb H' := st.trans (Same.stp (O := Ob) sm) fun _ z => .inl z
  have ow2 : ∀ a, Ow (L2.wipe σ is) ρc a → Ow σ ρ1 a := fun a z => ow1 a (owc a z)
  have back : ∀ {σ3 : L2.St} {H3 : Hp} {ρ3 ρ5 : DEnv} {xs : List V} {acc3 : List D}, Stp (As.or (Ow (L2.wipe σ is) ρc) fun x => x = Dd) H' H3 → Fre H' H3 → Tabs T H3 → Le ρc ρ3 → ER K E0 (B.or fun x => x = Dd) σ3 H3 ρ3 → L2.wipe σ3 is = L2.wipe σ is → clr ρ3 is = some ρ5 → H3 Dd = some (.lst xs) →
      RpL K ((B.or fun x => x = Dd).or (Ow σ3 ρ3)) H3 xs acc3 → CSt K T E0 B Dd σ H0 ρ0 H3 ρ5 acc3 ∧ Stp Ob Hb H3 ∧ ∀ a, Ow σ ρ5 a → Ow σ ρ1 a := fun {σ3 H3 ρ3 ρ5 xs acc3} s f t le e ew ec5 hD hacc => by
    have lenσ : σ.length = σ3.length := by have := congrArg List.length ew; rw [L2.wipe_length, L2.wipe_length] at this; exact this.symm
    obtain ⟨e5, o5, l5⟩ := e.clear (σ1 := σ) ec5 lenσ fun j hj => by
      have := congrArg (fun τ : L2.St => τ[j]?) ew
      have this : (L2.wipe σ3 is)[j]? = (L2.wipe σ is)[j]? := this
      rw [wipe_get hj, wipe_get hj] at this
      exact this.symm
    have le' : Le ρ ρ5 := lec.trans (le.trans l5)
    have s' : Stp (As.or (Ow σ ρ0) fun x => x = Dd) H H3 := (Same.stp (O := As.or (Ow σ ρ0) fun x => x = Dd) sm).trans s fun a z => by
      rcases z with z | z
      · exact .inl (.inl (C'.le.ow a (owc a z)))
      · exact .inl (.inr z)
    refine ⟨⟨e5, t, C'.fre.trans (fr.trans f), C'.le.trans le', C'.stp.trans s' fun _ z => .inl z, xs, hD, hacc.mono (As.or_mono (fun _ z => z) o5)⟩, stH'.trans s fun a z => ?_, fun a z => ow1 a (le'.ow a z)⟩
    rcases z with z | z
    · exact avb a (.inr (ow2 a z))
    · exact avb a (.inl (.inr z))
  refine ⟨E0, _, ρc, d, _, erc, C'.tab.ext sm, rp.mono (As.or_mono (fun _ z => z) owc), q, fun σ2 H2 ρ2 q A2 bt => ?_⟩
  have ew := wipe_but hS bt
  have le2 : Le ρc ρ2 := bt.le A2
  refine ⟨ew, E0, _, ρ2, _, A2.er, A2.tab, q, fun b H3 ρ3 q A3 => ?_⟩
  have S3 := A2.trans A3.saft
  have toD : ∀ {H3 : Hp}, Stp (Ow (L2.wipe σ is) ρc) H' H3 → Stp (As.or (Ow (L2.wipe σ is) ρc) fun x => x = Dd) H' H3 := fun s => s.mono fun _ z => .inl z
  cases b with
  | false =>
    refine L2.iteF ?_
    obtain ⟨ρ5, ec5, q⟩ := clK_some q
    obtain ⟨xs, h1, h2⟩ := held S3.stp S3.ow
    obtain ⟨c1, c2, c3⟩ := back (toD S3.stp) S3.fre S3.tab (le2.trans A3.le) S3.er ew ec5 h1 h2
    exact ⟨ρ5, acc', c1, c2, c3, q⟩
  | true =>
    refine L2.iteT ⟨E0, _, ρ3, _, S3.er, S3.tab, q, fun J1 H4 ds1 ρ4 q A4 I1 => ?_⟩
    obtain ⟨ρ5, ec5, q⟩ := clK_some q
    have S4 := S3.trans A4.saft
    obtain ⟨er5, ow5, le5⟩ := S4.er.clear (σ1 := σ2) ec5 rfl fun _ _ => rfl
    obtain ⟨xs, h1, h2⟩ := held S4.stp S4.ow
    -- the inner list: a state of its own, over (σ2, H4)
    have C1 : CSt K T E0 B Dd σ2 H4 ρ4 H4 ρ5 acc' := ⟨er5, S4.tab, Fre.refl _, le5, Stp.refl _ _, xs, h1, h2.mono (As.or_mono (fun _ z => z) ow5)⟩
    refine lc_turns (Qd := fun H' => ∃ ρ' acc'', CSt K T E0 B Dd σ H0 ρ0 H' ρ' acc'' ∧ Stp Ob Hb H' ∧ (∀ a, Ow σ ρ' a → Ow σ ρ1 a) ∧ lc2L is is1 g tt wi1 g1 tt1 te (ds.drop (i + 1)) acc'' ρ' k) hS1 q C1 I1 (Stp.refl _ _) (fun a z => by
      rcases z with z | z
      · exact .inl (.inl z)
      · exact .inl (.inr (ow5 a z))) fun H5 ρ6 acc6 q C6 => ?_
    obtain ⟨ρ7, ec7, q⟩ := clK_some q
    obtain ⟨ys, g1', g2'⟩ := C6.acc
    obtain ⟨c1, c2, c3⟩ := back ((toD S4.stp).trans C6.stp fun a z => by
      rcases z with z | z
      · exact (S4.ow a z).imp .inl id
      · exact .inl (.inr z)) (S4.fre.trans C6.fre) C6.tab (le2.trans (A3.le.trans (A4.le.trans C6.le))) C6.er ew ec7 g1' g2'
    exact ⟨ρ7, acc6, c1, c2, c3, q⟩
theorem tlc2 {is is1 S S1 : List Nat} {wi wi1 : WI} {g g1 : WG} {tt tt1 : WT} {te : WE} (hS : ∀ j ∈ S, j ∈ is) (hS1 : ∀ j ∈ S1, j ∈ is1) (hsub : ∀ j ∈ is1, j ∈ is) : ∀ σ H Q, tE K T (wLc2 wi g tt wi1 g1 tt1 te is is1) σ H Q →
    tLc2 (tI K T wi) (tG K T S g) (tT K T tt) (tI K T wi1) (tG K T S1 g1) (tT K T tt1) (tE K T te) is is1 σ H Q := fun σ H Q h => by
  obtain ⟨E0, B, ρ, Qd, er, tb, hw, k⟩ := h
  refine ⟨E0, B, ρ, _, er, tb, hw, fun J H1 ds ρ1 q A I => fun Dd hD => ?_⟩
  obtain ⟨ρ2, ec, q⟩ := clK_some q
  have S1' := A.saft
  obtain ⟨er2, ow2, le2⟩ := S1'.er.clear (σ1 := σ) ec rfl fun _ _ => rfl
  have C := CSt.start S1'.er S1'.tab hD er2 le2
  exact lc2_turns (Qd := Q (.ref Dd)) hS hS1 hsub q C I (Same.stp (Same.upd hD)) (fun a z => by
    rcases z with (z | z) | z
    · exact .inl (.inl z)
    · have z : a = Dd := z
      subst z; exact .inr hD
    · exact .inl (.inr (ow2 a z))) fun H' ρ' acc q C' => k _ _ _ ρ' q (tE_new_list A hD C')
end
end DL
set_option maxRecDepth 100000
set_option maxHeartbeats 1000000
namespace DL
open PySem PySem.Spec L2 LamX

section
variable {K : PySem.W.Frag} {T : Tb} {E0 B B' BN BL O O' N : As} {σ σ0 σ1 σ2 : L2.St} {ρ ρ1 ρ2 ρ3 : DEnv} {H H1 H2 H3 : Hp} {vs us : List V} {rs qs : List RV} {v u : V} {r q : RV} {d : D} {ds acc : List D} {X : Cx} {e e1 e2 tg iter a b c : Expr} {es : List Expr} {st : Stmt} {sts : List Stmt} {pos : Pos}

abbrev BlkAll (X : Cx) (scope : Scope) (P : Cx → Prop) : Prop := ∀ (s : Shared) (H : Hp) (C : Addr) (cl : List (Str × Addr)) (fp : List Addr), P (X.blk s H scope (PySem.compEnvC scope cl C X.env) fp)
theorem d_lc2 {elt tg1 iter1 : Expr} {ifs ifs1 : List Expr} {scope : Scope} {own : List (Str × Nat)} {is1 S S1 : List Nat} {wi wi1 : WI} {g g1 : WG} {tt tt1 : WT} {te : WE} (hc : X.calm = true) (hN : X.N.Nodup) (hi : PI X tg iter (tI X.K T wi)) (ok : BlkOk X.N X.env.scope scope own)
    (hg : BlkAll X scope fun Y => PG Y tg (tG X.K T S g)) (ht : BlkAll X scope fun Y => PTs Y ifs (tT X.K T tt)) (hi1 : BlkAll X scope fun Y => PI Y tg1 iter1 (tI X.K T wi1)) (hg1 : BlkAll X scope fun Y => PG Y tg1 (tG X.K T S1 g1)) (ht1 : BlkAll X scope fun Y => PTs Y ifs1 (tT X.K T tt1))
    (he : BlkAll X scope fun Y => PE Y elt (tE X.K T te)) (hv : ∀ i ∈ is1, i ∈ own.map (·.2) := by decide) (hS : ∀ j ∈ S, j ∈ own.map (·.2) := by decide) (hS1 : ∀ j ∈ S1, j ∈ is1 := by decide) (hs : ∀ x, foldedSetIterable iter X.env x = pure x := by intro _; rfl) (hs1 : ∀ env x, foldedSetIterable iter1 env x = pure x := by intro _ _; rfl) :
    PE X (.ListComp elt [⟨tg, iter, ifs, 0⟩, ⟨tg1, iter1, ifs1, 0⟩] scope pos) (tE X.K T (wLc2 wi g tt wi1 g1 tt1 te (own.map (·.2)) is1)) := (pe_lc2 hc hN hi ok hv hg ht hi1 hg1 ht1 he hs hs1).imp (tlc2 hS hS1 hv)
theorem s_setLc2 {i : Nat} {y : Str} {py : Pos} {elt tg1 iter1 : Expr} {ifs ifs1 : List Expr} {scope : Scope} {own : List (Str × Nat)} {is1 S S1 : List Nat} {spos : Pos} {wi wi1 : WI} {g g1 : WG} {tt tt1 : WT} {te : WE} (hc : X.calm = true) (hN : X.N.Nodup) (hi : PI X tg iter (tI X.K T wi)) (ok : BlkOk X.N X.env.scope scope own)
    (hg : BlkAll X scope fun Y => PG Y tg (tG X.K T S g)) (ht : BlkAll X scope fun Y => PTs Y ifs (tT X.K T tt)) (hi1 : BlkAll X scope fun Y => PI Y tg1 iter1 (tI X.K T wi1)) (hg1 : BlkAll X scope fun Y => PG Y tg1 (tG X.K T S1 g1)) (ht1 : BlkAll X scope fun Y => PTs Y ifs1 (tT X.K T tt1))
    (he : BlkAll X scope fun Y => PE Y elt (tE X.K T te)) (hv : ∀ i ∈ is1, i ∈ own.map (·.2) := by decide) (hS : ∀ j ∈ S, j ∈ own.map (·.2) := by decide) (hS1 : ∀ j ∈ S1, j ∈ is1 := by decide)
    (hy : X.N[i]? = some y := by rfl) (hyl : X.env.scope.names.lookup y = some .local := by rfl) (hsw : swapsWith (.ListComp elt [⟨tg, iter, ifs, 0⟩, ⟨tg1, iter1, ifs1, 0⟩] scope pos) (some (.Name y py)) spos.line X.env = pure true := by exact sw_true rfl rfl rfl (by decide +kernel))
    (hs : ∀ x, foldedSetIterable iter X.env x = pure x := by intro _; rfl) (hs1 : ∀ env x, foldedSetIterable iter1 env x = pure x := by intro _ _; rfl) :
    PS X (.Assign [.Name y py] (.ListComp elt [⟨tg, iter, ifs, 0⟩, ⟨tg1, iter1, ifs1, 0⟩] scope pos) spos) (tS X.K T (wSet i (wLc2 wi g tt wi1 g1 tt1 te (own.map (·.2)) is1))) :=
  (ps_setLc2 hc hN hy hyl hsw hi ok hv hg ht hi1 hg1 ht1 he hs hs1).imp fun D σ H h => by
    obtain ⟨E0, B, ρ, P, er, tb, hw, k, _⟩ := h
    refine tlc2 hS hS1 hv σ H _ ⟨E0, B, ρ, _, er, tb, hw, fun v H1 r ρ1 q A => ?_⟩
    obtain ⟨ρ2, hk, S⟩ := A.put er q
    exact k _ _ _ hk S

/-! ### what is walked -/
theorem pi_or {t t' : TI} (h : PI X tg iter t) (h' : PI X tg iter t') : PI X tg iter (fun σ H R => t σ H R ∨ t' σ H R) := ⟨fun pins s σ H R I w => w.elim (h.run pins s σ H R I) (h'.run pins s σ H R I)⟩
/-- a list or a tuple -/
def wSeqI (wa : WE) : WI := fun ρ Q => wa ρ fun r ρ1 => fzK ρ1 r fun d ρ2 => itK d fun ds => Q ds ρ2
theorem itd_list {a : Addr} {xs : List V} (h : LsR K O H a xs) (r : RpL K O H xs ds) (ob : OB O H) : ItD K O H (Itl K a) ds := by
  refine ⟨fun i H2 st hi => ?_, fun i H2 x H' O2 st m ob2 hi hy => ?_, fun i H2 st hi => ?_⟩
  · obtain ⟨v, hv⟩ : ∃ v, xs[i]? = some v := ⟨_, List.getElem?_eq_getElem (by rw [r.length]; exact hi)⟩
    exact ⟨xs, v, (h.stp st).sq, hv⟩
  · obtain ⟨rfl, hx⟩ := hy
    obtain ⟨d, h1, h2⟩ := r.get (hx xs (h.stp st).sq)
    exact ⟨d, h1, fun _ _ z => z, fun _ z => z, h2.move st ob m⟩
  · exact ⟨xs, (h.stp st).sq, by rw [r.length]; exact hi⟩
theorem itd_tup {a : Addr} {xs : List V} (h : SqT K H a xs) (r : RpL K O H xs ds) (ob : OB O H) : ItD K O H (Itt K a) ds := by
  refine ⟨fun i H2 st hi => ?_, fun i H2 x H' O2 st m ob2 hi hy => ?_, fun i H2 st hi => ?_⟩
  · obtain ⟨v, hv⟩ : ∃ v, xs[i]? = some v := ⟨_, List.getElem?_eq_getElem (by rw [r.length]; exact hi)⟩
    exact ⟨xs, v, SqT.stp h st ob, hv⟩
  · obtain ⟨rfl, hx⟩ := hy
    obtain ⟨d, h1, h2⟩ := r.get (hx xs (SqT.stp h st ob))
    exact ⟨d, h1, fun _ _ z => z, fun _ z => z, h2.move st ob m⟩
  · exact ⟨xs, SqT.stp h st ob, by rw [r.length]; exact hi⟩
theorem iList_of {R : It → Hp → Prop} (er : ER K E0 B σ H ρ) (A : After K T E0 B σ H ρ [v] H1 [r] ρ1) {k : List D → DEnv → Prop} (h : fzK ρ1 r fun d ρ2 => itK d fun ds => k ds ρ2)
    (hR : ∀ J H' ds ρ', k ds ρ' → After K T E0 B σ H ρ [] H' [] ρ' → ItD K (B.or (Ow σ ρ')) H' J ds → R J H') :
    (∃ a, v = .ref a ∧ (∃ xs, SqL K H1 a xs) ∧ R (Itl K a) H1) ∨ ∃ a, v = .ref a ∧ (∃ xs, SqT K H1 a xs) ∧ R (Itt K a) H1 := by
  obtain ⟨d, ρ2, q, A2, rp⟩ := A.fz1 er h
  have ob := A2.obx
  cases rp with
  | lst s r => exact .inl ⟨_, rfl, ⟨_, s.sq⟩, hR _ _ _ _ q A2 (itd_list s r ob)⟩
  | tup s r => exact .inr ⟨_, rfl, ⟨_, s.sq⟩, hR _ _ _ _ q A2 (itd_tup s.sq r ob)⟩
  | _ => exact (show False from q).elim
theorem i_seq {wa : WE} (he : PE X iter (tE X.K T wa)) : PI X tg iter (tI X.K T (wSeqI wa)) := by
  refine ⟨fun pins s σ H R I w => ?_⟩
  obtain ⟨E0, B, ρ, Qd, er, tb, hw, k⟩ := w
  -- one walk: the value first, then by its kind
  refine thn (he.run pins s σ H (fun x H1 => (∃ a, x = .ref a ∧ (∃ xs, SqL X.K H1 a xs) ∧ R (Itl X.K a) H1) ∨ ∃ a, x = .ref a ∧ (∃ xs, SqT X.K H1 a xs) ∧ R (Itt X.K a) H1) I ⟨E0, B, ρ, _, er, tb, hw, fun x H1 r ρ1 q A => iList_of er A q k⟩) fun v' s1 ⟨x, H1, I1, r1, q1⟩ => ?_
  have rec1 := fun (ob : Obj) => I1.kept (h' := s1.heap.push ob) (t' := s1.toks) fun b o z => Heap.get?_push_of_some _ z
  have fp1 : ∀ b ∈ [s1.heap.objs.size], FpOk X pins H1 b := fun b hb => by
    rw [List.mem_singleton.mp hb]
    exact I1.fpOk (Nat.le_refl _) (I1.hok.fresh (Nat.le_refl _))
  rcases q1 with ⟨a, rfl, ⟨ys, hq⟩, q⟩ | ⟨a, rfl, ⟨ys, hq⟩, q⟩
  · cases r1
    obtain ⟨_, _, pl, _⟩ := I1.list hq
    exact wpAny_pyIter_list pl.isList ⟨_, _, _, _, _, rfl, rec1 _, turn_list a _, ⟨_, Heap.get?_push_size _ rfl, rfl, rfl⟩, fp1, q⟩
  · cases r1
    obtain ⟨its', _, pt, _⟩ := I1.tuple hq
    exact wpAny_pyIter_tuple (show s1.heap.IsTuple a its'.toArray from pt) ⟨_, _, _, _, _, rfl, rec1 _, turn_tuple a _, ⟨_, Heap.get?_push_size _ rfl, rfl, rfl⟩, fp1, q⟩
end
end DL
set_option maxRecDepth 100000
set_option maxHeartbeats 1000000
/-! enumerate over a tuple, at the library's level -/
namespace DLe
open PySem
open AutoSeq1 (wpAny_loadPart')
theorem enumT_new (t : Addr) (items : Array Value) (n : Nat) (dct : Option Addr) (sl : Array (Option Value)) :
    Meets (Builtin.«enumerate.__new__» ⟨[.type "enumerate", .ref t], []⟩) (fun _ R s => s.heap.get? t = some { cls := .type "tuple", dict := dct, data := .seq items n, slots := sl } ∧
      R (.ok (.ret (.ref (s.heap.push { cls := .type "tuple_iterator", data := .fields #[.ref t, .int 0 0] }).objs.size)))
        { s with heap := (s.heap.push { cls := .type "tuple_iterator", data := .fields #[.ref t, .int 0 0] }).push { cls := .type "enumerate", data := .fields #[.none, .bool false, .ref s.heap.objs.size, rawInt 0, .none, .none] } }) :=
  .of_wp fun prog w A R s hq => by
    obtain ⟨hp, g, dr, tk, os⟩ := s
    obtain ⟨ht, hq⟩ := hq
    have hs1 := sub_enumerate
    have hT : Heap.IsTuple (Shared.heap ⟨hp, g, dr, tk, os⟩) t items := ⟨_, ht, rfl, n, rfl⟩
    wp_walk using wpAny_loadPart' ht
    refine wpAny_stack_any fun stk => wpAny_pure ?_
    split
    · rename_i c _ _ _ _ _
      cases (c == Value.type "enumerate")
      · wp_walk using wpAny_loadPart' ht, wpAny_pyIter_tuple hT
        exact ⟨_, rfl, hq⟩
      · wp_walk using wpAny_loadPart' ht, wpAny_pyIter_tuple hT
        exact ⟨_, rfl, hq⟩
    · wp_walk using wpAny_loadPart' ht, wpAny_pyIter_tuple hT
      exact ⟨_, rfl, hq⟩
section
variable {prog : Program} {w : World} {A : Around} {E : Value → Shared → Prop} {s : Shared}
theorem enumT_call {t : Addr} {items : Array Value} {Q : Value → Shared → Prop} (hT : s.heap.IsTuple t items)
    (hq : ∀ h', IsEnum h' (s.heap.objs.size + 1) s.heap.objs.size 0 .none → h'.IsTupleIter s.heap.objs.size t 0 → (∀ b o, s.heap.get? b = some o → h'.get? b = some o) → Q (.ref (s.heap.objs.size + 1)) { s with heap := h' }) :
    wpAny (model prog w) A (call (.type "enumerate") [.ref t]) Q E s := by
  obtain ⟨⟨c, dc, da, sl⟩, ht, hc, n, hd⟩ := hT
  have hc' : c = .type "tuple" := hc
  have hd' : da = .seq items n := hd
  subst hc' hd'
  refine callType_new F.called_enumerate (by decide) (F.typeCall_enumerate_1 _) (F.newCall_enumerate_1 _) (fun ob => F.args_object_init_2 ob _) F.entry_enumerate_new (enumT_new t items n dc sl) ⟨ht, ?_⟩
  have z1 : (s.heap.push { cls := .type "tuple_iterator", data := .fields #[.ref t, .int 0 0] }).objs.size = s.heap.objs.size + 1 := Heap.size_push ..
  show _ ∧ _
  rw [z1]
  have en : IsEnum ((s.heap.push { cls := .type "tuple_iterator", data := .fields #[.ref t, .int 0 0] }).push
      { cls := .type "enumerate", data := .fields #[.none, .bool false, .ref s.heap.objs.size, rawInt 0, .none, .none] }) (s.heap.objs.size + 1) s.heap.objs.size 0 .none := by
    have q := Heap.get?_push_size (s.heap.push { cls := .type "tuple_iterator", data := .fields #[.ref t, .int 0 0] })
      (o := { cls := .type "enumerate", data := .fields #[.none, .bool false, .ref s.heap.objs.size, rawInt 0, .none, .none] }) rfl
    rw [z1] at q
    exact q
  exact ⟨⟨_, en, rfl⟩, hq _ en ⟨_, Heap.get?_push_of_some _ (Heap.get?_push_size _ rfl), rfl, rfl⟩ fun b o q => Heap.get?_push_of_some _ (Heap.get?_push_of_some _ q)⟩
end
end DLe
namespace DL
open PySem PySem.Spec L2 LamX
def IteT (K : PySem.W.Frag) (a : Addr) : It where
  go := fun i H => ∃ (xs : List V) (x : V), SqT K H a xs ∧ xs[i]? = some x
  yld := fun i H v H' => ∃ Tn x, v = .ref Tn ∧ H Tn = none ∧ H' = upd H Tn (.tup [.int (i : Nat), x]) ∧ ∀ xs, SqT K H a xs → xs[i]? = some x
  stop := fun i H => ∃ xs : List V, SqT K H a xs ∧ xs.length ≤ i
theorem turn_enumT {P : Program} {w : World} {K : PySem.W.Frag} {elts : List Expr} {kk : Nat} {tpos : Pos} (a e it : Addr) :
    Turn P w K (.Tuple elts kk tpos) (IteT K a) [e, it] e (fun i h => (∃ old, IsEnum h e it ((i : Nat) : Int) old) ∧ h.IsTupleIter it a i ∧ e ≠ it) where
  mem := List.mem_cons_self
  obj := fun i h st b hb => by
    obtain ⟨⟨old, he⟩, ⟨o, ho, hc, hd⟩, _⟩ := st
    rcases List.mem_cons.mp hb with z | z
    · subst z; exact ⟨_, he, fun v q => nomatch q⟩
    · rw [List.mem_singleton.mp z]; exact ⟨o, ho, fun v q => by rw [hd] at q; cases q⟩
  keep := fun i h h' st k => by
    obtain ⟨⟨old, he⟩, hi, hne⟩ := st
    exact ⟨⟨old, k e List.mem_cons_self _ he⟩, hi.at fun o q => k it (List.mem_cons_of_mem _ List.mem_cons_self) o q, hne⟩
  item := by
    intro X hP hw hK hc i pins s σ H E I hf st hg
    subst hP; subst hw; subst hK
    obtain ⟨⟨old, he⟩, hit, hne⟩ := st
    obtain ⟨xs, x, hq, hx⟩ := hg
    obtain ⟨its, rv, pt, hz⟩ := I.tuple hq
    obtain ⟨u, hu, ru⟩ := rv.get hx
    have le1 : e < s.heap.objs.size := Heap.lt_size he
    have le2 : it < s.heap.objs.size := by obtain ⟨_, q, _⟩ := hit; exact Heap.lt_size q
    have pt' : s.heap.IsTuple a its.toArray := pt
    have nea : a ≠ it := fun z => by
      subst z
      obtain ⟨o1, g1, g2, _⟩ := hit
      obtain ⟨o2, g3, g4, _⟩ := pt'
      rw [g1] at g3; cases g3; rw [g2] at g4
      injection g4 with z
      exact absurd z (by decide)
    have nae : a ≠ e := fun z => by
      subst z
      obtain ⟨o2, g3, g4, _⟩ := pt'
      rw [he] at g3; cases g3
      injection g4 with z
      exact absurd z (by decide)
    have hil : i < its.length := (List.getElem?_eq_some_iff.mp hu).1
    refine wpAny_pyNext_enum_itemD (Draws.tuple (A := X.A.in1) (I.ok.hd hc) it a nea its.toArray) he ⟨hit, pt'⟩ (by simpa using hil) hne (by simp [hne, Ne.symm nae]) fun y h' tk hy ho st2 hT hsz hk => ?_
    have ey : y = u := by
      have hy : its.toArray[i]? = some y := hy
      rw [List.getElem?_toArray, hu] at hy
      exact (Option.some.inj hy).symm
    subst ey
    refine ⟨_, rfl, wpAny_letOwnedTupleGo_enum (s := { s with heap := h', toks := tk + 1 }) ho fun h2 he2 sb => ?_⟩
    have hT2 : h2.get? s.heap.objs.size = some { cls := .type "tuple", data := .seq #[.int i tk, y] } := (sb.2 _ (Nat.ne_of_gt le1)).trans hT
    have nw : ObjOk X.prog X.w (upd H s.heap.objs.size (.tup [.int (i : Nat), x])) h2 s.heap.objs.size (.tup [.int (i : Nat), x]) :=
      ⟨by show 2 ≤ sizeLine; decide, [.int i tk, y], .cons ⟨_, rfl⟩ (.cons ru .nil), ⟨_, hT2, rfl, _, rfl⟩⟩
    have J := I.turnedNew (t' := tk + 1) (ch := [e, it]) (fun b ob hb q => (sb.2 b (fun z => hb (by simp [z]))).trans (hk b ob (fun z => hb (by simp [z])) (fun z => hb (by simp [z])) q)) hf (Nat.le_refl _) nw
    refine ⟨.ref s.heap.objs.size, _, J, rfl, ⟨_, x, rfl, I.hok.fresh (Nat.le_refl _), rfl, fun ys hy => by rw [I.tuple_inj hy hq]; exact hx⟩, ⟨⟨y, ?_⟩, st2.1.at fun o q => (sb.2 it (Ne.symm hne)).trans q, hne⟩, fun b hb => ?_⟩
    · rw [show ((i + 1 : Nat) : Int) = (i : Int) + 1 by omega]
      exact he2
    · have lb : b < s.heap.objs.size := by
        rcases List.mem_cons.mp hb with z | z
        · rw [z]; exact le1
        · rw [List.mem_singleton.mp z]; exact le2
      rw [upd_ne (Nat.ne_of_lt lb)]
      exact (hf b hb).1
  done := by
    intro X hP hw hK hc i pins s σ H E I hf st hg
    subst hP; subst hw; subst hK
    obtain ⟨⟨old, he⟩, hit, hne⟩ := st
    obtain ⟨xs, hq, hx⟩ := hg
    obtain ⟨its, rv, pt, hz⟩ := I.tuple hq
    obtain ⟨f0, f1, f2, f3, f4, f5⟩ := hf it (List.mem_cons_of_mem _ List.mem_cons_self)
    have hl := rv.length
    have tye : s.TypeIs (.ref e) "enumerate" := ⟨_, he, rfl⟩
    unfold pyNext
    refine wpAny_bind (wpAny_attempt (wpAny_callSpecial?_slot (name := Str.ofString "__next__") tye F.slot_enumerate_next (wpAny_call_entry F.slot_enumerate_next tye F.entry_enumerate_next ?_ (F.args_enumerate_next_1 _))))
    show wpAny _ _ (field (.ref e) 2 >>= _) _ _ _
    refine wpAny_bind (wpAny_field he rfl (x := .ref it) rfl ?_)
    refine wpAny_bind (wpAny_nextOf_tuple_end (A := X.A.in1) (I.ok.hd hc) hit (show s.heap.IsTuple a its.toArray from pt) (by rw [List.getElem?_toArray]; exact List.getElem?_eq_none (by omega)) fun h' x eb hx' => ?_)
    obtain ⟨o, ho, hc'⟩ := hx'
    exact wpAny_bind (wpAny_isInstance (T := "StopIteration") (b := true) ⟨o, ho, hc'⟩ isSubtype_stop (wpAny_pure ⟨rfl, I.turned (t' := s.toks) (fun b o hb q => eb b o hb q) f0 f1 f3 f4 f5⟩))
  self := fun A i s Q E st h => by
    obtain ⟨⟨_, he⟩, _⟩ := st
    exact wpAny_pyIter_enum he h
section
variable {K : PySem.W.Frag} {T : Tb} {E0 B O : As} {σ : L2.St} {ρ ρ1 : DEnv} {H H1 : Hp} {ds : List D} {X : Cx} {e tg : Expr} {pos : Pos}
def iEnumT (K : PySem.W.Frag) (ta : TA) : TI := fun σ H R => ta σ H fun vs H1 => ∃ a xs, vs = [.ref a] ∧ ((SqL K H1 a xs ∧ R (Ite K a) H1) ∨ (SqT K H1 a xs ∧ R (IteT K a) H1))
theorem pi_enumT {ta : TA} {p tpos : Pos} {elts : List Expr} {kk : Nat} (hm : X.mg "enumerate" = none) (ha : PA X [e] ta) (hg : Gl X "enumerate" := by rfl) (hs : starEach [e] X.env = [(false, eval e X.env)] := by rfl) :
    PI X (.Tuple elts kk tpos) (.Call (.Name "enumerate" p) [e] [] pos) (iEnumT X.K ta) := by
  refine ⟨fun pins s σ H R I h => ?_⟩
  refine PyProof.Rows.Call_ (ld_blt I hg hm PyProof.Rows.boot_enumerate (PyProof.Rows.callWith_type1 (thn (ha.run pos pins s σ H _ I h) fun us s1 ⟨vs, H1, I1, r1, q1⟩ => ?_) hs rfl))
  obtain ⟨a, xs, ex, q1⟩ := q1
  subst ex
  cases r1 with
  | cons r rr =>
    cases rr
    cases r
    have fpl : ∀ b ∈ [s1.heap.objs.size + 1, s1.heap.objs.size], FpOk X pins H1 b := fun b hb => by
      have hle : s1.heap.objs.size ≤ b := by
        rcases List.mem_cons.mp hb with z | z
        · rw [z]; exact Nat.le_add_right _ _
        · rw [List.mem_singleton.mp z]; exact Nat.le_refl _
      exact I1.fpOk hle (I1.hok.fresh hle)
    rcases q1 with ⟨hq, q⟩ | ⟨hq, q⟩
    · obtain ⟨its, rv, pl, hz⟩ := I1.list hq
      refine call_enumerate_list pl.isList fun h' he hit hsz hk => wpAny_pyIter_enum he ?_
      exact ⟨_, _, _, _, H1, rfl, I1.kept (t' := s1.toks) hk, turn_enum a (s1.heap.objs.size + 1) s1.heap.objs.size, ⟨⟨.none, he⟩, hit, Nat.succ_ne_self _⟩, fpl, q⟩
    · obtain ⟨its, rv, pt, hz⟩ := I1.tuple hq
      refine DLe.enumT_call (show s1.heap.IsTuple a its.toArray from pt) fun h' he hit hk => wpAny_pyIter_enum he ?_
      exact ⟨_, _, _, _, H1, rfl, I1.kept (t' := s1.toks) hk, turn_enumT a (s1.heap.objs.size + 1) s1.heap.objs.size, ⟨⟨.none, he⟩, hit, Nat.succ_ne_self _⟩, fpl, q⟩
/-! ### numbers, pairs -/
def enumD : Nat → List D → List D
  | _, [] => []
  | i, d :: ds => wkD [.int (i : Nat), d] :: enumD (i + 1) ds
theorem enumD_get : ∀ {ds : List D} {k i : Nat}, (enumD k ds)[i]? = ds[i]?.map fun d => wkD [.int ((k + i : Nat) : Int), d]
  | [], _, _ => by simp [enumD]
  | d :: ds, k, 0 => by simp [enumD]
  | d :: ds, k, i + 1 => by
    show (enumD (k + 1) ds)[i]? = _
    rw [enumD_get]
    simp [Nat.add_assoc, Nat.add_comm 1 i]
theorem enumD_len : ∀ {ds : List D} {k : Nat}, (enumD k ds).length = ds.length
  | [], _ => rfl
  | d :: ds, k => by simp [enumD, enumD_len]
def wEnumI (wa : WA) : WI := fun ρ Q => wa ρ fun rs ρ1 => match rs with
  | [r] => fzK ρ1 r fun d ρ2 => itK d fun ds => Q (enumD 0 ds) ρ2
  | _ => False
theorem same_tup {p : Addr} {xs : List V} {H : Hp} (n : H p = none) : Same H (upd H p (.tup xs)) := Same.upd n
theorem pair_rp {x y : V} {d1 d2 : D} {p : Addr} (ob : OB O H) (n : H p = none) (h1 : Rp K O H x d1) (h2 : Rp K O H y d2) : Rp K O (upd H p (.tup [x, y])) (.ref p) (wkD [d1, d2]) :=
  .wk (SqT.of upd_same) (.cons (h1.move (Same.stp (Same.upd n)) ob fun _ z => .inl z) (.cons (h2.move (Same.stp (Same.upd n)) ob fun _ z => .inl z) .nil))
theorem itd_enumL {a : Addr} {xs : List V} (h : LsR K O H a xs) (r : RpL K O H xs ds) (ob : OB O H) : ItD K O H (Ite K a) (enumD 0 ds) := by
  refine ⟨fun i H2 st hi => ?_, fun i H2 x H' O2 st m ob2 hi hy => ?_, fun i H2 st hi => ?_⟩
  · rw [enumD_len] at hi
    obtain ⟨v, hv⟩ : ∃ v, xs[i]? = some v := ⟨_, List.getElem?_eq_getElem (by rw [r.length]; exact hi)⟩
    exact ⟨xs, v, (h.stp st).sq, hv⟩
  · obtain ⟨Tn, y, e1, n, e2, hx⟩ := hy
    subst e1; subst e2
    obtain ⟨d, h1, h2⟩ := r.get (hx xs (h.stp st).sq)
    exact ⟨_, by rw [enumD_get, h1, Nat.zero_add]; rfl, Same.upd n, Fre.upd _ _ _, pair_rp ob2 n (.int _) (h2.move st ob m)⟩
  · exact ⟨xs, (h.stp st).sq, by rw [r.length]; rw [enumD_len] at hi; exact hi⟩
theorem itd_enumT {a : Addr} {xs : List V} (h : SqT K H a xs) (r : RpL K O H xs ds) (ob : OB O H) : ItD K O H (IteT K a) (enumD 0 ds) := by
  refine ⟨fun i H2 st hi => ?_, fun i H2 x H' O2 st m ob2 hi hy => ?_, fun i H2 st hi => ?_⟩
  · rw [enumD_len] at hi
    obtain ⟨v, hv⟩ : ∃ v, xs[i]? = some v := ⟨_, List.getElem?_eq_getElem (by rw [r.length]; exact hi)⟩
    exact ⟨xs, v, SqT.stp h st ob, hv⟩
  · obtain ⟨Tn, y, e1, n, e2, hx⟩ := hy
    subst e1; subst e2
    obtain ⟨d, h1, h2⟩ := r.get (hx xs (SqT.stp h st ob))
    exact ⟨_, by rw [enumD_get, h1, Nat.zero_add]; rfl, Same.upd n, Fre.upd _ _ _, pair_rp ob2 n (.int _) (h2.move st ob m)⟩
  · exact ⟨xs, SqT.stp h st ob, by rw [r.length]; rw [enumD_len] at hi; exact hi⟩
theorem i_enum {wa : WA} {p tpos : Pos} {elts : List Expr} {kk : Nat} (hm : X.mg "enumerate" = none) (ha : PA X [e] (tA X.K T wa)) (hg : Gl X "enumerate" := by rfl) (hs : starEach [e] X.env = [(false, eval e X.env)] := by rfl) :
    PI X (.Tuple elts kk tpos) (.Call (.Name "enumerate" p) [e] [] pos) (tI X.K T (wEnumI wa)) := (pi_enumT hm ha hg hs).imp fun σ H R h => by
  obtain ⟨E0, B, ρ, Qd, er, tb, hw, k⟩ := h
  refine ⟨E0, B, ρ, _, er, tb, hw, fun vs H1 rs ρ1 q A => ?_⟩
  have hl := A.rr.len
  match rs, vs, q, hl, A with
  | [r], [v], q, _, A =>
    obtain ⟨d, ρ2, q, A2, rp⟩ := A.fz1 er q
    have ob := A2.obx
    cases rp with
    | lst s r => exact ⟨_, _, rfl, .inl ⟨s.sq, k _ _ _ _ q A2 (itd_enumL s r ob)⟩⟩
    | tup s r => exact ⟨_, _, rfl, .inr ⟨s.sq, k _ _ _ _ q A2 (itd_enumT s.sq r ob)⟩⟩
    | _ => exact (show False from q).elim
  | [], _, q, _, _ => exact q.elim
  | _ :: _ :: _, _, q, _, _ => exact q.elim
end
end DL
set_option maxRecDepth 100000
set_option maxHeartbeats 1000000
namespace DL
open PySem PySem.Spec L2 LamX RZ
section
variable {K : PySem.W.Frag} {T : Tb} {E0 B O : As} {σ : L2.St} {ρ ρ1 ρ2 : DEnv} {H H1 : Hp} {vs us : List V} {v : V} {rs : List RV} {ds : List D} {X : Cx} {e e1 e2 tg iter a b c : Expr} {es rest : List Expr} {pos : Pos}

theorem After.look1 {k : List D → Prop} (A : After K T E0 B σ H ρ vs H1 rs ρ1) (q : looksK ρ1 rs k) : ∃ ds, RpBs K (B.or (Ow σ ρ1)) H1 vs ds ∧ k ds := A.looks (rs' := rs) (vs' := vs) (fun j v r a b => ⟨j, a, b⟩) A.rr.len q
theorem After.nil (A : After K T E0 B σ H ρ vs H1 rs ρ1) : After K T E0 B σ H ρ [] H1 [] ρ1 := A.toNil (Same.refl _) (Fre.refl _)
def int1K (ds : List D) (k : Int → Prop) : Prop := match ds with
  | [.int i] => k i
  | _ => False
def int2K (ds : List D) (k : Int → Int → Prop) : Prop := match ds with
  | [.int i, .int j] => k i j
  | _ => False
def int3K (ds : List D) (k : Int → Int → Int → Prop) : Prop := match ds with
  | [.int i, .int j, .int c] => k i j c
  | _ => False
theorem int1_inv {k : Int → Prop} (h : RpBs K O H vs ds) (q : int1K ds k) : ∃ i, vs = [.int i] ∧ ds = [.int i] ∧ k i := by
  unfold int1K at q
  split at q
  · cases h with
    | cons h1 h2 => cases h2; rw [h1.int]; exact ⟨_, rfl, rfl, q⟩
  · exact q.elim
theorem int2_inv {k : Int → Int → Prop} (h : RpBs K O H vs ds) (q : int2K ds k) : ∃ i j, vs = [.int i, .int j] ∧ ds = [.int i, .int j] ∧ k i j := by
  unfold int2K at q
  split at q
  · cases h with
    | cons h1 h2 => cases h2 with
      | cons h2 h3 => cases h3; rw [h1.int, h2.int]; exact ⟨_, _, rfl, rfl, q⟩
  · exact q.elim
theorem int3_inv {k : Int → Int → Int → Prop} (h : RpBs K O H vs ds) (q : int3K ds k) : ∃ i j c, vs = [.int i, .int j, .int c] ∧ k i j c := by
  unfold int3K at q
  split at q
  · cases h with
    | cons h1 h2 => cases h2 with
      | cons h2 h3 => cases h3 with
        | cons h3 h4 => cases h4; rw [h1.int, h2.int, h3.int]; exact ⟨_, _, _, rfl, q⟩
  · exact q.elim

/-! ### ranges -/
def rngD (lo : Int) (n : Nat) : List D := (List.range n).map fun i => .int (lo + (i : Nat))
def rngC (lo c : Int) (n : Nat) : List D := (List.range n).map fun i => .int (lo + (i : Nat) * c)
theorem rngD_len {lo : Int} {n : Nat} : (rngD lo n).length = n := by simp [rngD]
theorem rngC_len {lo c : Int} {n : Nat} : (rngC lo c n).length = n := by simp [rngC]
theorem itd_rng {lo : Int} {n : Nat} : ItD K O H (Itr lo n) (rngD lo n) := by
  refine ⟨fun i H2 st hi => ?_, fun i H2 x H' O2 st m ob2 hi hy => ?_, fun i H2 st hi => ?_⟩
  · rw [rngD_len] at hi; exact hi
  · obtain ⟨rfl, rfl⟩ := hy
    rw [rngD_len] at hi
    exact ⟨.int (lo + i), by simp [rngD, hi], fun _ _ z => z, fun _ z => z, .int _⟩
  · rw [rngD_len] at hi; exact hi
theorem itd_rngC {lo c : Int} {n : Nat} : ItD K O H (Itc lo c n) (rngC lo c n) := by
  refine ⟨fun i H2 st hi => ?_, fun i H2 x H' O2 st m ob2 hi hy => ?_, fun i H2 st hi => ?_⟩
  · rw [rngC_len] at hi; exact hi
  · obtain ⟨rfl, rfl⟩ := hy
    rw [rngC_len] at hi
    exact ⟨.int (lo + i * c), by simp [rngC, hi], fun _ _ z => z, fun _ z => z, .int _⟩
  · rw [rngC_len] at hi; exact hi
def Bd (i : Int) : Prop := -4611686018427387904 ≤ i ∧ i < 4611686018427387904
def wRng1 (wa : WA) : WI := fun ρ Q => wa ρ fun rs ρ1 => looksK ρ1 rs fun ds => int1K ds fun j => Bd j ∧ Q (rngD 0 j.toNat) ρ1
def wRng2 (wa : WA) : WI := fun ρ Q => wa ρ fun rs ρ1 => looksK ρ1 rs fun ds => int2K ds fun i j => Bd i ∧ Bd j ∧ Q (rngD i (j - i).toNat) ρ1
def wRng3 (wa : WA) : WI := fun ρ Q => wa ρ fun rs ρ1 => looksK ρ1 rs fun ds => int3K ds fun i j c => ∃ n, RgC i j c n ∧ Q (rngC i c n) ρ1
theorem i_rng1 {wa : WA} {p : Pos} (hm : X.mg "range" = none) (ha : PA X [a] (tA X.K T wa)) (hg : Gl X "range" := by rfl) (hs : starEach [a] X.env = [(false, eval a X.env)] := by rfl) : PI X tg (.Call (.Name "range" p) [a] [] pos) (tI X.K T (wRng1 wa)) :=
  (pi_range1 hg hm ha hs).imp fun σ H R h => by
    obtain ⟨E0, B, ρ, Qd, er, tb, hw, k⟩ := h
    refine ⟨E0, B, ρ, _, er, tb, hw, fun vs H1 rs ρ1 q A => ?_⟩
    obtain ⟨ds, rb, q⟩ := A.look1 q
    obtain ⟨j, ev, _, ⟨b1, b2⟩, q⟩ := int1_inv rb q
    exact ⟨j, ev, b1, b2, k _ _ _ _ q A.nil itd_rng⟩
theorem i_rng2 {wa : WA} {p : Pos} (hm : X.mg "range" = none) (ha : PA X [a, b] (tA X.K T wa)) (hg : Gl X "range" := by rfl) (hs : starEach [a, b] X.env = [(false, eval a X.env), (false, eval b X.env)] := by rfl) (hs2 : starEach [b] X.env = [(false, eval b X.env)] := by rfl) :
    PI X tg (.Call (.Name "range" p) [a, b] [] pos) (tI X.K T (wRng2 wa)) :=
  (pi_range2 hg hm ha hs hs2).imp fun σ H R h => by
    obtain ⟨E0, B, ρ, Qd, er, tb, hw, k⟩ := h
    refine ⟨E0, B, ρ, _, er, tb, hw, fun vs H1 rs ρ1 q A => ?_⟩
    obtain ⟨ds, rb, q⟩ := A.look1 q
    obtain ⟨i, j, ev, _, ⟨b1, b2⟩, ⟨b3, b4⟩, q⟩ := int2_inv rb q
    exact ⟨i, j, ev, ⟨b1, b2, b3, b4⟩, k _ _ _ _ q A.nil itd_rng⟩
theorem i_rng3 {wa : WA} {p : Pos} (hm : X.mg "range" = none) (ha : PA X [a, b, c] (tA X.K T wa)) (hg : Gl X "range" := by rfl) (hs : starEach [a, b, c] X.env = (false, eval a X.env) :: starEach [b, c] X.env := by rfl) (hpl : (backTo pos (starEach [b, c] X.env)).any (·.1) = false := by rfl) :
    PI X tg (.Call (.Name "range" p) [a, b, c] [] pos) (tI X.K T (wRng3 wa)) :=
  (pi_range3 hg hm ha hs hpl).imp fun σ H R h => by
    obtain ⟨E0, B, ρ, Qd, er, tb, hw, k⟩ := h
    refine ⟨E0, B, ρ, _, er, tb, hw, fun vs H1 rs ρ1 q A => ?_⟩
    obtain ⟨ds, rb, q⟩ := A.look1 q
    obtain ⟨i, j, c, ev, n, hn, q⟩ := int3_inv rb q
    exact ⟨i, j, c, n, ev, hn, k _ _ _ _ q A.nil itd_rngC⟩

/-! ### zip of two lists, of two tuples -/
def pairsD (xs ys : List D) : List D := List.zipWith (fun x y => wkD [x, y]) xs ys
theorem pairsD_len {xs ys : List D} : (pairsD xs ys).length = min xs.length ys.length := by simp [pairsD]
theorem pairsD_get {xs ys : List D} {i : Nat} {x y : D} (h1 : xs[i]? = some x) (h2 : ys[i]? = some y) : (pairsD xs ys)[i]? = some (wkD [x, y]) := by
  simp [pairsD, List.getElem?_zipWith, h1, h2]
def zipK (ds : List D) (k : List D → Prop) : Prop := match ds with
  | [.list xs, .list ys] => k (pairsD xs ys)
  | [.tuple xs, .tuple ys] => k (pairsD xs ys)
  | _ => False
def wZipI (wa : WA) : WI := fun ρ Q => wa ρ fun rs ρ1 => fzsK ρ1 rs fun ds ρ2 => zipK ds fun ps => Q ps ρ2
theorem itd_zip {a b : Addr} {xs ys : List V} {ds es : List D} (h : LsR K O H a xs) (h' : LsR K O H b ys) (r : RpL K O H xs ds) (r' : RpL K O H ys es) (ob : OB O H) : ItD K O H (Itz K a b) (pairsD ds es) := by
  refine ⟨fun i H2 st hi => ?_, fun i H2 x H' O2 st m ob2 hi hy => ?_, fun i H2 st hi => ?_⟩
  · rw [pairsD_len] at hi
    exact ⟨xs, ys, xs[i]'(by rw [r.length]; omega), ys[i]'(by rw [r'.length]; omega), (h.stp st).sq, (h'.stp st).sq, List.getElem?_eq_getElem _, List.getElem?_eq_getElem _⟩
  · obtain ⟨Tn, y, z, e1, n, e2, hx, hz⟩ := hy
    subst e1; subst e2
    obtain ⟨d, h1, h2⟩ := r.get (hx xs (h.stp st).sq)
    obtain ⟨d', h1', h2'⟩ := r'.get (hz ys (h'.stp st).sq)
    exact ⟨_, pairsD_get h1 h1', Same.upd n, Fre.upd _ _ _, pair_rp ob2 n (h2.move st ob m) (h2'.move st ob m)⟩
  · refine ⟨xs, ys, (h.stp st).sq, (h'.stp st).sq, ?_⟩
    rw [pairsD_len] at hi
    rw [r.length, r'.length]; omega
theorem itd_zipT {a b : Addr} {xs ys : List V} {ds es : List D} (h : SqT K H a xs) (h' : SqT K H b ys) (r : RpL K O H xs ds) (r' : RpL K O H ys es) (ob : OB O H) : ItD K O H (ItzT K a b) (pairsD ds es) := by
  refine ⟨fun i H2 st hi => ?_, fun i H2 x H' O2 st m ob2 hi hy => ?_, fun i H2 st hi => ?_⟩
  · rw [pairsD_len] at hi
    exact ⟨xs, ys, xs[i]'(by rw [r.length]; omega), ys[i]'(by rw [r'.length]; omega), SqT.stp h st ob, SqT.stp h' st ob, List.getElem?_eq_getElem _, List.getElem?_eq_getElem _⟩
  · obtain ⟨Tn, y, z, e1, n, e2, hx, hz⟩ := hy
    subst e1; subst e2
    obtain ⟨d, h1, h2⟩ := r.get (hx xs (SqT.stp h st ob))
    obtain ⟨d', h1', h2'⟩ := r'.get (hz ys (SqT.stp h' st ob))
    exact ⟨_, pairsD_get h1 h1', Same.upd n, Fre.upd _ _ _, pair_rp ob2 n (h2.move st ob m) (h2'.move st ob m)⟩
  · refine ⟨xs, ys, SqT.stp h st ob, SqT.stp h' st ob, ?_⟩
    rw [pairsD_len] at hi
    rw [r.length, r'.length]; omega
theorem i_zip {wa : WA} {p tpos : Pos} {elts : List Expr} {kk : Nat} (hm : X.mg "zip" = none) (ha : PA X [a, b] (tA X.K T wa)) (hg : Gl X "zip" := by rfl) (hs : starEach [a, b] X.env = (false, eval a X.env) :: starEach [b] X.env := by rfl) (hpl : (backTo pos (starEach [b] X.env)).any (·.1) = false := by rfl) :
    PI X (.Tuple elts kk tpos) (.Call (.Name "zip" p) [a, b] [] pos) (tI X.K T (wZipI wa)) := (pi_zipA hg hm ha hs hpl).imp fun σ H R h => by
  obtain ⟨E0, B, ρ, Qd, er, tb, hw, k⟩ := h
  refine ⟨E0, B, ρ, _, er, tb, hw, fun vs H1 rs ρ1 q A => ?_⟩
  obtain ⟨ds, ρ2, q, A2, rl⟩ := A.freeze er q
  have ob := A2.obx
  unfold zipK at q
  split at q
  · cases rl with
    | cons r1 rl => cases rl with
      | cons r2 rl => cases rl; cases r1 with
        | lst s1 q1 => cases r2 with
          | lst s2 q2 => exact ⟨_, _, _, _, rfl, .inl ⟨s1.sq, s2.sq, k _ _ _ _ q A2.nil (itd_zip s1 s2 q1 q2 ob)⟩⟩
  · cases rl with
    | cons r1 rl => cases rl with
      | cons r2 rl => cases rl; cases r1 with
        | tup s1 q1 => cases r2 with
          | tup s2 q2 => exact ⟨_, _, _, _, rfl, .inr ⟨s1.sq, s2.sq, k _ _ _ _ q A2.nil (itd_zipT s1.sq s2.sq q1 q2 ob)⟩⟩
  · exact q.elim

/-! ### tests -/
/-- what is true of data -/
def truD : D → Option Bool
  | .none => some false
  | .bool b => some b
  | .int i => some (i != 0)
  | .str s => some ((s.length : Int) != 0)
  | .list ds => some (!ds.isEmpty)
  | .tuple ds => some (!ds.isEmpty)
  | .dict _ => none
def strOkD : D → Prop
  | .str s => s.length ≤ 16777216
  | _ => True
def truK (d : D) (k : Bool → Prop) : Prop := match truD d with
  | some b => strOkD d ∧ k b
  | none => False
def wTru (wa : WE) : WT := fun ρ Q => wa ρ fun r ρ1 => lookK ρ1 r fun d => truK d fun b => Q b ρ1
theorem tru_of {d : D} {k : Bool → Prop} (h : RpB K O H v d) (q : truK d k) : ∃ b, TruV K v H b ∧ k b := by
  unfold truK at q
  cases d with
  | none => obtain ⟨_, q⟩ := q; rw [h.non]; exact ⟨false, rfl, q⟩
  | bool b => obtain ⟨_, q⟩ := q; rw [h.bool]; exact ⟨b, rfl, q⟩
  | int i => obtain ⟨_, q⟩ := q; rw [h.int]; exact ⟨_, rfl, q⟩
  | str s => obtain ⟨l, q⟩ := q; rw [h.str]; exact ⟨_, ⟨sz_le l, rfl⟩, q⟩
  | list ds =>
    obtain ⟨_, q⟩ := q
    obtain ⟨a, xs, e, h1, h2⟩ := h.lst
    subst e
    refine ⟨_, .inl ⟨xs, h1, rfl⟩, ?_⟩
    have : xs.isEmpty = ds.isEmpty := by cases h2 <;> rfl
    rw [this]; exact q
  | tuple ds =>
    obtain ⟨_, q⟩ := q
    obtain ⟨a, xs, e, h1, h2⟩ := h.tup
    subst e
    refine ⟨_, .inr (.inl ⟨xs, h1, rfl⟩), ?_⟩
    have : xs.isEmpty = ds.isEmpty := by cases h2 <;> rfl
    rw [this]; exact q
  | dict kvs => exact q.elim
theorem t_tru {wa : WE} (ha : PE X a (tE X.K T wa)) (he : ∀ whole, isTrue a X.env whole = (do let v ← whole; standAt a.pos; holding [v] (truthy v)) := by intro _; rfl) : PT X a (tT X.K T (wTru wa)) := (pt_truth ha he).imp fun σ H Q h => by
  obtain ⟨E0, B, ρ, Qd, er, tb, hw, k⟩ := h
  refine ⟨E0, B, ρ, _, er, tb, hw, fun v H1 r ρ1 q A => ?_⟩
  obtain ⟨d, hd, q⟩ := lookK_some q
  obtain ⟨b, h1, q⟩ := tru_of (A.look (j := 0) rfl rfl hd) q
  exact ⟨b, h1, k b H1 ρ1 q A.nil⟩
def wNotT (w : WT) : WT := fun ρ Q => w ρ fun b ρ1 => Q (!b) ρ1
def wAndT (w w' : WT) : WT := fun ρ Q => w ρ fun b ρ1 => match b with
  | true => w' ρ1 Q
  | false => Q false ρ1
def wOrT (w w' : WT) : WT := fun ρ Q => w ρ fun b ρ1 => match b with
  | true => Q true ρ1
  | false => w' ρ1 Q
theorem After.then (A : After K T E0 B σ H ρ [] H1 [] ρ1) {H2 : Hp} {us : List V} {qs : List RV} (A2 : After K T E0 B σ H1 ρ1 us H2 qs ρ2) : After K T E0 B σ H ρ us H2 qs ρ2 := by
  have e : After K T E0 (B.or (Nw [] [])) σ H1 ρ1 us H2 qs ρ2 := by
    have : (B.or (Nw [] [])) = B := by
      funext a
      apply propext
      exact ⟨fun z => z.elim id fun z => (nw_nil a z).elim, fun z => .inl z⟩
    rw [this]; exact A2
  exact A.seq e
theorem t_not {w : WT} (ha : PT X a (tT X.K T w)) : PT X (.UnaryOp .Not a pos) (tT X.K T (wNotT w)) := (pt_not ha).imp fun σ H Q h => by
  obtain ⟨E0, B, ρ, Qd, er, tb, hw, k⟩ := h
  exact ⟨E0, B, ρ, _, er, tb, hw, fun b H1 ρ1 q A => k _ H1 ρ1 q A⟩
theorem _root_.L2.PW.imp {e : Expr} {t t' : TT} (h : PW X e t) (f : ∀ σ H Q, t' σ H Q → t σ H Q) : PW X e t' := ⟨fun wh pins s σ H Q I w => h.run wh pins s σ H Q I (f σ H Q w)⟩
theorem w_and1 {w : WT} (ha : PT X a (tT X.K T w)) : PW X (.BoolOp .And [a] pos) (tT X.K T w) := pw_and1 ha
theorem w_or1 {w : WT} (ha : PT X a (tT X.K T w)) : PW X (.BoolOp .Or [a] pos) (tT X.K T w) := pw_or1 ha
theorem w_and {w w' : WT} (ha : PT X a (tT X.K T w)) (hb : PW X (.BoolOp .And (b :: rest) pos) (tT X.K T w')) : PW X (.BoolOp .And (a :: b :: rest) pos) (tT X.K T (wAndT w w')) := (pw_and ha hb).imp fun σ H Q h => by
  obtain ⟨E0, B, ρ, Qd, er, tb, hw, k⟩ := h
  refine ⟨E0, B, ρ, _, er, tb, hw, fun b H1 ρ1 q A => ?_⟩
  cases b with
  | true => exact L2.iteT ⟨E0, B, ρ1, _, A.saft.er, A.tab, q, fun b2 H2 ρ2 q A2 => k b2 H2 ρ2 q (A.then A2)⟩
  | false => exact L2.iteF (k false H1 ρ1 q A)
theorem w_or {w w' : WT} (ha : PT X a (tT X.K T w)) (hb : PW X (.BoolOp .Or (b :: rest) pos) (tT X.K T w')) : PW X (.BoolOp .Or (a :: b :: rest) pos) (tT X.K T (wOrT w w')) := (pw_or ha hb).imp fun σ H Q h => by
  obtain ⟨E0, B, ρ, Qd, er, tb, hw, k⟩ := h
  refine ⟨E0, B, ρ, _, er, tb, hw, fun b H1 ρ1 q A => ?_⟩
  cases b with
  | true => exact L2.iteT (k true H1 ρ1 q A)
  | false => exact L2.iteF ⟨E0, B, ρ1, _, A.saft.er, A.tab, q, fun b2 H2 ρ2 q A2 => k b2 H2 ρ2 q (A.then A2)⟩
/-! ### logic as values -/
def boolK (d : D) (k : Bool → Prop) : Prop := match d with
  | .bool b => k b
  | _ => False
theorem bool_inv {d : D} {k : Bool → Prop} (h : RpB K O H v d) (q : boolK d k) : ∃ b, v = .bl b ∧ k b := by
  cases d with
  | bool b => exact ⟨b, h.bool, q⟩
  | _ => exact (show False from q).elim
def wAnd (wa wb : WE) : WE := fun ρ Q => wa ρ fun r ρ1 => lookK ρ1 r fun d => boolK d fun b => match b with
  | true => wb ρ1 Q
  | false => Q (.val (.bool false)) ρ1
def wOr (wa wb : WE) : WE := fun ρ Q => wa ρ fun r ρ1 => lookK ρ1 r fun d => boolK d fun b => match b with
  | true => Q (.val (.bool true)) ρ1
  | false => wb ρ1 Q
def wNot (wa : WE) : WE := fun ρ Q => wa ρ fun r ρ1 => lookK ρ1 r fun d => boolK d fun b => Q (.val (.bool !b)) ρ1
theorem d_one {op} {wa : WE} (ha : PE X a (tE X.K T wa)) : PE X (.BoolOp op [a] pos) (tE X.K T wa) := pe_one ha
theorem After.bool {b : Bool} (A : After K T E0 B σ H ρ vs H1 rs ρ1) : After K T E0 B σ H ρ [.bl b] H1 [.val (.bool b)] ρ1 := A.op (dv := .val (.bool b)) (Same.refl _) (Fre.refl _) (.bl b)
theorem d_and {wa wb : WE} (ha : PE X a (tE X.K T wa)) (hb : PE X (.BoolOp .And (b :: rest) pos) (tE X.K T wb)) : PE X (.BoolOp .And (a :: b :: rest) pos) (tE X.K T (wAnd wa wb)) := (pe_and ha hb).imp fun σ H Q h => by
  obtain ⟨E0, B, ρ, Qd, er, tb, hw, k⟩ := h
  refine ⟨E0, B, ρ, _, er, tb, hw, fun v H1 r ρ1 q A => ?_⟩
  obtain ⟨d, hd, q⟩ := lookK_some q
  obtain ⟨b, ev, q⟩ := bool_inv (A.look (j := 0) rfl rfl hd) q
  refine ⟨b, ev, ?_⟩
  cases b with
  | true => exact L2.iteT ⟨E0, B, ρ1, _, A.saft.er, A.tab, q, fun v2 H2 r2 ρ2 q A2 => k v2 H2 r2 ρ2 q (A.nil.then A2)⟩
  | false => exact L2.iteF (k _ H1 _ ρ1 q A.bool)
theorem d_or {wa wb : WE} (ha : PE X a (tE X.K T wa)) (hb : PE X (.BoolOp .Or (b :: rest) pos) (tE X.K T wb)) : PE X (.BoolOp .Or (a :: b :: rest) pos) (tE X.K T (wOr wa wb)) := (pe_or ha hb).imp fun σ H Q h => by
  obtain ⟨E0, B, ρ, Qd, er, tb, hw, k⟩ := h
  refine ⟨E0, B, ρ, _, er, tb, hw, fun v H1 r ρ1 q A => ?_⟩
  obtain ⟨d, hd, q⟩ := lookK_some q
  obtain ⟨b, ev, q⟩ := bool_inv (A.look (j := 0) rfl rfl hd) q
  refine ⟨b, ev, ?_⟩
  cases b with
  | true => exact L2.iteT (k _ H1 _ ρ1 q A.bool)
  | false => exact L2.iteF ⟨E0, B, ρ1, _, A.saft.er, A.tab, q, fun v2 H2 r2 ρ2 q A2 => k v2 H2 r2 ρ2 q (A.nil.then A2)⟩
theorem d_not {wa : WE} (ha : PE X a (tE X.K T wa)) : PE X (.UnaryOp .Not a pos) (tE X.K T (wNot wa)) := (pe_not ha).imp fun σ H Q h => by
  obtain ⟨E0, B, ρ, Qd, er, tb, hw, k⟩ := h
  refine ⟨E0, B, ρ, _, er, tb, hw, fun v H1 r ρ1 q A => ?_⟩
  obtain ⟨d, hd, q⟩ := lookK_some q
  obtain ⟨b, ev, q⟩ := bool_inv (A.look (j := 0) rfl rfl hd) q
  exact ⟨b, ev, k _ H1 _ ρ1 q A.bool⟩
def wIfE (c : WT) (wa wb : WE) : WE := fun ρ Q => c ρ fun b ρ1 => match b with
  | true => wa ρ1 Q
  | false => wb ρ1 Q
theorem d_if {wc : WT} {wa wb : WE} (hc : PT X c (tT X.K T wc)) (ha : PE X a (tE X.K T wa)) (hb : PE X b (tE X.K T wb)) : PE X (.IfExp c a b pos) (tE X.K T (wIfE wc wa wb)) := (pe_ifExp hc ha hb).imp fun σ H Q h => by
  obtain ⟨E0, B, ρ, Qd, er, tb, hw, k⟩ := h
  refine ⟨E0, B, ρ, _, er, tb, hw, fun b H1 ρ1 q A => ?_⟩
  cases b with
  | true => exact L2.iteT ⟨E0, B, ρ1, _, A.saft.er, A.tab, q, fun v2 H2 r2 ρ2 q A2 => k v2 H2 r2 ρ2 q (A.then A2)⟩
  | false => exact L2.iteF ⟨E0, B, ρ1, _, A.saft.er, A.tab, q, fun v2 H2 r2 ρ2 q A2 => k v2 H2 r2 ρ2 q (A.then A2)⟩
end
end DL
set_option maxRecDepth 100000
set_option maxHeartbeats 1000000
namespace DL
open PySem PySem.Spec L2 LamX
section
variable {K : PySem.W.Frag} {T : Tb} {E0 B O : As} {σ : L2.St} {ρ ρ1 ρ2 : DEnv} {H H1 : Hp} {vs us : List V} {v : V} {r : RV} {rs : List RV} {d : D} {ds : List D} {X : Cx} {e e1 e2 tg iter a b c : Expr} {es rest : List Expr} {pos p2 : Pos}

/-! ### subscripts -/
def gIx (d e : D) (k : DV → Prop) : Prop := match e with
  | .int i => (match d with
    | .list ds => (match atI ds i with
      | some x => k (.val x)
      | none => False)
    | .tuple ds => (match atI ds i with
      | some x => k (.val x)
      | none => False)
    | .str s => s.length ≤ 16777216 ∧ (match atI s.cps.toList i with
      | some c => k (.val (.str ⟨#[c]⟩))
      | none => False)
    | _ => False)
  | _ => False
theorem atI_rel {xs : List V} {ds : List D} {i : Int} {x : D} (r : RpL K O H xs ds) (h : atI ds i = some x) : ∃ v, atI xs i = some v ∧ Rp K O H v x := by
  unfold atI at h ⊢
  rw [r.length]
  cases e : ixN ds.length i with
  | none => rw [e] at h; cases h
  | some j =>
    rw [e] at h
    exact r.get' h
theorem ix_op : Op2 K (rIx K) gIx := by
  intro O H x y d e Qd Q ob hx hy hg k
  cases e with
  | int i =>
    rw [hy.int]
    cases d with
    | list ds =>
      obtain ⟨a, xs, ex, h1, h2⟩ := hx.lst
      subst ex
      have hg : match atI ds i with | some x => Qd (.val x) | none => False := hg
      cases ea : atI ds i with
      | none => rw [ea] at hg; exact hg.elim
      | some z =>
        rw [ea] at hg
        obtain ⟨w, h3, h4⟩ := atI_rel h2 ea
        exact .inl ⟨a, xs, i, w, rfl, rfl, h1, h3, k _ _ _ hg (Same.refl _) (Fre.refl _) h4⟩
    | tuple ds =>
      obtain ⟨a, xs, ex, h1, h2⟩ := hx.tup
      subst ex
      have hg : match atI ds i with | some x => Qd (.val x) | none => False := hg
      cases ea : atI ds i with
      | none => rw [ea] at hg; exact hg.elim
      | some z =>
        rw [ea] at hg
        obtain ⟨w, h3, h4⟩ := atI_rel h2 ea
        exact .inr (.inl ⟨a, xs, i, w, rfl, rfl, h1, h3, k _ _ _ hg (Same.refl _) (Fre.refl _) h4⟩)
    | str s =>
      obtain ⟨l, hg⟩ := (show s.length ≤ 16777216 ∧ match atI s.cps.toList i with | some c => Qd (.val (.str ⟨#[c]⟩)) | none => False from hg)
      rw [hx.str]
      cases ea : atI s.cps.toList i with
      | none => rw [ea] at hg; exact hg.elim
      | some z =>
        rw [ea] at hg
        exact .inr (.inr ⟨s, i, z, rfl, rfl, sz_le l, ea, k _ _ _ hg (Same.refl _) (Fre.refl _) (.str _)⟩)
    | _ => exact (show False from hg).elim
  | _ => exact (show False from hg).elim
theorem d_ix {wa wb : WE} (ha : PE X a (tE X.K T wa)) (hb : PE X b (tE X.K T wb)) (hs : PlainIx b := by exact fun _ _ => rfl) : PE X (.Subscript a b pos) (tE X.K T (wOp2 gIx wa wb)) := (pe_ix ix_seq ha hb hs).imp fun σ H Q h => by
  obtain ⟨E0, B, ρ, Qd, er, tb, hw, k⟩ := h
  exact two er tb (k := fun d1 d2 ρ2 => gIx d1 d2 fun dv => Qd dv.rv ρ2) hw fun x y H2 r1 r2 d1 d2 ρ2 A h1 h2 q => ix_op _ H2 x y d1 d2 _ _ A.obx h1 h2 q fun v H' dv q s f oa => k v H' _ ρ2 q (A.op s f oa)

/-! ### slices -/
abbrev WO := DEnv → (Option Int → DEnv → Prop) → Prop
def tO (K : PySem.W.Frag) (T : Tb) (w : WO) : TO := fun σ H Q => ∃ E0 B ρ Qd, ER K E0 B σ H ρ ∧ Tabs T H ∧ w ρ Qd ∧ ∀ o H' ρ', Qd o ρ' → After K T E0 B σ H ρ [] H' [] ρ' → Q o H'
theorem _root_.L2.PO.imp {o : Option Expr} {t t' : TO} (h : PO X o t) (f : ∀ σ H Q, t' σ H Q → t σ H Q) : PO X o t' := ⟨fun pins s σ H Q I w => h.run pins s σ H Q I (f σ H Q w)⟩
def wNo : WO := fun ρ Q => Q none ρ
def wPt (wa : WE) : WO := fun ρ Q => wa ρ fun r ρ1 => lookK ρ1 r fun d => intK d fun i => Q (some i) ρ1
theorem o_none : PO X none (tO X.K T wNo) := po_none.imp fun σ H Q h => by
  obtain ⟨E0, B, ρ, Qd, er, tb, hw, k⟩ := h
  exact k _ H ρ hw (.ofNil er tb)
theorem o_some {wa : WE} (ha : PE X a (tE X.K T wa)) : PO X (some a) (tO X.K T (wPt wa)) := (po_some ha).imp fun σ H Q h => by
  obtain ⟨E0, B, ρ, Qd, er, tb, hw, k⟩ := h
  refine ⟨E0, B, ρ, _, er, tb, hw, fun v H1 r ρ1 q A => ?_⟩
  obtain ⟨d, hd, q⟩ := lookK_some q
  cases d with
  | int i => exact ⟨i, (A.look (j := 0) rfl rfl hd).int, k _ H1 ρ1 q A.nil⟩
  | _ => exact (show False from q).elim
def cutD (ds : List D) (lo hi : Option Int) : List D := (ds.drop (HT.sIx ds.length 0 lo)).take (HT.sIx ds.length ds.length hi - HT.sIx ds.length 0 lo)
theorem cut_rel {xs : List V} {lo hi : Option Int} (r : RpL K O H xs ds) : RpL K O H (cutV xs lo hi) (cutD ds lo hi) := by
  unfold cutV cutD
  rw [r.length]
  exact RpL.take _ (RpL.drop _ r)
def gSl (d : D) (lo hi : Option Int) (k : DV → Prop) : Prop := match d with
  | .list ds => k (.new (.lst (cutD ds lo hi)))
  | .tuple ds => k (.val (.tuple (cutD ds lo hi)))
  | _ => False
def wSl (wa : WE) (wl wh : WO) : WE := fun ρ Q => wa ρ fun r ρ1 => wl ρ1 fun lo ρ2 => wh ρ2 fun hi ρ3 => lookK ρ3 r fun d => gSl d lo hi fun dv => Q dv.rv ρ3
theorem whole_cut {xs : List D} {lo hi : Option Int} (h : HT.sIx xs.length 0 lo = 0 ∧ HT.sIx xs.length xs.length hi = xs.length) : cutD xs lo hi = xs := by
  unfold cutD
  rw [h.1, h.2, Nat.sub_zero, List.drop_zero, List.take_length]
/-- t[lo:hi] of a tuple: it itself, or a new one -/
def rSlP (K : PySem.W.Frag) : V → Option Int → Option Int → Hp → VK → Prop := fun x lo hi H Q => ∃ a xs, x = .ref a ∧ SqT K H a xs ∧
  (HT.sIx xs.length 0 lo = 0 ∧ HT.sIx xs.length xs.length hi = xs.length → Q (.ref a) H) ∧ NewT H (cutV xs lo hi) Q
theorem sl_tupP : SlR X (rSlP X.K) := by
  intro pins s σ H x v vl vu lo hi sl Q I rx hs pl pu h
  obtain ⟨a, xs, rfl, hx, q1, q2⟩ := h
  cases rx
  obtain ⟨its, r, ht, hz⟩ := I.tuple hx
  have hlen : its.toArray.size = xs.length := r.length.symm
  refine ⟨"tuple", _, PyProof.Rows.slot_tuple_getitem.lookup, ht.typeIs, ?_⟩
  by_cases hw : HT.sIx xs.length 0 lo = 0 ∧ HT.sIx xs.length xs.length hi = xs.length
  · exact getItem_tuple_whole ht hs pl pu (by rw [hlen]; exact hw) ⟨.ref a, H, I, rfl, q1 hw⟩
  · refine HT.getItem_tuple_cut ht hs pl pu (by rw [hlen]; exact hw) ?_ (by rw [hlen]; exact hz)
    rw [hlen]
    exact ⟨.ref _, _, laidT (t' := s.toks) I (fun b ob q => Heap.get?_push_of_some _ q) (Nat.le_refl _) (Heap.get?_push_size _ rfl) ((r.drop (HT.sIx xs.length 0 lo)).take (HT.sIx xs.length xs.length hi - HT.sIx xs.length 0 lo)) (Nat.le_trans (cutV_length xs lo hi) hz), rfl, q2 _ _ (I.hok.fresh (Nat.le_refl _)) rfl⟩
theorem d_sl {lo hi : Option Expr} {wa : WE} {wl wh : WO} (ha : PE X a (tE X.K T wa)) (hl : PO X lo (tO X.K T wl)) (hh : PO X hi (tO X.K T wh)) : PE X (.Subscript a (.Slice lo hi none p2) pos) (tE X.K T (wSl wa wl wh)) := (pe_slice (sl_list.or sl_tupP) ha hl hh).imp fun σ H Q h => by
  obtain ⟨E0, B, ρ, Qd, er, tb, hw, k⟩ := h
  refine ⟨E0, B, ρ, _, er, tb, hw, fun v H1 r ρ1 q A1 => ⟨E0, _, ρ1, _, A1.er, A1.tab, q, fun lo' H2 ρ2 q A2 => ?_⟩⟩
  refine ⟨E0, _, ρ2, _, A2.saft.er, A2.tab, q, fun hi' H3 ρ3 q A3 => ?_⟩
  obtain ⟨d, hd, q⟩ := lookK_some q
  have A : After X.K T E0 B σ H ρ [v] H3 [r] ρ3 := A1.seq (A2.then A3)
  have hx := A.look (j := 0) rfl rfl hd
  cases d with
  | list ds =>
    obtain ⟨a, xs, ex, h1, h2⟩ := hx.lst
    exact .inl ⟨a, xs, ex, h1, fun p hp => k _ _ _ ρ3 q (A.op (dv := .new (.lst (cutD ds lo' hi'))) (Same.upd hp) (Fre.upd _ _ _) (opaft_lst A.obx hp (cut_rel h2)))⟩
  | tuple ds =>
    obtain ⟨a, xs, ex, h1, h2⟩ := hx.tupP
    refine .inr ⟨a, xs, ex, h1.sq, fun hw => ?_, fun p o hp dn => k _ _ _ ρ3 q (A.op (dv := .val (.tuple (cutD ds lo' hi'))) (Same.upd hp) (Fre.upd _ _ _) (opaft_tup A.obx hp dn (cut_rel h2)))⟩
    have e := whole_cut (xs := ds) (lo := lo') (hi := hi') (by rw [h2.length] at hw; exact hw)
    have q : Qd (.val (.tuple (cutD ds lo' hi'))) ρ3 := q
    rw [e] at q
    exact k _ _ _ ρ3 q (A.op (dv := .val (.tuple ds)) (Same.refl _) (Fre.refl _) (.tup h1 h2))
  | _ => exact (show False from q).elim
def wRevL (wa : WE) : WE := fun ρ Q => wa ρ fun r ρ1 => lookK ρ1 r fun d => match d with
  | .list ds => Q (.new (.lst ds.reverse)) ρ1
  | _ => False
theorem d_revL {wa : WE} {k : Nat} {p1 p3 : Pos} (ha : PE X a (tE X.K T wa)) : PE X (.Subscript a (.Slice none none (some (.UnaryOp .USub (.Constant (.int 1) k p1) p2)) p3) pos) (tE X.K T (wRevL wa)) := (pe_revL ha).imp fun σ H Q h => by
  obtain ⟨E0, B, ρ, Qd, er, tb, hw, k⟩ := h
  refine ⟨E0, B, ρ, _, er, tb, hw, fun v H1 r ρ1 q A => ?_⟩
  obtain ⟨d, hd, q⟩ := lookK_some q
  cases d with
  | list ds =>
    obtain ⟨a, xs, ex, h1, h2⟩ := (A.look (j := 0) rfl rfl hd).lst
    exact ⟨a, xs, ex, h1, fun p hp => k _ _ _ ρ1 q (A.op (dv := .new (.lst ds.reverse)) (Same.upd hp) (Fre.upd _ _ _) (opaft_lst A.obx hp (RpL.reverse h2)))⟩
  | _ => exact (show False from q).elim

/-! ### while, op= -/
def wWhile (c : WT) (wb : WS) : WS := fun ρ P => ∃ I : Nat → DEnv → Prop, (∃ m, I m ρ) ∧ ∀ m ρ, I m ρ → c ρ fun b ρ1 => match b with
  | true => wb ρ1 { nx := fun ρ2 => ∃ m', m' < m ∧ I m' ρ2, rt := P.rt, bk := P.nx, ct := fun ρ2 => ∃ m', m' < m ∧ I m' ρ2 }
  | false => P.nx ρ1
theorem s_while {c : Expr} {body : List Stmt} {wc : WT} {wb : WS} (hp : PassesOwn (model X.prog X.w) X.A X.env X.xe) (hc : PT X c (tT X.K T wc)) (hb : PSs X body (tS X.K T wb)) : PS X (.While c body [] pos) (tS X.K T (wWhile wc wb)) := (ps_while hp hc hb).imp fun D σ H h => by
  obtain ⟨E0, B, ρ, P, er, tb, hw, k, kr, kb, kc⟩ := h
  obtain ⟨I, ⟨m0, i0⟩, turn⟩ := hw
  refine ⟨fun m σ' H' => ∃ ρ', SAft X.K T E0 B σ H ρ σ' H' ρ' ∧ I m ρ', ⟨m0, ρ, .refl er tb, i0⟩, fun m σ1 H1 ⟨ρ1, S1, i1⟩ => ?_⟩
  refine ⟨E0, B, ρ1, _, S1.er, S1.tab, turn m ρ1 i1, fun b H2 ρ2 q A2 => ?_⟩
  have S2 := S1.trans A2.saft
  cases b with
  | true =>
    refine L2.iteT ⟨fun σ3 H3 => ∃ m', m' < m ∧ ∃ ρ3, SAft X.K T E0 B σ H ρ σ3 H3 ρ3 ∧ I m' ρ3, fun σ3 H3 h => h, ?_⟩
    exact ⟨E0, B, ρ2, _, S2.er, S2.tab, q, fun σ3 H3 ρ3 ⟨m', hm, i3⟩ A3 => ⟨m', hm, ρ3, S2.trans A3, i3⟩, fun v H3 r ρ3 q A3 => kr v H3 r ρ3 q (S2.ret A3), fun σ3 H3 ρ3 q A3 => k σ3 H3 ρ3 q (S2.trans A3), fun σ3 H3 ρ3 ⟨m', hm, i3⟩ A3 => ⟨m', hm, ρ3, S2.trans A3, i3⟩⟩
  | false => exact L2.iteF (k σ1 H2 ρ2 q S2)
end
end DL
set_option maxRecDepth 100000
set_option maxHeartbeats 1000000
namespace DL
open PySem PySem.Spec L2 LamX
section
variable {K : PySem.W.Frag} {T : Tb} {E0 B O : As} {σ : L2.St} {ρ ρ1 ρ2 : DEnv} {H H1 : Hp} {vs us : List V} {v : V} {r : RV} {rs : List RV} {d : D} {ds : List D} {X : Cx} {e e1 e2 tg iter a b c : Expr} {es rest : List Expr} {pos p2 : Pos}

/-! ### + -/
def gAdd (d e : D) (k : DV → Prop) : Prop := match d, e with
  | .int i, .int j => k (.val (.int (i + j)))
  | .str x, .str y => x.length + y.length ≤ 16777216 ∧ k (.val (.str (x ++ y)))
  | .tuple xs, .tuple ys => xs.length + ys.length ≤ 16777216 ∧ k (.val (.tuple (xs ++ ys)))
  | .list xs, .list ys => xs.length + ys.length ≤ 16777216 ∧ k (.new (.lst (xs ++ ys)))
  | _, _ => False
def rCatS (K : PySem.W.Frag) : R2 := fun x y H Q => ∃ l b xs zs, x = .ref l ∧ y = .ref b ∧ SqL K H l xs ∧ SqL K H b zs ∧ xs.length + zs.length ≤ sizeLine ∧ ∀ p, H p = none → Q (.ref p) (upd H p (.lst (xs ++ zs)))
theorem op_catS : OpR X (binaryOp .Add) (rCatS X.K) := by
  intro pins s σ H x y v u Q I rx ry h
  obtain ⟨l, b, xs, zs, rfl, rfl, h1, h2, hz, q⟩ := h
  cases rx; cases ry
  obtain ⟨i1, r1, ⟨⟨c1, dd1, da1, sl1⟩, n1, g1, g2, g3, g4⟩, z1⟩ := I.list h1
  obtain ⟨i2, r2, ⟨⟨c2, dd2, da2, sl2⟩, n2, k1, k2, k3, k4⟩, z2⟩ := I.list h2
  simp only at g2 g3 g4 k2 k3 k4
  subst g2; subst g4; subst k2; subst k4
  have ea : i1.toArray ++ i2.toArray = (i1 ++ i2).toArray := by simp
  have lz : i1.toArray.size + i2.toArray.size ≤ sizeLine := by
    have := r1.length; have := r2.length
    simp only [List.size_toArray]; omega
  refine concat_meets ⟨_, g1, rfl⟩ ⟨_, k1, rfl⟩ noFill_list_add seq_list_add PySem.F.slot_list_add PySem.F.entry_list_add (PySem.F.args_list_add_2 _ _) (PyProof.Rows.list_addW l b i1.toArray i2.toArray n1 n2 dd1 dd2 sl1 sl2 lz) ⟨g1, k1, ?_⟩
  rw [ea]
  exact ⟨.ref _, _, I.lnew (t' := s.toks) (r1.append r2) (by rw [List.length_append]; exact hz), rfl, q _ I.fresh⟩
/-- t + u of tuples: one of the two, or a new one -/
def rCatP (K : PySem.W.Frag) : R2 := fun x y H Q => ∃ a b xs ys, x = .ref a ∧ y = .ref b ∧ SqT K H a xs ∧ SqT K H b ys ∧ xs.length + ys.length ≤ sizeLine ∧ (xs = [] → Q (.ref b) H) ∧ (ys = [] → Q (.ref a) H) ∧ NewT H (xs ++ ys) Q
theorem op_catP : OpR X (binaryOp .Add) (rCatP X.K) := by
  intro pins s σ H x y v u Q I rx ry h
  obtain ⟨a, b, xs, ys, rfl, rfl, ha, hb, hz, q0, q1, q2⟩ := h
  by_cases hx : xs = []
  · exact op_catA pins s σ H _ _ v u Q I rx ry ⟨a, b, xs, ys, rfl, rfl, ha, hb, hz, q0, fun e => (e hx).elim, fun e => (e hx).elim⟩
  cases rx; cases ry
  obtain ⟨i1, r1, p1, _⟩ := I.tuple ha
  obtain ⟨i2, r2, p2, _⟩ := I.tuple hb
  refine HT.cat_tup p1 p2 (fun z => hx (r1.nil_iff.mp z)) (fun z => ⟨.ref a, H, I, rfl, q1 (r2.nil_iff.mp z)⟩) (fun z => ?_) (by rw [← r1.length, ← r2.length]; exact hz)
  exact ⟨.ref _, _, laidT (t' := s.toks) I (fun b ob q => Heap.get?_push_of_some _ q) (Nat.le_refl _) (Heap.get?_push_size _ rfl) (r1.append r2) (by rw [List.length_append]; exact hz), rfl, q2 _ _ (I.hok.fresh (Nat.le_refl _)) rfl⟩
def rAddAll (K : PySem.W.Frag) : R2 := fun x y H Q => (rI0 fun i j => .int (i + j)) x y H Q ∨ (∃ i j, x = .str i ∧ y = .str j ∧ i.length + j.length ≤ sizeLine ∧ Q (.str (i ++ j)) H) ∨ rCatP K x y H Q ∨ rCatS K x y H Q
theorem op_addAll : OpR X (binaryOp .Add) (rAddAll X.K) := op_add.or (op_add_str.or (op_catP.or op_catS))
theorem add_op : Op2 K (rAddAll K) gAdd := by
  intro O H x y d e Qd Q ob hx hy hg k
  cases d with
  | int i => cases e with
    | int j => rw [hx.int, hy.int]; exact .inl ⟨i, j, rfl, rfl, k _ _ _ hg (Same.refl _) (Fre.refl _) (.int _)⟩
    | _ => exact (show False from hg).elim
  | str i => cases e with
    | str j => rw [hx.str, hy.str]; exact .inr (.inl ⟨i, j, rfl, rfl, sz_le hg.1, k _ _ _ hg.2 (Same.refl _) (Fre.refl _) (.str _)⟩)
    | _ => exact (show False from hg).elim
  | list xs => cases e with
    | list ys =>
      obtain ⟨a, us, ea, h1, h2⟩ := hx.lst
      obtain ⟨b, ws, eb, h3, h4⟩ := hy.lst
      subst ea; subst eb
      exact .inr (.inr (.inr ⟨a, b, us, ws, rfl, rfl, h1, h3, by rw [h2.length, h4.length]; exact sz_le hg.1, fun p hp => k _ _ (.new (.lst (xs ++ ys))) hg.2 (Same.upd hp) (Fre.upd _ _ _) (opaft_lst ob hp (RpL.append h2 h4))⟩))
    | _ => exact (show False from hg).elim
  | tuple xs => cases e with
    | tuple ys =>
      obtain ⟨a, us, ea, h1, h2⟩ := hx.tupP
      obtain ⟨b, ws, eb, h3, h4⟩ := hy.tupP
      subst ea; subst eb
      obtain ⟨hz, hg⟩ := hg
      refine .inr (.inr (.inl ⟨a, b, us, ws, rfl, rfl, h1.sq, h3.sq, by rw [h2.length, h4.length]; exact sz_le hz, fun e => ?_, fun e => ?_, fun p o hp dn => k _ _ (.val (.tuple (xs ++ ys))) hg (Same.upd hp) (Fre.upd _ _ _) (opaft_tup ob hp dn (RpL.append h2 h4))⟩))
      · subst e
        cases h2
        exact k _ _ _ hg (Same.refl _) (Fre.refl _) (.tup h3 h4)
      · subst e
        cases h4
        rw [List.append_nil] at hg
        exact k _ _ _ hg (Same.refl _) (Fre.refl _) (.tup h1 h2)
    | _ => exact (show False from hg).elim
  | _ => exact (show False from hg).elim
theorem d_add {wa wb : WE} (ha : PE X a (tE X.K T wa)) (hb : PE X b (tE X.K T wb)) : PE X (.BinOp a .Add b pos) (tE X.K T (wOp2 gAdd wa wb)) := d_op op_addAll add_op ha hb
/-! ### whole numbers -/
def gI (C : Int → Int → Prop) (f : Int → Int → D) (d e : D) (k : DV → Prop) : Prop := match d, e with
  | .int i, .int j => C i j ∧ k (.val (f i j))
  | _, _ => False
theorem int_op {C : Int → Int → Prop} {f : Int → Int → D} {g : Int → Int → V} (h : ∀ O H i j, Rp K O H (g i j) (f i j)) : Op2 K (rI C g) (gI C f) := by
  intro O H x y d e Qd Q ob hx hy hg k
  cases d with
  | int i => cases e with
    | int j => rw [hx.int, hy.int]; exact ⟨i, j, rfl, rfl, hg.1, k _ _ _ hg.2 (Same.refl _) (Fre.refl _) (h _ _ _ _)⟩
    | _ => exact (show False from hg).elim
  | _ => exact (show False from hg).elim
def gI0 (f : Int → Int → D) (d e : D) (k : DV → Prop) : Prop := match d, e with
  | .int i, .int j => k (.val (f i j))
  | _, _ => False
theorem int_op0 {f : Int → Int → D} {g : Int → Int → V} (h : ∀ O H i j, Rp K O H (g i j) (f i j)) : Op2 K (rI0 g) (gI0 f) := by
  intro O H x y d e Qd Q ob hx hy hg k
  cases d with
  | int i => cases e with
    | int j => rw [hx.int, hy.int]; exact ⟨i, j, rfl, rfl, k _ _ _ hg (Same.refl _) (Fre.refl _) (h _ _ _ _)⟩
    | _ => exact (show False from hg).elim
  | _ => exact (show False from hg).elim
theorem d_sub {wa wb : WE} (ha : PE X a (tE X.K T wa)) (hb : PE X b (tE X.K T wb)) : PE X (.BinOp a .Sub b pos) (tE X.K T (wOp2 (gI0 fun i j => .int (i - j)) wa wb)) := d_op op_sub (int_op0 fun _ _ _ _ => .int _) ha hb
theorem d_fdiv {wa wb : WE} (ha : PE X a (tE X.K T wa)) (hb : PE X b (tE X.K T wb)) : PE X (.BinOp a .FloorDiv b pos) (tE X.K T (wOp2 (gI CDiv fun i j => .int (i / j)) wa wb)) := d_op op_fdiv (int_op fun _ _ _ _ => .int _) ha hb
theorem d_mod {wa wb : WE} (ha : PE X a (tE X.K T wa)) (hb : PE X b (tE X.K T wb)) : PE X (.BinOp a .Mod b pos) (tE X.K T (wOp2 (gI (fun _ j => 0 < j) fun i j => .int (i % j)) wa wb)) := d_op op_mod (int_op fun _ _ _ _ => .int _) ha hb
theorem d_pow {wa wb : WE} (ha : PE X a (tE X.K T wa)) (hb : PE X b (tE X.K T wb)) : PE X (.BinOp a .Pow b pos) (tE X.K T (wOp2 (gI CPow fun i j => .int (i ^ j.toNat)) wa wb)) := d_op op_pow (int_op fun _ _ _ _ => .int _) ha hb
/-- one factor below 2^64, or both together not too long -/
def MulC (i j : Int) : Prop := ((-18446744073709551616 < i ∧ i < 18446744073709551616) ∨ (-18446744073709551616 < j ∧ j < 18446744073709551616)) ∨ CMulX i j
def rMulAll : R2 := fun x y H Q => (rI CMul fun i j => .int (i * j)) x y H Q ∨ (rI CMulX fun i j => .int (i * j)) x y H Q
theorem op_mulX' : OpR X (binaryOp .Mult) (rI CMulX fun i j => .int (i * j)) := by
  intro pins s σ H x y v u Q I rx ry h
  obtain ⟨i, j, rfl, rfl, c, q⟩ := h
  obtain ⟨t, rfl⟩ := rx
  obtain ⟨t', rfl⟩ := ry
  exact PyProof.Rows.mul_int ⟨.int _, H, I.tok _, ⟨_, rfl⟩, q⟩ c.ok
theorem mul_op : Op2 K rMulAll (gI MulC fun i j => .int (i * j)) := by
  intro O H x y d e Qd Q ob hx hy hg k
  cases d with
  | int i => cases e with
    | int j =>
      rw [hx.int, hy.int]
      have fin := k _ _ _ hg.2 (Same.refl _) (Fre.refl _) (.int (i * j))
      rcases hg.1 with c | c
      · exact .inl ⟨i, j, rfl, rfl, c, fin⟩
      · exact .inr ⟨i, j, rfl, rfl, c, fin⟩
    | _ => exact (show False from hg).elim
  | _ => exact (show False from hg).elim
theorem d_mul {wa wb : WE} (ha : PE X a (tE X.K T wa)) (hb : PE X b (tE X.K T wb)) : PE X (.BinOp a .Mult b pos) (tE X.K T (wOp2 (gI MulC fun i j => .int (i * j)) wa wb)) := d_op (op_mul.or op_mulX') mul_op ha hb
def wNeg (wa : WE) : WE := fun ρ Q => wa ρ fun r ρ1 => lookK ρ1 r fun d => intK d fun i => Q (.val (.int (-i))) ρ1
theorem int_inv {d : D} {k : Int → Prop} (h : RpB K O H v d) (q : intK d k) : ∃ i, v = .int i ∧ k i := by
  cases d with
  | int i => exact ⟨i, h.int, q⟩
  | _ => exact (show False from q).elim
theorem d_neg {wa : WE} (ha : PE X a (tE X.K T wa)) : PE X (.UnaryOp .USub a pos) (tE X.K T (wNeg wa)) := (pe_un un_neg ha).imp fun σ H Q h => by
  obtain ⟨E0, B, ρ, Qd, er, tb, hw, k⟩ := h
  refine ⟨E0, B, ρ, _, er, tb, hw, fun v H1 r ρ1 q A => ?_⟩
  obtain ⟨d, hd, q⟩ := lookK_some q
  obtain ⟨i, ev, q⟩ := int_inv (A.look (j := 0) rfl rfl hd) q
  exact ⟨i, ev, k _ _ _ ρ1 q (A.op (dv := .val (.int (-i))) (Same.refl _) (Fre.refl _) (.int _))⟩
/-! ### order, equality -/
abbrev gLt := gI0 fun i j => .bool (decide (i < j))
abbrev gLe := gI0 fun i j => .bool (decide (i ≤ j))
abbrev gGt := gI0 fun i j => .bool (decide (j < i))
abbrev gGe := gI0 fun i j => .bool (decide (j ≤ i))
theorem lt_op : Op2 K (rI0 fun i j => .bl (decide (i < j))) gLt := int_op0 fun _ _ _ _ => .bl _
theorem le_op : Op2 K (rI0 fun i j => .bl (decide (i ≤ j))) gLe := int_op0 fun _ _ _ _ => .bl _
theorem gt_op : Op2 K (rI0 fun i j => .bl (decide (j < i))) gGt := int_op0 fun _ _ _ _ => .bl _
theorem ge_op : Op2 K (rI0 fun i j => .bl (decide (j ≤ i))) gGe := int_op0 fun _ _ _ _ => .bl _
/-- data without dicts -/
theorem Rp.dp {v : V} {d : D} (h : Rp K O H v d) : d.canLay0 = true → Dp K H v d :=
  Rp.rec (motive_1 := fun v d _ => d.canLay0 = true → Dp K H v d) (motive_2 := fun vs ds _ => PyData.canLayAll0 ds = true → DpAll K H vs ds) (fun _ => .non) (fun b _ => .bl b) (fun i _ => .int i) (fun x _ => .str x) (fun _ _ c => nomatch c)
    (fun s _ ih c => .lst s.sq (ih c)) (fun s _ ih c => .tup s.sq (ih c)) (fun _ _ _ c => nomatch c) (fun _ _ _ _ _ _ c => nomatch c) (fun _ _ _ _ _ _ _ _ c => nomatch c) (fun _ => .nil) (fun _ _ i1 i2 c => by
      have c' := Bool.and_eq_true_iff.mp (show (_ && _) = true from c)
      exact .cons (i1 c'.1) (i2 c'.2)) h
theorem RpL.dp : ∀ {vs : List V} {ds : List D}, RpL K O H vs ds → PyData.canLayAll0 ds = true → DpAll K H vs ds
  | _, _, .nil, _ => .nil
  | _, _, .cons r t, c => by
    have c' := Bool.and_eq_true_iff.mp (show (_ && _) = true from c)
    exact .cons (r.dp c'.1) (t.dp c'.2)
theorem RpB.dp (h : RpB K O H v d) (c : d.canLay0 = true) : Dp K H v d := by
  rcases h with h | ⟨a, b, ev, ed, q⟩
  · exact h.dp c
  · subst ev; subst ed
    cases b with
    | lst ds => obtain ⟨vs, h1, h2⟩ := q; exact .lst (SqL.of h1) (h2.dp c)
    | dct kvs => cases c
theorem shaped_can (h : SeqAt.shaped d = true) : d.canLay0 = true := (Bool.and_eq_true_iff.mp h).1
def gEq (d e : D) (k : DV → Prop) : Prop := match d, e with
  | .int i, .int j => k (.val (.bool (decide (i = j))))
  | .str x, .str y => k (.val (.bool (x.cps.toList == y.cps.toList)))
  | d, e => SeqAt.shaped d = true ∧ SeqAt.shaped e = true ∧ k (.val (.bool (PyData.eqv d e)))
def gNe (d e : D) (k : DV → Prop) : Prop := match d, e with
  | .int i, .int j => k (.val (.bool (!decide (i = j))))
  | .str x, .str y => k (.val (.bool (x.cps.toList != y.cps.toList)))
  | d, e => SeqAt.shaped d = true ∧ SeqAt.shaped e = true ∧ k (.val (.bool (!PyData.eqv d e)))
theorem gEq_of {k : DV → Prop} {d e : D} (h : gEq d e k) : (∃ x y, d = .str x ∧ e = .str y ∧ k (.val (.bool (x.cps.toList == y.cps.toList)))) ∨ (SeqAt.shaped d = true ∧ SeqAt.shaped e = true ∧ k (.val (.bool (PyData.eqv d e)))) := by
  unfold gEq at h
  split at h
  · refine .inr ⟨rfl, rfl, ?_⟩
    show k (.val (.bool (_ == _)))
    rw [Bool.beq_eq_decide_eq]; exact h
  · exact .inl ⟨_, _, rfl, rfl, h⟩
  · exact .inr h
theorem gNe_of {k : DV → Prop} {d e : D} (h : gNe d e k) : (∃ x y, d = .str x ∧ e = .str y ∧ k (.val (.bool (x.cps.toList != y.cps.toList)))) ∨ (SeqAt.shaped d = true ∧ SeqAt.shaped e = true ∧ k (.val (.bool (!PyData.eqv d e)))) := by
  unfold gNe at h
  split at h
  · refine .inr ⟨rfl, rfl, ?_⟩
    show k (.val (.bool (!(_ == _))))
    rw [Bool.beq_eq_decide_eq]; exact h
  · exact .inl ⟨_, _, rfl, rfl, h⟩
  · exact .inr h
def rEqA (K : PySem.W.Frag) : R2 := fun x y H Q => rEqD K x y H Q ∨ ∃ i j, x = .str i ∧ y = .str j ∧ Q (.bl (i.cps.toList == j.cps.toList)) H
def rNeA (K : PySem.W.Frag) : R2 := fun x y H Q => rNeD K x y H Q ∨ ∃ i j, x = .str i ∧ y = .str j ∧ Q (.bl (i.cps.toList != j.cps.toList)) H
theorem op_eqA (hu : X.A.units + 64 < cLine) : OpR X (compareOp .Eq) (rEqA X.K) := (op_eqD hu).or fun pins s σ H x y v u Q I rx ry h => by
  obtain ⟨i, j, rfl, rfl, q⟩ := h
  obtain ⟨t, rfl⟩ := rx
  obtain ⟨t', rfl⟩ := ry
  exact PySem.P.eq_str ⟨.bl _, H, I, rfl, q⟩
theorem op_neA (hu : X.A.units + 64 < cLine) : OpR X (compareOp .NotEq) (rNeA X.K) := (op_neD hu).or fun pins s σ H x y v u Q I rx ry h => by
  obtain ⟨i, j, rfl, rfl, q⟩ := h
  obtain ⟨t, rfl⟩ := rx
  obtain ⟨t', rfl⟩ := ry
  exact PySem.P.ne_str ⟨.bl _, H, I, rfl, q⟩
theorem eq_op : Op2 K (rEqA K) gEq := by
  intro O H x y d e Qd Q ob hx hy hg k
  rcases gEq_of hg with ⟨i, j, e1, e2, q⟩ | ⟨s1, s2, q⟩
  · subst e1 e2
    exact .inr ⟨i, j, hx.str, hy.str, k _ _ _ q (Same.refl _) (Fre.refl _) (.bl _)⟩
  · exact .inl ⟨d, e, hx.dp (shaped_can s1), hy.dp (shaped_can s2), s1, s2, k _ _ _ q (Same.refl _) (Fre.refl _) (.bl _)⟩
theorem ne_op : Op2 K (rNeA K) gNe := by
  intro O H x y d e Qd Q ob hx hy hg k
  rcases gNe_of hg with ⟨i, j, e1, e2, q⟩ | ⟨s1, s2, q⟩
  · subst e1 e2
    exact .inr ⟨i, j, hx.str, hy.str, k _ _ _ q (Same.refl _) (Fre.refl _) (.bl _)⟩
  · exact .inl ⟨d, e, hx.dp (shaped_can s1), hy.dp (shaped_can s2), s1, s2, k _ _ _ q (Same.refl _) (Fre.refl _) (.bl _)⟩
/-! ### is None, is a truth -/
def isNoneD : D → Bool
  | .none => true
  | _ => false
def isD (d e : D) : Option Bool := match d, e with
  | d, .none => some (isNoneD d)
  | .bool a, .bool b => some (decide (a = b))
  | _, _ => none
def gIs (d e : D) (k : DV → Prop) : Prop := match isD d e with
  | some b => k (.val (.bool b))
  | none => False
def gIsN (d e : D) (k : DV → Prop) : Prop := match isD d e with
  | some b => k (.val (.bool !b))
  | none => False
theorem is_none_iff {d : D} (h : RpB K O H v d) : decide (v = .non) = isNoneD d := by
  cases d with
  | none => rw [h.non]; rfl
  | bool b => rw [h.bool]; rfl
  | int b => rw [h.int]; rfl
  | str b => rw [h.str]; rfl
  | list ds => obtain ⟨a, xs, e, _⟩ := h.lst; rw [e]; rfl
  | tuple ds => obtain ⟨a, xs, e, _⟩ := h.tup; rw [e]; rfl
  | dict ds => obtain ⟨a, e⟩ := h.dct_ref; rw [e]; rfl
def rIsAll : R2 := fun x y H Q => (y = .non ∧ Q (.bl (decide (x = .non))) H) ∨ rIsB x y H Q
def rIsNAll : R2 := fun x y H Q => (y = .non ∧ Q (.bl (!decide (x = .non))) H) ∨ rNotB x y H Q
theorem is_op : Op2 K rIsAll gIs := by
  intro O H x y d e Qd Q ob hx hy hg k
  unfold gIs isD at hg
  cases e with
  | none =>
    refine .inl ⟨hy.non, ?_⟩
    rw [is_none_iff hx]
    exact k _ _ _ hg (Same.refl _) (Fre.refl _) (.bl _)
  | bool b => cases d with
    | bool a => exact .inr ⟨a, b, hx.bool, hy.bool, k _ _ _ hg (Same.refl _) (Fre.refl _) (.bl _)⟩
    | _ => exact (show False from hg).elim
  | _ => cases d <;> exact (show False from hg).elim
theorem isN_op : Op2 K rIsNAll gIsN := by
  intro O H x y d e Qd Q ob hx hy hg k
  unfold gIsN isD at hg
  cases e with
  | none =>
    refine .inl ⟨hy.non, ?_⟩
    rw [is_none_iff hx]
    exact k _ _ _ hg (Same.refl _) (Fre.refl _) (.bl _)
  | bool b => cases d with
    | bool a => exact .inr ⟨a, b, hx.bool, hy.bool, k _ _ _ hg (Same.refl _) (Fre.refl _) (.bl _)⟩
    | _ => exact (show False from hg).elim
  | _ => cases d <;> exact (show False from hg).elim
theorem op_isAll : OpR X (compareOp .Is) rIsAll := op_isN.or op_isBl
theorem op_isNAll : OpR X (compareOp .IsNot) rIsNAll := op_notN.or op_notBl
/-! ### x in xs -/
def gIn (neg : Bool) (d e : D) (k : DV → Prop) : Prop := SeqAt.shaped d = true ∧ SeqAt.shaped e = true ∧ itK e fun ds => k (.val (.bool (if neg then !ds.any fun y => PyData.eqv y d else ds.any fun y => PyData.eqv y d)))
def rInAll (K : PySem.W.Frag) (neg : Bool) : R2 := fun x y H Q => ∃ d e ds, Dp K H x d ∧ Dp K H y e ∧ (e = .list ds ∨ e = .tuple ds) ∧ SeqAt.shaped d = true ∧ SeqAt.shaped e = true ∧ Q (.bl (if neg then !ds.any fun z => PyData.eqv z d else ds.any fun z => PyData.eqv z d)) H
theorem room_in {d e : D} (h1 : SeqAt.shaped d = true) (hu : X.A.units + 66 < cLine) (ds : List D) : X.A.units + 1 + min (PyData.depthAll ds) d.depth < cLine := by
  have h2 := of_decide_eq_true (Bool.and_eq_true_iff.mp h1).2
  have : min (PyData.depthAll ds) d.depth ≤ d.depth := Nat.min_le_right _ _
  omega
theorem op_inAll (hu : X.A.units + 66 < cLine) : OpR X (compareOp .In) (rInAll X.K false) := by
  intro pins s σ H x y v u Q I rx ry h
  obtain ⟨d, e, ds, hd, he, hs, s1, s2, q⟩ := h
  obtain ⟨m1, r1⟩ := Dp.reads I d x v hd rx
  obtain ⟨m2, r2⟩ := Dp.reads I e y u he ry
  rcases hs with rfl | rfl
  · exact SeqAt.in_list_reads r2 r1 (shaped_can s2) (shaped_can s1) (room_in (e := .none) s1 hu ds) ⟨.bl _, H, I, rfl, q⟩
  · exact SeqAt.in_tuple_reads r2 r1 (shaped_can s2) (shaped_can s1) (room_in (e := .none) s1 hu ds) ⟨.bl _, H, I, rfl, q⟩
theorem op_notInAll (hu : X.A.units + 66 < cLine) : OpR X (compareOp .NotIn) (rInAll X.K true) := by
  intro pins s σ H x y v u Q I rx ry h
  obtain ⟨d, e, ds, hd, he, hs, s1, s2, q⟩ := h
  obtain ⟨m1, r1⟩ := Dp.reads I d x v hd rx
  obtain ⟨m2, r2⟩ := Dp.reads I e y u he ry
  rcases hs with rfl | rfl
  · exact SeqAt.notIn_list_reads r2 r1 (shaped_can s2) (shaped_can s1) (room_in (e := .none) s1 hu ds) ⟨.bl _, H, I, rfl, q⟩
  · exact SeqAt.notIn_tuple_reads r2 r1 (shaped_can s2) (shaped_can s1) (room_in (e := .none) s1 hu ds) ⟨.bl _, H, I, rfl, q⟩
theorem in_op {neg : Bool} : Op2 K (rInAll K neg) (gIn neg) := by
  intro O H x y d e Qd Q ob hx hy hg k
  obtain ⟨s1, s2, q⟩ := hg
  cases e with
  | list ds => exact ⟨d, _, ds, hx.dp (shaped_can s1), hy.dp (shaped_can s2), .inl rfl, s1, s2, k _ _ _ q (Same.refl _) (Fre.refl _) (.bl _)⟩
  | tuple ds => exact ⟨d, _, ds, hx.dp (shaped_can s1), hy.dp (shaped_can s2), .inr rfl, s1, s2, k _ _ _ q (Same.refl _) (Fre.refl _) (.bl _)⟩
  | _ => exact (show False from q).elim
end
end DL
set_option maxRecDepth 100000
set_option maxHeartbeats 1000000
namespace DL
open PySem PySem.Spec L2 LamX
section
variable {K : PySem.W.Frag} {T : Tb} {E0 B O : As} {σ : L2.St} {ρ ρ1 ρ2 : DEnv} {H H1 : Hp} {vs us : List V} {v : V} {r : RV} {rs : List RV} {d : D} {ds : List D} {X : Cx} {e e1 e2 tg iter a b c o : Expr} {es rest : List Expr} {pos p2 : Pos}

def oneK (ds : List D) (k : D → Prop) : Prop := match ds with
  | [d] => k d
  | _ => False
theorem one_inv {k : D → Prop} (h : RpBs K O H vs ds) (q : oneK ds k) : ∃ v d, vs = [v] ∧ RpB K O H v d ∧ k d := by
  unfold oneK at q
  split at q
  · cases h with
    | cons h1 h2 => cases h2; exact ⟨_, _, rfl, h1, q⟩
  · exact q.elim
/-! ### len, tuple, list -/
def gLen (ds : List D) (k : DV → Prop) : Prop := oneK ds fun d => match d with
  | .list xs => k (.val (.int xs.length))
  | .tuple xs => k (.val (.int xs.length))
  | .str s => s.length ≤ 16777216 ∧ k (.val (.int s.length))
  | _ => False
def rLenAll (K : PySem.W.Frag) : List V → Hp → VK → Prop := fun xs H Q => (∃ p ys, xs = [.ref p] ∧ (SqL K H p ys ∨ SqT K H p ys) ∧ Q (.int ys.length) H) ∨ ∃ z, xs = [.str z] ∧ z.length ≤ sizeLine ∧ Q (.int z.length) H
theorem CallR.or {f : Value} {r r' : List V → Hp → VK → Prop} (h : CallR X f r) (h' : CallR X f r') : CallR X f (fun xs H Q => r xs H Q ∨ r' xs H Q) := fun pins s σ H xs us Q I rv q => q.elim (h pins s σ H xs us Q I rv) (h' pins s σ H xs us Q I rv)
theorem call_lenAll : CallR X (.builtin "len") (rLenAll X.K) := CallR.or call_len_seq call_len_str
theorem len_op : OpN K (rLenAll K) gLen := by
  intro O H xs ds Qd Q ob hx hg k
  obtain ⟨v, d, e, h, hg⟩ := one_inv hx hg
  subst e
  cases d with
  | list ys =>
    obtain ⟨a, ws, e, h1, h2⟩ := h.lst
    subst e
    refine .inl ⟨a, ws, rfl, .inl h1, ?_⟩
    rw [h2.length]
    exact k _ _ _ hg (Same.refl _) (Fre.refl _) (.int _)
  | tuple ys =>
    obtain ⟨a, ws, e, h1, h2⟩ := h.tup
    subst e
    refine .inl ⟨a, ws, rfl, .inr h1, ?_⟩
    rw [h2.length]
    exact k _ _ _ hg (Same.refl _) (Fre.refl _) (.int _)
  | str s => rw [h.str]; exact .inr ⟨s, rfl, sz_le hg.1, k _ _ _ hg.2 (Same.refl _) (Fre.refl _) (.int _)⟩
  | _ => exact (show False from hg).elim
def gTuple (ds : List D) (k : DV → Prop) : Prop := oneK ds fun d => itK d fun xs => k (.val (.tuple xs))
def gList (ds : List D) (k : DV → Prop) : Prop := oneK ds fun d => itK d fun xs => k (.new (.lst xs))
/-- tuple(x) of a list, of a tuple -/
def rTupO (K : PySem.W.Frag) : List V → Hp → VK → Prop := fun xs H Q => ∃ p ys, xs = [.ref p] ∧ ((SqL K H p ys ∧ NewT H ys Q) ∨ (SqT K H p ys ∧ Q (.ref p) H))
open PyProof.Rows PySem.W PySem.Calls in
theorem call_tupO : CallR X (.type "tuple") (rTupO X.K) := by
  intro pins s σ H xs us Q I r h
  obtain ⟨p, ys, rfl, ⟨hq, q⟩ | ⟨hq, q⟩⟩ := h
  · obtain ⟨u, rfl, rx⟩ := vals1 r
    cases rx
    obtain ⟨its, r', pl, hz⟩ := I.list hq
    refine call_tuple_list pl.isList (fun h' kp => ?_) (by have := r'.length; simp only [List.size_toArray]; omega)
    have I1 : Inv X pins σ H { s with heap := h' } := I.kept (t' := s.toks) kp
    exact ⟨.ref _, _, laidT (s := { s with heap := h' }) (a := h'.objs.size) (n := 0) (t' := s.toks) I1 (fun b o e => Heap.get?_push_of_some _ e) (Nat.le_refl _) (Heap.get?_push_size _ rfl) r' hz, rfl, q _ _ (I1.hok.fresh (Nat.le_refl _)) rfl⟩
  · exact call_tupleT pins s σ H _ us Q I r ⟨p, ys, rfl, hq, q⟩
theorem tuple_op : OpN K (rTupO K) gTuple := by
  intro O H xs ds Qd Q ob hx hg k
  obtain ⟨v, d, e, h, hg⟩ := one_inv hx hg
  subst e
  cases d with
  | list ys =>
    obtain ⟨a, ws, e, h1, h2⟩ := h.lst
    exact ⟨a, ws, by rw [e], .inl ⟨h1, fun l o hl dn => k _ _ (.val (.tuple ys)) hg (Same.upd hl) (Fre.upd _ _ _) (opaft_tup ob hl dn h2)⟩⟩
  | tuple ys =>
    obtain ⟨a, ws, e, h1, h2⟩ := h.tupP
    exact ⟨a, ws, by rw [e], .inr ⟨h1.sq, k _ _ _ hg (Same.refl _) (Fre.refl _) (.tup h1 h2)⟩⟩
  | _ => exact (show False from hg).elim
theorem list_op : OpN K (fun xs H Q => ∃ p ys, xs = [.ref p] ∧ (SqL K H p ys ∨ SqT K H p ys) ∧ ∀ l, H l = none → Q (.ref l) (upd H l (.lst ys))) gList := by
  intro O H xs ds Qd Q ob hx hg k
  obtain ⟨v, d, e, h, hg⟩ := one_inv hx hg
  subst e
  obtain ⟨a, ws, ys, e, h1, h2, q⟩ := h.items hg
  exact ⟨a, ws, by rw [e], h1, fun l hl => k _ _ (.new (.lst ys)) q (Same.upd hl) (Fre.upd _ _ _) (opaft_lst ob hl h2)⟩
/-! ### numbers -/
def gMin2 (ds : List D) (k : DV → Prop) : Prop := int2K ds fun i j => k (.val (.int (if j < i then j else i)))
def gMax2 (ds : List D) (k : DV → Prop) : Prop := int2K ds fun i j => k (.val (.int (if j > i then j else i)))
def gAbs (ds : List D) (k : DV → Prop) : Prop := int1K ds fun i => k (.val (.int (if i < 0 then -i else i)))
def gDivmod (ds : List D) (k : DV → Prop) : Prop := int2K ds fun i j => CDiv i j ∧ k (.val (.tuple [.int (i / j), .int (i % j)]))
theorem min2_op : OpN K (fun xs H Q => ∃ i j, xs = [.int i, .int j] ∧ Q (.int (if j < i then j else i)) H) gMin2 := by
  intro O H xs ds Qd Q ob hx hg k
  obtain ⟨i, j, e, _, q⟩ := int2_inv hx hg
  exact ⟨i, j, e, k _ _ _ q (Same.refl _) (Fre.refl _) (.int _)⟩
theorem max2_op : OpN K (fun xs H Q => ∃ i j, xs = [.int i, .int j] ∧ Q (.int (if j > i then j else i)) H) gMax2 := by
  intro O H xs ds Qd Q ob hx hg k
  obtain ⟨i, j, e, _, q⟩ := int2_inv hx hg
  exact ⟨i, j, e, k _ _ _ q (Same.refl _) (Fre.refl _) (.int _)⟩
theorem abs_op : OpN K (fun xs H Q => ∃ i, xs = [.int i] ∧ Q (.int (if i < 0 then -i else i)) H) gAbs := by
  intro O H xs ds Qd Q ob hx hg k
  obtain ⟨i, e, _, q⟩ := int1_inv hx hg
  exact ⟨i, e, k _ _ _ q (Same.refl _) (Fre.refl _) (.int _)⟩
def rDivM : List V → Hp → VK → Prop := fun xs H Q => ∃ i j, xs = [.int i, .int j] ∧ CDiv i j ∧ NewT H [.int (i / j), .int (i % j)] Q
theorem call_divM : CallR X (.builtin "divmod") rDivM := by
  intro pins s σ H xs us Q I r h
  obtain ⟨i, j, rfl, ⟨h1, h2⟩, q⟩ := h
  obtain ⟨u, w', rfl, ⟨t, rfl⟩, ⟨t', rfl⟩⟩ := vals2 r
  refine PyProof.Rows.divmod_int (by omega) ?_ (.inl (PyProof.noPylong_small (by omega)))
  rw [Int.fdiv_eq_ediv_of_nonneg i (by omega), Int.fmod_eq_emod_of_nonneg i (by omega)]
  exact ⟨.ref _, _, laidT (its := [.int (i / j) s.toks, .int (i % j) (s.toks + 1)]) (xs := [.int (i / j), .int (i % j)]) I (fun b o e => Heap.get?_push_of_some _ e) (Nat.le_refl _) (Heap.get?_push_size s.heap rfl) (.cons ⟨_, rfl⟩ (.cons ⟨_, rfl⟩ .nil)) (show 2 ≤ sizeLine by decide), rfl, q _ _ (I.hok.fresh (Nat.le_refl _)) rfl⟩
theorem divmod_op : OpN K rDivM gDivmod := by
  intro O H xs ds Qd Q ob hx hg k
  obtain ⟨i, j, e, _, c, q⟩ := int2_inv hx hg
  exact ⟨i, j, e, c, fun p o hp dn => k _ _ (.val (.tuple [.int (i / j), .int (i % j)])) q (Same.upd hp) (Fre.upd _ _ _) (opaft_tup ob hp dn (.cons (.int _) (.cons (.int _) .nil)))⟩
def gInt (ds : List D) (k : DV → Prop) : Prop := oneK ds fun d => match d with
  | .int i => k (.val (.int i))
  | .bool b => k (.val (.int (if b then 1 else 0)))
  | _ => False
theorem int_op1 : OpN K (fun xs H Q => (∃ i, xs = [.int i] ∧ Q (.int i) H) ∨ ∃ k, xs = [.bl k] ∧ Q (.int (if k then 1 else 0)) H) gInt := by
  intro O H xs ds Qd Q ob hx hg k
  obtain ⟨v, d, e, h, hg⟩ := one_inv hx hg
  subst e
  cases d with
  | int i => rw [h.int]; exact .inl ⟨i, rfl, k _ _ _ hg (Same.refl _) (Fre.refl _) (.int _)⟩
  | bool b => rw [h.bool]; exact .inr ⟨b, rfl, k _ _ _ hg (Same.refl _) (Fre.refl _) (.int _)⟩
  | _ => exact (show False from hg).elim
/-- a list of truths, of numbers -/
def boolsK : List D → (List Bool → Prop) → Prop
  | [], k => k []
  | .bool b :: ds, k => boolsK ds fun bs => k (b :: bs)
  | _ :: _, _ => False
def intsK : List D → (List Int → Prop) → Prop
  | [], k => k []
  | .int b :: ds, k => intsK ds fun bs => k (b :: bs)
  | _ :: _, _ => False
theorem boolsK_inv : ∀ {ds : List D} {vs : List V} {k : List Bool → Prop}, RpL K O H vs ds → boolsK ds k → ∃ bs, vs = bs.map V.bl ∧ k bs
  | [], _, k, .nil, q => ⟨[], rfl, q⟩
  | d :: ds, _, k, .cons r t, q => by
    cases d with
    | bool b =>
      obtain ⟨bs, e, q⟩ := boolsK_inv t (show boolsK ds fun bs => k (b :: bs) from q)
      refine ⟨b :: bs, ?_, q⟩
      cases r
      rw [e]; rfl
    | _ => exact (show False from q).elim
theorem intsK_inv : ∀ {ds : List D} {vs : List V} {k : List Int → Prop}, RpL K O H vs ds → intsK ds k → ∃ bs, vs = bs.map V.int ∧ k bs
  | [], _, k, .nil, q => ⟨[], rfl, q⟩
  | d :: ds, _, k, .cons r t, q => by
    cases d with
    | int b =>
      obtain ⟨bs, e, q⟩ := intsK_inv t (show intsK ds fun bs => k (b :: bs) from q)
      refine ⟨b :: bs, ?_, q⟩
      cases r
      rw [e]; rfl
    | _ => exact (show False from q).elim
def lstK (d : D) (k : List D → Prop) : Prop := match d with
  | .list ds => k ds
  | _ => False
theorem lst_inv {k : List D → Prop} (h : RpB K O H v d) (q : lstK d k) : ∃ a xs ds, v = .ref a ∧ SqL K H a xs ∧ RpL K O H xs ds ∧ k ds := by
  cases d with
  | list ds => obtain ⟨a, xs, e, h1, h2⟩ := h.lst; exact ⟨a, xs, ds, e, h1, h2, q⟩
  | _ => exact (show False from q).elim
def gAll (ds : List D) (k : DV → Prop) : Prop := oneK ds fun d => lstK d fun xs => boolsK xs fun bs => k (.val (.bool (bs.all id)))
def gAny (ds : List D) (k : DV → Prop) : Prop := oneK ds fun d => lstK d fun xs => boolsK xs fun bs => k (.val (.bool (bs.any id)))
def gSum (ds : List D) (k : DV → Prop) : Prop := oneK ds fun d => lstK d fun xs => intsK xs fun bs => k (.val (.int bs.sum))
theorem all_op : OpN K (rAll K) gAll := by
  intro O H xs ds Qd Q ob hx hg k
  obtain ⟨v, d, e, h, hg⟩ := one_inv hx hg
  obtain ⟨a, ws, es, ev, h1, h2, hg⟩ := lst_inv h hg
  obtain ⟨bs, eb, q⟩ := boolsK_inv h2 hg
  exact ⟨a, bs, by rw [e, ev], by rw [← eb]; exact h1, k _ _ _ q (Same.refl _) (Fre.refl _) (.bl _)⟩
theorem any_op : OpN K (rAny K) gAny := by
  intro O H xs ds Qd Q ob hx hg k
  obtain ⟨v, d, e, h, hg⟩ := one_inv hx hg
  obtain ⟨a, ws, es, ev, h1, h2, hg⟩ := lst_inv h hg
  obtain ⟨bs, eb, q⟩ := boolsK_inv h2 hg
  exact ⟨a, bs, by rw [e, ev], by rw [← eb]; exact h1, k _ _ _ q (Same.refl _) (Fre.refl _) (.bl _)⟩
theorem sum_op : OpN K (rSum K) gSum := by
  intro O H xs ds Qd Q ob hx hg k
  obtain ⟨v, d, e, h, hg⟩ := one_inv hx hg
  obtain ⟨a, ws, es, ev, h1, h2, hg⟩ := lst_inv h hg
  obtain ⟨bs, eb, q⟩ := intsK_inv h2 hg
  exact ⟨a, bs, by rw [e, ev], by rw [← eb]; exact h1, k _ _ _ q (Same.refl _) (Fre.refl _) (.int _)⟩
/-! ### list(range(..)) -/
def wLRng (wa : WA) (f : List D → (Int → Int → Prop) → Prop) : WE := fun ρ Q => wa ρ fun rs ρ1 => looksK ρ1 rs fun ds => f ds fun i j => (Bd i ∧ Bd j ∧ j - i ≤ 16777216) ∧ Q (.new (.lst (rngD i (j - i).toNat))) ρ1
/-! ### isinstance of a built-in class -/
def tyD : D → String
  | .none => "NoneType"
  | .bool _ => "bool"
  | .int _ => "int"
  | .str _ => "str"
  | .list _ => "list"
  | .tuple _ => "tuple"
  | .dict _ => "dict"
def isiD (t : String) (d : D) : Option Bool := match isRaw d with
  | true => none
  | false => kitB (tyD d) t
theorem ty_of (h : RpB K O H v d) (nr : isRaw d = false) : ∃ t, TyX K H v (.type t) ∧ t = tyD d := by
  cases d with
  | none => rw [h.non]; exact ⟨_, .base .non, rfl⟩
  | bool b => rw [h.bool]; exact ⟨_, .base (.bl b), rfl⟩
  | int b => rw [h.int]; exact ⟨_, .base (.int b), rfl⟩
  | str b => rw [h.str]; exact ⟨_, .base (.str b), rfl⟩
  | list ds =>
    obtain ⟨a, xs, e, h1, _⟩ := h.lst
    rw [e]
    rcases h1 with (h1 | ⟨o, h1⟩) | ⟨o, its, n, h1, h2, _⟩
    · exact ⟨_, .base (.lst h1), rfl⟩
    · exact ⟨_, .base (.frz h1), rfl⟩
    · exact ⟨_, .kList h1 h2, rfl⟩
  | tuple ds =>
    obtain ⟨a, xs, e, h1, _⟩ := h.tup
    rw [e]
    rcases h1 with (h1 | ⟨o, h1⟩) | ⟨o, its, n, h1, h2, _⟩
    · exact ⟨_, .base (.tup h1), rfl⟩
    · exact ⟨_, .fTuple h1, rfl⟩
    · exact ⟨_, .kTuple h1 h2, rfl⟩
  | dict ds =>
    obtain ⟨a, e, h1⟩ := h.dct (noRaw_of nr)
    rw [e]
    rcases h1 with ⟨_, h1 | ⟨o, h1⟩, _⟩ | ⟨_, xs, _, ne, q, r, _⟩
    · exact ⟨_, .base (.dK h1), rfl⟩
    · exact ⟨_, .fDict h1, rfl⟩
    · exfalso
      cases xs with
      | nil => exact ne rfl
      | cons x xs =>
        cases ds with
        | nil => cases q
        | cons p ds =>
          obtain ⟨k, w⟩ := p
          cases r with
          | cons r _ =>
            rw [List.map_cons, List.map_cons, List.cons_eq_cons] at q
            have q := q.1
            simp only at q r
            cases k with
            | tuple _ => cases nr
            | list _ => rw [keyOf] at q; cases q
            | dict _ => rw [keyOf] at q; cases q
            | _ => cases r
def wIsi (t : String) (wa : WE) : WE := fun ρ Q => wa ρ fun r ρ1 => lookK ρ1 r fun d => match isiD t d with
  | some b => Q (.val (.bool b)) ρ1
  | none => False
theorem d_isi {t : String} {tn : Str} {wa : WE} {p pt : Pos} (hm : X.mg "isinstance" = none) (ht : X.mg tn = none) (ha : PE X a (tE X.K T wa)) (hv : bootBuiltins tn = some (.type t) := by decide +kernel) (hg : Gl X "isinstance" := by rfl) (hgt : Gl X tn := by rfl) (hn : tn ≠ "__name__" := by decide) (hd : (tn == ("__debug__" : Str)) = false := by decide)
    (hb : bootBuiltins "isinstance" = some (.builtin "isinstance") := by decide +kernel)
    (he : starEach (a :: [.Name tn pt]) X.env = (false, eval a X.env) :: starEach [.Name tn pt] X.env := by rfl) (he2 : starEach (.Name tn pt :: []) X.env = (false, eval (.Name tn pt) X.env) :: starEach [] X.env := by rfl) (hpl : (backTo pos (starEach [.Name tn pt] X.env)).any (·.1) = false := by rfl) :
    PE X (.Call (.Name "isinstance" p) [a, .Name tn pt] [] pos) (tE X.K T (wIsi t wa)) :=
  (pe_callB call_isi hg hm hb (pa_cons ha (pa_cons (pe_bltn (v := .ty t) hgt ht hv rfl hn hd) pa_nil he2) he) (he := he) (hpl := hpl)).imp fun σ H Q h => by
    obtain ⟨E0, B, ρ, Qd, er, tb, hw, k⟩ := h
    refine ⟨E0, B, ρ, _, er, tb, hw, fun v H1 r ρ1 q A => ?_⟩
    obtain ⟨d, hd, q⟩ := lookK_some q
    cases ei : isiD t d with
    | none => rw [ei] at q; exact q.elim
    | some b =>
      rw [ei] at q
      unfold isiD at ei
      split at ei
      · cases ei
      rename_i hr
      obtain ⟨t', h1, h2⟩ := ty_of (A.look (j := 0) rfl rfl hd) hr
      refine ⟨v, .ty t, .type t', .type t, b, rfl, .ty t, h1, kit_ty ?_, k _ _ _ ρ1 q A.bool⟩
      rw [h2]; exact ei
/-! ### methods of lists of one's own -/
def wApp (x : Nat) (we : WE) : WE := fun ρ Q => lstOf ρ x fun _ => we ρ fun r ρ1 => fzK ρ1 r fun d ρ2 => lstOf ρ2 x fun ds => ds.length < 16777216 ∧ Q (.val .none) (setBx ρ2 x (.lst (ds ++ [d])))
theorem sz_lt16 {n : Nat} (h : n < 16777216) : n < sizeLine := by rw [sizeLine_eq]; exact h
theorem After.mutNone {x : Nat} {a : Addr} {b : Box} {vs0 vs1 : List V} {ds1 : List D} {v : V} {d : D} (A : After K T E0 B σ H ρ [] H1 [] ρ1) (hb : IsBx ρ1 x b) (hi : σ[x]? = some (some (.ref a))) (hl : H1 a = some (.lst vs0)) (h : RpL K (B.or (Ow σ ρ1)) H1 vs1 ds1)
    (hv : Rp K (B.or (Ow σ (setBx ρ1 x (.lst ds1)))) (upd H1 a (.lst vs1)) v d) : After K T E0 B σ H ρ [v] (upd H1 a (.lst vs1)) [.val d] (setBx ρ1 x (.lst ds1)) := by
  have S := A.saft
  have M := S.er.mut S.tab hb hi hl h
  exact { stp := A.stp.trans M.stp fun z w => .inl (A.le.ow z w), fre := A.fre.trans M.fre, tab := M.tab, le := A.le.trans (le_kin setBx_len fun _ => kin_setBx), er := M.er.mono fun a z => z.elim id fun z => (nw_val a z).elim, rr := .one (Rp.mono hv (As.or_mono (fun a z => z.elim id fun z => (nw_val a z).elim) fun _ z => z)) }
theorem d_append {x : Nat} {xn : Str} {we : WE} {px apos cpos : Pos} (he : PE X e (tE X.K T we)) (hN : X.N[x]? = some xn := by rfl) (hv : Vis X.env.scope xn := by first | exact Or.inl rfl | exact Or.inr (Or.inl rfl) | exact Or.inr (Or.inr rfl))
    (hd : (xn == ("__debug__" : Str)) = false := by decide) (hcd : (xn == ("__classdict__" : Str)) = false := by decide) (hp : PE X (.Call (.Attribute (.Name xn px) "append" apos) [e] [] cpos) (tBM X.K "list" rAppend (tVar x) (tCons (tE X.K T we) tNil)) := by exact pe_bm PySem.F.plainAttrs_list PySem.F.slot_list_append PySem.F.type_list_append mt_append (pv _) (pa_cons (by assumption) pa_nil)) :
    PE X (.Call (.Attribute (.Name xn px) "append" apos) [e] [] cpos) (tE X.K T (wApp x we)) := hp.imp fun σ H Q h => by
  obtain ⟨E0, B, ρ, Qd, er, tb, hw, k⟩ := h
  obtain ⟨ds0, hb0, hw⟩ := lstOf_some hw
  obtain ⟨a, h1, _, ⟨vs0, h2, _⟩⟩ := er.bx x _ hb0
  refine ⟨.ref a, h1, .inl ⟨rfl, _, .inl (.inl h2)⟩, E0, B, ρ, _, er, tb, hw, fun v H1 r ρ1 q A => ?_⟩
  obtain ⟨d, ρ2, q, A2, rp⟩ := A.fz1 er q
  obtain ⟨ds, hb, hz, q⟩ := lstOf_some q
  obtain ⟨a', h1', _, ⟨vs', h3, h4⟩⟩ := A2.saft.er.bx x _ hb
  rw [h1] at h1'; cases h1'
  refine ⟨a, vs', v, rfl, rfl, h3, by rw [h4.length]; exact sz_lt16 hz, k _ _ _ _ q (A2.mutNone hb h1 h3 (RpL.append h4 (.cons rp .nil)) .non)⟩
/-- x.pop(i) -/
def wPopAt (x : Nat) (we : WE) : WE := fun ρ Q => lstOf ρ x fun _ => we ρ fun r ρ1 => lookK ρ1 r fun d => intK d fun i => lstOf ρ1 x fun ds => (-9223372036854775808 ≤ i ∧ i < 9223372036854775808) ∧ match seqIndex? i ds.length with
  | some j => (match ds[j]? with
    | some y => Q (.val y) (setBx ρ1 x (.lst (ds.eraseIdx j)))
    | none => False)
  | none => False
theorem RpL.erase : ∀ {vs : List V} {ds : List D} (i : Nat), RpL K O H vs ds → RpL K O H (vs.eraseIdx i) (ds.eraseIdx i)
  | _, _, _, .nil => .nil
  | _, _, 0, .cons _ t => t
  | _, _, i + 1, .cons r t => .cons r (RpL.erase i t)
theorem d_popAt {x : Nat} {xn : Str} {we : WE} {px apos cpos : Pos} (he : PE X e (tE X.K T we)) (hN : X.N[x]? = some xn := by rfl) (hv : Vis X.env.scope xn := by first | exact Or.inl rfl | exact Or.inr (Or.inl rfl) | exact Or.inr (Or.inr rfl))
    (hd : (xn == ("__debug__" : Str)) = false := by decide) (hcd : (xn == ("__classdict__" : Str)) = false := by decide) (hp : PE X (.Call (.Attribute (.Name xn px) "pop" apos) [e] [] cpos) (tBM X.K "list" rPopAt (tVar x) (tCons (tE X.K T we) tNil)) := by exact pe_bm PySem.F.plainAttrs_list PySem.F.slot_list_pop PySem.F.type_list_pop mt_popAt (pv _) (pa_cons (by assumption) pa_nil)) :
    PE X (.Call (.Attribute (.Name xn px) "pop" apos) [e] [] cpos) (tE X.K T (wPopAt x we)) := hp.imp fun σ H Q h => by
  obtain ⟨E0, B, ρ, Qd, er, tb, hw, k⟩ := h
  obtain ⟨ds0, hb0, hw⟩ := lstOf_some hw
  obtain ⟨a, h1, _, ⟨vs0, h2, _⟩⟩ := er.bx x _ hb0
  refine ⟨.ref a, h1, .inl ⟨rfl, _, .inl (.inl h2)⟩, E0, B, ρ, _, er, tb, hw, fun v H1 r ρ1 q A => ?_⟩
  obtain ⟨d, hd, q⟩ := lookK_some q
  obtain ⟨i, ev, q⟩ := int_inv (A.look (j := 0) rfl rfl hd) q
  obtain ⟨ds, hb, hz, q⟩ := lstOf_some q
  have A2 := A.nil
  obtain ⟨a', h1', _, ⟨vs', h3, h4⟩⟩ := A2.saft.er.bx x _ hb
  rw [h1] at h1'; cases h1'
  cases ej : seqIndex? i ds.length with
  | none => rw [ej] at q; exact q.elim
  | some j =>
    rw [ej] at q
    have q : match ds[j]? with | some y => Qd (.val y) (setBx ρ1 x (.lst (ds.eraseIdx j))) | none => False := q
    cases ey : ds[j]? with
    | none => rw [ey] at q; exact q.elim
    | some y =>
      rw [ey] at q
      obtain ⟨w, hw1, hw2⟩ := h4.get' ey
      have M := A2.saft.er.mut A2.tab hb h1 h3 (RpL.erase j h4)
      exact ⟨a, vs', i, j, w, rfl, by rw [ev], h3, hz.1, hz.2, by rw [h4.length]; exact ej, hw1, k _ _ _ _ q (A2.mutNone hb h1 h3 (RpL.erase j h4) (hw2.after A2.saft.er M))⟩
end
end DL
set_option maxRecDepth 100000
set_option maxHeartbeats 1000000
namespace DL
open PySem PySem.Spec L2 LamX
section
variable {K : PySem.W.Frag} {T : Tb} {E0 B O : As} {σ : L2.St} {ρ ρ1 ρ2 : DEnv} {H H1 : Hp} {vs us : List V} {v : V} {r : RV} {rs : List RV} {d : D} {ds : List D} {X : Cx} {e e1 e2 tg iter a b c o : Expr} {es rest : List Expr} {kws : List Keyword} {pos p2 : Pos}

/-! ### calls with keywords -/
def selD {α : Type} (x : α) (p : List Nat) (xs : List α) : List α := p.map fun i => xs.getD i x
theorem selD_get {α : Type} {x y : α} {p : List Nat} {xs : List α} {j : Nat} (h : (selD x p xs)[j]? = some y) (hr : ∀ i ∈ p, i < xs.length) : ∃ i, p[j]? = some i ∧ xs[i]? = some y := by
  unfold selD at h
  rw [List.getElem?_map] at h
  cases e : p[j]? with
  | none => rw [e] at h; cases h
  | some i =>
    rw [e] at h
    have hi : i < xs.length := hr i (List.mem_of_getElem? e)
    refine ⟨i, rfl, ?_⟩
    have h : some (xs.getD i x) = some y := h
    rw [List.getD_eq_getElem?_getD, List.getElem?_eq_getElem hi] at h
    rw [List.getElem?_eq_getElem hi]
    exact h
theorem vals_sel {p : List Nat} {xs : List V} {us : List Value} (r : Vals xs us) (hr : ∀ i ∈ p, i < xs.length) : Vals (selD V.non p xs) (selD Value.none p us) := by
  induction p with
  | nil => exact .nil
  | cons i p ih =>
    have hi : i < xs.length := hr i List.mem_cons_self
    obtain ⟨u, h1, h2⟩ := r.get (i := i) (x := xs[i]) (List.getElem?_eq_getElem hi)
    refine .cons ?_ (ih fun j hj => hr j (List.mem_cons_of_mem _ hj))
    show RelV (xs.getD i V.non) (us.getD i Value.none)
    rw [List.getD_eq_getElem?_getD, List.getD_eq_getElem?_getD, List.getElem?_eq_getElem hi, h1]
    exact h2
theorem After.sel {p : List Nat} (A : After K T E0 B σ H ρ vs H1 rs ρ1) (hr : ∀ i ∈ p, i < rs.length) (nd : p.Nodup) : After K T E0 B σ H ρ (selD V.non p vs) H1 (selD (.val .none) p rs) ρ1 := by
  have hl := A.rr.len
  have hr' : ∀ i ∈ p, i < vs.length := fun i hi => by rw [← hl]; exact hr i hi
  have nw : ∀ x, Nw (selD V.non p vs) (selD (.val .none) p rs) x → Nw vs rs x := fun x ⟨j, b, h1, h2⟩ => by
    obtain ⟨i, g1, g2⟩ := selD_get h1 hr
    obtain ⟨i', g3, g4⟩ := selD_get h2 hr'
    rw [g1] at g3; cases g3
    exact ⟨i, b, g2, g4⟩
  refine { stp := A.stp, fre := A.fre, tab := A.tab, le := A.le, er := A.er.mono fun x z => z.imp id (nw x), rr := ⟨by unfold selD; simp, fun j v r h1 h2 => ?_, fun i j b c x h1 h2 h3 h4 => ?_⟩ }
  · obtain ⟨i, g1, g2⟩ := selD_get h1 hr'
    obtain ⟨i', g3, g4⟩ := selD_get h2 hr
    rw [g1] at g3; cases g3
    exact (A.rr.at_ i v r g2 g4).mono (As.or_mono (fun x z => z.imp id (nw x)) fun _ z => z)
  · obtain ⟨i1, g1, g2⟩ := selD_get h1 hr
    obtain ⟨i2, g3, g4⟩ := selD_get h2 hr
    obtain ⟨i3, g5, g6⟩ := selD_get h3 hr'
    obtain ⟨i4, g7, g8⟩ := selD_get h4 hr'
    rw [g1] at g5; cases g5
    rw [g3] at g7; cases g7
    have e := A.rr.inj i1 i2 b c x g2 g4 g6 g8
    subst e
    exact nd_ix nd g1 g3
structure KB (K : PySem.W.Frag) (fd : FuncData) (ps : List Str) (n : Nat) (ks : List Str) (p : List Nat) : Prop where
  to : ∀ (s : Shared) (us ws : List Value), K.In s.heap → us.length = n → ws.length = ks.length → BindsTo s fd ⟨us, ks.zip ws⟩ (ps.zip (selD Value.none p (us ++ ws)))
theorem dk_nil : PK X [] (tA X.K T wNil) := ⟨fun pos pins s σ H Q I h => by
  refine pk_nil.run pos pins s σ H Q I ?_
  obtain ⟨E0, B, ρ, Qd, er, tb, hw, k⟩ := h
  exact k _ _ _ _ hw (.ofNil er tb)⟩
theorem dk_cons {nm : Option Str} {kpos : Pos} {wa : WE} {wr : WA} (ha : PE X e (tE X.K T wa)) (hr : PK X kws (tA X.K T wr)) : PK X (⟨nm, e, kpos⟩ :: kws) (tA X.K T (wCons wa wr)) := ⟨fun pos pins s σ H Q I h => by
  refine (pk_cons ha hr).run pos pins s σ H Q I ?_
  obtain ⟨E0, B, ρ, Qd, er, tb, hw, k⟩ := h
  exact ⟨E0, B, ρ, _, er, tb, hw, fun x H1 r1 ρ1 q A1 => ⟨E0, _, ρ1, _, A1.er, A1.tab, q, fun ys H2 rs ρ2 q A2 => k _ _ _ _ q (A1.seq A2)⟩⟩⟩
/-- p: for each parameter the place of its value among those written -/
def wCallK (g : DSp) (ms : List Bool) (nk : Nat) (p : List Nat) (wk : WA) : WE := fun ρ Q => wk ρ fun rs ρ1 => rs.length = nk ∧ argsK g ms ρ1 (selD (.val .none) p rs) Q
theorem d_callK0 {g : DSp} {ms : List Bool} {wk : WA} {k : Nat} {f : Addr} {fd : FuncData} {ps ks : List Str} {pp : List Nat} {x : Str} {p : Pos} {kl : Nat} (F : FnG X.prog X.w X.K X.mg X.base kl f fd ps (spOf X.K T g)) (hr : Room k X.A) (hG : X.A.guards = some []) (hm : X.mg x = some (.ref f)) (hk : PySem.W.keepIn X.K (.ref f) = true)
    (hb : KB X.K fd ps 0 ks pp) (ha : PK X kws (tA X.K T wk)) (hp : ∀ i ∈ pp, i < ks.length := by decide) (nd : pp.Nodup := by decide) (hkl : kl ≤ k := by decide) (hall : (backToKw pos (keywordEach kws X.env)).all (·.1.isSome) = true := by rfl) (hks : (backToKw pos (keywordEach kws X.env)).filterMap (·.1) = ks := by rfl)
    (hg : Gl X x := by rfl) (hdb : (x == ("__debug__" : Str)) = false := by decide) (hpl : (backToKw pos (keywordEach kws X.env)).any (·.1.isNone) = false := by rfl) (hkl2 : (keywordEach kws X.env).length = ks.length := by rfl) :
    PE X (.Call (.Name x p) [] kws pos) (tE X.K T (wCallK g ms ks.length pp wk)) := by
  refine ⟨fun pins s σ H Q I h => ?_⟩
  obtain ⟨E0, B, ρ, Qd, er, tb, hw, kk⟩ := h
  refine wpAny_Call_Name_kw (ld_glob I hg hm ?_ hdb)
  refine PySem.W.callWith_KW0 (h₀ := X.base) I.ok.mod.kin hk hall ?_ hpl
  refine thn (ha.run pos pins s σ H (fun vs H1 => vs.length = ks.length ∧ spOf X.K T g (selD V.non pp vs) H1 Q E0') I ⟨E0, B, ρ, _, er, tb, hw, fun vs H1 rs ρ1 q A => ?_⟩) fun ws s1 ⟨vs, H1, I1, r, hl, q⟩ => ⟨I1.kIn, ?_⟩
  · obtain ⟨hlen, q⟩ := q
    have A' := A.sel (p := pp) (fun i hi => by rw [hlen]; exact hp i hi) nd
    obtain ⟨B', as, Qd', ar, tb1, hq, c⟩ := call_core er A' q
    refine ⟨by rw [← A.rr.len]; exact hlen, B', as, Qd', ar, tb1, hq, fun v H' dv as' q F => ?_⟩
    obtain ⟨ρ3, hk3, A3⟩ := c v H' dv as' q F
    exact kk v H' _ ρ3 hk3 A3
  · rw [hks]
    have hwl : ws.length = ks.length := by rw [← r.length]; exact hl
    have bb := hb.to s1 [] ws I1.kIn rfl hwl
    exact run_g (args := ⟨[], ks.zip ws⟩) (F.mono hkl) hr hG I1 bb (vals_sel r fun i hi => by rw [hl]; exact hp i hi) q

end
end DL
set_option maxRecDepth 100000
set_option maxHeartbeats 1000000
namespace DL
open PySem PySem.Spec L2 LamX
section
variable {K : PySem.W.Frag} {T : Tb} {E0 B O : As} {σ : L2.St} {ρ ρ1 ρ2 : DEnv} {H H1 : Hp} {vs us : List V} {v : V} {r : RV} {rs : List RV} {d : D} {ds : List D} {X : Cx} {e e1 e2 tg iter a b c o : Expr} {es rest : List Expr} {pos p2 : Pos}

/-! ### repr of lists and tuples -/
def isSeqD (d : D) : Bool := match d with
  | .list _ => true
  | .tuple _ => true
  | _ => false
def gRepr (ds : List D) (k : DV → Prop) : Prop := oneK ds fun d => (isSeqD d = true ∧ d.canLay0 = true ∧ d.showable = true ∧ d.depth ≤ 60 ∧ d.shown.length ≤ 16777216) ∧ k (.val (.str d.shown))
def rRepr (K : PySem.W.Frag) : List V → Hp → VK → Prop := fun xs H Q => ∃ v d, xs = [v] ∧ Dp K H v d ∧ isSeqD d = true ∧ d.canLay0 = true ∧ d.showable = true ∧ d.depth ≤ 60 ∧ d.shown.length ≤ sizeLine ∧ Q (.str d.shown) H
theorem call_repr (hG : X.A.guards = some []) (hu : X.A.units + 62 < cLine) : CallR X (.builtin "repr") (rRepr X.K) := by
  intro pins s σ H xs us Q I rv h
  obtain ⟨v, d, e, hd, hq, hc, hs, hp, hz, q⟩ := h
  subst e
  obtain ⟨u, e, ru⟩ := vals1 rv
  subst e
  obtain ⟨as, hr⟩ := Dp.reads I d v u hd ru
  have key : ∀ a, u = .ref a → wpAny (model X.prog X.w) X.A (call (.builtin "repr") [u]) (EP X pins σ Q) X.xe s := fun a e => by
    subst e
    exact repr_of_reads' hr hs (PyData.noDict_hsm (PyData.hasDict_of_canLay d hc)) hG (by omega) (fun _ _ e => e) (fun h' u tk hk => ⟨.str _, H, I.kept hk, ⟨_, rfl⟩, q⟩) hz
  cases d with
  | list ds =>
    cases hd with
    | lst h1 h2 => cases ru; exact key _ rfl
  | tuple ds =>
    cases hd with
    | tup h1 h2 => cases ru; exact key _ rfl
  | _ => cases hq
theorem repr_op : OpN K (rRepr K) gRepr := by
  intro O H xs ds Qd Q ob hx hg k
  obtain ⟨v, d, e, h, ⟨h1, h2, h3, h4, h5⟩, q⟩ := one_inv hx hg
  exact ⟨v, d, e, h.dp h2, h1, h2, h3, h4, sz_le h5, k _ _ _ q (Same.refl _) (Fre.refl _) (.str _)⟩

/-! ### a < b < c of numbers -/
def wChI (p q : Int → Int → Bool) (wa wb wc : WE) : WE := fun ρ Q => wa ρ fun r1 ρ1 => wb ρ1 fun r2 ρ2 => looksK ρ2 [r1, r2] fun ds => int2K ds fun i j => match p i j with
  | true => wc ρ2 fun r3 ρ3 => lookK ρ3 r3 fun d => intK d fun k => Q (.val (.bool (q j k))) ρ3
  | false => Q (.val (.bool false)) ρ2
theorem chain_core {p q : Int → Int → Bool} {wa wb wc : WE} {Q : VK} (h : tE K T (wChI p q wa wb wc) σ H Q) : tChain (rI0 fun i j => .bl (p i j)) (rI0 fun i j => .bl (q i j)) (tE K T wa) (tE K T wb) (tE K T wc) σ H Q := by
  obtain ⟨E0, B, ρ, Qd, er, tb, hw, k⟩ := h
  refine ⟨E0, B, ρ, _, er, tb, hw, fun x H1 r1 ρ1 hq A1 => ?_⟩
  refine ⟨E0, _, ρ1, _, A1.er, A1.tab, hq, fun y H2 r2 ρ2 hq A2 => ?_⟩
  have A := A1.seq A2
  obtain ⟨ds, rb, hq⟩ := A.looks (rs' := [r1, r2]) (vs' := [x, y]) (fun j v r a b => ⟨j, a, b⟩) rfl hq
  obtain ⟨i, j, ev, _, hq⟩ := int2_inv rb hq
  cases ev
  refine ⟨i, j, rfl, rfl, p i j, rfl, ?_⟩
  cases e : p i j with
  | false =>
    rw [e] at hq
    exact k _ H2 _ ρ2 hq (A.op (dv := .val (.bool false)) (Same.refl _) (Fre.refl _) (.bl _))
  | true =>
    rw [e] at hq
    refine ⟨E0, _, ρ2, _, A.er, A.tab, hq, fun z H3 r3 ρ3 hq A3 => ?_⟩
    have A' := A.seq A3
    obtain ⟨d, hd, hq⟩ := lookK_some hq
    have rz := A'.look (j := 2) rfl rfl hd
    unfold intK at hq
    split at hq
    · have ez := rz.int
      subst ez
      exact ⟨j, _, rfl, rfl, k _ H3 _ ρ3 hq (A'.op (dv := .val (.bool _)) (Same.refl _) (Fre.refl _) (.bl _))⟩
    · exact hq.elim
theorem d_chain {op op' : CmpOp} {p q : Int → Int → Bool} {wa wb wc : WE} (ho : OpR X (compareOp op) (rI0 fun i j => .bl (p i j))) (ho' : OpR X (compareOp op') (rI0 fun i j => .bl (q i j))) (ha : PE X a (tE X.K T wa)) (hb : PE X b (tE X.K T wb)) (hc : PE X c (tE X.K T wc)) (hm : lastMarks [op, op'] [b, c] = false := by with_unfolding_all rfl) :
    PE X (.Compare a [op, op'] [b, c] pos) (tE X.K T (wChI p q wa wb wc)) := (pe_chain ho ho' ha hb hc hm).imp fun σ H Q h => chain_core h
def wBoolT (w : WE) : WT := fun ρ Q => w ρ fun r ρ1 => match r with
  | .val (.bool b) => Q b ρ1
  | _ => False
theorem t_chain {op op' : CmpOp} {p q : Int → Int → Bool} {wa wb wc : WE} (ho : OpR X (compareOp op) (rI0 fun i j => .bl (p i j))) (ho' : OpR X (compareOp op') (rI0 fun i j => .bl (q i j))) (ha : PE X a (tE X.K T wa)) (hb : PE X b (tE X.K T wb)) (hc : PE X c (tE X.K T wc)) (hm : lastMarks [op, op'] [b, c] = false := by with_unfolding_all rfl) :
    PT X (.Compare a [op, op'] [b, c] pos) (tT X.K T (wBoolT (wChI p q wa wb wc))) := (pt_chain ho ho' ha hb hc hm).imp fun σ H Q h => chain_core (by
  obtain ⟨E0, B, ρ, Qd, er, tb, hw, k⟩ := h
  refine ⟨E0, B, ρ, _, er, tb, hw, fun v H1 r ρ1 hq A => ?_⟩
  split at hq
  · rename_i b
    have ev : v = .bl b := RpB.bool (A.look (j := 0) rfl rfl rfl)
    exact ⟨b, ev, k b H1 ρ1 hq A.nil⟩
  · exact hq.elim)
end
end DL
set_option maxRecDepth 100000
set_option maxHeartbeats 1000000
namespace DL
open PySem PySem.Spec L2 LamX
open PySem.W (kla_obj kla_fn kla_eval kla_makeFunction kla_makeFunctionHit kla_callFunE kla_codeExpr)
section
variable {K : PySem.W.Frag} {T : Tb} {E0 B O O' : As} {σ : L2.St} {ρ ρ1 ρ2 : DEnv} {H H1 H2 : Hp} {vs us : List V} {v : V} {r : RV} {rs : List RV} {d : D} {ds : List D} {X : Cx} {e e1 e2 tg iter a b c o : Expr} {es rest : List Expr} {pos p2 : Pos}

/-! ### a lambda is made -/
theorem fre_upd2 {P c : Addr} {ps : Array Value} {o o' : HO} (hP : H P = some (.tbl ps)) (nC : H c = none) : Fre H (upd (upd H P o) c o') := (Fre.upd H P o).trans (Fre.upd _ c o')
theorem lam_mk {pins : List (Addr × Obj)} {s : Shared} {cm P : Addr} {params : Arguments} {body : Expr} {scope : Scope} {lpos : Pos} {E Q : Value → Shared → Prop} (J : Inv X pins σ H s) (tab : TabB X.base X.mg cm P) (hc : X.env.code = .ref cm)
    (mem : (P, X.env.qual ++ "<lambda>") ∈ T) (one : ∀ p ∈ T, p.1 = P → p.2 = X.env.qual ++ "<lambda>") (ts : Tabs T H) (nodef : defaultsOf params X.env = ([], [])) (cap : ∀ y ∈ scope.names, y.2 = .free → ∃ c, X.env.cells.lookup y.1 = some c)
    (k : ∀ (f c' : Addr) (pm ctv : Value) (G : Hp) (s2 : Shared), Inv X pins σ G s2 → ExtN H G → Fre H G → Tabs T G → s2.heap.get? f = some (kla_obj "<lambda>" (X.env.qual ++ "<lambda>") params body scope (cloFrom X.env.cells scope.names []) pm c' ctv) →
      G f = none → f ∉ frs X.stack → G c' = some (CodeO c' (X.env.qual ++ "<lambda>")) → Q (.ref f) s2) : wpAny (model X.prog X.w) X.A (eval (.Lambda params body scope lpos) X.env) Q E s := by
  obtain ⟨ps, tP, tr, am⟩ := ts _ mem
  have gP : s.heap.get? P = some { cls := .none, data := .fields ps } := J.hok P _ tP
  have bl : s.heap.BuiltinsAt X.mg P := tab.bm.keeps J.bk
  have off : ∀ f, s.heap.objs.size ≤ f → f ∉ frs X.stack := fun f hf hz => (List.mem_cons.mp (J.stkSub _ hz)).elim (fun e => absurd (e ▸ J.lt) (Nat.not_lt.mpr hf)) (J.nofs hf)
  refine kla_eval nodef ?_
  cases hA : codeAmong lpos ps.toList with
  | some cv =>
    obtain ⟨c', rfl, hco⟩ := am lpos cv hA
    refine kla_makeFunctionHit (mg := X.mg) (c := cm) (P := P) (ps := ps) (closure_ok cap) J.ok.glob (J.ok.mod.glob.keeps J.bk) hc (tab.code.keeps J.bk) gP tr hA bl fun ctv h' tk hx hsz => ?_
    exact k h'.objs.size c' _ ctv H _ (J.kept fun b o e => Heap.get?_push_of_some _ (hx b o e)) (.refl H) (.refl H) ts (Heap.get?_push_size _ rfl) (J.hok.fresh hsz) (off _ hsz) hco
  | none =>
    refine kla_makeFunction (mg := X.mg) (c := cm) (P := P) (ps := ps) (closure_ok cap) J.ok.glob (J.ok.mod.glob.keeps J.bk) hc (tab.code.keeps J.bk) gP tr hA tab.gP bl fun c' ctv h' tk hx hge hlt hrec htb => ?_
    obtain ⟨c2, oc, ws, t, e2, ho, hd, hv⟩ := hrec
    obtain rfl : c' = c2 := Value.ref.inj e2
    have up : s.heap.objs.size ≤ h'.objs.size := Nat.le_trans hge (Nat.le_of_lt hlt)
    have nc : H c' = none := J.hok.fresh hge
    have J2 := inv_table (t' := tk) (more := #[rawInt lpos.line, rawInt lpos.col, .ref c']) (h' := h'.push (kla_obj "<lambda>" (X.env.qual ++ "<lambda>") params body scope (cloFrom X.env.cells scope.names []) ((X.mg "__name__").getD .none) c' ctv)) J tP
      (fun b o hb e => Heap.get?_push_of_some _ (hx b o hb e)) (Heap.get?_push_of_some _ htb) hge ⟨oc, ws, t, Heap.get?_push_of_some _ ho, hd, hv⟩
    have ex : ExtN H (upd (upd H P (.tbl (ps ++ #[rawInt lpos.line, rawInt lpos.col, .ref c']))) c' (CodeO c' (X.env.qual ++ "<lambda>"))) := fun b o e n => by
      have n1 : b ≠ c' := ne_of_none e nc
      have n2 : b ≠ P := fun z => n ps (by rw [z, tP] at e; exact (Option.some.inj e).symm)
      rw [upd_ne n1, upd_ne n2]; exact e
    have lst : (ps ++ #[rawInt lpos.line, rawInt lpos.col, .ref c']).toList = ps.toList ++ [rawInt lpos.line, rawInt lpos.col, .ref c'] := Array.toList_append
    have nPc : P ≠ c' := ne_of_none tP nc
    refine k h'.objs.size c' _ ctv _ _ J2 ex (fre_upd2 tP nc) (fun p hp => ?_) (Heap.get?_push_size _ rfl) ?_ (off _ up) upd_same
    · by_cases hb : p.1 = P
      · rw [one p hp hb, hb]
        refine ⟨_, (upd_ne nPc).trans upd_same, by rw [lst]; exact PySem.TriplesOk_snoc _ _ _ _ tr, fun q cv hcv => ?_⟩
        rw [lst] at hcv
        rcases among_app _ tr hcv with z | z
        · obtain ⟨c0, z1, z2⟩ := am q cv z
          exact ⟨c0, z1, ex _ _ z2 codeO_ne⟩
        · exact ⟨c', z, upd_same⟩
      · obtain ⟨qs, z1, z2, z3⟩ := ts p hp
        refine ⟨qs, by rw [upd_ne (ne_of_none z1 nc), upd_ne hb]; exact z1, z2, fun q cv hcv => ?_⟩
        obtain ⟨c0, y1, y2⟩ := z3 q cv hcv
        exact ⟨c0, y1, ex _ _ y2 codeO_ne⟩
    · have m1 : h'.objs.size ≠ c' := Nat.ne_of_gt hlt
      have m2 : h'.objs.size ≠ P := Nat.ne_of_gt (Nat.lt_of_lt_of_le (Heap.lt_size gP) up)
      rw [upd_ne m1, upd_ne m2]
      exact J.hok.fresh up

/-! ### the lambda's names: a and b its own, captured ones, globals -/
structure LamP (sc scope : Scope) (a b : Str) : Prop where
  kind : scope.kind = .function
  co : scope.isCoroutine = false
  gen : scope.isGenerator = false
  pa : scope.names.lookup a = some .local
  pb : scope.names.lookup b = some .local
  ne : a ≠ b
  loc : ∀ y, scope.names.lookup y = some .local → y = a ∨ y = b
  nocell : ∀ y ∈ scope.names, y.2 ≠ .cell
  free : ∀ y ∈ scope.names, y.2 = .free → sc.names.lookup y.1 = some .cell ∨ sc.names.lookup y.1 = some .free
def lamPB (sc scope : Scope) (a b : Str) : Bool :=
  decide (scope.kind = .function) && !scope.isCoroutine && !scope.isGenerator && decide (scope.names.lookup a = some .local) && decide (scope.names.lookup b = some .local) && decide (a ≠ b) &&
  scope.names.all fun y => (!decide (y.2 = .local) || decide (y.1 = a) || decide (y.1 = b)) && !decide (y.2 = .cell) && (!decide (y.2 = .free) || decide (sc.names.lookup y.1 = some .cell) || decide (sc.names.lookup y.1 = some .free))
theorem lamP_by {sc scope : Scope} {a b : Str} (h : lamPB sc scope a b = true) : LamP sc scope a b := by
  unfold lamPB at h
  simp only [Bool.and_eq_true, Bool.or_eq_true, Bool.not_eq_true', decide_eq_true_eq, decide_eq_false_iff_not, List.all_eq_true] at h
  obtain ⟨⟨⟨⟨⟨⟨h1, h2⟩, h3⟩, h4⟩, h5⟩, h6⟩, h7⟩ := h
  refine ⟨h1, h2, h3, h4, h5, h6, fun y hy => ?_, fun y hy => (h7 y hy).1.2, fun y hy e => ?_⟩
  · have m := PySem.mem_of_lookup hy
    rcases (h7 _ m).1.1 with (z | z) | z
    · exact absurd rfl z
    · exact .inl z
    · exact .inr z
  · rcases (h7 y hy).2 with (z | z) | z
    · exact absurd e z
    · exact .inl z
    · exact .inr z
theorem LamP.caps {scope : Scope} {a b : Str} (L : LamP X.env.scope scope a b) (ok : X.Ok) : ∀ y ∈ scope.names, y.2 = .free → ∃ c, X.env.cells.lookup y.1 = some c := fun y hy e => ok.has _ ((L.free y hy e).imp id id)
/-- the state with which the lambda's body begins -/
theorem lam_begin {pins : List (Addr × Obj)} {s s1 : Shared} {HZ : Hp} {A : Around} {outer : List Env} {E : XK} {scope : Scope} {a b : Str} {f c' : Addr} {h₁ : Heap} {tk i j : Nat} {x y : V} {u w : Value} (J : Inv X pins σ H s) (L : LamP X.env.scope scope a b) (e0 : Env0 X.prog X.w X.K X.mg X.base A outer s1 HZ) (hh : A.handled = none)
    (un : Un (frs X.stack) [] H HZ s.heap s1.heap) (hns : h₁.Ns s1.heap.objs.size fun z => [(a, u), (b, w)].reverse.lookup z) (kp : ∀ b o, s1.heap.get? b = some o → h₁.get? b = some o) (nd : X.N.Nodup) (hi : X.N[i]? = some a) (hj : X.N[j]? = some b) (rx : RelV x u) (ry : RelV y w) :
    Inv (lamCx X A outer s1 HZ E scope f c') [] ((σ.set i (some x)).set j (some y)) HZ { s1 with heap := h₁, toks := tk } := by
  have caps := L.caps J.ok
  have un1 : ∀ {z k}, (cloFrom X.env.cells scope.names []).lookup z = some k → X.env.cells.lookup z = some k := fun {z k} e => by
    rcases cloFrom_mem (PySem.mem_of_lookup e) with hm | ⟨h1, h2⟩
    · cases hm
    · obtain ⟨k1, hk⟩ := caps _ h1 rfl
      have hk : X.env.cells.lookup z = some k1 := hk
      have : k = k1 := by rw [h2, hk] <;> rfl
      rw [this]; exact hk
  have fnd : ∀ {z}, scope.names.lookup z = some .free → ∃ k, (cloFrom X.env.cells scope.names []).lookup z = some k := fun {z} hl => mem_lookup (cloFrom_has (cells := X.env.cells) (acc := []) (PySem.mem_of_lookup hl))
  have isC : ∀ {k : Addr} {z : Option Value}, H k = none → s.heap.IsCell k z → h₁.IsCell k z := fun {k z} n ⟨o, ho, hd⟩ => by
    obtain ⟨sl, q⟩ := un.any ho n (by simp)
    exact ⟨_, kp _ _ q, hd⟩
  have no : ∀ k : Addr, k ∉ (lamCx X A outer s1 HZ E scope f c').ex := fun k z => absurd (show k ∈ ([] : List Addr) from z) (by simp)
  have Ok : (lamCx X A outer s1 HZ E scope f c').Ok := by
    refine ⟨e0.mod, L.kind, rfl, rfl, Nat.le_refl _, fun p q k e1 e2 => J.ok.inj p q k (un1 e1) (un1 e2), fun z hz => ?_, fun z k hz _ => absurd (show false = true from hz) Bool.false_ne_true, fun _ => hh, Around.frames_deeper e0.frames, .inr ⟨rfl, rfl⟩, fun k z => absurd z (no k), e0.bs, e0.bsz,
      fun k _ _ => no k, fun k z => absurd z (no k), e0.funs, e0.frf⟩
    have hz : scope.names.lookup z = some .cell ∨ scope.names.lookup z = some .free := hz
    rcases hz with hz | hz
    · exact absurd rfl (L.nocell _ (PySem.mem_of_lookup hz))
    · exact fnd hz
  refine ⟨Ok, rfl, e0.bare, Un.kept kp, ⟨_, hns, fun n z q e1 e2 e3 => ?_⟩, fun z k e => ?_, e0.hok.fresh (Nat.le_refl _), fun z k e => ?_, fun q hq => absurd (show q ∈ ([] : List (Addr × Obj)) ++ [] from hq) (by simp), e0.hok.kept kp, by rw [List.length_set, List.length_set]; exact J.len⟩
  · have e3 : Vis scope z := e3
    have e1 : X.N[n]? = some z := e1
    have ix : ∀ {p q : Nat} {t : Str}, X.N[p]? = some t → X.N[q]? = some t → p = q := fun h1 h2 => nd_ix nd h1 h2
    have ln : n < X.N.length := (List.getElem?_eq_some_iff.mp e1).1
    have ls := J.len
    rcases e3 with g | g | g
    · rcases L.loc z g with hz | hz
      · subst hz
        have en := ix e1 hi
        subst en
        have nj : j ≠ n := fun z => L.ne (by rw [z, hi] at hj; exact Option.some.inj hj)
        rw [List.getElem?_set_ne nj, List.getElem?_set_self (by omega)] at e2
        cases e2
        refine ⟨u, rx, .inl ⟨g, ?_⟩⟩
        have : (b == z) = false := beq_eq_false_iff_ne.mpr (Ne.symm L.ne)
        have t2 : (z == b) = false := beq_eq_false_iff_ne.mpr L.ne
        show List.lookup z [(b, w), (z, u)] = some u
        simp [List.lookup, t2]
      · subst hz
        have en := ix e1 hj
        subst en
        rw [List.getElem?_set_self (by rw [List.length_set]; omega)] at e2
        cases e2
        refine ⟨w, ry, .inl ⟨g, ?_⟩⟩
        show List.lookup z [(z, w), (a, u)] = some w
        simp [List.lookup]
    · exact absurd rfl (L.nocell _ (PySem.mem_of_lookup g))
    · have nj : j ≠ n := fun q => by rw [q, e1] at hj; cases hj; rw [L.pb] at g; cases g
      have ni : i ≠ n := fun q => by rw [q, e1] at hi; cases hi; rw [L.pa] at g; cases g
      rw [List.getElem?_set_ne nj, List.getElem?_set_ne ni] at e2
      obtain ⟨m, _, hl⟩ := J.loc
      have vis : Vis X.env.scope z := (L.free _ (PySem.mem_of_lookup g) rfl).elim (fun k => .inr (.inl k)) fun k => .inr (.inr k)
      obtain ⟨w', rr, q⟩ := hl n z _ e1 e2 vis
      obtain ⟨c2, h2⟩ := fnd g
      refine ⟨w', rr, .inr ⟨.inr g, c2, h2, ?_⟩⟩
      have c1 := un1 h2
      rcases q with ⟨k', _⟩ | ⟨_, c3, e', q⟩
      · have k' : X.env.scope.names.lookup z = some .local := k'
        rcases L.free _ (PySem.mem_of_lookup g) rfl with k2 | k2 <;> rw [show X.env.scope.names.lookup z = _ from k2] at k' <;> cases k'
      · rw [c1] at e'
        cases e'
        exact isC (J.freeC z _ c1) q
  · obtain ⟨w', q⟩ := J.cell z k (un1 e)
    exact ⟨w', isC (J.freeC z k (un1 e)) q⟩
  · obtain ⟨q, o, ho, hd⟩ := J.cell z k (un1 e)
    exact un.free k o ho (J.freeC z k (un1 e)) (by simp)
end
end DL
set_option maxRecDepth 100000
set_option maxHeartbeats 1000000
namespace DL
open PySem PySem.Spec L2 LamX
open PySem.W (kla_obj kla_fn kla_eval kla_makeFunction kla_makeFunctionHit kla_callFunE kla_codeExpr)
open PyProof.Rows (envOfC)
section
variable {K : PySem.W.Frag} {T : Tb} {E0 B B' O O' : As} {σ : L2.St} {ρ ρ1 ρ2 : DEnv} {H H1 H2 HZ : Hp} {vs us : List V} {v x y : V} {r : RV} {rs : List RV} {d d1 d2 : D} {ds : List D} {X : Cx} {e e1 e2 tg iter o : Expr} {es rest : List Expr} {pos p2 : Pos}

/-! ### data that no one changes -/
mutual
def solid : D → Bool
  | .none => true
  | .bool _ => true
  | .int _ => true
  | .str _ => true
  | .tuple ds => solids ds
  | .list _ => false
  | .dict _ => false
def solids : List D → Bool
  | [] => true
  | d :: ds => solid d && solids ds
end
theorem Rp.solid {O' : As} {H' : Hp} (t : ∀ a xs, SqP K H a xs → SqP K H' a xs) {v : V} {d : D} (h : Rp K O H v d) : DL.solid d = true → Rp K O' H' v d :=
  Rp.rec (motive_1 := fun v d _ => DL.solid d = true → Rp K O' H' v d) (motive_2 := fun vs ds _ => solids ds = true → RpL K O' H' vs ds) (fun _ => .non) (fun b _ => .bl b) (fun i _ => .int i) (fun x _ => .str x) (fun _ _ c => nomatch c)
    (fun _ _ _ c => nomatch c) (fun s _ ih c => .tup (t _ _ s) (ih c)) (fun _ _ _ c => nomatch c) (fun _ _ _ _ _ _ c => nomatch c) (fun _ _ _ _ _ _ _ _ c => nomatch c) (fun _ => .nil) (fun _ _ i1 i2 c => by
      have c' := Bool.and_eq_true_iff.mp (show (_ && _) = true from c)
      exact .cons (i1 c'.1) (i2 c'.2)) h
theorem sqT_un {fs ex : List Addr} {h h' : Heap} (u : Un fs ex H H1 h h') {a : Addr} {xs : List V} (q : SqT K H a xs) : SqT K H1 a xs := q.imp (fun q => q.imp (u.tups a xs) fun ⟨o, z⟩ => ⟨o, u.frzs a o _ z⟩) id
theorem sqP_un {fs ex : List Addr} {h h' : Heap} (u : Un fs ex H H1 h h') {a : Addr} {xs : List V} (q : SqP K H a xs) : SqP K H1 a xs := q.imp (fun ⟨o, d, z⟩ => ⟨o, d, u.frzs a o _ z⟩) id
theorem Rp.fn_inv {f c : Addr} {q : Str} (h : Rp K O H v (fnD f c q)) : v = .ref f ∧ ¬ O c ∧ H c = some (CodeO c q) := by
  have key : ∀ d, d = fnD f c q → Rp K O H v d → v = .ref f ∧ ¬ O c ∧ H c = some (CodeO c q) := fun d e h => by
    cases h with
    | fnc n w =>
      unfold fnD at e
      simp only [PyData.dict.injEq, List.cons.injEq, Prod.mk.injEq, PyData.tuple.injEq, PyData.int.injEq, PyData.str.injEq, and_true, true_and, Int.ofNat_inj, Int.natCast_inj] at e
      obtain ⟨e1, e2, e3⟩ := e
      first
      | (have e1 := Int.ofNat.inj e1; have e2 := Int.ofNat.inj e2; subst e1; subst e2; subst e3; exact ⟨rfl, n, w⟩)
      | (subst e1; subst e2; subst e3; exact ⟨rfl, n, w⟩)
    | dcn n e1 q q2 h1 h2 =>
      unfold fnD at e
      cases e
      exact (keys_list q q2).elim
    | dct n h1 h2 h3 =>
      unfold fnD at e
      cases e
      rename_i ks
      cases ks with
      | nil => cases h2
      | cons p ks =>
        cases h2 with
        | cons g1 g2 =>
          have g1 : Rp K O H (kV p.1) (.list []) := g1
          cases e : p.1 with
          | inl i => rw [e] at g1; cases g1
          | inr i => rw [e] at g1; cases g1
    | _ => cases e
  exact key _ rfl h

/-! ### what the lambda's body sees -/
def hideS (s : Sl) : Sl := match s with
  | .sh d => match solid d with
    | true => .sh d
    | false => .emp
  | _ => .emp
def lamEnvD (ρ : DEnv) (i j : Nat) (d1 d2 : D) : DEnv := ((ρ.map hideS).set i (.sh d1)).set j (.sh d2)
theorem lamEnvD_get {n i j : Nat} {s : Sl} (h : (lamEnvD ρ i j d1 d2)[n]? = some s) : (n = j ∧ s = .sh d2) ∨ (n ≠ j ∧ n = i ∧ s = .sh d1) ∨ (n ≠ j ∧ n ≠ i ∧ ∃ s0, ρ[n]? = some s0 ∧ s = hideS s0) := by
  unfold lamEnvD at h
  by_cases hj : n = j
  · subst hj
    have hl := (List.getElem?_eq_some_iff.mp h).1
    rw [List.length_set] at hl
    rw [List.getElem?_set_self hl] at h
    exact .inl ⟨rfl, (Option.some.inj h).symm⟩
  · rw [List.getElem?_set_ne (Ne.symm hj)] at h
    by_cases hi : n = i
    · subst hi
      have hl := (List.getElem?_eq_some_iff.mp h).1
      rw [List.length_set] at hl
      rw [List.getElem?_set_self hl] at h
      exact .inr (.inl ⟨hj, rfl, (Option.some.inj h).symm⟩)
    · rw [List.getElem?_set_ne (Ne.symm hi), List.getElem?_map] at h
      cases e : ρ[n]? with
      | none => rw [e] at h; cases h
      | some s0 => rw [e] at h; exact .inr (.inr ⟨hj, hi, s0, rfl, (Option.some.inj h).symm⟩)
theorem lamEnvD_nb {n i j : Nat} {b : Box} : ¬ IsBx (lamEnvD ρ i j d1 d2) n b := fun h => by
  have key : ∀ s, (lamEnvD ρ i j d1 d2)[n]? = some s → (s = .own b ∨ s = .lent b) → False := fun s h1 h2 => by
    rcases lamEnvD_get h1 with ⟨_, e⟩ | ⟨_, _, e⟩ | ⟨_, _, s0, _, e⟩
    · rw [e] at h2; rcases h2 with h2 | h2 <;> cases h2
    · rw [e] at h2; rcases h2 with h2 | h2 <;> cases h2
    · rw [e] at h2
      unfold hideS at h2
      cases s0 with
      | sh d => simp only at h2; split at h2 <;> rcases h2 with h2 | h2 <;> cases h2
      | _ => rcases h2 with h2 | h2 <;> cases h2
  rcases h with h | h
  · exact key _ h (.inl rfl)
  · exact key _ h (.inr rfl)
abbrev LD := D → D → (DV → Prop) → Prop
def lamD (wb : WE) (ρ : DEnv) (i j : Nat) : LD := fun d1 d2 k => wb (lamEnvD ρ i j d1 d2) fun r ρ' => retK ρ' r fun r' _ => rvK r' k
def gLam (L : LD) : DSp := fun as k => match as with
  | [.sh d1, .sh d2] => L d1 d2 fun dv => k dv [.sh d1, .sh d2]
  | _ => False
def wAct (n : Nat) (fd : D) (L : LD) (wa : WA) : WE := fun ρ Q => ρ[n]? = some (.sh fd) ∧ wa ρ fun rs ρ1 => argsK (gLam L) [false, false] ρ1 rs Q
/-- what is captured, where it stands for data -/
def Capt (K : PySem.W.Frag) (σ : L2.St) (H : Hp) (ρ : DEnv) : Prop := ρ.length = σ.length ∧ ∀ (i : Nat) (d : D), ρ[i]? = some (.sh d) → ∃ v, σ[i]? = some (some v) ∧ ∃ O, Rp K O H v d
theorem er_lam {fs ex : List Addr} {h h' : Heap} {i j : Nat} (cp : Capt K σ H ρ) (un : Un fs ex H HZ h h') (ar : ArgsR K B HZ [x, y] [.sh d1, .sh d2]) (hi : i < σ.length) (hj : j < σ.length) (ij : i ≠ j) :
    ER K (fun a => ∃ o, HZ a = some o) B ((σ.set i (some x)).set j (some y)) HZ (lamEnvD ρ i j d1 d2) := by
  have la : ∀ a, La [x, y] [.sh d1, .sh d2] a → False := fun a ⟨n, b, h1, _⟩ => by
    cases n with
    | zero => cases h1
    | succ n => cases n with
      | zero => cases h1
      | succ n => simp at h1
  have rm : ∀ {v d}, A1 K B (B.or (La [x, y] [.sh d1, .sh d2])) HZ v (.sh d) → Rp K (B.or (Ow ((σ.set i (some x)).set j (some y)) (lamEnvD ρ i j d1 d2))) HZ v d := fun {v d} q => Rp.mono (show Rp _ _ _ _ _ from q) fun a z => z.elim .inl fun ⟨n, b, hb, _⟩ => (lamEnvD_nb hb).elim
  refine ⟨by unfold lamEnvD; simp only [List.length_set, List.length_map]; exact cp.1, fun n d hd => ?_, fun n b hb => (lamEnvD_nb hb).elim, fun n m b c a hb _ _ _ => (lamEnvD_nb hb).elim, ar.bo, fun _ z => z, fun n b a hb _ => (lamEnvD_nb (.inl hb)).elim⟩
  rcases lamEnvD_get hd with ⟨e1, e2⟩ | ⟨e0, e1, e2⟩ | ⟨e0, e1, s0, e2, e3⟩
  · subst e1; cases e2
    exact ⟨y, by rw [List.getElem?_set_self (by rw [List.length_set]; exact hj)], rm (ar.at_ 1 y _ rfl rfl)⟩
  · subst e1; cases e2
    exact ⟨x, by rw [List.getElem?_set_ne (Ne.symm e0), List.getElem?_set_self hi], rm (ar.at_ 0 x _ rfl rfl)⟩
  · unfold hideS at e3
    cases s0 with
    | sh d' =>
      simp only at e3
      split at e3
      · rename_i hs
        cases e3
        obtain ⟨v, h1, O, h2⟩ := cp.2 n d e2
        exact ⟨v, by rw [List.getElem?_set_ne (Ne.symm e0), List.getElem?_set_ne (Ne.symm e1)]; exact h1, h2.solid (fun a xs q => sqP_un un q) hs⟩
      · cases e3
    | _ => cases e3
theorem aftF_lam {i j : Nat} {dv : DV} {ρ' : DEnv} {σL : L2.St} (ar : ArgsR K B H [x, y] [.sh d1, .sh d2]) (R : RetA K T (fun a => ∃ o, H a = some o) B σL H (lamEnvD ρ i j d1 d2) v H1 dv.rv ρ') : AftF K T B [x, y] [.sh d1, .sh d2] H v H1 dv [.sh d1, .sh d2] := by
  have la : ∀ a, La [x, y] [.sh d1, .sh d2] a → False := fun a ⟨n, b, h1, _⟩ => by
    cases n with
    | zero => cases h1
    | succ n => cases n with
      | zero => cases h1
      | succ n => simp at h1
  have ow : ∀ a, Ow σL (lamEnvD ρ i j d1 d2) a → False := fun a ⟨n, b, hb, _⟩ => lamEnvD_nb hb
  have lt : ∀ a, Lt σL (lamEnvD ρ i j d1 d2) a → False := fun a ⟨n, b, hb, _⟩ => lamEnvD_nb (.inr hb)
  have nn : ∀ (P Q : As), (∀ a, P a → False) → ∀ a, ((B.or (Nw [v] [dv.rv])).or P) a → ((B.or (Nw [v] [dv.rv])).or Q) a := fun P Q hp a z => z.elim .inl fun z => (hp a z).elim
  have nb : ∀ (n : Nat) (b : Box), [Arg.sh d1, Arg.sh d2][n]? = some (.ln b) → False := fun n b h => by
    cases n with
    | zero => cases h
    | succ n => cases n with
      | zero => cases h
      | succ n => simp at h
  have fresh : ∀ a, Nw [v] [dv.rv] a → H a = none := fun a z => by
    cases dv with
    | val d => exact (nw_val a z).elim
    | new b =>
      have ev := nw_one a z
      obtain ⟨a', e1, e2, _⟩ := R.rr
      rw [ev] at e1; cases e1
      cases q : H a with
      | none => rfl
      | some o => exact (e2 ⟨o, q⟩).elim
  refine { stp := R.stp.mono fun a z => (ow a z).elim, fre := R.fre, tab := R.tab, shp := ⟨rfl, fun _ _ h => h, fun n b h => ⟨b, h⟩, fun n b h => ⟨b, h⟩⟩, args := ⟨ar.len, fun n u a h1 h2 => ?_, fun n m b c a h1 _ _ _ => (nb n b h1).elim, R.bo⟩, rr := ?_ }
  · cases a with
    | ln b => exact (nb n b h2).elim
    | sh d =>
      have q : Rp K (B.or (La [x, y] [.sh d1, .sh d2])) H u d := ar.at_ n u _ h1 h2
      refine q.move (R.stp.mono fun a z => (ow a z).elim) (fun a z => z.elim (ar.bo a) fun z => (la a z).elim) fun a z => ?_
      rcases z with (z | z) | z
      · exact .inl (.inl z)
      · exact .inr (fresh a z)
      · exact .inl (.inr z)
  · cases dv with
    | val d => exact Rp.mono (show Rp _ _ _ _ _ from R.rr) (nn _ _ la)
    | new b =>
      obtain ⟨a, e1, e2, e3⟩ := R.rr
      refine ⟨a, e1, fresh a (by rw [e1]; exact nw_at), e3.mono (nn _ _ la)⟩
/-- the def that got the lambda calls it -/
theorem d_act {pins : List (Addr × Obj)} {s : Shared} {scope sg : Scope} {a b an qg : Str} {i j n k : Nat} {g f c' : Addr} {cdg pm ctv : Value} {params : Arguments} {body : Expr} {Ng : List Str} {Eg : XK} {wb : WE} {wa : WA} {p1 p2 : Pos}
    (J : Inv X pins σ H s) (cp : Capt X.K σ H ρ) (L : LamP X.env.scope scope a b) (nd : X.N.Nodup) (hi : X.N[i]? = some a) (hj : X.N[j]? = some b)
    (hf : s.heap.get? f = some (kla_obj "<lambda>" (X.env.qual ++ "<lambda>") params body scope (cloFrom X.env.cells scope.names []) pm c' ctv)) (hfn : H f = none) (hfr : f ∉ frs X.stack)
    (hbind : ∀ (q : Str) (cl : List (Str × Addr)) (pm cv ctv : Value) (s : Shared) (u w : Value), BindsTo s (kla_fn "<lambda>" q params body scope cl pm cv ctv) ⟨[u, w], []⟩ [(a, u), (b, w)])
    (hr : Room (k + 1) (X.A.deeper (envOfC qg sg s.heap.objs.size g cdg))) (hG : (X.A.deeper (envOfC qg sg s.heap.objs.size g cdg)).guards = some [])
    (hbody : ∀ (A : Around) (outer : List Env) (s : Shared) (H : Hp) (E : XK) (f c' : Addr), Room k (A.deeper (lamEnv X scope s.heap.objs.size f c')) → A.guards = some [] → PE (lamCx X A outer s H E scope f c').nox body (tE X.K T wb))
    (ha : PA (cxOf CX0 X.prog X.w X.K X.mg X.base Ng qg sg g cdg X.A X.stack s H Eg).nox (e :: es) (tA X.K T wa)) (hN : Ng[n]? = some an) (hv : Vis sg an) (hd : (an == ("__debug__" : Str)) = false := by decide) (hcd : (an == ("__classdict__" : Str)) = false := by decide)
    (he : starEach (e :: es) (envOfC qg sg s.heap.objs.size g cdg) = (false, eval e (envOfC qg sg s.heap.objs.size g cdg)) :: starEach es (envOfC qg sg s.heap.objs.size g cdg) := by rfl) (hpl : (backTo p2 (starEach es (envOfC qg sg s.heap.objs.size g cdg))).any (·.1) = false := by rfl) :
    PE (cxOf CX0 X.prog X.w X.K X.mg X.base Ng qg sg g cdg X.A X.stack s H Eg).nox (.Call (.Name an p1) (e :: es) [] p2) (tE X.K T (wAct n (fnD f c' (X.env.qual ++ "<lambda>")) (lamD wb ρ i j) wa)) := by
  refine ⟨fun pz sz σz Hz Q Iz h => ?_⟩
  obtain ⟨E0, B, ρz, Qd, er, tb, ⟨hsl, hw⟩, kk⟩ := h
  obtain ⟨v0, hv0, rp0⟩ := er.sh n _ hsl
  obtain ⟨ev, nO, hco⟩ := rp0.fn_inv
  subst ev
  refine wpAny_Call_Name_kw (thn ((pe_var (X := (cxOf CX0 X.prog X.w X.K X.mg X.base Ng qg sg g cdg X.A X.stack s H Eg).nox) (pos := p1) (i := n) hN hv hd hcd).run pz sz σz Hz (fun v H1 => v = .ref f ∧ H1 = Hz) Iz ⟨.ref f, hv0, rfl, rfl⟩) fun u s1 ⟨v, H1, I1, r1, q1⟩ => ?_)
  obtain ⟨ev, eH⟩ := q1
  subst ev
  rw [eH] at I1
  obtain rfl : u = Value.ref f := r1
  have at_f : ∀ {p H' s'}, Inv (cxOf CX0 X.prog X.w X.K X.mg X.base Ng qg sg g cdg X.A X.stack s H Eg).nox p σz H' s' → s'.heap.get? f = some (kla_obj "<lambda>" (X.env.qual ++ "<lambda>") params body scope (cloFrom X.env.cells scope.names []) pm c' ctv) := fun I' =>
    I'.base.keep f _ hf hfn hfr (fun z => nomatch (show f ∈ ([] : List Addr) from z))
  refine PySem.W.callWith_F ⟨_, _, _, _, at_f I1⟩ (thn (ha.run p2 pz s1 σz Hz (fun vs H1 => H1 c' = some (CodeO c' (X.env.qual ++ "<lambda>")) ∧ ∃ x y, vs = [x, y] ∧ ∃ B' d1 d2 Qd', ArgsR X.K B' H1 [x, y] [.sh d1, .sh d2] ∧ Tabs T H1 ∧ lamD wb ρ i j d1 d2 Qd' ∧ ∀ v H' dv, Qd' dv → AftF X.K T B' [x, y] [.sh d1, .sh d2] H1 v H' dv [.sh d1, .sh d2] → Q v H') I1 ⟨E0, B, ρz, _, er, tb, hw, fun vs H1 rs ρ1 q A => ?_⟩) fun us s2 ⟨vs, H2, I2, rv, hcc, x, y, evs, B', d1, d2, Qd', ar, tb2, hl, kk2⟩ => ⟨⟨_, _, _, _, at_f I2⟩, ?_⟩) he hpl
  · refine ⟨A.stp c' _ hco (fun z => nO (.inr z)) fun ps => codeO_ne ps, ?_⟩
    obtain ⟨B', as, Qd', ar, tb1, hq, c⟩ := call_core er A q
    unfold gLam at hq
    split at hq
    · rename_i d1 d2
      have hl2 := ar.len
      match vs, hl2 with
      | [x, y], _ =>
        refine ⟨x, y, rfl, B', d1, d2, _, ar, tb1, hq, fun v H' dv q F => ?_⟩
        obtain ⟨ρ3, hk3, A3⟩ := c v H' dv _ q F
        exact kk v H' _ ρ3 hk3 A3
    · exact hq.elim
  · subst evs
    have un : Un (frs X.stack) [] H H2 s.heap s2.heap := I2.base
    obtain ⟨⟨oc, ws, t, hoc, hdc, hvc⟩, _, _⟩ := I2.hok c' _ hcc
    have ls := J.len
    have lt : ∀ {m : Nat} {z : Str}, X.N[m]? = some z → m < σ.length := fun q => by rw [ls]; exact (List.getElem?_eq_some_iff.mp q).1
    have ij : i ≠ j := fun z => L.ne (by rw [z, hj] at hi; exact (Option.some.inj hi).symm)
    obtain ⟨u1, u2, eus, r1, r2⟩ := vals2 rv
    subst eus
    have rc : codeAny (model X.prog X.w) (X.A.deeper (envOfC qg sg s.heap.objs.size g cdg)) (.call (.ref f) ⟨[u1, u2], []⟩) (CR (L2.CX X.prog X.w) (envOfC qg sg s.heap.objs.size g cdg :: X.stack) X.prog X.w H2 s2 Q E0') s2 := by
      refine kla_callFunE hr.depth (at_f I2) rfl L.co L.gen rfl ⟨c', oc, ws, t, rfl, hoc, hdc, hvc⟩ ?_
      refine hbind _ _ _ _ _ _ _ _ _ _ _ _ ?_
      refine wpAny_newFunctionEnv L.nocell (fun z hz => ?_) (fun h₁ hns hsb => ⟨I2.nolimit.fresh _ hsb, ?_⟩) L.kind
      · rcases List.mem_cons.mp hz with e | e
        · rw [e]; exact L.pa
        · rw [List.mem_singleton.mp e]; exact L.pb
      show codeAny _ _ (.expr body (lamEnv X scope s2.heap.objs.size f c')) _ _
      have kp : ∀ b o, s2.heap.get? b = some o → h₁.get? b = some o := fun b o e => hsb.extBut b o (Nat.ne_of_lt (Heap.lt_size e)) (Heap.get?_push_of_some _ e)
      have JL := lam_begin (E := E0') (f := f) (c' := c') (tk := s2.toks + ([(a, u1), (b, u2)] : List (Str × Value)).length) J L I2.env0 hr.hd un hns kp nd hi hj r1 r2
      refine kla_codeExpr (wpAny_mono ((hbody _ _ s2 H2 E0' f c' (hr.deeper _) hG).nox.run [] _ _ H2 Q JL ⟨_, B', _, _, er_lam cp un ar (lt hi) (lt hj) ij, tb2, hl, fun v H' r ρ' q A' => ?_⟩) (fun v s' hq => ?_) fun e s' hq => hq)
      · obtain ⟨r', ρ2, hk, R⟩ := RetA.of (er_lam cp un ar (lt hi) (lt hj) ij) A' q
        cases r' with
        | val d => exact kk2 v H' (.val d) hk (aftF_lam (dv := .val d) ar R)
        | new b => exact kk2 v H' (.new b) hk (aftF_lam (dv := .new b) ar R)
        | var i => exact (show False from hk).elim
      · obtain ⟨w', H', J', rv, q⟩ := hq
        exact ⟨w', H', J'.os, J'.bare, J'.base, J'.hok, rv, q⟩
    refine wpAny_call (codeAny_mono rc fun z s3 hq => ?_)
    cases z with
    | error e =>
      obtain ⟨_, _, _, _, _, _, _, _, _, _, _, _, z⟩ := hq
      exact (show False from z).elim
    | ok fl =>
      cases fl with
      | ret u => exact I2.after hq
      | next => exact (show False from hq).elim
      | brk => exact (show False from hq).elim
      | cont => exact (show False from hq).elim
end
end DL
set_option maxRecDepth 100000
set_option maxHeartbeats 1000000
namespace DL
open PySem PySem.Spec L2 LamX
open PySem.W (kla_obj kla_fn kla_eval kla_makeFunction kla_makeFunctionHit kla_callFunE kla_codeExpr)
open PyProof.Rows (envOfC)
section
variable {K : PySem.W.Frag} {T : Tb} {E0 B B' O O' : As} {σ : L2.St} {ρ ρ1 ρ2 : DEnv} {H H1 H2 HZ : Hp} {vs us : List V} {v x y : V} {r : RV} {rs : List RV} {d d1 d2 : D} {ds : List D} {X : Cx} {e e1 e2 tg iter o : Expr} {es rest : List Expr} {pos p2 : Pos}

theorem ER.ext (er : ER K E0 B σ H ρ) (x : ExtN H H1) (f : Fre H H1) : ER K E0 B σ H1 ρ := by
  have st : Stp (B.or (Ow σ ρ)) H H1 := fun a o e _ t => x a o e t
  have nn : ∀ a, (B.or (Ow σ ρ)) a → (B.or (Ow σ ρ)) a ∨ H a = none := fun a z => .inl z
  have bx : ∀ {a o}, H a = some o → BoxO o → H1 a = some o := fun {a o} e q => x a o e fun ps z => by rw [z] at q; cases q
  refine ⟨er.len, fun i d h => let ⟨v, h1, h2⟩ := er.sh i d h; ⟨v, h1, h2.move st er.ob nn⟩, fun i b h => ?_, er.inj, fun a z => let ⟨u, h1, h2⟩ := er.bo a z; ⟨u, bx h1 h2, h2⟩, fun a z => let ⟨u, h⟩ := er.e0 a z; f.some h, er.new⟩
  obtain ⟨a, h1, h2, h3⟩ := er.bx i b h
  obtain ⟨u, q1, q2⟩ := h3.boxish
  exact ⟨a, h1, h2, h3.move st er.ob nn fun o q => by rw [q1] at q; cases q; exact bx q1 q2⟩
theorem After.ext (A : After K T E0 B σ H ρ vs H1 rs ρ1) (x : ExtN H1 H2) (f : Fre H1 H2) (t : Tabs T H2) : After K T E0 B σ H ρ vs H2 rs ρ1 := by
  have ob : OB ((B.or (Nw vs rs)).or (Ow σ ρ1)) H1 := A.er.ob
  have st : Stp ((B.or (Nw vs rs)).or (Ow σ ρ1)) H1 H2 := fun a o e _ t => x a o e t
  refine ⟨A.stp.trans (O' := fun _ => False) (fun a o e _ t => x a o e t) (fun _ z => z.elim), A.fre.trans f, t, A.le, A.er.ext x f, ⟨A.rr.len, fun j v r h1 h2 => ?_, A.rr.inj⟩⟩
  refine (A.rr.at_ j v r h1 h2).move st ob (fun a z => .inl z) fun a c ev er o q => ?_
  have q1 := A.rr.at_ j v r h1 h2
  rw [er] at q1
  obtain ⟨a', e1, _, q3⟩ := q1
  rw [ev] at e1; cases e1
  obtain ⟨u, z1, z2⟩ := q3.boxish
  rw [z1] at q; cases q
  exact x a _ z1 fun ps z => by rw [z] at z2; cases z2
/-- the name an, that holds a function of data fd, is called -/
structure ActOk (Z : Cx) (T : Tb) (n : Nat) (an : Str) (fd : D) (L : LD) : Prop where
  pe : ∀ {p1 p2 : Pos} {e : Expr} {es : List Expr} {wa : WA}, PA Z (e :: es) (tA Z.K T wa) → starEach (e :: es) Z.env = (false, eval e Z.env) :: starEach es Z.env → (backTo p2 (starEach es Z.env)).any (·.1) = false → PE Z (.Call (.Name an p1) (e :: es) [] p2) (tE Z.K T (wAct n fd L wa))
theorem d_actC {Z : Cx} {n : Nat} {an : Str} {fd : D} {L : LD} {p1 p2 : Pos} {wa : WA} (A : ActOk Z T n an fd L) (ha : PA Z (e :: es) (tA Z.K T wa)) (he : starEach (e :: es) Z.env = (false, eval e Z.env) :: starEach es Z.env := by rfl) (hpl : (backTo p2 (starEach es Z.env)).any (·.1) = false := by rfl) :
    PE Z (.Call (.Name an p1) (e :: es) [] p2) (tE Z.K T (wAct n fd L wa)) := A.pe ha he hpl
abbrev gotCx (X : Cx) (Ng : List Str) (qual : Str) (sg : Scope) (g : Addr) (cdv : Value) (s : Shared) (H : Hp) : Cx := (cxOf CX0 X.prog X.w X.K X.mg X.base Ng qual sg g cdv X.A X.stack s H E0').nox
def wFL (n : Nat) (wg : D → LD → WS) (wa wb : WE) (i j : Nat) : WE := fun ρ Q => wa ρ fun r ρ1 => ∀ fd : D, argsK (fun as k => as.length = 2 ∧ wg fd (lamD wb ρ1 i j) (startD n as) { nx := fun ρ' => k (.val .none) (outs as ρ'), rt := fun r ρ' => rvK r fun dv => k dv (outs as ρ') }) [false, false] ρ1 [r, .val fd] Q
/-- x(e, lambda a, b: body) -/
theorem d_fl {x qual an pv a b : Str} {st : Stmt} {g c P : Addr} {fd : FuncData} {Ng : List Str} {k i j : Nat} {params : Arguments} {body : Expr} {scope : Scope} {lpos p : Pos} {wa wb : WE} {wg : D → LD → WS}
    (hG : ∀ (cdv : Value) (s : Shared) (H : Hp) (fd : D) (L : LD), Room (k + 1) (gotCx X Ng qual (defScope st) g cdv s H).A → (gotCx X Ng qual (defScope st) g cdv s H).A.guards = some [] → ActOk (gotCx X Ng qual (defScope st) g cdv s H) T 1 an fd L → PSs (gotCx X Ng qual (defScope st) g cdv s H) (defBody st) (tS X.K T (wg fd L)))
    (F : Fun X.K x qual st g fd) (hb : L2.Binds X.K fd [pv, an] []) (Sg : FnScope Ng [pv, an] (defScope st)) (hNl : 2 ≤ Ng.length) (hN1 : Ng[1]? = some an) (hva : Vis (defScope st) an)
    (hm : X.mg x = some (.ref g)) (tab : TabB X.base X.mg c P) (hcode : X.env.code = .ref c) (mem : (P, X.env.qual ++ "<lambda>") ∈ T) (one : ∀ p ∈ T, p.1 = P → p.2 = X.env.qual ++ "<lambda>") (hr : Room (k + 2) X.A) (hgd : X.A.guards = some [])
    (hbody : ∀ (A : Around) (outer : List Env) (s : Shared) (H : Hp) (E : XK) (f c' : Addr), Room k (A.deeper (lamEnv X scope s.heap.objs.size f c')) → A.guards = some [] → PE (lamCx X A outer s H E scope f c').nox body (tE X.K T wb))
    (ha : PE X e (tE X.K T wa)) (L : LamP X.env.scope scope a b) (hi : X.N[i]? = some a) (hj : X.N[j]? = some b) (nd : X.N.Nodup) (nodef : defaultsOf params X.env = ([], []) := by rfl)
    (hbind : ∀ (q : Str) (cl : List (Str × Addr)) (pm cv ctv : Value) (s : Shared) (u w : Value), BindsTo s (kla_fn "<lambda>" q params body scope cl pm cv ctv) ⟨[u, w], []⟩ [(a, u), (b, w)] := by intros; exact BindsTo.of_eq rfl)
    (hg : Gl X x := by rfl) (hdb : (x == ("__debug__" : Str)) = false := by decide) (hd : (an == ("__debug__" : Str)) = false := by decide) (hcd : (an == ("__classdict__" : Str)) = false := by decide)
    (he : starEach (e :: [.Lambda params body scope lpos]) X.env = (false, eval e X.env) :: starEach [.Lambda params body scope lpos] X.env := by rfl) (he2 : backTo pos (starEach [.Lambda params body scope lpos] X.env) = [(false, eval (.Lambda params body scope lpos) X.env)] := by rfl)
    (hpl : (backTo pos (starEach [.Lambda params body scope lpos] X.env)).any (·.1) = false := by rfl) :
    PE X (.Call (.Name x p) [e, .Lambda params body scope lpos] [] pos) (tE X.K T (wFL Ng.length wg wa wb i j)) := by
  refine ⟨fun pins s σ H Q I h => ?_⟩
  obtain ⟨E0, B, ρ, Qd, er, tb, hw, kk⟩ := h
  refine wpAny_Call_Name_kw (ld_glob I hg hm ?_ hdb)
  refine PySem.W.callWith_K (h₀ := X.base) I.ok.mod.kin F.kp ?_ he hpl
  rw [he]
  show wpAny _ _ (spliced ((false, eval e X.env) :: backTo pos (starEach [.Lambda params body scope lpos] X.env))) _ _ s
  rw [he2]
  refine Calls.spliced_cons (thn (ha.run pins s σ H (fun v H1 => ∃ r ρ1, (∀ fd : D, argsK (fun as k => as.length = 2 ∧ wg fd (lamD wb ρ1 i j) (startD Ng.length as) { nx := fun ρ' => k (.val .none) (outs as ρ'), rt := fun r ρ' => rvK r fun dv => k dv (outs as ρ') }) [false, false] ρ1 [r, .val fd] Qd) ∧ After X.K T E0 B σ H ρ [v] H1 [r] ρ1) I ⟨E0, B, ρ, _, er, tb, hw, fun v H1 r ρ1 q A => ⟨r, ρ1, q, A⟩⟩) fun u s1 ⟨v, H1, I1, rv, r, ρ1, q, A⟩ => ?_)
  refine Calls.spliced_cons (lam_mk I1 tab hcode mem one A.tab nodef (L.caps I1.ok) fun f c' pm ctv H2 s2 I2 ex fr tb2 hf hfn hfr hco => ?_)
  refine Calls.spliced_nil ⟨I2.kIn, ?_⟩
  have A2 := A.ext ex fr tb2
  have nOB : ¬ ((B.or (Nw [v] [r])).or (Ow σ ρ1)) c' := fun z => by
    obtain ⟨o, z1, z2⟩ := A2.er.ob c' z
    rw [hco] at z1; cases z1
    exact code_not z2
  have fv : Rp X.K ((B.or (Nw [v] [r])).or (Ow σ ρ1)) H2 (.ref f) (fnD f c' (X.env.qual ++ "<lambda>")) := .fnc nOB hco
  have A3 := A2.seq (After.ofVal (v := .ref f) A2.er A2.tab (Same.refl H2) (Fre.refl H2) fv)
  obtain ⟨B', as, Qd', ar, tb3, ⟨hl, hq⟩, cc⟩ := call_core er A3 (q (fnD f c' (X.env.qual ++ "<lambda>")))
  have cp : Capt X.K σ H2 ρ1 := ⟨A2.er.len, fun n d h => let ⟨v, h1, h2⟩ := A2.er.sh n d h; ⟨v, h1, _, h2⟩⟩
  obtain ⟨oc, od, kV, doc, pm', an', cdv, ct, osl, rfl, lk, hcd'⟩ := F.ex
  have rc : codeAny (model X.prog X.w) X.A (.call (.ref g) ⟨[u, .ref f], []⟩) (CR CX0 X.stack X.prog X.w H2 s2 Q E0') s2 := by
    have bb := hb s2 [u, .ref f] I2.kIn rfl
    rw [List.append_nil] at bb
    refine run_ofS (N := Ng) (ps := [pv, an]) (us := [u, .ref f]) (vs := [v, .ref f]) lk hcd' Sg hr I2.env0 bb (.cons rv (.cons rfl .nil)) rfl fun hr' => ?_
    have act : ActOk (gotCx X Ng qual (defScope st) g cdv s2 H2) T 1 an (fnD f c' (X.env.qual ++ "<lambda>")) (lamD wb ρ1 i j) := ⟨fun ha' h1 h2 => d_act I2 cp L nd hi hj hf hfn hfr hbind hr' hgd hbody ha' hN1 hva hd hcd h1 h2⟩
    refine ⟨_, (hG cdv s2 H2 _ _ hr' hgd act).nox, ?_⟩
    refine ⟨_, B', _, _, er_start (Nn := Ng) ar (by rw [hl]; exact hNl), tb3, hq, fun σ' H' ρ' q Sa => ?_, fun v H' r ρ' q R => ?_, fun _ _ _ q _ => q.elim, fun _ _ _ q _ => q.elim⟩
    · obtain ⟨r', ρ2, ⟨e1, e2⟩, R⟩ := RetA.of Sa.er (After.ofVal (v := .non) (d := .none) Sa.er Sa.tab (Same.refl H') (Fre.refl H') .non) (show retK ρ' (.val .none) (fun r ρ => r = .val .none ∧ ρ = ρ') from ⟨rfl, rfl⟩)
      subst e1; subst e2
      obtain ⟨ρ3, hk3, A4⟩ := cc .non H' (.val .none) _ q (aftF_of (dv := .val .none) ar (Sa.ret R))
      exact kk .non H' _ ρ3 hk3 A4
    · cases r with
      | val d =>
        obtain ⟨ρ3, hk3, A4⟩ := cc v H' (.val d) _ q (aftF_of (dv := .val d) ar R)
        exact kk v H' _ ρ3 hk3 A4
      | new b =>
        obtain ⟨ρ3, hk3, A4⟩ := cc v H' (.new b) _ q (aftF_of (dv := .new b) ar R)
        exact kk v H' _ ρ3 hk3 A4
      | var i => exact (show False from q).elim
  refine wpAny_call (codeAny_mono rc fun z s3 hq => ?_)
  cases z with
  | error e => exact (show False from hq).elim
  | ok fl =>
    cases fl with
    | ret u => exact I2.after hq
    | next => exact (show False from hq).elim
    | brk => exact (show False from hq).elim
    | cont => exact (show False from hq).elim
end
end DL
set_option maxRecDepth 100000
set_option maxHeartbeats 1000000
/-! the end: a law over data, called as the row calls it -/
namespace DL
open PySem PySem.Spec L2 LamX
open PyProof.Rows
abbrev emptyT : Obj := { cls := .none, data := .fields #[] }
/-- a def without defaults -/
theorem fun_of {K : PySem.W.Frag} {x qual : Str} {st : Stmt} {f : Addr} {fd : FuncData} (F : FunD K x qual (defArgs st) (defBody st) (defScope st) [] [] f fd) : Fun K x qual st f fd := by
  obtain ⟨⟨oc, od, dV, kV, doc, pm, an, cdv, ct, osl, e, lk, hc, hd, hk⟩, kp⟩ := F
  have ed : dV = .none := by
    rcases hd with ⟨z, _⟩ | ⟨z, _⟩
    · first | exact z | (rename_i z2; exact z2)
    · exact absurd rfl z
  subst ed
  exact ⟨⟨oc, od, kV, doc, pm, an, cdv, ct, osl, e, lk, hc⟩, kp⟩
section
variable {P : Program} {w : World} {K : PySem.W.Frag} {mg mb : Str → Option Value}
/-- what is tracked as the law begins: the empty tables, the script (unless the part K tells it) -/
def headH (K : PySem.W.Frag) (cs : List (Addr × Addr)) (a : Addr) (vs : List Value) (ns : List Int) : Hp := fun b =>
  if b ∈ cs.map (·.2) then some (.tbl #[]) else if b = a ∧ (K.lookup a).isNone = true then some (.frz { cls := .type "list", data := .seq vs.toArray } (.lst (ns.map V.int))) else none
theorem headH_cases {cs : List (Addr × Addr)} {a b : Addr} {vs : List Value} {ns : List Int} {u : HO} (h : headH K cs a vs ns b = some u) :
    (b ∈ cs.map (·.2) ∧ u = .tbl #[]) ∨ (b = a ∧ K.lookup a = none ∧ u = .frz { cls := .type "list", data := .seq vs.toArray } (.lst (ns.map V.int))) := by
  unfold headH at h
  split at h
  · rename_i q; exact .inl ⟨q, (Option.some.inj h).symm⟩
  · split at h
    · rename_i q; exact .inr ⟨q.1, Option.isNone_iff_eq_none.mp q.2, (Option.some.inj h).symm⟩
    · cases h
theorem headH_tab {cs : List (Addr × Addr)} {a : Addr} {vs : List Value} {ns : List Int} {p : Addr × Addr} (hp : p ∈ cs) : headH K cs a vs ns p.2 = some (.tbl #[]) := if_pos (List.mem_map.mpr ⟨p, hp, rfl⟩)
theorem run_law {k : Nat} {fa a : Addr} {cs : List (Addr × Addr)} {fd : FuncData} {x : Str} {sp : Sp} {s : Shared} {vs : List Value} {ns : List Int} (kin : K.In s.heap) (mainN : s.heap.Ns mainGlobals mg) (bltN : s.heap.Ns builtinsNs mb) (boot : ∀ x : Str, x ≠ "__name__" → mb x = bootBuiltins x)
    (nolim : s.heap.NoLimit) (nogen : s.gens = #[]) (tabs : ∀ p ∈ cs, s.heap.get? p.2 = some emptyT) (tabK : ∀ p ∈ cs, K.lookup p.2 = none) (heads : ∀ p ∈ cs, PySem.W.CodeHd s.heap p.1 p.2)
    (bmod : ∃ (bm : Addr) (ob : Obj), mg "__builtins__" = some (.ref bm) ∧ bm ≠ builtinsNs ∧ s.heap.get? bm = some ob ∧ ob.cls = .type "module" ∧ ob.dict = some builtinsNs ∧ ob.data = .plain)
    (scr : s.heap.get? a = some { cls := .type "list", data := .seq vs.toArray }) (nums : IntsAre vs ns) (hl : ns.length ≤ sizeLine) (room : Room k callerA)
    (F : ∀ base : Heap, K.In base → base.Ns mainGlobals mg → (∀ p ∈ cs, TabB base mg p.1 p.2) → FnG P w K mg base k fa fd [x] sp) (bind : ∀ (s : Shared) (u : Value), BindsTo s fd ⟨[u], []⟩ [(x, u)])
    (spk : ∀ H : Hp, (∀ p ∈ cs, H p.2 = some (.tbl #[])) → SqL K H a (ns.map V.int) → sp [.ref a] H (fun v _ => v = .bl true) fun _ _ _ => False) :
    codeAny (model P w) callerA (.call (.ref fa) ⟨[.ref a], []⟩) (fun r s' => r = .ok (.ret (.bool true)) ∧ OldK s.heap s'.heap ∧ s'.os = s.os ∧ AllBare s'.gens) s := by
  have rv := vals_ints nums
  have lv := nums.length
  let H : Hp := headH K cs a vs ns
  have tabAt : ∀ b : Addr, b ∈ cs.map (·.2) → s.heap.get? b = some emptyT := fun b hb => by
    obtain ⟨p, hp, e⟩ := List.mem_map.mp hb
    exact e ▸ tabs p hp
  have inv : ∀ {b u}, H b = some u → (b ∈ cs.map (·.2) ∧ u = .tbl #[]) ∨ (b = a ∧ K.lookup a = none ∧ u = .frz { cls := .type "list", data := .seq vs.toArray } (.lst (ns.map V.int))) := fun h => headH_cases h
  -- neither a table nor the script
  have out : ∀ {b : Addr} {o : Obj}, s.heap.get? b = some o → (∀ vs n, o.data ≠ .seq vs n) → o.data ≠ .fields #[] → H b = none := fun {b o} e h1 h2 => by
    cases q : H b with
    | none => rfl
    | some u =>
      rcases inv q with ⟨z, _⟩ | ⟨z, _, _⟩
      · have := tabAt b z
        rw [e] at this; cases this
        exact (h2 rfl).elim
      · rw [z, scr] at e; cases e
        exact (h1 _ _ rfl).elim
  have onK : ∀ {b o}, K.lookup b = some o → H b = none := fun {b o} e => by
    cases q : H b with
    | none => rfl
    | some u =>
      rcases inv q with ⟨z, _⟩ | ⟨z, z2, _⟩
      · obtain ⟨p, hp, ep⟩ := List.mem_map.mp z
        rw [← ep, tabK p hp] at e; cases e
      · rw [z, z2] at e; cases e
  have isNs : ∀ {b : Addr} {m : Str → Option Value}, s.heap.Ns b m → (hidT s.heap H).Ns b m := fun ⟨o, es, ep, e, d, r⟩ => ⟨o, es, ep, hidT_get e (out e (fun vs n z => by rw [d] at z; cases z) fun z => by rw [d] at z; cases z), d, r⟩
  have kb : K.In (hidT s.heap H) := fun b o e => hidT_get (kin b o e) (onK e)
  obtain ⟨bm, ob, b1, b2, b3, b4, b5, b6⟩ := bmod
  have bH : H bm = none := out b3 (fun vs n z => by rw [b6] at z; cases z) fun z => by rw [b6] at z; cases z
  have notD : ∀ {b : Addr} {m : Str → Option Value} {o : Obj}, s.heap.Ns b m → s.heap.get? b = some o → ∃ es ep, o.data = .dict es ep := fun ⟨o', es, ep, e, d, _⟩ q => by
    rw [e] at q; cases q
    exact ⟨es, ep, d⟩
  have tb : ∀ p ∈ cs, TabB (hidT s.heap H) mg p.1 p.2 := fun p hp => by
    obtain ⟨o, us, file, tf, flags, tg, inF, text, tt, e1, r1, r2, r3, rest⟩ := heads p hp
    refine ⟨⟨o, us, file, tf, flags, tg, inF, text, tt, hidT_get e1 (out e1 (fun vs n z => by rw [r2] at z; cases z) fun z => ?_), r1, r2, r3, rest⟩, ⟨bm, ob, b1, b2, fun z => ?_, fun z => ?_, hidT_get b3 bH, b4, b5, b6⟩, fun z => ?_⟩
    · rw [r2] at z
      cases z
      simp at r3
    · obtain ⟨es, ep, q⟩ := notD mainN (z ▸ b3)
      rw [b6] at q; cases q
    · have q := tabs p hp
      rw [← z, b3] at q; cases q
      cases b6
    · obtain ⟨es, ep, q⟩ := notD mainN (z ▸ tabs p hp)
      cases q
  have hok : HOk P w H s.heap := fun b u q => by
    rcases inv q with ⟨z, e⟩ | ⟨z, _, e⟩
    · subst e; exact tabAt b z
    · subst e; subst z
      exact ⟨scr, by rw [List.length_map]; exact hl, vs, _, rv, scr⟩
  have env0 : Env0 P w K mg (hidT s.heap H) callerA [] s H := ⟨rfl, ⟨kb, isNs mainN, ⟨mb, isNs bltN, boot⟩, let ⟨mc, h1, h2⟩ := nolim; ⟨mc, isNs h1, h2⟩⟩, fun b o e => of_hidT e, Nat.le_of_eq (hidT_size _ _), trivial, fun b hb => absurd (show b ∈ ([] : List Addr) from hb) (by simp), hok, .of_eq nogen⟩
  have hT : ∀ p ∈ cs, H p.2 = some (.tbl #[]) := fun p hp => headH_tab hp
  have sq : SqL K H a (ns.map V.int) := by
    cases q : K.lookup a with
    | none =>
      have na : a ∉ cs.map (·.2) := fun z => by
        have := tabAt a z
        rw [scr] at this; cases this
      refine .inl (.inr ⟨{ cls := .type "list", data := .seq vs.toArray }, ?_⟩)
      show headH K cs a vs ns a = _
      unfold headH
      rw [if_neg na, if_pos ⟨rfl, by rw [q]; rfl⟩]
    | some o =>
      have e := kin a o q
      rw [scr] at e; cases e
      exact .inr ⟨_, vs.toArray, _, q, rfl, rfl, rfl, by rw [List.size_toArray, lv]; exact hl, by simpa using rv⟩
  refine codeAny_mono ((F _ kb (isNs mainN) tb).run callerA [] s H ⟨[.ref a], []⟩ [.ref a] [.ref a] _ _ room rfl env0 (bind s (.ref a)) (.cons rfl .nil) (spk H hT sq)) fun r s' h => ?_
  cases r with
  | error e => exact (show False from h).elim
  | ok fl =>
    cases fl with
    | next => exact (show False from h).elim
    | brk => exact (show False from h).elim
    | cont => exact (show False from h).elim
    | ret u =>
      obtain ⟨v, H', os, bare, un, hok', r', q⟩ := h
      have q : v = .bl true := q
      subst q
      obtain rfl : u = Value.bool true := r'
      have stay : ∀ b o, b ∉ cs.map (·.2) → s.heap.get? b = some o → s'.heap.get? b = some o := fun b o nb e => by
        cases q : H b with
        | none => exact un.keep b o e q (by intro z; exact absurd (show b ∈ ([] : List Addr) from z) (by simp)) (by simp)
        | some u =>
          rcases inv q with ⟨z, _⟩ | ⟨_, _, z⟩
          · exact absurd z nb
          · rw [z] at q
            obtain ⟨e1, _⟩ := hok b _ q
            obtain ⟨e2, _⟩ := hok' b _ (un.frzs b _ _ q)
            rw [e] at e1; cases e1
            exact e2
      have grow : ∀ p ∈ cs, ∃ more : Array Value, s'.heap.get? p.2 = some { cls := .none, data := .fields more } := fun p hp => by
        obtain ⟨more, z⟩ := un.tbls p.2 #[] (hT p hp)
        exact ⟨_, hok' p.2 _ z⟩
      refine ⟨rfl, ⟨fun b o e => ?_, fun b o e => ?_⟩, os, bare⟩ <;> by_cases hb : b ∈ cs.map (·.2)
      · obtain ⟨p, hp, ep⟩ := List.mem_map.mp hb
        obtain ⟨more, hm⟩ := grow p hp
        rw [← ep] at e ⊢
        rw [tabs p hp] at e; cases e
        exact .inr (.inl ⟨((heads p hp).tab (tabs p hp)).isCodeTable, rfl, #[], more, rfl, by rw [Array.empty_append]; exact hm⟩)
      · exact .inl (stay b o hb e)
      · obtain ⟨p, hp, ep⟩ := List.mem_map.mp hb
        obtain ⟨more, hm⟩ := grow p hp
        exact ⟨_, ep ▸ hm⟩
      · exact ⟨o, stay b o hb e⟩
/-- the law's walk, by what is told of the head's heap -/
theorem walk_g {l : PySem.W.OpenLaw} {n k : Nat} {q : Program} {loose : List Str} {XP : (Str → Option Value) → Heap → Prop} {YP : World → Heap → Prop} {d : DefRec} {x : Str}
    (hn : l.most = some n) (hn2 : n ≤ sizeLine) (hdf : d.params.defaults = []) (hr : Room k callerA)
    (F : ∀ (w : World) (mg : Str → Option Value) (fa : Addr) (h : Heap), YP w h → h.Ns mainGlobals mg → mg d.name = some (.ref fa) → ∃ (K : PySem.W.Frag) (fd : FuncData) (cs : List (Addr × Addr)) (sp : Sp), K.In h ∧
      (∀ p ∈ cs, h.get? p.2 = some emptyT) ∧ (∀ p ∈ cs, K.lookup p.2 = none) ∧ (∀ p ∈ cs, PySem.W.CodeHd h p.1 p.2) ∧ (∀ (s : Shared) (u : Value), BindsTo s fd ⟨[u], []⟩ [(x, u)]) ∧
      (∀ (H : Hp) (a : Addr) (ns : List Int), ns.length ≤ n → (∀ z ∈ ns, Builtin.Int.intBits z ≤ 1048576) → (∀ p ∈ cs, H p.2 = some (.tbl #[])) → SqL K H a (ns.map V.int) → sp [.ref a] H (fun v _ => v = .bl true) fun _ _ _ => False) ∧
      ∀ base : Heap, K.In base → base.Ns mainGlobals mg → (∀ p ∈ cs, TabB base mg p.1 p.2) → FnG l.prog w K mg base k fa fd [x] sp) :
    PySem.W.WalkO q loose XP YP l.row.toRowW d [] (fun f vs => PySem.call f vs) := by
  refine Att.attach_callB hn hdf fun w s₀ s₁ mg mb fa o pm cd doc a vs ns G Y ho hd hcd hmg scr nums hlen bits hg => ?_
  obtain ⟨K, fd, cs, sp, kin, h1, h2, h3, hb, hsp, hF⟩ := F w mg fa _ Y G.T.g hmg
  exact run_law kin G.T.g G.T.b G.T.builtins G.T.nolimit hg h1 h2 h3 G.T.bmain scr nums (Nat.le_trans hlen hn2) hr hF hb fun H hH hS => hsp H a ns hlen bits hH hS
/-- the law's promise over data, of a script -/
theorem sp_law {cs : List (Addr × Addr)} {T : Tb} {g : DSp} {H : Hp} {a : Addr} {ns : List Int} (hT : ∀ p ∈ T, p.1 ∈ cs.map (·.2)) (hH : ∀ p ∈ cs, H p.2 = some (.tbl #[])) (hS : SqL K H a (ns.map V.int)) (hg : g [.sh (.list (ns.map PyData.int))] fun dv _ => dv = .val (.bool true)) :
    spOf K T g [.ref a] H (fun v _ => v = .bl true) fun _ _ _ => False := by
  have rl : ∀ (O : As) (zs : List Int), RpL K O H (zs.map V.int) (zs.map PyData.int) := fun O zs => by
    induction zs with
    | nil => exact .nil
    | cons z zs ih => exact .cons (.int z) ih
  have la : ∀ x, La [V.ref a] [Arg.sh (.list (ns.map PyData.int))] x → False := fun x ⟨j, b, h1, _⟩ => by
    cases j with
    | zero => cases h1
    | succ j => simp at h1
  refine ⟨fun _ => False, [.sh (.list (ns.map PyData.int))], _, ⟨rfl, fun j v x h1 h2 => ?_, fun i j b c x h1 _ _ _ => ?_, fun _ z => z.elim⟩, fun p hp => ?_, hg, fun v H' dv as' hq A => ?_⟩
  · cases j with
    | zero =>
      cases h1; cases h2
      have nO : ∀ z, ¬ (As.or (fun _ => False) (La [V.ref a] [Arg.sh (.list (ns.map PyData.int))])) z := fun z q => q.elim id (la z)
      exact .lst (hS.imp (fun q => ⟨nO a, q⟩) id) (rl _ ns)
    | succ j => simp at h1
  · cases i with
    | zero => cases h1
    | succ i => simp at h1
  · obtain ⟨c, hc, e⟩ := List.mem_map.mp (hT p hp)
    exact .nil (e ▸ hH c hc)
  · have hq : dv = .val (.bool true) := hq
    subst hq
    exact RpB.bool (.inl A.rr)
end
end DL
set_option maxRecDepth 100000
set_option maxHeartbeats 1000000
namespace DL
open PySem PySem.Spec L2 LamX
section
variable {P : Program} {w : World} {K : PySem.W.Frag} {mg : Str → Option Value} {base : Heap} {T : Tb} {X : Cx} {e : Expr} {es : List Expr} {kws : List Keyword} {pos : Pos}

/-! ### defs by their names -/
def BindF (x : Str) (st : Stmt) (ps : List Str) : Prop := ∀ (kV doc pm : Value) (an : Option Addr) (cdv ct : Value) (us : List Value), us.length = ps.length → bindArgs (PySem.W.fnOf x x (defArgs st) (defBody st) (defScope st) .none kV doc pm an cdv ct) ⟨us, []⟩ = pure (ps.zip us)
def BindW (x : Str) (st : Stmt) (ps ks : List Str) (pp : List Nat) : Prop := ∀ (kV doc pm : Value) (an : Option Addr) (cdv ct : Value) (ws : List Value), ws.length = ks.length → bindArgs (PySem.W.fnOf x x (defArgs st) (defBody st) (defScope st) .none kV doc pm an cdv ct) ⟨[], ks.zip ws⟩ = pure (ps.zip (selD Value.none pp ws))
/-- the name x stands for the def st -/
structure Def (K : PySem.W.Frag) (mg : Str → Option Value) (y x : Str) (st : Stmt) : Prop where
  ex : ∃ (f : Addr) (fd : FuncData), mg y = some (.ref f) ∧ Fun K x x st f fd
/-- .. and keeps its promise over data -/
structure Has (P : Program) (w : World) (K : PySem.W.Frag) (mg : Str → Option Value) (base : Heap) (T : Tb) (k : Nat) (y x : Str) (st : Stmt) (ps : List Str) (g : DSp) : Prop where
  ex : ∃ (f : Addr) (fd : FuncData), mg y = some (.ref f) ∧ Fun K x x st f fd ∧ FnG P w K mg base k f fd ps (spOf K T g)
theorem binds_of {x : Str} {st : Stmt} {ps : List Str} {f : Addr} {fd : FuncData} (F : Fun K x x st f fd) (hb : BindF x st ps) : L2.Binds K fd ps [] := by
  obtain ⟨oc, od, kV, doc, pm, an, cdv, ct, osl, rfl, _, _⟩ := F.ex
  exact .all (hb kV doc pm an cdv ct)
theorem d_callH {y x : Str} {st : Stmt} {ps : List Str} {g : DSp} {ms : List Bool} {wa : WA} {k kl : Nat} {p : Pos} (h : Has X.prog X.w X.K X.mg X.base T kl y x st ps g) (hb : BindF x st ps) (hr : Room k X.A) (hG : X.A.guards = some []) (ha : PA X (e :: es) (tA X.K T wa)) (hkl : kl ≤ k := by decide)
    (hg : Gl X y := by rfl) (hdb : (y == ("__debug__" : Str)) = false := by decide) (he : starEach (e :: es) X.env = (false, eval e X.env) :: starEach es X.env := by rfl) (hpl : (backTo pos (starEach es X.env)).any (·.1) = false := by rfl) :
    PE X (.Call (.Name y p) (e :: es) [] pos) (tE X.K T (wCall g ms wa)) := by
  obtain ⟨f, fd, hm, F, G⟩ := h.ex
  exact d_call G hr hG hm F.kp (binds_of F hb) ha hkl hg hdb he hpl
theorem d_callW {y x : Str} {st : Stmt} {ps ks : List Str} {pp : List Nat} {g : DSp} {ms : List Bool} {wk : WA} {k kl : Nat} {p : Pos} (h : Has X.prog X.w X.K X.mg X.base T kl y x st ps g) (hb : BindW x st ps ks pp) (hr : Room k X.A) (hG : X.A.guards = some []) (ha : PK X kws (tA X.K T wk)) (hp : ∀ i ∈ pp, i < ks.length := by decide) (nd : pp.Nodup := by decide) (hkl : kl ≤ k := by decide)
    (hall : (backToKw pos (keywordEach kws X.env)).all (·.1.isSome) = true := by rfl) (hks : (backToKw pos (keywordEach kws X.env)).filterMap (·.1) = ks := by rfl)
    (hg : Gl X y := by rfl) (hdb : (y == ("__debug__" : Str)) = false := by decide) (hpl : (backToKw pos (keywordEach kws X.env)).any (·.1.isNone) = false := by rfl) (hkl2 : (keywordEach kws X.env).length = ks.length := by rfl) :
    PE X (.Call (.Name y p) [] kws pos) (tE X.K T (wCallK g ms ks.length pp wk)) := by
  obtain ⟨f, fd, hm, F, G⟩ := h.ex
  have kb : KB X.K fd ps 0 ks pp := ⟨fun s us ws _ h0 hl => by
    obtain rfl : us = [] := List.length_eq_zero_iff.mp h0
    obtain ⟨oc, od, kV, doc, pm, an, cdv, ct, osl, rfl, _, _⟩ := F.ex
    exact .of_eq (hb kV doc pm an cdv ct ws hl)⟩
  exact d_callK0 G hr hG hm F.kp kb ha hp nd hkl hall hks hg hdb hpl hkl2
/-- THE RULE for a def over data, by its name -/
theorem has_def {y x : Str} {st : Stmt} {Nn ps : List Str} {k : Nat} {g : DSp} {wb : WS} (Df : Def K mg y x st) (S : FnScope Nn ps (defScope st)) (hl : ps.length ≤ Nn.length)
    (hb : ∀ (f : Addr) (cdv : Value) (A : Around) (outer : List Env) (s : Shared) (H : Hp) (E : XK), Room k (A.deeper (PyProof.Rows.envOfC x (defScope st) s.heap.objs.size f cdv)) → A.guards = some [] → PSs (cxOf CX0 P w K mg base Nn x (defScope st) f cdv A outer s H E).nox (defBody st) (tS K T wb))
    (hg : ∀ as Qd, g as Qd → as.length = ps.length ∧ wb (startD Nn.length as) { nx := fun ρ => Qd (.val .none) (outs as ρ), rt := fun r ρ => rvK r fun dv => Qd dv (outs as ρ) }) : Has P w K mg base T (k + 1) y x st ps g := by
  obtain ⟨f, fd, hm, F⟩ := Df.ex
  exact ⟨f, fd, hm, F, fn_d F S hl (hb f) hg⟩
/-- a module's whole number -/
theorem d_gi {x : Str} {i : Int} (h : ∃ t, X.mg x = some (.int i t)) (hg : Gl X x := by rfl) (hd : (x == ("__debug__" : Str)) = false := by decide) : PE X (.Name x pos) (tE X.K T (wC (.int i))) := by
  obtain ⟨t, hm⟩ := h
  exact d_c (pe_glob (v := .int i) hg hm ⟨t, rfl⟩ hd) fun _ _ => .int i
theorem d_gs {x z : Str} (h : ∃ t, X.mg x = some (.str z t)) (hg : Gl X x := by rfl) (hd : (x == ("__debug__" : Str)) = false := by decide) : PE X (.Name x pos) (tE X.K T (wC (.str z))) := by
  obtain ⟨t, hm⟩ := h
  exact d_c (pe_glob (v := .str z) hg hm ⟨t, rfl⟩ hd) fun _ _ => .str z
theorem rm66 {k : Nat} {A : Around} (r : Room k A) : A.units + 66 < cLine := by have := r.un; omega
theorem rm62 {k : Nat} {A : Around} (r : Room k A) : A.units + 62 < cLine := by have := r.un; omega
theorem rm64 {k : Nat} {A : Around} (r : Room k A) : A.units + 64 < cLine := by have := r.un; omega
end
end DL
set_option maxRecDepth 100000
set_option maxHeartbeats 1000000
/-! t[::-1] of a tuple -/
namespace DLt
open PySem PySem.Spec PyProof.Rows HT
section
variable {prog : Program} {w : World} {A : Around} {E : Value → Shared → Prop} {s : Shared}
theorem back_adjust (n : Nat) : Builtin.Slice.sliceAdjust none none (-1) (n : Int) = ((n : Int) - 1, -1) := by
  unfold Builtin.Slice.sliceAdjust
  simp
theorem back_places (n : Nat) : Builtin.Slice.slicePlaces ((n : Int) - 1) (-1) (-1) = n := by
  unfold Builtin.Slice.slicePlaces
  have h1 : ¬ ((-1 : Int) > 0) := by decide
  rw [if_neg h1]
  by_cases h : (n : Int) - 1 > -1
  · rw [if_pos h, show (-(-1) : Int) = 1 from by decide, Int.ediv_one]; omega
  · rw [if_neg h]; omega
theorem back_pick (xs : Array Value) : ((List.range xs.size).filterMap fun (k : Nat) => xs[(((xs.size : Nat) : Int) - 1 + (k : Int) * (-1)).toNat]?).toArray = xs.toList.reverse.toArray := by
  have e : (fun (k : Nat) => xs[(((xs.size : Nat) : Int) - 1 + (k : Int) * (-1)).toNat]?) = fun k => (xs[·]?) (xs.size - 1 - k) := by
    funext k
    have : (((xs.size : Nat) : Int) - 1 + (k : Int) * (-1)).toNat = xs.size - 1 - k := by omega
    rw [this]
  rw [e]
  have e2 : (List.range xs.size).filterMap (fun k => (xs[·]?) (xs.size - 1 - k)) = ((List.range xs.size).map fun k => xs.size - 1 - k).filterMap (xs[·]?) := by
    rw [List.filterMap_map]; rfl
  rw [e2, PySem.W.krv_range, List.filterMap_reverse, PySem.W.krv_all]
theorem back_applied {sl : Addr} {vl vu vs : Value} {n : Nat} {Q : Int × Int × Nat → Shared → Prop} (hs : s.heap.IsSliceOf sl vl vu vs) (pl : IsPart vl none) (pu : IsPart vu none) (ps : IsPart vs (some (-1)))
    (h : Q ((n : Int) - 1, -1, n) s) : wpAny (model prog w) A (Builtin.Slice.sliceApplied (.ref sl) (pure (n : Int))) Q E s := by
  obtain ⟨os, hos, hcs, hds⟩ := id hs
  unfold Builtin.Slice.sliceApplied Builtin.Slice.sliceFields
  refine wpAny_bind (wpAny_bind (wpAny_field hos hds (x := vl) rfl (wpAny_bind (wpAny_field hos hds (x := vu) rfl (wpAny_bind (wpAny_field hos hds (x := vs) rfl (wpAny_pure ?_)))))))
  refine wpAny_bind (slicePart_ ps ?_)
  show wpAny _ _ (if ((-1 : Int) == 0) = true then _ else _) _ _ s
  rw [if_neg (by decide)]
  refine wpAny_bind (slicePart_ pl (wpAny_bind (slicePart_ pu (wpAny_bind (wpAny_pure ?_)))))
  show wpAny _ _ (match Builtin.Slice.sliceAdjust none none (-1) (n : Int) with | (lo, hi) => pure (lo, (-1 : Int), Builtin.Slice.slicePlaces lo hi (-1))) _ _ s
  rw [back_adjust n]
  show wpAny _ _ (pure ((n : Int) - 1, (-1 : Int), Builtin.Slice.slicePlaces ((n : Int) - 1) (-1) (-1))) _ _ s
  rw [back_places]
  exact wpAny_pure h
theorem back_item {t sl : Addr} {items : Array Value} {vl vu vs : Value} {Q : Value → Shared → Prop} (ht : IsTup s.heap t items) (hs : s.heap.IsSliceOf sl vl vu vs) (pl : IsPart vl none) (pu : IsPart vu none) (ps : IsPart vs (some (-1)))
    (h : Q (.ref s.heap.objs.size) { s with heap := s.heap.push { cls := .type "tuple", data := .seq items.toList.reverse.toArray } }) (hsz : items.size ≤ sizeLine) : wpAny (model prog w) A (getItem (.ref t) (.ref sl)) Q E s := by
  have room : sizeOk (.seq items.toList.reverse.toArray) := by
    show items.toList.reverse.toArray.size ≤ sizeLine
    rw [List.size_toArray, List.length_reverse, Array.length_toList]; exact hsz
  obtain ⟨os, hos, hcs, hds⟩ := id hs
  have isSl : s.TypeIs (.ref sl) "slice" := ⟨os, hos, hcs⟩
  unfold getItem
  try with_reducible refine wpAny_holding ?_
  first | refine wpAny_bind (wpAny_pure ?_) | skip
  refine wpAny_bind (wpAny_sequenceKey ht.typeIs (by decide) ?_)
  refine wpAny_bind (wpAny_callSpecial?_slot (name := Str.ofString "__getitem__") ht.typeIs PyProof.Rows.slot_tuple_getitem (wpAny_call_entry PyProof.Rows.slot_tuple_getitem ht.typeIs entry_tuple_getitem ?_ (args_tuple_getitem _ _)))
  show wpAny _ _ (Builtin.Tuple.tupleItemsOf (.ref t) >>= _) _ _ s
  refine wpAny_bind (tupleItemsOf_ ht (wpAny_bind (wpAny_typeOf isSl ?_)))
  rw [if_pos (by decide)]
  refine wpAny_bind (back_applied hs pl pu ps ?_)
  have no : ¬ ((((items.size : Nat) : Int) - 1 == 0 && (-1 : Int) == 1 && items.size == items.size) = true) := fun q => by
    rw [Bool.and_eq_true, Bool.and_eq_true] at q
    exact absurd (eq_of_beq q.1.2) (by decide)
  show wpAny _ _ (if (((items.size : Nat) : Int) - 1 == 0 && (-1 : Int) == 1 && items.size == items.size) = true then _ else _) _ _ s
  rw [if_neg no, back_pick]
  first
  | exact wpAny_bind (m := Builtin.Tuple.tupleExact _) (wpAny_newObj_type (wpAny_pure ⟨_, rfl, wpAny_pure h⟩) room)
  | exact wpAny_bind (m := Builtin.Tuple.tupleExact _) (wpAny_newObj_type (wpAny_bind (wpAny_pure (wpAny_pure ⟨_, rfl, wpAny_pure h⟩))) room)
  | exact wpAny_bind (wpAny_bind (m := Builtin.Tuple.tupleExact _) (wpAny_newObj_type (wpAny_pure (wpAny_pure ⟨_, rfl, wpAny_pure h⟩)) room))
  | exact wpAny_bind (wpAny_bind (m := Builtin.Tuple.tupleExact _) (wpAny_newObj_type (wpAny_pure ⟨_, rfl, wpAny_pure h⟩) room))
end
end DLt
namespace DL
open PySem PySem.Spec L2 LamX
open PyProof.Rows
section
variable {K : PySem.W.Frag} {T : Tb} {X : Cx} {a e : Expr}
def tRevT (K : PySem.W.Frag) (te : TE) : TE := fun σ H Q => te σ H fun x H1 => ∃ a xs, x = .ref a ∧ SqT K H1 a xs ∧ NewT H1 xs.reverse Q
theorem pe_revT {te : TE} {k : Nat} {p1 p2 p3 pos : Pos} (he : PE X e te) : PE X (.Subscript e (.Slice none none (some (.UnaryOp .USub (.Constant (.int 1) k p1) p2)) p3) pos) (tRevT X.K te) := by
  refine ⟨fun pins s σ H Q J h => ?_⟩
  refine Subscript_ (thn (he.run pins s σ H _ J h) fun v s1 ⟨x, H1, J1, r1, a, xs, ex, hx, q⟩ => ?_)
  subst ex
  cases r1
  have stepO : PO X (some (.UnaryOp .USub (.Constant (.int 1) k p1) p2)) (tPart (tUn (rU fun i => .int (-i)) (tC (.int 1)))) := po_some (pe_un un_neg pe_int)
  refine wpAny_Slice (thn (po_none.run pins s1 σ H1 (fun o G => o = none ∧ G = H1) J1 ⟨rfl, rfl⟩) fun vl s2 ⟨l, H2, J2, pl, el, e2⟩ => ?_)
  subst el e2
  refine thn (po_none.run pins s2 σ H2 (fun o G => o = none ∧ G = H2) J2 ⟨rfl, rfl⟩) fun vu s3 ⟨u, H3, J3, pu, eu, e3⟩ => ?_
  subst eu e3
  refine thn (stepO.run pins s3 σ H3 (fun o G => o = some (-1) ∧ G = H3) J3 ⟨1, rfl, -1, rfl, rfl, rfl⟩) fun vs s4 ⟨o, H4, J4, ps, eo, e4⟩ => ?_
  subst eo e4
  have J5 : Inv X pins σ H4 { s4 with heap := s4.heap.push { cls := .type "slice", data := .fields #[vl, vu, vs] } } := J4.kept (t' := s4.toks) fun b ob q => Heap.get?_push_of_some _ q
  obtain ⟨its, r, ht, hz⟩ := J5.tuple hx
  have hlen := r.length
  show wpAny (model X.prog X.w) X.A (subscriptTail e (.Slice none none (some (.UnaryOp .USub (.Constant (.int 1) k p1) p2)) p3) (.ref a) (.ref s4.heap.objs.size)) (EP X pins σ Q) X.xe { s4 with heap := s4.heap.push { cls := .type "slice", data := .fields #[vl, vu, vs] } }
  refine tail_any (ops := [.ref a, .ref s4.heap.objs.size]) ht.typeIs (PyProof.Rows.slot_tuple_getitem.lookup) ?_ (by with_unfolding_all rfl)
  refine DLt.back_item ht (Heap.IsSliceOf.new _ vl vu vs) pl pu ps ?_ (by rw [List.size_toArray]; omega)
  exact ⟨.ref _, _, laidT (its := its.reverse) (t' := s4.toks) J5 (fun b ob q => Heap.get?_push_of_some _ q) (Nat.le_refl _) (by rw [← List.reverse_toArray]; exact Heap.get?_push_size _ rfl) r.reverse (by rw [List.length_reverse]; exact hz), rfl, q _ _ (J5.hok.fresh (Nat.le_refl _)) rfl⟩
def wRevT (wa : WE) : WE := fun ρ Q => wa ρ fun r ρ1 => lookK ρ1 r fun d => match d with
  | .tuple ds => Q (.val (.tuple ds.reverse)) ρ1
  | _ => False
theorem d_revT {wa : WE} {k : Nat} {p1 p2 p3 pos : Pos} (ha : PE X a (tE X.K T wa)) : PE X (.Subscript a (.Slice none none (some (.UnaryOp .USub (.Constant (.int 1) k p1) p2)) p3) pos) (tE X.K T (wRevT wa)) := (pe_revT ha).imp fun σ H Q h => by
  obtain ⟨E0, B, ρ, Qd, er, tb, hw, k⟩ := h
  refine ⟨E0, B, ρ, _, er, tb, hw, fun v H1 r ρ1 q A => ?_⟩
  obtain ⟨d, hd, q⟩ := lookK_some q
  cases d with
  | tuple ds =>
    obtain ⟨a, xs, ex, h1, h2⟩ := (A.look (j := 0) rfl rfl hd).tup
    exact ⟨a, xs, ex, h1, fun p o hp dn => k _ _ _ ρ1 q (A.op (dv := .val (.tuple ds.reverse)) (Same.upd hp) (Fre.upd _ _ _) (opaft_tup A.obx hp dn (RpL.reverse h2)))⟩
  | _ => exact (show False from q).elim
end
end DL
set_option maxRecDepth 100000
set_option maxHeartbeats 1000000
namespace DL
open PySem PySem.Spec L2 LamX
section
variable {T : Tb} {X : Cx} {e : Expr}
theorem d_app {x : Nat} {xn : Str} {we : WE} {px apos cpos : Pos} (he : PE X e (tE X.K T we)) (hN : X.N[x]? = some xn := by rfl) (hv : Vis X.env.scope xn := by first | exact Or.inl rfl | exact Or.inr (Or.inl rfl) | exact Or.inr (Or.inr rfl))
    (hd : (xn == ("__debug__" : Str)) = false := by decide) (hcd : (xn == ("__classdict__" : Str)) = false := by decide)
    (hbase : attributeBase (.Name xn px) "append" X.env (eval (.Name xn px) X.env) = eval (.Name xn px) X.env := by rfl) (hfew : ((backTo cpos (starEach [e] X.env)).all (fun x => !x.1) && (backToKw cpos (keywordEach [] X.env)).all (fun x => x.1.isSome) && decide ([e].length + ([] : List Keyword).length + (if ([] : List Keyword).isEmpty then 0 else 1) < 30)) = true := by rfl)
    (hline : (apos.endLine == cpos.line) = true := by rfl) (hs : starEach [e] X.env = (false, eval e X.env) :: starEach [] X.env := by rfl) (hpl : (backTo cpos (starEach [] X.env)).any (·.1) = false := by rfl) :
    PE X (.Call (.Attribute (.Name xn px) "append" apos) [e] [] cpos) (tE X.K T (wApp x we)) :=
  d_append he hN hv hd hcd (pe_bm PySem.F.plainAttrs_list PySem.F.slot_list_append PySem.F.type_list_append mt_append (pe_var hN hv hd hcd) (pa_cons he pa_nil hs) hbase hfew hline hs hpl)
theorem d_pop1 {x : Nat} {xn : Str} {we : WE} {px apos cpos : Pos} (he : PE X e (tE X.K T we)) (hN : X.N[x]? = some xn := by rfl) (hv : Vis X.env.scope xn := by first | exact Or.inl rfl | exact Or.inr (Or.inl rfl) | exact Or.inr (Or.inr rfl))
    (hd : (xn == ("__debug__" : Str)) = false := by decide) (hcd : (xn == ("__classdict__" : Str)) = false := by decide)
    (hbase : attributeBase (.Name xn px) "pop" X.env (eval (.Name xn px) X.env) = eval (.Name xn px) X.env := by rfl) (hfew : ((backTo cpos (starEach [e] X.env)).all (fun x => !x.1) && (backToKw cpos (keywordEach [] X.env)).all (fun x => x.1.isSome) && decide ([e].length + ([] : List Keyword).length + (if ([] : List Keyword).isEmpty then 0 else 1) < 30)) = true := by rfl)
    (hline : (apos.endLine == cpos.line) = true := by rfl) (hs : starEach [e] X.env = (false, eval e X.env) :: starEach [] X.env := by rfl) (hpl : (backTo cpos (starEach [] X.env)).any (·.1) = false := by rfl) :
    PE X (.Call (.Attribute (.Name xn px) "pop" apos) [e] [] cpos) (tE X.K T (wPopAt x we)) :=
  d_popAt he hN hv hd hcd (pe_bm PySem.F.plainAttrs_list PySem.F.slot_list_pop PySem.F.type_list_pop mt_popAt (pe_var hN hv hd hcd) (pa_cons he pa_nil hs) hbase hfew hline hs hpl)
end
end DL
set_option maxRecDepth 100000
set_option maxHeartbeats 1000000
namespace DL
open PySem PySem.Spec L2 LamX
abbrev gSubI := gI0 fun i j => .int (i - j)
abbrev gMulI := gI MulC fun i j => .int (i * j)
abbrev gDivI := gI CDiv fun i j => .int (i / j)
abbrev gModI := gI (fun _ j => 0 < j) fun i j => .int (i % j)
abbrev gPowI := gI CPow fun i j => .int (i ^ j.toNat)
section
variable {P : Program} {w : World} {K : PySem.W.Frag} {mg : Str → Option Value} {base : Heap} {T : Tb}
/-- .. a def that makes a lambda: its code is told, too -/
theorem has_lam {y x : Str} {st : Stmt} {Nn ps : List Str} {k : Nat} {g : DSp} {wb : WS} (Df : Def K mg y x st) (S : FnScope Nn ps (defScope st)) (hl : ps.length ≤ Nn.length)
    (hb : ∀ (f : Addr) (fd : FuncData), mg y = some (.ref f) → Fun K x x st f fd → ∀ (A : Around) (outer : List Env) (s : Shared) (H : Hp) (E : XK), Room k (A.deeper (PyProof.Rows.envOfC x (defScope st) s.heap.objs.size f fd.code)) → A.guards = some [] → PSs (cxOf CX0 P w K mg base Nn x (defScope st) f fd.code A outer s H E).nox (defBody st) (tS K T wb))
    (hg : ∀ as Qd, g as Qd → as.length = ps.length ∧ wb (startD Nn.length as) { nx := fun ρ => Qd (.val .none) (outs as ρ), rt := fun r ρ => rvK r fun dv => Qd dv (outs as ρ) }) : Has P w K mg base T (k + 1) y x st ps g := by
  obtain ⟨f, fd, hm, F⟩ := Df.ex
  refine ⟨f, fd, hm, F, ?_⟩
  have hlen : ∀ vs H Q E, spOf K T g vs H Q E → vs.length = ps.length := fun vs H Q E h => by
    obtain ⟨B, as, Qd, ar, _, hq, _⟩ := h
    rw [← ar.len]; exact (hg as Qd hq).1
  refine ⟨hlen, fun A outer s H args us vs Q E hr hG e0 hbd rv h => ?_⟩
  have hb' := hb f fd hm F
  obtain ⟨oc, od, kV, doc, pm, an, cdv, ct, osl, e, lk, hcd⟩ := F.ex
  subst e
  refine run_ofS lk hcd S hr e0 hbd rv (hlen _ _ _ _ h) fun hr' => ?_
  obtain ⟨B, as, Qd, ar, tb, hq, kk⟩ := h
  obtain ⟨hn, hw⟩ := hg as Qd hq
  refine ⟨_, (hb' A outer s H E hr' hG).nox, ?_⟩
  have er := er_start (Nn := Nn) ar (by rw [hn]; exact hl)
  refine ⟨_, B, _, _, er, tb, hw, fun σ' H' ρ' q Sa => ?_, fun v H' r ρ' q R => ?_, fun _ _ _ q _ => q.elim, fun _ _ _ q _ => q.elim⟩
  · obtain ⟨r', ρ2, ⟨e1, e2⟩, R⟩ := RetA.of Sa.er (After.ofVal (v := .non) (d := .none) Sa.er Sa.tab (Same.refl H') (Fre.refl H') .non) (show retK ρ' (.val .none) (fun r ρ => r = .val .none ∧ ρ = ρ') from ⟨rfl, rfl⟩)
    subst e1; subst e2
    exact kk .non H' (.val .none) _ q (aftF_of ar (Sa.ret R))
  · cases r with
    | val d => exact kk v H' (.val d) _ q (aftF_of (dv := .val d) ar R)
    | new b => exact kk v H' (.new b) _ q (aftF_of (dv := .new b) ar R)
    | var i => exact (show False from q).elim
end
end DL
set_option maxRecDepth 100000
set_option maxHeartbeats 1000000
namespace DL
open PySem PySem.Spec L2 LamX
section
variable {ρ : DEnv} {r : RV} {rs : List RV} {as : List Arg} {d : D} {b c : Box} {i : Nat} {s : Sl}
theorem backE_sh : backE (r :: rs) (.sh d :: as) ρ = backE rs as ρ := by cases r <;> rfl
theorem backE_ln : backE (.var i :: rs) (.ln b :: as) ρ = backE rs as (setBx ρ i b) := rfl
theorem backE_nw : backE (.new c :: rs) (.ln b :: as) ρ = backE rs as ρ := rfl
theorem backE_nil : backE [] [] ρ = ρ := rfl
theorem lvars_sh : lvars (r :: rs) (.sh d :: as) = lvars rs as := by cases r <;> rfl
theorem lvars_ln : lvars (.var i :: rs) (.ln b :: as) = i :: lvars rs as := rfl
theorem lvars_nw : lvars (.new c :: rs) (.ln b :: as) = lvars rs as := rfl
theorem lvars_nil : lvars [] [] = [] := rfl
theorem outs_sh : outs (.sh d :: as) (s :: ρ) = .sh d :: outs as ρ := rfl
theorem outs_ln : outs (.ln b :: as) (.lent c :: ρ) = .ln c :: outs as ρ := rfl
theorem outs_nil : outs [] ρ = [] := by cases ρ <;> rfl
theorem nodup_one : [i].Nodup := by simp
theorem setBx_own0 {l : DEnv} {b' : Box} : setBx (.own b' :: l) 0 b = .own b :: l := rfl
theorem setBx_lent0 {l : DEnv} {b' : Box} : setBx (.lent b' :: l) 0 b = .lent b :: l := rfl
theorem setBx_succ {l : DEnv} : setBx (s :: l) (i + 1) b = s :: setBx l i b := by
  unfold setBx
  rw [List.getElem?_cons_succ]
  cases e : l[i]? with
  | none => rfl
  | some z => cases z <;> rfl
/-- what a def over data comes to -/
abbrev SpD (rd : WS) (n m : Nat) (g : DSp) : Prop := ∀ as Qd, g as Qd → as.length = m ∧ rd (startD n as) { nx := fun ρ => Qd (.val .none) (outs as ρ), rt := fun r ρ => rvK r fun dv => Qd dv (outs as ρ) }
/-- a loop's body again and again: P over the rest -/
theorem forL_nil {g : WG} {wb : WS} {P : DP} : forL g wb [] ρ P = P.nx ρ := rfl
theorem forL_cons {g : WG} {wb : WS} {P : DP} {ds : List D} : forL g wb (d :: ds) ρ P = g d ρ fun ρ1 => wb ρ1 { nx := fun ρ2 => forL g wb ds ρ2 P, rt := P.rt, bk := P.nx, ct := fun ρ2 => forL g wb ds ρ2 P } := rfl
theorem lcL_nil {vs : List Nat} {g : WG} {tt : WT} {te : WE} {acc : List D} {k : List D → DEnv → Prop} : lcL vs g tt te [] acc ρ k = k acc ρ := rfl
theorem lcL_cons {vs : List Nat} {g : WG} {tt : WT} {te : WE} {acc ds : List D} {k : List D → DEnv → Prop} : lcL vs g tt te (d :: ds) acc ρ k = clK ρ vs fun ρ => g d ρ fun ρ1 => tt ρ1 fun b ρ2 => match b with
    | true => te ρ2 fun r ρ3 => fzK ρ3 r fun y ρ4 => acc.length < 16777216 ∧ clK ρ4 vs fun ρ5 => lcL vs g tt te ds (acc ++ [y]) ρ5 k
    | false => clK ρ2 vs fun ρ5 => lcL vs g tt te ds acc ρ5 k := rfl
theorem clr1_sh {l : DEnv} : clr (.sh d :: l) [0] = some (.emp :: l) := rfl
/-- a comprehension whose every turn leaves the environment as it was -/
theorem lcL_map {vs : List Nat} {g : WG} {tt : WT} {te : WE} {f : D → D} {k : List D → DEnv → Prop} (ok : D → Prop)
    (hs : ∀ (d : D) (ds acc : List D), ok d → acc.length < 16777216 → lcL vs g tt te ds (acc ++ [f d]) ρ k → lcL vs g tt te (d :: ds) acc ρ k) :
    ∀ (ds acc : List D), (∀ d ∈ ds, ok d) → acc.length + ds.length ≤ 16777216 → k (acc ++ ds.map f) ρ → lcL vs g tt te ds acc ρ k
  | [], acc, _, _, hk => by simpa [lcL] using hk
  | d :: ds, acc, ho, hl, hk => hs d ds acc (ho d List.mem_cons_self) (by simp at hl; omega) (lcL_map ok hs ds (acc ++ [f d]) (fun x hx => ho x (List.mem_cons_of_mem _ hx)) (by simp at hl ⊢; omega) (by simpa using hk))
end
end DL
set_option maxRecDepth 100000
set_option maxHeartbeats 1000000
namespace DL
open PySem PySem.Spec L2 LamX
/-! ### data that is small enough to be compared and shown -/
structure Neat (p q : Nat) (d : D) : Prop where
  can : d.canLay0 = true
  dep : d.depth ≤ p
  wt : d.weight ≤ q
  sh : d.showable = true
  short : d.intsShort 13 = true
structure Neats (p q n : Nat) (ds : List D) : Prop where
  can : PyData.canLayAll0 ds = true
  dep : PyData.depthAll ds ≤ p
  wt : PyData.weightAll ds ≤ n * (q + 1)
  sh : PyData.showableAll ds = true
  short : PyData.intsShortAll 13 ds = true
theorem Neat.mono {p q p' q' : Nat} {d : D} (h : Neat p q d) (hp : p ≤ p') (hq : q ≤ q') : Neat p' q' d := ⟨h.can, Nat.le_trans h.dep hp, Nat.le_trans h.wt hq, h.sh, h.short⟩
theorem neats_of {p q : Nat} : ∀ {ds : List D}, (∀ d ∈ ds, Neat p q d) → Neats p q ds.length ds
  | [], _ => ⟨rfl, by simp [PyData.depthAll], by simp [PyData.weightAll], rfl, rfl⟩
  | d :: ds, h => by
    have h1 := h d List.mem_cons_self
    have h2 := neats_of (ds := ds) fun x hx => h x (List.mem_cons_of_mem _ hx)
    have w1 := h1.wt
    have w2 := h2.wt
    have d1 := h1.dep
    have d2 := h2.dep
    refine ⟨by rw [PyData.canLayAll0, h1.can, h2.can]; rfl, by rw [PyData.depthAll]; omega, ?_, by rw [PyData.showableAll, h1.sh, h2.sh]; rfl, by rw [PyData.intsShortAll, h1.short, h2.short]; rfl⟩
    rw [PyData.weightAll, List.length_cons, Nat.add_mul]
    omega
theorem neat_tup {p q n : Nat} {ds : List D} (h : ∀ d ∈ ds, Neat p q d) (hn : ds.length ≤ n) : Neat (p + 1) (n * (q + 1)) (.tuple ds) := by
  have a := neats_of h
  have w := a.wt
  have d1 := a.dep
  exact ⟨by rw [PyData.canLay0]; exact a.can, by rw [PyData.depth]; omega, by rw [PyData.weight]; exact Nat.le_trans w (Nat.mul_le_mul_right _ hn), by rw [PyData.showable]; exact a.sh, by rw [PyData.intsShort]; exact a.short⟩
theorem neat_lst {p q n : Nat} {ds : List D} (h : ∀ d ∈ ds, Neat p q d) (hn : ds.length ≤ n) : Neat (p + 1) (n * (q + 1)) (.list ds) := by
  have a := neats_of h
  have w := a.wt
  have d1 := a.dep
  exact ⟨by rw [PyData.canLay0]; exact a.can, by rw [PyData.depth]; omega, by rw [PyData.weight]; exact Nat.le_trans w (Nat.mul_le_mul_right _ hn), by rw [PyData.showable]; exact a.sh, by rw [PyData.intsShort]; exact a.short⟩
theorem neat_int {i : Int} (h : i.natAbs < 10 ^ 12) : Neat 0 40 (.int i) := by
  have hl : i.natAbs.log2 < 40 := by
    by_cases h0 : i.natAbs = 0
    · rw [h0]; decide
    · exact (Nat.log2_lt h0).mpr (Nat.lt_of_lt_of_le h (by decide))
  refine ⟨rfl, Nat.le_refl _, ?_, ?_, ?_⟩
  · rw [PyData.weight]; split <;> omega
  · rw [PyData.showable]; exact decide_eq_true (by omega)
  · rw [PyData.intsShort]; exact decide_eq_true (PyData.shown_int_le h)
theorem neat_bool {b : Bool} : Neat 0 0 (.bool b) := ⟨rfl, Nat.le_refl _, Nat.le_refl _, rfl, rfl⟩
theorem neat_none : Neat 0 0 .none := ⟨rfl, Nat.le_refl _, Nat.le_refl _, rfl, rfl⟩
theorem Neat.shaped {p q : Nat} {d : D} (h : Neat p q d) (hp : p ≤ 64 := by decide) : SeqAt.shaped d = true := by
  have := h.dep
  exact Bool.and_eq_true_iff.mpr ⟨h.can, decide_eq_true (by omega)⟩
theorem Neat.shown {p q : Nat} {d : D} (h : Neat p q d) (hp : p ≤ 60 := by decide) (hq : q ≤ 1048576 := by decide) : d.canLay0 = true ∧ d.showable = true ∧ d.depth ≤ 60 ∧ d.shown.length ≤ 16777216 := by
  have h1 := h.dep
  have h2 := h.wt
  refine ⟨h.can, h.sh, by omega, ?_⟩
  have lay : PyData.layable0 d = true := by
    unfold PyData.layable0
    rw [h.can, decide_eq_true (show d.depth ≤ 64 by omega), decide_eq_true (show d.weight ≤ 2 ^ 20 by omega)]; rfl
  have := PyData.shown_le_of_layable0 lay h.short
  omega
theorem Neat.refl {p q : Nat} {d : D} (h : Neat p q d) : PyData.eqv d d = true := PySem.SeqAt.eqv_refl d h.can
/-! ### parts -/
theorem isi_int {i : Int} : isiD "int" (.int i) = some true := by
  unfold isiD isRaw
  rfl
theorem isi_intB {i : Int} : isiD "bool" (.int i) = some false := by
  unfold isiD isRaw
  rfl
theorem isi_tup {ds : List D} : isiD "tuple" (.tuple ds) = some true := by
  unfold isiD isRaw
  rfl
theorem isi_lst {ds : List D} : isiD "list" (.list ds) = some true := by
  unfold isiD isRaw
  rfl
theorem sIx_nat' (n d k : Nat) : HT.sIx n d (some (k : Int)) = min k n := HT.sIx_nat n d k
theorem cut_to {ds : List D} {k : Nat} : cutD ds none (some (k : Int)) = ds.take k := by
  unfold cutD
  rw [HT.sIx_nat]
  show (ds.drop 0).take (min k ds.length - 0) = _
  rw [List.drop_zero, Nat.sub_zero]
  by_cases h : k ≤ ds.length
  · rw [Nat.min_eq_left h]
  · rw [Nat.min_eq_right (by omega), List.take_of_length_le (Nat.le_refl _), List.take_of_length_le (by omega)]
theorem cut_from {ds : List D} {k : Nat} : cutD ds (some (k : Int)) none = ds.drop k := by
  unfold cutD
  rw [HT.sIx_nat]
  show (ds.drop (min k ds.length)).take (ds.length - min k ds.length) = _
  by_cases h : k ≤ ds.length
  · rw [Nat.min_eq_left h]
    exact List.take_of_length_le (by rw [List.length_drop]; exact Nat.le_refl _)
  · rw [Nat.min_eq_right (by omega), List.drop_eq_nil_of_le (Nat.le_refl _), List.drop_eq_nil_of_le (by omega)]
    simp
theorem atI_at {α : Type} {xs : List α} {i : Int} {v : α} (h0 : 0 ≤ i) (h : xs[i.toNat]? = some v) : atI xs i = some v := by
  have := atI_nat h
  rwa [Int.toNat_of_nonneg h0] at this
theorem ixN_at {n : Nat} {i : Int} (h0 : 0 ≤ i) (h : i < n) : ixN n i = some i.toNat := by
  unfold ixN
  rw [if_pos h0, if_pos h]
theorem seqI_at {n : Nat} {i : Int} (h0 : 0 ≤ i) (h : i < n) : seqIndex? i n = some i.toNat := by
  unfold seqIndex?
  have n0 : ¬ i < 0 := by omega
  simp only [if_neg n0]
  rw [if_pos (by simp [h0, h])]
theorem ints_get {xs : List Int} {i : Nat} (h : i < xs.length) : (xs.map PyData.int)[i]? = some (.int (xs.getD i 0)) := by
  rw [List.getElem?_map, List.getElem?_eq_getElem h, List.getD_eq_getElem?_getD, List.getElem?_eq_getElem h] <;> rfl
end DL
namespace DL
open PySem
theorem sok_bool {b : Bool} : strOkD (.bool b) = True := rfl
theorem sok_int {b : Int} : strOkD (.int b) = True := rfl
theorem sok_none : strOkD .none = True := rfl
theorem sok_list {b : List D} : strOkD (.list b) = True := rfl
theorem sok_tuple {b : List D} : strOkD (.tuple b) = True := rfl
end DL
namespace DL
open PySem
theorem putK_sh {ρ : DEnv} {i : Nat} {s : Sl} {d : D} {Q : DEnv → Prop} (h : ρ[i]? = some s) (nl : ∀ x, s ≠ .lent x) (q : Q (ρ.set i (.sh d))) : putK ρ i (.val d) Q := by
  unfold putK
  rw [h]
  cases s with
  | lent b => exact (nl b rfl).elim
  | _ => exact q
theorem nl_emp : ∀ x, Sl.emp ≠ .lent x := fun _ z => nomatch z
theorem nl_sh {d : D} : ∀ x, Sl.sh d ≠ .lent x := fun _ z => nomatch z
theorem nl_own {d : Box} : ∀ x, Sl.own d ≠ .lent x := fun _ z => nomatch z
theorem boolsK_true : ∀ {xs : List D} {k : List Bool → Prop}, (∀ x ∈ xs, x = .bool true) → (∀ bs : List Bool, bs.all id = true → k bs) → boolsK xs k
  | [], k, _, h => h [] rfl
  | x :: xs, k, hx, h => by
    obtain rfl := hx x List.mem_cons_self
    exact boolsK_true (xs := xs) (k := fun bs => k (true :: bs)) (fun y hy => hx y (List.mem_cons_of_mem _ hy)) fun bs hb => h _ (by simpa using hb)
end DL
namespace DL
open PySem
theorem intsK_map : ∀ {xs : List Int} {k : List Int → Prop}, k xs → intsK (xs.map .int) k
  | [], k, h => h
  | x :: xs, k, h => intsK_map (xs := xs) (k := fun bs => k (x :: bs)) h
theorem cut_ints (ns : List Int) (lo hi : Option Int) : ∃ ys : List Int, cutD (ns.map PyData.int) lo hi = ys.map PyData.int ∧ ∀ y ∈ ys, y ∈ ns := by
  unfold cutD
  rw [List.length_map, ← List.map_drop, ← List.map_take]
  exact ⟨_, rfl, fun y hy => List.mem_of_mem_drop (List.mem_of_mem_take hy)⟩
theorem mul_l {i j : Int} (h1 : -18446744073709551616 < i := by omega) (h2 : i < 18446744073709551616 := by omega) : MulC i j := .inl (.inl ⟨h1, h2⟩)
theorem mul_r {i j : Int} (h1 : -18446744073709551616 < j := by omega) (h2 : j < 18446744073709551616 := by omega) : MulC i j := .inl (.inr ⟨h1, h2⟩)
theorem mod_rng {i m : Int} (h : 0 < m) : 0 ≤ i % m ∧ i % m < m := ⟨Int.emod_nonneg i (by omega), Int.emod_lt_of_pos i h⟩
def IsPool (b : Box) : Prop := ∃ c m t : Int, b = .lst [.int c, .int m, .int t]
end DL
namespace DL
open PySem L2
theorem atI_0 {α : Type} {a : α} {l : List α} : atI (a :: l) 0 = some a := atI_nat (j := 0) rfl
theorem atI_1 {α : Type} {a b : α} {l : List α} : atI (a :: b :: l) 1 = some b := atI_nat (j := 1) rfl
theorem atI_2 {α : Type} {a b c : α} {l : List α} : atI (a :: b :: c :: l) 2 = some c := atI_nat (j := 2) rfl
theorem ixN_30 : ixN 3 0 = some 0 := rfl
theorem ixN_31 : ixN 3 1 = some 1 := rfl
theorem ixN_32 : ixN 3 2 = some 2 := rfl
end DL
namespace DL
open PySem
/-- whole numbers from lo on -/
def upI (lo : Int) (n : Nat) : List Int := (List.range n).map fun i => lo + (i : Nat)
theorem rng_up (lo : Int) (n : Nat) : rngD lo n = (upI lo n).map PyData.int := by
  unfold rngD upI
  rw [List.map_map]; rfl
theorem upI_mem {lo x : Int} {n : Nat} (h : x ∈ upI lo n) : lo ≤ x ∧ x < lo + n := by
  unfold upI at h
  obtain ⟨i, hi, e⟩ := List.mem_map.mp h
  have := List.mem_range.mp hi
  omega
theorem upI_has {lo x : Int} {n : Nat} (h1 : lo ≤ x) (h2 : x < lo + n) : x ∈ upI lo n := List.mem_map.mpr ⟨(x - lo).toNat, List.mem_range.mpr (by omega), by omega⟩
theorem upI_len (lo : Int) (n : Nat) : (upI lo n).length = n := by simp [upI]
theorem bd_small {i : Int} (h1 : -1000000 ≤ i := by omega) (h2 : i ≤ 1000000 := by omega) : Bd i := ⟨by omega, by omega⟩
end DL
namespace DL
theorem erase_map {α β : Type} (f : α → β) : ∀ (l : List α) (i : Nat), (l.map f).eraseIdx i = (l.eraseIdx i).map f
  | [], _ => rfl
  | _ :: _, 0 => rfl
  | a :: l, i + 1 => by show f a :: (l.map f).eraseIdx i = f a :: (l.eraseIdx i).map f; rw [erase_map f l i]
end DL
namespace DL
theorem wYes_ap {ρ : DEnv} {Q : Bool → DEnv → Prop} : wYes ρ Q = Q true ρ := rfl
end DL
namespace DL
theorem fzsK_vals {ρ : DEnv} {rs : List RV} : ∀ {ds : List D} {k : List D → DEnv → Prop}, fzsK ρ (ds.map RV.val ++ rs) k = fzsK ρ rs fun es ρ' => k (ds ++ es) ρ'
  | [], k => rfl
  | d :: ds, k => by
    show fzK ρ (.val d) (fun d ρ1 => fzsK ρ1 (ds.map RV.val ++ rs) fun es ρ2 => k (d :: es) ρ2) = _
    show fzsK ρ (ds.map RV.val ++ rs) (fun es ρ2 => k (d :: es) ρ2) = _
    rw [fzsK_vals]; rfl
end DL
namespace DL
theorem putK_own {ρ : DEnv} {i : Nat} {s : Sl} {b : Box} {Q : DEnv → Prop} (h : ρ[i]? = some s) (nl : ∀ x, s ≠ .lent x) (q : Q (ρ.set i (.own b))) : putK ρ i (.new b) Q := by
  unfold putK
  rw [h]
  cases s with
  | lent b => exact (nl b rfl).elim
  | _ => exact q
end DL
namespace DL
open PySem
/-- a comprehension that filters, every turn leaving the environment as it was -/
theorem lcL_flt {α : Type} {h : α → D} {ρ : DEnv} {vs : List Nat} {g : WG} {tt : WT} {te : WE} {f : α → D} {p : α → Bool} {k : List D → DEnv → Prop} (ok : α → Prop)
    (hs : ∀ (a : α) (ds acc : List D), ok a → acc.length < 16777216 → (p a = true → lcL vs g tt te ds (acc ++ [f a]) ρ k) → (p a = false → lcL vs g tt te ds acc ρ k) → lcL vs g tt te (h a :: ds) acc ρ k) :
    ∀ (rows : List α) (acc : List D), (∀ a ∈ rows, ok a) → acc.length + rows.length ≤ 16777216 → k (acc ++ (rows.filter p).map f) ρ → lcL vs g tt te (rows.map h) acc ρ k
  | [], acc, _, _, hk => by simpa [lcL] using hk
  | a :: rows, acc, ho, hl, hk => hs a (rows.map h) acc (ho a List.mem_cons_self) (by simp at hl; omega)
      (fun e => lcL_flt ok hs rows (acc ++ [f a]) (fun x hx => ho x (List.mem_cons_of_mem _ hx)) (by simp at hl ⊢; omega) (by rw [List.filter_cons_of_pos e] at hk; simpa using hk))
      (fun e => lcL_flt ok hs rows acc (fun x hx => ho x (List.mem_cons_of_mem _ hx)) (by simp at hl ⊢; omega) (by rw [List.filter_cons_of_neg (by rw [e]; exact Bool.false_ne_true)] at hk; exact hk))
theorem cut_map {α : Type} (f : α → D) (ns : List α) (lo hi : Option Int) : ∃ ys : List α, cutD (ns.map f) lo hi = ys.map f ∧ (∀ y ∈ ys, y ∈ ns) ∧ ys.length ≤ ns.length := by
  unfold cutD
  rw [List.length_map, ← List.map_drop, ← List.map_take]
  exact ⟨_, rfl, fun y hy => List.mem_of_mem_drop (List.mem_of_mem_take hy), by rw [List.length_take, List.length_drop]; omega⟩
theorem eqv_nil {xs : List D} : PyData.eqv (.tuple xs) (.tuple []) = xs.isEmpty := by
  rw [PyData.eqv]
  cases xs <;> rfl
theorem eqv_nilL {xs : List D} : PyData.eqv (.list xs) (.list []) = xs.isEmpty := by
  rw [PyData.eqv]
  cases xs <;> rfl
end DL
namespace DL
open PySem
theorem isNone_n : isNoneD .none = true := rfl
theorem isNone_i {i : Int} : isNoneD (.int i) = false := rfl
theorem isNone_b {b : Bool} : isNoneD (.bool b) = false := rfl
theorem isNone_s {x : Str} : isNoneD (.str x) = false := rfl
theorem isNone_t {ds : List D} : isNoneD (.tuple ds) = false := rfl
theorem isNone_l {ds : List D} : isNoneD (.list ds) = false := rfl
end DL
set_option maxRecDepth 100000
set_option maxHeartbeats 1000000
namespace DL
open PySem PySem.Spec L2 LamX
section
variable {K : PySem.W.Frag} {mg : Str → Option Value} {h base : Heap} {T : Tb}
/-! ### from what the head tells -/
theorem fun_uniq {x qual : Str} {st : Stmt} {f : Addr} {fd fd' : FuncData} (F : Fun K x qual st f fd) (F' : Fun K x qual st f fd') : fd = fd' := by
  obtain ⟨oc, od, kV, doc, pm, an, cdv, ct, osl, _, lk, _⟩ := F.ex
  obtain ⟨oc', od', kV', doc', pm', an', cdv', ct', osl', _, lk', _⟩ := F'.ex
  rw [lk] at lk'
  cases lk'; rfl
theorem def_of {fa : List He.Fa} {fn : List He.DefD} {y x : Str} {st : Stmt} (X : K.In h) (G : h.Ns mainGlobals mg) (c : He.SaysD fa fn K) (i j : Nat) (hi : fn[i]? = some (⟨(y, none), x, x, defArgs st, defBody st, defScope st, [], []⟩ : He.DefD) := by rfl) (hj : fa[j]? = some (.glo y) := by rfl) : Def K mg y x st := by
  obtain ⟨fd, F⟩ := c.def_ i hi
  exact ⟨_, fd, He.glo_ok X G (c.fact j hj), fun_of F⟩
theorem tab_head {y x : Str} {st : Stmt} {cs : List (Addr × Addr)} {q : Str} (glo : mg y = some (.ref (He.ga K y))) (hT : ∀ p ∈ cs, TabB base mg p.1 p.2) (hm : He.cT K (y, none) ∈ cs) (mem : ((He.cT K (y, none)).2, q) ∈ T) (one : ∀ p ∈ T, p.1 = (He.cT K (y, none)).2 → p.2 = q) :
    ∀ (f : Addr) (fd : FuncData), mg y = some (.ref f) → Fun K x x st f fd → ∃ c P, fd.code = .ref c ∧ TabB base mg c P ∧ (P, q) ∈ T ∧ ∀ p ∈ T, p.1 = P → p.2 = q := fun f fd hf F => by
  rw [glo] at hf
  cases hf
  obtain ⟨oc, od, kV, doc, pm, an, cdv, ct, osl, e, lk, hc⟩ := F.ex
  obtain ⟨c, ec⟩ := He.codeIn_ref hc
  subst e
  have e2 : He.codeOf K (y, none) = c := He.codeOf_eq (p := (y, none)) (c := c) lk ec
  have tb := hT _ hm
  refine ⟨c, (He.cT K (y, none)).2, ec, ?_, mem, one⟩
  have e3 : (He.cT K (y, none)).1 = c := e2
  rw [e3] at tb
  exact tb
/-- the law, by the head's facts -/
theorem law_end {l : PySem.W.OpenLaw} {w : World} {fa : Addr} {fas : List He.Fa} {fn : List He.DefD} {ts : List He.Tab} {tf : List He.Defn} {ex : PySem.W.Frag → Bool} {n k : Nat} {x ps : Str} {st : Stmt} {g : DSp} {TT : PySem.W.Frag → Tb}
    (X : K.In h) (G : h.Ns mainGlobals mg) (hfa : mg x = some (.ref fa)) (c : He.SaysX fas fn ts tf ex w h K) (Df : Def K mg x x st) (hb : BindF x st [ps])
    (hT : ∀ p ∈ TT K, p.1 ∈ (tf.map (He.cT K)).map (·.2)) (hg : ∀ ns : List Int, ns.length ≤ n → (∀ z ∈ ns, Builtin.Int.intBits z ≤ 1048576) → g [.sh (.list (ns.map .int))] fun dv _ => dv = .val (.bool true))
    (F : ∀ base : Heap, K.In base → base.Ns mainGlobals mg → (∀ p ∈ tf.map (He.cT K), TabB base mg p.1 p.2) → Has l.prog w K mg base (TT K) k x x st [ps] g) :
    ∃ (K : PySem.W.Frag) (fd : FuncData) (cs : List (Addr × Addr)) (sp : Sp), K.In h ∧ (∀ p ∈ cs, h.get? p.2 = some emptyT) ∧ (∀ p ∈ cs, K.lookup p.2 = none) ∧ (∀ p ∈ cs, PySem.W.CodeHd h p.1 p.2) ∧ (∀ (s : Shared) (u : Value), BindsTo s fd ⟨[u], []⟩ [(ps, u)]) ∧
      (∀ (H : Hp) (a : Addr) (ns : List Int), ns.length ≤ n → (∀ z ∈ ns, Builtin.Int.intBits z ≤ 1048576) → (∀ p ∈ cs, H p.2 = some (.tbl #[])) → SqL K H a (ns.map V.int) → sp [.ref a] H (fun v _ => v = .bl true) fun _ _ _ => False) ∧
      ∀ base : Heap, K.In base → base.Ns mainGlobals mg → (∀ p ∈ cs, TabB base mg p.1 p.2) → FnG l.prog w K mg base k fa fd [ps] sp := by
  obtain ⟨f, fd, hm, Fx⟩ := Df.ex
  rw [hfa] at hm
  cases hm
  refine ⟨K, fd, tf.map (He.cT K), spOf K (TT K) g, X, fun p hp => ?_, fun p hp => ?_, fun p hp => ?_, fun s u => ?_, fun H a ns hl hz hH hS => sp_law hT hH hS (hg ns hl hz), fun base kb nb tb => ?_⟩
  · obtain ⟨q, hq, e⟩ := List.mem_map.mp hp
    subst e
    exact c.empty q hq
  · obtain ⟨q, hq, e⟩ := List.mem_map.mp hp
    subst e
    exact c.out q hq
  · obtain ⟨q, hq, e⟩ := List.mem_map.mp hp
    subst e
    exact PySem.W.codeHd_of_K X (c.hd q hq)
  · obtain ⟨oc, od, kV, doc, pm, an, cdv, ct, osl, e, _, _⟩ := Fx.ex
    subst e
    exact .of_eq (hb kV doc pm an cdv ct [u] rfl)
  · obtain ⟨f', fd', hm', F', G'⟩ := (F base kb nb tb).ex
    rw [hfa] at hm'
    cases hm'
    rw [fun_uniq Fx F']
    exact G'
end
end DL
set_option maxRecDepth 100000
set_option maxHeartbeats 1000000
namespace DL
open PySem PySem.Spec L2 LamX
section
variable {K : PySem.W.Frag} {T : Tb} {E0 B O : As} {σ : L2.St} {ρ ρ1 ρ2 : DEnv} {H H1 : Hp} {v : V} {r : RV} {d : D} {ds : List D} {X : Cx} {e : Expr}
/-! ### x.extend(a new list) -/
def wExt (x : Nat) (we : WE) : WE := fun ρ Q => lstOf ρ x fun _ => we ρ fun r ρ1 => match r with
  | .new (.lst ys) => lstOf ρ1 x fun ds => ds.length + ys.length ≤ 16777216 ∧ Q (.val .none) (setBx ρ1 x (.lst (ds ++ ys)))
  | _ => False
theorem d_ext {x : Nat} {xn : Str} {we : WE} {px apos cpos : Pos} (he : PE X e (tE X.K T we)) (hN : X.N[x]? = some xn := by rfl) (hv : Vis X.env.scope xn := by first | exact Or.inl rfl | exact Or.inr (Or.inl rfl) | exact Or.inr (Or.inr rfl))
    (hd : (xn == ("__debug__" : Str)) = false := by decide) (hcd : (xn == ("__classdict__" : Str)) = false := by decide)
    (hbase : attributeBase (.Name xn px) "extend" X.env (eval (.Name xn px) X.env) = eval (.Name xn px) X.env := by rfl) (hfew : ((backTo cpos (starEach [e] X.env)).all (fun x => !x.1) && (backToKw cpos (keywordEach [] X.env)).all (fun x => x.1.isSome) && decide ([e].length + ([] : List Keyword).length + (if ([] : List Keyword).isEmpty then 0 else 1) < 30)) = true := by rfl)
    (hline : (apos.endLine == cpos.line) = true := by rfl) (hs : starEach [e] X.env = (false, eval e X.env) :: starEach [] X.env := by rfl) (hpl : (backTo cpos (starEach [] X.env)).any (·.1) = false := by rfl) :
    PE X (.Call (.Attribute (.Name xn px) "extend" apos) [e] [] cpos) (tE X.K T (wExt x we)) :=
  (pe_bm (to := tVar x) PySem.F.plainAttrs_list PySem.F.slot_list_extend PySem.F.type_list_extend mt_extend (pe_var hN hv hd hcd) (pa_cons he pa_nil hs) hbase hfew hline hs hpl).imp fun σ H Q h => by
    obtain ⟨E0, B, ρ, Qd, er, tb, hw, k⟩ := h
    obtain ⟨ds0, hb0, hw⟩ := lstOf_some hw
    obtain ⟨a, h1, _, ⟨vs0, h2, _⟩⟩ := er.bx x _ hb0
    refine ⟨.ref a, h1, .inl ⟨rfl, _, .inl (.inl h2)⟩, E0, B, ρ, _, er, tb, hw, fun v H1 r ρ1 q A => ?_⟩
    split at q
    · rename_i ys
      obtain ⟨ds, hb, hz, q⟩ := lstOf_some q
      obtain ⟨c, ev, hn, zs, hc, hr⟩ := A.rr.at_ 0 v _ rfl rfl
      subst ev
      have A2 := A.nil
      obtain ⟨a', h1', _, ⟨vs', h3, h4⟩⟩ := A2.saft.er.bx x _ hb
      rw [h1] at h1'; cases h1'
      have hr2 : RpL X.K (B.or (Ow σ ρ1)) H1 zs ys := RpL.mono hr (As.or_mono (fun _ z => .inl z) fun _ z => z)
      exact ⟨a, c, vs', zs, rfl, rfl, h3, hc, by rw [h4.length, hr2.length]; exact sz_le hz, k _ _ _ _ q (A2.mutNone hb h1 h3 (RpL.append h4 hr2) .non)⟩
    · exact q.elim
end
end DL
set_option maxRecDepth 100000
set_option maxHeartbeats 1000000
namespace DL
open PySem PySem.Spec L2 LamX
section
variable {K : PySem.W.Frag} {T : Tb} {E0 B O : As} {σ : L2.St} {ρ ρ1 ρ2 : DEnv} {H H1 H2 : Hp} {v : V} {r : RV} {d : D} {ds : List D} {X : Cx} {a b e : Expr} {pos p : Pos}
/-! ### list(range(..)), tuple(range(..)) -/
abbrev WR := DEnv → (Int → Int → DEnv → Prop) → Prop
def tR (K : PySem.W.Frag) (T : Tb) (w : WR) : L2.St → Hp → (Int → Int → Hp → Prop) → Prop := fun σ H Q => ∃ E0 B ρ Qd, ER K E0 B σ H ρ ∧ Tabs T H ∧ w ρ Qd ∧ ∀ i j H' ρ', Qd i j ρ' → After K T E0 B σ H ρ [] H' [] ρ' → Q i j H'
def wR1 (wa : WE) : WR := fun ρ Q => wa ρ fun r ρ1 => lookK ρ1 r fun d => intK d fun j => Q 0 j ρ1
def wR2 (wa wb : WE) : WR := fun ρ Q => wa ρ fun r1 ρ1 => wb ρ1 fun r2 ρ2 => looksK ρ2 [r1, r2] fun ds => int2K ds fun i j => Q i j ρ2
theorem _root_.L2.PRg.imp {t t' : L2.St → Hp → (Int → Int → Hp → Prop) → Prop} (h : PRg X e t) (f : ∀ σ H Q, t' σ H Q → t σ H Q) : PRg X e t' := fun pins s σ H Q I w => h pins s σ H Q I (f σ H Q w)
theorem r_1 {wa : WE} (hm : X.mg "range" = none) (ha : PE X a (tE X.K T wa)) (hg : Gl X "range" := by rfl) (na : starEach [a] X.env = (false, eval a X.env) :: starEach [] X.env := by rfl) : PRg X (.Call (.Name "range" p) [a] [] pos) (tR X.K T (wR1 wa)) :=
  (prg_1 hg hm ha na).imp fun σ H Q h => by
    obtain ⟨E0, B, ρ, Qd, er, tb, hw, k⟩ := h
    refine ⟨E0, B, ρ, _, er, tb, hw, fun v H1 r ρ1 q A => ?_⟩
    obtain ⟨d, hd, q⟩ := lookK_some q
    have rz := A.look (j := 0) rfl rfl hd
    unfold intK at q
    split at q
    · have ez := rz.int
      subst ez
      exact ⟨_, rfl, k _ _ H1 ρ1 q A.nil⟩
    · exact q.elim
theorem r_2 {wa wb : WE} (hm : X.mg "range" = none) (ha : PE X a (tE X.K T wa)) (hb : PE X b (tE X.K T wb)) (hg : Gl X "range" := by rfl) (na : starEach [a, b] X.env = (false, eval a X.env) :: starEach [b] X.env := by rfl)
    (nb : starEach [b] X.env = (false, eval b X.env) :: starEach [] X.env := by rfl) (hp : (backTo pos (starEach [b] X.env)).any (·.1) = false := by rfl) : PRg X (.Call (.Name "range" p) [a, b] [] pos) (tR X.K T (wR2 wa wb)) :=
  (prg_2 hg hm ha hb na nb hp).imp fun σ H Q h => by
    obtain ⟨E0, B, ρ, Qd, er, tb, hw, k⟩ := h
    refine ⟨E0, B, ρ, _, er, tb, hw, fun x H1 r1 ρ1 q A1 => ?_⟩
    refine ⟨E0, _, ρ1, _, A1.er, A1.tab, q, fun y H2 r2 ρ2 q A2 => ?_⟩
    have A := A1.seq A2
    obtain ⟨ds, rb, q⟩ := A.looks (rs' := [r1, r2]) (vs' := [x, y]) (fun j v r a b => ⟨j, a, b⟩) rfl q
    obtain ⟨i, j, ev, _, q⟩ := int2_inv rb q
    cases ev
    exact ⟨i, j, rfl, rfl, k i j H2 ρ2 q A.nil⟩
def wLsR (w : WR) : WE := fun ρ Q => w ρ fun i j ρ1 => RgOk i j ∧ Q (.new (.lst (rngD i (j - i).toNat))) ρ1
def wTpR (w : WR) : WE := fun ρ Q => w ρ fun i j ρ1 => RgOk i j ∧ Q (.val (.tuple (rngD i (j - i).toNat))) ρ1
theorem rpl_rg {i j : Int} : RpL K O H (rgV i j) (rngD i (j - i).toNat) := by
  unfold rgV rngD
  generalize List.range (j - i).toNat = ks
  induction ks with
  | nil => exact .nil
  | cons k ks ih => exact .cons (.int _) ih
theorem d_lsR {w : WR} (hm : X.mg "list" = none) (hr : PRg X e (tR X.K T w)) (hc : X.calm = true := by rfl) (hg : Gl X "list" := by rfl) (na : starEach [e] X.env = (false, eval e X.env) :: starEach [] X.env := by rfl) : PE X (.Call (.Name "list" p) [e] [] pos) (tE X.K T (wLsR w)) :=
  (pe_listRg hc hg hm hr na).imp fun σ H Q h => by
    obtain ⟨E0, B, ρ, Qd, er, tb, hw, k⟩ := h
    refine ⟨E0, B, ρ, _, er, tb, hw, fun i j H1 ρ1 q A => ⟨q.1, fun l hl => k _ _ _ ρ1 q.2 (A.op (dv := .new (.lst _)) (Same.upd hl) (Fre.upd _ _ _) (opaft_lst A.obx hl rpl_rg))⟩⟩
/-- tuple(range(..)) at the library's level, the tuple's object known -/
def tTpRP (te : L2.St → Hp → (Int → Int → Hp → Prop) → Prop) : TE := fun σ H Q => te σ H fun i j H1 => RgOk i j ∧ NewT H1 (rgV i j) Q
open PyProof.Rows PySem.W PySem.Calls in
theorem pe_tpRP {te : L2.St → Hp → (Int → Int → Hp → Prop) → Prop} (hc : X.calm = true) (hg : Gl X "tuple") (hm : X.mg "tuple" = none) (he : PRg X e te) (na : starEach [e] X.env = (false, eval e X.env) :: starEach [] X.env) : PE X (.Call (.Name "tuple" p) [e] [] pos) (tTpRP te) :=
  ⟨fun pins s σ H Q I h => Call_ (ld_blt I hg hm boot_tuple (callWith_type1 (args_cons (thn (he pins s σ H _ I h) fun x s1 ⟨r, a, b, t, u, v, H1, ex, hr, I1, ok, q⟩ => args_nil (by
    subst ex
    obtain ⟨b1, b2, b3, b4, b5⟩ := ok
    refine call_tuple_range (n := (b - a).toNat) (I1.ok.hd hc) hr (small_one b1 b2 b3 b4) (rangeSize_nat a b) b5 fun h' tk acc hk hi => ?_
    have I2 : Inv X pins σ H1 { s1 with heap := h', toks := tk } := I1.kept hk
    have hsz : (rgV a b).length ≤ sizeLine := by rw [rgV_length, sizeLine_eq]; omega
    have hob : (h'.push { cls := .type "tuple", data := .seq acc }).get? h'.objs.size = some { cls := .type "tuple", data := .seq acc.toList.toArray 0 } := by rw [Array.toArray_toList]; exact Heap.get?_push_size _ rfl
    exact ⟨.ref h'.objs.size, _, laidT (s := { s1 with heap := h', toks := tk }) (t' := tk) I2 (fun c o e => Heap.get?_push_of_some _ e) (Nat.le_refl _) hob (vals_rg hi) hsz, rfl, q _ _ (I2.hok.fresh (Nat.le_refl _)) rfl⟩)) na) na))⟩
theorem d_tpR {w : WR} (hm : X.mg "tuple" = none) (hr : PRg X e (tR X.K T w)) (hc : X.calm = true := by rfl) (hg : Gl X "tuple" := by rfl) (na : starEach [e] X.env = (false, eval e X.env) :: starEach [] X.env := by rfl) : PE X (.Call (.Name "tuple" p) [e] [] pos) (tE X.K T (wTpR w)) :=
  (pe_tpRP hc hg hm hr na).imp fun σ H Q h => by
    obtain ⟨E0, B, ρ, Qd, er, tb, hw, k⟩ := h
    refine ⟨E0, B, ρ, _, er, tb, hw, fun i j H1 ρ1 q A => ⟨q.1, fun l o hl dn => k _ _ _ ρ1 q.2 (A.op (dv := .val (.tuple _)) (Same.upd hl) (Fre.upd _ _ _) (opaft_tup A.obx hl dn rpl_rg))⟩⟩
end
end DL
set_option maxRecDepth 100000
set_option maxHeartbeats 2000000
namespace DL
open PySem PySem.Spec L2 LamX
section
variable {K : PySem.W.Frag} {T : Tb} {E0 B N : As} {σ : L2.St} {ρ ρ1 : DEnv} {H H1 : Hp} {v : V} {r : RV} {X : Cx} {pos : Pos}
/-! ### a, b, c = e1, e2, e3 -/
def wPar3 (i j l : Nat) (wa : WA) : WS := fun ρ P => wa ρ fun rs ρ1 => match rs with
  | [r1, r2, r3] => wPar.fzN ρ1 r1 fun r1 ρ2 => wPar.fzN ρ2 r2 fun r2 ρ3 => wPar.fzN ρ3 r3 fun r3 ρ4 => putK ρ4 i r1 fun ρ5 => putK ρ5 j r2 fun ρ6 => putK ρ6 l r3 P.nx
  | _ => False
theorem s_par3 {i j l : Nat} {x y z : Str} {a b c : Expr} {wa : WA} {px py pz pt : Pos} {kt k2 pt2} (hc : X.calm = true) (hN : X.N.Nodup) (ha : PA X [a, b, c] (tA X.K T wa)) (hi : X.N[i]? = some x := by rfl) (hj : X.N[j]? = some y := by rfl) (hl : X.N[l]? = some z := by rfl)
    (hij : i ≠ j := by decide) (hil : i ≠ l := by decide) (hjl : j ≠ l := by decide) (hx : X.env.scope.names.lookup x = some .local := by rfl) (hy : X.env.scope.names.lookup y = some .local := by rfl) (hz : X.env.scope.names.lookup z = some .local := by rfl)
    (hw : swappedStores [.Tuple [.Name x px, .Name y py, .Name z pz] kt pt] (.Tuple [a, b, c] k2 pt2) X.env = pure (some [x, y, z]) := by rfl)
    (hs : swapsWithSole [.Tuple [.Name x px, .Name y py, .Name z pz] kt pt] (.Tuple [a, b, c] k2 pt2) pos.line X.env = pure false := by rfl) :
    PS X (.Assign [.Tuple [.Name x px, .Name y py, .Name z pz] kt pt] (.Tuple [a, b, c] k2 pt2) pos) (tS X.K T (wPar3 i j l wa)) :=
  (ps_par3 hc hN hi hj hl hij hil hjl hx hy hz ha hw hs).imp fun D σ H h => by
    obtain ⟨E0, B, ρ, P, er, tb, hw, k, _⟩ := h
    refine ⟨E0, B, ρ, _, er, tb, hw, fun vs H1 rs ρ1 q A => ?_⟩
    have hq : ∃ r1 r2 r3, rs = [r1, r2, r3] ∧ wPar.fzN ρ1 r1 fun r1 ρ2 => wPar.fzN ρ2 r2 fun r2 ρ3 => wPar.fzN ρ3 r3 fun r3 ρ4 => putK ρ4 i r1 fun ρ5 => putK ρ5 j r2 fun ρ6 => putK ρ6 l r3 P.nx := by
      match rs, q with
      | [r1, r2, r3], q => exact ⟨r1, r2, r3, rfl, q⟩
      | [], q => exact q.elim
      | [_], q => exact q.elim
      | [_, _], q => exact q.elim
      | _ :: _ :: _ :: _ :: _, q => exact q.elim
    obtain ⟨r1, r2, r3, ers, hq⟩ := hq
    subst ers
    have hlen := A.rr.len
    obtain ⟨v1, v2, v3, ev⟩ : ∃ v1 v2 v3, vs = [v1, v2, v3] := by
      match vs, hlen with
      | [v1, v2, v3], _ => exact ⟨v1, v2, v3, rfl⟩
    subst ev
    refine ⟨v1, v2, v3, rfl, ?_⟩
    obtain ⟨s1, ρ2, hq, e2, l2, q1⟩ := fzN_ok (BL := B) A.er (fun _ z => .inl z) (A.rr.at_ 0 v1 r1 rfl rfl) hq
    obtain ⟨s2, ρ3, hq, e3, l3, q2⟩ := fzN_ok (BL := B) e2 (fun _ z => .inl z) ((A.rr.at_ 1 v2 r2 rfl rfl).mono (As.or_mono (fun _ z => z) fun a z => l2.ow a z)) hq
    obtain ⟨s3, ρ4, hq, e4, l4, q3⟩ := fzN_ok (BL := B) e3 (fun _ z => .inl z) ((A.rr.at_ 2 v3 r3 rfl rfl).mono (As.or_mono (fun _ z => z) fun a z => l2.ow a (l3.ow a z))) hq
    have le4 := (l2.trans l3).trans l4
    let Nn : As := Nw [v1, v2, v3] [r1, r2, r3]
    let N1 : As := fun a => (∃ b, r1 = .new b) ∧ v1 = .ref a
    let N2 : As := fun a => (∃ b, r2 = .new b) ∧ v2 = .ref a
    let N3 : As := fun a => (∃ b, r3 = .new b) ∧ v3 = .ref a
    have h1N : ∀ a, N1 a → Nn a := fun a ⟨⟨b, e⟩, e'⟩ => by subst e; subst e'; exact ⟨0, b, rfl, rfl⟩
    have h2N : ∀ a, N2 a → Nn a := fun a ⟨⟨b, e⟩, e'⟩ => by subst e; subst e'; exact ⟨1, b, rfl, rfl⟩
    have h3N : ∀ a, N3 a → Nn a := fun a ⟨⟨b, e⟩, e'⟩ => by subst e; subst e'; exact ⟨2, b, rfl, rfl⟩
    have fresh : ∀ a, Nn a → H a = none := fun a ⟨n, b, h1, h2⟩ => by
      obtain ⟨x, e, nn, _⟩ := A.rr.at_ n _ _ h2 h1
      cases e; exact nn
    have notB := Nw.notB er A
    have notE : ∀ a, Nn a → ¬ E0 a := fun a z w => by
      obtain ⟨o, h1⟩ := er.e0 a w
      rw [fresh a z] at h1; cases h1
    let M1 : As := As.or N2 N3
    have e4' : ER X.K E0 ((B.or M1).or N1) σ H1 ρ4 := e4.mono fun a z => by
      rcases z with (z | z | z) | z
      · exact .inl z
      · exact .inr (h2N a z)
      · exact .inr (h3N a z)
      · exact .inr (h1N a z)
    have ne : ∀ a, N1 a → ¬ N2 a ∧ ¬ N3 a := fun a ⟨⟨b, e⟩, e'⟩ => by
      subst e; subst e'
      refine ⟨fun ⟨⟨c, f⟩, f'⟩ => ?_, fun ⟨⟨c, f⟩, f'⟩ => ?_⟩ <;> subst f
      · have := A.rr.inj 0 1 b c a rfl rfl rfl (by rw [f'] <;> rfl)
        cases this
      · have := A.rr.inj 0 2 b c a rfl rfl rfl (by rw [f'] <;> rfl)
        cases this
    have ne23 : ∀ a, N2 a → ¬ N3 a := fun a ⟨⟨b, e⟩, e'⟩ ⟨⟨c, f⟩, f'⟩ => by
      subst e; subst f; subst e'
      have := A.rr.inj 1 2 b c a rfl rfl rfl (by rw [f'] <;> rfl)
      cases this
    have p1 : PR X.K E0 (B.or M1) N1 σ H1 ρ4 v1 s1 := by
      rcases q1 with ⟨d, es, _, rp⟩ | ⟨b, es, er1, _⟩
      · subst es
        exact Rp.mono rp fun a z => by
          rcases z with (z | z | z) | z
          · exact .inl (.inl z)
          · exact .inl (.inr (h2N a z))
          · exact .inl (.inr (h3N a z))
          · exact .inr (l3.ow a (l4.ow a z))
      · subst es; subst er1
        obtain ⟨a, ea, _, hb⟩ := A.rr.at_ 0 v1 _ rfl rfl
        subst ea
        have n1 : N1 a := ⟨⟨b, rfl⟩, rfl⟩
        refine ⟨a, rfl, n1, fun z => z.elim (notB a (h1N a n1)) fun z => z.elim (ne a n1).1 (ne a n1).2, notE a (h1N a n1), hb.mono fun x z => ?_⟩
        rcases z with ((z | z | z) | z) | z
        · exact .inl (.inl z)
        · exact .inl (.inr (h2N x z))
        · exact .inl (.inr (h3N x z))
        · exact .inl (.inr (h1N x z))
        · exact .inr (le4.ow x z)
    obtain ⟨ρ5, hq, P1⟩ := put1 e4' p1 hq
    have o5 : ∀ a, Ow (σ.set i (some v1)) ρ5 a → Ow σ ρ4 a ∨ Nn a := fun a z => (P1.ow a z).imp id (h1N a)
    have er5 : ER X.K E0 ((B.or N3).or N2) (σ.set i (some v1)) H1 ρ5 := P1.er.mono fun a z => by
      rcases z with (z | z) | z
      · exact .inl z
      · exact .inr (.inr z)
      · exact .inr (.inl z)
    have p2 : PR X.K E0 (B.or N3) N2 (σ.set i (some v1)) H1 ρ5 v2 s2 := by
      rcases q2 with ⟨d, es, _, rp⟩ | ⟨b, es, er1, _⟩
      · subst es
        exact Rp.mono rp fun a z => by
          rcases z with (z | z) | z
          · exact .inl (.inl z)
          · exact .inl (.inr (h3N a z))
          · rcases o5 a z with z | z
            · exact .inr (l4.ow a z)
            · exact .inl (.inr z)
      · subst es; subst er1
        obtain ⟨a, ea, _, hb⟩ := A.rr.at_ 1 v2 _ rfl rfl
        subst ea
        have n2 : N2 a := ⟨⟨b, rfl⟩, rfl⟩
        refine ⟨a, rfl, n2, fun z => z.elim (notB a (h2N a n2)) (ne23 a n2), notE a (h2N a n2), hb.mono fun x z => ?_⟩
        rcases z with ((z | z) | z) | z
        · exact .inl (.inl z)
        · exact .inl (.inr (h3N x z))
        · exact .inl (.inr (h2N x z))
        · rcases o5 x z with z | z
          · exact .inr (le4.ow x z)
          · exact .inl (.inr z)
    obtain ⟨ρ6, hq, P2⟩ := put1 er5 p2 hq
    have o6 : ∀ a, Ow ((σ.set i (some v1)).set j (some v2)) ρ6 a → Ow σ ρ4 a ∨ Nn a := fun a z => by
      rcases P2.ow a z with z | z
      · exact o5 a z
      · exact .inr (h2N a z)
    have p3 : PR X.K E0 B N3 ((σ.set i (some v1)).set j (some v2)) H1 ρ6 v3 s3 := by
      rcases q3 with ⟨d, es, _, rp⟩ | ⟨b, es, er1, _⟩
      · subst es
        exact Rp.mono rp fun a z => by
          rcases z with z | z
          · exact .inl (.inl z)
          · rcases o6 a z with z | z
            · exact .inr z
            · exact .inl (.inr z)
      · subst es; subst er1
        obtain ⟨a, ea, _, hb⟩ := A.rr.at_ 2 v3 _ rfl rfl
        subst ea
        have n3 : N3 a := ⟨⟨b, rfl⟩, rfl⟩
        refine ⟨a, rfl, n3, notB a (h3N a n3), notE a (h3N a n3), hb.mono fun x z => ?_⟩
        rcases z with (z | z) | z
        · exact .inl (.inl z)
        · exact .inl (.inr (h3N x z))
        · rcases o6 x z with z | z
          · exact .inr (le4.ow x z)
          · exact .inl (.inr z)
    obtain ⟨ρ7, hq, P3⟩ := put1 P2.er p3 hq
    refine k _ _ ρ7 hq { stp := A.stp, fre := A.fre, tab := A.tab, ow := fun a z => ?_, er := P3.er, lent := fun n b hb => ?_, lent' := fun n b hb => ?_ }
    · have : Ow σ ρ4 a ∨ Nn a := by
        rcases P3.ow a z with z | z
        · exact o6 a z
        · exact .inr (h3N a z)
      exact this.imp (fun z => (A.le.trans le4).ow a z) (fresh a)
    · obtain ⟨b', hb'⟩ := (A.le.trans le4).back n b hb
      obtain ⟨g1, g2⟩ := P1.lent n b' hb'
      obtain ⟨g3, g4⟩ := P2.lent n b' g1
      obtain ⟨g5, g6⟩ := P3.lent n b' g3
      exact ⟨⟨b', g5⟩, g6.trans (g4.trans g2)⟩
    · exact (A.le.trans le4).lent n b (P1.lent' n b (P2.lent' n b (P3.lent' n b hb)))
/-! ### [..] * n, a new list -/
def wRep (wa wb : WE) : WE := fun ρ Q => wa ρ fun r1 ρ1 => wb ρ1 fun r2 ρ2 => match r1 with
  | .new (.lst ds) => lookK ρ2 r2 fun d => intK d fun k => (0 ≤ k ∧ k ≤ 1000000 ∧ ds.length * k.toNat ≤ 16777216) ∧ Q (.new (.lst (List.replicate k.toNat ds).flatten)) ρ2
  | _ => False
theorem rpl_rep {O : As} {vs : List V} {ds : List D} (h : RpL K O H vs ds) : ∀ n, RpL K O H (List.replicate n vs).flatten (List.replicate n ds).flatten
  | 0 => .nil
  | n + 1 => by
    rw [List.replicate_succ, List.replicate_succ, List.flatten_cons, List.flatten_cons]
    exact RpL.append h (rpl_rep h n)
theorem d_rep {e1 e2 : Expr} {wa wb : WE} (ha : PE X e1 (tE X.K T wa)) (hb : PE X e2 (tE X.K T wb)) : PE X (.BinOp e1 .Mult e2 pos) (tE X.K T (wRep wa wb)) := (pe_op op_rep ha hb).imp fun σ H Q h => by
  obtain ⟨E0, B, ρ, Qd, er, tb, hw, k⟩ := h
  refine ⟨E0, B, ρ, _, er, tb, hw, fun x H1 r1 ρ1 q1 A1 => ?_⟩
  refine ⟨E0, _, ρ1, _, A1.er, A1.tab, q1, fun y H2 r2 ρ2 q A2 => ?_⟩
  have A := A1.seq A2
  clear q1
  split at q
  · rename_i ds
    obtain ⟨d, hd, q⟩ := lookK_some q
    have ry := A.look (j := 1) rfl rfl hd
    unfold intK at q
    split at q
    · rename_i n
      obtain ⟨⟨n0, n1, nz⟩, q⟩ := q
      have ey := ry.int
      subst ey
      obtain ⟨a, ev, _, vs, h1, h2⟩ := A.rr.at_ 0 x _ rfl rfl
      subst ev
      have hr : RpL X.K (B.or (Ow σ ρ2)) H2 vs ds := RpL.mono h2 (As.or_mono (fun _ z => .inl z) fun _ z => z)
      exact ⟨a, n, vs, rfl, rfl, h1, by omega, by omega, by rw [hr.length]; exact sz_le nz, fun p hp => k _ _ _ ρ2 q (A.op (dv := .new (.lst _)) (Same.upd hp) (Fre.upd _ _ _) (opaft_lst A.obx hp (rpl_rep hr _)))⟩
    · exact q.elim
  · exact q.elim
end
end DL
set_option maxRecDepth 100000
set_option maxHeartbeats 1000000
namespace DL
open PySem PySem.Spec L2 LamX
section
variable {K : PySem.W.Frag} {T : Tb} {E0 B O : As} {σ σ1 : L2.St} {ρ ρ1 ρ2 : DEnv} {H H1 : Hp} {X : Cx} {sts : List Stmt} {tg iter : Expr} {vs : List Nat}
/-! ### slots forgotten: at the end of a loop's turn, ahead of the first -/
def wEnd (vs : List Nat) (wb : WS) : WS := fun ρ P => wb ρ { nx := fun ρ' => clK ρ' vs P.nx, rt := P.rt, bk := fun ρ' => clK ρ' vs P.bk, ct := fun ρ' => clK ρ' vs P.ct }
def wCI (vs : List Nat) (wi : WI) : WI := fun ρ Q => wi ρ fun ds ρ1 => clK ρ1 vs fun ρ2 => Q ds ρ2
theorem SAft.clear (a : SAft K T E0 B σ H ρ σ1 H1 ρ1) (c : clr ρ1 vs = some ρ2) : SAft K T E0 B σ H ρ σ1 H1 ρ2 := by
  obtain ⟨e, o, l⟩ := a.er.clear (σ1 := σ1) c rfl fun _ _ => rfl
  refine ⟨a.stp, a.fre, a.tab, fun x z => a.ow x (o x z), e, fun i b h => ?_, fun i b h => ?_⟩
  · obtain ⟨⟨b', h1⟩, h2⟩ := a.lent i b h
    exact ⟨l.back i b' h1, h2⟩
  · obtain ⟨b', h1⟩ := l.lent i b h
    exact a.lent' i b' h1
theorem s_end {wb : WS} (h : PSs X sts (tS X.K T wb)) : PSs X sts (tS X.K T (wEnd vs wb)) := h.imp fun D σ H ⟨E0, B, ρ, P, er, tb, hw, k, kr, kb, kc⟩ => by
  refine ⟨E0, B, ρ, _, er, tb, hw, fun σ' H' ρ' q A => ?_, kr, fun σ' H' ρ' q A => ?_, fun σ' H' ρ' q A => ?_⟩
  · obtain ⟨ρ2, c, q⟩ := clK_some q
    exact k σ' H' ρ2 q (A.clear c)
  · obtain ⟨ρ2, c, q⟩ := clK_some q
    exact kb σ' H' ρ2 q (A.clear c)
  · obtain ⟨ρ2, c, q⟩ := clK_some q
    exact kc σ' H' ρ2 q (A.clear c)
theorem ItD.mono {O O' : As} {J : It} {ds : List D} (h : ItD K O H J ds) (s : ∀ a, O' a → O a) : ItD K O' H J ds :=
  ⟨fun i H' st => h.go i H' (st.mono s), fun i H' x H2 O2 st ho => h.yld i H' x H2 O2 (st.mono s) fun a z => (ho a z).imp (s a) id, fun i H' st => h.stop i H' (st.mono s)⟩
theorem i_clr {wi : WI} (h : PI X tg iter (tI X.K T wi)) : PI X tg iter (tI X.K T (wCI vs wi)) := h.imp fun σ H R ⟨E0, B, ρ, Qd, er, tb, hw, k⟩ => by
  refine ⟨E0, B, ρ, _, er, tb, hw, fun J H' ds ρ' q A I => ?_⟩
  obtain ⟨ρ2, c, q⟩ := clK_some q
  obtain ⟨e, o, l⟩ := A.er.clear (σ1 := σ) c rfl fun _ _ => rfl
  exact k J H' ds ρ2 q ⟨A.stp, A.fre, A.tab, A.le.trans l, e, ⟨rfl, fun j v r h _ => by simp at h, fun i j b c a h _ _ _ => by simp at h⟩⟩ (I.mono (As.or_mono (fun _ z => z) o))
end
end DL
set_option maxRecDepth 100000
set_option maxHeartbeats 1000000
namespace DL
open PySem PySem.Spec L2 LamX
/-! ### storing and forgetting, slot by slot -/
section
variable {ρ : DEnv} {s : Sl} {b c : Box} {d e : D} {i : Nat} {is : List Nat} {k : DEnv → Prop} {r : RV}
theorem putK_e : putK (.emp :: ρ) 0 (.val d) k = k (.sh d :: ρ) := rfl
theorem putK_s : putK (.sh e :: ρ) 0 (.val d) k = k (.sh d :: ρ) := rfl
theorem putK_o : putK (.own b :: ρ) 0 (.val d) k = k (.sh d :: ρ) := rfl
theorem putN_e : putK (.emp :: ρ) 0 (.new c) k = k (.own c :: ρ) := rfl
theorem putN_s : putK (.sh e :: ρ) 0 (.new c) k = k (.own c :: ρ) := rfl
theorem putN_o : putK (.own b :: ρ) 0 (.new c) k = k (.own c :: ρ) := rfl
theorem putK_val_succ : putK (s :: ρ) (i + 1) (.val d) k = putK ρ i (.val d) fun ρ' => k (s :: ρ') := by
  unfold putK putR
  rw [List.getElem?_cons_succ]
  cases ρ[i]? with
  | none => rfl
  | some z => cases z <;> rfl
theorem putK_new_succ : putK (s :: ρ) (i + 1) (.new c) k = putK ρ i (.new c) fun ρ' => k (s :: ρ') := by
  unfold putK putR
  rw [List.getElem?_cons_succ]
  cases ρ[i]? with
  | none => rfl
  | some z => cases z <;> rfl
/-- a slot handed on is frozen first -/
theorem putK_var {j : Nat} : putK ρ i (.var j) k = (match ρ[i]? with | some (.lent _) => False | none => False | _ => fzK ρ (.var j) fun d ρ1 => k (ρ1.set i (.sh d))) := by
  unfold putK putR; rfl
theorem clK_nil : clK ρ [] k = k ρ := rfl
def clr1 (ρ : DEnv) (i : Nat) (k : DEnv → Prop) : Prop := match ρ[i]? with
  | some (.lent _) => False
  | _ => k (ρ.set i .emp)
theorem clK_cons : clK ρ (i :: is) k = clK ρ is fun ρ' => clr1 ρ' i k := by
  unfold clK clr1
  show (match (match clr ρ is with | none => none | some ρ' => match ρ'[i]? with | some (.lent _) => none | _ => some (ρ'.set i .emp)) with | some ρ' => k ρ' | none => False) = _
  cases clr ρ is with
  | none => rfl
  | some ρ' =>
    show (match (match ρ'[i]? with | some (.lent _) => none | _ => some (ρ'.set i .emp)) with | some ρ' => k ρ' | none => False) = match ρ'[i]? with | some (.lent _) => False | _ => k (ρ'.set i .emp)
    cases ρ'[i]? with
    | none => rfl
    | some z => cases z <;> rfl
theorem clr1_s : clr1 (s :: ρ) (i + 1) k = clr1 ρ i fun ρ' => k (s :: ρ') := by
  unfold clr1
  rw [List.getElem?_cons_succ]
  cases ρ[i]? with
  | none => rfl
  | some z => cases z <;> rfl
theorem clr1_z_e : clr1 (.emp :: ρ) 0 k = k (.emp :: ρ) := rfl
theorem clr1_z_s : clr1 (.sh d :: ρ) 0 k = k (.emp :: ρ) := rfl
theorem clr1_z_o : clr1 (.own b :: ρ) 0 k = k (.emp :: ρ) := rfl
end
section
variable {sts : List Stmt} {X : Cx} {T : Tb} {vs : List Nat} {st : Stmt}
def wPre (vs : List Nat) (w : WS) : WS := fun ρ P => clK ρ vs fun ρ' => w ρ' P
theorem s_pre {w : WS} (h : PS X st (tS X.K T w)) : PS X st (tS X.K T (wPre vs w)) := h.imp fun D σ H ⟨E0, B, ρ, P, er, tb, hw, k, kr, kb, kc⟩ => by
  obtain ⟨ρ2, c, q⟩ := clK_some hw
  have S := (SAft.refl er tb).clear c
  exact ⟨E0, B, ρ2, P, S.er, tb, q, fun σ' H' ρ' q A => k σ' H' ρ' q (S.trans A), fun v H' r ρ' q A => kr v H' r ρ' q (S.ret A), fun σ' H' ρ' q A => kb σ' H' ρ' q (S.trans A), fun σ' H' ρ' q A => kc σ' H' ρ' q (S.trans A)⟩
end
theorem boolsK_cons {b : Bool} {xs : List D} {k : List Bool → Prop} : boolsK (.bool b :: xs) k = boolsK xs fun bs => k (b :: bs) := rfl
theorem boolsK_nil {k : List Bool → Prop} : boolsK [] k = k [] := rfl
theorem intsK_cons {b : Int} {xs : List D} {k : List Int → Prop} : intsK (.int b :: xs) k = intsK xs fun bs => k (b :: bs) := rfl
theorem intsK_nil {k : List Int → Prop} : intsK [] k = k [] := rfl
theorem intsK_maps {xs : List Int} {k : List Int → Prop} : intsK (xs.map .int) k = k xs := by
  induction xs generalizing k with
  | nil => rfl
  | cons x xs ih => rw [List.map_cons, intsK_cons, ih]
theorem fl_nil {g : WG} {wb : WS} {P : DP} {ρ : DEnv} : forL g wb [] ρ P = P.nx ρ := rfl
end DL
set_option maxRecDepth 100000
set_option maxHeartbeats 1000000
namespace DL
open PySem PySem.Spec L2 LamX
/-! ### loops -/
section
variable {α β σ : Type} {h : α → D} {g g1 : WG} {wb : WS} {P : DP} {ρ : DEnv} {vs vs1 : List Nat} {tt tt1 : WT} {te : WE} {wi1 : WI} {k : List D → DEnv → Prop}
/-- a loop by what holds ahead of each turn: of the items left, of the environment -/
theorem for_inv (I : List α → DEnv → Prop)
    (hb : ∀ (a : α) (as : List α) (ρ : DEnv) (K : DEnv → Prop), I (a :: as) ρ → (∀ ρ', I as ρ' → K ρ') → g (h a) ρ fun ρ1 => wb ρ1 { nx := K, rt := P.rt, bk := P.nx, ct := K })
    (hn : ∀ ρ, I [] ρ → P.nx ρ) : ∀ (xs : List α) (ρ : DEnv), I xs ρ → forL g wb (xs.map h) ρ P
  | [], ρ, hi => hn ρ hi
  | a :: as, ρ, hi => by
    show g (h a) ρ fun ρ1 => wb ρ1 { nx := fun ρ2 => forL g wb (as.map h) ρ2 P, rt := P.rt, bk := P.nx, ct := fun ρ2 => forL g wb (as.map h) ρ2 P }
    exact hb a as ρ _ hi fun ρ' hi' => for_inv I hb hn as ρ' hi'
/-- a loop that folds a state: env says how it stands in the slots -/
theorem for_fold (env : σ → DEnv) (step : σ → α → σ) (J : σ → List α → Prop)
    (hb : ∀ (s : σ) (a : α) (as : List α) (K : DEnv → Prop), J s (a :: as) → (J (step s a) as → K (env (step s a))) → g (h a) (env s) fun ρ1 => wb ρ1 { nx := K, rt := P.rt, bk := P.nx, ct := K }) :
    ∀ (xs : List α) (s : σ), J s xs → (J (xs.foldl step s) [] → P.nx (env (xs.foldl step s))) → forL g wb (xs.map h) (env s) P
  | [], s, hj, hk => hk hj
  | a :: as, s, hj, hk => by
    show g (h a) (env s) fun ρ1 => wb ρ1 { nx := fun ρ2 => forL g wb (as.map h) ρ2 P, rt := P.rt, bk := P.nx, ct := fun ρ2 => forL g wb (as.map h) ρ2 P }
    exact hb s a as _ hj fun hj' => for_fold env step J hb as (step s a) hj' hk
/-- .. of which one may end early: the state is a pair -/
theorem for_find (p : α → Bool) (xs : List α)
    (hb : ∀ (a : α) (K : DEnv → Prop), a ∈ xs → (p a = true → xs.find? p = some a) → (p a = false → K ρ) → g (h a) ρ fun ρ1 => wb ρ1 { nx := K, rt := P.rt, bk := P.nx, ct := K })
    (hn : xs.find? p = none → P.nx ρ) : forL g wb (xs.map h) ρ P := by
  suffices H : ∀ (as : List α), (∀ a ∈ as, a ∈ xs) → xs.find? p = as.find? p → forL g wb (as.map h) ρ P from H xs (fun _ z => z) rfl
  intro as
  induction as with
  | nil => intro _ e; exact hn e
  | cons a as ih =>
    intro hm e
    show g (h a) ρ fun ρ1 => wb ρ1 { nx := fun ρ2 => forL g wb (as.map h) ρ2 P, rt := P.rt, bk := P.nx, ct := fun ρ2 => forL g wb (as.map h) ρ2 P }
    exact hb a _ (hm a List.mem_cons_self) (fun hp => by rw [e]; simp [hp]) fun hp => ih (fun z hz => hm z (List.mem_cons_of_mem _ hz)) (by rw [e]; simp [hp])
/-- a loop whose every turn leaves all as it was -/
theorem for_all (xs : List α) (hb : ∀ (a : α) (K : DEnv → Prop), a ∈ xs → K ρ → g (h a) ρ fun ρ1 => wb ρ1 { nx := K, rt := P.rt, bk := P.nx, ct := K }) (hn : P.nx ρ) : forL g wb (xs.map h) ρ P := by
  suffices H : ∀ (as : List α), (∀ a ∈ as, a ∈ xs) → forL g wb (as.map h) ρ P from H xs (fun _ z => z)
  intro as
  induction as with
  | nil => intro _; exact hn
  | cons a as ih =>
    intro hm
    show g (h a) ρ fun ρ1 => wb ρ1 { nx := fun ρ2 => forL g wb (as.map h) ρ2 P, rt := P.rt, bk := P.nx, ct := fun ρ2 => forL g wb (as.map h) ρ2 P }
    exact hb a _ (hm a List.mem_cons_self) (ih fun z hz => hm z (List.mem_cons_of_mem _ hz))
/-- a loop that puts to a list of one's own, item by item -/
theorem for_acc (w : List D → Sl) (i : Nat) (f : α → List D) (N : Nat) (xs : List α) (acc0 : List D)
    (hb : ∀ (a : α) (acc : List D) (K : DEnv → Prop), a ∈ xs → acc.length + (f a).length ≤ N → K (ρ.set i (w (acc ++ f a))) → g (h a) (ρ.set i (w acc)) fun ρ1 => wb ρ1 { nx := K, rt := P.rt, bk := P.nx, ct := K })
    (hl : acc0.length + (xs.flatMap f).length ≤ N) (hk : P.nx (ρ.set i (w (acc0 ++ xs.flatMap f)))) (hρ : ρ.set i (w acc0) = ρ := by rfl) : forL g wb (xs.map h) ρ P := by
  suffices H : ∀ (as : List α) (acc : List D), (∀ a ∈ as, a ∈ xs) → acc.length + (as.flatMap f).length ≤ N → P.nx (ρ.set i (w (acc ++ as.flatMap f))) → forL g wb (as.map h) (ρ.set i (w acc)) P by
    have := H xs acc0 (fun _ z => z) hl hk
    rw [hρ] at this
    exact this
  intro as
  induction as with
  | nil => intro acc _ _ hk; simpa [forL] using hk
  | cons a as ih =>
    intro acc hm hl hk
    rw [List.flatMap_cons, List.length_append] at hl
    show g (h a) (ρ.set i (w acc)) fun ρ1 => wb ρ1 { nx := fun ρ2 => forL g wb (as.map h) ρ2 P, rt := P.rt, bk := P.nx, ct := fun ρ2 => forL g wb (as.map h) ρ2 P }
    exact hb a acc _ (hm a List.mem_cons_self) (by omega) (ih _ (fun z hz => hm z (List.mem_cons_of_mem _ hz)) (by rw [List.length_append]; omega) (by simpa using hk))
abbrev owL (ds : List D) : Sl := .own (.lst ds)
abbrev shL (ds : List D) : Sl := .sh (.list ds)
/-! ### comprehensions -/
theorem clK_of {ρ' : DEnv} {k : DEnv → Prop} (c : clr ρ vs = some ρ') (h : k ρ') : clK ρ vs k := by
  unfold clK; rw [c]; exact h
/-- one turn of a comprehension: K what follows the item, K0 what follows where it is left out -/
abbrev turnK (vs : List Nat) (g : WG) (tt : WT) (te : WE) (d : D) (ρ : DEnv) (K : D → DEnv → Prop) (K0 : DEnv → Prop) : Prop := clK ρ vs fun ρ0 => g d ρ0 fun ρ1 => tt ρ1 fun b ρ2 => match b with
      | true => te ρ2 fun r ρ3 => fzK ρ3 r K
      | false => K0 ρ2
/-- the general rule: the environment may change (draws), an item comes to some b for which R holds -/
theorem lc_rel (enc : β → D) (I : DEnv → Prop) (R : β → Prop)
    (xs : List α) (hs : ∀ (a : α) (ρ : DEnv) (K : D → DEnv → Prop) (K0 : DEnv → Prop), a ∈ xs → I ρ → (∀ b ρ' ρ4, R b → I ρ' → clr ρ4 vs = some ρ' → K (enc b) ρ4) → turnK vs g tt te (h a) ρ K K0)
    (hl : xs.length ≤ 16777216) (hi : I ρ) (hk : ∀ (bs : List β) ρ', bs.length = xs.length → (∀ b ∈ bs, R b) → I ρ' → k (bs.map enc) ρ') : lcL vs g tt te (xs.map h) [] ρ k := by
  suffices H : ∀ (ys : List α) (acc : List β) (ρ : DEnv), (∀ y ∈ ys, y ∈ xs) → acc.length + ys.length = xs.length → (∀ b ∈ acc, R b) → I ρ → lcL vs g tt te (ys.map h) (acc.map enc) ρ k from H xs [] ρ (fun _ z => z) (by simp) (fun _ z => nomatch z) hi
  intro ys
  induction ys with
  | nil => intro acc ρ _ hl ha hi; exact hk acc ρ (by simpa using hl) ha hi
  | cons y ys ih =>
    intro acc ρ hm hl2 ha hi
    rw [List.map_cons, lcL_cons]
    simp only [List.length_cons] at hl2
    refine hs y ρ (fun d ρ4 => (acc.map enc).length < 16777216 ∧ clK ρ4 vs fun ρ5 => lcL vs g tt te (ys.map h) (acc.map enc ++ [d]) ρ5 k) _ (hm y List.mem_cons_self) hi fun b ρ' ρ4 hb hi' c => ⟨by rw [List.length_map]; omega, clK_of c ?_⟩
    have := ih (acc ++ [b]) ρ' (fun z hz => hm z (List.mem_cons_of_mem _ hz)) (by simp; omega) (fun z hz => by
      rcases List.mem_append.mp hz with q | q
      · exact ha z q
      · rw [List.mem_singleton.mp q]; exact hb) hi'
    rw [List.map_append] at this
    exact this
/-- each item to one, where p says so -/
theorem lc_flt (f : α → D) (p : α → Bool) (xs : List α) (hs : ∀ (a : α) (K : D → DEnv → Prop) (K0 : DEnv → Prop), a ∈ xs → (p a = true → ∀ ρ4, clr ρ4 vs = some ρ → K (f a) ρ4) → (p a = false → ∀ ρ4, clr ρ4 vs = some ρ → K0 ρ4) → turnK vs g tt te (h a) ρ K K0)
    (hl : xs.length ≤ 16777216) (hk : k ((xs.filter p).map f) ρ) : lcL vs g tt te (xs.map h) [] ρ k := by
  suffices H : ∀ (ys : List α) (acc : List D), (∀ y ∈ ys, y ∈ xs) → acc.length + ys.length ≤ 16777216 → k (acc ++ (ys.filter p).map f) ρ → lcL vs g tt te (ys.map h) acc ρ k from H xs [] (fun _ z => z) (by simpa using hl) (by simpa using hk)
  intro ys
  induction ys with
  | nil => intro acc _ _ hk; simpa [lcL] using hk
  | cons y ys ih =>
    intro acc hm hl hk
    rw [List.map_cons, lcL_cons]
    refine hs y (fun d ρ4 => acc.length < 16777216 ∧ clK ρ4 vs fun ρ5 => lcL vs g tt te (ys.map h) (acc ++ [d]) ρ5 k) (fun ρ2 => clK ρ2 vs fun ρ5 => lcL vs g tt te (ys.map h) acc ρ5 k) (hm y List.mem_cons_self) (fun hp ρ4 c => ⟨by simp at hl; omega, clK_of c ?_⟩) fun hp ρ4 c => clK_of c ?_
    · exact ih (acc ++ [f y]) (fun z hz => hm z (List.mem_cons_of_mem _ hz)) (by simp at hl ⊢; omega) (by simpa [hp] using hk)
    · exact ih acc (fun z hz => hm z (List.mem_cons_of_mem _ hz)) (by simp at hl ⊢; omega) (by simpa [hp] using hk)
/-- each item to one -/
theorem lc_map (f : α → D) (xs : List α) (hs : ∀ (a : α) (K : D → DEnv → Prop) (K0 : DEnv → Prop), a ∈ xs → (∀ ρ4, clr ρ4 vs = some ρ → K (f a) ρ4) → turnK vs g tt te (h a) ρ K K0)
    (hl : xs.length ≤ 16777216) (hk : k (xs.map f) ρ) : lcL vs g tt te (xs.map h) [] ρ k :=
  lc_flt f (fun _ => true) xs (fun a K K0 ha hK _ => hs a K K0 ha (hK rfl)) hl (by rw [List.filter_eq_self.mpr fun _ _ => rfl]; exact hk)
/-- two clauses: the inner one's items for each of the outer ones -/
theorem lc2_map (f : α → List D) (xs : List α)
    (hs : ∀ (a : α) (acc : List D) (K : List D → DEnv → Prop) (K0 : DEnv → Prop), a ∈ xs → acc.length + (f a).length ≤ 16777216 → (∀ ρ4, clr ρ4 vs = some ρ → K (acc ++ f a) ρ4) → clK ρ vs fun ρ0 => g (h a) ρ0 fun ρ1 => tt ρ1 fun b ρ2 => match b with
      | true => wi1 ρ2 fun ds1 ρ3 => clK ρ3 vs1 fun ρ4 => lcL vs1 g1 tt1 te ds1 acc ρ4 K
      | false => K0 ρ2) (hl : (xs.flatMap f).length ≤ 16777216) (hk : k (xs.flatMap f) ρ) : lc2L vs vs1 g tt wi1 g1 tt1 te (xs.map h) [] ρ k := by
  suffices H : ∀ (ys : List α) (acc : List D), (∀ y ∈ ys, y ∈ xs) → acc.length + (ys.flatMap f).length ≤ 16777216 → k (acc ++ ys.flatMap f) ρ → lc2L vs vs1 g tt wi1 g1 tt1 te (ys.map h) acc ρ k from H xs [] (fun _ z => z) (by simpa using hl) (by simpa using hk)
  intro ys
  induction ys with
  | nil => intro acc _ _ hk; simpa [lc2L] using hk
  | cons y ys ih =>
    intro acc hm hl hk
    rw [List.flatMap_cons, List.length_append] at hl
    show clK ρ vs _
    exact hs y acc _ _ (hm y List.mem_cons_self) (by omega) fun ρ4 c => clK_of c (ih _ (fun z hz => hm z (List.mem_cons_of_mem _ hz)) (by rw [List.length_append]; omega) (by simpa using hk))
/-- .. the inner clause, ahead of it acc -/
theorem lc_in (f : α → D) (p : α → Bool) (xs : List α) {acc : List D} (hs : ∀ (a : α) (K : D → DEnv → Prop) (K0 : DEnv → Prop), a ∈ xs → (p a = true → ∀ ρ4, clr ρ4 vs = some ρ → K (f a) ρ4) → (p a = false → ∀ ρ4, clr ρ4 vs = some ρ → K0 ρ4) → turnK vs g tt te (h a) ρ K K0)
    (hl : acc.length + xs.length ≤ 16777216) (hk : k (acc ++ (xs.filter p).map f) ρ) : lcL vs g tt te (xs.map h) acc ρ k := by
  induction xs generalizing acc with
  | nil => simpa [lcL] using hk
  | cons y ys ih =>
    rw [List.map_cons, lcL_cons]
    refine hs y (fun d ρ4 => acc.length < 16777216 ∧ clK ρ4 vs fun ρ5 => lcL vs g tt te (ys.map h) (acc ++ [d]) ρ5 k) (fun ρ2 => clK ρ2 vs fun ρ5 => lcL vs g tt te (ys.map h) acc ρ5 k) List.mem_cons_self (fun hp ρ4 c => ⟨by simp at hl; omega, clK_of c ?_⟩) fun hp ρ4 c => clK_of c ?_
    · exact ih (fun a K K0 ha => hs a K K0 (List.mem_cons_of_mem _ ha)) (by simp at hl ⊢; omega) (by simpa [hp] using hk)
    · exact ih (fun a K K0 ha => hs a K K0 (List.mem_cons_of_mem _ ha)) (by simp at hl ⊢; omega) (by simpa [hp] using hk)
end
/-! ### what is walked, as the image of a list -/
def enI {α : Type} : Nat → List α → List (Nat × α)
  | _, [] => []
  | i, a :: as => (i, a) :: enI (i + 1) as
theorem enum_map {α : Type} (h : α → D) : ∀ (i : Nat) (xs : List α), enumD i (xs.map h) = (enI i xs).map fun p => wkD [.int (p.1 : Nat), h p.2]
  | _, [] => rfl
  | i, a :: as => by
    show wkD [.int (i : Nat), h a] :: enumD (i + 1) (as.map h) = _
    rw [enum_map h (i + 1) as]; rfl
theorem enI_len {α : Type} : ∀ (i : Nat) (xs : List α), (enI i xs).length = xs.length
  | _, [] => rfl
  | i, a :: as => by unfold enI; rw [List.length_cons, List.length_cons, enI_len]
theorem enI_mem {α : Type} : ∀ {i : Nat} {xs : List α} {p : Nat × α}, p ∈ enI i xs → i ≤ p.1 ∧ p.1 < i + xs.length ∧ xs[p.1 - i]? = some p.2 ∧ p.2 ∈ xs
  | _, [], _, h => nomatch h
  | i, a :: as, p, h => by
    unfold enI at h
    rcases List.mem_cons.mp h with e | h
    · subst e; exact ⟨Nat.le_refl _, by rw [List.length_cons]; omega, by simp, List.mem_cons_self⟩
    · obtain ⟨h1, h2, h3, h4⟩ := enI_mem h
      refine ⟨by omega, by rw [List.length_cons]; omega, ?_, List.mem_cons_of_mem _ h4⟩
      rw [show p.1 - i = (p.1 - (i + 1)) + 1 by omega, List.getElem?_cons_succ]; exact h3
theorem pairs_map {α β : Type} (f : α → D) (g : β → D) : ∀ (xs : List α) (ys : List β), pairsD (xs.map f) (ys.map g) = (xs.zip ys).map fun p => wkD [f p.1, g p.2]
  | [], _ => rfl
  | _ :: _, [] => rfl
  | a :: as, b :: bs => by
    show wkD [f a, g b] :: pairsD (as.map f) (bs.map g) = _
    rw [pairs_map f g as bs]; rfl
/-- whole numbers from lo on, by steps of c -/
def upC (lo c : Int) (n : Nat) : List Int := (List.range n).map fun i => lo + (i : Nat) * c
theorem rng_upC (lo c : Int) (n : Nat) : rngC lo c n = (upC lo c n).map PyData.int := by
  unfold rngC upC
  rw [List.map_map]; rfl
theorem upC_len (lo c : Int) (n : Nat) : (upC lo c n).length = n := by simp [upC]
theorem boolsK_map {α : Type} {f : α → Bool} : ∀ {xs : List α} {k : List Bool → Prop}, k (xs.map f) → boolsK (xs.map fun x => .bool (f x)) k
  | [], _, h => h
  | x :: xs, k, h => boolsK_map (xs := xs) (k := fun bs => k (f x :: bs)) h
/-! ### lists without doubles -/
theorem nodup_len {α : Type} [BEq α] [LawfulBEq α] : ∀ (l D : List α), l.Nodup → (∀ x ∈ l, x ∈ D) → l.length ≤ D.length
  | [], _, _, _ => Nat.zero_le _
  | x :: l, D, hn, hs => by
    obtain ⟨h1, h2⟩ := List.nodup_cons.mp hn
    have hx : x ∈ D := hs x List.mem_cons_self
    have ih := nodup_len l (D.erase x) h2 fun y hy => (List.mem_erase_of_ne (a := y) (b := x) fun e => h1 (by rw [← e]; exact hy)).2 (hs y (List.mem_cons_of_mem _ hy))
    have e := List.length_erase_of_mem hx
    have hp : 0 < D.length := List.length_pos_of_mem hx
    rw [List.length_cons]; omega
theorem nodup_perm {α : Type} [BEq α] [LawfulBEq α] : ∀ (l D : List α), l.Nodup → (∀ x ∈ l, x ∈ D) → D.length ≤ l.length → l.Perm D
  | [], D, _, _, hl => by rw [List.length_eq_zero_iff.mp (Nat.le_zero.mp hl)]
  | x :: l, D, hn, hs, hl => by
    obtain ⟨h1, h2⟩ := List.nodup_cons.mp hn
    have hx : x ∈ D := hs x List.mem_cons_self
    have e := List.length_erase_of_mem hx
    rw [List.length_cons] at hl
    have ih := nodup_perm l (D.erase x) h2 (fun y hy => (List.mem_erase_of_ne (a := y) (b := x) fun e => h1 (by rw [← e]; exact hy)).2 (hs y (List.mem_cons_of_mem _ hy))) (by omega)
    exact (ih.cons x).trans (List.perm_cons_erase hx).symm
theorem upI_nodup (lo : Int) (n : Nat) : (upI lo n).Nodup := by
  unfold upI
  exact List.Pairwise.map _ (fun a b h => by omega) (List.pairwise_lt_range (n := n))
end DL
set_option maxRecDepth 100000
set_option maxHeartbeats 1000000
namespace DL
open PySem PySem.Spec L2 LamX PyProof.Rows PySem.W
section
variable {K : PySem.W.Frag} {T : Tb} {E0 B O : As} {σ : L2.St} {ρ ρ1 ρ2 : DEnv} {H H1 : Hp} {vs us : List V} {v : V} {X : Cx}
/-! ### sorted of data: any length, by the order of data -/
theorem collect_tuple {prog : Program} {w : World} {A : Around} {E : Value → Shared → Prop} {s : Shared} {l : Addr} {vs : List Value} {Q : List Value → Shared → Prop} (hl : s.heap.IsTuple l vs.toArray)
    (h : Q vs { s with heap := (s.heap.push (seqObj "list" #[] 0)).update s.heap.objs.size (Obj.mapSeq (· ++ vs.toArray)) }) (hsz : vs.length ≤ sizeLine) :
    wpAny (model prog w) A (collect (.ref l)) Q E s := by
  obtain ⟨o, ho, hc, n, hd⟩ := id hl
  unfold collect
  refine wpAny_bind (wpAny_runValue (codeAny_builtin entry_proto_collect' ?_))
  show wpAny _ _ (do again (.builtin "list.__iadd__" ⟨[← newList [], .ref l], []⟩)) _ _ s
  refine wpAny_bind (wpAny_newList (wpAny_pure ⟨Code.quiet_builtin _ (by decide +kernel), codeAny_builtin entry_list_iadd' ?_⟩))
  show wpAny _ _ (Builtin.List.listExtendWith (.ref s.heap.objs.size) (.ref l) (.ref s.heap.objs.size)) _ _ { s with heap := s.heap.push (seqObj "list" #[] 0) }
  unfold Builtin.List.listExtendWith
  have ho' : (s.heap.push (seqObj "list" #[] 0)).get? l = some o := Heap.get?_push_of_some _ ho
  refine wpAny_bind (wpAny_typeOf (T := "tuple") ⟨o, ho', hc⟩ ?_)
  have ht : (Value.type "tuple" == Value.type "tuple") = true := by rfl
  rw [if_pos (by rw [ht]; simp)]
  refine wpAny_bind (listItems_at ho' hd ?_)
  refine wpAny_bind (listItems_at (xs := #[]) (n := 0) (Heap.get?_push_size _ rfl) rfl ?_)
  rw [if_neg (by simp)]
  refine wpAny_bind (listUpdate_at (xs := #[]) (n := 0) (Heap.get?_push_size _ rfl) rfl ?_ (Nat.zero_le _) (by show (#[] ++ vs.toArray).size ≤ sizeLine + 1; simp only [Array.size_append, List.size_toArray, List.length_nil]; omega))
  refine wpAny_pure ?_
  show wpAny (model prog w) A (do
      let o ← load s.heap.objs.size
      match o.data with
      | .seq xs _ => pure xs.toList
      | _ => unsupported "internal:collect") Q E { s with heap := (s.heap.push (seqObj "list" #[] 0)).update s.heap.objs.size (Obj.mapSeq (· ++ vs.toArray)) }
  refine wpAny_bind (wpAny_load (get?_update_seq (Heap.get?_push_size _ rfl) _) ?_)
  show wpAny _ _ (pure ((#[] : Array Value) ++ vs.toArray).toList) Q E _
  rw [show ((#[] : Array Value) ++ vs.toArray).toList = vs by simp]
  exact wpAny_pure h
theorem sorted_of_sortT {prog : Program} {w : World} {A : Around} {E : Value → Shared → Prop} {s : Shared} {l : Addr} {vs : List Value} {kw : List (Str × Value)} {Q : Value → Shared → Prop} (hl : s.heap.IsTuple l vs.toArray) (hL : vs.length ≤ sizeLine) (ha1 : argsOk "sorted" ⟨[.ref l], kw⟩) (ha2 : ∀ x, argsOk "list.sort" ⟨[.ref x], kw⟩)
    (body : ∀ E' : Value → Shared → Prop, wpAny (model prog w) A.in1.in1 (Builtin.«list.sort» ⟨[.ref (s.heap.objs.size + 1)], kw⟩) (fun f s' => f = .done (.ret .none) ∧ Q (.ref (s.heap.objs.size + 1)) s') E' { s with heap := copyHeap s.heap vs }) :
    wpAny (model prog w) A (call (.builtin "sorted") [.ref l] kw) Q E s := by
  refine call_function_entry_kw kind_sorted plain_sorted entry_sorted ha1 ?_
  unfold Builtin.«sorted»
  refine wpAny_bind (m := checkCount "sorted" 1 1 _) (wpAny_pure ?_)
  refine wpAny_bind (collect_tuple hl ?_ hL)
  refine wpAny_bind (wpAny_newList ?_ hL)
  have hsz : ((s.heap.push (seqObj "list" #[] 0)).update s.heap.objs.size (Obj.mapSeq (· ++ vs.toArray))).objs.size = s.heap.objs.size + 1 := by
    rw [Heap.size_update, size_push']
  show wpAny _ _ _ _ _ { s with heap := copyHeap s.heap vs }
  rw [hsz]
  refine wpAny_bind (wpAny_holding (wpAny_call_entry_kw slot_list_sort ⟨_, copyHeap_at s.heap vs, rfl⟩ entry_list_sort ?body (ha2 _)))
  case body =>
    show wpAny (model prog w) A.in1.in1 (Builtin.«list.sort» ⟨[.ref (s.heap.objs.size + 1)], kw⟩) _ _ _
    refine wpAny_mono (body _) (fun f s' hf => ?_) fun _ _ e => e
    obtain ⟨rfl, hq⟩ := hf
    exact ⟨_, rfl, wpAny_pure ⟨_, rfl, hq⟩⟩
def rSortedD (K : PySem.W.Frag) : List V → Hp → VK → Prop := fun vs H Q => ∃ (a : Addr) (ps : List (V × D)), vs = [.ref a] ∧ (SqL K H a (ps.map (·.1)) ∨ SqT K H a (ps.map (·.1))) ∧ (∀ p ∈ ps, Dp K H p.1 p.2) ∧ AllAlike (ps.map (·.2)) ∧ Sortable (ps.map (·.2)) ∧ (∀ p ∈ ps, p.2.depth ≤ 60) ∧
  ∀ p, H p = none → Q (.ref p) (upd H p (.lst ((ps.mergeSort (dataLe false (·.2))).map (·.1))))
theorem each_vals : ∀ {ps : List (V × D)} {its : List Value}, Vals (ps.map (·.1)) its → EachIs (fun u (p : V × D) => RelV p.1 u) its ps
  | [], _, .nil => .nil
  | _ :: _, _, .cons r t => .cons r (each_vals t)
theorem vals_each : ∀ {ps : List (V × D)} {its : List Value}, EachIs (fun u (p : V × D) => RelV p.1 u) its ps → Vals (ps.map (·.1)) its
  | [], _, .nil => .nil
  | _ :: _, _, .cons r t => .cons r (vals_each t)
theorem each_reads {pins : List (Addr × Obj)} {s : Shared} (I : Inv X pins σ H s) : ∀ {ps : List (V × D)} {its : List Value}, Vals (ps.map (·.1)) its → (∀ p ∈ ps, Dp X.K H p.1 p.2) → EachIs (fun u (p : V × D) => ∃ as, Reads s.heap u p.2 as) its ps
  | [], _, .nil, _ => .nil
  | p :: _, _, .cons r t, h => .cons (Dp.reads I p.2 p.1 _ (h p List.mem_cons_self) r) (each_reads I t fun q hq => h q (List.mem_cons_of_mem _ hq))
theorem cr_sortedD (hu : X.A.units + 64 < cLine) : CallR X (.builtin "sorted") (rSortedD X.K) := by
  intro pins s σ H vs us Q I r h
  obtain ⟨a, ps, rfl, hs, hd, hal, hso, hdp, q⟩ := h
  rw [Vals.ref1 r]
  have fin : ∀ (its : List Value), Vals (ps.map (·.1)) its → ps.length ≤ sizeLine → ∀ out : List Value, out.length = ps.length → EachIs (fun u (p : V × D) => RelV p.1 u) out (ps.mergeSort (dataLe false (·.2))) → ∃ v H', Inv X pins σ H' { s with heap := sortedAll s.heap its (List.toArray out) } ∧ RelV v (.ref (s.heap.objs.size + 1)) ∧ Q v H' := fun its rv hL out hlen he => by
    obtain ⟨ep, he'⟩ := PyProof.Rows.sortedAll_at s.heap its out.toArray
    have hl2 : ((ps.mergeSort (dataLe false (·.2))).map (·.1)).length ≤ sizeLine := by rw [List.length_map, List.length_mergeSort]; exact hL
    exact ⟨.ref _, upd H (s.heap.objs.size + 1) (.lst ((ps.mergeSort (dataLe false (·.2))).map (·.1))), I.laid (t' := s.toks) (fun _ _ => PyProof.Rows.sortedAll_old) (Nat.le_succ _) ⟨hl2, out, ep, vals_each he, he'⟩, rfl, q _ (I.hok.fresh (Nat.le_succ _))⟩
  rcases hs with hs | hs
  · obtain ⟨its, rv, hl, hz⟩ := I.list hs
    rw [List.length_map] at hz
    exact sorted_data hl.isList (each_vals rv) (each_reads I rv hd) hal hso hz (fun p hp => by have := hdp p hp; show X.A.units + 2 + p.2.depth < cLine; omega) fun out hlen he => fin its rv hz out hlen he
  · obtain ⟨its, rv, hl, hz⟩ := I.tuple hs
    rw [List.length_map] at hz
    have er := each_reads I rv hd
    have e := each_vals rv
    have er' : EachIs (fun v (b : V × D) => ∃ as, Reads (sortingHeap (copyHeap s.heap its) (s.heap.objs.size + 1) its) v b.2 as) its ps := er.mono fun _ _ ⟨as, r⟩ => ⟨as, PyProof.Rows.Reads.keeps (fun _ _ => sorting_copy_old) r⟩
    have bd : ∀ d, d ∈ ps.map (fun p : V × D => p.2) → X.A.in1.in1.units + d.depth < cLine := fun d hd => by
      obtain ⟨p, hp, e⟩ := List.mem_map.mp hd
      subst e
      have := hdp p hp
      show X.A.units + 2 + p.2.depth < cLine
      omega
    exact sorted_of_sortT (show s.heap.IsTuple a its.toArray from hl) (by rw [← rv.length, List.length_map]; exact hz) (args_sorted1 _) (fun _ => args_list_sort _) fun _ => list_sort_vals (s := { s with heap := copyHeap s.heap its }) (copyHeap_at s.heap its) (SortsAt.data (s := { s with heap := sortingHeap (copyHeap s.heap its) (s.heap.objs.size + 1) its }) (each_map (R := fun v d => ∃ as, Reads (sortingHeap (copyHeap s.heap its) (s.heap.objs.size + 1) its) v d as) (fun p : V × D => p.2) er') hal hso bd) (by rw [← rv.length, List.length_map]; exact hz)
      ⟨rfl, fin its rv hz _ (by rw [sortVals_length false rfl]; exact e.length) (sortVals_data false e er' hal)⟩

def srtD (xs : List D) : List D := xs.mergeSort (dataLe false fun d => d)
/-- what can be sorted, and compared -/
structure Srtb (xs : List D) : Prop where
  al : AllAlike xs
  so : Sortable xs
  can : PyData.canLayAll0 xs = true
  dp : ∀ x ∈ xs, x.depth ≤ 60
def gSorted (ds : List D) (k : DV → Prop) : Prop := oneK ds fun d => itK d fun xs => Srtb xs ∧ k (.new (.lst (srtD xs)))
theorem can_mem : ∀ {xs : List D} {x : D}, PyData.canLayAll0 xs = true → x ∈ xs → x.canLay0 = true
  | y :: ys, x, h, hx => by
    rw [PyData.canLayAll0, Bool.and_eq_true] at h
    rcases List.mem_cons.mp hx with e | hx
    · rw [e]; exact h.1
    · exact can_mem h.2 hx
theorem zip_rp : ∀ {ws : List V} {ys : List D}, RpL K O H ws ys → (ws.zip ys).map (·.1) = ws ∧ (ws.zip ys).map (·.2) = ys ∧ ∀ p ∈ ws.zip ys, Rp K O H p.1 p.2
  | _, _, .nil => ⟨rfl, rfl, fun _ h => nomatch h⟩
  | _, _, .cons r t => by
    obtain ⟨a, b, c⟩ := zip_rp t
    refine ⟨by rw [List.zip_cons_cons, List.map_cons, a], by rw [List.zip_cons_cons, List.map_cons, b], fun p hp => ?_⟩
    rw [List.zip_cons_cons] at hp
    rcases List.mem_cons.mp hp with e | hp
    · rw [e]; exact r
    · exact c p hp
theorem rpl_map : ∀ {qs : List (V × D)}, (∀ p ∈ qs, Rp K O H p.1 p.2) → RpL K O H (qs.map (·.1)) (qs.map (·.2))
  | [], _ => .nil
  | q :: qs, h => .cons (h q List.mem_cons_self) (rpl_map fun p hp => h p (List.mem_cons_of_mem _ hp))
theorem sorted_op : OpN K (rSortedD K) gSorted := by
  intro O H xs ds Qd Q ob hx hg k
  obtain ⟨v, d, e, h, hg⟩ := one_inv hx hg
  subst e
  obtain ⟨a, ws, ys, e, h1, h2, sb, q⟩ := h.items hg
  obtain ⟨z1, z2, z3⟩ := zip_rp h2
  have mm : (((ws.zip ys).mergeSort (dataLe false (·.2))).map (·.2)) = srtD ys := by
    unfold srtD
    have := List.map_mergeSort (r := dataLe false fun p : V × D => p.2) (s := dataLe false fun d : D => d) (f := fun p : V × D => p.2) (l := ws.zip ys) (fun a _ b _ => rfl)
    rw [z2] at this
    exact this
  refine ⟨a, ws.zip ys, by rw [e], by rw [z1]; exact h1, fun p hp => (z3 p hp).dp (can_mem (x := p.2) (by rw [← z2] at sb; exact sb.can) (List.mem_map.mpr ⟨p, hp, rfl⟩)), by rw [z2]; exact sb.al, by rw [z2]; exact sb.so, fun p hp => sb.dp p.2 (by rw [← z2]; exact List.mem_map.mpr ⟨p, hp, rfl⟩), fun l hl => ?_⟩
  refine k _ _ (.new (.lst (srtD ys))) q (Same.upd hl) (Fre.upd _ _ _) (opaft_lst ob hl ?_)
  rw [← mm]
  exact rpl_map fun p hp => z3 p ((List.mergeSort_perm _ _).mem_iff.mp hp)
/-! ### the order of data -/
theorem alike_self {xs : List D} (h : AllAlike xs) {x : D} (hx : x ∈ xs) : alike x x = true := h x hx x hx
def CmpOk (d e : D) : Prop := alike d e = true ∧ d ≠ .none ∧ d.canLay0 = true ∧ e.canLay0 = true ∧ d.depth ≤ 60
def rCmpD (K : PySem.W.Frag) (f : D → D → Bool) : R2 := fun x y H Q => ∃ d e, Dp K H x d ∧ Dp K H y e ∧ alike d e = true ∧ d ≠ .none ∧ d.depth ≤ 60 ∧ Q (.bl (f d e)) H
theorem op_ltD (hu : X.A.units + 64 < cLine) : OpR X (compareOp .Lt) (rCmpD X.K fun d e => dataLt d e) := fun pins s σ H x y v u Q I rx ry ⟨d, e, hd, he, ha, hn, hp, q⟩ => by
  obtain ⟨m1, r1⟩ := Dp.reads I d x v hd rx
  obtain ⟨m2, r2⟩ := Dp.reads I e y u he ry
  exact lt_data r1 r2 ha hn (by omega) ⟨.bl _, H, I, rfl, q⟩
theorem op_gtD (hu : X.A.units + 64 < cLine) : OpR X (compareOp .Gt) (rCmpD X.K fun d e => dataLt e d) := fun pins s σ H x y v u Q I rx ry ⟨d, e, hd, he, ha, hn, hp, q⟩ => by
  obtain ⟨m1, r1⟩ := Dp.reads I d x v hd rx
  obtain ⟨m2, r2⟩ := Dp.reads I e y u he ry
  exact gt_data r1 r2 ha hn (by omega) ⟨.bl _, H, I, rfl, q⟩
theorem op_leD (hu : X.A.units + 64 < cLine) : OpR X (compareOp .LtE) (rCmpD X.K fun d e => !dataLt e d) := fun pins s σ H x y v u Q I rx ry ⟨d, e, hd, he, ha, hn, hp, q⟩ => by
  obtain ⟨m1, r1⟩ := Dp.reads I d x v hd rx
  obtain ⟨m2, r2⟩ := Dp.reads I e y u he ry
  exact le_data r1 r2 ha hn (by omega) ⟨.bl _, H, I, rfl, q⟩
theorem op_geD (hu : X.A.units + 64 < cLine) : OpR X (compareOp .GtE) (rCmpD X.K fun d e => !dataLt d e) := fun pins s σ H x y v u Q I rx ry ⟨d, e, hd, he, ha, hn, hp, q⟩ => by
  obtain ⟨m1, r1⟩ := Dp.reads I d x v hd rx
  obtain ⟨m2, r2⟩ := Dp.reads I e y u he ry
  exact ge_data r1 r2 ha hn (by omega) ⟨.bl _, H, I, rfl, q⟩
/-- of whole numbers, or of data -/
def gCmp (c : Int → Int → Bool) (f : D → D → Bool) (d e : D) (k : DV → Prop) : Prop := match d, e with
  | .int i, .int j => k (.val (.bool (c i j)))
  | d, e => CmpOk d e ∧ k (.val (.bool (f d e)))
abbrev gLtA := gCmp (fun i j => decide (i < j)) fun d e => dataLt d e
abbrev gGtA := gCmp (fun i j => decide (j < i)) fun d e => dataLt e d
abbrev gLeA := gCmp (fun i j => decide (i ≤ j)) fun d e => !dataLt e d
abbrev gGeA := gCmp (fun i j => decide (j ≤ i)) fun d e => !dataLt d e
theorem cmp_opA {c : Int → Int → Bool} {f : D → D → Bool} : Op2 K (fun x y H Q => (rI0 fun i j => .bl (c i j)) x y H Q ∨ rCmpD K f x y H Q) (gCmp c f) := by
  intro O H x y d e Qd Q ob hx hy hg k
  unfold gCmp at hg
  split at hg
  · refine .inl ⟨_, _, hx.int, hy.int, k _ _ _ hg (Same.refl _) (Fre.refl _) (.bl _)⟩
  · obtain ⟨⟨a, n, c1, c2, p⟩, q⟩ := hg
    exact .inr ⟨_, _, hx.dp c1, hy.dp c2, a, n, p, k _ _ _ q (Same.refl _) (Fre.refl _) (.bl _)⟩
theorem op_ltA (hu : X.A.units + 64 < cLine) : OpR X (compareOp .Lt) (fun x y H Q => (rI0 fun i j => .bl (decide (i < j))) x y H Q ∨ rCmpD X.K (fun d e => dataLt d e) x y H Q) := op_lt.or (op_ltD hu)
theorem op_gtA (hu : X.A.units + 64 < cLine) : OpR X (compareOp .Gt) (fun x y H Q => (rI0 fun i j => .bl (decide (j < i))) x y H Q ∨ rCmpD X.K (fun d e => dataLt e d) x y H Q) := op_gt.or (op_gtD hu)
theorem op_leA (hu : X.A.units + 64 < cLine) : OpR X (compareOp .LtE) (fun x y H Q => (rI0 fun i j => .bl (decide (i ≤ j))) x y H Q ∨ rCmpD X.K (fun d e => !dataLt e d) x y H Q) := op_le.or (op_leD hu)
theorem op_geA (hu : X.A.units + 64 < cLine) : OpR X (compareOp .GtE) (fun x y H Q => (rI0 fun i j => .bl (decide (j ≤ i))) x y H Q ∨ rCmpD X.K (fun d e => !dataLt d e) x y H Q) := op_ge.or (op_geD hu)

/-! ### min, max of data, with a default or without -/
theorem zip_get {ws : List V} {ys : List D} {i : Nat} {d : D} (hl : ws.length = ys.length) (h : ys[i]? = some d) : ∃ v, ws[i]? = some v ∧ (ws.zip ys)[i]? = some (v, d) := by
  have il : i < ys.length := (List.getElem?_eq_some_iff.mp h).1
  have jl : i < ws.length := by omega
  refine ⟨ws[i], List.getElem?_eq_getElem jl, ?_⟩
  rw [List.getElem?_zip_eq_some]
  exact ⟨List.getElem?_eq_getElem jl, h⟩
/-- mn: minD or maxD; the answer is one of the items, that of mn's data -/
def rBest (K : PySem.W.Frag) (mn : D → List D → D) : List V → Hp → VK → Prop := fun vs H Q => ∃ (a : Addr) (ps : List (V × D)) (d0 : D) (ds : List D), vs = [.ref a] ∧ (SqL K H a (ps.map (·.1)) ∨ SqT K H a (ps.map (·.1))) ∧ (∀ p ∈ ps, Dp K H p.1 p.2) ∧ ps.map (·.2) = d0 :: ds ∧ AlikeAll (d0 :: ds) ∧ PyData.depthAll (d0 :: ds) ≤ 60 ∧ ∀ p ∈ ps, p.2 = mn d0 ds → Q p.1 H
theorem all_reads {pins : List (Addr × Obj)} {s : Shared} (I : Inv X pins σ H s) {ps : List (V × D)} {its : List Value} (hv : Vals (ps.map (·.1)) its) (hd : ∀ p ∈ ps, Dp X.K H p.1 p.2) : ∃ as, ReadsAll s.heap its (ps.map (·.2)) as := by
  induction ps generalizing its with
  | nil => cases hv; exact ⟨_, .nil⟩
  | cons p ps ih =>
    cases hv with
    | cons r t =>
      obtain ⟨as, h1⟩ := ih t fun q hq => hd q (List.mem_cons_of_mem _ hq)
      obtain ⟨bs, h2⟩ := Dp.reads I p.2 p.1 _ (hd p List.mem_cons_self) r
      exact ⟨_, .cons h2 h1⟩
theorem best_at {pins : List (Addr × Obj)} {s : Shared} {h' : Heap} {mn : D → List D → D} {ps : List (V × D)} {its : List Value} {d0 : D} {ds : List D} {as bs : List Addr} {i : Nat} {u : Value} (hm : mn d0 ds ∈ d0 :: ds) (hv : Vals (ps.map (·.1)) its) (e : ps.map (·.2) = d0 :: ds) (hr : ReadsAll s.heap its (d0 :: ds) as) (al : AlikeAll (d0 :: ds)) (hi : its[i]? = some u) (rb : Reads h' u (mn d0 ds) bs) (hk : ∀ b o, s.heap.get? b = some o → h'.get? b = some o) :
    ∃ p ∈ ps, p.2 = mn d0 ds ∧ RelV p.1 u := by
  obtain ⟨cs, r1, il, hin, _⟩ := readsAll_at hr i u hi
  have eqd := alike_unique _ _ _ _ _ (al.1 _ hin _ hm) (reads_keeps hk r1) rb
  have hl : i < ps.length := by
    have := congrArg List.length e
    rw [List.length_map] at this
    omega
  refine ⟨ps[i], List.getElem_mem hl, ?_, ?_⟩
  · rw [← eqd, ← e, List.getD_eq_getElem?_getD, List.getElem?_map, List.getElem?_eq_getElem hl]; rfl
  · have h1 : (ps.map (·.1))[i]? = some ps[i].1 := by rw [List.getElem?_map, List.getElem?_eq_getElem hl]; rfl
    obtain ⟨u', h2, r⟩ := Vals.get hv h1
    rw [hi] at h2; cases h2
    exact r
theorem minD_mem : ∀ (ds : List D) (d0 : D), minD d0 ds ∈ d0 :: ds
  | [], d0 => List.mem_cons_self
  | d :: ds, d0 => by
    show minD (if dataLt d d0 then d else d0) ds ∈ _
    have := minD_mem ds (if dataLt d d0 then d else d0)
    rcases List.mem_cons.mp this with q | q
    · rw [q]; split
      · exact List.mem_cons_of_mem _ List.mem_cons_self
      · exact List.mem_cons_self
    · exact List.mem_cons_of_mem _ (List.mem_cons_of_mem _ q)
theorem maxD_mem : ∀ (ds : List D) (d0 : D), maxD d0 ds ∈ d0 :: ds
  | [], d0 => List.mem_cons_self
  | d :: ds, d0 => by
    show maxD (if dataLt d0 d then d else d0) ds ∈ _
    have := maxD_mem ds (if dataLt d0 d then d else d0)
    rcases List.mem_cons.mp this with q | q
    · rw [q]; split
      · exact List.mem_cons_of_mem _ List.mem_cons_self
      · exact List.mem_cons_self
    · exact List.mem_cons_of_mem _ (List.mem_cons_of_mem _ q)
theorem cr_minD (hc : X.calm = true) (hu : X.A.units + 64 < cLine) : CallR X (.builtin "min") (rBest X.K minD) := by
  intro pins s σ H vs us Q I r h
  obtain ⟨a, ps, d0, ds, rfl, hs, hd, e, al, dp, q⟩ := h
  rw [Vals.ref1 r]
  rcases hs with hs | hs
  · obtain ⟨its, rv, hl, _⟩ := I.list hs
    obtain ⟨as, hr⟩ := all_reads I rv hd
    rw [e] at hr
    refine min_list_data (I.ok.hd hc) hl.isList (by simpa using hr) al (by omega) fun i u h' tk bs hi rb hk => ?_
    obtain ⟨p, hp, ep, rp⟩ := best_at (pins := pins) (minD_mem _ _) rv e hr al (by simpa using hi) rb hk
    exact ⟨p.1, H, I.kept hk, rp, q p hp ep⟩
  · obtain ⟨its, rv, hl, _⟩ := I.tuple hs
    obtain ⟨as, hr⟩ := all_reads I rv hd
    rw [e] at hr
    refine min_tuple_data (I.ok.hd hc) (show s.heap.IsTuple a its.toArray from hl) (by simpa using hr) al (by omega) fun i u h' tk bs hi rb hk => ?_
    obtain ⟨p, hp, ep, rp⟩ := best_at (pins := pins) (minD_mem _ _) rv e hr al (by simpa using hi) rb hk
    exact ⟨p.1, H, I.kept hk, rp, q p hp ep⟩
theorem cr_maxD (hc : X.calm = true) (hu : X.A.units + 64 < cLine) : CallR X (.builtin "max") (rBest X.K maxD) := by
  intro pins s σ H vs us Q I r h
  obtain ⟨a, ps, d0, ds, rfl, hs, hd, e, al, dp, q⟩ := h
  rw [Vals.ref1 r]
  rcases hs with hs | hs
  · obtain ⟨its, rv, hl, _⟩ := I.list hs
    obtain ⟨as, hr⟩ := all_reads I rv hd
    rw [e] at hr
    refine max_list_data (I.ok.hd hc) hl.isList (by simpa using hr) al (by omega) fun i u h' tk bs hi rb hk => ?_
    obtain ⟨p, hp, ep, rp⟩ := best_at (pins := pins) (maxD_mem _ _) rv e hr al (by simpa using hi) rb hk
    exact ⟨p.1, H, I.kept hk, rp, q p hp ep⟩
  · obtain ⟨its, rv, hl, _⟩ := I.tuple hs
    obtain ⟨as, hr⟩ := all_reads I rv hd
    rw [e] at hr
    refine max_tuple_data (I.ok.hd hc) (show s.heap.IsTuple a its.toArray from hl) (by simpa using hr) al (by omega) fun i u h' tk bs hi rb hk => ?_
    obtain ⟨p, hp, ep, rp⟩ := best_at (pins := pins) (maxD_mem _ _) rv e hr al (by simpa using hi) rb hk
    exact ⟨p.1, H, I.kept hk, rp, q p hp ep⟩
/-- what min, max of a list may look at -/
structure Bstb (xs : List D) : Prop where
  al : AlikeAll xs
  can : PyData.canLayAll0 xs = true
  dp : PyData.depthAll xs ≤ 60
def gBest (mn : D → List D → D) (ds : List D) (k : DV → Prop) : Prop := oneK ds fun d => itK d fun xs => match xs with
  | [] => False
  | x :: xs => Bstb (x :: xs) ∧ k (.val (mn x xs))
abbrev gMinL := gBest minD
abbrev gMaxL := gBest maxD
theorem best_op {mn : D → List D → D} : OpN K (rBest K mn) (gBest mn) := by
  intro O H xs ds Qd Q ob hx hg k
  obtain ⟨v, d, e, h, hg⟩ := one_inv hx hg
  subst e
  obtain ⟨a, ws, ys, e, h1, h2, q⟩ := h.items hg
  obtain ⟨z1, z2, z3⟩ := zip_rp h2
  cases ys with
  | nil => exact q.elim
  | cons y ys =>
    obtain ⟨sb, q⟩ := q
    refine ⟨a, ws.zip (y :: ys), y, ys, by rw [e], by rw [z1]; exact h1, fun p hp => (z3 p hp).dp (can_mem (x := p.2) (by rw [← z2] at sb; exact sb.can) (List.mem_map.mpr ⟨p, hp, rfl⟩)), z2, sb.al, sb.dp, fun p hp ep => ?_⟩
    exact k _ _ (.val (mn y ys)) q (Same.refl _) (Fre.refl _) (by rw [← ep]; exact z3 p hp)
end
end DL
set_option maxRecDepth 100000
set_option maxHeartbeats 1000000
namespace DL
open PySem PySem.Spec L2 LamX
/-! ### rows in order, each once -/
abbrev rwD (r : List Int) : D := .tuple (r.map .int)
theorem lt_irr (x : List Int) : ¬ x < x := by
  induction x with
  | nil => exact List.not_lt_nil _
  | cons a x ih => rw [List.cons_lt_cons_iff]; exact fun h => h.elim (Int.lt_irrefl _) fun h => ih h.2
theorem lt_tr : ∀ {x y z : List Int}, x < y → y < z → x < z
  | [], [], _, h, _ => absurd h (List.not_lt_nil _)
  | _ :: _, [], _, h, _ => absurd h (List.not_lt_nil _)
  | _, _ :: _, [], _, h => absurd h (List.not_lt_nil _)
  | [], _ :: _, _ :: _, _, _ => List.nil_lt_cons _ _
  | a :: x, b :: y, c :: z, h1, h2 => by
    rw [List.cons_lt_cons_iff] at h1 h2 ⊢
    rcases h1 with h1 | ⟨e1, h1⟩ <;> rcases h2 with h2 | ⟨e2, h2⟩
    · exact .inl (by omega)
    · exact .inl (by omega)
    · exact .inl (by omega)
    · exact .inr ⟨by omega, lt_tr h1 h2⟩
theorem lt_tot : ∀ (x y : List Int), x < y ∨ x = y ∨ y < x
  | [], [] => .inr (.inl rfl)
  | [], _ :: _ => .inl (List.nil_lt_cons _ _)
  | _ :: _, [] => .inr (.inr (List.nil_lt_cons _ _))
  | a :: x, b :: y => by
    rw [List.cons_lt_cons_iff, List.cons_lt_cons_iff]
    rcases Int.lt_trichotomy a b with h | h | h
    · exact .inl (.inl h)
    · rcases lt_tot x y with g | g | g
      · exact .inl (.inr ⟨h, g⟩)
      · exact .inr (.inl (by rw [h, g]))
      · exact .inr (.inr (.inr ⟨h.symm, g⟩))
    · exact .inr (.inr (.inl h))
def uins (x : List Int) : List (List Int) → List (List Int)
  | [] => [x]
  | y :: ys => if x < y then x :: y :: ys else if x = y then y :: ys else y :: uins x ys
/-- rows in ascending order, each once -/
def usort (rs : List (List Int)) : List (List Int) := rs.foldr uins []
theorem mem_uins {x z : List Int} : ∀ {ys : List (List Int)}, z ∈ uins x ys ↔ z = x ∨ z ∈ ys
  | [] => by simp [uins]
  | y :: ys => by
    unfold uins
    split
    · simp
    · split
      · rename_i e; subst e; simp
      · rw [List.mem_cons, mem_uins, List.mem_cons]
        exact or_left_comm
theorem mem_usort {z : List Int} : ∀ {rs : List (List Int)}, z ∈ usort rs ↔ z ∈ rs
  | [] => Iff.rfl
  | r :: rs => by
    show z ∈ uins r (usort rs) ↔ _
    rw [mem_uins, mem_usort, List.mem_cons]
abbrev Asc (rs : List (List Int)) : Prop := rs.Pairwise (· < ·)
theorem asc_uins {x : List Int} : ∀ {ys : List (List Int)}, Asc ys → Asc (uins x ys)
  | [], _ => List.pairwise_singleton _ _
  | y :: ys, h => by
    obtain ⟨h1, h2⟩ := List.pairwise_cons.mp h
    unfold uins
    split
    · rename_i hx
      exact List.pairwise_cons.mpr ⟨fun z hz => by
        rcases List.mem_cons.mp hz with e | hz
        · rw [e]; exact hx
        · exact lt_tr hx (h1 z hz), h⟩
    · rename_i hx
      split
      · exact h
      · rename_i hn
        refine List.pairwise_cons.mpr ⟨fun z hz => ?_, asc_uins h2⟩
        rcases mem_uins.mp hz with e | hz
        · subst e
          rcases lt_tot z y with g | g | g
          · exact absurd g hx
          · exact absurd g hn
          · exact g
        · exact h1 z hz
theorem asc_usort : ∀ (rs : List (List Int)), Asc (usort rs)
  | [] => List.Pairwise.nil
  | _ :: rs => asc_uins (asc_usort rs)
theorem asc_uniq : ∀ {xs ys : List (List Int)}, Asc xs → Asc ys → (∀ z, z ∈ xs ↔ z ∈ ys) → xs = ys
  | [], [], _, _, _ => rfl
  | [], y :: ys, _, _, h => absurd ((h y).mpr List.mem_cons_self) (fun z => nomatch z)
  | x :: xs, [], _, _, h => absurd ((h x).mp List.mem_cons_self) (fun z => nomatch z)
  | x :: xs, y :: ys, hx, hy, h => by
    obtain ⟨x1, x2⟩ := List.pairwise_cons.mp hx
    obtain ⟨y1, y2⟩ := List.pairwise_cons.mp hy
    have e : x = y := by
      rcases List.mem_cons.mp ((h x).mp List.mem_cons_self) with e | m
      · exact e
      · rcases List.mem_cons.mp ((h y).mpr List.mem_cons_self) with e | m'
        · exact e.symm
        · exact absurd (lt_tr (y1 x m) (x1 y m')) (lt_irr _)
    subst e
    rw [asc_uniq x2 y2 fun z => ?_]
    constructor
    · intro hz
      rcases List.mem_cons.mp ((h z).mp (List.mem_cons_of_mem _ hz)) with e | m
      · exact absurd (e ▸ x1 z hz) (lt_irr _)
      · exact m
    · intro hz
      rcases List.mem_cons.mp ((h z).mpr (List.mem_cons_of_mem _ hz)) with e | m
      · exact absurd (e ▸ y1 z hz) (lt_irr _)
      · exact m
theorem usort_of {xs ys : List (List Int)} (h : Asc xs) (m : ∀ z, z ∈ xs ↔ z ∈ ys) : usort ys = xs := asc_uniq (asc_usort _) h fun z => mem_usort.trans (m z).symm
theorem len_usort : ∀ (rs : List (List Int)), (usort rs).length ≤ rs.length
  | [] => Nat.le_refl 0
  | r :: rs => by
    have key : ∀ (x : List Int) (ys : List (List Int)), (uins x ys).length ≤ ys.length + 1 := fun x ys => by
      induction ys with
      | nil => exact Nat.le_refl 1
      | cons y ys ih =>
        unfold uins
        split
        · exact Nat.le_refl _
        · split
          · exact Nat.le_succ _
          · simp only [List.length_cons]; omega
    have := len_usort rs
    have := key r (usort rs)
    show (uins r (usort rs)).length ≤ _
    rw [List.length_cons]; omega
/-! ### the kit's code of a row tells the order -/
theorem code_bd {B : Int} (hB : 0 < B) : ∀ {x : List Int}, TS.Bd B x → 0 ≤ TS.code B x ∧ TS.code B x < B ^ x.length
  | [], _ => ⟨Int.le_refl _, by show (0 : Int) < B ^ 0; simp⟩
  | a :: x, h => by
    obtain ⟨h1, h2⟩ := code_bd hB h.tail
    obtain ⟨a0, a1⟩ := h.head
    have hp : (0 : Int) < B ^ x.length := Int.pow_pos hB
    have e : B ^ (a :: x).length = B * B ^ x.length := by rw [List.length_cons, Int.pow_succ, Int.mul_comm]
    rw [e]
    show 0 ≤ a * B ^ x.length + TS.code B x ∧ a * B ^ x.length + TS.code B x < _
    have m1 : 0 ≤ a * B ^ x.length := Int.mul_nonneg a0 (Int.le_of_lt hp)
    have m2 : (a + 1) * B ^ x.length ≤ B * B ^ x.length := Int.mul_le_mul_of_nonneg_right (by omega) (Int.le_of_lt hp)
    rw [Int.add_mul, Int.one_mul] at m2
    omega
theorem code_lt {B : Int} (hB : 0 < B) : ∀ {x y : List Int}, TS.Bd B x → TS.Bd B y → x.length = y.length → x < y → TS.code B x < TS.code B y
  | [], [], _, _, _, h => absurd h (List.not_lt_nil _)
  | [], _ :: _, _, _, h, _ => by simp at h
  | _ :: _, [], _, _, h, _ => by simp at h
  | a :: x, b :: y, hx, hy, hl, h => by
    have hl : x.length = y.length := by simpa using hl
    have c1 := code_bd hB hx.tail
    have c2 := code_bd hB hy.tail
    show a * B ^ x.length + TS.code B x < b * B ^ y.length + TS.code B y
    rw [← hl] at c2 ⊢
    rcases List.cons_lt_cons_iff.mp h with h | ⟨e, h⟩
    · have hp : (0 : Int) < B ^ x.length := Int.pow_pos hB
      have m2 : (a + 1) * B ^ x.length ≤ b * B ^ x.length := Int.mul_le_mul_of_nonneg_right (by omega) (Int.le_of_lt hp)
      rw [Int.add_mul, Int.one_mul] at m2
      omega
    · have := code_lt hB hx.tail hy.tail hl h
      rw [e]; omega
/-! ### sorted(set(a list of rows)) -/
def RowsOk (rows : List (List Int)) : Prop := (∃ (n : Nat) (B : Int), 1 ≤ n ∧ 0 < B ∧ ∀ r ∈ rows, r.length = n ∧ ∀ x ∈ r, 0 ≤ x ∧ x < B) ∧ rows.length < 64
def wSortSet (wa : WA) : WE := fun ρ Q => wa ρ fun rs ρ1 => looksK ρ1 rs fun ds => oneK ds fun d => lstK d fun xs => ∃ rows : List (List Int), xs = rows.map rwD ∧ RowsOk rows ∧ Q (.new (.lst ((usort rows).map rwD))) ρ1
section
variable {K : PySem.W.Frag} {T : Tb} {E0 B O : As} {σ : L2.St} {ρ ρ1 ρ2 : DEnv} {H H1 : Hp} {vs us : List V} {v : V} {X : Cx} {e : Expr} {pos p p2 q : Pos}
theorem ints_rpl : ∀ {xs : List V} {r : List Int}, RpL K O H xs (r.map .int) → xs = r.map V.int
  | [], [], _ => rfl
  | _, _ :: _, .cons h t => by cases h; rw [List.map_cons, ints_rpl t]
  | _ :: _, [], h => nomatch h
theorem rows_rpl : ∀ {ws : List V} {rows : List (List Int)}, RpL K O H ws (rows.map rwD) → ∃ ks : List (Addr × List Int), ws = ks.map (fun p => V.ref p.1) ∧ ks.map (·.2) = rows ∧ ∀ p ∈ ks, SqP K H p.1 (p.2.map V.int)
  | [], [], _ => ⟨[], rfl, rfl, fun _ h => nomatch h⟩
  | _ :: _, [], h => nomatch h
  | _, r :: rows, .cons h t => by
    obtain ⟨ks, e1, e2, h3⟩ := rows_rpl t
    cases h with
    | tup hs hr =>
      rename_i a xs
      have := ints_rpl hr
      subst this
      refine ⟨(a, r) :: ks, by rw [e1]; rfl, by rw [List.map_cons, e2], fun p hp => ?_⟩
      rcases List.mem_cons.mp hp with e | hp
      · rw [e]; exact hs
      · exact h3 p hp
theorem rpl_rows : ∀ {ks : List (Addr × List Int)}, (∀ p ∈ ks, SqP K H p.1 (p.2.map V.int)) → RpL K O H (ks.map fun p => V.ref p.1) ((ks.map (·.2)).map rwD)
  | [], _ => .nil
  | p :: ks, h => .cons (.tup (h p List.mem_cons_self) (RpL.ints p.2)) (rpl_rows fun q hq => h q (List.mem_cons_of_mem _ hq))
theorem sqp_same {a : Addr} {xs : List V} (s : Same H H1) (h : SqP K H a xs) : SqP K H1 a xs := h.imp (fun ⟨o, d, e⟩ => ⟨o, d, s _ _ e⟩) id
theorem sqt_same {a : Addr} {xs : List V} (s : Same H H1) (h : SqT K H a xs) : SqT K H1 a xs := h.imp (fun r => r.imp (fun e => s _ _ e) fun ⟨o, e⟩ => ⟨o, s _ _ e⟩) id
theorem d_sortSet {wa : WA} (hs : X.mg "sorted" = none) (hse : X.mg "set" = none) (hc : X.calm = true) (hu : X.A.units + 64 < cLine) (ha : PA X [e] (tA X.K T wa)) (hg : Gl X "sorted" := by rfl) (hg2 : Gl X "set" := by rfl)
    (he : starEach [.Call (.Name "set" p2) [e] [] q] X.env = (false, eval (.Call (.Name "set" p2) [e] [] q) X.env) :: starEach [] X.env := by rfl) (he2 : starEach [e] X.env = (false, eval e X.env) :: starEach [] X.env := by rfl)
    (hpl : (backTo pos (starEach [] X.env)).any (·.1) = false := by rfl) (hpl2 : (backTo q (starEach [] X.env)).any (·.1) = false := by rfl) :
    PE X (.Call (.Name "sorted" p) [.Call (.Name "set" p2) [e] [] q] [] pos) (tE X.K T (wSortSet wa)) :=
  (pe_callB (cr_sortedT hc) hg hs PyProof.Rows.boot_sorted (pa_cons (pe_callTy (cr_setOfT hc hu) hg2 hse (by decide +kernel) ha (by decide) (by decide) he2 hpl2) pa_nil he) (by decide) (by decide) he hpl).imp fun σ H Q h => by
    obtain ⟨E0, B, ρ, Qd, er, tb, hw, k⟩ := h
    refine ⟨E0, B, ρ, _, er, tb, hw, fun xs H1 rs ρ1 q A => ?_⟩
    obtain ⟨ds, rb, q⟩ := A.look1 q
    obtain ⟨v, d, ex, hd, q⟩ := one_inv rb q
    cases d with
    | list ys =>
      obtain ⟨rows, ey, ⟨⟨n, Bb, hn, hB, hr⟩, hf⟩, qq⟩ := (show ∃ rows : List (List Int), ys = rows.map rwD ∧ RowsOk rows ∧ _ from q)
      obtain ⟨l, ws, ev, h1, h2⟩ := hd.lst
      subst ey
      obtain ⟨ks, e1, e2, h3⟩ := rows_rpl h2
      subst e1
      refine ⟨l, ks, by rw [ex, ev], h1, fun p hp => (h3 p hp).sq, by rw [← List.length_map (f := (·.2)), e2]; exact hf, fun a L hna s1 s2 => ?_⟩
      have A2 := A.toNil (Same.upd (o := SetTO X.prog X.w a L) hna) (Fre.upd _ _ _)
      have mem : ∀ z, z ∈ L.map (·.2) ↔ z ∈ rows := fun z => by
        rw [← e2]
        constructor
        · intro hz; obtain ⟨p, hp, e⟩ := List.mem_map.mp hz; exact List.mem_map.mpr ⟨p, s1 p hp, e⟩
        · intro hz; obtain ⟨p, hp, e⟩ := List.mem_map.mp hz; rw [← e]; exact s2 p hp
      have sq : ∀ p ∈ L, SqP X.K (upd H1 a (SetTO X.prog X.w a L)) p.1 (p.2.map V.int) := fun p hp => sqp_same (Same.upd hna) (h3 p (s1 p hp))
      have bd : ∀ p ∈ L, p.2.length = n ∧ TS.Bd Bb p.2 := fun p hp => hr p.2 ((mem p.2).mp (List.mem_map.mpr ⟨p, hp, rfl⟩))
      refine ⟨a, L, n, Bb, rfl, upd_same, fun p hp => (sq p hp).sq, hn, bd, fun L' l' pm nd _ pw hnl => ?_⟩
      have es : (L'.map (·.2)) = usort rows := by
        refine (usort_of ?_ fun z => ((pm.map (·.2)).mem_iff.trans (mem z))).symm
        have pw2 : (L'.map (·.2)).Pairwise fun x y => TS.code Bb x ≤ TS.code Bb y := List.pairwise_map.mpr pw
        refine List.Pairwise.imp_of_mem (fun {x y} hx hy z => ?_) (pw2.and nd)
        obtain ⟨p, hp, e⟩ := List.mem_map.mp hx
        obtain ⟨p', hp', e'⟩ := List.mem_map.mp hy
        obtain ⟨b1, b2⟩ := bd p (pm.mem_iff.mp hp)
        obtain ⟨b3, b4⟩ := bd p' (pm.mem_iff.mp hp')
        rw [e] at b1 b2
        rw [e'] at b3 b4
        rcases lt_tot x y with g | g | g
        · exact g
        · exact absurd g z.2
        · have := code_lt hB b4 b2 (by omega) g
          omega
      refine k _ _ _ ρ1 qq (A2.op (dv := .new (.lst _)) (Same.upd hnl) (Fre.upd _ _ _) (opaft_lst A2.obx hnl ?_))
      rw [← es]
      exact rpl_rows fun p hp => sq p (pm.mem_iff.mp hp)
    | _ => exact (show False from q).elim
end
end DL
set_option maxRecDepth 100000
set_option maxHeartbeats 1000000
/-! methods that only read their receiver: list.count, tuple.count, list.index, tuple.index; gcd -/
namespace DL
open PySem PySem.Spec L2 LamX
section
variable {K : PySem.W.Frag} {T : Tb} {E0 B O : As} {σ : L2.St} {ρ ρ1 ρ2 : DEnv} {H H1 : Hp} {vs us : List V} {v : V} {r : RV} {rs : List RV} {d : D} {ds : List D} {X : Cx} {e e1 e2 o : Expr} {es rest : List Expr} {pos p2 : Pos}
/-- a thing with the property is of the type -/
def MeP (X : Cx) (Ty : String) (P : Hp → V → Prop) : Prop := ∀ (pins : List (Addr × Obj)) (σ : L2.St) (H : Hp) (s : Shared) (x : V) (v : Value), Inv X pins σ H s → RelV x v → P H x → s.TypeIs v Ty ∧ ∀ a, v = .ref a → ∃ ob, s.heap.get? a = some ob ∧ ob.dict = none
def tBMP (P : Hp → V → Prop) (r : V → List V → Hp → VK → Prop) (to : TE) (t : TA) : TE := fun σ H Q => to σ H fun x H1 => P H1 x ∧ t σ H1 fun xs H2 => r x xs H2 Q
def tBMP0 (P : Hp → V → Prop) (r : V → List V → Hp → VK → Prop) (to : TE) : TE := fun σ H Q => to σ H fun x H1 => P H1 x ∧ r x [] H1 Q
theorem pe_bmP {P : Hp → V → Prop} {to : TE} {t : TA} {name : Str} {apos cpos : Pos} {Ty id : String} {r : V → List V → Hp → VK → Prop} (pa : PlainAttrs Ty) (slot : Slot Ty name id) (hty : typeOf (.builtin id) = pure (.type "method_descriptor")) (hP : MeP X Ty P) (hm : MtR X id r) (ho : PE X o to) (ha : PA X (e :: es) t)
    (hbase : attributeBase o name X.env (eval o X.env) = eval o X.env := by rfl)
    (hfew : ((backTo cpos (starEach (e :: es) X.env)).all (fun x => !x.1) && (backToKw cpos (keywordEach [] X.env)).all (fun x => x.1.isSome)
      && decide ((e :: es).length + ([] : List Keyword).length + (if ([] : List Keyword).isEmpty then 0 else 1) < 30)) = true := by rfl)
    (hline : (apos.endLine == cpos.line) = true := by rfl) (hs : starEach (e :: es) X.env = (false, eval e X.env) :: starEach es X.env := by rfl) (hplain : (backTo cpos (starEach es X.env)).any (·.1) = false := by rfl) :
    PE X (.Call (.Attribute o name apos) (e :: es) [] cpos) (tBMP P r to t) := by
  refine ⟨fun pins s σ H Q I h => ?_⟩
  refine wpAny_Call_method_late hbase hfew hline rfl (thn (ho.run pins s σ H _ I h) fun v s1 ⟨x, H1, I1, r1, ty, q1⟩ => ?_)
  obtain ⟨h1, h2⟩ := hP _ _ _ _ _ _ I1 r1 ty
  refine ⟨Ty, id, pa, slot, hty, h1, h2, ?_⟩
  have hA := ha.run cpos pins s1 σ H1 _ I1 q1
  rw [hs] at hA ⊢
  refine Calls.callWith_builtin (by show (false || (backTo cpos (starEach es X.env)).any (·.1)) = false; rw [hplain] <;> rfl) (Calls.evalArgs_plain ?_)
  exact thn hA fun us s2 ⟨vs, H2, I2, r2, q2⟩ => hm pins s2 σ H2 x vs v us Q I2 r1 r2 q2
theorem pe_bmP0 {P : Hp → V → Prop} {to : TE} {name : Str} {apos cpos : Pos} {Ty id : String} {r : V → List V → Hp → VK → Prop} (pa : PlainAttrs Ty) (slot : Slot Ty name id) (hty : typeOf (.builtin id) = pure (.type "method_descriptor")) (hP : MeP X Ty P) (hm : MtR X id r) (ho : PE X o to)
    (hbase : attributeBase o name X.env (eval o X.env) = eval o X.env := by rfl) (hline : (apos.endLine == cpos.line) = true := by rfl) : PE X (.Call (.Attribute o name apos) [] [] cpos) (tBMP0 P r to) := by
  refine ⟨fun pins s σ H Q I h => ?_⟩
  refine wpAny_Call_method0_late hbase hline (thn (ho.run pins s σ H _ I h) fun v s1 ⟨x, H1, I1, r1, ty, q1⟩ => ?_)
  obtain ⟨h1, h2⟩ := hP _ _ _ _ _ _ I1 r1 ty
  exact ⟨Ty, id, pa, slot, hty, h1, h2, Calls.callWith_builtin rfl (PySem.evalArgs_none (hm pins s1 σ H1 x [] v [] Q I1 r1 .nil q1))⟩
def aList (K : PySem.W.Frag) (H : Hp) (x : V) : Prop := ∃ a xs, x = .ref a ∧ SqL K H a xs
def aTup (K : PySem.W.Frag) (H : Hp) (x : V) : Prop := ∃ a xs, x = .ref a ∧ SqP K H a xs
theorem me_list : MeP X "list" (aList X.K) := fun pins σ H s x v I r h => by
  obtain ⟨a, xs, rfl, h⟩ := h
  cases r
  obtain ⟨its, rv, ⟨ob, n, ho, hc, hn, hd⟩, hz⟩ := I.list h
  exact ⟨⟨ob, ho, hc⟩, fun b e => by cases e; exact ⟨ob, ho, hn⟩⟩
theorem me_tup : MeP X "tuple" (aTup X.K) := fun pins σ H s x v I r h => by
  obtain ⟨a, xs, rfl, h⟩ := h
  cases r
  have key : ∃ ob : Obj, s.heap.get? a = some ob ∧ ob.cls = .type "tuple" ∧ ob.dict = none := by
    rcases h with ⟨o, dn, e⟩ | ⟨o, its, n, e, dn, c, _⟩
    · obtain ⟨e1, _, its, _, ob, e2, c, _⟩ := I.hok a _ e
      rw [e1] at e2; cases e2
      exact ⟨o, e1, c, dn⟩
    · exact ⟨o, I.kIn _ _ e, c, dn⟩
  obtain ⟨ob, ho, hc, hd⟩ := key
  exact ⟨⟨ob, ho, hc⟩, fun b e => by cases e; exact ⟨ob, ho, hd⟩⟩
def isL (d : D) : Prop := match d with
  | .list _ => True
  | _ => False
def isT (d : D) : Prop := match d with
  | .tuple _ => True
  | _ => False
theorem isL_a (h : RpB K O H v d) (t : isL d) : aList K H v := by
  cases d with
  | list ds => obtain ⟨a, xs, e, h1, _⟩ := h.lst; exact ⟨a, xs, e, h1⟩
  | _ => exact (show False from t).elim
theorem isT_a (h : RpB K O H v d) (t : isT d) : aTup K H v := by
  cases d with
  | tuple ds => obtain ⟨a, xs, e, h1, _⟩ := h.tupP; exact ⟨a, xs, e, h1⟩
  | _ => exact (show False from t).elim
/-- o.name(e): a method that only reads; tk: the receiver's kind -/
def wMe (tk : D → Prop) (g : D → D → (DV → Prop) → Prop) (wo wa : WE) : WE := fun ρ Q => wo ρ fun r0 ρ1 => lookK ρ1 r0 fun d0 => tk d0 ∧ wa ρ1 fun r1 ρ2 => lookK ρ2 r0 fun d1 => lookK ρ2 r1 fun d2 => g d1 d2 fun dv => Q dv.rv ρ2
def Mt1 (r : R2) : V → List V → Hp → VK → Prop := fun x xs H Q => ∃ y, xs = [y] ∧ r x y H Q
theorem d_me {P : Hp → V → Prop} {tk : D → Prop} {r : R2} {g : D → D → (DV → Prop) → Prop} {wo wa : WE} {name : Str} {apos cpos : Pos} {Ty id : String} (pa : PlainAttrs Ty) (slot : Slot Ty name id) (hty : typeOf (.builtin id) = pure (.type "method_descriptor")) (hP : MeP X Ty P) (hk : ∀ {O H v d}, RpB X.K O H v d → tk d → P H v) (hm : MtR X id (Mt1 r)) (og : Op2 X.K r g) (ho : PE X o (tE X.K T wo)) (ha : PE X e (tE X.K T wa))
    (hbase : attributeBase o name X.env (eval o X.env) = eval o X.env := by rfl)
    (hfew : ((backTo cpos (starEach [e] X.env)).all (fun x => !x.1) && (backToKw cpos (keywordEach [] X.env)).all (fun x => x.1.isSome)
      && decide ([e].length + ([] : List Keyword).length + (if ([] : List Keyword).isEmpty then 0 else 1) < 30)) = true := by rfl)
    (hline : (apos.endLine == cpos.line) = true := by rfl) (hs : starEach [e] X.env = (false, eval e X.env) :: starEach [] X.env := by rfl) (hplain : (backTo cpos (starEach [] X.env)).any (·.1) = false := by rfl) :
    PE X (.Call (.Attribute o name apos) [e] [] cpos) (tE X.K T (wMe tk g wo wa)) := by
  refine (pe_bmP (P := P) pa slot hty hP hm ho (pa_cons ha pa_nil hs) hbase hfew hline hs hplain).imp fun σ H Q h => ?_
  obtain ⟨E0, B, ρ, Qd, er, tb, hw, k⟩ := h
  refine ⟨E0, B, ρ, _, er, tb, hw, fun x H1 r1 ρ1 q A1 => ?_⟩
  obtain ⟨d0, e0, t0, q⟩ := lookK_some q
  refine ⟨hk (A1.look (j := 0) rfl rfl e0) t0, E0, _, ρ1, _, A1.er, A1.tab, q, fun y H2 r2 ρ2 q A2 => ?_⟩
  obtain ⟨d1, e1, q⟩ := lookK_some q
  obtain ⟨d2, e2, q⟩ := lookK_some q
  have A := A1.seq A2
  exact ⟨y, rfl, og _ H2 x y d1 d2 _ _ A.obx (A.look (j := 0) rfl rfl e1) (A.look (j := 1) rfl rfl e2) q fun v H' dv q s f oa => k v H' _ ρ2 q (A.op s f oa)⟩
/-! ### count -/
def rCnt (K : PySem.W.Frag) (tu : Bool) : R2 := fun x y H Q => ∃ d ds, Dp K H x (if tu then .tuple ds else .list ds) ∧ Dp K H y d ∧ SeqAt.shaped d = true ∧ SeqAt.shaped (if tu then .tuple ds else .list ds) = true ∧ Q (.int ((ds.countP fun z => PyData.eqv z d : Nat) : Int)) H
theorem cnt_by {h : Heap} {its : List Value} {d : D} {xs : List PyData} {as : List Addr} (rs : ReadsAll h its xs as) (hxs : PyData.canLayAll0 xs = true) : its.countP (fun y => PyData.eqv (SeqAt.readOf h y) d) = xs.countP fun y => PyData.eqv y d := by
  have e := SeqAt.readsAll_map xs _ _ hxs rs
  rw [← e, List.countP_map]
  rfl
theorem mt_cntL (hu : X.A.units + 66 < cLine) : MtR X "list.count" (Mt1 (rCnt X.K false)) := by
  intro pins s σ H x xs v us Q I rx rxs h
  obtain ⟨y, rfl, d, ds, hx, hy, s1, s2, q⟩ := h
  cases rxs with
  | cons ry rt =>
    cases rt
    obtain ⟨m1, r1⟩ := Dp.reads I d y _ hy ry
    obtain ⟨m2, r2⟩ := Dp.reads I (.list ds) x v hx rx
    have c1 := shaped_can s2
    cases r2 with
    | list h1 h2 h3 h4 =>
      rename_i l o its n as
      obtain ⟨cls, dd, data, sls⟩ := o
      simp only at h2 h3
      subst h2 h3
      refine call_meets PySem.F.slot_list_count ⟨_, h1, rfl⟩ PySem.F.entry_list_count (PySem.F.args_list_count_2 _ _) (SeqAt.list_countAt _ _ _ dd sls _ _) ⟨h1, SeqAt.items_eqAt h4 r1 c1 (shaped_can s1) (room_in (e := .none) s1 hu ds), ?_⟩
      rw [cnt_by h4 c1]
      exact ⟨.int _, H, I.tok _, ⟨_, rfl⟩, q⟩
theorem mt_cntT (hu : X.A.units + 66 < cLine) : MtR X "tuple.count" (Mt1 (rCnt X.K true)) := by
  intro pins s σ H x xs v us Q I rx rxs h
  obtain ⟨y, rfl, d, ds, hx, hy, s1, s2, q⟩ := h
  cases rxs with
  | cons ry rt =>
    cases rt
    obtain ⟨m1, r1⟩ := Dp.reads I d y _ hy ry
    obtain ⟨m2, r2⟩ := Dp.reads I (.tuple ds) x v hx rx
    have c1 := shaped_can s2
    cases r2 with
    | tuple h1 h2 h3 h4 =>
      rename_i l o its n
      obtain ⟨cls, dd, data, sls⟩ := o
      simp only at h2 h3
      subst h2 h3
      refine call_meets PySem.F.slot_tuple_count ⟨_, h1, rfl⟩ PySem.F.entry_tuple_count (PySem.F.args_tuple_count_2 _ _) (SeqAt.tuple_countAt _ _ _ dd sls _ _) ⟨h1, SeqAt.items_eqAt h4 r1 c1 (shaped_can s1) (room_in (e := .none) s1 hu ds), ?_⟩
      rw [cnt_by h4 c1]
      exact ⟨.int _, H, I.tok _, ⟨_, rfl⟩, q⟩
def gCntL (d e : D) (k : DV → Prop) : Prop := SeqAt.shaped d = true ∧ SeqAt.shaped e = true ∧ match d with
  | .list ds => k (.val (.int ((ds.countP fun z => PyData.eqv z e : Nat) : Int)))
  | _ => False
def gCntT (d e : D) (k : DV → Prop) : Prop := SeqAt.shaped d = true ∧ SeqAt.shaped e = true ∧ match d with
  | .tuple ds => k (.val (.int ((ds.countP fun z => PyData.eqv z e : Nat) : Int)))
  | _ => False
theorem cntL_op : Op2 K (rCnt K false) gCntL := by
  intro O H x y d e Qd Q ob hx hy hg k
  obtain ⟨s1, s2, q⟩ := hg
  cases d with
  | list ds => exact ⟨e, ds, hx.dp (shaped_can s1), hy.dp (shaped_can s2), s2, s1, k _ _ _ q (Same.refl _) (Fre.refl _) (.int _)⟩
  | _ => exact (show False from q).elim
theorem cntT_op : Op2 K (rCnt K true) gCntT := by
  intro O H x y d e Qd Q ob hx hy hg k
  obtain ⟨s1, s2, q⟩ := hg
  cases d with
  | tuple ds => exact ⟨e, ds, hx.dp (shaped_can s1), hy.dp (shaped_can s2), s2, s1, k _ _ _ q (Same.refl _) (Fre.refl _) (.int _)⟩
  | _ => exact (show False from q).elim
/-! ### index, of what is there -/
def rIdx (K : PySem.W.Frag) (tu : Bool) : R2 := fun x y H Q => ∃ d ds j, Dp K H x (if tu then .tuple ds else .list ds) ∧ Dp K H y d ∧ SeqAt.shaped d = true ∧ SeqAt.shaped (if tu then .tuple ds else .list ds) = true ∧ (ds.findIdx? fun z => PyData.eqv z d) = some j ∧ ds.length ≤ 16777216 ∧ Q (.int (j : Nat)) H
theorem hit_by {h : Heap} {its : List Value} {d : D} {xs : List PyData} {as : List Addr} {j : Nat} (rs : ReadsAll h its xs as) (hxs : PyData.canLayAll0 xs = true) (hp : (xs.findIdx? fun z => PyData.eqv z d) = some j) :
    ∃ hj : j < its.toArray.size, PyData.eqv (SeqAt.readOf h its.toArray[j]) d = true ∧ ∀ m (hm : m < its.toArray.size), m < j → PyData.eqv (SeqAt.readOf h its.toArray[m]) d = false := by
  have e := SeqAt.readsAll_map xs _ _ hxs rs
  rw [← e, List.findIdx?_map] at hp
  obtain ⟨h1, h2, h3⟩ := List.findIdx?_eq_some_iff_getElem.mp hp
  exact ⟨by simpa using h1, by simpa using h2, fun m hm hmj => by simpa using h3 m hmj⟩
theorem mt_idxL (hu : X.A.units + 66 < cLine) : MtR X "list.index" (Mt1 (rIdx X.K false)) := by
  intro pins s σ H x xs v us Q I rx rxs h
  obtain ⟨y, rfl, d, ds, j, hx, hy, s1, s2, hp, hz, q⟩ := h
  cases rxs with
  | cons ry rt =>
    cases rt
    obtain ⟨m1, r1⟩ := Dp.reads I d y _ hy ry
    obtain ⟨m2, r2⟩ := Dp.reads I (.list ds) x v hx rx
    have c1 := shaped_can s2
    cases r2 with
    | list h1 h2 h3 h4 =>
      rename_i l o its n as
      obtain ⟨cls, dd, data, sls⟩ := o
      simp only at h2 h3
      subst h2 h3
      have hl := SeqAt.ReadsAll.length _ _ _ h4
      obtain ⟨hj, hit, hno⟩ := hit_by (its := its.toList) h4 c1 hp
      have hj' : j < its.size := by simpa using hj
      refine call_meets PySem.F.slot_list_index ⟨_, h1, rfl⟩ PySem.F.entry_list_index (PySem.F.args_list_index_2 _ _) (SeqAt.list_indexAt _ its _ dd sls _ (fun u => PyData.eqv (SeqAt.readOf s.heap u) d) j hj' (by simp only [Array.length_toList] at hl; omega) (by simpa using hit) (fun m hm hmj => by simpa using hno m (by simpa using hm) hmj)) ⟨h1, SeqAt.items_eqAt h4 r1 c1 (shaped_can s1) (room_in (e := .none) s1 hu ds), ?_⟩
      exact ⟨.int _, H, I.tok _, ⟨_, rfl⟩, q⟩
theorem mt_idxT (hu : X.A.units + 66 < cLine) : MtR X "tuple.index" (Mt1 (rIdx X.K true)) := by
  intro pins s σ H x xs v us Q I rx rxs h
  obtain ⟨y, rfl, d, ds, j, hx, hy, s1, s2, hp, hz, q⟩ := h
  cases rxs with
  | cons ry rt =>
    cases rt
    obtain ⟨m1, r1⟩ := Dp.reads I d y _ hy ry
    obtain ⟨m2, r2⟩ := Dp.reads I (.tuple ds) x v hx rx
    have c1 := shaped_can s2
    cases r2 with
    | tuple h1 h2 h3 h4 =>
      rename_i l o its n
      obtain ⟨cls, dd, data, sls⟩ := o
      simp only at h2 h3
      subst h2 h3
      have hl := SeqAt.ReadsAll.length _ _ _ h4
      obtain ⟨hj, hit, hno⟩ := hit_by (its := its.toList) h4 c1 hp
      have hj' : j < its.size := by simpa using hj
      refine call_meets PySem.F.slot_tuple_index ⟨_, h1, rfl⟩ PySem.F.entry_tuple_index (PySem.F.args_tuple_index_2 _ _) (TI.tuple_indexAt _ its _ dd sls _ (fun u => PyData.eqv (SeqAt.readOf s.heap u) d) j hj' (by simpa using hit) (fun m hm hmj => by simpa using hno m (by simpa using hm) hmj)) ⟨h1, SeqAt.items_eqAt h4 r1 c1 (shaped_can s1) (room_in (e := .none) s1 hu ds), ?_⟩
      exact ⟨.int _, H, I.tok _, ⟨_, rfl⟩, q⟩
def idxK (ds : List D) (e : D) (k : DV → Prop) : Prop := match ds.findIdx? fun z => PyData.eqv z e with
  | some j => k (.val (.int (j : Nat)))
  | none => False
def gIdxL (d e : D) (k : DV → Prop) : Prop := SeqAt.shaped d = true ∧ SeqAt.shaped e = true ∧ match d with
  | .list ds => ds.length ≤ 16777216 ∧ idxK ds e k
  | _ => False
def gIdxT (d e : D) (k : DV → Prop) : Prop := SeqAt.shaped d = true ∧ SeqAt.shaped e = true ∧ match d with
  | .tuple ds => ds.length ≤ 16777216 ∧ idxK ds e k
  | _ => False
theorem idxK_some {k : DV → Prop} (h : idxK ds d k) : ∃ j, (ds.findIdx? fun z => PyData.eqv z d) = some j ∧ k (.val (.int (j : Nat))) := by
  unfold idxK at h
  split at h
  · exact ⟨_, by assumption, h⟩
  · exact h.elim
theorem idxK_at {k : DV → Prop} {j : Nat} (h : (ds.findIdx? fun z => PyData.eqv z d) = some j) : idxK ds d k = k (.val (.int (j : Nat))) := by
  unfold idxK
  rw [h]
theorem idxL_op : Op2 K (rIdx K false) gIdxL := by
  intro O H x y d e Qd Q ob hx hy hg k
  obtain ⟨s1, s2, q⟩ := hg
  cases d with
  | list ds =>
    obtain ⟨hz, q⟩ := q
    obtain ⟨j, hj, q⟩ := idxK_some q
    exact ⟨e, ds, j, hx.dp (shaped_can s1), hy.dp (shaped_can s2), s2, s1, hj, hz, k _ _ _ q (Same.refl _) (Fre.refl _) (.int _)⟩
  | _ => exact (show False from q).elim
theorem idxT_op : Op2 K (rIdx K true) gIdxT := by
  intro O H x y d e Qd Q ob hx hy hg k
  obtain ⟨s1, s2, q⟩ := hg
  cases d with
  | tuple ds =>
    obtain ⟨hz, q⟩ := q
    obtain ⟨j, hj, q⟩ := idxK_some q
    exact ⟨e, ds, j, hx.dp (shaped_can s1), hy.dp (shaped_can s2), s2, s1, hj, hz, k _ _ _ q (Same.refl _) (Fre.refl _) (.int _)⟩
  | _ => exact (show False from q).elim
/-! ### gcd, a module's function -/
def gGcd (ds : List D) (k : DV → Prop) : Prop := int2K ds fun i j => k (.val (.int ((Nat.gcd i.natAbs j.natAbs : Nat) : Int)))
theorem gcd_op : OpN K rGcd gGcd := by
  intro O H xs ds Qd Q ob hx hg k
  obtain ⟨i, j, e, _, q⟩ := int2_inv hx hg
  exact ⟨i, j, e, k _ _ _ q (Same.refl _) (Fre.refl _) (.int _)⟩
theorem d_callF {x : Str} {id : String} {p : Pos} {r : List V → Hp → VK → Prop} {g : List D → (DV → Prop) → Prop} {wa : WA} (hc : CallR X (.builtin id) r) (og : OpN X.K r g) (hm : X.mg x = some (.builtin id)) (ha : PA X (e :: es) (tA X.K T wa)) (hg : Gl X x := by rfl) (hdb : (x == ("__debug__" : Str)) = false := by decide)
    (he : starEach (e :: es) X.env = (false, eval e X.env) :: starEach es X.env := by rfl) (hpl : (backTo pos (starEach es X.env)).any (·.1) = false := by rfl) : PE X (.Call (.Name x p) (e :: es) [] pos) (tE X.K T (wCB g wa)) :=
  (pe_callBfun hc hg hm ha hdb he hpl).imp (tcb og)
end
end DL
set_option maxRecDepth 100000
set_option maxHeartbeats 1000000
/-! sum of lists and tuples of whole numbers, of truths -/
namespace DLs
open PySem PySem.Spec PySem.Calls PyProof.Rows PyProof.V PySem.W
section
variable {prog : Program} {w : World} {A : Around} {R : Result → Shared → Prop} {I S : Addr} {fp wr : List Addr} {G : Array GenState → Array GenState → Prop} {n : Nat} {P : Nat → Value → Prop} {St : Nat → Shared → Prop}
def one (b : Bool) : Int := if b then 1 else 0
abbrev upTo (val : Nat → Bool) (i : Nat) : Int := preSum (fun j => one (val j)) i
theorem upTo_le (val : Nat → Bool) : ∀ i, 0 ≤ upTo val i ∧ upTo val i ≤ i
  | 0 => ⟨Int.le_refl _, Int.le_refl _⟩
  | i + 1 => by
    have h := upTo_le val i
    have : 0 ≤ one (val i) ∧ one (val i) ≤ 1 := by unfold one; split <;> decide
    show 0 ≤ upTo val i + one (val i) ∧ upTo val i + one (val i) ≤ ((i + 1 : Nat) : Int)
    omega
theorem fits_small {a b : Int} (h0 : 0 ≤ b) (h1 : b ≤ 1) (h2 : 0 ≤ a) (h3 : a ≤ 16777217) : ((decide (-(2 ^ 63) ≤ b) && decide (b < 2 ^ 63)) && (decide (-(2 ^ 63) ≤ a + b) && decide (a + b < 2 ^ 63))) = true := by
  rw [decide_eq_true (by omega), decide_eq_true (by omega), decide_eq_true (by omega), decide_eq_true (by omega)]; rfl
theorem if_of {α : Type} {M : Model} {a b : Sem α} {Q : α → Shared → Prop} {E : Value → Shared → Prop} {s : Shared} {c : Bool} (h : c = true) (q : wpAny M A a Q E s) : wpAny M A (if c = true then a else b) Q E s := by rw [if_pos h]; exact q
theorem walkB (W : WalksS prog w A.in1 I fp wr G n P St) (val : Nat → Bool) (hval : ∀ i v, P i v → v = .bool (val i)) (hn : n ≤ 16777216) (hSf : S ∉ fp) :
    ∀ (k i : Nat) (s : Shared) (tA : Tok) (c : Nat), n = i + k → St i s → s.heap.get? S = some { cls := .type "list", data := .seq #[.int (upTo val i) tA] c } →
    (∀ s' t', Moved (S :: wr) G s s' → R (.ok (.ret (.int (upTo val n) t'))) s') → codeAny (model prog w) A (.builtin "sum.loop" ⟨[.ref I, .ref S, rawInt 0, rawInt 0], []⟩) R s := by
  have inS : ∀ b ∈ wr, b ∈ S :: wr := fun b hb => List.mem_cons_of_mem _ hb
  have nS : S ∉ wr := fun h => hSf (W.sub _ h)
  intro k
  induction k with
  | zero =>
    intro i s tA c hi hst hS hR
    have : n = i := hi
    subst this
    refine codeAny_builtin F.entry_sum_loop ?_
    rw [Around.under_plainId F.plain_sum_loop _]
    refine wpAny_bind (m := seqItems? (.ref S)) (wpAny_seqItems hS rfl ?_)
    exact wpAny_bind (m := tryCatch (pyNext (.ref I)) _) (wpAny_tryCatch (W.done s _ _ hst fun s' hm => wpAny_pure (hR s' tA (hm.mono inS))))
  | succ k ih =>
    intro i s tA c hi hst hS hR
    refine codeAny_builtin F.entry_sum_loop ?_
    rw [Around.under_plainId F.plain_sum_loop _]
    refine wpAny_bind (m := seqItems? (.ref S)) (wpAny_seqItems hS rfl ?_)
    refine wpAny_bind (m := tryCatch (pyNext (.ref I)) _) (wpAny_tryCatch (W.item i s _ _ (by omega) hst fun v s' hP hst' hm => ?_))
    have ev := hval i v hP
    subst ev
    have hS1 := hm.heap S _ nS hS
    have ub := upTo_le val i
    have vb : 0 ≤ one (val i) ∧ one (val i) ≤ 1 := by unfold one; split <;> decide
    show wpAny _ A.in1 (if (_ : Bool) = true then (mkInt (upTo val i + one (val i)) >>= _) else _) _ _ _
    refine if_of (fits_small vb.1 vb.2 ub.1 (by omega)) ?_
    refine wpAny_bind (wpAny_mkInt ?_)
    refine wpAny_bind (m := updateSeq S fun _ => #[.int (upTo val i + one (val i)) s'.toks]) (wpAny_updateSeq hS1 rfl (wpAny_pure ⟨plainId_quiet F.plain_sum_loop _, ?_⟩))
    have far : ∀ b ∈ fp, ∀ o, s'.heap.get? b = some o → (s'.heap.update S (Obj.mapSeq fun _ => #[Value.int (upTo val i + one (val i)) s'.toks])).get? b = some o := fun b hb o e =>
      (Heap.get?_update_other _ _ (fun z : S = b => hSf (by rw [z]; exact hb))).trans e
    refine ih (i + 1) _ s'.toks _ (by omega) (W.frame _ s' _ _ hst' (Nat.le_succ _) far) (Heap.get?_update_self _ hS1 rfl) fun s2 t2 hm2 => hR s2 t2 ?_
    exact Moved.trans W.gtrans ((hm.mono inS).then_heap (Nat.le_succ _) fun b o hb e => (Heap.get?_update_other _ _ (fun z : S = b => hb (by rw [z]; exact List.mem_cons_self))).trans e) hm2
end
section
variable {prog : Program} {w : World} {A : Around} {E : Value → Shared → Prop} {s : Shared} {t : Addr}
/-- sum(t) of a tuple of truths -/
theorem sumB {bs : List Bool} {Q : Value → Shared → Prop} (hh : A.handled = none) (ht : s.heap.IsTuple t (bs.map Value.bool).toArray) (hz : bs.length ≤ 16777216)
    (h : ∀ h' tk t', (∀ b o, s.heap.get? b = some o → h'.get? b = some o) → Q (.int (upTo (fun j => bs.getD j false) bs.length) t') { s with heap := h', toks := tk }) :
    wpAny (model prog w) A (call (.builtin "sum") [.ref t]) Q E s := by
  obtain ⟨o, ho, hc, n, hd⟩ := id ht
  have hne : t ≠ s.heap.objs.size := Nat.ne_of_lt (Heap.lt_size ho)
  have hsz : (bs.map Value.bool).toArray.size = bs.length := by simp
  have W := (Walks.tuple (prog := prog) (w := w) (A := A.in1) hh s.heap.objs.size t hne (bs.map Value.bool).toArray).toS
  rw [hsz] at W
  refine call_function_tree F.kind_sum F.plain_sum F.entry_sum (F.args_sum1 _) ?_
  unfold Builtin.«sum»
  simp only [List.length_cons, List.length_nil]
  rw [if_neg (by decide)]
  refine wpAny_bind (wpAny_of_eq (show Builtin.Builtins.bindParams "sum" ["start"] 0 { } = pure [none] from rfl) (wpAny_bind (wpAny_pyIter_tuple ht (wpAny_bind (wpAny_mkInt (wpAny_bind (wpAny_pure ?_)))))))
  simp only [List.forIn_cons, List.forIn_nil]
  refine wpAny_bind (wpAny_bind (wpAny_bind (wpAny_isInstance (T := "int") (b := false) (typeIs_int _ _ _) PyProof.Rows.sub_int_str ?_)))
  rw [if_neg (by decide)]
  refine wpAny_pure (wpAny_bind (wpAny_bind (wpAny_isInstance (T := "int") (b := false) (typeIs_int _ _ _) sub_int_bytes ?_)))
  rw [if_neg (by decide)]
  refine wpAny_pure (wpAny_bind (wpAny_bind (wpAny_isInstance (T := "int") (b := false) (typeIs_int _ _ _) sub_int_bytearray ?_)))
  rw [if_neg (by decide)]
  refine wpAny_pure (wpAny_pure (wpAny_bind (wpAny_newObj_type ?_)))
  have e1 : (s.heap.push { cls := .type "tuple_iterator", data := .fields #[.ref t, .int 0 0] }).get? s.heap.objs.size = some { cls := .type "tuple_iterator", data := .fields #[.ref t, .int 0 0] } := Heap.get?_push_size _ rfl
  have e2 := Heap.get?_push_of_some { cls := .type "tuple_iterator", data := .fields #[.ref t, .int 0 0] } ho
  have kp : ∀ b ob, s.heap.get? b = some ob → (s.heap.push { cls := .type "tuple_iterator", data := .fields #[.ref t, .int 0 0] }).get? b = some ob := fun b ob e => Heap.get?_push_of_some _ e
  have l0 : t < s.heap.objs.size := Heap.lt_size ho
  generalize hg : s.heap.push { cls := .type "tuple_iterator", data := .fields #[.ref t, .int 0 0] } = g at e1 e2 kp ⊢
  have l1 : s.heap.objs.size < g.objs.size := Heap.lt_size e1
  refine wpAny_pure ⟨plainId_quiet F.plain_sum_loop _, walkB W (fun j => bs.getD j false) (fun i v hP => ?_) hz (S := g.objs.size) ?_ bs.length 0 _ s.toks 0 (Nat.zero_add _).symm ⟨⟨_, Heap.get?_push_of_some _ e1, rfl, rfl⟩, ⟨o, Heap.get?_push_of_some _ e2, hc, n, hd⟩⟩ (Heap.get?_push_size _ rfl) fun s' t' hm => ?_⟩
  · rw [List.getElem?_toArray, List.getElem?_map] at hP
    cases e : bs[i]? with
    | none => rw [e] at hP; cases hP
    | some b => rw [e] at hP; rw [List.getD_eq_getElem?_getD, e]; exact (Option.some.inj hP).symm
  · intro hm
    rcases List.mem_cons.mp hm with z | hm
    · exact Nat.ne_of_gt l1 z
    · exact Nat.ne_of_gt (Nat.lt_trans l0 l1) (List.mem_singleton.mp hm)
  · obtain ⟨h', g', d', tk', os'⟩ := s'
    have e3 : g' = s.gens := hm.gens
    have e4 : d' = s.drawn := hm.drawn
    have e5 : os' = s.os := hm.os
    subst e3 e4 e5
    exact h h' tk' t' fun b ob e => hm.heap b ob (fun hb => by
      have lb := Heap.lt_size e
      rcases List.mem_cons.mp hb with z | hb
      · exact Nat.ne_of_lt (Nat.lt_trans lb l1) z
      · exact Nat.ne_of_lt lb (List.mem_singleton.mp hb)) (Heap.get?_push_of_some _ (kp b ob e))
theorem upTo_count (bs : List Bool) : upTo (fun j => bs.getD j false) bs.length = ((bs.countP id : Nat) : Int) := by
  have key : ∀ k, k ≤ bs.length → upTo (fun j => bs.getD j false) k = (((bs.take k).countP id : Nat) : Int) := by
    intro k
    induction k with
    | zero => intro _; rfl
    | succ k ih =>
      intro h
      show upTo (fun j => bs.getD j false) k + one (bs.getD k false) = _
      rw [ih (by omega), List.take_succ, List.countP_append, List.getD_eq_getElem?_getD, List.getElem?_eq_getElem (by omega)]
      generalize bs[k] = b
      cases b <;> simp [one]
  rw [key _ (Nat.le_refl _), List.take_length]
end
end DLs
namespace DL
open PySem PySem.Spec L2 LamX
section
variable {K : PySem.W.Frag} {O : As} {H : Hp} {vs : List V} {d : D} {ds : List D} {X : Cx}
/-- sum of a list of whole numbers; of a tuple of such, of truths -/
def rSumA (K : PySem.W.Frag) : List V → Hp → VK → Prop := fun vs H Q => (∃ (a : Addr) (ns : List Int), vs = [.ref a] ∧ (SqL K H a (ns.map V.int) ∨ SqT K H a (ns.map V.int)) ∧ Q (.int ns.sum) H) ∨
  ∃ (a : Addr) (bs : List Bool), vs = [.ref a] ∧ SqT K H a (bs.map V.bl) ∧ bs.length ≤ 16777216 ∧ Q (.int ((bs.countP id : Nat) : Int)) H
theorem vals_bools : ∀ {bs : List Bool} {us : List Value}, Vals (bs.map V.bl) us → us = bs.map Value.bool
  | [], _, .nil => rfl
  | b :: bs, _, .cons r t => by rw [vals_bools t]; cases r; rfl
open PyProof.Rows PySem.W in
theorem cr_sumA (hc : X.calm = true) : CallR X (.builtin "sum") (rSumA X.K) := by
  intro pins s σ H vs us Q I r h
  rcases h with ⟨a, ns, rfl, hs | hs, q⟩ | ⟨a, bs, rfl, hs, hz, q⟩
  · exact cr_sum hc pins s σ H _ us Q I r ⟨a, ns, rfl, hs, q⟩
  · obtain ⟨its, rv, hl, _⟩ := I.tuple hs
    rw [Vals.ref1 r]
    have hi : IntsAre its ns := rv.ints
    obtain ⟨xs, hx⟩ := hi.allInts.items
    have hn : numsOf its.toArray.toList = ns := by rw [show its.toArray.toList = its from rfl, hi.numsOf]
    have hl : s.heap.IsTuple a its.toArray := hl
    rw [hx] at hl hn
    rw [nums_intItems] at hn
    refine ktm_sumG (I.ok.hd hc) hl fun h' tk t' hk => ?_
    rw [preSum_eq, List.take_of_length_le (by simp), hn]
    exact ⟨.int _, H, I.kept hk, ⟨_, rfl⟩, q⟩
  · obtain ⟨its, rv, hl, _⟩ := I.tuple hs
    rw [Vals.ref1 r]
    have ei := vals_bools rv
    subst ei
    refine DLs.sumB (I.ok.hd hc) hl hz fun h' tk t' hk => ?_
    rw [DLs.upTo_count]
    exact ⟨.int _, H, I.kept hk, ⟨_, rfl⟩, q⟩
/-- truths, or whole numbers -/
def sumK (d : D) (k : Int → Prop) : Prop := match d with
  | .list xs => intsK xs fun ns => k ns.sum
  | .tuple xs => intsK xs (fun ns => k ns.sum) ∨ boolsK xs fun bs => bs.length ≤ 16777216 ∧ k ((bs.countP id : Nat) : Int)
  | _ => False
def gSumA (ds : List D) (k : DV → Prop) : Prop := oneK ds fun d => sumK d fun n => k (.val (.int n))
theorem intsK_of : ∀ {ns : List Int} {k : List Int → Prop}, k ns → intsK (ns.map .int) k
  | [], _, h => h
  | n :: ns, k, h => intsK_of (ns := ns) (k := fun bs => k (n :: bs)) h
theorem boolsK_of : ∀ {ns : List Bool} {k : List Bool → Prop}, k ns → boolsK (ns.map .bool) k
  | [], _, h => h
  | n :: ns, k, h => boolsK_of (ns := ns) (k := fun bs => k (n :: bs)) h
theorem sumK_ints {ns : List Int} {k : Int → Prop} (h : k ns.sum) : sumK (.tuple (ns.map .int)) k := .inl (intsK_of h)
theorem sumK_bools {bs : List Bool} {k : Int → Prop} (hz : bs.length ≤ 16777216) (h : k ((bs.countP id : Nat) : Int)) : sumK (.tuple (bs.map .bool)) k := .inr (boolsK_of ⟨hz, h⟩)
theorem sumA_op : OpN K (rSumA K) gSumA := by
  intro O H xs ds Qd Q ob hx hg k
  obtain ⟨v, d, e, h, hg⟩ := one_inv hx hg
  subst e
  cases d with
  | list ys =>
    obtain ⟨a, ws, ev, h1, h2⟩ := h.lst
    obtain ⟨ns, eb, q⟩ := intsK_inv h2 hg
    exact .inl ⟨a, ns, by rw [ev], .inl (by rw [← eb]; exact h1), k _ _ _ q (Same.refl _) (Fre.refl _) (.int _)⟩
  | tuple ys =>
    obtain ⟨a, ws, ev, h1, h2⟩ := h.tup
    rcases hg with hg | hg
    · obtain ⟨ns, eb, q⟩ := intsK_inv h2 hg
      exact .inl ⟨a, ns, by rw [ev], .inr (by rw [← eb]; exact h1), k _ _ _ q (Same.refl _) (Fre.refl _) (.int _)⟩
    · obtain ⟨bs, eb, q⟩ := boolsK_inv h2 hg
      exact .inr ⟨a, bs, by rw [ev], by rw [← eb]; exact h1, q.1, k _ _ _ q.2 (Same.refl _) (Fre.refl _) (.int _)⟩
  | _ => exact (show False from hg).elim
end
end DL
set_option maxRecDepth 100000
set_option maxHeartbeats 1000000
/-! a, b, .. = x: a list by its name, taken apart -/
namespace DL
open PySem PySem.Spec L2 LamX
section
variable {T : Tb} {X : Cx} {es : List Expr} {pos : Pos}
def wUnl (i n : Nat) (gs : WGs) : WS := fun ρ P => lstOf ρ i fun ds => ds.length = n ∧ gs ds ρ P.nx
theorem s_unl {x k n : Nat} {xn : Str} {gs : WGs} {S : List Nat} {px tpos : Pos} (hN : X.N[x]? = some xn) (h : PGs X es (tGs X.K T S gs)) (hc : X.calm = true := by rfl) (hv : Vis X.env.scope xn := by first | exact Or.inl rfl | exact Or.inr (Or.inl rfl) | exact Or.inr (Or.inr rfl))
    (hd : (xn == ("__debug__" : Str)) = false := by decide) (hcd : (xn == ("__classdict__" : Str)) = false := by decide)
    (hn : (assignEach es X.env).length = n := by rfl) (hst : (assignEach es X.env).findIdx? (·.1) = none := by rfl)
    (hs : swapsWithSole [.Tuple es k tpos] (.Name xn px) pos.line X.env = pure false := by rfl) (hw : swappedStores [.Tuple es k tpos] (.Name xn px) X.env = pure none := by rfl) (h1 : (assignEach [.Tuple es k tpos] X.env).map (·.2) = [assign (.Tuple es k tpos) X.env] := by rfl) :
    PS X (.Assign [.Tuple es k tpos] (.Name xn px) pos) (tS X.K T (wUnl x n gs)) :=
  (ps_asg (pe_var hN hv hd hcd) (pg_lst hc h hn hst) hs hw h1).imp fun D σ H w => by
    obtain ⟨E0, B, ρ, P, er, tb, w, q, _⟩ := w
    obtain ⟨ds, hb, hl, w⟩ := lstOf_some w
    obtain ⟨a, e1, _, vs, e2, rl⟩ := er.bx x _ hb
    exact ⟨.ref a, e1, a, vs, rfl, .inl (.inl e2), by rw [rl.length]; exact hl, E0, B, ρ, ds, _, er, tb, rl, w, fun σ' H' ρ' c A _ => q _ _ _ c A⟩
end
end DL
set_option maxRecDepth 100000
set_option maxHeartbeats 1000000
/-! dicts by tuple keys, at the library's level -/
namespace DL
open PySem PySem.Spec L2 LamX
mutual
/-- the value is the key -/
inductive NK (K : PySem.W.Frag) (H : Hp) : V → NestedKey → Prop
  | non : NK K H .non .none
  | bl (b : Bool) : NK K H (.bl b) (.num (if b then 1 else 0))
  | int (i : Int) : NK K H (.int i) (.num i)
  | str (x : Str) : NK K H (.str x) (.text x)
  | tup {a : Addr} {xs : List V} {ks : List NestedKey} : SqT K H a xs → NKL K H xs ks → NK K H (.ref a) (.tup ks)
inductive NKL (K : PySem.W.Frag) (H : Hp) : List V → List NestedKey → Prop
  | nil : NKL K H [] []
  | cons {v : V} {vs : List V} {k : NestedKey} {ks : List NestedKey} : NK K H v k → NKL K H vs ks → NKL K H (v :: vs) (k :: ks)
end
theorem keysOf_cons {d : D} {ds : List D} {ks : List NestedKey} (h : keysOf (d :: ds) = some ks) : ∃ a b, keyOf d = some a ∧ keysOf ds = some b ∧ ks = a :: b := by
  rw [keysOf] at h
  cases e1 : keyOf d with
  | none => rw [e1] at h; cases h
  | some a =>
    cases e2 : keysOf ds with
    | none => rw [e1, e2] at h; cases h
    | some b => rw [e1, e2] at h; cases h; exact ⟨a, b, rfl, rfl, rfl⟩
section
variable {K : PySem.W.Frag} {O : As} {H : Hp}
theorem Rp.nk {v : V} {d : D} (h : Rp K O H v d) : ∀ {k : NestedKey}, keyOf d = some k → NK K H v k :=
  Rp.rec (motive_1 := fun v d _ => ∀ {k : NestedKey}, keyOf d = some k → NK K H v k) (motive_2 := fun vs ds _ => ∀ {ks : List NestedKey}, keysOf ds = some ks → NKL K H vs ks)
    (fun e => by rw [keyOf] at e; cases e; exact .non) (fun b _ e => by rw [keyOf] at e; cases e; exact .bl b) (fun i _ e => by rw [keyOf] at e; cases e; exact .int i) (fun x _ e => by rw [keyOf] at e; cases e; exact .str x)
    (fun _ _ _ e => by rw [keyOf] at e; cases e) (fun _ _ _ _ e => by rw [keyOf] at e; cases e)
    (fun {a xs ds} s _ ih k e => by
      rw [keyOf] at e
      cases e2 : keysOf ds with
      | none => rw [e2] at e; cases e
      | some ks => rw [e2] at e; cases e; exact .tup s.sq (ih e2))
    (fun _ _ _ _ e => by rw [keyOf] at e; cases e) (fun _ _ _ _ _ _ _ e => by rw [keyOf] at e; cases e) (fun _ _ _ _ _ _ _ _ _ e => by rw [keyOf] at e; cases e)
    (fun e => by rw [keysOf] at e; cases e; exact .nil) (fun _ _ i1 i2 _ e => by
      obtain ⟨a, b, e1, e2, rfl⟩ := keysOf_cons e
      exact .cons (i1 e1) (i2 e2)) h
end
section
variable {X : Cx} {pins : List (Addr × Obj)} {σ : L2.St} {H : Hp} {s : Shared}
mutual
theorem NK.is (I : Inv X pins σ H s) : ∀ {v : V} {k : NestedKey} {u : Value}, NK X.K H v k → RelV v u → NestedIs s.heap k u
  | _, _, _, .non, r => by cases r; exact .none
  | _, _, _, .bl b, r => by cases r; exact .bool rfl
  | _, _, _, .int i, r => by obtain ⟨t, rfl⟩ := r; exact .int i t
  | _, _, _, .str x, r => by obtain ⟨t, rfl⟩ := r; exact .text x t
  | _, _, _, .tup q r, e => by
    cases e
    obtain ⟨its, rv, ⟨o, g1, g2, n, g3⟩, _⟩ := I.tuple q
    exact .tup g1 g2 g3 (NKL.is I r rv)
theorem NKL.is (I : Inv X pins σ H s) : ∀ {vs : List V} {ks : List NestedKey} {us : List Value}, NKL X.K H vs ks → Vals vs us → NestedAll s.heap ks us
  | _, _, _, .nil, .nil => .nil
  | _, _, _, .cons a b, .cons r t => .cons (NK.is I a r) (NKL.is I b t)
end
end
/-! ### look and store -/
def findX (xs : List Ent) (k : NestedKey) : Option Ent := xs.find? fun x => decide (x.1 = k)
def putX (xs : List Ent) (k : NestedKey) (b : Addr) (v : V) : List Ent := if (findX xs k).isSome then xs.map (fun x => if x.1 = k then (x.1, x.2.1, v) else x) else xs ++ [(k, b, v)]
theorem putX_ne {xs : List Ent} {k : NestedKey} {b : Addr} {v : V} : putX xs k b v ≠ [] := by
  unfold putX
  split
  · intro h
    have := List.map_eq_nil_iff.mp h
    subst this
    contradiction
  · simp
theorem ent_find {k : NestedKey} : ∀ {xs : List Ent} {ys : List EntV}, Paired EntR xs ys → (findX xs k = none ∧ atKey ys k = none) ∨ ∃ x p, findX xs k = some x ∧ atKey ys k = some p ∧ x.2.1 = p.1 ∧ RelV x.2.2 p.2
  | _, _, .nil => .inl ⟨rfl, rfl⟩
  | _, _, .cons (a := x) (b := y) r t => by
    obtain ⟨e1, e2, e3⟩ := r
    by_cases c : x.1 = k
    · refine .inr ⟨x, y.2, ?_, ?_, e2, e3⟩
      · unfold findX; rw [List.find?_cons_of_pos (by simpa using c)]
      · unfold atKey; rw [List.find?_cons_of_pos (by simpa [← e1] using c)]; rfl
    · have c2 : ¬ y.1 = k := by rw [← e1]; exact c
      rcases ent_find (k := k) t with ⟨h1, h2⟩ | ⟨x', p, h1, h2, h3⟩
      · refine .inl ⟨?_, ?_⟩
        · unfold findX; rw [List.find?_cons_of_neg (by simpa using c)]; exact h1
        · unfold atKey; rw [List.find?_cons_of_neg (by simpa using c2)]; exact h2
      · refine .inr ⟨x', p, ?_, ?_, h3⟩
        · unfold findX; rw [List.find?_cons_of_neg (by simpa using c)]; exact h1
        · unfold atKey; rw [List.find?_cons_of_neg (by simpa using c2)]; exact h2
theorem ent_put {k : NestedKey} {b : Addr} {v : V} {r : Value} (rv : RelV v r) {xs : List Ent} {ys : List EntV} (h : Paired EntR xs ys) : Paired EntR (putX xs k b v) (storedH ys k b r) := by
  have snoc : ∀ {xs : List Ent} {ys : List EntV}, Paired EntR xs ys → Paired EntR (xs ++ [(k, b, v)]) (ys ++ [(k, b, r)]) := fun {xs ys} h => by
    induction h with
    | nil => exact .cons ⟨rfl, rfl, rv⟩ .nil
    | cons h _ ih => exact .cons h ih
  have mp : ∀ {xs : List Ent} {ys : List EntV}, Paired EntR xs ys → Paired EntR (xs.map fun x => if x.1 = k then (x.1, x.2.1, v) else x) (ys.map (putAt k r)) := fun {xs ys} h => by
    induction h with
    | nil => exact .nil
    | cons h _ ih =>
      refine .cons ?_ ih
      obtain ⟨e1, e2, e3⟩ := h
      rename_i x y _ _ _
      show EntR (if x.1 = k then (x.1, x.2.1, v) else x) (if y.1 = k then (y.1, y.2.1, r) else y)
      rw [← e1]
      split
      · exact ⟨rfl, e2, rv⟩
      · exact ⟨e1, e2, e3⟩
  unfold putX storedH
  rcases ent_find (k := k) h with ⟨h1, h2⟩ | ⟨x, p, h1, h2, _⟩
  · rw [h1, h2]; exact snoc h
  · rw [h1, h2]; exact mp h
theorem putX_keys {xs : List Ent} {k : NestedKey} {b : Addr} {v : V} {P : NestedKey → Addr → Prop} (h : ∀ x ∈ xs, P x.1 x.2.1) (hk : P k b) : ∀ x ∈ putX xs k b v, P x.1 x.2.1 := fun x hx => by
  unfold putX at hx
  split at hx
  · obtain ⟨y, hy, rfl⟩ := List.mem_map.mp hx
    split
    · exact h y hy
    · exact h y hy
  · rcases List.mem_append.mp hx with hx | hx
    · exact h x hx
    · rw [List.mem_singleton.mp hx]; exact hk
theorem putX_len {xs : List Ent} {k : NestedKey} {b : Addr} {v : V} : (putX xs k b v).length ≤ xs.length + 1 := by
  unfold putX
  split
  · rw [List.length_map]; omega
  · rw [List.length_append]; exact Nat.le_refl _
/-- what stands at a: a dict by tuple keys, or the empty one -/
def DNa (K : PySem.W.Frag) (H : Hp) (a : Addr) (xs : List Ent) : Prop := ((∃ o, H a = some (DN a o xs)) ∨ (xs = [] ∧ Rd H a (.dK []))) ∧ ∀ x ∈ xs, NK K H (.ref x.2.1) x.1
section
variable {X : Cx} {pins : List (Addr × Obj)} {σ : L2.St} {H : Hp} {s : Shared} {A : Around} {E : Value → Shared → Prop} {a b : Addr} {xs : List Ent} {k : NestedKey} {v : V} {r : Value}
theorem paired_mem {x : EntV} : ∀ {xs : List Ent} {ys : List EntV}, Paired EntR xs ys → x ∈ ys → ∃ y ∈ xs, EntR y x
  | _, _, .cons r t, h => by
    rcases List.mem_cons.mp h with e | h
    · rw [e]; exact ⟨_, List.mem_cons_self, r⟩
    · obtain ⟨y, hy, q⟩ := paired_mem t h
      exact ⟨y, List.mem_cons_of_mem _ hy, q⟩
theorem paired_keys : ∀ {xs : List Ent} {ys : List EntV}, Paired EntR xs ys → ys.map (·.1) = xs.map (·.1)
  | _, _, .nil => rfl
  | _, _, .cons r t => by rw [List.map_cons, List.map_cons, paired_keys t, r.1]
theorem entV_key {ys : List EntV} (h : ∀ y ∈ ys, keyOk y.1) (w : World) (P : Program) : ys.map entV = ys.map (entryOfKey (nestedKind P w)) :=
  List.map_congr_left fun y hy => by
    show (⟨hsh y.1, .ref y.2.1, y.2.2⟩ : DictEntry) = ⟨y.1.hash w, .ref y.2.1, y.2.2⟩
    rw [hash_hsh w y.1 (h y hy).1]
theorem dn_look (I : Inv X pins σ H s) (h : DNa X.K H a xs) : (a == sysModules) = false ∧ xs.length ≤ sizeLine ∧ (∀ x ∈ xs, keyOk x.1) ∧ ∃ ys, Paired EntR xs ys ∧ s.heap.DictOfH (nestedKind X.prog X.w) a ys := by
  obtain ⟨⟨o, h⟩ | ⟨rfl, h⟩, hk⟩ := h
  · obtain ⟨a1, a2, a3, a4, ys, es, ep, p, e, c, d, g⟩ := DnOk.of (I.hok a _ h)
    refine ⟨a1, a2, a4, ys, p, o, es, ep, e, c, d, ?_, fun y hy => ?_, by rw [paired_keys p]; exact a3⟩
    · rw [g]
      exact entV_key (fun y hy => by obtain ⟨x, hx, q⟩ := paired_mem p hy; rw [← q.1]; exact a4 x hx) _ _
    · obtain ⟨x, hx, q1, q2, _⟩ := paired_mem p hy
      refine ⟨?_, by rw [← q1]; exact (a4 x hx).2⟩
      rw [← q1, ← q2]
      exact NK.is I (hk x hx) rfl
  · obtain ⟨z, hd, vs, rel, o, es, ep, e, c, d, _, ps, nd⟩ := dk_rd I.hok h
    refine ⟨hd, Nat.zero_le _, (fun _ h => nomatch h), [], .nil, o, es, ep, e, c, d, ?_, (fun _ h => nomatch h), List.Pairwise.nil⟩
    have : vs = [] := by cases rel; rfl
    subst this
    have := ps.length
    simpa using this
theorem dn_new (h1 : (a == sysModules) = false) {ys : List EntV} {h' : Heap} {P : Program} {w : World} {H' : Hp} (hz : xs.length ≤ sizeLine) (ok : ∀ x ∈ xs, keyOk x.1) (p : Paired EntR xs ys) (d : h'.DictOfH (nestedKind P w) a ys) : ∃ o, h'.get? a = some o ∧ ObjOk P w H' h' a (DN a o xs) := by
  obtain ⟨o, es, ep, e, c, dd, g, _, nd⟩ := d
  refine ⟨o, e, DnOk.ok ⟨h1, hz, by rw [← paired_keys p]; exact nd, ok, ys, es, ep, p, e, c, dd, ?_⟩⟩
  rw [g]
  exact (entV_key (fun y hy => by obtain ⟨x, hx, q⟩ := paired_mem p hy; rw [← q.1]; exact ok x hx) w P).symm
theorem nk_is (I : Inv X pins σ H s) (hk : NK X.K H (.ref b) k) (ok : keyOk k) : (nestedKind X.prog X.w).is s.heap k b := ⟨NK.is I hk rfl, ok.2⟩
theorem dn_stored {h' : Heap} {tk : Nat} {ys : List EntV} (I : Inv X pins σ H s) (mu : Mut (H a)) (hm : DNa X.K H a xs) (ok : keyOk k) (hz : xs.length < sizeLine) (rv : RelV v r) (p : Paired EntR xs ys) (d : h'.DictOfH (nestedKind X.prog X.w) a (storedH ys k b r)) (hs : Heap.SameBut a s.heap h') :
    ∃ o, Inv X pins σ (upd H a (DN a o (putX xs k b v))) { s with heap := h', toks := tk } := by
  obtain ⟨h1, h2, h3, _⟩ := dn_look I hm
  obtain ⟨o, e, ok⟩ := dn_new (H' := fun _ => none) h1 (by have := putX_len (xs := xs) (k := k) (b := b) (v := v); omega) (putX_keys (P := fun k _ => keyOk k) h3 ok) (ent_put rv p) d
  exact ⟨o, d_write I mu hs ⟨o, e⟩ (DnOk.ok (DnOk.of ok))⟩
/-- d[k] = v -/
theorem dn_setItem {Q : Unit → Shared → Prop} (hu : A.units + 10 < cLine) (I : Inv X pins σ H s) (mu : Mut (H a)) (hm : DNa X.K H a xs) (hk : NK X.K H (.ref b) k) (ok : keyOk k) (hz : xs.length < sizeLine) (rv : RelV v r) (h : ∀ o s', Inv X pins σ (upd H a (DN a o (putX xs k b v))) s' → Q () s') :
    wpAny (model X.prog X.w) A (setItem (.ref a) (.ref b) r) Q E s := by
  obtain ⟨h1, h2, h3, ys, p, d⟩ := dn_look I hm
  have hl : ys.length = xs.length := (Paired.length p).symm
  exact wpAny_setItem_heap (hsz := by omega) (show A.units + 1 + 8 < cLine by omega) (nk_is I hk ok) d fun h' d' hs => let ⟨o, J⟩ := dn_stored I mu hm ok hz rv p d' hs; h o _ J
theorem dn_dictSet {Q : Unit → Shared → Prop} (hu : A.units + 10 < cLine) (I : Inv X pins σ H s) (mu : Mut (H a)) (hm : DNa X.K H a xs) (hk : NK X.K H (.ref b) k) (ok : keyOk k) (hz : xs.length < sizeLine) (rv : RelV v r) (h : ∀ o s', Inv X pins σ (upd H a (DN a o (putX xs k b v))) s' → Q () s') :
    wpAny (model X.prog X.w) A (dictSet a (.ref b) r) Q E s := by
  obtain ⟨h1, h2, h3, ys, p, d⟩ := dn_look I hm
  have hl : ys.length = xs.length := (Paired.length p).symm
  exact wpAny_dictSet_heap (hsz := by omega) (show A.units + 8 < cLine by omega) (nk_is I hk ok) d fun h' d' hs => let ⟨o, J⟩ := dn_stored I mu hm ok hz rv p d' hs; h o _ J
end
end DL
set_option maxRecDepth 100000
set_option maxHeartbeats 1000000
/-! dicts over data: looked up, stored -/
namespace DL
open PySem PySem.Spec L2 LamX
/-- what the dict at a holds at y -/
def DLook (K : PySem.W.Frag) (H : Hp) (a : Addr) (y : V) (r : Option V) : Prop :=
  DGet H a y r ∨ ∃ (xs : List Ent) (k : NestedKey) (b : Addr), DNa K H a xs ∧ y = .ref b ∧ NK K H y k ∧ keyOk k ∧ r = (findX xs k).map (·.2.2)
/-- the heap behind a[y] = v -/
def DSto (K : PySem.W.Frag) (H : Hp) (a : Addr) (y v : V) (R : Hp → Prop) : Prop :=
  (∃ H', DPut H a y v H' ∧ R H') ∨ ∃ (xs : List Ent) (k : NestedKey) (b : Addr), Mut (H a) ∧ DNa K H a xs ∧ y = .ref b ∧ NK K H y k ∧ keyOk k ∧ xs.length < sizeLine ∧ ∀ o, R (upd H a (DN a o (putX xs k b v)))
theorem DSto.imp {K : PySem.W.Frag} {H : Hp} {a : Addr} {y v : V} {R R' : Hp → Prop} (h : DSto K H a y v R) (f : ∀ H', R H' → R' H') : DSto K H a y v R' :=
  Or.imp (fun ⟨H', g, q⟩ => ⟨H', g, f _ q⟩) (fun ⟨xs, k, b, mu, hm, e, hk, ok, hz, q⟩ => ⟨xs, k, b, mu, hm, e, hk, ok, hz, fun o => f _ (q o)⟩) h
section
variable {X : Cx} {pins : List (Addr × Obj)} {σ : L2.St} {H : Hp} {s : Shared} {A : Around} {E : Value → Shared → Prop} {a b : Addr} {xs : List Ent} {k : NestedKey} {y v d : V} {u r : Value} {o : Option V}
theorem ent_get {ys : List EntV} (p : Paired EntR xs ys) (dv : V) (dr : Value) (rd : RelV dv dr) : RelV (((findX xs k).map (·.2.2)).getD dv) (((atKey ys k).map (·.2)).getD dr) := by
  rcases ent_find (k := k) p with ⟨h1, h2⟩ | ⟨x, q, h1, h2, _, h3⟩
  · rw [h1, h2]; exact rd
  · rw [h1, h2]; exact h3
theorem ent_some {ys : List EntV} (p : Paired EntR xs ys) : (atKey ys k).isSome = (findX xs k).isSome := by
  rcases ent_find (k := k) p with ⟨h1, h2⟩ | ⟨x, q, h1, h2, _, h3⟩ <;> rw [h1, h2] <;> rfl
theorem dl_getItem {Q : Value → Shared → Prop} (hu : A.units + 10 < cLine) (I : Inv X pins σ H s) (g : DLook X.K H a y (some v)) (ry : RelV y u) (h : ∀ w' s', Inv X pins σ H s' → RelV v w' → Q w' s') :
    wpAny (model X.prog X.w) A (getItem (.ref a) u) Q E s := by
  rcases g with g | ⟨xs, k, b, hm, rfl, hk, ok, e⟩
  · exact d_getItem (by omega) I g ry h
  · cases ry
    obtain ⟨h1, h2, h3, ys, p, dd⟩ := dn_look I hm
    rcases ent_find (k := k) p with ⟨q1, q2⟩ | ⟨x, q, q1, q2, _, q3⟩
    · rw [q1] at e; cases e
    · rw [q1] at e; cases e
      exact wpAny_getItem_heap (show A.units + 1 + 8 < cLine by omega) (nk_is I hk ok) dd q2 (h _ _ (I.tok _) q3)
theorem dl_in {Q : Value → Shared → Prop} (hu : A.units + 10 < cLine) (I : Inv X pins σ H s) (g : DLook X.K H a y o) (ry : RelV y u) (h : ∀ s', Inv X pins σ H s' → Q (.bool o.isSome) s') :
    wpAny (model X.prog X.w) A (compareOp .In u (.ref a)) Q E s := by
  rcases g with g | ⟨xs, k, b, hm, rfl, hk, ok, e⟩
  · exact d_in (by omega) I g ry h
  · cases ry
    obtain ⟨h1, h2, h3, ys, p, dd⟩ := dn_look I hm
    refine wpAny_in_heap (show A.units + 1 + 8 < cLine by omega) (nk_is I hk ok) h1 dd ?_
    rw [ent_some p, ← Option.isSome_map (f := fun x : Ent => x.2.2), ← e]
    exact h _ (I.tok _)
theorem dl_notIn {Q : Value → Shared → Prop} (hu : A.units + 10 < cLine) (I : Inv X pins σ H s) (g : DLook X.K H a y o) (ry : RelV y u) (h : ∀ s', Inv X pins σ H s' → Q (.bool (!o.isSome)) s') :
    wpAny (model X.prog X.w) A (compareOp .NotIn u (.ref a)) Q E s := by
  rcases g with g | ⟨xs, k, b, hm, rfl, hk, ok, e⟩
  · exact d_notIn (by omega) I g ry h
  · cases ry
    obtain ⟨h1, h2, h3, ys, p, dd⟩ := dn_look I hm
    refine notIn_keyed (show A.units + 1 + 8 < cLine by omega) (nk_is I hk ok) h1 ⟨ys, dd, rfl⟩ ?_
    rw [valueAt_pairsH, Option.isSome_map, ent_some p, ← Option.isSome_map (f := fun x : Ent => x.2.2), ← e]
    exact h _ (I.tok _)
theorem dl_get2 {Q : Value → Shared → Prop} (hu : A.units + 10 < cLine) (I : Inv X pins σ H s) (g : DLook X.K H a y o) (ry : RelV y u) (rd : RelV d r) (h : ∀ w' s', Inv X pins σ H s' → RelV (o.getD d) w' → Q w' s') :
    wpAny (model X.prog X.w) A (call (.builtin "dict.get") [.ref a, u, r]) Q E s := by
  rcases g with g | ⟨xs, k, b, hm, rfl, hk, ok, e⟩
  · exact d_get2 (by omega) I g ry rd h
  · cases ry
    obtain ⟨h1, h2, h3, ys, p, dd⟩ := dn_look I hm
    refine call_meetsIn PySem.F.slot_dict_get dd.typeIs PySem.F.entry_dict_get (PySem.F.args_dict_get_3 _ _ _) (meetsH_dict_get_default (nestedKind X.prog X.w) a b h1 r) ⟨show A.units + 1 + 8 < cLine by omega, k, ys, nk_is I hk ok, dd, h _ _ (I.tok _) ?_⟩
    rw [e]
    exact ent_get p d r rd
theorem dl_setItem {R : Hp → Prop} {Q : Unit → Shared → Prop} (hu : A.units + 10 < cLine) (I : Inv X pins σ H s) (g : DSto X.K H a y v R) (ry : RelV y u) (rv : RelV v r) (h : ∀ H' s', R H' → Inv X pins σ H' s' → Q () s') :
    wpAny (model X.prog X.w) A (setItem (.ref a) u r) Q E s := by
  rcases g with ⟨H', g, q⟩ | ⟨xs, k, b, mu, hm, rfl, hk, ok, hz, q⟩
  · exact d_setItem (by omega) I g ry rv fun s' I' => h H' s' q I'
  · cases ry
    exact dn_setItem hu I mu hm hk ok hz rv fun o s' I' => h _ s' (q o) I'
end
/-! ### the rules -/
def rInDk (K : PySem.W.Frag) (neg : Bool) : R2 := fun x y H Q => ∃ a o, y = .ref a ∧ DLook K H a x o ∧ Q (.bl (if neg then !o.isSome else o.isSome)) H
def rIxDk (K : PySem.W.Frag) : R2 := fun x y H Q => ∃ a v, x = .ref a ∧ DLook K H a y (some v) ∧ Q v H
def rGet2 (K : PySem.W.Frag) : V → List V → Hp → VK → Prop := fun x xs H Q => ∃ a y d o, x = .ref a ∧ xs = [y, d] ∧ DLook K H a y o ∧ Q (o.getD d) H
section
variable {X : Cx}
theorem op_inDk (hu : X.A.units + 10 < cLine) : OpR X (compareOp .In) (rInDk X.K false) := by
  intro pins s σ H x y v u Q I rx ry h
  obtain ⟨a, o, rfl, g, q⟩ := h
  cases ry
  exact dl_in hu I g rx fun s' I' => ⟨.bl _, H, I', rfl, q⟩
theorem op_notInDk (hu : X.A.units + 10 < cLine) : OpR X (compareOp .NotIn) (rInDk X.K true) := by
  intro pins s σ H x y v u Q I rx ry h
  obtain ⟨a, o, rfl, g, q⟩ := h
  cases ry
  exact dl_notIn hu I g rx fun s' I' => ⟨.bl _, H, I', rfl, q⟩
theorem mt_get2 (hu : X.A.units + 10 < cLine) : MtR X "dict.get" (rGet2 X.K) := by
  intro pins s σ H x xs v us Q I rx rxs h
  obtain ⟨a, y, d, o, rfl, rfl, g, q⟩ := h
  cases rx
  obtain ⟨u1, u2, rfl, r1, r2⟩ := vals2 rxs
  exact dl_get2 hu I g r1 r2 fun w' s' I' rv => ⟨_, H, I', rv, q⟩
theorem set_dk (hu : X.A.units + 10 < cLine) : PSet X (fun o i v H Q => ∃ a, o = .ref a ∧ DSto X.K H a i v Q) := by
  intro pins s σ H o i v ov iv u Q I ro ri rv h
  obtain ⟨a, rfl, g⟩ := h
  cases ro
  exact dl_setItem hu I g ri rv fun H' s' q I' => ⟨H', I', q⟩
end
end DL
set_option maxRecDepth 100000
set_option maxHeartbeats 1000000
/-! dicts as data -/
namespace DL
open PySem PySem.Spec L2 LamX
/-- a key's kind: 0 number or text, 1 tuple, 2 none -/
def kin (d : D) : Nat := match d with
  | .int _ => 0
  | .str _ => 0
  | .tuple ds => match keyOf (.tuple ds) with
    | some k => if noText k && decide (k.depth ≤ 8) then 1 else 2
    | none => 2
  | _ => 2
def keyE (a b : D) : Bool := match keyOf a, keyOf b with
  | some x, some y => decide (x = y)
  | _, _ => false
def hasD (kvs : List (D × D)) (d : D) : Bool := kvs.any fun p => keyE p.1 d
def getD' (kvs : List (D × D)) (d : D) : Option D := (kvs.find? fun p => keyE p.1 d).map (·.2)
def putD (kvs : List (D × D)) (d v : D) : List (D × D) := if hasD kvs d then kvs.map (fun p => if keyE p.1 d then (p.1, v) else p) else kvs ++ [(d, v)]
/-- keys of one kind -/
def Fit (kvs : List (D × D)) (d : D) : Prop := (kin d = 0 ∨ kin d = 1) ∧ ∀ p ∈ kvs, kin p.1 = kin d
theorem hasD_get (kvs : List (D × D)) (d : D) : hasD kvs d = (getD' kvs d).isSome := by
  unfold hasD getD'
  rw [Option.isSome_map]
  induction kvs with
  | nil => rfl
  | cons p r ih =>
    rw [List.any_cons]
    cases e : keyE p.1 d with
    | true => simp [List.find?_cons, e]
    | false => simp only [List.find?_cons, e, Bool.false_or]; exact ih
theorem kin_tup {d : D} (h : kin d = 1) : ∃ ds k, d = .tuple ds ∧ keyOf d = some k ∧ keyOk k := by
  unfold kin at h
  cases d with
  | tuple ds =>
    simp only at h
    cases e : keyOf (.tuple ds) with
    | none => rw [e] at h; cases h
    | some k =>
      rw [e] at h
      simp only at h
      split at h
      · rename_i c
        rw [Bool.and_eq_true] at c
        exact ⟨ds, k, rfl, rfl, c.1, of_decide_eq_true c.2⟩
      · cases h
  | _ => cases h
section
variable {K : PySem.W.Frag} {O : As} {H : Hp} {a : Addr} {y v : V} {d dk dv : D} {kvs : List (D × D)}
theorem kin_key (h : Rp K O H y d) (k : kin d = 0) : ∃ j : Key, y = kV j ∧ keyOf d = some (match j with | .inl i => .num i | .inr x => .text x) := by
  cases h with
  | int i => exact ⟨.inl i, rfl, by rw [keyOf]⟩
  | str x => exact ⟨.inr x, rfl, by rw [keyOf]⟩
  | tup _ _ => unfold kin at k; simp only at k; split at k <;> first | (split at k <;> cases k) | cases k
  | _ => cases k
def keyN (j : Key) : NestedKey := match j with
  | .inl i => .num i
  | .inr x => .text x
theorem keyN_inj {j k : Key} : decide (keyN j = keyN k) = decide (j = k) := by
  cases j <;> cases k <;> simp [keyN]
theorem rp_kV {j : Key} (h : Rp K O H (kV j) d) : keyOf d = some (keyN j) := by
  cases j with
  | inl i => cases h; rw [keyOf]; rfl
  | inr x => cases h; rw [keyOf]; rfl
theorem rp_kV0 {j : Key} (h : Rp K O H (kV j) d) : kin d = 0 := by
  cases j with
  | inl i => cases h; rfl
  | inr x => cases h; rfl
theorem val_of {j : Key} (hj : keyOf dk = some (keyN j)) : ∀ {ks : List (Key × V)} {kvs : List (D × D)}, RpL K O H (ks.map fun p => kV p.1) (kvs.map (·.1)) → RpL K O H (ks.map (·.2)) (kvs.map (·.2)) →
    (valV ks j = none ∧ getD' kvs dk = none) ∨ ∃ v d, valV ks j = some v ∧ getD' kvs dk = some d ∧ Rp K O H v d
  | [], [], _, _ => .inl ⟨rfl, rfl⟩
  | [], _ :: _, h, _ => nomatch h
  | _ :: _, [], h, _ => nomatch h
  | p :: ks, q :: kvs, .cons r1 t1, .cons r2 t2 => by
    have e1 := rp_kV r1
    have ke : keyE q.1 dk = decide (p.1 = j) := by unfold keyE; rw [e1, hj]; exact keyN_inj
    by_cases c : p.1 = j
    · refine .inr ⟨p.2, q.2, valV_pos c, ?_, r2⟩
      unfold getD'
      rw [List.find?_cons_of_pos (by rw [ke]; simpa using c)]
      rfl
    · have e : getD' (q :: kvs) dk = getD' kvs dk := by
        unfold getD'
        rw [List.find?_cons_of_neg (by rw [ke]; simpa using c)]
      rw [e, valV_neg c]
      exact val_of hj t1 t2
theorem ent_of {k : NestedKey} (hk : keyOf dk = some k) : ∀ {xs : List Ent} {kvs : List (D × D)}, (kvs.map fun p => keyOf p.1) = xs.map (fun x => some x.1) → RpL K O H (xs.map fun x => x.2.2) (kvs.map (·.2)) →
    (findX xs k = none ∧ getD' kvs dk = none) ∨ ∃ x d, findX xs k = some x ∧ getD' kvs dk = some d ∧ Rp K O H x.2.2 d
  | [], [], _, _ => .inl ⟨rfl, rfl⟩
  | [], _ :: _, h, _ => nomatch h
  | _ :: _, [], h, _ => nomatch h
  | x :: xs, q :: kvs, e, .cons r2 t2 => by
    rw [List.map_cons, List.map_cons, List.cons_eq_cons] at e
    have ke : keyE q.1 dk = decide (x.1 = k) := by unfold keyE; rw [e.1, hk]
    by_cases c : x.1 = k
    · refine .inr ⟨x, q.2, ?_, ?_, r2⟩
      · unfold findX; rw [List.find?_cons_of_pos (by simpa using c)]
      · unfold getD'; rw [List.find?_cons_of_pos (by rw [ke]; simpa using c)]; rfl
    · have e1 : getD' (q :: kvs) dk = getD' kvs dk := by
        unfold getD'
        rw [List.find?_cons_of_neg (by rw [ke]; simpa using c)]
      have e2 : findX (x :: xs) k = findX xs k := by
        unfold findX
        rw [List.find?_cons_of_neg (by simpa using c)]
      rw [e1, e2]
      exact ent_of hk e.2 t2
theorem ent_nk : ∀ {xs : List Ent} {kvs : List (D × D)}, (kvs.map fun p => keyOf p.1) = xs.map (fun x => some x.1) → RpL K O H (xs.map fun x => V.ref x.2.1) (kvs.map (·.1)) → ∀ x ∈ xs, NK K H (.ref x.2.1) x.1
  | [], _, _, _ => fun _ h => nomatch h
  | x :: xs, [], e, _ => nomatch e
  | x :: xs, q :: kvs, e, .cons r t => by
    rw [List.map_cons, List.map_cons, List.cons_eq_cons] at e
    intro z hz
    rcases List.mem_cons.mp hz with rfl | hz
    · exact r.nk e.1
    · exact ent_nk e.2 t z hz
/-- the first key of a dict by tuple keys is a tuple -/
theorem ref_kin {b : Addr} (h : Rp K O H (.ref b) d) : kin d ≠ 0 := fun k => by
  obtain ⟨j, e, _⟩ := kin_key h k
  cases j <;> cases e
theorem look_of (h : DctL K O H a kvs) (hy : Rp K O H y dk) (f : Fit kvs dk) : ∃ r, DLook K H a y r ∧ ((r = none ∧ getD' kvs dk = none) ∨ ∃ v d, r = some v ∧ getD' kvs dk = some d ∧ Rp K O H v d) := by
  obtain ⟨f1, f2⟩ := f
  rcases h with ⟨ks, rd, r1, r2⟩ | ⟨o, xs, e, ne, q, r1, r2⟩
  · rcases f1 with f1 | f1
    · obtain ⟨j, ey, ej⟩ := kin_key hy f1
      exact ⟨_, .inl (.inl ⟨ks, j, rd, ey, rfl⟩), val_of (show keyOf dk = some (keyN j) from ej) r1 r2⟩
    · obtain ⟨ds, k, e, ek, ok⟩ := kin_tup f1
      have : ks = [] := by
        cases ks with
        | nil => rfl
        | cons p ks =>
          cases kvs with
          | nil => cases r1
          | cons q kvs =>
            cases r1 with
            | cons r _ =>
              have := rp_kV0 r
              rw [f2 q List.mem_cons_self, f1] at this
              cases this
      subst this
      have kn : kvs = [] := by
        cases kvs with
        | nil => rfl
        | cons _ _ => cases r1
      subst kn
      have hr := hy
      subst e
      cases hy with
      | tup s t => exact ⟨none, .inr ⟨[], k, _, ⟨.inr ⟨rfl, rd⟩, fun _ h => nomatch h⟩, rfl, hr.nk ek, ok, rfl⟩, .inl ⟨rfl, rfl⟩⟩
  · rcases f1 with f1 | f1
    · exfalso
      cases xs with
      | nil => exact ne rfl
      | cons x xs =>
        cases kvs with
        | nil => cases q
        | cons p kvs =>
          cases r1 with
          | cons r _ => exact ref_kin r (by rw [f2 p List.mem_cons_self]; exact f1)
    · obtain ⟨ds, k, e1, ek, ok⟩ := kin_tup f1
      have hr := hy
      subst e1
      cases hy with
      | tup s t =>
        refine ⟨_, .inr ⟨xs, k, _, ⟨.inl ⟨_, e⟩, ent_nk q r1⟩, rfl, hr.nk ek, ok, rfl⟩, ?_⟩
        rcases ent_of ek q r2 with ⟨h1, h2⟩ | ⟨x, d, h1, h2, h3⟩
        · exact .inl ⟨by rw [h1]; rfl, h2⟩
        · exact .inr ⟨_, d, by rw [h1]; rfl, h2, h3⟩
/-! ### stored -/
/-- the thing o1 at a holds kvs, by what stood before -/
def DctPre (K : PySem.W.Frag) (O : As) (H : Hp) (a : Addr) (o1 : HO) (kvs : List (D × D)) : Prop :=
  (∃ ks : List (Key × V), o1 = .dK ks ∧ RpL K O H (ks.map fun p => kV p.1) (kvs.map (·.1)) ∧ RpL K O H (ks.map (·.2)) (kvs.map (·.2))) ∨
    ∃ (o : Obj) (xs : List Ent), o1 = DN a o xs ∧ xs ≠ [] ∧ (kvs.map fun p => keyOf p.1) = xs.map (fun x => some x.1) ∧ RpL K O H (xs.map fun x => V.ref x.2.1) (kvs.map (·.1)) ∧ RpL K O H (xs.map fun x => x.2.2) (kvs.map (·.2))
theorem DctPre.to {O' : As} {H' : Hp} {o1 : HO} (h : DctPre K O H a o1 kvs) (e : H' a = some o1) (f : ∀ {vs ds}, RpL K O H vs ds → RpL K O' H' vs ds) : DctR K O' H' a kvs :=
  Or.imp (fun ⟨ks, e1, r1, r2⟩ => ⟨ks, by rw [← e1]; exact e, f r1, f r2⟩) (fun ⟨o, xs, e1, q, q2, r1, r2⟩ => ⟨o, xs, by rw [← e1]; exact e, q, q2, f r1, f r2⟩) h
theorem DctPre.box {o1 : HO} (h : DctPre K O H a o1 kvs) : BoxO o1 := by
  rcases h with ⟨ks, e, _⟩ | ⟨o, xs, e, _⟩
  · rw [e]; exact .dK _
  · rw [e]; exact .dn _ _ _
theorem putK_rel {j : Key} (hj : keyOf dk = some (keyN j)) (hy : Rp K O H (kV j) dk) (hv : Rp K O H v dv) {ks : List (Key × V)} {kvs : List (D × D)} (r1 : RpL K O H (ks.map fun p => kV p.1) (kvs.map (·.1))) (r2 : RpL K O H (ks.map (·.2)) (kvs.map (·.2))) :
    RpL K O H ((L2.putK ks j v).map fun p => kV p.1) ((putD kvs dk dv).map (·.1)) ∧ RpL K O H ((L2.putK ks j v).map (·.2)) ((putD kvs dk dv).map (·.2)) := by
  have mp : ∀ {ks : List (Key × V)} {kvs : List (D × D)}, RpL K O H (ks.map fun p => kV p.1) (kvs.map (·.1)) → RpL K O H (ks.map (·.2)) (kvs.map (·.2)) →
      RpL K O H ((ks.map fun kv => if kv.1 = j then (kv.1, v) else kv).map fun p => kV p.1) ((kvs.map fun p => if keyE p.1 dk then (p.1, dv) else p).map (·.1)) ∧ RpL K O H ((ks.map fun kv => if kv.1 = j then (kv.1, v) else kv).map (·.2)) ((kvs.map fun p => if keyE p.1 dk then (p.1, dv) else p).map (·.2)) := fun {ks} => by
    induction ks with
    | nil =>
      intro kvs r1 r2
      cases kvs with
      | nil => exact ⟨.nil, .nil⟩
      | cons _ _ => cases r1
    | cons p ks ih =>
      intro kvs r1 r2
      cases kvs with
      | nil => cases r1
      | cons q kvs =>
        cases r1 with
        | cons a1 t1 => cases r2 with
          | cons a2 t2 =>
            obtain ⟨i1, i2⟩ := ih t1 t2
            have ke : keyE q.1 dk = decide (p.1 = j) := by unfold keyE; rw [rp_kV a1, hj]; exact keyN_inj
            rw [List.map_cons, List.map_cons, List.map_cons, List.map_cons, List.map_cons, List.map_cons, ke]
            by_cases c : p.1 = j
            · rw [if_pos c, if_pos (by simpa using c)]
              exact ⟨.cons a1 i1, .cons hv i2⟩
            · rw [if_neg c, if_neg (by simpa using c)]
              exact ⟨.cons a1 i1, .cons a2 i2⟩
  have hs : (ks.any fun kv => decide (kv.1 = j)) = hasD kvs dk := by
    rw [hasD_get, valV_any]
    rcases val_of hj r1 r2 with ⟨h1, h2⟩ | ⟨_, _, h1, h2, _⟩ <;> rw [h1, h2] <;> rfl
  unfold L2.putK putD
  rw [hs]
  split
  · exact mp r1 r2
  · rw [List.map_append, List.map_append, List.map_append, List.map_append]
    exact ⟨r1.append (.cons hy .nil), r2.append (.cons hv .nil)⟩
theorem putX_rel {k : NestedKey} {b : Addr} (hk : keyOf dk = some k) (hy : Rp K O H (.ref b) dk) (hv : Rp K O H v dv) {xs : List Ent} {kvs : List (D × D)} (q : (kvs.map fun p => keyOf p.1) = xs.map (fun x => some x.1)) (r1 : RpL K O H (xs.map fun x => V.ref x.2.1) (kvs.map (·.1))) (r2 : RpL K O H (xs.map fun x => x.2.2) (kvs.map (·.2))) :
    ((putD kvs dk dv).map fun p => keyOf p.1) = (putX xs k b v).map (fun x => some x.1) ∧ RpL K O H ((putX xs k b v).map fun x => V.ref x.2.1) ((putD kvs dk dv).map (·.1)) ∧ RpL K O H ((putX xs k b v).map fun x => x.2.2) ((putD kvs dk dv).map (·.2)) := by
  have hs : (findX xs k).isSome = hasD kvs dk := by
    rw [hasD_get]
    rcases ent_of hk q r2 with ⟨h1, h2⟩ | ⟨_, _, h1, h2, _⟩ <;> rw [h1, h2] <;> rfl
  unfold putX putD
  rw [hs]
  split
  · have mp : ∀ {xs : List Ent} {kvs : List (D × D)}, (kvs.map fun p => keyOf p.1) = xs.map (fun x => some x.1) → RpL K O H (xs.map fun x => V.ref x.2.1) (kvs.map (·.1)) → RpL K O H (xs.map fun x => x.2.2) (kvs.map (·.2)) →
        ((kvs.map fun p => if keyE p.1 dk then (p.1, dv) else p).map fun p => keyOf p.1) = (xs.map fun x => if x.1 = k then (x.1, x.2.1, v) else x).map (fun x => some x.1) ∧ RpL K O H ((xs.map fun x => if x.1 = k then (x.1, x.2.1, v) else x).map fun x => V.ref x.2.1) ((kvs.map fun p => if keyE p.1 dk then (p.1, dv) else p).map (·.1)) ∧ RpL K O H ((xs.map fun x => if x.1 = k then (x.1, x.2.1, v) else x).map fun x => x.2.2) ((kvs.map fun p => if keyE p.1 dk then (p.1, dv) else p).map (·.2)) := fun {xs} => by
      induction xs with
      | nil =>
        intro kvs q r1 r2
        cases kvs with
        | nil => exact ⟨rfl, .nil, .nil⟩
        | cons _ _ => cases r1
      | cons x xs ih =>
        intro kvs q r1 r2
        cases kvs with
        | nil => cases r1
        | cons p kvs =>
          cases r1 with
          | cons a1 t1 => cases r2 with
            | cons a2 t2 =>
              rw [List.map_cons, List.map_cons, List.cons_eq_cons] at q
              obtain ⟨i0, i1, i2⟩ := ih q.2 t1 t2
              have ke : keyE p.1 dk = decide (x.1 = k) := by unfold keyE; rw [q.1, hk]
              simp only [List.map_cons, ke]
              by_cases c : x.1 = k
              · rw [if_pos c, if_pos (by simpa using c)]
                exact ⟨by rw [i0]; exact congrArg (· :: _) q.1, .cons a1 i1, .cons hv i2⟩
              · rw [if_neg c, if_neg (by simpa using c)]
                exact ⟨by rw [i0]; exact congrArg (· :: _) q.1, .cons a1 i1, .cons a2 i2⟩
    exact mp q r1 r2
  · simp only [List.map_append]
    exact ⟨by rw [q]; simp [hk], r1.append (.cons hy .nil), r2.append (.cons hv .nil)⟩
theorem sto_of (h : DctR K O H a kvs) (hy : Rp K O H y dk) (hv : Rp K O H v dv) (f : Fit kvs dk) (hz : kvs.length < 16777216) : DSto K H a y v fun H' => ∃ o1, H' = upd H a o1 ∧ DctPre K O H a o1 (putD kvs dk dv) := by
  obtain ⟨f1, f2⟩ := f
  have sz : ∀ {n : Nat}, n = kvs.length → n < sizeLine := fun e => by rw [sizeLine_eq, e]; exact hz
  rcases h with ⟨ks, rd, r1, r2⟩ | ⟨o, xs, e, ne, q, r1, r2⟩
  · rcases f1 with f1 | f1
    · obtain ⟨j, ey, ej⟩ := kin_key hy f1
      subst ey
      have l : ks.length = kvs.length := by have := r2.length; simpa using this
      exact .inl ⟨_, .inl ⟨ks, j, rd, rfl, sz l, rfl⟩, _, rfl, .inl ⟨_, rfl, putK_rel (show keyOf dk = some (keyN j) from ej) hy hv r1 r2⟩⟩
    · obtain ⟨ds, k, e, ek, ok⟩ := kin_tup f1
      have : ks = [] := by
        cases ks with
        | nil => rfl
        | cons p ks =>
          cases kvs with
          | nil => cases r1
          | cons q kvs =>
            cases r1 with
            | cons r _ =>
              have := rp_kV0 r
              rw [f2 q List.mem_cons_self, f1] at this
              cases this
      subst this
      have kn : kvs = [] := by
        cases kvs with
        | nil => rfl
        | cons _ _ => cases r1
      subst kn
      have hr := hy
      subst e
      cases hy with
      | tup s t =>
        exact .inr ⟨[], k, _, by rw [rd]; exact True.intro, ⟨.inr ⟨rfl, .inl rd⟩, fun _ h => nomatch h⟩, rfl, hr.nk ek, ok, sz rfl, fun o => ⟨_, rfl, .inr ⟨o, _, rfl, putX_ne, putX_rel (xs := []) (kvs := []) ek hr hv rfl .nil .nil⟩⟩⟩
  · rcases f1 with f1 | f1
    · exfalso
      cases xs with
      | nil => exact ne rfl
      | cons x xs =>
        cases kvs with
        | nil => cases q
        | cons p kvs =>
          cases r1 with
          | cons r _ => exact ref_kin r (by rw [f2 p List.mem_cons_self]; exact f1)
    · obtain ⟨ds, k, e1, ek, ok⟩ := kin_tup f1
      have hr := hy
      subst e1
      have l : xs.length = kvs.length := by have := r2.length; simpa using this
      cases hy with
      | tup s t =>
        exact .inr ⟨xs, k, _, by rw [e]; exact True.intro, ⟨.inl ⟨_, e⟩, ent_nk q r1⟩, rfl, hr.nk ek, ok, sz l, fun o => ⟨_, rfl, .inr ⟨o, _, rfl, putX_ne, putX_rel ek hr hv q r1 r2⟩⟩⟩
end
end DL
set_option maxRecDepth 100000
set_option maxHeartbeats 1000000
/-! dicts: the rules over data -/
namespace DL
open PySem PySem.Spec L2 LamX
section
variable {X : Cx} {pins : List (Addr × Obj)} {σ : L2.St} {H : Hp} {s : Shared} {a : Addr} {y : V} {o : Option V} {e1 e2 : Expr} {pos : Pos}
theorem dget_type (I : Inv X pins σ H s) (g : DLook X.K H a y o) : s.TypeIs (.ref a) "dict" := by
  rcases g with (⟨kvs, k, e, _⟩ | ⟨kvs, k, b, e, _⟩) | ⟨xs, k, b, hm, _⟩
  · obtain ⟨_, _, vs, _, dd⟩ := dk_rd I.hok e; exact dd.typeIs
  · obtain ⟨_, _, vs, _, dd⟩ := dt_rd I.hok e; exact dd.typeIs
  · obtain ⟨_, _, _, ys, _, dd⟩ := dn_look I hm; exact dd.typeIs
theorem pe_ixDk {ta tb : TE} (hu : X.A.units + 10 < cLine) (ho : PE X e1 ta) (hi : PE X e2 tb) (hs : NoSl e2) : PE X (.Subscript e1 e2 pos) (tOp (rIxDk X.K) ta tb) :=
  ⟨fun pins s σ H Q I h => subD_of PySem.F.slot_dict_getitem.lookup hs (thn (ho.run pins s σ H _ I h) fun u s1 ⟨x, H1, I1, rx, q1⟩ => thn (hi.run pins s1 σ H1 _ I1 q1) fun iv s2 ⟨y, H2, I2, ry, a, v, ex, g, q2⟩ => by
    subst ex
    cases rx
    exact ⟨dget_type I2 g, dl_getItem hu I2 g ry fun w' s' I' rw' => ⟨v, H2, I', rw', q2⟩⟩)⟩
/-- what dicts, lists, tuples and texts count -/
def rLenDk (K : PySem.W.Frag) : List V → Hp → VK → Prop := fun xs H Q => ∃ (a : Addr) (n : Nat), xs = [.ref a] ∧ ((∃ ks, Rd H a (.dK ks) ∧ n = ks.length) ∨ ∃ ys, DNa K H a ys ∧ n = ys.length) ∧ Q (.int n) H
theorem call_lenDk : CallR X (.builtin "len") (rLenDk X.K) := by
  intro pins s σ H xs us Q I r h
  obtain ⟨a, n, rfl, h, q⟩ := h
  rw [Vals.ref1 r]
  rcases h with ⟨ks, e, rfl⟩ | ⟨ys, hm, rfl⟩
  · exact d_len I e fun t s' I' => ⟨.int _, H, I', ⟨_, rfl⟩, q⟩
  · obtain ⟨h1, h2, _, zs, p, dd⟩ := dn_look I hm
    have l := Paired.length p
    rw [sizeLine_eq] at h2
    refine call_len_dictH h1 dd (by omega) ?_
    rw [← l]
    exact ⟨.int _, H, I.tok _, ⟨_, rfl⟩, q⟩
end
section
variable {K : PySem.W.Frag} {T : Tb} {E0 B O : As} {σ : L2.St} {ρ ρ1 ρ2 : DEnv} {H H1 : Hp} {vs us : List V} {v : V} {r : RV} {rs : List RV} {d : D} {ds : List D} {X : Cx} {e e1 e2 e3 : Expr} {es rest : List Expr} {pos : Pos} {kvs : List (D × D)}
theorem Fit.noRaw (f : Fit kvs d) : noRaw kvs := fun x y e => by
  subst e
  have := f.2 _ List.mem_cons_self
  rcases f.1 with h | h <;> rw [h] at this <;> cases this
/-- a key is no box -/
theorem RpB.key (h : RpB K O H v d) (k : kin d = 0 ∨ kin d = 1) : Rp K O H v d := by
  rcases h with h | ⟨a, b, _, e, _⟩
  · exact h
  · subst e
    exfalso
    cases b <;> rcases k with k | k <;> cases k
def gInD (neg : Bool) (d e : D) (k : DV → Prop) : Prop := match e with
  | .dict kvs => Fit kvs d ∧ k (.val (.bool (if neg then !hasD kvs d else hasD kvs d)))
  | _ => False
theorem inD_op {neg : Bool} : Op2 K (rInDk K neg) (gInD neg) := by
  intro O H x y d e Qd Q ob hx hy hg k
  cases e with
  | dict kvs =>
    obtain ⟨f, q⟩ := (show Fit kvs d ∧ Qd (.val (.bool (if neg then !hasD kvs d else hasD kvs d))) from hg)
    obtain ⟨a, ea, hl⟩ := hy.dct f.noRaw
    obtain ⟨o, g, ho⟩ := look_of hl (hx.key f.1) f
    refine ⟨a, o, ea, g, ?_⟩
    have eo : o.isSome = hasD kvs d := by
      rw [hasD_get]
      rcases ho with ⟨h1, h2⟩ | ⟨_, _, h1, h2, _⟩ <;> rw [h1, h2] <;> rfl
    rw [eo]
    exact k _ _ _ q (Same.refl _) (Fre.refl _) (.bl _)
  | _ => exact (show False from hg).elim
def gIxD (d e : D) (k : DV → Prop) : Prop := match d with
  | .dict kvs => Fit kvs e ∧ (match getD' kvs e with
    | some v => k (.val v)
    | none => False)
  | _ => False
theorem ixD_op : Op2 K (rIxDk K) gIxD := by
  intro O H x y d e Qd Q ob hx hy hg k
  cases d with
  | dict kvs =>
    obtain ⟨f, q⟩ := (show Fit kvs e ∧ (match getD' kvs e with | some v => Qd (.val v) | none => False) from hg)
    obtain ⟨a, ea, hl⟩ := hx.dct f.noRaw
    obtain ⟨o, g, ho⟩ := look_of hl (hy.key f.1) f
    rcases ho with ⟨h1, h2⟩ | ⟨v, dv, h1, h2, h3⟩
    · rw [h2] at q; exact q.elim
    · rw [h2] at q
      subst h1
      exact ⟨a, v, ea, g, k _ _ _ q (Same.refl _) (Fre.refl _) h3⟩
  | _ => exact (show False from hg).elim
theorem d_ixD {wa wb : WE} (hu : X.A.units + 66 < cLine) (ha : PE X e1 (tE X.K T wa)) (hb : PE X e2 (tE X.K T wb)) (hs : NoSl e2 := by exact fun _ _ => rfl) : PE X (.Subscript e1 e2 pos) (tE X.K T (wOp2 gIxD wa wb)) := (pe_ixDk (by omega) ha hb hs).imp fun σ H Q h => by
  obtain ⟨E0, B, ρ, Qd, er, tb, hw, k⟩ := h
  exact two er tb (k := fun d1 d2 ρ2 => gIxD d1 d2 fun dv => Qd dv.rv ρ2) hw fun x y H2 r1 r2 d1 d2 ρ2 A h1 h2 q => ixD_op _ H2 x y d1 d2 _ _ A.obx h1 h2 q fun v H' dv q s f oa => k v H' _ ρ2 q (A.op s f oa)
def gLenD (ds : List D) (k : DV → Prop) : Prop := oneK ds fun d => match d with
  | .dict kvs => noRaw kvs ∧ k (.val (.int kvs.length))
  | _ => False
theorem lenD_op : OpN K (rLenDk K) gLenD := by
  intro O H xs ds Qd Q ob hx hg k
  obtain ⟨v, d, e, h, hg⟩ := one_inv hx hg
  subst e
  cases d with
  | dict kvs =>
    obtain ⟨nr, q⟩ := hg
    obtain ⟨a, ea, hl⟩ := h.dct nr
    rcases hl with ⟨ks, rd, r1, r2⟩ | ⟨_, ys, e, ne, q2, r1, r2⟩
    · have l : ks.length = kvs.length := by have := r2.length; simpa using this
      refine ⟨a, kvs.length, by rw [ea], .inl ⟨ks, rd, l.symm⟩, k _ _ _ q (Same.refl _) (Fre.refl _) (.int _)⟩
    · have l : ys.length = kvs.length := by have := r2.length; simpa using this
      exact ⟨a, kvs.length, by rw [ea], .inr ⟨ys, ⟨.inl ⟨_, e⟩, ent_nk q2 r1⟩, l.symm⟩, k _ _ _ q (Same.refl _) (Fre.refl _) (.int _)⟩
  | _ => exact (show False from hg).elim
/-- {} -/
def wDct0 : WE := fun ρ Q => Q (.new (.dct [])) ρ
theorem opaft_dct0 {a : Addr} (n : H a = none) : OpAft K O H (.ref a) (upd H a (.dK [])) (.new (.dct [])) := ⟨a, rfl, n, .inl ⟨[], upd_same, .nil, .nil⟩⟩
theorem d_dct0 : PE X (.Dict [] [] pos) (tE X.K T wDct0) := pe_dnewK.imp fun σ H Q h => by
  obtain ⟨E0, B, ρ, Qd, er, tb, hw, k⟩ := h
  intro p hp
  exact k _ _ _ ρ hw ((After.ofNil er tb).op (dv := .new (.dct [])) (Same.upd hp) (Fre.upd _ _ _) (opaft_dct0 hp))
end
end DL
set_option maxRecDepth 100000
set_option maxHeartbeats 1000000
/-! dicts: stored at a key; get -/
namespace DL
open PySem PySem.Spec L2 LamX
section
variable {K : PySem.W.Frag} {T : Tb} {E0 B O : As} {σ : L2.St} {ρ ρ1 ρ2 : DEnv} {H H1 : Hp} {vs us : List V} {v : V} {r : RV} {rs : List RV} {d : D} {ds : List D} {X : Cx} {e e1 e2 e3 : Expr} {es rest : List Expr} {pos : Pos} {kvs : List (D × D)}
theorem tabs_box {a : Addr} {o0 o1 : HO} (t : Tabs T H) (h : H a = some o0) (b : BoxO o0) : Tabs T (upd H a o1) := fun p hp => by
  obtain ⟨ps, h1, h2, h3⟩ := t p hp
  refine ⟨ps, by rw [upd_ne (fun z => by rw [z, h] at h1; cases h1; cases b)]; exact h1, h2, fun pos cv hc => ?_⟩
  obtain ⟨c, e1, e2⟩ := h3 pos cv hc
  exact ⟨c, e1, by rw [upd_ne (fun z => by rw [z, h] at e2; cases e2; exact code_not b)]; exact e2⟩
theorem ER.mutD {i : Nat} {a : Addr} {b : Box} {o0 o1 : HO} (er : ER K E0 B σ H ρ) (tb : Tabs T H) (hb : IsBx ρ i b) (hi : σ[i]? = some (some (.ref a))) (hl : H a = some o0) (b0 : BoxO o0) (h : DctPre K (B.or (Ow σ ρ)) H a o1 kvs) :
    SAft K T E0 B σ H ρ σ (upd H a o1) (setBx ρ i (.dct kvs)) := by
  have oa : Ow σ ρ a := ⟨i, b, hb, hi⟩
  have kin : ∀ j : Nat, Kin ρ[j]? (setBx ρ i (.dct kvs))[j]? := fun j => kin_setBx
  have le := le_kin (ρ := ρ) setBx_len kin
  have st : Stp (B.or (Ow σ ρ)) H (upd H a o1) := Stp.upd_own (.inr oa)
  have mm : ∀ x, (B.or (Ow σ (setBx ρ i (.dct kvs)))) x → (B.or (Ow σ ρ)) x ∨ H x = none := fun x z => .inl (As.or_mono (fun _ z => z) (fun x z => le.ow x z) x z)
  have nB : ¬ B a := fun z => by
    obtain ⟨y, q1, q2, _⟩ := er.bx i b hb
    rw [hi] at q1; cases q1
    exact q2 z
  have er' : ER K E0 B σ (upd H a o1) (setBx ρ i (.dct kvs)) := by
    refine { len := by rw [setBx_len]; exact er.len, sh := fun j d hd => ?_, bx := fun j c hc => ?_, inj := fun j l c c' x h1 h2 h3 h4 => ?_, bo := fun x z => ?_, e0 := fun x z => ?_, new := fun j c x h1 h2 => ?_ }
    · have k := kin j
      rw [hd] at k
      have e : ρ[j]? = some (.sh d) := by
        cases e : ρ[j]? with
        | none => rw [e] at k; exact k.elim
        | some s => rw [e] at k; cases s <;> first | exact k.elim | (have k : _ = _ := k; rw [k])
      obtain ⟨u, q1, q2⟩ := er.sh j d e
      exact ⟨u, q1, q2.move st er.ob mm⟩
    · obtain ⟨c0, hc0⟩ := (kin j).bx hc
      obtain ⟨x, q1, q2, q3⟩ := er.bx j c0 hc0
      refine ⟨x, q1, q2, ?_⟩
      by_cases e : j = i
      · subst e
        rw [hi] at q1; cases q1
        have ec : c = .dct kvs := by
          unfold IsBx at hc
          rw [setBx_get, if_pos rfl] at hc
          rcases hb with hb | hb <;> rw [hb] at hc <;> rcases hc with hc | hc <;> cases hc <;> rfl
        subst ec
        exact h.to upd_same fun r => r.move st er.ob mm
      · have hc' : IsBx ρ j c := by
          unfold IsBx at hc ⊢
          rw [setBx_get, if_neg e] at hc
          exact hc
        obtain ⟨x', q1', _, q3'⟩ := er.bx j c hc'
        rw [q1] at q1'; cases q1'
        have nx : x ≠ a := fun z => by subst z; exact e (er.inj j i c b x hc' hb q1 hi)
        exact q3'.move st er.ob mm fun o ho => by rw [upd_ne nx]; exact ho
    · obtain ⟨b1, h1'⟩ := (kin j).bx h1
      obtain ⟨b2, h2'⟩ := (kin l).bx h2
      exact er.inj j l b1 b2 x h1' h2' h3 h4
    · obtain ⟨o, z1, z2⟩ := er.bo x z
      exact ⟨o, by rw [upd_ne (fun e => nB (by rw [← e]; exact z))]; exact z1, z2⟩
    · obtain ⟨o, z1⟩ := er.e0 x z
      exact (Fre.upd H a _).some z1
    · obtain ⟨c0, hc0⟩ := le.own j c h1
      exact er.new j c0 x hc0 h2
  exact { stp := Stp.upd_own oa, fre := Fre.upd _ _ _, tab := tabs_box tb hl b0, ow := fun x z => .inl (le.ow x z), er := er', lent := fun j c hc => ⟨le.back j c hc, rfl⟩, lent' := fun j c hc => le.lent j c hc }
/-- the dict in the slot i -/
def dctOf (ρ : DEnv) (i : Nat) (k : List (D × D) → Prop) : Prop := match ρ[i]? with
  | some (.own (.dct kvs)) => k kvs
  | some (.lent (.dct kvs)) => k kvs
  | _ => False
theorem dctOf_some {i : Nat} {k : List (D × D) → Prop} (h : dctOf ρ i k) : ∃ kvs, IsBx ρ i (.dct kvs) ∧ k kvs := by
  unfold dctOf at h
  cases e : ρ[i]? with
  | none => rw [e] at h; exact h.elim
  | some s =>
    rw [e] at h
    cases s with
    | own b => cases b with
      | lst ds => exact h.elim
      | dct kvs => exact ⟨kvs, .inl e, h⟩
    | lent b => cases b with
      | lst ds => exact h.elim
      | dct kvs => exact ⟨kvs, .inr e, h⟩
    | _ => exact h.elim
/-- x[k] = d, x a dict of one's own -/
def gSbD (x : Nat) (wi : WE) : WG := fun d ρ Q => dctOf ρ x fun _ => wi ρ fun r ρ1 => fzK ρ1 r fun dk ρ2 => dctOf ρ2 x fun kvs => Fit kvs dk ∧ kvs.length < 16777216 ∧ Q (setBx ρ2 x (.dct (putD kvs dk d)))
theorem g_subD {x : Nat} {xn : Str} {i : Expr} {wi : WE} {px : Pos} (hu : X.A.units + 66 < cLine) (hi : PE X i (tE X.K T wi)) (hN : X.N[x]? = some xn := by rfl) (hv : Vis X.env.scope xn := by first | exact Or.inl rfl | exact Or.inr (Or.inl rfl) | exact Or.inr (Or.inr rfl))
    (hd : (xn == ("__debug__" : Str)) = false := by decide) (hcd : (xn == ("__classdict__" : Str)) = false := by decide)
    (ha : ∀ v, assign (.Subscript (.Name xn px) i pos) X.env v = (do
      let ov ← holding [v] (eval (.Name xn px) X.env)
      let iv ← holding [v, ov] (eval i X.env)
      standAt pos
      holding [v, ov, iv] (setItem ov iv v)
      release [v, ov, iv] []) := by intro _; rfl) : PG X (.Subscript (.Name xn px) i pos) (tG X.K T [] (gSbD x wi)) :=
  (pg_sub (pe_var hN hv hd hcd) hi (set_dk (by omega)) ha).imp fun v σ H Q h => by
    obtain ⟨E0, B, ρ, d, Qd, er, tb, hr, hw, k⟩ := h
    obtain ⟨ds0, hb0, hw⟩ := dctOf_some hw
    obtain ⟨a, h1, _, _⟩ := er.bx x _ hb0
    refine ⟨.ref a, h1, E0, B, ρ, _, er, tb, hw, fun iv H2 r ρ1 q A => ?_⟩
    obtain ⟨dk, ρ2, q, A2, rk⟩ := A.fz1 er q
    obtain ⟨kvs, hb, f, hz, q⟩ := dctOf_some q
    have S := A2.saft
    obtain ⟨a', h1', h2, h3⟩ := S.er.bx x _ hb
    rw [h1] at h1'; cases h1'
    obtain ⟨o0, ho, b0⟩ := h3.boxish
    refine ⟨a, rfl, (sto_of h3 rk (hr.after er S) f hz).imp fun H' w => ?_⟩
    obtain ⟨o1, rfl, pre⟩ := w
    exact k σ _ _ q (S.trans (S.er.mutD S.tab hb h1 ho b0 pre)) ⟨rfl, fun _ _ => rfl, setBx_len.trans A2.le.len, fun n c hc => let ⟨c1, h1⟩ := (le_kin (ρ := ρ2) setBx_len fun _ => kin_setBx).own n c hc; A2.le.own n c1 h1⟩
/-! ### d.get(k, x) -/
def aDct (K : PySem.W.Frag) (H : Hp) (x : V) : Prop := ∃ a, x = .ref a ∧ ((∃ ks, Rd H a (.dK ks)) ∨ ∃ xs, DNa K H a xs)
theorem me_dct : MeP X "dict" (aDct X.K) := fun pins σ H s x v I r h => by
  obtain ⟨a, rfl, h⟩ := h
  cases r
  have key : ∃ o : Obj, s.heap.get? a = some o ∧ o.ExactDict := by
    rcases h with ⟨ks, e⟩ | ⟨xs, hm⟩
    · obtain ⟨_, _, vs, _, o, _, _, g, c, _⟩ := dk_rd I.hok e; exact ⟨o, g, c⟩
    · obtain ⟨_, _, _, ys, _, o, _, _, g, c, _⟩ := dn_look I hm; exact ⟨o, g, c⟩
  obtain ⟨o, g, c⟩ := key
  exact ⟨⟨o, g, c.1⟩, fun b e => by cases e; exact ⟨o, g, c.2.1⟩⟩
def isDct (d : D) : Prop := match d with
  | .dict kvs => noRaw kvs
  | _ => False
theorem isDct_a (h : RpB K O H v d) (t : isDct d) : aDct K H v := by
  cases d with
  | dict kvs =>
    obtain ⟨a, e, hl⟩ := h.dct t
    rcases hl with ⟨ks, rd, _⟩ | ⟨_, ys, e2, ne, q2, r1, r2⟩
    · exact ⟨a, e, .inl ⟨ks, rd⟩⟩
    · exact ⟨a, e, .inr ⟨ys, .inl ⟨_, e2⟩, ent_nk q2 r1⟩⟩
  | _ => exact (show False from t).elim
def noBox (d : D) : Prop := match d with
  | .list _ => False
  | .dict _ => False
  | _ => True
theorem RpB.at (h : RpB K O H v d) (k : noBox d) : Rp K O H v d := by
  rcases h with h | ⟨a, b, _, e, _⟩
  · exact h
  · subst e
    exfalso
    cases b <;> exact k
/-- o.get(k, x) -/
def gGet2 (d : D) (ds : List D) (k : DV → Prop) : Prop := match d, ds with
  | .dict kvs, [dk, dx] => Fit kvs dk ∧ noBox dx ∧ k (.val ((getD' kvs dk).getD dx))
  | _, _ => False
def wMeN (tk : D → Prop) (g : D → List D → (DV → Prop) → Prop) (wo : WE) (wa : WA) : WE := fun ρ Q => wo ρ fun r0 ρ1 => lookK ρ1 r0 fun d0 => tk d0 ∧ wa ρ1 fun rs ρ2 => lookK ρ2 r0 fun d1 => looksK ρ2 rs fun ds => g d1 ds fun dv => Q dv.rv ρ2
def OpM (K : PySem.W.Frag) (r : V → List V → Hp → VK → Prop) (g : D → List D → (DV → Prop) → Prop) : Prop := ∀ (O : As) (H : Hp) (x : V) (xs : List V) (d : D) (ds : List D) (Qd : DV → Prop) (Q : VK), OB O H → RpB K O H x d → RpBs K O H xs ds → g d ds Qd →
  (∀ v H' dv, Qd dv → Same H H' → Fre H H' → OpAft K O H v H' dv → Q v H') → r x xs H Q
theorem d_meN {P : Hp → V → Prop} {tk : D → Prop} {r : V → List V → Hp → VK → Prop} {g : D → List D → (DV → Prop) → Prop} {o : Expr} {wo : WE} {wa : WA} {name : Str} {apos cpos : Pos} {Ty id : String} (pa : PlainAttrs Ty) (slot : Slot Ty name id) (hty : typeOf (.builtin id) = pure (.type "method_descriptor")) (hP : MeP X Ty P) (hk : ∀ {O H v d}, RpB X.K O H v d → tk d → P H v) (hm : MtR X id r) (og : OpM X.K r g) (ho : PE X o (tE X.K T wo)) (ha : PA X (e :: es) (tA X.K T wa))
    (hbase : attributeBase o name X.env (eval o X.env) = eval o X.env := by rfl)
    (hfew : ((backTo cpos (starEach (e :: es) X.env)).all (fun x => !x.1) && (backToKw cpos (keywordEach [] X.env)).all (fun x => x.1.isSome)
      && decide ((e :: es).length + ([] : List Keyword).length + (if ([] : List Keyword).isEmpty then 0 else 1) < 30)) = true := by rfl)
    (hline : (apos.endLine == cpos.line) = true := by rfl) (hs : starEach (e :: es) X.env = (false, eval e X.env) :: starEach es X.env := by rfl) (hplain : (backTo cpos (starEach es X.env)).any (·.1) = false := by rfl) :
    PE X (.Call (.Attribute o name apos) (e :: es) [] cpos) (tE X.K T (wMeN tk g wo wa)) := by
  refine (pe_bmP (P := P) pa slot hty hP hm ho ha hbase hfew hline hs hplain).imp fun σ H Q h => ?_
  obtain ⟨E0, B, ρ, Qd, er, tb, hw, k⟩ := h
  refine ⟨E0, B, ρ, _, er, tb, hw, fun x H1 r1 ρ1 q A1 => ?_⟩
  obtain ⟨d0, e0, t0, q⟩ := lookK_some q
  refine ⟨hk (A1.look (j := 0) rfl rfl e0) t0, E0, _, ρ1, _, A1.er, A1.tab, q, fun ys H2 rs ρ2 q A2 => ?_⟩
  obtain ⟨d1, e1, q⟩ := lookK_some q
  have A := A1.seq A2
  obtain ⟨ds, rb, q⟩ := A.looks (rs' := rs) (vs' := ys) (fun j v r a b => ⟨j + 1, by simpa using a, by simpa using b⟩) A2.rr.len q
  exact og _ H2 x ys d1 ds _ _ A.obx (A.look (j := 0) rfl rfl e1) rb q fun v H' dv q s f oa => k v H' _ ρ2 q (A.op s f oa)
theorem get2_op : OpM K (rGet2 K) gGet2 := by
  intro O H x xs d ds Qd Q ob hx hxs hg k
  unfold gGet2 at hg
  split at hg
  · obtain ⟨f, nb, q⟩ := hg
    cases hxs with
    | cons h1 hxs => cases hxs with
      | cons h2 hxs =>
        cases hxs
        obtain ⟨a, ea, hl⟩ := hx.dct f.noRaw
        obtain ⟨o, g, ho⟩ := look_of hl (h1.key f.1) f
        refine ⟨a, _, _, o, ea, rfl, g, ?_⟩
        rcases ho with ⟨e1, e2⟩ | ⟨v, dv, e1, e2, h3⟩
        · rw [e2] at q; rw [e1]
          exact k _ _ _ q (Same.refl _) (Fre.refl _) (h2.at nb)
        · rw [e2] at q; rw [e1]
          exact k _ _ _ q (Same.refl _) (Fre.refl _) h3
  · exact hg.elim
end
end DL
set_option maxRecDepth 100000
set_option maxHeartbeats 1000000
/-! a dict by tuple keys, walked: keys, values, items -/
namespace DL
open PySem PySem.Spec L2 LamX
section
variable {X : Cx} {pins : List (Addr × Obj)} {σ : L2.St} {H : Hp} {s : Shared} {a : Addr} {o : Obj} {xs : List Ent}
/-- the entries of a known dict -/
structure DnRaw (h : Heap) (a : Addr) (o : Obj) (xs : List Ent) (es : Array DictEntry) (ep : Nat) : Prop where
  raw : h.DictRaw a es ep
  size : es.size = xs.length
  at_ : ∀ (i : Nat) (hi : i < es.size) (x : Ent), xs[i]? = some x → es[i].key = .ref x.2.1 ∧ RelV x.2.2 es[i].val
  sys : (a == sysModules) = false
theorem ent_at : ∀ {xs : List Ent} {ys : List EntV} {i : Nat} {x : Ent}, Paired EntR xs ys → xs[i]? = some x → ∃ y, ys[i]? = some y ∧ EntR x y
  | _, _, 0, _, .cons r _, h => by cases h; exact ⟨_, rfl, r⟩
  | _, _, i + 1, _, .cons _ t, h => ent_at (i := i) t (by simpa using h)
  | _, _, _, _, .nil, h => by simp at h
theorem dn_raw (I : Inv X pins σ H s) (h : H a = some (DN a o xs)) {es : Array DictEntry} {ep : Nat} (hd : o.data = .dict es ep) : DnRaw s.heap a o xs es ep := by
  obtain ⟨a1, a2, a3, a4, ys, es', ep', p, e, c, d, g⟩ := DnOk.of (I.hok a _ h)
  rw [hd] at d
  cases d
  have sz : es.size = ys.length := by rw [← Array.length_toList, g, List.length_map]
  refine ⟨⟨o, e, c, hd⟩, by rw [sz]; exact (Paired.length p).symm, fun i hi x hx => ?_, a1⟩
  obtain ⟨y, hy, q1, q2, q3⟩ := ent_at p hx
  have e2 : es[i] = entV y := by
    have z : es.toList[i]? = some (entV y) := by rw [g, List.getElem?_map, hy]; rfl
    rw [Array.getElem?_toList, Array.getElem?_eq_getElem hi] at z
    exact Option.some.inj z
  rw [e2]
  exact ⟨by rw [q2]; rfl, q3⟩
theorem dn_data (I : Inv X pins σ H s) (h : H a = some (DN a o xs)) : ∃ es ep, o.data = .dict es ep := by
  obtain ⟨_, _, _, _, _, es, ep, _, _, _, d, _⟩ := DnOk.of (I.hok a _ h)
  exact ⟨es, ep, d⟩
end
/-! ### keys -/
def ItDk (a : Addr) (o : Obj) (xs : List Ent) : It :=
  ⟨fun i H => H a = some (DN a o xs) ∧ i < xs.length, fun i H v H' => H' = H ∧ ∃ x, xs[i]? = some x ∧ v = .ref x.2.1, fun i H => H a = some (DN a o xs) ∧ xs.length ≤ i⟩
def ItDv (a : Addr) (o : Obj) (xs : List Ent) : It :=
  ⟨fun i H => H a = some (DN a o xs) ∧ i < xs.length, fun i H v H' => H' = H ∧ ∃ x, xs[i]? = some x ∧ v = x.2.2, fun i H => H a = some (DN a o xs) ∧ xs.length ≤ i⟩
def ItDi (a : Addr) (o : Obj) (xs : List Ent) : It :=
  ⟨fun i H => H a = some (DN a o xs) ∧ i < xs.length, fun i H v H' => ∃ t x, v = .ref t ∧ H t = none ∧ H' = upd H t (.tup [.ref x.2.1, x.2.2]) ∧ xs[i]? = some x, fun i H => H a = some (DN a o xs) ∧ xs.length ≤ i⟩
theorem turn_dk {P : Program} {w : World} {K : PySem.W.Frag} {tg : Expr} {a it : Addr} {o : Obj} {xs : List Ent} {es : Array DictEntry} {ep : Nat} (hd : o.data = .dict es ep) :
    Turn P w K tg (ItDk a o xs) [it] it (fun i h => h.IsKeyIter it a i es.size ep) where
  mem := List.mem_cons_self
  obj := fun i h st b hb => by
    obtain ⟨ob, g1, g2, g3⟩ := st
    rw [List.mem_singleton.mp hb]
    exact ⟨ob, g1, fun v q => by rw [g3] at q; cases q⟩
  keep := fun i h h' st k => let ⟨ob, g1, r⟩ := st; ⟨ob, k it List.mem_cons_self _ g1, r⟩
  item := by
    intro X hP hw hK hc i pins s σ H E I hf st hg
    subst hP; subst hw; subst hK
    obtain ⟨f0, f1, f2, f3, f4, f5⟩ := hf it List.mem_cons_self
    have R := dn_raw I hg.1 hd
    have hi : i < es.size := by rw [R.size]; exact hg.2
    obtain ⟨x, hx⟩ : ∃ x, xs[i]? = some x := ⟨_, List.getElem?_eq_getElem (show i < xs.length from hg.2)⟩
    obtain ⟨k1, _⟩ := R.at_ i hi _ hx
    refine wpAny_pyNext_keys_item_raw st R.raw hi fun h' st' sb => ?_
    obtain ⟨ob, g1, g2, g3⟩ := id st'
    refine ⟨_, rfl, go_of (s := { s with heap := h' }) g1 g2 g3 (by decide) ?_⟩
    exact ⟨.ref x.2.1, H, I.turned (t' := s.toks) (fun b ob hb q => sb.extBut b ob hb q) f0 f1 f3 f4 f5, k1, ⟨rfl, _, hx, rfl⟩, st', fun b hb => by rw [List.mem_singleton.mp hb]; exact f0⟩
  done := by
    intro X hP hw hK hc i pins s σ H E I hf st hg
    subst hP; subst hw; subst hK
    obtain ⟨f0, f1, f2, f3, f4, f5⟩ := hf it List.mem_cons_self
    have R := dn_raw I hg.1 hd
    exact wpAny_pyNext_keys_end_raw (I.ok.hd hc) st R.raw (by rw [R.size]; exact hg.2) fun h' eb => ⟨rfl, I.turned (t' := s.toks) (fun b ob hb q => eb b ob hb q) f0 f1 f3 f4 f5⟩
  self := fun A i s Q E st h => wpAny_pyIter_keyiter st h
theorem turn_dv {P : Program} {w : World} {K : PySem.W.Frag} {tg : Expr} {a it : Addr} {o : Obj} {xs : List Ent} {es : Array DictEntry} {ep : Nat} (hd : o.data = .dict es ep) :
    Turn P w K tg (ItDv a o xs) [it] it (fun i h => h.IsValIter it a i es.size ep) where
  mem := List.mem_cons_self
  obj := fun i h st b hb => by
    obtain ⟨ob, g1, g2, g3⟩ := st
    rw [List.mem_singleton.mp hb]
    exact ⟨ob, g1, fun v q => by rw [g3] at q; cases q⟩
  keep := fun i h h' st k => let ⟨ob, g1, r⟩ := st; ⟨ob, k it List.mem_cons_self _ g1, r⟩
  item := by
    intro X hP hw hK hc i pins s σ H E I hf st hg
    subst hP; subst hw; subst hK
    obtain ⟨f0, f1, f2, f3, f4, f5⟩ := hf it List.mem_cons_self
    have R := dn_raw I hg.1 hd
    have hi : i < es.size := by rw [R.size]; exact hg.2
    obtain ⟨x, hx⟩ : ∃ x, xs[i]? = some x := ⟨_, List.getElem?_eq_getElem (show i < xs.length from hg.2)⟩
    obtain ⟨_, k1⟩ := R.at_ i hi _ hx
    refine wpAny_pyNext_values_item_raw st R.raw hi fun h' st' sb => ?_
    obtain ⟨ob, g1, g2, g3⟩ := id st'
    refine ⟨_, rfl, go_of (s := { s with heap := h' }) g1 g2 g3 (by decide) ?_⟩
    exact ⟨x.2.2, H, I.turned (t' := s.toks) (fun b ob hb q => sb.extBut b ob hb q) f0 f1 f3 f4 f5, k1, ⟨rfl, _, hx, rfl⟩, st', fun b hb => by rw [List.mem_singleton.mp hb]; exact f0⟩
  done := by
    intro X hP hw hK hc i pins s σ H E I hf st hg
    subst hP; subst hw; subst hK
    obtain ⟨f0, f1, f2, f3, f4, f5⟩ := hf it List.mem_cons_self
    have R := dn_raw I hg.1 hd
    exact wpAny_pyNext_values_end_raw (I.ok.hd hc) st R.raw (by rw [R.size]; exact hg.2) fun h' eb => ⟨rfl, I.turned (t' := s.toks) (fun b ob hb q => eb b ob hb q) f0 f1 f3 f4 f5⟩
  self := fun A i s Q E st h => wpAny_pyIter_valiter st h
theorem turn_di {P : Program} {w : World} {K : PySem.W.Frag} {elts : List Expr} {kk : Nat} {tpos : Pos} {a it : Addr} {o : Obj} {xs : List Ent} {es : Array DictEntry} {ep : Nat} (hd : o.data = .dict es ep) :
    Turn P w K (.Tuple elts kk tpos) (ItDi a o xs) [it] it (fun i h => ∃ ok ov, IsItemIter h it a i es.size ep ok ov) where
  mem := List.mem_cons_self
  obj := fun i h st b hb => by
    obtain ⟨ok, ov, g⟩ := st
    rw [List.mem_singleton.mp hb]
    exact ⟨_, g, fun v q => nomatch q⟩
  keep := fun i h h' st k => let ⟨ok, ov, g⟩ := st; ⟨ok, ov, k it List.mem_cons_self _ g⟩
  item := by
    intro X hP hw hK hc i pins s σ H E I hf st hg
    subst hP; subst hw; subst hK
    obtain ⟨ok, ov, st⟩ := st
    have R := dn_raw I hg.1 hd
    have hi : i < es.size := by rw [R.size]; exact hg.2
    obtain ⟨x, hx⟩ : ∃ x, xs[i]? = some x := ⟨_, List.getElem?_eq_getElem (show i < xs.length from hg.2)⟩
    obtain ⟨k1, k2⟩ := R.at_ i hi _ hx
    have lt : it < s.heap.objs.size := Heap.lt_size st
    refine wpAny_pyNext_items_item_raw st R.raw hi fun h' st' hT hz hk => ?_
    refine ⟨_, rfl, wpAny_letOwnedTupleGo_items (s := { s with heap := h' }) st' fun h2 st2 sb => ?_⟩
    have hT2 : h2.get? s.heap.objs.size = some { cls := .type "tuple", data := .seq #[es[i].key, es[i].val] } := sb.extBut _ _ (Nat.ne_of_gt lt) hT
    have nw : ObjOk X.prog X.w (upd H s.heap.objs.size (.tup [.ref x.2.1, x.2.2])) h2 s.heap.objs.size (.tup [.ref x.2.1, x.2.2]) :=
      ⟨by show 2 ≤ sizeLine; decide, [es[i].key, es[i].val], .cons k1 (.cons k2 .nil), ⟨_, hT2, rfl, _, rfl⟩⟩
    have J := I.turnedNew (t' := s.toks) (ch := [it]) (fun b ob hb q => sb.extBut b ob (fun z => hb (by simp [z])) (hk b ob (fun z => hb (by simp [z])) q)) hf (Nat.le_refl _) nw
    refine ⟨.ref s.heap.objs.size, _, J, rfl, ⟨_, x, rfl, I.hok.fresh (Nat.le_refl _), rfl, hx⟩, ⟨_, _, st2⟩, fun b hb => ?_⟩
    rw [List.mem_singleton.mp hb, upd_ne (Nat.ne_of_lt lt)]
    exact (hf it List.mem_cons_self).1
  done := by
    intro X hP hw hK hc i pins s σ H E I hf st hg
    subst hP; subst hw; subst hK
    obtain ⟨ok, ov, st⟩ := st
    obtain ⟨f0, f1, f2, f3, f4, f5⟩ := hf it List.mem_cons_self
    have R := dn_raw I hg.1 hd
    exact wpAny_pyNext_items_end_raw (I.ok.hd hc) st R.raw (by rw [R.size]; exact hg.2) fun h' eb => ⟨rfl, I.turned (t' := s.toks) (fun b ob hb q => eb b ob hb q) f0 f1 f3 f4 f5⟩
  self := fun A i s Q E st h => let ⟨_, _, st⟩ := st; wpAny_pyIter_itemiter st h
end DL
set_option maxRecDepth 100000
set_option maxHeartbeats 1000000
/-! for x in d, in d.values(), in d.items(), over data -/
namespace DL
open PySem PySem.Spec L2 LamX
def tkD (kvs : List (D × D)) : Prop := kvs ≠ [] ∧ ∀ p ∈ kvs, kin p.1 = 1
def dctK (d : D) (k : List (D × D) → Prop) : Prop := match d with
  | .dict kvs => k kvs
  | _ => False
def wDkI (we : WE) : WI := fun ρ Q => we ρ fun r ρ1 => fzK ρ1 r fun d ρ2 => dctK d fun kvs => tkD kvs ∧ Q (kvs.map (·.1)) ρ2
def wDvI (we : WE) : WI := fun ρ Q => we ρ fun r ρ1 => fzK ρ1 r fun d ρ2 => dctK d fun kvs => tkD kvs ∧ Q (kvs.map (·.2)) ρ2
def wDiI (we : WE) : WI := fun ρ Q => we ρ fun r ρ1 => fzK ρ1 r fun d ρ2 => dctK d fun kvs => tkD kvs ∧ Q (kvs.map fun p => wkD [p.1, p.2]) ρ2
section
variable {K : PySem.W.Frag} {T : Tb} {E0 B O O' : As} {σ : L2.St} {ρ ρ1 : DEnv} {H H1 : Hp} {v : V} {r : RV} {d : D} {kvs : List (D × D)} {X : Cx} {e tg iter : Expr} {pos : Pos} {a : Addr} {o : Obj} {xs : List Ent}
theorem _root_.PySem.Heap.DictRaw.plain {s : Shared} {es : Array DictEntry} {ep : Nat} (h : s.heap.DictRaw a es ep) : s.TypeIs (.ref a) "dict" ∧ ∀ b, Value.ref a = .ref b → ∃ ob, s.heap.get? b = some ob ∧ ob.dict = none := by
  obtain ⟨o, g, c, _⟩ := h
  exact ⟨⟨o, g, c.1⟩, fun b e => by cases e; exact ⟨o, g, c.2.1⟩⟩
/-- a dict by tuple keys is laid as such -/
theorem dct_known (h : Rp K O H v (.dict kvs)) (t : tkD kvs) : ∃ a o xs, v = .ref a ∧ ¬ O a ∧ H a = some (DN a o xs) ∧ RpL K O H (xs.map fun x => V.ref x.2.1) (kvs.map (·.1)) ∧ RpL K O H (xs.map fun x => x.2.2) (kvs.map (·.2)) := by
  obtain ⟨ne, tk⟩ := t
  have bad : ∀ {d : D} {y : D} {r : List (D × D)}, kvs = (d, y) :: r → kin d = 1 := fun e => tk _ (by rw [e]; exact List.mem_cons_self)
  generalize e : PyData.dict kvs = dd at h
  cases h with
  | dcn n e1 q q2 h1 h2 => cases e; exact ⟨_, _, _, rfl, n, e1, h1, h2⟩
  | dct n rd r1 r2 =>
    cases e
    rename_i ks
    exfalso
    cases kvs with
    | nil => exact ne rfl
    | cons p r =>
      cases ks with
      | nil => cases r1
      | cons k ks =>
        cases r1 with
        | cons r1 _ =>
          have := rp_kV0 r1
          rw [tk p List.mem_cons_self] at this
          cases this
  | fnc _ _ => cases e; have := bad rfl; cases this
  | wk _ _ => cases e; have := bad rfl; cases this
  | _ => cases e
theorem itd_dk (n : ¬ O a) (h : H a = some (DN a o xs)) (r : RpL K O H (xs.map fun x => V.ref x.2.1) (kvs.map (·.1))) (ob : OB O H) : ItD K O H (ItDk a o xs) (kvs.map (·.1)) := by
  have el := r.length
  rw [List.length_map] at el
  refine ⟨fun i H2 st hi => ⟨st a _ h n (fun ps z => by cases z), by omega⟩, fun i H2 x H' O2 st m ob2 hi hy => ?_, fun i H2 st hi => ⟨st a _ h n (fun ps z => by cases z), by omega⟩⟩
  obtain ⟨rfl, y, hy, rfl⟩ := hy
  obtain ⟨d, h1, h2⟩ := r.get (i := i) (by rw [List.getElem?_map, hy]; rfl)
  exact ⟨d, h1, Same.refl _, Fre.refl _, h2.move st ob m⟩
theorem itd_dv (n : ¬ O a) (h : H a = some (DN a o xs)) (r : RpL K O H (xs.map fun x => x.2.2) (kvs.map (·.2))) (ob : OB O H) : ItD K O H (ItDv a o xs) (kvs.map (·.2)) := by
  have el := r.length
  rw [List.length_map] at el
  refine ⟨fun i H2 st hi => ⟨st a _ h n (fun ps z => by cases z), by omega⟩, fun i H2 x H' O2 st m ob2 hi hy => ?_, fun i H2 st hi => ⟨st a _ h n (fun ps z => by cases z), by omega⟩⟩
  obtain ⟨rfl, y, hy, rfl⟩ := hy
  obtain ⟨d, h1, h2⟩ := r.get (i := i) (by rw [List.getElem?_map, hy]; rfl)
  exact ⟨d, h1, Same.refl _, Fre.refl _, h2.move st ob m⟩
theorem itd_di (n : ¬ O a) (h : H a = some (DN a o xs)) (r1 : RpL K O H (xs.map fun x => V.ref x.2.1) (kvs.map (·.1))) (r2 : RpL K O H (xs.map fun x => x.2.2) (kvs.map (·.2))) (ob : OB O H) : ItD K O H (ItDi a o xs) (kvs.map fun p => wkD [p.1, p.2]) := by
  have el := r1.length
  rw [List.length_map, List.length_map] at el
  refine ⟨fun i H2 st hi => ⟨st a _ h n (fun ps z => by cases z), by rw [List.length_map] at hi; omega⟩, fun i H2 x H' O2 st m ob2 hi hy => ?_, fun i H2 st hi => ⟨st a _ h n (fun ps z => by cases z), by rw [List.length_map] at hi; omega⟩⟩
  obtain ⟨t, y, rfl, hn, rfl, hy⟩ := hy
  obtain ⟨d1, h1, h2⟩ := r1.get (i := i) (by rw [List.getElem?_map, hy]; rfl)
  obtain ⟨d2, h3, h4⟩ := r2.get (i := i) (by rw [List.getElem?_map, hy]; rfl)
  rw [List.getElem?_map] at h1 h3
  cases ek : kvs[i]? with
  | none => rw [ek] at h1; cases h1
  | some p =>
    rw [ek] at h1 h3
    cases h1; cases h3
    exact ⟨_, by rw [List.getElem?_map, ek]; rfl, Same.upd hn, Fre.upd _ _ _, pair_rp ob2 hn (h2.move st ob m) (h4.move st ob m)⟩
theorem dctK_some {k : List (D × D) → Prop} (h : dctK d k) : ∃ kvs, d = .dict kvs ∧ k kvs := by
  cases d with
  | dict kvs => exact ⟨kvs, rfl, h⟩
  | _ => exact (show False from h).elim
theorem i_dk {we : WE} (he : PE X iter (tE X.K T we)) : PI X tg iter (tI X.K T (wDkI we)) := by
  refine ⟨fun pins s σ H R I w => ?_⟩
  obtain ⟨E0, B, ρ, Qd, er, tb, hw, k⟩ := w
  refine thn (he.run pins s σ H (fun x H1 => ∃ a o xs, x = .ref a ∧ H1 a = some (DN a o xs) ∧ R (ItDk a o xs) H1) I ⟨E0, B, ρ, _, er, tb, hw, fun x H1 r ρ1 q A => ?_⟩) fun v' s1 ⟨x, H1, I1, r1, a, o, xs, ex, hq, q⟩ => ?_
  · obtain ⟨d, ρ2, q, A2, rp⟩ := A.fz1 er q
    obtain ⟨kvs, rfl, t, q⟩ := dctK_some q
    obtain ⟨a, o, xs, e, n, e1, h1, h2⟩ := dct_known rp t
    exact ⟨a, o, xs, e, e1, k _ _ _ _ q A2 (itd_dk n e1 h1 A2.obx)⟩
  · subst ex
    cases r1
    obtain ⟨es, ep, hd⟩ := dn_data I1 hq
    have RW := dn_raw I1 hq hd
    refine wpAny_pyIter_dict_raw RW.sys RW.raw ⟨_, _, _, _, H1, rfl, I1.kept (t' := s1.toks) fun b o z => Heap.get?_push_of_some _ z, turn_dk hd, ⟨_, Heap.get?_push_size _ rfl, rfl, rfl⟩, fun b hb => ?_, q⟩
    rw [List.mem_singleton.mp hb]
    exact I1.fpOk (Nat.le_refl _) (I1.hok.fresh (Nat.le_refl _))
theorem i_dv {ex : Expr} {we : WE} {apos cpos : Pos} (he : PE X ex (tE X.K T we)) (hbase : attributeBase ex "values" X.env (eval ex X.env) = eval ex X.env := by rfl) (hline : (apos.endLine == cpos.line) = true := by rfl) :
    PI X tg (.Call (.Attribute ex "values" apos) [] [] cpos) (tI X.K T (wDvI we)) := by
  refine ⟨fun pins s σ H R I w => ?_⟩
  obtain ⟨E0, B, ρ, Qd, er, tb, hw, k⟩ := w
  refine wpAny_Call_method0_late hbase hline (thn (he.run pins s σ H (fun x H1 => ∃ a o xs, x = .ref a ∧ H1 a = some (DN a o xs) ∧ R (ItDv a o xs) H1) I ⟨E0, B, ρ, _, er, tb, hw, fun x H1 r ρ1 q A => ?_⟩) fun v' s1 ⟨x, H1, I1, r1, a, o, xs, ex, hq, q⟩ => ?_)
  · obtain ⟨d, ρ2, q, A2, rp⟩ := A.fz1 er q
    obtain ⟨kvs, rfl, t, q⟩ := dctK_some q
    obtain ⟨a, o, xs, e, n, e1, h1, h2⟩ := dct_known rp t
    exact ⟨a, o, xs, e, e1, k _ _ _ _ q A2 (itd_dv n e1 h2 A2.obx)⟩
  · subst ex
    cases r1
    obtain ⟨es, ep, hd⟩ := dn_data I1 hq
    have RW := dn_raw I1 hq hd
    obtain ⟨t1, t2⟩ := RW.raw.plain
    refine ⟨"dict", "dict.values", PySem.F.plainAttrs_dict, PySem.F.slot_dict_values, PySem.F.type_dict_values, t1, t2, Calls.callWith_builtin rfl (PySem.evalArgs_none (call_meetsIn PySem.F.slot_dict_values RW.raw.typeIs PySem.F.entry_dict_values (PySem.F.args_dict_values_1 _) (meets_dict_values_raw a RW.sys) ⟨⟨es, ep, RW.raw⟩, ?_⟩))⟩
    have R2 := RW.raw.at fun o e => Heap.get?_push_of_some { cls := .type "dict_values", data := .fields #[.ref a] } e
    refine wpAny_pyIter_values_raw ⟨_, Heap.get?_push_size _ rfl, rfl, rfl⟩ R2 ⟨_, _, _, _, H1, rfl, I1.kept (t' := s1.toks) fun b o z => Heap.get?_push_of_some _ (Heap.get?_push_of_some _ z), turn_dv hd, ⟨_, Heap.get?_push_size _ rfl, rfl, rfl⟩, fun b hb => ?_, q⟩
    rw [List.mem_singleton.mp hb]
    have le : s1.heap.objs.size ≤ (s1.heap.push { cls := .type "dict_values", data := .fields #[.ref a] }).objs.size := by rw [Heap.size_push]; exact Nat.le_succ _
    exact I1.fpOk le (I1.hok.fresh le)
theorem i_di {ex : Expr} {elts : List Expr} {kk : Nat} {tpos : Pos} {we : WE} {apos cpos : Pos} (he : PE X ex (tE X.K T we)) (hbase : attributeBase ex "items" X.env (eval ex X.env) = eval ex X.env := by rfl) (hline : (apos.endLine == cpos.line) = true := by rfl) :
    PI X (.Tuple elts kk tpos) (.Call (.Attribute ex "items" apos) [] [] cpos) (tI X.K T (wDiI we)) := by
  refine ⟨fun pins s σ H R I w => ?_⟩
  obtain ⟨E0, B, ρ, Qd, er, tb, hw, k⟩ := w
  refine wpAny_Call_method0_late hbase hline (thn (he.run pins s σ H (fun x H1 => ∃ a o xs, x = .ref a ∧ H1 a = some (DN a o xs) ∧ R (ItDi a o xs) H1) I ⟨E0, B, ρ, _, er, tb, hw, fun x H1 r ρ1 q A => ?_⟩) fun v' s1 ⟨x, H1, I1, r1, a, o, xs, ex, hq, q⟩ => ?_)
  · obtain ⟨d, ρ2, q, A2, rp⟩ := A.fz1 er q
    obtain ⟨kvs, rfl, t, q⟩ := dctK_some q
    obtain ⟨a, o, xs, e, n, e1, h1, h2⟩ := dct_known rp t
    exact ⟨a, o, xs, e, e1, k _ _ _ _ q A2 (itd_di n e1 h1 h2 A2.obx)⟩
  · subst ex
    cases r1
    obtain ⟨es, ep, hd⟩ := dn_data I1 hq
    have RW := dn_raw I1 hq hd
    obtain ⟨t1, t2⟩ := RW.raw.plain
    refine ⟨"dict", "dict.items", PySem.F.plainAttrs_dict, PySem.F.slot_dict_items, PySem.F.type_dict_items, t1, t2, Calls.callWith_builtin rfl (PySem.evalArgs_none (call_meetsIn PySem.F.slot_dict_items RW.raw.typeIs PySem.F.entry_dict_items (PySem.F.args_dict_items_1 _) (meets_dict_items_raw a RW.sys) ⟨⟨es, ep, RW.raw⟩, ?_⟩))⟩
    have R2 := RW.raw.at fun o e => Heap.get?_push_of_some { cls := .type "dict_items", data := .fields #[.ref a] } e
    refine wpAny_pyIter_items_raw ⟨_, Heap.get?_push_size _ rfl, rfl, rfl⟩ R2 ⟨_, _, _, _, H1, rfl, I1.kept (t' := s1.toks) fun b o z => Heap.get?_push_of_some _ (Heap.get?_push_of_some _ z), turn_di hd, ⟨_, _, Heap.get?_push_size _ rfl⟩, fun b hb => ?_, q⟩
    rw [List.mem_singleton.mp hb]
    have le : s1.heap.objs.size ≤ (s1.heap.push { cls := .type "dict_items", data := .fields #[.ref a] }).objs.size := by rw [Heap.size_push]; exact Nat.le_succ _
    exact I1.fpOk le (I1.hok.fresh le)
end
end DL
set_option maxRecDepth 100000
set_option maxHeartbeats 2000000
namespace DL
open PySem PySem.Spec L2 LamX PyProof.Rows
section
variable {K : PySem.W.Frag} {T : Tb} {E0 B N : As} {σ : L2.St} {ρ ρ1 : DEnv} {H H1 : Hp} {v : V} {r : RV} {X : Cx} {pos : Pos}
/-! ### a, b, c = e1, e2, e3 where one of the names is a cell: stored from the left -/
theorem ps_par3c {i j l : Nat} {x y z : Str} {a b c : Expr} {ta : TA} {px py pz pt pos : Pos} {kt k2 pt2} (hc : X.calm = true) (hN : X.N.Nodup) (hi : X.N[i]? = some x) (hj : X.N[j]? = some y) (hl : X.N[l]? = some z)
    (hx : Loc X.env.scope x) (hy : Loc X.env.scope y) (hz : Loc X.env.scope z) (ha : PA X [a, b, c] ta)
    (fx : X.fn x = true ∨ X.env.scope.names.lookup x = some .local) (fy : X.fn y = true ∨ X.env.scope.names.lookup y = some .local) (fz : X.fn z = true ∨ X.env.scope.names.lookup z = some .local)
    (hw : swappedStores [.Tuple [.Name x px, .Name y py, .Name z pz] kt pt] (.Tuple [a, b, c] k2 pt2) X.env = pure none)
    (hs : swapsWithSole [.Tuple [.Name x px, .Name y py, .Name z pz] kt pt] (.Tuple [a, b, c] k2 pt2) pos.line X.env = pure false) :
    PS X (.Assign [.Tuple [.Name x px, .Name y py, .Name z pz] kt pt] (.Tuple [a, b, c] k2 pt2) pos) (tPar3 i j l ta) := by
  refine ⟨fun pins s σ H D I h => ?_⟩
  refine PyProof.Rows.Assign_Tuple (Tuple_ (thn (ha.run _ pins s σ H _ I h) fun us s1 ⟨vs, H1, I1, r1, q1⟩ => ?_)) hs hw
  obtain ⟨v1, v2, v3, e1, q1⟩ := q1
  subst e1
  obtain ⟨u1, u2, u3, rfl, r1', r2', r3'⟩ : ∃ u1 u2 u3, us = [u1, u2, u3] ∧ RelV v1 u1 ∧ RelV v2 u2 ∧ RelV v3 u3 := by
    cases r1 with
    | cons p q =>
      cases q with
      | cons p' q' =>
        cases q' with
        | cons p'' q'' =>
          cases q''
          exact ⟨_, _, _, rfl, p, p', p''⟩
  refine wpAny_newObj_type ?_ (by show 3 ≤ sizeLine; decide)
  have I2 : Inv X pins σ H1 { s1 with heap := s1.heap.push { cls := .type "tuple", data := .seq [u1, u2, u3].toArray } } := I1.kept (t' := s1.toks) fun b o e => Heap.get?_push_of_some _ e
  refine assign_Tuple_tuple (items := #[u1, u2, u3]) (I.ok.hd hc) (IsTup.new s1.heap _) rfl rfl fun h' hx' => ?_
  have I3 := I2.kept (h' := h') (t' := s1.toks) fun b o e => hx' b o (Nat.ne_of_lt (Heap.lt_size e)) e
  show wpAny _ _ (assignInOrder [assign (.Name x px) X.env, assign (.Name y py) X.env, assign (.Name z pz) X.env] [u1, u2, u3]) _ _ _
  refine assignInOrder_cons (assign_Name (store_ok I3 hN hi hx r1' (fun s2 I4 => ?_) fx))
  refine assignInOrder_cons (assign_Name (store_ok I4 hN hj hy r2' (fun s3 I5 => ?_) fy))
  refine assignInOrder_cons (assign_Name (store_ok I5 hN hl hz r3' (fun s4 I6 => assignInOrder_nil ?_) fz))
  exact ⟨_, H1, I6, q1⟩
theorem s_par3c {i j l : Nat} {x y z : Str} {a b c : Expr} {wa : WA} {px py pz pt : Pos} {kt k2 pt2} (hc : X.calm = true) (hN : X.N.Nodup) (ha : PA X [a, b, c] (tA X.K T wa)) (hi : X.N[i]? = some x := by rfl) (hj : X.N[j]? = some y := by rfl) (hl : X.N[l]? = some z := by rfl)
    (hij : i ≠ j := by decide) (hil : i ≠ l := by decide) (hjl : j ≠ l := by decide) (hx : Loc X.env.scope x := by first | exact .inl rfl | exact .inr rfl) (hy : Loc X.env.scope y := by first | exact .inl rfl | exact .inr rfl) (hz : Loc X.env.scope z := by first | exact .inl rfl | exact .inr rfl)
    (fx : X.fn x = true ∨ X.env.scope.names.lookup x = some .local := by first | exact .inl rfl | exact .inr rfl | assumption) (fy : X.fn y = true ∨ X.env.scope.names.lookup y = some .local := by first | exact .inl rfl | exact .inr rfl | assumption) (fz : X.fn z = true ∨ X.env.scope.names.lookup z = some .local := by first | exact .inl rfl | exact .inr rfl | assumption)
    (hw : swappedStores [.Tuple [.Name x px, .Name y py, .Name z pz] kt pt] (.Tuple [a, b, c] k2 pt2) X.env = pure none := by rfl)
    (hs : swapsWithSole [.Tuple [.Name x px, .Name y py, .Name z pz] kt pt] (.Tuple [a, b, c] k2 pt2) pos.line X.env = pure false := by rfl) :
    PS X (.Assign [.Tuple [.Name x px, .Name y py, .Name z pz] kt pt] (.Tuple [a, b, c] k2 pt2) pos) (tS X.K T (wPar3 i j l wa)) :=
  (ps_par3c hc hN hi hj hl hx hy hz ha fx fy fz hw hs).imp fun D σ H h => by
    obtain ⟨E0, B, ρ, P, er, tb, hw, k, _⟩ := h
    refine ⟨E0, B, ρ, _, er, tb, hw, fun vs H1 rs ρ1 q A => ?_⟩
    have hq : ∃ r1 r2 r3, rs = [r1, r2, r3] ∧ wPar.fzN ρ1 r1 fun r1 ρ2 => wPar.fzN ρ2 r2 fun r2 ρ3 => wPar.fzN ρ3 r3 fun r3 ρ4 => putK ρ4 i r1 fun ρ5 => putK ρ5 j r2 fun ρ6 => putK ρ6 l r3 P.nx := by
      match rs, q with
      | [r1, r2, r3], q => exact ⟨r1, r2, r3, rfl, q⟩
      | [], q => exact q.elim
      | [_], q => exact q.elim
      | [_, _], q => exact q.elim
      | _ :: _ :: _ :: _ :: _, q => exact q.elim
    obtain ⟨r1, r2, r3, ers, hq⟩ := hq
    subst ers
    have hlen := A.rr.len
    obtain ⟨v1, v2, v3, ev⟩ : ∃ v1 v2 v3, vs = [v1, v2, v3] := by
      match vs, hlen with
      | [v1, v2, v3], _ => exact ⟨v1, v2, v3, rfl⟩
    subst ev
    refine ⟨v1, v2, v3, rfl, ?_⟩
    obtain ⟨s1, ρ2, hq, e2, l2, q1⟩ := fzN_ok (BL := B) A.er (fun _ z => .inl z) (A.rr.at_ 0 v1 r1 rfl rfl) hq
    obtain ⟨s2, ρ3, hq, e3, l3, q2⟩ := fzN_ok (BL := B) e2 (fun _ z => .inl z) ((A.rr.at_ 1 v2 r2 rfl rfl).mono (As.or_mono (fun _ z => z) fun a z => l2.ow a z)) hq
    obtain ⟨s3, ρ4, hq, e4, l4, q3⟩ := fzN_ok (BL := B) e3 (fun _ z => .inl z) ((A.rr.at_ 2 v3 r3 rfl rfl).mono (As.or_mono (fun _ z => z) fun a z => l2.ow a (l3.ow a z))) hq
    have le4 := (l2.trans l3).trans l4
    let Nn : As := Nw [v1, v2, v3] [r1, r2, r3]
    let N1 : As := fun a => (∃ b, r1 = .new b) ∧ v1 = .ref a
    let N2 : As := fun a => (∃ b, r2 = .new b) ∧ v2 = .ref a
    let N3 : As := fun a => (∃ b, r3 = .new b) ∧ v3 = .ref a
    have h1N : ∀ a, N1 a → Nn a := fun a ⟨⟨b, e⟩, e'⟩ => by subst e; subst e'; exact ⟨0, b, rfl, rfl⟩
    have h2N : ∀ a, N2 a → Nn a := fun a ⟨⟨b, e⟩, e'⟩ => by subst e; subst e'; exact ⟨1, b, rfl, rfl⟩
    have h3N : ∀ a, N3 a → Nn a := fun a ⟨⟨b, e⟩, e'⟩ => by subst e; subst e'; exact ⟨2, b, rfl, rfl⟩
    have fresh : ∀ a, Nn a → H a = none := fun a ⟨n, b, h1, h2⟩ => by
      obtain ⟨x, e, nn, _⟩ := A.rr.at_ n _ _ h2 h1
      cases e; exact nn
    have notB := Nw.notB er A
    have notE : ∀ a, Nn a → ¬ E0 a := fun a z w => by
      obtain ⟨o, h1⟩ := er.e0 a w
      rw [fresh a z] at h1; cases h1
    let M1 : As := As.or N2 N3
    have e4' : ER X.K E0 ((B.or M1).or N1) σ H1 ρ4 := e4.mono fun a z => by
      rcases z with (z | z | z) | z
      · exact .inl z
      · exact .inr (h2N a z)
      · exact .inr (h3N a z)
      · exact .inr (h1N a z)
    have ne : ∀ a, N1 a → ¬ N2 a ∧ ¬ N3 a := fun a ⟨⟨b, e⟩, e'⟩ => by
      subst e; subst e'
      refine ⟨fun ⟨⟨c, f⟩, f'⟩ => ?_, fun ⟨⟨c, f⟩, f'⟩ => ?_⟩ <;> subst f
      · have := A.rr.inj 0 1 b c a rfl rfl rfl (by rw [f'] <;> rfl)
        cases this
      · have := A.rr.inj 0 2 b c a rfl rfl rfl (by rw [f'] <;> rfl)
        cases this
    have ne23 : ∀ a, N2 a → ¬ N3 a := fun a ⟨⟨b, e⟩, e'⟩ ⟨⟨c, f⟩, f'⟩ => by
      subst e; subst f; subst e'
      have := A.rr.inj 1 2 b c a rfl rfl rfl (by rw [f'] <;> rfl)
      cases this
    have p1 : PR X.K E0 (B.or M1) N1 σ H1 ρ4 v1 s1 := by
      rcases q1 with ⟨d, es, _, rp⟩ | ⟨b, es, er1, _⟩
      · subst es
        exact Rp.mono rp fun a z => by
          rcases z with (z | z | z) | z
          · exact .inl (.inl z)
          · exact .inl (.inr (h2N a z))
          · exact .inl (.inr (h3N a z))
          · exact .inr (l3.ow a (l4.ow a z))
      · subst es; subst er1
        obtain ⟨a, ea, _, hb⟩ := A.rr.at_ 0 v1 _ rfl rfl
        subst ea
        have n1 : N1 a := ⟨⟨b, rfl⟩, rfl⟩
        refine ⟨a, rfl, n1, fun z => z.elim (notB a (h1N a n1)) fun z => z.elim (ne a n1).1 (ne a n1).2, notE a (h1N a n1), hb.mono fun x z => ?_⟩
        rcases z with ((z | z | z) | z) | z
        · exact .inl (.inl z)
        · exact .inl (.inr (h2N x z))
        · exact .inl (.inr (h3N x z))
        · exact .inl (.inr (h1N x z))
        · exact .inr (le4.ow x z)
    obtain ⟨ρ5, hq, P1⟩ := put1 e4' p1 hq
    have o5 : ∀ a, Ow (σ.set i (some v1)) ρ5 a → Ow σ ρ4 a ∨ Nn a := fun a z => (P1.ow a z).imp id (h1N a)
    have er5 : ER X.K E0 ((B.or N3).or N2) (σ.set i (some v1)) H1 ρ5 := P1.er.mono fun a z => by
      rcases z with (z | z) | z
      · exact .inl z
      · exact .inr (.inr z)
      · exact .inr (.inl z)
    have p2 : PR X.K E0 (B.or N3) N2 (σ.set i (some v1)) H1 ρ5 v2 s2 := by
      rcases q2 with ⟨d, es, _, rp⟩ | ⟨b, es, er1, _⟩
      · subst es
        exact Rp.mono rp fun a z => by
          rcases z with (z | z) | z
          · exact .inl (.inl z)
          · exact .inl (.inr (h3N a z))
          · rcases o5 a z with z | z
            · exact .inr (l4.ow a z)
            · exact .inl (.inr z)
      · subst es; subst er1
        obtain ⟨a, ea, _, hb⟩ := A.rr.at_ 1 v2 _ rfl rfl
        subst ea
        have n2 : N2 a := ⟨⟨b, rfl⟩, rfl⟩
        refine ⟨a, rfl, n2, fun z => z.elim (notB a (h2N a n2)) (ne23 a n2), notE a (h2N a n2), hb.mono fun x z => ?_⟩
        rcases z with ((z | z) | z) | z
        · exact .inl (.inl z)
        · exact .inl (.inr (h3N x z))
        · exact .inl (.inr (h2N x z))
        · rcases o5 x z with z | z
          · exact .inr (le4.ow x z)
          · exact .inl (.inr z)
    obtain ⟨ρ6, hq, P2⟩ := put1 er5 p2 hq
    have o6 : ∀ a, Ow ((σ.set i (some v1)).set j (some v2)) ρ6 a → Ow σ ρ4 a ∨ Nn a := fun a z => by
      rcases P2.ow a z with z | z
      · exact o5 a z
      · exact .inr (h2N a z)
    have p3 : PR X.K E0 B N3 ((σ.set i (some v1)).set j (some v2)) H1 ρ6 v3 s3 := by
      rcases q3 with ⟨d, es, _, rp⟩ | ⟨b, es, er1, _⟩
      · subst es
        exact Rp.mono rp fun a z => by
          rcases z with z | z
          · exact .inl (.inl z)
          · rcases o6 a z with z | z
            · exact .inr z
            · exact .inl (.inr z)
      · subst es; subst er1
        obtain ⟨a, ea, _, hb⟩ := A.rr.at_ 2 v3 _ rfl rfl
        subst ea
        have n3 : N3 a := ⟨⟨b, rfl⟩, rfl⟩
        refine ⟨a, rfl, n3, notB a (h3N a n3), notE a (h3N a n3), hb.mono fun x z => ?_⟩
        rcases z with (z | z) | z
        · exact .inl (.inl z)
        · exact .inl (.inr (h3N x z))
        · rcases o6 x z with z | z
          · exact .inr (le4.ow x z)
          · exact .inl (.inr z)
    obtain ⟨ρ7, hq, P3⟩ := put1 P2.er p3 hq
    refine k _ _ ρ7 hq { stp := A.stp, fre := A.fre, tab := A.tab, ow := fun a z => ?_, er := P3.er, lent := fun n b hb => ?_, lent' := fun n b hb => ?_ }
    · have : Ow σ ρ4 a ∨ Nn a := by
        rcases P3.ow a z with z | z
        · exact o6 a z
        · exact .inr (h3N a z)
      exact this.imp (fun z => (A.le.trans le4).ow a z) (fresh a)
    · obtain ⟨b', hb'⟩ := (A.le.trans le4).back n b hb
      obtain ⟨g1, g2⟩ := P1.lent n b' hb'
      obtain ⟨g3, g4⟩ := P2.lent n b' g1
      obtain ⟨g5, g6⟩ := P3.lent n b' g3
      exact ⟨⟨b', g5⟩, g6.trans (g4.trans g2)⟩
    · exact (A.le.trans le4).lent n b (P1.lent' n b (P2.lent' n b (P3.lent' n b hb)))
end
end DL
set_option maxRecDepth 100000
set_option maxHeartbeats 1000000
/-! dicts as plain lists of pairs -/
namespace DL
open PySem PySem.Spec L2 LamX
theorem rm10 {k : Nat} {A : Around} (r : Room k A) : A.units + 10 < cLine := by have := r.un; omega
/-- an encoding of keys of one kind (0: numbers, texts; 1: tuples) -/
structure KeyEnc {α : Type} [DecidableEq α] (f : α → D) (n : Nat) : Prop where
  kind : ∀ a, kin (f a) = n
  one : n = 0 ∨ n = 1
  eq : ∀ a b, keyE (f a) (f b) = decide (a = b)
section
variable {α β : Type} [DecidableEq α]
abbrev encM (f : α → D) (e : β → D) (m : List (α × β)) : List (D × D) := m.map fun p => (f p.1, e p.2)
def mHas (m : List (α × β)) (a : α) : Bool := m.any fun p => decide (p.1 = a)
def mGet (m : List (α × β)) (a : α) : Option β := (m.find? fun p => decide (p.1 = a)).map (·.2)
def mPut (m : List (α × β)) (a : α) (v : β) : List (α × β) := if mHas m a then m.map (fun p => if p.1 = a then (p.1, v) else p) else m ++ [(a, v)]
variable {f : α → D} {e : β → D} {n : Nat} {m : List (α × β)} {a b : α} {v : β}
theorem hasD_enc (h : KeyEnc f n) : hasD (encM f e m) (f a) = mHas m a := by
  unfold hasD mHas encM
  rw [List.any_map]
  exact congrArg (List.any m) (funext fun p => h.eq p.1 a)
theorem getD_enc (h : KeyEnc f n) : getD' (encM f e m) (f a) = (mGet m a).map e := by
  unfold getD' mGet encM
  induction m with
  | nil => rfl
  | cons p m ih =>
    rw [List.map_cons, List.find?_cons, List.find?_cons, h.eq]
    cases decide (p.1 = a) with
    | true => rfl
    | false => exact ih
theorem putD_enc (h : KeyEnc f n) : putD (encM f e m) (f a) (e v) = encM f e (mPut m a v) := by
  unfold putD mPut
  rw [hasD_enc h]
  cases mHas m a with
  | true =>
    rw [if_pos rfl, if_pos rfl]
    unfold encM
    rw [List.map_map, List.map_map]
    refine List.map_congr_left fun p _ => ?_
    show (if keyE (f p.1) (f a) = true then (f p.1, e v) else (f p.1, e p.2)) = _
    rw [h.eq]
    by_cases c : p.1 = a
    · rw [decide_eq_true c, if_pos rfl]
      show _ = (fun p : α × β => (f p.1, e p.2)) (if p.1 = a then (p.1, v) else p)
      rw [if_pos c]
    · rw [decide_eq_false c, if_neg (by decide)]
      show _ = (fun p : α × β => (f p.1, e p.2)) (if p.1 = a then (p.1, v) else p)
      rw [if_neg c]
  | false =>
    rw [if_neg (by decide), if_neg (by decide)]
    unfold encM
    rw [List.map_append]; rfl
theorem fit_enc (h : KeyEnc f n) : Fit (encM f e m) (f a) := ⟨by rw [h.kind]; exact h.one, fun p hp => by
  obtain ⟨q, _, rfl⟩ := List.mem_map.mp hp
  rw [h.kind, h.kind]⟩
theorem tk_enc (h : KeyEnc f 1) (hm : m ≠ []) : tkD (encM f e m) := ⟨fun z => hm (List.map_eq_nil_iff.mp z), fun p hp => by
  obtain ⟨q, _, rfl⟩ := List.mem_map.mp hp
  exact h.kind _⟩
theorem mHas_get : mHas m a = (mGet m a).isSome := by
  unfold mHas mGet
  rw [Option.isSome_map]
  induction m with
  | nil => rfl
  | cons p m ih =>
    rw [List.any_cons, List.find?_cons]
    cases decide (p.1 = a) with
    | true => rfl
    | false => exact ih
theorem mGet_put : mGet (mPut m a v) b = if b = a then some v else mGet m b := by
  have key : ∀ m : List (α × β), mGet (m.map fun p => if p.1 = a then (p.1, v) else p) b = if b = a then (if mHas m a then some v else none) else mGet m b := fun m => by
    induction m with
    | nil => unfold mGet mHas; simp
    | cons p m ih =>
      unfold mGet mHas at ih ⊢
      rw [List.map_cons, List.find?_cons, List.any_cons, List.find?_cons]
      by_cases c : p.1 = a
      · rw [if_pos c]
        by_cases d : b = a
        · subst d
          rw [show decide (((p.1, v) : α × β).1 = b) = true from decide_eq_true c]; simp
        · rw [show decide (((p.1, v) : α × β).1 = b) = false from decide_eq_false fun z => d (z.symm.trans c)]
          simp only
          rw [ih, if_neg d, if_neg d]
      · rw [if_neg c]
        by_cases d : b = a
        · subst d
          rw [decide_eq_false c]
          simp only
          rw [ih]
          simp only [if_true, Bool.false_or]
        · rw [if_neg d] at ih ⊢
          cases decide (p.1 = b) with
          | true => rfl
          | false => exact ih
  unfold mPut
  cases c : mHas m a with
  | true =>
    rw [if_pos rfl, key, c]
    rfl
  | false =>
    rw [if_neg (by decide)]
    have hn : mGet m a = none := by
      have := mHas_get (m := m) (a := a)
      rw [c] at this
      cases e : mGet m a with
      | none => rfl
      | some _ => rw [e] at this; cases this
    unfold mGet at hn ⊢
    rw [List.find?_append]
    by_cases d : b = a
    · subst d
      rw [if_pos rfl]
      have : m.find? (fun p => decide (p.1 = b)) = none := Option.map_eq_none_iff.mp hn
      rw [this]
      simp
    · rw [if_neg d, List.find?_cons, show decide (((a, v) : α × β).1 = b) = false from decide_eq_false fun z => d z.symm]
      simp
theorem mHas_put : mHas (mPut m a v) b = (decide (b = a) || mHas m b) := by
  rw [mHas_get, mGet_put, mHas_get]
  by_cases c : b = a
  · rw [if_pos c, decide_eq_true c]; rfl
  · rw [if_neg c, decide_eq_false c]; rfl
end
/-! ### keys: numbers; rows of numbers; nets -/
theorem keyEnc_int : KeyEnc PyData.int 0 := ⟨fun _ => rfl, .inl rfl, fun a b => by
  show decide (NestedKey.num a = NestedKey.num b) = _
  exact decide_eq_decide.mpr ⟨fun z => by cases z; rfl, fun z => by rw [z]⟩⟩
theorem keysOf_ints : ∀ ns : List Int, keysOf (ns.map .int) = some (ns.map .num)
  | [] => rfl
  | a :: ns => by
    rw [List.map_cons, keysOf, keysOf_ints ns]
    rfl
theorem noTexts_nums : ∀ ns : List Int, noTexts (ns.map .num) = true
  | [] => rfl
  | a :: ns => by
    rw [List.map_cons, noTexts, noTexts_nums ns]; rfl
theorem map_num_inj {a b : List Int} (h : a.map NestedKey.num = b.map NestedKey.num) : a = b := by
  induction a generalizing b with
  | nil => cases b with
    | nil => rfl
    | cons => cases h
  | cons x a ih => cases b with
    | nil => cases h
    | cons y b =>
      rw [List.map_cons, List.map_cons] at h
      injection h with h1 h2
      injection h1 with h1
      rw [h1, ih h2]
theorem depth_nums : ∀ ns : List Int, NestedKey.depthAll (ns.map .num) = 0
  | [] => by rw [List.map_nil, NestedKey.depthAll]
  | a :: ns => by rw [List.map_cons, NestedKey.depthAll, depth_nums ns, NestedKey.depth]; rfl
theorem keyOf_row (ns : List Int) : keyOf (.tuple (ns.map .int)) = some (.tup (ns.map .num)) := by rw [keyOf, keysOf_ints]
theorem keyEnc_row : KeyEnc rwD 1 := ⟨fun ns => by
  show kin (.tuple (ns.map .int)) = 1
  unfold kin
  dsimp only
  rw [keyOf_row]
  show (if noTexts (ns.map .num) && decide (NestedKey.depth (.tup (ns.map .num)) ≤ 8) then 1 else 2) = 1
  rw [noTexts_nums, NestedKey.depth, depth_nums]
  rfl, .inr rfl, fun a b => by
  show (match keyOf (.tuple (a.map .int)), keyOf (.tuple (b.map .int)) with
    | some x, some y => decide (x = y)
    | _, _ => false) = _
  rw [keyOf_row, keyOf_row]
  exact decide_eq_decide.mpr ⟨fun z => by injection z with z; exact map_num_inj z, fun z => by rw [z]⟩⟩
end DL
set_option maxRecDepth 100000
set_option maxHeartbeats 2000000
/-! sets of more than 63 tuples, while the table of 128 slots has room -/
namespace DL.Ts
open PySem PySem.Spec PyProof.Rows L2
section
variable {P : Program} {w : World} {A : Around} {E : Value → Shared → Prop} {s : Shared} {a x : Addr} {L : List (Addr × List Int)} {es : Array (Int × Value)} {ep : Nat} {t : SetTable} {k : List Int}
/-- a set of tuples, as many as its table holds -/
structure SB (P : Program) (w : World) (h : Heap) (a : Addr) (L : List (Addr × List Int)) (es : Array (Int × Value)) (ep : Nat) (t : SetTable) : Prop where
  ob : ∃ o, h.get? a = some o ∧ o.ExactSet ∧ o.data = .set es ep t
  rows : es.toList = rowsOf P w L
  tab : TabOk t (L.map fun p => thash P w p.2)
  nd : (L.map (·.2)).Nodup
  tup : ∀ p ∈ L, IsT P w h p.2 p.1
  plain : t.plain = true
  led : w.params.followText "set-order" = true ∨ t.led = true
  room : L.length * 5 < t.mask * 3
theorem SB.of {h : Heap} (R : SetTR P w h a L es ep t) : SB P w h a L es ep t := ⟨R.ob, R.rows, R.tab, R.nd, R.tup, R.plain, R.led, R.room⟩
theorem SB.tr {h : Heap} (R : SB P w h a L es ep t) (f : L.length < 64) : SetTR P w h a L es ep t := ⟨R.ob, R.rows, R.tab, R.nd, R.tup, R.plain, R.led, R.room, f⟩
theorem SB.size {h : Heap} (R : SB P w h a L es ep t) : es.size = L.length := by
  rw [← Array.length_toList, R.rows]
  exact List.length_map _
theorem SB.placed {h : Heap} (R : SB P w h a L es ep t) : t.place.toList.length = L.length := by
  rw [Array.length_toList, R.tab.sz, List.length_map]
theorem SB.fits {h : Heap} (R : SB P w h a L es ep t) : t.fits es.size = true := by
  have h1 := R.placed
  have h2 := R.room
  rw [Array.length_toList] at h1
  unfold SetTable.fits SetTable.fill
  rw [R.tab.dm, R.size]
  simp only [Bool.and_eq_true, beq_iff_eq, decide_eq_true_eq]
  refine ⟨h1, ?_⟩
  show t.place.size + 0 ≤ t.mask
  omega
theorem SB.at {h : Heap} (R : SB P w h a L es ep t) {i : Nat} {p : Addr × List Int} (hp : L[i]? = some p) : es[i]? = some (thash P w p.2, Value.ref p.1) := by
  rw [← Array.getElem?_toList, R.rows]
  show (L.map _)[i]? = _
  rw [List.getElem?_map, hp]; rfl
theorem SB.gw {h : Heap} (R : SB P w h a L es ep t) : ¬ t.gaveWay = true := by
  unfold SetTable.gaveWay
  rw [mask_odd R.tab.mok]
  decide
abbrev hat (es : Array (Int × Value)) : Nat → Int := fun i => (es[i]?.map (·.1)).getD 0
/-- one look: at an empty slot, or at a tuple of that hash -/
theorem one (R : SB P w s.heap a L es ep t) (hx : IsT P w s.heap k x) (hu : A.units < cLine) {f : Nat} {stand : Option SetTable.Probe} {q : SetTable.Probe} (hq : stand.getD (t.probeStart (thash P w k)) = q) {Q : SetFound → Shared → Prop}
    (h : (∃ j, t.probe (hat es) (thash P w k) q = some (.empty j none) ∧ Q (.free j false) s) ∨
      (∃ j i nx p, t.probe (hat es) (thash P w k) q = some (.candidate j i nx) ∧ L[i]? = some p ∧ t.place.toList[i]? = some j ∧ (p.2 = k → Q (.there none) s) ∧ (p.2 ≠ k → wpAny (model P w) A (setSearchFrom a (.ref x) (thash P w k) true f (some nx)) Q E s))) :
    wpAny (model P w) A (setSearchFrom a (.ref x) (thash P w k) true (f + 1) stand) Q E s := by
  obtain ⟨o, ho, hex, hd⟩ := R.ob
  subst hq
  rw [setSearchFrom_succ]
  refine wpAny_bind (wpAny_setState_of ho hd R.fits ?_)
  dsimp only
  refine wp_if_neg R.gw ?_
  try refine wpAny_bind (wpAny_pure ?_)
  rcases h with ⟨j, e, h⟩ | ⟨j, i, nx, p, e, hp, hj, h1, h2⟩
  · rw [e]
    dsimp only
    exact wpAny_pure h
  · rw [e]
    dsimp only
    have pt := R.tup p (List.mem_of_getElem? hp)
    have body : wpAny (model P w) A (searchRest a (.ref x) (thash P w k) true f es t j i nx) Q E s := by
      unfold searchRest
      rw [R.at hp]
      dsimp only
      refine wpAny_bind (wpAny_holding (wpAny_eqBool_tuple hu pt hx (wpAny_bind (wpAny_setState_of ho hd R.fits ?_))))
      dsimp only
      by_cases c : p.2 = k
      · exact wp_if_pos (by simp [c]) (wpAny_pure (h1 c))
      · refine wp_if_neg (by simp [c]) ?_
        try refine wpAny_bind (wpAny_pure ?_)
        rw [sameMem]
        simp only [if_true, slot_live R.tab.ris hj, R.at hp]
        refine wpAny_bind (wpAny_isSame_ref_self (wpAny_bind (wpAny_pure ?_)))
        simp only [if_true]
        exact wp_if_neg (by simp [c]) (h2 c)
    by_cases c : t.led = true
    · refine wp_if_neg (by simp [c]) ?_
      try refine wpAny_bind (wpAny_pure ?_)
      exact body
    · refine wp_if_pos (by simp [c]) ?_
      refine wpAny_bind (seen_tup hx (fun y hy => ?_) ?_)
      · simp only [Array.mem_toList_iff, List.mem_map] at hy
        obtain ⟨e1, he, rfl⟩ := hy
        have he : e1 ∈ es := by
          simp only [List.mem_filter, Array.mem_toList_iff, Array.mem_filter] at he
          exact he.1
        have he := Array.mem_toList_iff.mpr he
        rw [R.rows] at he
        obtain ⟨p2, hp2, rfl⟩ := List.mem_map.mp he
        exact ⟨p2.2, p2.1, rfl, R.tup p2 hp2⟩
      · refine wp_if_neg (by decide) ?_
        try refine wpAny_bind (wpAny_pure ?_)
        exact body
/-- the n-th look for a hash -/
abbrev lk (m : Nat) (h : Int) (n : Nat) : SetTable.Probe := nth m (runAt m (SetTable.bits h % (m + 1)) (SetTable.bits h)) n
theorem no_dummy (m : Nat) : ∀ (n : Nat) (p : SetTable.Probe), p.dummy = none → (nth m p n).dummy = none
  | 0, _, h => h
  | n + 1, p, h => no_dummy m n (adv m p) (by unfold adv; split <;> exact h)
theorem srch (R : SB P w s.heap a L es ep t) (hx : IsT P w s.heap k x) (hu : A.units < cLine) {K : Nat} (hf : K < 10 * SetTable.turns t.mask) (hK : way t.mask (thash P w k) K ∉ t.place.toList)
    (hb : ∀ c, c < K → way t.mask (thash P w k) c ∈ t.place.toList) {Q : SetFound → Shared → Prop} (hin : k ∈ L.map (·.2) → Q (.there none) s) (hout : k ∉ L.map (·.2) → Q (.free (way t.mask (thash P w k) K) false) s) :
    ∀ (f c : Nat) (stand : Option SetTable.Probe), stand.getD (t.probeStart (thash P w k)) = lk t.mask (thash P w k) c → c ≤ K → K - c < f →
      (∀ (i : Nat) (p : Addr × List Int), L[i]? = some p → p.2 = k → ∃ c', c ≤ c' ∧ c' < K ∧ t.place.toList[i]? = some (way t.mask (thash P w k) c')) →
      wpAny (model P w) A (setSearchFrom a (.ref x) (thash P w k) true f stand) Q E s := by
  intro f
  induction f with
  | zero => intro c _ _ _ h; exact absurd h (Nat.not_lt_zero _)
  | succ f ih =>
    intro c stand hst hc hfu left
    have st : ∀ n, nth t.mask (lk t.mask (thash P w k) c) n = lk t.mask (thash P w k) (c + n) := fun n => (nth_add t.mask c _ n).symm
    have stj : ∀ n, (nth t.mask (lk t.mask (thash P w k) c) n).j = way t.mask (thash P w k) (c + n) := fun n => congrArg SetTable.Probe.j (st n)
    have hs : ∀ (i : Nat) (p : Addr × List Int), L[i]? = some p → hat es i = thash P w p.2 := fun i p hp => by
      show (es[i]?.map (·.1)).getD 0 = _
      rw [R.at hp]; rfl
    have eK : c + (K - c) = K := by omega
    refine one R hx hu hst ?_
    rcases go_spec t R.tab.ris R.tab.dm (hat es) (thash P w k) (10 * SetTable.turns t.mask) (K - c) (lk t.mask (thash P w k) c) (no_dummy _ _ _ rfl) (by omega) (fun n hn => by rw [stj]; exact hb _ (by omega)) (by rw [stj, eK]; exact hK) with ⟨n, i, hn, hi, hh, no, pr⟩ | ⟨no, pr⟩
    · rw [stj] at hi
      obtain ⟨hil, _⟩ := List.getElem?_eq_some_iff.mp hi
      rw [R.placed] at hil
      have hp : L[i]? = some L[i] := List.getElem?_eq_getElem hil
      refine .inr ⟨_, i, _, L[i], pr, hp, by rw [stj]; exact hi, fun e => hin (List.mem_map.mpr ⟨_, List.getElem_mem hil, e⟩), fun ne => ?_⟩
      refine ih (c + (n + 1)) _ (st (n + 1)) (by omega) (by omega) fun i0 p0 h0 e0 => ?_
      obtain ⟨c', a1, a2, a3⟩ := left i0 p0 h0 e0
      refine ⟨c', ?_, a2, a3⟩
      rcases Nat.lt_trichotomy c' (c + n) with z | z | z
      · exact absurd ((hs i0 p0 h0).trans (congrArg (thash P w) e0)) (no (c' - c) i0 (by omega) (by rw [stj, show c + (c' - c) = c' by omega]; exact a3))
      · subst z
        have e1 := slot_live R.tab.ris a3
        rw [slot_live R.tab.ris hi] at e1
        cases e1
        rw [hp] at h0
        cases h0
        exact absurd e0 ne
      · omega
    · refine .inl ⟨_, pr, ?_⟩
      rw [stj, eK]
      refine hout fun hm => ?_
      obtain ⟨p0, h0, e0⟩ := List.mem_map.mp hm
      obtain ⟨i0, g0⟩ := List.mem_iff_getElem?.mp h0
      obtain ⟨c', a1, a2, a3⟩ := left i0 p0 g0 e0
      exact no (c' - c) i0 (by omega) (by rw [stj, show c + (c' - c) = c' by omega]; exact a3) ((hs i0 p0 g0).trans (congrArg (thash P w) e0))
theorem seek (R : SB P w s.heap a L es ep t) (hx : IsT P w s.heap k x) (hu : A.units < cLine) {Q : SetFound → Shared → Prop} (hin : k ∈ L.map (·.2) → Q (.there none) s)
    (hout : ∀ K, k ∉ L.map (·.2) → way t.mask (thash P w k) K ∉ t.place.toList → (∀ c, c < K → way t.mask (thash P w k) c ∈ t.place.toList) → Q (.free (way t.mask (thash P w k) K) false) s) :
    wpAny (model P w) A (setSearch a (.ref x) (thash P w k) true) Q E s := by
  have room := R.room
  obtain ⟨K, h1, h2, h3⟩ := R.tab.first (by rw [List.length_map]; omega) (thash P w k)
  have hb : 10 * SetTable.turns t.mask ≤ 1420 := by
    unfold SetTable.turns
    rcases R.tab.mok with e | e | e <;> omega
  unfold setSearch
  refine srch R hx hu h1 h2 h3 hin (fun hn => hout K hn h2 h3) 100000 0 none rfl (Nat.zero_le _) (by omega) fun i p hp e => ?_
  have hh : (L.map fun p => thash P w p.2)[i]? = some (thash P w k) := by rw [List.getElem?_map, hp, ← e]; rfl
  have hil : i < t.place.toList.length := by
    rw [R.placed]
    exact (List.getElem?_eq_some_iff.mp hp).1
  obtain ⟨c, c1, c2⟩ := R.tab.before h2 hh (List.getElem?_eq_getElem hil)
  exact ⟨c, Nat.zero_le _, c1, by rw [c2]; exact List.getElem?_eq_getElem hil⟩
/-- one tuple more, to at most 76 -/
theorem add (R : SB P w s.heap a L es ep t) (hx : IsT P w s.heap k x) (hu : A.units < cLine) (hn : k ∉ L.map (·.2) → L.length + 1 ≤ 76) {Q : Bool → Shared → Prop}
    (hQ : ∀ b h' L' es' ep' t', Heap.SameBut a s.heap h' → SB P w h' a L' es' ep' t' → (k ∈ L.map (·.2) → L' = L) → (k ∉ L.map (·.2) → L'.Perm ((x, k) :: L)) → Q b { s with heap := h' }) :
    wpAny (model P w) A (setAddHashed a (.ref x) (thash P w k)) Q E s := by
  by_cases few : L.length + 1 < 64
  · exact add_at (R.tr (by omega)) hx hu few fun b h' L' es' ep' t' sb R' c1 c2 => hQ b h' L' es' ep' t' sb (.of R') c1 c2
  obtain ⟨o, ho, hex, hd⟩ := R.ob
  have room := R.room
  have m127 : t.mask = 127 := by
    rcases R.tab.mok with e | e | e
    · omega
    · omega
    · exact e
  unfold setAddHashed
  refine wpAny_holding ?_
  rw [show (100000 : Nat) = 99999 + 1 from rfl, setAddHashedIn_succ]
  refine wpAny_bind (wpAny_setState_of ho hd R.fits ?_)
  dsimp only
  refine wp_if_neg (by simp [byScan, Value.scannable]) ?_
  try refine wpAny_bind (wpAny_pure ?_)
  refine wpAny_bind (seek R hx hu (fun hm => ?_) fun K hm hK hb => ?_)
  · dsimp only
    exact wpAny_pure (hQ false s.heap L es ep t (Heap.SameBut.refl a s.heap) R (fun _ => rfl) fun z => absurd hm z)
  · dsimp only
    refine wpAny_bind (wpAny_setState_of ho hd R.fits ?_)
    dsimp only
    obtain ⟨q1, q2, q3, q4, q5, q6, q7, q8, q9⟩ := R.tab.put hK hb
    have pl : (t.put (way t.mask (thash P w k) K)).1.plain = true := by rw [q6]; exact R.plain
    have ld : w.params.followText "set-order" = true ∨ (t.put (way t.mask (thash P w k) K)).1.led = true := by rw [q5]; exact R.led
    have mk : (t.put (way t.mask (thash P w k) K)).1.mask = 127 := q4.trans m127
    rw [List.length_map] at q9
    have nf : (t.put (way t.mask (thash P w k) K)).1.tooFull = false := by
      unfold SetTable.tooFull
      rw [q9, mk]
      have := hn hm
      exact decide_eq_false (by omega)
    generalize t.put (way t.mask (thash P w k) K) = pt at q1 q3 q9 pl ld mk nf ⊢
    obtain ⟨t1, n⟩ := pt
    dsimp only at q1 q3 q9 pl ld mk nf ⊢
    subst q1
    generalize SetTable.below t.place (way t.mask (thash P w k) K) = n at q2 q3 ⊢
    first
      | (refine wpAny_bind ?_; refine wp_if_pos pl ?_; refine hashBy_tup hx ?_)
      | refine wp_if_pos pl (wpAny_bind (hashBy_tup hx ?_))
    simp only [if_true]
    have pm := L2.put_perm L n (x, k)
    have rows1 : (SetTable.insertAt es n (thash P w k, Value.ref x)).toList = rowsOf P w (L.take n ++ (x, k) :: L.drop n) := by
      rw [SetTable.toList_insertAt, rows_put, R.rows]
    have tab1 : TabOk t1 ((L.take n ++ (x, k) :: L.drop n).map fun p => thash P w p.2) := by
      rw [List.map_append, List.map_cons, List.map_take, List.map_drop]
      exact q3
    have sz : (SetTable.insertAt es n (thash P w k, Value.ref x)).size = L.length + 1 := by
      rw [← Array.length_toList, rows1]
      exact (List.length_map _).trans pm.length_eq
    refine wpAny_bind (wpAny_storeSet_of ho hd ?_ (by have := hn hm; rw [sz, sizeLine_eq]; omega))
    have sb : Heap.SameBut a s.heap (s.heap.update a (Obj.putSet (SetTable.insertAt es n (thash P w k, Value.ref x)) t1)) := Heap.SameBut.update ..
    first
      | refine wp_if_neg (by simp [nf]) ?_
      | (refine wpAny_bind ?_; refine wp_if_neg (by simp [nf]) ?_; refine wpAny_pure ?_)
    refine wpAny_pure (hQ true _ _ _ _ _ sb ⟨⟨_, store_at ho hd, ⟨hex.1, hex.2.1, hex.2.2⟩, rfl⟩, rows1, tab1, ?_, fun p hp => ?_, pl, ld, ?_⟩ (fun z => absurd z hm) fun _ => pm)
    · refine (pm.map (·.2)).nodup_iff.mpr ?_
      exact List.nodup_cons.mpr ⟨hm, R.nd⟩
    · rcases List.mem_cons.mp (pm.mem_iff.mp hp) with e | hp
      · rw [e]; exact isT_same hx ho hd sb
      · exact isT_same (R.tup p hp) ho hd sb
    · have := hn hm
      rw [pm.length_eq, List.length_cons, mk]
      omega
theorem SB.keep {h h' : Heap} (R : SB P w h a L es ep t) (ha : ∀ o, h.get? a = some o → h'.get? a = some o) (ht : ∀ p ∈ L, IsT P w h' p.2 p.1) : SB P w h' a L es ep t := by
  obtain ⟨o, ho, r⟩ := R.ob
  exact ⟨⟨o, ha o ho, r⟩, R.rows, R.tab, R.nd, ht, R.plain, R.led, R.room⟩
/-- at most 76 unlike rows -/
def Few (ks : List (Addr × List Int)) : Prop := ∀ L : List (Addr × List Int), (L.map (·.2)).Nodup → (∀ p ∈ L, p ∈ ks) → L.length ≤ 76
/-- where the walk of set.update stands -/
structure At (P : Program) (w : World) (h0 : Heap) (S : Addr) (ks : List (Addr × List Int)) (i : Nat) (s : Shared) : Prop where
  old : ∀ b o, h0.get? b = some o → s.heap.get? b = some o
  set : ∃ L es ep t, SB P w s.heap S L es ep t ∧ Got ks i L
theorem loop {I S : Addr} {fp wr : List Addr} {G : Array GenState → Array GenState → Prop} {n : Nat} {Pv : Nat → Value → Prop} {St : Nat → Shared → Prop} {R : Result → Shared → Prop}
    (W : WalksS P w A.in1 I fp wr G n Pv St) (hSf : S ∉ fp) (ks : List (Addr × List Int)) (hn : n = ks.length) (few : Few ks) (hval : ∀ i v, Pv i v → ∃ p, ks[i]? = some p ∧ v = .ref p.1)
    (h0 : Heap) (hk : ∀ p ∈ ks, IsT P w h0 p.2 p.1) (hS0 : h0.get? S = none) (hw0 : ∀ b ∈ wr, h0.get? b = none) (hu : A.in1.units < cLine)  :
    ∀ (j i : Nat) (s : Shared), n - i = j → i ≤ n → St i s → At P w h0 S ks i s → (∀ s', Moved (S :: wr) G s s' → At P w h0 S ks n s' → R (.ok (.ret .none)) s') →
      codeAny (model P w) A (.builtin "set.update.loop" ⟨[.ref S, .ref I], []⟩) R s := by
  have outS : S ∉ wr := fun h => hSf (W.sub _ h)
  have mono : ∀ b ∈ wr, b ∈ S :: wr := fun b hb => List.mem_cons_of_mem _ hb
  have moved : ∀ {i : Nat} {s s' : Shared}, Moved wr G s s' → At P w h0 S ks i s → At P w h0 S ks i s' := fun {i s s'} m H => by
    have old : ∀ b o, h0.get? b = some o → s'.heap.get? b = some o := fun b o e => m.heap b o (fun hb => by rw [hw0 b hb] at e; cases e) (H.old b o e)
    obtain ⟨L, es, ep, t, B, g⟩ := H.set
    exact ⟨old, L, es, ep, t, B.keep (fun o e => m.heap S o outS e) fun p hp => isT_keep (hk p (List.mem_of_mem_take (g.sub p hp))) old, g⟩
  intro j
  induction j with
  | zero =>
    intro i s hj hi hst H hR
    cases (show i = n by omega)
    refine codeAny_builtin F.entry_set_update_loop ?_
    rw [Around.under_plainId F.plain_set_update_loop _]
    show wpAny _ A.in1 (pyNext (.ref I) >>= _) _ _ s
    refine wpAny_bind (W.done s _ _ hst fun s' m => ?_)
    show wpAny _ A.in1 (ret Value.none) _ _ s'
    exact wpAny_pure (hR s' (m.mono mono) (moved m H))
  | succ j ih =>
    intro i s hj hi hst H hR
    have lt : i < n := by omega
    refine codeAny_builtin F.entry_set_update_loop ?_
    rw [Around.under_plainId F.plain_set_update_loop _]
    show wpAny _ A.in1 (pyNext (.ref I) >>= _) _ _ s
    refine wpAny_bind (W.item i s _ _ lt hst fun v s' hP hst' m => ?_)
    obtain ⟨p, hp, rfl⟩ := hval i v hP
    obtain ⟨old, L, es, ep, t, B, g⟩ := moved m H
    have pin := List.mem_of_getElem? hp
    have hx : IsT P w s'.heap p.2 p.1 := isT_keep (hk p pin) old
    have nb : p.2 ∉ L.map (·.2) → L.length + 1 ≤ 76 := fun c => few (p :: L) (List.nodup_cons.mpr ⟨c, B.nd⟩) fun q hq => by
      rcases List.mem_cons.mp hq with e | hq
      · rw [e]; exact pin
      · exact List.mem_of_mem_take (g.sub q hq)
    show wpAny _ A.in1 (holding [Value.ref p.1] (setAdd S (.ref p.1)) >>= _) _ _ s'
    refine wpAny_bind (wpAny_holding ?_)
    unfold setAdd
    refine wpAny_holding (wpAny_bind (wpAny_pyHash_tuple hu hx ?_))
    refine add (s := { s' with toks := s'.toks + (p.2.length + 1) }) B hx hu nb fun b h' L' es' ep' t' sb B' c1 c2 => ?_
    have g' : Got ks (i + 1) L' := by
      by_cases c : p.2 ∈ L.map (·.2)
      · rw [c1 c]; exact g.same hp c
      · exact g.more hp (c2 c)
    have other : ∀ b, b ≠ S → h'.get? b = s'.heap.get? b := fun b nb => sb.2 b nb
    have old' : ∀ b o, h0.get? b = some o → h'.get? b = some o := fun b o e => (other b fun z => by rw [z, hS0] at e; cases e).trans (old b o e)
    refine wpAny_pure ⟨plainId_quiet F.plain_set_update_loop _, ih (i + 1) _ (by omega) lt (W.frame _ s' _ _ hst' (Nat.le_add_right _ _) fun b hb o e => ?_) ⟨old', L', es', ep', t', B', g'⟩ fun s'' m2 H2 => ?_⟩
    · exact (other b fun z => hSf (by rw [← z]; exact hb)).trans e
    · refine hR s'' (Moved.trans W.gtrans ((m.mono mono).then_heap (Nat.le_add_right _ _) fun b o hb e => ?_) m2) H2
      exact (other b fun z => hb (by rw [z]; exact List.mem_cons_self)).trans e
end
end DL.Ts
set_option maxRecDepth 100000
set_option maxHeartbeats 4000000
/-! set(xs) of up to 76 unlike tuples -/
namespace DL.Ts
open PySem PySem.Spec PyProof.Rows L2
section
variable {P : Program} {w : World} {A : Around} {E : Value → Shared → Prop} {s : Shared} {l : Addr} {items : Array Value} {ks : List (Addr × List Int)}
abbrev o0 (w : World) : Obj := { cls := .type "set", dict := none, data := .set #[] 0 (.fresh 0 0 (!w.params.followText "set-order")) }
theorem get_above {h : Heap} {b : Addr} (hb : h.objs.size ≤ b) : h.get? b = none := by
  cases q : h.get? b with
  | none => rfl
  | some o => exact absurd (Nat.lt_of_lt_of_le (Heap.lt_size q) hb) (Nat.lt_irrefl _)
/-- what set's own __init__ does -/
theorem fill (hh : A.handled = none) (hl : s.heap.IsList l items) (hit : items.toList = ks.map fun p => Value.ref p.1) (hk : ∀ p ∈ ks, IsT P w s.heap p.2 p.1) (few : Few ks) (hu : A.units + 2 < cLine) {R : PySem.Fin → Shared → Prop}
    (h : ∀ h' tk, At P w s.heap s.heap.objs.size ks ks.length { s with heap := h', toks := tk } → R (.done (.ret .none)) { s with heap := h', toks := tk }) :
    wpAny (model P w) A (Builtin.«set.__init__» ⟨[.ref s.heap.objs.size, .ref l], []⟩) R E { s with heap := s.heap.push (o0 w) } := by
  have isz : items.size = ks.length := by
    rw [← Array.length_toList, hit]
    exact List.length_map _
  obtain ⟨ol, hol, hcl, nl, hdl⟩ := hl
  have hol' : (s.heap.push (o0 w)).get? l = some ol := Heap.get?_push_of_some _ hol
  have hl1 : (s.heap.push (o0 w)).IsList l items := ⟨ol, hol', hcl, nl, hdl⟩
  have lS := Heap.lt_size hol
  have sz1 : (s.heap.push (o0 w)).objs.size = s.heap.objs.size + 1 := Heap.size_push ..
  have hT : Shared.TypeIs { s with heap := s.heap.push (o0 w) } (.ref l) "list" := ⟨ol, hol', hcl⟩
  have hsls := F.sub_list_set
  have hslf := F.sub_list_frozenset
  have hne : (Value.type "list" == Value.type "dict") = false := by decide
  obtain ⟨ocls, odict, odata, oslots⟩ := ol
  simp only at hcl hdl
  subst hcl; subst hdl
  unfold Builtin.«set.__init__» noKeywords Builtin.Frozenset.updateFrom
  generalize hPI : pyIter = PI
  wp_walk
  subst hPI
  refine wpAny_pyIter_list hl1 ?_
  refine wpAny_bind (wpAny_runValue ?_)
  have neI : l ≠ (s.heap.push (o0 w)).objs.size := by rw [sz1]; exact Nat.ne_of_lt (Nat.lt_succ_of_lt lS)
  have hSf : s.heap.objs.size ∉ [(s.heap.push (o0 w)).objs.size, l] := by
    rw [sz1]
    simp only [List.mem_cons, List.not_mem_nil, or_false, not_or]
    exact ⟨Nat.ne_of_lt (Nat.lt_succ_self _), Nat.ne_of_gt lS⟩
  have hval : ∀ (i : Nat) (v : Value), items[i]? = some v → ∃ p, ks[i]? = some p ∧ v = .ref p.1 := fun i v hv => by
    rw [← Array.getElem?_toList, hit, List.getElem?_map] at hv
    cases hq : ks[i]? with
    | none => rw [hq] at hv; cases hv
    | some p => rw [hq] at hv; exact ⟨p, rfl, (Option.some.inj hv).symm⟩
  have h2 : A.in1.handled = none := by simp [hh]
  refine loop ((Walks.list h2 _ l neI items).toS) hSf ks isz few hval s.heap hk (get_above (Nat.le_refl _)) (fun b hb => get_above (by rw [List.mem_singleton.mp hb, sz1]; exact Nat.le_succ _)) (by show A.in1.units < cLine; simp only [Around.in1_units]; omega) (items.size - 0) 0 _ (by omega) (Nat.zero_le _)
    ⟨⟨_, Heap.get?_push_size _ rfl, rfl, rfl⟩, (hl1.push _)⟩ ⟨fun b o e => Heap.get?_push_of_some _ (Heap.get?_push_of_some _ e), [], #[], 0, _, .of (setTR_fresh (Heap.get?_push_of_some _ (Heap.get?_push_size _ rfl))), Got.zero ks⟩ fun s' m H => ?_
  obtain ⟨h', g2, d', tk', os'⟩ := s'
  have eg : g2 = s.gens := m.gens
  have ed : d' = s.drawn := m.drawn
  have eo : os' = s.os := m.os
  subst eg; subst ed; subst eo
  show wpAny _ _ _ _ _ _
  refine wpAny_pure ?_
  show wpAny _ _ (ret Value.none) _ _ _
  rw [isz] at H
  exact wpAny_pure (h h' tk' H)
/-- set(xs), xs a list of tuples -/
theorem made (hh : A.handled = none) (hl : s.heap.IsList l items) (hit : items.toList = ks.map fun p => Value.ref p.1) (hk : ∀ p ∈ ks, IsT P w s.heap p.2 p.1) (few : Few ks) (hu : A.units + 4 < cLine) {Q : Value → Shared → Prop}
    (h : ∀ h' tk, At P w s.heap s.heap.objs.size ks ks.length { s with heap := h', toks := tk } → Q (.ref s.heap.objs.size) { s with heap := h', toks := tk }) :
    wpAny (model P w) A (call (.type "set") [.ref l]) Q E s := by
  obtain ⟨c, tl, hmro⟩ := F.called_set.mro
  have hmade := F.called_set.made
  have hsub := F.called_set.sub
  have h1 := F.called_set.notType
  have h2 := F.called_set.canCreate
  have hct := F.typeCall_set_1 (.ref l)
  refine wpAny_call (codeAny_of_tree ?_)
  show wpAny _ _ (callAny (.type "set") _) _ _ _
  refine wpAny_pure ⟨Code.quiet_builtin _ (by decide +kernel), codeAny_builtin F.entry_type_call ?_⟩
  rw [Around.under_plain (weight_type_call_type "set" [.ref l] []) rfl]
  repeat (any_goals (first | assumption | wp_step))
  refine codeAny_mono (code_set_led1 (.ref l) (E := E) (Q₁ := fun obj s₁ => obj = .ref s.heap.objs.size ∧ s₁ = { s with heap := s.heap.push (o0 w) }) ⟨rfl, rfl⟩) fun r s₁ hr => ?_
  cases r with
  | error e => exact hr
  | ok fl =>
    cases fl with
    | ret obj =>
      obtain ⟨rfl, rfl⟩ := hr
      have hS : (s.heap.push (o0 w)).get? s.heap.objs.size = some (o0 w) := Heap.get?_push_size _ rfl
      have hT : Shared.TypeIs { s with heap := s.heap.push (o0 w) } (.ref s.heap.objs.size) "set" := ⟨_, hS, rfl⟩
      have hli := F.called_set.init.lookup
      have hbi := F.called_set.init.bind (.ref s.heap.objs.size)
      repeat (any_goals (first | assumption | wp_step))
      refine codeAny_mono (codeAny_call_builtin (R := wants (fun r s₂ => r = .none ∧ ∃ h' tk, s₂ = { s with heap := h', toks := tk } ∧ At P w s.heap s.heap.objs.size ks ks.length { s with heap := h', toks := tk }) E) F.called_set.init.plain F.entry_set_init (check_set_init_1 hT ?_)) fun r₂ s₂ hr₂ => ?_
      · refine fill (by simp [hh]) hl hit hk few (by simp only [Around.in1_units]; omega) fun h' tk H => ?_
        exact ⟨rfl, h', tk, rfl, H⟩
      · cases r₂ with
        | error e => exact hr₂
        | ok fl₂ =>
          cases fl₂ with
          | ret r =>
            obtain ⟨rfl, h', tk, rfl, H⟩ := hr₂
            repeat (any_goals (first | assumption | wp_step))
            exact h _ _ H
          | _ => exact hr₂.elim
    | _ => exact hr.elim
end
end DL.Ts
set_option maxRecDepth 100000
set_option maxHeartbeats 4000000
/-! sorted(a set of up to 76 tuples) -/
namespace DL.Ts
open PySem PySem.Spec PyProof.Rows L2 PySem.W
section
variable {P : Program} {w : World} {A : Around} {E : Value → Shared → Prop} {s : Shared} {a : Addr} {L : List (Addr × List Int)} {es : Array (Int × Value)} {ep : Nat} {t : SetTable}
theorem reads_ints {h : Heap} : ∀ {vs : List Value} {k : List Int}, IntsAre vs k → ReadsAll h vs (k.map .int) []
  | _, _, .nil => .nil
  | _, _, .cons k t r => .cons (as := []) (bs := []) (.int k t) (reads_ints r)
theorem reads_row {h : Heap} {k : List Int} {b : Addr} (x : IsT P w h k b) : Reads h (.ref b) (rwD k) [] := by
  obtain ⟨o, items, n, ho, hc, hd, hi⟩ := x
  exact .tuple ho hc hd (reads_ints (ints_of_items hi))
theorem perm_pull {α β : Type} {f : α → β} : ∀ {xs : List β} {l : List α}, xs.Perm (l.map f) → ∃ l' : List α, l'.Perm l ∧ xs = l'.map f
  | [], l, h => ⟨[], by rw [List.map_eq_nil_iff.mp (List.nil_perm.mp h)], rfl⟩
  | x :: xs, l, h => by
    obtain ⟨b, hb, e⟩ := List.mem_map.mp (h.mem_iff.mp List.mem_cons_self)
    subst e
    obtain ⟨l1, l2, e⟩ := List.append_of_mem hb
    subst e
    have h2 : (f b :: xs).Perm (f b :: (l1 ++ l2).map f) := h.trans (by rw [List.map_append, List.map_cons, List.map_append]; exact List.perm_middle)
    obtain ⟨l', p, e⟩ := perm_pull h2.cons_inv
    exact ⟨b :: l', (p.cons b).trans List.perm_middle.symm, by rw [List.map_cons, ← e]⟩
theorem each_refs : ∀ (L : List (Addr × List Int)), EachIs (fun u (p : Addr × List Int) => u = Value.ref p.1) (L.map fun p => Value.ref p.1) L
  | [] => .nil
  | p :: L => .cons rfl (each_refs L)
theorem refs_each : ∀ {L : List (Addr × List Int)} {us : List Value}, EachIs (fun u (p : Addr × List Int) => u = Value.ref p.1) us L → us = L.map fun p => Value.ref p.1
  | _, _, .nil => rfl
  | _, _, .cons e t => by rw [e, refs_each t]; rfl
/-- the rows in the order of data -/
abbrev inRows (L : List (Addr × List Int)) : List (Addr × List Int) := L.mergeSort (dataLe false fun p : Addr × List Int => rwD p.2)
theorem le_rows (x y : Addr × List Int) : dataLe false (fun p : Addr × List Int => rwD p.2) x y = decide (¬ y.2 < x.2) := by
  show (!PySem.W.dataLt (rwD y.2) (rwD x.2)) = _
  rw [(PySem.W.dataLt_tuple _ _).trans (PySem.W.dataLt_ints y.2 x.2), ← decide_not]
theorem inRows_asc (L : List (Addr × List Int)) : ((inRows L).map (·.2)).Pairwise (fun x y => ¬ y < x) := by
  refine List.pairwise_map.mpr ?_
  have := List.pairwise_mergeSort (le := dataLe false fun p : Addr × List Int => rwD p.2) (fun a b c h1 h2 => by
    rw [le_rows] at h1 h2 ⊢
    simp only [decide_eq_true_eq] at h1 h2 ⊢
    intro z
    rcases lt_tot a.2 b.2 with y | y | y
    · exact h2 (lt_tr z y)
    · rw [y] at z; exact h2 z
    · exact h1 y) (fun a b => by
    rw [le_rows, le_rows]
    simp only [Bool.or_eq_true, decide_eq_true_eq]
    rcases lt_tot a.2 b.2 with z | z | z
    · exact .inl fun z2 => lt_irr _ (lt_tr z z2)
    · rw [z]; exact .inl fun z2 => lt_irr _ z2
    · exact .inr fun z2 => lt_irr _ (lt_tr z z2)) L
  exact this.imp fun h => by rw [le_rows] at h; exact of_decide_eq_true h
theorem sortedB (R : SB P w s.heap a L es ep t) (hh : A.handled = none) (hu : A.units + 10 < cLine) (hne : ∀ p ∈ L, p.2 ≠ []) {Q : Value → Shared → Prop}
    (hQ : ∀ s' p (out : List Value) (c : Nat) (L' : List (Addr × List Int)), (∀ b o, s.heap.get? b = some o → s'.heap.get? b = some o) → s'.gens = s.gens → s'.os = s.os → s.heap.objs.size ≤ p →
      s'.heap.get? p = some (seqObj "list" out.toArray c) → out = L'.map (fun q => Value.ref q.1) → L'.Perm L → (L'.map (·.2)).Pairwise (fun x y => ¬ y < x) → Q (.ref p) s') :
    wpAny (model P w) A (call (.builtin "sorted") [.ref a]) Q E s := by
  obtain ⟨o, ho, hex, hd⟩ := R.ob
  have size := R.size
  have few : L.length ≤ 76 := by
    have := R.room
    rcases R.tab.mok with e | e | e <;> omega
  refine Calls.call_function_entry kind_sorted plain_sorted entry_sorted (args_sorted1 _) ?_
  unfold Builtin.«sorted»
  refine wpAny_bind (m := checkCount "sorted" 1 1 _) (wpAny_pure ?_)
  refine wpAny_bind (collect_set (A := A.in1) (by simp [hh]) ⟨o, ho, hex.1, hd⟩ R.fits (by unfold scanBound; omega) R.tab.ris R.led fun s1 vs k1 hz g1 o1 pm => ?_)
  have ers : es.toList.map (·.2) = L.map fun q => Value.ref q.1 := by
    rw [R.rows]
    unfold L2.rowsOf
    rw [List.map_map]; rfl
  rw [ers] at pm
  obtain ⟨L1, p1, e1⟩ := perm_pull pm
  subst e1
  have len : (L1.map fun q => Value.ref q.1).length ≤ 76 := by rw [List.length_map, p1.length_eq]; exact few
  refine wpAny_bind (wpAny_newList ?_ (by rw [sizeLine_eq]; omega))
  have hoL : (s1.heap.push (seqObj "list" (L1.map fun q => Value.ref q.1).toArray 0)).get? s1.heap.objs.size = some (seqObj "list" (L1.map fun q => Value.ref q.1).toArray 0) := Heap.get?_push_size _ rfl
  have rd : ∀ q ∈ L1, Reads (s1.heap.push (seqObj "list" (L1.map fun q => Value.ref q.1).toArray 0)) (.ref q.1) (rwD q.2) [] := fun q hq => reads_row (P := P) (w := w) (isT_keep (R.tup q (p1.mem_iff.mp hq)) fun b u e => Heap.get?_push_of_some _ (k1 b u e))
  have er : ∀ M : List (Addr × List Int), (∀ q ∈ M, q ∈ L1) → EachIs (fun v (b : Addr × List Int) => ∃ as, Reads (s1.heap.push (seqObj "list" (L1.map fun q => Value.ref q.1).toArray 0)) v (rwD b.2) as ∧ s1.heap.objs.size ∉ as) (M.map fun q => Value.ref q.1) M := fun M => by
    induction M with
    | nil => intro _; exact .nil
    | cons q M ih => intro hM; exact .cons ⟨[], rd q (hM q List.mem_cons_self), by simp⟩ (ih fun z hz => hM z (List.mem_cons_of_mem _ hz))
  refine wpAny_bind (wpAny_holding (list_sort_data (s := { s1 with heap := s1.heap.push (seqObj "list" (L1.map fun q => Value.ref q.1).toArray 0) }) (R := fun u (p : Addr × List Int) => u = Value.ref p.1) (enc := fun p : Addr × List Int => rwD p.2) hoL (each_refs L1) (er L1 fun _ h => h) ?_ ?_ (by rw [List.length_map] at len; rw [sizeLine_eq]; omega) (fun b hb => ?_) fun out ol oe => ?_))
  · refine AllAlike.of (enc := fun p : Addr × List Int => rwD p.2) fun b b' => ?_
    show PySem.W.alikeAll _ _ = true
    exact PySem.W.alike_ints b.2 b'.2
  · refine .inl fun d hd => ?_
    obtain ⟨p, hp, rfl⟩ := List.mem_map.mp hd
    have hp := hne p (p1.mem_iff.mp hp)
    show ∃ x xs, rwD p.2 = .tuple (x :: xs)
    unfold rwD
    cases e : p.2 with
    | nil => exact absurd e hp
    | cons a l => exact ⟨_, _, rfl⟩
  · have : (rwD b.2).depth ≤ 1 := by
      show PyData.depth (.tuple (b.2.map .int)) ≤ 1
      rw [PyData.depth]
      have : ∀ ns : List Int, PyData.depthAll (ns.map .int) = 0 := fun ns => by
        induction ns with
        | nil => rw [List.map_nil, PyData.depthAll]
        | cons x ns ih => rw [List.map_cons, PyData.depthAll, ih, PyData.depth]; rfl
      rw [this]
      exact Nat.le_refl _
    simp only [Around.in1_units]
    omega
  · obtain ⟨c, hc⟩ := sortedHeap_at (vs := L1.map fun q => Value.ref q.1) (out := out.toArray) hoL
    refine wpAny_pure ⟨_, rfl, hQ _ s1.heap.objs.size out c (inRows L1) (fun b u e => ?_) g1 o1 hz hc (refs_each oe) ((List.mergeSort_perm _ _).trans p1) (inRows_asc L1)⟩
    have q := k1 b u e
    have lt := Heap.lt_size q
    show (sortedHeap (s1.heap.push (seqObj "list" (L1.map fun q => Value.ref q.1).toArray 0)) s1.heap.objs.size _ out.toArray).get? b = some u
    rw [sortedHeap_old (Nat.ne_of_lt lt) (by rw [size_push']; exact Nat.lt_succ_of_lt lt)]
    exact Heap.get?_push_of_some _ q
end
end DL.Ts
set_option maxRecDepth 100000
set_option maxHeartbeats 2000000
/-! sorted(set(rows)), up to 76 unlike rows: the rules, the reading -/
namespace DL
open PySem PySem.Spec L2 LamX DL.Ts
/-- the set at a, without the tuples themselves -/
def SB0 (P : Program) (w : World) (a : Addr) (L : List (Addr × List Int)) (h : Heap) : Prop := ∃ (es : Array (Int × Value)) (ep : Nat) (t : SetTable), (∃ o, h.get? a = some o ∧ o.ExactSet ∧ o.data = .set es ep t) ∧ es.toList = rowsOf P w L ∧ TabOk t (L.map fun p => thash P w p.2) ∧ (L.map (·.2)).Nodup ∧
  t.plain = true ∧ (w.params.followText "set-order" = true ∨ t.led = true) ∧ L.length * 5 < t.mask * 3
def SetBO (P : Program) (w : World) (a : Addr) (L : List (Addr × List Int)) : HO := .ext (SB0 P w a L)
theorem setBO_new {P : Program} {w : World} {H : Hp} {h : Heap} {a : Addr} {L : List (Addr × List Int)} (R : SB0 P w a L h) : ObjOk P w H h a (SetBO P w a L) := by
  have ⟨_, _, _, ⟨o, ho, _⟩, _⟩ := R
  exact ⟨R, ⟨o, ho⟩, fun h1 h2 p k => by
    obtain ⟨es, ep, t, ⟨o, ho, r⟩, q⟩ := p
    exact ⟨es, ep, t, ⟨o, k o ho, r⟩, q⟩⟩
def rSetB (K : PySem.W.Frag) (P : Program) (w : World) : List V → Hp → VK → Prop := fun xs H Q => ∃ (l : Addr) (ks : List (Addr × List Int)), xs = [V.ref l] ∧ SqL K H l (ks.map fun p => V.ref p.1) ∧ (∀ p ∈ ks, SqT K H p.1 (p.2.map V.int)) ∧ Few ks ∧
  ∀ a L, H a = none → (∀ p ∈ L, p ∈ ks) → (∀ p ∈ ks, p.2 ∈ L.map (·.2)) → Q (.ref a) (upd H a (SetBO P w a L))
section
variable {K : PySem.W.Frag} {T : Tb} {E0 B O : As} {σ : L2.St} {ρ ρ1 ρ2 : DEnv} {H H1 : Hp} {vs us : List V} {v : V} {X : Cx} {e : Expr} {pos p p2 q : Pos}
theorem cr_setB (hc : X.calm = true) (hu : X.A.units + 64 < cLine) : CallR X (.type "set") (rSetB X.K X.prog X.w) := by
  intro pins s σ H xs us Q I r h
  obtain ⟨l, ks, rfl, hl, hk, hf, q⟩ := h
  rw [Vals.ref1 r]
  obtain ⟨its, rv, pl, hz⟩ := I.list hl
  have hn : H s.heap.objs.size = none := I.hok.fresh (Nat.le_refl _)
  refine made (P := X.prog) (w := X.w) (ks := ks) (I.ok.hd hc) pl.isList (by simpa using refs_of_vals rv) (fun p hp => I.isT (hk p hp)) hf (by omega) fun h' tk At => ?_
  obtain ⟨L, es, ep, t, R, g⟩ := At.set
  refine ⟨.ref s.heap.objs.size, upd H s.heap.objs.size (SetBO X.prog X.w s.heap.objs.size L), I.laid (t' := tk) At.old (Nat.le_refl _) (setBO_new ⟨es, ep, t, R.ob, R.rows, R.tab, R.nd, R.plain, R.led, R.room⟩), rfl, q _ L hn (fun p hp => ?_) fun p hp => ?_⟩
  · exact List.mem_of_mem_take (g.sub p hp)
  · exact g.all p (by rw [List.take_length]; exact hp)
def rSortedB (K : PySem.W.Frag) (P : Program) (w : World) : List V → Hp → VK → Prop := fun vs H Q => ∃ (a : Addr) (L : List (Addr × List Int)), vs = [V.ref a] ∧ H a = some (SetBO P w a L) ∧ (∀ p ∈ L, SqT K H p.1 (p.2.map V.int)) ∧ (∀ p ∈ L, p.2 ≠ []) ∧
  ∀ (L' : List (Addr × List Int)) (p : Addr), L'.Perm L → (L'.map (·.2)).Nodup → (L'.map (·.2)).Pairwise (fun x y => ¬ y < x) → H p = none → Q (.ref p) (upd H p (.lst (L'.map fun q => V.ref q.1)))
theorem cr_sortedB (hc : X.calm = true) (hu : X.A.units + 64 < cLine) : CallR X (.builtin "sorted") (rSortedB X.K X.prog X.w) := by
  intro pins s σ H vs us Q I r h
  obtain ⟨a, L, rfl, ha, hk, hne, q⟩ := h
  obtain ⟨es, ep, t, h1, h2, h3, h4, h5, h6, h7⟩ := (show SB0 X.prog X.w a L s.heap from (I.hok a _ ha).1)
  have R : SB X.prog X.w s.heap a L es ep t := ⟨h1, h2, h3, h4, fun p hp => I.isT (hk p hp), h5, h6, h7⟩
  have few : L.length ≤ 76 := by rcases h3.mok with e | e | e <;> omega
  rw [Vals.ref1 r]
  refine sortedB R (I.ok.hd hc) (by omega) hne fun s' p out c L' k g o hp hg hout pm pw => ?_
  have hlen : (L'.map fun q => V.ref q.1).length ≤ sizeLine := by rw [List.length_map, pm.length_eq, sizeLine_eq]; omega
  have hn : H p = none := I.hok.fresh hp
  have hv : Vals (L'.map fun q => V.ref q.1) out := by rw [hout]; exact vals_of_refs L'
  have J : Inv X pins σ (upd H p (.lst (L'.map fun q => V.ref q.1))) { s with heap := s'.heap, gens := s'.gens, drawn := s'.drawn, toks := s'.toks } :=
    I.call (ch := []) (Un.laid k hp hn) (I.hok.laid k hp ⟨hlen, out, c, hv, hg⟩) (by rw [g]; exact I.bare) (fun _ z => nomatch z)
  have e : s' = { s with heap := s'.heap, gens := s'.gens, drawn := s'.drawn, toks := s'.toks } := by
    cases s'
    cases s
    cases o
    rfl
  rw [e]
  exact ⟨.ref p, _, J, rfl, q L' p pm ((pm.map (·.2)).nodup_iff.mpr h4) pw hn⟩
/-! ### sorted(set(rows)) -/
def RowsB (rows : List (List Int)) : Prop := (∀ r ∈ rows, r ≠ []) ∧ ∀ l : List (List Int), l.Nodup → (∀ r ∈ l, r ∈ rows) → l.length ≤ 76
def wSortBig (wa : WA) : WE := fun ρ Q => wa ρ fun rs ρ1 => looksK ρ1 rs fun ds => oneK ds fun d => lstK d fun xs => ∃ rows : List (List Int), xs = rows.map rwD ∧ RowsB rows ∧ Q (.new (.lst ((usort rows).map rwD))) ρ1
theorem d_sortBig {wa : WA} (hs : X.mg "sorted" = none) (hse : X.mg "set" = none) (hc : X.calm = true) (hu : X.A.units + 64 < cLine) (ha : PA X [e] (tA X.K T wa)) (hg : Gl X "sorted" := by rfl) (hg2 : Gl X "set" := by rfl)
    (he : starEach [.Call (.Name "set" p2) [e] [] q] X.env = (false, eval (.Call (.Name "set" p2) [e] [] q) X.env) :: starEach [] X.env := by rfl) (he2 : starEach [e] X.env = (false, eval e X.env) :: starEach [] X.env := by rfl)
    (hpl : (backTo pos (starEach [] X.env)).any (·.1) = false := by rfl) (hpl2 : (backTo q (starEach [] X.env)).any (·.1) = false := by rfl) :
    PE X (.Call (.Name "sorted" p) [.Call (.Name "set" p2) [e] [] q] [] pos) (tE X.K T (wSortBig wa)) :=
  (pe_callB (cr_sortedB hc hu) hg hs PyProof.Rows.boot_sorted (pa_cons (pe_callTy (cr_setB hc hu) hg2 hse (by decide +kernel) ha (by decide) (by decide) he2 hpl2) pa_nil he) (by decide) (by decide) he hpl).imp fun σ H Q h => by
    obtain ⟨E0, B, ρ, Qd, er, tb, hw, k⟩ := h
    refine ⟨E0, B, ρ, _, er, tb, hw, fun xs H1 rs ρ1 q A => ?_⟩
    obtain ⟨ds, rb, q⟩ := A.look1 q
    obtain ⟨v, d, ex, hd, q⟩ := one_inv rb q
    cases d with
    | list ys =>
      obtain ⟨rows, ey, ⟨hne, hf⟩, qq⟩ := (show ∃ rows : List (List Int), ys = rows.map rwD ∧ RowsB rows ∧ _ from q)
      obtain ⟨l, ws, ev, h1, h2⟩ := hd.lst
      subst ey
      obtain ⟨ks, e1, e2, h3⟩ := rows_rpl h2
      subst e1
      refine ⟨l, ks, by rw [ex, ev], h1, fun p hp => (h3 p hp).sq, fun L nd sub => ?_, fun a L hna s1 s2 => ?_⟩
      · have := hf (L.map (·.2)) nd fun r hr => by
          obtain ⟨p, hp, rfl⟩ := List.mem_map.mp hr
          rw [← e2]
          exact List.mem_map.mpr ⟨p, sub p hp, rfl⟩
        rw [List.length_map] at this
        exact this
      have A2 := A.toNil (Same.upd (o := SetBO X.prog X.w a L) hna) (Fre.upd _ _ _)
      have mem : ∀ z, z ∈ L.map (·.2) ↔ z ∈ rows := fun z => by
        rw [← e2]
        constructor
        · intro hz; obtain ⟨p, hp, e⟩ := List.mem_map.mp hz; exact List.mem_map.mpr ⟨p, s1 p hp, e⟩
        · intro hz; obtain ⟨p, hp, e⟩ := List.mem_map.mp hz; rw [← e]; exact s2 p hp
      have sq : ∀ p ∈ L, SqP X.K (upd H1 a (SetBO X.prog X.w a L)) p.1 (p.2.map V.int) := fun p hp => sqp_same (Same.upd hna) (h3 p (s1 p hp))
      refine ⟨a, L, rfl, upd_same, fun p hp => (sq p hp).sq, fun p hp => hne p.2 ((mem p.2).mp (List.mem_map.mpr ⟨p, hp, rfl⟩)), fun L' l' pm nd pw hnl => ?_⟩
      have es : (L'.map (·.2)) = usort rows := by
        refine (usort_of ?_ fun z => ((pm.map (·.2)).mem_iff.trans (mem z))).symm
        exact (pw.and nd).imp fun {x y} z => by
          rcases lt_tot x y with g | g | g
          · exact g
          · exact absurd g z.2
          · exact absurd g z.1
      refine k _ _ _ ρ1 qq (A2.op (dv := .new (.lst _)) (Same.upd hnl) (Fre.upd _ _ _) (opaft_lst A2.obx hnl ?_))
      rw [← es]
      exact rpl_rows fun p hp => sq p (pm.mem_iff.mp hp)
    | _ => exact (show False from q).elim
end
end DL
set_option maxRecDepth 100000
set_option maxHeartbeats 2000000
/-! all orders of a list: the iterator of the module itertools -/
namespace DL.Pm
open PySem PySem.Spec L2 LamX PyProof.Rows
theorem p_mro : mroOf (.type "itertools.permutations") = pure [.type "itertools.permutations", .type "object"] := by rw [mroOf_type]; kernel_rfl
theorem p_new : typeLookup (.type "itertools.permutations") "__new__" = pure (some (.builtin "itertools.permutations.__new__")) := by rw [typeLookup_type, builtinLookup_eq_fast]; kernel_rfl
theorem p_init : Slot "itertools.permutations" "__init__" "object.__init__" :=
  .of (owner := "object") (n := "__init__") (by rw [typeLookup_type, builtinLookup_eq_fast]; kernel_rfl) (by decide +kernel) (by decide +kernel) (by decide +kernel)
    (by first | exact .inl (by decide +kernel) | exact .inr (by decide +kernel)) (by rw [isSubtype_type]; kernel_rfl)
theorem p_sub : isSubtype (.type "itertools.permutations") (.type "itertools.permutations") = pure true := by rw [isSubtype_type]; kernel_rfl
theorem p_called : TypeCalled "itertools.permutations" "itertools.permutations.__new__" "object.__init__" :=
  ⟨by decide +kernel, by decide +kernel, ⟨_, _, p_mro⟩, madeBy_type p_mro p_new (by decide +kernel), by decide +kernel, p_sub, p_init⟩
theorem p_tc (a : Value) : checkTypeCall "itertools.permutations" ⟨[a], []⟩ = pure () := by kernel_rfl
theorem p_nc (a : Value) : checkBuiltinCall "itertools.permutations.__new__" ⟨[.type "itertools.permutations", a], []⟩ = pure () := by kernel_rfl
theorem p_enew : entryFor table "itertools.permutations.__new__" = some Builtin.«itertools.permutations.__new__» := entryFor_of_tree (by kernel_rfl)
theorem p_iter : Slot "itertools.permutations" "__iter__" "itertools.permutations.__iter__" :=
  .of (owner := "itertools.permutations") (n := "__iter__") (by rw [typeLookup_type, builtinLookup_eq_fast]; kernel_rfl) (by decide +kernel) (by decide +kernel) (by decide +kernel)
    (by first | exact .inl (by decide +kernel) | exact .inr (by decide +kernel)) p_sub
theorem p_next : Slot "itertools.permutations" "__next__" "itertools.permutations.__next__" :=
  .of (owner := "itertools.permutations") (n := "__next__") (by rw [typeLookup_type, builtinLookup_eq_fast]; kernel_rfl) (by decide +kernel) (by decide +kernel) (by decide +kernel)
    (by first | exact .inl (by decide +kernel) | exact .inr (by decide +kernel)) p_sub
theorem p_eiter : entryFor table "itertools.permutations.__iter__" = some Builtin.«dict_keyiterator.__iter__» :=
  entryFor_alias (id' := "dict_keyiterator.__iter__") (by kernel_rfl) (by first | rfl | decide +kernel | (unfold String.splitOn; simp +decide [String.splitOnAux])) (by decide +kernel) (by kernel_rfl)
theorem p_enext : entryFor table "itertools.permutations.__next__" = some Builtin.«itertools.permutations.__next__» := entryFor_of_tree (by kernel_rfl)
theorem p_owner : Manifest.owners.lookup (String.ofList ("itertools.permutations".toList.reverse).reverse) = some Manifest.sig_itertools_permutations := by kernel_rfl
theorem p_aiter (a : Value) : argsOk "itertools.permutations.__iter__" ⟨[a], []⟩ := by
  unfold argsOk
  rw [signature?_of (id := "itertools.permutations.__iter__") (n := "__iter__".toList.reverse) (o := "itertools.permutations".toList.reverse) (by kernel_rfl) p_owner]; kernel_rfl
theorem p_anext (a : Value) : argsOk "itertools.permutations.__next__" ⟨[a], []⟩ := by
  unfold argsOk
  rw [signature?_of (id := "itertools.permutations.__next__") (n := "__next__".toList.reverse) (o := "itertools.permutations".toList.reverse) (by kernel_rfl) p_owner]; kernel_rfl
theorem p_nodict : typeHasDict (.type "itertools.permutations") = false := by decide +kernel
/-- the iterator: pool, flag, how many places, what was handed out last, the numbers -/
def IsPm (h : Heap) (it pool : Addr) (flag : Int) (n : Nat) (last : Value) (nums : List Nat) : Prop :=
  h.get? it = some { cls := .type "itertools.permutations", dict := none, data := .fields ([.ref pool, rawInt flag, rawInt n, last] ++ nums.map fun (i : Nat) => rawInt i).toArray, slots := #[] }
section
variable {prog : Program} {w : World} {A : Around} {E : Value → Shared → Prop} {s : Shared}
theorem pm_iter {it pool : Addr} {flag : Int} {n : Nat} {last : Value} {nums : List Nat} {Q : Value → Shared → Prop} (hit : IsPm s.heap it pool flag n last nums) (h : Q (.ref it) s) : wpAny (model prog w) A (pyIter (.ref it)) Q E s := by
  have hT : s.TypeIs (.ref it) "itertools.permutations" := ⟨_, hit, rfl⟩
  refine wpAny_pyIter_slot hT p_iter (wpAny_call_entry p_iter hT p_eiter ?_ (p_aiter _))
  show wpAny _ _ (ret (.ref it)) _ _ s
  exact wpAny_pure ⟨_, rfl, "itertools.permutations", _, hT, p_next.lookup, h⟩
theorem gp {h : Heap} {o : Obj} {a : Addr} (ha : a = h.objs.size) (hf : o.isFreed = false) : (h.push o).get? a = some o := by
  subst ha
  exact Heap.get?_push_size _ hf
theorem p_bind (v : Value) : Builtin.Itertools.itBindNamed "permutations" ["iterable", "r"] 1 2 [v] [] = pure [some v, none] := by kernel_rfl
theorem pm_meets (l : Addr) (vs : List Value) (hz : vs.length ≤ 20) : Meets (Builtin.«itertools.permutations.__new__» ⟨[.type "itertools.permutations", .ref l], []⟩)
    (fun _ R s => s.heap.IsList l vs.toArray ∧ ∀ h', h'.get? (s.heap.objs.size + 1) = some { cls := .type "tuple", data := .seq vs.toArray } → IsPm h' (s.heap.objs.size + 2) (s.heap.objs.size + 1) 0 vs.length .none (List.range vs.length ++ (List.range vs.length).map fun i => vs.length - i) →
      (∀ b o, s.heap.get? b = some o → h'.get? b = some o) → R (.ok (.ret (.ref (s.heap.objs.size + 2)))) { s with heap := h' }) :=
  .of_wp fun prog w A R s h => by
    obtain ⟨hl, h⟩ := h
    have hsub := p_sub
    have hd := p_nodict
    unfold Builtin.«itertools.permutations.__new__»
    repeat (first
      | wp_step
      | simp only [List.head?_cons, Option.some_or, List.getElem?_cons_succ, List.getElem?_cons_zero, List.length_cons, List.length_nil, List.forIn_nil])
    rw [show (Value.type ("itertools." ++ "permutations")) = Value.type "itertools.permutations" from rfl, hsub]
    refine wpAny_pure ?_
    rw [if_neg (by decide)]
    refine wpAny_pure ?_
    refine wpAny_bind (m := Builtin.Itertools.itBindNamed "permutations" ["iterable", "r"] 1 2 [.ref l] []) ?_
    rw [p_bind]
    refine wpAny_pure ?_
    refine wpAny_bind (m := collect (.ref l)) (collect_list hl ?_ (by have : sizeLine = sizeLine := rfl; rw [sizeLine_eq]; omega))
    show wpAny _ _ (pure ((vs.length : Nat) : Int) >>= _) _ _ _
    refine wpAny_bind (wpAny_pure ?_)
    rw [if_neg (by omega), if_neg (by unfold Builtin.Itertools.itTooMany; simp; omega)]
    refine wpAny_bind (wpAny_newTuple ?_ (by have : sizeLine = sizeLine := rfl; rw [sizeLine_eq]; omega))
    refine wpAny_bind (m := Builtin.Itertools.itNewRecord _ _) ?_
    unfold Builtin.Itertools.itNewRecord
    show wpAny _ _ (if (!typeHasDict (.type "itertools.permutations")) = true then _ else _) _ _ _
    rw [hd, if_pos (by decide)]
    have e1 : (List.range ((vs.length : Nat) : Int).toNat).map (fun (i : Nat) => rawInt (((vs.length : Nat) : Int) - i)) = ((List.range vs.length).map fun i => vs.length - i).map fun (i : Nat) => rawInt i := by
      rw [List.map_map, Int.toNat_natCast]
      refine List.map_congr_left fun i hi => ?_
      have := List.mem_range.mp hi
      show rawInt _ = rawInt _
      rw [show ((vs.length : Nat) : Int) - (i : Int) = ((vs.length - i : Nat) : Int) by omega]
    rw [e1, Int.toNat_natCast, if_neg (Nat.lt_irrefl _)]
    have z1 : ((s.heap.push (seqObj "list" #[] 0)).update s.heap.objs.size (Obj.mapSeq (· ++ vs.toArray))).objs.size = s.heap.objs.size + 1 := by rw [Heap.size_update, Heap.size_push]
    refine wpAny_newObj_type (T := "itertools.permutations") ?_ (by show _ ≤ _; simp; rw [sizeLine_eq]; omega)
    refine wpAny_pure ⟨_, rfl, ?_⟩
    have key : ∀ a b, a = s.heap.objs.size + 2 → b = s.heap.objs.size + 1 → R (.ok (.ret (.ref a))) { s with heap := (((s.heap.push (seqObj "list" #[] 0)).update s.heap.objs.size (Obj.mapSeq (· ++ vs.toArray))).push { cls := .type "tuple", data := .seq vs.toArray }).push { cls := .type "itertools.permutations", dict := none, data := .fields ([.ref b, rawInt 0, rawInt ((vs.length : Nat) : Int), .none] ++ (List.range vs.length).map (fun (i : Nat) => rawInt i) ++ ((List.range vs.length).map fun i => vs.length - i).map fun (i : Nat) => rawInt i).toArray } } := by
      intro a b ea eb
      subst ea eb
      refine h _ ?_ ?_ ?_
      · exact Heap.get?_push_of_some _ (gp z1.symm rfl)
      · unfold IsPm
        rw [gp (by rw [Heap.size_push, z1]) rfl]
        simp only [List.map_append, List.append_assoc, List.cons_append, List.nil_append]
      · intro b o q
        refine Heap.get?_push_of_some _ (Heap.get?_push_of_some _ ?_)
        rw [Heap.get?_update_ne _ _ _ _ (Nat.ne_of_lt (Heap.lt_size q))]
        exact Heap.get?_push_of_some _ q
    exact key _ _ (by show Array.size _ = _; rw [Heap.size_push, z1]) z1
end
end DL.Pm
set_option maxRecDepth 100000
set_option maxHeartbeats 2000000
/-! all orders of a list: the next one -/
namespace DL.Pm
open PySem PySem.Spec L2 LamX PyProof.Rows
abbrev NP := Nat → Nat → List Nat → List Nat → Option (List Nat × List Nat)
theorem nums_back (a b c d : Value) (nums : List Nat) (f : Value → Nat) (hf : ∀ i : Nat, f (rawInt i) = i) :
    List.map f (List.drop 4 ([a, b, c, d] ++ nums.map fun (i : Nat) => rawInt i).toArray.toList) = nums := by
  show List.map f (nums.map fun (i : Nat) => rawInt i) = nums
  rw [List.map_map]
  conv => rhs; rw [← List.map_id nums]
  exact List.map_congr_left fun i _ => hf i
/-- the tuple of the items at the places of ix -/
def tupAt (us : List Value) (ix : List Nat) : Obj := { cls := .type "tuple", data := .seq (ix.map fun i => us.toArray.getD i .none).toArray }
section
variable {prog : Program} {w : World} {A : Around} {E : Value → Shared → Prop} {s : Shared}
theorem pm_result {it pool : Addr} {n : Nat} {last : Value} {nums ix : List Nat} {us : List Value} {Q : Fin → Shared → Prop} (hit : IsPm s.heap it pool 1 n last nums) (hz : ix.length ≤ 20)
    (hQ : ∀ h', IsPm h' it pool 1 n (.ref s.heap.objs.size) nums → h'.get? s.heap.objs.size = some (tupAt us ix) →
      (∀ b o, b ≠ it → s.heap.get? b = some o → h'.get? b = some o) → Q (.done (.ret (.ref s.heap.objs.size))) { s with heap := h' }) :
    wpAny (model prog w) A (do
      let t ← newTuple (ix.map fun i => us.toArray.getD i .none)
      let before ← field (Value.ref it) 3
      setField (Value.ref it) 3 t
      letGo [before] [t]
      ret t) Q E s := by
  have hl : it < s.heap.objs.size := Heap.lt_size hit
  refine wpAny_bind (wpAny_newTuple ?_ (by rw [sizeLine_eq]; simp; omega))
  have hit2 : IsPm (s.heap.push (tupAt us ix)) it pool 1 n last nums := Heap.get?_push_of_some _ hit
  refine wpAny_bind (wpAny_field hit2 rfl (x := last) rfl ?_)
  refine wpAny_bind (wpAny_setField hit2 rfl (by simp) ?_)
  refine wpAny_bind (wpAny_letGo (wpAny_pure ?_))
  refine hQ _ (Heap.get?_update_self _ hit2 rfl) ?_ fun b o hb q => ?_
  · rw [Heap.get?_update_ne _ _ _ _ (Nat.ne_of_gt hl)]
    exact gp rfl rfl
  · rw [Heap.get?_update_ne _ _ _ _ hb]
    exact Heap.get?_push_of_some _ q
theorem pm_first {it pool : Addr} {n : Nat} {last : Value} {nums : List Nat} {us : List Value} {Q : Option Value → Shared → Prop} (hit : IsPm s.heap it pool 0 n last nums)
    (hp : s.heap.get? pool = some { cls := .type "tuple", data := .seq us.toArray }) (hz : n ≤ 20)
    (hQ : ∀ h', IsPm h' it pool 1 n (.ref s.heap.objs.size) nums → h'.get? s.heap.objs.size = some (tupAt us (nums.take n)) →
      (∀ b o, b ≠ it → s.heap.get? b = some o → h'.get? b = some o) → Q (some (.ref s.heap.objs.size)) { s with heap := h' }) :
    wpAny (model prog w) A (callSpecial? (.ref it) "__next__") Q E s := by
  have hT : s.TypeIs (.ref it) "itertools.permutations" := ⟨_, hit, rfl⟩
  refine wpAny_callSpecial?_slot (name := Str.ofString "__next__") hT p_next (wpAny_call_entry p_next hT p_enext ?_ (p_anext _))
  show wpAny _ _ (field (.ref it) 0 >>= _) _ _ s
  refine wpAny_bind (wpAny_field hit rfl (x := .ref pool) rfl ?_)
  unfold Builtin.Itertools.itPoolItems
  refine wpAny_bind (wpAny_bind (wpAny_seqItems hp rfl (wpAny_pure ?_)))
  unfold Builtin.Itertools.itIntField
  refine wpAny_bind (wpAny_bind (wpAny_field hit rfl (x := rawInt n) rfl (wpAny_pure ?_)))
  unfold Builtin.Itertools.itNumbersFrom
  refine wpAny_bind (m := load it >>= _) (wpAny_bind (wpAny_load hit (wpAny_pure ?_)))
  rw [nums_back _ _ _ _ nums _ fun i => Int.toNat_natCast i, Int.toNat_natCast]
  dsimp only
  refine wpAny_bind (wpAny_bind (wpAny_field hit rfl (x := rawInt 0) rfl (wpAny_pure ?_)))
  refine wpAny_bind (wpAny_setField hit rfl (by simp) ?_)
  have hs : (s.heap.update it (Obj.mapFields fun x => x.setIfInBounds 1 (rawInt 1))).objs.size = s.heap.objs.size := Heap.size_update _ _ _
  refine pm_result (last := last) (nums := nums) (pool := pool) (n := n) (Heap.get?_update_self _ hit rfl) (by simp; omega) ?_
  rw [hs]
  exact fun h' a b c => ⟨_, rfl, hQ h' a b fun x o hx q => c x o hx ((Heap.get?_update_ne _ _ _ _ hx).trans q)⟩
/-- the next one: the law of the library's private step, whose name cannot be written here -/
theorem pm_step : ∃ c : NP, (∀ n ix cy, c n 0 ix cy = none) ∧
    (∀ n i ix cy, c n (i + 1) ix cy = if (cy.getD i 0 - 1 == 0) = true then c n i (ix.take i ++ ix.drop (i + 1) ++ [ix.getD i 0]) (cy.set i (n - i)) else some ((ix.set i (ix.getD (n - (cy.getD i 0 - 1)) 0)).set (n - (cy.getD i 0 - 1)) (ix.getD i 0), cy.set i (cy.getD i 0 - 1))) ∧
    (∀ (prog : Program) (w : World) (A : Around) (E : Value → Shared → Prop) (s : Shared) (it pool : Addr) (n : Nat) (last : Value) (ix cy ix2 cy2 : List Nat) (us : List Value) (Q : Option Value → Shared → Prop), IsPm s.heap it pool 1 n last (ix ++ cy) →
      s.heap.get? pool = some { cls := .type "tuple", data := .seq us.toArray } → us.length = n → n ≤ 20 → ix.length = n → ix2.length = n → cy.length = n → cy2.length = n → c n n ix cy = some (ix2, cy2) →
      (∀ h', IsPm h' it pool 1 n (.ref s.heap.objs.size) (ix2 ++ cy2) → h'.get? s.heap.objs.size = some (tupAt us ix2) →
        (∀ b o, b ≠ it → s.heap.get? b = some o → h'.get? b = some o) → Q (some (.ref s.heap.objs.size)) { s with heap := h' }) →
      wpAny (model prog w) A (callSpecial? (.ref it) "__next__") Q E s) ∧
    ∀ (prog : Program) (w : World) (A : Around) (E : Value → Shared → Prop) (s : Shared) (it pool : Addr) (n : Nat) (last : Value) (ix cy : List Nat) (us : List Value) (Q : Option Value → Shared → Prop), A.handled = none → IsPm s.heap it pool 1 n last (ix ++ cy) →
      s.heap.get? pool = some { cls := .type "tuple", data := .seq us.toArray } → us.length = n → n ≤ 20 → ix.length = n → cy.length = n → c n n ix cy = none →
      (∀ e h', CpRep.StopE e h' → (∀ b o, b ≠ it → s.heap.get? b = some o → h'.get? b = some o) → E e { s with heap := h' }) →
      wpAny (model prog w) A (callSpecial? (.ref it) "__next__") Q E s := by
  apply Exists.intro
  refine ⟨?e1, ?e2, ?wk, ?wn⟩
  case wk =>
    intro prog w A E s it pool n last ix cy ix2 cy2 us Q hit hp hu hz h1 h2 h3 h4 hc hQ
    have hT : s.TypeIs (.ref it) "itertools.permutations" := ⟨_, hit, rfl⟩
    refine wpAny_callSpecial?_slot (name := Str.ofString "__next__") hT p_next (wpAny_call_entry p_next hT p_enext ?_ (p_anext _))
    show wpAny _ _ (field (.ref it) 0 >>= _) _ _ s
    refine wpAny_bind (wpAny_field hit rfl (x := .ref pool) rfl ?_)
    unfold Builtin.Itertools.itPoolItems
    refine wpAny_bind (wpAny_bind (wpAny_seqItems hp rfl (wpAny_pure ?_)))
    unfold Builtin.Itertools.itIntField
    refine wpAny_bind (wpAny_bind (wpAny_field hit rfl (x := rawInt n) rfl (wpAny_pure ?_)))
    unfold Builtin.Itertools.itNumbersFrom
    refine wpAny_bind (m := load it >>= _) (wpAny_bind (wpAny_load hit (wpAny_pure ?_)))
    rw [nums_back _ _ _ _ _ _ fun i => Int.toNat_natCast i, Int.toNat_natCast]
    dsimp only
    refine wpAny_bind (wpAny_bind (wpAny_field hit rfl (x := rawInt 1) rfl (wpAny_pure ?_)))
    have es : us.toArray.size = n := by simp [hu]
    rw [es, List.take_left' h1, List.drop_left' h1]
    split
    · rename_i heq
      exact absurd heq (by decide)
    · split
      · rename_i ix' cy' heq
        have e := heq.symm.trans hc
        have e1 : ix' = ix2 := congrArg Prod.fst (Option.some.inj e)
        have e2 : cy' = cy2 := congrArg Prod.snd (Option.some.inj e)
        subst e1 e2
        unfold Builtin.Itertools.itSetNumbersFrom
        refine wpAny_bind (m := updateFields it _) (wpAny_updateFields hit rfl ?_ (by rw [sizeLine_eq]; simp; omega))
        rw [List.take_of_length_le (Nat.le_of_eq h2)]
        have hs : (s.heap.update it (Obj.mapFields fun fs => fs.extract 0 4 ++ (List.map (fun (n : Nat) => rawInt n) (ix' ++ cy')).toArray)).objs.size = s.heap.objs.size := Heap.size_update _ _ _
        refine pm_result (last := last) (nums := ix' ++ cy') (pool := pool) (n := n) ?_ (by omega) ?_
        · refine (Heap.get?_update_self _ hit rfl).trans ?_
          simp [Obj.mapFields]
        · rw [hs]
          exact fun h' a b c => ⟨_, rfl, hQ h' a b fun x o hx q => c x o hx ((Heap.get?_update_ne _ _ _ _ hx).trans q)⟩
      · rename_i heq
        have e := heq.symm.trans hc
        cases e
    · rename_i heq
      exact absurd rfl heq
  case wn =>
    intro prog w A E s it pool n last ix cy us Q hh hit hp hu hz h1 h3 hc hQ
    have hT : s.TypeIs (.ref it) "itertools.permutations" := ⟨_, hit, rfl⟩
    refine wpAny_callSpecial?_slot (name := Str.ofString "__next__") hT p_next (wpAny_call_entry p_next hT p_enext ?_ (p_anext _))
    show wpAny _ _ (field (.ref it) 0 >>= _) _ _ s
    refine wpAny_bind (wpAny_field hit rfl (x := .ref pool) rfl ?_)
    unfold Builtin.Itertools.itPoolItems
    refine wpAny_bind (wpAny_bind (wpAny_seqItems hp rfl (wpAny_pure ?_)))
    unfold Builtin.Itertools.itIntField
    refine wpAny_bind (wpAny_bind (wpAny_field hit rfl (x := rawInt n) rfl (wpAny_pure ?_)))
    unfold Builtin.Itertools.itNumbersFrom
    refine wpAny_bind (m := load it >>= _) (wpAny_bind (wpAny_load hit (wpAny_pure ?_)))
    rw [nums_back _ _ _ _ _ _ fun i => Int.toNat_natCast i, Int.toNat_natCast]
    dsimp only
    refine wpAny_bind (wpAny_bind (wpAny_field hit rfl (x := rawInt 1) rfl (wpAny_pure ?_)))
    have es : us.toArray.size = n := by simp [hu]
    rw [es, List.take_left' h1, List.drop_left' h1]
    split
    · rename_i heq
      exact absurd heq (by decide)
    · split
      · rename_i ix' cy' heq
        have e := heq.symm.trans hc
        cases e
      · refine wpAny_bind (wpAny_setField hit rfl (by simp) ?_)
        unfold Builtin.Itertools.itStop
        show wpAny _ _ (newExc (.type "StopIteration") [] >>= _) _ _ _
        refine wpAny_bind ?_
        simp only [newExc, newTuple]
        refine wpAny_bind (wpAny_newObj_type ?_ (by size_fits))
        refine wpAny_bind (m := firstArgMember _ _) (wpAny_of_eq (a := Value.none) (by first | rfl | (simp only [firstArgMember]; rfl)) ?_)
        refine wpAny_newObj_type ?_ (by size_fits)
        simp only [raiseNew]
        refine wpAny_bind (wpAny_handled ?_)
        first | rw [show A.in1.handled = none from hh] | rw [hh]
        refine wpAny_bind (wpAny_pure (wpAny_throw ?_))
        refine hQ _ _ ⟨_, _, _, rfl, Heap.get?_push_size _ rfl, rfl, rfl, rfl⟩ fun b o hb q => ?_
        exact Heap.get?_push_of_some _ (Heap.get?_push_of_some _ ((Heap.get?_update_ne _ _ _ _ hb).trans q))
    · rename_i heq
      exact absurd rfl heq
  case e1 => intro n ix cy; rfl
  case e2 => intro n i ix cy; rfl
/-- the next order and its counters -/
def npx (n : Nat) : Nat → List Nat → List Nat → Option (List Nat × List Nat)
  | 0, _, _ => none
  | i + 1, ix, cy => match cy.getD i 0 - 1 with
    | 0 => npx n i (ix.take i ++ ix.drop (i + 1) ++ [ix.getD i 0]) (cy.set i (n - i))
    | k + 1 => some ((ix.set i (ix.getD (n - (k + 1)) 0)).set (n - (k + 1)) (ix.getD i 0), cy.set i (k + 1))
theorem np_eq {c : NP} (h0 : ∀ n ix cy, c n 0 ix cy = none)
    (h1 : ∀ n i ix cy, c n (i + 1) ix cy = if (cy.getD i 0 - 1 == 0) = true then c n i (ix.take i ++ ix.drop (i + 1) ++ [ix.getD i 0]) (cy.set i (n - i)) else some ((ix.set i (ix.getD (n - (cy.getD i 0 - 1)) 0)).set (n - (cy.getD i 0 - 1)) (ix.getD i 0), cy.set i (cy.getD i 0 - 1))) (n : Nat) :
    ∀ i ix cy, c n i ix cy = npx n i ix cy
  | 0, ix, cy => h0 ..
  | i + 1, ix, cy => by
    rw [h1]
    unfold npx
    cases e : cy.getD i 0 - 1 with
    | zero => simp only [beq_self_eq_true, if_true]; exact np_eq h0 h1 n i _ _
    | succ k => rw [if_neg (by simp)]
theorem pm_item {it pool : Addr} {n : Nat} {last : Value} {ix cy ix2 cy2 : List Nat} {us : List Value} {Q : Option Value → Shared → Prop} (hit : IsPm s.heap it pool 1 n last (ix ++ cy))
    (hp : s.heap.get? pool = some { cls := .type "tuple", data := .seq us.toArray }) (hu : us.length = n) (hz : n ≤ 20) (h1 : ix.length = n) (h2 : ix2.length = n) (h3 : cy.length = n) (h4 : cy2.length = n) (hc : npx n n ix cy = some (ix2, cy2))
    (hQ : ∀ h', IsPm h' it pool 1 n (.ref s.heap.objs.size) (ix2 ++ cy2) → h'.get? s.heap.objs.size = some (tupAt us ix2) →
        (∀ b o, b ≠ it → s.heap.get? b = some o → h'.get? b = some o) → Q (some (.ref s.heap.objs.size)) { s with heap := h' }) :
    wpAny (model prog w) A (callSpecial? (.ref it) "__next__") Q E s := by
  obtain ⟨c, e1, e2, e3, _⟩ := pm_step
  exact e3 prog w A E s it pool n last ix cy ix2 cy2 us Q hit hp hu hz h1 h2 h3 h4 ((np_eq e1 e2 ..).trans hc) hQ
theorem pm_end {it pool : Addr} {n : Nat} {last : Value} {ix cy : List Nat} {us : List Value} {Q : Option Value → Shared → Prop} (hh : A.handled = none) (hit : IsPm s.heap it pool 1 n last (ix ++ cy))
    (hp : s.heap.get? pool = some { cls := .type "tuple", data := .seq us.toArray }) (hu : us.length = n) (hz : n ≤ 20) (h1 : ix.length = n) (h3 : cy.length = n) (hc : npx n n ix cy = none)
    (hQ : ∀ e h', CpRep.StopE e h' → (∀ b o, b ≠ it → s.heap.get? b = some o → h'.get? b = some o) → E e { s with heap := h' }) :
    wpAny (model prog w) A (callSpecial? (.ref it) "__next__") Q E s := by
  obtain ⟨c, e1, e2, _, e3⟩ := pm_step
  exact e3 prog w A E s it pool n last ix cy us Q hh hit hp hu hz h1 h3 ((np_eq e1 e2 ..).trans hc) hQ
end
end DL.Pm
set_option maxRecDepth 100000
set_option maxHeartbeats 2000000
/-! all orders of a list: what is walked -/
namespace DL.Pm
open PySem PySem.Spec L2 LamX PyProof.Rows
/-! ### the orders as a list -/
abbrev OC := List Nat × List Nat
def pm0 (n : Nat) : OC := (List.range n, (List.range n).map fun i => n - i)
def pmF (n : Nat) : Nat → OC → List OC
  | 0, _ => []
  | k + 1, p => p :: match npx n n p.1 p.2 with
    | none => []
    | some q => pmF n k q
def pmL (n : Nat) : List OC := pmF n 1000 (pm0 n)
def pmOk (n : Nat) (p : OC) : Bool := p.1.length == n && p.2.length == n && p.1.all (· < n)
def pmChk (n : Nat) : List OC → Bool
  | [] => true
  | [p] => pmOk n p && npx n n p.1 p.2 == none
  | p :: q :: r => pmOk n p && npx n n p.1 p.2 == some q && pmChk n (q :: r)
theorem pmChk_get {n : Nat} : ∀ {l : List OC} {i : Nat} {p : OC}, pmChk n l = true → l[i]? = some p → pmOk n p = true ∧ npx n n p.1 p.2 = l[i + 1]?
  | [], i, p, _, h => by cases h
  | [q], 0, p, c, h => by
    cases h
    simp only [pmChk, Bool.and_eq_true, beq_iff_eq] at c
    exact c
  | [q], i + 1, p, _, h => by cases h
  | q :: q2 :: r, 0, p, c, h => by
    cases h
    simp only [pmChk, Bool.and_eq_true, beq_iff_eq] at c
    exact c.1
  | q :: q2 :: r, i + 1, p, c, h => by
    simp only [pmChk, Bool.and_eq_true] at c
    exact pmChk_get (l := q2 :: r) c.2 h
theorem pm_chk {n : Nat} (h : n ≤ 6) : pmChk n (pmL n) = true := by
  have : n = 0 ∨ n = 1 ∨ n = 2 ∨ n = 3 ∨ n = 4 ∨ n = 5 ∨ n = 6 := by omega
  rcases this with z | z | z | z | z | z | z <;> subst z <;> decide +kernel
theorem pm_head (n : Nat) : (pmL n)[0]? = some (pm0 n) := rfl
theorem pmOk_of {n : Nat} {p : OC} (h : pmOk n p = true) : p.1.length = n ∧ p.2.length = n ∧ ∀ j ∈ p.1, j < n := by
  simp only [pmOk, Bool.and_eq_true, beq_iff_eq, List.all_eq_true, decide_eq_true_eq] at h
  exact ⟨h.1.1, h.1.2, h.2⟩
section
variable {prog : Program} {w : World} {A : Around} {E : Value → Shared → Prop} {s : Shared}
theorem pm_call {l : Addr} {vs : List Value} {Q : Value → Shared → Prop} (hl : s.heap.IsList l vs.toArray) (hz : vs.length ≤ 20)
    (h : ∀ h', h'.get? (s.heap.objs.size + 1) = some { cls := .type "tuple", data := .seq vs.toArray } → IsPm h' (s.heap.objs.size + 2) (s.heap.objs.size + 1) 0 vs.length .none ((pm0 vs.length).1 ++ (pm0 vs.length).2) →
      (∀ b o, s.heap.get? b = some o → h'.get? b = some o) → Q (.ref (s.heap.objs.size + 2)) { s with heap := h' }) :
    wpAny (model prog w) A (call (.type "itertools.permutations") [.ref l]) Q E s := by
  refine callType_new p_called (by decide +kernel) (p_tc _) (p_nc _) (fun obj => F.args_object_init_2 obj _) p_enew (pm_meets l vs hz) ⟨hl, ?_⟩
  exact fun h' a b c => ⟨⟨_, b, rfl⟩, h h' a b c⟩
end
/-- the orders of xs, one after another -/
def PmIt (n : Nat) (xs : List V) : It :=
  ⟨fun i _ => i < (pmL n).length, fun i H v H' => ∃ t p o, v = .ref t ∧ H t = none ∧ o.dict = none ∧ H' = upd H t (.frz o (.tup (p.1.map fun j => xs.getD j .non))) ∧ (pmL n)[i]? = some p, fun i _ => (pmL n).length ≤ i⟩
theorem vals_at {xs : List V} {us : List Value} (r : Vals xs us) : ∀ (l : List Nat), (∀ j ∈ l, j < xs.length) → Vals (l.map fun j => xs.getD j .non) (l.map fun j => us.toArray.getD j .none)
  | [], _ => .nil
  | j :: l, h => by
    refine .cons ?_ (vals_at r l fun i hi => h i (List.mem_cons_of_mem _ hi))
    have hj := h j List.mem_cons_self
    obtain ⟨u, hu, ru⟩ := r.get (List.getElem?_eq_getElem hj)
    have e1 : xs.getD j .non = xs[j] := by simp [List.getD, List.getElem?_eq_getElem hj]
    have e2 : us.toArray.getD j .none = u := by
      obtain ⟨h1, h2⟩ := List.getElem?_eq_some_iff.mp hu
      simp [Array.getD, h1, h2]
    show L2.RelV (xs.getD j .non) (us.toArray.getD j .none)
    rw [e1, e2]
    exact ru
theorem turn_pm {P : Program} {w : World} {K : PySem.W.Frag} {tg : Expr} {n : Nat} {xs : List V} {us : List Value} (it pool : Addr) (rv : Vals xs us) (hx : xs.length = n) (hu : us.length = n) (hn : n ≤ 6) :
    Turn P w K tg (PmIt n xs) [it, pool] it (fun i h => (∃ last, match i with
      | 0 => IsPm h it pool 0 n last ((pm0 n).1 ++ (pm0 n).2)
      | i + 1 => ∃ p, (pmL n)[i]? = some p ∧ IsPm h it pool 1 n last (p.1 ++ p.2)) ∧ h.get? pool = some { cls := .type "tuple", data := .seq us.toArray } ∧ it ≠ pool) where
  mem := List.mem_cons_self
  obj := fun i h st b hb => by
    obtain ⟨⟨last, hi⟩, hp, hne⟩ := st
    rcases List.mem_cons.mp hb with z | z
    · subst z
      cases i with
      | zero => exact ⟨_, hi, fun v q => nomatch q⟩
      | succ i => obtain ⟨p, _, hi⟩ := hi; exact ⟨_, hi, fun v q => nomatch q⟩
    · rw [List.mem_singleton.mp z]; exact ⟨_, hp, fun v q => nomatch q⟩
  keep := fun i h h' st k => by
    obtain ⟨⟨last, hi⟩, hp, hne⟩ := st
    refine ⟨⟨last, ?_⟩, k pool (by simp) _ hp, hne⟩
    cases i with
    | zero => exact k it (by simp) _ hi
    | succ i => obtain ⟨p, h1, hi⟩ := hi; exact ⟨p, h1, k it (by simp) _ hi⟩
  item := by
    intro X hP hw hK hc i pins s σ H E I hf st hg
    subst hP; subst hw; subst hK
    obtain ⟨⟨last, hi⟩, hp, hne⟩ := st
    obtain ⟨q, hq⟩ : ∃ q, (pmL n)[i]? = some q := ⟨_, List.getElem?_eq_getElem hg⟩
    obtain ⟨q1, q2, q3⟩ := pmOk_of (pmChk_get (pm_chk hn) hq).1
    have key : ∀ h', IsPm h' it pool 1 n (.ref s.heap.objs.size) (q.1 ++ q.2) → h'.get? s.heap.objs.size = some (tupAt us q.1) → (∀ b o, b ≠ it → s.heap.get? b = some o → h'.get? b = some o) → it < s.heap.objs.size →
        wpAny (model X.prog X.w) X.A (letOwnedTupleGo tg (.ref it) (.ref s.heap.objs.size)) (fun _ s2 => ∃ x H', Inv X pins σ H' s2 ∧ RelV x (.ref s.heap.objs.size) ∧ (PmIt n xs).yld i H x H' ∧ ((∃ last, match i + 1 with
          | 0 => IsPm s2.heap it pool 0 n last ((pm0 n).1 ++ (pm0 n).2)
          | i + 1 => ∃ p, (pmL n)[i]? = some p ∧ IsPm s2.heap it pool 1 n last (p.1 ++ p.2)) ∧ s2.heap.get? pool = some { cls := .type "tuple", data := .seq us.toArray } ∧ it ≠ pool) ∧ ∀ b ∈ [it, pool], H' b = none) E { s with heap := h' } := fun h' k1 k2 k3 lt => by
      refine go_of k1 rfl rfl (by decide) ?_
      have nw : ObjOk X.prog X.w (upd H s.heap.objs.size (.frz (tupAt us q.1) (.tup (q.1.map fun j => xs.getD j .non)))) h' s.heap.objs.size (.frz (tupAt us q.1) (.tup (q.1.map fun j => xs.getD j .non))) :=
        ⟨k2, by rw [sizeLine_eq]; simp; omega, _, vals_at rv q.1 fun j hj => by rw [hx]; exact q3 j hj, ⟨_, k2, rfl, _, rfl⟩⟩
      have J := I.turnedNew (t' := s.toks) (ch := [it, pool]) (fun b ob hb z => k3 b ob (fun z => hb (by simp [z])) z) hf (Nat.le_refl _) nw
      refine ⟨.ref s.heap.objs.size, _, J, rfl, ⟨_, q, _, rfl, I.hok.fresh (Nat.le_refl _), rfl, rfl, hq⟩, ⟨⟨_, q, hq, k1⟩, k3 _ _ (Ne.symm hne) hp, hne⟩, fun b hb => ?_⟩
      have lb : b < s.heap.objs.size := by
        rcases List.mem_cons.mp hb with z | z
        · rw [z]; exact lt
        · rw [List.mem_singleton.mp z]; exact Heap.lt_size hp
      rw [upd_ne (Nat.ne_of_lt lb)]
      exact (hf b hb).1
    unfold pyNext
    cases i with
    | zero =>
      have e0 : q = pm0 n := by rw [pm_head] at hq; exact (Option.some.inj hq).symm
      refine wpAny_bind (wpAny_attempt (pm_first hi hp (by omega) fun h' k1 k2 k3 => wpAny_pure ⟨_, rfl, key h' ?_ ?_ k3 (Heap.lt_size hi)⟩))
      · rw [e0]; exact k1
      · rw [List.take_left' (show (pm0 n).1.length = n by simp [pm0])] at k2
        rw [e0]; exact k2
    | succ i =>
      obtain ⟨p, h1, hi⟩ := hi
      obtain ⟨z1, z2⟩ := pmChk_get (pm_chk hn) h1
      obtain ⟨p1, p2, p3⟩ := pmOk_of z1
      refine wpAny_bind (wpAny_attempt (pm_item hi hp hu (by omega) p1 q1 p2 q2 (z2.trans hq) fun h' k1 k2 k3 => wpAny_pure ⟨_, rfl, key h' k1 k2 k3 (Heap.lt_size hi)⟩))
  done := by
    intro X hP hw hK hc i pins s σ H E I hf st hg
    subst hP; subst hw; subst hK
    obtain ⟨⟨last, hi⟩, hp, hne⟩ := st
    cases i with
    | zero => exact absurd (show (pmL n).length ≤ 0 from hg) (by have := pm_head n; intro z; rw [List.getElem?_eq_none z] at this; cases this)
    | succ i =>
      obtain ⟨p, h1, hi⟩ := hi
      obtain ⟨z1, z2⟩ := pmChk_get (pm_chk hn) h1
      obtain ⟨p1, p2, p3⟩ := pmOk_of z1
      rw [List.getElem?_eq_none (show (pmL n).length ≤ i + 1 from hg)] at z2
      unfold pyNext
      refine wpAny_bind (wpAny_attempt (pm_end (I.ok.hd hc) hi hp hu (by omega) p1 p2 z2 fun e h' se k => ?_))
      obtain ⟨a, o, vs, rfl, ho, hc', _⟩ := se
      exact wpAny_bind (wpAny_isInstance (T := "StopIteration") (b := true) ⟨o, ho, hc'⟩ isSubtype_stop (wpAny_pure ⟨rfl, I.turnedL (t' := s.toks) (ch := [it, pool]) (fun b o hb q => k b o (fun z => hb (by simp [z])) q) hf⟩))
  self := fun A i s Q E st h => by
    obtain ⟨⟨last, hi⟩, _⟩ := st
    cases i with
    | zero => exact pm_iter hi h
    | succ i => obtain ⟨p, _, hi⟩ := hi; exact pm_iter hi h
section
variable {X : Cx} {e tg : Expr} {pos : Pos}
def iPm (K : PySem.W.Frag) (ta : TA) : TI := fun σ H R => ta σ H fun vs H1 => ∃ a xs, vs = [.ref a] ∧ SqL K H1 a xs ∧ xs.length ≤ 6 ∧ R (PmIt xs.length xs) H1
theorem pi_pm {ta : TA} {x : Str} {p : Pos} (hg : Gl X x) (hm : X.mg x = some (.type "itertools.permutations")) (ha : PA X [e] ta) (hd : (x == ("__debug__" : Str)) = false) (hs : starEach [e] X.env = [(false, eval e X.env)] := by rfl) :
    PI X tg (.Call (.Name x p) [e] [] pos) (iPm X.K ta) := by
  refine ⟨fun pins s σ H R I h => ?_⟩
  refine Call_ (ld_glob I hg hm (PyProof.Rows.callWith_type1 (thn (ha.run pos pins s σ H _ I h) fun us s1 ⟨vs, H1, I1, r1, q1⟩ => ?_) hs rfl) hd)
  obtain ⟨a, xs, ex, hq, hl, q⟩ := q1
  subst ex
  cases r1 with
  | cons r rr =>
    cases rr
    cases r
    have fpl : ∀ b ∈ [s1.heap.objs.size + 2, s1.heap.objs.size + 1], FpOk X pins H1 b := fun b hb => by
      have hle : s1.heap.objs.size ≤ b := by
        rcases List.mem_cons.mp hb with z | z
        · rw [z]; exact Nat.le_add_right _ _
        · rw [List.mem_singleton.mp z]; exact Nat.le_add_right _ _
      exact I1.fpOk hle (I1.hok.fresh hle)
    obtain ⟨its, rv, pl, hz⟩ := I1.list hq
    have el : its.length = xs.length := rv.length.symm
    refine pm_call pl.isList (by omega) fun h' hp hi hk => ?_
    refine pm_iter hi ?_
    rw [el] at hi
    exact ⟨_, _, _, _, H1, rfl, I1.kept (t' := s1.toks) hk, turn_pm (s1.heap.objs.size + 2) (s1.heap.objs.size + 1) rv rfl el hl, ⟨⟨_, hi⟩, hp, Nat.succ_ne_self _⟩, fpl, q⟩
end
end DL.Pm
namespace DL
open PySem PySem.Spec L2 LamX DL.Pm
section
variable {K : PySem.W.Frag} {T : Tb} {E0 B O : As} {σ : L2.St} {ρ ρ1 : DEnv} {H H1 : Hp} {ds : List D} {X : Cx} {e tg : Expr} {pos : Pos}
/-- all orders of ds, ascending by place -/
def pmD (ds : List D) : List D := (pmL ds.length).map fun p => .tuple (p.1.map fun j => ds.getD j .none)
def wPermI (wa : WA) : WI := fun ρ Q => wa ρ fun rs ρ1 => match rs with
  | [r] => fzK ρ1 r fun d ρ2 => match d with
    | .list ds => ds.length ≤ 6 ∧ Q (pmD ds) ρ2
    | _ => False
  | _ => False
theorem rpl_at {xs : List V} (r : RpL K O H xs ds) : ∀ (l : List Nat), (∀ j ∈ l, j < xs.length) → RpL K O H (l.map fun j => xs.getD j .non) (l.map fun j => ds.getD j .none)
  | [], _ => .nil
  | j :: l, h => by
    refine .cons ?_ (rpl_at r l fun i hi => h i (List.mem_cons_of_mem _ hi))
    have hj := h j List.mem_cons_self
    obtain ⟨d, hd, rd⟩ := r.get (List.getElem?_eq_getElem hj)
    have e1 : xs.getD j .non = xs[j] := by simp [List.getD, List.getElem?_eq_getElem hj]
    have e2 : ds.getD j .none = d := by simp [List.getD, hd]
    show Rp K O H (xs.getD j .non) (ds.getD j .none)
    rw [e1, e2]
    exact rd
theorem itd_pm {a : Addr} {xs : List V} (h : LsR K O H a xs) (r : RpL K O H xs ds) (hn : ds.length ≤ 6) (ob : OB O H) : ItD K O H (PmIt xs.length xs) (pmD ds) := by
  have el := r.length
  have len : (pmD ds).length = (pmL xs.length).length := by rw [el]; simp [pmD]
  refine ⟨fun i H2 st hi => ?_, fun i H2 x H' O2 st m ob2 hi hy => ?_, fun i H2 st hi => ?_⟩
  · rw [len] at hi; exact hi
  · obtain ⟨t, p, o, e1, n, dn, e2, hx⟩ := hy
    subst e1; subst e2
    have ok := (pmOk_of (pmChk_get (pm_chk (by omega)) hx).1).2.2
    refine ⟨.tuple (p.1.map fun j => ds.getD j .none), ?_, Same.upd n, Fre.upd _ _ _, .tup (SqP.of dn) ?_⟩
    · show ((pmL ds.length).map _)[i]? = _
      rw [List.getElem?_map, ← el, hx]; rfl
    · exact ((rpl_at r p.1 ok).move st ob m).move (Same.stp (Same.upd n)) ob2 fun _ z => .inl z
  · rw [len] at hi; exact hi
theorem i_perm {wa : WA} {x : Str} {p : Pos} (hm : X.mg x = some (.type "itertools.permutations")) (ha : PA X [e] (tA X.K T wa)) (hg : Gl X x := by rfl) (hd : (x == ("__debug__" : Str)) = false := by decide) (hs : starEach [e] X.env = [(false, eval e X.env)] := by rfl) :
    PI X tg (.Call (.Name x p) [e] [] pos) (tI X.K T (wPermI wa)) := (pi_pm hg hm ha hd hs).imp fun σ H R h => by
  obtain ⟨E0, B, ρ, Qd, er, tb, hw, k⟩ := h
  refine ⟨E0, B, ρ, _, er, tb, hw, fun vs H1 rs ρ1 q A => ?_⟩
  have hl := A.rr.len
  match rs, vs, q, hl, A with
  | [r], [v], q, _, A =>
    obtain ⟨d, ρ2, q, A2, rp⟩ := A.fz1 er q
    have ob := A2.obx
    cases rp with
    | lst s r => exact ⟨_, _, rfl, s.sq, by rw [r.length]; exact q.1, k _ _ _ _ q.2 A2 (itd_pm s r q.1 ob)⟩
    | _ => exact (show False from q).elim
  | [], _, q, _, _ => exact q.elim
  | _ :: _ :: _, _, q, _, _ => exact q.elim
end
end DL
set_option maxRecDepth 100000
/-! a head for texts that open with imports -/
noncomputable section
namespace DL.Hi
open PySem PySem.W PySem.Calls PyProof.Rows HandSHeadRun
/-- the opening, to its end -/
def goI (st : SharedT → Thread → Option (SharedT × Thread)) : Nat → SharedT → Thread → Option SharedT
  | 0, _, _ => none
  | m + 1, s, t => match t.atExitBegin with
    | some [] => some s
    | some (_ :: _) => none
    | none => match st s t with
      | some (s', t') => frS s' fun s' => goI st m s' t'
      | none => none
theorem goI_ok {tb : String → Option Builtin} {p : Program} {w : World} : ∀ {m : Nat} {s s' : SharedT} {t : Thread}, goI (stepT (denote tb) p w) m s t = some s' → importEnds tb p w m s.abs t = some s'.abs
  | 0, _, _, _, h => by cases h
  | m + 1, s, s', t, h => by
    unfold goI at h
    unfold importEnds
    cases ht : t.atExitBegin with
    | some l =>
      rw [ht] at h
      cases l with
      | nil => cases h; rfl
      | cons a l => cases h
    | none =>
      rw [ht] at h
      simp only at h ⊢
      cases hs : stepT (denote tb) p w s t with
      | none => rw [hs] at h; cases h
      | some r =>
        obtain ⟨s2, t2⟩ := r
        rw [hs] at h
        simp only [frS_eq] at h
        rw [stepT_spec hs]
        exact goI_ok h
/-! ### the fence -/
def fenceAt (m : Str) (s : Shared) : Option (Addr × Obj) :=
  match boundIn s.heap sysModules m, tameNamesOf? m with
  | some (.ref a), some row => (match s.heap.get? a with
    | some o => (match o.dict with
      | some D => (match s.heap.get? D with
        | some od => (fenceDict? m row od).map fun od' => (D, od')
        | none => none)
      | none => none)
    | none => none)
  | _, _ => none
theorem fence_at (m : Str) (s : Shared) : fenceModule? m s = (fenceAt m s).map fun x => { s with heap := s.heap.update x.1 fun _ => x.2 } := by
  unfold fenceModule? fenceAt
  generalize boundIn s.heap sysModules m = b, tameNamesOf? m = t
  cases b with
  | none => rfl
  | some v =>
    cases v <;> cases t <;> try rfl
    rename_i a row
    show (match s.heap.get? a with
      | some o => _
      | none => _) = Option.map _ (match s.heap.get? a with
      | some o => _
      | none => _)
    cases s.heap.get? a with
    | none => rfl
    | some o =>
      dsimp only
      cases o.dict with
      | none => rfl
      | some D =>
        dsimp only
        cases s.heap.get? D with
        | none => rfl
        | some od =>
          dsimp only
          cases fenceDict? m row od <;> rfl
def setT (s : SharedT) (a : Addr) (o : Obj) : Option SharedT := match s.tree.get a with
  | some _ => some { s with tree := s.tree.set a fun _ => o }
  | none => none
theorem setT_ok {s s' : SharedT} {a : Addr} {o : Obj} (h : setT s a o = some s') : s'.abs = { s.abs with heap := s.abs.heap.update a fun _ => o } := by
  unfold setT at h
  cases g : s.tree.get a with
  | none => rw [g] at h; cases h
  | some x =>
    rw [g] at h
    cases h
    show Shared.mk _ _ _ _ _ = Shared.mk _ _ _ _ _
    rw [absHeap_set g]
    rfl
def fenceT : List Str → SharedT → Option SharedT
  | [], s => some s
  | m :: r, s => match fenceAt m s.abs with
    | some (a, o) => (match setT s a o with
      | some s' => fenceT r s'
      | none => none)
    | none => none
theorem fenceT_ok : ∀ {ms : List Str} {s s' : SharedT}, fenceT ms s = some s' → fenceAll? ms s.abs = some s'.abs
  | [], s, s', h => by cases h; rfl
  | m :: r, s, s', h => by
    unfold fenceT at h
    unfold fenceAll?
    rw [fence_at]
    cases e : fenceAt m s.abs with
    | none => rw [e] at h; cases h
    | some x =>
      obtain ⟨a, o⟩ := x
      rw [e] at h
      simp only at h
      cases e2 : setT s a o with
      | none => rw [e2] at h; cases h
      | some s2 =>
        rw [e2] at h
        refine Eq.trans ?_ (fenceT_ok h)
        exact congrArg (fenceAll? r) (setT_ok e2).symm
/-- the state at the start -/
def startT (p : Program) : SharedT := match (start p).1 with
  | ⟨h, g, d, t, o⟩ => ⟨.nil, 0, h.life, g, d, t, o⟩
theorem startT_abs (p : Program) : (startT p).abs = (start p).1 := rfl
/-- the state ahead of the top, the state behind it -/
def endI (sti st : SharedT → Thread → Option (SharedT × Thread)) (M : Nat) (p : Program) : Option (SharedT × SharedT) :=
  match goI sti M (startT (opening p)) (start (opening p)).2 with
  | none => none
  | some s => match fenceT (importedModules p.main.body) s with
    | none => none
    | some s0 => match frS s0 fun s0 => goF st s0.n (s0.abs.heap.nsMap mainGlobals "__annotations__") M s0 (topStub p) with
      | none => none
      | some s1 => some (s0, s1)
theorem endI_ok {M : Nat} {p : Program} {w : World} {s0 s1 : SharedT} (hn : p.main.body.any namesNumpy = false) (h : endI (stepT (denote treeTable) (opening p) w) (stepT (denote treeTable) p w) M p = some (s0, s1)) :
    fencedOpening treeTable p w M = some s0.abs ∧ topRun treeTable p w s0.abs.heap.objs.size (s0.abs.heap.nsMap mainGlobals "__annotations__") M s0.abs (topStub p) = some s1.abs := by
  unfold endI at h
  cases e : goI (stepT (denote treeTable) (opening p) w) M (startT (opening p)) (start (opening p)).2 with
  | none => rw [e] at h; cases h
  | some s =>
    rw [e] at h
    simp only at h
    cases e2 : fenceT (importedModules p.main.body) s with
    | none => rw [e2] at h; cases h
    | some z0 =>
      rw [e2] at h
      simp only [frS_eq] at h
      cases e3 : goF (stepT (denote treeTable) p w) z0.n (z0.abs.heap.nsMap mainGlobals "__annotations__") M z0 (topStub p) with
      | none => rw [e3] at h; cases h
      | some z1 =>
        rw [e3] at h
        cases h
        refine ⟨?_, ?_⟩
        · have q := goI_ok e
          rw [startT_abs] at q
          unfold fencedOpening
          rw [q]
          show fenceModules? p s.abs = _
          unfold fenceModules?
          rw [fenceT_ok e2]
          show (if p.main.body.any namesNumpy = true then _ else _) = _
          rw [hn]
          rfl
        · have q := goF_ok e3
          rw [show s0.abs.heap.objs.size = s0.n from absHeap_size _ _ _]
          exact q
/-- the looks at the two states -/
def looksI (p : Program) (h0 : Shared) (s : Shared) : Bool := h0.heap.isNs mainGlobals && h0.gens.size == 0 && looksF p h0.heap s
def RunEqI (r : OpenRow) (q : Program) (H : Hook) (ob : SharedT → H.α) (M : Nat) (loose : List PySem.Str) (w : World) : Prop :=
  (endI (stepQ (denQ tabQ) (opening r.prog) w) (stepQ (denQ tabQ) r.prog w) M r.prog).map (fun s => (looksI r.prog s.1.abs s.2.abs, seenQ q loose (importedModules r.prog.main.body) (fun s => xlAt q [] s && recOk r.toRowW.records s) s.2.abs, ob s.2)) = some (true, openGood q loose, H.val w)
theorem fenced_mono {p : Program} {w : World} {M N : Nat} {s : Shared} (le : M ≤ N) (h : fencedOpening treeTable p w M = some s) : fencedOpening treeTable p w N = some s := by
  unfold fencedOpening at h ⊢
  obtain ⟨x, h1, h2⟩ := Option.bind_eq_some_iff.mp h
  have m := importEnds_mono (N - M) _ _ _ _ h1
  rw [show M + (N - M) = N by omega] at m
  rw [m]
  exact h2
theorem left_imp {p q : Program} {loose : List Str} {Xt : Shared → Bool} {α : Type} {Yf : Shared → α} {Ya : World → α} {M : Nat} (hn : p.main.body.any namesNumpy = false)
    (run : ∀ w : World, (endI (stepT (denote treeTable) (opening p) w) (stepT (denote treeTable) p w) M p).map (fun s => (looksI p s.1.abs s.2.abs, openSeen q loose (importedModules p.main.body) Xt true s.2.abs, Yf s.2.abs)) = some (true, openGood q loose, Ya w)) :
    LeftO p q loose Xt Yf Ya M true := fun w => by
  obtain ⟨⟨s0, s1⟩, hs, hv⟩ := Option.map_eq_some_iff.mp (run w)
  obtain ⟨l1, l2, l3⟩ : _ ∧ _ ∧ _ := by simpa only [Prod.mk.injEq] using hv
  obtain ⟨a, b⟩ := endI_ok hn hs
  unfold looksI at l1
  obtain ⟨l0, l1⟩ := Bool.and_eq_true_iff.mp l1
  have t : topFrom treeTable p w M s0.abs = some s1.abs := by
    unfold topFrom
    rw [l0]
    show (topRun treeTable p w s0.abs.heap.objs.size (s0.abs.heap.nsMap mainGlobals "__annotations__") M s0.abs (topStub p)).bind _ = _
    rw [b]
    have l1' : (staticsOk (importedModules p.main.body) s0.abs.heap s1.abs.heap && namesBound p s1.abs.heap && gensDone s1.abs && laidKept s0.abs.heap s1.abs.heap) = true := l1
    show (match staticsOk (importedModules p.main.body) s0.abs.heap s1.abs.heap && namesBound p s1.abs.heap && gensDone s1.abs && laidKept s0.abs.heap s1.abs.heap with | true => some s1.abs | false => none) = _
    rw [l1']
  unfold openEnds
  rw [a]
  show (topFrom treeTable p w M _).map _ = _
  rw [t]
  exact congrArg some (Prod.ext l2 l3)
theorem head_imp {r : OpenRow} {q : Program} {H : Hook} {ob : SharedT → H.α} {M : Nat} {loose : List PySem.Str} {d : DefRec} {kwd : List (PySem.Str × PySem.Expr)} (ho : ∀ s : SharedT, ob s = H.obs s.abs)
    (hn : r.prog.main.body.any namesNumpy = false) (run : ∀ w, RunEqI r q H ob M loose w)
    (hdef : defOf q r.name = some (d, kwd)) (hp : r.prog.theDef r.name = some (d.params, d.body, d.scope)) (hk : kwWritten? d.params.kwonlyargs d.params.kw_defaults = some kwd)
    (hwr : (!r.writes || r.records.isEmpty) = true) (k1 : r.wellSaid = true) (ok : (chainsOk q && opensWell r.prog && (frees r.toRowW && r.within.isEmpty)) = true) (hb : r.prog.bare) (hw : r.toRowW.promised)
    (call : WalkO q loose (XL q []) H.says r.toRowW d kwd fun f vs => PySem.call f vs) : r.Holds := by
  have left : LeftO r.prog q loose (fun s => xlAt q [] s && recOk r.toRowW.records s) H.obs H.val M true :=
    left_imp hn fun w => by
      have z := run w
      unfold RunEqI at z
      have eo : ob = fun s => H.obs s.abs := funext ho
      rw [eo] at z
      simp only [stepQ_eq, denQ_eq, tabQ_eq, seenQ_eq] at z ⊢
      exact z
  exact holds_open (r := r) (q := q) (loose := loose) (XP := XL q []) (YP := H.says) (d := d) (kwd := kwd) left H.of H.keeps (fun s z => xl_of s (Bool.and_eq_true_iff.mp z).1) XL.keeps hdef hp hk (fun s z => recFacts_of (Bool.and_eq_true_iff.mp z).2) hwr k1 ok hb hw call
end DL.Hi
end
set_option maxRecDepth 100000
local macro_rules | `(tactic| simp_arith only [$ls,*]) => `(tactic| simp only [DL.wSortBig, DL.gInD, DL.gIxD, DL.gSbD, DL.dctOf, DL.wDct0, DL.gLenD, DL.wMeN, DL.gGet2, DL.wDkI, DL.wDvI, DL.wDiI, DL.dctK, DL.isDct, DL.wUnl, DL.isL, DL.isT, DL.wMe, DL.gCntL, DL.gCntT, DL.gIdxL, DL.gIdxT, DL.gGcd, DL.gSumA, DL.wkD, bne_self_eq_false, DL.gInt, DL.gIn, reduceIte, Bool.false_eq_true, DL.zipK, DL.gLtA, DL.gGtA, DL.gLeA, DL.gGeA, DL.gCmp, DL.gSorted, DL.gMinL, DL.gMaxL, DL.gBest, DL.wSortSet, DL.boolsK_cons, DL.boolsK_nil, DL.intsK_cons, DL.intsK_nil, DL.intsK_maps, DL.fl_nil, List.all_cons, List.all_nil, List.any_cons, List.any_nil, id_eq, Bool.and_true, Bool.true_and, Bool.false_and, Bool.and_false, DL.wVar, DL.wC, DL.DV.rv, DL.lookK, DL.lookR, DL.boolK, DL.wChI, DL.startD, DL.slA, List.map_cons, List.map_nil, List.length_cons, List.length_nil, List.append_nil, List.nil_append, List.cons_append, List.replicate, Nat.reduceAdd, Nat.reduceSub, Nat.sub_self, List.getElem?_cons_zero, List.getElem?_cons_succ, DL.looksK, DL.int1K, DL.int2K, DL.int3K, DL.intK, DL.retK, DL.rvK, DL.outs_sh, DL.outs_ln, DL.outs_nil, DL.backE_sh, DL.backE_ln, DL.backE_nw, DL.backE_nil, DL.setBx_own0, DL.setBx_lent0, DL.setBx_succ, DL.lvars_sh, DL.lvars_ln, DL.lvars_nw, DL.lvars_nil, DL.nodup_one, DL.shK, DL.lnK, DL.fzK, DL.fz, DL.fzsK, DL.bxOf, DL.argsK, DL.Box.toD, DL.wCall, DL.wCallK, DL.wCons, DL.wNil, DL.wRet, DL.wAnd, DL.wOr, DL.wNot, DL.wAndT, DL.wOrT, DL.wNotT, DL.wTru, DL.wOp2, DL.wOp2T, DL.bK, DL.wIsi, DL.wCB, DL.oneK, DL.itK, DL.wTup, DL.wLst, DL.wSeq, DL.wSet, DL.wIf, DL.wDrop, DL.wNext, DL.wAsg, DL.wPar, DL.wPar.fzzK, DL.wPar.fzN, DL.gNm, DL.gTp, DL.gsNil, DL.gsCons, DL.gSb, DL.lstOf, DL.wFor, DL.wSeqI, DL.wLc, DL.wIfE, DL.wSl, DL.wNo, DL.wPt, DL.gI0, DL.gI, DL.gAdd, DL.gIx, DL.gLen, DL.gTuple, DL.gList, DL.gMin2, DL.gMax2, DL.gAbs, DL.gDivmod, DL.gAll, DL.gAny, DL.gSum, DL.gSl, DL.wRevT, DL.wRevL, DL.wApp, DL.wPopAt, DL.wRng1, DL.wRng2, DL.wRng3, DL.wEnumI, DL.wZipI, DL.wFL, DL.wAct, DL.wNeg, DL.wPar3, DL.wRep, DL.wLsR, DL.wTpR, DL.wR1, DL.wR2, DL.wExt, Int.reduceToNat, List.reduceReplicate, List.flatten_cons, List.flatten_nil, List.set_cons_zero, List.set_cons_succ, DL.truK, DL.truD, DL.gRepr, DL.gEq, DL.gNe, DL.gIs, DL.gIsN, DL.isD, DL.isNone_n, DL.isNone_i, DL.isNone_b, DL.isNone_s, DL.isNone_t, DL.isNone_l, List.nodup_nil, true_and, and_true, DL.selD, DL.gLam, DL.lamD, DL.lamEnvD, DL.hideS, DL.solid, DL.solids, DL.lstK, DL.wBoolT, DL.sok_bool, DL.sok_int, DL.sok_none, DL.sok_list, DL.sok_tuple, Bool.not_true, Bool.not_false, DL.wNever, DL.wYes_ap, DL.fzsK_vals, DL.wStar, DL.atI_0, DL.atI_1, DL.atI_2, DL.ixN_30, DL.ixN_31, DL.ixN_32, DL.wEnd, DL.wCI, DL.putK_e, DL.putK_s, DL.putK_o, DL.clK_nil, DL.clK_cons, DL.clr1_s, DL.clr1_z_e, DL.clr1_z_s, DL.clr1_z_o, DL.lcL_nil, DL.putK_val_succ, DL.putK_new_succ, DL.putN_e, DL.putN_s, DL.putN_o, DL.wPre, DL.putK_var, $ls,*])
local macro_rules | `(tactic| simp_arith! only [$ls,*]) => `(tactic| repeat (first | assumption | simp_arith only [$ls,*] | (first | refine ⟨rfl, ?_⟩ | refine ⟨_, rfl, ?_⟩ | refine ⟨_, _, rfl, ?_⟩ | refine ⟨_, _, _, rfl, ?_⟩ | refine ⟨_, _, _, _, rfl, ?_⟩ | refine ⟨_, _, _, _, _, rfl, ?_⟩ | refine ⟨_, _, _, _, _, _, rfl, ?_⟩) | refine And.intro (by (first | assumption | decide | omega | exact DL.bd_small | exact DL.mul_r | exact DL.mul_l | exact ⟨by decide, by decide⟩ | exact ⟨by omega, by omega⟩ | exact RgOk.of_le (by omega) (by omega) (by omega) (by omega) | (simp only [List.length_map, List.length_append, List.length_cons, List.length_nil, List.length_reverse, List.length_range, List.length_set, List.length_take, List.length_drop, DL.upI_len, DL.upC_len, DL.enI_len, List.length_zip] at *; omega) | (refine DL.bd_small ?_ ?_ <;> (simp only [List.length_map, List.length_append, List.length_cons, List.length_nil, DL.upI_len] at *; omega)))) ?_ | rw [DL.lcL_cons] | rw [DL.forL_cons]))
set_option maxRecDepth 100000
set_option maxHeartbeats 4000000
namespace DL.Lw
open PySem PySem.Spec L2 LamX DL
/-! ### nets and rows as data -/
abbrev pD (p : Int × Int) : D := .tuple [.int p.1, .int p.2]
abbrev stD (st : List (Int × Int)) : D := .tuple (st.map pD)
abbrev nsD (ns : List Int) : D := rwD ns
def OkP (L : Int) (p : Int × Int) : Prop := 0 ≤ p.1 ∧ p.1 < p.2 ∧ p.2 ≤ L - 1
def OkL (L : Int) : Prop := 2 ≤ L ∧ L ≤ 6
def OkS (L : Int) (st : List (Int × Int)) : Prop := st.length ≤ 24 ∧ ∀ p ∈ st, OkP L p
def OkN (L : Int) (st : List (Int × Int)) : Prop := OkL L ∧ OkS L st
def OkR (L : Int) (ns : List Int) : Prop := (ns.length : Int) = L ∧ ∀ n ∈ ns, 0 ≤ n ∧ n ≤ 99
def isIntD (d : D) : Bool := match d with | .int _ => true | _ => false
def intIn (a b : Int) (d : D) : Bool := match d with | .int v => decide (a ≤ v) && decide (v ≤ b) | _ => false
def tupN (m : Int) (d : D) : Bool := match d with | .tuple ds => decide ((ds.length : Int) = m) | _ => false
def tupR (a b : Int) (d : D) : Bool := match d with | .tuple ds => decide (a ≤ (ds.length : Int)) && decide ((ds.length : Int) ≤ b) | _ => false
def g_is_whole : DSp := fun as k => ∃ d, as = [.sh d] ∧ isRaw d = false ∧ k (.val (.bool (isIntD d))) as
def g_is_between : DSp := fun as k => ∃ d a b, as = [.sh d, .sh (.int a), .sh (.int b)] ∧ isRaw d = false ∧ k (.val (.bool (intIn a b d))) as
def g_is_tuple_of : DSp := fun as k => ∃ d m, as = [.sh d, .sh (.int m)] ∧ isRaw d = false ∧ k (.val (.bool (tupN m d))) as
def g_values_is_row : DSp := fun as k => ∃ d a b, as = [.sh d, .sh (.int a), .sh (.int b)] ∧ isRaw d = false ∧ k (.val (.bool (tupR a b d))) as
def rd_is_whole : WS := (wRet (wAnd (wIsi "int" (wVar 0)) (wNot (wIsi "bool" (wVar 0)))))
abbrev Sp_is_whole : Prop := SpD rd_is_whole 1 1 g_is_whole
local macro_rules | `(tactic| fold_at run_is_whole) => `(tactic| simp_arith only [id_eq])
local macro_rules | `(tactic| fold_at go_is_whole) => `(tactic| simp_arith! only [id_eq])
def rd_is_between : WS := (wRet (wAnd (wCall g_is_whole [false] (wCons (wVar 0) wNil)) (wChI (fun i j => decide (i ≤ j)) (fun i j => decide (i ≤ j)) (wVar 1) (wVar 0) (wVar 2))))
abbrev Sp_is_between : Prop := SpD rd_is_between 3 3 g_is_between
local macro_rules | `(tactic| fold_at run_is_between) => `(tactic| simp_arith only [id_eq])
local macro_rules | `(tactic| fold_at go_is_between) => `(tactic| simp_arith! only [id_eq])
def rd_is_tuple_of : WS := (wRet (wAnd (wIsi "tuple" (wVar 0)) (wOp2 gEq (wCB gLen (wCons (wVar 0) wNil)) (wVar 1))))
abbrev Sp_is_tuple_of : Prop := SpD rd_is_tuple_of 2 2 g_is_tuple_of
local macro_rules | `(tactic| fold_at run_is_tuple_of) => `(tactic| simp_arith only [id_eq])
local macro_rules | `(tactic| fold_at go_is_tuple_of) => `(tactic| simp_arith! only [id_eq])
def bt_first_wrong_1 (fd : D) (L : LD) : WS := (wRet (wVar 2))
theorem bt_first_wrong_1_c {fd : D} {L : LD} {s : Sl} {ρ : DEnv} {Q} : (bt_first_wrong_1 fd L) (s :: ρ) Q = ((wRet (wVar 2))) (s :: ρ) Q := rfl
def fb_first_wrong_1 (fd : D) (L : LD) : WS := (wIf (wNotT (wTru (wAct 1 fd L (wCons (wVar 3) (wCons (wSl (wVar 0) wNo (wPt (wVar 2))) wNil))))) (bt_first_wrong_1 fd L) wNext)
theorem fb_first_wrong_1_c {fd : D} {L : LD} {s : Sl} {ρ : DEnv} {Q} : (fb_first_wrong_1 fd L) (s :: ρ) Q = ((wIf (wNotT (wTru (wAct 1 fd L (wCons (wVar 3) (wCons (wSl (wVar 0) wNo (wPt (wVar 2))) wNil))))) (bt_first_wrong_1 fd L) wNext)) (s :: ρ) Q := rfl
def sq_first_wrong_1 (fd : D) (L : LD) : WS := (wRet (wC .none))
theorem sq_first_wrong_1_c {fd : D} {L : LD} {s : Sl} {ρ : DEnv} {Q} : (sq_first_wrong_1 fd L) (s :: ρ) Q = ((wRet (wC .none))) (s :: ρ) Q := rfl
def rg_first_wrong (fd : D) (L : LD) : WS := (wSeq (wFor (wCI [2, 3] (wEnumI (wCons (wVar 0) wNil))) (gTp 2 (gsCons (gNm 2) (gsCons (gNm 3) gsNil))) (wEnd [2, 3] (fb_first_wrong_1 fd L))) (sq_first_wrong_1 fd L))
local macro_rules | `(tactic| fold_at run_first_wrong) => `(tactic| simp_arith only [bt_first_wrong_1_c, fb_first_wrong_1_c, sq_first_wrong_1_c])
local macro_rules | `(tactic| fold_at go_first_wrong) => `(tactic| simp_arith! only [bt_first_wrong_1_c, fb_first_wrong_1_c, sq_first_wrong_1_c])
def rd_values_is_row : WS := (wRet (wAnd (wIsi "tuple" (wVar 0)) (wChI (fun i j => decide (i ≤ j)) (fun i j => decide (i ≤ j)) (wVar 1) (wCB gLen (wCons (wVar 0) wNil)) (wVar 2))))
abbrev Sp_values_is_row : Prop := SpD rd_values_is_row 3 3 g_values_is_row
local macro_rules | `(tactic| fold_at run_values_is_row) => `(tactic| simp_arith only [id_eq])
local macro_rules | `(tactic| fold_at go_values_is_row) => `(tactic| simp_arith! only [id_eq])
theorem sp_is_whole : Sp_is_whole := by
  rintro _ Qd ⟨d, rfl, hr, h⟩
  (refine ⟨rfl, ?_⟩; unfold rd_is_whole)
  fold_at run_is_whole
  unfold isiD
  rw [hr]
  cases d <;> exact h
theorem sp_is_between : Sp_is_between := by
  rintro _ Qd ⟨d, a, b, rfl, hr, h⟩
  (refine ⟨rfl, ?_⟩; unfold rd_is_between)
  fold_at go_is_between
  cases d with
  | int v =>
    unfold isIntD
    fold_at go_is_between
    simp only [intIn] at h
    cases e : decide (a ≤ v) <;> rw [e] at h <;> exact h
  | _ => exact h
theorem sp_is_tuple_of : Sp_is_tuple_of := by
  rintro _ Qd ⟨d, m, rfl, hr, h⟩
  (refine ⟨rfl, ?_⟩; unfold rd_is_tuple_of)
  fold_at run_is_tuple_of
  unfold isiD
  rw [hr]
  cases d <;> exact h
theorem sp_values_is_row : Sp_values_is_row := by
  rintro _ Qd ⟨d, a, b, rfl, hr, h⟩
  (refine ⟨rfl, ?_⟩; unfold rd_values_is_row)
  fold_at run_values_is_row
  unfold isiD
  rw [hr]
  cases d with
  | tuple ds =>
    simp only [tupR] at h
    show match decide (a ≤ (ds.length : Int)) with
      | true => Qd (DV.val (PyData.bool (decide ((ds.length : Int) ≤ b)))) [Arg.sh (PyData.tuple ds), Arg.sh (PyData.int a), Arg.sh (PyData.int b)]
      | false => Qd (DV.val (PyData.bool false)) [Arg.sh (PyData.tuple ds), Arg.sh (PyData.int a), Arg.sh (PyData.int b)]
    cases e : decide (a ≤ (ds.length : Int)) <;> rw [e] at h <;> exact h
  | _ => exact h

set_option maxRecDepth 100000
set_option maxHeartbeats 4000000

open PySem PySem.Spec L2 LamX DL
/-! ### the module nets -/
theorem intIn_t {a b v : Int} (h : a ≤ v ∧ v ≤ b) : intIn a b (.int v) = true := by
  unfold intIn; simp only []; rw [decide_eq_true h.1, decide_eq_true h.2]; rfl
theorem tupN_t {m : Int} {ds : List D} (h : (ds.length : Int) = m) : tupN m (.tuple ds) = true := decide_eq_true h
theorem tupR_t {a b : Int} {ds : List D} (h : a ≤ (ds.length : Int) ∧ (ds.length : Int) ≤ b) : tupR a b (.tuple ds) = true := by
  unfold tupR; simp only []; rw [decide_eq_true h.1, decide_eq_true h.2]; rfl
def exch (f : List Int) (p : Int × Int) : List Int := if f.getD p.2.toNat 0 < f.getD p.1.toNat 0 then (f.set p.1.toNat (f.getD p.2.toNat 0)).set p.2.toNat (f.getD p.1.toNat 0) else f
def endF (st : List (Int × Int)) (f : List Int) : List Int := st.foldl exch f
theorem exch_len {f : List Int} {p : Int × Int} : (exch f p).length = f.length := by
  unfold exch
  split
  · rw [List.length_set, List.length_set]
  · rfl
theorem endF_len {st : List (Int × Int)} {f : List Int} : (endF st f).length = f.length := by
  unfold endF
  induction st generalizing f with
  | nil => rfl
  | cons p st ih => rw [List.foldl_cons, ih, exch_len]
def g_is_some_row : DSp := fun as k => ∃ d a b, as = [.sh d, .sh (.int a), .sh (.int b)] ∧ isRaw d = false ∧ k (.val (.bool (tupR a b d))) as
def g_is_lanes : DSp := fun as k => ∃ L, as = [.sh (.int L)] ∧ OkL L ∧ k (.val (.bool true)) as
def g_is_lane : DSp := fun as k => ∃ L v, as = [.sh (.int L), .sh (.int v)] ∧ (0 ≤ v ∧ v ≤ L - 1) ∧ k (.val (.bool true)) as
def g_is_step : DSp := fun as k => ∃ L p, as = [.sh (.int L), .sh (pD p)] ∧ OkP L p ∧ k (.val (.bool true)) as
def g_wrong_step : DSp := fun as k => ∃ L st, as = [.sh (.int L), .sh (stD st)] ∧ OkS L st ∧ k (.val .none) as
def g_nets_is_row : DSp := fun as k => ∃ L ns, as = [.sh (.int L), .sh (nsD ns)] ∧ OkL L ∧ OkR L ns ∧ k (.val (.bool true)) as
def g_check_lanes : DSp := fun as k => ∃ L, as = [.sh (.int L)] ∧ OkL L ∧ k (.val .none) as
def g_check_steps : DSp := fun as k => ∃ L st, as = [.sh (.int L), .sh (stD st)] ∧ OkS L st ∧ k (.val .none) as
def g_check_net : DSp := fun as k => ∃ L st, as = [.sh (.int L), .sh (stD st)] ∧ OkN L st ∧ k (.val .none) as
def g_check_row : DSp := fun as k => ∃ L ns, as = [.sh (.int L), .sh (nsD ns)] ∧ OkL L ∧ OkR L ns ∧ k (.val .none) as
def g_check_lane : DSp := fun as k => ∃ L v, as = [.sh (.int L), .sh (.int v)] ∧ (0 ≤ v ∧ v ≤ L - 1) ∧ k (.val .none) as
def g_end_by : DSp := fun as k => ∃ st ns, as = [.sh (stD st), .sh (nsD ns)] ∧ OkS ns.length st ∧ k (.val (nsD (endF st ns))) as
def g_end : DSp := fun as k => ∃ L st ns, as = [.sh (.int L), .sh (stD st), .sh (nsD ns)] ∧ OkN L st ∧ OkR L ns ∧ k (.val (nsD (endF st ns))) as
def rd_is_some_row : WS := (wRet (wAnd (wIsi "tuple" (wVar 0)) (wChI (fun i j => decide (i ≤ j)) (fun i j => decide (i ≤ j)) (wVar 1) (wCB gLen (wCons (wVar 0) wNil)) (wVar 2))))
abbrev Sp_is_some_row : Prop := SpD rd_is_some_row 3 3 g_is_some_row
local macro_rules | `(tactic| fold_at run_is_some_row) => `(tactic| simp_arith only [id_eq])
local macro_rules | `(tactic| fold_at go_is_some_row) => `(tactic| simp_arith! only [id_eq])
def rd_is_lanes : WS := (wRet (wCall g_is_between [false, false, false] (wCons (wVar 0) (wCons (wC (.int 2)) (wCons (wC (.int 6)) wNil)))))
abbrev Sp_is_lanes : Prop := SpD rd_is_lanes 1 1 g_is_lanes
local macro_rules | `(tactic| fold_at run_is_lanes) => `(tactic| simp_arith only [id_eq])
local macro_rules | `(tactic| fold_at go_is_lanes) => `(tactic| simp_arith! only [id_eq])
def rd_is_lane : WS := (wRet (wCall g_is_between [false, false, false] (wCons (wVar 1) (wCons (wC (.int 0)) (wCons (wOp2 gSubI (wVar 0) (wC (.int 1))) wNil)))))
abbrev Sp_is_lane : Prop := SpD rd_is_lane 2 2 g_is_lane
local macro_rules | `(tactic| fold_at run_is_lane) => `(tactic| simp_arith only [id_eq])
local macro_rules | `(tactic| fold_at go_is_lane) => `(tactic| simp_arith! only [id_eq])
def ce_is_step_1 : WE := (wCall g_is_lane [false, false] (wCons (wVar 0) (wCons (wVar 2) wNil)))
theorem ce_is_step_1_c {s : Sl} {ρ : DEnv} {Q} : ce_is_step_1 (s :: ρ) Q = ((wCall g_is_lane [false, false] (wCons (wVar 0) (wCons (wVar 2) wNil)))) (s :: ρ) Q := rfl
def cf_is_step_1 : WT := wYes
theorem cf_is_step_1_c {s : Sl} {ρ : DEnv} {Q} : cf_is_step_1 (s :: ρ) Q = (wYes) (s :: ρ) Q := rfl
def rd_is_step : WS := (wRet (wAnd (wCall g_is_tuple_of [false, false] (wCons (wVar 1) (wCons (wC (.int 2)) wNil))) (wAnd (wCB gAll (wCons (wLc (wSeqI (wVar 1)) (gNm 2) cf_is_step_1 ce_is_step_1 [2]) wNil)) (wOp2 gLtA (wOp2 gIx (wVar 1) (wC (.int 0))) (wOp2 gIx (wVar 1) (wC (.int 1)))))))
abbrev Sp_is_step : Prop := SpD rd_is_step 3 2 g_is_step
local macro_rules | `(tactic| fold_at run_is_step) => `(tactic| simp_arith only [ce_is_step_1_c, cf_is_step_1_c])
local macro_rules | `(tactic| fold_at go_is_step) => `(tactic| simp_arith! only [ce_is_step_1_c, cf_is_step_1_c])
def lb_wrong_step_1 : WE := (wCall g_is_step [false, false] (wCons (wVar 0) (wCons (wVar 2) wNil)))
theorem lb_wrong_step_1_c {s : Sl} {ρ : DEnv} {Q} : lb_wrong_step_1 (s :: ρ) Q = ((wCall g_is_step [false, false] (wCons (wVar 0) (wCons (wVar 2) wNil)))) (s :: ρ) Q := rfl
def rd_wrong_step : WS := (wRet (wFL 4 rg_first_wrong (wVar 1) lb_wrong_step_1 2 3))
abbrev Sp_wrong_step : Prop := SpD rd_wrong_step 4 2 g_wrong_step
local macro_rules | `(tactic| fold_at run_wrong_step) => `(tactic| simp_arith only [lb_wrong_step_1_c])
local macro_rules | `(tactic| fold_at go_wrong_step) => `(tactic| simp_arith! only [lb_wrong_step_1_c])
def ce_nets_is_row_1 : WE := (wCall g_is_between [false, false, false] (wCons (wVar 2) (wCons (wC (.int 0)) (wCons (wC (.int 99)) wNil))))
theorem ce_nets_is_row_1_c {s : Sl} {ρ : DEnv} {Q} : ce_nets_is_row_1 (s :: ρ) Q = ((wCall g_is_between [false, false, false] (wCons (wVar 2) (wCons (wC (.int 0)) (wCons (wC (.int 99)) wNil))))) (s :: ρ) Q := rfl
def cf_nets_is_row_1 : WT := wYes
theorem cf_nets_is_row_1_c {s : Sl} {ρ : DEnv} {Q} : cf_nets_is_row_1 (s :: ρ) Q = (wYes) (s :: ρ) Q := rfl
def rd_nets_is_row : WS := (wRet (wAnd (wCall g_is_tuple_of [false, false] (wCons (wVar 1) (wCons (wVar 0) wNil))) (wCB gAll (wCons (wLc (wSeqI (wVar 1)) (gNm 2) cf_nets_is_row_1 ce_nets_is_row_1 [2]) wNil))))
abbrev Sp_nets_is_row : Prop := SpD rd_nets_is_row 3 2 g_nets_is_row
local macro_rules | `(tactic| fold_at run_nets_is_row) => `(tactic| simp_arith only [ce_nets_is_row_1_c, cf_nets_is_row_1_c])
local macro_rules | `(tactic| fold_at go_nets_is_row) => `(tactic| simp_arith! only [ce_nets_is_row_1_c, cf_nets_is_row_1_c])
def rd_check_lanes : WS := (wIf (wNotT (wTru (wCall g_is_lanes [false] (wCons (wVar 0) wNil)))) wNever wNext)
abbrev Sp_check_lanes : Prop := SpD rd_check_lanes 1 1 g_check_lanes
local macro_rules | `(tactic| fold_at run_check_lanes) => `(tactic| simp_arith only [id_eq])
local macro_rules | `(tactic| fold_at go_check_lanes) => `(tactic| simp_arith! only [id_eq])
def sq_check_steps_1 : WS := (wIf (wOp2T gIsN (wVar 2) (wC .none)) wNever wNext)
theorem sq_check_steps_1_c {s : Sl} {ρ : DEnv} {Q} : sq_check_steps_1 (s :: ρ) Q = ((wIf (wOp2T gIsN (wVar 2) (wC .none)) wNever wNext)) (s :: ρ) Q := rfl
def sq_check_steps_2 : WS := (wSeq (wAsg (wCall g_wrong_step [false, false] (wCons (wVar 0) (wCons (wVar 1) wNil))) (gNm 2)) sq_check_steps_1)
theorem sq_check_steps_2_c {s : Sl} {ρ : DEnv} {Q} : sq_check_steps_2 (s :: ρ) Q = ((wSeq (wAsg (wCall g_wrong_step [false, false] (wCons (wVar 0) (wCons (wVar 1) wNil))) (gNm 2)) sq_check_steps_1)) (s :: ρ) Q := rfl
def rd_check_steps : WS := (wSeq (wIf (wNotT (wTru (wCall g_is_some_row [false, false, false] (wCons (wVar 1) (wCons (wC (.int 0)) (wCons (wC (.int 24)) wNil)))))) wNever wNext) sq_check_steps_2)
abbrev Sp_check_steps : Prop := SpD rd_check_steps 3 2 g_check_steps
local macro_rules | `(tactic| fold_at run_check_steps) => `(tactic| simp_arith only [sq_check_steps_1_c, sq_check_steps_2_c])
local macro_rules | `(tactic| fold_at go_check_steps) => `(tactic| simp_arith! only [sq_check_steps_1_c, sq_check_steps_2_c])
def sq_check_net_1 : WS := (wDrop (wCall g_check_steps [false, false] (wCons (wVar 0) (wCons (wVar 1) wNil))))
theorem sq_check_net_1_c {s : Sl} {ρ : DEnv} {Q} : sq_check_net_1 (s :: ρ) Q = ((wDrop (wCall g_check_steps [false, false] (wCons (wVar 0) (wCons (wVar 1) wNil))))) (s :: ρ) Q := rfl
def rd_check_net : WS := (wSeq (wDrop (wCall g_check_lanes [false] (wCons (wVar 0) wNil))) sq_check_net_1)
abbrev Sp_check_net : Prop := SpD rd_check_net 2 2 g_check_net
local macro_rules | `(tactic| fold_at run_check_net) => `(tactic| simp_arith only [sq_check_net_1_c])
local macro_rules | `(tactic| fold_at go_check_net) => `(tactic| simp_arith! only [sq_check_net_1_c])
def rd_check_row : WS := (wIf (wNotT (wTru (wCall g_nets_is_row [false, false] (wCons (wVar 0) (wCons (wVar 1) wNil))))) wNever wNext)
abbrev Sp_check_row : Prop := SpD rd_check_row 2 2 g_check_row
local macro_rules | `(tactic| fold_at run_check_row) => `(tactic| simp_arith only [id_eq])
local macro_rules | `(tactic| fold_at go_check_row) => `(tactic| simp_arith! only [id_eq])
def rd_check_lane : WS := (wIf (wNotT (wTru (wCall g_is_lane [false, false] (wCons (wVar 0) (wCons (wVar 1) wNil))))) wNever wNext)
abbrev Sp_check_lane : Prop := SpD rd_check_lane 2 2 g_check_lane
local macro_rules | `(tactic| fold_at run_check_lane) => `(tactic| simp_arith only [id_eq])
local macro_rules | `(tactic| fold_at go_check_lane) => `(tactic| simp_arith! only [id_eq])
def bt_end_by_1 : WS := (wAsg (wTup (wCons (wOp2 gIx (wVar 2) (wVar 4)) (wCons (wOp2 gIx (wVar 2) (wVar 3)) wNil))) (gTp 2 (gsCons (gSb 2 (wVar 3)) (gsCons (gSb 2 (wVar 4)) gsNil))))
theorem bt_end_by_1_c {s : Sl} {ρ : DEnv} {Q} : bt_end_by_1 (s :: ρ) Q = ((wAsg (wTup (wCons (wOp2 gIx (wVar 2) (wVar 4)) (wCons (wOp2 gIx (wVar 2) (wVar 3)) wNil))) (gTp 2 (gsCons (gSb 2 (wVar 3)) (gsCons (gSb 2 (wVar 4)) gsNil))))) (s :: ρ) Q := rfl
def fb_end_by_1 : WS := (wIf (wOp2T gGtA (wOp2 gIx (wVar 2) (wVar 3)) (wOp2 gIx (wVar 2) (wVar 4))) bt_end_by_1 wNext)
theorem fb_end_by_1_c {s : Sl} {ρ : DEnv} {Q} : fb_end_by_1 (s :: ρ) Q = ((wIf (wOp2T gGtA (wOp2 gIx (wVar 2) (wVar 3)) (wOp2 gIx (wVar 2) (wVar 4))) bt_end_by_1 wNext)) (s :: ρ) Q := rfl
def sq_end_by_1 : WS := (wRet (wCB gTuple (wCons (wVar 2) wNil)))
theorem sq_end_by_1_c {s : Sl} {ρ : DEnv} {Q} : sq_end_by_1 (s :: ρ) Q = ((wRet (wCB gTuple (wCons (wVar 2) wNil)))) (s :: ρ) Q := rfl
def sq_end_by_2 : WS := (wSeq (wFor (wCI [3, 4] (wSeqI (wVar 0))) (gTp 2 (gsCons (gNm 3) (gsCons (gNm 4) gsNil))) (wEnd [3, 4] fb_end_by_1)) sq_end_by_1)
theorem sq_end_by_2_c {s : Sl} {ρ : DEnv} {Q} : sq_end_by_2 (s :: ρ) Q = ((wSeq (wFor (wCI [3, 4] (wSeqI (wVar 0))) (gTp 2 (gsCons (gNm 3) (gsCons (gNm 4) gsNil))) (wEnd [3, 4] fb_end_by_1)) sq_end_by_1)) (s :: ρ) Q := rfl
def rd_end_by : WS := (wSeq (wSet 2 (wCB gList (wCons (wVar 1) wNil))) sq_end_by_2)
abbrev Sp_end_by : Prop := SpD rd_end_by 5 2 g_end_by
local macro_rules | `(tactic| fold_at run_end_by) => `(tactic| simp_arith only [bt_end_by_1_c, fb_end_by_1_c, sq_end_by_1_c, sq_end_by_2_c])
local macro_rules | `(tactic| fold_at go_end_by) => `(tactic| simp_arith! only [bt_end_by_1_c, fb_end_by_1_c, sq_end_by_1_c, sq_end_by_2_c])
def sq_end_1 : WS := (wRet (wCall g_end_by [false, false] (wCons (wVar 1) (wCons (wVar 2) wNil))))
theorem sq_end_1_c {s : Sl} {ρ : DEnv} {Q} : sq_end_1 (s :: ρ) Q = ((wRet (wCall g_end_by [false, false] (wCons (wVar 1) (wCons (wVar 2) wNil))))) (s :: ρ) Q := rfl
def sq_end_2 : WS := (wSeq (wDrop (wCall g_check_row [false, false] (wCons (wVar 0) (wCons (wVar 2) wNil)))) sq_end_1)
theorem sq_end_2_c {s : Sl} {ρ : DEnv} {Q} : sq_end_2 (s :: ρ) Q = ((wSeq (wDrop (wCall g_check_row [false, false] (wCons (wVar 0) (wCons (wVar 2) wNil)))) sq_end_1)) (s :: ρ) Q := rfl
def rd_end : WS := (wSeq (wDrop (wCall g_check_net [false, false] (wCons (wVar 0) (wCons (wVar 1) wNil)))) sq_end_2)
abbrev Sp_end : Prop := SpD rd_end 3 3 g_end
local macro_rules | `(tactic| fold_at run_end) => `(tactic| simp_arith only [sq_end_1_c, sq_end_2_c])
local macro_rules | `(tactic| fold_at go_end) => `(tactic| simp_arith! only [sq_end_1_c, sq_end_2_c])
theorem sp_is_some_row : Sp_is_some_row := by
  rintro _ Qd ⟨d, a, b, rfl, hr, h⟩
  (refine ⟨rfl, ?_⟩; unfold rd_is_some_row)
  fold_at run_is_some_row
  unfold isiD
  rw [hr]
  cases d with
  | tuple ds =>
    simp only [tupR] at h
    show match decide (a ≤ (ds.length : Int)) with
      | true => Qd (DV.val (PyData.bool (decide ((ds.length : Int) ≤ b)))) [Arg.sh (PyData.tuple ds), Arg.sh (PyData.int a), Arg.sh (PyData.int b)]
      | false => Qd (DV.val (PyData.bool false)) [Arg.sh (PyData.tuple ds), Arg.sh (PyData.int a), Arg.sh (PyData.int b)]
    cases e : decide (a ≤ (ds.length : Int)) <;> rw [e] at h <;> exact h
  | _ => exact h
theorem sp_is_lanes : Sp_is_lanes := by
  rintro _ Qd ⟨L, rfl, hL, h⟩
  (refine ⟨rfl, ?_⟩; unfold rd_is_lanes)
  fold_at go_is_lanes
  rw [intIn_t hL]; exact h
theorem sp_is_lane : Sp_is_lane := by
  rintro _ Qd ⟨L, v, rfl, hv, h⟩
  (refine ⟨rfl, ?_⟩; unfold rd_is_lane)
  fold_at go_is_lane
  rw [intIn_t hv]; exact h
theorem sp_check_lanes : Sp_check_lanes := by
  rintro _ Qd ⟨L, rfl, hL, h⟩
  (refine ⟨rfl, ?_⟩; unfold rd_check_lanes)
  fold_at go_check_lanes
theorem sp_check_lane : Sp_check_lane := by
  rintro _ Qd ⟨L, v, rfl, hv, h⟩
  (refine ⟨rfl, ?_⟩; unfold rd_check_lane)
  fold_at go_check_lane
theorem sp_check_net : Sp_check_net := by
  rintro _ Qd ⟨L, st, rfl, ⟨hL, hS⟩, h⟩
  (refine ⟨rfl, ?_⟩; unfold rd_check_net)
  fold_at go_check_net
theorem sp_check_row : Sp_check_row := by
  rintro _ Qd ⟨L, ns, rfl, hL, hS, h⟩
  (refine ⟨rfl, ?_⟩; unfold rd_check_row)
  fold_at go_check_row
theorem sp_end : Sp_end := by
  rintro _ Qd ⟨L, st, ns, rfl, ⟨hL, hS⟩, hR, h⟩
  have hN : OkN L st := ⟨hL, hS⟩
  have hS' : OkS ns.length st := by rw [hR.1]; exact hS
  (refine ⟨rfl, ?_⟩; unfold rd_end)
  fold_at go_end
theorem sp_check_steps : Sp_check_steps := by
  rintro _ Qd ⟨L, st, rfl, hS, h⟩
  (refine ⟨rfl, ?_⟩; unfold rd_check_steps)
  fold_at go_check_steps
  rw [tupR_t ⟨by omega, by rw [List.length_map]; have := hS.1; omega⟩]
  fold_at go_check_steps
theorem sp_is_step : Sp_is_step := by
  rintro _ Qd ⟨L, p, rfl, ⟨h1, h2, h3⟩, h⟩
  (refine ⟨rfl, ?_⟩; unfold rd_is_step)
  fold_at go_is_step
  rw [decide_eq_true h2]; exact h
theorem sp_nets_is_row : Sp_nets_is_row := by
  rintro _ Qd ⟨L, ns, rfl, hL, hR, h⟩
  (refine ⟨rfl, ?_⟩; unfold rd_nets_is_row)
  fold_at go_nets_is_row
  rw [tupN_t (by rw [List.length_map]; exact hR.1)]
  fold_at go_nets_is_row
  refine lc_map (fun _ => .bool true) ns (fun a K K0 ha hK => ?_) ?_ ?_
  · fold_at go_nets_is_row
    rw [intIn_t (hR.2 a ha)]
    exact hK _ rfl
  · have := hR.1; have := hL.2; omega
  · refine boolsK_map (f := fun _ => true) ?_
    rw [show (ns.map fun _ => true).all id = true by simp]
    exact h
/-! first_wrong, where all are right -/
theorem fw_all {fd : D} {L : LD} {ds : List D} {P : DP} (hL : ∀ (i : Nat) (d : D) (k : DV → Prop), ds[i]? = some d → k (.val (.bool true)) → L d (.tuple (ds.take i)) k) (hP : P.rt (.val .none) [.sh (.tuple ds), .sh fd, .emp, .emp]) :
    rg_first_wrong fd L [.sh (.tuple ds), .sh fd, .emp, .emp] P := by
  unfold rg_first_wrong
  fold_at run_first_wrong
  have e := enum_map (fun d : D => d) 0 ds
  rw [List.map_id'] at e
  rw [e]
  refine for_all _ (fun a K ha hK => ?_) hP
  obtain ⟨h1, h2, h3, h4⟩ := enI_mem ha
  fold_at run_first_wrong
  rw [cut_to]
  refine hL a.1 a.2 _ (by simpa using h3) ?_
  fold_at run_first_wrong
  exact hK
theorem sp_wrong_step : Sp_wrong_step := by
  rintro _ Qd ⟨L, st, rfl, hS, h⟩
  (refine ⟨rfl, ?_⟩; unfold rd_wrong_step)
  fold_at run_wrong_step
  intro fd
  refine fw_all (fun i d k hd hk => ?_) ?_
  · rw [List.getElem?_map] at hd
    cases e : st[i]? with
    | none => rw [e] at hd; cases hd
    | some p =>
      rw [e] at hd
      cases hd
      have hp := hS.2 p (List.mem_of_getElem? e)
      fold_at go_wrong_step
  · fold_at run_wrong_step
    exact h
theorem sp_end_by : Sp_end_by := by
  rintro _ Qd ⟨st, ns, rfl, hS, h⟩
  (refine ⟨rfl, ?_⟩; unfold rd_end_by)
  fold_at run_end_by
  refine for_fold (fun f : List Int => [.sh (stD st), .sh (nsD ns), .own (.lst (f.map .int)), .emp, .emp]) exch (fun f as => f.length = ns.length ∧ ∀ p ∈ as, OkP ns.length p) (fun f p as K hJ hK => ?_) st ns ⟨rfl, hS.2⟩ fun _ => ?_
  · obtain ⟨hl, hp⟩ := hJ
    obtain ⟨o1, o2, o3⟩ := hp p List.mem_cons_self
    have hK := hK ⟨by rw [exch_len]; exact hl, fun q hq => hp q (List.mem_cons_of_mem _ hq)⟩
    have g1 := atI_at o1 (ints_get (xs := f) (i := p.1.toNat) (by omega))
    have g2 := atI_at (show 0 ≤ p.2 by omega) (ints_get (xs := f) (i := p.2.toNat) (by omega))
    have i1 : ixN (f.map PyData.int).length p.1 = some p.1.toNat := ixN_at o1 (by rw [List.length_map]; omega)
    have i2 : ∀ x, ixN ((f.map PyData.int).set p.1.toNat x).length p.2 = some p.2.toNat := fun x => ixN_at (show 0 ≤ p.2 by omega) (by rw [List.length_set, List.length_map]; omega)
    fold_at run_end_by
    simp_arith only [g1, g2, i1, i2]
    unfold exch at hK
    by_cases hx : f.getD p.2.toNat 0 < f.getD p.1.toNat 0
    · rw [if_pos hx, List.map_set, List.map_set] at hK
      simp_arith only [decide_eq_true hx, i2]
      exact ⟨by decide, hK⟩
    · rw [if_neg hx] at hK
      simp_arith only [decide_eq_false hx]
      exact hK
  · fold_at run_end_by
    exact h

set_option maxRecDepth 100000
set_option maxHeartbeats 4000000

open PySem PySem.Spec L2 LamX DL
/-! ### mark rows, sorted rows -/
abbrev rwsD (ts : List (List Int)) : D := .tuple (ts.map rwD)
def marksF : Nat → List (List Int)
  | 0 => [[]]
  | n + 1 => (marksF n).flatMap fun r => [r ++ [0], r ++ [1]]
theorem marksF_len : ∀ n, (marksF n).length = 2 ^ n
  | 0 => rfl
  | n + 1 => by
    have key : ∀ l : List (List Int), (l.flatMap fun r => [r ++ [0], r ++ [1]]).length = 2 * l.length := fun l => by
      induction l with
      | nil => rfl
      | cons a l ih => rw [List.flatMap_cons, List.length_append, ih]; show 2 + 2 * l.length = 2 * (l.length + 1); omega
    unfold marksF
    rw [key, marksF_len n, Nat.pow_succ]; omega
theorem marksF_small {n : Nat} (h : n ≤ 6) : (marksF n).length ≤ 64 := by
  rw [marksF_len]
  exact Nat.pow_le_pow_right (by decide) h
theorem marksF_row : ∀ {n : Nat} {r : List Int}, r ∈ marksF n → r.length = n ∧ ∀ x ∈ r, x = 0 ∨ x = 1
  | 0, r, h => by
    unfold marksF at h
    rw [List.mem_singleton.mp h]
    exact ⟨rfl, fun x hx => nomatch hx⟩
  | n + 1, r, h => by
    unfold marksF at h
    obtain ⟨q, hq, hr⟩ := List.mem_flatMap.mp h
    obtain ⟨l, m⟩ := marksF_row hq
    rcases List.mem_cons.mp hr with e | hr
    · rw [e]; exact ⟨by rw [List.length_append, l]; rfl, fun x hx => (List.mem_append.mp hx).elim (m x) fun z => .inl (List.mem_singleton.mp z)⟩
    · rw [List.mem_singleton.mp hr]; exact ⟨by rw [List.length_append, l]; rfl, fun x hx => (List.mem_append.mp hx).elim (m x) fun z => .inr (List.mem_singleton.mp z)⟩
theorem marksF_mem : ∀ {n : Nat} {r : List Int}, r.length = n → (∀ x ∈ r, x = 0 ∨ x = 1) → r ∈ marksF n
  | 0, r, h, _ => by rw [List.length_eq_zero_iff.mp h]; exact List.mem_singleton.mpr rfl
  | n + 1, r, h, m => by
    have hne : r ≠ [] := fun e => by rw [e] at h; cases h
    obtain ⟨q, x, e⟩ : ∃ q x, r = q ++ [x] := ⟨r.dropLast, r.getLast hne, (List.dropLast_concat_getLast hne).symm⟩
    subst e
    rw [List.length_append] at h
    have hq := marksF_mem (n := n) (r := q) (by simpa using h) fun y hy => m y (List.mem_append.mpr (.inl hy))
    unfold marksF
    refine List.mem_flatMap.mpr ⟨q, hq, ?_⟩
    rcases m x (List.mem_append.mpr (.inr (List.mem_singleton.mpr rfl))) with e | e
    · rw [e]; exact List.mem_cons_self
    · rw [e]; exact List.mem_cons_of_mem _ List.mem_cons_self
def srt (ns : List Int) : Bool := (ns.zip (ns.drop 1)).all fun p => decide (p.1 ≤ p.2)
theorem srt_cons {a b : Int} {l : List Int} : srt (a :: b :: l) = (decide (a ≤ b) && srt (b :: l)) := rfl
theorem srt_iff : ∀ {ns : List Int}, srt ns = true ↔ ns.Pairwise (· ≤ ·)
  | [] => by simp [srt]
  | [a] => by simp [srt]
  | a :: b :: l => by
    rw [srt_cons, Bool.and_eq_true, decide_eq_true_eq, srt_iff (ns := b :: l)]
    constructor
    · rintro ⟨h1, h2⟩
      refine List.pairwise_cons.mpr ⟨fun x hx => ?_, h2⟩
      rcases List.mem_cons.mp hx with e | hx
      · rw [e]; exact h1
      · have := (List.pairwise_cons.mp h2).1 x hx
        omega
    · intro h
      obtain ⟨h1, h2⟩ := List.pairwise_cons.mp h
      exact ⟨h1 b List.mem_cons_self, h2⟩
def isort (ns : List Int) : List Int := ns.mergeSort fun a b => decide (a ≤ b)
theorem isort_srt (ns : List Int) : (isort ns).Pairwise (· ≤ ·) := by
  have := List.pairwise_mergeSort (le := fun a b : Int => decide (a ≤ b)) (fun a b c h1 h2 => by simp at h1 h2 ⊢; omega) (fun a b => by simp; omega) ns
  exact this.imp fun h => by simpa using h
theorem isort_perm (ns : List Int) : (isort ns).Perm ns := List.mergeSort_perm _ _
theorem srt_uniq {xs ys : List Int} (p : xs.Perm ys) (h1 : xs.Pairwise (· ≤ ·)) (h2 : ys.Pairwise (· ≤ ·)) : xs = ys :=
  p.eq_of_pairwise (fun a b _ _ h h' => by omega) h1 h2
theorem isort_eq {ns : List Int} : isort ns = ns ↔ srt ns = true := by
  rw [srt_iff]
  constructor
  · intro e; rw [← e]; exact isort_srt ns
  · intro h; exact srt_uniq (isort_perm ns) (isort_srt ns) h
theorem srtD_ints (ns : List Int) : srtD (ns.map .int) = (isort ns).map .int := by
  unfold srtD isort
  refine (List.map_mergeSort (fun a _ b _ => ?_)).symm
  have := congrFun (congrFun (PySem.W.dataLe_int (fun b : Int => b)) a) b
  exact this.symm
theorem srtb_ints (ns : List Int) : Srtb (ns.map .int) := by
  refine ⟨PySem.W.AllAlike.of (enc := PyData.int) fun b b' => rfl, PySem.W.Sortable.others (enc := PyData.int) fun b => ⟨by simp, by simp⟩, ?_, fun x hx => ?_⟩
  · induction ns with
    | nil => rfl
    | cons a l ih => rw [List.map_cons, PyData.canLayAll0, ih]; rfl
  · obtain ⟨a, _, e⟩ := List.mem_map.mp hx
    rw [← e]; exact Nat.zero_le _
theorem eqv_ints : ∀ (xs ys : List Int), PyData.eqvAll (xs.map .int) (ys.map .int) = decide (xs = ys)
  | [], [] => by simp [PyData.eqvAll]
  | [], _ :: _ => by simp [PyData.eqvAll]
  | _ :: _, [] => by simp [PyData.eqvAll]
  | a :: xs, b :: ys => by
    rw [List.map_cons, List.map_cons, PyData.eqvAll, eqv_ints xs ys]
    show (a == b && _) = _
    by_cases h : a = b
    · subst h; simp
    · simp [h]
theorem eqv_lst {xs ys : List Int} : PyData.eqv (.list (xs.map .int)) (.list (ys.map .int)) = decide (xs = ys) := by rw [PyData.eqv, eqv_ints]
theorem eqv_tup {xs ys : List Int} : PyData.eqv (rwD xs) (rwD ys) = decide (xs = ys) := by rw [PyData.eqv, eqv_ints]
/-- that lists, tuples of whole numbers may be compared -/
theorem shp_ints (ns : List Int) : PyData.canLayAll0 (ns.map .int) = true ∧ PyData.depthAll (ns.map .int) = 0 := by
  induction ns with
  | nil => exact ⟨rfl, by simp [PyData.depthAll]⟩
  | cons a l ih => exact ⟨by rw [List.map_cons, PyData.canLayAll0, ih.1]; rfl, by rw [List.map_cons, PyData.depthAll, ih.2]; rfl⟩
theorem shp_lst (ns : List Int) : SeqAt.shaped (.list (ns.map .int)) = true := by
  unfold SeqAt.shaped
  rw [PyData.canLay0, PyData.depth, (shp_ints ns).1, (shp_ints ns).2]; rfl
theorem shp_tup (ns : List Int) : SeqAt.shaped (rwD ns) = true := by
  unfold SeqAt.shaped
  rw [PyData.canLay0, PyData.depth, (shp_ints ns).1, (shp_ints ns).2]; rfl
theorem shp_prs (st : List (Int × Int)) : PyData.canLayAll0 (st.map pD) = true ∧ PyData.depthAll (st.map pD) ≤ 1 := by
  induction st with
  | nil => exact ⟨rfl, by simp [PyData.depthAll]⟩
  | cons a l ih =>
    refine ⟨by rw [List.map_cons, PyData.canLayAll0, ih.1, PyData.canLay0]; rfl, ?_⟩
    rw [List.map_cons, PyData.depthAll, PyData.depth]
    have := ih.2
    have e : PyData.depthAll [.int a.1, .int a.2] = 0 := by simp [PyData.depthAll, PyData.depth]
    rw [e]; omega
theorem shp_prsL (st : List (Int × Int)) : SeqAt.shaped (.list (st.map pD)) = true := by
  unfold SeqAt.shaped
  have := (shp_prs st).2
  rw [PyData.canLay0, PyData.depth, (shp_prs st).1, decide_eq_true (show PyData.depthAll (st.map pD) + 1 ≤ 64 by omega)]; rfl
theorem shp_prsT (st : List (Int × Int)) : SeqAt.shaped (stD st) = true := by
  unfold SeqAt.shaped
  have := (shp_prs st).2
  rw [PyData.canLay0, PyData.depth, (shp_prs st).1, decide_eq_true (show PyData.depthAll (st.map pD) + 1 ≤ 64 by omega)]; rfl
theorem eqv_prs : ∀ (xs ys : List (Int × Int)), PyData.eqvAll (xs.map pD) (ys.map pD) = decide (xs = ys)
  | [], [] => by simp [PyData.eqvAll]
  | [], _ :: _ => by simp [PyData.eqvAll]
  | _ :: _, [] => by simp [PyData.eqvAll]
  | a :: xs, b :: ys => by
    rw [List.map_cons, List.map_cons, PyData.eqvAll, eqv_prs xs ys]
    have e : PyData.eqv (pD a) (pD b) = decide (a = b) := by
      rw [PyData.eqv]
      show (a.1 == b.1 && (a.2 == b.2 && true)) = _
      obtain ⟨a1, a2⟩ := a
      obtain ⟨b1, b2⟩ := b
      by_cases h1 : a1 = b1 <;> by_cases h2 : a2 = b2 <;> simp [h1, h2]
    rw [e]
    by_cases h : a = b
    · subst h; simp
    · simp [h]
theorem eqv_prsT {xs ys : List (Int × Int)} : PyData.eqv (stD xs) (stD ys) = decide (xs = ys) := by rw [PyData.eqv, eqv_prs]
theorem eqv_prsL {xs ys : List (Int × Int)} : PyData.eqv (.list (xs.map pD)) (.list (ys.map pD)) = decide (xs = ys) := by rw [PyData.eqv, eqv_prs]
theorem eqv_lnil : ∀ {xs : List D}, PyData.eqv (.list xs) (.list []) = xs.isEmpty
  | [] => by simp [PyData.eqv, PyData.eqvAll]
  | _ :: _ => by simp [PyData.eqv, PyData.eqvAll]
theorem eqv_tnil : ∀ {xs : List D}, PyData.eqv (.tuple xs) (.tuple []) = xs.isEmpty
  | [] => by simp [PyData.eqv, PyData.eqvAll]
  | _ :: _ => by simp [PyData.eqv, PyData.eqvAll]
def optD {α : Type} (f : α → D) : Option α → D
  | none => .none
  | some x => f x
def sortsB (n : Nat) (st : List (Int × Int)) : Bool := (marksF n).all fun r => srt (endF st r)
def gainF (n : Nat) (st : List (Int × Int)) : Option (List Int) := (marksF n).find? fun r => !srt (endF st r)
theorem gain_none {n : Nat} {st : List (Int × Int)} : (gainF n st).isNone = sortsB n st := by
  unfold gainF sortsB
  induction marksF n with
  | nil => rfl
  | cons r l ih =>
    rw [List.find?_cons, List.all_cons]
    cases srt (endF st r) with
    | true => exact ih
    | false => rfl
def OkO (L : Int) (ns : List Int) : Prop := ns.Perm (upI 0 L.toNat)
theorem OkO.row {L : Int} {ns : List Int} (hL : OkL L) (h : OkO L ns) : OkR L ns := ⟨by have := h.length_eq; rw [upI_len] at this; have := hL.1; omega, fun n hn => by have := upI_mem (h.mem_iff.mp hn); have := hL.2; omega⟩
def g_is_sorted_by : DSp := fun as k => ∃ ns, as = [.sh (nsD ns)] ∧ ns.length ≤ 1000 ∧ k (.val (.bool (srt ns))) as
def g_all_marks : DSp := fun as k => ∃ L, as = [.sh (.int L)] ∧ OkL L ∧ k (.new (.lst ((marksF L.toNat).map rwD))) as
def g_nets_gainsay_by : DSp := fun as k => ∃ L st, as = [.sh (.int L), .sh (stD st)] ∧ OkN L st ∧ k (.val (optD rwD (gainF L.toNat st))) as
def g_sorts_by : DSp := fun as k => ∃ L st, as = [.sh (.int L), .sh (stD st)] ∧ OkN L st ∧ k (.val (.bool (sortsB L.toNat st))) as
def g_sorts : DSp := fun as k => ∃ L st, as = [.sh (.int L), .sh (stD st)] ∧ OkN L st ∧ k (.val (.bool (sortsB L.toNat st))) as
def g_is_order : DSp := fun as k => ∃ L ns, as = [.sh (.int L), .sh (nsD ns)] ∧ OkL L ∧ OkO L ns ∧ k (.val (.bool true)) as
def g_check_order : DSp := fun as k => ∃ L ns, as = [.sh (.int L), .sh (nsD ns)] ∧ OkL L ∧ OkO L ns ∧ k (.val .none) as
def ce_is_sorted_by_1 : WE := (wOp2 gLeA (wVar 1) (wVar 2))
theorem ce_is_sorted_by_1_c {s : Sl} {ρ : DEnv} {Q} : ce_is_sorted_by_1 (s :: ρ) Q = ((wOp2 gLeA (wVar 1) (wVar 2))) (s :: ρ) Q := rfl
def cf_is_sorted_by_1 : WT := wYes
theorem cf_is_sorted_by_1_c {s : Sl} {ρ : DEnv} {Q} : cf_is_sorted_by_1 (s :: ρ) Q = (wYes) (s :: ρ) Q := rfl
def rd_is_sorted_by : WS := (wRet (wCB gAll (wCons (wLc (wZipI (wCons (wVar 0) (wCons (wSl (wVar 0) (wPt (wC (.int 1))) wNo) wNil))) (gTp 2 (gsCons (gNm 1) (gsCons (gNm 2) gsNil))) cf_is_sorted_by_1 ce_is_sorted_by_1 [1, 2]) wNil)))
abbrev Sp_is_sorted_by : Prop := SpD rd_is_sorted_by 3 1 g_is_sorted_by
local macro_rules | `(tactic| fold_at run_is_sorted_by) => `(tactic| simp_arith only [ce_is_sorted_by_1_c, cf_is_sorted_by_1_c])
local macro_rules | `(tactic| fold_at go_is_sorted_by) => `(tactic| simp_arith! only [ce_is_sorted_by_1_c, cf_is_sorted_by_1_c])
def ce_all_marks_1 : WE := (wTup (wStar (wVar 3) (wCons (wVar 4) wNil)))
theorem ce_all_marks_1_c {s : Sl} {ρ : DEnv} {Q} : ce_all_marks_1 (s :: ρ) Q = ((wTup (wStar (wVar 3) (wCons (wVar 4) wNil)))) (s :: ρ) Q := rfl
def fb_all_marks_1 : WS := (wSet 1 (wLc2 (wSeqI (wVar 1)) (gNm 3) wYes (wSeqI (wTup (wCons (wC (.int 0)) (wCons (wC (.int 1)) wNil)))) (gNm 4) wYes ce_all_marks_1 [3, 4] [4]))
theorem fb_all_marks_1_c {s : Sl} {ρ : DEnv} {Q} : fb_all_marks_1 (s :: ρ) Q = ((wSet 1 (wLc2 (wSeqI (wVar 1)) (gNm 3) wYes (wSeqI (wTup (wCons (wC (.int 0)) (wCons (wC (.int 1)) wNil)))) (gNm 4) wYes ce_all_marks_1 [3, 4] [4]))) (s :: ρ) Q := rfl
def sq_all_marks_1 : WS := (wRet (wVar 1))
theorem sq_all_marks_1_c {s : Sl} {ρ : DEnv} {Q} : sq_all_marks_1 (s :: ρ) Q = ((wRet (wVar 1))) (s :: ρ) Q := rfl
def sq_all_marks_2 : WS := (wSeq (wFor (wCI [2, 3, 4] (wRng1 (wCons (wVar 0) wNil))) (gNm 2) (wEnd [2, 3, 4] fb_all_marks_1)) sq_all_marks_1)
theorem sq_all_marks_2_c {s : Sl} {ρ : DEnv} {Q} : sq_all_marks_2 (s :: ρ) Q = ((wSeq (wFor (wCI [2, 3, 4] (wRng1 (wCons (wVar 0) wNil))) (gNm 2) (wEnd [2, 3, 4] fb_all_marks_1)) sq_all_marks_1)) (s :: ρ) Q := rfl
def rd_all_marks : WS := (wSeq (wSet 1 (wLst (wCons (wTup wNil) wNil))) sq_all_marks_2)
abbrev Sp_all_marks : Prop := SpD rd_all_marks 5 1 g_all_marks
local macro_rules | `(tactic| fold_at run_all_marks) => `(tactic| simp_arith only [ce_all_marks_1_c, fb_all_marks_1_c, sq_all_marks_1_c, sq_all_marks_2_c])
local macro_rules | `(tactic| fold_at go_all_marks) => `(tactic| simp_arith! only [ce_all_marks_1_c, fb_all_marks_1_c, sq_all_marks_1_c, sq_all_marks_2_c])
def bt_nets_gainsay_by_1 : WS := (wRet (wVar 2))
theorem bt_nets_gainsay_by_1_c {s : Sl} {ρ : DEnv} {Q} : bt_nets_gainsay_by_1 (s :: ρ) Q = ((wRet (wVar 2))) (s :: ρ) Q := rfl
def fb_nets_gainsay_by_1 : WS := (wIf (wNotT (wTru (wCall g_is_sorted_by [false] (wCons (wCall g_end_by [false, false] (wCons (wVar 1) (wCons (wVar 2) wNil))) wNil)))) bt_nets_gainsay_by_1 wNext)
theorem fb_nets_gainsay_by_1_c {s : Sl} {ρ : DEnv} {Q} : fb_nets_gainsay_by_1 (s :: ρ) Q = ((wIf (wNotT (wTru (wCall g_is_sorted_by [false] (wCons (wCall g_end_by [false, false] (wCons (wVar 1) (wCons (wVar 2) wNil))) wNil)))) bt_nets_gainsay_by_1 wNext)) (s :: ρ) Q := rfl
def sq_nets_gainsay_by_1 : WS := (wRet (wC .none))
theorem sq_nets_gainsay_by_1_c {s : Sl} {ρ : DEnv} {Q} : sq_nets_gainsay_by_1 (s :: ρ) Q = ((wRet (wC .none))) (s :: ρ) Q := rfl
def rd_nets_gainsay_by : WS := (wSeq (wFor (wCI [2] (wSeqI (wCall g_all_marks [false] (wCons (wVar 0) wNil)))) (gNm 2) (wEnd [2] fb_nets_gainsay_by_1)) sq_nets_gainsay_by_1)
abbrev Sp_nets_gainsay_by : Prop := SpD rd_nets_gainsay_by 3 2 g_nets_gainsay_by
local macro_rules | `(tactic| fold_at run_nets_gainsay_by) => `(tactic| simp_arith only [bt_nets_gainsay_by_1_c, fb_nets_gainsay_by_1_c, sq_nets_gainsay_by_1_c])
local macro_rules | `(tactic| fold_at go_nets_gainsay_by) => `(tactic| simp_arith! only [bt_nets_gainsay_by_1_c, fb_nets_gainsay_by_1_c, sq_nets_gainsay_by_1_c])
def rd_sorts_by : WS := (wRet (wOp2 gIs (wCall g_nets_gainsay_by [false, false] (wCons (wVar 0) (wCons (wVar 1) wNil))) (wC .none)))
abbrev Sp_sorts_by : Prop := SpD rd_sorts_by 2 2 g_sorts_by
local macro_rules | `(tactic| fold_at run_sorts_by) => `(tactic| simp_arith only [id_eq])
local macro_rules | `(tactic| fold_at go_sorts_by) => `(tactic| simp_arith! only [id_eq])
def sq_sorts_1 : WS := (wRet (wCall g_sorts_by [false, false] (wCons (wVar 0) (wCons (wVar 1) wNil))))
theorem sq_sorts_1_c {s : Sl} {ρ : DEnv} {Q} : sq_sorts_1 (s :: ρ) Q = ((wRet (wCall g_sorts_by [false, false] (wCons (wVar 0) (wCons (wVar 1) wNil))))) (s :: ρ) Q := rfl
def rd_sorts : WS := (wSeq (wDrop (wCall g_check_net [false, false] (wCons (wVar 0) (wCons (wVar 1) wNil)))) sq_sorts_1)
abbrev Sp_sorts : Prop := SpD rd_sorts 2 2 g_sorts
local macro_rules | `(tactic| fold_at run_sorts) => `(tactic| simp_arith only [sq_sorts_1_c])
local macro_rules | `(tactic| fold_at go_sorts) => `(tactic| simp_arith! only [sq_sorts_1_c])
def rd_is_order : WS := (wRet (wAnd (wCall g_nets_is_row [false, false] (wCons (wVar 0) (wCons (wVar 1) wNil))) (wOp2 gEq (wCB gSorted (wCons (wVar 1) wNil)) (wLsR (wR1 (wVar 0))))))
abbrev Sp_is_order : Prop := SpD rd_is_order 2 2 g_is_order
local macro_rules | `(tactic| fold_at run_is_order) => `(tactic| simp_arith only [id_eq])
local macro_rules | `(tactic| fold_at go_is_order) => `(tactic| simp_arith! only [id_eq])
def rd_check_order : WS := (wIf (wNotT (wTru (wCall g_is_order [false, false] (wCons (wVar 0) (wCons (wVar 1) wNil))))) wNever wNext)
abbrev Sp_check_order : Prop := SpD rd_check_order 2 2 g_check_order
local macro_rules | `(tactic| fold_at run_check_order) => `(tactic| simp_arith only [id_eq])
local macro_rules | `(tactic| fold_at go_check_order) => `(tactic| simp_arith! only [id_eq])
theorem sp_is_sorted_by : Sp_is_sorted_by := by
  rintro _ Qd ⟨ns, rfl, hl, h⟩
  (refine ⟨rfl, ?_⟩; unfold rd_is_sorted_by)
  fold_at run_is_sorted_by
  rw [show (1 : Int) = ((1 : Nat) : Int) from rfl, cut_from, ← List.map_drop]
  rw [pairs_map]
  refine lc_map (fun p => .bool (decide (p.1 ≤ p.2))) _ (fun a K K0 ha hK => ?_) (by have := hl; simp; omega) ?_
  · fold_at go_is_sorted_by
    exact hK _ rfl
  · fold_at go_is_sorted_by
    refine boolsK_map ?_
    rw [List.all_map]
    exact h
theorem marks2_len : ∀ l : List (List Int), (l.flatMap fun r => [rwD (r ++ [0]), rwD (r ++ [1])]).length = 2 * l.length
  | [] => rfl
  | a :: l => by rw [List.flatMap_cons, List.length_append, marks2_len l]; show 2 + 2 * l.length = 2 * (l.length + 1); omega
theorem fold_len {α : Type} : ∀ (l : List α) (n : Nat), l.foldl (fun n _ => n + 1) n = n + l.length
  | [], n => rfl
  | a :: l, n => by rw [List.foldl_cons, fold_len l, List.length_cons]; omega
theorem sp_all_marks : Sp_all_marks := by
  rintro _ Qd ⟨L, rfl, hL, h⟩
  obtain ⟨l1, l2⟩ := id hL
  (refine ⟨rfl, ?_⟩; unfold rd_all_marks)
  fold_at go_all_marks
  rw [rng_up]
  refine for_fold (fun n : Nat => [.sh (.int L), .own (.lst ((marksF n).map rwD)), .emp, .emp, .emp]) (fun n _ => n + 1) (fun n as => n + as.length ≤ 6) (fun n a as K hJ hK => ?_) (upI 0 L.toNat) 0 (by rw [upI_len]; omega) fun _ => ?_
  · simp only [List.length_cons] at hJ
    have hl := marksF_small (n := n) (by omega)
    fold_at go_all_marks
    have hK := hK (by omega)
    refine lc2_map (fun r => [rwD (r ++ [0]), rwD (r ++ [1])]) _ (fun r acc K1 K0 hr hl3 hk => ?_) ?_ ?_
    · have hl2 : r.length ≤ 6 := by have := (marksF_row hr).1; omega
      simp only [List.length_cons, List.length_nil] at hl3
      fold_at go_all_marks
      simp only [rwD, List.map_append, List.map_cons, List.map_nil] at hk
      simp only [List.append_assoc, List.cons_append, List.nil_append]
      exact hk _ rfl
    · rw [marks2_len]; omega
    · fold_at go_all_marks
      unfold marksF at hK
      rw [List.map_flatMap] at hK
      exact hK
  · fold_at go_all_marks
    rw [fold_len, upI_len, Nat.zero_add]
    exact h
theorem sp_nets_gainsay_by : Sp_nets_gainsay_by := by
  rintro _ Qd ⟨L, st, rfl, hN, h⟩
  obtain ⟨hL, hS⟩ := id hN
  obtain ⟨l1, l2⟩ := id hL
  (refine ⟨rfl, ?_⟩; unfold rd_nets_gainsay_by)
  fold_at go_nets_gainsay_by
  refine for_find (fun r => !srt (endF st r)) _ (fun r K hr hf hK => ?_) fun hn => ?_
  · have hl := (marksF_row hr).1
    have hS' : OkS r.length st := by rw [hl]; rw [show ((L.toNat : Nat) : Int) = L by omega]; exact hS
    have hl2 : (endF st r).length ≤ 1000 := by rw [endF_len]; omega
    fold_at go_nets_gainsay_by
    cases e : srt (endF st r) with
    | true => rw [e] at hK; exact hK rfl
    | false =>
      rw [e] at hf
      have hf := hf rfl
      unfold gainF at h
      rw [hf] at h
      exact h
  · fold_at go_nets_gainsay_by
    unfold gainF at h
    rw [hn] at h
    exact h
theorem isN_opt {α : Type} {f : α → D} {o : Option α} (hf : ∀ x, isNoneD (f x) = false) : isNoneD (optD f o) = o.isNone := by
  cases o with
  | none => rfl
  | some x => exact hf x
theorem upI_srt (lo : Int) (n : Nat) : (upI lo n).Pairwise (· ≤ ·) := by
  unfold upI
  rw [List.pairwise_map]
  exact List.pairwise_lt_range.imp fun h => by omega
theorem isort_order {L : Int} {ns : List Int} (h : OkO L ns) : isort ns = upI 0 L.toNat := srt_uniq ((isort_perm ns).trans h) (isort_srt ns) (upI_srt _ _)
theorem sp_sorts_by : Sp_sorts_by := by
  rintro _ Qd ⟨L, st, rfl, hN, h⟩
  (refine ⟨rfl, ?_⟩; unfold rd_sorts_by)
  fold_at go_sorts_by
  rw [isN_opt (fun _ => rfl), gain_none]
  exact h
theorem sp_sorts : Sp_sorts := by
  rintro _ Qd ⟨L, st, rfl, hN, h⟩
  (refine ⟨rfl, ?_⟩; unfold rd_sorts)
  fold_at go_sorts
theorem sp_is_order : Sp_is_order := by
  rintro _ Qd ⟨L, ns, rfl, hL, hO, h⟩
  have hR := hO.row hL
  have hs := srtb_ints ns
  (refine ⟨rfl, ?_⟩; unfold rd_is_order)
  fold_at go_is_order
  obtain ⟨l1, l2⟩ := id hL
  refine ⟨RgOk.of_le (by omega) (by omega) (by omega) (by omega), ?_⟩
  rw [srtD_ints, rng_up, Int.sub_zero, eqv_lst, isort_order hO, decide_eq_true rfl]
  exact ⟨shp_lst _, shp_lst _, h⟩
theorem sp_check_order : Sp_check_order := by
  rintro _ Qd ⟨L, ns, rfl, hL, hO, h⟩
  (refine ⟨rfl, ?_⟩; unfold rd_check_order)
  fold_at go_check_order

set_option maxRecDepth 100000
set_option maxHeartbeats 4000000

open PySem PySem.Spec L2 LamX DL
/-! ### the module counts: tests -/
def OkT (L : Int) (ts : List (List Int)) : Prop := ts.length ≤ 24 ∧ (∀ r ∈ ts, OkR L r) ∧ ts.Nodup

theorem in_rows {r : List Int} : ∀ {ts : List (List Int)}, ((ts.map rwD).any fun y => PyData.eqv y (rwD r)) = decide (r ∈ ts)
  | [] => by simp
  | t :: ts => by
    rw [List.map_cons, List.any_cons, in_rows (ts := ts), eqv_tup]
    by_cases h : t = r
    · subst h; simp
    · have : ¬ r = t := fun e => h e.symm
      simp [h, this]
theorem shp_rows (ts : List (List Int)) : PyData.canLayAll0 (ts.map rwD) = true ∧ PyData.depthAll (ts.map rwD) ≤ 1 := by
  induction ts with
  | nil => exact ⟨rfl, by simp [PyData.depthAll]⟩
  | cons t ts ih =>
    refine ⟨by rw [List.map_cons, PyData.canLayAll0, ih.1, PyData.canLay0, (shp_ints t).1]; rfl, ?_⟩
    rw [List.map_cons, PyData.depthAll, PyData.depth, (shp_ints t).2]
    have := ih.2
    omega
theorem shp_rowsT (ts : List (List Int)) : SeqAt.shaped (rwsD ts) = true := by
  unfold SeqAt.shaped
  have := (shp_rows ts).2
  rw [PyData.canLay0, PyData.depth, (shp_rows ts).1, decide_eq_true (show PyData.depthAll (ts.map rwD) + 1 ≤ 64 by omega)]; rfl
theorem shp_rowsL (ts : List (List Int)) : SeqAt.shaped (.list (ts.map rwD)) = true := by
  unfold SeqAt.shaped
  have := (shp_rows ts).2
  rw [PyData.canLay0, PyData.depth, (shp_rows ts).1, decide_eq_true (show PyData.depthAll (ts.map rwD) + 1 ≤ 64 by omega)]; rfl
theorem eqvAll_rows : ∀ (xs ys : List (List Int)), PyData.eqvAll (xs.map rwD) (ys.map rwD) = decide (xs = ys)
  | [], [] => by simp [PyData.eqvAll]
  | [], _ :: _ => by simp [PyData.eqvAll]
  | _ :: _, [] => by simp [PyData.eqvAll]
  | a :: xs, b :: ys => by
    rw [List.map_cons, List.map_cons, PyData.eqvAll, eqvAll_rows xs ys, eqv_tup]
    by_cases h : a = b
    · subst h; simp
    · simp [h]
theorem eqv_rowsT {xs ys : List (List Int)} : PyData.eqv (rwsD xs) (rwsD ys) = decide (xs = ys) := by rw [PyData.eqv, eqvAll_rows]
theorem eqv_rowsL {xs ys : List (List Int)} : PyData.eqv (.list (xs.map rwD)) (.list (ys.map rwD)) = decide (xs = ys) := by rw [PyData.eqv, eqvAll_rows]
def markF (t : Int) (r : List Int) : List Int := r.map fun x => if t ≤ x then 1 else 0
def marksOf (r : List Int) : List (List Int) := (upI 1 (r.length - 1)).map fun t => markF t r
def passB (st : List (Int × Int)) (ts : List (List Int)) : Bool := ts.all fun r => srt (endF st r)
def g_is_filled : DSp := fun as k => ∃ ts, as = [.sh (rwsD ts)] ∧ ts.length ≤ 24 ∧ k (.val (.bool true)) as
def g_wrong_row : DSp := fun as k => ∃ L ts, as = [.sh (.int L), .sh (rwsD ts)] ∧ OkL L ∧ OkT L ts ∧ k (.val .none) as
def g_check_test : DSp := fun as k => ∃ L ts, as = [.sh (.int L), .sh (rwsD ts)] ∧ OkL L ∧ OkT L ts ∧ k (.val .none) as
def g_passes_by : DSp := fun as k => ∃ L st ts, as = [.sh (stD st), .sh (rwsD ts)] ∧ OkN L st ∧ OkT L ts ∧ k (.val (.bool (passB st ts))) as
def g_passes : DSp := fun as k => ∃ L st ts, as = [.sh (.int L), .sh (stD st), .sh (rwsD ts)] ∧ OkN L st ∧ OkT L ts ∧ k (.val (.bool (passB st ts))) as
def g_marks_of_by : DSp := fun as k => ∃ L r, as = [.sh (rwD r)] ∧ OkL L ∧ OkR L r ∧ k (.val (rwsD (marksOf r))) as
def g_marks_of : DSp := fun as k => ∃ L r, as = [.sh (.int L), .sh (rwD r)] ∧ OkL L ∧ OkO L r ∧ k (.val (rwsD (marksOf r))) as
def g_marks : DSp := fun as k => ∃ L r t, as = [.sh (rwD r), .sh (.int t)] ∧ OkL L ∧ OkR L r ∧ (0 ≤ t ∧ t ≤ 99) ∧ k (.val (rwD (markF t r))) as
def rd_is_filled : WS := (wRet (wAnd (wIsi "tuple" (wVar 0)) (wOp2 gLeA (wCB gLen (wCons (wVar 0) wNil)) (wC (.int 24)))))
abbrev Sp_is_filled : Prop := SpD rd_is_filled 1 1 g_is_filled
local macro_rules | `(tactic| fold_at run_is_filled) => `(tactic| simp_arith only [id_eq])
local macro_rules | `(tactic| fold_at go_is_filled) => `(tactic| simp_arith! only [id_eq])
def lb_wrong_row_1 : WE := (wAnd (wCall g_nets_is_row [false, false] (wCons (wVar 0) (wCons (wVar 2) wNil))) (wOp2 (gIn true) (wVar 2) (wVar 3)))
theorem lb_wrong_row_1_c {s : Sl} {ρ : DEnv} {Q} : lb_wrong_row_1 (s :: ρ) Q = ((wAnd (wCall g_nets_is_row [false, false] (wCons (wVar 0) (wCons (wVar 2) wNil))) (wOp2 (gIn true) (wVar 2) (wVar 3)))) (s :: ρ) Q := rfl
def rd_wrong_row : WS := (wRet (wFL 4 rg_first_wrong (wVar 1) lb_wrong_row_1 2 3))
abbrev Sp_wrong_row : Prop := SpD rd_wrong_row 4 2 g_wrong_row
local macro_rules | `(tactic| fold_at run_wrong_row) => `(tactic| simp_arith only [lb_wrong_row_1_c])
local macro_rules | `(tactic| fold_at go_wrong_row) => `(tactic| simp_arith! only [lb_wrong_row_1_c])
def sq_check_test_1 : WS := (wIf (wOp2T gIsN (wVar 2) (wC .none)) wNever wNext)
theorem sq_check_test_1_c {s : Sl} {ρ : DEnv} {Q} : sq_check_test_1 (s :: ρ) Q = ((wIf (wOp2T gIsN (wVar 2) (wC .none)) wNever wNext)) (s :: ρ) Q := rfl
def sq_check_test_2 : WS := (wSeq (wAsg (wCall g_wrong_row [false, false] (wCons (wVar 0) (wCons (wVar 1) wNil))) (gNm 2)) sq_check_test_1)
theorem sq_check_test_2_c {s : Sl} {ρ : DEnv} {Q} : sq_check_test_2 (s :: ρ) Q = ((wSeq (wAsg (wCall g_wrong_row [false, false] (wCons (wVar 0) (wCons (wVar 1) wNil))) (gNm 2)) sq_check_test_1)) (s :: ρ) Q := rfl
def rd_check_test : WS := (wSeq (wIf (wNotT (wTru (wCall g_is_filled [false] (wCons (wVar 1) wNil)))) wNever wNext) sq_check_test_2)
abbrev Sp_check_test : Prop := SpD rd_check_test 3 2 g_check_test
local macro_rules | `(tactic| fold_at run_check_test) => `(tactic| simp_arith only [sq_check_test_1_c, sq_check_test_2_c])
local macro_rules | `(tactic| fold_at go_check_test) => `(tactic| simp_arith! only [sq_check_test_1_c, sq_check_test_2_c])
def ce_passes_by_1 : WE := (wCall g_is_sorted_by [false] (wCons (wCall g_end_by [false, false] (wCons (wVar 0) (wCons (wVar 2) wNil))) wNil))
theorem ce_passes_by_1_c {s : Sl} {ρ : DEnv} {Q} : ce_passes_by_1 (s :: ρ) Q = ((wCall g_is_sorted_by [false] (wCons (wCall g_end_by [false, false] (wCons (wVar 0) (wCons (wVar 2) wNil))) wNil))) (s :: ρ) Q := rfl
def cf_passes_by_1 : WT := wYes
theorem cf_passes_by_1_c {s : Sl} {ρ : DEnv} {Q} : cf_passes_by_1 (s :: ρ) Q = (wYes) (s :: ρ) Q := rfl
def rd_passes_by : WS := (wRet (wCB gAll (wCons (wLc (wSeqI (wVar 1)) (gNm 2) cf_passes_by_1 ce_passes_by_1 [2]) wNil)))
abbrev Sp_passes_by : Prop := SpD rd_passes_by 3 2 g_passes_by
local macro_rules | `(tactic| fold_at run_passes_by) => `(tactic| simp_arith only [ce_passes_by_1_c, cf_passes_by_1_c])
local macro_rules | `(tactic| fold_at go_passes_by) => `(tactic| simp_arith! only [ce_passes_by_1_c, cf_passes_by_1_c])
def sq_passes_1 : WS := (wRet (wCall g_passes_by [false, false] (wCons (wVar 1) (wCons (wVar 2) wNil))))
theorem sq_passes_1_c {s : Sl} {ρ : DEnv} {Q} : sq_passes_1 (s :: ρ) Q = ((wRet (wCall g_passes_by [false, false] (wCons (wVar 1) (wCons (wVar 2) wNil))))) (s :: ρ) Q := rfl
def sq_passes_2 : WS := (wSeq (wDrop (wCall g_check_test [false, false] (wCons (wVar 0) (wCons (wVar 2) wNil)))) sq_passes_1)
theorem sq_passes_2_c {s : Sl} {ρ : DEnv} {Q} : sq_passes_2 (s :: ρ) Q = ((wSeq (wDrop (wCall g_check_test [false, false] (wCons (wVar 0) (wCons (wVar 2) wNil)))) sq_passes_1)) (s :: ρ) Q := rfl
def rd_passes : WS := (wSeq (wDrop (wCall g_check_net [false, false] (wCons (wVar 0) (wCons (wVar 1) wNil)))) sq_passes_2)
abbrev Sp_passes : Prop := SpD rd_passes 3 3 g_passes
local macro_rules | `(tactic| fold_at run_passes) => `(tactic| simp_arith only [sq_passes_1_c, sq_passes_2_c])
local macro_rules | `(tactic| fold_at go_passes) => `(tactic| simp_arith! only [sq_passes_1_c, sq_passes_2_c])
def ce_marks_of_by_1 : WE := (wCB gInt (wCons (wOp2 gGeA (wVar 1) (wVar 2)) wNil))
theorem ce_marks_of_by_1_c {s : Sl} {ρ : DEnv} {Q} : ce_marks_of_by_1 (s :: ρ) Q = ((wCB gInt (wCons (wOp2 gGeA (wVar 1) (wVar 2)) wNil))) (s :: ρ) Q := rfl
def cf_marks_of_by_1 : WT := wYes
theorem cf_marks_of_by_1_c {s : Sl} {ρ : DEnv} {Q} : cf_marks_of_by_1 (s :: ρ) Q = (wYes) (s :: ρ) Q := rfl
def ce_marks_of_by_2 : WE := (wCB gTuple (wCons (wLc (wSeqI (wVar 0)) (gNm 1) cf_marks_of_by_1 ce_marks_of_by_1 [1]) wNil))
theorem ce_marks_of_by_2_c {s : Sl} {ρ : DEnv} {Q} : ce_marks_of_by_2 (s :: ρ) Q = ((wCB gTuple (wCons (wLc (wSeqI (wVar 0)) (gNm 1) cf_marks_of_by_1 ce_marks_of_by_1 [1]) wNil))) (s :: ρ) Q := rfl
def cf_marks_of_by_2 : WT := wYes
theorem cf_marks_of_by_2_c {s : Sl} {ρ : DEnv} {Q} : cf_marks_of_by_2 (s :: ρ) Q = (wYes) (s :: ρ) Q := rfl
def rd_marks_of_by : WS := (wRet (wCB gTuple (wCons (wLc (wRng2 (wCons (wC (.int 1)) (wCons (wCB gLen (wCons (wVar 0) wNil)) wNil))) (gNm 2) cf_marks_of_by_2 ce_marks_of_by_2 [2]) wNil)))
abbrev Sp_marks_of_by : Prop := SpD rd_marks_of_by 3 1 g_marks_of_by
local macro_rules | `(tactic| fold_at run_marks_of_by) => `(tactic| simp_arith only [ce_marks_of_by_1_c, cf_marks_of_by_1_c, ce_marks_of_by_2_c, cf_marks_of_by_2_c])
local macro_rules | `(tactic| fold_at go_marks_of_by) => `(tactic| simp_arith! only [ce_marks_of_by_1_c, cf_marks_of_by_1_c, ce_marks_of_by_2_c, cf_marks_of_by_2_c])
def sq_marks_of_1 : WS := (wRet (wCall g_marks_of_by [false] (wCons (wVar 1) wNil)))
theorem sq_marks_of_1_c {s : Sl} {ρ : DEnv} {Q} : sq_marks_of_1 (s :: ρ) Q = ((wRet (wCall g_marks_of_by [false] (wCons (wVar 1) wNil)))) (s :: ρ) Q := rfl
def sq_marks_of_2 : WS := (wSeq (wDrop (wCall g_check_order [false, false] (wCons (wVar 0) (wCons (wVar 1) wNil)))) sq_marks_of_1)
theorem sq_marks_of_2_c {s : Sl} {ρ : DEnv} {Q} : sq_marks_of_2 (s :: ρ) Q = ((wSeq (wDrop (wCall g_check_order [false, false] (wCons (wVar 0) (wCons (wVar 1) wNil)))) sq_marks_of_1)) (s :: ρ) Q := rfl
def rd_marks_of : WS := (wSeq (wDrop (wCall g_check_lanes [false] (wCons (wVar 0) wNil))) sq_marks_of_2)
abbrev Sp_marks_of : Prop := SpD rd_marks_of 2 2 g_marks_of
local macro_rules | `(tactic| fold_at run_marks_of) => `(tactic| simp_arith only [sq_marks_of_1_c, sq_marks_of_2_c])
local macro_rules | `(tactic| fold_at go_marks_of) => `(tactic| simp_arith! only [sq_marks_of_1_c, sq_marks_of_2_c])
def ce_marks_1 : WE := (wCall g_is_between [false, false, false] (wCons (wVar 2) (wCons (wC (.int 0)) (wCons (wC (.int 99)) wNil))))
theorem ce_marks_1_c {s : Sl} {ρ : DEnv} {Q} : ce_marks_1 (s :: ρ) Q = ((wCall g_is_between [false, false, false] (wCons (wVar 2) (wCons (wC (.int 0)) (wCons (wC (.int 99)) wNil))))) (s :: ρ) Q := rfl
def cf_marks_1 : WT := wYes
theorem cf_marks_1_c {s : Sl} {ρ : DEnv} {Q} : cf_marks_1 (s :: ρ) Q = (wYes) (s :: ρ) Q := rfl
def ce_marks_2 : WE := (wCB gInt (wCons (wOp2 gGeA (wVar 2) (wVar 1)) wNil))
theorem ce_marks_2_c {s : Sl} {ρ : DEnv} {Q} : ce_marks_2 (s :: ρ) Q = ((wCB gInt (wCons (wOp2 gGeA (wVar 2) (wVar 1)) wNil))) (s :: ρ) Q := rfl
def cf_marks_2 : WT := wYes
theorem cf_marks_2_c {s : Sl} {ρ : DEnv} {Q} : cf_marks_2 (s :: ρ) Q = (wYes) (s :: ρ) Q := rfl
def sq_marks_1 : WS := (wRet (wCB gTuple (wCons (wLc (wSeqI (wVar 0)) (gNm 2) cf_marks_2 ce_marks_2 [2]) wNil)))
theorem sq_marks_1_c {s : Sl} {ρ : DEnv} {Q} : sq_marks_1 (s :: ρ) Q = ((wRet (wCB gTuple (wCons (wLc (wSeqI (wVar 0)) (gNm 2) cf_marks_2 ce_marks_2 [2]) wNil)))) (s :: ρ) Q := rfl
def sq_marks_2 : WS := (wSeq (wIf (wNotT (wTru (wCall g_is_between [false, false, false] (wCons (wVar 1) (wCons (wC (.int 0)) (wCons (wC (.int 99)) wNil)))))) wNever wNext) sq_marks_1)
theorem sq_marks_2_c {s : Sl} {ρ : DEnv} {Q} : sq_marks_2 (s :: ρ) Q = ((wSeq (wIf (wNotT (wTru (wCall g_is_between [false, false, false] (wCons (wVar 1) (wCons (wC (.int 0)) (wCons (wC (.int 99)) wNil)))))) wNever wNext) sq_marks_1)) (s :: ρ) Q := rfl
def rd_marks : WS := (wSeq (wIf (wOrT (wNotT (wTru (wCall g_is_some_row [false, false, false] (wCons (wVar 0) (wCons (wC (.int 1)) (wCons (wC (.int 6)) wNil)))))) (wNotT (wTru (wCB gAll (wCons (wLc (wSeqI (wVar 0)) (gNm 2) cf_marks_1 ce_marks_1 [2]) wNil))))) wNever wNext) sq_marks_2)
abbrev Sp_marks : Prop := SpD rd_marks 3 2 g_marks
local macro_rules | `(tactic| fold_at run_marks) => `(tactic| simp_arith only [ce_marks_1_c, cf_marks_1_c, ce_marks_2_c, cf_marks_2_c, sq_marks_1_c, sq_marks_2_c])
local macro_rules | `(tactic| fold_at go_marks) => `(tactic| simp_arith! only [ce_marks_1_c, cf_marks_1_c, ce_marks_2_c, cf_marks_2_c, sq_marks_1_c, sq_marks_2_c])
theorem sp_is_filled : Sp_is_filled := by
  rintro _ Qd ⟨ts, rfl, hl, h⟩
  (refine ⟨rfl, ?_⟩; unfold rd_is_filled)
  fold_at go_is_filled
  rw [isi_tup]
  fold_at go_is_filled
  rw [List.length_map, decide_eq_true (by omega)]
  exact h
theorem nodup_take {ts : List (List Int)} (h : ts.Nodup) {i : Nat} {r : List Int} (e : ts[i]? = some r) : r ∉ ts.take i := fun hm => by
  obtain ⟨j, hj, ej⟩ := List.getElem_of_mem hm
  rw [List.length_take] at hj
  rw [List.getElem_take] at ej
  obtain ⟨hi, ei⟩ := List.getElem?_eq_some_iff.mp e
  have := (List.getElem_inj (h₀ := by omega) (h₁ := hi) h).mp (ej.trans ei.symm)
  omega
theorem sp_wrong_row : Sp_wrong_row := by
  rintro _ Qd ⟨L, ts, rfl, hL, hT, h⟩
  (refine ⟨rfl, ?_⟩; unfold rd_wrong_row)
  fold_at run_wrong_row
  intro fd
  refine fw_all (fun i d k hd hk => ?_) ?_
  · rw [List.getElem?_map] at hd
    cases e : ts[i]? with
    | none => rw [e] at hd; cases hd
    | some r =>
      rw [e] at hd
      cases hd
      have hR := hT.2.1 r (List.mem_of_getElem? e)
      rw [← List.map_take]
      fold_at go_wrong_row
      refine ⟨shp_tup r, shp_rowsT _, ?_⟩
      rw [in_rows, decide_eq_false (nodup_take hT.2.2 e)]
      exact hk
  · fold_at run_wrong_row
    exact h
theorem sp_check_test : Sp_check_test := by
  rintro _ Qd ⟨L, ts, rfl, hL, hT, h⟩
  have hl := hT.1
  (refine ⟨rfl, ?_⟩; unfold rd_check_test)
  fold_at go_check_test
theorem sp_passes_by : Sp_passes_by := by
  rintro _ Qd ⟨L, st, ts, rfl, hN, hT, h⟩
  obtain ⟨hL, hS⟩ := id hN
  have hl := hT.1
  (refine ⟨rfl, ?_⟩; unfold rd_passes_by)
  fold_at go_passes_by
  refine lc_map (fun r => .bool (srt (endF st r))) _ (fun r K K0 hr hK => ?_) (by omega) ?_
  · have hR := hT.2.1 r hr
    have hS' : OkS r.length st := by rw [hR.1]; exact hS
    have hl2 : (endF st r).length ≤ 1000 := by rw [endF_len]; have := hR.1; have := hL.2; omega
    fold_at go_passes_by
    exact hK _ rfl
  · fold_at go_passes_by
    refine boolsK_map ?_
    rw [List.all_map]
    exact h
theorem sp_passes : Sp_passes := by
  rintro _ Qd ⟨L, st, ts, rfl, hN, hT, h⟩
  obtain ⟨hL, hS⟩ := id hN
  (refine ⟨rfl, ?_⟩; unfold rd_passes)
  fold_at go_passes
  exact ⟨L, st, ts, rfl, hN, hT, h⟩
theorem sp_marks : Sp_marks := by
  rintro _ Qd ⟨L, r, t, rfl, hL, hR, ht, h⟩
  obtain ⟨l1, l2⟩ := id hL
  have hl := hR.1
  have ht2 := intIn_t ht
  (refine ⟨rfl, ?_⟩; unfold rd_marks)
  fold_at go_marks
  rw [tupR_t ⟨by rw [List.length_map]; omega, by rw [List.length_map]; omega⟩]
  fold_at go_marks
  refine lc_map (fun _ => .bool true) r (fun a K K0 ha hK => ?_) (by omega) ?_
  · fold_at go_marks
    rw [intIn_t (hR.2 a ha)]
    exact hK _ rfl
  fold_at go_marks
  refine boolsK_map (f := fun _ => true) ?_
  rw [show (r.map fun _ => true).all id = true by simp]
  fold_at go_marks
  rw [ht2]
  fold_at go_marks
  refine lc_map (fun x => .int (if t ≤ x then 1 else 0)) r (fun a K K0 ha hK => ?_) (by omega) ?_
  · fold_at go_marks
    by_cases hx : t ≤ a
    · rw [if_pos hx] at hK
      simp_arith only [decide_eq_true hx]
      exact hK _ rfl
    · rw [if_neg hx] at hK
      simp_arith only [decide_eq_false hx]
      exact hK _ rfl
  · fold_at go_marks
    unfold rwD markF at h
    rw [List.map_map] at h
    exact h
theorem sp_marks_of_by : Sp_marks_of_by := by
  rintro _ Qd ⟨L, r, rfl, hL, hR, h⟩
  obtain ⟨l1, l2⟩ := id hL
  have hl := hR.1
  (refine ⟨rfl, ?_⟩; unfold rd_marks_of_by)
  fold_at go_marks_of_by
  rw [List.length_map, rng_up]
  refine lc_map (fun t => rwD (markF t r)) _ (fun t K K0 ht hK => ?_) (by rw [upI_len]; omega) ?_
  · have := upI_mem ht
    fold_at go_marks_of_by
    refine lc_map (fun x => .int (if t ≤ x then 1 else 0)) r (fun a K K0 ha hK => ?_) (by omega) ?_
    · fold_at go_marks_of_by
      by_cases hx : t ≤ a
      · rw [if_pos hx] at hK
        simp_arith only [decide_eq_true hx]
        exact hK _ rfl
      · rw [if_neg hx] at hK
        simp_arith only [decide_eq_false hx]
        exact hK _ rfl
    · fold_at go_marks_of_by
      unfold rwD markF at hK
      rw [List.map_map] at hK
      exact hK _ rfl
  · fold_at go_marks_of_by
    unfold rwsD marksOf at h
    rw [List.map_map, show r.length - 1 = ((r.length : Int) - 1).toNat by omega] at h
    exact h
theorem sp_marks_of : Sp_marks_of := by
  rintro _ Qd ⟨L, r, rfl, hL, hO, h⟩
  have hR := hO.row hL
  (refine ⟨rfl, ?_⟩; unfold rd_marks_of)
  fold_at go_marks_of
  exact ⟨L, r, rfl, hL, hR, h⟩

set_option maxRecDepth 100000
set_option maxHeartbeats 4000000

open PySem PySem.Spec L2 LamX DL
/-! ### draws -/
def gTake : DSp := fun as k => ∃ b m, as = [.ln b, .sh (.int m)] ∧ IsPool b ∧ (0 < m ∧ m < 1073741824) ∧ ∀ b' r, IsPool b' → 0 ≤ r → r < m → k (.val (.int r)) [.ln b', .sh (.int m)]
def gOf : DSp := fun as k => ∃ b dd ds, IsPool b ∧ as = [.ln b, .sh dd] ∧ (dd = .list ds ∨ dd = .tuple ds) ∧ ds ≠ [] ∧ ds.length < 1073741824 ∧ ∀ b' d, IsPool b' → d ∈ ds → k (.val d) [.ln b', .sh dd]
theorem gOf_list {α : Type} {f : α → D} {xs : List α} {b : Box} {k : DV → List Arg → Prop} (hb : IsPool b) (hn : xs ≠ []) (hl : xs.length < 1073741824) (h : ∀ b' x, IsPool b' → x ∈ xs → k (.val (f x)) [.ln b', .sh (.list (xs.map f))]) : gOf [.ln b, .sh (.list (xs.map f))] k :=
  ⟨b, _, xs.map f, hb, rfl, .inl rfl, fun e => hn (List.map_eq_nil_iff.mp e), by rw [List.length_map]; exact hl, fun b' d hb' hd => by
    obtain ⟨x, hx, rfl⟩ := List.mem_map.mp hd
    exact h b' x hb' hx⟩
theorem gOf_tuple {α : Type} {f : α → D} {xs : List α} {b : Box} {k : DV → List Arg → Prop} (hb : IsPool b) (hn : xs ≠ []) (hl : xs.length < 1073741824) (h : ∀ b' x, IsPool b' → x ∈ xs → k (.val (f x)) [.ln b', .sh (.tuple (xs.map f))]) : gOf [.ln b, .sh (.tuple (xs.map f))] k :=
  ⟨b, _, xs.map f, hb, rfl, .inr rfl, fun e => hn (List.map_eq_nil_iff.mp e), by rw [List.length_map]; exact hl, fun b' d hb' hd => by
    obtain ⟨x, hx, rfl⟩ := List.mem_map.mp hd
    exact h b' x hb' hx⟩
/-- .. of a list as it is written -/
theorem gOf_lit {ds : List D} {b : Box} {k : DV → List Arg → Prop} (hb : IsPool b) (hn : ds ≠ []) (hl : ds.length < 1073741824) (h : ∀ b' d, IsPool b' → d ∈ ds → k (.val d) [.ln b', .sh (.list ds)]) : gOf [.ln b, .sh (.list ds)] k :=
  ⟨b, _, ds, hb, rfl, .inl rfl, hn, hl, h⟩
def pairsOf (L : Int) : List (Int × Int) := (upI 0 L.toNat).flatMap fun k => (upI (k + 1) (L - (k + 1)).toNat).map fun h => (k, h)
theorem pairsOf_ok {L : Int} {p : Int × Int} (h : p ∈ pairsOf L) : OkP L p := by
  unfold pairsOf at h
  obtain ⟨k, hk, h⟩ := List.mem_flatMap.mp h
  obtain ⟨j, hj, e⟩ := List.mem_map.mp h
  have h1 := upI_mem hk
  have h2 := upI_mem hj
  subst e
  exact ⟨h1.1, by show k < j; omega, by show j ≤ L - 1; omega⟩
theorem pairsOf_has {L : Int} {p : Int × Int} (h : OkP L p) : p ∈ pairsOf L := by
  obtain ⟨h1, h2, h3⟩ := h
  refine List.mem_flatMap.mpr ⟨p.1, upI_has h1 (by omega), List.mem_map.mpr ⟨p.2, upI_has (by omega) (by omega), rfl⟩⟩
theorem pairsOf_ne {L : Int} (hL : OkL L) : pairsOf L ≠ [] := fun e => by
  have := pairsOf_has (L := L) (p := (0, 1)) ⟨by decide, by decide, by have := hL.1; show (1 : Int) ≤ L - 1; omega⟩
  rw [e] at this; cases this
theorem pairsOf_len {L : Int} (hL : OkL L) : (pairsOf L).length ≤ 36 := by
  have h1 := hL.1
  have h2 := hL.2
  have : L = 2 ∨ L = 3 ∨ L = 4 ∨ L = 5 ∨ L = 6 := by omega
  rcases this with e | e | e | e | e <;> subst e <;> decide
def gPairs : DSp := fun as k => ∃ L, as = [.sh (.int L)] ∧ OkL L ∧ k (.new (.lst ((pairsOf L).map pD))) as
/-! ### rounds by turns -/
def bwF (L t : Int) : List (Int × Int) := (List.range ((L - t % 2) / 2).toNat).map fun i => (t % 2 + (i : Nat) * 2, t % 2 + (i : Nat) * 2 + 1)
def btF (L : Int) (n : Nat) : List (Int × Int) := (upI 0 n).flatMap (bwF L)
theorem bw_rg {L t : Int} (hL : OkL L) : RgC (t % 2) (L - 1) 2 ((L - t % 2) / 2).toNat := by
  obtain ⟨l1, l2⟩ := hL
  have ht : t % 2 = 0 ∨ t % 2 = 1 := by omega
  have hl : L = 2 ∨ L = 3 ∨ L = 4 ∨ L = 5 ∨ L = 6 := by omega
  rcases ht with e | e <;> rw [e] <;> (rcases hl with e | e | e | e | e <;> subst e <;> exact ⟨by decide, by decide, by decide, by decide⟩)
theorem bw_len {L t : Int} (hL : OkL L) : (bwF L t).length ≤ 3 := by
  obtain ⟨l1, l2⟩ := hL
  unfold bwF
  rw [List.length_map, List.length_range]
  have ht : t % 2 = 0 ∨ t % 2 = 1 := by omega
  rcases ht with e | e <;> rw [e] <;> omega
theorem bw_ok {L t : Int} (hL : OkL L) : ∀ p ∈ bwF L t, OkP L p := fun p hp => by
  obtain ⟨l1, l2⟩ := hL
  obtain ⟨i, hi, e⟩ := List.mem_map.mp hp
  have := List.mem_range.mp hi
  subst e
  have ht : t % 2 = 0 ∨ t % 2 = 1 := by omega
  unfold OkP
  rcases ht with e | e <;> rw [e] at this ⊢ <;> refine ⟨?_, ?_, ?_⟩ <;> simp only [] <;> omega
theorem bw_map {L t : Int} : (upC (t % 2) 2 ((L - t % 2) / 2).toNat).map (fun i : Int => pD (i, i + 1)) = (bwF L t).map pD := by
  unfold upC bwF
  rw [List.map_map, List.map_map]; rfl
theorem bt_len {L : Int} (hL : OkL L) (ts : List Int) : (ts.flatMap (bwF L)).length ≤ 3 * ts.length := by
  induction ts with
  | nil => exact Nat.le_refl 0
  | cons t ts ih =>
    rw [List.flatMap_cons, List.length_append, List.length_cons]
    have := bw_len (t := t) hL
    omega
theorem bt_ok {L : Int} (hL : OkL L) {ts : List Int} : ∀ p ∈ ts.flatMap (bwF L), OkP L p := fun p hp => by
  obtain ⟨t, _, h⟩ := List.mem_flatMap.mp hp
  exact bw_ok hL p h

set_option maxRecDepth 100000
set_option maxHeartbeats 4000000

open PySem PySem.Spec L2 LamX DL
/-! ### the bag -/
def g__law_bag_k58 : DSp := fun as k => ∃ (ns : List Int) (i : Int), as = [.sh (.list (ns.map .int)), .sh (.int i)] ∧ (0 ≤ i ∧ i ≤ 100) ∧ ns.length ≤ 63 ∧ ∀ b, IsPool b → k (.new b) as
def g__law_take_k58 := gTake
def g__law_pull_k58 := gOf
def g__law_pairs_k58 := gPairs
def fb__law_bag_k58_1 : WS := (wAsg (wOp2 gModI (wCB gInt (wCons (wOp2 gAdd (wOp2 gAdd (wOp2 gMulI (wVar 2) (wC (.int 48271))) (wOp2 gModI (wCB gInt (wCons (wVar 3) wNil)) (wC (.int 2147483629)))) (wC (.int 23))) wNil)) (wC (.int 2147483647))) (gNm 2))
theorem fb__law_bag_k58_1_c {s : Sl} {ρ : DEnv} {Q} : fb__law_bag_k58_1 (s :: ρ) Q = ((wAsg (wOp2 gModI (wCB gInt (wCons (wOp2 gAdd (wOp2 gAdd (wOp2 gMulI (wVar 2) (wC (.int 48271))) (wOp2 gModI (wCB gInt (wCons (wVar 3) wNil)) (wC (.int 2147483629)))) (wC (.int 23))) wNil)) (wC (.int 2147483647))) (gNm 2))) (s :: ρ) Q := rfl
def sq__law_bag_k58_1 : WS := (wRet (wLst (wCons (wIfE (wOrT (wOp2T gLtA (wVar 4) (wC (.int 0))) (wOp2T gGeA (wVar 4) (wOp2 gPowI (wC (.int 10)) (wC (.int 15))))) (wCB gAbs (wCons (wVar 4) wNil)) (wC (.int 0))) (wCons (wVar 2) (wCons (wC (.int 0)) wNil)))))
theorem sq__law_bag_k58_1_c {s : Sl} {ρ : DEnv} {Q} : sq__law_bag_k58_1 (s :: ρ) Q = ((wRet (wLst (wCons (wIfE (wOrT (wOp2T gLtA (wVar 4) (wC (.int 0))) (wOp2T gGeA (wVar 4) (wOp2 gPowI (wC (.int 10)) (wC (.int 15))))) (wCB gAbs (wCons (wVar 4) wNil)) (wC (.int 0))) (wCons (wVar 2) (wCons (wC (.int 0)) wNil)))))) (s :: ρ) Q := rfl
def sq__law_bag_k58_2 : WS := (wSeq (wAsg (wOp2 gModI (wCB gInt (wCons (wOp2 gAdd (wOp2 gAdd (wOp2 gMulI (wVar 2) (wC (.int 31))) (wOp2 gMulI (wOp2 gModI (wCB gInt (wCons (wVar 4) wNil)) (wC (.int 2147483629))) (wC (.int 17)))) (wC (.int 3))) wNil)) (wC (.int 2147483647))) (gNm 2)) sq__law_bag_k58_1)
theorem sq__law_bag_k58_2_c {s : Sl} {ρ : DEnv} {Q} : sq__law_bag_k58_2 (s :: ρ) Q = ((wSeq (wAsg (wOp2 gModI (wCB gInt (wCons (wOp2 gAdd (wOp2 gAdd (wOp2 gMulI (wVar 2) (wC (.int 31))) (wOp2 gMulI (wOp2 gModI (wCB gInt (wCons (wVar 4) wNil)) (wC (.int 2147483629))) (wC (.int 17)))) (wC (.int 3))) wNil)) (wC (.int 2147483647))) (gNm 2)) sq__law_bag_k58_1)) (s :: ρ) Q := rfl
def sq__law_bag_k58_3 : WS := (wSeq (wAsg (wIfE (wOp2T gLtA (wVar 1) (wCB gLen (wCons (wVar 0) wNil))) (wCB gInt (wCons (wOp2 gIx (wVar 0) (wVar 1)) wNil)) (wC (.int 0))) (gNm 4)) sq__law_bag_k58_2)
theorem sq__law_bag_k58_3_c {s : Sl} {ρ : DEnv} {Q} : sq__law_bag_k58_3 (s :: ρ) Q = ((wSeq (wAsg (wIfE (wOp2T gLtA (wVar 1) (wCB gLen (wCons (wVar 0) wNil))) (wCB gInt (wCons (wOp2 gIx (wVar 0) (wVar 1)) wNil)) (wC (.int 0))) (gNm 4)) sq__law_bag_k58_2)) (s :: ρ) Q := rfl
def sq__law_bag_k58_4 : WS := (wSeq (wFor (wCI [3] (wSeqI (wSl (wVar 0) wNo (wPt (wC (.int 16)))))) (gNm 3) (wEnd [3] fb__law_bag_k58_1)) sq__law_bag_k58_3)
theorem sq__law_bag_k58_4_c {s : Sl} {ρ : DEnv} {Q} : sq__law_bag_k58_4 (s :: ρ) Q = ((wSeq (wFor (wCI [3] (wSeqI (wSl (wVar 0) wNo (wPt (wC (.int 16)))))) (gNm 3) (wEnd [3] fb__law_bag_k58_1)) sq__law_bag_k58_3)) (s :: ρ) Q := rfl
def rd__law_bag_k58 : WS := (wSeq (wAsg (wOp2 gAdd (wC (.int 52027)) (wOp2 gMulI (wC (.int 8009)) (wVar 1))) (gNm 2)) sq__law_bag_k58_4)
abbrev Sp__law_bag_k58 : Prop := SpD rd__law_bag_k58 5 2 g__law_bag_k58
local macro_rules | `(tactic| fold_at run__law_bag_k58) => `(tactic| simp_arith only [fb__law_bag_k58_1_c, sq__law_bag_k58_1_c, sq__law_bag_k58_2_c, sq__law_bag_k58_3_c, sq__law_bag_k58_4_c])
local macro_rules | `(tactic| fold_at go__law_bag_k58) => `(tactic| simp_arith! only [fb__law_bag_k58_1_c, sq__law_bag_k58_1_c, sq__law_bag_k58_2_c, sq__law_bag_k58_3_c, sq__law_bag_k58_4_c])
def sq__law_take_k58_1 : WS := (wRet (wVar 2))
theorem sq__law_take_k58_1_c {s : Sl} {ρ : DEnv} {Q} : sq__law_take_k58_1 (s :: ρ) Q = ((wRet (wVar 2))) (s :: ρ) Q := rfl
def bt__law_take_k58_1 : WS := (wSeq (wAsg (wCB gDivmod (wCons (wOp2 gIx (wVar 0) (wC (.int 0))) (wCons (wVar 1) wNil))) (gTp 2 (gsCons (gSb 0 (wC (.int 0))) (gsCons (gNm 2) gsNil)))) sq__law_take_k58_1)
theorem bt__law_take_k58_1_c {s : Sl} {ρ : DEnv} {Q} : bt__law_take_k58_1 (s :: ρ) Q = ((wSeq (wAsg (wCB gDivmod (wCons (wOp2 gIx (wVar 0) (wC (.int 0))) (wCons (wVar 1) wNil))) (gTp 2 (gsCons (gSb 0 (wC (.int 0))) (gsCons (gNm 2) gsNil)))) sq__law_take_k58_1)) (s :: ρ) Q := rfl
def sq__law_take_k58_2 : WS := (wRet (wOp2 gModI (wCB gInt (wCons (wOp2 gDivI (wOp2 gIx (wVar 0) (wC (.int 1))) (wC (.int 911))) wNil)) (wVar 1)))
theorem sq__law_take_k58_2_c {s : Sl} {ρ : DEnv} {Q} : sq__law_take_k58_2 (s :: ρ) Q = ((wRet (wOp2 gModI (wCB gInt (wCons (wOp2 gDivI (wOp2 gIx (wVar 0) (wC (.int 1))) (wC (.int 911))) wNil)) (wVar 1)))) (s :: ρ) Q := rfl
def sq__law_take_k58_3 : WS := (wSeq (wAsg (wOp2 gModI (wCB gInt (wCons (wOp2 gAdd (wOp2 gAdd (wOp2 gMulI (wOp2 gIx (wVar 0) (wC (.int 1))) (wC (.int 16807))) (wOp2 gMulI (wC (.int 4099)) (wOp2 gIx (wVar 0) (wC (.int 2))))) (wC (.int 1))) wNil)) (wC (.int 2147483647))) (gSb 0 (wC (.int 1)))) sq__law_take_k58_2)
theorem sq__law_take_k58_3_c {s : Sl} {ρ : DEnv} {Q} : sq__law_take_k58_3 (s :: ρ) Q = ((wSeq (wAsg (wOp2 gModI (wCB gInt (wCons (wOp2 gAdd (wOp2 gAdd (wOp2 gMulI (wOp2 gIx (wVar 0) (wC (.int 1))) (wC (.int 16807))) (wOp2 gMulI (wC (.int 4099)) (wOp2 gIx (wVar 0) (wC (.int 2))))) (wC (.int 1))) wNil)) (wC (.int 2147483647))) (gSb 0 (wC (.int 1)))) sq__law_take_k58_2)) (s :: ρ) Q := rfl
def sq__law_take_k58_4 : WS := (wSeq (wAsg (wOp2 gAdd (wOp2 gIx (wVar 0) (wC (.int 2))) (wC (.int 1))) (gSb 0 (wC (.int 2)))) sq__law_take_k58_3)
theorem sq__law_take_k58_4_c {s : Sl} {ρ : DEnv} {Q} : sq__law_take_k58_4 (s :: ρ) Q = ((wSeq (wAsg (wOp2 gAdd (wOp2 gIx (wVar 0) (wC (.int 2))) (wC (.int 1))) (gSb 0 (wC (.int 2)))) sq__law_take_k58_3)) (s :: ρ) Q := rfl
def rd__law_take_k58 : WS := (wSeq (wIf (wOp2T gGtA (wOp2 gIx (wVar 0) (wC (.int 0))) (wC (.int 0))) bt__law_take_k58_1 wNext) sq__law_take_k58_4)
abbrev Sp__law_take_k58 : Prop := SpD rd__law_take_k58 3 2 g__law_take_k58
local macro_rules | `(tactic| fold_at run__law_take_k58) => `(tactic| simp_arith only [sq__law_take_k58_1_c, bt__law_take_k58_1_c, sq__law_take_k58_2_c, sq__law_take_k58_3_c, sq__law_take_k58_4_c])
local macro_rules | `(tactic| fold_at go__law_take_k58) => `(tactic| simp_arith! only [sq__law_take_k58_1_c, bt__law_take_k58_1_c, sq__law_take_k58_2_c, sq__law_take_k58_3_c, sq__law_take_k58_4_c])
def rd__law_pull_k58 : WS := (wRet (wOp2 gIx (wVar 1) (wCall g__law_take_k58 [true, false] (wCons (wVar 0) (wCons (wCB gLen (wCons (wVar 1) wNil)) wNil)))))
abbrev Sp__law_pull_k58 : Prop := SpD rd__law_pull_k58 2 2 g__law_pull_k58
local macro_rules | `(tactic| fold_at run__law_pull_k58) => `(tactic| simp_arith only [id_eq])
local macro_rules | `(tactic| fold_at go__law_pull_k58) => `(tactic| simp_arith! only [id_eq])
def ce__law_pairs_k58_1 : WE := (wTup (wCons (wVar 2) (wCons (wVar 3) wNil)))
theorem ce__law_pairs_k58_1_c {s : Sl} {ρ : DEnv} {Q} : ce__law_pairs_k58_1 (s :: ρ) Q = ((wTup (wCons (wVar 2) (wCons (wVar 3) wNil)))) (s :: ρ) Q := rfl
def cf__law_pairs_k58_1 : WT := wYes
theorem cf__law_pairs_k58_1_c {s : Sl} {ρ : DEnv} {Q} : cf__law_pairs_k58_1 (s :: ρ) Q = (wYes) (s :: ρ) Q := rfl
def fb__law_pairs_k58_1 : WS := (wSet 1 (wOp2 gAdd (wVar 1) (wLc (wRng2 (wCons (wOp2 gAdd (wVar 2) (wC (.int 1))) (wCons (wVar 0) wNil))) (gNm 3) cf__law_pairs_k58_1 ce__law_pairs_k58_1 [3])))
theorem fb__law_pairs_k58_1_c {s : Sl} {ρ : DEnv} {Q} : fb__law_pairs_k58_1 (s :: ρ) Q = ((wSet 1 (wOp2 gAdd (wVar 1) (wLc (wRng2 (wCons (wOp2 gAdd (wVar 2) (wC (.int 1))) (wCons (wVar 0) wNil))) (gNm 3) cf__law_pairs_k58_1 ce__law_pairs_k58_1 [3])))) (s :: ρ) Q := rfl
def sq__law_pairs_k58_1 : WS := (wRet (wVar 1))
theorem sq__law_pairs_k58_1_c {s : Sl} {ρ : DEnv} {Q} : sq__law_pairs_k58_1 (s :: ρ) Q = ((wRet (wVar 1))) (s :: ρ) Q := rfl
def sq__law_pairs_k58_2 : WS := (wSeq (wFor (wCI [2, 3] (wRng1 (wCons (wVar 0) wNil))) (gNm 2) (wEnd [2, 3] fb__law_pairs_k58_1)) sq__law_pairs_k58_1)
theorem sq__law_pairs_k58_2_c {s : Sl} {ρ : DEnv} {Q} : sq__law_pairs_k58_2 (s :: ρ) Q = ((wSeq (wFor (wCI [2, 3] (wRng1 (wCons (wVar 0) wNil))) (gNm 2) (wEnd [2, 3] fb__law_pairs_k58_1)) sq__law_pairs_k58_1)) (s :: ρ) Q := rfl
def rd__law_pairs_k58 : WS := (wSeq (wSet 1 (wLst wNil)) sq__law_pairs_k58_2)
abbrev Sp__law_pairs_k58 : Prop := SpD rd__law_pairs_k58 4 1 g__law_pairs_k58
local macro_rules | `(tactic| fold_at run__law_pairs_k58) => `(tactic| simp_arith only [ce__law_pairs_k58_1_c, cf__law_pairs_k58_1_c, fb__law_pairs_k58_1_c, sq__law_pairs_k58_1_c, sq__law_pairs_k58_2_c])
local macro_rules | `(tactic| fold_at go__law_pairs_k58) => `(tactic| simp_arith! only [ce__law_pairs_k58_1_c, cf__law_pairs_k58_1_c, fb__law_pairs_k58_1_c, sq__law_pairs_k58_1_c, sq__law_pairs_k58_2_c])
theorem sp__law_bag_k58 : Sp__law_bag_k58 := by
  rintro _ Qd ⟨ns, i, rfl, ⟨h0, h1⟩, hl, h⟩
  have c15 : CPow 10 15 := ⟨by decide, by decide, by decide⟩
  (refine ⟨rfl, ?_⟩; unfold rd__law_bag_k58)
  fold_at go__law_bag_k58
  obtain ⟨zs, hz, _⟩ := cut_ints ns none (some 16)
  rw [hz]
  have fin : ∀ y z : Int, Qd (.new (.lst [.int y, .int z, .int 0])) [.sh (.list (ns.map .int)), .sh (.int i)] := fun y z => h _ ⟨y, z, 0, rfl⟩
  refine for_inv (fun _ ρ => ∃ x : Int, ρ = [.sh (.list (ns.map .int)), .sh (.int i), .sh (.int x), .emp, .emp]) (fun a as ρ K hI hK => ?_) (fun ρ hI => ?_) zs _ ⟨_, rfl⟩
  · obtain ⟨x, e⟩ := hI
    subst e
    fold_at go__law_bag_k58
    exact hK _ ⟨_, rfl⟩
  · obtain ⟨x, e⟩ := hI
    subst e
    fold_at go__law_bag_k58
    rw [List.length_map]
    by_cases hlt : i < ns.length
    · simp_arith only [decide_eq_true hlt, atI_at h0 (ints_get (xs := ns) (i := i.toNat) (by omega))]
      generalize ns.getD i.toNat 0 = w
      fold_at go__law_bag_k58
      by_cases hw : w < 0
      · simp_arith only [decide_eq_true hw]
        fold_at go__law_bag_k58
        exact fin _ _
      · simp_arith only [decide_eq_false hw]
        refine ⟨c15, ?_⟩
        by_cases h2 : (10 : Int) ^ 15 ≤ w
        · simp_arith only [decide_eq_true h2]
          fold_at go__law_bag_k58
          exact fin _ _
        · simp_arith only [decide_eq_false h2]
          fold_at go__law_bag_k58
          exact fin _ _
    · simp_arith only [decide_eq_false hlt]
      fold_at go__law_bag_k58
      exact fin _ _
theorem sp__law_take_k58 : Sp__law_take_k58 := by
  rintro _ Qd ⟨b, m, rfl, ⟨c, s, t, rfl⟩, ⟨m0, m1⟩, h⟩
  have cd : CDiv c m := ⟨m0, m1⟩
  have r1 : ∀ x : Int, 0 ≤ x % m ∧ x % m < m := fun x => mod_rng m0
  (refine ⟨rfl, ?_⟩; unfold rd__law_take_k58)
  fold_at go__law_take_k58
  by_cases hc : 0 < c
  · simp_arith only [decide_eq_true hc]
    exact ⟨cd, h _ _ ⟨_, _, _, rfl⟩ (r1 c).1 (r1 c).2⟩
  · simp_arith only [decide_eq_false hc]
    fold_at go__law_take_k58
    exact h _ _ ⟨_, _, _, rfl⟩ (r1 _).1 (r1 _).2
theorem sp__law_pull_k58 : Sp__law_pull_k58 := by
  rintro _ Qd ⟨b, dd, ds, hb, rfl, hd, hn, hl, h⟩
  have h0 : 0 < ds.length := List.length_pos_iff.mpr hn
  have fin : ∀ (b' : Box) (r : Int), IsPool b' → 0 ≤ r → r < ds.length → ∃ d, atI ds r = some d ∧ Qd (.val d) [.ln b', .sh dd] := fun b' r hb' r0 r1 => by
    have hl : r.toNat < ds.length := by omega
    exact ⟨ds[r.toNat], atI_at r0 (List.getElem?_eq_getElem hl), h b' _ hb' (List.getElem_mem hl)⟩
  (refine ⟨rfl, ?_⟩; unfold rd__law_pull_k58)
  rcases hd with hd | hd
  · subst hd
    fold_at go__law_pull_k58
    intro b' r hb' r0 r1
    obtain ⟨d, e, q⟩ := fin b' r hb' r0 r1
    fold_at go__law_pull_k58
    simp_arith only [e]
    exact q
  · subst hd
    fold_at go__law_pull_k58
    intro b' r hb' r0 r1
    obtain ⟨d, e, q⟩ := fin b' r hb' r0 r1
    fold_at go__law_pull_k58
    simp_arith only [e]
    exact q
theorem sp__law_pairs_k58 : Sp__law_pairs_k58 := by
  rintro _ Qd ⟨L, rfl, hL, h⟩
  obtain ⟨l1, l2⟩ := id hL
  let row := fun k : Int => (upI (k + 1) (L - (k + 1)).toNat).map fun h => (k, h)
  (refine ⟨rfl, ?_⟩; unfold rd__law_pairs_k58)
  fold_at go__law_pairs_k58
  rw [rng_up]
  have e : L - 0 = L := Int.sub_zero L
  refine for_fold (fun acc : List (Int × Int) => [.sh (.int L), .own (.lst (acc.map pD)), .emp, .emp]) (fun acc k => acc ++ row k) (fun acc as => acc.length + 6 * as.length ≤ 100 ∧ ∀ k ∈ as, 0 ≤ k ∧ k < L) (fun acc k as K hJ hK => ?_) (upI 0 L.toNat) [] ⟨by rw [upI_len]; simp; omega, fun k hk => by have := upI_mem hk; omega⟩ fun _ => ?_
  · obtain ⟨hl, hk⟩ := hJ
    rw [List.length_cons] at hl
    obtain ⟨k0, k1⟩ := hk k List.mem_cons_self
    have rl : (row k).length ≤ 6 := by show (List.map _ _).length ≤ 6; rw [List.length_map, upI_len]; omega
    have hK := hK ⟨by rw [List.length_append]; omega, fun x hx => hk x (List.mem_cons_of_mem _ hx)⟩
    fold_at go__law_pairs_k58
    rw [rng_up]
    refine lc_map (fun h : Int => pD (k, h)) _ (fun a K1 K0 ha hk1 => ?_) (by rw [upI_len]; omega) ?_
    · fold_at go__law_pairs_k58
      exact hk1 _ rfl
    · fold_at go__law_pairs_k58
      rw [List.map_append] at hK
      have e2 : (upI (k + 1) (L - (k + 1)).toNat).map (fun h : Int => pD (k, h)) = (row k).map pD := by show _ = (List.map _ _).map pD; rw [List.map_map]; rfl
      rw [e2]
      exact hK
  · fold_at go__law_pairs_k58
    have e3 : ∀ (l : List Int) (acc : List (Int × Int)), l.foldl (fun acc k => acc ++ row k) acc = acc ++ l.flatMap row := fun l => by
      induction l with
      | nil => intro acc; simp
      | cons a l ih => intro acc; rw [List.foldl_cons, ih, List.flatMap_cons, List.append_assoc]
    rw [e3, List.nil_append]
    exact h

set_option maxRecDepth 100000
set_option maxHeartbeats 4000000

open PySem PySem.Spec L2 LamX DL
def ordF (L : Int) : Nat → List (List Int)
  | 0 => [[]]
  | n + 1 => (ordF L n).flatMap fun r => ((upI 0 L.toNat).filter fun x => !decide (x ∈ r)).map fun x => r ++ [x]
def ordersF (L : Int) : List (List Int) := ordF L L.toNat
theorem ordF_row {L : Int} : ∀ {n : Nat} {r : List Int}, r ∈ ordF L n → r.length = n ∧ r.Nodup ∧ ∀ x ∈ r, 0 ≤ x ∧ x < L
  | 0, r, h => by
    rw [List.mem_singleton.mp h]
    exact ⟨rfl, List.nodup_nil, fun _ h => nomatch h⟩
  | n + 1, r, h => by
    unfold ordF at h
    obtain ⟨q, hq, h⟩ := List.mem_flatMap.mp h
    obtain ⟨x, hx, e⟩ := List.mem_map.mp h
    obtain ⟨l, nd, m⟩ := ordF_row hq
    obtain ⟨h1, h2⟩ := List.mem_filter.mp hx
    have h1 := upI_mem h1
    have h2 : x ∉ q := by simpa using h2
    subst e
    refine ⟨by rw [List.length_append, l]; rfl, ?_, fun y hy => ?_⟩
    · rw [List.nodup_append]
      exact ⟨nd, by simp, fun a ha b hb e => h2 (by rw [← List.mem_singleton.mp hb, ← e]; exact ha)⟩
    · rcases List.mem_append.mp hy with hy | hy
      · exact m y hy
      · rw [List.mem_singleton.mp hy]; omega
theorem ordersF_ok {L : Int} (hL : OkL L) {r : List Int} (h : r ∈ ordersF L) : OkO L r := by
  obtain ⟨l, nd, m⟩ := ordF_row h
  exact nodup_perm _ _ nd (fun x hx => by have := m x hx; exact upI_has this.1 (by omega)) (by rw [upI_len, l]; exact Nat.le_refl _)
def OrdB (n : Nat) : Nat := match n with | 0 => 1 | 1 => 6 | 2 => 36 | 3 => 216 | 4 => 1296 | 5 => 7776 | _ => 46656
theorem ordF_len {L : Int} (hL : OkL L) : ∀ n : Nat, (ordF L n).length ≤ 6 ^ n
  | 0 => Nat.le_refl _
  | n + 1 => by
    have h := ordF_len hL n
    have key : ∀ l : List (List Int), (l.flatMap fun r => ((upI 0 L.toNat).filter fun x => !decide (x ∈ r)).map fun x => r ++ [x]).length ≤ 6 * l.length := fun l => by
      induction l with
      | nil => exact Nat.le_refl 0
      | cons a l ih =>
        rw [List.flatMap_cons, List.length_append, List.length_map, List.length_cons]
        have := List.length_filter_le (fun x => !decide (x ∈ a)) (upI 0 L.toNat)
        rw [upI_len] at this
        have := hL.2
        omega
    unfold ordF
    have := key (ordF L n)
    rw [Nat.pow_succ]; omega
theorem ordF_small {L : Int} (hL : OkL L) {n : Nat} (hn : n ≤ 6) : (ordF L n).length ≤ 46656 := Nat.le_trans (ordF_len hL n) (Nat.pow_le_pow_right (by decide) hn)
theorem ordF_ne {L : Int} (hL : OkL L) : ∀ {n : Nat}, (n : Int) ≤ L → ordF L n ≠ []
  | 0, _ => by simp [ordF]
  | n + 1, h => fun e => by
    obtain ⟨q, hq⟩ := List.exists_mem_of_ne_nil _ (ordF_ne hL (n := n) (by omega))
    obtain ⟨l, nd, m⟩ := ordF_row hq
    have : ∃ x ∈ upI 0 L.toNat, x ∉ q := by
      rcases Classical.em (∃ x ∈ upI 0 L.toNat, x ∉ q) with c | c
      · exact c
      · exfalso
        have sub : ∀ x ∈ upI 0 L.toNat, x ∈ q := fun x hx => by
          rcases Classical.em (x ∈ q) with k | k
          · exact k
          · exact absurd ⟨x, hx, k⟩ c
        have := nodup_len _ _ (upI_nodup 0 L.toNat) sub
        rw [upI_len, l] at this
        omega
    obtain ⟨x, hx, hn⟩ := this
    have : q ++ [x] ∈ ordF L (n + 1) := by
      unfold ordF
      exact List.mem_flatMap.mpr ⟨q, hq, List.mem_map.mpr ⟨x, List.mem_filter.mpr ⟨hx, by simp [hn]⟩, rfl⟩⟩
    rw [e] at this; cases this
/-! ### promises -/
def g__law_net_k58 : DSp := fun as k => ∃ b most long, as = [.ln b, .sh (.int most), .sh (.int long)] ∧ IsPool b ∧ (2 ≤ most ∧ most ≤ 6) ∧ (0 ≤ long ∧ long ≤ 20) ∧ ∀ b' L st, IsPool b' → OkN L st → L ≤ most → ((st.length : Int) ≤ long ∨ 5 < L ∨ st.length ≤ 10) → k (.val (.tuple [.int L, stD st])) [.ln b', .sh (.int most), .sh (.int long)]
def g__law_end_k20 : DSp := fun as k => ∃ st ns, as = [.sh (stD st), .sh (nsD ns)] ∧ OkS ns.length st ∧ k (.val (nsD (endF st ns))) as
def g__law_orders_k58 : DSp := fun as k => ∃ L, as = [.sh (.int L)] ∧ OkL L ∧ k (.val (.list ((ordersF L).map rwD))) as
def g__law_mark_rows_k60 : DSp := fun as k => ∃ L, as = [.sh (.int L)] ∧ OkL L ∧ k (.val (.list ((marksF L.toNat).map rwD))) as
def g__law_is_sorted_k00 : DSp := fun as k => ∃ ns, as = [.sh (nsD ns)] ∧ k (.val (.bool (srt ns))) as
def g__law_marks_of_k60 : DSp := fun as k => ∃ L r, as = [.sh (rwD r)] ∧ OkL L ∧ OkR L r ∧ k (.val (rwsD (marksOf r))) as
def ce__law_net_k58_1 : WE := (wCall g__law_pull_k58 [true, false] (wCons (wVar 0) (wCons (wVar 4) wNil)))
theorem ce__law_net_k58_1_c {s : Sl} {ρ : DEnv} {Q} : ce__law_net_k58_1 (s :: ρ) Q = ((wCall g__law_pull_k58 [true, false] (wCons (wVar 0) (wCons (wVar 4) wNil)))) (s :: ρ) Q := rfl
def cf__law_net_k58_1 : WT := wYes
theorem cf__law_net_k58_1_c {s : Sl} {ρ : DEnv} {Q} : cf__law_net_k58_1 (s :: ρ) Q = (wYes) (s :: ρ) Q := rfl
def bt__law_net_k58_1 : WS := (wRet (wTup (wCons (wVar 3) (wCons (wCB gTuple (wCons (wLc (wRng1 (wCons (wCall g__law_take_k58 [true, false] (wCons (wVar 0) (wCons (wOp2 gAdd (wVar 2) (wC (.int 1))) wNil))) wNil)) (gNm 5) cf__law_net_k58_1 ce__law_net_k58_1 [5]) wNil)) wNil))))
theorem bt__law_net_k58_1_c {s : Sl} {ρ : DEnv} {Q} : bt__law_net_k58_1 (s :: ρ) Q = ((wRet (wTup (wCons (wVar 3) (wCons (wCB gTuple (wCons (wLc (wRng1 (wCons (wCall g__law_take_k58 [true, false] (wCons (wVar 0) (wCons (wOp2 gAdd (wVar 2) (wC (.int 1))) wNil))) wNil)) (gNm 5) cf__law_net_k58_1 ce__law_net_k58_1 [5]) wNil)) wNil))))) (s :: ρ) Q := rfl
def ce__law_net_k58_2 : WE := (wTup (wCons (wVar 7) (wCons (wOp2 gAdd (wVar 7) (wC (.int 1))) wNil)))
theorem ce__law_net_k58_2_c {s : Sl} {ρ : DEnv} {Q} : ce__law_net_k58_2 (s :: ρ) Q = ((wTup (wCons (wVar 7) (wCons (wOp2 gAdd (wVar 7) (wC (.int 1))) wNil)))) (s :: ρ) Q := rfl
def cf__law_net_k58_2 : WT := wYes
theorem cf__law_net_k58_2_c {s : Sl} {ρ : DEnv} {Q} : cf__law_net_k58_2 (s :: ρ) Q = (wYes) (s :: ρ) Q := rfl
def fb__law_net_k58_1 : WS := (wSet 6 (wOp2 gAdd (wVar 6) (wLc (wRng3 (wCons (wOp2 gModI (wCB gInt (wCons (wVar 5) wNil)) (wC (.int 2))) (wCons (wOp2 gSubI (wVar 3) (wC (.int 1))) (wCons (wC (.int 2)) wNil)))) (gNm 7) cf__law_net_k58_2 ce__law_net_k58_2 [7])))
theorem fb__law_net_k58_1_c {s : Sl} {ρ : DEnv} {Q} : fb__law_net_k58_1 (s :: ρ) Q = ((wSet 6 (wOp2 gAdd (wVar 6) (wLc (wRng3 (wCons (wOp2 gModI (wCB gInt (wCons (wVar 5) wNil)) (wC (.int 2))) (wCons (wOp2 gSubI (wVar 3) (wC (.int 1))) (wCons (wC (.int 2)) wNil)))) (gNm 7) cf__law_net_k58_2 ce__law_net_k58_2 [7])))) (s :: ρ) Q := rfl
def bt__law_net_k58_2 : WS := (wDrop (wPopAt 6 (wCall g__law_take_k58 [true, false] (wCons (wVar 0) (wCons (wCB gLen (wCons (wVar 6) wNil)) wNil)))))
theorem bt__law_net_k58_2_c {s : Sl} {ρ : DEnv} {Q} : bt__law_net_k58_2 (s :: ρ) Q = ((wDrop (wPopAt 6 (wCall g__law_take_k58 [true, false] (wCons (wVar 0) (wCons (wCB gLen (wCons (wVar 6) wNil)) wNil)))))) (s :: ρ) Q := rfl
def fb__law_net_k58_2 : WS := (wIf (wOp2T gNe (wVar 6) (wLst wNil)) bt__law_net_k58_2 wNext)
theorem fb__law_net_k58_2_c {s : Sl} {ρ : DEnv} {Q} : fb__law_net_k58_2 (s :: ρ) Q = ((wIf (wOp2T gNe (wVar 6) (wLst wNil)) bt__law_net_k58_2 wNext)) (s :: ρ) Q := rfl
def sq__law_net_k58_1 : WS := (wRet (wTup (wCons (wVar 3) (wCons (wCB gTuple (wCons (wVar 6) wNil)) wNil))))
theorem sq__law_net_k58_1_c {s : Sl} {ρ : DEnv} {Q} : sq__law_net_k58_1 (s :: ρ) Q = ((wRet (wTup (wCons (wVar 3) (wCons (wCB gTuple (wCons (wVar 6) wNil)) wNil))))) (s :: ρ) Q := rfl
def sq__law_net_k58_2 : WS := (wSeq (wFor (wCI [5] (wRng1 (wCons (wCall g__law_pull_k58 [true, false] (wCons (wVar 0) (wCons (wLst (wCons (wC (.int 0)) (wCons (wC (.int 1)) (wCons (wC (.int 1)) (wCons (wC (.int 2)) wNil))))) wNil))) wNil))) (gNm 5) (wEnd [5] fb__law_net_k58_2)) sq__law_net_k58_1)
theorem sq__law_net_k58_2_c {s : Sl} {ρ : DEnv} {Q} : sq__law_net_k58_2 (s :: ρ) Q = ((wSeq (wFor (wCI [5] (wRng1 (wCons (wCall g__law_pull_k58 [true, false] (wCons (wVar 0) (wCons (wLst (wCons (wC (.int 0)) (wCons (wC (.int 1)) (wCons (wC (.int 1)) (wCons (wC (.int 2)) wNil))))) wNil))) wNil))) (gNm 5) (wEnd [5] fb__law_net_k58_2)) sq__law_net_k58_1)) (s :: ρ) Q := rfl
def sq__law_net_k58_3 : WS := (wSeq (wFor (wCI [5, 7] (wRng1 (wCons (wVar 3) wNil))) (gNm 5) (wEnd [5, 7] fb__law_net_k58_1)) sq__law_net_k58_2)
theorem sq__law_net_k58_3_c {s : Sl} {ρ : DEnv} {Q} : sq__law_net_k58_3 (s :: ρ) Q = ((wSeq (wFor (wCI [5, 7] (wRng1 (wCons (wVar 3) wNil))) (gNm 5) (wEnd [5, 7] fb__law_net_k58_1)) sq__law_net_k58_2)) (s :: ρ) Q := rfl
def sq__law_net_k58_4 : WS := (wSeq (wSet 6 (wLst wNil)) sq__law_net_k58_3)
theorem sq__law_net_k58_4_c {s : Sl} {ρ : DEnv} {Q} : sq__law_net_k58_4 (s :: ρ) Q = ((wSeq (wSet 6 (wLst wNil)) sq__law_net_k58_3)) (s :: ρ) Q := rfl
def sq__law_net_k58_5 : WS := (wSeq (wIf (wOp2T gEq (wCall g__law_take_k58 [true, false] (wCons (wVar 0) (wCons (wC (.int 2)) wNil))) (wC (.int 0))) bt__law_net_k58_1 wNext) sq__law_net_k58_4)
theorem sq__law_net_k58_5_c {s : Sl} {ρ : DEnv} {Q} : sq__law_net_k58_5 (s :: ρ) Q = ((wSeq (wIf (wOp2T gEq (wCall g__law_take_k58 [true, false] (wCons (wVar 0) (wCons (wC (.int 2)) wNil))) (wC (.int 0))) bt__law_net_k58_1 wNext) sq__law_net_k58_4)) (s :: ρ) Q := rfl
def sq__law_net_k58_6 : WS := (wSeq (wAsg (wCall g__law_pairs_k58 [false] (wCons (wVar 3) wNil)) (gNm 4)) sq__law_net_k58_5)
theorem sq__law_net_k58_6_c {s : Sl} {ρ : DEnv} {Q} : sq__law_net_k58_6 (s :: ρ) Q = ((wSeq (wAsg (wCall g__law_pairs_k58 [false] (wCons (wVar 3) wNil)) (gNm 4)) sq__law_net_k58_5)) (s :: ρ) Q := rfl
def rd__law_net_k58 : WS := (wSeq (wAsg (wOp2 gAdd (wC (.int 2)) (wCall g__law_take_k58 [true, false] (wCons (wVar 0) (wCons (wOp2 gSubI (wVar 1) (wC (.int 1))) wNil)))) (gNm 3)) sq__law_net_k58_6)
abbrev Sp__law_net_k58 : Prop := SpD rd__law_net_k58 8 3 g__law_net_k58
local macro_rules | `(tactic| fold_at run__law_net_k58) => `(tactic| simp_arith only [ce__law_net_k58_1_c, cf__law_net_k58_1_c, bt__law_net_k58_1_c, ce__law_net_k58_2_c, cf__law_net_k58_2_c, fb__law_net_k58_1_c, bt__law_net_k58_2_c, fb__law_net_k58_2_c, sq__law_net_k58_1_c, sq__law_net_k58_2_c, sq__law_net_k58_3_c, sq__law_net_k58_4_c, sq__law_net_k58_5_c, sq__law_net_k58_6_c])
local macro_rules | `(tactic| fold_at go__law_net_k58) => `(tactic| simp_arith! only [ce__law_net_k58_1_c, cf__law_net_k58_1_c, bt__law_net_k58_1_c, ce__law_net_k58_2_c, cf__law_net_k58_2_c, fb__law_net_k58_1_c, bt__law_net_k58_2_c, fb__law_net_k58_2_c, sq__law_net_k58_1_c, sq__law_net_k58_2_c, sq__law_net_k58_3_c, sq__law_net_k58_4_c, sq__law_net_k58_5_c, sq__law_net_k58_6_c])
def bt__law_end_k20_1 : WS := (wAsg (wTup (wCons (wOp2 gIx (wVar 2) (wVar 4)) (wCons (wOp2 gIx (wVar 2) (wVar 3)) wNil))) (gTp 2 (gsCons (gSb 2 (wVar 3)) (gsCons (gSb 2 (wVar 4)) gsNil))))
theorem bt__law_end_k20_1_c {s : Sl} {ρ : DEnv} {Q} : bt__law_end_k20_1 (s :: ρ) Q = ((wAsg (wTup (wCons (wOp2 gIx (wVar 2) (wVar 4)) (wCons (wOp2 gIx (wVar 2) (wVar 3)) wNil))) (gTp 2 (gsCons (gSb 2 (wVar 3)) (gsCons (gSb 2 (wVar 4)) gsNil))))) (s :: ρ) Q := rfl
def fb__law_end_k20_1 : WS := (wIf (wOp2T gGtA (wOp2 gIx (wVar 2) (wVar 3)) (wOp2 gIx (wVar 2) (wVar 4))) bt__law_end_k20_1 wNext)
theorem fb__law_end_k20_1_c {s : Sl} {ρ : DEnv} {Q} : fb__law_end_k20_1 (s :: ρ) Q = ((wIf (wOp2T gGtA (wOp2 gIx (wVar 2) (wVar 3)) (wOp2 gIx (wVar 2) (wVar 4))) bt__law_end_k20_1 wNext)) (s :: ρ) Q := rfl
def sq__law_end_k20_1 : WS := (wRet (wCB gTuple (wCons (wVar 2) wNil)))
theorem sq__law_end_k20_1_c {s : Sl} {ρ : DEnv} {Q} : sq__law_end_k20_1 (s :: ρ) Q = ((wRet (wCB gTuple (wCons (wVar 2) wNil)))) (s :: ρ) Q := rfl
def sq__law_end_k20_2 : WS := (wSeq (wFor (wCI [3, 4] (wSeqI (wVar 0))) (gTp 2 (gsCons (gNm 3) (gsCons (gNm 4) gsNil))) (wEnd [3, 4] fb__law_end_k20_1)) sq__law_end_k20_1)
theorem sq__law_end_k20_2_c {s : Sl} {ρ : DEnv} {Q} : sq__law_end_k20_2 (s :: ρ) Q = ((wSeq (wFor (wCI [3, 4] (wSeqI (wVar 0))) (gTp 2 (gsCons (gNm 3) (gsCons (gNm 4) gsNil))) (wEnd [3, 4] fb__law_end_k20_1)) sq__law_end_k20_1)) (s :: ρ) Q := rfl
def rd__law_end_k20 : WS := (wSeq (wSet 2 (wCB gList (wCons (wVar 1) wNil))) sq__law_end_k20_2)
abbrev Sp__law_end_k20 : Prop := SpD rd__law_end_k20 5 2 g__law_end_k20
local macro_rules | `(tactic| fold_at run__law_end_k20) => `(tactic| simp_arith only [bt__law_end_k20_1_c, fb__law_end_k20_1_c, sq__law_end_k20_1_c, sq__law_end_k20_2_c])
local macro_rules | `(tactic| fold_at go__law_end_k20) => `(tactic| simp_arith! only [bt__law_end_k20_1_c, fb__law_end_k20_1_c, sq__law_end_k20_1_c, sq__law_end_k20_2_c])
def ce__law_orders_k58_1 : WE := (wOp2 gAdd (wVar 4) (wTup (wCons (wVar 5) wNil)))
theorem ce__law_orders_k58_1_c {s : Sl} {ρ : DEnv} {Q} : ce__law_orders_k58_1 (s :: ρ) Q = ((wOp2 gAdd (wVar 4) (wTup (wCons (wVar 5) wNil)))) (s :: ρ) Q := rfl
def cf__law_orders_k58_1 : WT := (wOp2T (gIn true) (wVar 5) (wVar 4))
theorem cf__law_orders_k58_1_c {s : Sl} {ρ : DEnv} {Q} : cf__law_orders_k58_1 (s :: ρ) Q = ((wOp2T (gIn true) (wVar 5) (wVar 4))) (s :: ρ) Q := rfl
def fb__law_orders_k58_1 : WS := (wAsg (wOp2 gAdd (wVar 3) (wLc (wRng1 (wCons (wVar 0) wNil)) (gNm 5) cf__law_orders_k58_1 ce__law_orders_k58_1 [5])) (gNm 3))
theorem fb__law_orders_k58_1_c {s : Sl} {ρ : DEnv} {Q} : fb__law_orders_k58_1 (s :: ρ) Q = ((wAsg (wOp2 gAdd (wVar 3) (wLc (wRng1 (wCons (wVar 0) wNil)) (gNm 5) cf__law_orders_k58_1 ce__law_orders_k58_1 [5])) (gNm 3))) (s :: ρ) Q := rfl
def sq__law_orders_k58_1 : WS := (wAsg (wVar 3) (gNm 1))
theorem sq__law_orders_k58_1_c {s : Sl} {ρ : DEnv} {Q} : sq__law_orders_k58_1 (s :: ρ) Q = ((wAsg (wVar 3) (gNm 1))) (s :: ρ) Q := rfl
def sq__law_orders_k58_2 : WS := (wSeq (wFor (wCI [4, 5] (wSeqI (wVar 1))) (gNm 4) (wEnd [4, 5] fb__law_orders_k58_1)) sq__law_orders_k58_1)
theorem sq__law_orders_k58_2_c {s : Sl} {ρ : DEnv} {Q} : sq__law_orders_k58_2 (s :: ρ) Q = ((wSeq (wFor (wCI [4, 5] (wSeqI (wVar 1))) (gNm 4) (wEnd [4, 5] fb__law_orders_k58_1)) sq__law_orders_k58_1)) (s :: ρ) Q := rfl
def fb__law_orders_k58_2 : WS := (wSeq (wAsg (wLst wNil) (gNm 3)) sq__law_orders_k58_2)
theorem fb__law_orders_k58_2_c {s : Sl} {ρ : DEnv} {Q} : fb__law_orders_k58_2 (s :: ρ) Q = ((wSeq (wAsg (wLst wNil) (gNm 3)) sq__law_orders_k58_2)) (s :: ρ) Q := rfl
def sq__law_orders_k58_3 : WS := (wRet (wVar 1))
theorem sq__law_orders_k58_3_c {s : Sl} {ρ : DEnv} {Q} : sq__law_orders_k58_3 (s :: ρ) Q = ((wRet (wVar 1))) (s :: ρ) Q := rfl
def sq__law_orders_k58_4 : WS := (wSeq (wFor (wCI [2, 3, 4, 5] (wRng1 (wCons (wVar 0) wNil))) (gNm 2) (wEnd [2, 3, 4, 5] fb__law_orders_k58_2)) sq__law_orders_k58_3)
theorem sq__law_orders_k58_4_c {s : Sl} {ρ : DEnv} {Q} : sq__law_orders_k58_4 (s :: ρ) Q = ((wSeq (wFor (wCI [2, 3, 4, 5] (wRng1 (wCons (wVar 0) wNil))) (gNm 2) (wEnd [2, 3, 4, 5] fb__law_orders_k58_2)) sq__law_orders_k58_3)) (s :: ρ) Q := rfl
def rd__law_orders_k58 : WS := (wSeq (wAsg (wLst (wCons (wTup wNil) wNil)) (gNm 1)) sq__law_orders_k58_4)
abbrev Sp__law_orders_k58 : Prop := SpD rd__law_orders_k58 6 1 g__law_orders_k58
local macro_rules | `(tactic| fold_at run__law_orders_k58) => `(tactic| simp_arith only [ce__law_orders_k58_1_c, cf__law_orders_k58_1_c, fb__law_orders_k58_1_c, sq__law_orders_k58_1_c, sq__law_orders_k58_2_c, fb__law_orders_k58_2_c, sq__law_orders_k58_3_c, sq__law_orders_k58_4_c])
local macro_rules | `(tactic| fold_at go__law_orders_k58) => `(tactic| simp_arith! only [ce__law_orders_k58_1_c, cf__law_orders_k58_1_c, fb__law_orders_k58_1_c, sq__law_orders_k58_1_c, sq__law_orders_k58_2_c, fb__law_orders_k58_2_c, sq__law_orders_k58_3_c, sq__law_orders_k58_4_c])
def fb__law_mark_rows_k60_1 : WS := (wAsg (wOp2 gAdd (wVar 3) (wLst (wCons (wOp2 gAdd (wVar 4) (wTup (wCons (wC (.int 0)) wNil))) (wCons (wOp2 gAdd (wVar 4) (wTup (wCons (wC (.int 1)) wNil))) wNil)))) (gNm 3))
theorem fb__law_mark_rows_k60_1_c {s : Sl} {ρ : DEnv} {Q} : fb__law_mark_rows_k60_1 (s :: ρ) Q = ((wAsg (wOp2 gAdd (wVar 3) (wLst (wCons (wOp2 gAdd (wVar 4) (wTup (wCons (wC (.int 0)) wNil))) (wCons (wOp2 gAdd (wVar 4) (wTup (wCons (wC (.int 1)) wNil))) wNil)))) (gNm 3))) (s :: ρ) Q := rfl
def sq__law_mark_rows_k60_1 : WS := (wAsg (wVar 3) (gNm 1))
theorem sq__law_mark_rows_k60_1_c {s : Sl} {ρ : DEnv} {Q} : sq__law_mark_rows_k60_1 (s :: ρ) Q = ((wAsg (wVar 3) (gNm 1))) (s :: ρ) Q := rfl
def sq__law_mark_rows_k60_2 : WS := (wSeq (wFor (wCI [4] (wSeqI (wVar 1))) (gNm 4) (wEnd [4] fb__law_mark_rows_k60_1)) sq__law_mark_rows_k60_1)
theorem sq__law_mark_rows_k60_2_c {s : Sl} {ρ : DEnv} {Q} : sq__law_mark_rows_k60_2 (s :: ρ) Q = ((wSeq (wFor (wCI [4] (wSeqI (wVar 1))) (gNm 4) (wEnd [4] fb__law_mark_rows_k60_1)) sq__law_mark_rows_k60_1)) (s :: ρ) Q := rfl
def fb__law_mark_rows_k60_2 : WS := (wSeq (wAsg (wLst wNil) (gNm 3)) sq__law_mark_rows_k60_2)
theorem fb__law_mark_rows_k60_2_c {s : Sl} {ρ : DEnv} {Q} : fb__law_mark_rows_k60_2 (s :: ρ) Q = ((wSeq (wAsg (wLst wNil) (gNm 3)) sq__law_mark_rows_k60_2)) (s :: ρ) Q := rfl
def sq__law_mark_rows_k60_3 : WS := (wRet (wVar 1))
theorem sq__law_mark_rows_k60_3_c {s : Sl} {ρ : DEnv} {Q} : sq__law_mark_rows_k60_3 (s :: ρ) Q = ((wRet (wVar 1))) (s :: ρ) Q := rfl
def sq__law_mark_rows_k60_4 : WS := (wSeq (wFor (wCI [2, 3, 4] (wRng1 (wCons (wVar 0) wNil))) (gNm 2) (wEnd [2, 3, 4] fb__law_mark_rows_k60_2)) sq__law_mark_rows_k60_3)
theorem sq__law_mark_rows_k60_4_c {s : Sl} {ρ : DEnv} {Q} : sq__law_mark_rows_k60_4 (s :: ρ) Q = ((wSeq (wFor (wCI [2, 3, 4] (wRng1 (wCons (wVar 0) wNil))) (gNm 2) (wEnd [2, 3, 4] fb__law_mark_rows_k60_2)) sq__law_mark_rows_k60_3)) (s :: ρ) Q := rfl
def rd__law_mark_rows_k60 : WS := (wSeq (wAsg (wLst (wCons (wTup wNil) wNil)) (gNm 1)) sq__law_mark_rows_k60_4)
abbrev Sp__law_mark_rows_k60 : Prop := SpD rd__law_mark_rows_k60 5 1 g__law_mark_rows_k60
local macro_rules | `(tactic| fold_at run__law_mark_rows_k60) => `(tactic| simp_arith only [fb__law_mark_rows_k60_1_c, sq__law_mark_rows_k60_1_c, sq__law_mark_rows_k60_2_c, fb__law_mark_rows_k60_2_c, sq__law_mark_rows_k60_3_c, sq__law_mark_rows_k60_4_c])
local macro_rules | `(tactic| fold_at go__law_mark_rows_k60) => `(tactic| simp_arith! only [fb__law_mark_rows_k60_1_c, sq__law_mark_rows_k60_1_c, sq__law_mark_rows_k60_2_c, fb__law_mark_rows_k60_2_c, sq__law_mark_rows_k60_3_c, sq__law_mark_rows_k60_4_c])
def rd__law_is_sorted_k00 : WS := (wRet (wOp2 gEq (wCB gList (wCons (wVar 0) wNil)) (wCB gSorted (wCons (wVar 0) wNil))))
abbrev Sp__law_is_sorted_k00 : Prop := SpD rd__law_is_sorted_k00 1 1 g__law_is_sorted_k00
local macro_rules | `(tactic| fold_at run__law_is_sorted_k00) => `(tactic| simp_arith only [id_eq])
local macro_rules | `(tactic| fold_at go__law_is_sorted_k00) => `(tactic| simp_arith! only [id_eq])
def ce__law_marks_of_k60_1 : WE := (wCB gInt (wCons (wOp2 gGeA (wVar 1) (wVar 2)) wNil))
theorem ce__law_marks_of_k60_1_c {s : Sl} {ρ : DEnv} {Q} : ce__law_marks_of_k60_1 (s :: ρ) Q = ((wCB gInt (wCons (wOp2 gGeA (wVar 1) (wVar 2)) wNil))) (s :: ρ) Q := rfl
def cf__law_marks_of_k60_1 : WT := wYes
theorem cf__law_marks_of_k60_1_c {s : Sl} {ρ : DEnv} {Q} : cf__law_marks_of_k60_1 (s :: ρ) Q = (wYes) (s :: ρ) Q := rfl
def ce__law_marks_of_k60_2 : WE := (wCB gTuple (wCons (wLc (wSeqI (wVar 0)) (gNm 1) cf__law_marks_of_k60_1 ce__law_marks_of_k60_1 [1]) wNil))
theorem ce__law_marks_of_k60_2_c {s : Sl} {ρ : DEnv} {Q} : ce__law_marks_of_k60_2 (s :: ρ) Q = ((wCB gTuple (wCons (wLc (wSeqI (wVar 0)) (gNm 1) cf__law_marks_of_k60_1 ce__law_marks_of_k60_1 [1]) wNil))) (s :: ρ) Q := rfl
def cf__law_marks_of_k60_2 : WT := wYes
theorem cf__law_marks_of_k60_2_c {s : Sl} {ρ : DEnv} {Q} : cf__law_marks_of_k60_2 (s :: ρ) Q = (wYes) (s :: ρ) Q := rfl
def rd__law_marks_of_k60 : WS := (wRet (wCB gTuple (wCons (wLc (wRng2 (wCons (wC (.int 1)) (wCons (wCB gLen (wCons (wVar 0) wNil)) wNil))) (gNm 2) cf__law_marks_of_k60_2 ce__law_marks_of_k60_2 [2]) wNil)))
abbrev Sp__law_marks_of_k60 : Prop := SpD rd__law_marks_of_k60 3 1 g__law_marks_of_k60
local macro_rules | `(tactic| fold_at run__law_marks_of_k60) => `(tactic| simp_arith only [ce__law_marks_of_k60_1_c, cf__law_marks_of_k60_1_c, ce__law_marks_of_k60_2_c, cf__law_marks_of_k60_2_c])
local macro_rules | `(tactic| fold_at go__law_marks_of_k60) => `(tactic| simp_arith! only [ce__law_marks_of_k60_1_c, cf__law_marks_of_k60_1_c, ce__law_marks_of_k60_2_c, cf__law_marks_of_k60_2_c])
theorem sp__law_end_k20 : Sp__law_end_k20 := by
  rintro _ Qd ⟨st, ns, rfl, hS, h⟩
  (refine ⟨rfl, ?_⟩; unfold rd__law_end_k20)
  fold_at run__law_end_k20
  refine for_fold (fun f : List Int => [.sh (stD st), .sh (nsD ns), .own (.lst (f.map .int)), .emp, .emp]) exch (fun f as => f.length = ns.length ∧ ∀ p ∈ as, OkP ns.length p) (fun f p as K hJ hK => ?_) st ns ⟨rfl, hS.2⟩ fun _ => ?_
  · obtain ⟨hl, hp⟩ := hJ
    obtain ⟨o1, o2, o3⟩ := hp p List.mem_cons_self
    have hK := hK ⟨by rw [exch_len]; exact hl, fun q hq => hp q (List.mem_cons_of_mem _ hq)⟩
    have g1 := atI_at o1 (ints_get (xs := f) (i := p.1.toNat) (by omega))
    have g2 := atI_at (show 0 ≤ p.2 by omega) (ints_get (xs := f) (i := p.2.toNat) (by omega))
    have i1 : ixN (f.map PyData.int).length p.1 = some p.1.toNat := ixN_at o1 (by rw [List.length_map]; omega)
    have i2 : ∀ x, ixN ((f.map PyData.int).set p.1.toNat x).length p.2 = some p.2.toNat := fun x => ixN_at (show 0 ≤ p.2 by omega) (by rw [List.length_set, List.length_map]; omega)
    fold_at run__law_end_k20
    simp_arith only [g1, g2, i1, i2]
    unfold exch at hK
    by_cases hx : f.getD p.2.toNat 0 < f.getD p.1.toNat 0
    · rw [if_pos hx, List.map_set, List.map_set] at hK
      simp_arith only [decide_eq_true hx, i2]
      exact ⟨by decide, hK⟩
    · rw [if_neg hx] at hK
      simp_arith only [decide_eq_false hx]
      exact hK
  · fold_at run__law_end_k20
    exact h
theorem sp__law_is_sorted_k00 : Sp__law_is_sorted_k00 := by
  rintro _ Qd ⟨ns, rfl, h⟩
  have hs := srtb_ints ns
  (refine ⟨rfl, ?_⟩; unfold rd__law_is_sorted_k00)
  fold_at go__law_is_sorted_k00
  rw [srtD_ints, eqv_lst]
  refine ⟨shp_lst _, shp_lst _, ?_⟩
  have e : decide (ns = isort ns) = srt ns := by
    cases c : srt ns with
    | true => exact decide_eq_true (isort_eq.mpr c).symm
    | false => exact decide_eq_false fun z => by rw [isort_eq.mp z.symm] at c; cases c
  rw [e]
  exact h
theorem sp__law_mark_rows_k60 : Sp__law_mark_rows_k60 := by
  rintro _ Qd ⟨L, rfl, hL, h⟩
  obtain ⟨l1, l2⟩ := id hL
  (refine ⟨rfl, ?_⟩; unfold rd__law_mark_rows_k60)
  fold_at go__law_mark_rows_k60
  rw [rng_up]
  refine for_fold (fun n : Nat => [.sh (.int L), .sh (.list ((marksF n).map rwD)), .emp, .emp, .emp]) (fun n _ => n + 1) (fun n as => n + as.length ≤ 6) (fun n a as K hJ hK => ?_) (upI 0 L.toNat) 0 (by rw [upI_len]; omega) fun _ => ?_
  · simp only [List.length_cons] at hJ
    have hl := marksF_small (n := n) (by omega)
    have hK := hK (by omega)
    fold_at go__law_mark_rows_k60
    refine for_acc shL 3 (fun r => [rwD (r ++ [0]), rwD (r ++ [1])]) 200 _ [] (fun r acc K1 hr hl1 hk1 => ?_) ?_ ?_
    · have hl2 : r.length ≤ 6 := by have := (marksF_row hr).1; omega
      simp only [List.length_cons, List.length_nil] at hl1
      simp only [rwD, List.map_append, List.map_cons, List.map_nil] at hk1
      fold_at go__law_mark_rows_k60
    · rw [marks2_len]; simp; omega
    · fold_at go__law_mark_rows_k60
      unfold marksF at hK
      rw [List.map_flatMap] at hK
      exact hK
  · rw [fold_len, upI_len, Nat.zero_add]
    fold_at go__law_mark_rows_k60
theorem in_ints {x : Int} : ∀ {r : List Int}, ((r.map PyData.int).any fun y => PyData.eqv y (.int x)) = decide (x ∈ r)
  | [] => by simp
  | t :: ts => by
    rw [List.map_cons, List.any_cons, in_ints (r := ts)]
    show (t == x || _) = _
    by_cases h : t = x
    · subst h; simp
    · have : ¬ x = t := fun e => h e.symm
      simp [h, this]
theorem sp__law_orders_k58 : Sp__law_orders_k58 := by
  rintro _ Qd ⟨L, rfl, hL, h⟩
  obtain ⟨l1, l2⟩ := id hL
  (refine ⟨rfl, ?_⟩; unfold rd__law_orders_k58)
  fold_at go__law_orders_k58
  rw [rng_up]
  let nxt := fun r : List Int => (((upI 0 L.toNat).filter fun x => !decide (x ∈ r)).map fun x => r ++ [x])
  refine for_fold (fun n : Nat => [.sh (.int L), .sh (.list ((ordF L n).map rwD)), .emp, .emp, .emp, .emp]) (fun n _ => n + 1) (fun n as => n + as.length ≤ 6) (fun n a as K hJ hK => ?_) (upI 0 L.toNat) 0 (by rw [upI_len]; omega) fun _ => ?_
  · simp only [List.length_cons] at hJ
    have hl := ordF_small hL (n := n + 1) (by omega)
    have hK := hK (by omega)
    have hlen : ((ordF L n).flatMap fun r => (nxt r).map rwD).length ≤ 46656 := by
      have e : ((ordF L n).flatMap fun r => (nxt r).map rwD) = (ordF L (n + 1)).map rwD := by show _ = (List.flatMap nxt _).map rwD; rw [List.map_flatMap]
      rw [e, List.length_map]; exact hl
    fold_at go__law_orders_k58
    refine for_acc shL 3 (fun r => (nxt r).map rwD) 50000 _ [] (fun r acc K1 hr hl1 hk1 => ?_) ?_ ?_
    · have hl2 : r.length ≤ 6 := by have := (ordF_row hr).1; omega
      rw [List.length_map] at hl1
      fold_at go__law_orders_k58
      rw [rng_up]
      refine lc_flt (fun x => rwD (r ++ [x])) (fun x => !decide (x ∈ r)) _ (fun x K2 K0 hx hk2 hk0 => ?_) (by rw [upI_len]; omega) ?_
      · fold_at go__law_orders_k58
        rw [in_ints]
        refine ⟨shp_tup r, ?_⟩
        cases c : decide (x ∈ r) with
        | true => rw [c] at hk0; exact hk0 rfl _ rfl
        | false =>
          rw [c] at hk2
          have := hk2 rfl
          unfold rwD at this
          rw [List.map_append] at this
          fold_at go__law_orders_k58
          exact this _ rfl
      · fold_at go__law_orders_k58
        have e2 : (((upI 0 L.toNat).filter fun x => !decide (x ∈ r)).map fun x => rwD (r ++ [x])) = (nxt r).map rwD := by show _ = (List.map _ _).map rwD; rw [List.map_map]; rfl
        rw [e2]
        refine ⟨by rw [List.length_map]; omega, hk1⟩
    · simpa using (by omega : ((ordF L n).flatMap fun r => (nxt r).map rwD).length ≤ 50000)
    · fold_at go__law_orders_k58
      unfold ordF at hK
      rw [List.map_flatMap] at hK
      exact hK
  · rw [fold_len, upI_len, Nat.zero_add]
    fold_at go__law_orders_k58
theorem sp__law_marks_of_k60 : Sp__law_marks_of_k60 := by
  rintro _ Qd ⟨L, r, rfl, hL, hR, h⟩
  obtain ⟨l1, l2⟩ := id hL
  have hl := hR.1
  (refine ⟨rfl, ?_⟩; unfold rd__law_marks_of_k60)
  fold_at go__law_marks_of_k60
  rw [List.length_map, rng_up]
  refine lc_map (fun t => rwD (markF t r)) _ (fun t K K0 ht hK => ?_) (by rw [upI_len]; omega) ?_
  · have := upI_mem ht
    fold_at go__law_marks_of_k60
    refine lc_map (fun x => .int (if t ≤ x then 1 else 0)) r (fun a K K0 ha hK => ?_) (by omega) ?_
    · fold_at go__law_marks_of_k60
      by_cases hx : t ≤ a
      · rw [if_pos hx] at hK
        simp_arith only [decide_eq_true hx]
        exact hK _ rfl
      · rw [if_neg hx] at hK
        simp_arith only [decide_eq_false hx]
        exact hK _ rfl
    · fold_at go__law_marks_of_k60
      unfold rwD markF at hK
      rw [List.map_map] at hK
      exact hK _ rfl
  · fold_at go__law_marks_of_k60
    unfold rwsD marksOf at h
    rw [List.map_map, show r.length - 1 = ((r.length : Int) - 1).toNat by omega] at h
    exact h
theorem bt_len5 {L : Int} (hL : OkL L) (h5 : L ≤ 5) (ts : List Int) : (ts.flatMap (bwF L)).length ≤ 2 * ts.length := by
  induction ts with
  | nil => exact Nat.le_refl 0
  | cons t ts ih =>
    rw [List.flatMap_cons, List.length_append, List.length_cons]
    have : (bwF L t).length ≤ 2 := by
      obtain ⟨l1, l2⟩ := id hL
      unfold bwF
      rw [List.length_map, List.length_range]
      have ht : t % 2 = 0 ∨ t % 2 = 1 := by omega
      rcases ht with e | e <;> rw [e] <;> omega
    omega
theorem sp__law_net_k58 : Sp__law_net_k58 := by
  rintro _ Qd ⟨b, most, long, rfl, hb, hm, hlo, h⟩
  (refine ⟨rfl, ?_⟩; unfold rd__law_net_k58)
  fold_at go__law_net_k58
  intro b1 x hb1 x0 x1
  have hL : OkL (2 + x) := ⟨by omega, by omega⟩
  have hLm : 2 + x ≤ most := by omega
  generalize 2 + x = L at hL hLm
  obtain ⟨l1, l2⟩ := id hL
  fold_at go__law_net_k58
  intro b2 y hb2 y0 y1
  fold_at go__law_net_k58
  by_cases hy : y = 0
  · simp_arith only [decide_eq_true hy]
    fold_at go__law_net_k58
    intro b3 z hb3 z0 z1
    fold_at go__law_net_k58
    rw [rng_up]
    refine lc_rel pD (fun ρ => ∃ b, IsPool b ∧ ρ = [.lent b, .sh (.int most), .sh (.int long), .sh (.int L), .sh (.list ((pairsOf L).map pD)), .emp, .emp, .emp]) (OkP L) _ (fun a ρ K K0 _ hI hK => ?_) (by rw [upI_len]; omega) ⟨_, hb3, rfl⟩ fun st ρ hl ho hI => ?_
    · obtain ⟨b4, hb4, rfl⟩ := hI
      fold_at go__law_net_k58
      refine gOf_list hb4 (pairsOf_ne hL) (by have := pairsOf_len hL; omega) fun b5 p hb5 hp => ?_
      fold_at go__law_net_k58
      exact hK p _ _ (pairsOf_ok hp) ⟨b5, hb5, rfl⟩ rfl
    · obtain ⟨b4, hb4, rfl⟩ := hI
      rw [upI_len] at hl
      fold_at go__law_net_k58
      exact h _ L st hb4 ⟨hL, by omega, ho⟩ hLm (.inl (by omega))
  · simp_arith only [decide_eq_false hy]
    fold_at go__law_net_k58
    rw [rng_up]
    refine for_acc owL 6 (fun t => (bwF L t).map pD) 100 _ [] (fun t acc K ht hl hK => ?_) ?_ ?_
    · rw [List.length_map] at hl
      have bl := bw_len (t := t) hL
      fold_at go__law_net_k58
      refine ⟨_, bw_rg hL, ?_⟩
      rw [rng_upC]
      refine lc_map (fun i : Int => pD (i, i + 1)) _ (fun i K1 K0 hi hk1 => ?_) (by rw [upC_len]; unfold bwF at bl; rw [List.length_map, List.length_range] at bl; omega) ?_
      · fold_at go__law_net_k58
        exact hk1 _ rfl
      · rw [bw_map]
        fold_at go__law_net_k58
    · have := bt_len hL (upI 0 L.toNat)
      rw [← List.map_flatMap, List.length_map, List.length_nil]
      rw [upI_len] at this
      omega
    · have hs := bt_len hL (upI 0 L.toNat)
      rw [upI_len] at hs
      have hs5 : 5 < L ∨ ((upI 0 L.toNat).flatMap (bwF L)).length ≤ 10 := by
        by_cases h5 : L ≤ 5
        · have := bt_len5 hL h5 (upI 0 L.toNat)
          rw [upI_len] at this
          exact .inr (by omega)
        · exact .inl (by omega)
      have ho := bt_ok hL (ts := upI 0 L.toNat)
      rw [← List.map_flatMap]
      generalize (upI 0 L.toNat).flatMap (bwF L) = st0 at hs hs5 ho
      fold_at go__law_net_k58
      refine gOf_lit hb2 (by simp) (by simp) fun b3 d hb3 hd => ?_
      have : ∃ n : Int, d = .int n ∧ 0 ≤ n ∧ n ≤ 2 := by
        simp only [List.mem_cons, List.not_mem_nil, or_false] at hd
        rcases hd with e | e | e | e <;> subst e <;> exact ⟨_, rfl, by decide, by decide⟩
      obtain ⟨n, rfl, n0, n1⟩ := this
      fold_at go__law_net_k58
      rw [rng_up]
      refine for_inv (fun _ ρ => ∃ (b : Box) (st : List (Int × Int)), IsPool b ∧ (st.length ≤ 24 ∧ (5 < L ∨ st.length ≤ 10)) ∧ (∀ p ∈ st, OkP L p) ∧ ρ = [.lent b, .sh (.int most), .sh (.int long), .sh (.int L), .sh (.list ((pairsOf L).map pD)), .emp, .own (.lst (st.map pD)), .emp]) (fun a as ρ K hI hK => ?_) (fun ρ hI => ?_) _ _ ⟨b3, st0, hb3, ⟨by omega, hs5⟩, ho, rfl⟩
      · obtain ⟨b4, st, hb4, hl4, ho4, rfl⟩ := hI
        fold_at go__law_net_k58
        rw [eqv_lnil]
        refine ⟨shp_prsL st, by decide, ?_⟩
        cases st with
        | nil =>
          fold_at go__law_net_k58
          exact hK _ ⟨b4, [], hb4, hl4, ho4, rfl⟩
        | cons p st =>
          fold_at go__law_net_k58
          rw [List.length_map]
          intro b5 r hb5 r0 r1
          have hr : r.toNat < (p :: st).length := by rw [List.length_cons]; omega
          simp_arith only [seqI_at (n := st.length + 1) r0 (by omega)]
          rw [show pD p :: st.map pD = (p :: st).map pD from rfl, List.getElem?_map, List.getElem?_eq_getElem hr, erase_map]
          refine ⟨by omega, hK _ ⟨b5, (p :: st).eraseIdx r.toNat, hb5, ?_, fun q hq => ho4 q (List.mem_of_mem_eraseIdx hq), rfl⟩⟩
          have := List.length_eraseIdx_le (p :: st) r.toNat
          exact ⟨by omega, hl4.2.imp id fun z => by omega⟩
      · obtain ⟨b4, st, hb4, hl4, ho4, rfl⟩ := hI
        fold_at go__law_net_k58
        exact h _ L st hb4 ⟨hL, hl4.1, ho4⟩ hLm (.inr hl4.2)
def g__law_test_k60 : DSp := fun as k => ∃ b L, as = [.ln b, .sh (.int L)] ∧ IsPool b ∧ OkL L ∧ ∀ b' ts, IsPool b' → OkT L ts → k (.val (rwsD ts)) [.ln b', .sh (.int L)]
def ce__law_test_k60_1 : WE := (wCall g__law_take_k58 [true, false] (wCons (wVar 0) (wCons (wC (.int 100)) wNil)))
theorem ce__law_test_k60_1_c {s : Sl} {ρ : DEnv} {Q} : ce__law_test_k60_1 (s :: ρ) Q = ((wCall g__law_take_k58 [true, false] (wCons (wVar 0) (wCons (wC (.int 100)) wNil)))) (s :: ρ) Q := rfl
def cf__law_test_k60_1 : WT := wYes
theorem cf__law_test_k60_1_c {s : Sl} {ρ : DEnv} {Q} : cf__law_test_k60_1 (s :: ρ) Q = (wYes) (s :: ρ) Q := rfl
def sq__law_test_k60_1 : WS := (wAsg (wIfE (wOp2T (gIn false) (wVar 4) (wVar 2)) (wVar 2) (wOp2 gAdd (wVar 2) (wLst (wCons (wVar 4) wNil)))) (gNm 2))
theorem sq__law_test_k60_1_c {s : Sl} {ρ : DEnv} {Q} : sq__law_test_k60_1 (s :: ρ) Q = ((wAsg (wIfE (wOp2T (gIn false) (wVar 4) (wVar 2)) (wVar 2) (wOp2 gAdd (wVar 2) (wLst (wCons (wVar 4) wNil)))) (gNm 2))) (s :: ρ) Q := rfl
def sq__law_test_k60_2 : WS := (wSeq (wAsg (wIfE (wOp2T gEq (wCall g__law_take_k58 [true, false] (wCons (wVar 0) (wCons (wC (.int 6)) wNil))) (wC (.int 0))) (wCB gTuple (wCons (wLc (wRng1 (wCons (wVar 1) wNil)) (gNm 5) cf__law_test_k60_1 ce__law_test_k60_1 [5]) wNil)) (wVar 4)) (gNm 4)) sq__law_test_k60_1)
theorem sq__law_test_k60_2_c {s : Sl} {ρ : DEnv} {Q} : sq__law_test_k60_2 (s :: ρ) Q = ((wSeq (wAsg (wIfE (wOp2T gEq (wCall g__law_take_k58 [true, false] (wCons (wVar 0) (wCons (wC (.int 6)) wNil))) (wC (.int 0))) (wCB gTuple (wCons (wLc (wRng1 (wCons (wVar 1) wNil)) (gNm 5) cf__law_test_k60_1 ce__law_test_k60_1 [5]) wNil)) (wVar 4)) (gNm 4)) sq__law_test_k60_1)) (s :: ρ) Q := rfl
def fb__law_test_k60_1 : WS := (wSeq (wAsg (wCall g__law_pull_k58 [true, false] (wCons (wVar 0) (wCons (wLst (wCons (wCall g__law_pull_k58 [true, false] (wCons (wVar 0) (wCons (wCall g__law_mark_rows_k60 [false] (wCons (wVar 1) wNil)) wNil))) (wCons (wCall g__law_pull_k58 [true, false] (wCons (wVar 0) (wCons (wCall g__law_orders_k58 [false] (wCons (wVar 1) wNil)) wNil))) wNil))) wNil))) (gNm 4)) sq__law_test_k60_2)
theorem fb__law_test_k60_1_c {s : Sl} {ρ : DEnv} {Q} : fb__law_test_k60_1 (s :: ρ) Q = ((wSeq (wAsg (wCall g__law_pull_k58 [true, false] (wCons (wVar 0) (wCons (wLst (wCons (wCall g__law_pull_k58 [true, false] (wCons (wVar 0) (wCons (wCall g__law_mark_rows_k60 [false] (wCons (wVar 1) wNil)) wNil))) (wCons (wCall g__law_pull_k58 [true, false] (wCons (wVar 0) (wCons (wCall g__law_orders_k58 [false] (wCons (wVar 1) wNil)) wNil))) wNil))) wNil))) (gNm 4)) sq__law_test_k60_2)) (s :: ρ) Q := rfl
def sq__law_test_k60_3 : WS := (wRet (wCB gTuple (wCons (wVar 2) wNil)))
theorem sq__law_test_k60_3_c {s : Sl} {ρ : DEnv} {Q} : sq__law_test_k60_3 (s :: ρ) Q = ((wRet (wCB gTuple (wCons (wVar 2) wNil)))) (s :: ρ) Q := rfl
def sq__law_test_k60_4 : WS := (wSeq (wFor (wCI [3, 4, 5] (wRng1 (wCons (wCall g__law_pull_k58 [true, false] (wCons (wVar 0) (wCons (wLst (wCons (wC (.int 0)) (wCons (wC (.int 1)) (wCons (wC (.int 2)) (wCons (wC (.int 4)) (wCons (wC (.int 7)) wNil)))))) wNil))) wNil))) (gNm 3) (wEnd [3, 4, 5] fb__law_test_k60_1)) sq__law_test_k60_3)
theorem sq__law_test_k60_4_c {s : Sl} {ρ : DEnv} {Q} : sq__law_test_k60_4 (s :: ρ) Q = ((wSeq (wFor (wCI [3, 4, 5] (wRng1 (wCons (wCall g__law_pull_k58 [true, false] (wCons (wVar 0) (wCons (wLst (wCons (wC (.int 0)) (wCons (wC (.int 1)) (wCons (wC (.int 2)) (wCons (wC (.int 4)) (wCons (wC (.int 7)) wNil)))))) wNil))) wNil))) (gNm 3) (wEnd [3, 4, 5] fb__law_test_k60_1)) sq__law_test_k60_3)) (s :: ρ) Q := rfl
def rd__law_test_k60 : WS := (wSeq (wAsg (wLst wNil) (gNm 2)) sq__law_test_k60_4)
abbrev Sp__law_test_k60 : Prop := SpD rd__law_test_k60 6 2 g__law_test_k60
local macro_rules | `(tactic| fold_at run__law_test_k60) => `(tactic| simp_arith only [ce__law_test_k60_1_c, cf__law_test_k60_1_c, sq__law_test_k60_1_c, sq__law_test_k60_2_c, fb__law_test_k60_1_c, sq__law_test_k60_3_c, sq__law_test_k60_4_c])
local macro_rules | `(tactic| fold_at go__law_test_k60) => `(tactic| simp_arith! only [ce__law_test_k60_1_c, cf__law_test_k60_1_c, sq__law_test_k60_1_c, sq__law_test_k60_2_c, fb__law_test_k60_1_c, sq__law_test_k60_3_c, sq__law_test_k60_4_c])
theorem marksF_ne (n : Nat) : marksF n ≠ [] := fun e => by
  have := marksF_len n
  rw [e] at this
  have : 0 < 2 ^ n := Nat.pow_pos (by decide)
  simp at *
  omega
theorem marks_okR {L : Int} (hL : OkL L) {r : List Int} (h : r ∈ marksF L.toNat) : OkR L r := by
  obtain ⟨l, m⟩ := marksF_row h
  exact ⟨by have := hL.1; omega, fun x hx => by rcases m x hx with e | e <;> omega⟩
theorem sp__law_test_k60 : Sp__law_test_k60 := by
  rintro _ Qd ⟨b, L, rfl, hb, hL, h⟩
  obtain ⟨l1, l2⟩ := id hL
  (refine ⟨rfl, ?_⟩; unfold rd__law_test_k60)
  fold_at go__law_test_k60
  refine gOf_lit hb (by simp) (by simp) fun b3 d hb3 hd => ?_
  have : ∃ n : Int, d = .int n ∧ 0 ≤ n ∧ n ≤ 7 := by
    simp only [List.mem_cons, List.not_mem_nil, or_false] at hd
    rcases hd with e | e | e | e | e <;> subst e <;> exact ⟨_, rfl, by decide, by decide⟩
  obtain ⟨n, rfl, n0, n1⟩ := this
  fold_at go__law_test_k60
  rw [rng_up]
  refine for_inv (fun as ρ => ∃ (b : Box) (ts : List (List Int)), IsPool b ∧ ts.length + as.length ≤ 7 ∧ (∀ r ∈ ts, OkR L r) ∧ ts.Nodup ∧ ρ = [.lent b, .sh (.int L), .sh (.list (ts.map rwD)), .emp, .emp, .emp]) (fun a as ρ K hI hK => ?_) (fun ρ hI => ?_) _ _ ⟨b3, [], hb3, by rw [upI_len]; simp; omega, (fun _ h => nomatch h), List.nodup_nil, rfl⟩
  · obtain ⟨b4, ts, hb4, hl4, ho4, nd, rfl⟩ := hI
    rw [List.length_cons] at hl4
    fold_at go__law_test_k60
    refine gOf_list hb4 (marksF_ne _) (by have := marksF_small (n := L.toNat) (by omega); omega) fun b5 r1 hb5 hr1 => ?_
    fold_at go__law_test_k60
    refine gOf_list hb5 (ordF_ne hL (by omega)) (by have := ordF_small hL (n := L.toNat) (by omega); unfold ordersF; omega) fun b6 r2 hb6 hr2 => ?_
    fold_at go__law_test_k60
    refine gOf_lit hb6 (by simp) (by simp) fun b7 d hb7 hd => ?_
    have : ∃ r : List Int, d = rwD r ∧ OkR L r := by
      simp only [List.mem_cons, List.not_mem_nil, or_false] at hd
      rcases hd with e | e
      · exact ⟨r1, e, marks_okR hL hr1⟩
      · exact ⟨r2, e, (ordersF_ok hL hr2).row hL⟩
    obtain ⟨r3, rfl, hr3⟩ := this
    fold_at go__law_test_k60
    intro b8 z hb8 z0 z1
    have fin : ∀ (b9 : Box) (r : List Int), IsPool b9 → OkR L r → (match decide (r ∈ ts) with
        | true => K [.lent b9, .sh (.int L), .sh (.list (ts.map rwD)), .emp, .emp, .emp]
        | false => 1 ≤ 16777216 ∧ (ts.map rwD).length + 1 ≤ 16777216 ∧ K [.lent b9, .sh (.int L), .sh (.list (ts.map rwD ++ [rwD r])), .emp, .emp, .emp]) := fun b9 r hb9 hr => by
      cases c : decide (r ∈ ts) with
      | true => exact hK _ ⟨b9, ts, hb9, by omega, ho4, nd, rfl⟩
      | false =>
        have := of_decide_eq_false c
        refine ⟨by decide, by rw [List.length_map]; omega, hK _ ⟨b9, ts ++ [r], hb9, by rw [List.length_append]; simp; omega, fun q hq => ?_, ?_, by rw [List.map_append]; rfl⟩⟩
        · rcases List.mem_append.mp hq with hq | hq
          · exact ho4 q hq
          · rw [List.mem_singleton.mp hq]; exact hr
        · rw [List.nodup_append]
          exact ⟨nd, by simp, fun x hx y hy e => this (by rw [← List.mem_singleton.mp hy, ← e]; exact hx)⟩
    by_cases hz : z = 0
    · simp_arith only [decide_eq_true hz]
      fold_at go__law_test_k60
      rw [rng_up]
      refine lc_rel PyData.int (fun ρ => ∃ b, IsPool b ∧ ρ = [.lent b, .sh (.int L), .sh (.list (ts.map rwD)), .sh (.int a), .sh (rwD r3), .emp]) (fun x => 0 ≤ x ∧ x ≤ 99) _ (fun a2 ρ K K0 _ hI hK => ?_) (by rw [upI_len]; omega) ⟨_, hb8, rfl⟩ fun ns ρ hl ho hI => ?_
      · obtain ⟨b9, hb9, rfl⟩ := hI
        fold_at go__law_test_k60
        intro b10 x hb10 x0 x1
        fold_at go__law_test_k60
        exact hK x _ _ ⟨x0, by omega⟩ ⟨b10, hb10, rfl⟩ rfl
      · obtain ⟨b9, hb9, rfl⟩ := hI
        rw [upI_len] at hl
        fold_at go__law_test_k60
        rw [in_rows (r := ns)]
        exact ⟨shp_tup _, shp_rowsL _, fin b9 ns hb9 ⟨by omega, ho⟩⟩
    · simp_arith only [decide_eq_false hz]
      fold_at go__law_test_k60
      rw [in_rows]
      exact ⟨shp_tup _, shp_rowsL _, fin b8 r3 hb8 hr3⟩
  · obtain ⟨b4, ts, hb4, hl4, ho4, nd, rfl⟩ := hI
    fold_at go__law_test_k60
    exact h _ ts hb4 ⟨by simp at hl4; omega, ho4, nd⟩

set_option maxRecDepth 100000
set_option maxHeartbeats 4000000

open PySem PySem.Spec L2 LamX DL
/-! ### what may be shown -/
theorem rp_of {p q : Nat} {d : D} (hs : isSeqD d = true) (h : Neat p q d) (hp : p ≤ 60 := by decide) (hq : q ≤ 1048576 := by decide) : isSeqD d = true ∧ d.canLay0 = true ∧ d.showable = true ∧ d.depth ≤ 60 ∧ d.shown.length ≤ 16777216 := ⟨hs, h.shown hp hq⟩
theorem neat_two {p q : Nat} {d : D} (h : Neat p q d) : Neat (p + 1) (2 * (q + 1)) (.list [d, d]) := neat_lst (n := 2) (fun x hx => by
  have : x = d := by simpa using hx
  subst this; exact h) (Nat.le_refl 2)
theorem rp_two {p q : Nat} {d : D} (h : Neat p q d) (hp : p + 1 ≤ 60 := by decide) (hq : 2 * (q + 1) ≤ 1048576 := by decide) : isSeqD (.list [d, d]) = true ∧ (PyData.list [d, d]).canLay0 = true ∧ (PyData.list [d, d]).showable = true ∧ (PyData.list [d, d]).depth ≤ 60 ∧ (PyData.list [d, d]).shown.length ≤ 16777216 := rp_of rfl (neat_two h) hp hq
theorem neat_rw {n : Nat} {ns : List Int} (hl : ns.length ≤ n) (hb : ∀ x ∈ ns, 0 ≤ x ∧ x ≤ 1000000) : Neat 1 (n * 41) (rwD ns) := (neat_tup (p := 0) (q := 40) (fun x hx => by
  obtain ⟨y, hy, rfl⟩ := List.mem_map.mp hx
  have := hb y hy
  exact neat_int (Nat.lt_of_le_of_lt (show y.natAbs ≤ 1000000 by omega) (by decide))) (by rw [List.length_map]; exact hl))
theorem neat_rws {n q : Nat} {ts : List (List Int)} (hl : ts.length ≤ n) (hb : ∀ r ∈ ts, Neat 1 q (rwD r)) : Neat 2 (n * (q + 1)) (rwsD ts) := neat_tup (fun x hx => by
  obtain ⟨y, hy, rfl⟩ := List.mem_map.mp hx
  exact hb y hy) (by rw [List.length_map]; exact hl)
theorem neat_st {L : Int} {st : List (Int × Int)} (hL : L ≤ 6) (h : OkS L st) : Neat 2 2000 (stD st) := (neat_tup (p := 1) (q := 82) (n := 24) (fun x hx => by
  obtain ⟨y, hy, rfl⟩ := List.mem_map.mp hx
  obtain ⟨h1, h2, h3⟩ := h.2 y hy
  exact neat_rw (n := 2) (ns := [y.1, y.2]) (Nat.le_refl 2) fun z hz => by
    rcases List.mem_cons.mp hz with e | hz
    · rw [e]; omega
    · rw [List.mem_singleton.mp hz]; omega) (by rw [List.length_map]; exact h.1)).mono (by decide) (by decide)

set_option maxRecDepth 100000
set_option maxHeartbeats 4000000

open PySem PySem.Spec L2 LamX DL
/-! ### marks of ends are ends of marks -/
theorem markF_len {t : Int} {r : List Int} : (markF t r).length = r.length := List.length_map _
theorem mark_get {t : Int} {r : List Int} {i : Nat} (h : i < r.length) : (markF t r).getD i 0 = if t ≤ r.getD i 0 then 1 else 0 := by
  unfold markF
  rw [List.getD_eq_getElem?_getD, List.getElem?_map, List.getElem?_eq_getElem h, List.getD_eq_getElem?_getD, List.getElem?_eq_getElem h]; rfl
theorem set_self {r : List Int} {i : Nat} (h : i < r.length) : r.set i (r.getD i 0) = r := by
  rw [List.getD_eq_getElem?_getD, List.getElem?_eq_getElem h]
  show r.set i r[i] = r
  exact List.set_getElem_self h
theorem mark_exch {t : Int} {r : List Int} {p : Int × Int} (h1 : p.1.toNat < r.length) (h2 : p.2.toNat < r.length) (hne : p.1.toNat ≠ p.2.toNat) : exch (markF t r) p = markF t (exch r p) := by
  unfold exch
  rw [mark_get h1, mark_get h2]
  by_cases hx : r.getD p.2.toNat 0 < r.getD p.1.toNat 0
  · rw [if_pos hx]
    have e : markF t ((r.set p.1.toNat (r.getD p.2.toNat 0)).set p.2.toNat (r.getD p.1.toNat 0)) = ((markF t r).set p.1.toNat (if t ≤ r.getD p.2.toNat 0 then 1 else 0)).set p.2.toNat (if t ≤ r.getD p.1.toNat 0 then 1 else 0) := by
      unfold markF; rw [List.map_set, List.map_set]
    rw [e]
    by_cases ha : t ≤ r.getD p.2.toNat 0
    · have hb : t ≤ r.getD p.1.toNat 0 := by omega
      rw [if_pos ha, if_pos hb, if_neg (by decide)]
      have g1 := mark_get (t := t) h1
      have g2 := mark_get (t := t) h2
      rw [if_pos hb] at g1
      rw [if_pos ha] at g2
      have s1 := set_self (r := markF t r) (i := p.1.toNat) (by rw [markF_len]; exact h1)
      have s2 := set_self (r := markF t r) (i := p.2.toNat) (by rw [markF_len]; exact h2)
      rw [g1] at s1
      rw [g2] at s2
      rw [s1, s2]
    · rw [if_neg ha]
      by_cases hb : t ≤ r.getD p.1.toNat 0
      · rw [if_pos hb, if_pos (by decide)]
      · rw [if_neg hb, if_neg (by decide)]
        have g1 := mark_get (t := t) h1
        have g2 := mark_get (t := t) h2
        rw [if_neg hb] at g1
        rw [if_neg ha] at g2
        have s1 := set_self (r := markF t r) (i := p.1.toNat) (by rw [markF_len]; exact h1)
        have s2 := set_self (r := markF t r) (i := p.2.toNat) (by rw [markF_len]; exact h2)
        rw [g1] at s1
        rw [g2] at s2
        rw [s1, s2]
  · rw [if_neg hx, if_neg]
    split <;> split <;> omega
theorem mark_end {L : Int} {t : Int} : ∀ {st : List (Int × Int)} {r : List Int}, (∀ p ∈ st, OkP L p) → (r.length : Int) = L → endF st (markF t r) = markF t (endF st r)
  | [], _, _, _ => rfl
  | p :: st, r, ho, hl => by
    obtain ⟨o1, o2, o3⟩ := ho p List.mem_cons_self
    show endF st (exch (markF t r) p) = markF t (endF st (exch r p))
    rw [mark_exch (by omega) (by omega) (by omega)]
    exact mark_end (fun q hq => ho q (List.mem_cons_of_mem _ hq)) (by rw [exch_len]; exact hl)
theorem mark_srt {t : Int} {r : List Int} (h : srt r = true) : srt (markF t r) = true := by
  rw [srt_iff] at h ⊢
  unfold markF
  rw [List.pairwise_map]
  exact h.imp fun {a b} h => by split <;> split <;> omega
/-- a row all of whose marks are sorted is sorted -/
theorem srt_marks {r : List Int} (h : ∀ t ∈ r, srt (markF t r) = true) : srt r = true := by
  rw [srt_iff]
  have key : ∀ (q : List Int), (∀ t ∈ q, (markF t q).Pairwise (· ≤ ·)) → q.Pairwise (· ≤ ·) := fun q => by
    intro hq
    rw [List.pairwise_iff_getElem]
    intro i j hi hj hij
    have := hq q[i] (List.getElem_mem hi)
    unfold markF at this
    rw [List.pairwise_map, List.pairwise_iff_getElem] at this
    have := this i j hi hj hij
    by_cases c : q[i] ≤ q[j]
    · exact c
    · rw [if_pos (Int.le_refl _), if_neg c] at this; omega
  exact key r fun t ht => srt_iff.mp (h t ht)
theorem mark_mem {L t : Int} {r : List Int} (h : (r.length : Int) = L) : markF t r ∈ marksF L.toNat := by
  refine marksF_mem (by rw [markF_len]; omega) fun x hx => ?_
  obtain ⟨y, _, e⟩ := List.mem_map.mp hx
  rw [← e]; split <;> simp
/-- a net that sorts all mark rows sorts all rows -/
theorem sorts_all {L : Int} {st : List (Int × Int)} (ho : ∀ p ∈ st, OkP L p) (hs : sortsB L.toNat st = true) {r : List Int} (hl : (r.length : Int) = L) : srt (endF st r) = true := by
  refine srt_marks fun t _ => ?_
  rw [← mark_end ho hl]
  exact List.all_eq_true.mp hs _ (mark_mem hl)
theorem marksOf_ok {L : Int} {r : List Int} (hL : OkL L) (hO : OkO L r) : OkT L (marksOf r) := by
  have hl := (hO.row hL).1
  obtain ⟨l1, l2⟩ := id hL
  refine ⟨?_, fun q hq => ?_, ?_⟩
  · unfold marksOf; rw [List.length_map, upI_len]; omega
  · obtain ⟨t, ht, e⟩ := List.mem_map.mp hq
    subst e
    refine ⟨by rw [markF_len]; exact hl, fun x hx => ?_⟩
    obtain ⟨y, _, e⟩ := List.mem_map.mp hx
    rw [← e]; split <;> omega
  · unfold marksOf
    rw [List.Nodup, List.pairwise_map]
    refine (upI_nodup 1 (r.length - 1)).imp_of_mem fun {a b} ha hb hne e => ?_
    have h1 := upI_mem ha
    have h2 := upI_mem hb
    have key : ∀ a b : Int, 1 ≤ a → a < b → b < r.length → markF a r = markF b r → False := fun a b a1 ab bl e => by
      have hm : a ∈ r := hO.mem_iff.mpr (upI_has (by omega) (by omega))
      obtain ⟨i, hi, ei⟩ := List.getElem_of_mem hm
      have := congrArg (fun l : List Int => l.getD i 0) e
      have this : (markF a r).getD i 0 = (markF b r).getD i 0 := this
      rw [mark_get hi, mark_get hi, List.getD_eq_getElem?_getD, List.getElem?_eq_getElem hi] at this
      simp only [Option.getD_some] at this
      rw [ei, if_pos (Int.le_refl _), if_neg (by omega)] at this
      omega
    rcases Int.lt_trichotomy a b with h | h | h
    · exact key a b h1.1 h (by omega) e
    · exact hne h
    · exact key b a h2.1 h (by omega) e.symm

set_option maxRecDepth 100000
set_option maxHeartbeats 4000000

open PySem PySem.Spec L2 LamX DL
/-! ### the modules failing and counts: spare and unseen steps -/
abbrev nsL (ns : List Int) : D := .tuple (ns.map .int)
def lessF (st : List (Int × Int)) (k : Int) : List (Int × Int) := st.eraseIdx k.toNat
theorem lessF_ok {L : Int} {st : List (Int × Int)} {k : Int} (h : OkS L st) : OkS L (lessF st k) := by
  refine ⟨?_, fun p hp => h.2 p (List.mem_of_mem_eraseIdx hp)⟩
  have := List.length_eraseIdx_le st k.toNat
  have := h.1
  unfold lessF; omega
def endsF (n : Nat) (st : List (Int × Int)) : List (List Int) := (marksF n).map (endF st)
def spareF (n : Nat) (st : List (Int × Int)) : List Int := (upI 0 st.length).filter fun k => decide (endsF n (lessF st k) = endsF n st)
def unseenF (n : Nat) (st : List (Int × Int)) (ts : List (List Int)) : List Int := if sortsB n st then (upI 0 st.length).filter fun k => passB (lessF st k) ts && !sortsB n (lessF st k) else []
theorem cut_toI {ds : List D} {k : Int} (h : 0 ≤ k) : cutD ds none (some k) = ds.take k.toNat := by
  have := cut_to (ds := ds) (k := k.toNat)
  rwa [Int.toNat_of_nonneg h] at this
theorem cut_fromI {ds : List D} {k : Int} (h : 0 ≤ k) : cutD ds (some k) none = ds.drop k.toNat := by
  have := cut_from (ds := ds) (k := k.toNat)
  rwa [Int.toNat_of_nonneg h] at this
theorem less_cut {st : List (Int × Int)} {k : Int} (h : 0 ≤ k) : cutD (st.map pD) none (some k) ++ cutD (st.map pD) (some (k + 1)) none = (lessF st k).map pD := by
  rw [cut_toI h, cut_fromI (by omega), show (k + 1).toNat = k.toNat + 1 by omega, ← List.map_take, ← List.map_drop, ← List.map_append, ← List.eraseIdx_eq_take_drop_succ]
  rfl
theorem flat_if {α β : Type} {p : α → Bool} {f : α → β} : ∀ {xs : List α}, (xs.flatMap fun a => if p a then [f a] else []) = (xs.filter p).map f
  | [] => rfl
  | a :: xs => by
    rw [List.flatMap_cons, flat_if (xs := xs)]
    by_cases h : p a = true
    · rw [if_pos h, List.filter_cons_of_pos h]; rfl
    · rw [if_neg h, List.filter_cons_of_neg h]; rfl
def g_without : DSp := fun as k => ∃ L st at_, as = [.sh (stD st), .sh (nsL [at_])] ∧ OkS L st ∧ 0 ≤ at_ ∧ k (.val (stD (lessF st at_))) as
def g_all_ends : DSp := fun as k => ∃ L st, as = [.sh (.int L), .sh (stD st)] ∧ OkN L st ∧ k (.new (.lst ((endsF L.toNat st).map rwD))) as
def g_spare_by : DSp := fun as k => ∃ L st, as = [.sh (.int L), .sh (stD st)] ∧ OkN L st ∧ k (.val (rwD (spareF L.toNat st))) as
def g_spare : DSp := fun as k => ∃ L st, as = [.sh (.int L), .sh (stD st)] ∧ OkN L st ∧ k (.val (rwD (spareF L.toNat st))) as
def g_unseen_by : DSp := fun as k => ∃ L st ts, as = [.sh (.int L), .sh (stD st), .sh (rwsD ts)] ∧ OkN L st ∧ OkT L ts ∧ k (.val (rwD (unseenF L.toNat st ts))) as
def g_unseen : DSp := fun as k => ∃ L st ts, as = [.sh (.int L), .sh (stD st), .sh (rwsD ts)] ∧ OkN L st ∧ OkT L ts ∧ k (.val (rwD (unseenF L.toNat st ts))) as
def ce_without_1 : WE := (wVar 3)
theorem ce_without_1_c {s : Sl} {ρ : DEnv} {Q} : ce_without_1 (s :: ρ) Q = ((wVar 3)) (s :: ρ) Q := rfl
def cf_without_1 : WT := (wOp2T (gIn true) (wVar 2) (wVar 1))
theorem cf_without_1_c {s : Sl} {ρ : DEnv} {Q} : cf_without_1 (s :: ρ) Q = ((wOp2T (gIn true) (wVar 2) (wVar 1))) (s :: ρ) Q := rfl
def rd_without : WS := (wRet (wCB gTuple (wCons (wLc (wEnumI (wCons (wVar 0) wNil)) (gTp 2 (gsCons (gNm 2) (gsCons (gNm 3) gsNil))) cf_without_1 ce_without_1 [2, 3]) wNil)))
abbrev Sp_without : Prop := SpD rd_without 4 2 g_without
local macro_rules | `(tactic| fold_at run_without) => `(tactic| simp_arith only [ce_without_1_c, cf_without_1_c])
local macro_rules | `(tactic| fold_at go_without) => `(tactic| simp_arith! only [ce_without_1_c, cf_without_1_c])
def ce_all_ends_1 : WE := (wCall g_end_by [false, false] (wCons (wVar 1) (wCons (wVar 2) wNil)))
theorem ce_all_ends_1_c {s : Sl} {ρ : DEnv} {Q} : ce_all_ends_1 (s :: ρ) Q = ((wCall g_end_by [false, false] (wCons (wVar 1) (wCons (wVar 2) wNil)))) (s :: ρ) Q := rfl
def cf_all_ends_1 : WT := wYes
theorem cf_all_ends_1_c {s : Sl} {ρ : DEnv} {Q} : cf_all_ends_1 (s :: ρ) Q = (wYes) (s :: ρ) Q := rfl
def rd_all_ends : WS := (wRet (wLc (wSeqI (wCall g_all_marks [false] (wCons (wVar 0) wNil))) (gNm 2) cf_all_ends_1 ce_all_ends_1 [2]))
abbrev Sp_all_ends : Prop := SpD rd_all_ends 3 2 g_all_ends
local macro_rules | `(tactic| fold_at run_all_ends) => `(tactic| simp_arith only [ce_all_ends_1_c, cf_all_ends_1_c])
local macro_rules | `(tactic| fold_at go_all_ends) => `(tactic| simp_arith! only [ce_all_ends_1_c, cf_all_ends_1_c])
def ce_spare_by_1 : WE := (wVar 3)
theorem ce_spare_by_1_c {s : Sl} {ρ : DEnv} {Q} : ce_spare_by_1 (s :: ρ) Q = ((wVar 3)) (s :: ρ) Q := rfl
def cf_spare_by_1 : WT := (wOp2T gEq (wCall g_all_ends [false, false] (wCons (wVar 0) (wCons (wCall g_without [false, false] (wCons (wVar 1) (wCons (wTup (wCons (wVar 3) wNil)) wNil))) wNil))) (wVar 2))
theorem cf_spare_by_1_c {s : Sl} {ρ : DEnv} {Q} : cf_spare_by_1 (s :: ρ) Q = ((wOp2T gEq (wCall g_all_ends [false, false] (wCons (wVar 0) (wCons (wCall g_without [false, false] (wCons (wVar 1) (wCons (wTup (wCons (wVar 3) wNil)) wNil))) wNil))) (wVar 2))) (s :: ρ) Q := rfl
def sq_spare_by_1 : WS := (wRet (wCB gTuple (wCons (wLc (wRng1 (wCons (wCB gLen (wCons (wVar 1) wNil)) wNil)) (gNm 3) cf_spare_by_1 ce_spare_by_1 [3]) wNil)))
theorem sq_spare_by_1_c {s : Sl} {ρ : DEnv} {Q} : sq_spare_by_1 (s :: ρ) Q = ((wRet (wCB gTuple (wCons (wLc (wRng1 (wCons (wCB gLen (wCons (wVar 1) wNil)) wNil)) (gNm 3) cf_spare_by_1 ce_spare_by_1 [3]) wNil)))) (s :: ρ) Q := rfl
def rd_spare_by : WS := (wSeq (wAsg (wCall g_all_ends [false, false] (wCons (wVar 0) (wCons (wVar 1) wNil))) (gNm 2)) sq_spare_by_1)
abbrev Sp_spare_by : Prop := SpD rd_spare_by 4 2 g_spare_by
local macro_rules | `(tactic| fold_at run_spare_by) => `(tactic| simp_arith only [ce_spare_by_1_c, cf_spare_by_1_c, sq_spare_by_1_c])
local macro_rules | `(tactic| fold_at go_spare_by) => `(tactic| simp_arith! only [ce_spare_by_1_c, cf_spare_by_1_c, sq_spare_by_1_c])
def sq_spare_1 : WS := (wRet (wCall g_spare_by [false, false] (wCons (wVar 0) (wCons (wVar 1) wNil))))
theorem sq_spare_1_c {s : Sl} {ρ : DEnv} {Q} : sq_spare_1 (s :: ρ) Q = ((wRet (wCall g_spare_by [false, false] (wCons (wVar 0) (wCons (wVar 1) wNil))))) (s :: ρ) Q := rfl
def rd_spare : WS := (wSeq (wDrop (wCall g_check_net [false, false] (wCons (wVar 0) (wCons (wVar 1) wNil)))) sq_spare_1)
abbrev Sp_spare : Prop := SpD rd_spare 2 2 g_spare
local macro_rules | `(tactic| fold_at run_spare) => `(tactic| simp_arith only [sq_spare_1_c])
local macro_rules | `(tactic| fold_at go_spare) => `(tactic| simp_arith! only [sq_spare_1_c])
def bt_unseen_by_1 : WS := (wDrop (wApp 3 (wVar 4)))
theorem bt_unseen_by_1_c {s : Sl} {ρ : DEnv} {Q} : bt_unseen_by_1 (s :: ρ) Q = ((wDrop (wApp 3 (wVar 4)))) (s :: ρ) Q := rfl
def sq_unseen_by_1 : WS := (wIf (wAndT (wTru (wCall g_passes_by [false, false] (wCons (wVar 5) (wCons (wVar 2) wNil)))) (wNotT (wTru (wCall g_sorts_by [false, false] (wCons (wVar 0) (wCons (wVar 5) wNil)))))) bt_unseen_by_1 wNext)
theorem sq_unseen_by_1_c {s : Sl} {ρ : DEnv} {Q} : sq_unseen_by_1 (s :: ρ) Q = ((wIf (wAndT (wTru (wCall g_passes_by [false, false] (wCons (wVar 5) (wCons (wVar 2) wNil)))) (wNotT (wTru (wCall g_sorts_by [false, false] (wCons (wVar 0) (wCons (wVar 5) wNil)))))) bt_unseen_by_1 wNext)) (s :: ρ) Q := rfl
def fb_unseen_by_1 : WS := (wSeq (wAsg (wOp2 gAdd (wSl (wVar 1) wNo (wPt (wVar 4))) (wSl (wVar 1) (wPt (wOp2 gAdd (wVar 4) (wC (.int 1)))) wNo)) (gNm 5)) sq_unseen_by_1)
theorem fb_unseen_by_1_c {s : Sl} {ρ : DEnv} {Q} : fb_unseen_by_1 (s :: ρ) Q = ((wSeq (wAsg (wOp2 gAdd (wSl (wVar 1) wNo (wPt (wVar 4))) (wSl (wVar 1) (wPt (wOp2 gAdd (wVar 4) (wC (.int 1)))) wNo)) (gNm 5)) sq_unseen_by_1)) (s :: ρ) Q := rfl
def sq_unseen_by_2 : WS := (wRet (wCB gTuple (wCons (wVar 3) wNil)))
theorem sq_unseen_by_2_c {s : Sl} {ρ : DEnv} {Q} : sq_unseen_by_2 (s :: ρ) Q = ((wRet (wCB gTuple (wCons (wVar 3) wNil)))) (s :: ρ) Q := rfl
def sq_unseen_by_3 : WS := (wSeq (wFor (wCI [4, 5] (wRng1 (wCons (wIfE (wTru (wCall g_sorts_by [false, false] (wCons (wVar 0) (wCons (wVar 1) wNil)))) (wCB gLen (wCons (wVar 1) wNil)) (wC (.int 0))) wNil))) (gNm 4) (wEnd [4, 5] fb_unseen_by_1)) sq_unseen_by_2)
theorem sq_unseen_by_3_c {s : Sl} {ρ : DEnv} {Q} : sq_unseen_by_3 (s :: ρ) Q = ((wSeq (wFor (wCI [4, 5] (wRng1 (wCons (wIfE (wTru (wCall g_sorts_by [false, false] (wCons (wVar 0) (wCons (wVar 1) wNil)))) (wCB gLen (wCons (wVar 1) wNil)) (wC (.int 0))) wNil))) (gNm 4) (wEnd [4, 5] fb_unseen_by_1)) sq_unseen_by_2)) (s :: ρ) Q := rfl
def rd_unseen_by : WS := (wSeq (wSet 3 (wLst wNil)) sq_unseen_by_3)
abbrev Sp_unseen_by : Prop := SpD rd_unseen_by 6 3 g_unseen_by
local macro_rules | `(tactic| fold_at run_unseen_by) => `(tactic| simp_arith only [bt_unseen_by_1_c, sq_unseen_by_1_c, fb_unseen_by_1_c, sq_unseen_by_2_c, sq_unseen_by_3_c])
local macro_rules | `(tactic| fold_at go_unseen_by) => `(tactic| simp_arith! only [bt_unseen_by_1_c, sq_unseen_by_1_c, fb_unseen_by_1_c, sq_unseen_by_2_c, sq_unseen_by_3_c])
def sq_unseen_1 : WS := (wRet (wCall g_unseen_by [false, false, false] (wCons (wVar 0) (wCons (wVar 1) (wCons (wVar 2) wNil)))))
theorem sq_unseen_1_c {s : Sl} {ρ : DEnv} {Q} : sq_unseen_1 (s :: ρ) Q = ((wRet (wCall g_unseen_by [false, false, false] (wCons (wVar 0) (wCons (wVar 1) (wCons (wVar 2) wNil)))))) (s :: ρ) Q := rfl
def sq_unseen_2 : WS := (wSeq (wDrop (wCall g_check_test [false, false] (wCons (wVar 0) (wCons (wVar 2) wNil)))) sq_unseen_1)
theorem sq_unseen_2_c {s : Sl} {ρ : DEnv} {Q} : sq_unseen_2 (s :: ρ) Q = ((wSeq (wDrop (wCall g_check_test [false, false] (wCons (wVar 0) (wCons (wVar 2) wNil)))) sq_unseen_1)) (s :: ρ) Q := rfl
def rd_unseen : WS := (wSeq (wDrop (wCall g_check_net [false, false] (wCons (wVar 0) (wCons (wVar 1) wNil)))) sq_unseen_2)
abbrev Sp_unseen : Prop := SpD rd_unseen 3 3 g_unseen
local macro_rules | `(tactic| fold_at run_unseen) => `(tactic| simp_arith only [sq_unseen_1_c, sq_unseen_2_c])
local macro_rules | `(tactic| fold_at go_unseen) => `(tactic| simp_arith! only [sq_unseen_1_c, sq_unseen_2_c])
theorem enI_erase {α : Type} : ∀ (xs : List α) (i j : Nat), i ≤ j → ((enI i xs).filter fun p => !decide ((p.1 : Int) = (j : Nat))).map (·.2) = xs.eraseIdx (j - i)
  | [], _, _, _ => by simp [enI]
  | a :: xs, i, j, h => by
    unfold enI
    by_cases e : i = j
    · subst e
      rw [List.filter_cons_of_neg (by simp), Nat.sub_self, List.eraseIdx_cons_zero]
      have key : ∀ (xs : List α) (k : Nat), i < k → ((enI k xs).filter fun p => !decide ((p.1 : Int) = (i : Nat))).map (·.2) = xs := fun xs => by
        induction xs with
        | nil => intro k _; rfl
        | cons b xs ih =>
          intro k hk
          unfold enI
          rw [List.filter_cons_of_pos (by simp; omega), List.map_cons, ih (k + 1) (by omega)]
      exact key xs (i + 1) (Nat.lt_succ_self i)
    · rw [List.filter_cons_of_pos (by simp; omega), List.map_cons, enI_erase xs (i + 1) j (by omega), show j - i = (j - (i + 1)) + 1 by omega, List.eraseIdx_cons_succ]
theorem sp_without : Sp_without := by
  rintro _ Qd ⟨L, st, t, rfl, hS, h0, h⟩
  have hl := hS.1
  (refine ⟨rfl, ?_⟩; unfold rd_without)
  fold_at go_without
  rw [enum_map]
  refine lc_flt (fun p => pD p.2) (fun p => !decide ((p.1 : Int) = t)) _ (fun p K K0 hp hK hK0 => ?_) (by rw [enI_len]; omega) ?_
  · fold_at go_without
    have e : (PyData.eqv (.int t) (.int (p.1 : Nat))) = decide ((p.1 : Int) = t) := by
      show (t == (p.1 : Int)) = _
      by_cases c : (p.1 : Int) = t
      · subst c; simp
      · have : ¬ t = (p.1 : Int) := fun z => c z.symm
        simp [c, this]
    rw [e, Bool.or_false]
    cases c : decide ((p.1 : Int) = t) with
    | true => rw [c] at hK0; exact hK0 rfl _ rfl
    | false => rw [c] at hK; exact hK rfl _ rfl
  · fold_at go_without
    have := enI_erase st 0 t.toNat (Nat.zero_le _)
    rw [Int.toNat_of_nonneg h0, Nat.sub_zero] at this
    have e2 : ((enI 0 st).filter fun p => !decide ((p.1 : Int) = t)).map (fun p => pD p.2) = (lessF st t).map pD := by unfold lessF; rw [← this, List.map_map]; rfl
    rw [e2]
    exact h
theorem end_row {L : Int} {st : List (Int × Int)} {n : Nat} (h : OkS L st) (hn : (n : Int) = L) {r : List Int} (hr : r ∈ marksF n) : OkS r.length st := by
  rw [(marksF_row hr).1, hn]; exact h
theorem sp_all_ends : Sp_all_ends := by
  rintro _ Qd ⟨L, st, rfl, hN, h⟩
  obtain ⟨hL, hS⟩ := id hN
  obtain ⟨l1, l2⟩ := id hL
  have hm := marksF_small (n := L.toNat) (by omega)
  (refine ⟨rfl, ?_⟩; unfold rd_all_ends)
  fold_at go_all_ends
  refine lc_map (fun r => rwD (endF st r)) _ (fun r K K0 hr hK => ?_) (by omega) ?_
  · have hS' := end_row hS (by omega) hr
    fold_at go_all_ends
    exact hK _ rfl
  · unfold endsF at h
    rw [List.map_map] at h
    fold_at go_all_ends
theorem sp_spare_by : Sp_spare_by := by
  rintro _ Qd ⟨L, st, rfl, hN, h⟩
  obtain ⟨hL, hS⟩ := id hN
  obtain ⟨l1, l2⟩ := id hL
  have hl := hS.1
  (refine ⟨rfl, ?_⟩; unfold rd_spare_by)
  fold_at go_spare_by
  rw [List.length_map, rng_up]
  refine lc_flt PyData.int (fun k => decide (endsF L.toNat (lessF st k) = endsF L.toNat st)) _ (fun k K K0 hk hK hK0 => ?_) (by rw [upI_len]; omega) ?_
  · have := upI_mem hk
    have hN2 : OkN L (lessF st k) := ⟨hL, lessF_ok hS⟩
    fold_at go_spare_by
    refine ⟨L, st, k, rfl, hS, by omega, ?_⟩
    fold_at go_spare_by
    rw [eqv_rowsL]
    refine ⟨shp_rowsL _, shp_rowsL _, ?_⟩
    cases c : decide (endsF L.toNat (lessF st k) = endsF L.toNat st) with
    | true => rw [c] at hK; exact hK rfl _ rfl
    | false => rw [c] at hK0; exact hK0 rfl _ rfl
  · fold_at go_spare_by
theorem sp_spare : Sp_spare := by
  rintro _ Qd ⟨L, st, rfl, hN, h⟩
  (refine ⟨rfl, ?_⟩; unfold rd_spare)
  fold_at go_spare
theorem sp_unseen_by : Sp_unseen_by := by
  rintro _ Qd ⟨L, st, ts, rfl, hN, hT, h⟩
  obtain ⟨hL, hS⟩ := id hN
  have hl := hS.1
  (refine ⟨rfl, ?_⟩; unfold rd_unseen_by)
  fold_at go_unseen_by
  unfold unseenF at h
  cases c : sortsB L.toNat st with
  | false =>
    rw [c] at h
    fold_at go_unseen_by
  | true =>
    rw [c, if_pos rfl] at h
    fold_at go_unseen_by
    rw [List.length_map, rng_up, Int.toNat_natCast]
    have lf : ∀ xs : List Int, (xs.flatMap fun k => if (passB (lessF st k) ts && !sortsB L.toNat (lessF st k)) = true then [PyData.int k] else []).length ≤ xs.length := fun xs => by rw [flat_if, List.length_map]; exact List.length_filter_le _ _
    refine for_acc owL 3 (fun k => if (passB (lessF st k) ts && !sortsB L.toNat (lessF st k)) = true then [PyData.int k] else []) 100 _ [] (fun k acc K hk hl1 hK => ?_) (by have := lf (upI 0 st.length); rw [upI_len] at this; simp only [List.length_nil]; omega) ?_
    · have := upI_mem hk
      have hN2 : OkN L (lessF st k) := ⟨hL, lessF_ok hS⟩
      have hl2 : acc.length ≤ 100 := by omega
      fold_at go_unseen_by
      rw [less_cut (by omega)]
      have hlen : (cutD (st.map pD) none (some k)).length + (cutD (st.map pD) (some (k + 1)) none).length ≤ 16777216 := by
        rw [← List.length_append, less_cut (by omega), List.length_map]
        have := hN2.2.1
        omega
      refine ⟨hlen, ?_⟩
      fold_at go_unseen_by
      refine ⟨L, lessF st k, ts, rfl, hN2, hT, ?_⟩
      cases c1 : passB (lessF st k) ts with
      | false =>
        rw [c1] at hK
        fold_at go_unseen_by
        simpa using hK
      | true =>
        fold_at go_unseen_by
        rw [c1] at hK
        cases c2 : sortsB L.toNat (lessF st k) with
        | true =>
          rw [c2] at hK
          fold_at go_unseen_by
          simpa using hK
        | false =>
          rw [c2] at hK
          fold_at go_unseen_by
    · rw [flat_if, List.nil_append]
      fold_at go_unseen_by
theorem sp_unseen : Sp_unseen := by
  rintro _ Qd ⟨L, st, ts, rfl, hN, hT, h⟩
  obtain ⟨hL, hS⟩ := id hN
  (refine ⟨rfl, ?_⟩; unfold rd_unseen)
  fold_at go_unseen

set_option maxRecDepth 100000
set_option maxHeartbeats 1000000

open PySem PySem.Spec L2 LamX DL
/-- rows that are mark rows of at most six lanes may be put to a set -/
theorem rowsB_marks {n : Nat} {rows : List (List Int)} (h1 : 1 ≤ n) (h6 : n ≤ 6) (h : ∀ r ∈ rows, r ∈ marksF n) : RowsB rows := by
  refine ⟨fun r hr e => ?_, fun l nd hl => ?_⟩
  · have := (marksF_row (h r hr)).1
    rw [e, List.length_nil] at this
    omega
  · have := nodup_len l (marksF n) nd fun x hx => h x (hl x hx)
    have := marksF_small h6
    omega

set_option maxRecDepth 100000
set_option maxHeartbeats 4000000

open PySem PySem.Spec L2 LamX DL
/-! ### ends of mark rows, to six lanes -/
def outsF (L : Int) (st : List (Int × Int)) : List (List Int) := usort ((marksF L.toNat).map (endF st))
def g_ends_by : DSp := fun as k => ∃ L st, as = [.sh (.int L), .sh (stD st)] ∧ OkN L st ∧ k (.val (rwsD (outsF L st))) as
def g_ends : DSp := fun as k => ∃ L st, as = [.sh (.int L), .sh (stD st)] ∧ OkN L st ∧ k (.val (rwsD (outsF L st))) as
def ce_ends_by_1 : WE := (wCall g_end_by [false, false] (wCons (wVar 1) (wCons (wVar 2) wNil)))
theorem ce_ends_by_1_c {s : Sl} {ρ : DEnv} {Q} : ce_ends_by_1 (s :: ρ) Q = ((wCall g_end_by [false, false] (wCons (wVar 1) (wCons (wVar 2) wNil)))) (s :: ρ) Q := rfl
def cf_ends_by_1 : WT := wYes
theorem cf_ends_by_1_c {s : Sl} {ρ : DEnv} {Q} : cf_ends_by_1 (s :: ρ) Q = (wYes) (s :: ρ) Q := rfl
def rd_ends_by : WS := (wRet (wCB gTuple (wCons (wSortBig (wCons (wLc (wSeqI (wCall g_all_marks [false] (wCons (wVar 0) wNil))) (gNm 2) cf_ends_by_1 ce_ends_by_1 [2]) wNil)) wNil)))
abbrev Sp_ends_by : Prop := SpD rd_ends_by 3 2 g_ends_by
local macro_rules | `(tactic| fold_at run_ends_by) => `(tactic| simp_arith only [ce_ends_by_1_c, cf_ends_by_1_c])
local macro_rules | `(tactic| fold_at go_ends_by) => `(tactic| simp_arith! only [ce_ends_by_1_c, cf_ends_by_1_c])
def sq_ends_1 : WS := (wRet (wCall g_ends_by [false, false] (wCons (wVar 0) (wCons (wVar 1) wNil))))
theorem sq_ends_1_c {s : Sl} {ρ : DEnv} {Q} : sq_ends_1 (s :: ρ) Q = ((wRet (wCall g_ends_by [false, false] (wCons (wVar 0) (wCons (wVar 1) wNil))))) (s :: ρ) Q := rfl
def rd_ends : WS := (wSeq (wDrop (wCall g_check_net [false, false] (wCons (wVar 0) (wCons (wVar 1) wNil)))) sq_ends_1)
abbrev Sp_ends : Prop := SpD rd_ends 2 2 g_ends
local macro_rules | `(tactic| fold_at run_ends) => `(tactic| simp_arith only [sq_ends_1_c])
local macro_rules | `(tactic| fold_at go_ends) => `(tactic| simp_arith! only [sq_ends_1_c])
theorem exch_mem {f : List Int} {p : Int × Int} {x : Int} (h1 : p.1.toNat < f.length) (h2 : p.2.toNat < f.length) (h : x ∈ exch f p) : x ∈ f := by
  unfold exch at h
  split at h
  · rcases List.mem_or_eq_of_mem_set h with h | h
    · rcases List.mem_or_eq_of_mem_set h with h | h
      · exact h
      · rw [h, List.getD_eq_getElem?_getD, List.getElem?_eq_getElem h2]; exact List.getElem_mem h2
    · rw [h, List.getD_eq_getElem?_getD, List.getElem?_eq_getElem h1]; exact List.getElem_mem h1
  · exact h
theorem endF_mem {L : Int} : ∀ {st : List (Int × Int)} {f : List Int} {x : Int}, (∀ p ∈ st, OkP L p) → (f.length : Int) = L → x ∈ endF st f → x ∈ f
  | [], _, _, _, _, h => h
  | p :: st, f, x, ho, hl, h => by
    obtain ⟨o1, o2, o3⟩ := ho p List.mem_cons_self
    exact exch_mem (by omega) (by omega) (endF_mem (st := st) (f := exch f p) (fun q hq => ho q (List.mem_cons_of_mem _ hq)) (by rw [exch_len]; exact hl) h)
/-- the ends of mark rows are mark rows -/
theorem out_row {L : Int} {st : List (Int × Int)} (hN : OkN L st) {r : List Int} (h : r ∈ marksF L.toNat) : ((endF st r).length : Int) = L ∧ ∀ x ∈ endF st r, x = 0 ∨ x = 1 := by
  obtain ⟨h1, h2⟩ := marksF_row h
  have hl : (r.length : Int) = L := by have := hN.1.1; omega
  exact ⟨by rw [endF_len]; exact hl, fun x hx => h2 x (endF_mem hN.2.2 hl hx)⟩
theorem outs_okB {L : Int} {st : List (Int × Int)} (hN : OkN L st) : RowsB ((marksF L.toNat).map (endF st)) := by
  obtain ⟨l1, l2⟩ := hN.1
  refine rowsB_marks (n := L.toNat) (by omega) (by omega) fun r hr => ?_
  obtain ⟨q, hq, rfl⟩ := List.mem_map.mp hr
  obtain ⟨h1, h2⟩ := out_row hN hq
  exact marksF_mem (by omega) h2
theorem usort_any {rows : List (List Int)} {f : List Int → Bool} : (usort rows).any f = rows.any f := by
  cases c : rows.any f with
  | true =>
    obtain ⟨r, hr, e⟩ := List.any_eq_true.mp c
    exact List.any_eq_true.mpr ⟨r, mem_usort.mpr hr, e⟩
  | false =>
    cases c2 : (usort rows).any f with
    | false => rfl
    | true =>
      obtain ⟨r, hr, e⟩ := List.any_eq_true.mp c2
      rw [List.any_eq_true.mpr ⟨r, mem_usort.mp hr, e⟩] at c
      cases c
theorem outs_small {L : Int} {st : List (Int × Int)} (h : OkL L) : (outsF L st).length ≤ 64 :=
  Nat.le_trans (len_usort _) (by rw [List.length_map]; exact marksF_small (by have := h.1; have := h.2; omega))
theorem sp_ends_by : Sp_ends_by := by
  rintro _ Qd ⟨L, st, rfl, hN, h⟩
  obtain ⟨hL, hS⟩ := id hN
  obtain ⟨l1, l2⟩ := id hL
  have ml := marksF_small (n := L.toNat) (by omega)
  (refine ⟨rfl, ?_⟩; unfold rd_ends_by)
  fold_at go_ends_by
  refine lc_map (fun r => rwD (endF st r)) _ (fun r K K0 hr hK => ?_) (by omega) ?_
  · have hS' : OkS r.length st := by rw [show (r.length : Int) = L by have := (marksF_row hr).1; omega]; exact hS
    fold_at go_ends_by
    exact hK _ rfl
  · exact ⟨_, (List.map_map (g := rwD) (f := endF st)).symm, outs_okB hN, h⟩
theorem sp_ends : Sp_ends := by
  rintro _ Qd ⟨L, st, rfl, hN, h⟩
  obtain ⟨hL, hS⟩ := id hN
  (refine ⟨rfl, ?_⟩; unfold rd_ends)
  fold_at go_ends
theorem mem_outs {L : Int} {st : List (Int × Int)} {r : List Int} : r ∈ outsF L st ↔ ∃ q ∈ marksF L.toNat, endF st q = r := by
  unfold outsF
  rw [mem_usort, List.mem_map]
theorem outs_row {L : Int} {st : List (Int × Int)} (hN : OkN L st) {r : List Int} (h : r ∈ outsF L st) : r ∈ marksF L.toNat := by
  obtain ⟨q, hq, rfl⟩ := mem_outs.mp h
  obtain ⟨h1, h2⟩ := out_row hN hq
  exact marksF_mem (by have := hN.1.1; omega) h2

set_option maxRecDepth 100000
set_option maxHeartbeats 4000000

open PySem PySem.Spec L2 LamX DL
/-! ### the module alike: partings, narrower nets -/
def partF (L : Int) (st ot : List (Int × Int)) : Option (List Int) := (marksF L.toNat).find? fun r => !decide (endF st r = endF ot r)
def furF (L : Int) (st ot : List (Int × Int)) : List (List Int) := (outsF L st).filter fun r => !decide (r ∈ outsF L ot)
def narB (L : Int) (st ot : List (Int × Int)) : Bool := (furF L st ot).isEmpty
def g_alike_parting_by : DSp := fun as k => ∃ L st ot, as = [.sh (.int L), .sh (stD st), .sh (stD ot)] ∧ OkN L st ∧ OkN L ot ∧ k (.val (optD rwD (partF L st ot))) as
def g_further_by : DSp := fun as k => ∃ L st ot, as = [.sh (.int L), .sh (stD st), .sh (stD ot)] ∧ OkN L st ∧ OkN L ot ∧ k (.val (optD rwD (furF L st ot).head?)) as
def g_check_two : DSp := fun as k => ∃ L st ot, as = [.sh (.int L), .sh (stD st), .sh (stD ot)] ∧ OkN L st ∧ OkN L ot ∧ k (.val .none) as
def g_are_alike : DSp := fun as k => ∃ L st ot, as = [.sh (.int L), .sh (stD st), .sh (stD ot)] ∧ OkN L st ∧ OkN L ot ∧ k (.val (.bool (partF L st ot).isNone)) as
def g_parting : DSp := fun as k => ∃ L st ot, as = [.sh (.int L), .sh (stD st), .sh (stD ot)] ∧ OkN L st ∧ OkN L ot ∧ k (.val (optD rwD (partF L st ot))) as
def g_is_narrower : DSp := fun as k => ∃ L st ot, as = [.sh (.int L), .sh (stD st), .sh (stD ot)] ∧ OkN L st ∧ OkN L ot ∧ k (.val (.bool (narB L st ot))) as
def bt_alike_parting_by_1 : WS := (wRet (wVar 3))
theorem bt_alike_parting_by_1_c {s : Sl} {ρ : DEnv} {Q} : bt_alike_parting_by_1 (s :: ρ) Q = ((wRet (wVar 3))) (s :: ρ) Q := rfl
def fb_alike_parting_by_1 : WS := (wIf (wOp2T gNe (wCall g_end_by [false, false] (wCons (wVar 1) (wCons (wVar 3) wNil))) (wCall g_end_by [false, false] (wCons (wVar 2) (wCons (wVar 3) wNil)))) bt_alike_parting_by_1 wNext)
theorem fb_alike_parting_by_1_c {s : Sl} {ρ : DEnv} {Q} : fb_alike_parting_by_1 (s :: ρ) Q = ((wIf (wOp2T gNe (wCall g_end_by [false, false] (wCons (wVar 1) (wCons (wVar 3) wNil))) (wCall g_end_by [false, false] (wCons (wVar 2) (wCons (wVar 3) wNil)))) bt_alike_parting_by_1 wNext)) (s :: ρ) Q := rfl
def sq_alike_parting_by_1 : WS := (wRet (wC .none))
theorem sq_alike_parting_by_1_c {s : Sl} {ρ : DEnv} {Q} : sq_alike_parting_by_1 (s :: ρ) Q = ((wRet (wC .none))) (s :: ρ) Q := rfl
def rd_alike_parting_by : WS := (wSeq (wFor (wCI [3] (wSeqI (wCall g_all_marks [false] (wCons (wVar 0) wNil)))) (gNm 3) (wEnd [3] fb_alike_parting_by_1)) sq_alike_parting_by_1)
abbrev Sp_alike_parting_by : Prop := SpD rd_alike_parting_by 4 3 g_alike_parting_by
local macro_rules | `(tactic| fold_at run_alike_parting_by) => `(tactic| simp_arith only [bt_alike_parting_by_1_c, fb_alike_parting_by_1_c, sq_alike_parting_by_1_c])
local macro_rules | `(tactic| fold_at go_alike_parting_by) => `(tactic| simp_arith! only [bt_alike_parting_by_1_c, fb_alike_parting_by_1_c, sq_alike_parting_by_1_c])
def ce_further_by_1 : WE := (wVar 5)
theorem ce_further_by_1_c {s : Sl} {ρ : DEnv} {Q} : ce_further_by_1 (s :: ρ) Q = ((wVar 5)) (s :: ρ) Q := rfl
def cf_further_by_1 : WT := (wOp2T (gIn true) (wVar 5) (wVar 3))
theorem cf_further_by_1_c {s : Sl} {ρ : DEnv} {Q} : cf_further_by_1 (s :: ρ) Q = ((wOp2T (gIn true) (wVar 5) (wVar 3))) (s :: ρ) Q := rfl
def sq_further_by_1 : WS := (wRet (wIfE (wOp2T gNe (wVar 4) (wLst wNil)) (wOp2 gIx (wVar 4) (wC (.int 0))) (wC .none)))
theorem sq_further_by_1_c {s : Sl} {ρ : DEnv} {Q} : sq_further_by_1 (s :: ρ) Q = ((wRet (wIfE (wOp2T gNe (wVar 4) (wLst wNil)) (wOp2 gIx (wVar 4) (wC (.int 0))) (wC .none)))) (s :: ρ) Q := rfl
def sq_further_by_2 : WS := (wSeq (wSet 4 (wLc (wSeqI (wCall g_ends_by [false, false] (wCons (wVar 0) (wCons (wVar 1) wNil)))) (gNm 5) cf_further_by_1 ce_further_by_1 [5])) sq_further_by_1)
theorem sq_further_by_2_c {s : Sl} {ρ : DEnv} {Q} : sq_further_by_2 (s :: ρ) Q = ((wSeq (wSet 4 (wLc (wSeqI (wCall g_ends_by [false, false] (wCons (wVar 0) (wCons (wVar 1) wNil)))) (gNm 5) cf_further_by_1 ce_further_by_1 [5])) sq_further_by_1)) (s :: ρ) Q := rfl
def rd_further_by : WS := (wSeq (wAsg (wCall g_ends_by [false, false] (wCons (wVar 0) (wCons (wVar 2) wNil))) (gNm 3)) sq_further_by_2)
abbrev Sp_further_by : Prop := SpD rd_further_by 6 3 g_further_by
local macro_rules | `(tactic| fold_at run_further_by) => `(tactic| simp_arith only [ce_further_by_1_c, cf_further_by_1_c, sq_further_by_1_c, sq_further_by_2_c])
local macro_rules | `(tactic| fold_at go_further_by) => `(tactic| simp_arith! only [ce_further_by_1_c, cf_further_by_1_c, sq_further_by_1_c, sq_further_by_2_c])
def sq_check_two_1 : WS := (wDrop (wCall g_check_steps [false, false] (wCons (wVar 0) (wCons (wVar 2) wNil))))
theorem sq_check_two_1_c {s : Sl} {ρ : DEnv} {Q} : sq_check_two_1 (s :: ρ) Q = ((wDrop (wCall g_check_steps [false, false] (wCons (wVar 0) (wCons (wVar 2) wNil))))) (s :: ρ) Q := rfl
def rd_check_two : WS := (wSeq (wDrop (wCall g_check_net [false, false] (wCons (wVar 0) (wCons (wVar 1) wNil)))) sq_check_two_1)
abbrev Sp_check_two : Prop := SpD rd_check_two 3 3 g_check_two
local macro_rules | `(tactic| fold_at run_check_two) => `(tactic| simp_arith only [sq_check_two_1_c])
local macro_rules | `(tactic| fold_at go_check_two) => `(tactic| simp_arith! only [sq_check_two_1_c])
def sq_are_alike_1 : WS := (wRet (wOp2 gIs (wCall g_alike_parting_by [false, false, false] (wCons (wVar 0) (wCons (wVar 1) (wCons (wVar 2) wNil)))) (wC .none)))
theorem sq_are_alike_1_c {s : Sl} {ρ : DEnv} {Q} : sq_are_alike_1 (s :: ρ) Q = ((wRet (wOp2 gIs (wCall g_alike_parting_by [false, false, false] (wCons (wVar 0) (wCons (wVar 1) (wCons (wVar 2) wNil)))) (wC .none)))) (s :: ρ) Q := rfl
def rd_are_alike : WS := (wSeq (wDrop (wCall g_check_two [false, false, false] (wCons (wVar 0) (wCons (wVar 1) (wCons (wVar 2) wNil))))) sq_are_alike_1)
abbrev Sp_are_alike : Prop := SpD rd_are_alike 3 3 g_are_alike
local macro_rules | `(tactic| fold_at run_are_alike) => `(tactic| simp_arith only [sq_are_alike_1_c])
local macro_rules | `(tactic| fold_at go_are_alike) => `(tactic| simp_arith! only [sq_are_alike_1_c])
def sq_parting_1 : WS := (wRet (wCall g_alike_parting_by [false, false, false] (wCons (wVar 0) (wCons (wVar 1) (wCons (wVar 2) wNil)))))
theorem sq_parting_1_c {s : Sl} {ρ : DEnv} {Q} : sq_parting_1 (s :: ρ) Q = ((wRet (wCall g_alike_parting_by [false, false, false] (wCons (wVar 0) (wCons (wVar 1) (wCons (wVar 2) wNil)))))) (s :: ρ) Q := rfl
def rd_parting : WS := (wSeq (wDrop (wCall g_check_two [false, false, false] (wCons (wVar 0) (wCons (wVar 1) (wCons (wVar 2) wNil))))) sq_parting_1)
abbrev Sp_parting : Prop := SpD rd_parting 3 3 g_parting
local macro_rules | `(tactic| fold_at run_parting) => `(tactic| simp_arith only [sq_parting_1_c])
local macro_rules | `(tactic| fold_at go_parting) => `(tactic| simp_arith! only [sq_parting_1_c])
def sq_is_narrower_1 : WS := (wRet (wOp2 gIs (wCall g_further_by [false, false, false] (wCons (wVar 0) (wCons (wVar 1) (wCons (wVar 2) wNil)))) (wC .none)))
theorem sq_is_narrower_1_c {s : Sl} {ρ : DEnv} {Q} : sq_is_narrower_1 (s :: ρ) Q = ((wRet (wOp2 gIs (wCall g_further_by [false, false, false] (wCons (wVar 0) (wCons (wVar 1) (wCons (wVar 2) wNil)))) (wC .none)))) (s :: ρ) Q := rfl
def rd_is_narrower : WS := (wSeq (wDrop (wCall g_check_two [false, false, false] (wCons (wVar 0) (wCons (wVar 1) (wCons (wVar 2) wNil))))) sq_is_narrower_1)
abbrev Sp_is_narrower : Prop := SpD rd_is_narrower 3 3 g_is_narrower
local macro_rules | `(tactic| fold_at run_is_narrower) => `(tactic| simp_arith only [sq_is_narrower_1_c])
local macro_rules | `(tactic| fold_at go_is_narrower) => `(tactic| simp_arith! only [sq_is_narrower_1_c])
theorem sp_alike_parting_by : Sp_alike_parting_by := by
  rintro _ Qd ⟨L, st, ot, rfl, hN, hM, h⟩
  obtain ⟨hL, hS⟩ := id hN
  obtain ⟨_, hT⟩ := id hM
  obtain ⟨l1, l2⟩ := id hL
  (refine ⟨rfl, ?_⟩; unfold rd_alike_parting_by)
  fold_at go_alike_parting_by
  refine for_find (fun r => !decide (endF st r = endF ot r)) _ (fun r K hr hf hK => ?_) fun hn => ?_
  · have hl := (marksF_row hr).1
    have hS' : OkS r.length st := by rw [hl, show ((L.toNat : Nat) : Int) = L by omega]; exact hS
    have hT' : OkS r.length ot := by rw [hl, show ((L.toNat : Nat) : Int) = L by omega]; exact hT
    fold_at go_alike_parting_by
    rw [eqv_tup]
    refine ⟨shp_tup _, shp_tup _, ?_⟩
    cases e : decide (endF st r = endF ot r) with
    | true => rw [e] at hK; exact hK rfl
    | false =>
      rw [e] at hf
      have hf := hf rfl
      unfold partF at h
      rw [hf] at h
      exact h
  · fold_at go_alike_parting_by
    unfold partF at h
    rw [hn] at h
    exact h
theorem sp_further_by : Sp_further_by := by
  rintro _ Qd ⟨L, st, ot, rfl, hN, hM, h⟩
  have o1 := outs_small (st := st) hN.1
  have o2 := outs_small (st := ot) hN.1
  (refine ⟨rfl, ?_⟩; unfold rd_further_by)
  fold_at go_further_by
  refine lc_flt rwD (fun r => !decide (r ∈ outsF L ot)) _ (fun r K K0 hr hK hK0 => ?_) (by omega) ?_
  · fold_at go_further_by
    rw [in_rows]
    refine ⟨shp_tup _, shp_rowsT _, ?_⟩
    cases c : decide (r ∈ outsF L ot) with
    | true => rw [c] at hK0; exact hK0 rfl _ rfl
    | false => rw [c] at hK; exact hK rfl _ rfl
  · rw [show (outsF L st).filter (fun r => !decide (r ∈ outsF L ot)) = furF L st ot from rfl]
    fold_at go_further_by
    rw [eqv_lnil]
    refine ⟨shp_rowsL _, by decide, ?_⟩
    cases e : furF L st ot with
    | nil =>
      rw [e] at h
      exact h
    | cons r rs =>
      rw [e] at h
      fold_at go_further_by
theorem sp_check_two : Sp_check_two := by
  rintro _ Qd ⟨L, st, ot, rfl, hN, hM, h⟩
  obtain ⟨hL, hS⟩ := id hN
  obtain ⟨_, hT⟩ := id hM
  (refine ⟨rfl, ?_⟩; unfold rd_check_two)
  fold_at go_check_two
theorem sp_are_alike : Sp_are_alike := by
  rintro _ Qd ⟨L, st, ot, rfl, hN, hM, h⟩
  (refine ⟨rfl, ?_⟩; unfold rd_are_alike)
  fold_at go_are_alike
  rw [isN_opt (fun _ => rfl)]
  exact h
theorem sp_parting : Sp_parting := by
  rintro _ Qd ⟨L, st, ot, rfl, hN, hM, h⟩
  (refine ⟨rfl, ?_⟩; unfold rd_parting)
  fold_at go_parting
theorem sp_is_narrower : Sp_is_narrower := by
  rintro _ Qd ⟨L, st, ot, rfl, hN, hM, h⟩
  (refine ⟨rfl, ?_⟩; unfold rd_is_narrower)
  fold_at go_is_narrower
  rw [isN_opt (fun _ => rfl)]
  have e : (furF L st ot).head?.isNone = narB L st ot := by
    unfold narB
    cases furF L st ot <;> rfl
  rw [e]
  exact h
theorem nar_iff {L : Int} {st ot : List (Int × Int)} : narB L st ot = true ↔ ∀ r ∈ outsF L st, r ∈ outsF L ot := by
  unfold narB furF
  rw [List.isEmpty_iff, List.filter_eq_nil_iff]
  exact ⟨fun h r hr => by
    have := h r hr
    simpa using this, fun h r hr => by simpa using h r hr⟩
theorem nar_refl {L : Int} {st : List (Int × Int)} : narB L st st = true := nar_iff.mpr fun _ h => h

set_option maxRecDepth 100000
set_option maxHeartbeats 4000000

open PySem PySem.Spec L2 LamX DL DL.Pm
/-! ### all orders; the module counts -/
theorem pm_orders {L : Int} (hL : OkL L) : pmD ((upI 0 L.toNat).map .int) = (ordersF L).map rwD := by
  have key : ∀ n : Nat, n = 2 ∨ n = 3 ∨ n = 4 ∨ n = 5 ∨ n = 6 → (pmL n).map (fun p => p.1.map Int.ofNat) = ordersF n := by
    intro n h
    rcases h with z | z | z | z | z <;> subst z <;> decide +kernel
  obtain ⟨l1, l2⟩ := id hL
  have e := key L.toNat (by omega)
  rw [show ((L.toNat : Nat) : Int) = L by omega] at e
  rw [← e, List.map_map]
  unfold pmD
  rw [List.length_map, upI_len]
  refine List.map_congr_left fun p hp => ?_
  obtain ⟨i, hi⟩ := List.mem_iff_getElem?.mp hp
  have ok := (pmOk_of (pmChk_get (pm_chk (n := L.toNat) (by omega)) hi).1).2.2
  show PyData.tuple _ = PyData.tuple _
  rw [List.map_map]
  refine congrArg PyData.tuple (List.map_congr_left fun j hj => ?_)
  have := ok j hj
  show ((upI 0 L.toNat).map PyData.int).getD j .none = .int (Int.ofNat j)
  unfold upI
  simp [List.getD, this]
def g_all_orders : DSp := fun as k => ∃ L, as = [.sh (.int L)] ∧ OkL L ∧ k (.new (.lst ((ordersF L).map rwD))) as
def countF (L : Int) (st : List (Int × Int)) : Nat := ((ordersF L).filter fun o => srt (endF st o)).length
def g_counts_count_by : DSp := fun as k => ∃ L st, as = [.sh (.int L), .sh (stD st)] ∧ OkN L st ∧ k (.val (.int (countF L st))) as
def g_count_sorted : DSp := fun as k => ∃ L st, as = [.sh (.int L), .sh (stD st)] ∧ OkN L st ∧ k (.val (.int (countF L st))) as
def ce_all_orders_1 : WE := (wVar 1)
theorem ce_all_orders_1_c {s : Sl} {ρ : DEnv} {Q} : ce_all_orders_1 (s :: ρ) Q = ((wVar 1)) (s :: ρ) Q := rfl
def cf_all_orders_1 : WT := wYes
theorem cf_all_orders_1_c {s : Sl} {ρ : DEnv} {Q} : cf_all_orders_1 (s :: ρ) Q = (wYes) (s :: ρ) Q := rfl
def rd_all_orders : WS := (wRet (wLc (wPermI (wCons (wLsR (wR1 (wVar 0))) wNil)) (gNm 1) cf_all_orders_1 ce_all_orders_1 [1]))
abbrev Sp_all_orders : Prop := SpD rd_all_orders 2 1 g_all_orders
local macro_rules | `(tactic| fold_at run_all_orders) => `(tactic| simp_arith only [ce_all_orders_1_c, cf_all_orders_1_c])
local macro_rules | `(tactic| fold_at go_all_orders) => `(tactic| simp_arith! only [ce_all_orders_1_c, cf_all_orders_1_c])
def ce_counts_count_by_1 : WE := (wC (.int 1))
theorem ce_counts_count_by_1_c {s : Sl} {ρ : DEnv} {Q} : ce_counts_count_by_1 (s :: ρ) Q = ((wC (.int 1))) (s :: ρ) Q := rfl
def cf_counts_count_by_1 : WT := (wTru (wCall g_is_sorted_by [false] (wCons (wCall g_end_by [false, false] (wCons (wVar 1) (wCons (wVar 2) wNil))) wNil)))
theorem cf_counts_count_by_1_c {s : Sl} {ρ : DEnv} {Q} : cf_counts_count_by_1 (s :: ρ) Q = ((wTru (wCall g_is_sorted_by [false] (wCons (wCall g_end_by [false, false] (wCons (wVar 1) (wCons (wVar 2) wNil))) wNil)))) (s :: ρ) Q := rfl
def rd_counts_count_by : WS := (wRet (wCB gLen (wCons (wLc (wSeqI (wCall g_all_orders [false] (wCons (wVar 0) wNil))) (gNm 2) cf_counts_count_by_1 ce_counts_count_by_1 [2]) wNil)))
abbrev Sp_counts_count_by : Prop := SpD rd_counts_count_by 3 2 g_counts_count_by
local macro_rules | `(tactic| fold_at run_counts_count_by) => `(tactic| simp_arith only [ce_counts_count_by_1_c, cf_counts_count_by_1_c])
local macro_rules | `(tactic| fold_at go_counts_count_by) => `(tactic| simp_arith! only [ce_counts_count_by_1_c, cf_counts_count_by_1_c])
def sq_count_sorted_1 : WS := (wRet (wCall g_counts_count_by [false, false] (wCons (wVar 0) (wCons (wVar 1) wNil))))
theorem sq_count_sorted_1_c {s : Sl} {ρ : DEnv} {Q} : sq_count_sorted_1 (s :: ρ) Q = ((wRet (wCall g_counts_count_by [false, false] (wCons (wVar 0) (wCons (wVar 1) wNil))))) (s :: ρ) Q := rfl
def rd_count_sorted : WS := (wSeq (wDrop (wCall g_check_net [false, false] (wCons (wVar 0) (wCons (wVar 1) wNil)))) sq_count_sorted_1)
abbrev Sp_count_sorted : Prop := SpD rd_count_sorted 2 2 g_count_sorted
local macro_rules | `(tactic| fold_at run_count_sorted) => `(tactic| simp_arith only [sq_count_sorted_1_c])
local macro_rules | `(tactic| fold_at go_count_sorted) => `(tactic| simp_arith! only [sq_count_sorted_1_c])
theorem sp_all_orders : Sp_all_orders := by
  rintro _ Qd ⟨L, rfl, hL, h⟩
  obtain ⟨l1, l2⟩ := id hL
  (refine ⟨rfl, ?_⟩; unfold rd_all_orders)
  fold_at go_all_orders
  rw [rng_up, Int.sub_zero]
  refine ⟨by rw [List.length_map, upI_len]; omega, ?_⟩
  rw [pm_orders hL]
  have hl := ordF_small hL (n := L.toNat) (by omega)
  refine lc_map (fun r => rwD r) _ (fun r K K0 hr hK => ?_) (by unfold ordersF; omega) ?_
  · fold_at go_all_orders
    exact hK _ rfl
  · fold_at go_all_orders
theorem sp_counts_count_by : Sp_counts_count_by := by
  rintro _ Qd ⟨L, st, rfl, hN, h⟩
  obtain ⟨hL, hS⟩ := id hN
  obtain ⟨l1, l2⟩ := id hL
  have hl := ordF_small hL (n := L.toNat) (by omega)
  (refine ⟨rfl, ?_⟩; unfold rd_counts_count_by)
  fold_at go_counts_count_by
  refine lc_flt (fun _ => PyData.int 1) (fun o => srt (endF st o)) _ (fun o K K0 ho hK hK0 => ?_) (by unfold ordersF; omega) ?_
  · have ok := (ordersF_ok hL ho).row hL
    have hS' : OkS o.length st := by rw [ok.1]; exact hS
    have hl2 : (endF st o).length ≤ 1000 := by rw [endF_len]; have := ok.1; omega
    fold_at go_counts_count_by
    cases c : srt (endF st o) with
    | true => rw [c] at hK; exact hK rfl _ rfl
    | false => rw [c] at hK0; exact hK0 rfl _ rfl
  · fold_at go_counts_count_by
    rw [List.length_map]
    exact h
theorem sp_count_sorted : Sp_count_sorted := by
  rintro _ Qd ⟨L, st, rfl, hN, h⟩
  (refine ⟨rfl, ?_⟩; unfold rd_count_sorted)
  fold_at go_count_sorted

set_option maxRecDepth 100000
set_option maxHeartbeats 4000000

open PySem PySem.Spec L2 LamX DL
/-! ### rows sorted, each kept -/
theorem dataLt_rw (x y : List Int) : PySem.W.dataLt (rwD x) (rwD y) = decide (x < y) := (PySem.W.dataLt_tuple _ _).trans (PySem.W.dataLt_ints x y)
def rsort (rs : List (List Int)) : List (List Int) := rs.mergeSort fun a b => decide (a ≤ b)
theorem srtD_rows (rs : List (List Int)) : srtD (rs.map rwD) = (rsort rs).map rwD := by
  unfold srtD rsort
  refine (List.map_mergeSort (fun a _ b _ => ?_)).symm
  show decide (a ≤ b) = !PySem.W.dataLt (rwD b) (rwD a)
  rw [dataLt_rw, ← decide_not]
  rfl
theorem srtb_rows {rs : List (List Int)} (h : ∀ r ∈ rs, r ≠ []) : Srtb (rs.map rwD) := by
  refine ⟨PySem.W.AllAlike.of (enc := rwD) fun b b' => ?_, .inl fun d hd => ?_, (shp_rows rs).1, fun x hx => ?_⟩
  · show PySem.W.alikeAll _ _ = true
    exact PySem.W.alike_ints b b'
  · obtain ⟨r, hr, rfl⟩ := List.mem_map.mp hd
    cases r with
    | nil => exact absurd rfl (h [] hr)
    | cons a l => exact ⟨_, _, rfl⟩
  · obtain ⟨r, _, rfl⟩ := List.mem_map.mp hx
    unfold rwD
    rw [PyData.depth, (shp_ints r).2]
    decide
theorem le_anti {a b : List Int} (h1 : a ≤ b) (h2 : b ≤ a) : a = b := by
  rcases lt_tot a b with z | z | z
  · exact absurd z h2
  · exact z
  · exact absurd z h1
theorem rsort_of {xs ys : List (List Int)} (h : Asc xs) (p : ys.Perm xs) : rsort ys = xs := by
  have hp : (rsort ys).Pairwise (· ≤ ·) := by
    have := List.pairwise_mergeSort (le := fun a b : List Int => decide (a ≤ b)) (fun a b c h1 h2 => by
      simp only [decide_eq_true_eq] at h1 h2 ⊢
      rcases lt_tot a c with z | z | z
      · exact fun z2 => lt_irr _ (lt_tr z z2)
      · rw [z]; exact fun z2 => lt_irr _ z2
      · intro _
        rcases lt_tot a b with y | y | y
        · exact h2 (lt_tr z y)
        · subst y; exact h2 z
        · exact h1 y) (fun a b => by
      simp only [Bool.or_eq_true, decide_eq_true_eq]
      rcases lt_tot a b with z | z | z
      · exact .inl fun z2 => lt_irr _ (lt_tr z z2)
      · rw [z]; exact .inl fun z2 => lt_irr _ z2
      · exact .inr fun z2 => lt_irr _ (lt_tr z z2)) ys
    exact this.imp fun h => by simpa using h
  have hx : xs.Pairwise (· ≤ ·) := h.imp fun z z2 => lt_irr _ (lt_tr z z2)
  exact ((List.mergeSort_perm _ _).trans p).eq_of_pairwise (fun a b _ _ h h' => le_anti h h') hp hx
/-! ### the orders, each once, ascending -/
theorem orders_asc {L : Int} (h2 : 2 ≤ L) (h5 : L ≤ 5) : Asc (ordersF L) := by
  have : L = 2 ∨ L = 3 ∨ L = 4 ∨ L = 5 := by omega
  rcases this with z | z | z | z <;> subst z <;> decide +kernel
theorem orders_len {L : Int} (h2 : 2 ≤ L) (h5 : L ≤ 5) : (ordersF L).length ≤ 120 := by
  have : L = 2 ∨ L = 3 ∨ L = 4 ∨ L = 5 := by omega
  rcases this with z | z | z | z <;> subst z <;> decide +kernel
theorem asc_nodup {xs : List (List Int)} (h : Asc xs) : xs.Nodup := by
  unfold List.Nodup
  exact List.Pairwise.imp (S := fun a b => a ≠ b) (fun {a b} (z : a < b) (e : a = b) => lt_irr a (by rw [← e] at z; exact z)) h
theorem ordF_mem {L : Int} : ∀ {n : Nat} {r : List Int}, r.length = n → r.Nodup → (∀ x ∈ r, 0 ≤ x ∧ x < L) → r ∈ ordF L n
  | 0, r, h, _, _ => by rw [List.length_eq_zero_iff.mp h]; exact List.mem_singleton.mpr rfl
  | n + 1, r, h, nd, m => by
    have hne : r ≠ [] := fun e => by rw [e] at h; cases h
    obtain ⟨q, x, e⟩ : ∃ q x, r = q ++ [x] := ⟨r.dropLast, r.getLast hne, (List.dropLast_concat_getLast hne).symm⟩
    subst e
    rw [List.length_append] at h
    rw [List.nodup_append] at nd
    have hq := ordF_mem (n := n) (r := q) (by simpa using h) nd.1 fun y hy => m y (List.mem_append.mpr (.inl hy))
    have hx := m x (List.mem_append.mpr (.inr (List.mem_singleton.mpr rfl)))
    unfold ordF
    exact List.mem_flatMap.mpr ⟨q, hq, List.mem_map.mpr ⟨x, List.mem_filter.mpr ⟨upI_has hx.1 (by omega), by simpa using fun hz => nd.2.2 x hz x (List.mem_singleton.mpr rfl) rfl⟩, rfl⟩⟩
theorem ordersF_mem {L : Int} (hL : OkL L) {r : List Int} (h : OkO L r) : r ∈ ordersF L :=
  ordF_mem (by rw [h.length_eq, upI_len]) (h.nodup_iff.mpr (upI_nodup 0 _)) fun x hx => by have := upI_mem (h.mem_iff.mp hx); have := hL.1; omega
theorem exch_perm {f : List Int} {p : Int × Int} (h1 : p.1.toNat < f.length) (h2 : p.2.toNat < f.length) : (exch f p).Perm f := by
  unfold exch
  split
  · rw [List.getD_eq_getElem?_getD, List.getD_eq_getElem?_getD, List.getElem?_eq_getElem h1, List.getElem?_eq_getElem h2]
    exact List.set_set_perm h1 h2
  · exact List.Perm.refl _
theorem endF_perm {L : Int} : ∀ {st : List (Int × Int)} {f : List Int}, (∀ p ∈ st, OkP L p) → (f.length : Int) = L → (endF st f).Perm f
  | [], _, _, _ => List.Perm.refl _
  | p :: st, f, ho, hl => by
    obtain ⟨o1, o2, o3⟩ := ho p List.mem_cons_self
    exact (endF_perm (st := st) (f := exch f p) (fun q hq => ho q (List.mem_cons_of_mem _ hq)) (by rw [exch_len]; exact hl)).trans (exch_perm (by omega) (by omega))
theorem endF_order {L : Int} {st : List (Int × Int)} {o : List Int} (hL : OkL L) (hS : OkS L st) (h : OkO L o) : OkO L (endF st o) := (endF_perm hS.2 (h.row hL).1).trans h
/-- what leads to each, over all, is all -/
theorem flat_fibre {α : Type} [DecidableEq α] {f : α → α} {xs : List α} (nd : xs.Nodup) (hf : ∀ a ∈ xs, f a ∈ xs) : (xs.flatMap fun g => xs.filter fun a => decide (f a = g)).Perm xs := by
  refine (List.perm_ext_iff_of_nodup ?_ nd).mpr fun a => ?_
  · rw [List.Nodup, List.pairwise_flatMap]
    refine ⟨fun g _ => nd.filter _, nd.imp fun {g g'} hne x hx y hy e => hne ?_⟩
    have h1 := of_decide_eq_true (List.mem_filter.mp hx).2
    have h2 := of_decide_eq_true (List.mem_filter.mp hy).2
    rw [← h1, ← h2, e]
  · constructor
    · intro h
      obtain ⟨g, _, h⟩ := List.mem_flatMap.mp h
      exact (List.mem_filter.mp h).1
    · intro h
      exact List.mem_flatMap.mpr ⟨f a, hf a h, List.mem_filter.mpr ⟨h, decide_eq_true rfl⟩⟩
theorem srt_up {L : Int} {o : List Int} (h : OkO L o) : srt o = decide (o = upI 0 L.toNat) := by
  cases c : srt o with
  | true => exact (decide_eq_true (srt_uniq h (srt_iff.mp c) (upI_srt _ _))).symm
  | false =>
    refine (decide_eq_false fun e => ?_).symm
    have := srt_iff.mpr (upI_srt 0 L.toNat)
    rw [← e, c] at this
    cases this

set_option maxRecDepth 100000
set_option maxHeartbeats 4000000

open PySem PySem.Spec L2 LamX DL
/-! ### the pool: what the laws of k40's family reckon by themselves -/
def g__law_pool_k40 : DSp := fun as k => ∃ (ns : List Int) (i : Int), as = [.sh (.list (ns.map .int)), .sh (.int i)] ∧ (0 ≤ i ∧ i ≤ 100) ∧ ns.length ≤ 63 ∧ ∀ b, IsPool b → k (.new b) as
def g__law_take_k40 := gTake
def g__law_of_k40 := gOf
def g__law_pairs_of_k40 := gPairs
def g__law_net_k40 : DSp := fun as k => ∃ b L most, as = [.ln b, .sh (.int L), .sh (.int most)] ∧ IsPool b ∧ OkL L ∧ (0 ≤ most ∧ most ≤ 22) ∧ ∀ b' st, IsPool b' → OkN L st → k (.val (stD st)) [.ln b', .sh (.int L), .sh (.int most)]
def g__law_end_k40 : DSp := fun as k => ∃ st ns, as = [.sh (stD st), .sh (nsD ns)] ∧ OkS ns.length st ∧ k (.val (nsD (endF st ns))) as
def g__law_marks_k40 : DSp := fun as k => ∃ L, as = [.sh (.int L)] ∧ OkL L ∧ k (.val (.list ((marksF L.toNat).map rwD))) as
def fb__law_pool_k40_1 : WS := (wAsg (wOp2 gModI (wOp2 gAdd (wOp2 gAdd (wOp2 gMulI (wVar 3) (wC (.int 48271))) (wOp2 gMulI (wOp2 gModI (wVar 5) (wC (.int 2147483399))) (wC (.int 19)))) (wC (.int 7))) (wC (.int 2147483399))) (gNm 3))
theorem fb__law_pool_k40_1_c {s : Sl} {ρ : DEnv} {Q} : fb__law_pool_k40_1 (s :: ρ) Q = ((wAsg (wOp2 gModI (wOp2 gAdd (wOp2 gAdd (wOp2 gMulI (wVar 3) (wC (.int 48271))) (wOp2 gMulI (wOp2 gModI (wVar 5) (wC (.int 2147483399))) (wC (.int 19)))) (wC (.int 7))) (wC (.int 2147483399))) (gNm 3))) (s :: ρ) Q := rfl
def sq__law_pool_k40_1 : WS := (wRet (wLst (wCons (wIfE (wOrT (wOp2T gLtA (wVar 2) (wC (.int 0))) (wOp2T gGeA (wVar 2) (wOp2 gPowI (wC (.int 10)) (wC (.int 18))))) (wOp2 gModI (wCB gAbs (wCons (wVar 2) wNil)) (wVar 4)) (wC (.int 0))) (wCons (wVar 3) (wCons (wC (.int 0)) wNil)))))
theorem sq__law_pool_k40_1_c {s : Sl} {ρ : DEnv} {Q} : sq__law_pool_k40_1 (s :: ρ) Q = ((wRet (wLst (wCons (wIfE (wOrT (wOp2T gLtA (wVar 2) (wC (.int 0))) (wOp2T gGeA (wVar 2) (wOp2 gPowI (wC (.int 10)) (wC (.int 18))))) (wOp2 gModI (wCB gAbs (wCons (wVar 2) wNil)) (wVar 4)) (wC (.int 0))) (wCons (wVar 3) (wCons (wC (.int 0)) wNil)))))) (s :: ρ) Q := rfl
def sq__law_pool_k40_2 : WS := (wSeq (wFor (wCI [5] (wSeqI (wSl (wVar 0) wNo (wPt (wC (.int 12)))))) (gNm 5) (wEnd [5] fb__law_pool_k40_1)) sq__law_pool_k40_1)
theorem sq__law_pool_k40_2_c {s : Sl} {ρ : DEnv} {Q} : sq__law_pool_k40_2 (s :: ρ) Q = ((wSeq (wFor (wCI [5] (wSeqI (wSl (wVar 0) wNo (wPt (wC (.int 12)))))) (gNm 5) (wEnd [5] fb__law_pool_k40_1)) sq__law_pool_k40_1)) (s :: ρ) Q := rfl
def sq__law_pool_k40_3 : WS := (wSeq (wAsg (wOp2 gMulI (wOp2 gMulI (wOp2 gMulI (wOp2 gMulI (wOp2 gMulI (wOp2 gPowI (wC (.int 10)) (wC (.int 64))) (wOp2 gPowI (wC (.int 10)) (wC (.int 64)))) (wOp2 gPowI (wC (.int 10)) (wC (.int 64)))) (wOp2 gPowI (wC (.int 10)) (wC (.int 64)))) (wOp2 gPowI (wC (.int 10)) (wC (.int 64)))) (wOp2 gPowI (wC (.int 10)) (wC (.int 64)))) (gNm 4)) sq__law_pool_k40_2)
theorem sq__law_pool_k40_3_c {s : Sl} {ρ : DEnv} {Q} : sq__law_pool_k40_3 (s :: ρ) Q = ((wSeq (wAsg (wOp2 gMulI (wOp2 gMulI (wOp2 gMulI (wOp2 gMulI (wOp2 gMulI (wOp2 gPowI (wC (.int 10)) (wC (.int 64))) (wOp2 gPowI (wC (.int 10)) (wC (.int 64)))) (wOp2 gPowI (wC (.int 10)) (wC (.int 64)))) (wOp2 gPowI (wC (.int 10)) (wC (.int 64)))) (wOp2 gPowI (wC (.int 10)) (wC (.int 64)))) (wOp2 gPowI (wC (.int 10)) (wC (.int 64)))) (gNm 4)) sq__law_pool_k40_2)) (s :: ρ) Q := rfl
def rd__law_pool_k40 : WS := (wSeq (wPar 2 3 (wCons (wCB gSumA (wCons (wSl (wVar 0) (wPt (wVar 1)) (wPt (wOp2 gAdd (wVar 1) (wC (.int 1))))) wNil)) (wCons (wOp2 gAdd (wC (.int 50021)) (wOp2 gMulI (wC (.int 977)) (wVar 1))) wNil))) sq__law_pool_k40_3)
abbrev Sp__law_pool_k40 : Prop := SpD rd__law_pool_k40 6 2 g__law_pool_k40
local macro_rules | `(tactic| fold_at run__law_pool_k40) => `(tactic| simp_arith only [fb__law_pool_k40_1_c, sq__law_pool_k40_1_c, sq__law_pool_k40_2_c, sq__law_pool_k40_3_c])
local macro_rules | `(tactic| fold_at go__law_pool_k40) => `(tactic| simp_arith! only [fb__law_pool_k40_1_c, sq__law_pool_k40_1_c, sq__law_pool_k40_2_c, sq__law_pool_k40_3_c])
def sq__law_take_k40_1 : WS := (wRet (wVar 2))
theorem sq__law_take_k40_1_c {s : Sl} {ρ : DEnv} {Q} : sq__law_take_k40_1 (s :: ρ) Q = ((wRet (wVar 2))) (s :: ρ) Q := rfl
def bt__law_take_k40_1 : WS := (wSeq (wAsg (wCB gDivmod (wCons (wOp2 gIx (wVar 0) (wC (.int 0))) (wCons (wVar 1) wNil))) (gTp 2 (gsCons (gSb 0 (wC (.int 0))) (gsCons (gNm 2) gsNil)))) sq__law_take_k40_1)
theorem bt__law_take_k40_1_c {s : Sl} {ρ : DEnv} {Q} : bt__law_take_k40_1 (s :: ρ) Q = ((wSeq (wAsg (wCB gDivmod (wCons (wOp2 gIx (wVar 0) (wC (.int 0))) (wCons (wVar 1) wNil))) (gTp 2 (gsCons (gSb 0 (wC (.int 0))) (gsCons (gNm 2) gsNil)))) sq__law_take_k40_1)) (s :: ρ) Q := rfl
def sq__law_take_k40_2 : WS := (wRet (wOp2 gModI (wOp2 gDivI (wOp2 gIx (wVar 0) (wC (.int 1))) (wC (.int 613))) (wVar 1)))
theorem sq__law_take_k40_2_c {s : Sl} {ρ : DEnv} {Q} : sq__law_take_k40_2 (s :: ρ) Q = ((wRet (wOp2 gModI (wOp2 gDivI (wOp2 gIx (wVar 0) (wC (.int 1))) (wC (.int 613))) (wVar 1)))) (s :: ρ) Q := rfl
def sq__law_take_k40_3 : WS := (wSeq (wAsg (wOp2 gModI (wOp2 gAdd (wOp2 gMulI (wVar 3) (wOp2 gAdd (wOp2 gModI (wVar 3) (wC (.int 5003))) (wC (.int 48271)))) (wOp2 gMulI (wC (.int 17)) (wOp2 gIx (wVar 0) (wC (.int 2))))) (wC (.int 2147483399))) (gSb 0 (wC (.int 1)))) sq__law_take_k40_2)
theorem sq__law_take_k40_3_c {s : Sl} {ρ : DEnv} {Q} : sq__law_take_k40_3 (s :: ρ) Q = ((wSeq (wAsg (wOp2 gModI (wOp2 gAdd (wOp2 gMulI (wVar 3) (wOp2 gAdd (wOp2 gModI (wVar 3) (wC (.int 5003))) (wC (.int 48271)))) (wOp2 gMulI (wC (.int 17)) (wOp2 gIx (wVar 0) (wC (.int 2))))) (wC (.int 2147483399))) (gSb 0 (wC (.int 1)))) sq__law_take_k40_2)) (s :: ρ) Q := rfl
def sq__law_take_k40_4 : WS := (wSeq (wAsg (wOp2 gModI (wOp2 gAdd (wOp2 gIx (wVar 0) (wC (.int 1))) (wOp2 gMulI (wC (.int 28657)) (wOp2 gIx (wVar 0) (wC (.int 2))))) (wC (.int 2147483399))) (gNm 3)) sq__law_take_k40_3)
theorem sq__law_take_k40_4_c {s : Sl} {ρ : DEnv} {Q} : sq__law_take_k40_4 (s :: ρ) Q = ((wSeq (wAsg (wOp2 gModI (wOp2 gAdd (wOp2 gIx (wVar 0) (wC (.int 1))) (wOp2 gMulI (wC (.int 28657)) (wOp2 gIx (wVar 0) (wC (.int 2))))) (wC (.int 2147483399))) (gNm 3)) sq__law_take_k40_3)) (s :: ρ) Q := rfl
def sq__law_take_k40_5 : WS := (wSeq (wAsg (wOp2 gAdd (wOp2 gIx (wVar 0) (wC (.int 2))) (wC (.int 1))) (gSb 0 (wC (.int 2)))) sq__law_take_k40_4)
theorem sq__law_take_k40_5_c {s : Sl} {ρ : DEnv} {Q} : sq__law_take_k40_5 (s :: ρ) Q = ((wSeq (wAsg (wOp2 gAdd (wOp2 gIx (wVar 0) (wC (.int 2))) (wC (.int 1))) (gSb 0 (wC (.int 2)))) sq__law_take_k40_4)) (s :: ρ) Q := rfl
def rd__law_take_k40 : WS := (wSeq (wIf (wOp2T gGtA (wOp2 gIx (wVar 0) (wC (.int 0))) (wC (.int 0))) bt__law_take_k40_1 wNext) sq__law_take_k40_5)
abbrev Sp__law_take_k40 : Prop := SpD rd__law_take_k40 4 2 g__law_take_k40
local macro_rules | `(tactic| fold_at run__law_take_k40) => `(tactic| simp_arith only [sq__law_take_k40_1_c, bt__law_take_k40_1_c, sq__law_take_k40_2_c, sq__law_take_k40_3_c, sq__law_take_k40_4_c, sq__law_take_k40_5_c])
local macro_rules | `(tactic| fold_at go__law_take_k40) => `(tactic| simp_arith! only [sq__law_take_k40_1_c, bt__law_take_k40_1_c, sq__law_take_k40_2_c, sq__law_take_k40_3_c, sq__law_take_k40_4_c, sq__law_take_k40_5_c])
def rd__law_of_k40 : WS := (wRet (wOp2 gIx (wVar 1) (wCall g__law_take_k40 [true, false] (wCons (wVar 0) (wCons (wCB gLen (wCons (wVar 1) wNil)) wNil)))))
abbrev Sp__law_of_k40 : Prop := SpD rd__law_of_k40 2 2 g__law_of_k40
local macro_rules | `(tactic| fold_at run__law_of_k40) => `(tactic| simp_arith only [id_eq])
local macro_rules | `(tactic| fold_at go__law_of_k40) => `(tactic| simp_arith! only [id_eq])
def ce__law_pairs_of_k40_1 : WE := (wTup (wCons (wVar 2) (wCons (wVar 3) wNil)))
theorem ce__law_pairs_of_k40_1_c {s : Sl} {ρ : DEnv} {Q} : ce__law_pairs_of_k40_1 (s :: ρ) Q = ((wTup (wCons (wVar 2) (wCons (wVar 3) wNil)))) (s :: ρ) Q := rfl
def cf__law_pairs_of_k40_1 : WT := wYes
theorem cf__law_pairs_of_k40_1_c {s : Sl} {ρ : DEnv} {Q} : cf__law_pairs_of_k40_1 (s :: ρ) Q = (wYes) (s :: ρ) Q := rfl
def fb__law_pairs_of_k40_1 : WS := (wSet 1 (wOp2 gAdd (wVar 1) (wLc (wRng2 (wCons (wOp2 gAdd (wVar 2) (wC (.int 1))) (wCons (wVar 0) wNil))) (gNm 3) cf__law_pairs_of_k40_1 ce__law_pairs_of_k40_1 [3])))
theorem fb__law_pairs_of_k40_1_c {s : Sl} {ρ : DEnv} {Q} : fb__law_pairs_of_k40_1 (s :: ρ) Q = ((wSet 1 (wOp2 gAdd (wVar 1) (wLc (wRng2 (wCons (wOp2 gAdd (wVar 2) (wC (.int 1))) (wCons (wVar 0) wNil))) (gNm 3) cf__law_pairs_of_k40_1 ce__law_pairs_of_k40_1 [3])))) (s :: ρ) Q := rfl
def sq__law_pairs_of_k40_1 : WS := (wRet (wVar 1))
theorem sq__law_pairs_of_k40_1_c {s : Sl} {ρ : DEnv} {Q} : sq__law_pairs_of_k40_1 (s :: ρ) Q = ((wRet (wVar 1))) (s :: ρ) Q := rfl
def sq__law_pairs_of_k40_2 : WS := (wSeq (wFor (wCI [2, 3] (wRng1 (wCons (wVar 0) wNil))) (gNm 2) (wEnd [2, 3] fb__law_pairs_of_k40_1)) sq__law_pairs_of_k40_1)
theorem sq__law_pairs_of_k40_2_c {s : Sl} {ρ : DEnv} {Q} : sq__law_pairs_of_k40_2 (s :: ρ) Q = ((wSeq (wFor (wCI [2, 3] (wRng1 (wCons (wVar 0) wNil))) (gNm 2) (wEnd [2, 3] fb__law_pairs_of_k40_1)) sq__law_pairs_of_k40_1)) (s :: ρ) Q := rfl
def rd__law_pairs_of_k40 : WS := (wSeq (wSet 1 (wLst wNil)) sq__law_pairs_of_k40_2)
abbrev Sp__law_pairs_of_k40 : Prop := SpD rd__law_pairs_of_k40 4 1 g__law_pairs_of_k40
local macro_rules | `(tactic| fold_at run__law_pairs_of_k40) => `(tactic| simp_arith only [ce__law_pairs_of_k40_1_c, cf__law_pairs_of_k40_1_c, fb__law_pairs_of_k40_1_c, sq__law_pairs_of_k40_1_c, sq__law_pairs_of_k40_2_c])
local macro_rules | `(tactic| fold_at go__law_pairs_of_k40) => `(tactic| simp_arith! only [ce__law_pairs_of_k40_1_c, cf__law_pairs_of_k40_1_c, fb__law_pairs_of_k40_1_c, sq__law_pairs_of_k40_1_c, sq__law_pairs_of_k40_2_c])
def ce__law_net_k40_1 : WE := (wTup (wCons (wVar 6) (wCons (wOp2 gAdd (wVar 6) (wC (.int 1))) wNil)))
theorem ce__law_net_k40_1_c {s : Sl} {ρ : DEnv} {Q} : ce__law_net_k40_1 (s :: ρ) Q = ((wTup (wCons (wVar 6) (wCons (wOp2 gAdd (wVar 6) (wC (.int 1))) wNil)))) (s :: ρ) Q := rfl
def cf__law_net_k40_1 : WT := wYes
theorem cf__law_net_k40_1_c {s : Sl} {ρ : DEnv} {Q} : cf__law_net_k40_1 (s :: ρ) Q = (wYes) (s :: ρ) Q := rfl
def fb__law_net_k40_1 : WS := (wSet 4 (wOp2 gAdd (wVar 4) (wLc (wRng1 (wCons (wVar 5) wNil)) (gNm 6) cf__law_net_k40_1 ce__law_net_k40_1 [6])))
theorem fb__law_net_k40_1_c {s : Sl} {ρ : DEnv} {Q} : fb__law_net_k40_1 (s :: ρ) Q = ((wSet 4 (wOp2 gAdd (wVar 4) (wLc (wRng1 (wCons (wVar 5) wNil)) (gNm 6) cf__law_net_k40_1 ce__law_net_k40_1 [6])))) (s :: ρ) Q := rfl
def fb__law_net_k40_2 : WS := (wDrop (wPopAt 4 (wCall g__law_take_k40 [true, false] (wCons (wVar 0) (wCons (wCB gLen (wCons (wVar 4) wNil)) wNil)))))
theorem fb__law_net_k40_2_c {s : Sl} {ρ : DEnv} {Q} : fb__law_net_k40_2 (s :: ρ) Q = ((wDrop (wPopAt 4 (wCall g__law_take_k40 [true, false] (wCons (wVar 0) (wCons (wCB gLen (wCons (wVar 4) wNil)) wNil)))))) (s :: ρ) Q := rfl
def sq__law_net_k40_1 : WS := (wFor (wCI [7] (wRng1 (wCons (wCB gMin2 (wCons (wCB gLen (wCons (wVar 4) wNil)) (wCons (wCall g__law_take_k40 [true, false] (wCons (wVar 0) (wCons (wC (.int 3)) wNil))) wNil))) wNil))) (gNm 7) (wEnd [7] fb__law_net_k40_2))
theorem sq__law_net_k40_1_c {s : Sl} {ρ : DEnv} {Q} : sq__law_net_k40_1 (s :: ρ) Q = ((wFor (wCI [7] (wRng1 (wCons (wCB gMin2 (wCons (wCB gLen (wCons (wVar 4) wNil)) (wCons (wCall g__law_take_k40 [true, false] (wCons (wVar 0) (wCons (wC (.int 3)) wNil))) wNil))) wNil))) (gNm 7) (wEnd [7] fb__law_net_k40_2))) (s :: ρ) Q := rfl
def fb__law_net_k40_3 : WS := (wDrop (wApp 4 (wCall g__law_of_k40 [true, false] (wCons (wVar 0) (wCons (wVar 3) wNil)))))
theorem fb__law_net_k40_3_c {s : Sl} {ρ : DEnv} {Q} : fb__law_net_k40_3 (s :: ρ) Q = ((wDrop (wApp 4 (wCall g__law_of_k40 [true, false] (wCons (wVar 0) (wCons (wVar 3) wNil)))))) (s :: ρ) Q := rfl
def bt__law_net_k40_1 : WS := (wSeq (wFor (wCI [5, 6] (wRng3 (wCons (wOp2 gSubI (wVar 1) (wC (.int 1))) (wCons (wC (.int 0)) (wCons (wNeg (wC (.int 1))) wNil))))) (gNm 5) (wEnd [5, 6] fb__law_net_k40_1)) sq__law_net_k40_1)
theorem bt__law_net_k40_1_c {s : Sl} {ρ : DEnv} {Q} : bt__law_net_k40_1 (s :: ρ) Q = ((wSeq (wFor (wCI [5, 6] (wRng3 (wCons (wOp2 gSubI (wVar 1) (wC (.int 1))) (wCons (wC (.int 0)) (wCons (wNeg (wC (.int 1))) wNil))))) (gNm 5) (wEnd [5, 6] fb__law_net_k40_1)) sq__law_net_k40_1)) (s :: ρ) Q := rfl
def be__law_net_k40_1 : WS := (wFor (wCI [7] (wRng1 (wCons (wCall g__law_take_k40 [true, false] (wCons (wVar 0) (wCons (wOp2 gAdd (wVar 2) (wC (.int 1))) wNil))) wNil))) (gNm 7) (wEnd [7] fb__law_net_k40_3))
theorem be__law_net_k40_1_c {s : Sl} {ρ : DEnv} {Q} : be__law_net_k40_1 (s :: ρ) Q = ((wFor (wCI [7] (wRng1 (wCons (wCall g__law_take_k40 [true, false] (wCons (wVar 0) (wCons (wOp2 gAdd (wVar 2) (wC (.int 1))) wNil))) wNil))) (gNm 7) (wEnd [7] fb__law_net_k40_3))) (s :: ρ) Q := rfl
def sq__law_net_k40_2 : WS := (wSet 4 (wOp2 gAdd (wOp2 gAdd (wSl (wVar 4) wNo (wPt (wVar 8))) (wLst (wCons (wCall g__law_of_k40 [true, false] (wCons (wVar 0) (wCons (wVar 3) wNil))) wNil))) (wSl (wVar 4) (wPt (wVar 8)) wNo)))
theorem sq__law_net_k40_2_c {s : Sl} {ρ : DEnv} {Q} : sq__law_net_k40_2 (s :: ρ) Q = ((wSet 4 (wOp2 gAdd (wOp2 gAdd (wSl (wVar 4) wNo (wPt (wVar 8))) (wLst (wCons (wCall g__law_of_k40 [true, false] (wCons (wVar 0) (wCons (wVar 3) wNil))) wNil))) (wSl (wVar 4) (wPt (wVar 8)) wNo)))) (s :: ρ) Q := rfl
def fb__law_net_k40_4 : WS := (wSeq (wAsg (wCall g__law_take_k40 [true, false] (wCons (wVar 0) (wCons (wOp2 gAdd (wCB gLen (wCons (wVar 4) wNil)) (wC (.int 1))) wNil))) (gNm 8)) sq__law_net_k40_2)
theorem fb__law_net_k40_4_c {s : Sl} {ρ : DEnv} {Q} : fb__law_net_k40_4 (s :: ρ) Q = ((wSeq (wAsg (wCall g__law_take_k40 [true, false] (wCons (wVar 0) (wCons (wOp2 gAdd (wCB gLen (wCons (wVar 4) wNil)) (wC (.int 1))) wNil))) (gNm 8)) sq__law_net_k40_2)) (s :: ρ) Q := rfl
def sq__law_net_k40_3 : WS := (wRet (wCB gTuple (wCons (wSl (wVar 4) wNo (wPt (wC (.int 24)))) wNil)))
theorem sq__law_net_k40_3_c {s : Sl} {ρ : DEnv} {Q} : sq__law_net_k40_3 (s :: ρ) Q = ((wRet (wCB gTuple (wCons (wSl (wVar 4) wNo (wPt (wC (.int 24)))) wNil)))) (s :: ρ) Q := rfl
def sq__law_net_k40_4 : WS := (wSeq (wFor (wCI [7, 8] (wRng1 (wCons (wCall g__law_take_k40 [true, false] (wCons (wVar 0) (wCons (wC (.int 3)) wNil))) wNil))) (gNm 7) (wEnd [7, 8] fb__law_net_k40_4)) sq__law_net_k40_3)
theorem sq__law_net_k40_4_c {s : Sl} {ρ : DEnv} {Q} : sq__law_net_k40_4 (s :: ρ) Q = ((wSeq (wFor (wCI [7, 8] (wRng1 (wCons (wCall g__law_take_k40 [true, false] (wCons (wVar 0) (wCons (wC (.int 3)) wNil))) wNil))) (gNm 7) (wEnd [7, 8] fb__law_net_k40_4)) sq__law_net_k40_3)) (s :: ρ) Q := rfl
def sq__law_net_k40_5 : WS := (wSeq (wIf (wOp2T gEq (wCall g__law_take_k40 [true, false] (wCons (wVar 0) (wCons (wC (.int 2)) wNil))) (wC (.int 0))) bt__law_net_k40_1 be__law_net_k40_1) sq__law_net_k40_4)
theorem sq__law_net_k40_5_c {s : Sl} {ρ : DEnv} {Q} : sq__law_net_k40_5 (s :: ρ) Q = ((wSeq (wIf (wOp2T gEq (wCall g__law_take_k40 [true, false] (wCons (wVar 0) (wCons (wC (.int 2)) wNil))) (wC (.int 0))) bt__law_net_k40_1 be__law_net_k40_1) sq__law_net_k40_4)) (s :: ρ) Q := rfl
def rd__law_net_k40 : WS := (wSeq (wPar 3 4 (wCons (wCall g__law_pairs_of_k40 [false] (wCons (wVar 1) wNil)) (wCons (wLst wNil) wNil))) sq__law_net_k40_5)
abbrev Sp__law_net_k40 : Prop := SpD rd__law_net_k40 9 3 g__law_net_k40
local macro_rules | `(tactic| fold_at run__law_net_k40) => `(tactic| simp_arith only [ce__law_net_k40_1_c, cf__law_net_k40_1_c, fb__law_net_k40_1_c, fb__law_net_k40_2_c, sq__law_net_k40_1_c, fb__law_net_k40_3_c, bt__law_net_k40_1_c, be__law_net_k40_1_c, sq__law_net_k40_2_c, fb__law_net_k40_4_c, sq__law_net_k40_3_c, sq__law_net_k40_4_c, sq__law_net_k40_5_c])
local macro_rules | `(tactic| fold_at go__law_net_k40) => `(tactic| simp_arith! only [ce__law_net_k40_1_c, cf__law_net_k40_1_c, fb__law_net_k40_1_c, fb__law_net_k40_2_c, sq__law_net_k40_1_c, fb__law_net_k40_3_c, bt__law_net_k40_1_c, be__law_net_k40_1_c, sq__law_net_k40_2_c, fb__law_net_k40_4_c, sq__law_net_k40_3_c, sq__law_net_k40_4_c, sq__law_net_k40_5_c])
def fb__law_end_k40_1 : WS := (wAsg (wTup (wCons (wCB gMin2 (wCons (wOp2 gIx (wVar 1) (wVar 2)) (wCons (wOp2 gIx (wVar 1) (wVar 3)) wNil))) (wCons (wCB gMax2 (wCons (wOp2 gIx (wVar 1) (wVar 2)) (wCons (wOp2 gIx (wVar 1) (wVar 3)) wNil))) wNil))) (gTp 2 (gsCons (gSb 1 (wVar 2)) (gsCons (gSb 1 (wVar 3)) gsNil))))
theorem fb__law_end_k40_1_c {s : Sl} {ρ : DEnv} {Q} : fb__law_end_k40_1 (s :: ρ) Q = ((wAsg (wTup (wCons (wCB gMin2 (wCons (wOp2 gIx (wVar 1) (wVar 2)) (wCons (wOp2 gIx (wVar 1) (wVar 3)) wNil))) (wCons (wCB gMax2 (wCons (wOp2 gIx (wVar 1) (wVar 2)) (wCons (wOp2 gIx (wVar 1) (wVar 3)) wNil))) wNil))) (gTp 2 (gsCons (gSb 1 (wVar 2)) (gsCons (gSb 1 (wVar 3)) gsNil))))) (s :: ρ) Q := rfl
def sq__law_end_k40_1 : WS := (wRet (wCB gTuple (wCons (wVar 1) wNil)))
theorem sq__law_end_k40_1_c {s : Sl} {ρ : DEnv} {Q} : sq__law_end_k40_1 (s :: ρ) Q = ((wRet (wCB gTuple (wCons (wVar 1) wNil)))) (s :: ρ) Q := rfl
def sq__law_end_k40_2 : WS := (wSeq (wFor (wCI [2, 3] (wSeqI (wVar 0))) (gTp 2 (gsCons (gNm 2) (gsCons (gNm 3) gsNil))) (wEnd [2, 3] fb__law_end_k40_1)) sq__law_end_k40_1)
theorem sq__law_end_k40_2_c {s : Sl} {ρ : DEnv} {Q} : sq__law_end_k40_2 (s :: ρ) Q = ((wSeq (wFor (wCI [2, 3] (wSeqI (wVar 0))) (gTp 2 (gsCons (gNm 2) (gsCons (gNm 3) gsNil))) (wEnd [2, 3] fb__law_end_k40_1)) sq__law_end_k40_1)) (s :: ρ) Q := rfl
def rd__law_end_k40 : WS := (wSeq (wSet 1 (wCB gList (wCons (wVar 1) wNil))) sq__law_end_k40_2)
abbrev Sp__law_end_k40 : Prop := SpD rd__law_end_k40 4 2 g__law_end_k40
local macro_rules | `(tactic| fold_at run__law_end_k40) => `(tactic| simp_arith only [fb__law_end_k40_1_c, sq__law_end_k40_1_c, sq__law_end_k40_2_c])
local macro_rules | `(tactic| fold_at go__law_end_k40) => `(tactic| simp_arith! only [fb__law_end_k40_1_c, sq__law_end_k40_1_c, sq__law_end_k40_2_c])
def fb__law_marks_k40_1 : WS := (wDrop (wExt 3 (wLst (wCons (wOp2 gAdd (wVar 4) (wTup (wCons (wC (.int 0)) wNil))) (wCons (wOp2 gAdd (wVar 4) (wTup (wCons (wC (.int 1)) wNil))) wNil)))))
theorem fb__law_marks_k40_1_c {s : Sl} {ρ : DEnv} {Q} : fb__law_marks_k40_1 (s :: ρ) Q = ((wDrop (wExt 3 (wLst (wCons (wOp2 gAdd (wVar 4) (wTup (wCons (wC (.int 0)) wNil))) (wCons (wOp2 gAdd (wVar 4) (wTup (wCons (wC (.int 1)) wNil))) wNil)))))) (s :: ρ) Q := rfl
def sq__law_marks_k40_1 : WS := (wAsg (wVar 3) (gNm 1))
theorem sq__law_marks_k40_1_c {s : Sl} {ρ : DEnv} {Q} : sq__law_marks_k40_1 (s :: ρ) Q = ((wAsg (wVar 3) (gNm 1))) (s :: ρ) Q := rfl
def sq__law_marks_k40_2 : WS := (wSeq (wFor (wCI [4] (wSeqI (wVar 1))) (gNm 4) (wEnd [4] fb__law_marks_k40_1)) sq__law_marks_k40_1)
theorem sq__law_marks_k40_2_c {s : Sl} {ρ : DEnv} {Q} : sq__law_marks_k40_2 (s :: ρ) Q = ((wSeq (wFor (wCI [4] (wSeqI (wVar 1))) (gNm 4) (wEnd [4] fb__law_marks_k40_1)) sq__law_marks_k40_1)) (s :: ρ) Q := rfl
def fb__law_marks_k40_2 : WS := (wSeq (wSet 3 (wLst wNil)) sq__law_marks_k40_2)
theorem fb__law_marks_k40_2_c {s : Sl} {ρ : DEnv} {Q} : fb__law_marks_k40_2 (s :: ρ) Q = ((wSeq (wSet 3 (wLst wNil)) sq__law_marks_k40_2)) (s :: ρ) Q := rfl
def sq__law_marks_k40_3 : WS := (wRet (wVar 1))
theorem sq__law_marks_k40_3_c {s : Sl} {ρ : DEnv} {Q} : sq__law_marks_k40_3 (s :: ρ) Q = ((wRet (wVar 1))) (s :: ρ) Q := rfl
def sq__law_marks_k40_4 : WS := (wSeq (wFor (wCI [2, 3, 4] (wRng1 (wCons (wVar 0) wNil))) (gNm 2) (wEnd [2, 3, 4] fb__law_marks_k40_2)) sq__law_marks_k40_3)
theorem sq__law_marks_k40_4_c {s : Sl} {ρ : DEnv} {Q} : sq__law_marks_k40_4 (s :: ρ) Q = ((wSeq (wFor (wCI [2, 3, 4] (wRng1 (wCons (wVar 0) wNil))) (gNm 2) (wEnd [2, 3, 4] fb__law_marks_k40_2)) sq__law_marks_k40_3)) (s :: ρ) Q := rfl
def rd__law_marks_k40 : WS := (wSeq (wAsg (wLst (wCons (wTup wNil) wNil)) (gNm 1)) sq__law_marks_k40_4)
abbrev Sp__law_marks_k40 : Prop := SpD rd__law_marks_k40 5 1 g__law_marks_k40
local macro_rules | `(tactic| fold_at run__law_marks_k40) => `(tactic| simp_arith only [fb__law_marks_k40_1_c, sq__law_marks_k40_1_c, sq__law_marks_k40_2_c, fb__law_marks_k40_2_c, sq__law_marks_k40_3_c, sq__law_marks_k40_4_c])
local macro_rules | `(tactic| fold_at go__law_marks_k40) => `(tactic| simp_arith! only [fb__law_marks_k40_1_c, sq__law_marks_k40_1_c, sq__law_marks_k40_2_c, fb__law_marks_k40_2_c, sq__law_marks_k40_3_c, sq__law_marks_k40_4_c])
theorem sp__law_pool_k40 : Sp__law_pool_k40 := by
  rintro _ Qd ⟨ns, i, rfl, ⟨h0, h1⟩, hl, h⟩
  have c18 : CPow 10 18 := ⟨by decide, by decide, by decide⟩
  have c64 : CPow 10 64 := ⟨by decide, by decide, by decide⟩
  (refine ⟨rfl, ?_⟩; unfold rd__law_pool_k40)
  fold_at go__law_pool_k40
  obtain ⟨ys, hy, _⟩ := cut_ints ns (some i) (some (i + 1))
  rw [hy]
  refine intsK_map ?_
  refine ⟨mul_r, c64, c64, .inr (by unfold CMulX; decide +kernel), c64, .inr (by unfold CMulX; decide +kernel), c64, .inr (by unfold CMulX; decide +kernel), c64, .inr (by unfold CMulX; decide +kernel), c64, .inr (by unfold CMulX; decide +kernel), ?_⟩
  generalize hw : ((10 : Int) ^ 64 * 10 ^ 64 * 10 ^ 64 * 10 ^ 64 * 10 ^ 64 * 10 ^ 64) = W
  have w0 : 0 < W := by rw [← hw]; decide +kernel
  fold_at go__law_pool_k40
  obtain ⟨zs, hz, _⟩ := cut_ints ns none (some 12)
  rw [hz]
  have fin : ∀ y z : Int, Qd (.new (.lst [.int y, .int z, .int 0])) [.sh (.list (ns.map .int)), .sh (.int i)] := fun y z => h _ ⟨y, z, 0, rfl⟩
  refine for_inv (fun _ ρ => ∃ x : Int, ρ = [.sh (.list (ns.map .int)), .sh (.int i), .sh (.int ys.sum), .sh (.int x), .sh (.int W), .emp]) (fun a as ρ K hI hK => ?_) (fun ρ hI => ?_) zs _ ⟨_, rfl⟩
  · obtain ⟨x, e⟩ := hI
    subst e
    fold_at go__law_pool_k40
    exact hK _ ⟨_, rfl⟩
  · obtain ⟨x, e⟩ := hI
    subst e
    fold_at go__law_pool_k40
    by_cases hneg : ys.sum < 0
    · simp_arith only [decide_eq_true hneg]
      exact ⟨w0, by decide, fin _ _⟩
    · simp_arith only [decide_eq_false hneg]
      refine ⟨c18, ?_⟩
      by_cases hbig : (10 : Int) ^ 18 ≤ ys.sum
      · simp_arith only [decide_eq_true hbig]
        exact ⟨w0, by decide, fin _ _⟩
      · simp_arith only [decide_eq_false hbig]
        exact ⟨by decide, fin _ _⟩
theorem sp__law_take_k40 : Sp__law_take_k40 := by
  rintro _ Qd ⟨b, m, rfl, ⟨c, s, t, rfl⟩, ⟨m0, m1⟩, h⟩
  have cd : CDiv c m := ⟨m0, m1⟩
  have r1 : ∀ x : Int, 0 ≤ x % m ∧ x % m < m := fun x => mod_rng m0
  (refine ⟨rfl, ?_⟩; unfold rd__law_take_k40)
  fold_at go__law_take_k40
  by_cases hc : 0 < c
  · simp_arith only [decide_eq_true hc]
    fold_at go__law_take_k40
    exact h _ _ ⟨_, _, _, rfl⟩ (r1 c).1 (r1 c).2
  · simp_arith only [decide_eq_false hc]
    fold_at go__law_take_k40
    have := mod_rng (i := (s + 28657 * (t + 1)) % 2147483399) (m := 5003) (by decide)
    exact h _ _ ⟨_, _, _, rfl⟩ (r1 _).1 (r1 _).2
theorem sp__law_of_k40 : Sp__law_of_k40 := by
  rintro _ Qd ⟨b, dd, ds, hb, rfl, hd, hn, hl, h⟩
  have h0 : 0 < ds.length := List.length_pos_iff.mpr hn
  have fin : ∀ (b' : Box) (r : Int), IsPool b' → 0 ≤ r → r < ds.length → ∃ d, atI ds r = some d ∧ Qd (.val d) [.ln b', .sh dd] := fun b' r hb' r0 r1 => by
    have hl : r.toNat < ds.length := by omega
    exact ⟨ds[r.toNat], atI_at r0 (List.getElem?_eq_getElem hl), h b' _ hb' (List.getElem_mem hl)⟩
  (refine ⟨rfl, ?_⟩; unfold rd__law_of_k40)
  rcases hd with hd | hd
  all_goals
    subst hd
    fold_at go__law_of_k40
    intro b' r hb' r0 r1
    obtain ⟨d, e, q⟩ := fin b' r hb' r0 r1
    simp_arith only [e]
    exact q
theorem sp__law_pairs_of_k40 : Sp__law_pairs_of_k40 := by
  rintro _ Qd ⟨L, rfl, hL, h⟩
  obtain ⟨l1, l2⟩ := id hL
  let row := fun k : Int => (upI (k + 1) (L - (k + 1)).toNat).map fun h => (k, h)
  (refine ⟨rfl, ?_⟩; unfold rd__law_pairs_of_k40)
  fold_at go__law_pairs_of_k40
  rw [rng_up]
  refine for_fold (fun acc : List (Int × Int) => [.sh (.int L), .own (.lst (acc.map pD)), .emp, .emp]) (fun acc k => acc ++ row k) (fun acc as => acc.length + 6 * as.length ≤ 100 ∧ ∀ k ∈ as, 0 ≤ k ∧ k < L) (fun acc k as K hJ hK => ?_) (upI 0 L.toNat) [] ⟨by rw [upI_len]; simp; omega, fun k hk => by have := upI_mem hk; omega⟩ fun _ => ?_
  · obtain ⟨hl, hk⟩ := hJ
    rw [List.length_cons] at hl
    obtain ⟨k0, k1⟩ := hk k List.mem_cons_self
    have rl : (row k).length ≤ 6 := by show (List.map _ _).length ≤ 6; rw [List.length_map, upI_len]; omega
    have hK := hK ⟨by rw [List.length_append]; omega, fun x hx => hk x (List.mem_cons_of_mem _ hx)⟩
    fold_at go__law_pairs_of_k40
    rw [rng_up]
    refine lc_map (fun h : Int => pD (k, h)) _ (fun a K1 K0 ha hk1 => ?_) (by rw [upI_len]; omega) ?_
    · fold_at go__law_pairs_of_k40
      exact hk1 _ rfl
    · fold_at go__law_pairs_of_k40
      rw [List.map_append] at hK
      have e2 : (upI (k + 1) (L - (k + 1)).toNat).map (fun h : Int => pD (k, h)) = (row k).map pD := by show _ = (List.map _ _).map pD; rw [List.map_map]; rfl
      rw [e2]
      exact hK
  · fold_at go__law_pairs_of_k40
    have e3 : ∀ (l : List Int) (acc : List (Int × Int)), l.foldl (fun acc k => acc ++ row k) acc = acc ++ l.flatMap row := fun l => by
      induction l with
      | nil => intro acc; simp
      | cons a l ih => intro acc; rw [List.foldl_cons, ih, List.flatMap_cons, List.append_assoc]
    rw [e3, List.nil_append]
    exact h
theorem sp__law_end_k40 : Sp__law_end_k40 := by
  rintro _ Qd ⟨st, ns, rfl, hS, h⟩
  (refine ⟨rfl, ?_⟩; unfold rd__law_end_k40)
  fold_at run__law_end_k40
  refine for_fold (fun f : List Int => [.sh (stD st), .own (.lst (f.map .int)), .emp, .emp]) exch (fun f as => f.length = ns.length ∧ ∀ p ∈ as, OkP ns.length p) (fun f p as K hJ hK => ?_) st ns ⟨rfl, hS.2⟩ fun _ => ?_
  · obtain ⟨hl, hp⟩ := hJ
    obtain ⟨o1, o2, o3⟩ := hp p List.mem_cons_self
    have hK := hK ⟨by rw [exch_len]; exact hl, fun q hq => hp q (List.mem_cons_of_mem _ hq)⟩
    have g1 := atI_at o1 (ints_get (xs := f) (i := p.1.toNat) (by omega))
    have g2 := atI_at (show 0 ≤ p.2 by omega) (ints_get (xs := f) (i := p.2.toNat) (by omega))
    have i1 : ixN (f.map PyData.int).length p.1 = some p.1.toNat := ixN_at o1 (by rw [List.length_map]; omega)
    have i2 : ∀ x, ixN ((f.map PyData.int).set p.1.toNat x).length p.2 = some p.2.toNat := fun x => ixN_at (show 0 ≤ p.2 by omega) (by rw [List.length_set, List.length_map]; omega)
    fold_at run__law_end_k40
    simp_arith only [g1, g2, i1, i2]
    have ee : exch f p = (f.set p.1.toNat (if f.getD p.2.toNat 0 < f.getD p.1.toNat 0 then f.getD p.2.toNat 0 else f.getD p.1.toNat 0)).set p.2.toNat (if f.getD p.1.toNat 0 < f.getD p.2.toNat 0 then f.getD p.2.toNat 0 else f.getD p.1.toNat 0) := by
      unfold exch
      by_cases c : f.getD p.2.toNat 0 < f.getD p.1.toNat 0
      · rw [if_pos c, if_pos c, if_neg (by omega)]
      · rw [if_neg c, if_neg c]
        have s1 : f.set p.1.toNat (f.getD p.1.toNat 0) = f := by
          rw [List.getD_eq_getElem?_getD, List.getElem?_eq_getElem (show p.1.toNat < f.length by omega)]
          exact List.set_getElem_self _
        have s2 : f.set p.2.toNat (f.getD p.2.toNat 0) = f := by
          rw [List.getD_eq_getElem?_getD, List.getElem?_eq_getElem (show p.2.toNat < f.length by omega)]
          exact List.set_getElem_self _
        rw [s1]
        by_cases c2 : f.getD p.1.toNat 0 < f.getD p.2.toNat 0
        · rw [if_pos c2, s2]
        · rw [if_neg c2, show f.getD p.1.toNat 0 = f.getD p.2.toNat 0 by omega, s2]
    rw [ee, List.map_set, List.map_set] at hK
    fold_at go__law_end_k40
  · fold_at run__law_end_k40
    exact h
theorem sp__law_marks_k40 : Sp__law_marks_k40 := by
  rintro _ Qd ⟨L, rfl, hL, h⟩
  obtain ⟨l1, l2⟩ := id hL
  (refine ⟨rfl, ?_⟩; unfold rd__law_marks_k40)
  fold_at go__law_marks_k40
  rw [rng_up]
  refine for_fold (fun n : Nat => [.sh (.int L), .sh (.list ((marksF n).map rwD)), .emp, .emp, .emp]) (fun n _ => n + 1) (fun n as => n + as.length ≤ 6) (fun n a as K hJ hK => ?_) (upI 0 L.toNat) 0 (by rw [upI_len]; omega) fun _ => ?_
  · simp only [List.length_cons] at hJ
    have hl := marksF_small (n := n) (by omega)
    have hK := hK (by omega)
    fold_at go__law_marks_k40
    refine for_acc owL 3 (fun r => [rwD (r ++ [0]), rwD (r ++ [1])]) 200 _ [] (fun r acc K1 hr hl1 hk1 => ?_) ?_ ?_
    · have hl2 : r.length ≤ 6 := by have := (marksF_row hr).1; omega
      simp only [List.length_cons, List.length_nil] at hl1
      simp only [rwD, List.map_append, List.map_cons, List.map_nil] at hk1
      fold_at go__law_marks_k40
    · rw [marks2_len]; simp; omega
    · fold_at go__law_marks_k40
      unfold marksF at hK
      rw [List.map_flatMap] at hK
      exact hK
  · rw [fold_len, upI_len, Nat.zero_add]
    fold_at go__law_marks_k40
def bubR (k : Int) : List (Int × Int) := (upI 0 k.toNat).map fun l => (l, l + 1)
theorem bub_rg {L : Int} (hL : OkL L) : RgC (L - 1) 0 (-1) (L - 1).toNat := by
  obtain ⟨l1, l2⟩ := hL
  have hl : L = 2 ∨ L = 3 ∨ L = 4 ∨ L = 5 ∨ L = 6 := by omega
  rcases hl with e | e | e | e | e <;> subst e <;> exact ⟨by decide, by decide, by decide, by decide⟩
theorem upD_mem {L k : Int} (h : k ∈ upC (L - 1) (-1) (L - 1).toNat) : 0 ≤ k ∧ k ≤ L - 1 := by
  obtain ⟨i, hi, e⟩ := List.mem_map.mp h
  have := List.mem_range.mp hi
  subst e
  omega
theorem bub_len {L : Int} (hL : OkL L) : ((upC (L - 1) (-1) (L - 1).toNat).flatMap bubR).length ≤ 15 := by
  obtain ⟨l1, l2⟩ := hL
  have hl : L = 2 ∨ L = 3 ∨ L = 4 ∨ L = 5 ∨ L = 6 := by omega
  rcases hl with e | e | e | e | e <;> subst e <;> decide
theorem bub_ok {L : Int} : ∀ p ∈ (upC (L - 1) (-1) (L - 1).toNat).flatMap bubR, OkP L p := fun p hp => by
  obtain ⟨k, hk, hp⟩ := List.mem_flatMap.mp hp
  obtain ⟨l, hl, rfl⟩ := List.mem_map.mp hp
  have h1 := upD_mem hk
  have h2 := upI_mem hl
  exact ⟨h2.1, by show l < l + 1; omega, by show l + 1 ≤ L - 1; omega⟩
theorem sp__law_net_k40 : Sp__law_net_k40 := by
  rintro _ Qd ⟨b, L, most, rfl, hb, hL, hm, h⟩
  obtain ⟨l1, l2⟩ := id hL
  (refine ⟨rfl, ?_⟩; unfold rd__law_net_k40)
  fold_at go__law_net_k40
  intro b1 x hb1 x0 x1
  have pl := pairsOf_len hL
  let I : Nat → List Int → DEnv → Prop := fun n as ρ => ∃ (b : Box) (st : List (Int × Int)) (s3 : Sl), (s3 = .own (.lst ((pairsOf L).map pD)) ∨ s3 = .sh (.list ((pairsOf L).map pD))) ∧ IsPool b ∧ st.length + as.length ≤ n ∧ (∀ p ∈ st, OkP L p) ∧ ρ = [.lent b, .sh (.int L), .sh (.int most), s3, .own (.lst (st.map pD)), .emp, .emp, .emp, .emp]
  have last : ∀ (b2 : Box) (st : List (Int × Int)) (s3 : Sl), (s3 = .own (.lst ((pairsOf L).map pD)) ∨ s3 = .sh (.list ((pairsOf L).map pD))) → IsPool b2 → st.length ≤ 22 → (∀ p ∈ st, OkP L p) → sq__law_net_k40_4 [.lent b2, .sh (.int L), .sh (.int most), s3, .own (.lst (st.map pD)), .emp, .emp, .emp, .emp] { nx := fun ρ => Qd (.val .none) (outs [.ln b, .sh (.int L), .sh (.int most)] ρ), rt := fun r ρ => match r with | .val d => Qd (.val d) (outs [.ln b, .sh (.int L), .sh (.int most)] ρ) | .new bx => Qd (.new bx) (outs [.ln b, .sh (.int L), .sh (.int most)] ρ) | .var _ => False } := fun b2 st s3 h3 hb2 hl ho => by
    fold_at go__law_net_k40
    intro b3 y hb3 y0 y1
    fold_at go__law_net_k40
    rw [rng_up]
    refine for_inv (I 24) (fun a as ρ K hI hK => ?_) (fun ρ hI => ?_) _ _ ⟨b3, st, s3, h3, hb3, by rw [upI_len]; omega, ho, rfl⟩
    · obtain ⟨b4, s4, s3, h3, hb4, hl4, ho4, rfl⟩ := hI
      rw [List.length_cons] at hl4
      have e1 : ∀ (z : Int) (p : Int × Int), (s4.take z.toNat).map pD ++ [pD p] ++ (s4.drop z.toNat).map pD = (s4.take z.toNat ++ p :: s4.drop z.toNat).map pD := fun z p => by rw [List.map_append, List.map_cons, List.append_assoc]; rfl
      rcases h3 with rfl | rfl
      all_goals
        fold_at go__law_net_k40
        intro b5 z hb5 z0 z1
        rw [List.length_map] at z1
        fold_at go__law_net_k40
        rw [cut_toI z0, ← List.map_take]
        fold_at go__law_net_k40
        refine gOf_list hb5 (pairsOf_ne hL) (by omega) fun b6 p hb6 hp => ?_
        fold_at go__law_net_k40
        rw [cut_fromI z0, ← List.map_drop]
        have l4 : (s4.take z.toNat ++ p :: s4.drop z.toNat).length = s4.length + 1 := by rw [List.length_append, List.length_cons, List.length_take, List.length_drop]; omega
        have := hK _ ⟨b6, s4.take z.toNat ++ p :: s4.drop z.toNat, _, .inr rfl, hb6, by omega, fun q hq => by
          rcases List.mem_append.mp hq with hq | hq
          · exact ho4 q (List.mem_of_mem_take hq)
          · rcases List.mem_cons.mp hq with e | hq
            · rw [e]; exact pairsOf_ok hp
            · exact ho4 q (List.mem_of_mem_drop hq), rfl⟩
        rw [e1]
        exact ⟨by simp only [List.length_append, List.length_map, List.length_take, List.length_drop, List.length_singleton]; omega, this⟩
    · obtain ⟨b4, s4, s3, h3, hb4, hl4, ho4, rfl⟩ := hI
      simp only [List.length_nil] at hl4
      fold_at go__law_net_k40
      rw [show (24 : Int) = ((24 : Nat) : Int) from rfl, cut_to, ← List.map_take]
      exact h _ (s4.take 24) hb4 ⟨hL, by rw [List.length_take]; omega, fun q hq => ho4 q (List.mem_of_mem_take hq)⟩
  by_cases hx : x = 0
  · simp_arith only [decide_eq_true hx]
    fold_at go__law_net_k40
    refine ⟨(L - 1).toNat, bub_rg hL, ?_⟩
    rw [rng_upC]
    refine for_fold (fun acc : List (Int × Int) => [.lent b1, .sh (.int L), .sh (.int most), .own (.lst ((pairsOf L).map pD)), .own (.lst (acc.map pD)), .emp, .emp, .emp, .emp]) (fun acc k => acc ++ bubR k) (fun acc as => acc.length + 6 * as.length ≤ 100 ∧ ∀ k ∈ as, 0 ≤ k ∧ k ≤ L - 1) (fun acc k as K hJ hK => ?_) (upC (L - 1) (-1) (L - 1).toNat) [] ⟨by rw [upC_len]; simp; omega, fun k hk => upD_mem hk⟩ fun _ => ?_
    · obtain ⟨hl, hk⟩ := hJ
      rw [List.length_cons] at hl
      obtain ⟨k0, k1⟩ := hk k List.mem_cons_self
      have rl : (bubR k).length ≤ 6 := by unfold bubR; rw [List.length_map, upI_len]; omega
      have hK := hK ⟨by rw [List.length_append]; omega, fun x hx => hk x (List.mem_cons_of_mem _ hx)⟩
      fold_at go__law_net_k40
      rw [rng_up]
      refine lc_map (fun l : Int => pD (l, l + 1)) _ (fun a K1 K0 ha hk1 => ?_) (by rw [upI_len]; omega) ?_
      · have := upI_mem ha
        fold_at go__law_net_k40
        exact hk1 _ rfl
      · fold_at go__law_net_k40
        rw [List.map_append] at hK
        have e2 : (upI 0 k.toNat).map (fun l : Int => pD (l, l + 1)) = (bubR k).map pD := by unfold bubR; rw [List.map_map]; rfl
        rw [e2]
        exact hK
    · have e3 : ∀ (l : List Int) (acc : List (Int × Int)), l.foldl (fun acc k => acc ++ bubR k) acc = acc ++ l.flatMap bubR := fun l => by
        induction l with
        | nil => intro acc; simp
        | cons a l ih => intro acc; rw [List.foldl_cons, ih, List.flatMap_cons, List.append_assoc]
      rw [e3, List.nil_append]
      have bl := bub_len hL
      have bo := bub_ok (L := L)
      generalize (upC (L - 1) (-1) (L - 1).toNat).flatMap bubR = s0 at bl bo
      fold_at go__law_net_k40
      intro b2 y hb2 y0 y1
      rw [List.length_map]
      have hm : ∀ m : Int, m = (if (s0.length : Int) > y then y else (s0.length : Int)) → 0 ≤ m ∧ m ≤ s0.length := fun m e => by
        rw [e]; split <;> omega
      obtain ⟨m0, m1⟩ := hm _ rfl
      fold_at go__law_net_k40
      rw [rng_up]
      refine for_inv (fun as ρ => ∃ (b : Box) (st : List (Int × Int)), IsPool b ∧ as.length ≤ st.length ∧ st.length ≤ 15 ∧ (∀ p ∈ st, OkP L p) ∧ ρ = [.lent b, .sh (.int L), .sh (.int most), .own (.lst ((pairsOf L).map pD)), .own (.lst (st.map pD)), .emp, .emp, .emp, .emp]) (fun a as ρ K hI hK => ?_) (fun ρ hI => ?_) _ _ ⟨b2, s0, hb2, by rw [upI_len]; omega, bl, bo, rfl⟩
      · obtain ⟨b4, st, hb4, hl4, hl5, ho4, rfl⟩ := hI
        rw [List.length_cons] at hl4
        fold_at go__law_net_k40
        rw [List.length_map]
        intro b5 r hb5 r0 r1
        simp_arith only [seqI_at (n := st.length) r0 (by omega)]
        have hr : r.toNat < st.length := by omega
        rw [List.getElem?_map, List.getElem?_eq_getElem hr, erase_map]
        have := List.length_eraseIdx_of_lt hr
        refine ⟨by omega, hK _ ⟨b5, st.eraseIdx r.toNat, hb5, by omega, by omega, fun q hq => ho4 q (List.mem_of_mem_eraseIdx hq), rfl⟩⟩
      · obtain ⟨b4, st, hb4, hl4, hl5, ho4, rfl⟩ := hI
        exact last b4 st _ (.inl rfl) hb4 (by omega) ho4
  · simp_arith only [decide_eq_false hx]
    fold_at go__law_net_k40
    intro b2 y hb2 y0 y1
    fold_at go__law_net_k40
    rw [rng_up]
    refine for_inv (I 22) (fun a as ρ K hI hK => ?_) (fun ρ hI => ?_) _ _ ⟨b2, [], _, .inl rfl, hb2, by rw [upI_len]; simp; omega, (fun q hq => nomatch hq), rfl⟩
    · obtain ⟨b4, st, s3, h3, hb4, hl4, ho4, rfl⟩ := hI
      rw [List.length_cons] at hl4
      rcases h3 with rfl | rfl
      all_goals
        fold_at go__law_net_k40
        refine gOf_list hb4 (pairsOf_ne hL) (by omega) fun b6 p hb6 hp => ?_
        fold_at go__law_net_k40
        have := hK _ ⟨b6, st ++ [p], _, .inr rfl, hb6, by rw [List.length_append, List.length_singleton]; omega, fun q hq => (List.mem_append.mp hq).elim (ho4 q) fun z => by rw [List.mem_singleton.mp z]; exact pairsOf_ok hp, rfl⟩
        rw [List.map_append] at this
        exact this
    · obtain ⟨b4, st, s3, h3, hb4, hl4, ho4, rfl⟩ := hI
      rw [List.length_nil] at hl4
      exact last b4 st _ h3 hb4 (by omega) ho4

set_option maxRecDepth 100000
set_option maxHeartbeats 4000000

open PySem PySem.Spec L2 LamX DL
/-! ### nets beside one another: what follows -/
abbrev alkB (L : Int) (st ot : List (Int × Int)) : Bool := (partF L st ot).isNone
theorem alk_iff {L : Int} {st ot : List (Int × Int)} : alkB L st ot = true ↔ ∀ r ∈ marksF L.toNat, endF st r = endF ot r := by
  unfold alkB partF
  rw [Option.isNone_iff_eq_none, List.find?_eq_none]
  exact ⟨fun h r hr => by simpa using h r hr, fun h r hr => by simpa using h r hr⟩
theorem alk_refl {L : Int} {st : List (Int × Int)} : alkB L st st = true := alk_iff.mpr fun _ _ => rfl
theorem alk_sym {L : Int} {st ot : List (Int × Int)} : alkB L st ot = alkB L ot st := by
  rw [Bool.eq_iff_iff, alk_iff, alk_iff]
  exact ⟨fun h r hr => (h r hr).symm, fun h r hr => (h r hr).symm⟩
theorem mark_inj : ∀ {a b : List Int}, a.length = b.length → (∀ t, markF t a = markF t b) → a = b
  | [], [], _, _ => rfl
  | [], _ :: _, h, _ => nomatch h
  | _ :: _, [], h, _ => nomatch h
  | x :: a, y :: b, h, m => by
    have hxy : x = y := by
      have h1 := m x
      have h2 := m y
      unfold markF at h1 h2
      rw [List.map_cons, List.map_cons] at h1 h2
      injection h1 with h1 _
      injection h2 with h2 _
      rw [if_pos (Int.le_refl _)] at h1 h2
      have c1 : x ≤ y := by
        by_cases c : x ≤ y
        · exact c
        · rw [if_neg c] at h1; cases h1
      have c2 : y ≤ x := by
        by_cases c : y ≤ x
        · exact c
        · rw [if_neg c] at h2; cases h2
      omega
    rw [hxy, mark_inj (a := a) (b := b) (by simpa using h) fun t => by
      have := m t
      unfold markF at this ⊢
      rw [List.map_cons, List.map_cons] at this
      injection this]
theorem alk_row {L : Int} {st ot : List (Int × Int)} {f : List Int} (hN : OkN L st) (hM : OkN L ot) (hl : (f.length : Int) = L) (h : alkB L st ot = true) : endF st f = endF ot f := by
  refine mark_inj (by rw [endF_len, endF_len]) fun t => ?_
  rw [← mark_end hN.2.2 hl, ← mark_end hM.2.2 hl]
  exact alk_iff.mp h _ (mark_mem hl)
theorem sortsB_iff {n : Nat} {st : List (Int × Int)} : sortsB n st = true ↔ ∀ r ∈ marksF n, srt (endF st r) = true := List.all_eq_true
theorem alk_sorts {L : Int} {st ot : List (Int × Int)} (h : alkB L st ot = true) : sortsB L.toNat st = sortsB L.toNat ot := by
  rw [Bool.eq_iff_iff, sortsB_iff, sortsB_iff]
  exact ⟨fun k r hr => by rw [← alk_iff.mp h r hr]; exact k r hr, fun k r hr => by rw [alk_iff.mp h r hr]; exact k r hr⟩
theorem alk_nar {L : Int} {st ot : List (Int × Int)} (h : alkB L st ot = true) : narB L st ot = true := nar_iff.mpr fun r hr => by
  obtain ⟨q, hq, rfl⟩ := mem_outs.mp hr
  exact mem_outs.mpr ⟨q, hq, (alk_iff.mp h q hq).symm⟩
theorem nar_sorts {L : Int} {st ot : List (Int × Int)} (h : narB L st ot = true) (hs : sortsB L.toNat ot = true) : sortsB L.toNat st = true := sortsB_iff.mpr fun r hr => by
  obtain ⟨q, hq, e⟩ := mem_outs.mp (nar_iff.mp h _ (mem_outs.mpr ⟨r, hr, rfl⟩))
  rw [← e]
  exact sortsB_iff.mp hs q hq
theorem endF_app {s t : List (Int × Int)} {f : List Int} : endF (s ++ t) f = endF t (endF s f) := List.foldl_append
theorem nar_app {L : Int} {st ot mo : List (Int × Int)} (h : narB L st ot = true) : narB L (st ++ mo) (ot ++ mo) = true := nar_iff.mpr fun r hr => by
  obtain ⟨q, hq, rfl⟩ := mem_outs.mp hr
  obtain ⟨p, hp, e⟩ := mem_outs.mp (nar_iff.mp h _ (mem_outs.mpr ⟨q, hq, rfl⟩))
  exact mem_outs.mpr ⟨p, hp, by rw [endF_app, endF_app, e]⟩
theorem alk_app {L : Int} {st ot mo : List (Int × Int)} (h : alkB L st ot = true) : alkB L (st ++ mo) (ot ++ mo) = true := alk_iff.mpr fun r hr => by
  rw [endF_app, endF_app, alk_iff.mp h r hr]
theorem exch_srt {L : Int} {f : List Int} {p : Int × Int} (hp : OkP L p) (hl : (f.length : Int) = L) (h : srt f = true) : exch f p = f := by
  obtain ⟨o1, o2, o3⟩ := hp
  unfold exch
  rw [if_neg]
  have := List.pairwise_iff_getElem.mp (srt_iff.mp h) p.1.toNat p.2.toNat (by omega) (by omega) (by omega)
  rw [List.getD_eq_getElem?_getD, List.getElem?_eq_getElem (show p.2.toNat < f.length by omega), List.getD_eq_getElem?_getD, List.getElem?_eq_getElem (show p.1.toNat < f.length by omega)]
  simpa using this
theorem endF_srt {L : Int} : ∀ {st : List (Int × Int)} {f : List Int}, (∀ p ∈ st, OkP L p) → (f.length : Int) = L → srt f = true → endF st f = f
  | [], _, _, _, _ => rfl
  | p :: st, f, ho, hl, h => by
    show endF st (exch f p) = f
    rw [exch_srt (ho p List.mem_cons_self) hl h]
    exact endF_srt (fun q hq => ho q (List.mem_cons_of_mem _ hq)) hl h
theorem marks_lenI {L : Int} (hL : OkL L) {r : List Int} (h : r ∈ marksF L.toNat) : (r.length : Int) = L := by
  have := (marksF_row h).1
  have := hL.1
  omega
theorem sorts_nar {L : Int} {st ot : List (Int × Int)} (hN : OkN L st) (hM : OkN L ot) (hs : sortsB L.toNat st = true) : narB L st ot = true := nar_iff.mpr fun r hr => by
  have hm := outs_row hN hr
  obtain ⟨q, hq, e⟩ := mem_outs.mp hr
  have h1 := sortsB_iff.mp hs q hq
  rw [e] at h1
  exact mem_outs.mpr ⟨r, hm, endF_srt hM.2.2 (marks_lenI hN.1 hm) h1⟩
theorem sorts_alk {L : Int} {st ot : List (Int × Int)} (hN : OkN L st) (hM : OkN L ot) (hs : sortsB L.toNat st = true) (ht : sortsB L.toNat ot = true) : alkB L st ot = true := alk_iff.mpr fun r hr => by
  have hl := marks_lenI hN.1 hr
  exact srt_uniq ((endF_perm hN.2.2 hl).trans (endF_perm hM.2.2 hl).symm) (srt_iff.mp (sortsB_iff.mp hs r hr)) (srt_iff.mp (sortsB_iff.mp ht r hr))
theorem nar_both {L : Int} {st ot : List (Int × Int)} : (narB L st ot && narB L ot st) = decide (outsF L st = outsF L ot) := by
  rw [Bool.eq_iff_iff, Bool.and_eq_true, nar_iff, nar_iff, decide_eq_true_eq]
  constructor
  · rintro ⟨h1, h2⟩
    exact asc_uniq (asc_usort _) (asc_usort _) fun z => ⟨fun hz => h1 z hz, fun hz => h2 z hz⟩
  · intro e
    rw [e]
    exact ⟨fun _ z => z, fun _ z => z⟩
def upRows (n : Nat) : List (List Int) := (List.range (n + 1)).map fun k => List.replicate (n - k) 0 ++ List.replicate k 1
theorem outs_many {L : Int} {st : List (Int × Int)} (hN : OkN L st) : L < (outsF L st).length := by
  obtain ⟨l1, l2⟩ := hN.1
  have nd : (upRows L.toNat).Nodup ∧ (∀ r ∈ upRows L.toNat, srt r = true ∧ r ∈ marksF L.toNat) ∧ (upRows L.toNat).length = L.toNat + 1 := by
    have hl : L = 2 ∨ L = 3 ∨ L = 4 ∨ L = 5 ∨ L = 6 := by omega
    rcases hl with e | e | e | e | e <;> subst e <;> decide +kernel
  obtain ⟨n1, n2, n3⟩ := nd
  have := nodup_len (upRows L.toNat) (outsF L st) n1 fun r hr => by
    obtain ⟨h1, h2⟩ := n2 r hr
    exact mem_outs.mpr ⟨r, h2, endF_srt hN.2.2 (marks_lenI hN.1 h2) h1⟩
  omega

set_option maxRecDepth 100000
set_option maxHeartbeats 4000000

open PySem PySem.Spec L2 LamX DL
/-! ### law k52 -/
def g__law_right_k52 : DSp := fun as k => ∃ b L, as = [.ln b, .sh (.int L)] ∧ IsPool b ∧ OkL L ∧ ∀ b', IsPool b' → k (.val (.bool true)) [.ln b', .sh (.int L)]
def g_law_k52 : DSp := fun as k => ∃ ns : List Int, as = [.sh (.list (ns.map .int))] ∧ ns.length ≤ 63 ∧ k (.val (.bool true)) as
def bt__law_right_k52_1 : WS := (wAsg (wSl (wVar 2) wNo (wPt (wCall g__law_take_k40 [true, false] (wCons (wVar 0) (wCons (wOp2 gAdd (wCB gLen (wCons (wVar 2) wNil)) (wC (.int 1))) wNil))))) (gNm 3))
theorem bt__law_right_k52_1_c {s : Sl} {ρ : DEnv} {Q} : bt__law_right_k52_1 (s :: ρ) Q = ((wAsg (wSl (wVar 2) wNo (wPt (wCall g__law_take_k40 [true, false] (wCons (wVar 0) (wCons (wOp2 gAdd (wCB gLen (wCons (wVar 2) wNil)) (wC (.int 1))) wNil))))) (gNm 3))) (s :: ρ) Q := rfl
def ce__law_right_k52_1 : WE := (wCall g__law_take_k40 [true, false] (wCons (wVar 0) (wCons (wCall g__law_of_k40 [true, false] (wCons (wVar 0) (wCons (wLst (wCons (wC (.int 3)) (wCons (wC (.int 6)) (wCons (wC (.int 100)) wNil)))) wNil))) wNil)))
theorem ce__law_right_k52_1_c {s : Sl} {ρ : DEnv} {Q} : ce__law_right_k52_1 (s :: ρ) Q = ((wCall g__law_take_k40 [true, false] (wCons (wVar 0) (wCons (wCall g__law_of_k40 [true, false] (wCons (wVar 0) (wCons (wLst (wCons (wC (.int 3)) (wCons (wC (.int 6)) (wCons (wC (.int 100)) wNil)))) wNil))) wNil)))) (s :: ρ) Q := rfl
def cf__law_right_k52_1 : WT := wYes
theorem cf__law_right_k52_1_c {s : Sl} {ρ : DEnv} {Q} : cf__law_right_k52_1 (s :: ρ) Q = (wYes) (s :: ρ) Q := rfl
def bt__law_right_k52_2 : WS := (wRet (wC (.bool false)))
theorem bt__law_right_k52_2_c {s : Sl} {ρ : DEnv} {Q} : bt__law_right_k52_2 (s :: ρ) Q = ((wRet (wC (.bool false)))) (s :: ρ) Q := rfl
def bt__law_right_k52_3 : WS := (wRet (wC (.bool false)))
theorem bt__law_right_k52_3_c {s : Sl} {ρ : DEnv} {Q} : bt__law_right_k52_3 (s :: ρ) Q = ((wRet (wC (.bool false)))) (s :: ρ) Q := rfl
def bt__law_right_k52_4 : WS := (wRet (wC (.bool false)))
theorem bt__law_right_k52_4_c {s : Sl} {ρ : DEnv} {Q} : bt__law_right_k52_4 (s :: ρ) Q = ((wRet (wC (.bool false)))) (s :: ρ) Q := rfl
def bt__law_right_k52_5 : WS := (wRet (wC (.bool false)))
theorem bt__law_right_k52_5_c {s : Sl} {ρ : DEnv} {Q} : bt__law_right_k52_5 (s :: ρ) Q = ((wRet (wC (.bool false)))) (s :: ρ) Q := rfl
def ce__law_right_k52_2 : WE := (wOp2 (gIn false) (wVar 10) (wCall g_ends [false, false] (wCons (wVar 1) (wCons (wVar 3) wNil))))
theorem ce__law_right_k52_2_c {s : Sl} {ρ : DEnv} {Q} : ce__law_right_k52_2 (s :: ρ) Q = ((wOp2 (gIn false) (wVar 10) (wCall g_ends [false, false] (wCons (wVar 1) (wCons (wVar 3) wNil))))) (s :: ρ) Q := rfl
def cf__law_right_k52_2 : WT := wYes
theorem cf__law_right_k52_2_c {s : Sl} {ρ : DEnv} {Q} : cf__law_right_k52_2 (s :: ρ) Q = (wYes) (s :: ρ) Q := rfl
def bt__law_right_k52_6 : WS := (wRet (wC (.bool false)))
theorem bt__law_right_k52_6_c {s : Sl} {ρ : DEnv} {Q} : bt__law_right_k52_6 (s :: ρ) Q = ((wRet (wC (.bool false)))) (s :: ρ) Q := rfl
def bt__law_right_k52_7 : WS := (wRet (wC (.bool false)))
theorem bt__law_right_k52_7_c {s : Sl} {ρ : DEnv} {Q} : bt__law_right_k52_7 (s :: ρ) Q = ((wRet (wC (.bool false)))) (s :: ρ) Q := rfl
def bt__law_right_k52_8 : WS := (wRet (wC (.bool false)))
theorem bt__law_right_k52_8_c {s : Sl} {ρ : DEnv} {Q} : bt__law_right_k52_8 (s :: ρ) Q = ((wRet (wC (.bool false)))) (s :: ρ) Q := rfl
def bt__law_right_k52_9 : WS := (wRet (wC (.bool false)))
theorem bt__law_right_k52_9_c {s : Sl} {ρ : DEnv} {Q} : bt__law_right_k52_9 (s :: ρ) Q = ((wRet (wC (.bool false)))) (s :: ρ) Q := rfl
def bt__law_right_k52_10 : WS := (wRet (wC (.bool false)))
theorem bt__law_right_k52_10_c {s : Sl} {ρ : DEnv} {Q} : bt__law_right_k52_10 (s :: ρ) Q = ((wRet (wC (.bool false)))) (s :: ρ) Q := rfl
def bt__law_right_k52_11 : WS := (wRet (wC (.bool false)))
theorem bt__law_right_k52_11_c {s : Sl} {ρ : DEnv} {Q} : bt__law_right_k52_11 (s :: ρ) Q = ((wRet (wC (.bool false)))) (s :: ρ) Q := rfl
def sq__law_right_k52_1 : WS := (wRet (wAnd (wOp2 gEq (wVar 11) (wOp2 gEq (wCall g_ends [false, false] (wCons (wVar 1) (wCons (wVar 2) wNil))) (wCall g_ends [false, false] (wCons (wVar 1) (wCons (wVar 3) wNil))))) (wOp2 gGtA (wCB gLen (wCons (wCall g_ends [false, false] (wCons (wVar 1) (wCons (wVar 2) wNil))) wNil)) (wVar 1))))
theorem sq__law_right_k52_1_c {s : Sl} {ρ : DEnv} {Q} : sq__law_right_k52_1 (s :: ρ) Q = ((wRet (wAnd (wOp2 gEq (wVar 11) (wOp2 gEq (wCall g_ends [false, false] (wCons (wVar 1) (wCons (wVar 2) wNil))) (wCall g_ends [false, false] (wCons (wVar 1) (wCons (wVar 3) wNil))))) (wOp2 gGtA (wCB gLen (wCons (wCall g_ends [false, false] (wCons (wVar 1) (wCons (wVar 2) wNil))) wNil)) (wVar 1))))) (s :: ρ) Q := rfl
def sq__law_right_k52_2 : WS := (wSeq (wSet 11 (wAnd (wVar 9) (wCall g_is_narrower [false, false, false] (wCons (wVar 1) (wCons (wVar 3) (wCons (wVar 2) wNil)))))) sq__law_right_k52_1)
theorem sq__law_right_k52_2_c {s : Sl} {ρ : DEnv} {Q} : sq__law_right_k52_2 (s :: ρ) Q = ((wSeq (wSet 11 (wAnd (wVar 9) (wCall g_is_narrower [false, false, false] (wCons (wVar 1) (wCons (wVar 3) (wCons (wVar 2) wNil)))))) sq__law_right_k52_1)) (s :: ρ) Q := rfl
def sq__law_right_k52_3 : WS := (wSeq (wIf (wAndT (wTru (wCall g_sorts [false, false] (wCons (wVar 1) (wCons (wVar 2) wNil)))) (wAndT (wTru (wCall g_sorts [false, false] (wCons (wVar 1) (wCons (wVar 3) wNil)))) (wNotT (wTru (wVar 5))))) bt__law_right_k52_11 wNext) sq__law_right_k52_2)
theorem sq__law_right_k52_3_c {s : Sl} {ρ : DEnv} {Q} : sq__law_right_k52_3 (s :: ρ) Q = ((wSeq (wIf (wAndT (wTru (wCall g_sorts [false, false] (wCons (wVar 1) (wCons (wVar 2) wNil)))) (wAndT (wTru (wCall g_sorts [false, false] (wCons (wVar 1) (wCons (wVar 3) wNil)))) (wNotT (wTru (wVar 5))))) bt__law_right_k52_11 wNext) sq__law_right_k52_2)) (s :: ρ) Q := rfl
def sq__law_right_k52_4 : WS := (wSeq (wIf (wAndT (wTru (wCall g_sorts [false, false] (wCons (wVar 1) (wCons (wVar 2) wNil)))) (wNotT (wTru (wCall g_is_narrower [false, false, false] (wCons (wVar 1) (wCons (wVar 2) (wCons (wVar 3) wNil))))))) bt__law_right_k52_10 wNext) sq__law_right_k52_3)
theorem sq__law_right_k52_4_c {s : Sl} {ρ : DEnv} {Q} : sq__law_right_k52_4 (s :: ρ) Q = ((wSeq (wIf (wAndT (wTru (wCall g_sorts [false, false] (wCons (wVar 1) (wCons (wVar 2) wNil)))) (wNotT (wTru (wCall g_is_narrower [false, false, false] (wCons (wVar 1) (wCons (wVar 2) (wCons (wVar 3) wNil))))))) bt__law_right_k52_10 wNext) sq__law_right_k52_3)) (s :: ρ) Q := rfl
def sq__law_right_k52_5 : WS := (wSeq (wIf (wAndT (wTru (wVar 5)) (wNotT (wTru (wCall g_are_alike [false, false, false] (wCons (wVar 1) (wCons (wOp2 gAdd (wVar 2) (wVar 4)) (wCons (wOp2 gAdd (wVar 3) (wVar 4)) wNil))))))) bt__law_right_k52_9 wNext) sq__law_right_k52_4)
theorem sq__law_right_k52_5_c {s : Sl} {ρ : DEnv} {Q} : sq__law_right_k52_5 (s :: ρ) Q = ((wSeq (wIf (wAndT (wTru (wVar 5)) (wNotT (wTru (wCall g_are_alike [false, false, false] (wCons (wVar 1) (wCons (wOp2 gAdd (wVar 2) (wVar 4)) (wCons (wOp2 gAdd (wVar 3) (wVar 4)) wNil))))))) bt__law_right_k52_9 wNext) sq__law_right_k52_4)) (s :: ρ) Q := rfl
def sq__law_right_k52_6 : WS := (wSeq (wIf (wAndT (wTru (wVar 9)) (wNotT (wTru (wCall g_is_narrower [false, false, false] (wCons (wVar 1) (wCons (wOp2 gAdd (wVar 2) (wVar 4)) (wCons (wOp2 gAdd (wVar 3) (wVar 4)) wNil))))))) bt__law_right_k52_8 wNext) sq__law_right_k52_5)
theorem sq__law_right_k52_6_c {s : Sl} {ρ : DEnv} {Q} : sq__law_right_k52_6 (s :: ρ) Q = ((wSeq (wIf (wAndT (wTru (wVar 9)) (wNotT (wTru (wCall g_is_narrower [false, false, false] (wCons (wVar 1) (wCons (wOp2 gAdd (wVar 2) (wVar 4)) (wCons (wOp2 gAdd (wVar 3) (wVar 4)) wNil))))))) bt__law_right_k52_8 wNext) sq__law_right_k52_5)) (s :: ρ) Q := rfl
def sq__law_right_k52_7 : WS := (wSeq (wIf (wAndT (wTru (wVar 9)) (wAndT (wTru (wCall g_sorts [false, false] (wCons (wVar 1) (wCons (wVar 3) wNil)))) (wNotT (wTru (wCall g_sorts [false, false] (wCons (wVar 1) (wCons (wVar 2) wNil))))))) bt__law_right_k52_7 wNext) sq__law_right_k52_6)
theorem sq__law_right_k52_7_c {s : Sl} {ρ : DEnv} {Q} : sq__law_right_k52_7 (s :: ρ) Q = ((wSeq (wIf (wAndT (wTru (wVar 9)) (wAndT (wTru (wCall g_sorts [false, false] (wCons (wVar 1) (wCons (wVar 3) wNil)))) (wNotT (wTru (wCall g_sorts [false, false] (wCons (wVar 1) (wCons (wVar 2) wNil))))))) bt__law_right_k52_7 wNext) sq__law_right_k52_6)) (s :: ρ) Q := rfl
def sq__law_right_k52_8 : WS := (wSeq (wIf (wOp2T gNe (wVar 9) (wCB gAll (wCons (wLc (wSeqI (wCall g_ends [false, false] (wCons (wVar 1) (wCons (wVar 2) wNil)))) (gNm 10) cf__law_right_k52_2 ce__law_right_k52_2 [10]) wNil))) bt__law_right_k52_6 wNext) sq__law_right_k52_7)
theorem sq__law_right_k52_8_c {s : Sl} {ρ : DEnv} {Q} : sq__law_right_k52_8 (s :: ρ) Q = ((wSeq (wIf (wOp2T gNe (wVar 9) (wCB gAll (wCons (wLc (wSeqI (wCall g_ends [false, false] (wCons (wVar 1) (wCons (wVar 2) wNil)))) (gNm 10) cf__law_right_k52_2 ce__law_right_k52_2 [10]) wNil))) bt__law_right_k52_6 wNext) sq__law_right_k52_7)) (s :: ρ) Q := rfl
def sq__law_right_k52_9 : WS := (wSeq (wIf (wAndT (wOp2T gIsN (wVar 8) (wC .none)) (wOp2T gEq (wCall g_end [false, false, false] (wCons (wVar 1) (wCons (wVar 2) (wCons (wVar 8) wNil)))) (wCall g_end [false, false, false] (wCons (wVar 1) (wCons (wVar 3) (wCons (wVar 8) wNil)))))) bt__law_right_k52_5 wNext) sq__law_right_k52_8)
theorem sq__law_right_k52_9_c {s : Sl} {ρ : DEnv} {Q} : sq__law_right_k52_9 (s :: ρ) Q = ((wSeq (wIf (wAndT (wOp2T gIsN (wVar 8) (wC .none)) (wOp2T gEq (wCall g_end [false, false, false] (wCons (wVar 1) (wCons (wVar 2) (wCons (wVar 8) wNil)))) (wCall g_end [false, false, false] (wCons (wVar 1) (wCons (wVar 3) (wCons (wVar 8) wNil)))))) bt__law_right_k52_5 wNext) sq__law_right_k52_8)) (s :: ρ) Q := rfl
def sq__law_right_k52_10 : WS := (wSeq (wIf (wAndT (wTru (wVar 5)) (wOp2T gNe (wCall g_sorts [false, false] (wCons (wVar 1) (wCons (wVar 2) wNil))) (wCall g_sorts [false, false] (wCons (wVar 1) (wCons (wVar 3) wNil))))) bt__law_right_k52_4 wNext) sq__law_right_k52_9)
theorem sq__law_right_k52_10_c {s : Sl} {ρ : DEnv} {Q} : sq__law_right_k52_10 (s :: ρ) Q = ((wSeq (wIf (wAndT (wTru (wVar 5)) (wOp2T gNe (wCall g_sorts [false, false] (wCons (wVar 1) (wCons (wVar 2) wNil))) (wCall g_sorts [false, false] (wCons (wVar 1) (wCons (wVar 3) wNil))))) bt__law_right_k52_4 wNext) sq__law_right_k52_9)) (s :: ρ) Q := rfl
def sq__law_right_k52_11 : WS := (wSeq (wIf (wAndT (wTru (wVar 5)) (wOrT (wOp2T gNe (wCall g_end [false, false, false] (wCons (wVar 1) (wCons (wVar 2) (wCons (wVar 6) wNil)))) (wCall g_end [false, false, false] (wCons (wVar 1) (wCons (wVar 3) (wCons (wVar 6) wNil))))) (wNotT (wTru (wVar 9))))) bt__law_right_k52_3 wNext) sq__law_right_k52_10)
theorem sq__law_right_k52_11_c {s : Sl} {ρ : DEnv} {Q} : sq__law_right_k52_11 (s :: ρ) Q = ((wSeq (wIf (wAndT (wTru (wVar 5)) (wOrT (wOp2T gNe (wCall g_end [false, false, false] (wCons (wVar 1) (wCons (wVar 2) (wCons (wVar 6) wNil)))) (wCall g_end [false, false, false] (wCons (wVar 1) (wCons (wVar 3) (wCons (wVar 6) wNil))))) (wNotT (wTru (wVar 9))))) bt__law_right_k52_3 wNext) sq__law_right_k52_10)) (s :: ρ) Q := rfl
def sq__law_right_k52_12 : WS := (wSeq (wIf (wOrT (wOp2T gNe (wOp2 gIs (wVar 8) (wC .none)) (wVar 5)) (wOrT (wOp2T gNe (wCall g_are_alike [false, false, false] (wCons (wVar 1) (wCons (wVar 3) (wCons (wVar 2) wNil)))) (wVar 5)) (wNotT (wTru (wCall g_are_alike [false, false, false] (wCons (wVar 1) (wCons (wVar 2) (wCons (wVar 2) wNil)))))))) bt__law_right_k52_2 wNext) sq__law_right_k52_11)
theorem sq__law_right_k52_12_c {s : Sl} {ρ : DEnv} {Q} : sq__law_right_k52_12 (s :: ρ) Q = ((wSeq (wIf (wOrT (wOp2T gNe (wOp2 gIs (wVar 8) (wC .none)) (wVar 5)) (wOrT (wOp2T gNe (wCall g_are_alike [false, false, false] (wCons (wVar 1) (wCons (wVar 3) (wCons (wVar 2) wNil)))) (wVar 5)) (wNotT (wTru (wCall g_are_alike [false, false, false] (wCons (wVar 1) (wCons (wVar 2) (wCons (wVar 2) wNil)))))))) bt__law_right_k52_2 wNext) sq__law_right_k52_11)) (s :: ρ) Q := rfl
def sq__law_right_k52_13 : WS := (wSeq (wPar 8 9 (wCons (wCall g_parting [false, false, false] (wCons (wVar 1) (wCons (wVar 2) (wCons (wVar 3) wNil)))) (wCons (wCall g_is_narrower [false, false, false] (wCons (wVar 1) (wCons (wVar 2) (wCons (wVar 3) wNil)))) wNil))) sq__law_right_k52_12)
theorem sq__law_right_k52_13_c {s : Sl} {ρ : DEnv} {Q} : sq__law_right_k52_13 (s :: ρ) Q = ((wSeq (wPar 8 9 (wCons (wCall g_parting [false, false, false] (wCons (wVar 1) (wCons (wVar 2) (wCons (wVar 3) wNil)))) (wCons (wCall g_is_narrower [false, false, false] (wCons (wVar 1) (wCons (wVar 2) (wCons (wVar 3) wNil)))) wNil))) sq__law_right_k52_12)) (s :: ρ) Q := rfl
def sq__law_right_k52_14 : WS := (wSeq (wSet 6 (wCB gTuple (wCons (wLc (wRng1 (wCons (wVar 1) wNil)) (gNm 7) cf__law_right_k52_1 ce__law_right_k52_1 [7]) wNil))) sq__law_right_k52_13)
theorem sq__law_right_k52_14_c {s : Sl} {ρ : DEnv} {Q} : sq__law_right_k52_14 (s :: ρ) Q = ((wSeq (wSet 6 (wCB gTuple (wCons (wLc (wRng1 (wCons (wVar 1) wNil)) (gNm 7) cf__law_right_k52_1 ce__law_right_k52_1 [7]) wNil))) sq__law_right_k52_13)) (s :: ρ) Q := rfl
def sq__law_right_k52_15 : WS := (wSeq (wPar3 2 3 5 (wCons (wSl (wVar 2) wNo (wPt (wC (.int 20)))) (wCons (wSl (wVar 3) wNo (wPt (wC (.int 20)))) (wCons (wCall g_are_alike [false, false, false] (wCons (wVar 1) (wCons (wSl (wVar 2) wNo (wPt (wC (.int 20)))) (wCons (wSl (wVar 3) wNo (wPt (wC (.int 20)))) wNil)))) wNil)))) sq__law_right_k52_14)
theorem sq__law_right_k52_15_c {s : Sl} {ρ : DEnv} {Q} : sq__law_right_k52_15 (s :: ρ) Q = ((wSeq (wPar3 2 3 5 (wCons (wSl (wVar 2) wNo (wPt (wC (.int 20)))) (wCons (wSl (wVar 3) wNo (wPt (wC (.int 20)))) (wCons (wCall g_are_alike [false, false, false] (wCons (wVar 1) (wCons (wSl (wVar 2) wNo (wPt (wC (.int 20)))) (wCons (wSl (wVar 3) wNo (wPt (wC (.int 20)))) wNil)))) wNil)))) sq__law_right_k52_14)) (s :: ρ) Q := rfl
def sq__law_right_k52_16 : WS := (wSeq (wIf (wOp2T gEq (wCall g__law_take_k40 [true, false] (wCons (wVar 0) (wCons (wC (.int 2)) wNil))) (wC (.int 0))) bt__law_right_k52_1 wNext) sq__law_right_k52_15)
theorem sq__law_right_k52_16_c {s : Sl} {ρ : DEnv} {Q} : sq__law_right_k52_16 (s :: ρ) Q = ((wSeq (wIf (wOp2T gEq (wCall g__law_take_k40 [true, false] (wCons (wVar 0) (wCons (wC (.int 2)) wNil))) (wC (.int 0))) bt__law_right_k52_1 wNext) sq__law_right_k52_15)) (s :: ρ) Q := rfl
def rd__law_right_k52 : WS := (wSeq (wPar3 2 3 4 (wCons (wCall g__law_net_k40 [true, false, false] (wCons (wVar 0) (wCons (wVar 1) (wCons (wC (.int 8)) wNil)))) (wCons (wCall g__law_net_k40 [true, false, false] (wCons (wVar 0) (wCons (wVar 1) (wCons (wC (.int 8)) wNil)))) (wCons (wSl (wCall g__law_net_k40 [true, false, false] (wCons (wVar 0) (wCons (wVar 1) (wCons (wC (.int 2)) wNil)))) wNo (wPt (wC (.int 4)))) wNil)))) sq__law_right_k52_16)
abbrev Sp__law_right_k52 : Prop := SpD rd__law_right_k52 12 2 g__law_right_k52
local macro_rules | `(tactic| fold_at run__law_right_k52) => `(tactic| simp_arith only [bt__law_right_k52_1_c, ce__law_right_k52_1_c, cf__law_right_k52_1_c, bt__law_right_k52_2_c, bt__law_right_k52_3_c, bt__law_right_k52_4_c, bt__law_right_k52_5_c, ce__law_right_k52_2_c, cf__law_right_k52_2_c, bt__law_right_k52_6_c, bt__law_right_k52_7_c, bt__law_right_k52_8_c, bt__law_right_k52_9_c, bt__law_right_k52_10_c, bt__law_right_k52_11_c, sq__law_right_k52_1_c, sq__law_right_k52_2_c, sq__law_right_k52_3_c, sq__law_right_k52_4_c, sq__law_right_k52_5_c, sq__law_right_k52_6_c, sq__law_right_k52_7_c, sq__law_right_k52_8_c, sq__law_right_k52_9_c, sq__law_right_k52_10_c, sq__law_right_k52_11_c, sq__law_right_k52_12_c, sq__law_right_k52_13_c, sq__law_right_k52_14_c, sq__law_right_k52_15_c, sq__law_right_k52_16_c])
local macro_rules | `(tactic| fold_at go__law_right_k52) => `(tactic| simp_arith! only [bt__law_right_k52_1_c, ce__law_right_k52_1_c, cf__law_right_k52_1_c, bt__law_right_k52_2_c, bt__law_right_k52_3_c, bt__law_right_k52_4_c, bt__law_right_k52_5_c, ce__law_right_k52_2_c, cf__law_right_k52_2_c, bt__law_right_k52_6_c, bt__law_right_k52_7_c, bt__law_right_k52_8_c, bt__law_right_k52_9_c, bt__law_right_k52_10_c, bt__law_right_k52_11_c, sq__law_right_k52_1_c, sq__law_right_k52_2_c, sq__law_right_k52_3_c, sq__law_right_k52_4_c, sq__law_right_k52_5_c, sq__law_right_k52_6_c, sq__law_right_k52_7_c, sq__law_right_k52_8_c, sq__law_right_k52_9_c, sq__law_right_k52_10_c, sq__law_right_k52_11_c, sq__law_right_k52_12_c, sq__law_right_k52_13_c, sq__law_right_k52_14_c, sq__law_right_k52_15_c, sq__law_right_k52_16_c])
def bt_law_k52_1 : WS := (wRet (wC (.bool false)))
theorem bt_law_k52_1_c {s : Sl} {ρ : DEnv} {Q} : bt_law_k52_1 (s :: ρ) Q = ((wRet (wC (.bool false)))) (s :: ρ) Q := rfl
def fb_law_k52_1 : WS := (wIf (wNotT (wTru (wCall g__law_right_k52 [true, false] (wCons (wVar 2) (wCons (wVar 3) wNil))))) bt_law_k52_1 wNext)
theorem fb_law_k52_1_c {s : Sl} {ρ : DEnv} {Q} : fb_law_k52_1 (s :: ρ) Q = ((wIf (wNotT (wTru (wCall g__law_right_k52 [true, false] (wCons (wVar 2) (wCons (wVar 3) wNil))))) bt_law_k52_1 wNext)) (s :: ρ) Q := rfl
def sq_law_k52_1 : WS := (wFor (wCI [3] (wSeqI (wLst (wCons (wC (.int 2)) (wCons (wC (.int 3)) (wCons (wC (.int 4)) (wCons (wC (.int 5)) (wCons (wC (.int 6)) wNil)))))))) (gNm 3) (wEnd [3] fb_law_k52_1))
theorem sq_law_k52_1_c {s : Sl} {ρ : DEnv} {Q} : sq_law_k52_1 (s :: ρ) Q = ((wFor (wCI [3] (wSeqI (wLst (wCons (wC (.int 2)) (wCons (wC (.int 3)) (wCons (wC (.int 4)) (wCons (wC (.int 5)) (wCons (wC (.int 6)) wNil)))))))) (gNm 3) (wEnd [3] fb_law_k52_1))) (s :: ρ) Q := rfl
def fb_law_k52_2 : WS := (wSeq (wSet 2 (wCall g__law_pool_k40 [false, false] (wCons (wVar 0) (wCons (wVar 1) wNil)))) sq_law_k52_1)
theorem fb_law_k52_2_c {s : Sl} {ρ : DEnv} {Q} : fb_law_k52_2 (s :: ρ) Q = ((wSeq (wSet 2 (wCall g__law_pool_k40 [false, false] (wCons (wVar 0) (wCons (wVar 1) wNil)))) sq_law_k52_1)) (s :: ρ) Q := rfl
def sq_law_k52_2 : WS := (wRet (wC (.bool true)))
theorem sq_law_k52_2_c {s : Sl} {ρ : DEnv} {Q} : sq_law_k52_2 (s :: ρ) Q = ((wRet (wC (.bool true)))) (s :: ρ) Q := rfl
def rd_law_k52 : WS := (wSeq (wFor (wCI [1, 2, 3] (wRng1 (wCons (wCB gMax2 (wCons (wC (.int 2)) (wCons (wCB gMin2 (wCons (wCB gLen (wCons (wVar 0) wNil)) (wCons (wC (.int 3)) wNil))) wNil))) wNil))) (gNm 1) (wEnd [1, 2, 3] fb_law_k52_2)) sq_law_k52_2)
abbrev Sp_law_k52 : Prop := SpD rd_law_k52 4 1 g_law_k52
local macro_rules | `(tactic| fold_at run_law_k52) => `(tactic| simp_arith only [bt_law_k52_1_c, fb_law_k52_1_c, sq_law_k52_1_c, fb_law_k52_2_c, sq_law_k52_2_c])
local macro_rules | `(tactic| fold_at go_law_k52) => `(tactic| simp_arith! only [bt_law_k52_1_c, fb_law_k52_1_c, sq_law_k52_1_c, fb_law_k52_2_c, sq_law_k52_2_c])
theorem okN_take {L : Int} {st : List (Int × Int)} {n : Nat} (h : OkN L st) : OkN L (st.take n) := ⟨h.1, by have := h.2.1; rw [List.length_take]; omega, fun q hq => h.2.2 q (List.mem_of_mem_take hq)⟩
theorem eqv_bb (x y : Bool) : PyData.eqv (.bool x) (.bool y) = (x == y) := by cases x <;> cases y <;> rfl
theorem stD_app (a b : List (Int × Int)) : PyData.tuple (a.map pD ++ b.map pD) = stD (a ++ b) := by rw [← List.map_append]
theorem tail52 {b6 : Box} {L : Int} {st ot mo : List (Int × Int)} {ns : List Int} {P : DP} (hL : OkL L) (hN : OkN L st) (hM : OkN L ot) (hNm : OkN L (st ++ mo)) (hMm : OkN L (ot ++ mo)) (hR : OkR L ns)
    (hP : ∀ s, P.rt (.val (.bool true)) [.lent b6, .sh (.int L), .sh (stD st), .sh (stD ot), .sh (stD mo), .sh (.bool (alkB L st ot)), .sh (rwD ns), .emp, .sh (optD rwD (partF L st ot)), .sh (.bool (narB L st ot)), .emp, s]) :
    sq__law_right_k52_12 [.lent b6, .sh (.int L), .sh (stD st), .sh (stD ot), .sh (stD mo), .sh (.bool (alkB L st ot)), .sh (rwD ns), .emp, .sh (optD rwD (partF L st ot)), .sh (.bool (narB L st ot)), .emp, .emp] P := by
  have o1 := outs_small (st := st) hL
  have o2 := outs_small (st := ot) hL
  have om := outs_many hN
  have s1 := hN.2.1
  have s2 := hM.2.1
  have s3 : mo.length ≤ 24 := by have := hNm.2.1; rw [List.length_append] at this; omega
  have t1 : sq__law_right_k52_1 [.lent b6, .sh (.int L), .sh (stD st), .sh (stD ot), .sh (stD mo), .sh (.bool (alkB L st ot)), .sh (rwD ns), .emp, .sh (optD rwD (partF L st ot)), .sh (.bool (narB L st ot)), .emp, .sh (.bool (narB L st ot && narB L ot st))] P := by
    simp_arith! only [sq__law_right_k52_1_c]
    rw [eqv_rowsT]
    refine ⟨shp_rowsT _, shp_rowsT _, ?_⟩
    rw [eqv_bb, nar_both, beq_self_eq_true]
    refine ⟨rfl, rfl, ?_⟩
    simp_arith! only [sq__law_right_k52_1_c]
    rw [List.length_map, decide_eq_true om]
    exact hP _
  have t2 : sq__law_right_k52_2 [.lent b6, .sh (.int L), .sh (stD st), .sh (stD ot), .sh (stD mo), .sh (.bool (alkB L st ot)), .sh (rwD ns), .emp, .sh (optD rwD (partF L st ot)), .sh (.bool (narB L st ot)), .emp, .emp] P := by
    simp_arith only [sq__law_right_k52_2_c]
    cases c : narB L st ot with
    | false =>
      rw [c] at t1
      exact t1
    | true =>
      rw [c] at t1
      simp_arith! only [sq__law_right_k52_2_c]
  have t3 : sq__law_right_k52_3 [.lent b6, .sh (.int L), .sh (stD st), .sh (stD ot), .sh (stD mo), .sh (.bool (alkB L st ot)), .sh (rwD ns), .emp, .sh (optD rwD (partF L st ot)), .sh (.bool (narB L st ot)), .emp, .emp] P := by
    have f3 := sorts_alk hN hM
    simp_arith! only [sq__law_right_k52_3_c]
    cases c1 : sortsB L.toNat st with
    | false => exact t2
    | true =>
      simp_arith! only [sq__law_right_k52_3_c]
      cases c2 : sortsB L.toNat ot with
      | false => exact t2
      | true =>
        rw [f3 c1 c2] at t2 ⊢
        simp_arith! only [sq__law_right_k52_3_c]
  have t4 : sq__law_right_k52_4 [.lent b6, .sh (.int L), .sh (stD st), .sh (stD ot), .sh (stD mo), .sh (.bool (alkB L st ot)), .sh (rwD ns), .emp, .sh (optD rwD (partF L st ot)), .sh (.bool (narB L st ot)), .emp, .emp] P := by
    simp_arith! only [sq__law_right_k52_4_c]
    cases c1 : sortsB L.toNat st with
    | false => exact t3
    | true =>
      simp_arith! only [sq__law_right_k52_4_c]
      rw [sorts_nar hN hM c1] at t3 ⊢
      simp_arith! only [sq__law_right_k52_4_c]
  have t5 : sq__law_right_k52_5 [.lent b6, .sh (.int L), .sh (stD st), .sh (stD ot), .sh (stD mo), .sh (.bool (alkB L st ot)), .sh (rwD ns), .emp, .sh (optD rwD (partF L st ot)), .sh (.bool (narB L st ot)), .emp, .emp] P := by
    simp_arith! only [sq__law_right_k52_5_c]
    cases c1 : alkB L st ot with
    | false => rw [c1] at t4; exact t4
    | true =>
      rw [c1] at t4
      simp_arith! only [sq__law_right_k52_5_c, stD_app]
      rw [show (partF L (st ++ mo) (ot ++ mo)).isNone = true from alk_app c1]
      simp_arith! only [sq__law_right_k52_5_c]
  have t6 : sq__law_right_k52_6 [.lent b6, .sh (.int L), .sh (stD st), .sh (stD ot), .sh (stD mo), .sh (.bool (alkB L st ot)), .sh (rwD ns), .emp, .sh (optD rwD (partF L st ot)), .sh (.bool (narB L st ot)), .emp, .emp] P := by
    simp_arith! only [sq__law_right_k52_6_c]
    cases c1 : narB L st ot with
    | false => rw [c1] at t5; exact t5
    | true =>
      rw [c1] at t5
      simp_arith! only [sq__law_right_k52_6_c, stD_app]
      rw [nar_app c1]
      simp_arith! only [sq__law_right_k52_6_c]
  have t7 : sq__law_right_k52_7 [.lent b6, .sh (.int L), .sh (stD st), .sh (stD ot), .sh (stD mo), .sh (.bool (alkB L st ot)), .sh (rwD ns), .emp, .sh (optD rwD (partF L st ot)), .sh (.bool (narB L st ot)), .emp, .emp] P := by
    simp_arith! only [sq__law_right_k52_7_c]
    cases c1 : narB L st ot with
    | false => rw [c1] at t6; exact t6
    | true =>
      rw [c1] at t6
      simp_arith! only [sq__law_right_k52_7_c]
      cases c2 : sortsB L.toNat ot with
      | false => exact t6
      | true =>
        simp_arith! only [sq__law_right_k52_7_c]
        rw [nar_sorts c1 c2]
        simp_arith! only [sq__law_right_k52_7_c]
  have t8 : sq__law_right_k52_8 [.lent b6, .sh (.int L), .sh (stD st), .sh (stD ot), .sh (stD mo), .sh (.bool (alkB L st ot)), .sh (rwD ns), .emp, .sh (optD rwD (partF L st ot)), .sh (.bool (narB L st ot)), .emp, .emp] P := by
    simp_arith! only [sq__law_right_k52_8_c, ce__law_right_k52_2_c, cf__law_right_k52_2_c]
    refine lc_map (fun r => .bool (decide (r ∈ outsF L ot))) _ (fun r K K0 hr hK => ?_) (by omega) ?_
    · simp_arith! only [ce__law_right_k52_2_c, cf__law_right_k52_2_c]
      rw [in_rows]
      exact ⟨shp_tup _, shp_rowsT _, hK _ rfl⟩
    · have e : ((outsF L st).map fun r => decide (r ∈ outsF L ot)).all id = narB L st ot := by
        rw [Bool.eq_iff_iff, List.all_eq_true, nar_iff]
        exact ⟨fun hh r hr => of_decide_eq_true (hh _ (List.mem_map.mpr ⟨r, hr, rfl⟩)), fun hh y hy => by
          obtain ⟨r, hr, rfl⟩ := List.mem_map.mp hy
          exact decide_eq_true (hh r hr)⟩
      simp_arith! only [sq__law_right_k52_8_c]
      refine boolsK_map ?_
      rw [e, eqv_bb, beq_self_eq_true]
      refine ⟨rfl, rfl, ?_⟩
      simp_arith! only [sq__law_right_k52_8_c]
  have t9 : sq__law_right_k52_9 [.lent b6, .sh (.int L), .sh (stD st), .sh (stD ot), .sh (stD mo), .sh (.bool (alkB L st ot)), .sh (rwD ns), .emp, .sh (optD rwD (partF L st ot)), .sh (.bool (narB L st ot)), .emp, .emp] P := by
    simp_arith! only [sq__law_right_k52_9_c]
    cases c1 : partF L st ot with
    | none => rw [c1] at t8; exact t8
    | some r =>
      have hr : r ∈ marksF L.toNat := List.mem_of_find?_eq_some c1
      have hne := List.find?_some c1
      have hR1 := marks_okR hL hr
      rw [c1] at t8
      simp_arith! only [sq__law_right_k52_9_c, optD]
      rw [eqv_tup]
      refine ⟨shp_tup _, shp_tup _, ?_⟩
      rw [show decide (endF st r = endF ot r) = false by simpa using hne]
      exact t8
  have t10 : sq__law_right_k52_10 [.lent b6, .sh (.int L), .sh (stD st), .sh (stD ot), .sh (stD mo), .sh (.bool (alkB L st ot)), .sh (rwD ns), .emp, .sh (optD rwD (partF L st ot)), .sh (.bool (narB L st ot)), .emp, .emp] P := by
    simp_arith! only [sq__law_right_k52_10_c]
    cases c1 : alkB L st ot with
    | false => rw [c1] at t9; exact t9
    | true =>
      rw [c1] at t9
      simp_arith! only [sq__law_right_k52_10_c]
      rw [eqv_bb, alk_sorts c1, beq_self_eq_true]
      exact t9
  have t11 : sq__law_right_k52_11 [.lent b6, .sh (.int L), .sh (stD st), .sh (stD ot), .sh (stD mo), .sh (.bool (alkB L st ot)), .sh (rwD ns), .emp, .sh (optD rwD (partF L st ot)), .sh (.bool (narB L st ot)), .emp, .emp] P := by
    simp_arith! only [sq__law_right_k52_11_c]
    cases c1 : alkB L st ot with
    | false => rw [c1] at t10; exact t10
    | true =>
      rw [c1] at t10
      simp_arith! only [sq__law_right_k52_11_c]
      rw [eqv_tup, decide_eq_true (alk_row hN hM hR.1 c1)]
      refine ⟨shp_tup _, shp_tup _, ?_⟩
      rw [alk_nar c1] at t10 ⊢
      simp_arith! only [sq__law_right_k52_11_c]
  simp_arith! only [sq__law_right_k52_12_c]
  rw [isN_opt (fun _ => rfl), eqv_bb, show ((partF L st ot).isNone == alkB L st ot) = true from beq_self_eq_true _]
  simp_arith! only [sq__law_right_k52_12_c]
  rw [eqv_bb, show ((partF L ot st).isNone == alkB L st ot) = true from by rw [alk_sym]; exact beq_self_eq_true _]
  simp_arith! only [sq__law_right_k52_12_c]
  rw [show (partF L st st).isNone = true from alk_refl]
  simp_arith! only [sq__law_right_k52_12_c]
theorem sp__law_right_k52 : Sp__law_right_k52 := by
  rintro _ Qd ⟨b, L, rfl, hb, hL, h⟩
  obtain ⟨l1, l2⟩ := id hL
  have ml := marksF_small (n := L.toNat) (by omega)
  (refine ⟨rfl, ?_⟩; unfold rd__law_right_k52)
  simp_arith! only [sq__law_right_k52_16_c, bt__law_right_k52_1_c]
  intro b1 st0 hb1 hN0
  simp_arith! only [sq__law_right_k52_16_c, bt__law_right_k52_1_c]
  intro b2 ot0 hb2 hM0
  simp_arith! only [sq__law_right_k52_16_c, bt__law_right_k52_1_c]
  intro b3 mo0 hb3 hO0
  rw [show (4 : Int) = ((4 : Nat) : Int) from rfl, cut_to, ← List.map_take]
  have hO : OkN L (mo0.take 4) := okN_take hO0
  have hmo : (mo0.take 4).length ≤ 4 := by rw [List.length_take]; omega
  generalize mo0.take 4 = mo at hO hmo
  simp_arith! only [sq__law_right_k52_16_c, bt__law_right_k52_1_c]
  intro b4 x hb4 x0 x1
  have rest : ∀ (b5 : Box) (ot1 : List (Int × Int)), IsPool b5 → OkN L ot1 → sq__law_right_k52_15 [.lent b5, .sh (.int L), .sh (stD st0), .sh (stD ot1), .sh (stD mo), .emp, .emp, .emp, .emp, .emp, .emp, .emp] { nx := fun ρ => Qd (.val .none) (outs [.ln b, .sh (.int L)] ρ), rt := fun r ρ => match r with | .val d => Qd (.val d) (outs [.ln b, .sh (.int L)] ρ) | .new bx => Qd (.new bx) (outs [.ln b, .sh (.int L)] ρ) | .var _ => False } := fun b5 ot1 hb5 hM1 => by
    simp_arith only [sq__law_right_k52_15_c]
    rw [show (20 : Int) = ((20 : Nat) : Int) from rfl, cut_to, cut_to, ← List.map_take, ← List.map_take]
    have hN : OkN L (st0.take 20) := okN_take hN0
    have hM : OkN L (ot1.take 20) := okN_take hM1
    have hs : (st0.take 20).length ≤ 20 := by rw [List.length_take]; omega
    have ht : (ot1.take 20).length ≤ 20 := by rw [List.length_take]; omega
    generalize st0.take 20 = st at hN hs
    generalize ot1.take 20 = ot at hM ht
    have hNm : OkN L (st ++ mo) := ⟨hL, by rw [List.length_append]; omega, fun q hq => (List.mem_append.mp hq).elim (hN.2.2 q) (hO.2.2 q)⟩
    have hMm : OkN L (ot ++ mo) := ⟨hL, by rw [List.length_append]; omega, fun q hq => (List.mem_append.mp hq).elim (hM.2.2 q) (hO.2.2 q)⟩
    simp_arith! only [sq__law_right_k52_14_c, ce__law_right_k52_1_c, cf__law_right_k52_1_c]
    rw [rng_up]
    refine lc_rel PyData.int (fun ρ => ∃ b, IsPool b ∧ ρ = [.lent b, .sh (.int L), .sh (stD st), .sh (stD ot), .sh (stD mo), .sh (.bool (alkB L st ot)), .emp, .emp, .emp, .emp, .emp, .emp]) (fun x => 0 ≤ x ∧ x ≤ 99) _ (fun a2 ρ K K0 _ hI hK => ?_) (by rw [upI_len]; omega) ⟨_, hb5, rfl⟩ fun ns ρ hl ho hI => ?_
    · obtain ⟨b9, hb9, rfl⟩ := hI
      simp_arith! only [sq__law_right_k52_14_c, ce__law_right_k52_1_c, cf__law_right_k52_1_c]
      refine gOf_lit hb9 (by simp) (by simp) fun b10 d hb10 hd => ?_
      have : ∃ n : Int, d = .int n ∧ 3 ≤ n ∧ n ≤ 100 := by
        simp only [List.mem_cons, List.not_mem_nil, or_false] at hd
        rcases hd with e | e | e <;> subst e <;> exact ⟨_, rfl, by decide, by decide⟩
      obtain ⟨n, rfl, n0, n1⟩ := this
      simp_arith! only [sq__law_right_k52_14_c, ce__law_right_k52_1_c, cf__law_right_k52_1_c]
      intro b11 z hb11 z0 z1
      simp_arith! only [sq__law_right_k52_14_c, ce__law_right_k52_1_c, cf__law_right_k52_1_c]
      exact hK z _ _ ⟨z0, by omega⟩ ⟨b11, hb11, rfl⟩ rfl
    · obtain ⟨b6, hb6, rfl⟩ := hI
      have hR : OkR L ns := ⟨by rw [hl, upI_len]; omega, ho⟩
      simp_arith only [sq__law_right_k52_13_c]
      refine ⟨_, _, _, rfl, hN, hM, ?_⟩
      simp_arith only [sq__law_right_k52_13_c]
      refine ⟨_, _, _, rfl, hN, hM, ?_⟩
      simp_arith only [sq__law_right_k52_13_c]
      refine tail52 hL hN hM hNm hMm hR (fun s => ?_)
      exact h b6 hb6
  by_cases hx : x = 0
  · simp_arith only [decide_eq_true hx]
    simp_arith! only [bt__law_right_k52_1_c]
    have hl := hN0.2.1
    refine ⟨by rw [List.length_map]; omega, ?_⟩
    simp_arith! only [bt__law_right_k52_1_c]
    intro b5 y hb5 y0 y1
    simp_arith! only [bt__law_right_k52_1_c]
    rw [cut_toI y0, ← List.map_take]
    exact rest b5 (st0.take y.toNat) hb5 (okN_take hN0)
  · simp_arith only [decide_eq_false hx]
    exact rest b4 ot0 hb4 hM0
theorem sp_law_k52 : Sp_law_k52 := by
  rintro _ Qd ⟨ns, rfl, hl, h⟩
  (refine ⟨rfl, ?_⟩; unfold rd_law_k52)
  fold_at go_law_k52
  rw [List.length_map, rng_up]
  have hm : ∀ m : Int, m = (if (if 3 < (ns.length : Int) then 3 else (ns.length : Int)) > 2 then if 3 < (ns.length : Int) then 3 else (ns.length : Int) else 2) → 0 ≤ m ∧ m ≤ 3 := fun m e => by
    rw [e]; split <;> split <;> omega
  obtain ⟨m0, m1⟩ := hm _ rfl
  refine for_all _ (fun i K hi hK => ?_) ?_
  · have := upI_mem hi
    fold_at go_law_k52
    intro b hb
    fold_at go_law_k52
    intro b1 hb1
    fold_at go_law_k52
    intro b2 hb2
    fold_at go_law_k52
    intro b3 hb3
    fold_at go_law_k52
    intro b4 hb4
    fold_at go_law_k52
    intro b5 hb5
    fold_at go_law_k52
  · fold_at go_law_k52

set_option maxRecDepth 100000
set_option maxHeartbeats 4000000

open PySem PySem.Spec L2 LamX DL
def top (i : Nat) : Stmt := PySem.Challenge.pw_laneswaps_k52_whole_alike_beside_nets.main.body.getD i (.Pass ⟨0, 0, 0, 0⟩)
abbrev st_is_whole : Stmt := top 6
theorem sc_is_whole : FnScope ["value"] ["value"] (defScope st_is_whole) := ⟨rfl, rfl, rfl, by decide +kernel, rfl, by decide +kernel, by decide +kernel⟩
theorem bf_is_whole : BindF "is_whole" st_is_whole ["value"] := fun _ _ _ _ _ _ us hl => match us, hl with | [_], _ => rfl
abbrev st_is_between : Stmt := top 7
theorem sc_is_between : FnScope ["value", "least", "most"] ["value", "least", "most"] (defScope st_is_between) := ⟨rfl, rfl, rfl, by decide +kernel, rfl, by decide +kernel, by decide +kernel⟩
theorem bf_is_between : BindF "is_between" st_is_between ["value", "least", "most"] := fun _ _ _ _ _ _ us hl => match us, hl with | [_, _, _], _ => rfl
abbrev st_is_tuple_of : Stmt := top 8
theorem sc_is_tuple_of : FnScope ["value", "many"] ["value", "many"] (defScope st_is_tuple_of) := ⟨rfl, rfl, rfl, by decide +kernel, rfl, by decide +kernel, by decide +kernel⟩
theorem bf_is_tuple_of : BindF "is_tuple_of" st_is_tuple_of ["value", "many"] := fun _ _ _ _ _ _ us hl => match us, hl with | [_, _], _ => rfl
abbrev st_first_wrong : Stmt := top 9
theorem sc_first_wrong : FnScope ["value", "is_right", "index", "each"] ["value", "is_right"] (defScope st_first_wrong) := ⟨rfl, rfl, rfl, by decide +kernel, rfl, by decide +kernel, by decide +kernel⟩
theorem bf_first_wrong : BindF "first_wrong" st_first_wrong ["value", "is_right"] := fun _ _ _ _ _ _ us hl => match us, hl with | [_, _], _ => rfl
abbrev st_is_some_row : Stmt := top 15
theorem sc_is_some_row : FnScope ["value", "least", "most"] ["value", "least", "most"] (defScope st_is_some_row) := ⟨rfl, rfl, rfl, by decide +kernel, rfl, by decide +kernel, by decide +kernel⟩
theorem bf_is_some_row : BindF "is_some_row" st_is_some_row ["value", "least", "most"] := fun _ _ _ _ _ _ us hl => match us, hl with | [_, _, _], _ => rfl
abbrev st_is_lanes : Stmt := top 16
theorem sc_is_lanes : FnScope ["value"] ["value"] (defScope st_is_lanes) := ⟨rfl, rfl, rfl, by decide +kernel, rfl, by decide +kernel, by decide +kernel⟩
theorem bf_is_lanes : BindF "is_lanes" st_is_lanes ["value"] := fun _ _ _ _ _ _ us hl => match us, hl with | [_], _ => rfl
abbrev st_is_lane : Stmt := top 17
theorem sc_is_lane : FnScope ["lanes", "value"] ["lanes", "value"] (defScope st_is_lane) := ⟨rfl, rfl, rfl, by decide +kernel, rfl, by decide +kernel, by decide +kernel⟩
theorem bf_is_lane : BindF "is_lane" st_is_lane ["lanes", "value"] := fun _ _ _ _ _ _ us hl => match us, hl with | [_, _], _ => rfl
abbrev st_is_step : Stmt := top 18
theorem sc_is_step : FnScope ["lanes", "value", "lane"] ["lanes", "value"] (defScope st_is_step) := ⟨rfl, rfl, rfl, by decide +kernel, rfl, by decide +kernel, by decide +kernel⟩
theorem bf_is_step : BindF "is_step" st_is_step ["lanes", "value"] := fun _ _ _ _ _ _ us hl => match us, hl with | [_, _], _ => rfl
abbrev st_wrong_step : Stmt := top 19
theorem sc_wrong_step : FnScope ["lanes", "value", "step", "ahead"] ["lanes", "value"] (defScope st_wrong_step) := ⟨rfl, rfl, rfl, by decide +kernel, rfl, by decide +kernel, by decide +kernel⟩
theorem bf_wrong_step : BindF "wrong_step" st_wrong_step ["lanes", "value"] := fun _ _ _ _ _ _ us hl => match us, hl with | [_, _], _ => rfl
abbrev st_nets_is_row : Stmt := top 20
theorem sc_nets_is_row : FnScope ["lanes", "value", "number"] ["lanes", "value"] (defScope st_nets_is_row) := ⟨rfl, rfl, rfl, by decide +kernel, rfl, by decide +kernel, by decide +kernel⟩
theorem bf_nets_is_row : BindF "is_row" st_nets_is_row ["lanes", "value"] := fun _ _ _ _ _ _ us hl => match us, hl with | [_, _], _ => rfl
abbrev st_check_lanes : Stmt := top 21
theorem sc_check_lanes : FnScope ["lanes"] ["lanes"] (defScope st_check_lanes) := ⟨rfl, rfl, rfl, by decide +kernel, rfl, by decide +kernel, by decide +kernel⟩
theorem bf_check_lanes : BindF "check_lanes" st_check_lanes ["lanes"] := fun _ _ _ _ _ _ us hl => match us, hl with | [_], _ => rfl
abbrev st_check_steps : Stmt := top 22
theorem sc_check_steps : FnScope ["lanes", "steps", "wrong"] ["lanes", "steps"] (defScope st_check_steps) := ⟨rfl, rfl, rfl, by decide +kernel, rfl, by decide +kernel, by decide +kernel⟩
theorem bf_check_steps : BindF "check_steps" st_check_steps ["lanes", "steps"] := fun _ _ _ _ _ _ us hl => match us, hl with | [_, _], _ => rfl
abbrev st_check_net : Stmt := top 23
theorem sc_check_net : FnScope ["lanes", "steps"] ["lanes", "steps"] (defScope st_check_net) := ⟨rfl, rfl, rfl, by decide +kernel, rfl, by decide +kernel, by decide +kernel⟩
theorem bf_check_net : BindF "check_net" st_check_net ["lanes", "steps"] := fun _ _ _ _ _ _ us hl => match us, hl with | [_, _], _ => rfl
abbrev st_check_row : Stmt := top 24
theorem sc_check_row : FnScope ["lanes", "row"] ["lanes", "row"] (defScope st_check_row) := ⟨rfl, rfl, rfl, by decide +kernel, rfl, by decide +kernel, by decide +kernel⟩
theorem bf_check_row : BindF "check_row" st_check_row ["lanes", "row"] := fun _ _ _ _ _ _ us hl => match us, hl with | [_, _], _ => rfl
abbrev st_end_by : Stmt := top 25
theorem sc_end_by : FnScope ["steps", "row", "found", "one", "other"] ["steps", "row"] (defScope st_end_by) := ⟨rfl, rfl, rfl, by decide +kernel, rfl, by decide +kernel, by decide +kernel⟩
theorem bf_end_by : BindF "end_by" st_end_by ["steps", "row"] := fun _ _ _ _ _ _ us hl => match us, hl with | [_, _], _ => rfl
abbrev st_is_sorted_by : Stmt := top 26
theorem sc_is_sorted_by : FnScope ["row", "one", "other"] ["row"] (defScope st_is_sorted_by) := ⟨rfl, rfl, rfl, by decide +kernel, rfl, by decide +kernel, by decide +kernel⟩
theorem bf_is_sorted_by : BindF "is_sorted_by" st_is_sorted_by ["row"] := fun _ _ _ _ _ _ us hl => match us, hl with | [_], _ => rfl
abbrev st_all_marks : Stmt := top 27
theorem sc_all_marks : FnScope ["lanes", "found", "lane", "row", "mark"] ["lanes"] (defScope st_all_marks) := ⟨rfl, rfl, rfl, by decide +kernel, rfl, by decide +kernel, by decide +kernel⟩
theorem bf_all_marks : BindF "all_marks" st_all_marks ["lanes"] := fun _ _ _ _ _ _ us hl => match us, hl with | [_], _ => rfl
abbrev st_nets_gainsay_by : Stmt := top 28
theorem sc_nets_gainsay_by : FnScope ["lanes", "steps", "row"] ["lanes", "steps"] (defScope st_nets_gainsay_by) := ⟨rfl, rfl, rfl, by decide +kernel, rfl, by decide +kernel, by decide +kernel⟩
theorem bf_nets_gainsay_by : BindF "gainsay_by" st_nets_gainsay_by ["lanes", "steps"] := fun _ _ _ _ _ _ us hl => match us, hl with | [_, _], _ => rfl
abbrev st_sorts_by : Stmt := top 29
theorem sc_sorts_by : FnScope ["lanes", "steps"] ["lanes", "steps"] (defScope st_sorts_by) := ⟨rfl, rfl, rfl, by decide +kernel, rfl, by decide +kernel, by decide +kernel⟩
theorem bf_sorts_by : BindF "sorts_by" st_sorts_by ["lanes", "steps"] := fun _ _ _ _ _ _ us hl => match us, hl with | [_, _], _ => rfl
abbrev st_ends_by : Stmt := top 30
theorem sc_ends_by : FnScope ["lanes", "steps", "row"] ["lanes", "steps"] (defScope st_ends_by) := ⟨rfl, rfl, rfl, by decide +kernel, rfl, by decide +kernel, by decide +kernel⟩
theorem bf_ends_by : BindF "ends_by" st_ends_by ["lanes", "steps"] := fun _ _ _ _ _ _ us hl => match us, hl with | [_, _], _ => rfl
abbrev st_end : Stmt := top 31
theorem sc_end : FnScope ["lanes", "steps", "row"] ["lanes", "steps", "row"] (defScope st_end) := ⟨rfl, rfl, rfl, by decide +kernel, rfl, by decide +kernel, by decide +kernel⟩
theorem bf_end : BindF "end" st_end ["lanes", "steps", "row"] := fun _ _ _ _ _ _ us hl => match us, hl with | [_, _, _], _ => rfl
abbrev st_sorts : Stmt := top 32
theorem sc_sorts : FnScope ["lanes", "steps"] ["lanes", "steps"] (defScope st_sorts) := ⟨rfl, rfl, rfl, by decide +kernel, rfl, by decide +kernel, by decide +kernel⟩
theorem bf_sorts : BindF "sorts" st_sorts ["lanes", "steps"] := fun _ _ _ _ _ _ us hl => match us, hl with | [_, _], _ => rfl
abbrev st_ends : Stmt := top 33
theorem sc_ends : FnScope ["lanes", "steps"] ["lanes", "steps"] (defScope st_ends) := ⟨rfl, rfl, rfl, by decide +kernel, rfl, by decide +kernel, by decide +kernel⟩
theorem bf_ends : BindF "ends" st_ends ["lanes", "steps"] := fun _ _ _ _ _ _ us hl => match us, hl with | [_, _], _ => rfl
abbrev st_alike_parting_by : Stmt := top 35
theorem sc_alike_parting_by : FnScope ["lanes", "steps", "other", "row"] ["lanes", "steps", "other"] (defScope st_alike_parting_by) := ⟨rfl, rfl, rfl, by decide +kernel, rfl, by decide +kernel, by decide +kernel⟩
theorem bf_alike_parting_by : BindF "parting_by" st_alike_parting_by ["lanes", "steps", "other"] := fun _ _ _ _ _ _ us hl => match us, hl with | [_, _, _], _ => rfl
abbrev st_further_by : Stmt := top 36
theorem sc_further_by : FnScope ["lanes", "steps", "other", "beside", "found", "row"] ["lanes", "steps", "other"] (defScope st_further_by) := ⟨rfl, rfl, rfl, by decide +kernel, rfl, by decide +kernel, by decide +kernel⟩
theorem bf_further_by : BindF "further_by" st_further_by ["lanes", "steps", "other"] := fun _ _ _ _ _ _ us hl => match us, hl with | [_, _, _], _ => rfl
abbrev st_check_two : Stmt := top 37
theorem sc_check_two : FnScope ["lanes", "steps", "other"] ["lanes", "steps", "other"] (defScope st_check_two) := ⟨rfl, rfl, rfl, by decide +kernel, rfl, by decide +kernel, by decide +kernel⟩
theorem bf_check_two : BindF "check_two" st_check_two ["lanes", "steps", "other"] := fun _ _ _ _ _ _ us hl => match us, hl with | [_, _, _], _ => rfl
abbrev st_are_alike : Stmt := top 38
theorem sc_are_alike : FnScope ["lanes", "steps", "other"] ["lanes", "steps", "other"] (defScope st_are_alike) := ⟨rfl, rfl, rfl, by decide +kernel, rfl, by decide +kernel, by decide +kernel⟩
theorem bf_are_alike : BindF "are_alike" st_are_alike ["lanes", "steps", "other"] := fun _ _ _ _ _ _ us hl => match us, hl with | [_, _, _], _ => rfl
abbrev st_parting : Stmt := top 39
theorem sc_parting : FnScope ["lanes", "steps", "other"] ["lanes", "steps", "other"] (defScope st_parting) := ⟨rfl, rfl, rfl, by decide +kernel, rfl, by decide +kernel, by decide +kernel⟩
theorem bf_parting : BindF "parting" st_parting ["lanes", "steps", "other"] := fun _ _ _ _ _ _ us hl => match us, hl with | [_, _, _], _ => rfl
abbrev st_is_narrower : Stmt := top 40
theorem sc_is_narrower : FnScope ["lanes", "steps", "other"] ["lanes", "steps", "other"] (defScope st_is_narrower) := ⟨rfl, rfl, rfl, by decide +kernel, rfl, by decide +kernel, by decide +kernel⟩
theorem bf_is_narrower : BindF "is_narrower" st_is_narrower ["lanes", "steps", "other"] := fun _ _ _ _ _ _ us hl => match us, hl with | [_, _, _], _ => rfl
abbrev st__law_pool_k40 : Stmt := top 42
theorem sc__law_pool_k40 : FnScope ["script", "k", "cell", "mixed", "wide", "each"] ["script", "k"] (defScope st__law_pool_k40) := ⟨rfl, rfl, rfl, by decide +kernel, rfl, by decide +kernel, by decide +kernel⟩
theorem bf__law_pool_k40 : BindF "_law_pool" st__law_pool_k40 ["script", "k"] := fun _ _ _ _ _ _ us hl => match us, hl with | [_, _], _ => rfl
abbrev st__law_take_k40 : Stmt := top 43
theorem sc__law_take_k40 : FnScope ["pool", "many", "digit", "stirred"] ["pool", "many"] (defScope st__law_take_k40) := ⟨rfl, rfl, rfl, by decide +kernel, rfl, by decide +kernel, by decide +kernel⟩
theorem bf__law_take_k40 : BindF "_law_take" st__law_take_k40 ["pool", "many"] := fun _ _ _ _ _ _ us hl => match us, hl with | [_, _], _ => rfl
abbrev st__law_of_k40 : Stmt := top 44
theorem sc__law_of_k40 : FnScope ["pool", "some"] ["pool", "some"] (defScope st__law_of_k40) := ⟨rfl, rfl, rfl, by decide +kernel, rfl, by decide +kernel, by decide +kernel⟩
theorem bf__law_of_k40 : BindF "_law_of" st__law_of_k40 ["pool", "some"] := fun _ _ _ _ _ _ us hl => match us, hl with | [_, _], _ => rfl
abbrev st__law_pairs_of_k40 : Stmt := top 45
theorem sc__law_pairs_of_k40 : FnScope ["lanes", "found", "low", "high"] ["lanes"] (defScope st__law_pairs_of_k40) := ⟨rfl, rfl, rfl, by decide +kernel, rfl, by decide +kernel, by decide +kernel⟩
theorem bf__law_pairs_of_k40 : BindF "_law_pairs_of" st__law_pairs_of_k40 ["lanes"] := fun _ _ _ _ _ _ us hl => match us, hl with | [_], _ => rfl
abbrev st__law_net_k40 : Stmt := top 46
theorem sc__law_net_k40 : FnScope ["pool", "lanes", "most", "some", "found", "last", "lane", "turn", "k"] ["pool", "lanes", "most"] (defScope st__law_net_k40) := ⟨rfl, rfl, rfl, by decide +kernel, rfl, by decide +kernel, by decide +kernel⟩
theorem bf__law_net_k40 : BindF "_law_net" st__law_net_k40 ["pool", "lanes", "most"] := fun _ _ _ _ _ _ us hl => match us, hl with | [_, _, _], _ => rfl
abbrev st__law_right_k52 : Stmt := top 47
theorem sc__law_right_k52 : FnScope ["pool", "lanes", "one", "other", "more", "so", "row", "lane", "first", "narrow", "each", "both"] ["pool", "lanes"] (defScope st__law_right_k52) := ⟨rfl, rfl, rfl, by decide +kernel, rfl, by decide +kernel, by decide +kernel⟩
theorem bf__law_right_k52 : BindF "_law_right" st__law_right_k52 ["pool", "lanes"] := fun _ _ _ _ _ _ us hl => match us, hl with | [_, _], _ => rfl
abbrev st_law_k52 : Stmt := top 48
theorem sc_law_k52 : FnScope ["script", "k", "pool", "most"] ["script"] (defScope st_law_k52) := ⟨rfl, rfl, rfl, by decide +kernel, rfl, by decide +kernel, by decide +kernel⟩
theorem bf_law_k52 : BindF "law" st_law_k52 ["script"] := fun _ _ _ _ _ _ us hl => match us, hl with | [_], _ => rfl
section
variable {P : Program} {w : World} {K : PySem.W.Frag} {mg : Str → Option Value} {base : Heap} {T : Tb}
theorem has_is_whole (Df : Def K mg "is_whole" "is_whole" st_is_whole) (hz : ∀ x ∈ (["bool", "int", "isinstance"] : List Str), mg x = none) : Has P w K mg base T 1 "is_whole" "is_whole" st_is_whole ["value"] g_is_whole := by
  have hN := sc_is_whole.nd
  refine has_def (wb := rd_is_whole) Df sc_is_whole (by decide) (fun f cdv A outer s H E hr hG => ?_) sp_is_whole
  unfold rd_is_whole
  exact (ss_one (s_ret (d_and (d_isi (t := "int") (hz "isinstance" (by decide)) (hz "int" (by decide)) (d_var 0)) (d_one (d_not (d_isi (t := "bool") (hz "isinstance" (by decide)) (hz "bool" (by decide)) (d_var 0)))))))
theorem has_is_between (Df : Def K mg "is_between" "is_between" st_is_between) (h_is_whole : Has P w K mg base T 1 "is_whole" "is_whole" st_is_whole ["value"] g_is_whole) (hz : ∀ x ∈ ([] : List Str), mg x = none) : Has P w K mg base T 2 "is_between" "is_between" st_is_between ["value", "least", "most"] g_is_between := by
  have hN := sc_is_between.nd
  refine has_def (wb := rd_is_between) Df sc_is_between (by decide) (fun f cdv A outer s H E hr hG => ?_) sp_is_between
  unfold rd_is_between
  exact (ss_one (s_ret (d_and (d_callH (ms := [false]) h_is_whole bf_is_whole hr hG (da_cons (d_var 0) da_nil)) (d_one (d_chain (p := fun i j => decide (i ≤ j)) (q := fun i j => decide (i ≤ j)) op_le op_le (d_var 1) (d_var 0) (d_var 2))))))
theorem has_is_tuple_of (Df : Def K mg "is_tuple_of" "is_tuple_of" st_is_tuple_of) (hz : ∀ x ∈ (["isinstance", "len", "tuple"] : List Str), mg x = none) : Has P w K mg base T 1 "is_tuple_of" "is_tuple_of" st_is_tuple_of ["value", "many"] g_is_tuple_of := by
  have hN := sc_is_tuple_of.nd
  refine has_def (wb := rd_is_tuple_of) Df sc_is_tuple_of (by decide) (fun f cdv A outer s H E hr hG => ?_) sp_is_tuple_of
  unfold rd_is_tuple_of
  exact (ss_one (s_ret (d_and (d_isi (t := "tuple") (hz "isinstance" (by decide)) (hz "tuple" (by decide)) (d_var 0)) (d_one (d_cmp (op_eqA (rm64 hr)) eq_op (d_callB call_lenAll len_op (hz "len" (by decide)) (by decide +kernel) (da_cons (d_var 0) da_nil)) (d_var 1))))))
theorem lder_first_wrong {T : Tb} {X : Cx} {g : Addr} {cdv : Value} {s : Shared} {H : Hp} {fd : D} {L : LD} (hz : ∀ x ∈ (["enumerate"] : List Str), X.mg x = none) (act : ActOk (gotCx X ["value", "is_right", "index", "each"] "first_wrong" (defScope st_first_wrong) g cdv s H) T 1 "is_right" fd L) : PSs (gotCx X ["value", "is_right", "index", "each"] "first_wrong" (defScope st_first_wrong) g cdv s H) (defBody st_first_wrong) (tS X.K T (rg_first_wrong fd L)) := by
  have hN := sc_first_wrong.nd
  unfold rg_first_wrong
  exact (ss_cons (s_for PassesOwn.never rfl (i_clr (vs := [2, 3]) (i_enum (hz "enumerate" (by decide)) (da_cons (d_var 0) da_nil))) (g_tup (n := 2) rfl (g_cons (g_name (i := 2) hN rfl) (g_cons (g_name (i := 3) hN rfl) g_nil))) (s_end (vs := [2, 3]) (wb := (fb_first_wrong_1 fd L)) (ss_one (s_if (t_not (t_tru (d_actC act (da_cons (d_var 3) (da_cons (d_sl (d_var 0) o_none (o_some (d_var 2))) da_nil))))) (ss_one (s_ret (d_var 2))) ss_nil))))
    (ss_one (s_ret d_non)))
theorem has_is_some_row (Df : Def K mg "is_some_row" "is_some_row" st_is_some_row) (hz : ∀ x ∈ (["isinstance", "len", "tuple"] : List Str), mg x = none) : Has P w K mg base T 1 "is_some_row" "is_some_row" st_is_some_row ["value", "least", "most"] g_is_some_row := by
  have hN := sc_is_some_row.nd
  refine has_def (wb := rd_is_some_row) Df sc_is_some_row (by decide) (fun f cdv A outer s H E hr hG => ?_) sp_is_some_row
  unfold rd_is_some_row
  exact (ss_one (s_ret (d_and (d_isi (t := "tuple") (hz "isinstance" (by decide)) (hz "tuple" (by decide)) (d_var 0)) (d_one (d_chain (p := fun i j => decide (i ≤ j)) (q := fun i j => decide (i ≤ j)) op_le op_le (d_var 1) (d_callB call_lenAll len_op (hz "len" (by decide)) (by decide +kernel) (da_cons (d_var 0) da_nil)) (d_var 2))))))
theorem has_is_lanes (Df : Def K mg "is_lanes" "is_lanes" st_is_lanes) (h_is_between : Has P w K mg base T 2 "is_between" "is_between" st_is_between ["value", "least", "most"] g_is_between) (hc_FEWEST_LANES : ∃ t, mg "FEWEST_LANES" = some (.int 2 t)) (hc_MOST_LANES : ∃ t, mg "MOST_LANES" = some (.int 6 t)) (hz : ∀ x ∈ ([] : List Str), mg x = none) : Has P w K mg base T 3 "is_lanes" "is_lanes" st_is_lanes ["value"] g_is_lanes := by
  have hN := sc_is_lanes.nd
  refine has_def (wb := rd_is_lanes) Df sc_is_lanes (by decide) (fun f cdv A outer s H E hr hG => ?_) sp_is_lanes
  unfold rd_is_lanes
  exact (ss_one (s_ret (d_callH (ms := [false, false, false]) h_is_between bf_is_between hr hG (da_cons (d_var 0) (da_cons (d_gi hc_FEWEST_LANES) (da_cons (d_gi hc_MOST_LANES) da_nil))))))
theorem has_is_lane (Df : Def K mg "is_lane" "is_lane" st_is_lane) (h_is_between : Has P w K mg base T 2 "is_between" "is_between" st_is_between ["value", "least", "most"] g_is_between) (hz : ∀ x ∈ ([] : List Str), mg x = none) : Has P w K mg base T 3 "is_lane" "is_lane" st_is_lane ["lanes", "value"] g_is_lane := by
  have hN := sc_is_lane.nd
  refine has_def (wb := rd_is_lane) Df sc_is_lane (by decide) (fun f cdv A outer s H E hr hG => ?_) sp_is_lane
  unfold rd_is_lane
  exact (ss_one (s_ret (d_callH (ms := [false, false, false]) h_is_between bf_is_between hr hG (da_cons (d_var 1) (da_cons d_int (da_cons (d_sub (d_var 0) d_int) da_nil))))))
theorem has_is_step (Df : Def K mg "is_step" "is_step" st_is_step) (h_is_lane : Has P w K mg base T 3 "is_lane" "is_lane" st_is_lane ["lanes", "value"] g_is_lane) (h_is_tuple_of : Has P w K mg base T 1 "is_tuple_of" "is_tuple_of" st_is_tuple_of ["value", "many"] g_is_tuple_of) (hz : ∀ x ∈ (["all"] : List Str), mg x = none) : Has P w K mg base T 4 "is_step" "is_step" st_is_step ["lanes", "value"] g_is_step := by
  have hN := sc_is_step.nd
  refine has_def (wb := rd_is_step) Df sc_is_step (by decide) (fun f cdv A outer s H E hr hG => ?_) sp_is_step
  unfold rd_is_step
  exact (ss_one (s_ret (d_and (d_callH (ms := [false, false]) h_is_tuple_of bf_is_tuple_of hr hG (da_cons (d_var 1) (da_cons d_int da_nil))) (d_and (d_callB (cr_all rfl) all_op (hz "all" (by decide)) (by decide +kernel) (da_cons (d_lc (own := [("lane", 2)]) (te := ce_is_step_1) (tt := cf_is_step_1) rfl hN (i_seq (d_var 1)) (blkOk_by (N := ["lanes", "value", "lane"]) (sc := defScope st_is_step) (by decide +kernel)) (fun _ _ _ _ _ => (g_name (i := 2) hN rfl)) (fun _ _ _ _ _ => ts_nil) (fun _ _ _ _ _ => (d_callH (ms := [false, false]) h_is_lane bf_is_lane hr hG (da_cons (d_var 0) (da_cons (d_var 2) da_nil))))) da_nil)) (d_one (d_cmp (op_ltA (rm64 hr)) cmp_opA (d_ix (d_var 1) d_int (fun _ _ => rfl)) (d_ix (d_var 1) d_int (fun _ _ => rfl))))))))
theorem has_wrong_step (Df : Def K mg "wrong_step" "wrong_step" st_wrong_step) (D_first_wrong : Def K mg "first_wrong" "first_wrong" st_first_wrong) (tab : ∀ (f : Addr) (fd : FuncData), mg "wrong_step" = some (.ref f) → Fun K "wrong_step" "wrong_step" st_wrong_step f fd → ∃ c P, fd.code = .ref c ∧ TabB base mg c P ∧ (P, ("wrong_step" ++ ".<locals>." ++ "<lambda>" : Str)) ∈ T ∧ ∀ p ∈ T, p.1 = P → p.2 = ("wrong_step" ++ ".<locals>." ++ "<lambda>" : Str)) (h_is_step : Has P w K mg base T 4 "is_step" "is_step" st_is_step ["lanes", "value"] g_is_step) (hz : ∀ x ∈ (["enumerate"] : List Str), mg x = none) : Has P w K mg base T 7 "wrong_step" "wrong_step" st_wrong_step ["lanes", "value"] g_wrong_step := by
  have hN := sc_wrong_step.nd
  obtain ⟨g, fdg, hm_first_wrong, F_first_wrong⟩ := D_first_wrong.ex
  refine has_lam (wb := rd_wrong_step) Df sc_wrong_step (by decide) (fun f fd hmf F A outer s H E hr hG => ?_) sp_wrong_step
  obtain ⟨c, P, hcode, tab, mem, one⟩ := tab f fd hmf F
  unfold rd_wrong_step
  exact (ss_one (s_ret (d_fl (Ng := ["value", "is_right", "index", "each"]) (i := 2) (j := 3) (k := 4) (wb := lb_wrong_step_1) (wg := rg_first_wrong) (fun cdv s H fd L hr hG act => lder_first_wrong (fun x h => hz x (by revert x h; decide)) act) F_first_wrong (binds_of F_first_wrong bf_first_wrong) sc_first_wrong (by decide) rfl (Or.inl rfl) hm_first_wrong tab hcode mem one hr hG (fun A outer s H E f c hr hG => (d_callH (ms := [false, false]) h_is_step bf_is_step hr hG (da_cons (d_var 0) (da_cons (d_var 2) da_nil)))) (d_var 1) (lamP_by (sc := defScope st_wrong_step) (by decide +kernel)) rfl rfl sc_wrong_step.nd)))
theorem has_nets_is_row (Df : Def K mg "is_row" "is_row" st_nets_is_row) (h_is_between : Has P w K mg base T 2 "is_between" "is_between" st_is_between ["value", "least", "most"] g_is_between) (h_is_tuple_of : Has P w K mg base T 1 "is_tuple_of" "is_tuple_of" st_is_tuple_of ["value", "many"] g_is_tuple_of) (hc_MOST_NUMBER : ∃ t, mg "MOST_NUMBER" = some (.int 99 t)) (hz : ∀ x ∈ (["all"] : List Str), mg x = none) : Has P w K mg base T 3 "is_row" "is_row" st_nets_is_row ["lanes", "value"] g_nets_is_row := by
  have hN := sc_nets_is_row.nd
  refine has_def (wb := rd_nets_is_row) Df sc_nets_is_row (by decide) (fun f cdv A outer s H E hr hG => ?_) sp_nets_is_row
  unfold rd_nets_is_row
  exact (ss_one (s_ret (d_and (d_callH (ms := [false, false]) h_is_tuple_of bf_is_tuple_of hr hG (da_cons (d_var 1) (da_cons (d_var 0) da_nil))) (d_one (d_callB (cr_all rfl) all_op (hz "all" (by decide)) (by decide +kernel) (da_cons (d_lc (own := [("number", 2)]) (te := ce_nets_is_row_1) (tt := cf_nets_is_row_1) rfl hN (i_seq (d_var 1)) (blkOk_by (N := ["lanes", "value", "number"]) (sc := defScope st_nets_is_row) (by decide +kernel)) (fun _ _ _ _ _ => (g_name (i := 2) hN rfl)) (fun _ _ _ _ _ => ts_nil) (fun _ _ _ _ _ => (d_callH (ms := [false, false, false]) h_is_between bf_is_between hr hG (da_cons (d_var 2) (da_cons d_int (da_cons (d_gi hc_MOST_NUMBER) da_nil)))))) da_nil))))))
theorem has_check_lanes (Df : Def K mg "check_lanes" "check_lanes" st_check_lanes) (h_is_lanes : Has P w K mg base T 3 "is_lanes" "is_lanes" st_is_lanes ["value"] g_is_lanes) (hz : ∀ x ∈ ([] : List Str), mg x = none) : Has P w K mg base T 4 "check_lanes" "check_lanes" st_check_lanes ["lanes"] g_check_lanes := by
  have hN := sc_check_lanes.nd
  refine has_def (wb := rd_check_lanes) Df sc_check_lanes (by decide) (fun f cdv A outer s H E hr hG => ?_) sp_check_lanes
  unfold rd_check_lanes
  exact (ss_one (s_if (t_not (t_tru (d_callH (ms := [false]) h_is_lanes bf_is_lanes hr hG (da_cons (d_var 0) da_nil)))) ss_never ss_nil))
theorem has_check_steps (Df : Def K mg "check_steps" "check_steps" st_check_steps) (h_is_some_row : Has P w K mg base T 1 "is_some_row" "is_some_row" st_is_some_row ["value", "least", "most"] g_is_some_row) (h_wrong_step : Has P w K mg base T 7 "wrong_step" "wrong_step" st_wrong_step ["lanes", "value"] g_wrong_step) (hc_MOST_STEPS : ∃ t, mg "MOST_STEPS" = some (.int 24 t)) (hz : ∀ x ∈ ([] : List Str), mg x = none) : Has P w K mg base T 8 "check_steps" "check_steps" st_check_steps ["lanes", "steps"] g_check_steps := by
  have hN := sc_check_steps.nd
  refine has_def (wb := rd_check_steps) Df sc_check_steps (by decide) (fun f cdv A outer s H E hr hG => ?_) sp_check_steps
  unfold rd_check_steps
  exact (ss_cons (s_if (t_not (t_tru (d_callH (ms := [false, false, false]) h_is_some_row bf_is_some_row hr hG (da_cons (d_var 1) (da_cons d_int (da_cons (d_gi hc_MOST_STEPS) da_nil)))))) ss_never ss_nil)
    (ss_cons (s_asg (d_callH (ms := [false, false]) h_wrong_step bf_wrong_step hr hG (da_cons (d_var 0) (da_cons (d_var 1) da_nil))) (g_name (i := 2) hN rfl))
    (ss_one (s_if (t_cmp op_isNAll isN_op (d_var 2) d_non) ss_never ss_nil))))
theorem has_check_net (Df : Def K mg "check_net" "check_net" st_check_net) (h_check_lanes : Has P w K mg base T 4 "check_lanes" "check_lanes" st_check_lanes ["lanes"] g_check_lanes) (h_check_steps : Has P w K mg base T 8 "check_steps" "check_steps" st_check_steps ["lanes", "steps"] g_check_steps) (hz : ∀ x ∈ ([] : List Str), mg x = none) : Has P w K mg base T 9 "check_net" "check_net" st_check_net ["lanes", "steps"] g_check_net := by
  have hN := sc_check_net.nd
  refine has_def (wb := rd_check_net) Df sc_check_net (by decide) (fun f cdv A outer s H E hr hG => ?_) sp_check_net
  unfold rd_check_net
  exact (ss_cons (s_expr (d_callH (ms := [false]) h_check_lanes bf_check_lanes hr hG (da_cons (d_var 0) da_nil)))
    (ss_one (s_expr (d_callH (ms := [false, false]) h_check_steps bf_check_steps hr hG (da_cons (d_var 0) (da_cons (d_var 1) da_nil))))))
theorem has_check_row (Df : Def K mg "check_row" "check_row" st_check_row) (h_nets_is_row : Has P w K mg base T 3 "is_row" "is_row" st_nets_is_row ["lanes", "value"] g_nets_is_row) (hz : ∀ x ∈ ([] : List Str), mg x = none) : Has P w K mg base T 4 "check_row" "check_row" st_check_row ["lanes", "row"] g_check_row := by
  have hN := sc_check_row.nd
  refine has_def (wb := rd_check_row) Df sc_check_row (by decide) (fun f cdv A outer s H E hr hG => ?_) sp_check_row
  unfold rd_check_row
  exact (ss_one (s_if (t_not (t_tru (d_callH (ms := [false, false]) h_nets_is_row bf_nets_is_row hr hG (da_cons (d_var 0) (da_cons (d_var 1) da_nil))))) ss_never ss_nil))
theorem has_end_by (Df : Def K mg "end_by" "end_by" st_end_by) (hz : ∀ x ∈ (["list", "tuple"] : List Str), mg x = none) : Has P w K mg base T 1 "end_by" "end_by" st_end_by ["steps", "row"] g_end_by := by
  have hN := sc_end_by.nd
  refine has_def (wb := rd_end_by) Df sc_end_by (by decide) (fun f cdv A outer s H E hr hG => ?_) sp_end_by
  unfold rd_end_by
  exact (ss_cons (s_set (i := 2) hN (d_callTy call_list_of list_op (hz "list" (by decide)) (by decide +kernel) (da_cons (d_var 1) da_nil)))
    (ss_cons (s_for PassesOwn.never rfl (i_clr (vs := [3, 4]) (i_seq (d_var 0))) (g_tup (n := 2) rfl (g_cons (g_name (i := 3) hN rfl) (g_cons (g_name (i := 4) hN rfl) g_nil))) (s_end (vs := [3, 4]) (wb := fb_end_by_1) (ss_one (s_if (t_cmp (op_gtA (rm64 hr)) cmp_opA (d_ix (d_var 2) (d_var 3) (fun _ _ => rfl)) (d_ix (d_var 2) (d_var 4) (fun _ _ => rfl))) (ss_one (s_asg (d_tup (da_cons (d_ix (d_var 2) (d_var 4) (fun _ _ => rfl)) (da_cons (d_ix (d_var 2) (d_var 3) (fun _ _ => rfl)) da_nil))) (g_tup (n := 2) rfl (g_cons (g_sub (x := 2) (d_var 3) rfl) (g_cons (g_sub (x := 2) (d_var 4) rfl) g_nil))))) ss_nil))))
    (ss_one (s_ret (d_callTy call_tupO tuple_op (hz "tuple" (by decide)) (by decide +kernel) (da_cons (d_var 2) da_nil))))))
theorem has_is_sorted_by (Df : Def K mg "is_sorted_by" "is_sorted_by" st_is_sorted_by) (hz : ∀ x ∈ (["all", "zip"] : List Str), mg x = none) : Has P w K mg base T 1 "is_sorted_by" "is_sorted_by" st_is_sorted_by ["row"] g_is_sorted_by := by
  have hN := sc_is_sorted_by.nd
  refine has_def (wb := rd_is_sorted_by) Df sc_is_sorted_by (by decide) (fun f cdv A outer s H E hr hG => ?_) sp_is_sorted_by
  unfold rd_is_sorted_by
  exact (ss_one (s_ret (d_callB (cr_all rfl) all_op (hz "all" (by decide)) (by decide +kernel) (da_cons (d_lc (own := [("one", 1), ("other", 2)]) (te := ce_is_sorted_by_1) (tt := cf_is_sorted_by_1) rfl hN (i_zip (hz "zip" (by decide)) (da_cons (d_var 0) (da_cons (d_sl (d_var 0) (o_some d_int) o_none) da_nil))) (blkOk_by (N := ["row", "one", "other"]) (sc := defScope st_is_sorted_by) (by decide +kernel)) (fun _ _ _ _ _ => (g_tup (n := 2) rfl (g_cons (g_name (i := 1) hN rfl) (g_cons (g_name (i := 2) hN rfl) g_nil)))) (fun _ _ _ _ _ => ts_nil) (fun _ _ _ _ _ => (d_cmp (op_leA (rm64 hr)) cmp_opA (d_var 1) (d_var 2)))) da_nil))))
theorem has_all_marks (Df : Def K mg "all_marks" "all_marks" st_all_marks) (hz : ∀ x ∈ (["range"] : List Str), mg x = none) : Has P w K mg base T 1 "all_marks" "all_marks" st_all_marks ["lanes"] g_all_marks := by
  have hN := sc_all_marks.nd
  refine has_def (wb := rd_all_marks) Df sc_all_marks (by decide) (fun f cdv A outer s H E hr hG => ?_) sp_all_marks
  unfold rd_all_marks
  exact (ss_cons (s_set (i := 1) hN (d_lst (da_cons (d_tup da_nil) da_nil)))
    (ss_cons (s_for PassesOwn.never rfl (i_clr (vs := [2, 3, 4]) (i_rng1 (hz "range" (by decide)) (da_cons (d_var 0) da_nil))) (g_name (i := 2) hN rfl) (s_end (vs := [2, 3, 4]) (wb := fb_all_marks_1) (ss_one (s_setLc2 (i := 1) (own := [("row", 3), ("mark", 4)]) (is1 := [4]) (te := ce_all_marks_1) rfl hN (i_seq (d_var 1)) (blkOk_by (N := ["lanes", "found", "lane", "row", "mark"]) (sc := defScope st_all_marks) (by decide +kernel)) (fun _ _ _ _ _ => (g_name (i := 3) hN rfl)) (fun _ _ _ _ _ => ts_nil) (fun _ _ _ _ _ => (i_seq (d_tup (da_cons d_int (da_cons d_int da_nil))))) (fun _ _ _ _ _ => (g_name (i := 4) hN rfl)) (fun _ _ _ _ _ => ts_nil) (fun _ _ _ _ _ => (d_tup (da_star (d_var 3) (da_cons (d_var 4) da_nil))))))))
    (ss_one (s_ret (d_var 1)))))
theorem has_nets_gainsay_by (Df : Def K mg "gainsay_by" "gainsay_by" st_nets_gainsay_by) (h_all_marks : Has P w K mg base T 1 "all_marks" "all_marks" st_all_marks ["lanes"] g_all_marks) (h_end_by : Has P w K mg base T 1 "end_by" "end_by" st_end_by ["steps", "row"] g_end_by) (h_is_sorted_by : Has P w K mg base T 1 "is_sorted_by" "is_sorted_by" st_is_sorted_by ["row"] g_is_sorted_by) (hz : ∀ x ∈ ([] : List Str), mg x = none) : Has P w K mg base T 2 "gainsay_by" "gainsay_by" st_nets_gainsay_by ["lanes", "steps"] g_nets_gainsay_by := by
  have hN := sc_nets_gainsay_by.nd
  refine has_def (wb := rd_nets_gainsay_by) Df sc_nets_gainsay_by (by decide) (fun f cdv A outer s H E hr hG => ?_) sp_nets_gainsay_by
  unfold rd_nets_gainsay_by
  exact (ss_cons (s_for PassesOwn.never rfl (i_clr (vs := [2]) (i_seq (d_callH (ms := [false]) h_all_marks bf_all_marks hr hG (da_cons (d_var 0) da_nil)))) (g_name (i := 2) hN rfl) (s_end (vs := [2]) (wb := fb_nets_gainsay_by_1) (ss_one (s_if (t_not (t_tru (d_callH (ms := [false]) h_is_sorted_by bf_is_sorted_by hr hG (da_cons (d_callH (ms := [false, false]) h_end_by bf_end_by hr hG (da_cons (d_var 1) (da_cons (d_var 2) da_nil))) da_nil)))) (ss_one (s_ret (d_var 2))) ss_nil))))
    (ss_one (s_ret d_non)))
theorem has_sorts_by (Df : Def K mg "sorts_by" "sorts_by" st_sorts_by) (h_nets_gainsay_by : Has P w K mg base T 2 "gainsay_by" "gainsay_by" st_nets_gainsay_by ["lanes", "steps"] g_nets_gainsay_by) (hz : ∀ x ∈ ([] : List Str), mg x = none) : Has P w K mg base T 3 "sorts_by" "sorts_by" st_sorts_by ["lanes", "steps"] g_sorts_by := by
  have hN := sc_sorts_by.nd
  refine has_def (wb := rd_sorts_by) Df sc_sorts_by (by decide) (fun f cdv A outer s H E hr hG => ?_) sp_sorts_by
  unfold rd_sorts_by
  exact (ss_one (s_ret (d_cmp op_isAll is_op (d_callH (ms := [false, false]) h_nets_gainsay_by bf_nets_gainsay_by hr hG (da_cons (d_var 0) (da_cons (d_var 1) da_nil))) d_non)))
theorem has_ends_by (Df : Def K mg "ends_by" "ends_by" st_ends_by) (h_all_marks : Has P w K mg base T 1 "all_marks" "all_marks" st_all_marks ["lanes"] g_all_marks) (h_end_by : Has P w K mg base T 1 "end_by" "end_by" st_end_by ["steps", "row"] g_end_by) (hz : ∀ x ∈ (["set", "sorted", "tuple"] : List Str), mg x = none) : Has P w K mg base T 2 "ends_by" "ends_by" st_ends_by ["lanes", "steps"] g_ends_by := by
  have hN := sc_ends_by.nd
  refine has_def (wb := rd_ends_by) Df sc_ends_by (by decide) (fun f cdv A outer s H E hr hG => ?_) sp_ends_by
  unfold rd_ends_by
  exact (ss_one (s_ret (d_callTy call_tupO tuple_op (hz "tuple" (by decide)) (by decide +kernel) (da_cons (d_sortBig (hz "sorted" (by decide)) (hz "set" (by decide)) rfl (rm64 hr) (da_cons (d_lc (own := [("row", 2)]) (te := ce_ends_by_1) (tt := cf_ends_by_1) rfl hN (i_seq (d_callH (ms := [false]) h_all_marks bf_all_marks hr hG (da_cons (d_var 0) da_nil))) (blkOk_by (N := ["lanes", "steps", "row"]) (sc := defScope st_ends_by) (by decide +kernel)) (fun _ _ _ _ _ => (g_name (i := 2) hN rfl)) (fun _ _ _ _ _ => ts_nil) (fun _ _ _ _ _ => (d_callH (ms := [false, false]) h_end_by bf_end_by hr hG (da_cons (d_var 1) (da_cons (d_var 2) da_nil))))) da_nil)) da_nil))))
theorem has_end (Df : Def K mg "end" "end" st_end) (h_check_net : Has P w K mg base T 9 "check_net" "check_net" st_check_net ["lanes", "steps"] g_check_net) (h_check_row : Has P w K mg base T 4 "check_row" "check_row" st_check_row ["lanes", "row"] g_check_row) (h_end_by : Has P w K mg base T 1 "end_by" "end_by" st_end_by ["steps", "row"] g_end_by) (hz : ∀ x ∈ ([] : List Str), mg x = none) : Has P w K mg base T 10 "end" "end" st_end ["lanes", "steps", "row"] g_end := by
  have hN := sc_end.nd
  refine has_def (wb := rd_end) Df sc_end (by decide) (fun f cdv A outer s H E hr hG => ?_) sp_end
  unfold rd_end
  exact (ss_cons (s_expr (d_callH (ms := [false, false]) h_check_net bf_check_net hr hG (da_cons (d_var 0) (da_cons (d_var 1) da_nil))))
    (ss_cons (s_expr (d_callH (ms := [false, false]) h_check_row bf_check_row hr hG (da_cons (d_var 0) (da_cons (d_var 2) da_nil))))
    (ss_one (s_ret (d_callH (ms := [false, false]) h_end_by bf_end_by hr hG (da_cons (d_var 1) (da_cons (d_var 2) da_nil)))))))
theorem has_sorts (Df : Def K mg "sorts" "sorts" st_sorts) (h_check_net : Has P w K mg base T 9 "check_net" "check_net" st_check_net ["lanes", "steps"] g_check_net) (h_sorts_by : Has P w K mg base T 3 "sorts_by" "sorts_by" st_sorts_by ["lanes", "steps"] g_sorts_by) (hz : ∀ x ∈ ([] : List Str), mg x = none) : Has P w K mg base T 10 "sorts" "sorts" st_sorts ["lanes", "steps"] g_sorts := by
  have hN := sc_sorts.nd
  refine has_def (wb := rd_sorts) Df sc_sorts (by decide) (fun f cdv A outer s H E hr hG => ?_) sp_sorts
  unfold rd_sorts
  exact (ss_cons (s_expr (d_callH (ms := [false, false]) h_check_net bf_check_net hr hG (da_cons (d_var 0) (da_cons (d_var 1) da_nil))))
    (ss_one (s_ret (d_callH (ms := [false, false]) h_sorts_by bf_sorts_by hr hG (da_cons (d_var 0) (da_cons (d_var 1) da_nil))))))
theorem has_ends (Df : Def K mg "ends" "ends" st_ends) (h_check_net : Has P w K mg base T 9 "check_net" "check_net" st_check_net ["lanes", "steps"] g_check_net) (h_ends_by : Has P w K mg base T 2 "ends_by" "ends_by" st_ends_by ["lanes", "steps"] g_ends_by) (hz : ∀ x ∈ ([] : List Str), mg x = none) : Has P w K mg base T 10 "ends" "ends" st_ends ["lanes", "steps"] g_ends := by
  have hN := sc_ends.nd
  refine has_def (wb := rd_ends) Df sc_ends (by decide) (fun f cdv A outer s H E hr hG => ?_) sp_ends
  unfold rd_ends
  exact (ss_cons (s_expr (d_callH (ms := [false, false]) h_check_net bf_check_net hr hG (da_cons (d_var 0) (da_cons (d_var 1) da_nil))))
    (ss_one (s_ret (d_callH (ms := [false, false]) h_ends_by bf_ends_by hr hG (da_cons (d_var 0) (da_cons (d_var 1) da_nil))))))
theorem has_alike_parting_by (Df : Def K mg "parting_by" "parting_by" st_alike_parting_by) (h_all_marks : Has P w K mg base T 1 "all_marks" "all_marks" st_all_marks ["lanes"] g_all_marks) (h_end_by : Has P w K mg base T 1 "end_by" "end_by" st_end_by ["steps", "row"] g_end_by) (hz : ∀ x ∈ ([] : List Str), mg x = none) : Has P w K mg base T 2 "parting_by" "parting_by" st_alike_parting_by ["lanes", "steps", "other"] g_alike_parting_by := by
  have hN := sc_alike_parting_by.nd
  refine has_def (wb := rd_alike_parting_by) Df sc_alike_parting_by (by decide) (fun f cdv A outer s H E hr hG => ?_) sp_alike_parting_by
  unfold rd_alike_parting_by
  exact (ss_cons (s_for PassesOwn.never rfl (i_clr (vs := [3]) (i_seq (d_callH (ms := [false]) h_all_marks bf_all_marks hr hG (da_cons (d_var 0) da_nil)))) (g_name (i := 3) hN rfl) (s_end (vs := [3]) (wb := fb_alike_parting_by_1) (ss_one (s_if (t_cmp (op_neA (rm64 hr)) ne_op (d_callH (ms := [false, false]) h_end_by bf_end_by hr hG (da_cons (d_var 1) (da_cons (d_var 3) da_nil))) (d_callH (ms := [false, false]) h_end_by bf_end_by hr hG (da_cons (d_var 2) (da_cons (d_var 3) da_nil)))) (ss_one (s_ret (d_var 3))) ss_nil))))
    (ss_one (s_ret d_non)))
theorem has_further_by (Df : Def K mg "further_by" "further_by" st_further_by) (h_ends_by : Has P w K mg base T 2 "ends_by" "ends_by" st_ends_by ["lanes", "steps"] g_ends_by) (hz : ∀ x ∈ ([] : List Str), mg x = none) : Has P w K mg base T 3 "further_by" "further_by" st_further_by ["lanes", "steps", "other"] g_further_by := by
  have hN := sc_further_by.nd
  refine has_def (wb := rd_further_by) Df sc_further_by (by decide) (fun f cdv A outer s H E hr hG => ?_) sp_further_by
  unfold rd_further_by
  exact (ss_cons (s_asg (d_callH (ms := [false, false]) h_ends_by bf_ends_by hr hG (da_cons (d_var 0) (da_cons (d_var 2) da_nil))) (g_name (i := 3) hN rfl))
    (ss_cons (s_setLc (i := 4) (own := [("row", 5)]) (te := ce_further_by_1) (tt := cf_further_by_1) rfl hN (i_seq (d_callH (ms := [false, false]) h_ends_by bf_ends_by hr hG (da_cons (d_var 0) (da_cons (d_var 1) da_nil)))) (blkOk_by (N := ["lanes", "steps", "other", "beside", "found", "row"]) (sc := defScope st_further_by) (by decide +kernel)) (fun _ _ _ _ _ => (g_name (i := 5) hN rfl)) (fun _ _ _ _ _ => (ts_one (t_cmp (op_notInAll (rm66 hr)) (in_op (neg := true)) (d_var 5) (d_var 3)))) (fun _ _ _ _ _ => (d_var 5)))
    (ss_one (s_ret (d_if (t_cmp (op_neA (rm64 hr)) ne_op (d_var 4) (d_lst da_nil)) (d_ix (d_var 4) d_int (fun _ _ => rfl)) d_non)))))
theorem has_check_two (Df : Def K mg "check_two" "check_two" st_check_two) (h_check_net : Has P w K mg base T 9 "check_net" "check_net" st_check_net ["lanes", "steps"] g_check_net) (h_check_steps : Has P w K mg base T 8 "check_steps" "check_steps" st_check_steps ["lanes", "steps"] g_check_steps) (hz : ∀ x ∈ ([] : List Str), mg x = none) : Has P w K mg base T 10 "check_two" "check_two" st_check_two ["lanes", "steps", "other"] g_check_two := by
  have hN := sc_check_two.nd
  refine has_def (wb := rd_check_two) Df sc_check_two (by decide) (fun f cdv A outer s H E hr hG => ?_) sp_check_two
  unfold rd_check_two
  exact (ss_cons (s_expr (d_callH (ms := [false, false]) h_check_net bf_check_net hr hG (da_cons (d_var 0) (da_cons (d_var 1) da_nil))))
    (ss_one (s_expr (d_callH (ms := [false, false]) h_check_steps bf_check_steps hr hG (da_cons (d_var 0) (da_cons (d_var 2) da_nil))))))
theorem has_are_alike (Df : Def K mg "are_alike" "are_alike" st_are_alike) (h_alike_parting_by : Has P w K mg base T 2 "parting_by" "parting_by" st_alike_parting_by ["lanes", "steps", "other"] g_alike_parting_by) (h_check_two : Has P w K mg base T 10 "check_two" "check_two" st_check_two ["lanes", "steps", "other"] g_check_two) (hz : ∀ x ∈ ([] : List Str), mg x = none) : Has P w K mg base T 11 "are_alike" "are_alike" st_are_alike ["lanes", "steps", "other"] g_are_alike := by
  have hN := sc_are_alike.nd
  refine has_def (wb := rd_are_alike) Df sc_are_alike (by decide) (fun f cdv A outer s H E hr hG => ?_) sp_are_alike
  unfold rd_are_alike
  exact (ss_cons (s_expr (d_callH (ms := [false, false, false]) h_check_two bf_check_two hr hG (da_cons (d_var 0) (da_cons (d_var 1) (da_cons (d_var 2) da_nil)))))
    (ss_one (s_ret (d_cmp op_isAll is_op (d_callH (ms := [false, false, false]) h_alike_parting_by bf_alike_parting_by hr hG (da_cons (d_var 0) (da_cons (d_var 1) (da_cons (d_var 2) da_nil)))) d_non))))
theorem has_parting (Df : Def K mg "parting" "parting" st_parting) (h_alike_parting_by : Has P w K mg base T 2 "parting_by" "parting_by" st_alike_parting_by ["lanes", "steps", "other"] g_alike_parting_by) (h_check_two : Has P w K mg base T 10 "check_two" "check_two" st_check_two ["lanes", "steps", "other"] g_check_two) (hz : ∀ x ∈ ([] : List Str), mg x = none) : Has P w K mg base T 11 "parting" "parting" st_parting ["lanes", "steps", "other"] g_parting := by
  have hN := sc_parting.nd
  refine has_def (wb := rd_parting) Df sc_parting (by decide) (fun f cdv A outer s H E hr hG => ?_) sp_parting
  unfold rd_parting
  exact (ss_cons (s_expr (d_callH (ms := [false, false, false]) h_check_two bf_check_two hr hG (da_cons (d_var 0) (da_cons (d_var 1) (da_cons (d_var 2) da_nil)))))
    (ss_one (s_ret (d_callH (ms := [false, false, false]) h_alike_parting_by bf_alike_parting_by hr hG (da_cons (d_var 0) (da_cons (d_var 1) (da_cons (d_var 2) da_nil)))))))
theorem has_is_narrower (Df : Def K mg "is_narrower" "is_narrower" st_is_narrower) (h_check_two : Has P w K mg base T 10 "check_two" "check_two" st_check_two ["lanes", "steps", "other"] g_check_two) (h_further_by : Has P w K mg base T 3 "further_by" "further_by" st_further_by ["lanes", "steps", "other"] g_further_by) (hz : ∀ x ∈ ([] : List Str), mg x = none) : Has P w K mg base T 11 "is_narrower" "is_narrower" st_is_narrower ["lanes", "steps", "other"] g_is_narrower := by
  have hN := sc_is_narrower.nd
  refine has_def (wb := rd_is_narrower) Df sc_is_narrower (by decide) (fun f cdv A outer s H E hr hG => ?_) sp_is_narrower
  unfold rd_is_narrower
  exact (ss_cons (s_expr (d_callH (ms := [false, false, false]) h_check_two bf_check_two hr hG (da_cons (d_var 0) (da_cons (d_var 1) (da_cons (d_var 2) da_nil)))))
    (ss_one (s_ret (d_cmp op_isAll is_op (d_callH (ms := [false, false, false]) h_further_by bf_further_by hr hG (da_cons (d_var 0) (da_cons (d_var 1) (da_cons (d_var 2) da_nil)))) d_non))))
theorem has__law_pool_k40 (Df : Def K mg "_law_pool" "_law_pool" st__law_pool_k40) (hz : ∀ x ∈ (["abs", "sum"] : List Str), mg x = none) : Has P w K mg base T 1 "_law_pool" "_law_pool" st__law_pool_k40 ["script", "k"] g__law_pool_k40 := by
  have hN := sc__law_pool_k40.nd
  refine has_def (wb := rd__law_pool_k40) Df sc__law_pool_k40 (by decide) (fun f cdv A outer s H E hr hG => ?_) sp__law_pool_k40
  unfold rd__law_pool_k40
  exact (ss_cons (s_par (i := 2) (j := 3) rfl hN (da_cons (d_callB (cr_sumA rfl) sumA_op (hz "sum" (by decide)) (by decide +kernel) (da_cons (d_sl (d_var 0) (o_some (d_var 1)) (o_some (d_add (d_var 1) d_int))) da_nil)) (da_cons (d_add d_int (d_mul d_int (d_var 1))) da_nil)))
    (ss_cons (s_asg (d_mul (d_mul (d_mul (d_mul (d_mul (d_pow d_int d_int) (d_pow d_int d_int)) (d_pow d_int d_int)) (d_pow d_int d_int)) (d_pow d_int d_int)) (d_pow d_int d_int)) (g_name (i := 4) hN rfl))
    (ss_cons (s_for PassesOwn.never rfl (i_clr (vs := [5]) (i_seq (d_sl (d_var 0) o_none (o_some d_int)))) (g_name (i := 5) hN rfl) (s_end (vs := [5]) (wb := fb__law_pool_k40_1) (ss_one (s_asg (d_mod (d_add (d_add (d_mul (d_var 3) d_int) (d_mul (d_mod (d_var 5) d_int) d_int)) d_int) d_int) (g_name (i := 3) hN rfl)))))
    (ss_one (s_ret (d_lst (da_cons (d_if (PW.pt (w_or (t_cmp (op_ltA (rm64 hr)) cmp_opA (d_var 2) d_int) (w_or1 (t_cmp (op_geA (rm64 hr)) cmp_opA (d_var 2) (d_pow d_int d_int))))) (d_mod (d_callB call_abs abs_op (hz "abs" (by decide)) (by decide +kernel) (da_cons (d_var 2) da_nil)) (d_var 4)) d_int) (da_cons (d_var 3) (da_cons d_int da_nil)))))))))
theorem has__law_take_k40 (Df : Def K mg "_law_take" "_law_take" st__law_take_k40) (hz : ∀ x ∈ (["divmod"] : List Str), mg x = none) : Has P w K mg base T 1 "_law_take" "_law_take" st__law_take_k40 ["pool", "many"] g__law_take_k40 := by
  have hN := sc__law_take_k40.nd
  refine has_def (wb := rd__law_take_k40) Df sc__law_take_k40 (by decide) (fun f cdv A outer s H E hr hG => ?_) sp__law_take_k40
  unfold rd__law_take_k40
  exact (ss_cons (s_if (t_cmp (op_gtA (rm64 hr)) cmp_opA (d_ix (d_var 0) d_int (fun _ _ => rfl)) d_int) (ss_cons (s_asg (d_callB call_divM divmod_op (hz "divmod" (by decide)) (by decide +kernel) (da_cons (d_ix (d_var 0) d_int (fun _ _ => rfl)) (da_cons (d_var 1) da_nil))) (g_tup (n := 2) rfl (g_cons (g_sub (x := 0) d_int rfl) (g_cons (g_name (i := 2) hN rfl) g_nil))))
    (ss_one (s_ret (d_var 2)))) ss_nil)
    (ss_cons (s_asg (d_add (d_ix (d_var 0) d_int (fun _ _ => rfl)) d_int) (g_sub (x := 0) d_int rfl))
    (ss_cons (s_asg (d_mod (d_add (d_ix (d_var 0) d_int (fun _ _ => rfl)) (d_mul d_int (d_ix (d_var 0) d_int (fun _ _ => rfl)))) d_int) (g_name (i := 3) hN rfl))
    (ss_cons (s_asg (d_mod (d_add (d_mul (d_var 3) (d_add (d_mod (d_var 3) d_int) d_int)) (d_mul d_int (d_ix (d_var 0) d_int (fun _ _ => rfl)))) d_int) (g_sub (x := 0) d_int rfl))
    (ss_one (s_ret (d_mod (d_fdiv (d_ix (d_var 0) d_int (fun _ _ => rfl)) d_int) (d_var 1))))))))
theorem has__law_of_k40 (Df : Def K mg "_law_of" "_law_of" st__law_of_k40) (h__law_take_k40 : Has P w K mg base T 1 "_law_take" "_law_take" st__law_take_k40 ["pool", "many"] g__law_take_k40) (hz : ∀ x ∈ (["len"] : List Str), mg x = none) : Has P w K mg base T 2 "_law_of" "_law_of" st__law_of_k40 ["pool", "some"] g__law_of_k40 := by
  have hN := sc__law_of_k40.nd
  refine has_def (wb := rd__law_of_k40) Df sc__law_of_k40 (by decide) (fun f cdv A outer s H E hr hG => ?_) sp__law_of_k40
  unfold rd__law_of_k40
  exact (ss_one (s_ret (d_ix (d_var 1) (d_callH (ms := [true, false]) h__law_take_k40 bf__law_take_k40 hr hG (da_cons (d_var 0) (da_cons (d_callB call_lenAll len_op (hz "len" (by decide)) (by decide +kernel) (da_cons (d_var 1) da_nil)) da_nil))) (fun _ _ => rfl))))
theorem has__law_pairs_of_k40 (Df : Def K mg "_law_pairs_of" "_law_pairs_of" st__law_pairs_of_k40) (hz : ∀ x ∈ (["range"] : List Str), mg x = none) : Has P w K mg base T 1 "_law_pairs_of" "_law_pairs_of" st__law_pairs_of_k40 ["lanes"] g__law_pairs_of_k40 := by
  have hN := sc__law_pairs_of_k40.nd
  refine has_def (wb := rd__law_pairs_of_k40) Df sc__law_pairs_of_k40 (by decide) (fun f cdv A outer s H E hr hG => ?_) sp__law_pairs_of_k40
  unfold rd__law_pairs_of_k40
  exact (ss_cons (s_set (i := 1) hN (d_lst da_nil))
    (ss_cons (s_for PassesOwn.never rfl (i_clr (vs := [2, 3]) (i_rng1 (hz "range" (by decide)) (da_cons (d_var 0) da_nil))) (g_name (i := 2) hN rfl) (s_end (vs := [2, 3]) (wb := fb__law_pairs_of_k40_1) (ss_one (s_set (i := 1) hN (d_add (d_var 1) (d_lc (own := [("high", 3)]) (te := ce__law_pairs_of_k40_1) (tt := cf__law_pairs_of_k40_1) rfl hN (i_rng2 (hz "range" (by decide)) (da_cons (d_add (d_var 2) d_int) (da_cons (d_var 0) da_nil))) (blkOk_by (N := ["lanes", "found", "low", "high"]) (sc := defScope st__law_pairs_of_k40) (by decide +kernel)) (fun _ _ _ _ _ => (g_name (i := 3) hN rfl)) (fun _ _ _ _ _ => ts_nil) (fun _ _ _ _ _ => (d_tup (da_cons (d_var 2) (da_cons (d_var 3) da_nil))))))))))
    (ss_one (s_ret (d_var 1)))))
theorem has__law_net_k40 (Df : Def K mg "_law_net" "_law_net" st__law_net_k40) (h__law_of_k40 : Has P w K mg base T 2 "_law_of" "_law_of" st__law_of_k40 ["pool", "some"] g__law_of_k40) (h__law_pairs_of_k40 : Has P w K mg base T 1 "_law_pairs_of" "_law_pairs_of" st__law_pairs_of_k40 ["lanes"] g__law_pairs_of_k40) (h__law_take_k40 : Has P w K mg base T 1 "_law_take" "_law_take" st__law_take_k40 ["pool", "many"] g__law_take_k40) (hz : ∀ x ∈ (["len", "min", "range", "tuple"] : List Str), mg x = none) : Has P w K mg base T 3 "_law_net" "_law_net" st__law_net_k40 ["pool", "lanes", "most"] g__law_net_k40 := by
  have hN := sc__law_net_k40.nd
  refine has_def (wb := rd__law_net_k40) Df sc__law_net_k40 (by decide) (fun f cdv A outer s H E hr hG => ?_) sp__law_net_k40
  unfold rd__law_net_k40
  exact (ss_cons (s_par (i := 3) (j := 4) rfl hN (da_cons (d_callH (ms := [false]) h__law_pairs_of_k40 bf__law_pairs_of_k40 hr hG (da_cons (d_var 1) da_nil)) (da_cons (d_lst da_nil) da_nil)))
    (ss_cons (s_if (t_cmp (op_eqA (rm64 hr)) eq_op (d_callH (ms := [true, false]) h__law_take_k40 bf__law_take_k40 hr hG (da_cons (d_var 0) (da_cons d_int da_nil))) d_int) (ss_cons (s_for PassesOwn.never rfl (i_clr (vs := [5, 6]) (i_rng3 (hz "range" (by decide)) (da_cons (d_sub (d_var 1) d_int) (da_cons d_int (da_cons (d_neg d_int) da_nil))))) (g_name (i := 5) hN rfl) (s_end (vs := [5, 6]) (wb := fb__law_net_k40_1) (ss_one (s_set (i := 4) hN (d_add (d_var 4) (d_lc (own := [("lane", 6)]) (te := ce__law_net_k40_1) (tt := cf__law_net_k40_1) rfl hN (i_rng1 (hz "range" (by decide)) (da_cons (d_var 5) da_nil)) (blkOk_by (N := ["pool", "lanes", "most", "some", "found", "last", "lane", "turn", "k"]) (sc := defScope st__law_net_k40) (by decide +kernel)) (fun _ _ _ _ _ => (g_name (i := 6) hN rfl)) (fun _ _ _ _ _ => ts_nil) (fun _ _ _ _ _ => (d_tup (da_cons (d_var 6) (da_cons (d_add (d_var 6) d_int) da_nil))))))))))
    (ss_one (s_for PassesOwn.never rfl (i_clr (vs := [7]) (i_rng1 (hz "range" (by decide)) (da_cons (d_callB (call_min2 rfl) min2_op (hz "min" (by decide)) (by decide +kernel) (da_cons (d_callB call_lenAll len_op (hz "len" (by decide)) (by decide +kernel) (da_cons (d_var 4) da_nil)) (da_cons (d_callH (ms := [true, false]) h__law_take_k40 bf__law_take_k40 hr hG (da_cons (d_var 0) (da_cons d_int da_nil))) da_nil))) da_nil))) (g_name (i := 7) hN rfl) (s_end (vs := [7]) (wb := fb__law_net_k40_2) (ss_one (s_expr (d_pop1 (x := 4) (d_callH (ms := [true, false]) h__law_take_k40 bf__law_take_k40 hr hG (da_cons (d_var 0) (da_cons (d_callB call_lenAll len_op (hz "len" (by decide)) (by decide +kernel) (da_cons (d_var 4) da_nil)) da_nil)))))))))) (ss_one (s_for PassesOwn.never rfl (i_clr (vs := [7]) (i_rng1 (hz "range" (by decide)) (da_cons (d_callH (ms := [true, false]) h__law_take_k40 bf__law_take_k40 hr hG (da_cons (d_var 0) (da_cons (d_add (d_var 2) d_int) da_nil))) da_nil))) (g_name (i := 7) hN rfl) (s_end (vs := [7]) (wb := fb__law_net_k40_3) (ss_one (s_expr (d_app (x := 4) (d_callH (ms := [true, false]) h__law_of_k40 bf__law_of_k40 hr hG (da_cons (d_var 0) (da_cons (d_var 3) da_nil))))))))))
    (ss_cons (s_for PassesOwn.never rfl (i_clr (vs := [7, 8]) (i_rng1 (hz "range" (by decide)) (da_cons (d_callH (ms := [true, false]) h__law_take_k40 bf__law_take_k40 hr hG (da_cons (d_var 0) (da_cons d_int da_nil))) da_nil))) (g_name (i := 7) hN rfl) (s_end (vs := [7, 8]) (wb := fb__law_net_k40_4) (ss_cons (s_asg (d_callH (ms := [true, false]) h__law_take_k40 bf__law_take_k40 hr hG (da_cons (d_var 0) (da_cons (d_add (d_callB call_lenAll len_op (hz "len" (by decide)) (by decide +kernel) (da_cons (d_var 4) da_nil)) d_int) da_nil))) (g_name (i := 8) hN rfl))
    (ss_one (s_set (i := 4) hN (d_add (d_add (d_sl (d_var 4) o_none (o_some (d_var 8))) (d_lst (da_cons (d_callH (ms := [true, false]) h__law_of_k40 bf__law_of_k40 hr hG (da_cons (d_var 0) (da_cons (d_var 3) da_nil))) da_nil))) (d_sl (d_var 4) (o_some (d_var 8)) o_none)))))))
    (ss_one (s_ret (d_callTy call_tupO tuple_op (hz "tuple" (by decide)) (by decide +kernel) (da_cons (d_sl (d_var 4) o_none (o_some d_int)) da_nil)))))))
theorem has__law_right_k52 (Df : Def K mg "_law_right" "_law_right" st__law_right_k52) (h__law_net_k40 : Has P w K mg base T 3 "_law_net" "_law_net" st__law_net_k40 ["pool", "lanes", "most"] g__law_net_k40) (h__law_of_k40 : Has P w K mg base T 2 "_law_of" "_law_of" st__law_of_k40 ["pool", "some"] g__law_of_k40) (h__law_take_k40 : Has P w K mg base T 1 "_law_take" "_law_take" st__law_take_k40 ["pool", "many"] g__law_take_k40) (h_are_alike : Has P w K mg base T 11 "are_alike" "are_alike" st_are_alike ["lanes", "steps", "other"] g_are_alike) (h_end : Has P w K mg base T 10 "end" "end" st_end ["lanes", "steps", "row"] g_end) (h_ends : Has P w K mg base T 10 "ends" "ends" st_ends ["lanes", "steps"] g_ends) (h_is_narrower : Has P w K mg base T 11 "is_narrower" "is_narrower" st_is_narrower ["lanes", "steps", "other"] g_is_narrower) (h_parting : Has P w K mg base T 11 "parting" "parting" st_parting ["lanes", "steps", "other"] g_parting) (h_sorts : Has P w K mg base T 10 "sorts" "sorts" st_sorts ["lanes", "steps"] g_sorts) (hz : ∀ x ∈ (["all", "len", "range", "tuple"] : List Str), mg x = none) : Has P w K mg base T 12 "_law_right" "_law_right" st__law_right_k52 ["pool", "lanes"] g__law_right_k52 := by
  have hN := sc__law_right_k52.nd
  refine has_def (wb := rd__law_right_k52) Df sc__law_right_k52 (by decide) (fun f cdv A outer s H E hr hG => ?_) sp__law_right_k52
  unfold rd__law_right_k52
  exact (ss_cons (s_par3c (i := 2) (j := 3) (l := 4) rfl hN (da_cons (d_callH (ms := [true, false, false]) h__law_net_k40 bf__law_net_k40 hr hG (da_cons (d_var 0) (da_cons (d_var 1) (da_cons d_int da_nil)))) (da_cons (d_callH (ms := [true, false, false]) h__law_net_k40 bf__law_net_k40 hr hG (da_cons (d_var 0) (da_cons (d_var 1) (da_cons d_int da_nil)))) (da_cons (d_sl (d_callH (ms := [true, false, false]) h__law_net_k40 bf__law_net_k40 hr hG (da_cons (d_var 0) (da_cons (d_var 1) (da_cons d_int da_nil)))) o_none (o_some d_int)) da_nil))))
    (ss_cons (s_if (t_cmp (op_eqA (rm64 hr)) eq_op (d_callH (ms := [true, false]) h__law_take_k40 bf__law_take_k40 hr hG (da_cons (d_var 0) (da_cons d_int da_nil))) d_int) (ss_one (s_asg (d_sl (d_var 2) o_none (o_some (d_callH (ms := [true, false]) h__law_take_k40 bf__law_take_k40 hr hG (da_cons (d_var 0) (da_cons (d_add (d_callB call_lenAll len_op (hz "len" (by decide)) (by decide +kernel) (da_cons (d_var 2) da_nil)) d_int) da_nil))))) (g_name (i := 3) hN rfl))) ss_nil)
    (ss_cons (s_par3c (i := 2) (j := 3) (l := 5) rfl hN (da_cons (d_sl (d_var 2) o_none (o_some d_int)) (da_cons (d_sl (d_var 3) o_none (o_some d_int)) (da_cons (d_callH (ms := [false, false, false]) h_are_alike bf_are_alike hr hG (da_cons (d_var 1) (da_cons (d_sl (d_var 2) o_none (o_some d_int)) (da_cons (d_sl (d_var 3) o_none (o_some d_int)) da_nil)))) da_nil))))
    (ss_cons (s_set (i := 6) hN (d_callTy call_tupO tuple_op (hz "tuple" (by decide)) (by decide +kernel) (da_cons (d_lc (own := [("lane", 7)]) (te := ce__law_right_k52_1) (tt := cf__law_right_k52_1) rfl hN (i_rng1 (hz "range" (by decide)) (da_cons (d_var 1) da_nil)) (blkOk_by (N := ["pool", "lanes", "one", "other", "more", "so", "row", "lane", "first", "narrow", "each", "both"]) (sc := defScope st__law_right_k52) (by decide +kernel)) (fun _ _ _ _ _ => (g_name (i := 7) hN rfl)) (fun _ _ _ _ _ => ts_nil) (fun _ _ _ _ _ => (d_callH (ms := [true, false]) h__law_take_k40 bf__law_take_k40 hr hG (da_cons (d_var 0) (da_cons (d_callH (ms := [true, false]) h__law_of_k40 bf__law_of_k40 hr hG (da_cons (d_var 0) (da_cons (d_lst (da_cons d_int (da_cons d_int (da_cons d_int da_nil)))) da_nil))) da_nil))))) da_nil)))
    (ss_cons (s_par (i := 8) (j := 9) rfl hN (da_cons (d_callH (ms := [false, false, false]) h_parting bf_parting hr hG (da_cons (d_var 1) (da_cons (d_var 2) (da_cons (d_var 3) da_nil)))) (da_cons (d_callH (ms := [false, false, false]) h_is_narrower bf_is_narrower hr hG (da_cons (d_var 1) (da_cons (d_var 2) (da_cons (d_var 3) da_nil)))) da_nil)))
    (ss_cons (s_if (PW.pt (w_or (t_cmp (op_neA (rm64 hr)) ne_op (d_cmp op_isAll is_op (d_var 8) d_non) (d_var 5)) (w_or (t_cmp (op_neA (rm64 hr)) ne_op (d_callH (ms := [false, false, false]) h_are_alike bf_are_alike hr hG (da_cons (d_var 1) (da_cons (d_var 3) (da_cons (d_var 2) da_nil)))) (d_var 5)) (w_or1 (t_not (t_tru (d_callH (ms := [false, false, false]) h_are_alike bf_are_alike hr hG (da_cons (d_var 1) (da_cons (d_var 2) (da_cons (d_var 2) da_nil)))))))))) (ss_one (s_ret d_bl)) ss_nil)
    (ss_cons (s_if (PW.pt (w_and (t_tru (d_var 5)) (w_and1 (PW.pt (w_or (t_cmp (op_neA (rm64 hr)) ne_op (d_callH (ms := [false, false, false]) h_end bf_end hr hG (da_cons (d_var 1) (da_cons (d_var 2) (da_cons (d_var 6) da_nil)))) (d_callH (ms := [false, false, false]) h_end bf_end hr hG (da_cons (d_var 1) (da_cons (d_var 3) (da_cons (d_var 6) da_nil))))) (w_or1 (t_not (t_tru (d_var 9))))))))) (ss_one (s_ret d_bl)) ss_nil)
    (ss_cons (s_if (PW.pt (w_and (t_tru (d_var 5)) (w_and1 (t_cmp (op_neA (rm64 hr)) ne_op (d_callH (ms := [false, false]) h_sorts bf_sorts hr hG (da_cons (d_var 1) (da_cons (d_var 2) da_nil))) (d_callH (ms := [false, false]) h_sorts bf_sorts hr hG (da_cons (d_var 1) (da_cons (d_var 3) da_nil))))))) (ss_one (s_ret d_bl)) ss_nil)
    (ss_cons (s_if (PW.pt (w_and (t_cmp op_isNAll isN_op (d_var 8) d_non) (w_and1 (t_cmp (op_eqA (rm64 hr)) eq_op (d_callH (ms := [false, false, false]) h_end bf_end hr hG (da_cons (d_var 1) (da_cons (d_var 2) (da_cons (d_var 8) da_nil)))) (d_callH (ms := [false, false, false]) h_end bf_end hr hG (da_cons (d_var 1) (da_cons (d_var 3) (da_cons (d_var 8) da_nil)))))))) (ss_one (s_ret d_bl)) ss_nil)
    (ss_cons (s_if (t_cmp (op_neA (rm64 hr)) ne_op (d_var 9) (d_callB (cr_all rfl) all_op (hz "all" (by decide)) (by decide +kernel) (da_cons (d_lc (own := [("each", 10)]) (te := ce__law_right_k52_2) (tt := cf__law_right_k52_2) rfl hN (i_seq (d_callH (ms := [false, false]) h_ends bf_ends hr hG (da_cons (d_var 1) (da_cons (d_var 2) da_nil)))) (blkOk_by (N := ["pool", "lanes", "one", "other", "more", "so", "row", "lane", "first", "narrow", "each", "both"]) (sc := defScope st__law_right_k52) (by decide +kernel)) (fun _ _ _ _ _ => (g_name (i := 10) hN rfl)) (fun _ _ _ _ _ => ts_nil) (fun _ _ _ _ _ => (d_cmp (op_inAll (rm66 hr)) (in_op (neg := false)) (d_var 10) (d_callH (ms := [false, false]) h_ends bf_ends hr hG (da_cons (d_var 1) (da_cons (d_var 3) da_nil)))))) da_nil))) (ss_one (s_ret d_bl)) ss_nil)
    (ss_cons (s_if (PW.pt (w_and (t_tru (d_var 9)) (w_and (t_tru (d_callH (ms := [false, false]) h_sorts bf_sorts hr hG (da_cons (d_var 1) (da_cons (d_var 3) da_nil)))) (w_and1 (t_not (t_tru (d_callH (ms := [false, false]) h_sorts bf_sorts hr hG (da_cons (d_var 1) (da_cons (d_var 2) da_nil))))))))) (ss_one (s_ret d_bl)) ss_nil)
    (ss_cons (s_if (PW.pt (w_and (t_tru (d_var 9)) (w_and1 (t_not (t_tru (d_callH (ms := [false, false, false]) h_is_narrower bf_is_narrower hr hG (da_cons (d_var 1) (da_cons (d_add (d_var 2) (d_var 4)) (da_cons (d_add (d_var 3) (d_var 4)) da_nil))))))))) (ss_one (s_ret d_bl)) ss_nil)
    (ss_cons (s_if (PW.pt (w_and (t_tru (d_var 5)) (w_and1 (t_not (t_tru (d_callH (ms := [false, false, false]) h_are_alike bf_are_alike hr hG (da_cons (d_var 1) (da_cons (d_add (d_var 2) (d_var 4)) (da_cons (d_add (d_var 3) (d_var 4)) da_nil))))))))) (ss_one (s_ret d_bl)) ss_nil)
    (ss_cons (s_if (PW.pt (w_and (t_tru (d_callH (ms := [false, false]) h_sorts bf_sorts hr hG (da_cons (d_var 1) (da_cons (d_var 2) da_nil)))) (w_and1 (t_not (t_tru (d_callH (ms := [false, false, false]) h_is_narrower bf_is_narrower hr hG (da_cons (d_var 1) (da_cons (d_var 2) (da_cons (d_var 3) da_nil))))))))) (ss_one (s_ret d_bl)) ss_nil)
    (ss_cons (s_if (PW.pt (w_and (t_tru (d_callH (ms := [false, false]) h_sorts bf_sorts hr hG (da_cons (d_var 1) (da_cons (d_var 2) da_nil)))) (w_and (t_tru (d_callH (ms := [false, false]) h_sorts bf_sorts hr hG (da_cons (d_var 1) (da_cons (d_var 3) da_nil)))) (w_and1 (t_not (t_tru (d_var 5))))))) (ss_one (s_ret d_bl)) ss_nil)
    (ss_cons (s_set (i := 11) hN (d_and (d_var 9) (d_one (d_callH (ms := [false, false, false]) h_is_narrower bf_is_narrower hr hG (da_cons (d_var 1) (da_cons (d_var 3) (da_cons (d_var 2) da_nil)))))))
    (ss_one (s_ret (d_and (d_cmp (op_eqA (rm64 hr)) eq_op (d_var 11) (d_cmp (op_eqA (rm64 hr)) eq_op (d_callH (ms := [false, false]) h_ends bf_ends hr hG (da_cons (d_var 1) (da_cons (d_var 2) da_nil))) (d_callH (ms := [false, false]) h_ends bf_ends hr hG (da_cons (d_var 1) (da_cons (d_var 3) da_nil))))) (d_one (d_cmp (op_gtA (rm64 hr)) cmp_opA (d_callB call_lenAll len_op (hz "len" (by decide)) (by decide +kernel) (da_cons (d_callH (ms := [false, false]) h_ends bf_ends hr hG (da_cons (d_var 1) (da_cons (d_var 2) da_nil))) da_nil)) (d_var 1))))))))))))))))))))))
theorem has_law_k52 (Df : Def K mg "law" "law" st_law_k52) (h__law_pool_k40 : Has P w K mg base T 1 "_law_pool" "_law_pool" st__law_pool_k40 ["script", "k"] g__law_pool_k40) (h__law_right_k52 : Has P w K mg base T 12 "_law_right" "_law_right" st__law_right_k52 ["pool", "lanes"] g__law_right_k52) (hz : ∀ x ∈ (["len", "max", "min", "range"] : List Str), mg x = none) : Has P w K mg base T 13 "law" "law" st_law_k52 ["script"] g_law_k52 := by
  have hN := sc_law_k52.nd
  refine has_def (wb := rd_law_k52) Df sc_law_k52 (by decide) (fun f cdv A outer s H E hr hG => ?_) sp_law_k52
  unfold rd_law_k52
  exact (ss_cons (s_for PassesOwn.never rfl (i_clr (vs := [1, 2, 3]) (i_rng1 (hz "range" (by decide)) (da_cons (d_callB (call_max2 rfl) max2_op (hz "max" (by decide)) (by decide +kernel) (da_cons d_int (da_cons (d_callB (call_min2 rfl) min2_op (hz "min" (by decide)) (by decide +kernel) (da_cons (d_callB call_lenAll len_op (hz "len" (by decide)) (by decide +kernel) (da_cons (d_var 0) da_nil)) (da_cons d_int da_nil))) da_nil))) da_nil))) (g_name (i := 1) hN rfl) (s_end (vs := [1, 2, 3]) (wb := fb_law_k52_2) (ss_cons (s_set (i := 2) hN (d_callH (ms := [false, false]) h__law_pool_k40 bf__law_pool_k40 hr hG (da_cons (d_var 0) (da_cons (d_var 1) da_nil))))
    (ss_one (s_for PassesOwn.never rfl (i_clr (vs := [3]) (i_seq (d_lst (da_cons d_int (da_cons d_int (da_cons d_int (da_cons d_int (da_cons d_int da_nil)))))))) (g_name (i := 3) hN rfl) (s_end (vs := [3]) (wb := fb_law_k52_1) (ss_one (s_if (t_not (t_tru (d_callH (ms := [true, false]) h__law_right_k52 bf__law_right_k52 hr hG (da_cons (d_var 2) (da_cons (d_var 3) da_nil))))) (ss_one (s_ret d_bl)) ss_nil))))))))
    (ss_one (s_ret d_bl)))
end

set_option maxRecDepth 100000
set_option maxHeartbeats 0

open PySem PySem.Spec L2 LamX DL
def fas : List He.Fa := [.glo "is_whole", .glo "is_between", .glo "is_tuple_of", .glo "first_wrong", .glo "is_some_row", .glo "is_lanes", .glo "is_lane", .glo "is_step", .glo "wrong_step", .glo "is_row", .glo "check_lanes", .glo "check_steps", .glo "check_net", .glo "check_row", .glo "end_by", .glo "is_sorted_by", .glo "all_marks", .glo "gainsay_by", .glo "sorts_by", .glo "ends_by", .glo "end", .glo "sorts", .glo "ends", .glo "parting_by", .glo "further_by", .glo "check_two", .glo "are_alike", .glo "parting", .glo "is_narrower", .glo "_law_pool", .glo "_law_take", .glo "_law_of", .glo "_law_pairs_of", .glo "_law_net", .glo "_law_right", .glo "law", .free "abs", .free "all", .free "bool", .free "divmod", .free "enumerate", .free "int", .free "isinstance", .free "len", .free "list", .free "max", .free "min", .free "range", .free "set", .free "sorted", .free "sum", .free "tuple", .free "zip", .int "FEWEST_LANES" 2, .int "MOST_LANES" 6, .int "MOST_NUMBER" 99, .int "MOST_STEPS" 24]
def fns : List He.DefD := [⟨("is_whole", none), "is_whole", "is_whole", defArgs st_is_whole, defBody st_is_whole, defScope st_is_whole, [], []⟩, ⟨("is_between", none), "is_between", "is_between", defArgs st_is_between, defBody st_is_between, defScope st_is_between, [], []⟩, ⟨("is_tuple_of", none), "is_tuple_of", "is_tuple_of", defArgs st_is_tuple_of, defBody st_is_tuple_of, defScope st_is_tuple_of, [], []⟩, ⟨("first_wrong", none), "first_wrong", "first_wrong", defArgs st_first_wrong, defBody st_first_wrong, defScope st_first_wrong, [], []⟩, ⟨("is_some_row", none), "is_some_row", "is_some_row", defArgs st_is_some_row, defBody st_is_some_row, defScope st_is_some_row, [], []⟩, ⟨("is_lanes", none), "is_lanes", "is_lanes", defArgs st_is_lanes, defBody st_is_lanes, defScope st_is_lanes, [], []⟩, ⟨("is_lane", none), "is_lane", "is_lane", defArgs st_is_lane, defBody st_is_lane, defScope st_is_lane, [], []⟩, ⟨("is_step", none), "is_step", "is_step", defArgs st_is_step, defBody st_is_step, defScope st_is_step, [], []⟩, ⟨("wrong_step", none), "wrong_step", "wrong_step", defArgs st_wrong_step, defBody st_wrong_step, defScope st_wrong_step, [], []⟩, ⟨("is_row", none), "is_row", "is_row", defArgs st_nets_is_row, defBody st_nets_is_row, defScope st_nets_is_row, [], []⟩, ⟨("check_lanes", none), "check_lanes", "check_lanes", defArgs st_check_lanes, defBody st_check_lanes, defScope st_check_lanes, [], []⟩, ⟨("check_steps", none), "check_steps", "check_steps", defArgs st_check_steps, defBody st_check_steps, defScope st_check_steps, [], []⟩, ⟨("check_net", none), "check_net", "check_net", defArgs st_check_net, defBody st_check_net, defScope st_check_net, [], []⟩, ⟨("check_row", none), "check_row", "check_row", defArgs st_check_row, defBody st_check_row, defScope st_check_row, [], []⟩, ⟨("end_by", none), "end_by", "end_by", defArgs st_end_by, defBody st_end_by, defScope st_end_by, [], []⟩, ⟨("is_sorted_by", none), "is_sorted_by", "is_sorted_by", defArgs st_is_sorted_by, defBody st_is_sorted_by, defScope st_is_sorted_by, [], []⟩, ⟨("all_marks", none), "all_marks", "all_marks", defArgs st_all_marks, defBody st_all_marks, defScope st_all_marks, [], []⟩, ⟨("gainsay_by", none), "gainsay_by", "gainsay_by", defArgs st_nets_gainsay_by, defBody st_nets_gainsay_by, defScope st_nets_gainsay_by, [], []⟩, ⟨("sorts_by", none), "sorts_by", "sorts_by", defArgs st_sorts_by, defBody st_sorts_by, defScope st_sorts_by, [], []⟩, ⟨("ends_by", none), "ends_by", "ends_by", defArgs st_ends_by, defBody st_ends_by, defScope st_ends_by, [], []⟩, ⟨("end", none), "end", "end", defArgs st_end, defBody st_end, defScope st_end, [], []⟩, ⟨("sorts", none), "sorts", "sorts", defArgs st_sorts, defBody st_sorts, defScope st_sorts, [], []⟩, ⟨("ends", none), "ends", "ends", defArgs st_ends, defBody st_ends, defScope st_ends, [], []⟩, ⟨("parting_by", none), "parting_by", "parting_by", defArgs st_alike_parting_by, defBody st_alike_parting_by, defScope st_alike_parting_by, [], []⟩, ⟨("further_by", none), "further_by", "further_by", defArgs st_further_by, defBody st_further_by, defScope st_further_by, [], []⟩, ⟨("check_two", none), "check_two", "check_two", defArgs st_check_two, defBody st_check_two, defScope st_check_two, [], []⟩, ⟨("are_alike", none), "are_alike", "are_alike", defArgs st_are_alike, defBody st_are_alike, defScope st_are_alike, [], []⟩, ⟨("parting", none), "parting", "parting", defArgs st_parting, defBody st_parting, defScope st_parting, [], []⟩, ⟨("is_narrower", none), "is_narrower", "is_narrower", defArgs st_is_narrower, defBody st_is_narrower, defScope st_is_narrower, [], []⟩, ⟨("_law_pool", none), "_law_pool", "_law_pool", defArgs st__law_pool_k40, defBody st__law_pool_k40, defScope st__law_pool_k40, [], []⟩, ⟨("_law_take", none), "_law_take", "_law_take", defArgs st__law_take_k40, defBody st__law_take_k40, defScope st__law_take_k40, [], []⟩, ⟨("_law_of", none), "_law_of", "_law_of", defArgs st__law_of_k40, defBody st__law_of_k40, defScope st__law_of_k40, [], []⟩, ⟨("_law_pairs_of", none), "_law_pairs_of", "_law_pairs_of", defArgs st__law_pairs_of_k40, defBody st__law_pairs_of_k40, defScope st__law_pairs_of_k40, [], []⟩, ⟨("_law_net", none), "_law_net", "_law_net", defArgs st__law_net_k40, defBody st__law_net_k40, defScope st__law_net_k40, [], []⟩, ⟨("_law_right", none), "_law_right", "_law_right", defArgs st__law_right_k52, defBody st__law_right_k52, defScope st__law_right_k52, [], []⟩, ⟨("law", none), "law", "law", defArgs st_law_k52, defBody st_law_k52, defScope st_law_k52, [], []⟩]
def tfs : List He.Defn := [("wrong_step", none)]
def exs : PySem.W.Frag → Bool := fun K => decide (tfs.map fun p => (He.cT K p).2).Nodup
def TT (K : PySem.W.Frag) : Tb := [((He.cT K ("wrong_step", none)).2, (("wrong_step" : Str) ++ ".<locals>." ++ "<lambda>" : Str))]
abbrev RR : PySem.W.OpenRow := PySem.W.OpenLaw.row PySem.Challenge.rw_laneswaps_k52_whole_alike_beside_nets
abbrev hks : PySem.W.Hook := He.hookX 4 fas fns [] tfs exs
def obs (s : PySem.W.SharedT) : He.AlX := He.obsX 4 fas fns [] tfs exs (HandSHeadRun.getT s)
theorem obs_eq (s : PySem.W.SharedT) : obs s = hks.obs s.abs := He.obsX_eq (HandSHeadRun.getT_eq s)
def lse : List Str := (["LaneError", "InvalidNumber", "InvalidRow", "InvalidSteps", "is_whole", "is_between", "is_tuple_of", "first_wrong", "FEWEST_LANES", "MOST_LANES", "MOST_STEPS", "MOST_NUMBER", "is_some_row", "is_lanes", "is_lane", "is_step", "wrong_step", "is_row", "check_lanes", "check_steps"] : List Str) ++ (["check_net", "check_row", "end_by", "is_sorted_by", "all_marks", "gainsay_by", "sorts_by", "ends_by", "end", "sorts", "ends", "parting_by", "further_by", "check_two", "are_alike", "parting", "is_narrower", "_law_pool", "_law_take", "_law_of"] : List Str) ++ (["_law_pairs_of", "_law_net", "_law_right"] : List Str)
theorem run_eq (w : World) : HandSHeadRun.RunEq RR (PySem.W.view RR.prog [48]) hks obs 3000 lse w := by
  intro os
  kernel_rfl
theorem one_of : ∀ {l : List (Addr × Str)}, (l.map (·.1)).Nodup → ∀ {p : Addr × Str}, p ∈ l → ∀ q ∈ l, q.1 = p.1 → q.2 = p.2
  | [], _, _, h, _, _, _ => nomatch h
  | a :: l, nd, p, hp, q, hq, e => by
    rw [List.map_cons, List.nodup_cons] at nd
    rcases List.mem_cons.mp hp with h1 | h1 <;> rcases List.mem_cons.mp hq with h2 | h2
    · rw [h1, h2]
    · exact (nd.1 (List.mem_map.mpr ⟨q, h2, by rw [e, h1]⟩)).elim
    · exact (nd.1 (List.mem_map.mpr ⟨p, h1, by rw [← e, h2]⟩)).elim
    · exact one_of nd.2 h1 q h2 e
theorem law_has {P : Program} {w : World} {K : PySem.W.Frag} {h base : Heap} {mg : Str → Option Value} (X : K.In h) (G : h.Ns mainGlobals mg) (c : He.SaysX fas fns [] tfs exs w h K) (hT : ∀ p ∈ tfs.map (He.cT K), TabB base mg p.1 p.2) : Has P w K mg base (TT K) 13 "law" "law" st_law_k52 ["script"] g_law_k52 := by
  have em : decide (tfs.map fun p => (He.cT K p).2).Nodup = true := by exact c.more
  have nd : ((TT K).map (·.1)).Nodup := of_decide_eq_true em
  have D_is_whole : Def K mg "is_whole" "is_whole" st_is_whole := def_of X G c.t.d 0 0
  have D_is_between : Def K mg "is_between" "is_between" st_is_between := def_of X G c.t.d 1 1
  have D_is_tuple_of : Def K mg "is_tuple_of" "is_tuple_of" st_is_tuple_of := def_of X G c.t.d 2 2
  have D_first_wrong : Def K mg "first_wrong" "first_wrong" st_first_wrong := def_of X G c.t.d 3 3
  have D_is_some_row : Def K mg "is_some_row" "is_some_row" st_is_some_row := def_of X G c.t.d 4 4
  have D_is_lanes : Def K mg "is_lanes" "is_lanes" st_is_lanes := def_of X G c.t.d 5 5
  have D_is_lane : Def K mg "is_lane" "is_lane" st_is_lane := def_of X G c.t.d 6 6
  have D_is_step : Def K mg "is_step" "is_step" st_is_step := def_of X G c.t.d 7 7
  have D_wrong_step : Def K mg "wrong_step" "wrong_step" st_wrong_step := def_of X G c.t.d 8 8
  have D_nets_is_row : Def K mg "is_row" "is_row" st_nets_is_row := def_of X G c.t.d 9 9
  have D_check_lanes : Def K mg "check_lanes" "check_lanes" st_check_lanes := def_of X G c.t.d 10 10
  have D_check_steps : Def K mg "check_steps" "check_steps" st_check_steps := def_of X G c.t.d 11 11
  have D_check_net : Def K mg "check_net" "check_net" st_check_net := def_of X G c.t.d 12 12
  have D_check_row : Def K mg "check_row" "check_row" st_check_row := def_of X G c.t.d 13 13
  have D_end_by : Def K mg "end_by" "end_by" st_end_by := def_of X G c.t.d 14 14
  have D_is_sorted_by : Def K mg "is_sorted_by" "is_sorted_by" st_is_sorted_by := def_of X G c.t.d 15 15
  have D_all_marks : Def K mg "all_marks" "all_marks" st_all_marks := def_of X G c.t.d 16 16
  have D_nets_gainsay_by : Def K mg "gainsay_by" "gainsay_by" st_nets_gainsay_by := def_of X G c.t.d 17 17
  have D_sorts_by : Def K mg "sorts_by" "sorts_by" st_sorts_by := def_of X G c.t.d 18 18
  have D_ends_by : Def K mg "ends_by" "ends_by" st_ends_by := def_of X G c.t.d 19 19
  have D_end : Def K mg "end" "end" st_end := def_of X G c.t.d 20 20
  have D_sorts : Def K mg "sorts" "sorts" st_sorts := def_of X G c.t.d 21 21
  have D_ends : Def K mg "ends" "ends" st_ends := def_of X G c.t.d 22 22
  have D_alike_parting_by : Def K mg "parting_by" "parting_by" st_alike_parting_by := def_of X G c.t.d 23 23
  have D_further_by : Def K mg "further_by" "further_by" st_further_by := def_of X G c.t.d 24 24
  have D_check_two : Def K mg "check_two" "check_two" st_check_two := def_of X G c.t.d 25 25
  have D_are_alike : Def K mg "are_alike" "are_alike" st_are_alike := def_of X G c.t.d 26 26
  have D_parting : Def K mg "parting" "parting" st_parting := def_of X G c.t.d 27 27
  have D_is_narrower : Def K mg "is_narrower" "is_narrower" st_is_narrower := def_of X G c.t.d 28 28
  have D__law_pool_k40 : Def K mg "_law_pool" "_law_pool" st__law_pool_k40 := def_of X G c.t.d 29 29
  have D__law_take_k40 : Def K mg "_law_take" "_law_take" st__law_take_k40 := def_of X G c.t.d 30 30
  have D__law_of_k40 : Def K mg "_law_of" "_law_of" st__law_of_k40 := def_of X G c.t.d 31 31
  have D__law_pairs_of_k40 : Def K mg "_law_pairs_of" "_law_pairs_of" st__law_pairs_of_k40 := def_of X G c.t.d 32 32
  have D__law_net_k40 : Def K mg "_law_net" "_law_net" st__law_net_k40 := def_of X G c.t.d 33 33
  have D__law_right_k52 : Def K mg "_law_right" "_law_right" st__law_right_k52 := def_of X G c.t.d 34 34
  have D_law_k52 : Def K mg "law" "law" st_law_k52 := def_of X G c.t.d 35 35
  have z_abs : mg "abs" = none := He.free_ok X G (c.t.d.fact 36 (f := .free "abs") rfl)
  have z_all : mg "all" = none := He.free_ok X G (c.t.d.fact 37 (f := .free "all") rfl)
  have z_bool : mg "bool" = none := He.free_ok X G (c.t.d.fact 38 (f := .free "bool") rfl)
  have z_divmod : mg "divmod" = none := He.free_ok X G (c.t.d.fact 39 (f := .free "divmod") rfl)
  have z_enumerate : mg "enumerate" = none := He.free_ok X G (c.t.d.fact 40 (f := .free "enumerate") rfl)
  have z_int : mg "int" = none := He.free_ok X G (c.t.d.fact 41 (f := .free "int") rfl)
  have z_isinstance : mg "isinstance" = none := He.free_ok X G (c.t.d.fact 42 (f := .free "isinstance") rfl)
  have z_len : mg "len" = none := He.free_ok X G (c.t.d.fact 43 (f := .free "len") rfl)
  have z_list : mg "list" = none := He.free_ok X G (c.t.d.fact 44 (f := .free "list") rfl)
  have z_max : mg "max" = none := He.free_ok X G (c.t.d.fact 45 (f := .free "max") rfl)
  have z_min : mg "min" = none := He.free_ok X G (c.t.d.fact 46 (f := .free "min") rfl)
  have z_range : mg "range" = none := He.free_ok X G (c.t.d.fact 47 (f := .free "range") rfl)
  have z_set : mg "set" = none := He.free_ok X G (c.t.d.fact 48 (f := .free "set") rfl)
  have z_sorted : mg "sorted" = none := He.free_ok X G (c.t.d.fact 49 (f := .free "sorted") rfl)
  have z_sum : mg "sum" = none := He.free_ok X G (c.t.d.fact 50 (f := .free "sum") rfl)
  have z_tuple : mg "tuple" = none := He.free_ok X G (c.t.d.fact 51 (f := .free "tuple") rfl)
  have z_zip : mg "zip" = none := He.free_ok X G (c.t.d.fact 52 (f := .free "zip") rfl)
  have hc_FEWEST_LANES := He.int_ok X G (c.t.d.fact 53 (f := .int "FEWEST_LANES" 2) rfl)
  have hc_MOST_LANES := He.int_ok X G (c.t.d.fact 54 (f := .int "MOST_LANES" 6) rfl)
  have hc_MOST_NUMBER := He.int_ok X G (c.t.d.fact 55 (f := .int "MOST_NUMBER" 99) rfl)
  have hc_MOST_STEPS := He.int_ok X G (c.t.d.fact 56 (f := .int "MOST_STEPS" 24) rfl)
  have h_is_whole := has_is_whole (P := P) (w := w) (K := K) (mg := mg) (base := base) (T := TT K) D_is_whole (by intro x hx; simp only [List.mem_cons, List.not_mem_nil, or_false] at hx; rcases hx with rfl | rfl | rfl <;> assumption)
  have h_is_between := has_is_between (P := P) (w := w) (K := K) (mg := mg) (base := base) (T := TT K) D_is_between h_is_whole (fun x hx => nomatch hx)
  have h_is_tuple_of := has_is_tuple_of (P := P) (w := w) (K := K) (mg := mg) (base := base) (T := TT K) D_is_tuple_of (by intro x hx; simp only [List.mem_cons, List.not_mem_nil, or_false] at hx; rcases hx with rfl | rfl | rfl <;> assumption)
  have h_is_some_row := has_is_some_row (P := P) (w := w) (K := K) (mg := mg) (base := base) (T := TT K) D_is_some_row (by intro x hx; simp only [List.mem_cons, List.not_mem_nil, or_false] at hx; rcases hx with rfl | rfl | rfl <;> assumption)
  have h_is_lanes := has_is_lanes (P := P) (w := w) (K := K) (mg := mg) (base := base) (T := TT K) D_is_lanes h_is_between hc_FEWEST_LANES hc_MOST_LANES (fun x hx => nomatch hx)
  have h_is_lane := has_is_lane (P := P) (w := w) (K := K) (mg := mg) (base := base) (T := TT K) D_is_lane h_is_between (fun x hx => nomatch hx)
  have h_is_step := has_is_step (P := P) (w := w) (K := K) (mg := mg) (base := base) (T := TT K) D_is_step h_is_lane h_is_tuple_of (by intro x hx; simp only [List.mem_cons, List.not_mem_nil, or_false] at hx; rcases hx with rfl <;> assumption)
  have h_wrong_step := has_wrong_step (P := P) (w := w) (K := K) (mg := mg) (base := base) (T := TT K) D_wrong_step D_first_wrong (tab_head (He.glo_ok X G (c.t.d.fact 8 (f := .glo "wrong_step") rfl)) hT (List.mem_map.mpr ⟨("wrong_step", none), by decide, rfl⟩) List.mem_cons_self (one_of nd List.mem_cons_self)) h_is_step (by intro x hx; simp only [List.mem_cons, List.not_mem_nil, or_false] at hx; rcases hx with rfl <;> assumption)
  have h_nets_is_row := has_nets_is_row (P := P) (w := w) (K := K) (mg := mg) (base := base) (T := TT K) D_nets_is_row h_is_between h_is_tuple_of hc_MOST_NUMBER (by intro x hx; simp only [List.mem_cons, List.not_mem_nil, or_false] at hx; rcases hx with rfl <;> assumption)
  have h_check_lanes := has_check_lanes (P := P) (w := w) (K := K) (mg := mg) (base := base) (T := TT K) D_check_lanes h_is_lanes (fun x hx => nomatch hx)
  have h_check_steps := has_check_steps (P := P) (w := w) (K := K) (mg := mg) (base := base) (T := TT K) D_check_steps h_is_some_row h_wrong_step hc_MOST_STEPS (fun x hx => nomatch hx)
  have h_check_net := has_check_net (P := P) (w := w) (K := K) (mg := mg) (base := base) (T := TT K) D_check_net h_check_lanes h_check_steps (fun x hx => nomatch hx)
  have h_check_row := has_check_row (P := P) (w := w) (K := K) (mg := mg) (base := base) (T := TT K) D_check_row h_nets_is_row (fun x hx => nomatch hx)
  have h_end_by := has_end_by (P := P) (w := w) (K := K) (mg := mg) (base := base) (T := TT K) D_end_by (by intro x hx; simp only [List.mem_cons, List.not_mem_nil, or_false] at hx; rcases hx with rfl | rfl <;> assumption)
  have h_is_sorted_by := has_is_sorted_by (P := P) (w := w) (K := K) (mg := mg) (base := base) (T := TT K) D_is_sorted_by (by intro x hx; simp only [List.mem_cons, List.not_mem_nil, or_false] at hx; rcases hx with rfl | rfl <;> assumption)
  have h_all_marks := has_all_marks (P := P) (w := w) (K := K) (mg := mg) (base := base) (T := TT K) D_all_marks (by intro x hx; simp only [List.mem_cons, List.not_mem_nil, or_false] at hx; rcases hx with rfl <;> assumption)
  have h_nets_gainsay_by := has_nets_gainsay_by (P := P) (w := w) (K := K) (mg := mg) (base := base) (T := TT K) D_nets_gainsay_by h_all_marks h_end_by h_is_sorted_by (fun x hx => nomatch hx)
  have h_sorts_by := has_sorts_by (P := P) (w := w) (K := K) (mg := mg) (base := base) (T := TT K) D_sorts_by h_nets_gainsay_by (fun x hx => nomatch hx)
  have h_ends_by := has_ends_by (P := P) (w := w) (K := K) (mg := mg) (base := base) (T := TT K) D_ends_by h_all_marks h_end_by (by intro x hx; simp only [List.mem_cons, List.not_mem_nil, or_false] at hx; rcases hx with rfl | rfl | rfl <;> assumption)
  have h_end := has_end (P := P) (w := w) (K := K) (mg := mg) (base := base) (T := TT K) D_end h_check_net h_check_row h_end_by (fun x hx => nomatch hx)
  have h_sorts := has_sorts (P := P) (w := w) (K := K) (mg := mg) (base := base) (T := TT K) D_sorts h_check_net h_sorts_by (fun x hx => nomatch hx)
  have h_ends := has_ends (P := P) (w := w) (K := K) (mg := mg) (base := base) (T := TT K) D_ends h_check_net h_ends_by (fun x hx => nomatch hx)
  have h_alike_parting_by := has_alike_parting_by (P := P) (w := w) (K := K) (mg := mg) (base := base) (T := TT K) D_alike_parting_by h_all_marks h_end_by (fun x hx => nomatch hx)
  have h_further_by := has_further_by (P := P) (w := w) (K := K) (mg := mg) (base := base) (T := TT K) D_further_by h_ends_by (fun x hx => nomatch hx)
  have h_check_two := has_check_two (P := P) (w := w) (K := K) (mg := mg) (base := base) (T := TT K) D_check_two h_check_net h_check_steps (fun x hx => nomatch hx)
  have h_are_alike := has_are_alike (P := P) (w := w) (K := K) (mg := mg) (base := base) (T := TT K) D_are_alike h_alike_parting_by h_check_two (fun x hx => nomatch hx)
  have h_parting := has_parting (P := P) (w := w) (K := K) (mg := mg) (base := base) (T := TT K) D_parting h_alike_parting_by h_check_two (fun x hx => nomatch hx)
  have h_is_narrower := has_is_narrower (P := P) (w := w) (K := K) (mg := mg) (base := base) (T := TT K) D_is_narrower h_check_two h_further_by (fun x hx => nomatch hx)
  have h__law_pool_k40 := has__law_pool_k40 (P := P) (w := w) (K := K) (mg := mg) (base := base) (T := TT K) D__law_pool_k40 (by intro x hx; simp only [List.mem_cons, List.not_mem_nil, or_false] at hx; rcases hx with rfl | rfl <;> assumption)
  have h__law_take_k40 := has__law_take_k40 (P := P) (w := w) (K := K) (mg := mg) (base := base) (T := TT K) D__law_take_k40 (by intro x hx; simp only [List.mem_cons, List.not_mem_nil, or_false] at hx; rcases hx with rfl <;> assumption)
  have h__law_of_k40 := has__law_of_k40 (P := P) (w := w) (K := K) (mg := mg) (base := base) (T := TT K) D__law_of_k40 h__law_take_k40 (by intro x hx; simp only [List.mem_cons, List.not_mem_nil, or_false] at hx; rcases hx with rfl <;> assumption)
  have h__law_pairs_of_k40 := has__law_pairs_of_k40 (P := P) (w := w) (K := K) (mg := mg) (base := base) (T := TT K) D__law_pairs_of_k40 (by intro x hx; simp only [List.mem_cons, List.not_mem_nil, or_false] at hx; rcases hx with rfl <;> assumption)
  have h__law_net_k40 := has__law_net_k40 (P := P) (w := w) (K := K) (mg := mg) (base := base) (T := TT K) D__law_net_k40 h__law_of_k40 h__law_pairs_of_k40 h__law_take_k40 (by intro x hx; simp only [List.mem_cons, List.not_mem_nil, or_false] at hx; rcases hx with rfl | rfl | rfl | rfl <;> assumption)
  have h__law_right_k52 := has__law_right_k52 (P := P) (w := w) (K := K) (mg := mg) (base := base) (T := TT K) D__law_right_k52 h__law_net_k40 h__law_of_k40 h__law_take_k40 h_are_alike h_end h_ends h_is_narrower h_parting h_sorts (by intro x hx; simp only [List.mem_cons, List.not_mem_nil, or_false] at hx; rcases hx with rfl | rfl | rfl | rfl <;> assumption)
  have h_law_k52 := has_law_k52 (P := P) (w := w) (K := K) (mg := mg) (base := base) (T := TT K) D_law_k52 h__law_pool_k40 h__law_right_k52 (by intro x hx; simp only [List.mem_cons, List.not_mem_nil, or_false] at hx; rcases hx with rfl | rfl | rfl | rfl <;> assumption)
  exact h_law_k52
end DL.Lw
open PySem PySem.W PySem.Calls PyProof.Rows
set_option maxHeartbeats 0 in
theorem PySem.Challenge.cw_laneswaps_k52_whole_alike_beside_nets_holds : PySem.Challenge.rw_laneswaps_k52_whole_alike_beside_nets.Holds := by
  w_on; o_law
  refine HandSHeadRun.head_any (r := OpenLaw.row PySem.Challenge.rw_laneswaps_k52_whole_alike_beside_nets) (q := view (OpenLaw.row PySem.Challenge.rw_laneswaps_k52_whole_alike_beside_nets).prog [48]) (H := DL.Lw.hks) (ob := DL.Lw.obs) (M := 3000) (loose := DL.Lw.lse) (d := HandSHeadRun.topDef (OpenLaw.row PySem.Challenge.rw_laneswaps_k52_whole_alike_beside_nets).prog 48) (kwd := []) DL.Lw.obs_eq
    (by kernel_rfl) (fun s => by kernel_rfl) DL.Lw.run_eq (by kernel_rfl) (by kernel_rfl) (by kernel_rfl) (by rfl) (by first | assumption | decide +kernel) (by decide +kernel) ⟨rfl, rfl, rfl, rfl, rfl, by decide +kernel⟩ ?hw ?hc
  case hw => w_witness2
  case hc =>
    refine DL.walk_g (l := PySem.Challenge.rw_laneswaps_k52_whole_alike_beside_nets) (n := 63) (k := 13) (x := "script") rfl (by decide) (by kernel_rfl) ⟨rfl, by decide, by decide⟩ ?F
    intro w mg fa h Y G hmg0
    obtain ⟨K, KX, c⟩ := Y
    have hmg : mg ("law" : PySem.Str) = some (.ref fa) := by
      have e : (HandSHeadRun.topDef (OpenLaw.row PySem.Challenge.rw_laneswaps_k52_whole_alike_beside_nets).prog 48).name = ("law" : PySem.Str) := by kernel_rfl
      rw [← e]
      exact hmg0
    exact DL.law_end (l := PySem.Challenge.rw_laneswaps_k52_whole_alike_beside_nets) (TT := DL.Lw.TT) KX G hmg c (DL.def_of KX G c.t.d 35 35) DL.Lw.bf_law_k52 (fun p hp => (show (DL.Lw.TT K).map (·.1) = (DL.Lw.tfs.map (He.cT K)).map (·.2) from rfl) ▸ List.mem_map.mpr ⟨p, hp, rfl⟩) (fun ns hl _ => ⟨ns, rfl, hl, rfl⟩) fun base kb nb tb => DL.Lw.law_has KX G c tb
