import PyProof.Rows.All
import Wide.All
import OpenK.AllK
import Wide.FinOn
import HandS.ClsMeth
import HandS.Deep
import HandS.EndBits
import HandS.FStr
import HandS.ForExc
import HandS.ForMost
import HandS.Head2
import HandS.HeadEnd
import HandS.HeadHook1
import HandS.HeadHook4
import HandS.HeadNt
import HandS.IsInst
import HandS.Property
import HandS.RaiseMore
import HandS.SetFor
import HandS.Star
import HandS.Style
import HandS.Text
import HandS.TryMany
import HandS.TupAny
import HandS.TupMul
import HandS.Walk
import HandS.WideBits
import HandS.Zip
import KE.DataFind
import KE.DataMinMax
import KE.DatumIndex
import KE.GoesEnum
import KE.GoesMore
import KE.GoesZip
import KE.KUnpackStar
import PyProof.P3In
import PyProof.ReprRoads
import PyProof.SumAny
import PySem.Challenge.RW_crossarms_k43_units_and_works
set_option Elab.async false
set_option linter.all false
set_option maxRecDepth 100000
set_option maxHeartbeats 0
/-! The second level: plain data D over HandS. Tuples are trees; lists, dicts, instances stand in a store by address. -/
namespace C2
open PySem PySem.Spec PyProof.Rows L2

inductive D where
  | non | bl (b : Bool) | int (i : Int) | str (s : Str) | tup (xs : List D) | ref (a : Addr)
  /-- the script: a list of ints that is read only -/
  | scr (ns : List Int)
  /-- a class of the module, by its name -/
  | cls (c : Str)
deriving Inhabited

inductive Ob where
  /-- a list -/
  | lst (xs : List D)
  /-- a dict with keys that are tuples of ints; with int keys -/
  | dT (kvs : List (List Int × D)) | dI (kvs : List (Int × D))
  /-- an instance: its class's name, its attributes in order -/
  | ins (c : Str) (fs : List (Str × D))

abbrev Sto := Addr → Option Ob
def up (S : Sto) (a : Addr) (o : Ob) : Sto := fun b => if b = a then some o else S b
theorem up_same {S : Sto} {a : Addr} {o : Ob} : up S a o a = some o := if_pos rfl
theorem up_ne {S : Sto} {a b : Addr} {o : Ob} (h : b ≠ a) : up S a o b = S b := if_neg h
theorem up_up {S : Sto} {a : Addr} {o u : Ob} : up (up S a o) a u = up S a u := by
  funext b; unfold up; split <;> rfl
theorem up_comm {S : Sto} {a b : Addr} {o u : Ob} (h : a ≠ b) : up (up S a o) b u = up (up S b u) a o := by
  funext c; unfold up
  by_cases h1 : c = a
  · by_cases h2 : c = b
    · exact absurd (h1.symm.trans h2) h
    · simp [h1, h]
  · simp [h1]
/-- every object of S stands in S' -/
def Sub (S S' : Sto) : Prop := ∀ a o, S a = some o → S' a = some o
theorem Sub.rfl' {S : Sto} : Sub S S := fun _ _ h => h
theorem Sub.trans {S S1 S2 : Sto} (a : Sub S S1) (b : Sub S1 S2) : Sub S S2 := fun c o h => b c o (a c o h)
theorem Sub.new {S : Sto} {a : Addr} {o : Ob} (h : S a = none) : Sub S (up S a o) := fun b u e => by
  rw [up_ne (by rintro rfl; rw [h] at e; cases e)]; exact e
theorem Sub.new' {S S1 : Sto} {a : Addr} {o : Ob} (x : Sub S S1) (h : S1 a = none) : Sub S (up S1 a o) := x.trans (Sub.new h)
theorem Sub.free {S S1 : Sto} {a : Addr} (x : Sub S S1) (h : S1 a = none) : S a = none := by
  cases e : S a with
  | none => rfl
  | some u => rw [x a u e] at h; cases h
/-- a store to an object that is not in S -/
theorem Sub.out {S S1 : Sto} {a : Addr} {o : Ob} (x : Sub S S1) (h : S a = none) : Sub S (up S1 a o) := fun b u e => by
  rw [up_ne (by rintro rfl; rw [h] at e; cases e)]; exact x b u e

def isI : V → Bool
  | .int _ => true
  | _ => false

/-- a tuple of xs stands at a: tracked as it is where all items are ints (so that it may be a dict's key), else known to its object -/
def TupT (H : Hp) (a : Addr) (vs : List V) : Prop :=
  if vs.all isI = true then H a = some (.tup vs) else ∃ o : Obj, H a = some (.frz o (.tup vs)) ∧ o.dict = none
theorem TupT.rd {H : Hp} {a : Addr} {vs : List V} (h : TupT H a vs) : Rd H a (.tup vs) := by
  unfold TupT at h
  split at h
  · exact .inl h
  · obtain ⟨o, h, _⟩ := h; exact .inr ⟨o, h⟩
theorem TupT.sq {K : PySem.W.Frag} {H : Hp} {a : Addr} {vs : List V} (h : TupT H a vs) : SqT K H a vs := .inl h.rd
theorem TupT.some {H : Hp} {a : Addr} {vs : List V} (h : TupT H a vs) : ∃ o, H a = some o := by
  unfold TupT at h
  split at h
  · exact ⟨_, h⟩
  · obtain ⟨o, h, _⟩ := h; exact ⟨_, h⟩

/-- a list that never changes: locked, or of the module -/
def SqF (K : PySem.W.Frag) (H : Hp) (a : Addr) (xs : List V) : Prop :=
  (∃ o, H a = some (.frz o (.lst xs))) ∨
    ∃ (o : Obj) (its : Array Value) (n : Nat), K.lookup a = some o ∧ o.cls = .type "list" ∧ o.dict = none ∧ o.data = .seq its n ∧ its.size ≤ sizeLine ∧ Vals xs its.toList
theorem SqF.sq {K : PySem.W.Frag} {H : Hp} {a : Addr} {xs : List V} (h : SqF K H a xs) : SqL K H a xs := by
  rcases h with ⟨o, h⟩ | h
  · exact .inl (.inr ⟨o, h⟩)
  · exact .inr h
mutual
def RD (K : PySem.W.Frag) (H : Hp) : D → V → Prop
  | .non, v => v = .non
  | .bl b, v => v = .bl b
  | .int i, v => v = .int i
  | .str s, v => v = .str s
  | .ref a, v => v = .ref a
  | .scr ns, v => ∃ a, v = .ref a ∧ SqF K H a (ns.map V.int)
  | .cls c, v => v = .ref (He.ga K c)
  | .tup ds, v => ∃ a vs, v = .ref a ∧ TupT H a vs ∧ RDs K H ds vs
def RDs (K : PySem.W.Frag) (H : Hp) : List D → List V → Prop
  | [], vs => vs = []
  | d :: ds, vs => ∃ v ws, vs = v :: ws ∧ RD K H d v ∧ RDs K H ds ws
end

/-- what a step keeps: the tuples, what is locked -/
structure Tle (H H' : Hp) : Prop where
  tup : ∀ a vs, H a = some (.tup vs) → H' a = some (.tup vs)
  frz : ∀ a o u, H a = some (.frz o u) → H' a = some (.frz o u)
theorem Tle.rfl' {H : Hp} : Tle H H := ⟨fun _ _ h => h, fun _ _ _ h => h⟩
theorem Tle.trans {H H1 H2 : Hp} (a : Tle H H1) (b : Tle H1 H2) : Tle H H2 := ⟨fun c vs h => b.tup c vs (a.tup c vs h), fun c o u h => b.frz c o u (a.frz c o u h)⟩
theorem Tle.tt {H H' : Hp} (t : Tle H H') {a : Addr} {vs : List V} (h : TupT H a vs) : TupT H' a vs := by
  unfold TupT at h ⊢
  split
  · rename_i c; rw [if_pos c] at h; exact t.tup _ _ h
  · rename_i c; rw [if_neg c] at h
    obtain ⟨o, h, d⟩ := h
    exact ⟨o, t.frz _ _ _ h, d⟩
theorem Tle.sqf {K : PySem.W.Frag} {H H' : Hp} (t : Tle H H') {a : Addr} {vs : List V} (h : SqF K H a vs) : SqF K H' a vs := by
  rcases h with ⟨o, h⟩ | h
  · exact .inl ⟨o, t.frz _ _ _ h⟩
  · exact .inr h
theorem Tle.new {H : Hp} {p : Addr} {o : HO} (h : H p = none) : Tle H (upd H p o) :=
  ⟨fun a u e => by rw [upd_ne (ne_of_none e h)]; exact e, fun a o u e => by rw [upd_ne (ne_of_none e h)]; exact e⟩
/-- what is written is no tuple, and not locked -/
def NoTup : HO → Prop
  | .tup _ => False
  | .frz _ _ => False
  | _ => True
theorem Tle.put {H : Hp} {p : Addr} {o u : HO} (h : H p = some o) (hn : NoTup o) : Tle H (upd H p u) :=
  ⟨fun a w e => by rw [upd_ne (by rintro rfl; rw [h] at e; cases e; exact hn)]; exact e,
   fun a w x e => by rw [upd_ne (by rintro rfl; rw [h] at e; cases e; exact hn)]; exact e⟩

section
variable {K : PySem.W.Frag}
mutual
theorem RD.mono {H H' : Hp} (t : Tle H H') : ∀ {d : D} {v : V}, RD K H d v → RD K H' d v
  | .non, _, h => h
  | .bl _, _, h => h
  | .int _, _, h => h
  | .str _, _, h => h
  | .ref _, _, h => h
  | .cls _, _, h => h
  | .scr ns, v, h => by
    unfold RD at h ⊢
    obtain ⟨a, e, x⟩ := h
    exact ⟨a, e, t.sqf x⟩
  | .tup ds, v, h => by
    unfold RD at h ⊢
    obtain ⟨a, vs, e, x, r⟩ := h
    exact ⟨a, vs, e, t.tt x, RDs.mono t r⟩
theorem RDs.mono {H H' : Hp} (t : Tle H H') : ∀ {ds : List D} {vs : List V}, RDs K H ds vs → RDs K H' ds vs
  | [], _, h => h
  | d :: ds, vs, h => by
    unfold RDs at h ⊢
    obtain ⟨v, ws, e, r, rs⟩ := h
    exact ⟨v, ws, e, RD.mono t r, RDs.mono t rs⟩
end

theorem RDs.length {H : Hp} : ∀ {ds : List D} {vs : List V}, RDs K H ds vs → ds.length = vs.length
  | [], _, h => by unfold RDs at h; subst h; rfl
  | d :: ds, vs, h => by
    unfold RDs at h
    obtain ⟨v, ws, rfl, _, rs⟩ := h
    simp [RDs.length rs]
theorem RDs.get {H : Hp} : ∀ {ds : List D} {vs : List V} {i : Nat} {d : D}, RDs K H ds vs → ds[i]? = some d → ∃ v, vs[i]? = some v ∧ RD K H d v
  | [], _, i, d, _, e => by simp at e
  | _ :: _, _, 0, d, h, e => by
    unfold RDs at h
    obtain ⟨v, ws, rfl, r, _⟩ := h
    simp at e; subst e
    exact ⟨v, rfl, r⟩
  | _ :: ds, _, i + 1, d, h, e => by
    unfold RDs at h
    obtain ⟨v, ws, rfl, _, rs⟩ := h
    obtain ⟨w, h1, h2⟩ := RDs.get (i := i) (d := d) rs (by simpa using e)
    exact ⟨w, by simpa using h1, h2⟩
theorem RDs.getV {H : Hp} {ds : List D} {vs : List V} {i : Nat} {v : V} (h : RDs K H ds vs) (e : vs[i]? = some v) : ∃ d, ds[i]? = some d ∧ RD K H d v := by
  have l := h.length
  have hi : i < vs.length := (List.getElem?_eq_some_iff.mp e).1
  obtain ⟨w, h1, h2⟩ := h.get (i := i) (d := ds[i]'(by omega)) (by simp)
  rw [e] at h1; cases h1
  exact ⟨_, by simp, h2⟩
theorem RDs.append {H : Hp} : ∀ {ds es : List D} {vs ws : List V}, RDs K H ds vs → RDs K H es ws → RDs K H (ds ++ es) (vs ++ ws)
  | [], es, vs, ws, h, k => by unfold RDs at h; subst h; exact k
  | d :: ds, es, vs, ws, h, k => by
    unfold RDs at h
    obtain ⟨v, us, rfl, r, rs⟩ := h
    show RDs K H (d :: (ds ++ es)) _
    unfold RDs
    exact ⟨v, us ++ ws, rfl, r, RDs.append rs k⟩
theorem RDs.one {H : Hp} {d : D} {v : V} (r : RD K H d v) : RDs K H [d] [v] := by
  unfold RDs; exact ⟨v, [], rfl, r, by unfold RDs; rfl⟩
theorem RDs.cons {H : Hp} {d : D} {v : V} {ds : List D} {vs : List V} (r : RD K H d v) (rs : RDs K H ds vs) : RDs K H (d :: ds) (v :: vs) := by
  unfold RDs; exact ⟨v, vs, rfl, r, rs⟩
theorem RDs.nil {H : Hp} : RDs K H [] [] := by unfold RDs; rfl
theorem RDs.take {H : Hp} : ∀ {ds : List D} {vs : List V} (n : Nat), RDs K H ds vs → RDs K H (ds.take n) (vs.take n)
  | _, _, 0, _ => by simpa using RDs.nil
  | [], vs, n + 1, h => by unfold RDs at h; subst h; exact RDs.nil
  | d :: ds, vs, n + 1, h => by
    unfold RDs at h
    obtain ⟨v, ws, rfl, r, rs⟩ := h
    exact RDs.cons r (RDs.take n rs)
theorem RDs.drop {H : Hp} : ∀ {ds : List D} {vs : List V} (n : Nat), RDs K H ds vs → RDs K H (ds.drop n) (vs.drop n)
  | _, _, 0, h => by simpa using h
  | [], vs, n + 1, h => by unfold RDs at h; subst h; exact RDs.nil
  | d :: ds, vs, n + 1, h => by
    unfold RDs at h
    obtain ⟨v, ws, rfl, r, rs⟩ := h
    exact RDs.drop n rs
theorem RDs.set {H : Hp} {d : D} {v : V} (r : RD K H d v) : ∀ {ds : List D} {vs : List V} (n : Nat), RDs K H ds vs → RDs K H (ds.set n d) (vs.set n v)
  | [], vs, _, h => by unfold RDs at h; subst h; exact RDs.nil
  | e :: ds, vs, 0, h => by
    unfold RDs at h
    obtain ⟨w, ws, rfl, _, rs⟩ := h
    exact RDs.cons r rs
  | e :: ds, vs, n + 1, h => by
    unfold RDs at h
    obtain ⟨w, ws, rfl, q, rs⟩ := h
    exact RDs.cons q (RDs.set r n rs)
theorem RDs.reverse {H : Hp} : ∀ {ds : List D} {vs : List V}, RDs K H ds vs → RDs K H ds.reverse vs.reverse
  | [], vs, h => by unfold RDs at h; subst h; exact RDs.nil
  | d :: ds, vs, h => by
    unfold RDs at h
    obtain ⟨w, ws, rfl, q, rs⟩ := h
    rw [List.reverse_cons, List.reverse_cons]
    exact RDs.append (RDs.reverse rs) (RDs.one q)
theorem RDs.replicate {H : Hp} {d : D} {v : V} (r : RD K H d v) : ∀ (n : Nat), RDs K H (List.replicate n d) (List.replicate n v)
  | 0 => RDs.nil
  | n + 1 => RDs.cons r (RDs.replicate r n)
theorem RDs.eraseIdx {H : Hp} : ∀ {ds : List D} {vs : List V} (n : Nat), RDs K H ds vs → RDs K H (ds.eraseIdx n) (vs.eraseIdx n)
  | [], vs, _, h => by unfold RDs at h; subst h; exact RDs.nil
  | e :: ds, vs, 0, h => by
    unfold RDs at h
    obtain ⟨w, ws, rfl, _, rs⟩ := h
    exact rs
  | e :: ds, vs, n + 1, h => by
    unfold RDs at h
    obtain ⟨w, ws, rfl, q, rs⟩ := h
    exact RDs.cons q (RDs.eraseIdx n rs)
/-- ints stand for ints -/
theorem RDs.ints {H : Hp} : ∀ {ns : List Int} {vs : List V}, RDs K H (ns.map D.int) vs → vs = ns.map V.int
  | [], vs, h => by simpa [RDs] using h
  | n :: ns, vs, h => by
    rw [List.map_cons] at h
    unfold RDs at h
    obtain ⟨v, ws, rfl, r, rs⟩ := h
    unfold RD at r
    rw [r, RDs.ints rs]; rfl
theorem RDs.ofInts {H : Hp} : ∀ (ns : List Int), RDs K H (ns.map D.int) (ns.map V.int)
  | [] => RDs.nil
  | _ :: ns => RDs.cons (by unfold RD; rfl) (RDs.ofInts ns)

def FsRel (K : PySem.W.Frag) (H : Hp) : List (Str × D) → List (Str × V) → Prop
  | [], gs => gs = []
  | (f, d) :: fs, gs => ∃ v hs, gs = (f, v) :: hs ∧ RD K H d v ∧ FsRel K H fs hs
theorem FsRel.mono {H H' : Hp} (t : Tle H H') : ∀ {fs : List (Str × D)} {gs : List (Str × V)}, FsRel K H fs gs → FsRel K H' fs gs
  | [], _, h => h
  | (f, d) :: fs, gs, h => by
    unfold FsRel at h ⊢
    obtain ⟨v, hs, e, r, rs⟩ := h
    exact ⟨v, hs, e, r.mono t, FsRel.mono t rs⟩

def KvT (K : PySem.W.Frag) (H : Hp) : List (List Int × D) → List (List Key × V) → Prop
  | [], gs => gs = []
  | (k, d) :: fs, gs => ∃ v hs, gs = (k.map Sum.inl, v) :: hs ∧ RD K H d v ∧ KvT K H fs hs
theorem KvT.mono {H H' : Hp} (t : Tle H H') : ∀ {fs : List (List Int × D)} {gs : List (List Key × V)}, KvT K H fs gs → KvT K H' fs gs
  | [], _, h => h
  | (f, d) :: fs, gs, h => by
    unfold KvT at h ⊢
    obtain ⟨v, hs, e, r, rs⟩ := h
    exact ⟨v, hs, e, r.mono t, KvT.mono t rs⟩
def KvI (K : PySem.W.Frag) (H : Hp) : List (Int × D) → List (Key × V) → Prop
  | [], gs => gs = []
  | (k, d) :: fs, gs => ∃ v hs, gs = (Sum.inl k, v) :: hs ∧ RD K H d v ∧ KvI K H fs hs
theorem KvI.mono {H H' : Hp} (t : Tle H H') : ∀ {fs : List (Int × D)} {gs : List (Key × V)}, KvI K H fs gs → KvI K H' fs gs
  | [], _, h => h
  | (f, d) :: fs, gs, h => by
    unfold KvI at h ⊢
    obtain ⟨v, hs, e, r, rs⟩ := h
    exact ⟨v, hs, e, r.mono t, KvI.mono t rs⟩

end
/-- an object of the store as it stands in the abstract heap; ca: where a class of that name stands -/
def RelOb (ca : Str → Addr) (K : PySem.W.Frag) (H : Hp) (a : Addr) : Ob → Prop
  | .lst ds => ∃ vs, H a = some (.lst vs) ∧ RDs K H ds vs
  | .dT kvs => ∃ gs, H a = some (.dT gs) ∧ KvT K H kvs gs
  | .dI kvs => ∃ gs, H a = some (.dK gs) ∧ KvI K H kvs gs
  | .ins c fs => ∃ dx gs, H a = some (.ins (ca c) dx gs) ∧ FsRel K H fs gs
def RelS (ca : Str → Addr) (K : PySem.W.Frag) (H : Hp) (S : Sto) : Prop := ∀ a o, S a = some o → RelOb ca K H a o

section
variable {ca : Str → Addr} {K : PySem.W.Frag} {H H' : Hp} {S S' : Sto} {a p : Addr} {o : Ob}
theorem RelS.sub (r : RelS ca K H S) (s : Sub S' S) : RelS ca K H S' := fun a o e => r a o (s a o e)
/-- an object is kept where its own address is and the tuples are -/
theorem RelOb.keep (t : Tle H H') (h : RelOb ca K H a o) (k : ∀ u, H a = some u → H' a = some u) : RelOb ca K H' a o := by
  cases o with
  | lst ds => obtain ⟨vs, e, r⟩ := h; exact ⟨vs, k _ e, r.mono t⟩
  | dT kvs => obtain ⟨gs, e, r⟩ := h; exact ⟨gs, k _ e, r.mono t⟩
  | dI kvs => obtain ⟨gs, e, r⟩ := h; exact ⟨gs, k _ e, r.mono t⟩
  | ins c fs => obtain ⟨dx, gs, e, r⟩ := h; exact ⟨dx, gs, k _ e, r.mono t⟩
/-- a new object, not in the store -/
theorem RelS.new (r : RelS ca K H S) {p : Addr} {u : HO} (hp : H p = none) : RelS ca K (upd H p u) S := fun a o e =>
  (r a o e).keep (Tle.new hp) fun w q => by rw [upd_ne (ne_of_none q hp)]; exact q
/-- a new object of the store -/
theorem RelS.add (r : RelS ca K H S) {p : Addr} {u : HO} {o : Ob} (hp : H p = none) (n : RelOb ca K (upd H p u) p o) : RelS ca K (upd H p u) (up S p o) := fun a w e => by
  by_cases h : a = p
  · subst h; rw [up_same] at e; cases e; exact n
  · rw [up_ne h] at e; exact r.new hp a w e
/-- an object of the store is written -/
theorem RelS.put (r : RelS ca K H S) {p : Addr} {u w : HO} {o : Ob} (hp : H p = some u) (hn : NoTup u) (n : RelOb ca K (upd H p w) p o) : RelS ca K (upd H p w) (up S p o) := fun a x e => by
  by_cases h : a = p
  · subst h; rw [up_same] at e; cases e; exact n
  · rw [up_ne h] at e
    exact (r a x e).keep (Tle.put hp hn) fun y q => by rw [upd_ne h]; exact q
/-- from one store over one heap to another: tuples and locked objects stay, what the store does not hold stays, what is held behind was held or is new -/
structure Stp (S : Sto) (H : Hp) (S' : Sto) (H' : Hp) : Prop where
  t : Tle H H'
  fr : ∀ a o, H a = some o → S a = none → H' a = some o
  dom : ∀ a o u, S' a = some o → H a = some u → ∃ o', S a = some o'
  liv : ∀ a o, H a = some o → ∃ o', H' a = some o'
theorem Stp.rfl' : Stp S H S H := ⟨Tle.rfl', fun _ _ h _ => h, fun _ o _ h _ => ⟨o, h⟩, fun _ o h => ⟨o, h⟩⟩
theorem Stp.trans {S1 S2 : Sto} {H1 H2 : Hp} (a : Stp S H S1 H1) (b : Stp S1 H1 S2 H2) : Stp S H S2 H2 where
  t := a.t.trans b.t
  fr := fun c o h n => b.fr c o (a.fr c o h n) (by
    cases e : S1 c with
    | none => rfl
    | some w => obtain ⟨o', q⟩ := a.dom c w o e h; rw [n] at q; cases q)
  dom := fun c o u h e => by
    cases q : S c with
    | some w => exact ⟨w, rfl⟩
    | none =>
      obtain ⟨w, z⟩ := b.dom c o u h (a.fr c u e q)
      obtain ⟨w', z'⟩ := a.dom c w u z e
      rw [q] at z'; cases z'
  liv := fun c o h => let ⟨o1, h1⟩ := a.liv c o h; b.liv c o1 h1
theorem Stp.sub {S1 S2 : Sto} {H1 : Hp} (a : Stp S H S1 H1) (s : Sub S2 S1) : Stp S H S2 H1 := ⟨a.t, a.fr, fun c o u h e => a.dom c o u (s c o h) e, a.liv⟩
theorem upd_liv {p : Addr} {u : HO} : ∀ a o, H a = some o → ∃ o', upd H p u a = some o' := fun a o h => by
  by_cases c : a = p
  · subst c; exact ⟨u, upd_same⟩
  · exact ⟨o, by rw [upd_ne c]; exact h⟩
theorem Stp.new {p : Addr} {u : HO} (hp : H p = none) : Stp S H S (upd H p u) :=
  ⟨Tle.new hp, fun a o h _ => by rw [upd_ne (ne_of_none h hp)]; exact h, fun a o u h _ => ⟨o, h⟩, upd_liv⟩
theorem Stp.add {p : Addr} {u : HO} {o : Ob} (hp : H p = none) : Stp S H (up S p o) (upd H p u) :=
  ⟨Tle.new hp, fun a o h _ => by rw [upd_ne (ne_of_none h hp)]; exact h, fun a o u h e => by
    rw [up_ne (ne_of_none e hp)] at h; exact ⟨o, h⟩, upd_liv⟩
theorem Stp.put {p : Addr} {u w : HO} {o o' : Ob} (hs : S p = some o') (hp : H p = some u) (hn : NoTup u) : Stp S H (up S p o) (upd H p w) :=
  ⟨Tle.put hp hn, fun a x h n => by rw [upd_ne (by rintro rfl; rw [hs] at n; cases n)]; exact h, fun a x y h e => by
    by_cases c : a = p
    · subst c; exact ⟨_, hs⟩
    · rw [up_ne c] at h; exact ⟨x, h⟩, upd_liv⟩
/-- a thing that has come since, and that the store does not hold, is written -/
theorem Stp.grow {S1 : Sto} {H1 : Hp} {p : Addr} {u w : HO} (a : Stp S H S1 H1) (h0 : H p = none) (hp : H1 p = some u) (hn : NoTup u) : Stp S H S1 (upd H1 p w) :=
  ⟨a.t.trans (Tle.put hp hn), fun c o h n => by rw [upd_ne (ne_of_none h h0)]; exact a.fr c o h n, a.dom, fun c o h => let ⟨o1, h1⟩ := a.liv c o h; upd_liv c o1 h1⟩
theorem Stp.none {S1 : Sto} {H1 : Hp} {p : Addr} (a : Stp S H S1 H1) (h : H1 p = Option.none) : H p = Option.none := by
  cases e : H p with
  | none => rfl
  | some o => obtain ⟨o', z⟩ := a.liv p o e; rw [h] at z; cases z
theorem Stp.out {S1 : Sto} {H1 : Hp} {p : Addr} {u : HO} (a : Stp S H S1 H1) (h : H p = some u) (n : S p = Option.none) : S1 p = Option.none := by
  cases e : S1 p with
  | none => rfl
  | some o => obtain ⟨o', z⟩ := a.dom p o u e h; rw [n] at z; cases z
/-- a place that is free in the heap: the store without it -/
def drop1 (S : Sto) (p : Addr) : Sto := fun b => if b = p then none else S b
theorem drop1_sub {S : Sto} {p : Addr} : Sub (drop1 S p) S := fun a o e => by
  unfold drop1 at e
  split at e
  · cases e
  · exact e
end
end C2

/-! The second level: what a piece of text means over plain data, and how that is lifted to the hand layer's readings. -/
namespace C2
open PySem PySem.Spec PyProof.Rows L2

abbrev Env := List (Option D)
structure Exc where
  cls : Str
  flds : List (Str × D) := []
abbrev DK := D → Sto → Prop
abbrev XR := Exc → Env → Sto → Prop
abbrev DE := XR → Env → Sto → DK → Prop
abbrev DA := XR → Env → Sto → (List D → Sto → Prop) → Prop
abbrev DT := XR → Env → Sto → (Bool → Sto → Prop) → Prop
/-- what is wanted behind a statement -/
structure DN where
  nx : Env → Sto → Prop
  rt : DK
  ct : Env → Sto → Prop
abbrev DS := XR → DN → Env → Sto → Prop
/-- a target's store; a row of targets -/
abbrev DG := XR → D → Env → Sto → (Env → Sto → Prop) → Prop
abbrev DGs := XR → List D → Env → Sto → (Env → Sto → Prop) → Prop
/-- what is walked: rows of items, what must stay true of the store meanwhile -/
abbrev DI := XR → Env → Sto → (List (List D) → (Sto → Prop) → Sto → Prop) → Prop

inductive FK where
  | fn (x : Str) | me (c m : Str)
deriving DecidableEq
/-- what a call does -/
abbrev Orc := FK → List D → Sto → DK → (Exc → Sto → Prop) → Prop

def look : Env → Nat → Option D
  | [], _ => none
  | o :: _, 0 => o
  | _ :: r, n + 1 => look r n
theorem look_get : ∀ {env : Env} {i : Nat} {d : D}, look env i = some d → env[i]? = some (some d)
  | [], _, _, h => by simp [look] at h
  | o :: r, 0, d, h => by simp [look] at h; simp [h]
  | o :: r, n + 1, d, h => by simpa using look_get (env := r) (i := n) (by simpa [look] using h)

structure RelEnv (K : PySem.W.Frag) (H : Hp) (env : Env) (σ : L2.St) : Prop where
  len : env.length = σ.length
  at_ : ∀ (i : Nat) d, env[i]? = some (some d) → ∃ v, σ[i]? = some (some v) ∧ RD K H d v
theorem RelEnv.mono {K : PySem.W.Frag} {H H' : Hp} {env : Env} {σ : L2.St} (t : Tle H H') (r : RelEnv K H env σ) : RelEnv K H' env σ :=
  ⟨r.len, fun i d e => let ⟨v, h1, h2⟩ := r.at_ i d e; ⟨v, h1, h2.mono t⟩⟩
theorem RelEnv.set {K : PySem.W.Frag} {H : Hp} {env : Env} {σ : L2.St} {i : Nat} {d : D} {v : V} (r : RelEnv K H env σ) (q : RD K H d v) : RelEnv K H (env.set i (some d)) (σ.set i (some v)) :=
  ⟨by simp [r.len], fun j e h => by
    by_cases hj : j = i
    · subst hj
      by_cases hl : j < env.length
      · rw [List.getElem?_set_self hl] at h; cases h
        exact ⟨v, List.getElem?_set_self (by rw [← r.len]; exact hl), q⟩
      · rw [List.getElem?_eq_none (by simpa using hl)] at h; cases h
    · rw [List.getElem?_set_ne (Ne.symm hj)] at h
      obtain ⟨w, h1, h2⟩ := r.at_ j e h
      exact ⟨w, by rw [List.getElem?_set_ne (Ne.symm hj)]; exact h1, h2⟩⟩
theorem RelEnv.unset {K : PySem.W.Frag} {H : Hp} {env : Env} {σ : L2.St} {i : Nat} {o : Option V} (r : RelEnv K H env σ) : RelEnv K H (env.set i none) (σ.set i o) :=
  ⟨by simp [r.len], fun j e h => by
    by_cases hj : j = i
    · subst hj
      by_cases hl : j < env.length
      · rw [List.getElem?_set_self hl] at h; cases h
      · rw [List.getElem?_eq_none (by simpa using hl)] at h; cases h
    · rw [List.getElem?_set_ne (Ne.symm hj)] at h
      obtain ⟨w, h1, h2⟩ := r.at_ j e h
      exact ⟨w, by rw [List.getElem?_set_ne (Ne.symm hj)]; exact h1, h2⟩⟩

abbrev RS (K : PySem.W.Frag) (H : Hp) (S : Sto) : Prop := RelS (He.ga K) K H S
theorem RelS.live {ca : Str → Addr} {K : PySem.W.Frag} {H : Hp} {S : Sto} {a : Addr} {o : Ob} (r : RelS ca K H S) (e : S a = some o) : ∃ u, H a = some u := by
  have h := r a o e
  cases o with
  | lst ds => obtain ⟨vs, e, _⟩ := h; exact ⟨_, e⟩
  | dT kvs => obtain ⟨vs, e, _⟩ := h; exact ⟨_, e⟩
  | dI kvs => obtain ⟨vs, e, _⟩ := h; exact ⟨_, e⟩
  | ins c fs => obtain ⟨_, vs, e, _⟩ := h; exact ⟨_, e⟩
theorem RelS.free {ca : Str → Addr} {K : PySem.W.Frag} {H : Hp} {S : Sto} {a : Addr} (r : RelS ca K H S) (e : H a = none) : S a = none := by
  cases q : S a with
  | none => rfl
  | some o => obtain ⟨u, h⟩ := r.live q; rw [e] at h; cases h

/-- an exception as it lies in the abstract heap -/
def ExR (K : PySem.W.Frag) (H : Hp) (x : Exc) (cls : Value) (d : Option Addr) : Prop :=
  cls = .ref (He.ga K x.cls) ∧ (x.flds ≠ [] → ∃ dd gs, d = some dd ∧ H dd = some (.xd gs) ∧ FsRel K H x.flds gs)
/-- the wished exceptions -/
def XOk (K : PySem.W.Frag) (W : WX) (S₀ : Sto) (H : Hp) (R : XR) : Prop := ∀ x env S σ H' cls d, Stp S₀ H S H' → RelEnv K H' env σ → RS K H' S → ExR K H' x cls d → R x env S → W cls d σ H'
theorem XOk.mono {K : PySem.W.Frag} {W : WX} {S S' : Sto} {H H' : Hp} {R : XR} (t : Stp S H S' H') (x : XOk K W S H R) : XOk K W S' H' R := fun e env S σ H2 c d t2 => x e env S σ H2 c d (t.trans t2)
def KOk (K : PySem.W.Frag) (S₀ : Sto) (H : Hp) (q : DK) (Q : VK) : Prop := ∀ d S v H', Stp S₀ H S H' → RD K H' d v → RS K H' S → q d S → Q v H'
theorem KOk.mono {K : PySem.W.Frag} {S S' : Sto} {H H' : Hp} {q : DK} {Q : VK} (t : Stp S H S' H') (x : KOk K S H q Q) : KOk K S' H' q Q := fun d S v H2 t2 => x d S v H2 (t.trans t2)
def NOk (K : PySem.W.Frag) (S₀ : Sto) (H : Hp) (q : Env → Sto → Prop) (Q : L2.St → Hp → Prop) : Prop := ∀ env S σ H', Stp S₀ H S H' → RelEnv K H' env σ → RS K H' S → q env S → Q σ H'
theorem NOk.mono {K : PySem.W.Frag} {S S' : Sto} {H H' : Hp} {q : Env → Sto → Prop} {Q : L2.St → Hp → Prop} (t : Stp S H S' H') (x : NOk K S H q Q) : NOk K S' H' q Q := fun d S v H2 t2 => x d S v H2 (t.trans t2)

def liftE (K : PySem.W.Frag) (W : WX) (t : DE) : TE := fun σ H Q => ∃ R env S q, RelEnv K H env σ ∧ RS K H S ∧ t R env S q ∧ XOk K W S H R ∧ KOk K S H q Q
def liftA (K : PySem.W.Frag) (W : WX) (t : DA) : TA := fun σ H Q => ∃ R env S q, RelEnv K H env σ ∧ RS K H S ∧ t R env S q ∧ XOk K W S H R ∧
  ∀ ds S' vs H', Stp S H S' H' → RDs K H' ds vs → RS K H' S' → q ds S' → Q vs H'
def liftT (K : PySem.W.Frag) (W : WX) (t : DT) : TT := fun σ H Q => ∃ R env S q, RelEnv K H env σ ∧ RS K H S ∧ t R env S q ∧ XOk K W S H R ∧
  ∀ b S' H', Stp S H S' H' → RS K H' S' → q b S' → Q b H'
def liftS (K : PySem.W.Frag) (W : WX) (t : DS) : TS := fun D σ H => ∃ R N env S, RelEnv K H env σ ∧ RS K H S ∧ t R N env S ∧ XOk K W S H R ∧
  NOk K S H N.nx D.nx ∧ KOk K S H N.rt D.rt ∧ NOk K S H N.ct D.ct
def liftG (K : PySem.W.Frag) (W : WX) (t : DG) : TG := fun v σ H Q => ∃ R d env S q, RelEnv K H env σ ∧ RS K H S ∧ RD K H d v ∧ t R d env S q ∧ XOk K W S H R ∧ NOk K S H q Q
def liftGs (K : PySem.W.Frag) (W : WX) (t : DGs) : TGs := fun vs σ H Q => ∃ R ds env S q, RelEnv K H env σ ∧ RS K H S ∧ RDs K H ds vs ∧ t R ds env S q ∧ XOk K W S H R ∧ NOk K S H q Q
/-- what a turn hands out -/
def RowR (K : PySem.W.Frag) (H : Hp) (mul : Bool) (row : List D) (x : V) : Prop :=
  if mul = true then ∃ a vs, x = .ref a ∧ SqT K H a vs ∧ RDs K H row vs else ∃ d, row = [d] ∧ RD K H d x
structure ItOk (K : PySem.W.Frag) (mul : Bool) (J : It) (rows : List (List D)) (chk : Sto → Prop) (H₀ : Hp) : Prop where
  go : ∀ (i : Nat) H S row, Tle H₀ H → RS K H S → chk S → rows[i]? = some row → J.go i H ∧ ∀ x H', J.yld i H x H' → Stp S H S H' ∧ RS K H' S ∧ RowR K H' mul row x
  stop : ∀ (i : Nat) H S, Tle H₀ H → RS K H S → chk S → i = rows.length → J.stop i H
def liftI (K : PySem.W.Frag) (W : WX) (mul : Bool) (t : DI) : TI := fun σ H Rj => ∃ R env S q, RelEnv K H env σ ∧ RS K H S ∧ t R env S q ∧ XOk K W S H R ∧
  ∀ rows chk S' J H', Stp S H S' H' → RS K H' S' → ItOk K mul J rows chk H' → q rows chk S' → Rj J H'
def liftSp (K : PySem.W.Frag) (c : List D → Sto → DK → (Exc → Sto → Prop) → Prop) : Sp := fun vs H Q E => ∃ ds S q r, RDs K H ds vs ∧ RS K H S ∧ c ds S q r ∧ KOk K S H q Q ∧
  ∀ x S' H' cls d, Stp S H S' H' → RS K H' S' → ExR K H' x cls d → r x S' → E cls d H'

/-! ### weaker readings -/
section
variable {X : Cx}
theorem PE.imp {e : Expr} {t t' : TE} (h : PE X e t) (i : ∀ σ H Q, t' σ H Q → t σ H Q) : PE X e t' := ⟨fun pins s σ H Q I w => h.run pins s σ H Q I (i σ H Q w)⟩
theorem PT.imp {e : Expr} {t t' : TT} (h : PT X e t) (i : ∀ σ H Q, t' σ H Q → t σ H Q) : PT X e t' := ⟨fun pins s σ H Q I w => h.run pins s σ H Q I (i σ H Q w)⟩
theorem PW.imp {e : Expr} {t t' : TT} (h : PW X e t) (i : ∀ σ H Q, t' σ H Q → t σ H Q) : PW X e t' := ⟨fun w pins s σ H Q I z => h.run w pins s σ H Q I (i σ H Q z)⟩
theorem PA.imp {e : List Expr} {t t' : TA} (h : PA X e t) (i : ∀ σ H Q, t' σ H Q → t σ H Q) : PA X e t' := ⟨fun pos pins s σ H Q I w => h.run pos pins s σ H Q I (i σ H Q w)⟩
theorem PS.imp {e : Stmt} {t t' : TS} (h : PS X e t) (i : ∀ D σ H, t' D σ H → t D σ H) : PS X e t' := ⟨fun pins s σ H Q I w => h.run pins s σ H Q I (i Q σ H w)⟩
theorem PSs.imp {e : List Stmt} {t t' : TS} (h : PSs X e t) (i : ∀ D σ H, t' D σ H → t D σ H) : PSs X e t' := ⟨fun pins s σ H Q I w => h.run pins s σ H Q I (i Q σ H w)⟩
theorem PG.imp {e : Expr} {t t' : TG} (h : PG X e t) (i : ∀ v σ H Q, t' v σ H Q → t v σ H Q) : PG X e t' := ⟨fun pins s σ H v u Q I r w => h.run pins s σ H v u Q I r (i v σ H Q w)⟩
theorem PGs.imp {e : List Expr} {t t' : TGs} (h : PGs X e t) (i : ∀ v σ H Q, t' v σ H Q → t v σ H Q) : PGs X e t' := ⟨fun pins s σ H vs us Q I r w => h.run pins s σ H vs us Q I r (i vs σ H Q w)⟩
theorem PI.imp {tg e : Expr} {t t' : TI} (h : PI X tg e t) (i : ∀ σ H Q, t' σ H Q → t σ H Q) : PI X tg e t' := ⟨fun pins s σ H Q I w => h.run pins s σ H Q I (i σ H Q w)⟩
end

/-! ### combinators -/
def eC (d : D) : DE := fun _ _ S q => q d S
def eVar (i : Nat) : DE := fun _ env S q => match look env i with | some d => q d S | none => False
/-- two values, then an operation -/
def e2 (f : D → D → Sto → DK → Prop) (a b : DE) : DE := fun R env S q => a R env S fun x S1 => b R env S1 fun y S2 => f x y S2 q
def e1 (f : D → Sto → DK → Prop) (a : DE) : DE := fun R env S q => a R env S fun x S1 => f x S1 q
def aNil : DA := fun _ _ S q => q [] S
def aCons (a : DE) (r : DA) : DA := fun R env S q => a R env S fun x S1 => r R env S1 fun xs S2 => q (x :: xs) S2
/-- a sequence's items -/
def seqI (S : Sto) : D → Option (List D)
  | .tup ds => some ds
  | .ref a => match S a with
    | some (.lst ds) => some ds
    | _ => none
  | .scr ns => some (ns.map .int)
  | _ => none
/-- *e in an argument list -/
def aStar (a : DE) (r : DA) : DA := fun R env S q => a R env S fun x S1 => ∃ ds, seqI S1 x = some ds ∧ r R env S1 fun xs S2 => q (ds ++ xs) S2
def eTup (t : DA) : DE := fun R env S q => t R env S fun xs S1 => xs.length ≤ sizeLine ∧ q (.tup xs) S1
def newL (xs : List D) (S : Sto) (q : DK) : Prop := xs.length ≤ sizeLine ∧ ∀ p, S p = none → q (.ref p) (up S p (.lst xs))
def eLst (t : DA) : DE := fun R env S q => t R env S fun xs S1 => newL xs S1 q
def eB (f : List D → Sto → DK → Prop) (t : DA) : DE := fun R env S q => t R env S fun xs S1 => f xs S1 q
def eIf (t : DT) (a b : DE) : DE := fun R env S q => t R env S fun k S1 => if k = true then a R env S1 q else b R env S1 q
def eAnd (a b : DE) : DE := fun R env S q => a R env S fun x S1 => match x with
  | .bl k => if k = true then b R env S1 q else q (.bl false) S1
  | _ => False
def eOr (a b : DE) : DE := fun R env S q => a R env S fun x S1 => match x with
  | .bl k => if k = true then q (.bl true) S1 else b R env S1 q
  | _ => False
def eNot (a : DE) : DE := fun R env S q => a R env S fun x S1 => match x with
  | .bl k => q (.bl (!k)) S1
  | _ => False
def tAnd2 (a b : DT) : DT := fun R env S q => a R env S fun k S1 => if k = true then b R env S1 q else q false S1
def tOr2 (a b : DT) : DT := fun R env S q => a R env S fun k S1 => if k = true then q true S1 else b R env S1 q
def tNot2 (a : DT) : DT := fun R env S q => a R env S fun k S1 => q (!k) S1
/-- the truth of a value -/
def truth (x : D) (S : Sto) (q : Bool → Sto → Prop) : Prop := match x with
  | .bl k => q k S
  | .non => q false S
  | .int i => q (i != 0) S
  | _ => False
def tE (a : DE) : DT := fun R env S q => a R env S fun x S1 => truth x S1 q
def eCall (C : Orc) (f : FK) (t : DA) : DE := fun R env S q => t R env S fun xs S1 => C f xs S1 q fun x S2 => R x env S2

def sNx : DS := fun _ N env S => N.nx env S
def sSeq (t u : DS) : DS := fun R N env S => t R { N with nx := fun e s => u R N e s } env S
def sExpr (a : DE) : DS := fun R N env S => a R env S fun _ S1 => N.nx env S1
def sRet (a : DE) : DS := fun R N env S => a R env S fun d S1 => N.rt d S1
def sRetN : DS := fun _ N _ S => N.rt .non S
def sIf (c : DT) (t u : DS) : DS := fun R N env S => c R env S fun k S1 => if k = true then t R N env S1 else u R N env S1
def sCt : DS := fun _ N env S => N.ct env S
def gNm (i : Nat) : DG := fun _ d env S q => q (env.set i (some d)) S
def gsNil : DGs := fun _ ds env S q => ds = [] ∧ q env S
def gsCons (g : DG) (r : DGs) : DGs := fun R ds env S q => match ds with
  | d :: ds => g R d env S fun e s => r R ds e s q
  | [] => False
def gTp (t : DGs) : DG := fun R d env S q => match d with
  | .tup ds => t R ds env S q
  | _ => False
/-- one value of a row -/
def gOne (g : DG) : DGs := fun R ds env S q => match ds with
  | [d] => g R d env S q
  | _ => False
def sAsg (g : DG) (a : DE) : DS := fun R N env S => a R env S fun d S1 => g R d env S1 N.nx
def sWhile (c : DT) (b : DS) : DS := fun R N env S => ∃ I : Nat → Env → Sto → Prop, (∃ m, I m env S) ∧ ∀ m env S, I m env S →
  c R env S fun k S1 => if k = true then b R { N with nx := fun e s => ∃ m', m' < m ∧ I m' e s, ct := fun e s => ∃ m', m' < m ∧ I m' e s } env S1 else N.nx env S1
def forD (chk : Sto → Prop) (g : DGs) (b : DS) (R : XR) (N : DN) : List (List D) → Env → Sto → Prop
  | [], env, S => chk S ∧ N.nx env S
  | row :: rows, env, S => chk S ∧ g R row env S fun e s => b R { N with nx := fun e s => forD chk g b R N rows e s, ct := fun e s => forD chk g b R N rows e s } e s
def sFor (i : DI) (g : DGs) (b : DS) : DS := fun R N env S => i R env S fun rows chk S1 => forD chk g b R N rows env S1
/-- the slots of a block's own names forgotten -/
def wipeE (env : Env) : List Nat → Env
  | [] => env
  | v :: vs => (wipeE env vs).set v none
def noX : XR := fun _ _ _ => False
/-- slots take values, one by one -/
def setAll : List Nat → List D → Env → Option Env
  | [], [], env => some env
  | i :: is, d :: ds, env => setAll is ds (env.set i (some d))
  | _, _, _ => none
/-- a comprehension's target: names, of a row or of a row's one tuple -/
def bindRow (unp : Bool) (tg : List Nat) (row : List D) (env : Env) : Option Env :=
  if unp = true then match row with
    | [.tup ds] => setAll tg ds env
    | _ => none
  else setAll tg row env
/-- a comprehension's items; no exception leaves it -/
def compD (chk : Sto → Prop) (env : Env) (unp : Bool) (tg : List Nat) (t : DT) (e : DE) : List (List D) → List D → Sto → (List D → Sto → Prop) → Prop
  | [], acc, S, q => chk S ∧ q acc S
  | row :: rows, acc, S, q => chk S ∧ match bindRow unp tg row env with
    | some env2 => t noX env2 S fun k S3 =>
      if k = true then e noX env2 S3 fun y S4 => acc.length < sizeLine ∧ compD chk env unp tg t e rows (acc ++ [y]) S4 q else compD chk env unp tg t e rows acc S3 q
    | none => False
def cIt (own : List Nat) (i : DI) (unp : Bool) (tg : List Nat) (t : DT) (e : DE) (R : XR) (env : Env) (S : Sto) (q : List D → Sto → Prop) : Prop :=
  i R env S fun rows chk S1 => compD chk (wipeE env own) unp tg t e rows [] S1 q
def eComp (own : List Nat) (i : DI) (unp : Bool) (tg : List Nat) (t : DT) (e : DE) : DE := fun R env S q =>
  cIt own i unp tg t e R env S fun ds S2 => ∀ p, S2 p = none → q (.ref p) (up S2 p (.lst ds))
/-- .. whose list is used at once and forgotten -/
def eCompU (f : List D → Sto → DK → Prop) (own : List Nat) (i : DI) (unp : Bool) (tg : List Nat) (t : DT) (e : DE) : DE := fun R env S q =>
  cIt own i unp tg t e R env S fun ds S2 => f ds S2 q
def tYes2 : DT := fun _ _ S q => q true S
end C2

/-! The combinators are sound: each reading follows from the hand layer's own. -/
namespace C2
open PySem PySem.Spec PyProof.Rows L2
section
variable {X : Cx} {W : WX}
abbrev PEd (X : Cx) (W : WX) (e : Expr) (t : DE) : Prop := PE X e (liftE X.K W t)
abbrev PAd (X : Cx) (W : WX) (e : List Expr) (t : DA) : Prop := PA X e (liftA X.K W t)
abbrev PTd (X : Cx) (W : WX) (e : Expr) (t : DT) : Prop := PT X e (liftT X.K W t)
abbrev PWd (X : Cx) (W : WX) (e : Expr) (t : DT) : Prop := PW X e (liftT X.K W t)
abbrev PSd (X : Cx) (W : WX) (e : Stmt) (t : DS) : Prop := PS X e (liftS X.K W t)
abbrev PSsd (X : Cx) (W : WX) (e : List Stmt) (t : DS) : Prop := PSs X e (liftS X.K W t)
abbrev PGd (X : Cx) (W : WX) (e : Expr) (t : DG) : Prop := PG X e (liftG X.K W t)
abbrev PGsd (X : Cx) (W : WX) (e : List Expr) (t : DGs) : Prop := PGs X e (liftGs X.K W t)
abbrev PId (X : Cx) (W : WX) (mul : Bool) (tg e : Expr) (t : DI) : Prop := PI X tg e (liftI X.K W mul t)
variable {a b c : Expr} {ta tb tc : DE} {pos : Pos}

theorem d_var {i : Nat} {x : Str} (hN : X.N[i]? = some x) (hv : Vis X.env.scope x) (hd : (x == ("__debug__" : Str)) = false) (hcd : (x == ("__classdict__" : Str)) = false) : PEd X W (.Name x pos) (eVar i) := by
  refine PE.imp (pe_var hN hv hd hcd) fun σ H Q ⟨R, env, S, q, e, s, h, x, k⟩ => ?_
  unfold eVar at h
  cases l : look env i with
  | none => rw [l] at h; exact h.elim
  | some d =>
    rw [l] at h
    obtain ⟨v, h1, h2⟩ := e.at_ i d (look_get l)
    exact ⟨v, h1, k d S v H Stp.rfl' h2 s h⟩
/-- a constant's value -/
inductive Cn where
  | non | bl (b : Bool) | int (i : Int) | str (s : Str)
deriving DecidableEq
def Cn.d : Cn → D
  | .non => .non | .bl b => .bl b | .int i => .int i | .str s => .str s
def Cn.v : Cn → V
  | .non => .non | .bl b => .bl b | .int i => .int i | .str s => .str s
theorem Cn.rd {K : PySem.W.Frag} {H : Hp} (c : Cn) : RD K H c.d c.v := by cases c <;> (unfold RD; rfl)
theorem d_const {e : Expr} (c : Cn) (h : PE X e (tC c.v)) : PEd X W e (eC c.d) :=
  PE.imp h fun σ H Q ⟨R, env, S, q, e, s, h, x, k⟩ => k c.d S c.v H Stp.rfl' c.rd s h
/-- the frame of a two-value operation -/
def Op2 (K : PySem.W.Frag) (f : D → D → Sto → DK → Prop) (r : R2) : Prop := ∀ (d1 d2 : D) (v1 v2 : V) (H : Hp) (S : Sto) (q : DK) (Q : VK), RD K H d1 v1 → RD K H d2 v2 → RS K H S → f d1 d2 S q → KOk K S H q Q → r v1 v2 H Q
def Op1 (K : PySem.W.Frag) (f : D → Sto → DK → Prop) (r : V → Hp → VK → Prop) : Prop := ∀ (d1 : D) (v1 : V) (H : Hp) (S : Sto) (q : DK) (Q : VK), RD K H d1 v1 → RS K H S → f d1 S q → KOk K S H q Q → r v1 H Q
def OpN (K : PySem.W.Frag) (f : List D → Sto → DK → Prop) (r : List V → Hp → VK → Prop) : Prop := ∀ (ds : List D) (vs : List V) (H : Hp) (S : Sto) (q : DK) (Q : VK), RDs K H ds vs → RS K H S → f ds S q → KOk K S H q Q → r vs H Q
theorem d_2 {K : PySem.W.Frag} {f : D → D → Sto → DK → Prop} {r : R2} (o : Op2 K f r) {σ : L2.St} {H : Hp} {Q : VK} (h : liftE K W (e2 f ta tb) σ H Q) : tOp r (liftE K W ta) (liftE K W tb) σ H Q := by
  obtain ⟨R, env, S, q, e, s, h, x, k⟩ := h
  refine ⟨R, env, S, _, e, s, h, x, fun d1 S1 v1 H1 t1 r1 s1 h1 => ?_⟩
  exact ⟨R, env, S1, _, e.mono t1.t, s1, h1, x.mono t1, fun d2 S2 v2 H2 t2 r2 s2 h2 => o d1 d2 v1 v2 H2 S2 q Q (r1.mono t2.t) r2 s2 h2 (k.mono (t1.trans t2))⟩
theorem d_bin {op : Operator} {f : D → D → Sto → DK → Prop} {r : R2} (ho : OpR X (binaryOp op) r) (o : Op2 X.K f r) (ha : PEd X W a ta) (hb : PEd X W b tb) : PEd X W (.BinOp a op b pos) (e2 f ta tb) :=
  PE.imp (pe_op ho ha hb) fun _ _ _ h => d_2 o h
theorem d_cmp {op : CmpOp} {f : D → D → Sto → DK → Prop} {r : R2} (ho : OpR X (compareOp op) r) (o : Op2 X.K f r) (hm : behindInMarks op b = false) (ha : PEd X W a ta) (hb : PEd X W b tb) : PEd X W (.Compare a [op] [b] pos) (e2 f ta tb) :=
  PE.imp (pe_cmpR ho ha hb hm) fun _ _ _ h => d_2 o h
theorem d_un {op : UnaryOp} {f : D → Sto → DK → Prop} {r : V → Hp → VK → Prop} (ho : UnR X (unaryOp op) r) (o : Op1 X.K f r) (ha : PEd X W a ta) : PEd X W (.UnaryOp op a pos) (e1 f ta) :=
  PE.imp (pe_un ho ha) fun σ H Q ⟨R, env, S, q, e, s, h, x, k⟩ =>
    ⟨R, env, S, _, e, s, h, x, fun d1 S1 v1 H1 t1 r1 s1 h1 => o d1 v1 H1 S1 q Q r1 s1 h1 (k.mono t1)⟩
theorem d_ix {f : D → D → Sto → DK → Prop} {r : R2} (ho : IxR X r) (o : Op2 X.K f r) (hs : PlainIx b) (ha : PEd X W a ta) (hb : PEd X W b tb) : PEd X W (.Subscript a b pos) (e2 f ta tb) :=
  PE.imp (pe_ix ho ha hb hs) fun _ _ _ h => d_2 o h

/-! ### truth -/
theorem truth_ok {K : PySem.W.Frag} {d : D} {v : V} {H : Hp} {S : Sto} {q : Bool → Sto → Prop} (r : RD K H d v) (h : truth d S q) : ∃ k, TruV K v H k ∧ q k S := by
  cases d with
  | non => unfold RD at r; subst r; exact ⟨false, rfl, h⟩
  | bl b => unfold RD at r; subst r; exact ⟨b, rfl, h⟩
  | int i => unfold RD at r; subst r; exact ⟨_, rfl, h⟩
  | _ => exact h.elim
theorem d_tE (ha : PEd X W a ta) (he : ∀ whole, isTrue a X.env whole = (do let v ← whole; standAt a.pos; holding [v] (truthy v))) : PTd X W a (tE ta) :=
  PT.imp (pt_truth ha he) fun σ H Q ⟨R, env, S, q, e, s, h, x, k⟩ =>
    ⟨R, env, S, _, e, s, h, x, fun d1 S1 v1 H1 t1 r1 s1 h1 => let ⟨b, h2, h3⟩ := truth_ok r1 h1; ⟨b, h2, k b S1 H1 t1 s1 h3⟩⟩
/-- a test by its own rule, that gives a bool -/
theorem d_tOf {t : DE} {tt : TT} (h : PT X a tt) (i : ∀ σ H Q, liftE X.K W t σ H (fun v H' => ∃ k, v = .bl k ∧ Q k H') → tt σ H Q) : PTd X W a (fun R env S q => t R env S fun d S1 => match d with | .bl k => q k S1 | _ => False) :=
  PT.imp h fun σ H Q ⟨R, env, S, q, e, s, h, x, k⟩ => i σ H Q ⟨R, env, S, _, e, s, h, x, fun d1 S1 v1 H1 t1 r1 s1 h1 => by
    cases d1 with
    | bl b => unfold RD at r1; subst r1; exact ⟨b, rfl, k b S1 H1 t1 s1 h1⟩
    | _ => exact h1.elim⟩
def tBl (t : DE) : DT := fun R env S q => t R env S fun d S1 => match d with | .bl k => q k S1 | _ => False
theorem d_tCmp {op : CmpOp} {f : D → D → Sto → DK → Prop} {r : R2} (ho : OpR X (compareOp op) r) (o : Op2 X.K f r) (hm : behindInMarks op b = false) (ha : PEd X W a ta) (hb : PEd X W b tb) : PTd X W (.Compare a [op] [b] pos) (tBl (e2 f ta tb)) :=
  d_tOf (pt_cmpR ho ha hb hm) fun _ _ _ h => d_2 o h
theorem d_not {t : DT} (ha : PTd X W a t) : PTd X W (.UnaryOp .Not a pos) (tNot2 t) :=
  PT.imp (pt_not ha) fun σ H Q ⟨R, env, S, q, e, s, h, x, k⟩ => ⟨R, env, S, _, e, s, h, x, fun b S1 H1 t1 s1 h1 => k (!b) S1 H1 t1 s1 h1⟩
theorem d_and1 {t : DT} (ha : PTd X W a t) : PWd X W (.BoolOp .And [a] pos) t := pw_and1 ha
theorem d_or1 {t : DT} (ha : PTd X W a t) : PWd X W (.BoolOp .Or [a] pos) t := pw_or1 ha
theorem d_tand {t u : DT} {rest : List Expr} (ha : PTd X W a t) (hb : PWd X W (.BoolOp .And (b :: rest) pos) u) : PWd X W (.BoolOp .And (a :: b :: rest) pos) (tAnd2 t u) :=
  PW.imp (pw_and ha hb) fun σ H Q ⟨R, env, S, q, e, s, h, x, k⟩ => ⟨R, env, S, _, e, s, h, x, fun b S1 H1 t1 s1 h1 => by
    cases b with
    | true => exact ⟨R, env, S1, q, e.mono t1.t, s1, h1, x.mono t1, fun b S2 H2 t2 => k b S2 H2 (t1.trans t2)⟩
    | false => exact k false S1 H1 t1 s1 h1⟩
theorem d_tor {t u : DT} {rest : List Expr} (ha : PTd X W a t) (hb : PWd X W (.BoolOp .Or (b :: rest) pos) u) : PWd X W (.BoolOp .Or (a :: b :: rest) pos) (tOr2 t u) :=
  PW.imp (pw_or ha hb) fun σ H Q ⟨R, env, S, q, e, s, h, x, k⟩ => ⟨R, env, S, _, e, s, h, x, fun b S1 H1 t1 s1 h1 => by
    cases b with
    | false => exact ⟨R, env, S1, q, e.mono t1.t, s1, h1, x.mono t1, fun b S2 H2 t2 => k b S2 H2 (t1.trans t2)⟩
    | true => exact k true S1 H1 t1 s1 h1⟩
theorem d_if {t : DT} (hc : PTd X W c t) (ha : PEd X W a ta) (hb : PEd X W b tb) : PEd X W (.IfExp c a b pos) (eIf t ta tb) :=
  PE.imp (pe_ifExp hc ha hb) fun σ H Q ⟨R, env, S, q, e, s, h, x, k⟩ => ⟨R, env, S, _, e, s, h, x, fun b S1 H1 t1 s1 h1 => by
    cases b with
    | true => exact ⟨R, env, S1, q, e.mono t1.t, s1, h1, x.mono t1, k.mono t1⟩
    | false => exact ⟨R, env, S1, q, e.mono t1.t, s1, h1, x.mono t1, k.mono t1⟩⟩
theorem d_vand {rest : List Expr} (ha : PEd X W a ta) (hb : PEd X W (.BoolOp .And (b :: rest) pos) tb) : PEd X W (.BoolOp .And (a :: b :: rest) pos) (eAnd ta tb) :=
  PE.imp (pe_and ha hb) fun σ H Q ⟨R, env, S, q, e, s, h, x, k⟩ => ⟨R, env, S, _, e, s, h, x, fun d S1 v H1 t1 r1 s1 h1 => by
    cases d with
    | bl b =>
      unfold RD at r1; subst r1
      cases b with
      | true => exact ⟨true, rfl, R, env, S1, q, e.mono t1.t, s1, h1, x.mono t1, k.mono t1⟩
      | false => exact ⟨false, rfl, k (.bl false) S1 (.bl false) H1 t1 (by unfold RD; rfl) s1 h1⟩
    | _ => exact h1.elim⟩
theorem d_vor {rest : List Expr} (ha : PEd X W a ta) (hb : PEd X W (.BoolOp .Or (b :: rest) pos) tb) : PEd X W (.BoolOp .Or (a :: b :: rest) pos) (eOr ta tb) :=
  PE.imp (pe_or ha hb) fun σ H Q ⟨R, env, S, q, e, s, h, x, k⟩ => ⟨R, env, S, _, e, s, h, x, fun d S1 v H1 t1 r1 s1 h1 => by
    cases d with
    | bl b =>
      unfold RD at r1; subst r1
      cases b with
      | false => exact ⟨false, rfl, R, env, S1, q, e.mono t1.t, s1, h1, x.mono t1, k.mono t1⟩
      | true => exact ⟨true, rfl, k (.bl true) S1 (.bl true) H1 t1 (by unfold RD; rfl) s1 h1⟩
    | _ => exact h1.elim⟩
theorem d_vnot (ha : PEd X W a ta) : PEd X W (.UnaryOp .Not a pos) (eNot ta) :=
  PE.imp (pe_not ha) fun σ H Q ⟨R, env, S, q, e, s, h, x, k⟩ => ⟨R, env, S, _, e, s, h, x, fun d S1 v H1 t1 r1 s1 h1 => by
    cases d with
    | bl b => unfold RD at r1; subst r1; exact ⟨b, rfl, k (.bl !b) S1 (.bl !b) H1 t1 (by unfold RD; rfl) s1 h1⟩
    | _ => exact h1.elim⟩
/-- a < b < c -/
def eChain (f g : D → D → Sto → DK → Prop) (a b c : DE) : DE := fun R env S q => a R env S fun x S1 => b R env S1 fun y S2 => f x y S2 fun z S3 => match z with
  | .bl k => if k = true then c R env S3 fun w S4 => g y w S4 q else q (.bl false) S3
  | _ => False
theorem d_chainV {K : PySem.W.Frag} {f g : D → D → Sto → DK → Prop} {r r' : R2} (o : Op2 K f r) (o' : Op2 K g r') {σ : L2.St} {H : Hp} {Q : VK} (h : liftE K W (eChain f g ta tb tc) σ H Q) : tChain r r' (liftE K W ta) (liftE K W tb) (liftE K W tc) σ H Q := by
  obtain ⟨R, env, S, q, e, s, h, x, k⟩ := h
  refine ⟨R, env, S, _, e, s, h, x, fun d1 S1 v1 H1 t1 r1 s1 h1 => ?_⟩
  refine ⟨R, env, S1, _, e.mono t1.t, s1, h1, x.mono t1, fun d2 S2 v2 H2 t2 r2 s2 h2 => ?_⟩
  refine o d1 d2 v1 v2 H2 S2 _ _ (r1.mono t2.t) r2 s2 h2 fun z S3 v3 H3 t3 r3 s3 h3 => ?_
  have t13 := t1.trans (t2.trans t3)
  cases z with
  | bl b =>
    unfold RD at r3; subst r3
    cases b with
    | true =>
      refine ⟨true, rfl, ?_⟩
      exact ⟨R, env, S3, _, e.mono t13.t, s3, h3, x.mono t13, fun d4 S4 v4 H4 t4 r4 s4 h4 => o' d2 d4 v2 v4 H4 S4 q Q (r2.mono (t3.trans t4).t) r4 s4 h4 (k.mono (t13.trans t4))⟩
    | false => exact ⟨false, rfl, k (.bl false) S3 (.bl false) H3 t13 (by unfold RD; rfl) s3 h3⟩
  | _ => exact h3.elim
theorem d_chain {op op' : CmpOp} {f g : D → D → Sto → DK → Prop} {r r' : R2} (ho : OpR X (compareOp op) r) (ho' : OpR X (compareOp op') r') (o : Op2 X.K f r) (o' : Op2 X.K g r') (ha : PEd X W a ta) (hb : PEd X W b tb) (hc : PEd X W c tc)
    (hm : lastMarks [op, op'] [b, c] = false) : PEd X W (.Compare a [op, op'] [b, c] pos) (eChain f g ta tb tc) :=
  PE.imp (pe_chain ho ho' ha hb hc hm) fun _ _ _ h => d_chainV o o' h
theorem d_tchain {op op' : CmpOp} {f g : D → D → Sto → DK → Prop} {r r' : R2} (ho : OpR X (compareOp op) r) (ho' : OpR X (compareOp op') r') (o : Op2 X.K f r) (o' : Op2 X.K g r') (ha : PEd X W a ta) (hb : PEd X W b tb) (hc : PEd X W c tc)
    (hm : lastMarks [op, op'] [b, c] = false) : PTd X W (.Compare a [op, op'] [b, c] pos) (tBl (eChain f g ta tb tc)) :=
  d_tOf (pt_chain ho ho' ha hb hc hm) fun _ _ _ h => d_chainV o o' h

/-- a sequence as it stands -/
theorem seqI_rd {K : PySem.W.Frag} {H : Hp} {S : Sto} {d : D} {v : V} {ds : List D} (r : RD K H d v) (s : RS K H S) (h : seqI S d = some ds) : ∃ a vs, v = .ref a ∧ (SqL K H a vs ∨ SqT K H a vs) ∧ RDs K H ds vs := by
  cases d with
  | tup xs =>
    simp only [seqI, Option.some.injEq] at h; subst h
    unfold RD at r
    obtain ⟨a, vs, rfl, tt, rr⟩ := r
    exact ⟨a, vs, rfl, .inr tt.sq, rr⟩
  | ref a =>
    simp only [seqI] at h
    cases e : S a with
    | none => rw [e] at h; cases h
    | some o =>
      rw [e] at h
      cases o with
      | lst xs =>
        simp only [Option.some.injEq] at h; subst h
        obtain ⟨vs, hv, rr⟩ := s a _ e
        unfold RD at r
        exact ⟨a, vs, r, .inl (.inl (.inl hv)), rr⟩
      | _ => cases h
  | scr ns =>
    simp only [seqI, Option.some.injEq] at h; subst h
    unfold RD at r
    obtain ⟨a, rfl, q⟩ := r
    exact ⟨a, _, rfl, .inl q.sq, RDs.ofInts ns⟩
  | _ => cases h

/-! ### argument lists, displays -/
theorem d_nil : PAd X W [] aNil := PA.imp pa_nil fun σ H Q ⟨R, env, S, q, e, s, h, x, k⟩ => k [] S [] H Stp.rfl' RDs.nil s h
theorem d_cons {es : List Expr} {t : DA} (ha : PEd X W a ta) (hr : PAd X W es t) (hs : starEach (a :: es) X.env = (false, eval a X.env) :: starEach es X.env) : PAd X W (a :: es) (aCons ta t) :=
  PA.imp (pa_cons ha hr hs) fun σ H Q ⟨R, env, S, q, e, s, h, x, k⟩ => ⟨R, env, S, _, e, s, h, x, fun d S1 v H1 t1 r1 s1 h1 =>
    ⟨R, env, S1, _, e.mono t1.t, s1, h1, x.mono t1, fun ds S2 vs H2 t2 r2 s2 h2 => k (d :: ds) S2 (v :: vs) H2 (t1.trans t2) (RDs.cons (r1.mono t2.t) r2) s2 h2⟩⟩
theorem d_star {es : List Expr} {t : DA} {p : Pos} (ha : PEd X W a ta) (hr : PAd X W es t) (hs : starEach (.Starred a p :: es) X.env = (true, eval a X.env) :: starEach es X.env) : PAd X W (.Starred a p :: es) (aStar ta t) :=
  PA.imp (StX.pa_star ha hr hs) fun σ H Q ⟨R, env, S, q, e, s, h, x, k⟩ => ⟨R, env, S, _, e, s, h, x, fun d S1 v H1 t1 r1 s1 ⟨ds, h0, h1⟩ => by
    obtain ⟨p, vs, rfl, hq, rr⟩ := seqI_rd r1 s1 h0
    exact ⟨p, vs, rfl, hq.symm, R, env, S1, _, e.mono t1.t, s1, h1, x.mono t1, fun es S2 ws H2 t2 r2 s2 h2 => k (ds ++ es) S2 (vs ++ ws) H2 (t1.trans t2) ((RDs.mono t2.t rr).append r2) s2 h2⟩⟩

/-! ### a new tuple -/
/-- what a new tuple of vs is tracked as: ints as it is, else by its object -/
def tobj (us : List Value) : Obj := { cls := .type "tuple", data := .seq us.toArray }
/-- the reading's wish of a new tuple -/
def NewT (vs : List V) (H : Hp) (Q : VK) : Prop := vs.length ≤ sizeLine ∧ ∀ p o, H p = none → (o = .tup vs ∧ vs.all isI = true ∨ ∃ u : Obj, o = .frz u (.tup vs) ∧ u.dict = none ∧ ¬ vs.all isI = true) → Q (.ref p) (upd H p o)
theorem newT_ok {pins : List (Addr × Obj)} {σ : L2.St} {H : Hp} {s : Shared} {vs : List V} {us : List Value} {Q : VK} (I : Inv X pins σ H s) (r : Vals vs us) (h : NewT vs H Q) {t' : Nat} :
    EP X pins σ Q (.ref s.heap.objs.size) { s with heap := s.heap.push (tobj us), toks := t' } := by
  have hf : H s.heap.objs.size = none := I.hok.fresh (Nat.le_refl _)
  have kp : ∀ b u, s.heap.get? b = some u → (s.heap.push (tobj us)).get? b = some u := fun b u e => Heap.get?_push_of_some _ e
  have ob : ObjOk X.prog X.w (upd H s.heap.objs.size (.tup vs)) (s.heap.push (tobj us)) s.heap.objs.size (.tup vs) := ⟨h.1, us, r, ⟨_, Heap.get?_push_size _ rfl, rfl, _, rfl⟩⟩
  by_cases c : vs.all isI = true
  · exact ⟨.ref s.heap.objs.size, _, I.laid (t' := t') kp (Nat.le_refl _) ob, rfl, h.2 _ _ hf (.inl ⟨rfl, c⟩)⟩
  · refine ⟨.ref s.heap.objs.size, _, I.laid (t' := t') (o := .frz (tobj us) (.tup vs)) kp (Nat.le_refl _) ?_, rfl, h.2 _ _ hf (.inr ⟨tobj us, rfl, rfl, c⟩)⟩
    exact ⟨Heap.get?_push_size _ rfl, h.1, us, r, ⟨_, Heap.get?_push_size _ rfl, rfl, _, rfl⟩⟩
theorem newT_rd {K : PySem.W.Frag} {ds : List D} {vs : List V} {H : Hp} {S : Sto} {q : DK} {Q : VK} (r : RDs K H ds vs) (s : RS K H S) (hl : ds.length ≤ sizeLine) (h : q (.tup ds) S) (k : KOk K S H q Q) : NewT vs H Q := by
  refine ⟨by rw [← r.length]; exact hl, fun p o hp ho => ?_⟩
  refine k (.tup ds) S (.ref p) _ (Stp.new hp) ?_ (s.new hp) h
  unfold RD
  refine ⟨p, vs, rfl, ?_, r.mono (Tle.new hp)⟩
  unfold TupT
  rcases ho with ⟨rfl, c⟩ | ⟨u, rfl, hu, c⟩
  · rw [if_pos c]; exact upd_same
  · rw [if_neg c]; exact ⟨u, upd_same, hu⟩
theorem d_tup {es : List Expr} {t : DA} {x1 : Nat} (h : PAd X W es t) : PEd X W (.Tuple es x1 pos) (eTup t) := by
  refine ⟨fun pins s σ H Q I ⟨R, env, S, q, e, rs, hw, x, k⟩ => ?_⟩
  refine wpAny_Tuple_spliced (thn (h.run pos pins s σ H (fun vs H' => NewT vs H' Q) I ⟨R, env, S, _, e, rs, hw, x, fun ds S1 vs H1 t1 r1 s1 ⟨hl, h1⟩ => newT_rd r1 s1 hl h1 (k.mono t1)⟩) fun us s1 ⟨vs, H1, I1, r, nt⟩ => ⟨by rw [← r.length]; exact nt.1, ?_⟩)
  exact newT_ok I1 r nt
theorem newL_ok {K : PySem.W.Frag} {ds : List D} {vs : List V} {H : Hp} {S : Sto} {q : DK} {Q : VK} (r : RDs K H ds vs) (s : RS K H S) (h : newL ds S q) (k : KOk K S H q Q) : vs.length ≤ sizeLine ∧ ∀ p, H p = none → Q (.ref p) (upd H p (.lst vs)) := by
  refine ⟨by rw [← r.length]; exact h.1, fun p hp => ?_⟩
  exact k (.ref p) _ (.ref p) _ (Stp.add hp) (by unfold RD; rfl) (s.add (o := .lst ds) hp (show RelOb _ _ _ _ (.lst ds) from ⟨vs, upd_same, r.mono (Tle.new hp)⟩)) (h.2 p (s.free hp))
theorem d_lst {es : List Expr} {t : DA} (h : PAd X W es t) : PEd X W (.List es pos) (eLst t) :=
  PE.imp (pe_lst h) fun σ H Q ⟨R, env, S, q, e, s, h, x, k⟩ => ⟨R, env, S, _, e, s, h, x, fun ds S1 vs H1 t1 r1 s1 h1 => newL_ok r1 s1 h1 (k.mono t1)⟩

/-! ### statements -/
theorem s_nil : PSsd X W [] sNx := PSs.imp pss_nil fun D σ H ⟨R, N, env, S, e, s, h, x, n, r, c⟩ => n env S σ H Stp.rfl' e s h
theorem s_cons {st : Stmt} {rest : List Stmt} {t u : DS} (h1 : PSd X W st t) (h2 : PSsd X W rest u) : PSsd X W (st :: rest) (sSeq t u) :=
  PSs.imp (pss_cons h1 h2) fun D σ H ⟨R, N, env, S, e, s, h, x, n, r, c⟩ => ⟨R, _, env, S, e, s, h, x, fun env' S' σ' H' t' e' s' h' => ⟨R, N, env', S', e', s', h', x.mono t', n.mono t', r.mono t', c.mono t'⟩, r, c⟩
theorem s_one {st : Stmt} {t : DS} (h1 : PSd X W st t) : PSsd X W [st] t := pss_one h1
theorem s_pass : PSd X W (.Pass pos) sNx := PS.imp ps_pass fun D σ H ⟨R, N, env, S, e, s, h, x, n, r, c⟩ => n env S σ H Stp.rfl' e s h
theorem s_cont : PSd X W (.Continue pos) sCt := PS.imp ps_continue fun D σ H ⟨R, N, env, S, e, s, h, x, n, r, c⟩ => c env S σ H Stp.rfl' e s h
theorem s_expr (ha : PEd X W a ta) (hs : swapsWith a none pos.line X.env = pure false) : PSd X W (.Expr a pos) (sExpr ta) :=
  PS.imp (ps_expr ha hs) fun D σ H ⟨R, N, env, S, e, s, h, x, n, r, c⟩ => ⟨R, env, S, _, e, s, h, x, fun d S1 v H1 t1 r1 s1 h1 => n env S1 σ H1 t1 (e.mono t1.t) s1 h1⟩
theorem s_ret (ha : PEd X W a ta) : PSd X W (.Return (some a) pos) (sRet ta) :=
  PS.imp (ps_ret ha) fun D σ H ⟨R, N, env, S, e, s, h, x, n, r, c⟩ => ⟨R, env, S, _, e, s, h, x, fun d S1 v H1 t1 r1 s1 h1 => r d S1 v H1 t1 r1 s1 h1⟩
theorem s_retN : PSd X W (.Return none pos) sRetN :=
  PS.imp ps_retN fun D σ H ⟨R, N, env, S, e, s, h, x, n, r, c⟩ => r .non S .non H Stp.rfl' (by unfold RD; rfl) s h
theorem s_if {cc : Expr} {sa sb : List Stmt} {tc : DT} {t u : DS} (hc : PTd X W cc tc) (ha : PSsd X W sa t) (hb : PSsd X W sb u) : PSd X W (.If cc sa sb pos) (sIf tc t u) :=
  PS.imp (ps_if hc ha hb) fun D σ H ⟨R, N, env, S, e, s, h, x, n, r, c⟩ => ⟨R, env, S, _, e, s, h, x, fun b S1 H1 t1 s1 h1 => by
    cases b with
    | true => exact ⟨R, N, env, S1, e.mono t1.t, s1, h1, x.mono t1, n.mono t1, r.mono t1, c.mono t1⟩
    | false => exact ⟨R, N, env, S1, e.mono t1.t, s1, h1, x.mono t1, n.mono t1, r.mono t1, c.mono t1⟩⟩
theorem s_while {cc : Expr} {body : List Stmt} {tc : DT} {t : DS} (hp : PassesOwn (model X.prog X.w) X.A X.env X.xe) (hc : PTd X W cc tc) (hb : PSsd X W body t) : PSd X W (.While cc body [] pos) (sWhile tc t) := by
  refine PS.imp (ps_while hp hc hb) fun D σ H ⟨R, N, env, S, e, s, h, x, n, r, c⟩ => ?_
  obtain ⟨I, ⟨m0, h0⟩, hI⟩ := h
  refine ⟨fun m σ' H' => ∃ env' S', Stp S H S' H' ∧ RelEnv X.K H' env' σ' ∧ RS X.K H' S' ∧ I m env' S', ⟨m0, env, S, Stp.rfl', e, s, h0⟩, fun m σ' H' ⟨env', S', t', e', s', i'⟩ => ?_⟩
  refine ⟨R, env', S', _, e', s', hI m env' S' i', x.mono t', fun b S1 H1 t1 s1 h1 => ?_⟩
  have t2 := t'.trans t1
  cases b with
  | true =>
    have nk : NOk X.K S1 H1 (fun e s => ∃ m', m' < m ∧ I m' e s) (fun σ H' => ∃ m', m' < m ∧ ∃ env' S', Stp S H S' H' ∧ RelEnv X.K H' env' σ ∧ RS X.K H' S' ∧ I m' env' S') := fun env3 S3 σ3 H3 t3 e3 s3 ⟨m', hm, h3⟩ => ⟨m', hm, env3, S3, t2.trans t3, e3, s3, h3⟩
    exact ⟨_, fun σ' H' hh => hh, R, _, env', S1, e'.mono t1.t, s1, h1, x.mono t2, nk, r.mono t2, nk⟩
  | false => exact n env' S1 σ' H1 t2 (e'.mono t1.t) s1 h1

/-! ### targets -/
theorem g_nm {i : Nat} {x : Str} (hN : X.N.Nodup) (hi : X.N[i]? = some x) (hx : Loc X.env.scope x) (hf : X.fn x = true ∨ X.env.scope.names.lookup x = some .local) : PGd X W (.Name x pos) (gNm i) :=
  PG.imp (pg_name hN hi hx hf) fun v σ H Q ⟨R, d, env, S, q, e, s, r, h, x, n⟩ => n _ S _ H Stp.rfl' (e.set r) s h
theorem g_nil : PGsd X W [] gsNil := PGs.imp pgs_nil fun vs σ H Q ⟨R, ds, env, S, q, e, s, r, h, x, n⟩ => by
  obtain ⟨rfl, h⟩ := h
  unfold RDs at r
  exact ⟨r, n env S σ H Stp.rfl' e s h⟩
theorem g_cons {es : List Expr} {g : DG} {gs : DGs} (hg : PGd X W a g) (hs : PGsd X W es gs) (hst : List.map (fun x => x.snd) (assignEach (a :: es) X.env) = assign a X.env :: List.map (fun x => x.snd) (assignEach es X.env)) : PGsd X W (a :: es) (gsCons g gs) := by
  refine PGs.imp (pgs_cons hg hs hst) fun vs σ H Q ⟨R, ds, env, S, q, e, s, r, h, x, n⟩ => ?_
  cases ds with
  | nil => exact h.elim
  | cons d ds =>
    unfold RDs at r
    obtain ⟨v, ws, rfl, r1, r2⟩ := r
    exact ⟨v, ws, rfl, R, d, env, S, _, e, s, r1, h, x, fun env1 S1 σ1 H1 t1 e1 s1 h1 => ⟨R, ds, env1, S1, q, e1, s1, r2.mono t1.t, h1, x.mono t1, n.mono t1⟩⟩
theorem g_tup {es : List Expr} {k n : Nat} {gs : DGs} (hc : X.calm = true) (h : PGsd X W es gs) (hn : (assignEach es X.env).length = n) (hst : (assignEach es X.env).findIdx? (·.1) = none) (hl : ∀ R ds env S q, gs R ds env S q → ds.length = n) : PGd X W (.Tuple es k pos) (gTp gs) := by
  refine PG.imp (pg_tup hc h hn hst) fun v σ H Q ⟨R, d, env, S, q, e, s, r, h, x, nn⟩ => ?_
  cases d with
  | tup ds =>
    unfold RD at r
    obtain ⟨p, vs, rfl, tt, rr⟩ := r
    exact ⟨p, vs, rfl, tt.sq, by rw [← rr.length]; exact hl _ _ _ _ _ h, R, ds, env, S, q, e, s, rr, h, x, nn⟩
  | _ => exact h.elim
/-- the same of a row that comes as a tuple -/
theorem g_row {K : PySem.W.Frag} {gs : DGs} {n : Nat} (hl : ∀ R ds env S q, gs R ds env S q → ds.length = n) {R : XR} {row : List D} {env : Env} {S : Sto} {q : Env → Sto → Prop} {v : V} {σ : L2.St} {H : Hp} {Q : L2.St → Hp → Prop}
    (e : RelEnv K H env σ) (s : RS K H S) (r : RowR K H true row v) (h : gs R row env S q) (x : XOk K W S H R) (nn : NOk K S H q Q) : gTup K n (liftGs K W gs) v σ H Q := by
  unfold RowR at r
  rw [if_pos rfl] at r
  obtain ⟨a, vs, rfl, sq, rr⟩ := r
  exact ⟨a, vs, rfl, sq, by rw [← rr.length]; exact hl _ _ _ _ _ h, R, row, env, S, q, e, s, rr, h, x, nn⟩
theorem s_asg {tg : Expr} {g : DG} (ha : PEd X W a ta) (hg : PGd X W tg g) (hs : swapsWithSole [tg] a pos.line X.env = pure false) (hw : swappedStores [tg] a X.env = pure none)
    (h1 : (assignEach [tg] X.env).map (·.2) = [assign tg X.env]) : PSd X W (.Assign [tg] a pos) (sAsg g ta) :=
  PS.imp (ps_asg ha hg hs hw h1) fun D σ H ⟨R, N, env, S, e, s, h, x, n, r, c⟩ => ⟨R, env, S, _, e, s, h, x, fun d S1 v H1 t1 r1 s1 h1 => ⟨R, d, env, S1, _, e.mono t1.t, s1, r1, h1, x.mono t1, n.mono t1⟩⟩
end
end C2

/-! Loops, comprehensions, what is walked. -/
namespace C2
open PySem PySem.Spec PyProof.Rows L2
section
variable {X : Cx} {W : WX}
/-- what a target must do with what a turn hands out -/
def GOk (K : PySem.W.Frag) (W : WX) (mul : Bool) (gs : DGs) (g : TG) : Prop := ∀ (R : XR) (row : List D) (env : Env) (S : Sto) (q : Env → Sto → Prop) (v : V) (σ : L2.St) (H : Hp) (Q : L2.St → Hp → Prop),
  RelEnv K H env σ → RS K H S → RowR K H mul row v → gs R row env S q → XOk K W S H R → NOk K S H q Q → g v σ H Q
theorem gOk_one {K : PySem.W.Frag} {g : DG} : GOk K W false (gOne g) (liftG K W g) := fun R row env S q v σ H Q e s r h x n => by
  unfold RowR at r
  rw [if_neg (by decide)] at r
  obtain ⟨d, rfl, rd⟩ := r
  exact ⟨R, d, env, S, q, e, s, rd, h, x, n⟩
theorem gOk_row {K : PySem.W.Frag} {gs : DGs} {n : Nat} (hl : ∀ R ds env S q, gs R ds env S q → ds.length = n) : GOk K W true gs (gTup K n (liftGs K W gs)) := fun R row env S q v σ H Q e s r h x nn => g_row hl e s r h x nn

theorem s_forG {tg iter : Expr} {body : List Stmt} {mul : Bool} {ti : DI} {gs : DGs} {b : DS} {g : TG} {pos : Pos} (hp : PassesOwn (model X.prog X.w) X.A X.env X.xe) (hc : X.calm = true) (hi : PId X W mul tg iter ti) (hg : PG X tg g) (ok : GOk X.K W mul gs g) (hb : PSsd X W body b)
    (hs : ∀ x, foldedSetIterable iter X.env x = pure x) : PSd X W (.For tg iter body [] pos) (sFor ti gs b) := by
  refine PS.imp (ps_for hp hc hi hg hb hs) fun D σ H ⟨R, N, env, S, e, s, h, x, n, r, c⟩ => ?_
  refine ⟨R, env, S, _, e, s, h, x, fun rows chk S1 J H1 t1 s1 it h1 => ?_⟩
  refine ⟨fun i m σ' H' => m = rows.length - i ∧ i ≤ rows.length ∧ ∃ env' S', Stp S H S' H' ∧ Tle H1 H' ∧ RelEnv X.K H' env' σ' ∧ RS X.K H' S' ∧ forD chk gs b R N (rows.drop i) env' S', ⟨_, rfl, Nat.zero_le _, env, S1, t1, Tle.rfl', e.mono t1.t, s1, by simpa using h1⟩, ?_⟩
  rintro i m σ' H' ⟨rfl, hi, env', S', t', u', e', s', h'⟩
  by_cases hlt : i < rows.length
  · rw [List.drop_eq_getElem_cons hlt] at h'
    unfold forD at h'
    obtain ⟨hk, h'⟩ := h'
    obtain ⟨go, yl⟩ := it.go i H' S' rows[i] u' s' hk (by simp [hlt])
    refine .inr ⟨go, fun σ2 H2 => ∃ env2 S2, Stp S H S2 H2 ∧ Tle H1 H2 ∧ RelEnv X.K H2 env2 σ2 ∧ RS X.K H2 S2 ∧ forD chk gs b R N (rows.drop (i + 1)) env2 S2, fun σ2 H2 hh => ⟨rows.length - (i + 1), by omega, rfl, by omega, hh⟩, fun v H2 y => ?_⟩
    obtain ⟨t2, s2, rr⟩ := yl v H2 y
    refine ok R rows[i] env' S' _ v σ' H2 _ (e'.mono t2.t) s2 rr h' (x.mono (t'.trans t2)) fun env3 S3 σ3 H3 t3 e3 s3 h3 => ?_
    have tt := (t'.trans t2).trans t3
    have nk : NOk X.K S3 H3 (fun e s => forD chk gs b R N (rows.drop (i + 1)) e s) (fun σ2 H2 => ∃ env2 S2, Stp S H S2 H2 ∧ Tle H1 H2 ∧ RelEnv X.K H2 env2 σ2 ∧ RS X.K H2 S2 ∧ forD chk gs b R N (rows.drop (i + 1)) env2 S2) :=
      fun env4 S4 σ4 H4 t4 e4 s4 h4 => ⟨env4, S4, tt.trans t4, ((u'.trans t2.t).trans t3.t).trans t4.t, e4, s4, h4⟩
    exact ⟨R, _, env3, S3, e3, s3, h3, x.mono tt, nk, r.mono tt, nk⟩
  · have e0 : i = rows.length := by omega
    subst e0
    rw [List.drop_length] at h'
    unfold forD at h'
    exact .inl ⟨it.stop _ H' S' u' s' h'.1 rfl, n env' S' σ' H' t' e' s' h'.2⟩
theorem s_for1 {tg iter : Expr} {body : List Stmt} {ti : DI} {g : DG} {b : DS} {pos : Pos} (hp : PassesOwn (model X.prog X.w) X.A X.env X.xe) (hc : X.calm = true) (hi : PId X W false tg iter ti) (hg : PGd X W tg g) (hb : PSsd X W body b)
    (hs : ∀ x, foldedSetIterable iter X.env x = pure x) : PSd X W (.For tg iter body [] pos) (sFor ti (gOne g) b) := s_forG hp hc hi hg gOk_one hb hs
theorem s_forM {es : List Expr} {k n : Nat} {tpos : Pos} {iter : Expr} {body : List Stmt} {ti : DI} {gs : DGs} {b : DS} {pos : Pos} (hp : PassesOwn (model X.prog X.w) X.A X.env X.xe) (hc : X.calm = true) (hi : PId X W true (.Tuple es k tpos) iter ti) (hg : PGsd X W es gs)
    (hn : (assignEach es X.env).length = n) (hst : (assignEach es X.env).findIdx? (·.1) = none) (hl : ∀ R ds env S q, gs R ds env S q → ds.length = n) (hb : PSsd X W body b)
    (hs : ∀ x, foldedSetIterable iter X.env x = pure x) : PSd X W (.For (.Tuple es k tpos) iter body [] pos) (sFor ti gs b) := s_forG hp hc hi (pg_tup hc hg hn hst) (gOk_row hl) hb hs

/-! ### comprehensions -/
theorem wipe_rel {K : PySem.W.Frag} {H : Hp} {env : Env} {σ : L2.St} (r : RelEnv K H env σ) : ∀ own : List Nat, RelEnv K H (wipeE env own) (wipe σ own)
  | [] => r
  | _ :: vs => (wipe_rel r vs).unset
/-- names as targets: slots of the block's own -/
theorem wipe_set {σ : L2.St} {i : Nat} {v : Option V} : ∀ {own : List Nat}, i ∈ own → wipe (σ.set i v) own = wipe σ own
  | [], h => by simp at h
  | j :: vs, h => by
    unfold wipe
    by_cases hj : j = i
    · subst hj
      by_cases hi : j ∈ vs
      · rw [wipe_set hi]
      · have key : ∀ (l : List Nat) (σ : L2.St), j ∉ l → wipe (σ.set j v) l = (wipe σ l).set j v := by
          intro l
          induction l with
          | nil => intro σ _; rfl
          | cons a l ih =>
            intro σ hl
            have h1 : j ≠ a := fun z => hl (by simp [z])
            have h2 : j ∉ l := fun z => hl (by simp [z])
            show (wipe (σ.set j v) l).set a none = ((wipe σ l).set a none).set j v
            rw [ih σ h2, List.set_comm _ _ h1]
        rw [key vs σ hi, List.set_set]
    · have hi : i ∈ vs := by
        rcases List.mem_cons.mp h with z | z
        · exact absurd z.symm hj
        · exact z
      rw [wipe_set hi]
theorem wipe_sub {σ : L2.St} {own : List Nat} : ∀ {l : List Nat}, (∀ i ∈ l, i ∈ own) → wipe (wipe σ l) own = wipe σ own
  | [], _ => rfl
  | j :: vs, h => by
    show wipe ((wipe σ vs).set j none) own = _
    rw [wipe_set (h j List.mem_cons_self)]
    exact wipe_sub fun i hi => h i (List.mem_cons_of_mem _ hi)
theorem wipe_wipe {σ : L2.St} {own : List Nat} : wipe (wipe σ own) own = wipe σ own := wipe_sub fun _ h => h
/-- one name a slot -/
def TgN (X : Cx) : List Expr → List Nat → Prop
  | [], [] => True
  | .Name x _ :: es, i :: is => X.N[i]? = some x ∧ Loc X.env.scope x ∧ (X.fn x = true ∨ X.env.scope.names.lookup x = some .local) ∧ TgN X es is
  | _, _ => False
/-- the readings of the targets -/
def gAll : List Nat → TGs
  | [] => gNil
  | i :: is => gCons (gName i) (gAll is)
theorem pgs_all (hN : X.N.Nodup) : ∀ {es : List Expr} {is : List Nat}, TgN X es is → PGs X es (gAll is)
  | [], [], _ => pgs_nil
  | .Name x p :: es, i :: is, h => by
    obtain ⟨h1, h2, h3, h4⟩ := h
    exact pgs_cons (pg_name hN h1 h2 h3) (pgs_all hN h4) rfl
  | [], _ :: _, h => h.elim
  | .Name _ _ :: _, [], h => h.elim
  | .BoolOp .. :: _, [], h => h.elim
  | .BoolOp .. :: _, _ :: _, h => h.elim
  | .NamedExpr .. :: _, [], h => h.elim
  | .NamedExpr .. :: _, _ :: _, h => h.elim
  | .BinOp .. :: _, [], h => h.elim
  | .BinOp .. :: _, _ :: _, h => h.elim
  | .UnaryOp .. :: _, [], h => h.elim
  | .UnaryOp .. :: _, _ :: _, h => h.elim
  | .Lambda .. :: _, [], h => h.elim
  | .Lambda .. :: _, _ :: _, h => h.elim
  | .IfExp .. :: _, [], h => h.elim
  | .IfExp .. :: _, _ :: _, h => h.elim
  | .Dict .. :: _, [], h => h.elim
  | .Dict .. :: _, _ :: _, h => h.elim
  | .Set .. :: _, [], h => h.elim
  | .Set .. :: _, _ :: _, h => h.elim
  | .ListComp .. :: _, [], h => h.elim
  | .ListComp .. :: _, _ :: _, h => h.elim
  | .SetComp .. :: _, [], h => h.elim
  | .SetComp .. :: _, _ :: _, h => h.elim
  | .DictComp .. :: _, [], h => h.elim
  | .DictComp .. :: _, _ :: _, h => h.elim
  | .GeneratorExp .. :: _, [], h => h.elim
  | .GeneratorExp .. :: _, _ :: _, h => h.elim
  | .Await .. :: _, [], h => h.elim
  | .Await .. :: _, _ :: _, h => h.elim
  | .Yield .. :: _, [], h => h.elim
  | .Yield .. :: _, _ :: _, h => h.elim
  | .YieldFrom .. :: _, [], h => h.elim
  | .YieldFrom .. :: _, _ :: _, h => h.elim
  | .Compare .. :: _, [], h => h.elim
  | .Compare .. :: _, _ :: _, h => h.elim
  | .Call .. :: _, [], h => h.elim
  | .Call .. :: _, _ :: _, h => h.elim
  | .FormattedValue .. :: _, [], h => h.elim
  | .FormattedValue .. :: _, _ :: _, h => h.elim
  | .JoinedStr .. :: _, [], h => h.elim
  | .JoinedStr .. :: _, _ :: _, h => h.elim
  | .Constant .. :: _, [], h => h.elim
  | .Constant .. :: _, _ :: _, h => h.elim
  | .Attribute .. :: _, [], h => h.elim
  | .Attribute .. :: _, _ :: _, h => h.elim
  | .Subscript .. :: _, [], h => h.elim
  | .Subscript .. :: _, _ :: _, h => h.elim
  | .Starred .. :: _, [], h => h.elim
  | .Starred .. :: _, _ :: _, h => h.elim
  | .List .. :: _, [], h => h.elim
  | .List .. :: _, _ :: _, h => h.elim
  | .Tuple .. :: _, [], h => h.elim
  | .Tuple .. :: _, _ :: _, h => h.elim
  | .Slice .. :: _, [], h => h.elim
  | .Slice .. :: _, _ :: _, h => h.elim
theorem TgN.len : ∀ {es : List Expr} {is : List Nat}, TgN X es is → (assignEach es X.env).length = is.length ∧ (assignEach es X.env).findIdx? (·.1) = none
  | [], [], _ => ⟨rfl, rfl⟩
  | e :: es, i :: is, h => by
    cases e with
    | Name x p =>
      obtain ⟨_, _, _, h4⟩ := h
      obtain ⟨a, b⟩ := TgN.len h4
      have : assignEach (.Name x p :: es) X.env = (false, assign (.Name x p) X.env) :: assignEach es X.env := rfl
      rw [this]
      exact ⟨by simp [a], by rw [List.findIdx?_cons]; simp [b]⟩
    | _ => exact h.elim
  | [], _ :: _, h => h.elim
  | e :: _, [], h => by cases e <;> exact h.elim
/-- the store of a row into slots, in the abstract and among the values -/
theorem gAll_ok {K : PySem.W.Frag} {H : Hp} {own : List Nat} {Q : L2.St → Hp → Prop} : ∀ {is : List Nat} {ds : List D} {vs : List V} {env env2 : Env} {σ : L2.St}, (∀ i ∈ is, i ∈ own) → RelEnv K H env σ → RDs K H ds vs → setAll is ds env = some env2 →
    (∀ σ2, RelEnv K H env2 σ2 → wipe σ2 own = wipe σ own → Q σ2 H) → gAll is vs σ H Q
  | [], [], vs, env, env2, σ, _, e, r, h, k => by
    unfold RDs at r
    simp only [setAll, Option.some.injEq] at h
    subst h
    exact ⟨r, k σ e rfl⟩
  | [], _ :: _, _, _, _, _, _, _, _, h, _ => by simp [setAll] at h
  | i :: is, [], _, _, _, _, _, _, _, h, _ => by simp [setAll] at h
  | i :: is, d :: ds, vs, env, env2, σ, ho, e, r, h, k => by
    unfold RDs at r
    obtain ⟨v, ws, rfl, r1, r2⟩ := r
    refine ⟨v, ws, rfl, ?_⟩
    refine gAll_ok (own := own) (fun j hj => ho j (List.mem_cons_of_mem _ hj)) (e.set (i := i) r1) r2 (show setAll is ds (env.set i (some d)) = some env2 from h) fun σ2 e2 w2 => k σ2 e2 (w2.trans (wipe_set (ho i List.mem_cons_self)))
/-- a comprehension's target -/
def cTg (K : PySem.W.Frag) (mul unp : Bool) (tg : List Nat) : TG :=
  if (mul || unp) = true then gTup K tg.length (gAll tg) else match tg with
    | [i] => gName i
    | _ => fun _ _ _ _ => False
theorem cTg_ok {K : PySem.W.Frag} {H : Hp} {own tg : List Nat} {mul unp : Bool} {row : List D} {v : V} {env env2 : Env} {σ : L2.St} {Q : L2.St → Hp → Prop} (hx : (mul && unp) = false) (h1 : (mul || unp) = false → tg.length = 1) (ho : ∀ i ∈ tg, i ∈ own) (e : RelEnv K H env σ) (r : RowR K H mul row v) (h : bindRow unp tg row env = some env2)
    (k : ∀ σ2, RelEnv K H env2 σ2 → wipe σ2 own = wipe σ own → Q σ2 H) : cTg K mul unp tg v σ H Q := by
  have sl : ∀ {is : List Nat} {ds : List D} {env env2 : Env}, setAll is ds env = some env2 → ds.length = is.length := by
    intro is
    induction is with
    | nil => intro ds env env2 h; cases ds with
      | nil => rfl
      | cons _ _ => simp [setAll] at h
    | cons i is ih => intro ds env env2 h; cases ds with
      | nil => simp [setAll] at h
      | cons d ds => simp only [setAll] at h; simp [ih h]
  unfold cTg
  unfold RowR at r
  unfold bindRow at h
  cases mul with
  | true =>
    have hu : unp = false := by simpa using hx
    subst hu
    simp only [Bool.or_false, if_true, Bool.false_eq_true, if_false] at r h ⊢
    obtain ⟨a, vs, rfl, sq, rr⟩ := r
    exact ⟨a, vs, rfl, sq, by rw [← rr.length, sl h], gAll_ok ho e rr h k⟩
  | false =>
    simp only [Bool.false_eq_true, if_false] at r
    obtain ⟨d, rfl, rd⟩ := r
    cases unp with
    | true =>
      simp only [Bool.or_true, if_true] at h ⊢
      cases d with
      | tup ds =>
        unfold RD at rd
        obtain ⟨a, vs, rfl, tt, rr⟩ := rd
        exact ⟨a, vs, rfl, tt.sq, by rw [← rr.length, sl h], gAll_ok ho e rr h k⟩
      | _ => simp at h
    | false =>
      simp only [Bool.or_false, Bool.false_eq_true, if_false] at h ⊢
      match tg, h1 rfl with
      | [i], _ =>
        simp only [setAll, Option.some.injEq] at h
        subst h
        exact k _ (e.set rd) (wipe_set (ho i List.mem_cons_self))
/-- the reading of a comprehension -/
theorem lc_ok {K : PySem.W.Frag} {own tg : List Nat} {mul unp : Bool} {ti : DI} {t : DT} {el : DE} {W : WX} {σ : L2.St} {H : Hp} {Q : VK} (hx : (mul && unp) = false) (h1 : (mul || unp) = false → tg.length = 1) (ho : ∀ i ∈ tg, i ∈ own)
    {R : XR} {env : Env} {S : Sto} {q : List D → Sto → Prop} (e : RelEnv K H env σ) (s : RS K H S) (h : cIt own ti unp tg t el R env S q) (x : XOk K W S H R)
    (k : ∀ ds S' vs H' p, Stp S H S' H' → H p = none → S' p = none → H' p = some (.lst vs) → RDs K H' ds vs → RS K H' S' → vs.length ≤ sizeLine → q ds S' → Q (.ref p) H') :
    tLc (liftI K W mul ti) (cTg K mul unp tg) (liftT K (fun _ _ _ _ => False) t) (liftE K (fun _ _ _ _ => False) el) own σ H Q := by
  refine ⟨R, env, S, _, e, s, h, x, fun rows chk S1 J H1 t1 s1 it hq => ?_⟩
  intro P hP
  have e1 := (wipe_rel e own).mono t1.t
  refine ⟨fun i m H' => m = rows.length - i ∧ i ≤ rows.length ∧ ∃ acc S' vs, Stp S1 H1 S' H' ∧ S' P = none ∧ H' P = some (.lst vs) ∧ RDs K H' acc vs ∧ vs.length ≤ sizeLine ∧ RS K H' S' ∧ compD chk (wipeE env own) unp tg t el (rows.drop i) acc S' q,
    ⟨_, rfl, Nat.zero_le _, [], S1, [], Stp.new hP, s1.free hP, upd_same, RDs.nil, Nat.zero_le _, s1.new hP, by simpa using hq⟩, ?_⟩
  rintro i m H' ⟨rfl, hi, acc, S', vs, st, sp, hv, rv, hz, s', hc⟩
  have u' : Tle H1 H' := st.t
  by_cases hlt : i < rows.length
  · rw [List.drop_eq_getElem_cons hlt] at hc
    unfold compD at hc
    obtain ⟨hk, hc⟩ := hc
    obtain ⟨go, yl⟩ := it.go i H' S' rows[i] u' s' hk (by simp [hlt])
    refine .inr ⟨go, fun H2 => ∃ acc S2 vs, Stp S1 H1 S2 H2 ∧ S2 P = none ∧ H2 P = some (.lst vs) ∧ RDs K H2 acc vs ∧ vs.length ≤ sizeLine ∧ RS K H2 S2 ∧ compD chk (wipeE env own) unp tg t el (rows.drop (i + 1)) acc S2 q,
      fun H2 hh => ⟨rows.length - (i + 1), by omega, rfl, by omega, hh⟩, fun v H2 y => ?_⟩
    obtain ⟨t2, s2, rr⟩ := yl v H2 y
    have hv2 : H2 P = some (.lst vs) := t2.fr P _ hv sp
    cases hb : bindRow unp tg rows[i] (wipeE env own) with
    | none => rw [hb] at hc; exact hc.elim
    | some env2 =>
      rw [hb] at hc
      have e2 : RelEnv K H2 (wipeE env own) (wipe σ own) := (e1.mono u').mono t2.t
      refine cTg_ok (own := own) hx h1 ho e2 rr hb fun σ3 e3 w3 => ⟨by rw [w3, wipe_wipe], ?_⟩
      refine ⟨noX, env2, S', _, e3, s2, hc, fun _ _ _ _ _ _ _ _ _ _ _ z => z.elim, fun b S3 H3 t3 s3 h3 => ?_⟩
      have st3 := (st.trans t2).trans t3
      have hv3 : H3 P = some (.lst vs) := t3.fr P _ hv2 sp
      have sp3 : S3 P = none := t3.out hv2 sp
      cases b with
      | false =>
        simp only [Bool.false_eq_true, if_false] at h3 ⊢
        exact ⟨acc, S3, vs, st3, sp3, hv3, (rv.mono t2.t).mono t3.t, hz, s3, h3⟩
      | true =>
        simp only [if_true] at h3 ⊢
        refine ⟨noX, env2, S3, _, e3.mono t3.t, s3, h3, fun _ _ _ _ _ _ _ _ _ _ _ z => z.elim, fun d S4 w H4 t4 rd4 s4 ⟨hl4, h4⟩ => ?_⟩
        have st4 := st3.trans t4
        have hv4 : H4 P = some (.lst vs) := t4.fr P _ hv3 sp3
        have sp4 : S4 P = none := t4.out hv3 sp3
        have rv4 := ((rv.mono t2.t).mono t3.t).mono t4.t
        have tw : Tle H4 (upd H4 P (.lst (vs ++ [w]))) := Tle.put hv4 trivial
        have hlv : vs.length < sizeLine := by rw [← rv.length]; exact hl4
        refine ⟨vs, hv4, hlv, acc ++ [d], S4, vs ++ [w], st4.grow hP hv4 trivial, sp4, upd_same, (rv4.append (RDs.one rd4)).mono tw, by simp; omega, ?_, h4⟩
        intro a o ha
        have hap : a ≠ P := by rintro rfl; rw [sp4] at ha; cases ha
        exact (s4 a o ha).keep tw fun u hu => by rw [upd_ne hap]; exact hu
  · have e0 : i = rows.length := by omega
    subst e0
    rw [List.drop_length] at hc
    unfold compD at hc
    exact .inl ⟨it.stop _ H' S' u' s' hc.1 rfl, k acc S' vs H' P (t1.trans st) (t1.none hP) sp hv rv s' hz hc.2⟩
/-- the context of a block -/
abbrev Blk (X : Cx) (scope : Scope) (s : Shared) (H : Hp) (C : Addr) (cl : List (Str × Addr)) (fp : List Addr) : Cx := X.blk s H scope (compEnvC scope cl C X.env) fp
theorem pg_cTg {X : Cx} (hN : X.N.Nodup) (hc : X.calm = true) {tge : Expr} {es : List Expr} {tg : List Nat} {mul unp : Bool} (ht : TgN X es tg) (hf : ((mul || unp) = true ∧ ∃ k p, tge = .Tuple es k p) ∨ ((mul || unp) = false ∧ es = [tge])) : PG X tge (cTg X.K mul unp tg) := by
  unfold cTg
  rcases hf with ⟨h1, k, p, rfl⟩ | ⟨h1, rfl⟩
  · rw [if_pos h1]
    exact pg_tup hc (pgs_all hN ht) ht.len.1 ht.len.2
  · rw [if_neg (by rw [h1]; decide)]
    cases tge with
    | Name x p =>
      cases tg with
      | nil => exact ht.elim
      | cons i is =>
        obtain ⟨a, b, c, d⟩ := ht
        cases is with
        | nil => exact pg_name hN a b c
        | cons _ _ => exact d.elim
    | _ => cases tg <;> exact ht.elim
section
variable {elt tge iter : Expr} {ifs es : List Expr} {scope : Scope} {own : List (Str × Nat)} {mul unp : Bool} {tg : List Nat} {ti : DI} {t : DT} {el : DE} {pos : Pos}
/-- a comprehension's parts -/
structure CompP (X : Cx) (W : WX) (elt tge iter : Expr) (ifs es : List Expr) (scope : Scope) (own : List (Str × Nat)) (mul unp : Bool) (tg : List Nat) (ti : DI) (t : DT) (el : DE) : Prop where
  it : PId X W mul tge iter ti
  blk : BlkOk X.N X.env.scope scope own
  form : ((mul || unp) = true ∧ ∃ k p, tge = .Tuple es k p) ∨ ((mul || unp) = false ∧ es = [tge])
  hx : (mul && unp) = false
  one : (mul || unp) = false → tg.length = 1
  ho : ∀ i ∈ tg, i ∈ own.map (·.2)
  tgn : ∀ s H C cl fp, TgN (Blk X scope s H C cl fp) es tg
  ht : ∀ s H C cl fp, PTs (Blk X scope s H C cl fp) ifs (liftT X.K (fun _ _ _ _ => False) t)
  he : ∀ s H C cl fp, PEd (Blk X scope s H C cl fp) (fun _ _ _ _ => False) elt el
  hs : ∀ x, foldedSetIterable iter X.env x = pure x
theorem pe_compG (hc : X.calm = true) (hN : X.N.Nodup) (c : CompP X W elt tge iter ifs es scope own mul unp tg ti t el) :
    PE X (.ListComp elt [⟨tge, iter, ifs, 0⟩] scope pos) (tLc (liftI X.K W mul ti) (cTg X.K mul unp tg) (liftT X.K (fun _ _ _ _ => False) t) (liftE X.K (fun _ _ _ _ => False) el) (own.map (·.2))) :=
  pe_lc hc hN c.it c.blk (fun s H C cl fp => pg_cTg (X := Blk X scope s H C cl fp) hN hc (c.tgn s H C cl fp) c.form) c.ht c.he c.hs
theorem add_list {K : PySem.W.Frag} {H H' : Hp} {S S' : Sto} {p : Addr} {ds : List D} {vs : List V} (st : Stp S H S' H') (h0 : H p = none) (hv : H' p = some (.lst vs)) (rv : RDs K H' ds vs) (s : RS K H' S') :
    Stp S H (up S' p (.lst ds)) H' ∧ RS K H' (up S' p (.lst ds)) := by
  refine ⟨⟨st.t, st.fr, fun a o u h e => ?_, st.liv⟩, fun a o h => ?_⟩
  · rw [up_ne (ne_of_none e h0)] at h; exact st.dom a o u h e
  · by_cases c : a = p
    · subst c; rw [up_same] at h; cases h; exact ⟨vs, hv, rv⟩
    · rw [up_ne c] at h; exact s a o h
theorem d_comp (hc : X.calm = true) (hN : X.N.Nodup) (c : CompP X W elt tge iter ifs es scope own mul unp tg ti t el) :
    PEd X W (.ListComp elt [⟨tge, iter, ifs, 0⟩] scope pos) (eComp (own.map (·.2)) ti unp tg t el) :=
  PE.imp (pe_compG hc hN c) fun σ H Q ⟨R, env, S, q, e, s, h, x, k⟩ => lc_ok c.hx c.one c.ho e s h x fun ds S' vs H' p st h0 sp hv rv s' hz hq => by
    obtain ⟨a, b⟩ := add_list st h0 hv rv s'
    exact k (.ref p) _ (.ref p) H' a (by unfold RD; rfl) b (hq p sp)
/-- y = [..] on one line, y a local -/
theorem s_comp {i : Nat} {y : Str} {py spos : Pos} (hc : X.calm = true) (hN : X.N.Nodup) (hy : X.N[i]? = some y) (hyl : X.env.scope.names.lookup y = some .local)
    (hsw : swapsWith (.ListComp elt [⟨tge, iter, ifs, 0⟩] scope pos) (some (.Name y py)) spos.line X.env = pure true) (c : CompP X W elt tge iter ifs es scope own mul unp tg ti t el) :
    PSd X W (.Assign [.Name y py] (.ListComp elt [⟨tge, iter, ifs, 0⟩] scope pos) spos) (sAsg (gNm i) (eComp (own.map (·.2)) ti unp tg t el)) :=
  PS.imp (ps_setLc hc hN hy hyl hsw c.it c.blk (fun s H C cl fp => pg_cTg (X := Blk X scope s H C cl fp) hN hc (c.tgn s H C cl fp) c.form) c.ht c.he c.hs) fun D σ H ⟨R, N, env, S, e, s, h, x, n, r, cc⟩ =>
    lc_ok c.hx c.one c.ho e s h x fun ds S' vs H' p st h0 sp hv rv s' hz hq => by
      obtain ⟨a, b⟩ := add_list st h0 hv rv s'
      exact n _ _ _ H' a ((e.mono st.t).set (by unfold RD; rfl)) b (hq p sp)
end
end
end C2

/-! What is walked: lists and tuples by value, texts, enumerate and zip of lists and tuples in any mix, ranges. -/
namespace C2
open PySem PySem.Spec PyProof.Rows L2

/-! ### lists and tuples alike: k tells which (true: a tuple) -/
def SqK (k : Bool) (K : PySem.W.Frag) (H : Hp) (a : Addr) (xs : List V) : Prop := if k = true then SqT K H a xs else SqL K H a xs
def IterK (k : Bool) (h : Heap) (it a : Addr) (i : Nat) : Prop := if k = true then h.IsTupleIter it a i else h.IsListIter it a i
def IsK (k : Bool) (h : Heap) (a : Addr) (items : Array Value) : Prop := if k = true then h.IsTuple a items else h.IsList a items
def itObj (k : Bool) (a : Addr) : Obj := if k = true then { cls := .type "tuple_iterator", data := .fields #[.ref a, .int 0 0] } else { cls := .type "list_iterator", data := .fields #[.ref a, .int 0 0] }
section
variable {k : Bool} {h h' : Heap} {it a : Addr} {i : Nat} {items : Array Value}
theorem IterK.at (x : IterK k h it a i) (e : ∀ o, h.get? it = some o → h'.get? it = some o) : IterK k h' it a i := by
  cases k with
  | true => exact Heap.IsTupleIter.at (show h.IsTupleIter it a i from x) e
  | false => exact Heap.IsListIter.at (show h.IsListIter it a i from x) e
theorem IterK.obj (x : IterK k h it a i) : ∃ o vs, h.get? it = some o ∧ o.data = .fields vs := by
  cases k with
  | true => obtain ⟨o, e, _, d⟩ := (show h.IsTupleIter it a i from x); exact ⟨o, _, e, d⟩
  | false => obtain ⟨o, e, _, d⟩ := (show h.IsListIter it a i from x); exact ⟨o, _, e, d⟩
theorem IsK.at (x : IsK k h a items) (e : ∀ o, h.get? a = some o → h'.get? a = some o) : IsK k h' a items := by
  cases k with
  | true => exact Heap.IsTuple.at (show h.IsTuple a items from x) e
  | false => exact Heap.IsList.at (show h.IsList a items from x) e
theorem IsK.lt (x : IsK k h a items) : a < h.objs.size := by
  cases k with
  | true => obtain ⟨o, e, _⟩ := (show h.IsTuple a items from x); exact Heap.lt_size e
  | false => obtain ⟨o, e, _⟩ := (show h.IsList a items from x); exact Heap.lt_size e
theorem drawsK {prog : Program} {w : World} {A : Around} (hh : A.handled = none) (hne : a ≠ it) :
    Draws prog w A it [it, a] items.size (fun i v => items[i]? = some v) (fun i h => IterK k h it a i ∧ IsK k h a items) := by
  cases k with
  | true => exact Draws.tuple hh it a hne items
  | false => exact Draws.list hh it a hne items
theorem beginsK : Begins (.ref a) (itObj k a) fun h => IsK k h a items := by
  cases k with
  | true => exact begins_tuple a items
  | false => exact begins_list a items
theorem iterK_new (e : h.get? it = some (itObj k a)) : IterK k h it a 0 := by
  cases k with
  | true => exact ⟨_, e, rfl, rfl⟩
  | false => exact ⟨_, e, rfl, rfl⟩
end
section
variable {X : Cx} {pins : List (Addr × Obj)} {σ : L2.St} {H : Hp} {s : Shared} {a : Addr} {xs ys : List V} {k : Bool}
theorem seqK (I : Inv X pins σ H s) (h : SqK k X.K H a xs) : ∃ its : List Value, Vals xs its ∧ IsK k s.heap a its.toArray ∧ xs.length ≤ sizeLine := by
  cases k with
  | true => obtain ⟨its, r, p, z⟩ := I.tuple (show SqT X.K H a xs from h); exact ⟨its, r, p, z⟩
  | false => obtain ⟨its, r, p, z⟩ := I.list (show SqL X.K H a xs from h); exact ⟨its, r, p.isList, z⟩
theorem seqK_inj (I : Inv X pins σ H s) (h : SqK k X.K H a xs) (h' : SqK k X.K H a ys) : xs = ys := by
  cases k with
  | true => exact I.tuple_inj h h'
  | false => exact I.list_inj h h'
end

/-! ### enumerate -/
theorem meets_enumerate_newT (l : Addr) (items : Array Value) (n : Nat) (dct : Option Addr) (sl : Array (Option Value)) :
    Meets (Builtin.«enumerate.__new__» ⟨[.type "enumerate", .ref l], []⟩) (fun _ R s => s.heap.get? l = some { cls := .type "tuple", dict := dct, data := .seq items n, slots := sl } ∧
      R (.ok (.ret (.ref (s.heap.push { cls := .type "tuple_iterator", data := .fields #[.ref l, .int 0 0] }).objs.size)))
        { s with heap := (s.heap.push { cls := .type "tuple_iterator", data := .fields #[.ref l, .int 0 0] }).push { cls := .type "enumerate", data := .fields #[.none, .bool false, .ref s.heap.objs.size, rawInt 0, .none, .none] } }) :=
  .of_wp fun prog w A R s h => by
    obtain ⟨hp, g, d, tk, os⟩ := s; obtain ⟨hl, h⟩ := h
    have hsub := sub_enumerate
    have hL : Heap.IsTuple (Shared.heap ⟨hp, g, d, tk, os⟩) l items := ⟨_, hl, rfl, n, rfl⟩
    wp_walk using AutoSeq1.wpAny_loadPart' hl
    refine wpAny_stack_any fun st => wpAny_pure ?_
    split
    · rename_i c _ _ _ _ _
      cases (c == Value.type "enumerate")
      · wp_walk using AutoSeq1.wpAny_loadPart' hl, wpAny_pyIter_tuple hL
        exact ⟨_, rfl, h⟩
      · wp_walk using AutoSeq1.wpAny_loadPart' hl, wpAny_pyIter_tuple hL
        exact ⟨_, rfl, h⟩
    · wp_walk using AutoSeq1.wpAny_loadPart' hl, wpAny_pyIter_tuple hL
      exact ⟨_, rfl, h⟩
section
variable {prog : Program} {w : World} {A : Around} {E : Value → Shared → Prop} {s : Shared}
theorem call_enumerate_tuple {l : Addr} {items : Array Value} {Q : Value → Shared → Prop} (hL : s.heap.IsTuple l items)
    (h : ∀ h', IsEnum h' (s.heap.objs.size + 1) s.heap.objs.size 0 .none → h'.IsTupleIter s.heap.objs.size l 0 → h'.objs.size = s.heap.objs.size + 2 →
      (∀ b o, s.heap.get? b = some o → h'.get? b = some o) → Q (.ref (s.heap.objs.size + 1)) { s with heap := h' }) :
    wpAny (model prog w) A (call (.type "enumerate") [.ref l]) Q E s := by
  obtain ⟨⟨c, dct, dt, sl⟩, hl, hc, n, hd⟩ := hL
  replace hc : c = .type "tuple" := hc
  replace hd : dt = .seq items n := hd
  subst hc hd
  refine callType_new F.called_enumerate (by decide) (F.typeCall_enumerate_1 _) (F.newCall_enumerate_1 _) (fun obj => F.args_object_init_2 obj _) F.entry_enumerate_new
    (meets_enumerate_newT l items n dct sl) ⟨hl, ?_⟩
  have hz : (s.heap.push { cls := .type "tuple_iterator", data := .fields #[.ref l, .int 0 0] }).objs.size = s.heap.objs.size + 1 := Heap.size_push ..
  show _ ∧ _
  rw [hz]
  have he : IsEnum ((s.heap.push { cls := .type "tuple_iterator", data := .fields #[.ref l, .int 0 0] }).push
      { cls := .type "enumerate", data := .fields #[.none, .bool false, .ref s.heap.objs.size, rawInt 0, .none, .none] }) (s.heap.objs.size + 1) s.heap.objs.size 0 .none := by
    have := Heap.get?_push_size (s.heap.push { cls := .type "tuple_iterator", data := .fields #[.ref l, .int 0 0] })
      (o := { cls := .type "enumerate", data := .fields #[.none, .bool false, .ref s.heap.objs.size, rawInt 0, .none, .none] }) rfl
    rw [hz] at this; exact this
  refine ⟨⟨_, he, rfl⟩, h _ he ⟨_, Heap.get?_push_of_some _ (Heap.get?_push_size _ rfl), rfl, rfl⟩ (by rw [Heap.size_push, hz]) fun b o x => Heap.get?_push_of_some _ (Heap.get?_push_of_some _ x)⟩
theorem call_enumerate_K {k : Bool} {l : Addr} {items : Array Value} {Q : Value → Shared → Prop} (hL : IsK k s.heap l items)
    (h : ∀ h', IsEnum h' (s.heap.objs.size + 1) s.heap.objs.size 0 .none → IterK k h' s.heap.objs.size l 0 → h'.objs.size = s.heap.objs.size + 2 →
      (∀ b o, s.heap.get? b = some o → h'.get? b = some o) → Q (.ref (s.heap.objs.size + 1)) { s with heap := h' }) :
    wpAny (model prog w) A (call (.type "enumerate") [.ref l]) Q E s := by
  cases k with
  | true => exact call_enumerate_tuple hL h
  | false => exact call_enumerate_list hL h
end
def IteK (k : Bool) (K : PySem.W.Frag) (a : Addr) : It :=
  ⟨fun i H => ∃ (xs : List V) (x : V), SqK k K H a xs ∧ xs[i]? = some x, fun i H v H' => ∃ T x, v = .ref T ∧ H T = none ∧ H' = upd H T (.tup [.int (i : Nat), x]) ∧ ∀ xs, SqK k K H a xs → xs[i]? = some x, fun i H => ∃ xs : List V, SqK k K H a xs ∧ xs.length = i⟩
theorem turn_enumK {P : Program} {w : World} {K : PySem.W.Frag} {k : Bool} {elts : List Expr} {kk : Nat} {tpos : Pos} (a e it : Addr) (hae : a ≠ e) (hai : a ≠ it) :
    Turn P w K (.Tuple elts kk tpos) (IteK k K a) [e, it] e (fun i h => (∃ old, IsEnum h e it ((i : Nat) : Int) old) ∧ IterK k h it a i ∧ e ≠ it) where
  mem := by simp
  obj := fun i h st b hb => by
    obtain ⟨⟨old, he⟩, hi, _⟩ := st
    obtain ⟨o, vs, ho, hd⟩ := hi.obj
    have e' : b = e ∨ b = it := by simpa using hb
    rcases e' with z | z
    · rw [z]; exact ⟨_, he, fun v q => nomatch q⟩
    · rw [z]; exact ⟨o, ho, fun v q => by rw [hd] at q; cases q⟩
  keep := fun i h h' st kk => let ⟨⟨old, he⟩, hi, hne⟩ := st; ⟨⟨old, kk e (by simp) _ he⟩, hi.at fun o q => kk it (by simp) o q, hne⟩
  item := by
    intro X hP hw hK hc i pins s σ H E I hf st hg
    subst hP hw hK
    obtain ⟨⟨old, he⟩, hit, hne⟩ := st
    obtain ⟨xs, x, hq, hx⟩ := hg
    obtain ⟨its, rv, p, hz⟩ := seqK I hq
    obtain ⟨u, hu, ru⟩ := rv.get hx
    have hel : e < s.heap.objs.size := Heap.lt_size he
    have hil : it < s.heap.objs.size := by obtain ⟨o, vs, q, _⟩ := hit.obj; exact Heap.lt_size q
    have hlt : i < its.toArray.size := by
      have := (List.getElem?_eq_some_iff.mp hu).1
      simpa using this
    refine wpAny_pyNext_enum_itemC (c := (i : Int)) (drawsK (k := k) (prog := X.prog) (w := X.w) (items := its.toArray) (A := X.A.in1) (show X.A.in1.handled = none from I.ok.hd hc) hai) he ⟨hit, p⟩ hlt hne (by simp [hne, Ne.symm hae]) fun x' h' tk hP ho hit' hT hsz hk => ?_
    have hxx : x' = u := by
      have hP' : its.toArray[i]? = some x' := hP
      rw [List.getElem?_toArray, hu] at hP'
      exact (Option.some.inj hP').symm
    subst hxx
    refine ⟨_, rfl, wpAny_letOwnedTupleGo_enum (s := { s with heap := h', toks := tk + 1 }) ho fun h'' he' sb => ?_⟩
    have hT2 : h''.get? s.heap.objs.size = some { cls := .type "tuple", data := .seq #[.int i tk, x'] } := (sb.2 _ (Nat.ne_of_gt hel)).trans hT
    have new : ObjOk X.prog X.w (upd H s.heap.objs.size (.tup [.int (i : Nat), x])) h'' s.heap.objs.size (.tup [.int (i : Nat), x]) :=
      ⟨by show 2 ≤ sizeLine; decide, [.int i tk, x'], .cons ⟨_, rfl⟩ (.cons ru .nil), ⟨_, hT2, rfl, _, rfl⟩⟩
    have I1 : Inv X pins σ (upd H s.heap.objs.size (.tup [.int (i : Nat), x])) { s with heap := h'', toks := tk + 1 } :=
      I.turnedNew (ch := [e, it]) (fun b ob hb q => (sb.2 b (fun z => hb (by simp [z]))).trans (hk b ob (fun z => hb (by simp [z])) (fun z => hb (by simp [z])) q)) hf (Nat.le_refl _) new
    refine ⟨.ref s.heap.objs.size, _, I1, rfl, ⟨_, x, rfl, I.hok.fresh (Nat.le_refl _), rfl, fun ys hy => by rw [seqK_inj I hy hq]; exact hx⟩, ⟨⟨x', ?_⟩, hit'.1.at fun o q => (sb.2 it (Ne.symm hne)).trans q, hne⟩, fun b hb => ?_⟩
    · have e1 : ((i + 1 : Nat) : Int) = (i : Int) + 1 := by omega
      rw [e1]; exact he'
    · have hb' : b < s.heap.objs.size := by
        have e' : b = e ∨ b = it := by simpa using hb
        rcases e' with z | z
        · rw [z]; exact hel
        · rw [z]; exact hil
      rw [upd_ne (Nat.ne_of_lt hb')]
      exact (hf b hb).1
  done := by
    intro X hP hw hK hc i pins s σ H E I hf st hg
    subst hP hw hK
    obtain ⟨⟨old, he⟩, hit, hne⟩ := st
    obtain ⟨xs, hq, hx⟩ := hg
    obtain ⟨its, rv, p, hz⟩ := seqK I hq
    obtain ⟨f0, f1, f2, f3, f4, f5⟩ := hf it (by simp)
    have hl := rv.length
    have e0 : i = its.toArray.size := by simp; omega
    subst e0
    exact wpAny_pyNext_enum_endD (drawsK (k := k) (prog := X.prog) (w := X.w) (items := its.toArray) (A := X.A.in1) (show X.A.in1.handled = none from I.ok.hd hc) hai) he ⟨hit, p⟩ fun h' eb => ⟨rfl, I.turned (t' := s.toks) (fun b o hb q => eb b o hb q) f0 f1 f3 f4 f5⟩
  self := fun A i s Q E st h => let ⟨⟨_, he⟩, _⟩ := st; wpAny_pyIter_enum he h
def iEnumK (K : PySem.W.Frag) (ta : TA) : TI := fun σ H R => ta σ H fun vs H1 => ∃ a xs k, vs = [.ref a] ∧ SqK k K H1 a xs ∧ R (IteK k K a) H1
theorem pi_enumK {X : Cx} {e : Expr} {ta : TA} {p pos tpos : Pos} {elts : List Expr} {kk : Nat} (hg : Gl X "enumerate") (hm : X.mg "enumerate" = none) (ha : PA X [e] ta) (hs : starEach [e] X.env = [(false, eval e X.env)]) :
    PI X (.Tuple elts kk tpos) (.Call (.Name "enumerate" p) [e] [] pos) (iEnumK X.K ta) := by
  refine ⟨fun pins s σ H R I h => ?_⟩
  refine Call_ (ld_blt I hg hm boot_enumerate (PyProof.Rows.callWith_type1 (thn (ha.run pos pins s σ H _ I h) fun us s1 ⟨vs, H1, I1, r1, q1⟩ => ?_) hs rfl))
  obtain ⟨a, xs, k, ex, hq, q⟩ := q1
  subst ex
  cases r1 with
  | cons r rr =>
    cases rr
    cases r
    obtain ⟨its, rv, p', hz⟩ := seqK I1 hq
    refine call_enumerate_K p' fun h' he hit hsz hk => wpAny_pyIter_enum he ?_
    have I2 : Inv X pins σ H1 { s1 with heap := h' } := I1.kept (t' := s1.toks) hk
    have hal := p'.lt
    refine ⟨s1.heap.objs.size + 1, [s1.heap.objs.size + 1, s1.heap.objs.size], _, _, H1, rfl, I2, turn_enumK (k := k) a (s1.heap.objs.size + 1) s1.heap.objs.size (Nat.ne_of_lt (Nat.lt_succ_of_lt hal)) (Nat.ne_of_lt hal), ⟨⟨.none, he⟩, hit, Nat.succ_ne_self _⟩, fun b hb => ?_, q⟩
    have e' : b = s1.heap.objs.size + 1 ∨ b = s1.heap.objs.size := by simpa using hb
    have hle : s1.heap.objs.size ≤ b := by
      rcases e' with z | z
      · rw [z]; exact Nat.le_add_right _ _
      · rw [z]; exact Nat.le_refl _
    exact I1.fpOk hle (I1.hok.fresh hle)

/-! ### zip -/
def ItzK (k1 k2 : Bool) (K : PySem.W.Frag) (a b : Addr) : It :=
  ⟨fun i H => ∃ (xs ys : List V) (x y : V), SqK k1 K H a xs ∧ SqK k2 K H b ys ∧ xs[i]? = some x ∧ ys[i]? = some y,
    fun i H v H' => ∃ T x y, v = .ref T ∧ H T = none ∧ H' = upd H T (.tup [x, y]) ∧ (∀ xs, SqK k1 K H a xs → xs[i]? = some x) ∧ ∀ ys, SqK k2 K H b ys → ys[i]? = some y,
    fun i H => ∃ xs ys : List V, SqK k1 K H a xs ∧ SqK k2 K H b ys ∧ i ≤ xs.length ∧ i ≤ ys.length ∧ (i = xs.length ∨ i = ys.length)⟩
theorem turn_zipK {P : Program} {w : World} {K : PySem.W.Frag} {k1 k2 : Bool} {elts : List Expr} {kk : Nat} {tpos : Pos} {a b z TI TO i1 i2 : Addr} (D : ZipSep2 z TI TO i1 i2 [i1, a] [i2, b]) :
    Turn P w K (.Tuple elts kk tpos) (ItzK k1 k2 K a b) [z, TI, TO, i1, i2] z (fun i h => IsZip h z TI TO .none ∧ IsTupOf2 h TI (.ref i1) (.ref i2) ∧ (∃ x y, IsTupOf2 h TO x y) ∧ IterK k1 h i1 a i ∧ IterK k2 h i2 b i) where
  mem := by simp
  obj := fun i h st c hc => by
    obtain ⟨hz, hTI, ⟨x, y, hTO⟩, q1, q2⟩ := st
    obtain ⟨o1, v1, e1, d1⟩ := q1.obj
    obtain ⟨o2, v2, e2, d2⟩ := q2.obj
    have e' : c = z ∨ c = TI ∨ c = TO ∨ c = i1 ∨ c = i2 := by simpa using hc
    rcases e' with q | q | q | q | q
    · rw [q]; exact ⟨_, hz, fun v q => nomatch q⟩
    · rw [q]; exact ⟨_, hTI, fun v q => nomatch q⟩
    · rw [q]; exact ⟨_, hTO, fun v q => nomatch q⟩
    · rw [q]; exact ⟨o1, e1, fun v q => by rw [d1] at q; cases q⟩
    · rw [q]; exact ⟨o2, e2, fun v q => by rw [d2] at q; cases q⟩
  keep := fun i h h' st k => by
    obtain ⟨hz, hTI, ⟨x, y, hTO⟩, h1, h2⟩ := st
    exact ⟨k z (by simp) _ hz, k TI (by simp) _ hTI, ⟨x, y, k TO (by simp) _ hTO⟩, h1.at fun o q => k i1 (by simp) o q, h2.at fun o q => k i2 (by simp) o q⟩
  item := by
    intro X hP hw hK hc i pins s σ H E I hf st hg
    subst hP hw hK
    obtain ⟨hz, hTI, ⟨x0, y0, hTO⟩, h1, h2⟩ := st
    obtain ⟨xs, ys, x, y, hqx, hqy, hx, hy⟩ := hg
    obtain ⟨its, rv, p, _⟩ := seqK I hqx
    obtain ⟨its2, rv2, p2, _⟩ := seqK I hqy
    obtain ⟨u, hu, ru⟩ := rv.get hx
    obtain ⟨u2, hu2, ru2⟩ := rv2.get hy
    have hzl : z < s.heap.objs.size := Heap.lt_size hz
    have hh : X.A.in1.handled = none := I.ok.hd hc
    have ha1 : a ≠ i1 := fun e => D.sep1_2 |> fun _ => by
      have := D.mem1
      exact (by
        have h1' := h1
        have hp := p
        subst e
        obtain ⟨o, vs, q, d⟩ := h1'.obj
        cases k1 with
        | true => obtain ⟨o', q', _, n, d'⟩ := (show s.heap.IsTuple a its.toArray from hp); rw [q] at q'; cases q'; rw [d] at d'; cases d'
        | false => obtain ⟨o', q', _, n, d'⟩ := (show s.heap.IsList a its.toArray from hp); rw [q] at q'; cases q'; rw [d] at d'; cases d')
    have hb2 : b ≠ i2 := fun e => by
      have h2' := h2
      have hp := p2
      subst e
      obtain ⟨o, vs, q, d⟩ := h2'.obj
      cases k2 with
      | true => obtain ⟨o', q', _, n, d'⟩ := (show s.heap.IsTuple b its2.toArray from hp); rw [q] at q'; cases q'; rw [d] at d'; cases d'
      | false => obtain ⟨o', q', _, n, d'⟩ := (show s.heap.IsList b its2.toArray from hp); rw [q] at q'; cases q'; rw [d] at d'; cases d'
    have l1 : i < its.toArray.size := by simpa using (List.getElem?_eq_some_iff.mp hu).1
    have l2 : i < its2.toArray.size := by simpa using (List.getElem?_eq_some_iff.mp hu2).1
    refine wpAny_pyNext_zipD2_item D (drawsK (k := k1) (prog := X.prog) (w := X.w) (items := its.toArray) hh ha1) (drawsK (k := k2) (prog := X.prog) (w := X.w) (items := its2.toArray) hh hb2) hz hTI hTO ⟨h1, p⟩ ⟨h2, p2⟩ l1 l2 fun x1 x2 h' tk y1 y2 z' TO' h1' h2' hT hsz hk => ?_
    have ex : x1 = u := by
      have y1' : its.toArray[i]? = some x1 := y1
      rw [List.getElem?_toArray, hu] at y1'
      exact (Option.some.inj y1').symm
    have ey : x2 = u2 := by
      have y2' : its2.toArray[i]? = some x2 := y2
      rw [List.getElem?_toArray, hu2] at y2'
      exact (Option.some.inj y2').symm
    subst ex ey
    refine ⟨_, rfl, wpAny_letOwnedTupleGo_zip (s := { s with heap := h', toks := tk }) z' fun h'' z'' sb => ?_⟩
    have hT2 : h''.get? s.heap.objs.size = some { cls := .type "tuple", data := .seq #[x1, x2] } := (sb.2 _ (Nat.ne_of_gt hzl)).trans hT
    have new : ObjOk X.prog X.w (upd H s.heap.objs.size (.tup [x, y])) h'' s.heap.objs.size (.tup [x, y]) :=
      ⟨by show 2 ≤ sizeLine; decide, [x1, x2], .cons ru (.cons ru2 .nil), ⟨_, hT2, rfl, _, rfl⟩⟩
    have I1 : Inv X pins σ (upd H s.heap.objs.size (.tup [x, y])) { s with heap := h'', toks := tk } :=
      I.turnedNew (t' := tk) (ch := [z, TI, TO, i1, i2]) (fun c o hb q => (sb.2 c (fun q' => hb (by simp [q']))).trans (hk c o (fun q' => hb (by simp [q'])) (fun q' => hb (by simp [q'])) (fun q' => hb (by simp [q'])) (fun q' => hb (by simp [q'])) q)) hf (Nat.le_refl _) new
    have zi1 : i1 ≠ z := Ne.symm D.zi1
    have zi2 : i2 ≠ z := Ne.symm D.zi2
    refine ⟨.ref s.heap.objs.size, _, I1, rfl, ⟨_, x, y, rfl, I.hok.fresh (Nat.le_refl _), rfl, fun l hl => by rw [seqK_inj I hl hqx]; exact hx, fun l hl => by rw [seqK_inj I hl hqy]; exact hy⟩, ⟨z'', ?_, ⟨x1, x2, ?_⟩, ?_, ?_⟩, fun c hcm => ?_⟩
    · exact (sb.2 _ D.TIz).trans (hk _ _ D.TIz D.TITO D.TIi1 D.TIi2 hTI)
    · exact (sb.2 _ D.TOz).trans TO'
    · exact h1'.1.at fun o q => (sb.2 _ zi1).trans q
    · exact h2'.1.at fun o q => (sb.2 _ zi2).trans q
    · have hlt : c < s.heap.objs.size := by
        have e' : c = z ∨ c = TI ∨ c = TO ∨ c = i1 ∨ c = i2 := by simpa using hcm
        rcases e' with q | q | q | q | q
        · rw [q]; exact hzl
        · rw [q]; exact Heap.lt_size hTI
        · rw [q]; exact Heap.lt_size hTO
        · rw [q]; obtain ⟨_, _, e1, _⟩ := h1.obj; exact Heap.lt_size e1
        · rw [q]; obtain ⟨_, _, e2, _⟩ := h2.obj; exact Heap.lt_size e2
      rw [upd_ne (Nat.ne_of_lt hlt)]
      exact (hf c hcm).1
  done := by
    intro X hP hw hK hc i pins s σ H E I hf st hg
    subst hP hw hK
    obtain ⟨hz, hTI, ⟨x0, y0, hTO⟩, h1, h2⟩ := st
    obtain ⟨xs, ys, hqx, hqy, hl1, hl2, hend⟩ := hg
    obtain ⟨its, rv, p, _⟩ := seqK I hqx
    obtain ⟨its2, rv2, p2, _⟩ := seqK I hqy
    have l1 := rv.length
    have l2 := rv2.length
    have hh : X.A.in1.handled = none := I.ok.hd hc
    have ha1 : a ≠ i1 := fun e => by
      have h1' := h1
      have hp := p
      subst e
      obtain ⟨o, vs, q, d⟩ := h1'.obj
      cases k1 with
      | true => obtain ⟨o', q', _, n, d'⟩ := (show s.heap.IsTuple a its.toArray from hp); rw [q] at q'; cases q'; rw [d] at d'; cases d'
      | false => obtain ⟨o', q', _, n, d'⟩ := (show s.heap.IsList a its.toArray from hp); rw [q] at q'; cases q'; rw [d] at d'; cases d'
    have hb2 : b ≠ i2 := fun e => by
      have h2' := h2
      have hp := p2
      subst e
      obtain ⟨o, vs, q, d⟩ := h2'.obj
      cases k2 with
      | true => obtain ⟨o', q', _, n, d'⟩ := (show s.heap.IsTuple b its2.toArray from hp); rw [q] at q'; cases q'; rw [d] at d'; cases d'
      | false => obtain ⟨o', q', _, n, d'⟩ := (show s.heap.IsList b its2.toArray from hp); rw [q] at q'; cases q'; rw [d] at d'; cases d'
    exact wpAny_pyNext_zipD2_end D (drawsK (k := k1) (prog := X.prog) (w := X.w) (items := its.toArray) hh ha1) (drawsK (k := k2) (prog := X.prog) (w := X.w) (items := its2.toArray) hh hb2) hz hTI hTO ⟨h1, p⟩ ⟨h2, p2⟩ (by simp; omega) (by simp; omega) (by simp; omega)
      fun h' tk hk => ⟨rfl, I.turnedL (t' := tk) (ch := [z, TI, TO, i1, i2]) (fun c o hb q => hk c o (fun q' => hb (by simp [q'])) (fun q' => hb (by simp [q'])) (fun q' => hb (by simp [q'])) (fun q' => hb (by simp [q'])) q) hf⟩
  self := fun A i s Q E st h => wpAny_pyIter_zip st.1 h
def iZipK (K : PySem.W.Frag) (ta : TA) : TI := fun σ H R => ta σ H fun vs H1 => ∃ a b xs ys k1 k2, vs = [.ref a, .ref b] ∧ SqK k1 K H1 a xs ∧ SqK k2 K H1 b ys ∧ R (ItzK k1 k2 K a b) H1
theorem pi_zipK {X : Cx} {e e2 : Expr} {ta : TA} {p pos tpos : Pos} {elts : List Expr} {kk : Nat} (hg : Gl X "zip") (hm : X.mg "zip" = none) (ha : PA X [e, e2] ta)
    (hs : starEach [e, e2] X.env = (false, eval e X.env) :: starEach [e2] X.env) (hpl : (backTo pos (starEach [e2] X.env)).any (·.1) = false) :
    PI X (.Tuple elts kk tpos) (.Call (.Name "zip" p) [e, e2] [] pos) (iZipK X.K ta) := by
  refine ⟨fun pins s σ H R I h => ?_⟩
  refine Call_ (ld_blt I hg hm PyProof.Rows.boot_zip (PyProof.Rows.callWith_type1 (thn (ha.run pos pins s σ H _ I h) fun us s1 ⟨vs, H1, I1, r1, q1⟩ => ?_) hs hpl))
  obtain ⟨a, b, xs, ys, k1, k2, ex, hqx, hqy, q⟩ := q1
  subst ex
  cases r1 with
  | cons r rr =>
    cases rr with
    | cons r' rr =>
      cases rr
      cases r
      cases r'
      obtain ⟨its, rv, p1, _⟩ := seqK I1 hqx
      obtain ⟨its2, rv2, p2, _⟩ := seqK I1 hqy
      have la : a < s1.heap.objs.size := p1.lt
      have lb : b < s1.heap.objs.size := p2.lt
      refine zip_begins2 (beginsK (k := k1) (items := its.toArray)) (beginsK (k := k2) (items := its2.toArray)) p1 p2 fun h' hz hTI hTO h1 h2 hsz hk => wpAny_pyIter_zip hz ?_
      have I2 : Inv X pins σ H1 { s1 with heap := h' } := I1.kept (t' := s1.toks) hk
      have Sep : ZipSep2 (s1.heap.objs.size + 4) (s1.heap.objs.size + 2) (s1.heap.objs.size + 3) s1.heap.objs.size (s1.heap.objs.size + 1) [s1.heap.objs.size, a] [s1.heap.objs.size + 1, b] := zip_sep2 (fp1 := [a]) (fp2 := [b]) (fun c hc => by rw [List.mem_singleton.mp hc]; exact la) (fun c hc => by rw [List.mem_singleton.mp hc]; exact lb)
      refine ⟨s1.heap.objs.size + 4, [s1.heap.objs.size + 4, s1.heap.objs.size + 2, s1.heap.objs.size + 3, s1.heap.objs.size, s1.heap.objs.size + 1], _, _, H1, rfl, I2, turn_zipK (k1 := k1) (k2 := k2) Sep, ⟨hz, hTI, ⟨_, _, hTO⟩, iterK_new h1, iterK_new h2⟩, fun c hcm => ?_, q⟩
      have e' : c = s1.heap.objs.size + 4 ∨ c = s1.heap.objs.size + 2 ∨ c = s1.heap.objs.size + 3 ∨ c = s1.heap.objs.size ∨ c = s1.heap.objs.size + 1 := by simpa using hcm
      have hle : s1.heap.objs.size ≤ c := by
        rcases e' with z | z | z | z | z
        · rw [z]; exact Nat.le_add_right _ _
        · rw [z]; exact Nat.le_add_right _ _
        · rw [z]; exact Nat.le_add_right _ _
        · rw [z]; exact Nat.le_refl _
        · rw [z]; exact Nat.le_add_right _ _
      exact I1.fpOk hle (I1.hok.fresh hle)
end C2

/-! ### the sources over plain data -/
namespace C2
open PySem PySem.Spec PyProof.Rows L2
section
variable {X : Cx} {W : WX}
/-- a list, a tuple, a text as it is walked -/
def rowsOf (x : D) (S : Sto) (q : List (List D) → (Sto → Prop) → Sto → Prop) : Prop := match x with
  | .tup ds => q (ds.map fun d => [d]) (fun _ => True) S
  | .str s => q (s.cps.toList.map fun c => [.str ⟨#[c]⟩]) (fun _ => True) S
  | .ref a => ∃ ds, S a = some (.lst ds) ∧ q (ds.map fun d => [d]) (fun S' => S' a = some (.lst ds)) S
  | _ => False
def iOf (a : DE) : DI := fun R env S q => a R env S fun x S1 => rowsOf x S1 q
/-- the items of a list or tuple, its check -/
def seqOf (x : D) (S : Sto) (q : List D → (Sto → Prop) → Prop) : Prop := match x with
  | .tup ds => q ds fun _ => True
  | .ref a => ∃ ds, S a = some (.lst ds) ∧ q ds fun S' => S' a = some (.lst ds)
  | _ => False
def numbered : Nat → List D → List (List D)
  | _, [] => []
  | n, d :: ds => [.int n, d] :: numbered (n + 1) ds
def zipped : List D → List D → List (List D)
  | a :: as, b :: bs => [a, b] :: zipped as bs
  | _, _ => []
def iEnum2 (a : DE) : DI := fun R env S q => a R env S fun x S1 => seqOf x S1 fun ds chk => q (numbered 0 ds) chk S1
def iZip2 (a b : DE) : DI := fun R env S q => a R env S fun x S1 => b R env S1 fun y S2 => seqOf x S2 fun ds chk => seqOf y S2 fun es chk2 => q (zipped ds es) (fun S => chk S ∧ chk2 S) S2
/-- lo, lo + 1, .. (n of them) -/
def intsFrom (lo : Int) : Nat → List (List D)
  | 0 => []
  | n + 1 => [.int lo] :: intsFrom (lo + 1) n
def intsStep (lo c : Int) : Nat → List (List D)
  | 0 => []
  | n + 1 => [.int lo] :: intsStep (lo + c) c n
def iRange (t : DA) : DI := fun R env S q => t R env S fun xs S1 => match xs with
  | [.int j] => -(2 ^ 62) ≤ j ∧ j < 2 ^ 62 ∧ q (intsFrom 0 j.toNat) (fun _ => True) S1
  | [.int i, .int j] => -(2 ^ 62) ≤ i ∧ i < 2 ^ 62 ∧ -(2 ^ 62) ≤ j ∧ j < 2 ^ 62 ∧ q (intsFrom i (j - i).toNat) (fun _ => True) S1
  | [.int i, .int j, .int c] => c = -1 ∧ -(2 ^ 62) ≤ i ∧ i < 2 ^ 62 ∧ -(2 ^ 62) ≤ j ∧ j < 2 ^ 62 ∧ q (intsStep i (-1) (i - j).toNat) (fun _ => True) S1
  | _ => False

theorem numbered_get : ∀ {ds : List D} {n i : Nat} {row : List D}, (numbered n ds)[i]? = some row → ∃ d, ds[i]? = some d ∧ row = [.int ((n + i : Nat) : Int), d]
  | [], _, _, _, h => by simp [numbered] at h
  | d :: ds, n, 0, row, h => by simp [numbered] at h; exact ⟨d, rfl, by rw [← h]; rfl⟩
  | d :: ds, n, i + 1, row, h => by
    simp only [numbered, List.getElem?_cons_succ] at h
    obtain ⟨e, h1, h2⟩ := numbered_get h
    refine ⟨e, by simpa using h1, ?_⟩
    rw [h2, show n + 1 + i = n + (i + 1) by omega]
theorem numbered_len : ∀ {ds : List D} {n : Nat}, (numbered n ds).length = ds.length
  | [], _ => rfl
  | _ :: ds, n => by simp [numbered, numbered_len]
theorem zipped_get : ∀ {ds es : List D} {i : Nat} {row : List D}, (zipped ds es)[i]? = some row → ∃ d e, ds[i]? = some d ∧ es[i]? = some e ∧ row = [d, e]
  | [], _, _, _, h => by simp [zipped] at h
  | _ :: _, [], _, _, h => by simp [zipped] at h
  | d :: ds, e :: es, 0, row, h => by simp [zipped] at h; exact ⟨d, e, rfl, rfl, h.symm⟩
  | d :: ds, e :: es, i + 1, row, h => by
    simp only [zipped, List.getElem?_cons_succ] at h
    obtain ⟨x, y, h1, h2, h3⟩ := zipped_get h
    exact ⟨x, y, by simpa using h1, by simpa using h2, h3⟩
theorem zipped_len : ∀ {ds es : List D}, (zipped ds es).length = min ds.length es.length
  | [], _ => by simp [zipped]
  | _ :: _, [] => by simp [zipped]
  | d :: ds, e :: es => by simp [zipped, zipped_len]
theorem intsFrom_get : ∀ {n i : Nat} {lo : Int} {row : List D}, (intsFrom lo n)[i]? = some row → i < n ∧ row = [.int (lo + i)]
  | 0, _, _, _, h => by simp [intsFrom] at h
  | n + 1, 0, lo, row, h => by simp [intsFrom] at h; exact ⟨by omega, by rw [← h]; simp⟩
  | n + 1, i + 1, lo, row, h => by
    simp only [intsFrom, List.getElem?_cons_succ] at h
    obtain ⟨h1, h2⟩ := intsFrom_get h
    exact ⟨by omega, by rw [h2]; congr 2; omega⟩
theorem intsFrom_len : ∀ {n : Nat} {lo : Int}, (intsFrom lo n).length = n
  | 0, _ => rfl
  | n + 1, lo => by simp [intsFrom, intsFrom_len]
theorem intsStep_get : ∀ {n i : Nat} {lo c : Int} {row : List D}, (intsStep lo c n)[i]? = some row → i < n ∧ row = [.int (lo + (i : Int) * c)]
  | 0, _, _, _, _, h => by simp [intsStep] at h
  | n + 1, 0, lo, c, row, h => by simp [intsStep] at h; exact ⟨by omega, by rw [← h]; simp⟩
  | n + 1, i + 1, lo, c, row, h => by
    simp only [intsStep, List.getElem?_cons_succ] at h
    obtain ⟨h1, h2⟩ := intsStep_get h
    refine ⟨by omega, ?_⟩
    rw [h2]
    have : lo + c + (i : Int) * c = lo + ((i + 1 : Nat) : Int) * c := by
      have e : ((i + 1 : Nat) : Int) = (i : Int) + 1 := by omega
      rw [e, Int.add_mul]; omega
    rw [this]
theorem intsStep_len : ∀ {n : Nat} {lo c : Int}, (intsStep lo c n).length = n
  | 0, _, _ => rfl
  | n + 1, lo, c => by simp [intsStep, intsStep_len]

/-! what each iterator does -/
section
variable {K : PySem.W.Frag} {H₀ : Hp}
theorem row1 {H : Hp} {d : D} {v : V} (r : RD K H d v) : RowR K H false [d] v := by unfold RowR; rw [if_neg (by decide)]; exact ⟨d, rfl, r⟩
/-- a list or tuple of ds stands at a wherever chk does -/
def Src (K : PySem.W.Frag) (H₀ : Hp) (k : Bool) (a : Addr) (ds : List D) (chk : Sto → Prop) : Prop := ∀ H S, Tle H₀ H → RS K H S → chk S → ∃ vs, SqK k K H a vs ∧ RDs K H ds vs
theorem src_of {d : D} {v : V} {S : Sto} {q : List D → (Sto → Prop) → Prop} (r : RD K H₀ d v) (s : RS K H₀ S) (h : seqOf d S q) : ∃ k a ds chk, v = .ref a ∧ Src K H₀ k a ds chk ∧ chk S ∧ q ds chk := by
  cases d with
  | tup ds =>
    unfold RD at r
    obtain ⟨a, vs, rfl, tt, rr⟩ := r
    exact ⟨true, a, ds, _, rfl, fun H S t _ _ => ⟨vs, (t.tt tt).sq, rr.mono t⟩, trivial, h⟩
  | ref a =>
    unfold RD at r; subst r
    obtain ⟨ds, e, h⟩ := h
    refine ⟨false, a, ds, _, rfl, fun H S t s c => ?_, e, h⟩
    obtain ⟨vs, h1, h2⟩ := s a _ c
    exact ⟨vs, SqL.of h1, h2⟩
  | _ => exact h.elim
theorem it_seq {k : Bool} {a : Addr} {ds : List D} {chk : Sto → Prop} (sr : Src K H₀ k a ds chk) : ItOk K false (if k = true then Itt K a else Itl K a) (ds.map fun d => [d]) chk H₀ := by
  refine ⟨fun i H S row t s c e => ?_, fun i H S t s c e => ?_⟩
  · obtain ⟨vs, sq, rr⟩ := sr H S t s c
    rw [List.getElem?_map] at e
    cases e1 : ds[i]? with
    | none => rw [e1] at e; cases e
    | some d =>
      rw [e1] at e
      have e : [d] = row := Option.some.inj e
      subst e
      obtain ⟨v, h1, h2⟩ := rr.get e1
      cases k with
      | true => exact ⟨⟨vs, v, sq, h1⟩, fun x H' ⟨eh, y⟩ => by subst eh; have z := y vs sq; rw [h1] at z; cases z; exact ⟨Stp.rfl', s, row1 h2⟩⟩
      | false => exact ⟨⟨vs, v, sq, h1⟩, fun x H' ⟨eh, y⟩ => by subst eh; have z := y vs sq; rw [h1] at z; cases z; exact ⟨Stp.rfl', s, row1 h2⟩⟩
  · obtain ⟨vs, sq, rr⟩ := sr H S t s c
    have l := rr.length
    rw [List.length_map] at e
    cases k with
    | true => exact ⟨vs, sq, by omega⟩
    | false => exact ⟨vs, sq, by omega⟩
theorem it_str {x : Str} : ItOk K false (Its x) (x.cps.toList.map fun c => [.str ⟨#[c]⟩]) (fun _ => True) H₀ := by
  refine ⟨fun i H S row t s c e => ?_, fun i H S t s c e => ?_⟩
  · rw [List.getElem?_map] at e
    cases e1 : x.cps.toList[i]? with
    | none => rw [e1] at e; cases e
    | some d =>
      rw [e1] at e
      have e : [D.str ⟨#[d]⟩] = row := Option.some.inj e
      subst e
      have e2 : x.cps[i]? = some d := by simpa using e1
      refine ⟨?_, fun v H' ⟨eh, cc, h1, h2⟩ => ?_⟩
      · show i < x.cps.size
        exact (Array.getElem?_eq_some_iff.mp e2).1
      · subst eh
        rw [e2] at h1; cases h1
        subst h2
        exact ⟨Stp.rfl', s, row1 (by unfold RD; rfl)⟩
  · show x.cps.size ≤ i
    rw [e]; simp
theorem it_enum {k : Bool} {a : Addr} {ds : List D} {chk : Sto → Prop} (sr : Src K H₀ k a ds chk) : ItOk K true (IteK k K a) (numbered 0 ds) chk H₀ := by
  refine ⟨fun i H S row t s c e => ?_, fun i H S t s c e => ?_⟩
  · obtain ⟨vs, sq, rr⟩ := sr H S t s c
    obtain ⟨d, e1, rfl⟩ := numbered_get e
    obtain ⟨v, h1, h2⟩ := rr.get e1
    refine ⟨⟨vs, v, sq, h1⟩, fun x H' ⟨T, y, ex, hT, eh, z⟩ => ?_⟩
    have z := z vs sq
    rw [h1] at z; cases z
    subst ex eh
    refine ⟨Stp.new hT, s.new hT, ?_⟩
    unfold RowR
    rw [if_pos rfl]
    refine ⟨T, _, rfl, SqT.of upd_same, RDs.cons ?_ (RDs.one (h2.mono (Tle.new hT)))⟩
    unfold RD
    simp
  · obtain ⟨vs, sq, rr⟩ := sr H S t s c
    exact ⟨vs, sq, by rw [← rr.length, e, numbered_len]⟩
theorem it_zip {k1 k2 : Bool} {a b : Addr} {ds es : List D} {chk chk2 : Sto → Prop} (sr : Src K H₀ k1 a ds chk) (sr2 : Src K H₀ k2 b es chk2) : ItOk K true (ItzK k1 k2 K a b) (zipped ds es) (fun S => chk S ∧ chk2 S) H₀ := by
  refine ⟨fun i H S row t s c e => ?_, fun i H S t s c e => ?_⟩
  · obtain ⟨vs, sq, rr⟩ := sr H S t s c.1
    obtain ⟨ws, sq2, rr2⟩ := sr2 H S t s c.2
    obtain ⟨d, f, e1, e2, rfl⟩ := zipped_get e
    obtain ⟨v, h1, h2⟩ := rr.get e1
    obtain ⟨w, h3, h4⟩ := rr2.get e2
    refine ⟨⟨vs, ws, v, w, sq, sq2, h1, h3⟩, fun x H' ⟨T, y, y2, ex, hT, eh, z, z2⟩ => ?_⟩
    have z := z vs sq
    have z2 := z2 ws sq2
    rw [h1] at z; cases z
    rw [h3] at z2; cases z2
    subst ex eh
    refine ⟨Stp.new hT, s.new hT, ?_⟩
    unfold RowR
    rw [if_pos rfl]
    exact ⟨T, _, rfl, SqT.of upd_same, RDs.cons (h2.mono (Tle.new hT)) (RDs.one (h4.mono (Tle.new hT)))⟩
  · obtain ⟨vs, sq, rr⟩ := sr H S t s c.1
    obtain ⟨ws, sq2, rr2⟩ := sr2 H S t s c.2
    have l := rr.length
    have l2 := rr2.length
    rw [zipped_len] at e
    exact ⟨vs, ws, sq, sq2, by omega, by omega, by omega⟩
theorem it_range {lo : Int} {n : Nat} : ItOk K false (Itr lo n) (intsFrom lo n) (fun _ => True) H₀ := by
  refine ⟨fun i H S row t s c e => ?_, fun i H S t s c e => ?_⟩
  · obtain ⟨h1, rfl⟩ := intsFrom_get e
    exact ⟨h1, fun x H' ⟨eh, ex⟩ => by subst eh ex; exact ⟨Stp.rfl', s, row1 (by unfold RD; rfl)⟩⟩
  · show n ≤ i
    rw [e, intsFrom_len]; exact Nat.le_refl _
theorem it_step {lo c : Int} {n : Nat} : ItOk K false (Itc lo c n) (intsStep lo c n) (fun _ => True) H₀ := by
  refine ⟨fun i H S row t s c e => ?_, fun i H S t s c e => ?_⟩
  · obtain ⟨h1, rfl⟩ := intsStep_get e
    exact ⟨h1, fun x H' ⟨eh, ex⟩ => by subst eh ex; exact ⟨Stp.rfl', s, row1 (by unfold RD; rfl)⟩⟩
  · show n ≤ i
    rw [e, intsStep_len]; exact Nat.le_refl _
end
/-! the rules -/
def iAnyV (K : PySem.W.Frag) (tl : TE) : TI := fun σ H R => tl σ H fun x H1 => (∃ k a xs, x = .ref a ∧ SqK k K H1 a xs ∧ R (if k = true then Itt K a else Itl K a) H1) ∨ ∃ s, x = .str s ∧ R (Its s) H1
theorem pi_any {tg l : Expr} {tl : TE} (hl : PE X l tl) : PI X tg l (iAnyV X.K tl) := by
  refine ⟨fun pins s σ H R I h => ?_⟩
  refine thn (hl.run pins s σ H _ I h) fun v s1 ⟨x, H1, I1, r1, q1⟩ => ?_
  rcases q1 with ⟨k, a, xs, e, hq, q⟩ | ⟨z, ez, q⟩
  · subst e
    cases r1
    have fp : ∀ b ∈ [s1.heap.objs.size], FpOk X pins H1 b := fun b hb => by
      have e : b = s1.heap.objs.size := by simpa using hb
      subst e
      exact I1.fpOk (Nat.le_refl _) (I1.hok.fresh (Nat.le_refl _))
    cases k with
    | true =>
      obtain ⟨its, rv, p, hz⟩ := I1.tuple (show SqT X.K H1 a xs from hq)
      refine wpAny_pyIter_tuple (show s1.heap.IsTuple a its.toArray from p) ?_
      exact ⟨s1.heap.objs.size, [s1.heap.objs.size], _, _, H1, rfl, I1.kept (t' := s1.toks) fun b o e => Heap.get?_push_of_some _ e, turn_tuple a _, ⟨_, Heap.get?_push_size _ rfl, rfl, rfl⟩, fp, q⟩
    | false =>
      obtain ⟨its, rv, p, hz⟩ := I1.list (show SqL X.K H1 a xs from hq)
      refine wpAny_pyIter_list p.isList ?_
      exact ⟨s1.heap.objs.size, [s1.heap.objs.size], _, _, H1, rfl, I1.kept (t' := s1.toks) fun b o e => Heap.get?_push_of_some _ e, turn_list a _, ⟨_, Heap.get?_push_size _ rfl, rfl, rfl⟩, fp, q⟩
  · subst ez
    obtain ⟨t, rfl⟩ := r1
    cases ha : z.cps.all (· < 128)
    · exact wpAny_pyIter_wide ha (pi_one (tk := s1.toks) I1 _ (turn_str _ z t "str_iterator" (.inr rfl)) ⟨_, Heap.get?_push_size _ rfl, rfl, rfl⟩ q)
    · exact wpAny_pyIter_ascii ha (pi_one (tk := s1.toks) I1 _ (turn_str _ z t "str_ascii_iterator" (.inl rfl)) ⟨_, Heap.get?_push_size _ rfl, rfl, rfl⟩ q)
theorem i_of {tg a : Expr} {ta : DE} (ha : PEd X W a ta) : PId X W false tg a (iOf ta) :=
  PI.imp (pi_any ha) fun σ H Q ⟨R, env, S, q, e, s, h, x, k⟩ => ⟨R, env, S, _, e, s, h, x, fun d S1 v H1 t1 r1 s1 h1 => by
    cases d with
    | str z => unfold RD at r1; subst r1; exact .inr ⟨z, rfl, k _ _ S1 _ H1 t1 s1 it_str h1⟩
    | tup ds =>
      obtain ⟨kk, p, ds', chk, ev, sr, c, h2⟩ := src_of (q := fun ds chk => q (ds.map fun d => [d]) chk S1) r1 s1 h1
      obtain ⟨vs, sq, _⟩ := sr H1 S1 Tle.rfl' s1 c
      exact .inl ⟨kk, p, vs, ev, sq, k _ _ S1 _ H1 t1 s1 (it_seq sr) h2⟩
    | ref p =>
      obtain ⟨kk, p, ds', chk, ev, sr, c, h2⟩ := src_of (q := fun ds chk => q (ds.map fun d => [d]) chk S1) r1 s1 h1
      obtain ⟨vs, sq, _⟩ := sr H1 S1 Tle.rfl' s1 c
      exact .inl ⟨kk, p, vs, ev, sq, k _ _ S1 _ H1 t1 s1 (it_seq sr) h2⟩
    | _ => exact h1.elim⟩
theorem i_enum {a : Expr} {ta : DE} {p pos tpos : Pos} {elts : List Expr} {kk : Nat} (hg : Gl X "enumerate") (hm : X.mg "enumerate" = none) (ha : PEd X W a ta) (hs : starEach [a] X.env = [(false, eval a X.env)]) :
    PId X W true (.Tuple elts kk tpos) (.Call (.Name "enumerate" p) [a] [] pos) (iEnum2 ta) :=
  PI.imp (pi_enumK hg hm (pa_cons ha pa_nil hs) hs) fun σ H Q ⟨R, env, S, q, e, s, h, x, k⟩ => ⟨R, env, S, _, e, s, h, x, fun d S1 v H1 t1 r1 s1 h1 => by
    obtain ⟨kk, p, ds', chk, ev, sr, c, h2⟩ := src_of r1 s1 h1
    obtain ⟨vs, sq, _⟩ := sr H1 S1 Tle.rfl' s1 c
    exact ⟨p, vs, kk, by rw [ev], sq, k _ _ S1 _ H1 t1 s1 (it_enum sr) h2⟩⟩
theorem i_zip {a b : Expr} {ta tb : DE} {p pos tpos : Pos} {elts : List Expr} {kk : Nat} (hg : Gl X "zip") (hm : X.mg "zip" = none) (ha : PEd X W a ta) (hb : PEd X W b tb)
    (hs : starEach [a, b] X.env = (false, eval a X.env) :: starEach [b] X.env) (hs2 : starEach [b] X.env = [(false, eval b X.env)]) :
    PId X W true (.Tuple elts kk tpos) (.Call (.Name "zip" p) [a, b] [] pos) (iZip2 ta tb) :=
  PI.imp (pi_zipK hg hm (pa_cons ha (pa_cons hb pa_nil hs2) hs) hs (by rw [hs2]; rfl)) fun σ H Q ⟨R, env, S, q, e, s, h, x, k⟩ => ⟨R, env, S, _, e, s, h, x, fun d S1 v H1 t1 r1 s1 h1 =>
    ⟨R, env, S1, _, e.mono t1.t, s1, h1, x.mono t1, fun d2 S2 v2 H2 t2 r2 s2 h2 => by
      obtain ⟨kk, p, ds', chk, ev, sr, c, h3⟩ := src_of (r1.mono t2.t) s2 h2
      obtain ⟨vs, sq, _⟩ := sr H2 S2 Tle.rfl' s2 c
      obtain ⟨kk2, p2, ds2, chk2, ev2, sr2, c2, h4⟩ := src_of r2 s2 h3
      obtain ⟨vs2, sq2, _⟩ := sr2 H2 S2 Tle.rfl' s2 c2
      exact ⟨p, p2, vs, vs2, kk, kk2, by rw [ev, ev2], sq, sq2, k _ _ S2 _ H2 (t1.trans t2) s2 (it_zip sr sr2) h4⟩⟩⟩
theorem i_range1 {tg a : Expr} {ta : DE} {p pos : Pos} (hg : Gl X "range") (hm : X.mg "range" = none) (ha : PEd X W a ta) (hs : starEach [a] X.env = [(false, eval a X.env)]) :
    PId X W false tg (.Call (.Name "range" p) [a] [] pos) (iRange (aCons ta aNil)) :=
  PI.imp (pi_range1 hg hm (pa_cons ha pa_nil hs) hs) fun σ H Q ⟨R, env, S, q, e, s, h, x, k⟩ => ⟨R, env, S, _, e, s, h, x, fun d S1 v H1 t1 r1 s1 h1 => by
    cases d with
    | int j => unfold RD at r1; subst r1; exact ⟨j, rfl, h1.1, h1.2.1, k _ _ S1 _ H1 t1 s1 it_range h1.2.2⟩
    | _ => exact h1.elim⟩
theorem i_range2 {tg a b : Expr} {ta tb : DE} {p pos : Pos} (hg : Gl X "range") (hm : X.mg "range" = none) (ha : PEd X W a ta) (hb : PEd X W b tb) (hs : starEach [a, b] X.env = [(false, eval a X.env), (false, eval b X.env)]) (hs2 : starEach [b] X.env = [(false, eval b X.env)]) :
    PId X W false tg (.Call (.Name "range" p) [a, b] [] pos) (iRange (aCons ta (aCons tb aNil))) :=
  PI.imp (pi_range2 hg hm (pa_cons ha (pa_cons hb pa_nil hs2) (by rw [hs, hs2])) hs hs2) fun σ H Q ⟨R, env, S, q, e, s, h, x, k⟩ => ⟨R, env, S, _, e, s, h, x, fun d S1 v H1 t1 r1 s1 h1 =>
    ⟨R, env, S1, _, e.mono t1.t, s1, h1, x.mono t1, fun d2 S2 v2 H2 t2 r2 s2 h2 => by
      cases d with
      | int i =>
        cases d2 with
        | int j =>
          have e1 : v = .int i := r1
          have e2 : v2 = .int j := r2
          subst e1 e2
          exact ⟨i, j, rfl, ⟨h2.1, h2.2.1, h2.2.2.1, h2.2.2.2.1⟩, k _ _ S2 _ H2 (t1.trans t2) s2 it_range h2.2.2.2.2⟩
        | _ => exact h2.elim
      | _ => cases d2 <;> exact h2.elim⟩⟩
theorem i_range3 {tg a b c : Expr} {ta tb tc : DE} {p pos : Pos} (hg : Gl X "range") (hm : X.mg "range" = none) (ha : PEd X W a ta) (hb : PEd X W b tb) (hc : PEd X W c tc)
    (hs : starEach [a, b, c] X.env = (false, eval a X.env) :: starEach [b, c] X.env) (hs2 : starEach [b, c] X.env = (false, eval b X.env) :: starEach [c] X.env) (hs3 : starEach [c] X.env = [(false, eval c X.env)]) :
    PId X W false tg (.Call (.Name "range" p) [a, b, c] [] pos) (iRange (aCons ta (aCons tb (aCons tc aNil)))) :=
  PI.imp (pi_range3 hg hm (pa_cons ha (pa_cons hb (pa_cons hc pa_nil hs3) hs2) hs) hs (by rw [hs2, hs3]; rfl)) fun σ H Q ⟨R, env, S, q, e, s, h, x, k⟩ => ⟨R, env, S, _, e, s, h, x, fun d S1 v H1 t1 r1 s1 h1 =>
    ⟨R, env, S1, _, e.mono t1.t, s1, h1, x.mono t1, fun d2 S2 v2 H2 t2 r2 s2 h2 => ⟨R, env, S2, _, (e.mono t1.t).mono t2.t, s2, h2, (x.mono t1).mono t2, fun d3 S3 v3 H3 t3 r3 s3 h3 => by
      cases d with
      | int i =>
        cases d2 with
        | int j =>
          cases d3 with
          | int c =>
            have e1 : v = .int i := r1
            have e2 : v2 = .int j := r2
            have e3 : v3 = .int c := r3
            subst e1 e2 e3
            obtain ⟨rfl, h1, h2, h3, h4, h5⟩ := h3
            exact ⟨i, j, -1, (i - j).toNat, rfl, RgC.neg h1 h2 h3 h4, k _ _ S3 _ H3 ((t1.trans t2).trans t3) s3 it_step h5⟩
          | _ => exact h3.elim
        | _ => cases d3 <;> exact h3.elim
      | _ => cases d2 <;> cases d3 <;> exact h3.elim⟩⟩⟩
end
end C2

/-! What the operators do among plain data. -/
namespace C2
open PySem PySem.Spec PyProof.Rows L2

/-! ### deep data -/
def pyAll (f : D → Option PyData) : List D → Option (List PyData)
  | [] => some []
  | d :: ds => match f d, pyAll f ds with
    | some p, some ps => some (p :: ps)
    | _, _ => none
/-- a value as data, of nesting below n -/
def py (S : Sto) : Nat → D → Option PyData
  | _, .non => some .none
  | _, .bl b => some (.bool b)
  | _, .int i => some (.int i)
  | _, .str s => if PyData.strOk s = true then some (.str s) else none
  | n + 1, .tup xs => match pyAll (py S n) xs with
    | some ps => some (.tuple ps)
    | none => none
  | n + 1, .ref a => match S a with
    | some (.lst xs) => match pyAll (py S n) xs with
      | some ps => some (.list ps)
      | none => none
    | _ => none
  | _ + 1, .scr ns => some (.list (ns.map .int))
  | _, .cls _ => none
  | 0, .tup _ => none
  | 0, .ref _ => none
  | 0, .scr _ => none
theorem depthAll_le {n : Nat} : ∀ {ps : List PyData}, (∀ p ∈ ps, p.depth ≤ n) → PyData.depthAll ps ≤ n
  | [], _ => by simp [PyData.depthAll]
  | p :: ps, h => by
    have h1 := h p (by simp)
    have h2 := depthAll_le fun q hq => h q (List.mem_cons_of_mem _ hq)
    simp only [PyData.depthAll]; omega
theorem layAll_of : ∀ {ps : List PyData}, (∀ p ∈ ps, p.canLay0 = true) → PyData.canLayAll0 ps = true
  | [], _ => by simp [PyData.canLayAll0]
  | p :: ps, h => by
    simp only [PyData.canLayAll0, h p (by simp), layAll_of fun q hq => h q (List.mem_cons_of_mem _ hq), Bool.and_self]
theorem pyAll_mem {f : D → Option PyData} : ∀ {ds : List D} {ps : List PyData}, pyAll f ds = some ps → ∀ p ∈ ps, ∃ d ∈ ds, f d = some p
  | [], ps, h, p, hp => by simp [pyAll] at h; subst h; simp at hp
  | d :: ds, ps, h, p, hp => by
    simp only [pyAll] at h
    cases e1 : f d with
    | none => rw [e1] at h; simp at h
    | some p1 =>
      cases e2 : pyAll f ds with
      | none => rw [e1, e2] at h; simp at h
      | some ps1 =>
        rw [e1, e2] at h; simp at h; subst h
        rcases List.mem_cons.mp hp with rfl | hp
        · exact ⟨d, by simp, e1⟩
        · obtain ⟨d', h1, h2⟩ := pyAll_mem e2 p hp
          exact ⟨d', List.mem_cons_of_mem _ h1, h2⟩
theorem py_ok {S : Sto} : ∀ {n : Nat} {d : D} {p : PyData}, py S n d = some p → p.canLay0 = true ∧ p.depth ≤ n := by
  intro n
  induction n with
  | zero =>
    intro d p h
    cases d with
    | str x => simp only [py] at h; split at h <;> simp at h; subst h; rename_i c; simp [PyData.canLay0, PyData.depth, c]
    | _ => simp [py] at h <;> subst h <;> simp [PyData.canLay0, PyData.depth]
  | succ n ih =>
    intro d p h
    have key : ∀ {ds : List D} {ps : List PyData}, pyAll (py S n) ds = some ps → PyData.canLayAll0 ps = true ∧ PyData.depthAll ps ≤ n := fun e =>
      ⟨layAll_of fun q hq => let ⟨d', _, h2⟩ := pyAll_mem e q hq; (ih h2).1, depthAll_le fun q hq => let ⟨d', _, h2⟩ := pyAll_mem e q hq; (ih h2).2⟩
    cases d with
    | tup xs =>
      simp only [py] at h
      cases e : pyAll (py S n) xs with
      | none => rw [e] at h; simp at h
      | some ps =>
        rw [e] at h; simp at h; subst h
        obtain ⟨h1, h2⟩ := key e
        exact ⟨by simp [PyData.canLay0, h1], by simp only [PyData.depth]; omega⟩
    | ref a =>
      simp only [py] at h
      cases ea : S a with
      | none => rw [ea] at h; simp at h
      | some o =>
        rw [ea] at h
        cases o with
        | lst xs =>
          simp only at h
          cases e : pyAll (py S n) xs with
          | none => rw [e] at h; simp at h
          | some ps =>
            rw [e] at h; simp at h; subst h
            obtain ⟨h1, h2⟩ := key e
            exact ⟨by simp [PyData.canLay0, h1], by simp only [PyData.depth]; omega⟩
        | _ => simp at h
    | scr ns =>
      simp [py] at h; subst h
      have h1 : PyData.canLayAll0 (ns.map PyData.int) = true := layAll_of fun q hq => by
        obtain ⟨i, _, rfl⟩ := List.mem_map.mp hq
        simp [PyData.canLay0]
      have h2 : PyData.depthAll (ns.map PyData.int) ≤ 0 := depthAll_le fun q hq => by
        obtain ⟨i, _, rfl⟩ := List.mem_map.mp hq
        simp [PyData.depth]
      exact ⟨by simp [PyData.canLay0, h1], by simp only [PyData.depth]; omega⟩
    | str x => simp only [py] at h; split at h <;> simp at h; subst h; rename_i c; simp [PyData.canLay0, PyData.depth, c]
    | _ => simp [py] at h <;> subst h <;> simp [PyData.canLay0, PyData.depth]
theorem py_shaped {S : Sto} {n : Nat} {d : D} {p : PyData} (h : py S n d = some p) (hn : n ≤ 64 := by decide) : SeqAt.shaped p = true := by
  obtain ⟨h1, h2⟩ := py_ok h
  show (p.canLay0 && decide (p.depth ≤ 64)) = true
  rw [Bool.and_eq_true]
  exact ⟨h1, decide_eq_true (by omega)⟩
section
variable {K : PySem.W.Frag} {H : Hp} {S : Sto}
theorem dpAll_of {f : D → Option PyData} : ∀ {ds : List D} {vs : List V} {ps : List PyData}, (∀ (d : D) (v : V) (p : PyData), f d = some p → RD K H d v → Dp K H v p) → pyAll f ds = some ps → RDs K H ds vs → DpAll K H vs ps
  | [], vs, ps, _, h, r => by
    simp [pyAll] at h; subst h
    unfold RDs at r; subst r
    exact .nil
  | d :: ds, vs, ps, ih, h, r => by
    unfold RDs at r
    obtain ⟨v, ws, rfl, r1, r2⟩ := r
    simp only [pyAll] at h
    cases e1 : f d with
    | none => rw [e1] at h; simp at h
    | some p1 =>
      cases e2 : pyAll f ds with
      | none => rw [e1, e2] at h; simp at h
      | some ps1 =>
        rw [e1, e2] at h; simp at h; subst h
        exact .cons (ih d v p1 e1 r1) (dpAll_of ih e2 r2)
theorem py_dp (s : RS K H S) : ∀ (n : Nat) (d : D) (v : V) (p : PyData), py S n d = some p → RD K H d v → Dp K H v p := by
  intro n
  induction n with
  | zero =>
    intro d v p h r
    cases d with
    | str x => simp only [py] at h; split at h <;> simp at h; subst h; unfold RD at r; subst r; constructor
    | _ => simp [py] at h <;> subst h <;> unfold RD at r <;> subst r <;> constructor
  | succ n ih =>
    intro d v p h r
    cases d with
    | tup xs =>
      simp only [py] at h
      cases e : pyAll (py S n) xs with
      | none => rw [e] at h; simp at h
      | some ps =>
        rw [e] at h; simp at h; subst h
        unfold RD at r
        obtain ⟨a, vs, rfl, tt, rr⟩ := r
        exact .tup tt.sq (dpAll_of ih e rr)
    | ref a =>
      simp only [py] at h
      cases ea : S a with
      | none => rw [ea] at h; simp at h
      | some o =>
        rw [ea] at h
        cases o with
        | lst xs =>
          simp only at h
          cases e : pyAll (py S n) xs with
          | none => rw [e] at h; simp at h
          | some ps =>
            rw [e] at h; simp at h; subst h
            unfold RD at r; subst r
            obtain ⟨vs, hv, rr⟩ := s a _ ea
            exact .lst (.inl (.inl hv)) (dpAll_of ih e rr)
        | _ => simp at h
    | scr ns =>
      simp [py] at h; subst h
      unfold RD at r
      obtain ⟨a, rfl, q⟩ := r
      refine .lst q.sq ?_
      clear q
      induction ns with
      | nil => exact .nil
      | cons i ns ih => exact .cons (.int i) ih
    | str x => simp only [py] at h; split at h <;> simp at h; subst h; unfold RD at r; subst r; constructor
    | _ => simp [py] at h <;> subst h <;> unfold RD at r <;> subst r <;> constructor
end

/-! ### binary operators -/
def OpD (X : Cx) (f : Value → Value → Sem Value) (den : D → D → Sto → DK → Prop) : Prop := ∃ r, OpR X f r ∧ Op2 X.K den r
section
variable {X : Cx}
/-- the rule for each kind of value: by cases on what is there -/
theorem OpD.of {f : Value → Value → Sem Value} {den : D → D → Sto → DK → Prop}
    (h : ∀ (d1 d2 : D), ∃ r, OpR X f r ∧ ∀ (v1 v2 : V) (H : Hp) (S : Sto) (q : DK) (Q : VK), RD X.K H d1 v1 → RD X.K H d2 v2 → RS X.K H S → den d1 d2 S q → KOk X.K S H q Q → r v1 v2 H Q) : OpD X f den := by
  refine ⟨fun v1 v2 H Q => ∃ d1 d2 S q, RD X.K H d1 v1 ∧ RD X.K H d2 v2 ∧ RS X.K H S ∧ den d1 d2 S q ∧ KOk X.K S H q Q, ?_, fun d1 d2 v1 v2 H S q Q r1 r2 s h k => ⟨d1, d2, S, q, r1, r2, s, h, k⟩⟩
  intro pins s σ H x y v u Q I rx ry ⟨d1, d2, S, q, r1, r2, hs, hd, k⟩
  obtain ⟨r, ho, hk⟩ := h d1 d2
  exact ho pins s σ H x y v u Q I rx ry (hk x y H S q Q r1 r2 hs hd k)
/-- a value that needs no new object -/
theorem KOk.here {K : PySem.W.Frag} {S : Sto} {H : Hp} {q : DK} {Q : VK} (k : KOk K S H q Q) (s : RS K H S) {d : D} {v : V} (r : RD K H d v) (h : q d S) : Q v H := k d S v H Stp.rfl' r s h
theorem KOk.int {K : PySem.W.Frag} {S : Sto} {H : Hp} {q : DK} {Q : VK} (k : KOk K S H q Q) (s : RS K H S) {i : Int} (h : q (.int i) S) : Q (.int i) H := k.here s (by unfold RD; rfl) h
theorem KOk.bl {K : PySem.W.Frag} {S : Sto} {H : Hp} {q : DK} {Q : VK} (k : KOk K S H q Q) (s : RS K H S) {i : Bool} (h : q (.bl i) S) : Q (.bl i) H := k.here s (by unfold RD; rfl) h
theorem KOk.str {K : PySem.W.Frag} {S : Sto} {H : Hp} {q : DK} {Q : VK} (k : KOk K S H q Q) (s : RS K H S) {i : Str} (h : q (.str i) S) : Q (.str i) H := k.here s (by unfold RD; rfl) h
theorem KOk.non {K : PySem.W.Frag} {S : Sto} {H : Hp} {q : DK} {Q : VK} (k : KOk K S H q Q) (s : RS K H S) (h : q .non S) : Q .non H := k.here s (by unfold RD; rfl) h
theorem rd_int {K : PySem.W.Frag} {H : Hp} {i : Int} {v : V} (r : RD K H (.int i) v) : v = .int i := by unfold RD at r; exact r
theorem rd_bl {K : PySem.W.Frag} {H : Hp} {i : Bool} {v : V} (r : RD K H (.bl i) v) : v = .bl i := by unfold RD at r; exact r
theorem rd_str {K : PySem.W.Frag} {H : Hp} {i : Str} {v : V} (r : RD K H (.str i) v) : v = .str i := by unfold RD at r; exact r
theorem rd_non {K : PySem.W.Frag} {H : Hp} {v : V} (r : RD K H .non v) : v = .non := by unfold RD at r; exact r
theorem rd_ref {K : PySem.W.Frag} {H : Hp} {a : Addr} {v : V} (r : RD K H (.ref a) v) : v = .ref a := by unfold RD at r; exact r
theorem rd_tup {K : PySem.W.Frag} {H : Hp} {ds : List D} {v : V} (r : RD K H (.tup ds) v) : ∃ a vs, v = .ref a ∧ TupT H a vs ∧ RDs K H ds vs := by unfold RD at r; exact r
theorem rd_scr {K : PySem.W.Frag} {H : Hp} {ns : List Int} {v : V} (r : RD K H (.scr ns) v) : ∃ a, v = .ref a ∧ SqF K H a (ns.map V.int) := by unfold RD at r; exact r
/-- no case -/
theorem op_none {f : Value → Value → Sem Value} {d1 d2 : D} {den : D → D → Sto → DK → Prop} (h : ∀ S q, ¬ den d1 d2 S q) :
    ∃ r, OpR X f r ∧ ∀ (v1 v2 : V) (H : Hp) (S : Sto) (q : DK) (Q : VK), RD X.K H d1 v1 → RD X.K H d2 v2 → RS X.K H S → den d1 d2 S q → KOk X.K S H q Q → r v1 v2 H Q :=
  ⟨fun _ _ _ _ => False, fun _ _ _ _ _ _ _ _ _ _ _ _ h => h.elim, fun _ _ _ S q _ _ _ _ hd _ => h S q hd⟩

/-- t + u of any items -/
def rCatN (K : PySem.W.Frag) : R2 := fun x y H Q => ∃ a b xs ys, x = .ref a ∧ y = .ref b ∧ SqT K H a xs ∧ SqT K H b ys ∧ xs.length + ys.length ≤ sizeLine ∧
  (xs = [] → Q (.ref b) H) ∧ (xs ≠ [] → ys = [] → Q (.ref a) H) ∧ (xs ≠ [] → ys ≠ [] → NewT (xs ++ ys) H Q)
theorem op_catN : OpR X (binaryOp .Add) (rCatN X.K) := by
  intro pins s σ H x y v u Q I rx ry ⟨a, b, xs, ys, ex, ey, hta, htb, hsz, g0, g1, g2⟩
  subst ex ey
  by_cases hx : xs = []
  · exact op_catA pins s σ H _ _ v u Q I rx ry ⟨a, b, xs, ys, rfl, rfl, hta, htb, hsz, g0, g1, fun z => absurd hx z⟩
  by_cases hy : ys = []
  · exact op_catA pins s σ H _ _ v u Q I rx ry ⟨a, b, xs, ys, rfl, rfl, hta, htb, hsz, g0, g1, fun _ z => absurd hy z⟩
  obtain ⟨us, q1, t1, _⟩ := I.tuple hta
  obtain ⟨ws, q2, t2, _⟩ := I.tuple htb
  cases rx; cases ry
  exact HT.cat_tup t1 t2 (fun z => hx (q1.nil_iff.mp z)) (fun z => absurd (q2.nil_iff.mp z) hy) (fun _ => newT_ok I (q1.append q2) (g2 hx hy) (t' := s.toks)) (by rw [← q1.length, ← q2.length]; exact hsz)
def dAdd (x y : D) (S : Sto) (q : DK) : Prop := match x, y with
  | .int i, .int j => q (.int (i + j)) S
  | .str a, .str b => a.length + b.length ≤ sizeLine ∧ q (.str (a ++ b)) S
  | .tup xs, .tup ys => xs.length + ys.length ≤ sizeLine ∧ q (.tup (xs ++ ys)) S
  | .ref a, .ref b => ∃ xs ys, S a = some (.lst xs) ∧ S b = some (.lst ys) ∧ newL (xs ++ ys) S q
  | _, _ => False
theorem rds_nil {K : PySem.W.Frag} {H : Hp} {ds : List D} {vs : List V} (r : RDs K H ds vs) : vs = [] ↔ ds = [] := by
  have := r.length
  constructor
  · rintro rfl; exact List.eq_nil_of_length_eq_zero this
  · rintro rfl; exact List.eq_nil_of_length_eq_zero this.symm
theorem o_add : OpD X (binaryOp .Add) dAdd := OpD.of fun d1 d2 => by
  cases d1 with
  | int i => cases d2 with
    | int j => exact ⟨_, op_add, fun v1 v2 H S q Q r1 r2 s h k => ⟨i, j, rd_int r1, rd_int r2, k.int s h⟩⟩
    | _ => exact op_none fun _ _ h => h
  | str a => cases d2 with
    | str b => exact ⟨_, op_add_str, fun v1 v2 H S q Q r1 r2 s h k => ⟨a, b, rd_str r1, rd_str r2, h.1, k.str s h.2⟩⟩
    | _ => exact op_none fun _ _ h => h
  | tup xs => cases d2 with
    | tup ys => exact ⟨_, op_catN, fun v1 v2 H S q Q r1 r2 s h k => by
        obtain ⟨a, vs, rfl, ta, ra⟩ := rd_tup r1
        obtain ⟨b, ws, rfl, tb, rb⟩ := rd_tup r2
        have l1 := ra.length
        have l2 := rb.length
        refine ⟨a, b, vs, ws, rfl, rfl, ta.sq, tb.sq, by have := h.1; omega, fun z => ?_, fun _ z => ?_, fun _ _ => newT_rd (ra.append rb) s (by have := h.1; simpa using this) h.2 k⟩
        · have e := (rds_nil ra).mp z
          subst e
          exact k.here s r2 h.2
        · have e := (rds_nil rb).mp z
          subst e
          exact k.here s r1 (by simpa using h.2)⟩
    | _ => exact op_none fun _ _ h => h
  | ref a => cases d2 with
    | ref b => exact ⟨_, op_cat, fun v1 v2 H S q Q r1 r2 s ⟨xs, ys, ha, hb, h⟩ k => by
        obtain ⟨vs, hv, ra⟩ := s a _ ha
        obtain ⟨ws, hw, rb⟩ := s b _ hb
        have z := newL_ok (ra.append rb) s h k
        exact ⟨a, b, vs, ws, rd_ref r1, rd_ref r2, hv, hw, by simpa using z.1, z.2⟩⟩
    | _ => exact op_none fun _ _ h => h
  | _ => exact op_none fun _ _ h => h
/-- of two ints -/
def int2 (x y : D) (P : Int → Int → Prop) : Prop := match x, y with
  | .int i, .int j => P i j
  | _, _ => False
theorem no_ints {x y : D} {P : Int → Int → Prop} (c : ∀ i j, ¬ (x = .int i ∧ y = .int j)) (h : int2 x y P) : False := by
  unfold int2 at h
  split at h
  · exact c _ _ ⟨rfl, rfl⟩
  · exact h
def dSub (x y : D) (S : Sto) (q : DK) : Prop := int2 x y fun i j => q (.int (i - j)) S
/-- a rule of two ints -/
theorem OpD.ints {f : Value → Value → Sem Value} {den : D → D → Sto → DK → Prop} {r : R2} (ho : OpR X f r)
    (h : ∀ i j (H : Hp) (S : Sto) (q : DK) (Q : VK), RS X.K H S → den (.int i) (.int j) S q → KOk X.K S H q Q → r (.int i) (.int j) H Q) (hn : ∀ x y, (∀ i j, ¬ (x = .int i ∧ y = .int j)) → ∀ S q, ¬ den x y S q) : OpD X f den := OpD.of fun d1 d2 => by
  by_cases c : ∃ i j, d1 = .int i ∧ d2 = .int j
  · obtain ⟨i, j, rfl, rfl⟩ := c
    exact ⟨r, ho, fun v1 v2 H S q Q r1 r2 s hd k => by rw [rd_int r1, rd_int r2]; exact h i j H S q Q s hd k⟩
  · exact op_none (hn d1 d2 fun i j z => c ⟨i, j, z⟩)
theorem o_sub : OpD X (binaryOp .Sub) dSub := .ints op_sub (fun i j H S q Q s h k => ⟨i, j, rfl, rfl, k.int s h⟩) fun x y c S q h => no_ints c h
/-- the table of a rule by pairs of kinds -/
theorem opCase {f : Value → Value → Sem Value} {d1 d2 : D} {den : D → D → Sto → DK → Prop} {r : R2} (ho : OpR X f r)
    (h : ∀ (v1 v2 : V) (H : Hp) (S : Sto) (q : DK) (Q : VK), RD X.K H d1 v1 → RD X.K H d2 v2 → RS X.K H S → den d1 d2 S q → KOk X.K S H q Q → r v1 v2 H Q) :
    ∃ r, OpR X f r ∧ ∀ (v1 v2 : V) (H : Hp) (S : Sto) (q : DK) (Q : VK), RD X.K H d1 v1 → RD X.K H d2 v2 → RS X.K H S → den d1 d2 S q → KOk X.K S H q Q → r v1 v2 H Q := ⟨r, ho, h⟩
def mulFits (i j : Int) : Prop := CMul i j ∨ CMulX i j
theorem RDs.rep {K : PySem.W.Frag} {H : Hp} {ds : List D} {vs : List V} (r : RDs K H ds vs) : ∀ n : Nat, RDs K H (List.replicate n ds).flatten (List.replicate n vs).flatten
  | 0 => RDs.nil
  | n + 1 => by
    rw [List.replicate_succ, List.replicate_succ, List.flatten_cons, List.flatten_cons]
    exact r.append (RDs.rep r n)
def dMul (x y : D) (S : Sto) (q : DK) : Prop := match x, y with
  | .int i, .int j => mulFits i j ∧ q (.int (i * j)) S
  | .ref a, .int k => ∃ xs, S a = some (.lst xs) ∧ -(2 ^ 63) ≤ k ∧ k < 2 ^ 63 ∧ newL (List.replicate k.toNat xs).flatten S q
  | _, _ => False
theorem o_mul : OpD X (binaryOp .Mult) dMul := OpD.of fun d1 d2 => by
  cases d1 with
  | int i => cases d2 with
    | int j =>
      exact opCase (op_mul.or op_mulX) fun v1 v2 H S q Q r1 r2 s h k => by
        rcases h.1 with z | z
        · exact .inl ⟨i, j, rd_int r1, rd_int r2, z, k.int s h.2⟩
        · exact .inr ⟨i, j, rd_int r1, rd_int r2, z, k.int s h.2⟩
    | _ => exact op_none fun _ _ h => h
  | ref a => cases d2 with
    | int n =>
      exact opCase op_rep fun v1 v2 H S q Q r1 r2 s ⟨xs, ha, b1, b2, h⟩ k => by
        obtain ⟨vs, hv, ra⟩ := s a _ ha
        have z := newL_ok (ra.rep n.toNat) s h k
        refine ⟨a, n, vs, rd_ref r1, rd_int r2, hv, b1, b2, ?_, z.2⟩
        have := z.1
        rw [PyProof.Rows.lm_len_rep_flat, Nat.mul_comm] at this
        exact this
    | _ => exact op_none fun _ _ h => h
  | _ => exact op_none fun _ _ h => h
def dMod (x y : D) (S : Sto) (q : DK) : Prop := int2 x y fun i j => j ≠ 0 ∧ q (.int (i.fmod j)) S
theorem o_mod : OpD X (binaryOp .Mod) dMod := .ints op_modN (fun i j H S q Q s h k => ⟨i, j, rfl, rfl, h.1, k.int s h.2⟩) fun x y c S q h => no_ints c h
def dDiv (x y : D) (S : Sto) (q : DK) : Prop := int2 x y fun i j => (CDivN i j ∨ CDivW i j) ∧ q (.int (i.fdiv j)) S
theorem o_div : OpD X (binaryOp .FloorDiv) dDiv := .ints (op_fdivN.or op_fdivW) (fun i j H S q Q s h k => by
  rcases h.1 with z | z
  · exact .inl ⟨i, j, rfl, rfl, z, k.int s h.2⟩
  · refine .inr ⟨i, j, rfl, rfl, z, ?_⟩
    have e : i / j = i.fdiv j := by rw [Int.fdiv_eq_ediv_of_nonneg]; exact Int.le_of_lt z.1
    show Q (.int (i / j)) H
    rw [e]; exact k.int s h.2) fun x y c S q h => no_ints c h
def dPow (x y : D) (S : Sto) (q : DK) : Prop := int2 x y fun i j => CPow i j ∧ q (.int (i ^ j.toNat)) S
theorem o_pow : OpD X (binaryOp .Pow) dPow := .ints op_pow (fun i j H S q Q s h k => ⟨i, j, rfl, rfl, h.1, k.int s h.2⟩) fun x y c S q h => no_ints c h

/-! ### comparisons -/
def dCmp (f : Int → Int → Bool) (x y : D) (S : Sto) (q : DK) : Prop := int2 x y fun i j => q (.bl (f i j)) S
theorem o_lt : OpD X (compareOp .Lt) (dCmp fun i j => decide (i < j)) := .ints op_lt (fun i j H S q Q s h k => ⟨i, j, rfl, rfl, k.bl s h⟩) fun x y c S q h => no_ints c h
theorem o_le : OpD X (compareOp .LtE) (dCmp fun i j => decide (i ≤ j)) := .ints op_le (fun i j H S q Q s h k => ⟨i, j, rfl, rfl, k.bl s h⟩) fun x y c S q h => no_ints c h
theorem o_gt : OpD X (compareOp .Gt) (dCmp fun i j => decide (j < i)) := .ints op_gt (fun i j H S q Q s h k => ⟨i, j, rfl, rfl, k.bl s h⟩) fun x y c S q h => no_ints c h
theorem o_ge : OpD X (compareOp .GtE) (dCmp fun i j => decide (j ≤ i)) := .ints op_ge (fun i j H S q Q s h k => ⟨i, j, rfl, rfl, k.bl s h⟩) fun x y c S q h => no_ints c h
/-- == of data -/
def eqD (S : Sto) (x y : D) : Option Bool := match py S 8 x, py S 8 y with
  | some d, some e => some (PyData.eqv d e)
  | _, _ => none
def strEq (x y : D) : Option Bool := match x, y with
  | .str a, .str b => some (decide (a = b))
  | _, _ => none
def dEq (neg : Bool) (x y : D) (S : Sto) (q : DK) : Prop := match strEq x y with
  | some b => q (.bl (if neg = true then !b else b)) S
  | none => match eqD S x y with
    | some b => q (.bl (if neg = true then !b else b)) S
    | none => False
theorem strEq_some {x y : D} {b : Bool} (h : strEq x y = some b) : ∃ s t, x = .str s ∧ y = .str t ∧ b = decide (s = t) := by
  unfold strEq at h
  split at h
  · exact ⟨_, _, rfl, rfl, (Option.some.inj h).symm⟩
  · cases h
theorem dec_strV {a b : Str} : decide (V.str a = V.str b) = decide (a = b) := by
  by_cases h : a = b
  · subst h; simp
  · simp [h]
theorem eqD_some {S : Sto} {x y : D} {b : Bool} (h : eqD S x y = some b) : ∃ d e, py S 8 x = some d ∧ py S 8 y = some e ∧ b = PyData.eqv d e := by
  unfold eqD at h
  split at h
  · rename_i d e h1 h2; exact ⟨d, e, h1, h2, (Option.some.inj h).symm⟩
  · cases h
theorem o_eq (hu : X.A.units + 64 < cLine) : OpD X (compareOp .Eq) (dEq false) := ⟨_, op_eq.or (op_eqD hu), fun d1 d2 v1 v2 H S q Q r1 r2 s h k => by
  unfold dEq at h
  cases es : strEq d1 d2 with
  | some b =>
    rw [es] at h
    obtain ⟨x, y, rfl, rfl, rfl⟩ := strEq_some es
    rw [rd_str r1, rd_str r2]
    refine .inl ⟨rfl, ?_⟩
    rw [dec_strV]
    exact k.bl s h
  | none =>
    rw [es] at h
    cases e : eqD S d1 d2 with
    | none => rw [e] at h; exact h.elim
    | some b =>
      rw [e] at h
      obtain ⟨d, e', h1, h2, rfl⟩ := eqD_some e
      exact .inr ⟨d, e', py_dp s 8 d1 v1 d h1 r1, py_dp s 8 d2 v2 e' h2 r2, py_shaped h1, py_shaped h2, k.bl s h⟩⟩
theorem o_ne (hu : X.A.units + 64 < cLine) : OpD X (compareOp .NotEq) (dEq true) := ⟨_, op_ne.or (op_neD hu), fun d1 d2 v1 v2 H S q Q r1 r2 s h k => by
  unfold dEq at h
  cases es : strEq d1 d2 with
  | some b =>
    rw [es] at h
    obtain ⟨x, y, rfl, rfl, rfl⟩ := strEq_some es
    rw [rd_str r1, rd_str r2]
    refine .inl ⟨rfl, ?_⟩
    rw [dec_strV]
    exact k.bl s h
  | none =>
    rw [es] at h
    cases e : eqD S d1 d2 with
    | none => rw [e] at h; exact h.elim
    | some b =>
      rw [e] at h
      obtain ⟨d, e', h1, h2, rfl⟩ := eqD_some e
      exact .inr ⟨d, e', py_dp s 8 d1 v1 d h1 r1, py_dp s 8 d2 v2 e' h2 r2, py_shaped h1, py_shaped h2, k.bl s h⟩⟩
/-- is None -/
def isNon : D → Bool
  | .non => true
  | _ => false
def dIsN (neg : Bool) (x y : D) (S : Sto) (q : DK) : Prop := match y with
  | .non => q (.bl (if neg = true then !isNon x else isNon x)) S
  | _ => False
theorem rd_isN {K : PySem.W.Frag} {H : Hp} {d : D} {v : V} (r : RD K H d v) : decide (v = V.non) = isNon d := by
  cases d with
  | non => rw [rd_non r]; rfl
  | bl b => rw [rd_bl r]; rfl
  | int b => rw [rd_int r]; rfl
  | str b => rw [rd_str r]; rfl
  | ref b => rw [rd_ref r]; rfl
  | cls c => unfold RD at r; rw [r]; rfl
  | tup ds => obtain ⟨a, vs, rfl, _⟩ := rd_tup r; rfl
  | scr ds => obtain ⟨a, rfl, _⟩ := rd_scr r; rfl
theorem o_is : OpD X (compareOp .Is) (dIsN false) := ⟨_, op_isN, fun d1 d2 v1 v2 H S q Q r1 r2 s h k => by
  cases d2 with
  | non => exact ⟨rd_non r2, by rw [rd_isN r1]; exact k.bl s h⟩
  | _ => exact h.elim⟩
theorem o_isnt : OpD X (compareOp .IsNot) (dIsN true) := ⟨_, op_notN, fun d1 d2 v1 v2 H S q Q r1 r2 s h k => by
  cases d2 with
  | non => exact ⟨rd_non r2, by rw [rd_isN r1]; exact k.bl s h⟩
  | _ => exact h.elim⟩
end
end C2

/-! Membership, subscripts, slices, what is built in. -/
namespace C2
open PySem PySem.Spec PyProof.Rows L2
section
variable {X : Cx}

/-! ### in -/
def pyIn (x : D) (c : D) (S : Sto) : Option Bool := match py S 8 x, py S 8 c with
  | some d, some (.list ds) => some (ds.any fun z => PyData.eqv z d)
  | some d, some (.tuple ds) => some (ds.any fun z => PyData.eqv z d)
  | _, _ => none
def rInTD (neg : Bool) (K : PySem.W.Frag) : R2 := fun x y H Q => ∃ d ds, Dp K H x d ∧ Dp K H y (.tuple ds) ∧ SeqAt.shaped d = true ∧ SeqAt.shaped (.tuple ds) = true ∧ Q (.bl (if neg = true then !(ds.any fun z => PyData.eqv z d) else ds.any fun z => PyData.eqv z d)) H
theorem shapedT {ds : List PyData} (h : SeqAt.shaped (.tuple ds) = true) : PyData.canLayAll0 ds = true := by
  have h' : ((PyData.tuple ds).canLay0 && decide ((PyData.tuple ds).depth ≤ 64)) = true := h
  rw [Bool.and_eq_true] at h'
  simpa [PyData.canLay0] using h'.1
theorem shaped_depth {d : PyData} (h : SeqAt.shaped d = true) : d.depth ≤ 64 := by
  have h' : (d.canLay0 && decide (d.depth ≤ 64)) = true := h
  rw [Bool.and_eq_true] at h'
  exact of_decide_eq_true h'.2
theorem op_inTD (hu : X.A.units + 66 < cLine) : OpR X (compareOp .In) (rInTD false X.K) := by
  intro pins s σ H x y v u Q I rx ry ⟨d, ds, hd, hc, sd, sc, q⟩
  obtain ⟨as, ra⟩ := Dp.reads I d x v hd rx
  obtain ⟨bs, rb⟩ := Dp.reads I (.tuple ds) y u hc ry
  have hz := shaped_depth sd
  exact SeqAt.in_tuple_reads rb ra (shapedT sc) (SeqAt.canLay_of_shaped sd) (by omega) ⟨.bl _, H, I, rfl, q⟩
theorem op_notInTD (hu : X.A.units + 66 < cLine) : OpR X (compareOp .NotIn) (rInTD true X.K) := by
  intro pins s σ H x y v u Q I rx ry ⟨d, ds, hd, hc, sd, sc, q⟩
  obtain ⟨as, ra⟩ := Dp.reads I d x v hd rx
  obtain ⟨bs, rb⟩ := Dp.reads I (.tuple ds) y u hc ry
  have hz := shaped_depth sd
  exact SeqAt.notIn_tuple_reads rb ra (shapedT sc) (SeqAt.canLay_of_shaped sd) (by omega) ⟨.bl _, H, I, rfl, q⟩
def dIn (neg : Bool) (x y : D) (S : Sto) (q : DK) : Prop := match y with
  | .str z => match x with
    | .str c => ∃ k, c = ⟨#[k]⟩ ∧ q (.bl (if neg = true then !decide (k ∈ z.cps.toList) else decide (k ∈ z.cps.toList))) S
    | _ => False
  | y => match pyIn x y S with
    | some b => q (.bl (if neg = true then !b else b)) S
    | none => False
theorem pyIn_some {x c : D} {S : Sto} {b : Bool} (h : pyIn x c S = some b) : ∃ d, py S 8 x = some d ∧ ∃ ds, b = (ds.any fun z => PyData.eqv z d) ∧ (py S 8 c = some (.list ds) ∨ py S 8 c = some (.tuple ds)) := by
  unfold pyIn at h
  split at h
  · rename_i d ds e1 e2; exact ⟨d, e1, ds, (Option.some.inj h).symm, .inl e2⟩
  · rename_i d ds e1 e2; exact ⟨d, e1, ds, (Option.some.inj h).symm, .inr e2⟩
  · cases h
def rInAll (neg : Bool) (K : PySem.W.Frag) : R2 := fun x y H Q => (∃ (c : Nat) (z : Str), x = .str ⟨#[c]⟩ ∧ y = .str z ∧ Q (.bl (if neg = true then !decide (c ∈ z.cps.toList) else decide (c ∈ z.cps.toList))) H) ∨
  (∃ d ds, Dp K H x d ∧ Dp K H y (.list ds) ∧ SeqAt.shaped d = true ∧ SeqAt.shaped (.list ds) = true ∧ Q (.bl (if neg = true then !(ds.any fun z => PyData.eqv z d) else ds.any fun z => PyData.eqv z d)) H) ∨ rInTD neg K x y H Q
theorem dIn_all {neg : Bool} : Op2 X.K (dIn neg) (rInAll neg X.K) := fun d1 d2 v1 v2 H S q Q r1 r2 s h k => by
  have key : (match pyIn d1 d2 S with
      | some b => q (.bl (if neg = true then !b else b)) S
      | none => False) → rInAll neg X.K v1 v2 H Q := fun h => by
    cases e : pyIn d1 d2 S with
    | none => rw [e] at h; exact h.elim
    | some b =>
      rw [e] at h
      obtain ⟨d, h1, ds, rfl, h2⟩ := pyIn_some e
      rcases h2 with h2 | h2
      · exact .inr (.inl ⟨d, ds, py_dp s 8 d1 v1 d h1 r1, py_dp s 8 d2 v2 _ h2 r2, py_shaped h1, py_shaped h2, k.bl s h⟩)
      · exact .inr (.inr ⟨d, ds, py_dp s 8 d1 v1 d h1 r1, py_dp s 8 d2 v2 _ h2 r2, py_shaped h1, py_shaped h2, k.bl s h⟩)
  cases d2 with
  | str z =>
    cases d1 with
    | str c => obtain ⟨n, rfl, h⟩ := h; exact .inl ⟨n, z, rd_str r1, rd_str r2, k.bl s h⟩
    | _ => exact h.elim
  | _ => exact key h
theorem o_in (hu : X.A.units + 66 < cLine) : OpD X (compareOp .In) (dIn false) := ⟨_, (op_in_sign.or ((op_inD (by omega)).or (op_inTD hu))), dIn_all⟩
theorem o_notIn (hu : X.A.units + 66 < cLine) : OpD X (compareOp .NotIn) (dIn true) := ⟨_, (op_notIn_sign.or ((op_notInD (by omega)).or (op_notInTD hu))), dIn_all⟩

/-! ### subscripts -/
def IxD (X : Cx) (den : D → D → Sto → DK → Prop) : Prop := ∃ r, IxR X r ∧ Op2 X.K den r
def dIx (x y : D) (S : Sto) (q : DK) : Prop := match y with
  | .int i => match x with
    | .str z => z.length ≤ sizeLine ∧ ∃ c, atI z.cps.toList i = some c ∧ q (.str ⟨#[c]⟩) S
    | x => ∃ ds d, seqI S x = some ds ∧ atI ds i = some d ∧ q d S
  | _ => False
theorem atI_rd {K : PySem.W.Frag} {H : Hp} {ds : List D} {vs : List V} {i : Int} {d : D} (r : RDs K H ds vs) (h : atI ds i = some d) : ∃ v, atI vs i = some v ∧ RD K H d v := by
  unfold atI at h ⊢
  rw [← r.length]
  cases e : ixN ds.length i with
  | none => rw [e] at h; cases h
  | some j =>
    rw [e] at h
    exact r.get h
theorem x_ix : IxD X dIx := ⟨_, ix_list.or (ix_tup.or ix_str), fun d1 d2 v1 v2 H S q Q r1 r2 s h k => by
  cases d2 with
  | int i =>
    have key : (∃ ds d, seqI S d1 = some ds ∧ atI ds i = some d ∧ q d S) → rIxL X.K v1 v2 H Q ∨ rIxT X.K v1 v2 H Q ∨ rIxS v1 v2 H Q := fun ⟨ds, d, h1, h2, h3⟩ => by
      obtain ⟨a, vs, ea, hq, rr⟩ := seqI_rd r1 s h1
      obtain ⟨v, h4, h5⟩ := atI_rd rr h2
      rcases hq with hq | hq
      · exact .inl ⟨a, vs, i, v, ea, rd_int r2, hq, h4, k.here s h5 h3⟩
      · exact .inr (.inl ⟨a, vs, i, v, ea, rd_int r2, hq, h4, k.here s h5 h3⟩)
    cases d1 with
    | str z =>
      obtain ⟨hz, c, hc, hq⟩ := h
      exact .inr (.inr ⟨z, i, c, rd_str r1, rd_int r2, hz, hc, k.str s hq⟩)
    | _ => exact key h
  | _ => exact h.elim⟩

/-! ### slices -/
def cutD {α : Type} (xs : List α) (lo hi : Option Int) : List α := (xs.drop (HT.sIx xs.length 0 lo)).take (HT.sIx xs.length xs.length hi - HT.sIx xs.length 0 lo)
theorem cut_rd {K : PySem.W.Frag} {H : Hp} {ds : List D} {vs : List V} {lo hi : Option Int} (r : RDs K H ds vs) : RDs K H (cutD ds lo hi) (cutV vs lo hi) := by
  unfold cutD cutV
  rw [← r.length]
  exact (r.drop _).take _
theorem sIx_le {n : Nat} {d : Nat} (hd : d ≤ n) (lo : Option Int) : HT.sIx n d lo ≤ n := by
  unfold HT.sIx
  cases lo with
  | none => exact hd
  | some i => simp only; split <;> omega
theorem cut_whole {α : Type} {xs : List α} {lo hi : Option Int} (h : HT.sIx xs.length 0 lo = 0 ∧ HT.sIx xs.length xs.length hi = xs.length) : cutD xs lo hi = xs := by
  unfold cutD
  rw [h.1, h.2]
  simp
/-- t[lo:hi] of any items -/
def rSlN (K : PySem.W.Frag) : V → Option Int → Option Int → Hp → VK → Prop := fun x lo hi H Q => ∃ a xs, x = .ref a ∧ SqT K H a xs ∧
  (HT.sIx xs.length 0 lo = 0 ∧ HT.sIx xs.length xs.length hi = xs.length → Q (.ref a) H) ∧ (¬ (HT.sIx xs.length 0 lo = 0 ∧ HT.sIx xs.length xs.length hi = xs.length) → NewT (cutV xs lo hi) H Q)
theorem sl_tupN : SlR X (rSlN X.K) := by
  intro pins s σ H x v vl vu lo hi sl Q I rx hs pl pu ⟨a, xs, ex, hT, g1, g2⟩
  subst ex
  by_cases hw : HT.sIx xs.length 0 lo = 0 ∧ HT.sIx xs.length xs.length hi = xs.length
  · exact sl_tupA pins s σ H _ v vl vu lo hi sl Q I rx hs pl pu ⟨a, xs, rfl, hT, g1, fun z => absurd hw z⟩
  cases rx
  obtain ⟨us, q1, t1, z1⟩ := I.tuple hT
  have hn : us.toArray.size = xs.length := by rw [List.size_toArray]; exact q1.length.symm
  refine ⟨"tuple", _, PyProof.Rows.slot_tuple_getitem.lookup, t1.typeIs, HT.getItem_tuple_cut t1 hs pl pu (by rw [hn]; exact hw) ?_ (by rw [hn]; exact z1)⟩
  rw [hn]
  exact newT_ok I ((q1.drop _).take _) (g2 hw) (t' := s.toks)
def dSl (x : D) (lo hi : Option Int) (S : Sto) (q : DK) : Prop := match x with
  | .str z => z.length ≤ sizeLine ∧ q (.str (cutS z lo hi)) S
  | .tup ds => q (.tup (cutD ds lo hi)) S
  | .ref a => ∃ ds, S a = some (.lst ds) ∧ ∀ p, S p = none → q (.ref p) (up S p (.lst (cutD ds lo hi)))
  | .scr ns => ∀ p, S p = none → q (.ref p) (up S p (.lst (cutD (ns.map .int) lo hi)))
  | _ => False
def SlD (X : Cx) (den : D → Option Int → Option Int → Sto → DK → Prop) : Prop := ∃ r, SlR X r ∧ ∀ (d : D) (v : V) (lo hi : Option Int) (H : Hp) (S : Sto) (q : DK) (Q : VK), RD X.K H d v → RS X.K H S → den d lo hi S q → KOk X.K S H q Q → r v lo hi H Q
/-- a new list -/
theorem KOk.newL {K : PySem.W.Frag} {S : Sto} {H : Hp} {q : DK} {Q : VK} (k : KOk K S H q Q) (s : RS K H S) {ds : List D} {vs : List V} (r : RDs K H ds vs) (h : ∀ p, S p = none → q (.ref p) (up S p (.lst ds))) (p : Addr) (hp : H p = none) : Q (.ref p) (upd H p (.lst vs)) :=
  k (.ref p) _ (.ref p) _ (Stp.add hp) (by unfold RD; rfl) (s.add (o := .lst ds) hp (show RelOb _ _ _ _ (.lst ds) from ⟨vs, upd_same, r.mono (Tle.new hp)⟩)) (h p (s.free hp))
theorem KOk.newT {K : PySem.W.Frag} {S : Sto} {H : Hp} {q : DK} {Q : VK} (k : KOk K S H q Q) (s : RS K H S) {ds : List D} {vs : List V} (r : RDs K H ds vs) (hz : vs.length ≤ sizeLine) (h : q (.tup ds) S) : NewT vs H Q :=
  newT_rd r s (by rw [r.length]; exact hz) h k
theorem SqT.len {pins : List (Addr × Obj)} {σ : L2.St} {H : Hp} {s : Shared} {a : Addr} {xs : List V} (I : Inv X pins σ H s) (h : SqT X.K H a xs) : xs.length ≤ sizeLine := by
  obtain ⟨us, q1, t1, z1⟩ := I.tuple h; exact z1
/-- with the tuple's size at hand -/
def rSlN2 (K : PySem.W.Frag) : V → Option Int → Option Int → Hp → VK → Prop := fun x lo hi H Q => ∃ a xs, x = .ref a ∧ SqT K H a xs ∧ (xs.length ≤ sizeLine → 
  (HT.sIx xs.length 0 lo = 0 ∧ HT.sIx xs.length xs.length hi = xs.length → Q (.ref a) H) ∧ (¬ (HT.sIx xs.length 0 lo = 0 ∧ HT.sIx xs.length xs.length hi = xs.length) → NewT (cutV xs lo hi) H Q))
theorem sl_tupN2 : SlR X (rSlN2 X.K) := fun pins s σ H x v vl vu lo hi sl Q I rx hs pl pu ⟨a, xs, ex, hT, g⟩ =>
  sl_tupN pins s σ H x v vl vu lo hi sl Q I rx hs pl pu ⟨a, xs, ex, hT, g (SqT.len I hT)⟩
theorem x_sl : SlD X dSl := ⟨_, sl_list.or (sl_tupN2.or sl_str), fun d v lo hi H S q Q r s h k => by
  cases d with
  | str z => exact .inr (.inr ⟨z, rd_str r, h.1, k.str s h.2⟩)
  | tup ds =>
    obtain ⟨a, vs, rfl, tt, rr⟩ := rd_tup r
    refine .inr (.inl ⟨a, vs, rfl, tt.sq, fun hz => ⟨fun w => ?_, fun _ => ?_⟩⟩)
    · refine k.here s r ?_
      have e : cutD ds lo hi = ds := cut_whole (by rw [rr.length]; exact w)
      have h' : q (.tup (cutD ds lo hi)) S := h
      rw [e] at h'; exact h'
    · exact k.newT s (cut_rd rr) (Nat.le_trans (cutV_length vs lo hi) hz) h
  | ref a =>
    obtain ⟨ds, ha, h⟩ := h
    obtain ⟨vs, hv, rr⟩ := s a _ ha
    exact .inl ⟨a, vs, rd_ref r, .inl (.inl hv), k.newL s (cut_rd rr) h⟩
  | scr ns =>
    obtain ⟨a, rfl, qq⟩ := rd_scr r
    exact .inl ⟨a, _, rfl, qq.sq, k.newL s (cut_rd (RDs.ofInts ns)) h⟩
  | _ => exact h.elim⟩
/-- a part of a slice -/
def oPart (t : Option DE) : XR → Env → Sto → (Option Int → Sto → Prop) → Prop := fun R env S q => match t with
  | none => q none S
  | some a => a R env S fun x S1 => match x with
    | .int i => q (some i) S1
    | _ => False
def eSl (f : D → Option Int → Option Int → Sto → DK → Prop) (a : DE) (lo hi : Option DE) : DE := fun R env S q => a R env S fun x S1 => oPart lo R env S1 fun i S2 => oPart hi R env S2 fun j S3 => f x i j S3 q
end
end C2

/-! Calls of what is built in. -/
namespace C2
open PySem PySem.Spec PyProof.Rows L2
def CallD (X : Cx) (f : Value) (den : List D → Sto → DK → Prop) : Prop := ∃ r, CallR X f r ∧ OpN X.K den r
section
variable {X : Cx}
theorem CallD.or {f : Value} {d d' : List D → Sto → DK → Prop} (h : CallD X f d) (h' : CallD X f d') : CallD X f (fun xs S q => d xs S q ∨ d' xs S q) := by
  obtain ⟨r, c, o⟩ := h
  obtain ⟨r', c', o'⟩ := h'
  exact ⟨_, c.or c', fun ds vs H S q Q rr s w k => w.elim (fun w => .inl (o ds vs H S q Q rr s w k)) fun w => .inr (o' ds vs H S q Q rr s w k)⟩
theorem CallD.imp {f : Value} {d d' : List D → Sto → DK → Prop} (h : CallD X f d) (i : ∀ xs S q, d' xs S q → d xs S q) : CallD X f d' := by
  obtain ⟨r, c, o⟩ := h
  exact ⟨r, c, fun ds vs H S q Q rr s w k => o ds vs H S q Q rr s (i _ _ _ w) k⟩
theorem rds1 {K : PySem.W.Frag} {H : Hp} {d : D} {vs : List V} (r : RDs K H [d] vs) : ∃ v, vs = [v] ∧ RD K H d v := by
  unfold RDs at r
  obtain ⟨v, ws, rfl, r1, r2⟩ := r
  unfold RDs at r2; subst r2
  exact ⟨v, rfl, r1⟩
theorem rds2 {K : PySem.W.Frag} {H : Hp} {d e : D} {vs : List V} (r : RDs K H [d, e] vs) : ∃ v w, vs = [v, w] ∧ RD K H d v ∧ RD K H e w := by
  unfold RDs at r
  obtain ⟨v, ws, rfl, r1, r2⟩ := r
  obtain ⟨w, rfl, r3⟩ := rds1 r2
  exact ⟨v, w, rfl, r1, r3⟩
theorem rds0 {K : PySem.W.Frag} {H : Hp} {vs : List V} (r : RDs K H [] vs) : vs = [] := by unfold RDs at r; exact r

/-! ### len -/
def dLen1 (x : D) (S : Sto) (q : DK) : Prop := match x with
  | .str z => z.length ≤ sizeLine ∧ q (.int z.length) S
  | x => ∃ ds, seqI S x = some ds ∧ q (.int ds.length) S
def only1 (f : D → Sto → DK → Prop) : List D → Sto → DK → Prop := fun xs S q => match xs with
  | [x] => f x S q
  | _ => False
def only2 (f : D → D → Sto → DK → Prop) : List D → Sto → DK → Prop := fun xs S q => match xs with
  | [x, y] => f x y S q
  | _ => False
theorem OpN.one {K : PySem.W.Frag} {f : D → Sto → DK → Prop} {r : List V → Hp → VK → Prop} (h : ∀ (d : D) (v : V) (H : Hp) (S : Sto) (q : DK) (Q : VK), RD K H d v → RS K H S → f d S q → KOk K S H q Q → r [v] H Q) : OpN K (only1 f) r := fun ds vs H S q Q rr s w k => by
  match ds, w with
  | [d], w =>
    obtain ⟨v, rfl, r1⟩ := rds1 rr
    exact h d v H S q Q r1 s w k
theorem OpN.two {K : PySem.W.Frag} {f : D → D → Sto → DK → Prop} {r : List V → Hp → VK → Prop} (h : ∀ (d e : D) (v w : V) (H : Hp) (S : Sto) (q : DK) (Q : VK), RD K H d v → RD K H e w → RS K H S → f d e S q → KOk K S H q Q → r [v, w] H Q) : OpN K (only2 f) r := fun ds vs H S q Q rr s w k => by
  match ds, w with
  | [d, e], w =>
    obtain ⟨v, u, rfl, r1, r2⟩ := rds2 rr
    exact h d e v u H S q Q r1 r2 s w k
theorem c_len : CallD X (.builtin "len") (only1 dLen1) := ⟨_, call_len, OpN.one fun d v H S q Q r s h k => by
  have key : (∃ ds, seqI S d = some ds ∧ q (.int ds.length) S) → ∃ x n, [v] = [x] ∧ LenV X.K x H n ∧ Q (.int n) H := fun ⟨ds, h1, h2⟩ => by
    obtain ⟨a, vs, rfl, hq, rr⟩ := seqI_rd r s h1
    refine ⟨_, vs.length, rfl, ?_, by rw [← rr.length]; exact k.int s h2⟩
    show (∃ xs, SqL X.K H a xs ∧ vs.length = xs.length) ∨ ∃ xs, SqT X.K H a xs ∧ vs.length = xs.length
    rcases hq with hq | hq
    · exact .inl ⟨vs, hq, rfl⟩
    · exact .inr ⟨vs, hq, rfl⟩
  cases d with
  | str z => exact ⟨_, z.length, rfl, by rw [rd_str r]; exact ⟨h.1, rfl⟩, k.int s h.2⟩
  | _ => exact key h⟩

/-! ### abs, min, max, sum -/
def iabs (i : Int) : Int := if i < 0 then -i else i
def dAbs (x : D) (S : Sto) (q : DK) : Prop := match x with
  | .int i => q (.int (iabs i)) S
  | _ => False
theorem c_abs : CallD X (.builtin "abs") (only1 dAbs) := ⟨_, call_abs, OpN.one fun d v H S q Q r s h k => by
  cases d with
  | int i => exact ⟨i, by rw [rd_int r], k.int s h⟩
  | _ => exact h.elim⟩
def dMx2 (x y : D) (S : Sto) (q : DK) : Prop := int2 x y fun i j => q (.int (max i j)) S
def dMn2 (x y : D) (S : Sto) (q : DK) : Prop := int2 x y fun i j => q (.int (min i j)) S
theorem int2_some {x y : D} {P : Int → Int → Prop} (h : int2 x y P) : ∃ i j, x = .int i ∧ y = .int j ∧ P i j := by
  unfold int2 at h
  split at h
  · exact ⟨_, _, rfl, rfl, h⟩
  · exact h.elim
theorem c_max2 (hc : X.calm = true) : CallD X (.builtin "max") (only2 dMx2) := ⟨_, call_max2 hc, OpN.two fun d e v w H S q Q r1 r2 s h k => by
  obtain ⟨i, j, rfl, rfl, h⟩ := int2_some h
  refine ⟨i, j, by rw [rd_int r1, rd_int r2], ?_⟩
  have e : (if j > i then j else i) = max i j := by split <;> omega
  rw [e]; exact k.int s h⟩
theorem c_min2 (hc : X.calm = true) : CallD X (.builtin "min") (only2 dMn2) := ⟨_, call_min2 hc, OpN.two fun d e v w H S q Q r1 r2 s h k => by
  obtain ⟨i, j, rfl, rfl, h⟩ := int2_some h
  refine ⟨i, j, by rw [rd_int r1, rd_int r2], ?_⟩
  have e : (if j < i then j else i) = min i j := by split <;> omega
  rw [e]; exact k.int s h⟩
/-- a sequence that is walked, by its kind -/
theorem seqI_at {pins : List (Addr × Obj)} {σ : L2.St} {H : Hp} {s : Shared} {S : Sto} {d : D} {v : V} {u : Value} {ds : List D} (I : Inv X pins σ H s) (ru : RelV v u) (r : RD X.K H d v) (rs : RS X.K H S) (h : seqI S d = some ds) :
    ∃ a vs us, u = .ref a ∧ v = .ref a ∧ (SqL X.K H a vs ∨ SqT X.K H a vs) ∧ RDs X.K H ds vs ∧ Vals vs us ∧ (s.heap.IsList a us.toArray ∨ s.heap.IsTuple a us.toArray) ∧ vs.length ≤ sizeLine := by
  obtain ⟨a, vs, rfl, hq, rr⟩ := seqI_rd r rs h
  cases ru
  rcases hq with hq | hq
  · obtain ⟨us, rv, p, hz⟩ := I.list hq
    exact ⟨a, vs, us, rfl, rfl, .inl hq, rr, rv, .inl p.isList, hz⟩
  · obtain ⟨us, rv, p, hz⟩ := I.tuple hq
    exact ⟨a, vs, us, rfl, rfl, .inr hq, rr, rv, .inr p, hz⟩
/-- a rule that is shown for values as they stand, by the reading -/
theorem CallD.raw {f : Value} {den : List D → Sto → DK → Prop} (h : ∀ (pins : List (Addr × Obj)) (s : Shared) (σ : L2.St) (H : Hp) (ds : List D) (vs : List V) (us : List Value) (S : Sto) (q : DK) (Q : VK), Inv X pins σ H s → Vals vs us → RDs X.K H ds vs → RS X.K H S → den ds S q → KOk X.K S H q Q →
    wpAny (model X.prog X.w) X.A (call f us) (EP X pins σ Q) X.xe s) : CallD X f den :=
  ⟨fun vs H Q => ∃ ds S q, RDs X.K H ds vs ∧ RS X.K H S ∧ den ds S q ∧ KOk X.K S H q Q, fun pins s σ H xs us Q I r ⟨ds, S, q, r1, r2, h1, k⟩ => h pins s σ H ds xs us S q Q I r r1 r2 h1 k, fun ds vs H S q Q rr s w k => ⟨ds, S, q, rr, s, w, k⟩⟩
/-- the same of one argument -/
theorem CallD.raw1 {f : Value} {den : D → Sto → DK → Prop} (h : ∀ (pins : List (Addr × Obj)) (s : Shared) (σ : L2.St) (H : Hp) (d : D) (v : V) (u : Value) (S : Sto) (q : DK) (Q : VK), Inv X pins σ H s → RelV v u → RD X.K H d v → RS X.K H S → den d S q → KOk X.K S H q Q →
    wpAny (model X.prog X.w) X.A (call f [u]) (EP X pins σ Q) X.xe s) : CallD X f (only1 den) := .raw fun pins s σ H ds vs us S q Q I r rr rs h1 k => by
  match ds, h1 with
  | [d], h1 =>
    obtain ⟨v, rfl, r1⟩ := rds1 rr
    obtain ⟨u, rfl, ru⟩ := vals1 r
    exact h pins s σ H d v u S q Q I ru r1 rs h1 k
theorem preSum_all {ns : List Int} : preSum (fun i => ns.getD i 0) ns.length = ns.sum := by
  have key : ∀ k, k ≤ ns.length → preSum (fun i => ns.getD i 0) k = (ns.take k).sum := by
    intro k
    induction k with
    | zero => intro _; simp [preSum]
    | succ k ih =>
      intro hk
      have e : (ns.take (k + 1)).sum = (ns.take k).sum + ns.getD k 0 := by
        rw [List.take_succ, List.sum_append, List.getElem?_eq_getElem (show k < ns.length by omega), List.getD_eq_getElem?_getD, List.getElem?_eq_getElem (show k < ns.length by omega)]
        simp
      rw [e, ← ih (by omega)]
      rfl
  rw [key _ (Nat.le_refl _), List.take_length]
theorem ints_val {us : List Value} {ns : List Int} (h : IntsAre us ns) {i : Nat} {v : Value} (e : us.toArray[i]? = some v) : ∃ t, v = .int (ns.getD i 0) t := by
  have h' := vals_of_ints h
  rw [List.getElem?_toArray] at e
  have hl := h'.length
  have hi : i < us.length := (List.getElem?_eq_some_iff.mp e).1
  rw [List.length_map] at hl
  obtain ⟨u, hu, ru⟩ := h'.get (i := i) (x := .int (ns.getD i 0)) (by simp [List.getElem?_map, List.getD_eq_getElem?_getD, List.getElem?_eq_getElem (show i < ns.length by omega)])
  rw [e] at hu; cases hu
  obtain ⟨t, rfl⟩ := ru
  exact ⟨t, rfl⟩
theorem sum_seq {prog : Program} {w : World} {A : Around} {E : Value → Shared → Prop} {s : Shared} {a : Addr} {us : List Value} {ns : List Int} {Q : Value → Shared → Prop} (hh : A.handled = none) (hs : s.heap.IsList a us.toArray ∨ s.heap.IsTuple a us.toArray) (hi : IntsAre us ns)
    (h : ∀ h' tk t', (∀ b o, s.heap.get? b = some o → h'.get? b = some o) → Q (.int ns.sum t') { s with heap := h', toks := tk }) : wpAny (model prog w) A (call (.builtin "sum") [.ref a]) Q E s := by
  have hn : us.toArray.size = ns.length := by
    have := (vals_of_ints hi).length
    simpa using this.symm
  refine call_sum_walkAnyS ?_
  rcases hs with hl | hl
  · refine PySem.W.iter_listW (A := A.in1) hh hl fun s2 e W st hfp hw hk => ⟨_, _, _, _, _, _, _, fun i => ns.getD i 0, rfl, W, st, hfp, fun i v hP => ints_val hi hP, fun s' t' m => ?_⟩
    obtain ⟨h', tk, rfl, hk'⟩ := PySem.W.moved_old e rfl m
    rw [hn, preSum_all]
    exact h h' tk t' hk'
  · refine PySem.W.iter_tupleW (A := A.in1) hh hl fun s2 e W st hfp hw hk => ⟨_, _, _, _, _, _, _, fun i => ns.getD i 0, rfl, W, st, hfp, fun i v hP => ints_val hi hP, fun s' t' m => ?_⟩
    obtain ⟨h', tk, rfl, hk'⟩ := PySem.W.moved_old e rfl m
    rw [hn, preSum_all]
    exact h h' tk t' hk'
def dSum (x : D) (S : Sto) (q : DK) : Prop := ∃ ns : List Int, seqI S x = some (ns.map .int) ∧ q (.int ns.sum) S
theorem c_sum (hc : X.calm = true) : CallD X (.builtin "sum") (only1 dSum) := .raw1 fun pins s σ H d v u S q Q I ru r rs ⟨ns, h1, h2⟩ k => by
  obtain ⟨a, vs, us, rfl, rfl, hq, rr, rv, p, hz⟩ := seqI_at I ru r rs h1
  have e := rr.ints
  subst e
  exact sum_seq (I.ok.hd hc) p rv.ints fun h' tk t' hk => ⟨.int _, H, I.kept hk, ⟨_, rfl⟩, k.int rs h2⟩
/-- ints as data -/
theorem reads_ints {h : Heap} : ∀ {us : List Value} {ns : List Int}, IntsAre us ns → ∃ as, ReadsAll h us (ns.map .int) as := fun {us ns} hi => by
  induction ns generalizing us with
  | nil => have := (vals_of_ints hi); cases this; exact ⟨_, .nil⟩
  | cons n ns ih =>
    have := vals_of_ints hi
    cases this with
    | cons r1 r2 =>
      obtain ⟨t, rfl⟩ := r1
      obtain ⟨as, ra⟩ := ih (Vals.ints r2)
      exact ⟨_, .cons (Reads.int n t) ra⟩
theorem alike_intsAll (ns : List Int) : PySem.W.AlikeAll (ns.map .int) := by
  refine ⟨fun x hx y hy => ?_, fun x hx => ?_⟩
  · obtain ⟨i, _, rfl⟩ := List.mem_map.mp hx
    obtain ⟨j, _, rfl⟩ := List.mem_map.mp hy
    rfl
  · obtain ⟨i, _, rfl⟩ := List.mem_map.mp hx
    exact fun z => nomatch z
theorem depth_intsAll : ∀ ns : List Int, PyData.depthAll (ns.map .int) = 0
  | [] => by simp [PyData.depthAll]
  | n :: ns => by simp [PyData.depthAll, PyData.depth, depth_intsAll ns]
def dMx1 (x : D) (S : Sto) (q : DK) : Prop := ∃ (n : Int) (ns : List Int), seqI S x = some (.int n :: ns.map .int) ∧ q (.int (ns.foldl max n)) S
def dMn1 (x : D) (S : Sto) (q : DK) : Prop := ∃ (n : Int) (ns : List Int), seqI S x = some (.int n :: ns.map .int) ∧ q (.int (ns.foldl min n)) S
theorem c_max1 (hc : X.calm = true) (hu : X.A.units + 66 < cLine) : CallD X (.builtin "max") (only1 dMx1) := .raw1 fun pins s σ H d v u S q Q I ru r rs ⟨n, ns, h1, h2⟩ k => by
  obtain ⟨a, vs, us, rfl, rfl, hq, rr, rv, p, hz⟩ := seqI_at I ru r rs h1
  have e : vs = (n :: ns).map V.int := RDs.ints (ns := n :: ns) rr
  subst e
  obtain ⟨as, ra⟩ := reads_ints (h := s.heap) rv.ints
  have hd : X.A.units + 1 + PyData.depthAll ((n :: ns).map .int) < cLine := by rw [depth_intsAll]; omega
  have fin : ∀ (v : Value) (h' : Heap) (tk : Nat) (bs : List Addr), Reads h' v (PySem.W.maxD (.int n) (ns.map .int)) bs → (∀ b o, s.heap.get? b = some o → h'.get? b = some o) → EP X pins σ Q v { s with heap := h', toks := tk } := fun v h' tk bs rd hk => by
    rw [PySem.W.maxD_ints] at rd
    cases rd
    exact ⟨.int _, H, I.kept hk, ⟨_, rfl⟩, k.int rs h2⟩
  rcases p with p | p
  · exact PySem.W.max_list_data (I.ok.hd hc) p (by simpa using ra) (alike_intsAll (n :: ns)) hd fun i v h' tk bs _ rd hk => fin v h' tk bs rd hk
  · exact PySem.W.max_tuple_data (I.ok.hd hc) p (by simpa using ra) (alike_intsAll (n :: ns)) hd fun i v h' tk bs _ rd hk => fin v h' tk bs rd hk
theorem c_min1 (hc : X.calm = true) (hu : X.A.units + 66 < cLine) : CallD X (.builtin "min") (only1 dMn1) := .raw1 fun pins s σ H d v u S q Q I ru r rs ⟨n, ns, h1, h2⟩ k => by
  obtain ⟨a, vs, us, rfl, rfl, hq, rr, rv, p, hz⟩ := seqI_at I ru r rs h1
  have e : vs = (n :: ns).map V.int := RDs.ints (ns := n :: ns) rr
  subst e
  obtain ⟨as, ra⟩ := reads_ints (h := s.heap) rv.ints
  have hd : X.A.units + 1 + PyData.depthAll ((n :: ns).map .int) < cLine := by rw [depth_intsAll]; omega
  have fin : ∀ (v : Value) (h' : Heap) (tk : Nat) (bs : List Addr), Reads h' v (PySem.W.minD (.int n) (ns.map .int)) bs → (∀ b o, s.heap.get? b = some o → h'.get? b = some o) → EP X pins σ Q v { s with heap := h', toks := tk } := fun v h' tk bs rd hk => by
    rw [PySem.W.minD_ints] at rd
    cases rd
    exact ⟨.int _, H, I.kept hk, ⟨_, rfl⟩, k.int rs h2⟩
  rcases p with p | p
  · exact PySem.W.min_list_data (I.ok.hd hc) p (by simpa using ra) (alike_intsAll (n :: ns)) hd fun i v h' tk bs _ rd hk => fin v h' tk bs rd hk
  · exact PySem.W.min_tuple_data (I.ok.hd hc) p (by simpa using ra) (alike_intsAll (n :: ns)) hd fun i v h' tk bs _ rd hk => fin v h' tk bs rd hk

/-! ### all, any of a list of bools -/
theorem RDs.bls {K : PySem.W.Frag} {H : Hp} : ∀ {bs : List Bool} {vs : List V}, RDs K H (bs.map D.bl) vs → vs = bs.map V.bl
  | [], vs, h => by simpa [RDs] using h
  | n :: ns, vs, h => by
    rw [List.map_cons] at h
    unfold RDs at h
    obtain ⟨v, ws, rfl, r, rs⟩ := h
    rw [rd_bl r, RDs.bls rs]; rfl
theorem RDs.strs {K : PySem.W.Frag} {H : Hp} : ∀ {bs : List Str} {vs : List V}, RDs K H (bs.map D.str) vs → vs = bs.map V.str
  | [], vs, h => by simpa [RDs] using h
  | n :: ns, vs, h => by
    rw [List.map_cons] at h
    unfold RDs at h
    obtain ⟨v, ws, rfl, r, rs⟩ := h
    rw [rd_str r, RDs.strs rs]; rfl
def lstI (S : Sto) : D → Option (List D)
  | .ref a => match S a with
    | some (.lst ds) => some ds
    | _ => none
  | _ => none
theorem lstI_rd {K : PySem.W.Frag} {H : Hp} {S : Sto} {d : D} {v : V} {ds : List D} (r : RD K H d v) (s : RS K H S) (h : lstI S d = some ds) : ∃ a vs, v = .ref a ∧ H a = some (.lst vs) ∧ RDs K H ds vs ∧ d = .ref a ∧ S a = some (.lst ds) := by
  cases d with
  | ref a =>
    simp only [lstI] at h
    cases e : S a with
    | none => rw [e] at h; cases h
    | some o =>
      rw [e] at h
      cases o with
      | lst xs =>
        simp only [Option.some.injEq] at h; subst h
        obtain ⟨vs, hv, rr⟩ := s a _ e
        exact ⟨a, vs, rd_ref r, hv, rr, rfl, e⟩
      | _ => cases h
  | _ => cases h
def dAll (x : D) (S : Sto) (q : DK) : Prop := ∃ bs : List Bool, lstI S x = some (bs.map .bl) ∧ q (.bl (bs.all id)) S
def dAny (x : D) (S : Sto) (q : DK) : Prop := ∃ bs : List Bool, lstI S x = some (bs.map .bl) ∧ q (.bl (bs.any id)) S
theorem c_all (hc : X.calm = true) : CallD X (.builtin "all") (only1 dAll) := ⟨_, cr_all hc, OpN.one fun d v H S q Q r s ⟨bs, h1, h2⟩ k => by
  obtain ⟨a, vs, rfl, hv, rr, _⟩ := lstI_rd r s h1
  have e := rr.bls
  subst e
  exact ⟨a, bs, rfl, .inl (.inl hv), k.bl s h2⟩⟩
theorem c_any (hc : X.calm = true) : CallD X (.builtin "any") (only1 dAny) := ⟨_, cr_any hc, OpN.one fun d v H S q Q r s ⟨bs, h1, h2⟩ k => by
  obtain ⟨a, vs, rfl, hv, rr, _⟩ := lstI_rd r s h1
  have e := rr.bls
  subst e
  exact ⟨a, bs, rfl, .inl (.inl hv), k.bl s h2⟩⟩

/-! ### list, tuple, str, int -/
def dList (x : D) (S : Sto) (q : DK) : Prop := ∃ ds, seqI S x = some ds ∧ ∀ p, S p = none → q (.ref p) (up S p (.lst ds))
theorem c_list : CallD X (.type "list") (only1 dList) := ⟨_, call_list_of, OpN.one fun d v H S q Q r s ⟨ds, h1, h2⟩ k => by
  obtain ⟨a, vs, rfl, hq, rr⟩ := seqI_rd r s h1
  exact ⟨a, vs, rfl, hq, k.newL s rr h2⟩⟩
def dTuple (x : D) (S : Sto) (q : DK) : Prop := match x with
  | .tup ds => q (.tup ds) S
  | x => ∃ ds, seqI S x = some ds ∧ q (.tup ds) S
theorem c_tuple : CallD X (.type "tuple") (only1 dTuple) := .raw1 fun pins s σ H d v u S q Q I ru r rs h k => by
  have key : ∀ ds a vs, u = .ref a → SqL X.K H a vs → RDs X.K H ds vs → q (.tup ds) S → wpAny (model X.prog X.w) X.A (call (.type "tuple") [u]) (EP X pins σ Q) X.xe s := fun ds a vs e hq rr hh => by
    subst e
    obtain ⟨its, r', pl, hz⟩ := I.list hq
    have hlen := r'.length
    refine call_tuple_list pl.isList (fun h' kp => ?_) (by simp only [List.size_toArray] <;> omega)
    exact newT_ok (I.kept (t' := s.toks) kp) r' (k.newT rs rr hz hh) (t' := s.toks)
  cases d with
  | tup ds =>
    obtain ⟨a, vs, rfl, tt, rr⟩ := rd_tup r
    cases ru
    obtain ⟨its, r', pl, hz⟩ := I.tuple tt.sq
    exact call_tuple_same pl ⟨.ref a, H, I, rfl, k.here rs r h⟩
  | ref b =>
    obtain ⟨ds, h1, h2⟩ := h
    obtain ⟨a, vs, rfl, hv, rr, _⟩ := lstI_rd r rs (show lstI S (.ref b) = some ds from h1)
    cases ru
    exact key ds a vs rfl (.inl (.inl hv)) rr h2
  | scr ns =>
    obtain ⟨ds, h1, h2⟩ := h
    cases h1
    obtain ⟨a, rfl, qq⟩ := rd_scr r
    cases ru
    exact key _ a _ rfl qq.sq (RDs.ofInts ns) h2
  | _ => obtain ⟨ds, h1, h2⟩ := h; cases h1
def dStr (x : D) (S : Sto) (q : DK) : Prop := match x with
  | .int i => i.natAbs.log2 < 1920 ∧ q (.str (toString i)) S
  | _ => False
theorem c_str : CallD X (.type "str") (only1 dStr) := ⟨_, call_str_int, OpN.one fun d v H S q Q r s h k => by
  cases d with
  | int i => exact ⟨i, by rw [rd_int r], h.1, k.str s h.2⟩
  | _ => exact h.elim⟩
def dInt (x : D) (S : Sto) (q : DK) : Prop := match x with
  | .int i => q (.int i) S
  | .bl b => q (.int (if b then 1 else 0)) S
  | .str a => ∃ n, PySem.intText? a = some n ∧ a.length ≤ 640 ∧ q (.int n) S
  | _ => False
theorem c_int : CallD X (.type "int") (only1 dInt) := ⟨_, call_int1.or call_int_str, OpN.one fun d v H S q Q r s h k => by
  cases d with
  | int i => exact .inl (.inl ⟨i, by rw [rd_int r], k.int s h⟩)
  | bl b => exact .inl (.inr ⟨b, by rw [rd_bl r], k.int s h⟩)
  | str a => obtain ⟨n, h1, h2, h3⟩ := h; exact .inr ⟨a, n, by rw [rd_str r], h1, h2, k.int s h3⟩
  | _ => exact h.elim⟩

/-! ### repr of data -/
theorem py_noDict {S : Sto} : ∀ {n : Nat} {d : D} {p : PyData}, py S n d = some p → p.hasDict = false := by
  intro n
  have all : ∀ {ps : List PyData}, (∀ p ∈ ps, p.hasDict = false) → PyData.hasDictAll ps = false := by
    intro ps
    induction ps with
    | nil => intro _; simp [PyData.hasDictAll]
    | cons p ps ih => intro h; simp [PyData.hasDictAll, h p (by simp), ih fun q hq => h q (List.mem_cons_of_mem _ hq)]
  induction n with
  | zero =>
    intro d p h
    cases d with
    | str x => simp only [py] at h; split at h <;> simp at h; subst h; simp [PyData.hasDict]
    | _ => simp [py] at h <;> subst h <;> simp [PyData.hasDict]
  | succ n ih =>
    intro d p h
    cases d with
    | tup xs =>
      simp only [py] at h
      cases e : pyAll (py S n) xs with
      | none => rw [e] at h; simp at h
      | some ps => rw [e] at h; simp at h; subst h; simp only [PyData.hasDict]; exact all fun q hq => let ⟨d', _, h2⟩ := pyAll_mem e q hq; ih h2
    | ref a =>
      simp only [py] at h
      cases ea : S a with
      | none => rw [ea] at h; simp at h
      | some o =>
        rw [ea] at h
        cases o with
        | lst xs =>
          simp only at h
          cases e : pyAll (py S n) xs with
          | none => rw [e] at h; simp at h
          | some ps => rw [e] at h; simp at h; subst h; simp only [PyData.hasDict]; exact all fun q hq => let ⟨d', _, h2⟩ := pyAll_mem e q hq; ih h2
        | _ => simp at h
    | scr ns => simp [py] at h; subst h; simp only [PyData.hasDict]; exact all fun q hq => by obtain ⟨i, _, rfl⟩ := List.mem_map.mp hq; simp [PyData.hasDict]
    | str x => simp only [py] at h; split at h <;> simp at h; subst h; simp [PyData.hasDict]
    | _ => simp [py] at h <;> subst h <;> simp [PyData.hasDict]
def isRef : D → Bool
  | .tup _ => true
  | .ref _ => true
  | .scr _ => true
  | _ => false
def dRepr (x : D) (S : Sto) (q : DK) : Prop := isRef x = true ∧ ∃ p, py S 8 x = some p ∧ p.showable = true ∧ p.shown.length ≤ sizeLine ∧ q (.str p.shown) S
theorem c_repr (hu : X.A.units + 66 < cLine) (hg : X.A.guards = some []) : CallD X (.builtin "repr") (only1 dRepr) := .raw1 fun pins s σ H d v u S q Q I ru r rs ⟨hi, p, h1, h2, h3, h4⟩ k => by
  obtain ⟨as, rd⟩ := Dp.reads I p v u (py_dp rs 8 d v p h1 r) ru
  have hd := (py_ok h1).2
  obtain ⟨a, rfl⟩ : ∃ a, v = .ref a := by
    cases d with
    | tup ds => obtain ⟨a, vs, rfl, _⟩ := rd_tup r; exact ⟨a, rfl⟩
    | ref b => exact ⟨b, rd_ref r⟩
    | scr ns => obtain ⟨a, rfl, _⟩ := rd_scr r; exact ⟨a, rfl⟩
    | _ => cases hi
  cases ru
  exact repr_of_reads' rd h2 (fun z => by rw [py_noDict h1] at z; cases z) hg (by omega) (fun _ _ e => e) (fun h' t tk hk => ⟨.str p.shown, H, I.kept hk, ⟨t, rfl⟩, k.str rs h4⟩) h3
end
end C2

/-! Methods of what is built in; isinstance. -/
namespace C2
open PySem PySem.Spec PyProof.Rows L2
/-- the kind of a value that has built-in methods -/
inductive Ty where
  | str | list | tuple | dict
deriving DecidableEq
def Ty.nm : Ty → String
  | .str => "str" | .list => "list" | .tuple => "tuple" | .dict => "dict"
def isIntD : D → Bool
  | .int _ => true
  | _ => false
def kindOf (x : D) (S : Sto) : Option Ty := match x with
  | .str _ => some .str
  | .tup ds => if ds.all isIntD = true then none else some .tuple
  | .ref a => match S a with
    | some (.lst _) => some .list
    | some (.dT _) => some .dict
    | some (.dI _) => some .dict
    | _ => none
  | _ => none
section
variable {X : Cx} {W : WX}
theorem rds_ints {K : PySem.W.Frag} {H : Hp} : ∀ {ds : List D} {vs : List V}, RDs K H ds vs → vs.all isI = ds.all isIntD
  | [], vs, r => by unfold RDs at r; subst r; rfl
  | d :: ds, vs, r => by
    unfold RDs at r
    obtain ⟨v, ws, rfl, r1, r2⟩ := r
    rw [List.all_cons, List.all_cons, rds_ints r2]
    congr 1
    cases d with
    | non => rw [rd_non r1]; rfl
    | bl b => rw [rd_bl r1]; rfl
    | int b => rw [rd_int r1]; rfl
    | str b => rw [rd_str r1]; rfl
    | ref b => rw [rd_ref r1]; rfl
    | cls c => unfold RD at r1; rw [r1]; rfl
    | tup ds => obtain ⟨a, vs, rfl, _⟩ := rd_tup r1; rfl
    | scr ds => obtain ⟨a, rfl, _⟩ := rd_scr r1; rfl
/-- the value's type, as the call of a method asks for it -/
theorem kind_is {pins : List (Addr × Obj)} {σ : L2.St} {H : Hp} {s : Shared} {S : Sto} {d : D} {v : V} {u : Value} {T : Ty} (I : Inv X pins σ H s) (ru : RelV v u) (r : RD X.K H d v) (rs : RS X.K H S) (h : kindOf d S = some T) :
    s.TypeIs u T.nm ∧ ∀ a, u = .ref a → ∃ ob, s.heap.get? a = some ob ∧ ob.dict = none := by
  have via : ∀ T', tyV X.K T' v H → s.TypeIs u T' ∧ ∀ a, u = .ref a → ∃ ob, s.heap.get? a = some ob ∧ ob.dict = none := fun T' ty => tyV_is I ru ty
  cases d with
  | str x =>
    simp only [kindOf, Option.some.injEq] at h; subst h
    refine via "str" ?_
    rw [rd_str r]
    show "str" = "str"
    rfl
  | tup ds =>
    simp only [kindOf] at h
    split at h
    · cases h
    · rename_i c
      simp only [Option.some.injEq] at h; subst h
      obtain ⟨a, vs, rfl, tt, rr⟩ := rd_tup r
      cases ru
      unfold TupT at tt
      rw [rds_ints rr, if_neg c] at tt
      obtain ⟨o, ht, hd⟩ := tt
      obtain ⟨h0, _, its, rv, o', h1, h2, n, h3⟩ := (show ObjOk X.prog X.w H s.heap a (.frz o (.tup vs)) from I.hok a _ ht)
      rw [h0] at h1; cases h1
      exact ⟨⟨o, h0, h2⟩, fun b e => by cases e; exact ⟨o, h0, hd⟩⟩
  | ref a =>
    simp only [kindOf] at h
    cases e : S a with
    | none => rw [e] at h; cases h
    | some ob =>
      rw [e] at h
      have q := rs a ob e
      cases ob with
      | lst ds =>
        simp only [Option.some.injEq] at h; subst h
        obtain ⟨vs, hv, _⟩ := q
        refine via "list" ?_
        rw [rd_ref r]
        exact .inl ⟨rfl, vs, .inl (.inl hv)⟩
      | dT kvs =>
        simp only [Option.some.injEq] at h; subst h
        obtain ⟨gs, hv, _⟩ := q
        refine via "dict" ?_
        rw [rd_ref r]
        exact .inr (.inr (.inl ⟨rfl, .inr ⟨gs, hv⟩⟩))
      | dI kvs =>
        simp only [Option.some.injEq] at h; subst h
        obtain ⟨gs, hv, _⟩ := q
        refine via "dict" ?_
        rw [rd_ref r]
        exact .inr (.inr (.inl ⟨rfl, .inl ⟨gs, hv⟩⟩))
      | ins c fs => cases h
  | _ => cases h
/-- a method of a built-in kind, what it does -/
structure BM (X : Cx) (T : Ty) (name : Str) (f : D → List D → Sto → DK → Prop) : Prop where
  run : ∃ id, PlainAttrs T.nm ∧ Slot T.nm name id ∧ typeOf (.builtin id) = pure (.type "method_descriptor") ∧
    ∀ (pins : List (Addr × Obj)) (s : Shared) (σ : L2.St) (H : Hp) (d : D) (ds : List D) (v : V) (vs : List V) (u : Value) (us : List Value) (S : Sto) (q : DK) (Q : VK), Inv X pins σ H s → RelV v u → Vals vs us → RD X.K H d v → RDs X.K H ds vs → RS X.K H S → f d ds S q → KOk X.K S H q Q →
      wpAny (model X.prog X.w) X.A (call (.builtin id) (u :: us)) (EP X pins σ Q) X.xe s
theorem BM.of {T : Ty} {name : Str} {id : String} {r : V → List V → Hp → VK → Prop} {f : D → List D → Sto → DK → Prop} (pa : PlainAttrs T.nm) (sl : Slot T.nm name id) (ty : typeOf (.builtin id) = pure (.type "method_descriptor")) (hm : MtR X id r)
    (h : ∀ (d : D) (ds : List D) (v : V) (vs : List V) (H : Hp) (S : Sto) (q : DK) (Q : VK), RD X.K H d v → RDs X.K H ds vs → RS X.K H S → f d ds S q → KOk X.K S H q Q → r v vs H Q) : BM X T name f :=
  ⟨id, pa, sl, ty, fun pins s σ H d ds v vs u us S q Q I ru rus r rr rs hf k => hm pins s σ H v vs u us Q I ru rus (h d ds v vs H S q Q r rr rs hf k)⟩
/-- o.m(..): its kind must have such a method (tab) -/
def eBm (tab : Ty → Option (D → List D → Sto → DK → Prop)) (o : DE) (t : DA) : DE := fun R env S q => o R env S fun x S1 => match kindOf x S1 with
  | some T => match tab T with
    | some f => t R env S1 fun xs S2 => f x xs S2 q
    | none => False
  | none => False
theorem d_bm0 {tab : Ty → Option (D → List D → Sto → DK → Prop)} {o : Expr} {name : Str} {apos cpos : Pos} {to : DE} (hb : ∀ T f, tab T = some f → BM X T name f) (ho : PEd X W o to)
    (hbase : attributeBase o name X.env (eval o X.env) = eval o X.env) (hline : (apos.endLine == cpos.line) = true) : PEd X W (.Call (.Attribute o name apos) [] [] cpos) (eBm tab to aNil) := by
  refine ⟨fun pins s σ H Q I ⟨R, env, S, q, e, rs, h, x, k⟩ => ?_⟩
  refine wpAny_Call_method0_late hbase hline (thn (ho.run pins s σ H (fun y H1 => ∃ d S1 T f, RD X.K H1 d y ∧ RS X.K H1 S1 ∧ kindOf d S1 = some T ∧ tab T = some f ∧ f d [] S1 q ∧ KOk X.K S1 H1 q Q) I ⟨R, env, S, _, e, rs, h, x, fun d1 S1 v1 H1 t1 r1 s1 h1 => ?_⟩) fun v s1 ⟨y, H1, I1, ry, d, S1, T, f, rd, r1, hk, ht, hf, kk⟩ => ?_)
  · cases hk : kindOf d1 S1 with
    | none => simp only [hk] at h1
    | some T =>
      simp only [hk] at h1
      cases ht : tab T with
      | none => simp only [ht] at h1
      | some f => simp only [ht] at h1; exact ⟨d1, S1, T, f, r1, s1, hk, ht, h1, k.mono t1⟩
  · obtain ⟨id, pa, slot, hty, run⟩ := (hb T f ht).run
    obtain ⟨z1, z2⟩ := kind_is I1 ry rd r1 hk
    exact ⟨T.nm, id, pa, slot, hty, z1, z2, Calls.callWith_builtin rfl (PySem.evalArgs_none (run pins s1 σ H1 d [] y [] v [] S1 q Q I1 ry .nil rd RDs.nil r1 hf kk))⟩
theorem d_bm1 {tab : Ty → Option (D → List D → Sto → DK → Prop)} {o a : Expr} {es : List Expr} {name : Str} {apos cpos : Pos} {to : DE} {t : DA} (hb : ∀ T f, tab T = some f → BM X T name f) (ho : PEd X W o to) (ha : PAd X W (a :: es) t)
    (hbase : attributeBase o name X.env (eval o X.env) = eval o X.env) (hline : (apos.endLine == cpos.line) = true)
    (hfew : ((backTo cpos (starEach (a :: es) X.env)).all (fun x => !x.1) && (backToKw cpos (keywordEach [] X.env)).all (fun x => x.1.isSome)
      && decide ((a :: es).length + ([] : List Keyword).length + (if ([] : List Keyword).isEmpty then 0 else 1) < 30)) = true)
    (hs : starEach (a :: es) X.env = (false, eval a X.env) :: starEach es X.env) (hplain : (backTo cpos (starEach es X.env)).any (·.1) = false) :
    PEd X W (.Call (.Attribute o name apos) (a :: es) [] cpos) (eBm tab to t) := by
  refine ⟨fun pins s σ H Q I ⟨R, env, S, q, e, rs, h, x, k⟩ => ?_⟩
  refine wpAny_Call_method_late hbase hfew hline rfl (thn (ho.run pins s σ H (fun y H1 => ∃ d S1 T f, RD X.K H1 d y ∧ RS X.K H1 S1 ∧ kindOf d S1 = some T ∧ tab T = some f ∧ (t R env S1 fun xs S2 => f d xs S2 q) ∧ Stp S H S1 H1) I ⟨R, env, S, _, e, rs, h, x, fun d1 S1 v1 H1 t1 r1 s1 h1 => ?_⟩) fun v s1 ⟨y, H1, I1, ry, d, S1, T, f, rd, r1, hk, ht, hf, st⟩ => ?_)
  · cases hk : kindOf d1 S1 with
    | none => simp only [hk] at h1
    | some T =>
      simp only [hk] at h1
      cases ht : tab T with
      | none => simp only [ht] at h1
      | some f => simp only [ht] at h1; exact ⟨d1, S1, T, f, r1, s1, hk, ht, h1, t1⟩
  · obtain ⟨id, pa, slot, hty, run⟩ := (hb T f ht).run
    obtain ⟨z1, z2⟩ := kind_is I1 ry rd r1 hk
    refine ⟨T.nm, id, pa, slot, hty, z1, z2, ?_⟩
    have hA := ha.run cpos pins s1 σ H1 (fun vs H2 => ∃ ds S2, RDs X.K H2 ds vs ∧ RD X.K H2 d y ∧ RS X.K H2 S2 ∧ f d ds S2 q ∧ KOk X.K S2 H2 q Q) I1 ⟨R, env, S1, _, e.mono st.t, r1, hf, x.mono st, fun ds S2 vs H2 t2 r2 s2 h2 => ⟨ds, S2, r2, rd.mono t2.t, s2, h2, k.mono (st.trans t2)⟩⟩
    rw [hs] at hA ⊢
    refine Calls.callWith_builtin (by show (false || (backTo cpos (starEach es X.env)).any (·.1)) = false; rw [hplain] <;> rfl) (Calls.evalArgs_plain ?_)
    exact thn hA fun us s2 ⟨vs, H2, I2, r2, ds, S2, rr, rd2, rs2, hf2, kk⟩ => run pins s2 σ H2 d ds y vs v us S2 q Q I2 ry r2 rd2 rr rs2 hf2 kk

/-! ### lists -/
def mApp (x : D) (xs : List D) (S : Sto) (q : DK) : Prop := match x, xs with
  | .ref a, [d] => ∃ ds, S a = some (.lst ds) ∧ ds.length < sizeLine ∧ q .non (up S a (.lst (ds ++ [d])))
  | _, _ => False
theorem put_lst {K : PySem.W.Frag} {S : Sto} {H : Hp} {q : DK} {Q : VK} {a : Addr} {ds es : List D} {vs ws : List V} {d : D} {v : V} (k : KOk K S H q Q) (s : RS K H S) (ha : S a = some (.lst ds)) (hv : H a = some (.lst vs)) (r : RDs K H es ws) (rd : RD K H d v) (h : q d (up S a (.lst es))) : Q v (upd H a (.lst ws)) := by
  have t : Tle H (upd H a (.lst ws)) := Tle.put hv trivial
  exact k d _ v _ (Stp.put (o := .lst es) ha hv trivial) (rd.mono t) (s.put hv trivial (show RelOb _ _ _ _ (.lst es) from ⟨ws, upd_same, r.mono t⟩)) h
theorem b_append : BM X .list "append" mApp := .of PySem.F.plainAttrs_list PySem.F.slot_list_append PySem.F.type_list_append mt_append fun d ds v vs H S q Q r rr s h k => by
  match d, ds, h with
  | .ref a, [e], ⟨xs, ha, hl, h⟩ =>
    obtain ⟨w, rfl, r1⟩ := rds1 rr
    obtain ⟨us, hv, ru⟩ := s a _ ha
    exact ⟨a, us, w, rd_ref r, rfl, hv, by rw [← ru.length]; exact hl, put_lst k s ha hv (ru.append (.one r1)) (by unfold RD; rfl) h⟩
def mExt (x : D) (xs : List D) (S : Sto) (q : DK) : Prop := match x, xs with
  | .ref a, [.ref b] => ∃ ds es, S a = some (.lst ds) ∧ S b = some (.lst es) ∧ ds.length + es.length ≤ sizeLine ∧ q .non (up S a (.lst (ds ++ es)))
  | _, _ => False
theorem b_extend : BM X .list "extend" mExt := .of PySem.F.plainAttrs_list PySem.F.slot_list_extend PySem.F.type_list_extend mt_extend fun d ds v vs H S q Q r rr s h k => by
  match d, ds, h with
  | .ref a, [.ref b], ⟨xs, ys, ha, hb, hl, h⟩ =>
    obtain ⟨w, rfl, r1⟩ := rds1 rr
    obtain ⟨us, hv, ru⟩ := s a _ ha
    obtain ⟨ws, hw, rw'⟩ := s b _ hb
    exact ⟨a, b, us, ws, rd_ref r, by rw [rd_ref r1], hv, hw, by rw [← ru.length, ← rw'.length]; exact hl, put_lst k s ha hv (ru.append rw') (by unfold RD; rfl) h⟩
/-- l.pop(i), its place known -/
def rPopAt2 : V → List V → Hp → VK → Prop := fun x vs H Q => ∃ l xs i k y, x = .ref l ∧ vs = [.int i] ∧ H l = some (.lst xs) ∧ (seqIndex? i xs.length = some k ∧ -(xs.length : Int) ≤ i ∧ i < xs.length) ∧ xs[k]? = some y ∧ Q y (upd H l (.lst (xs.eraseIdx k)))
theorem mt_popAt2 : MtR X "list.pop" rPopAt2 := by
  intro pins s σ H x xs v us Q I rx rs ⟨l, ys, i, n, y, e1, e2, hl, ⟨h1, h2, h3⟩, hy, hq⟩
  have hz := (I.lstM hl).1
  have h63 := line63
  exact mt_popAt pins s σ H x xs v us Q I rx rs ⟨l, ys, i, n, y, e1, e2, hl, by omega, by omega, h1, hy, hq⟩
def mPop (x : D) (xs : List D) (S : Sto) (q : DK) : Prop := match x, xs with
  | .ref a, [] => ∃ ds d, S a = some (.lst (ds ++ [d])) ∧ q d (up S a (.lst ds))
  | .ref a, [.int i] => ∃ ds k d, S a = some (.lst ds) ∧ ixN ds.length i = some k ∧ ds[k]? = some d ∧ q d (up S a (.lst (ds.eraseIdx k)))
  | _, _ => False
theorem b_pop : BM X .list "pop" mPop := .of PySem.F.plainAttrs_list PySem.F.slot_list_pop PySem.F.type_list_pop (MtR.or mt_pop mt_popAt2) fun d ds v vs H S q Q r rr s h k => by
  match d, ds, h with
  | .ref a, [], ⟨xs, e, ha, h⟩ =>
    have e0 := rds0 rr
    subst e0
    obtain ⟨us, hv, ru⟩ := s a _ ha
    have hl := ru.length
    rw [List.length_append] at hl
    obtain ⟨w, hw, rw'⟩ := ru.get (i := xs.length) (d := e) (by simp)
    refine .inl ⟨a, us, w, rd_ref r, rfl, hv, by rw [show us.length - 1 = xs.length by simp at hl; omega]; exact hw, ?_⟩
    have e1 : us.dropLast = us.take xs.length := by rw [List.dropLast_eq_take]; congr 1; simp at hl; omega
    have r2 : RDs X.K H xs us.dropLast := by
      rw [e1]
      have := ru.take xs.length
      rwa [List.take_left] at this
    exact put_lst k s ha hv r2 rw' h
  | .ref a, [.int i], ⟨xs, n, e, ha, hi, he, h⟩ =>
    obtain ⟨w, rfl, r1⟩ := rds1 rr
    obtain ⟨us, hv, ru⟩ := s a _ ha
    obtain ⟨w, hw, rw'⟩ := ru.get he
    obtain ⟨z1, z2, z3, z4⟩ := ixN_seq hi
    exact .inr ⟨a, us, i, n, w, rd_ref r, by rw [rd_int r1], hv, by rw [← ru.length]; exact ⟨z1, z3, z4⟩, hw, put_lst k s ha hv (ru.eraseIdx n) rw' h⟩

/-! ### texts -/
def strsI (S : Sto) (x : D) (ys : List Str) : Prop := seqI S x = some (ys.map .str)
def mJoin (x : D) (xs : List D) (S : Sto) (q : DK) : Prop := match x, xs with
  | .str a, [l] => ∃ ys : List Str, seqI S l = some (ys.map .str) ∧ (ys.map (·.length)).sum + ys.length * a.length ≤ 16777216 ∧ q (.str (Txt.join a ys)) S
  | _, _ => False
theorem b_join : BM X .str "join" mJoin := .of PySem.F.plainAttrs_str PySem.F.slot_str_join PySem.F.type_str_join mt_join fun d ds v vs H S q Q r rr s h k => by
  match d, ds, h with
  | .str a, [l], ⟨ys, h1, h2, h3⟩ =>
    obtain ⟨w, rfl, r1⟩ := rds1 rr
    obtain ⟨p, us, rfl, hq, ru⟩ := seqI_rd r1 s h1
    have e := ru.strs
    subst e
    exact ⟨a, p, ys, rd_str r, rfl, hq, h2, k.str s h3⟩
def mSplit (x : D) (xs : List D) (S : Sto) (q : DK) : Prop := match x, xs with
  | .str a, [.str b] => (b.length == 0) = false ∧ a.length + 2 ≤ sizeLine ∧ ∀ p, S p = none → q (.ref p) (up S p (.lst ((Txt.split a b).map .str)))
  | _, _ => False
theorem RDs.ofStrs {K : PySem.W.Frag} {H : Hp} : ∀ (ns : List Str), RDs K H (ns.map D.str) (ns.map V.str)
  | [] => RDs.nil
  | _ :: ns => RDs.cons (by unfold RD; rfl) (RDs.ofStrs ns)
theorem b_split : BM X .str "split" mSplit := .of PySem.F.plainAttrs_str PySem.F.slot_str_split PySem.F.type_str_split mt_split fun d ds v vs H S q Q r rr s h k => by
  match d, ds, h with
  | .str a, [.str b], ⟨h1, h2, h3⟩ =>
    obtain ⟨w, rfl, r1⟩ := rds1 rr
    exact ⟨a, b, rd_str r, by rw [rd_str r1], h1, h2, fun p hp => k.newL s (RDs.ofStrs _) h3 p hp⟩
def mStarts (x : D) (xs : List D) (S : Sto) (q : DK) : Prop := match x, xs with
  | .str a, [.str b] => q (.bl (Txt.startswith a b)) S
  | _, _ => False
theorem b_startswith : BM X .str "startswith" mStarts := .of PySem.F.plainAttrs_str PySem.F.slot_str_startswith PySem.F.type_str_startswith mt_startswith fun d ds v vs H S q Q r rr s h k => by
  match d, ds, h with
  | .str a, [.str b], h =>
    obtain ⟨w, rfl, r1⟩ := rds1 rr
    exact ⟨a, b, rd_str r, by rw [rd_str r1], k.bl s h⟩
def mEnds (x : D) (xs : List D) (S : Sto) (q : DK) : Prop := match x, xs with
  | .str a, [.str b] => q (.bl (Txt.endswith a b)) S
  | _, _ => False
theorem b_endswith : BM X .str "endswith" mEnds := .of PySem.F.plainAttrs_str PySem.F.slot_str_endswith PySem.F.type_str_endswith mt_endswith fun d ds v vs H S q Q r rr s h k => by
  match d, ds, h with
  | .str a, [.str b], h =>
    obtain ⟨w, rfl, r1⟩ := rds1 rr
    exact ⟨a, b, rd_str r, by rw [rd_str r1], k.bl s h⟩
/-! ### l.count(x), t.count(x) -/
theorem count_run {pins : List (Addr × Obj)} {s : Shared} {σ : L2.St} {H : Hp} {ps : List PyData} {d : PyData} {v y : V} {u w : Value} {S : Sto} {x yd : D} {q : DK} {Q : VK} {lst : Bool} (hu : X.A.units + 66 < cLine) (I : Inv X pins σ H s) (ru : RelV v u) (rw' : RelV y w) (rs : RS X.K H S) (r : RD X.K H x v) (ry : RD X.K H yd y)
    (h1 : py S 8 x = some (if lst = true then .list ps else .tuple ps)) (h2 : py S 8 yd = some d) (h3 : q (.int ((ps.countP fun z => PyData.eqv z d : Nat) : Int)) S) (k : KOk X.K S H q Q) :
    wpAny (model X.prog X.w) X.A (call (.builtin (if lst = true then "list.count" else "tuple.count")) [u, w]) (EP X pins σ Q) X.xe s := by
  obtain ⟨as, ra⟩ := Dp.reads I _ v u (py_dp rs 8 x v _ h1 r) ru
  obtain ⟨bs, rb⟩ := Dp.reads I d y w (py_dp rs 8 yd y d h2 ry) rw'
  have sd := py_shaped h2
  have hd := PyData.plain_of_canLay0 d (py_ok h2).1
  have fin : EP X pins σ Q (.int ((ps.countP fun z => PyData.eqv z d : Nat) : Int) s.toks) { s with toks := s.toks + 1 } := ⟨.int _, H, I.tok _, ⟨_, rfl⟩, k.int rs h3⟩
  have hl := (py_ok h1).1
  cases lst with
  | true =>
    simp only [if_true] at ra hl ⊢
    have hps := PyData.plain_of_canLay0 _ hl
    cases ra with
    | list ho hc hdt hr =>
      rename_i a o vs n as'
      exact PySem.SeqAt.count_list_data (vs := vs) ⟨o, ho, hc, n, hdt⟩ hr rb (by simpa [PyData.plain] using hps) hd (by have := shaped_depth sd; omega) fin
  | false =>
    simp only [Bool.false_eq_true, if_false] at ra hl ⊢
    have hps := PyData.plain_of_canLay0 _ hl
    cases ra with
    | tuple ho hc hdt hr =>
      rename_i a o vs n
      exact PySem.SeqAt.count_tuple_data (vs := vs) ⟨o, ho, hc, n, hdt⟩ hr rb (by simpa [PyData.plain] using hps) hd (by have := shaped_depth sd; omega) fin
def mCountL (x : D) (xs : List D) (S : Sto) (q : DK) : Prop := match xs with
  | [y] => ∃ ps d, py S 8 x = some (.list ps) ∧ py S 8 y = some d ∧ q (.int ((ps.countP fun z => PyData.eqv z d : Nat) : Int)) S
  | _ => False
def mCountT (x : D) (xs : List D) (S : Sto) (q : DK) : Prop := match xs with
  | [y] => ∃ ps d, py S 8 x = some (.tuple ps) ∧ py S 8 y = some d ∧ q (.int ((ps.countP fun z => PyData.eqv z d : Nat) : Int)) S
  | _ => False
theorem b_countL (hu : X.A.units + 66 < cLine) : BM X .list "count" mCountL := ⟨"list.count", PySem.F.plainAttrs_list, PySem.F.slot_list_count, PySem.F.type_list_count, fun pins s σ H d ds v vs u us S q Q I ru rus r rr rs hf k => by
  match ds, hf with
  | [y], ⟨ps, d', h1, h2, h3⟩ =>
    obtain ⟨w, rfl, r1⟩ := rds1 rr
    obtain ⟨z, rfl, rz⟩ := vals1 rus
    exact count_run (lst := true) hu I ru rz rs r r1 h1 h2 h3 k⟩
theorem b_countT (hu : X.A.units + 66 < cLine) : BM X .tuple "count" mCountT := ⟨"tuple.count", PySem.F.plainAttrs_tuple, PySem.F.slot_tuple_count, PySem.F.type_tuple_count, fun pins s σ H d ds v vs u us S q Q I ru rus r rr rs hf k => by
  match ds, hf with
  | [y], ⟨ps, d', h1, h2, h3⟩ =>
    obtain ⟨w, rfl, r1⟩ := rds1 rr
    obtain ⟨z, rfl, rz⟩ := vals1 rus
    exact count_run (lst := false) hu I ru rz rs r r1 h1 h2 h3 k⟩
end
end C2

/-! Own functions: promises with what is known of the guards; calls. -/
namespace C2
open PySem PySem.Spec PyProof.Rows L2
/-- a promise by positional values; g: no repr is under way where it is called -/
def FnG (P : Program) (w : World) (K : PySem.W.Frag) (mg : Str → Option Value) (base : Heap) (g : Bool) (k : Nat) (f : Addr) (sp : Sp) : Prop :=
  ∀ (A : Around) (outer : List PySem.Env) (s : Shared) (H : Hp) (us : List Value) (vs : List V) (Q : VK) (E : XK), Room k A → (g = true → A.guards = some []) → Env0 P w K mg base A outer s H → Vals vs us → sp vs H Q E →
    codeAny (model P w) A (.call (.ref f) ⟨us, []⟩) (CR (L2.CX P w) outer P w H s Q E) s
section
variable {P : Program} {w : World} {K : PySem.W.Frag} {mg : Str → Option Value} {base : Heap} {k : Nat} {f : Addr} {sp : Sp} {g : Bool}
theorem FnG.fnR (F : FnG P w K mg base false k f sp) : FnR P w K mg base (L2.CX P w) k f sp := fun A outer s H us vs Q E hr e0 r hs => F A outer s H us vs Q E hr (fun z => nomatch z) e0 r hs
theorem FnG.up (F : FnG P w K mg base false k f sp) : FnG P w K mg base g k f sp := fun A outer s H us vs Q E hr _ e0 r hs => F A outer s H us vs Q E hr (fun z => nomatch z) e0 r hs
theorem FnG.mono {j : Nat} (F : FnG P w K mg base g j f sp) (h : j ≤ k) : FnG P w K mg base g k f sp := fun A outer s H us vs Q E hr => F A outer s H us vs Q E (hr.mono h)
theorem guards_deeper (A : Around) (env : PySem.Env) : (A.deeper env).guards = A.guards := by
  cases e : A.guards <;> simp [Around.deeper, Around.under, e, pushGuards, Code.guards, Code.isGuard]
/-- a def keeps its promise: from its body -/
theorem fnG_of {x qual : Str} {params : Arguments} {body : List Stmt} {scope : Scope} {dvs : List V} {kws : List (Str × V)} {fd : FuncData} {N ps : List Str} {ds : List Value} (F : FunD K x qual params body scope dvs kws f fd) (S : FnScope N ps scope) (hb : Binds K fd ps ds) (hd : Vals dvs ds)
    (len : ∀ vs H Q E, sp vs H Q E → (vs ++ dvs).length = ps.length)
    (hbody : ∀ (cdv : Value) (A : Around) (outer : List PySem.Env) (s : Shared) (H : Hp) (vs : List V) (Q : VK) (E : XK), Room k (A.deeper (envOfC qual scope s.heap.objs.size f cdv)) → (g = true → (A.deeper (envOfC qual scope s.heap.objs.size f cdv)).guards = some []) → sp vs H Q E →
      ∃ t, PSs (cxOf (L2.CX P w) P w K mg base N qual scope f cdv A outer s H E) body t ∧ t { nx := fun _ H' => Q .non H', rt := Q } (start N (vs ++ dvs)) H) : FnG P w K mg base g (k + 1) f sp := by
  obtain ⟨oc, od, dV, kV, doc, pm, an, cdv, ct, osl, rfl, lk, hcd, _, _⟩ := F.ex
  intro A outer s H us vs Q E hr hg e0 r0 hsp
  have r : Vals (vs ++ dvs) (us ++ ds) := r0.append hd
  have hl := len _ _ _ _ hsp
  have hl' : (us ++ ds).length = ps.length := by rw [← r.length]; exact hl
  have KX : K.In s.heap := e0.mod.kin.keeps fun b o e => (e0.bs b o e).1
  have lim : s.heap.NoLimit := e0.mod.nolimit.keeps fun b o e => (e0.bs b o e).1
  have hkind : ∀ y ∈ ps.zip (us ++ ds), scope.names.lookup y.1 = some .local ∨ (scope.names.lookup y.1 = some .cell ∧ ((cellsFrom (s.heap.objs.size + 1) scope.names []).lookup y.1).isSome = true) := fun ⟨n, v⟩ hy =>
    (S.par n (List.of_mem_zip hy).1).elim .inl fun q => .inr ⟨q, PySem.W.cellsFrom_some _ _ _ (.inl q)⟩
  refine codeAny_call_function hr.depth (KX _ _ lk) rfl S.co S.gen rfl (PySem.W.codeRec_of KX hcd) (hb s us KX hl' _ _ _ _ (wpAny_newFunctionEnv_cells S.kind hkind fun env he s1 x => ?_))
  subst he
  refine ⟨lim.keeps x.toInCall.keep, codeAny_func ?_⟩
  obtain ⟨t, ht, hq⟩ := hbody cdv A outer s H vs Q E (hr.deeper _) (fun z => by rw [guards_deeper]; exact hg z) hsp
  have I := inv_start (CX := L2.CX P w) (E := E) S hr.hd e0 hl r x
  refine wpAny_mono (ht.run [] s1 (start N (vs ++ dvs)) H _ I hq) (fun fl s' hs => ?_) fun e s' hs => hs
  match fl, hs with
  | .ret u, ⟨v, σ', H', J, rv, q⟩ => exact ⟨v, H', J.os, J.bare, J.base, J.hok, rv, q⟩
  | .next, ⟨σ', H', J, q⟩ => exact ⟨V.non, H', J.os, J.bare, J.base, J.hok, rfl, q⟩
  | .brk, ⟨_, _, _, q⟩ => exact q.elim
  | .cont, ⟨_, _, _, q⟩ => exact q.elim
end
section
variable {X : Cx} {W : WX} {pins : List (Addr × Obj)} {σ : L2.St} {H : Hp} {s : Shared} {g : Bool} {k : Nat} {f : Addr} {sp : Sp}
/-- the callee runs; what it lets out is taken at the slots -/
theorem run_fnGc {E : XK} {Q : VK} {us : List Value} {vs : List V} (F : FnG X.prog X.w X.K X.mg X.base g k f sp) (hr : Room k X.A) (hg : g = true → X.A.guards = some []) (hx : PassesAt (L2.CX X.prog X.w) X σ E) (I : Inv X pins σ H s) (r : Vals vs us) (h : sp vs H Q E) :
    codeAny (model X.prog X.w) X.A (.call (.ref f) ⟨us, []⟩) (fun r s' => match r with | .ok (.ret v) => EP X pins σ Q v s' | .ok _ => False | .error e => X.xe e s') s := by
  refine codeAny_mono (F X.A X.stack s H us vs Q E hr hg I.env0 r h) fun r s' hq => ?_
  match r, hq with
  | .error e, hq => exact hx pins H s e s' I hq
  | .ok (.ret u), hq => exact I.after hq
theorem run_fnG {E : XK} {Q : VK} {us : List Value} {vs : List V} (F : FnG X.prog X.w X.K X.mg X.base g k f sp) (hr : Room k X.A) (hg : g = true → X.A.guards = some []) (hx : PassesAt (L2.CX X.prog X.w) X σ E) (I : Inv X pins σ H s) (r : Vals vs us) (h : sp vs H Q E) :
    wpAny (model X.prog X.w) X.A (call (.ref f) us) (EP X pins σ Q) X.xe s := wpAny_call (run_fnGc F hr hg hx I r h)
/-- a call's promise from the plain data's -/
theorem liftSp_mk {K : PySem.W.Frag} {W : WX} {σ : L2.St} {H : Hp} {c : List D → Sto → DK → (Exc → Sto → Prop) → Prop} {ds : List D} {vs : List V} {R : XR} {env : Env} {S : Sto} {q : DK} {Q : VK} (e : RelEnv K H env σ) (r : RDs K H ds vs) (s : RS K H S) (x : XOk K W S H R) (k : KOk K S H q Q)
    (h : c ds S q fun x S' => R x env S') : liftSp K c vs H Q (WE W σ) :=
  ⟨ds, S, q, _, r, s, h, k, fun y S' H' cls d st s' ex hr => x y env S' σ H' cls d st (e.mono st.t) s' ex hr⟩
/-- not a starred argument -/
def noStar : Expr → Bool
  | .Starred .. => false
  | _ => true
theorem starEach_cons {a : Expr} {es : List Expr} {env : PySem.Env} (h : noStar a = true) : starEach (a :: es) env = (false, eval a env) :: starEach es env := by
  cases a <;> first | rfl | cases h
theorem starEach_star {a : Expr} {p : Pos} {es : List Expr} {env : PySem.Env} : starEach (.Starred a p :: es) env = (true, eval a env) :: starEach es env := rfl
/-- f(a, ..), f kept -/
theorem callWith_any {M : Model} {A : Around} {E : Value → Shared → Prop} {s : Shared} {Q : Value → Shared → Prop} {K : PySem.W.Frag} {h₀ : Heap} {f : Value} {first : List Value} {a : Expr} {es : List Expr} {env : PySem.Env} {pos : Pos} (X : K.In h₀) (hk : PySem.W.keepIn K f = true) (hn : noStar a = true)
    (h : wpAny M A (spliced (backTo pos (starEach (a :: es) env))) (fun vs s₁ => K.In s₁.heap ∧ wpAny M A (call f (first ++ vs)) Q E s₁) E s) :
    wpAny M A (callWith pos f first (backTo pos (starEach (a :: es) env)) []) Q E s := by
  cases e : (backTo pos (starEach es env)).any (·.1) with
  | true => exact PySem.W.callWith_S2 X hk h (starEach_cons hn) e
  | false => exact PySem.W.callWith_K X hk h (starEach_cons hn) e
/-- a name's value in the text: what it stands for, always -/
structure Stands (X : Cx) (x : Str) (v : V) : Prop where
  run : ∀ (pins : List (Addr × Obj)) (s : Shared) (σ : L2.St) (H : Hp) (p : Pos) (Q : Value → Shared → Prop) (E : Value → Shared → Prop), Inv X pins σ H s → (∀ u, RelV v u → Q u s) → wpAny (model X.prog X.w) X.A (eval (.Name x p) X.env) Q E s
theorem stands_glob {x : Str} {u : Value} {v : V} (hg : Gl X x) (hm : X.mg x = some u) (r : RelV v u) (hd : (x == ("__debug__" : Str)) = false) : Stands X x v := ⟨fun pins s σ H p Q E I h => ld_glob I hg hm (h u r) hd⟩
/-- the oracle's call of a global def -/
theorem d_call {x : Str} {p pos : Pos} {a : Expr} {es : List Expr} {t : DA} {C : Orc} {key : FK} (F : FnG X.prog X.w X.K X.mg X.base g k f (liftSp X.K (C key))) (hr : Room k X.A) (hg : g = true → X.A.guards = some []) (tk : Takes X W) (hgl : Gl X x) (hm : X.mg x = some (.ref f))
    (hk : PySem.W.keepIn X.K (.ref f) = true) (hd : (x == ("__debug__" : Str)) = false) (hn : noStar a = true) (ha : PAd X W (a :: es) t) : PEd X W (.Call (.Name x p) (a :: es) [] pos) (eCall C key t) := by
  refine ⟨fun pins s σ H Q I ⟨R, env, S, q, e, rs, h, x, k⟩ => ?_⟩
  refine wpAny_Call_Name_kw (ld_glob I hgl hm ?_ hd)
  refine callWith_any (h₀ := X.base) I.ok.mod.kin hk hn (thn (ha.run pos pins s σ H (fun vs H1 => liftSp X.K (C key) vs H1 Q (WE W σ)) I ⟨R, env, S, _, e, rs, h, x, fun ds S1 vs H1 t1 r1 s1 h1 => liftSp_mk (e.mono t1.t) r1 s1 (x.mono t1) (k.mono t1) h1⟩) fun us s1 ⟨vs, H1, I1, r, q1⟩ => ⟨I1.kIn, ?_⟩)
  exact run_fnG F hr hg (passAt tk σ) I1 r q1
theorem d_call0 {x : Str} {p pos : Pos} {C : Orc} {key : FK} (F : FnG X.prog X.w X.K X.mg X.base g k f (liftSp X.K (C key))) (hr : Room k X.A) (hg : g = true → X.A.guards = some []) (tk : Takes X W) (hgl : Gl X x) (hm : X.mg x = some (.ref f))
    (hk : PySem.W.keepIn X.K (.ref f) = true) (hd : (x == ("__debug__" : Str)) = false) : PEd X W (.Call (.Name x p) [] [] pos) (eCall C key aNil) := by
  refine ⟨fun pins s σ H Q I ⟨R, env, S, q, e, rs, h, x, k⟩ => ?_⟩
  refine wpAny_Call_Name_kw (ld_glob I hgl hm ?_ hd)
  exact PySem.W.callWith_K0 I.kIn hk (run_fnG (us := []) F hr hg (passAt tk σ) I .nil (liftSp_mk e RDs.nil rs x k h))

/-! ### built-in functions -/
theorem d_bi {x : Str} {p pos : Pos} {a : Expr} {es : List Expr} {t : DA} {id : String} {den : List D → Sto → DK → Prop} (c : CallD X (.builtin id) den) (hgl : Gl X x) (hm : X.mg x = none) (hv : bootBuiltins x = some (.builtin id)) (hnm : x ≠ "__name__") (hd : (x == ("__debug__" : Str)) = false)
    (hs : starEach (a :: es) X.env = (false, eval a X.env) :: starEach es X.env) (hpl : (backTo pos (starEach es X.env)).any (·.1) = false) (ha : PAd X W (a :: es) t) : PEd X W (.Call (.Name x p) (a :: es) [] pos) (eB den t) := by
  obtain ⟨r, c, o⟩ := c
  exact PE.imp (pe_callB c hgl hm hv ha hnm hd hs hpl) fun σ H Q ⟨R, env, S, q, e, s, h, x, k⟩ => ⟨R, env, S, _, e, s, h, x, fun ds S1 vs H1 t1 r1 s1 h1 => o ds vs H1 S1 q Q r1 s1 h1 (k.mono t1)⟩
theorem d_ty {x : Str} {p pos : Pos} {a : Expr} {es : List Expr} {t : DA} {T : String} {den : List D → Sto → DK → Prop} (c : CallD X (.type T) den) (hgl : Gl X x) (hm : X.mg x = none) (hv : bootBuiltins x = some (.type T)) (hnm : x ≠ "__name__") (hd : (x == ("__debug__" : Str)) = false)
    (hs : starEach (a :: es) X.env = (false, eval a X.env) :: starEach es X.env) (hpl : (backTo pos (starEach es X.env)).any (·.1) = false) (ha : PAd X W (a :: es) t) : PEd X W (.Call (.Name x p) (a :: es) [] pos) (eB den t) := by
  obtain ⟨r, c, o⟩ := c
  exact PE.imp (pe_callTy c hgl hm hv ha hnm hd hs hpl) fun σ H Q ⟨R, env, S, q, e, s, h, x, k⟩ => ⟨R, env, S, _, e, s, h, x, fun ds S1 vs H1 t1 r1 s1 h1 => o ds vs H1 S1 q Q r1 s1 h1 (k.mono t1)⟩

/-! ### attributes, getters, makes, classmethods -/
/-- what is asked of a class's name f: nothing there; a property; else -/
inductive At where
  | fld | prop
deriving DecidableEq
/-- o.f : an instance's field or a property of its class (pr c f) -/
def eAttr (C : Orc) (pr : Str → Str → Option At) (f : Str) (o : DE) : DE := fun R env S q => o R env S fun x S1 => match x with
  | .ref a => match S1 a with
    | some (.ins c fs) => match pr c f with
      | some .fld => match fs.lookup f with
        | some d => q d S1
        | none => False
      | some .prop => C (.me c f) [x] S1 q fun _ _ => False
      | none => False
    | _ => False
  | _ => False
/-- the facts behind -/
structure AtOk (X : Cx) (C : Orc) (pr : Str → Str → Option At) (k : Nat) : Prop where
  cls : ∀ c f a, pr c f = some a → Cls X.K (He.ga X.K c)
  fld : ∀ c f, pr c f = some .fld → NoAttr X.K (He.ga X.K c) f
  prop : ∀ c f, pr c f = some .prop → ∃ p g, PropOf X.K (He.ga X.K c) f p g ∧ FnG X.prog X.w X.K X.mg X.base false k g (liftSp X.K (C (.me c f)))
theorem fs_lookup {K : PySem.W.Frag} {H : Hp} {f : Str} : ∀ {fs : List (Str × D)} {gs : List (Str × V)}, FsRel K H fs gs → (∀ d, fs.lookup f = some d → ∃ v, gs.lookup f = some v ∧ RD K H d v) ∧ (fs.lookup f = none → gs.lookup f = none)
  | [], gs, r => by unfold FsRel at r; subst r; exact ⟨fun _ h => (by cases h), fun _ => rfl⟩
  | (x, d) :: fs, gs, r => by
    unfold FsRel at r
    obtain ⟨v, hs, rfl, r1, r2⟩ := r
    rw [List.lookup_cons, List.lookup_cons]
    cases e : f == x with
    | true => exact ⟨fun d' h => ⟨v, rfl, by cases h; exact r1⟩, fun h => (by cases h)⟩
    | false => exact fs_lookup r2
/-- a getter runs -/
theorem getprop_g {Q : VK} {b : Bool} {E' : Value → Shared → Prop} {c p : Addr} {gt : Addr} {a dx : Addr} {fs : List (Str × V)} {fn : Str} {E : XK} (I : Inv X pins σ H s) (ea : H a = some (.ins c dx fs)) (cl : Cls X.K c) (hp : PropOf X.K c fn p gt)
    (F : FnG X.prog X.w X.K X.mg X.base false k gt sp) (hr : Room (k + 1) X.A) (hE : ∀ cls d H, ¬ E cls d H) (h : sp [.ref a] H Q E) : wpAny (model X.prog X.w) X.A (getAttr (.ref a) fn b) (EP X pins σ Q) E' s := by
  obtain ⟨mA, O, _, _, _, _⟩ := ins_get I.hok ea
  obtain ⟨od, J, _⟩ := O.look
  obtain ⟨rest, hrec⟩ := hp.rec_
  have I1 := I.tok (s.toks + 1)
  have hc : (PySem.W.clsIn X.K c).isSome = true := by
    obtain ⟨cd, hc, _⟩ := PySem.W.any_some cl.hd
    rw [hc]; rfl
  refine PySem.W.get_bind I.kIn J (PySem.W.plainGet_of (cl.get fn)).1 (PySem.W.findObj_data hc hp.at_ hp.get hp.tak) (PySem.W.plainGet_of (cl.get fn)).2 (wpAny_call (PySem.W.prop_get (s := { s with toks := s.toks + 1 }) I.kIn hrec ?_))
  refine codeAny_mono (F.fnR X.A.in1 X.stack { s with toks := s.toks + 1 } H [.ref a] [.ref a] Q E hr.in1 I1.env0.in1 (.cons rfl .nil) h) fun r s' hq => ?_
  match r, hq with
  | .error er, hq => obtain ⟨_, _, H', cls, d, _, _, _, _, _, _, _, hh⟩ := hq; exact (hE cls d H' hh).elim
  | .ok (.ret u), hq =>
    obtain ⟨v, H', I3, rv, q3⟩ := I1.after hq
    show wpAny _ _ (handedOut u) _ _ _
    rw [PySem.W.handedOut_of (handed_of rv)]
    exact wpAny_pure ⟨v, H', I3, rv, q3⟩
theorem d_attr {C : Orc} {pr : Str → Str → Option At} {o : Expr} {fn : Str} {pos : Pos} {to : DE} (ok : AtOk X C pr k) (hr : Room (k + 1) X.A) (hb : attributeBase o fn X.env (eval o X.env) = eval o X.env) (ho : PEd X W o to) : PEd X W (.Attribute o fn pos) (eAttr C pr fn to) := by
  refine ⟨fun pins s σ H Q I ⟨R, env, S, q, e, rs, h, x, kk⟩ => ?_⟩
  refine attr_of hb (thn (ho.run pins s σ H (fun y H1 => ∃ d S1, RD X.K H1 d y ∧ RS X.K H1 S1 ∧ eAttr C pr fn (eC d) R env S1 q ∧ KOk X.K S1 H1 q Q) I ⟨R, env, S, _, e, rs, h, x, fun d1 S1 v1 H1 t1 r1 s1 h1 => ⟨d1, S1, r1, s1, h1, kk.mono t1⟩⟩) fun u s1 ⟨y, H1, I1, ry, d, S1, rd, r1, h1, k1⟩ => ?_)
  unfold eAttr eC at h1
  cases d with
  | ref a =>
    simp only at h1
    cases es : S1 a with
    | none => rw [es] at h1; exact h1.elim
    | some ob =>
      rw [es] at h1
      cases ob with
      | ins c fs =>
        simp only at h1
        obtain ⟨dx, gs, ha, fr⟩ := r1 a _ es
        obtain rfl := rd_ref rd
        obtain rfl : u = Value.ref a := ry
        cases ep : pr c fn with
        | none => rw [ep] at h1; exact h1.elim
        | some at_ =>
          rw [ep] at h1
          cases at_ with
          | fld =>
            simp only at h1
            cases el : fs.lookup fn with
            | none => rw [el] at h1; exact h1.elim
            | some d =>
              rw [el] at h1
              obtain ⟨v, hv, rv⟩ := (fs_lookup fr).1 d el
              exact getattr_ok I1 ha (ok.cls c fn _ ep) (ok.fld c fn ep) hv fun u' s2 I2 ru => ⟨v, H1, I2, ru, k1.here r1 rv h1⟩
          | prop =>
            simp only at h1
            obtain ⟨p, gt, hp, F⟩ := ok.prop c fn ep
            exact getprop_g (E := fun _ _ _ => False) I1 ha (ok.cls c fn _ ep) hp F hr (fun _ _ _ z => z) ⟨[.ref a], S1, q, _, RDs.one rd, r1, h1, k1, fun _ _ _ _ _ _ _ _ z => z⟩
      | _ => exact h1.elim
  | _ => exact h1.elim
end
end C2

/-! Classes: what is made, methods, class methods; defs with a star; isinstance; formatted texts. -/
namespace C2
open PySem PySem.Spec PyProof.Rows L2
section
variable {X : Cx} {W : WX} {pins : List (Addr × Obj)} {σ : L2.St} {H : Hp} {s : Shared} {g : Bool} {k : Nat} {f : Addr} {sp : Sp}
/-- o.m(..) in few arguments on one line -/
theorem call_meth {M : Model} {A : Around} {E : Value → Shared → Prop} {env : PySem.Env} {o : Expr} {name : Str} {apos pos : Pos} {args : List Expr} {Q : Value → Shared → Prop} (hbase : attributeBase o name env (eval o env) = eval o env)
    (hform : methodCallForm (args.length + ([] : List Keyword).length) (backTo pos (starEach args env)) (backToKw pos (keywordEach [] env)) = true) (hline : (apos.endLine == pos.line) = true)
    (h : wpAny M A (eval o env) (fun ov s₁ => ∀ pl, wpAny M A (getMethod ov name pl) (fun fx s₂ => wpAny M A (callWith pos fx.1 fx.2 (backTo pos (starEach args env)) []) Q E s₂) E s₁) E s) : wpAny M A (eval (.Call (.Attribute o name apos) args [] pos) env) Q E s := by
  rw [arm_eval_Call, hbase]
  refine wpAny_bind (wpAny_mono h (fun ov s₁ h₁ => wpAny_bind (wpAny_standAt ?_)) fun _ _ e => e)
  have hpos : methodCallPos true o env apos pos = pure pos := by unfold methodCallPos; simp [hline]
  unfold methodCall calleeOf
  rw [hform]
  refine wpAny_bind (wpAny_holding (wpAny_mono (h₁ _) (fun fx s₂ h₂ => ?_) fun _ _ e => e))
  exact wpAny_bind (wpAny_of_eq hpos h₂)
/-- C(..) runs its __init__ -/
theorem run_mk {E : XK} {Q : VK} {c : Addr} {us : List Value} {vs : List V} (M : Mk X.K c f) (F : FnG X.prog X.w X.K X.mg X.base false k f sp) (hr : Room (k + 1) X.A) (hx : PassesAt (L2.CX X.prog X.w) X σ E) (I : Inv X pins σ H s) (r : Vals vs us)
    (h : ∀ x dx, H x = Option.none → H dx = Option.none → dx ≠ x → sp (V.ref x :: vs) (upd (upd H dx (.own x)) x (.ins c dx [])) (fun v H2 => v = .non ∧ Q (.ref x) H2) E)
    (hxx : ∀ (I2 : Inv X pins σ (upd (upd H s.heap.objs.size (.own (s.heap.objs.size + 1))) (s.heap.objs.size + 1) (.ins c s.heap.objs.size [])) { s with heap := (s.heap.push PySem.W.emptyDict).push (PySem.W.instObj c s.heap.objs.size) }) e s', L2.CX X.prog X.w X.stack (upd (upd H s.heap.objs.size (.own (s.heap.objs.size + 1))) (s.heap.objs.size + 1) (.ins c s.heap.objs.size [])) { s with heap := (s.heap.push PySem.W.emptyDict).push (PySem.W.instObj c s.heap.objs.size) } E e s' → X.xe e s') :
    wpAny (model X.prog X.w) X.A (call (.ref c) us) (EP X pins σ Q) X.xe s := by
  have hq := h (s.heap.objs.size + 1) s.heap.objs.size (I.hok.fresh (Nat.le_succ _)) (I.hok.fresh (Nat.le_refl _)) (Nat.ne_of_lt (Nat.lt_succ_self _))
  have I2 := Inv.made (C := c) I
  refine wpAny_call (make_map (f := f) I.kIn M.makes M.init (beq_iff_eq.mp M.fn) (codeAny_mono (F.fnR _ X.stack _ _ (Value.ref (s.heap.objs.size + 1) :: us) _ _ E (hr.make c us []) (I2.env0.make c us []) (.cons (show RelV (V.ref (s.heap.objs.size + 1)) _ from rfl) r) hq) fun r s' hq' => ?_))
  match r, hq' with
  | .error e, hq' => exact hxx I2 e s' hq'
  | .ok (.ret u), hq' =>
    obtain ⟨v, H', I3, rv, ev, q3⟩ := I2.after hq'
    subst ev
    exact ⟨rv, ⟨V.ref (s.heap.objs.size + 1), H', I3, rfl, q3⟩⟩
/-- C(xs) over plain data -/
def dMk (C : Orc) (c : Str) (xs : List D) (S : Sto) (q : DK) (r : Exc → Sto → Prop) : Prop := ∀ a, S a = none → C (.me c "__init__") (.ref a :: xs) (up S a (.ins c [])) (fun v S2 => v = .non ∧ q (.ref a) S2) r
theorem Stp.made {S : Sto} {x dx c : Addr} {cn : Str} {v : HO} (hx : H x = Option.none) (hd : H dx = Option.none) (hne : dx ≠ x) : Stp S H (up S x (.ins cn [])) (upd (upd H dx v) x (.ins c dx [])) :=
  (Stp.new hd).trans (Stp.add (by rw [upd_ne hne.symm]; exact hx))
theorem run_mkD {C : Orc} {c : Str} {R : XR} {env : Env} {S : Sto} {q : DK} {Q : VK} {us : List Value} {vs : List V} {ds : List D} (M : Mk X.K (He.ga X.K c) f) (F : FnG X.prog X.w X.K X.mg X.base false k f (liftSp X.K (C (.me c "__init__")))) (hr : Room (k + 1) X.A) (tk : Takes X W)
    (I : Inv X pins σ H s) (r : Vals vs us) (e : RelEnv X.K H env σ) (rr : RDs X.K H ds vs) (rs : RS X.K H S) (x : XOk X.K W S H R) (kk : KOk X.K S H q Q) (h : dMk C c ds S q fun y S' => R y env S') : wpAny (model X.prog X.w) X.A (call (.ref (He.ga X.K c)) us) (EP X pins σ Q) X.xe s := by
  refine run_mk (E := WE W σ) M F hr (passAt tk σ) I r (fun a dx ha hd hne => ?_) (fun I2 e s' z => passAt tk σ pins _ _ e s' I2 z)
  have st : Stp S H (up S a (.ins c [])) (upd (upd H dx (.own a)) a (.ins (He.ga X.K c) dx [])) := Stp.made ha hd hne
  have rs2 : RS X.K (upd (upd H dx (.own a)) a (.ins (He.ga X.K c) dx [])) (up S a (.ins c [])) := (rs.new hd).add (by rw [upd_ne hne.symm]; exact ha) (show RelOb _ _ _ _ (.ins c []) from ⟨dx, [], upd_same, by unfold FsRel; rfl⟩)
  refine ⟨.ref a :: ds, _, _, _, RDs.cons (by unfold RD; rfl) (rr.mono st.t), rs2, h a (rs.free ha), fun d S' v H' t2 r2 s2 ⟨hd2, h2⟩ => ?_, fun y S' H' cls d t2 s2 ex hy => x y env S' σ H' cls d (st.trans t2) (e.mono (st.trans t2).t) s2 ex hy⟩
  subst hd2
  exact ⟨rd_non r2, kk (.ref a) S' (.ref a) H' (st.trans t2) (by unfold RD; rfl) s2 h2⟩
def eMk (C : Orc) (c : Str) (t : DA) : DE := fun R env S q => t R env S fun xs S1 => dMk C c xs S1 q fun y S2 => R y env S2
/-- C(..), C a class of the module -/
theorem d_mk {C : Orc} {x : Str} {p pos : Pos} {a : Expr} {es : List Expr} {t : DA} (M : Mk X.K (He.ga X.K x) f) (F : FnG X.prog X.w X.K X.mg X.base false k f (liftSp X.K (C (.me x "__init__")))) (hr : Room (k + 1) X.A) (tk : Takes X W) (hgl : Gl X x) (hm : X.mg x = some (.ref (He.ga X.K x)))
    (hd : (x == ("__debug__" : Str)) = false) (hn : noStar a = true) (ha : PAd X W (a :: es) t) : PEd X W (.Call (.Name x p) (a :: es) [] pos) (eMk C x t) := by
  refine ⟨fun pins s σ H Q I ⟨R, env, S, q, e, rs, h, x, kk⟩ => ?_⟩
  refine wpAny_Call_Name_kw (ld_glob I hgl hm ?_ hd)
  refine callWith_any (h₀ := X.base) I.ok.mod.kin M.kp hn (thn (ha.run pos pins s σ H (fun vs H1 => ∃ ds S1, Stp S H S1 H1 ∧ RDs X.K H1 ds vs ∧ RS X.K H1 S1 ∧ dMk C _ ds S1 q fun y S2 => R y env S2) I ⟨R, env, S, _, e, rs, h, x, fun ds S1 vs H1 t1 r1 s1 h1 => ⟨ds, S1, t1, r1, s1, h1⟩⟩) fun us s1 ⟨vs, H1, I1, r, ds, S1, t1, r1, s1', h1⟩ => ⟨I1.kIn, ?_⟩)
  exact run_mkD M F hr tk I1 r (e.mono t1.t) r1 s1' (x.mono t1) (kk.mono t1) h1
/-- v(..), v a slot that holds a class -/
def eMkV (C : Orc) (mk : Str → Bool) (i : Nat) (t : DA) : DE := fun R env S q => match look env i with
  | some (.cls c) => mk c = true ∧ t R env S fun xs S1 => dMk C c xs S1 q fun y S2 => R y env S2
  | _ => False
theorem d_mkV {C : Orc} {mk : Str → Bool} {i : Nat} {x : Str} {p pos : Pos} {a : Expr} {es : List Expr} {t : DA} (hM : ∀ c, mk c = true → ∃ f, Mk X.K (He.ga X.K c) f ∧ FnG X.prog X.w X.K X.mg X.base false k f (liftSp X.K (C (.me c "__init__")))) (hr : Room (k + 1) X.A) (tk : Takes X W)
    (hN : X.N[i]? = some x) (hv : Vis X.env.scope x) (hd : (x == ("__debug__" : Str)) = false) (hcd : (x == ("__classdict__" : Str)) = false) (hn : noStar a = true) (ha : PAd X W (a :: es) t) : PEd X W (.Call (.Name x p) (a :: es) [] pos) (eMkV C mk i t) := by
  refine ⟨fun pins s σ H Q I ⟨R, env, S, q, e, rs, h, x, kk⟩ => ?_⟩
  unfold eMkV at h
  cases l : look env i with
  | none => rw [l] at h; exact h.elim
  | some d =>
    rw [l] at h
    cases d with
    | cls c =>
      obtain ⟨hc, h⟩ := h
      obtain ⟨v, h1, h2⟩ := e.at_ i _ (look_get l)
      unfold RD at h2; subst h2
      obtain ⟨f, M, F⟩ := hM c hc
      refine wpAny_Call_Name_kw (thn ((pe_var hN hv hd hcd).run pins s σ H (fun y H1 => y = .ref (He.ga X.K c) ∧ H1 = H) I ⟨_, h1, rfl, rfl⟩) fun u s0 ⟨y, H0, I0, ry, ey, eH⟩ => ?_)
      subst ey eH
      obtain rfl : u = Value.ref _ := ry
      refine callWith_any (h₀ := X.base) I0.ok.mod.kin M.kp hn (thn (ha.run pos pins s0 σ _ (fun vs H1 => ∃ ds S1, Stp S H0 S1 H1 ∧ RDs X.K H1 ds vs ∧ RS X.K H1 S1 ∧ dMk C _ ds S1 q fun y S2 => R y env S2) I0 ⟨R, env, S, _, e, rs, h, x, fun ds S1 vs H1 t1 r1 s1 h1 => ⟨ds, S1, t1, r1, s1, h1⟩⟩) fun us s1 ⟨vs, H1, I1, r, ds, S1, t1, r1, s1', h1⟩ => ⟨I1.kIn, ?_⟩)
      exact run_mkD M F hr tk I1 r (e.mono t1.t) r1 s1' (x.mono t1) (kk.mono t1) h1
    | _ => exact h.elim

/-! ### class methods, methods -/
structure CmOk (X : Cx) (C : Orc) (k : Nat) (c m : Str) : Prop where
  ok : ∃ mc p g, ClX.CRead X.K (He.ga X.K c) mc ∧ ClX.CMet X.K (He.ga X.K c) mc m p g ∧ FnG X.prog X.w X.K X.mg X.base false k g (liftSp X.K (C (.me c m)))
def eCm (C : Orc) (c m : Str) (t : DA) : DE := fun R env S q => t R env S fun xs S1 => C (.me c m) (.cls c :: xs) S1 q fun y S2 => R y env S2
theorem backTo_plain {pos : Pos} {a : Expr} {es : List Expr} {env : PySem.Env} (h : methodCallForm ((a :: es).length + ([] : List Keyword).length) (backTo pos (starEach (a :: es) env)) (backToKw pos (keywordEach [] env)) = true) (hn : noStar a = true) : (backTo pos (starEach es env)).any (·.1) = false := by
  unfold methodCallForm at h
  rw [Bool.and_eq_true, Bool.and_eq_true] at h
  obtain ⟨⟨h1, _⟩, _⟩ := h
  rw [starEach_cons hn] at h1
  have h2 : (backTo pos (starEach es env)).all (fun x => !x.1) = true := by
    have h3 : ((!false) && (backTo pos (starEach es env)).all (fun x => !x.1)) = true := h1
    simpa using h3
  rw [Bool.eq_false_iff]
  intro z
  rw [List.any_eq_true] at z
  obtain ⟨y, hy, hy2⟩ := z
  have := List.all_eq_true.mp h2 y hy
  rw [hy2] at this
  cases this
/-- Cls.m(..), Cls the module's name -/
theorem d_cm {C : Orc} {c m : Str} {p apos pos : Pos} {a : Expr} {es : List Expr} {t : DA} (cm : CmOk X C k c m) (hr : Room k X.A) (tk : Takes X W) (hgl : Gl X c) (hm : X.mg c = some (.ref (He.ga X.K c))) (hd : (c == ("__debug__" : Str)) = false) (hn : noStar a = true)
    (hform : methodCallForm ((a :: es).length + ([] : List Keyword).length) (backTo pos (starEach (a :: es) X.env)) (backToKw pos (keywordEach [] X.env)) = true) (hline : (apos.endLine == pos.line) = true) (ha : PAd X W (a :: es) t) :
    PEd X W (.Call (.Attribute (.Name c p) m apos) (a :: es) [] pos) (eCm C c m t) := by
  obtain ⟨mc, pp, gt, hrd, hmet, F⟩ := cm.ok
  refine ⟨fun pins s σ H Q I ⟨R, env, S, q, e, rs, h, x, kk⟩ => ?_⟩
  refine call_meth rfl hform hline (ld_glob I hgl hm (fun pl => ClX.getmethcm_ok I hrd hmet fun s2 I2 => ?_) hd)
  refine ClX.callwith_cm I2 (ClX.base_none I (Nat.le_refl _)) hmet.fi (thn (ha.run pos _ s2 σ H (fun vs H1 => liftSp X.K (C (.me c m)) (.ref (He.ga X.K c) :: vs) H1 Q (WE W σ)) I2 ⟨R, env, S, _, e, rs, h, x, fun ds S1 vs H1 t1 r1 s1 h1 => ?_⟩) fun us s3 ⟨vs, H2, I3, rv, q2⟩ => ⟨⟨ClX.pin_at I3, I3.kIn⟩, ?_⟩) (starEach_cons hn) (backTo_plain hform hn)
  · exact liftSp_mk (e.mono t1.t) (RDs.cons (show RD X.K H1 (.cls c) (.ref (He.ga X.K c)) by unfold RD; rfl) r1) s1 (x.mono t1) (kk.mono t1) h1
  · have z : wpAny (model X.prog X.w) X.A (call (.ref s.heap.objs.size) us) (EP X ((s.heap.objs.size, PySem.W.methodObj (.ref gt) (.ref (He.ga X.K c))) :: pins) σ Q) X.xe s3 :=
      wpAny_call (PySem.W.method_call (ClX.pin_at I3) (run_fnGc (us := .ref (He.ga X.K c) :: us) (vs := .ref (He.ga X.K c) :: vs) F hr (fun z => nomatch z) (passAt tk σ) I3 (.cons rfl rv) q2))
    exact thn z fun _ _ y => ClX.unpinE y
/-- own methods of an instance: which class has which -/
structure OmOk (X : Cx) (C : Orc) (k : Nat) (hm : Str → Str → Bool) : Prop where
  ok : ∀ c m, hm c m = true → Cls X.K (He.ga X.K c) ∧ ∃ g, Meth X.K (He.ga X.K c) m g ∧ FnG X.prog X.w X.K X.mg X.base false k g (liftSp X.K (C (.me c m)))
def eOm (C : Orc) (hm : Str → Str → Bool) (m : Str) (o : DE) (t : DA) : DE := fun R env S q => o R env S fun x S1 => match x with
  | .ref a => match S1 a with
    | some (.ins c fs) => hm c m = true ∧ fs.lookup m = none ∧ t R env S1 fun xs S2 => C (.me c m) (.ref a :: xs) S2 q fun y S3 => R y env S3
    | _ => False
  | _ => False
theorem d_om {C : Orc} {hm : Str → Str → Bool} {o : Expr} {m : Str} {apos pos : Pos} {es : List Expr} {to : DE} {t : DA} (om : OmOk X C k hm) (hr : Room k X.A) (tk : Takes X W) (hbase : attributeBase o m X.env (eval o X.env) = eval o X.env)
    (hform : methodCallForm (es.length + ([] : List Keyword).length) (backTo pos (starEach es X.env)) (backToKw pos (keywordEach [] X.env)) = true) (hline : (apos.endLine == pos.line) = true) (ho : PEd X W o to) (ha : (es = [] ∧ t = aNil) ∨ ∃ a r, es = a :: r ∧ noStar a = true ∧ PAd X W (a :: r) t) :
    PEd X W (.Call (.Attribute o m apos) es [] pos) (eOm C hm m to t) := by
  refine ⟨fun pins s σ H Q I ⟨R, env, S, q, e, rs, h, x, kk⟩ => ?_⟩
  refine call_meth hbase hform hline (thn (ho.run pins s σ H (fun y H1 => ∃ a c fs S1, y = .ref a ∧ S1 a = some (.ins c fs) ∧ RS X.K H1 S1 ∧ Stp S H S1 H1 ∧ hm c m = true ∧ fs.lookup m = none ∧ t R env S1 fun xs S2 => C (.me c m) (.ref a :: xs) S2 q fun y S3 => R y env S3) I ⟨R, env, S, _, e, rs, h, x, fun d1 S1 v1 H1 t1 r1 s1 h1 => ?_⟩)
    fun u s1 ⟨y, H1, I1, ry, a, c, fs, S1, ey, es1, rs1, t1, hc, hl, ht⟩ pl => ?_)
  · cases d1 with
    | ref a =>
      simp only at h1
      cases es : S1 a with
      | none => rw [es] at h1; exact h1.elim
      | some ob =>
        rw [es] at h1
        cases ob with
        | ins c fs => exact ⟨a, c, fs, S1, rd_ref r1, es, s1, t1, h1⟩
        | _ => exact h1.elim
    | _ => exact h1.elim
  · subst ey
    obtain rfl : u = Value.ref a := ry
    obtain ⟨cl, gt, hmt, F⟩ := om.ok c m hc
    obtain ⟨dx, gs, hins, fr⟩ := rs1 a _ es1
    refine getmeth_ok I1 hins cl hmt ((fs_lookup fr).2 hl) ?_
    rcases ha with ⟨e1, e2⟩ | ⟨b, r, e1, hn, ha⟩
    · subst e1 e2
      exact PySem.W.callWith_K0 I1.kIn hmt.kp (run_fnG (us := [.ref a]) (vs := [.ref a]) F hr (fun z => nomatch z) (passAt tk σ) I1 (.cons (show RelV (V.ref a) _ from rfl) .nil) (liftSp_mk (e.mono t1.t) (RDs.one (d := .ref a) (by unfold RD; rfl)) rs1 (x.mono t1) (kk.mono t1) ht))
    · subst e1
      refine callWith_any (h₀ := X.base) I1.ok.mod.kin hmt.kp hn (thn (ha.run pos pins s1 σ H1 (fun vs H2 => liftSp X.K (C (.me c m)) (.ref a :: vs) H2 Q (WE W σ)) I1 ⟨R, env, S1, _, e.mono t1.t, rs1, ht, x.mono t1, fun ds S2 vs H2 t2 r2 s2 h2 => ?_⟩) fun us s2 ⟨vs, H2, I2, rv, q2⟩ => ⟨I2.kIn, ?_⟩)
      · exact liftSp_mk (e.mono (t1.trans t2).t) (RDs.cons (by unfold RD; rfl) r2) s2 (x.mono (t1.trans t2)) (kk.mono (t1.trans t2)) h2
      · exact run_fnG (us := .ref a :: us) (vs := .ref a :: vs) F hr (fun z => nomatch z) (passAt tk σ) I2 (.cons rfl rv) q2

/-! ### isinstance -/
/-- a value's type among the built-in ones; of what class an instance is -/
def isiT (T : String) (x : D) (S : Sto) : Option Bool := match x with
  | .non => some (decide (T = "NoneType"))
  | .bl _ => some (decide (T = "bool" ∨ T = "int"))
  | .int _ => some (decide (T = "int"))
  | .str _ => some (decide (T = "str"))
  | .tup _ => some (decide (T = "tuple"))
  | .ref a => match S a with
    | some (.lst _) => some (decide (T = "list"))
    | some (.dT _) => some (decide (T = "dict"))
    | some (.dI _) => some (decide (T = "dict"))
    | _ => none
  | _ => none
def dIsi (T : String) (x : D) (S : Sto) (q : DK) : Prop := match isiT T x S with
  | some b => q (.bl b) S
  | none => False
/-- the table of answers -/
def isiTab (K : PySem.W.Frag) (T : String) : Prop := ∀ t ∈ ["NoneType", "bool", "int", "str", "tuple", "list", "dict"], PySem.W.kitOne K (.type t) (.type T) = some (decide (T = t ∨ (t = "bool" ∧ T = "int")))
end
end C2

/-! isinstance; formatted texts; defs with a star. -/
namespace C2
open PySem PySem.Spec PyProof.Rows L2
section
variable {X : Cx} {W : WX} {pins : List (Addr × Obj)} {σ : L2.St} {H : Hp} {s : Shared} {g : Bool} {k : Nat} {f : Addr} {sp : Sp}
def tyNames : List String := ["int", "bool", "str", "tuple", "list", "dict"]
theorem isi_tab (K : PySem.W.Frag) : ∀ T ∈ tyNames, isiTab K T := by
  intro T hT t ht
  simp only [tyNames, List.mem_cons, List.not_mem_nil, or_false] at hT
  simp only [List.mem_cons, List.not_mem_nil, or_false] at ht
  rcases hT with rfl | rfl | rfl | rfl | rfl | rfl <;> rcases ht with rfl | rfl | rfl | rfl | rfl | rfl | rfl <;> kernel_rfl
/-- a value's type in the model -/
def tyName (x : D) (S : Sto) : Option String := match x with
  | .non => some "NoneType"
  | .bl _ => some "bool"
  | .int _ => some "int"
  | .str _ => some "str"
  | .tup _ => some "tuple"
  | .ref a => match S a with
    | some (.lst _) => some "list"
    | some (.dT _) => some "dict"
    | some (.dI _) => some "dict"
    | _ => none
  | _ => none
theorem tyName_x {K : PySem.W.Frag} {S : Sto} {d : D} {v : V} {t : String} {H : Hp} (r : RD K H d v) (s : RS K H S) (h : tyName d S = some t) : TyX K H v (.type t) ∧ t ∈ ["NoneType", "bool", "int", "str", "tuple", "list", "dict"] := by
  cases d with
  | non => cases h; rw [rd_non r]; exact ⟨.base .non, by simp⟩
  | bl b => cases h; rw [rd_bl r]; exact ⟨.base (.bl b), by simp⟩
  | int b => cases h; rw [rd_int r]; exact ⟨.base (.int b), by simp⟩
  | str b => cases h; rw [rd_str r]; exact ⟨.base (.str b), by simp⟩
  | tup ds =>
    cases h
    obtain ⟨a, vs, rfl, tt, rr⟩ := rd_tup r
    refine ⟨?_, by simp⟩
    unfold TupT at tt
    split at tt
    · exact .base (.tup tt)
    · obtain ⟨o, tt, _⟩ := tt; exact .fTuple tt
  | ref a =>
    simp only [tyName] at h
    rw [rd_ref r]
    cases e : S a with
    | none => rw [e] at h; cases h
    | some ob =>
      rw [e] at h
      have q := s a ob e
      cases ob with
      | lst ds => cases h; obtain ⟨vs, hv, _⟩ := q; exact ⟨.base (.lst hv), by simp⟩
      | dT ds => cases h; obtain ⟨vs, hv, _⟩ := q; exact ⟨.base (.dT hv), by simp⟩
      | dI ds => cases h; obtain ⟨vs, hv, _⟩ := q; exact ⟨.base (.dK hv), by simp⟩
      | ins c fs => cases h
  | _ => cases h
/-- isinstance(x, T), T built in -/
def dIs (T : String) (x : D) (S : Sto) (q : DK) : Prop := match tyName x S with
  | some t => q (.bl (decide (T = t ∨ (t = "bool" ∧ T = "int")))) S
  | none => False
theorem d_isi {T : Str} {Tn : String} {a : Expr} {ta : DE} {p p2 pos : Pos} (hT : Tn ∈ tyNames) (hgl : Gl X "isinstance") (hm : X.mg "isinstance" = none) (hgT : Gl X T) (hmT : X.mg T = none) (hvT : bootBuiltins T = some (.type Tn)) (hnT : T ≠ "__name__") (hdT : (T == ("__debug__" : Str)) = false) (hn : noStar a = true) (ha : PEd X W a ta) :
    PEd X W (.Call (.Name "isinstance" p) [a, .Name T p2] [] pos) (e1 (dIs Tn) ta) := by
  have hpl : (backTo pos (starEach [Expr.Name T p2] X.env)).any (·.1) = false := rfl
  refine PE.imp (pe_callB call_isi hgl hm boot_isinstance (pa_cons ha (pa_cons (pe_bltn hgT hmT hvT (v := .ty Tn) rfl hnT hdT) pa_nil rfl) (starEach_cons hn)) (he := starEach_cons hn) (hpl := hpl)) fun σ H Q ⟨R, env, S, q, e, s, h, x, k⟩ => ?_
  refine ⟨R, env, S, _, e, s, h, x, fun d S1 v H1 t1 r1 s1 h1 => ?_⟩
  replace h1 : dIs Tn d S1 q := h1
  unfold dIs at h1
  cases ht : tyName d S1 with
  | none => rw [ht] at h1; exact h1.elim
  | some t =>
    rw [ht] at h1
    obtain ⟨ty, hmem⟩ := tyName_x r1 s1 ht
    exact ⟨v, .ty Tn, _, _, _, rfl, .ty Tn, ty, isi_tab X.K Tn hT t hmem, (k.mono t1).bl s1 h1⟩

/-! ### formatted texts -/
/-- one part: a text as it is, a value's text -/
def dFmt (x : D) (S : Sto) (q : DK) : Prop := match x with
  | .str y => y.length ≤ sizeLine ∧ q (.str y) S
  | .int i => i.natAbs.log2 < 1920 ∧ q (.str (toString i)) S
  | _ => False
theorem d_fmt {e : Expr} {te : DE} {pos : Pos} (he : PEd X W e te) : PEd X W (.FormattedValue e (-1) none pos) (e1 dFmt te) :=
  PE.imp (pe_fmt he) fun σ H Q ⟨R, env, S, q, e, s, h, x, k⟩ => ⟨R, env, S, _, e, s, h, x, fun d S1 v H1 t1 r1 s1 h1 => by
    cases d with
    | str y => exact .inl ⟨y, rd_str r1, h1.1, (k.mono t1).str s1 h1.2⟩
    | int i => exact .inr ⟨i, rd_int r1, h1.1, (k.mono t1).str s1 h1.2⟩
    | _ => exact h1.elim⟩
/-- the parts one behind another -/
def joinD : List D → Str → Sto → DK → Prop
  | [], acc, S, q => q (.str acc) S
  | .str y :: ds, acc, S, q => (acc ++ y).length ≤ sizeLine ∧ joinD ds (acc ++ y) S q
  | _ :: _, _, _, _ => False
def eJoin (ts : List DE) (acc : Str) : DE := fun R env S q => match ts with
  | [] => q (.str acc) S
  | t :: ts => t R env S fun x S1 => match x with
    | .str y => (acc ++ y).length ≤ sizeLine ∧ eJoin ts (acc ++ y) R env S1 q
    | _ => False
theorem tJs_ok {K : PySem.W.Frag} {W : WX} {R : XR} {env : Env} {q : DK} {σ : L2.St} : ∀ (ts : List DE) (acc : Str) (S : Sto) (H : Hp) (Q : VK), RelEnv K H env σ → RS K H S → eJoin ts acc R env S q → XOk K W S H R → KOk K S H q Q → tJs (ts.map (liftE K W)) acc σ H (fun out H1 => Q (.str out) H1)
  | [], acc, S, H, Q, e, s, h, x, k => k.str s h
  | t :: ts, acc, S, H, Q, e, s, h, x, k => by
    refine ⟨R, env, S, _, e, s, h, x, fun d S1 v H1 t1 r1 s1 h1 => ?_⟩
    cases d with
    | str y => exact ⟨y, rd_str r1, h1.1, tJs_ok ts _ S1 H1 Q (e.mono t1.t) s1 h1.2 (x.mono t1) (k.mono t1)⟩
    | _ => exact h1.elim
theorem d_join {v1 v2 : Expr} {rest : List Expr} {ts : List DE} {pos : Pos} (h : PJ X (v1 :: v2 :: rest) (ts.map (liftE X.K W))) : PEd X W (.JoinedStr (v1 :: v2 :: rest) pos) (eJoin ts Str.empty) :=
  PE.imp (pe_joined h) fun σ H Q ⟨R, env, S, q, e, s, h, x, k⟩ => tJs_ok ts _ S H Q e s h x k

/-! ### a def with a star -/
theorem fnR_star {P : Program} {w : World} {K : PySem.W.Frag} {mg : Str → Option Value} {base : Heap} {name qual : Str} {params : Arguments} {body : List Stmt} {scope : Scope} {kws : List (Str × V)} {fd : FuncData} {N ps : List Str} {pv : Str} (F : FunD K name qual params body scope [] kws f fd) (S : FnScope N (ps ++ [pv]) scope)
    (hb : ∀ (kV doc pm : Value) (an : Option Addr) (cdv ct : Value) (us rest : List Value), us.length = ps.length → bindArgs (PySem.W.fnOf name qual params body scope .none kV doc pm an cdv ct) ⟨us ++ rest, []⟩ = (newTuple rest >>= fun t => pure (ps.zip us ++ [(pv, t)])))
    (hbody : ∀ (cdv : Value) (A : Around) (outer : List PySem.Env) (s : Shared) (H : Hp) (vs : List V) (Q : VK) (E : XK), Room k (A.deeper (envOfC qual scope s.heap.objs.size f cdv)) → sp vs H Q E →
      ∃ t, PSs (cxOf (L2.CX P w) P w K mg base N qual scope f cdv A outer s H E) body t ∧ t { nx := fun _ H' => Q .non H', rt := Q } (start N vs) H) :
    FnG P w K mg base false (k + 1) f (fun vs H Q E => ∃ ws rest, vs = ws ++ rest ∧ ws.length = ps.length ∧ rest.length ≤ sizeLine ∧ ∀ p o, H p = Option.none → (o = .tup rest ∧ rest.all isI = true ∨ ∃ u : Obj, o = .frz u (.tup rest) ∧ u.dict = Option.none ∧ ¬ rest.all isI = true) → sp (ws ++ [V.ref p]) (upd H p o) Q E) := by
  obtain ⟨oc, od, dV, kV, doc, pm, an, cdv, ct, osl, rfl, lk, hcd, hD, _⟩ := F.ex
  obtain ⟨_, rfl⟩ : ([] : List V) = [] ∧ dV = .none := hD.elim id fun z => absurd rfl z.1
  intro A outer s H us vs Q E hr _ e0 r ⟨ws, rest, ev, hl, hz, hq⟩
  subst ev
  obtain ⟨u1, u2, rfl, r1, r2⟩ := StX.vals_split r
  have hn : H s.heap.objs.size = Option.none := e0.hok.fresh (Nat.le_refl _)
  have hl1 : u1.length = ps.length := by rw [← r1.length]; exact hl
  have hl2 : u2.length ≤ sizeLine := by rw [← r2.length]; exact hz
  have ho : ∃ o : HO, (o = .tup rest ∧ rest.all isI = true ∨ ∃ u : Obj, o = .frz u (.tup rest) ∧ u.dict = Option.none ∧ ¬ rest.all isI = true) ∧ ObjOk P w (upd H s.heap.objs.size o) (s.heap.push (tobj u2)) s.heap.objs.size o := by
    have ob : ObjOk P w (upd H s.heap.objs.size (.tup rest)) (s.heap.push (tobj u2)) s.heap.objs.size (.tup rest) := ⟨hz, u2, r2, ⟨_, Heap.get?_push_size _ rfl, rfl, _, rfl⟩⟩
    by_cases c : rest.all isI = true
    · exact ⟨_, .inl ⟨rfl, c⟩, ob⟩
    · exact ⟨.frz (tobj u2) (.tup rest), .inr ⟨tobj u2, rfl, rfl, c⟩, Heap.get?_push_size _ rfl, hz, u2, r2, ⟨_, Heap.get?_push_size _ rfl, rfl, _, rfl⟩⟩
  obtain ⟨o, hcase, new⟩ := ho
  refine StX.run_bnd lk hcd S hr e0 (G := fun xs H2 => ∃ p, H p = Option.none ∧ xs = ws ++ [V.ref p] ∧ H2 = upd H p o) (fun A' Ex Q' h => ?_) fun s2 H2 xs ⟨p, hp, ex, eH⟩ hr' => ?_
  · rw [hb kV doc pm an cdv ct u1 u2 hl1]
    refine wpAny_bind (wpAny_newTuple (wpAny_pure ?_) hl2)
    have un := StX.un_laid (fs := frs outer) (s := s) (o := tobj u2) (u := o) hn
    have z := h _ _ (ws ++ [V.ref s.heap.objs.size]) (u1 ++ [Value.ref s.heap.objs.size]) (StX.env0_laid e0 new) un rfl (fun e s' => StX.cxUp outer s H _ _ E e s' un (fun b o q => Heap.get?_push_of_some _ q) rfl) (r1.append (.cons rfl .nil))
      (by rw [List.length_append, List.length_append, hl] <;> rfl) ⟨_, hn, rfl, rfl⟩
    rw [List.zip_append hl1.symm] at z
    exact z
  · subst ex eH
    exact hbody cdv A outer s2 _ _ Q E hr' (hq p o hp hcase)
end
end C2

/-! Targets: attributes, items, a star; pairs and triples stored at once. -/
namespace C2
open PySem PySem.Spec PyProof.Rows L2
section
variable {X : Cx} {W : WX} {pins : List (Addr × Obj)} {σ : L2.St} {H : Hp} {s : Shared}
def putFd (f : Str) (d : D) : List (Str × D) → List (Str × D)
  | [] => [(f, d)]
  | (g, e) :: r => if f = g then (f, d) :: r else (g, e) :: putFd f d r
/-- o.f = d -/
def gFld (f : Str) (pr : Str → Str → Option At) (o : DE) : DG := fun R d env S q => o R env S fun x S1 => match x with
  | .ref a => match S1 a with
    | some (.ins c fs) => pr c f = some .fld ∧ fs.length < 1000 ∧ q env (up S1 a (.ins c (putFd f d fs)))
    | _ => False
  | _ => False
theorem FsRel.len {K : PySem.W.Frag} {H : Hp} : ∀ {fs : List (Str × D)} {gs : List (Str × V)}, FsRel K H fs gs → fs.length = gs.length
  | [], gs, r => by unfold FsRel at r; subst r; rfl
  | (x, d) :: fs, gs, r => by
    unfold FsRel at r
    obtain ⟨v, hs, rfl, r1, r2⟩ := r
    simp [FsRel.len r2]
theorem FsRel.put {K : PySem.W.Frag} {H : Hp} {f : Str} {d : D} {v : V} (r : RD K H d v) : ∀ {fs : List (Str × D)} {gs : List (Str × V)}, FsRel K H fs gs → FsRel K H (putFd f d fs) (putF f v gs)
  | [], gs, h => by unfold FsRel at h; subst h; exact ⟨v, [], rfl, r, by unfold FsRel; rfl⟩
  | (x, e) :: fs, gs, h => by
    unfold FsRel at h
    obtain ⟨w, hs, rfl, r1, r2⟩ := h
    unfold putFd putF
    by_cases c : f = x
    · subst c
      simp only [if_true]
      exact ⟨v, hs, rfl, r, r2⟩
    · rw [if_neg c, if_neg (fun z => c z.symm)]
      exact ⟨w, putF f v hs, rfl, r1, FsRel.put r r2⟩
theorem g_fld {C : Orc} {pr : Str → Str → Option At} {k : Nat} {o : Expr} {f : Str} {pos : Pos} {to : DE} (ok : AtOk X C pr k) (ho : PEd X W o to) : PGd X W (.Attribute o f pos) (gFld f pr to) := by
  refine ⟨fun pins s σ H v u Q I r ⟨R, d, env, S, q, e, rs, rd, h, x, n⟩ => ?_⟩
  rw [assign_Attribute]
  refine wpAny_bind (wpAny_holding (thn (ho.run pins s σ H (fun y H1 => ∃ a c fs S1, y = .ref a ∧ S1 a = some (.ins c fs) ∧ RS X.K H1 S1 ∧ Stp S H S1 H1 ∧ pr c f = some .fld ∧ fs.length < 1000 ∧ q env (up S1 a (.ins c (putFd f d fs)))) I ⟨R, env, S, _, e, rs, h, x, fun d1 S1 v1 H1 t1 r1 s1 h1 => ?_⟩)
    fun ov s1 ⟨y, H1, I1, ry, a, c, fs, S1, ey, es, rs1, t1, hp, hl, hq⟩ => ?_))
  · cases d1 with
    | ref a =>
      simp only at h1
      cases es : S1 a with
      | none => rw [es] at h1; exact h1.elim
      | some ob =>
        rw [es] at h1
        cases ob with
        | ins c fs => exact ⟨a, c, fs, S1, rd_ref r1, es, s1, t1, h1⟩
        | _ => exact h1.elim
    | _ => exact h1.elim
  · subst ey
    obtain rfl : ov = Value.ref a := ry
    obtain ⟨dx, gs, hins, fr⟩ := rs1 a _ es
    refine wpAny_bind (wpAny_standAt (wpAny_bind (wpAny_holding ?_)))
    refine setattr_ok I1 hins (ok.cls c f _ hp) (ok.fld c f hp) (by rw [← fr.len]; exact hl) r fun s2 I2 => wpAny_release ?_
    have t : Tle H1 (upd H1 a (.ins (He.ga X.K c) dx (putF f v gs))) := Tle.put hins trivial
    have st := t1.trans (Stp.put (o := .ins c (putFd f d fs)) es hins (w := .ins (He.ga X.K c) dx (putF f v gs)) trivial)
    exact ⟨σ, _, I2, n env _ σ _ st (e.mono st.t) (rs1.put hins trivial (show RelOb _ _ _ _ (.ins c (putFd f d fs)) from ⟨dx, _, upd_same, (FsRel.put (rd.mono t1.t) fr).mono t⟩)) hq⟩
/-- l[i] = d -/
def gIx (a i : DE) : DG := fun R d env S q => a R env S fun x S1 => i R env S1 fun y S2 => match x, y with
  | .ref p, .int k => ∃ ds j, S2 p = some (.lst ds) ∧ ixN ds.length k = some j ∧ q env (up S2 p (.lst (ds.set j d)))
  | _, _ => False
theorem g_ix {o i : Expr} {pos : Pos} {to ti : DE} (hi0 : ∀ a b c d, i ≠ .Slice a b c d) (ho : PEd X W o to) (hi : PEd X W i ti) : PGd X W (.Subscript o i pos) (gIx to ti) := by
  refine ⟨fun pins s σ H v u Q I r ⟨R, d, env, S, q, e, rs, rd, h, x, n⟩ => ?_⟩
  have ha : ∀ v, assign (.Subscript o i pos) X.env v = (do
      let ov ← holding [v] (eval o X.env)
      let iv ← holding [v, ov] (eval i X.env)
      standAt pos
      holding [v, ov, iv] (setItem ov iv v)
      release [v, ov, iv] []) := by
    intro v
    cases i with
    | Slice a b c d => exact absurd rfl (hi0 a b c d)
    | _ => rfl
  refine (pg_sub ho hi (t := rSetL) set_list ha).run pins s σ H v u Q I r ?_
  refine ⟨R, env, S, _, e, rs, h, x, fun d1 S1 v1 H1 t1 r1 s1 h1 => ⟨R, env, S1, _, e.mono t1.t, s1, h1, x.mono t1, fun d2 S2 v2 H2 t2 r2 s2 h2 => ?_⟩⟩
  match d1, d2, h2 with
  | .ref p, .int k, ⟨ds, j, hp, hj, hq⟩ =>
    obtain ⟨vs, hv, rr⟩ := s2 p _ hp
    refine ⟨p, vs, k, j, rd_ref (r1.mono t2.t), rd_int r2, hv, by rw [← rr.length]; exact hj, ?_⟩
    have t : Tle H2 (upd H2 p (.lst (vs.set j v))) := Tle.put hv trivial
    have st := (t1.trans t2).trans (Stp.put (o := .lst (ds.set j d)) hp hv (w := .lst (vs.set j v)) trivial)
    exact n env _ σ _ st (e.mono st.t) (s2.put hv trivial (show RelOb _ _ _ _ (.lst (ds.set j d)) from ⟨_, upd_same, (rr.set (rd.mono (t1.trans t2).t) j).mono t⟩)) hq
/-- a, *b = a list -/
def gStar1 (t : DGs) : DG := fun R d env S q => match d with
  | .ref a => ∃ x ds, S a = some (.lst (x :: ds)) ∧ ds.length < 16000 ∧ ∀ p, S p = none → t R [x, .ref p] env (up S p (.lst ds)) q
  | _ => False
theorem g_star1 {es : List Expr} {k : Nat} {pos : Pos} {gs : DGs} (hc : X.calm = true) (h : PGsd X W es gs) (hn : (assignEach es X.env).length = 2) (hst : (assignEach es X.env).findIdx? (·.1) = some 1) : PGd X W (.Tuple es k pos) (gStar1 gs) := by
  refine ⟨fun pins s σ H v u Q I r ⟨R, d, env, S, q, e, rs, rd, hh, x, n⟩ => ?_⟩
  unfold gStar1 at hh
  cases d with
  | ref a =>
    obtain ⟨y, ds, ha, hz, hq⟩ := hh
    obtain ⟨vs, hv, rr⟩ := rs a _ ha
    obtain rfl := rd_ref rd
    obtain rfl : u = Value.ref a := r
    unfold RDs at rr
    obtain ⟨w, ws, rfl, rw1, rws⟩ := rr
    obtain ⟨us, rv, pl, _⟩ := I.list (show SqL X.K H a (w :: ws) from .inl (.inl hv))
    cases rv with
    | cons ru rus =>
    rename_i u0 us
    have hl := pl.isList
    have hlen := rws.length
    have hlen2 := rus.length
    have hlt : a ≠ s.heap.objs.size := by obtain ⟨o, ho, _⟩ := hl; exact Nat.ne_of_lt (Heap.lt_size ho)
    rw [assign_Tuple]
    refine wpAny_bind (wpAny_standAt ?_)
    unfold unpack
    rw [hn, hst]
    refine wpAny_bind (wpAny_holding ?_)
    unfold unpackItems
    refine wpAny_bind ?_
    unfold notIterableAtAll
    refine wpAny_bind (wpAny_specialOf hl.typeIs PySem.F.slot_list_iter.lookup (wpAny_pure ?_))
    simp only [Bool.false_eq_true, if_false]
    refine wpAny_bind (wpAny_holding (wpAny_pyIter_list hl ?_))
    refine wpAny_bind (wpAny_holding (PySem.W.kun_draw hlt 1 0 _ _ ⟨_, Heap.get?_push_size _ rfl, rfl, rfl⟩ (hl.push _) (by simp) fun h₁ hit₁ hs₁ => ?_))
    have hl₁ : h₁.IsList a (u0 :: us).toArray := (hl.push _).extBut hs₁.extBut hlt
    rw [Nat.zero_add] at hit₁
    obtain ⟨oi, hoi, _⟩ := id hit₁
    obtain ⟨ol, hol, _⟩ := id hl₁
    simp only [List.drop_zero, List.take_succ_cons, List.take_zero, List.length_cons, List.length_nil, Nat.lt_irrefl, if_false]
    refine wpAny_bind (wpAny_holding (PySem.W.kun_collect (s := { s with heap := h₁ }) (T := "list_iterator") (.inr (.inr (.inl rfl))) (Walks.list (A := X.A.in1) (show X.A.in1.handled = none from I.ok.hd hc) s.heap.objs.size a hlt (u0 :: us).toArray) (fun j u st => st.1.typeIs) (k := 1) (by simp) ⟨hit₁, hl₁⟩ (Heap.lt_size hoi) (Heap.lt_size hol) (fun h₂ tk hk => ?_) (by rw [sizeLine_eq]; simp; omega)))
    simp only [List.drop_succ_cons, List.drop_zero, Nat.sub_self, Nat.reduceSub, Nat.sub_zero, Nat.not_lt_zero, if_false]
    refine wpAny_bind (wpAny_newList ?_ (by rw [List.length_take, sizeLine_eq]; omega))
    refine wpAny_pure ?_
    have I1 : Inv X pins σ H { s with heap := h₂, toks := tk } := I.kept fun b o eb => hk b o (Nat.ne_of_lt (Heap.lt_size eb)) (hs₁.extBut b o (Nat.ne_of_lt (Heap.lt_size eb)) (Heap.get?_push_of_some _ eb))
    have I2 : Inv X pins σ (upd H h₂.objs.size (.lst ws)) { s with heap := h₂.push { cls := .type "list", data := .seq us.toArray }, toks := tk } :=
      I1.laid (t' := tk) (o := .lst ws) (fun b o eb => Heap.get?_push_of_some _ eb) (Nat.le_refl _) ⟨by rw [sizeLine_eq]; omega, us, 0, rus, Heap.get?_push_size _ rfl⟩
    have hp : H h₂.objs.size = Option.none := I1.hok.fresh (Nat.le_refl _)
    have ht : us.take us.length = us := List.take_length
    show wpAny _ _ (assignInOrder ((assignEach es X.env).map (·.2)) ([u0] ++ [Value.ref h₂.objs.size] ++ us.drop us.length)) _ _ { s with heap := h₂.push { cls := .type "list", data := .seq (us.take us.length).toArray }, toks := tk }
    rw [ht, List.drop_length]
    have st : Stp S H (up S h₂.objs.size (.lst ds)) (upd H h₂.objs.size (.lst ws)) := Stp.add hp
    exact h.run pins _ σ _ [w, .ref h₂.objs.size] [u0, .ref h₂.objs.size] Q I2 (.cons ru (.cons (show RelV (V.ref h₂.objs.size) _ from rfl) .nil)) ⟨R, [y, .ref h₂.objs.size], env, _, q, e.mono st.t, rs.add hp (show RelOb _ _ _ _ (.lst ds) from ⟨ws, upd_same, rws.mono (Tle.new hp)⟩), RDs.cons (rw1.mono (Tle.new hp)) (RDs.one (by unfold RD; rfl)), hq _ (rs.free hp), x.mono st, n.mono st⟩
  | _ => exact hh.elim
/-- i, j = x, y : local names on one line -/
def sPar (is : List Nat) (t : DA) : DS := fun R N env S => t R env S fun ds S1 => match setAll is ds env with
  | some env2 => N.nx env2 S1
  | none => False
theorem s_par2 {i j : Nat} {x y : Str} {a b : Expr} {ta : DA} {px py pt pos : Pos} {kt k2 pt2} (hc : X.calm = true) (hN : X.N.Nodup) (hi : X.N[i]? = some x) (hj : X.N[j]? = some y) (hij : i ≠ j) (hx : X.env.scope.names.lookup x = some .local) (hy : X.env.scope.names.lookup y = some .local) (ha : PAd X W [a, b] ta)
    (hw : swappedStores [.Tuple [.Name x px, .Name y py] kt pt] (.Tuple [a, b] k2 pt2) X.env = pure (some [x, y])) : PSd X W (.Assign [.Tuple [.Name x px, .Name y py] kt pt] (.Tuple [a, b] k2 pt2) pos) (sPar [i, j] ta) :=
  PS.imp (ps_par hc hN hi hj hij hx hy ha hw rfl) fun D σ H ⟨R, N, env, S, e, s, h, x, n, r, c⟩ => ⟨R, env, S, _, e, s, h, x, fun ds S1 vs H1 t1 r1 s1 h1 => by
    match ds, h1 with
    | [d1, d2], h1 =>
      obtain ⟨v, w, rfl, z1, z2⟩ := rds2 r1
      exact ⟨v, w, rfl, n _ S1 _ H1 t1 (((e.mono t1.t).set z1).set z2) s1 h1⟩
    | [], h1 => exact h1.elim
    | [_], h1 => exact h1.elim
    | _ :: _ :: _ :: _, h1 => exact h1.elim⟩
theorem s_par3 {i j l : Nat} {x y z : Str} {a b c : Expr} {ta : DA} {px py pz pt pos : Pos} {kt k2 pt2} (hc : X.calm = true) (hN : X.N.Nodup) (hi : X.N[i]? = some x) (hj : X.N[j]? = some y) (hl : X.N[l]? = some z) (hij : i ≠ j) (hil : i ≠ l) (hjl : j ≠ l) (hx : X.env.scope.names.lookup x = some .local) (hy : X.env.scope.names.lookup y = some .local) (hz : X.env.scope.names.lookup z = some .local) (ha : PAd X W [a, b, c] ta)
    (hw : swappedStores [.Tuple [.Name x px, .Name y py, .Name z pz] kt pt] (.Tuple [a, b, c] k2 pt2) X.env = pure (some [x, y, z])) : PSd X W (.Assign [.Tuple [.Name x px, .Name y py, .Name z pz] kt pt] (.Tuple [a, b, c] k2 pt2) pos) (sPar [i, j, l] ta) :=
  PS.imp (ps_par3 hc hN hi hj hl hij hil hjl hx hy hz ha hw rfl) fun D σ H ⟨R, N, env, S, e, s, h, x, n, r, c⟩ => ⟨R, env, S, _, e, s, h, x, fun ds S1 vs H1 t1 r1 s1 h1 => by
    match ds, h1 with
    | [d1, d2, d3], h1 =>
      unfold RDs at r1
      obtain ⟨v, ws, rfl, z1, r2⟩ := r1
      obtain ⟨w, u, rfl, z2, z3⟩ := rds2 r2
      exact ⟨v, w, u, rfl, n _ S1 _ H1 t1 ((((e.mono t1.t).set z1).set z2).set z3) s1 h1⟩
    | [], h1 => exact h1.elim
    | [_], h1 => exact h1.elim
    | [_, _], h1 => exact h1.elim
    | _ :: _ :: _ :: _ :: _, h1 => exact h1.elim⟩
/-- what is never reached -/
theorem s_dead {st : Stmt} : PSd X W st (fun _ _ _ _ => False) := ⟨fun pins s σ H D I ⟨R, N, env, S, e, rs, h, _⟩ => h.elim⟩
theorem d_dead {a : Expr} : PEd X W a (fun _ _ _ _ => False) := ⟨fun pins s σ H Q I ⟨R, env, S, q, e, rs, h, _⟩ => h.elim⟩
end
end C2

/-! The small language: what it matches in the text, what it means over plain data. -/
namespace C2
open PySem PySem.Spec PyProof.Rows L2
inductive O2 where
  | add | sub | mul | md | dv | pw | eq | ne | lt | le | gt | ge | isN | notN | isin | notin
deriving DecidableEq
inductive BI where
  | len | abs | max | min | sum | all | any | list | tuple | str | int | repr
deriving DecidableEq
inductive Mth where
  | append | extend | pop | join | split | startswith | endswith | count
deriving DecidableEq
inductive E where
  | nil | cons (a r : E) | star (a r : E)
  | var (i : Nat) | cn (c : Cn) | neg (a : E) | tup (t : E) | lst (t : E)
  | op (o : O2) (a b : E) | chain (o p : O2) (a b c : E)
  | ife (t a b : E) | andv (a b : E) | orv (a b : E) | last (a : E) | notv (a : E)
  | call (x : Str) (t : E) | mk (x : Str) (t : E) | mkv (i : Nat) (t : E) | cm (c m : Str) (t : E) | om (m : Str) (o t : E)
  | bi (b : BI) (t : E) | bm (m : Mth) (o t : E) | ix (a b : E) | sl (a lo hi : E) | attr (f : Str) (o : E) | isi (T : String) (a : E)
  | fs (t : E) | fp (a : E)
  | comp (own : List Nat) (it : E) (tg : List Nat) (unp : Bool) (c e : E)
  | rng1 (a : E) | rng2 (a b : E) | rng3 (a b c : E) | enum (a : E) | zip (a b : E)
  | dead
  | sq (a r : E) | asg (g a : E) | asgc (i : Nat) (a : E) | par (is : List Nat) (t : E) | exp (a : E) | ret (a : E) | retn | ifs (t a b : E) | whl (t b : E) | for1 (g it b : E) | forM (g it b : E) | pass | cont
  | gnm (i : Nat) | gtp (t : E) | gst (t : E) | gfl (f : Str) (o : E) | gix (a i : E)

/-! ### what it means -/
/-- what a field of a class is, which methods it has, which classes are made by calls -/
structure CT where
  pr : Str → Str → Option At
  hm : Str → Str → Bool
  mks : Str → Bool
def den2 : O2 → D → D → Sto → DK → Prop
  | .add => dAdd | .sub => dSub | .mul => dMul | .md => dMod | .dv => dDiv | .pw => dPow
  | .eq => dEq false | .ne => dEq true
  | .lt => dCmp fun i j => decide (i < j) | .le => dCmp fun i j => decide (i ≤ j) | .gt => dCmp fun i j => decide (j < i) | .ge => dCmp fun i j => decide (j ≤ i)
  | .isN => dIsN false | .notN => dIsN true | .isin => dIn false | .notin => dIn true
def dMx (xs : List D) (S : Sto) (q : DK) : Prop := match xs with
  | [x] => dMx1 x S q
  | [x, y] => dMx2 x y S q
  | _ => False
def dMn (xs : List D) (S : Sto) (q : DK) : Prop := match xs with
  | [x] => dMn1 x S q
  | [x, y] => dMn2 x y S q
  | _ => False
def denB : BI → List D → Sto → DK → Prop
  | .len => only1 dLen1 | .abs => only1 dAbs | .max => dMx | .min => dMn | .sum => only1 dSum | .all => only1 dAll | .any => only1 dAny
  | .list => only1 dList | .tuple => only1 dTuple | .str => only1 dStr | .int => only1 dInt | .repr => only1 dRepr
def denM : Mth → Ty → Option (D → List D → Sto → DK → Prop)
  | .append, .list => some mApp | .extend, .list => some mExt | .pop, .list => some mPop
  | .join, .str => some mJoin | .split, .str => some mSplit | .startswith, .str => some mStarts | .endswith, .str => some mEnds
  | .count, .list => some mCountL | .count, .tuple => some mCountT
  | _, _ => none
def dNeg (x : D) (S : Sto) (q : DK) : Prop := match x with
  | .int i => q (.int (-i)) S
  | _ => False
/-- a row of so many -/
def gLen (n : Nat) (t : DGs) : DGs := fun R ds env S q => ds.length = n ∧ t R ds env S q
/-- the readings of a piece -/
structure Den where
  e : DE := fun _ _ _ _ => False
  a : DA := fun _ _ _ _ => False
  t : DT := fun _ _ _ _ => False
  s : DS := fun _ _ _ _ => False
  ss : DS := fun _ _ _ _ => False
  g : DG := fun _ _ _ _ _ => False
  gs : DGs := fun _ _ _ _ _ => False
  i : DI := fun _ _ _ _ => False
  p : List DE := []
/-- a value, and its truth as a test -/
def Den.val (f : DE) : Den := { e := f, t := tE f, i := iOf f }
def isCmp : O2 → Bool
  | .add => false | .sub => false | .mul => false | .md => false | .dv => false | .pw => false
  | _ => true
def E.isNil : E → Bool
  | .nil => true
  | _ => false
def E.src : E → Bool
  | .rng1 _ => true
  | .rng2 _ _ => true
  | .rng3 _ _ _ => true
  | .enum _ => true
  | .zip _ _ => true
  | _ => false
/-- how many targets -/
def E.glen : E → Nat
  | .cons _ r => r.glen + 1
  | _ => 0
def E.many : E → Bool
  | .enum _ => true
  | .zip _ _ => true
  | _ => false
def tSel (b : Bool) (t u : DT) : DT := if b = true then t else u
def oSel (b : Bool) (a : DE) : Option DE := if b = true then none else some a
def den (C : Orc) (T : CT) : E → Den
  | .nil => { a := aNil, ss := sNx, gs := gsNil, t := tYes2 }
  | .cons a r => { a := aCons (den C T a).e (den C T r).a, gs := gsCons (den C T a).g (den C T r).gs, p := (den C T a).e :: (den C T r).p }
  | .star a r => { a := aStar (den C T a).e (den C T r).a }
  | .var i => .val (eVar i)
  | .cn c => { Den.val (eC c.d) with }
  | .neg a => .val (e1 dNeg (den C T a).e)
  | .tup t => .val (eTup (den C T t).a)
  | .lst t => .val (eLst (den C T t).a)
  | .op o a b => { e := e2 (den2 o) (den C T a).e (den C T b).e, t := tSel (isCmp o) (tBl (e2 (den2 o) (den C T a).e (den C T b).e)) (tE (e2 (den2 o) (den C T a).e (den C T b).e)), i := iOf (e2 (den2 o) (den C T a).e (den C T b).e) }
  | .chain o p a b c => { e := eChain (den2 o) (den2 p) (den C T a).e (den C T b).e (den C T c).e, t := tBl (eChain (den2 o) (den2 p) (den C T a).e (den C T b).e (den C T c).e) }
  | .ife t a b => { e := eIf (den C T t).t (den C T a).e (den C T b).e, i := iOf (eIf (den C T t).t (den C T a).e (den C T b).e) }
  | .andv a b => { e := eAnd (den C T a).e (den C T b).e, t := tAnd2 (den C T a).t (den C T b).t }
  | .orv a b => { e := eOr (den C T a).e (den C T b).e, t := tOr2 (den C T a).t (den C T b).t }
  | .last a => { e := (den C T a).e, t := (den C T a).t }
  | .notv a => { e := eNot (den C T a).e, t := tNot2 (den C T a).t }
  | .call x t => .val (eCall C (.fn x) (den C T t).a)
  | .mk x t => .val (eMk C x (den C T t).a)
  | .mkv i t => .val (eMkV C T.mks i (den C T t).a)
  | .cm c m t => .val (eCm C c m (den C T t).a)
  | .om m o t => .val (eOm C T.hm m (den C T o).e (den C T t).a)
  | .bi b t => .val (eB (denB b) (den C T t).a)
  | .bm m o t => .val (eBm (denM m) (den C T o).e (den C T t).a)
  | .ix a b => .val (e2 dIx (den C T a).e (den C T b).e)
  | .sl a lo hi => .val (eSl dSl (den C T a).e (oSel lo.isNil (den C T lo).e) (oSel hi.isNil (den C T hi).e))
  | .attr f o => .val (eAttr C T.pr f (den C T o).e)
  | .isi t a => .val (e1 (dIs t) (den C T a).e)
  | .fs t => .val (eJoin (den C T t).p Str.empty)
  | .fp a => { e := e1 dFmt (den C T a).e }
  | .comp own it tg unp c e => .val (eComp own (den C T it).i unp tg (den C T c).t (den C T e).e)
  | .rng1 a => { i := iRange (aCons (den C T a).e aNil) }
  | .rng2 a b => { i := iRange (aCons (den C T a).e (aCons (den C T b).e aNil)) }
  | .rng3 a b c => { i := iRange (aCons (den C T a).e (aCons (den C T b).e (aCons (den C T c).e aNil))) }
  | .enum a => { i := iEnum2 (den C T a).e }
  | .zip a b => { i := iZip2 (den C T a).e (den C T b).e }
  | .dead => {}
  | .sq a r => { ss := sSeq (den C T a).s (den C T r).ss }
  | .asg g a => { s := sAsg (den C T g).g (den C T a).e }
  | .asgc i a => { s := sAsg (gNm i) (den C T a).e }
  | .par is t => { s := sPar is (den C T t).a }
  | .exp a => { s := sExpr (den C T a).e }
  | .ret a => { s := sRet (den C T a).e }
  | .retn => { s := sRetN }
  | .ifs t a b => { s := sIf (den C T t).t (den C T a).ss (den C T b).ss }
  | .whl t b => { s := sWhile (den C T t).t (den C T b).ss }
  | .for1 g it b => { s := sFor (den C T it).i (gOne (den C T g).g) (den C T b).ss }
  | .forM g it b => { s := sFor (den C T it).i (gLen g.glen (den C T g).gs) (den C T b).ss }
  | .pass => { s := sNx }
  | .cont => { s := sCt }
  | .gnm i => { g := gNm i }
  | .gtp t => { g := gTp (gLen t.glen (den C T t).gs) }
  | .gst t => { g := gStar1 (den C T t).gs }
  | .gfl f o => { g := gFld f T.pr (den C T o).e }
  | .gix a i => { g := gIx (den C T a).e (den C T i).e }

/-! ### what it matches -/
/-- the module's names: constants -/
structure Nm where
  cons : List (Str × Cn)
  fns : List Str
  mks : List Str
  cms : List (Str × Str)
  rep : Bool
def srcB (src : Bool) (i : Expr → Expr → Bool) (e : Expr → Bool) (t x : Expr) : Bool := if src = true then i t x else e x
structure Sc where
  N : List Str
  sc : Scope
  raw : Option Scope
structure Mat where
  e : Expr → Bool := fun _ => false
  a : List Expr → Bool := fun _ => false
  s : Stmt → Bool := fun _ => false
  ss : List Stmt → Bool := fun _ => false
  g : Expr → Bool := fun _ => false
  gs : List Expr → Bool := fun _ => false
  i : Expr → Expr → Bool := fun _ _ => false
  ps : List Expr → Bool := fun _ => false
  ts : List Expr → Bool := fun _ => false
def visB (c : Sc) (x : Str) : Bool := (c.sc.names.lookup x == some .local || c.sc.names.lookup x == some .cell || c.sc.names.lookup x == some .free) && (x != ("__debug__" : Str) && x != ("__classdict__" : Str))
def glB (c : Sc) (x : Str) : Bool := c.sc.names.lookup x == some .globalImplicit && (x != ("__debug__" : Str) && x != ("__name__" : Str))
/-- a name that may be stored -/
def locB (c : Sc) (x : Str) : Bool := c.sc.names.lookup x == some .local || (c.sc.names.lookup x == some .cell && match c.raw with
  | none => true
  | some r => r.names.lookup x == some .cell)
def slotB (c : Sc) (i : Nat) (x : Str) : Bool := decide (c.N[i]? = some x)
def cnB (k : Const) (c : Cn) : Bool := match k, c with
  | .none, .non => true
  | .bool b, .bl d => b == d
  | .int i, .int j => decide (i = j)
  | .str s, .str t => decide (s = t)
  | _, _ => false
def binB (o : O2) (p : Operator) : Bool := match o, p with
  | .add, .Add => true | .sub, .Sub => true | .mul, .Mult => true | .md, .Mod => true | .dv, .FloorDiv => true | .pw, .Pow => true
  | _, _ => false
def cmpB (o : O2) (p : CmpOp) : Bool := match o, p with
  | .eq, .Eq => true | .ne, .NotEq => true | .lt, .Lt => true | .le, .LtE => true | .gt, .Gt => true | .ge, .GtE => true | .isN, .Is => true | .notN, .IsNot => true | .isin, .In => true | .notin, .NotIn => true
  | _, _ => false
def noSet : Expr → Bool
  | .Set .. => false
  | _ => true
def noSlice : Expr → Bool
  | .Slice .. => false
  | _ => true
def noComp : Expr → Bool
  | .ListComp .. => false
  | .SetComp .. => false
  | .DictComp .. => false
  | _ => true
/-- its truth is asked of its value -/
def plainT : Expr → Bool
  | .UnaryOp .Not _ _ => false
  | .BoolOp .. => false
  | .IfExp .. => false
  | .Compare .. => false
  | _ => true
/-- no super() -/
def noSuper : Expr → Bool
  | .Call (.Name x _) _ _ _ => x != ("super" : Str)
  | _ => true
def fewB (es : List Expr) : Bool := es.all noStar && decide (es.length < 30)
def BI.nm : BI → Str
  | .len => "len" | .abs => "abs" | .max => "max" | .min => "min" | .sum => "sum" | .all => "all" | .any => "any" | .list => "list" | .tuple => "tuple" | .str => "str" | .int => "int" | .repr => "repr"
def BI.val : BI → Value
  | .len => .builtin "len" | .abs => .builtin "abs" | .max => .builtin "max" | .min => .builtin "min" | .sum => .builtin "sum" | .all => .builtin "all" | .any => .builtin "any" | .list => .type "list" | .tuple => .type "tuple" | .str => .type "str" | .int => .type "int" | .repr => .builtin "repr"
def Mth.nm : Mth → Str
  | .append => "append" | .extend => "extend" | .pop => "pop" | .join => "join" | .split => "split" | .startswith => "startswith" | .endswith => "endswith" | .count => "count"
def ownN (N : List Str) (own : List Nat) : List (Str × Nat) := own.filterMap fun i => (N[i]?).map fun x => (x, i)
def blkB (N : List Str) (sc scope : Scope) (own : List Nat) : Bool :=
  decide (scope.kind = .function) && scope.names.all (fun y => scope.names.lookup y.1 == some y.2) && decide ((ownN N own).map (·.2) = own) &&
    scope.names.all (fun y => y.2 != .free || (sc.names.lookup y.1 == some .cell || sc.names.lookup y.1 == some .free)) && scope.names.all (fun y => !(y.2 == .local || y.2 == .cell) || ((ownN N own).map (·.1)).contains y.1 || !N.contains y.1)
def tgB (c : Sc) : List Expr → List Nat → Bool
  | [], [] => true
  | .Name x _ :: es, i :: is => slotB c i x && locB c x && tgB c es is
  | _, _ => false
def nmsB (c : Sc) (es : List Expr) : List Str := es.filterMap fun
  | .Name x _ => if c.sc.names.lookup x == some .local then some x else none
  | _ => none
def lineOk (es : List Expr) : Bool := match es with
  | [] => false
  | e :: r => r.all fun d => d.pos.line == e.pos.line
/-- a tuple's stores at once are not of constants alone -/
def liveTup (vs : List Expr) : Bool := !(vs.all (foldedForSure 8)) && !(vs.all (constantsAlone 8)) && vs.all noStar
/-- the stores of a tuple into these are one by one -/
def unswapped (c : Sc) (ts : List Expr) (v : Expr) : Bool := match v with
  | .Tuple vs _ _ => !(ts.length == 2 || ts.length == 3) || (vs.length != ts.length || (decide ((nmsB c ts).length ≠ ts.length) || vs.all (foldedForSure 8)))
  | _ => true
/-- the value is not put in place -/
def swapB (c : Sc) (t v : Expr) : Bool := noComp v || match v with
  | .ListComp .. => (match t with
    | .Name y _ => c.sc.names.lookup y != some .local
    | _ => true)
  | _ => false
/-- a comprehension's target -/
def compT (many unp : Bool) (tg : List Nat) (t : Expr) (c : Sc) : Bool := match t with
  | .Tuple es _ _ => (many || unp) && (!(many && unp) && tgB c es tg)
  | t => !(many || unp) && (decide (tg.length = 1) && tgB c [t] tg)
/-- a comprehension's tests: none, one -/
def ifsB (nl : Bool) (f : Expr → Bool) (ifs : List Expr) : Bool := match ifs with
  | [] => nl
  | [u] => !nl && f u
  | _ => false
def mat (G : Nm) : E → Sc → Mat
  | .nil, _ => { a := fun es => es.isEmpty, ss := fun l => l.isEmpty, gs := fun es => es.isEmpty, ps := fun es => es.isEmpty, ts := fun es => es.isEmpty }
  | .cons z0 z1, c => {
      a := fun es => (match es with
        | a :: r => noStar a && ((mat G z0 c).e a && (mat G z1 c).a r)
        | [] => false)
      gs := fun es => (match es with
        | a :: r => noStar a && ((mat G z0 c).g a && (mat G z1 c).gs r)
        | [] => false)
      ps := fun es => (match es with
        | a :: r => (mat G z0 c).e a && (mat G z1 c).ps r
        | [] => false) }
  | .star z0 z1, c => { a := fun es => match es with
      | .Starred a _ :: r => (mat G z0 c).e a && (mat G z1 c).a r
      | _ => false }
  | .var i, c => { e := fun x => match x with
      | .Name y _ => slotB c i y && visB c y
      | _ => false }
  | .cn k, c => { e := fun x => match x with
      | .Constant v _ _ => cnB v k
      | .Name y _ => decide (G.cons.lookup y = some k) && glB c y
      | _ => false }
  | .neg z0, c => { e := fun x => match x with
      | .UnaryOp .USub a _ => (mat G z0 c).e a
      | _ => false }
  | .tup z0, c => { e := fun x => match x with
      | .Tuple es _ _ => (mat G z0 c).a es
      | _ => false }
  | .lst z0, c => { e := fun x => match x with
      | .List es _ => (mat G z0 c).a es
      | _ => false }
  | .op o z0 z1, c => { e := fun x => match x with
      | .BinOp a p b _ => binB o p && ((mat G z0 c).e a && (mat G z1 c).e b)
      | .Compare a [p] [b] _ => cmpB o p && (noSet b && ((mat G z0 c).e a && (mat G z1 c).e b))
      | _ => false }
  | .chain o q z0 z1 z2, c => { e := fun x => match x with
      | .Compare a [p, r] [b, d] _ => cmpB o p && (cmpB q r && (noSet d && ((mat G z0 c).e a && ((mat G z1 c).e b && (mat G z2 c).e d))))
      | _ => false }
  | .ife z0 z1 z2, c => { e := fun x => match x with
      | .IfExp t a b _ => (mat G z0 c).e t && ((mat G z1 c).e a && (mat G z2 c).e b)
      | _ => false }
  | .andv z0 z1, c => { e := fun x => match x with
      | .BoolOp .And (a :: b :: r) p => (mat G z0 c).e a && (mat G z1 c).e (.BoolOp .And (b :: r) p)
      | _ => false }
  | .orv z0 z1, c => { e := fun x => match x with
      | .BoolOp .Or (a :: b :: r) p => (mat G z0 c).e a && (mat G z1 c).e (.BoolOp .Or (b :: r) p)
      | _ => false }
  | .last z0, c => { e := fun x => match x with
      | .BoolOp _ [a] _ => (mat G z0 c).e a
      | _ => false }
  | .notv z0, c => { e := fun x => match x with
      | .UnaryOp .Not a _ => (mat G z0 c).e a
      | _ => false }
  | .call f z0, c => { e := fun x => match x with
      | .Call (.Name y _) es [] _ => decide (y = f) && (G.fns.contains f && (glB c f && ((mat G z0 c).a es && (es.isEmpty || fewB (es.take 1)))))
      | _ => false }
  | .mk f z0, c => { e := fun x => match x with
      | .Call (.Name y _) (a :: es) [] _ => decide (y = f) && (G.mks.contains f && (glB c f && ((mat G z0 c).a (a :: es) && noStar a)))
      | _ => false }
  | .mkv i z0, c => { e := fun x => match x with
      | .Call (.Name y _) (a :: es) [] _ => slotB c i y && (visB c y && ((mat G z0 c).a (a :: es) && noStar a))
      | _ => false }
  | .cm k m z0, c => { e := fun x => match x with
      | .Call (.Attribute (.Name y _) n ap) (a :: es) [] p => decide (y = k) && (decide (n = m) && (G.cms.contains (k, m) && (glB c k && ((mat G z0 c).a (a :: es) && (fewB (a :: es) && ap.endLine == p.line)))))
      | _ => false }
  | .om m z0 z1, c => { e := fun x => match x with
      | .Call (.Attribute o n ap) es [] p => decide (n = m) && ((mat G z0 c).e o && (noSuper o && ((mat G z1 c).a es && (fewB es && ap.endLine == p.line))))
      | _ => false }
  | .bi b z0, c => { e := fun x => match x with
      | .Call (.Name y _) (a :: es) [] _ => decide (y = b.nm) && ((b != .repr || G.rep) && (glB c b.nm && ((mat G z0 c).a (a :: es) && fewB (a :: es))))
      | _ => false }
  | .bm m z0 z1, c => { e := fun x => match x with
      | .Call (.Attribute o n ap) es [] p => decide (n = m.nm) && ((mat G z0 c).e o && (noSuper o && ((mat G z1 c).a es && (fewB es && ap.endLine == p.line))))
      | _ => false }
  | .ix z0 z1, c => { e := fun x => match x with
      | .Subscript a b _ => noSlice b && ((mat G z0 c).e a && (mat G z1 c).e b)
      | _ => false }
  | .sl z0 z1 z2, c => { e := fun x => match x with
      | .Subscript a (.Slice l h none _) _ => (mat G z0 c).e a && ((match l with
          | none => z1.isNil
          | some l => !z1.isNil && (mat G z1 c).e l) && (match h with
          | none => z2.isNil
          | some h => !z2.isNil && (mat G z2 c).e h))
      | _ => false }
  | .attr f z0, c => { e := fun x => match x with
      | .Attribute o n _ => decide (n = f) && (noSuper o && (mat G z0 c).e o)
      | _ => false }
  | .isi T z0, c => { e := fun x => match x with
      | .Call (.Name y _) [a, .Name z _] [] _ => decide (y = ("isinstance" : Str)) && (glB c "isinstance" && (decide (z = Str.ofString T) && (decide (T ∈ tyNames) && (glB c (Str.ofString T) && (noStar a && (mat G z0 c).e a)))))
      | _ => false }
  | .fs z0, c => { e := fun x => match x with
      | .JoinedStr (v :: w :: es) _ => (mat G z0 c).ps (v :: w :: es)
      | _ => false }
  | .fp z0, c => { e := fun x => match x with
      | .FormattedValue a k none _ => decide (k = -1) && (mat G z0 c).e a
      | _ => false }
  | .comp own z0 tg unp z1 z2, c => { e := fun x => match x with
      | .ListComp el [⟨t, iter, ifs, 0⟩] scope _ =>
        noSet iter && (srcB z0.src (mat G z0 c).i (mat G z0 c).e t iter && (blkB c.N c.sc scope own && ((tg.all fun i => own.contains i) &&
          (compT z0.many unp tg t { c with sc := L2.relS scope c.sc, raw := some scope } && (ifsB z1.isNil (mat G z1 { c with sc := L2.relS scope c.sc, raw := some scope }).e ifs && (mat G z2 { c with sc := L2.relS scope c.sc, raw := some scope }).e el)))))
      | _ => false }
  | .rng1 z0, c => { i := fun _ x => match x with
      | .Call (.Name y _) [a] [] _ => decide (y = ("range" : Str)) && (glB c "range" && (noStar a && (mat G z0 c).e a))
      | _ => false }
  | .rng2 z0 z1, c => { i := fun _ x => match x with
      | .Call (.Name y _) [a, b] [] _ => decide (y = ("range" : Str)) && (glB c "range" && (noStar a && (noStar b && ((mat G z0 c).e a && (mat G z1 c).e b))))
      | _ => false }
  | .rng3 z0 z1 z2, c => { i := fun _ x => match x with
      | .Call (.Name y _) [a, b, d] [] _ => decide (y = ("range" : Str)) && (glB c "range" && (noStar a && (noStar b && (noStar d && ((mat G z0 c).e a && ((mat G z1 c).e b && (mat G z2 c).e d))))))
      | _ => false }
  | .enum z0, c => { i := fun t x => match t, x with
      | .Tuple .., .Call (.Name y _) [a] [] _ => decide (y = ("enumerate" : Str)) && (glB c "enumerate" && (noStar a && (mat G z0 c).e a))
      | _, _ => false }
  | .zip z0 z1, c => { i := fun t x => match t, x with
      | .Tuple .., .Call (.Name y _) [a, b] [] _ => decide (y = ("zip" : Str)) && (glB c "zip" && (noStar a && (noStar b && ((mat G z0 c).e a && (mat G z1 c).e b))))
      | _, _ => false }
  | .dead, _ => { e := fun _ => true, s := fun _ => true }
  | .sq z0 z1, c => { ss := fun l => match l with
      | s :: r => (mat G z0 c).s s && (mat G z1 c).ss r
      | [] => false }
  | .asg z0 z1, c => { s := fun s => match s with
      | .Assign [t] v _ => noStar t && (swapB c t v && ((mat G z0 c).g t && ((mat G z1 c).e v && (match t with
          | .Tuple ts _ _ => unswapped c ts v
          | .List .. => false
          | _ => true))))
      | _ => false }
  | .asgc i z0, c => { s := fun s => match s with
      | .Assign [.Name y q] (.ListComp el gs scope p) _ => slotB c i y && (c.sc.names.lookup y == some .local && ((mat G z0 c).e (.ListComp el gs scope p) && (c.raw.isNone && (q.line == p.line && !(scope.names.any fun (n, k) => n == y && (k == .local || k == .cell))))))
      | _ => false }
  | .par is z0, c => { s := fun s => match s with
      | .Assign [.Tuple ts _ _] (.Tuple vs _ _) _ => (mat G z0 c).a vs && (tgB c ts is && (decide ((nmsB c ts).length = ts.length) && (lineOk ts && (liveTup vs && (decide (vs.length = ts.length) && ((decide (ts.length = 2) || decide (ts.length = 3)) && (c.raw.isNone && (decide is.Nodup && decide ((nmsB c ts).Nodup)))))))))
      | _ => false }
  | .exp z0, c => { s := fun s => match s with
      | .Expr a _ => noComp a && (mat G z0 c).e a
      | _ => false }
  | .ret z0, c => { s := fun s => match s with
      | .Return (some a) _ => (mat G z0 c).e a
      | _ => false }
  | .retn, _ => { s := fun s => match s with
      | .Return none _ => true
      | _ => false }
  | .ifs z0 z1 z2, c => { s := fun s => match s with
      | .If t a b _ => (mat G z0 c).e t && ((mat G z1 c).ss a && (mat G z2 c).ss b)
      | _ => false }
  | .whl z0 z1, c => { s := fun s => match s with
      | .While t b [] _ => (mat G z0 c).e t && (mat G z1 c).ss b
      | _ => false }
  | .for1 z0 z1 z2, c => { s := fun s => match s with
      | .For t i b [] _ => !z1.many && (noSet i && ((mat G z0 c).g t && (srcB z1.src (mat G z1 c).i (mat G z1 c).e t i && (mat G z2 c).ss b)))
      | _ => false }
  | .forM z0 z1 z2, c => { s := fun s => match s with
      | .For (.Tuple es k p) i b [] _ => z1.many && (noSet i && ((mat G z0 c).gs es && (srcB z1.src (mat G z1 c).i (mat G z1 c).e (.Tuple es k p) i && (mat G z2 c).ss b)))
      | _ => false }
  | .pass, _ => { s := fun s => match s with
      | .Pass _ => true
      | _ => false }
  | .cont, _ => { s := fun s => match s with
      | .Continue _ => true
      | _ => false }
  | .gnm i, c => { g := fun x => match x with
      | .Name y _ => slotB c i y && locB c y
      | _ => false }
  | .gtp z0, c => { g := fun x => match x with
      | .Tuple es _ _ => (mat G z0 c).gs es
      | _ => false }
  | .gst z0, c => { g := fun x => match x with
      | .Tuple [a, .Starred b _] _ _ => noStar a && (mat G z0 c).gs [a, b]
      | _ => false }
  | .gfl f z0, c => { g := fun x => match x with
      | .Attribute o n _ => decide (n = f) && (mat G z0 c).e o
      | _ => false }
  | .gix z0 z1, c => { g := fun x => match x with
      | .Subscript a i _ => noSlice i && ((mat G z0 c).e a && (mat G z1 c).e i)
      | _ => false }
end C2

/-! What matches means what it says. -/
namespace C2
open PySem PySem.Spec PyProof.Rows L2
def freeNames : List Str := ["len", "abs", "max", "min", "sum", "all", "any", "list", "tuple", "str", "int", "bool", "dict", "repr", "isinstance", "range", "enumerate", "zip"]
structure CO (G : Nm) (T : CT) (C : Orc) (k : Nat) (c : Sc) (X : Cx) (W : WX) : Prop where
  hN : X.N = c.N
  hsc : X.env.scope = c.sc
  hfn : ∀ x, locB c x = true → X.fn x = true ∨ X.env.scope.names.lookup x = some .local
  nd : X.N.Nodup
  calm : X.calm = true
  tk : Takes X W
  rm : Room (k + 1) X.A
  gd : G.rep = true → X.A.guards = some []
  bk : c.raw = none → X.env.blockKind = .function
  po : c.raw = none → PassesOwn (model X.prog X.w) X.A X.env X.xe
  cons : ∀ x v, G.cons.lookup x = some v → ∃ u, X.mg x = some u ∧ RelV v.v u
  fns : ∀ x, G.fns.contains x = true → X.mg x = some (.ref (He.ga X.K x)) ∧ PySem.W.keepIn X.K (.ref (He.ga X.K x)) = true ∧ FnG X.prog X.w X.K X.mg X.base G.rep k (He.ga X.K x) (liftSp X.K (C (.fn x)))
  mks : ∀ x, G.mks.contains x = true → X.mg x = some (.ref (He.ga X.K x)) ∧ T.mks x = true
  mkT : ∀ x, T.mks x = true → ∃ f, Mk X.K (He.ga X.K x) f ∧ FnG X.prog X.w X.K X.mg X.base false k f (liftSp X.K (C (.me x "__init__")))
  cms : ∀ x m, G.cms.contains (x, m) = true → CmOk X C k x m ∧ X.mg x = some (.ref (He.ga X.K x))
  ats : AtOk X C T.pr k
  oms : OmOk X C k T.hm
  fr : ∀ x ∈ freeNames, X.mg x = none
section
variable {G : Nm} {T : CT} {C : Orc} {k : Nat} {c : Sc} {X : Cx} {W : WX}
theorem CO.hu (o : CO G T C k c X W) : X.A.units + 66 < cLine := by have := o.rm.un; omega
theorem CO.vis (o : CO G T C k c X W) {x : Str} (h : visB c x = true) : Vis X.env.scope x ∧ (x == ("__debug__" : Str)) = false ∧ (x == ("__classdict__" : Str)) = false := by
  unfold visB at h
  simp only [Bool.and_eq_true, Bool.or_eq_true, beq_iff_eq, bne_iff_ne, ne_eq] at h
  obtain ⟨h1, h2, h3⟩ := h
  refine ⟨?_, by simpa using h2, by simpa using h3⟩
  unfold Vis
  rw [o.hsc]
  rcases h1 with (h1 | h1) | h1
  · exact .inl h1
  · exact .inr (.inl h1)
  · exact .inr (.inr h1)
theorem CO.gl (o : CO G T C k c X W) {x : Str} (h : glB c x = true) : Gl X x ∧ (x == ("__debug__" : Str)) = false ∧ x ≠ "__name__" := by
  unfold glB at h
  simp only [Bool.and_eq_true, beq_iff_eq, bne_iff_ne, ne_eq] at h
  obtain ⟨h1, h2, h3⟩ := h
  refine ⟨?_, by simpa using h2, h3⟩
  show X.env.scope.names.lookup x = some .globalImplicit
  rw [o.hsc]; exact h1
theorem CO.slot (o : CO G T C k c X W) {i : Nat} {x : Str} (h : slotB c i x = true) : X.N[i]? = some x := by
  unfold slotB at h
  rw [o.hN]; exact of_decide_eq_true h
theorem CO.loc (o : CO G T C k c X W) {x : Str} (h : locB c x = true) : Loc X.env.scope x ∧ (X.fn x = true ∨ X.env.scope.names.lookup x = some .local) := by
  refine ⟨?_, o.hfn x h⟩
  unfold locB at h
  rw [o.hsc]
  simp only [Bool.or_eq_true, Bool.and_eq_true, beq_iff_eq] at h
  rcases h with h | h
  · exact .inl h
  · exact .inr h.1
/-- the context inside a comprehension -/
theorem CO.blk (o : CO G T C k c X W) (scope : Scope) (s : Shared) (H : Hp) (Cc : Addr) (cl : List (Str × Addr)) (fp : List Addr) : CO G T C k { c with sc := L2.relS scope c.sc, raw := some scope } (Blk X scope s H Cc cl fp) (fun _ _ _ _ => False) where
  hN := o.hN
  hsc := by
    show PySem.relabel scope X.env = L2.relS scope c.sc
    rw [← o.hsc]; rfl
  hfn := fun x h => by
    unfold locB at h
    simp only [Bool.or_eq_true, Bool.and_eq_true, beq_iff_eq] at h
    rcases h with h | h
    · refine .inr ?_
      show (PySem.relabel scope X.env).names.lookup x = some .local
      have e : PySem.relabel scope X.env = L2.relS scope c.sc := by rw [← o.hsc]; rfl
      rw [e]; exact h
    · refine .inl ?_
      show (scope.names.lookup x == some .cell) = true
      exact beq_iff_eq.mpr h.2
  nd := o.nd
  calm := o.calm
  tk := fun u s' ⟨_, _, _, _, _, _, _, _, _, _, _, _, _, _, _, _, w⟩ => w
  rm := o.rm
  gd := o.gd
  bk := fun z => nomatch z
  po := fun z => nomatch z
  cons := o.cons
  fns := o.fns
  mks := o.mks
  mkT := o.mkT
  cms := fun x m h => ⟨⟨(o.cms x m h).1.ok⟩, (o.cms x m h).2⟩
  ats := ⟨o.ats.cls, o.ats.fld, o.ats.prop⟩
  oms := ⟨o.oms.ok⟩
  fr := o.fr
end
/-! ### the text's forms -/
theorem backTo_all {pos : Pos} {env : PySem.Env} : ∀ {es : List Expr}, es.all noStar = true → (backTo pos (starEach es env)).all (fun x => !x.1) = true ∧ (backTo pos (starEach es env)).any (·.1) = false := by
  intro es
  induction es with
  | nil => intro _; exact ⟨rfl, rfl⟩
  | cons a es ih =>
    intro h
    rw [List.all_cons, Bool.and_eq_true] at h
    rw [starEach_cons h.1]
    exact ih h.2
theorem base_ok {o : Expr} {m : Str} {env : PySem.Env} {w : Sem Value} (h : noSuper o = true) : attributeBase o m env w = w := by
  unfold attributeBase
  cases o with
  | Call f args kws pos =>
    cases f with
    | Name x p =>
      have hx : (x != ("super" : Str)) = true := h
      cases args with
      | nil =>
        cases kws with
        | nil => simp [hx]
        | cons _ _ => rfl
      | cons _ _ => rfl
    | _ => rfl
  | _ => rfl
theorem starEach_len {env : PySem.Env} : ∀ es : List Expr, (starEach es env).length = es.length
  | [] => rfl
  | a :: es => by
    have : (starEach (a :: es) env).length = (starEach es env).length + 1 := by cases a <;> rfl
    rw [this, starEach_len es]; rfl
theorem form_ok {es : List Expr} {pos : Pos} {env : PySem.Env} (h : fewB es = true) : methodCallForm (es.length + ([] : List Keyword).length) (backTo pos (starEach es env)) (backToKw pos (keywordEach [] env)) = true := by
  unfold fewB at h
  rw [Bool.and_eq_true] at h
  unfold methodCallForm
  rw [(backTo_all h.1).1]
  have h2 := of_decide_eq_true h.2
  show (true && true && decide (es.length + 0 + 0 < 30)) = true
  simp [h2]
theorem few_ok {es : List Expr} {pos : Pos} {env : PySem.Env} (h : fewB es = true) : ((backTo pos (starEach es env)).all (fun x => !x.1) && (backToKw pos (keywordEach [] env)).all (fun x => x.1.isSome)
      && decide (es.length + ([] : List Keyword).length + (if ([] : List Keyword).isEmpty then 0 else 1) < 30)) = true := form_ok h
theorem few_cons {a : Expr} {es : List Expr} (h : fewB (a :: es) = true) : noStar a = true ∧ es.all noStar = true := by
  unfold fewB at h
  rw [Bool.and_eq_true, List.all_cons, Bool.and_eq_true] at h
  exact h.1
theorem plainIx_ok {b : Expr} (h : noSlice b = true) : PlainIx b := by
  intro o i
  cases b with
  | Slice _ _ _ _ => cases h
  | _ => rfl
theorem noMark_ok {op : CmpOp} {b : Expr} (h : noSet b = true) : behindInMarks op b = false := by
  cases b with
  | Set _ _ _ => cases h
  | _ => rfl
theorem fold_ok {i : Expr} {env : PySem.Env} (h : noSet i = true) : ∀ x, foldedSetIterable i env x = pure x := by
  intro x
  cases i with
  | Set _ _ _ => cases h
  | _ => rfl
theorem swap_ok {v : Expr} {t : Option Expr} {n : Nat} {env : PySem.Env} (h : noComp v = true) : swapsWith v t n env = pure false := by
  cases v with
  | ListComp _ _ _ _ => cases h
  | SetComp _ _ _ _ => cases h
  | DictComp _ _ _ _ _ => cases h
  | _ => rfl
theorem assignEach_cons {a : Expr} {es : List Expr} {env : PySem.Env} (h : noStar a = true) : assignEach (a :: es) env = (false, assign a env) :: assignEach es env := by
  cases a <;> first | rfl | cases h
/-! ### the parts' soundness -/
theorem PA.one {X : Cx} {es : List Expr} {t t' : TA} (h : PA X es t) (e : t = t') : PA X es t' := e ▸ h
structure Snd (G : Nm) (T : CT) (C : Orc) (k : Nat) (z : E) : Prop where
  e : ∀ c X W x, CO G T C k c X W → (mat G z c).e x = true → PEd X W x (den C T z).e
  t : ∀ c X W x, CO G T C k c X W → (mat G z c).e x = true → PTd X W x (den C T z).t
  w : ∀ c X W op vs p, CO G T C k c X W → (mat G z c).e (.BoolOp op vs p) = true → PWd X W (.BoolOp op vs p) (den C T z).t
  a : ∀ c X W es, CO G T C k c X W → (mat G z c).a es = true → PAd X W es (den C T z).a
  s : ∀ c X W x, c.raw = none → CO G T C k c X W → (mat G z c).s x = true → PSd X W x (den C T z).s
  ss : ∀ c X W x, c.raw = none → CO G T C k c X W → (mat G z c).ss x = true → PSsd X W x (den C T z).ss
  g : ∀ c X W x, CO G T C k c X W → (mat G z c).g x = true → PGd X W x (den C T z).g
  gs : ∀ c X W es, CO G T C k c X W → (mat G z c).gs es = true → PGsd X W es (den C T z).gs ∧ (assignEach es X.env).length = z.glen ∧ (assignEach es X.env).findIdx? (·.1) = none
  i : ∀ c X W tg x, CO G T C k c X W → srcB z.src (mat G z c).i (mat G z c).e tg x = true → PId X W z.many tg x (den C T z).i
  ps : ∀ c X W es, CO G T C k c X W → (mat G z c).ps es = true → PJ X es ((den C T z).p.map (liftE X.K W))
end C2

/-! Each piece is sound. -/
namespace C2
open PySem PySem.Spec PyProof.Rows L2
section
variable {G : Nm} {T : CT} {C : Orc} {k : Nat}
theorem plainT_ok {x : Expr} {env : PySem.Env} (h : plainT x = true) : ∀ whole, isTrue x env whole = (do let v ← whole; standAt x.pos; holding [v] (truthy v)) := by
  intro whole
  cases x with
  | BoolOp _ _ _ => cases h
  | IfExp _ _ _ _ => cases h
  | Compare _ _ _ _ => cases h
  | UnaryOp op _ _ => cases op <;> first | rfl | cases h
  | _ => rfl
theorem Snd.val {z : E} {f : DE} (hd : den C T z = Den.val f) (hm : ∀ c, mat G z c = { e := (mat G z c).e }) (hz : z.src = false) (hy : z.many = false) (he : ∀ c X W x, CO G T C k c X W → (mat G z c).e x = true → PEd X W x f ∧ plainT x = true) : Snd G T C k z where
  e := fun c X W x o h => by rw [hd]; exact (he c X W x o h).1
  t := fun c X W x o h => by rw [hd]; exact d_tE (he c X W x o h).1 (plainT_ok (he c X W x o h).2)
  w := fun c X W op vs p o h => nomatch (he c X W _ o h).2
  a := fun c X W es o h => by rw [hm c] at h; cases h
  s := fun c X W x _ o h => by rw [hm c] at h; cases h
  ss := fun c X W x _ o h => by rw [hm c] at h; cases h
  g := fun c X W x o h => by rw [hm c] at h; cases h
  gs := fun c X W x o h => by rw [hm c] at h; cases h
  i := fun c X W tg x o h => by
    unfold srcB at h
    rw [hz] at h
    rw [hd, hy]
    exact i_of (he c X W x o (by simpa using h)).1
  ps := fun c X W x o h => by rw [hm c] at h; cases h
theorem Snd.stm {z : E} {f : DS} (hd : den C T z = { s := f }) (hm : ∀ c, mat G z c = { s := (mat G z c).s }) (hz : z.src = false) (hs : ∀ c X W x, c.raw = none → CO G T C k c X W → (mat G z c).s x = true → PSd X W x f) : Snd G T C k z where
  e := fun c X W x o h => by rw [hm c] at h; cases h
  t := fun c X W x o h => by rw [hm c] at h; cases h
  w := fun c X W op vs p o h => by rw [hm c] at h; cases h
  a := fun c X W es o h => by rw [hm c] at h; cases h
  s := fun c X W x hr o h => by rw [hd]; exact hs c X W x hr o h
  ss := fun c X W x _ o h => by rw [hm c] at h; cases h
  g := fun c X W x o h => by rw [hm c] at h; cases h
  gs := fun c X W x o h => by rw [hm c] at h; cases h
  i := fun c X W tg x o h => by unfold srcB at h; rw [hz, hm c] at h; cases h
  ps := fun c X W x o h => by rw [hm c] at h; cases h
theorem Snd.tgt {z : E} {f : DG} (hd : den C T z = { g := f }) (hm : ∀ c, mat G z c = { g := (mat G z c).g }) (hz : z.src = false) (hs : ∀ c X W x, CO G T C k c X W → (mat G z c).g x = true → PGd X W x f) : Snd G T C k z where
  e := fun c X W x o h => by rw [hm c] at h; cases h
  t := fun c X W x o h => by rw [hm c] at h; cases h
  w := fun c X W op vs p o h => by rw [hm c] at h; cases h
  a := fun c X W es o h => by rw [hm c] at h; cases h
  s := fun c X W x _ o h => by rw [hm c] at h; cases h
  ss := fun c X W x _ o h => by rw [hm c] at h; cases h
  g := fun c X W x o h => by rw [hd]; exact hs c X W x o h
  gs := fun c X W x o h => by rw [hm c] at h; cases h
  i := fun c X W tg x o h => by unfold srcB at h; rw [hz, hm c] at h; cases h
  ps := fun c X W x o h => by rw [hm c] at h; cases h
theorem Snd.itr {z : E} {f : DI} (hd : den C T z = { i := f }) (hm : ∀ c, mat G z c = { i := (mat G z c).i }) (hz : z.src = true) (hs : ∀ c X W tg x, CO G T C k c X W → (mat G z c).i tg x = true → PId X W z.many tg x f) : Snd G T C k z where
  e := fun c X W x o h => by rw [hm c] at h; cases h
  t := fun c X W x o h => by rw [hm c] at h; cases h
  w := fun c X W op vs p o h => by rw [hm c] at h; cases h
  a := fun c X W es o h => by rw [hm c] at h; cases h
  s := fun c X W x _ o h => by rw [hm c] at h; cases h
  ss := fun c X W x _ o h => by rw [hm c] at h; cases h
  g := fun c X W x o h => by rw [hm c] at h; cases h
  gs := fun c X W x o h => by rw [hm c] at h; cases h
  i := fun c X W tg x o h => by
    unfold srcB at h
    rw [hz] at h
    rw [hd]
    exact hs c X W tg x o (by simpa using h)
  ps := fun c X W x o h => by rw [hm c] at h; cases h
/-- a value that is asked by its own rule -/
theorem Snd.tst {z : E} {f : DE} {u : DT} {j : DI} (hd : den C T z = { e := f, t := u, i := j }) (hm : ∀ c, mat G z c = { e := (mat G z c).e }) (hz : z.src = false) (hy : z.many = false) (he : ∀ c X W x, CO G T C k c X W → (mat G z c).e x = true → PEd X W x f) (ht : ∀ c X W x, CO G T C k c X W → (mat G z c).e x = true → PTd X W x u)
    (hw : ∀ c X W op vs p, CO G T C k c X W → (mat G z c).e (.BoolOp op vs p) = true → PWd X W (.BoolOp op vs p) u) (hj : j = (fun _ _ _ _ => False) ∨ j = iOf f) : Snd G T C k z where
  e := fun c X W x o h => by rw [hd]; exact he c X W x o h
  t := fun c X W x o h => by rw [hd]; exact ht c X W x o h
  w := fun c X W op vs p o h => by rw [hd]; exact hw c X W op vs p o h
  a := fun c X W es o h => by rw [hm c] at h; cases h
  s := fun c X W x _ o h => by rw [hm c] at h; cases h
  ss := fun c X W x _ o h => by rw [hm c] at h; cases h
  g := fun c X W x o h => by rw [hm c] at h; cases h
  gs := fun c X W x o h => by rw [hm c] at h; cases h
  i := fun c X W tg x o h => by
    unfold srcB at h
    rw [hz] at h
    rw [hd, hy]
    rcases hj with rfl | rfl
    · exact ⟨fun pins s σ H R I ⟨_, _, _, _, _, _, z, _⟩ => z.elim⟩
    · exact i_of (he c X W x o (by simpa using h))
  ps := fun c X W x o h => by rw [hm c] at h; cases h

/-! ### the operators -/
theorem opD_of {X : Cx} {o : O2} {p : Operator} (h : binB o p = true) : OpD X (binaryOp p) (den2 o) := by
  cases o <;> cases p <;> simp [binB] at h
  · exact o_add
  · exact o_sub
  · exact o_mul
  · exact o_mod
  · exact o_div
  · exact o_pow
theorem cmpD_of {X : Cx} {o : O2} {p : CmpOp} (hu : X.A.units + 66 < cLine) (h : cmpB o p = true) : OpD X (compareOp p) (den2 o) := by
  cases o <;> cases p <;> simp [cmpB] at h
  · exact o_eq (by omega)
  · exact o_ne (by omega)
  · exact o_lt
  · exact o_le
  · exact o_gt
  · exact o_ge
  · exact o_is
  · exact o_isnt
  · exact o_in hu
  · exact o_notIn hu
theorem isCmp_bin {o : O2} {p : Operator} (h : binB o p = true) : isCmp o = false := by
  cases o <;> cases p <;> simp [binB] at h <;> rfl
theorem isCmp_cmp {o : O2} {p : CmpOp} (h : cmpB o p = true) : isCmp o = true := by
  cases o <;> cases p <;> simp [cmpB] at h <;> rfl
theorem snd_op {o : O2} {a b : E} (ha : Snd G T C k a) (hb : Snd G T C k b) : Snd G T C k (.op o a b) := by
  have key : ∀ c X W x, CO G T C k c X W → (mat G (.op o a b) c).e x = true → PEd X W x (e2 (den2 o) (den C T a).e (den C T b).e) ∧ PTd X W x (tSel (isCmp o) (tBl (e2 (den2 o) (den C T a).e (den C T b).e)) (tE (e2 (den2 o) (den C T a).e (den C T b).e))) ∧ (∀ op vs p, x ≠ .BoolOp op vs p) := by
    intro c X W x co h
    cases x with
    | BinOp l p r pos =>
      simp only [mat, Bool.and_eq_true] at h
      obtain ⟨h1, h2, h3⟩ := h
      obtain ⟨rr, ho, hk⟩ := opD_of (X := X) h1
      have hv := d_bin ho hk (pos := pos) (ha.e c X W l co h2) (hb.e c X W r co h3)
      refine ⟨hv, ?_, fun _ _ _ => nofun⟩
      rw [isCmp_bin h1]
      exact d_tE hv (plainT_ok rfl)
    | Compare l ps rs pos =>
      match ps, rs, h with
      | [p], [r], h =>
        simp only [mat, Bool.and_eq_true] at h
        obtain ⟨h1, h0, h2, h3⟩ := h
        obtain ⟨rr, ho, hk⟩ := cmpD_of (X := X) co.hu h1
        refine ⟨d_cmp ho hk (noMark_ok h0) (ha.e c X W l co h2) (hb.e c X W r co h3), ?_, fun _ _ _ => nofun⟩
        rw [isCmp_cmp h1]
        exact d_tCmp ho hk (noMark_ok h0) (ha.e c X W l co h2) (hb.e c X W r co h3)
    | _ => simp [mat] at h
  exact Snd.tst rfl (fun _ => rfl) rfl rfl (fun c X W x co h => (key c X W x co h).1) (fun c X W x co h => (key c X W x co h).2.1) (fun c X W op vs p co h => absurd rfl ((key c X W _ co h).2.2 op vs p)) (.inr rfl)
theorem snd_chain {o q : O2} {a b d : E} (ha : Snd G T C k a) (hb : Snd G T C k b) (hd : Snd G T C k d) : Snd G T C k (.chain o q a b d) := by
  have key : ∀ c X W x, CO G T C k c X W → (mat G (.chain o q a b d) c).e x = true → PEd X W x (eChain (den2 o) (den2 q) (den C T a).e (den C T b).e (den C T d).e) ∧ PTd X W x (tBl (eChain (den2 o) (den2 q) (den C T a).e (den C T b).e (den C T d).e)) ∧ (∀ op vs p, x ≠ .BoolOp op vs p) := by
    intro c X W x co h
    cases x with
    | Compare l ps rs pos =>
      match ps, rs, h with
      | [p, r], [m, n], h =>
        simp only [mat, Bool.and_eq_true] at h
        obtain ⟨h1, h2, h0, h3, h4, h5⟩ := h
        obtain ⟨_, ho, hk⟩ := cmpD_of (X := X) co.hu h1
        obtain ⟨_, ho', hk'⟩ := cmpD_of (X := X) co.hu h2
        have hm : lastMarks [p, r] [m, n] = false := noMark_ok h0
        exact ⟨d_chain ho ho' hk hk' (ha.e c X W l co h3) (hb.e c X W m co h4) (hd.e c X W n co h5) hm, d_tchain ho ho' hk hk' (ha.e c X W l co h3) (hb.e c X W m co h4) (hd.e c X W n co h5) hm, fun _ _ _ => nofun⟩
    | _ => simp [mat] at h
  exact Snd.tst rfl (fun _ => rfl) rfl rfl (fun c X W x co h => (key c X W x co h).1) (fun c X W x co h => (key c X W x co h).2.1) (fun c X W op vs p co h => absurd rfl ((key c X W _ co h).2.2 op vs p)) (.inl rfl)
theorem t_dead {X : Cx} {W : WX} {a : Expr} : PTd X W a (fun _ _ _ _ => False) := ⟨fun pins s σ H Q I ⟨R, env, S, q, e, rs, h, _⟩ => h.elim⟩
theorem w_dead {X : Cx} {W : WX} {a : Expr} : PWd X W a (fun _ _ _ _ => False) := ⟨fun w pins s σ H Q I ⟨R, env, S, q, e, rs, h, _⟩ => h.elim⟩
theorem snd_ife {t a b : E} (ht : Snd G T C k t) (ha : Snd G T C k a) (hb : Snd G T C k b) : Snd G T C k (.ife t a b) :=
  Snd.tst (z := .ife t a b) rfl (fun _ => rfl) rfl rfl (fun c X W x co h => by
    cases x with
    | IfExp u v w pos =>
      simp only [mat, Bool.and_eq_true] at h
      exact d_if (ht.t c X W u co h.1) (ha.e c X W v co h.2.1) (hb.e c X W w co h.2.2)
    | _ => simp [mat] at h) (fun c X W x co h => t_dead) (fun c X W op vs p co h => w_dead) (.inr rfl)
theorem snd_andv {a b : E} (ha : Snd G T C k a) (hb : Snd G T C k b) : Snd G T C k (.andv a b) := by
  have key : ∀ c X W x, CO G T C k c X W → (mat G (.andv a b) c).e x = true → PEd X W x (eAnd (den C T a).e (den C T b).e) ∧ PWd X W x (tAnd2 (den C T a).t (den C T b).t) := by
    intro c X W x co h
    cases x with
    | BoolOp op vs pos =>
      cases op with
      | And =>
        match vs, h with
        | u :: v :: r, h =>
          simp only [mat, Bool.and_eq_true] at h
          exact ⟨d_vand (ha.e c X W u co h.1) (hb.e c X W _ co h.2), d_tand (ha.t c X W u co h.1) (hb.w c X W _ _ _ co h.2)⟩
      | Or => simp [mat] at h
    | _ => simp [mat] at h
  exact Snd.tst rfl (fun _ => rfl) rfl rfl (fun c X W x co h => (key c X W x co h).1) (fun c X W x co h => (key c X W x co h).2.pt) (fun c X W op vs p co h => (key c X W _ co h).2) (.inl rfl)
theorem snd_orv {a b : E} (ha : Snd G T C k a) (hb : Snd G T C k b) : Snd G T C k (.orv a b) := by
  have key : ∀ c X W x, CO G T C k c X W → (mat G (.orv a b) c).e x = true → PEd X W x (eOr (den C T a).e (den C T b).e) ∧ PWd X W x (tOr2 (den C T a).t (den C T b).t) := by
    intro c X W x co h
    cases x with
    | BoolOp op vs pos =>
      cases op with
      | Or =>
        match vs, h with
        | u :: v :: r, h =>
          simp only [mat, Bool.and_eq_true] at h
          exact ⟨d_vor (ha.e c X W u co h.1) (hb.e c X W _ co h.2), d_tor (ha.t c X W u co h.1) (hb.w c X W _ _ _ co h.2)⟩
      | And => simp [mat] at h
    | _ => simp [mat] at h
  exact Snd.tst rfl (fun _ => rfl) rfl rfl (fun c X W x co h => (key c X W x co h).1) (fun c X W x co h => (key c X W x co h).2.pt) (fun c X W op vs p co h => (key c X W _ co h).2) (.inl rfl)
theorem snd_last {a : E} (ha : Snd G T C k a) : Snd G T C k (.last a) := by
  have key : ∀ c X W x, CO G T C k c X W → (mat G (.last a) c).e x = true → PEd X W x (den C T a).e ∧ PWd X W x (den C T a).t := by
    intro c X W x co h
    cases x with
    | BoolOp op vs pos =>
      match vs, h with
      | [u], h =>
        have h' : (mat G a c).e u = true := h
        refine ⟨pe_one (ha.e c X W u co h'), ?_⟩
        cases op with
        | And => exact d_and1 (ha.t c X W u co h')
        | Or => exact d_or1 (ha.t c X W u co h')
    | _ => simp [mat] at h
  exact Snd.tst rfl (fun _ => rfl) rfl rfl (fun c X W x co h => (key c X W x co h).1) (fun c X W x co h => (key c X W x co h).2.pt) (fun c X W op vs p co h => (key c X W _ co h).2) (.inl rfl)
theorem snd_notv {a : E} (ha : Snd G T C k a) : Snd G T C k (.notv a) := by
  have key : ∀ c X W x, CO G T C k c X W → (mat G (.notv a) c).e x = true → PEd X W x (eNot (den C T a).e) ∧ PTd X W x (tNot2 (den C T a).t) ∧ (∀ op vs p, x ≠ .BoolOp op vs p) := by
    intro c X W x co h
    cases x with
    | UnaryOp op u pos =>
      cases op with
      | Not =>
        have h' : (mat G a c).e u = true := h
        exact ⟨d_vnot (ha.e c X W u co h'), d_not (ha.t c X W u co h'), fun _ _ _ => nofun⟩
      | _ => simp [mat] at h
    | _ => simp [mat] at h
  exact Snd.tst rfl (fun _ => rfl) rfl rfl (fun c X W x co h => (key c X W x co h).1) (fun c X W x co h => (key c X W x co h).2.1) (fun c X W op vs p co h => absurd rfl ((key c X W _ co h).2.2 op vs p)) (.inl rfl)
theorem snd_var {i : Nat} : Snd G T C k (.var i) := Snd.val rfl (fun _ => rfl) rfl rfl fun c X W x co h => by
  cases x with
  | Name y p =>
    simp only [mat, Bool.and_eq_true] at h
    obtain ⟨h1, h2, h3⟩ := co.vis h.2
    exact ⟨d_var (co.slot h.1) h1 h2 h3, rfl⟩
  | _ => simp [mat] at h
theorem pe_cn {X : Cx} {v : Const} {n : Cn} {u : Nat} {p : Pos} (h : cnB v n = true) : PE X (.Constant v u p) (tC n.v) := by
  cases v <;> cases n <;> simp [cnB] at h
  · exact pe_non
  · subst h; exact pe_bl
  · subst h; exact pe_int
  · subst h; exact pe_str
theorem snd_cn {n : Cn} : Snd G T C k (.cn n) := Snd.val rfl (fun _ => rfl) rfl rfl fun c X W x co h => by
  cases x with
  | Constant v u p => exact ⟨d_const n (pe_cn h), rfl⟩
  | Name y p =>
    simp only [mat, Bool.and_eq_true, decide_eq_true_eq] at h
    obtain ⟨u, hm, r⟩ := co.cons y n h.1
    obtain ⟨g1, g2, _⟩ := co.gl h.2
    exact ⟨d_const n (pe_glob g1 hm r g2), rfl⟩
  | _ => simp [mat] at h
theorem un_neg1 {X : Cx} : Op1 X.K dNeg (rU fun i => .int (-i)) := fun d v H S q Q r s h k => by
  cases d with
  | int i => exact ⟨i, rd_int r, k.int s h⟩
  | _ => exact h.elim
theorem snd_neg {a : E} (ha : Snd G T C k a) : Snd G T C k (.neg a) := Snd.val rfl (fun _ => rfl) rfl rfl fun c X W x co h => by
  cases x with
  | UnaryOp op u pos =>
    cases op with
    | USub =>
      have h' : (mat G a c).e u = true := h
      exact ⟨d_un un_neg un_neg1 (ha.e c X W u co h'), rfl⟩
    | _ => simp [mat] at h
  | _ => simp [mat] at h
theorem snd_tup {a : E} (ha : Snd G T C k a) : Snd G T C k (.tup a) := Snd.val rfl (fun _ => rfl) rfl rfl fun c X W x co h => by
  cases x with
  | Tuple es n p => exact ⟨d_tup (ha.a c X W es co h), rfl⟩
  | _ => simp [mat] at h
theorem snd_lst {a : E} (ha : Snd G T C k a) : Snd G T C k (.lst a) := Snd.val rfl (fun _ => rfl) rfl rfl fun c X W x co h => by
  cases x with
  | List es p => exact ⟨d_lst (ha.a c X W es co h), rfl⟩
  | _ => simp [mat] at h
end
end C2

/-! Each piece is sound: argument lists, calls, walks. -/
namespace C2
open PySem PySem.Spec PyProof.Rows L2
section
variable {G : Nm} {T : CT} {C : Orc} {k : Nat}
theorem i_dead {X : Cx} {W : WX} {m : Bool} {a b : Expr} : PId X W m a b (fun _ _ _ _ => False) := ⟨fun pins s σ H R I ⟨_, _, _, _, _, _, z, _⟩ => z.elim⟩
theorem snd_nil : Snd G T C k .nil where
  e := fun c X W x o h => by cases h
  t := fun c X W x o h => by cases h
  w := fun c X W op vs p o h => by cases h
  a := fun c X W es o h => by
    have e : es = [] := List.isEmpty_iff.mp h
    subst e; exact d_nil
  s := fun c X W x _ o h => by cases h
  ss := fun c X W x _ o h => by
    have e : x = [] := List.isEmpty_iff.mp h
    subst e; exact s_nil
  g := fun c X W x o h => by cases h
  gs := fun c X W es o h => by
    have e : es = [] := List.isEmpty_iff.mp h
    subst e; exact ⟨g_nil, rfl, rfl⟩
  i := fun c X W tg x o h => by cases h
  ps := fun c X W es o h => by
    have e : es = [] := List.isEmpty_iff.mp h
    subst e; exact .nil
theorem snd_cons {a r : E} (ha : Snd G T C k a) (hr : Snd G T C k r) : Snd G T C k (.cons a r) where
  e := fun c X W x o h => by cases h
  t := fun c X W x o h => by cases h
  w := fun c X W op vs p o h => by cases h
  a := fun c X W es o h => by
    cases es with
    | nil => cases h
    | cons x xs =>
      simp only [mat, Bool.and_eq_true] at h
      exact d_cons (ha.e c X W x o h.2.1) (hr.a c X W xs o h.2.2) (starEach_cons h.1)
  s := fun c X W x _ o h => by cases h
  ss := fun c X W x _ o h => by cases h
  g := fun c X W x o h => by cases h
  gs := fun c X W es o h => by
    cases es with
    | nil => cases h
    | cons x xs =>
      simp only [mat, Bool.and_eq_true] at h
      obtain ⟨h1, h2, h3⟩ := h
      obtain ⟨q1, q2, q3⟩ := hr.gs c X W xs o h3
      have e := assignEach_cons (es := xs) (env := X.env) h1
      refine ⟨g_cons (ha.g c X W x o h2) q1 (by rw [e]; rfl), ?_, ?_⟩
      · rw [e]; show (assignEach xs X.env).length + 1 = _; rw [q2]; rfl
      · rw [e, List.findIdx?_cons]; simp [q3]
  i := fun c X W tg x o h => by cases h
  ps := fun c X W es o h => by
    cases es with
    | nil => cases h
    | cons x xs =>
      simp only [mat, Bool.and_eq_true] at h
      exact .cons (ha.e c X W x o h.1) (hr.ps c X W xs o h.2)
theorem snd_star {a r : E} (ha : Snd G T C k a) (hr : Snd G T C k r) : Snd G T C k (.star a r) where
  e := fun c X W x o h => by cases h
  t := fun c X W x o h => by cases h
  w := fun c X W op vs p o h => by cases h
  a := fun c X W es o h => by
    cases es with
    | nil => cases h
    | cons x xs =>
      cases x with
      | Starred y p =>
        simp only [mat, Bool.and_eq_true] at h
        exact d_star (ha.e c X W y o h.1) (hr.a c X W xs o h.2) starEach_star
      | _ => simp [mat] at h
  s := fun c X W x _ o h => by cases h
  ss := fun c X W x _ o h => by cases h
  g := fun c X W x o h => by cases h
  gs := fun c X W es o h => by cases h
  i := fun c X W tg x o h => by cases h
  ps := fun c X W es o h => by cases h
theorem fewTake {a : Expr} {es : List Expr} (h : fewB ((a :: es).take 1) = true) : noStar a = true := by
  have := few_cons (a := a) (es := []) h
  exact this.1
theorem snd_call {f : Str} {t : E} (ht : Snd G T C k t) (hz : ∀ c, (mat G t c).a [] = true → (den C T t).a = aNil) : Snd G T C k (.call f t) := Snd.val rfl (fun _ => rfl) rfl rfl fun c X W x co h => by
  cases x with
  | Call fn es kws pos =>
    cases fn with
    | Name y p =>
      cases kws with
      | nil =>
        simp only [mat, Bool.and_eq_true, decide_eq_true_eq, Bool.or_eq_true] at h
        obtain ⟨rfl, h1, h2, h3, h4⟩ := h
        obtain ⟨hm, hk, F⟩ := co.fns y h1
        obtain ⟨g1, g2, _⟩ := co.gl h2
        refine ⟨?_, rfl⟩
        cases es with
        | nil =>
          rw [hz c h3]
          exact d_call0 F (co.rm.mono (Nat.le_succ _)) co.gd co.tk g1 hm hk g2
        | cons a es =>
          have hn : noStar a = true := fewTake (h4.elim (fun z => nomatch z) id)
          exact d_call F (co.rm.mono (Nat.le_succ _)) co.gd co.tk g1 hm hk g2 hn (ht.a c X W _ co h3)
      | cons _ _ => simp [mat] at h
    | _ => simp [mat] at h
  | _ => simp [mat] at h
theorem snd_mk {f : Str} {t : E} (ht : Snd G T C k t) : Snd G T C k (.mk f t) := Snd.val rfl (fun _ => rfl) rfl rfl fun c X W x co h => by
  cases x with
  | Call fn es kws pos =>
    cases fn with
    | Name y p =>
      cases kws with
      | nil =>
        cases es with
        | nil => simp [mat] at h
        | cons a es =>
          simp only [mat, Bool.and_eq_true, decide_eq_true_eq] at h
          obtain ⟨rfl, h1, h2, h3, h4⟩ := h
          obtain ⟨hm, hk⟩ := co.mks y h1
          obtain ⟨ff, M, F⟩ := co.mkT y hk
          obtain ⟨g1, g2, _⟩ := co.gl h2
          exact ⟨d_mk M F co.rm co.tk g1 hm g2 h4 (ht.a c X W _ co h3), rfl⟩
      | cons _ _ => simp [mat] at h
    | _ => simp [mat] at h
  | _ => simp [mat] at h
theorem snd_mkv {i : Nat} {t : E} (ht : Snd G T C k t) : Snd G T C k (.mkv i t) := Snd.val rfl (fun _ => rfl) rfl rfl fun c X W x co h => by
  cases x with
  | Call fn es kws pos =>
    cases fn with
    | Name y p =>
      cases kws with
      | nil =>
        cases es with
        | nil => simp [mat] at h
        | cons a es =>
          simp only [mat, Bool.and_eq_true, decide_eq_true_eq] at h
          obtain ⟨h1, h2, h3, h4⟩ := h
          obtain ⟨g1, g2, g3⟩ := co.vis h2
          exact ⟨d_mkV co.mkT co.rm co.tk (co.slot h1) g1 g2 g3 h4 (ht.a c X W _ co h3), rfl⟩
      | cons _ _ => simp [mat] at h
    | _ => simp [mat] at h
  | _ => simp [mat] at h
theorem snd_cm {q m : Str} {t : E} (ht : Snd G T C k t) : Snd G T C k (.cm q m t) := Snd.val rfl (fun _ => rfl) rfl rfl fun c X W x co h => by
  cases x with
  | Call fn es kws pos =>
    cases fn with
    | Attribute o n ap =>
      cases o with
      | Name y p =>
        cases kws with
        | nil =>
          cases es with
          | nil => simp [mat] at h
          | cons a es =>
            simp only [mat, Bool.and_eq_true, decide_eq_true_eq] at h
            obtain ⟨rfl, rfl, h1, h2, h3, h4, h5⟩ := h
            obtain ⟨hc, hm⟩ := co.cms _ _ h1
            obtain ⟨g1, g2, _⟩ := co.gl h2
            exact ⟨d_cm hc (co.rm.mono (Nat.le_succ _)) co.tk g1 hm g2 (few_cons h4).1 (form_ok h4) h5 (ht.a c X W _ co h3), rfl⟩
        | cons _ _ => cases es <;> simp [mat] at h
      | _ => simp [mat] at h
    | _ => simp [mat] at h
  | _ => simp [mat] at h
theorem snd_om {m : Str} {o t : E} (ho : Snd G T C k o) (ht : Snd G T C k t) (hz : ∀ c, (mat G t c).a [] = true → (den C T t).a = aNil) : Snd G T C k (.om m o t) := Snd.val rfl (fun _ => rfl) rfl rfl fun c X W x co h => by
  cases x with
  | Call fn es kws pos =>
    cases fn with
    | Attribute ob n ap =>
      cases kws with
      | nil =>
        simp only [mat, Bool.and_eq_true, decide_eq_true_eq] at h
        obtain ⟨rfl, h1, h2, h3, h4, h5⟩ := h
        refine ⟨d_om co.oms (co.rm.mono (Nat.le_succ _)) co.tk (base_ok h2) (form_ok h4) h5 (ho.e c X W _ co h1) ?_, rfl⟩
        cases es with
        | nil => exact .inl ⟨rfl, hz c h3⟩
        | cons a es => exact .inr ⟨a, es, rfl, (few_cons h4).1, ht.a c X W _ co h3⟩
      | cons _ _ => simp [mat] at h
    | _ => simp [mat] at h
  | _ => simp [mat] at h
theorem boot_bi (b : BI) : bootBuiltins b.nm = some b.val := by cases b <;> decide +kernel
theorem fr_bi (b : BI) : b.nm ∈ freeNames := by cases b <;> decide +kernel
theorem mx_or {xs : List D} {S : Sto} {q : DK} (h : dMx xs S q) : only1 dMx1 xs S q ∨ only2 dMx2 xs S q := by
  match xs, h with
  | [x], h => exact .inl h
  | [x, y], h => exact .inr h
theorem mn_or {xs : List D} {S : Sto} {q : DK} (h : dMn xs S q) : only1 dMn1 xs S q ∨ only2 dMn2 xs S q := by
  match xs, h with
  | [x], h => exact .inl h
  | [x, y], h => exact .inr h
theorem callD_bi {X : Cx} (hc : X.calm = true) (hu : X.A.units + 66 < cLine) {b : BI} (hr : b = .repr → X.A.guards = some []) : CallD X b.val (denB b) := by
  cases b with
  | len => exact c_len
  | abs => exact c_abs
  | max => exact ((c_max1 hc hu).or (c_max2 hc)).imp fun _ _ _ => mx_or
  | min => exact ((c_min1 hc hu).or (c_min2 hc)).imp fun _ _ _ => mn_or
  | sum => exact c_sum hc
  | all => exact c_all hc
  | any => exact c_any hc
  | list => exact c_list
  | tuple => exact c_tuple
  | str => exact c_str
  | int => exact c_int
  | repr => exact c_repr hu (hr rfl)
theorem bi_kind (b : BI) : (∃ id, b.val = .builtin id) ∨ ∃ id, b.val = .type id := by cases b <;> first | exact .inl ⟨_, rfl⟩ | exact .inr ⟨_, rfl⟩
theorem snd_bi {b : BI} {t : E} (ht : Snd G T C k t) : Snd G T C k (.bi b t) := Snd.val rfl (fun _ => rfl) rfl rfl fun c X W x co h => by
  cases x with
  | Call fn es kws pos =>
    cases fn with
    | Name y p =>
      cases kws with
      | nil =>
        cases es with
        | nil => simp [mat] at h
        | cons a es =>
          simp only [mat, Bool.and_eq_true, decide_eq_true_eq, Bool.or_eq_true, bne_iff_ne, ne_eq] at h
          obtain ⟨rfl, h0, h2, h3, h4⟩ := h
          obtain ⟨g1, g2, g3⟩ := co.gl h2
          have cd : CallD X b.val (denB b) := callD_bi co.calm co.hu fun e => co.gd (h0.elim (fun z => absurd e z) id)
          have hb := boot_bi b
          have hs := starEach_cons (es := es) (env := X.env) (few_cons h4).1
          have hp := (backTo_all (pos := pos) (env := X.env) (few_cons h4).2).2
          refine ⟨?_, rfl⟩
          rcases bi_kind b with ⟨id, e⟩ | ⟨id, e⟩
          · rw [e] at cd hb
            exact d_bi cd g1 (co.fr _ (fr_bi b)) hb g3 g2 hs hp (ht.a c X W _ co h3)
          · rw [e] at cd hb
            exact d_ty cd g1 (co.fr _ (fr_bi b)) hb g3 g2 hs hp (ht.a c X W _ co h3)
      | cons _ _ => cases es <;> simp [mat] at h
    | _ => simp [mat] at h
  | _ => simp [mat] at h
theorem bm_of {X : Cx} (hu : X.A.units + 66 < cLine) (m : Mth) : ∀ T f, denM m T = some f → BM X T m.nm f := by
  intro T f h
  cases m <;> cases T <;> simp [denM] at h <;> subst h
  · exact b_append
  · exact b_extend
  · exact b_pop
  · exact b_join
  · exact b_split
  · exact b_startswith
  · exact b_endswith
  · exact b_countL hu
  · exact b_countT hu
theorem snd_bm {m : Mth} {o t : E} (ho : Snd G T C k o) (ht : Snd G T C k t) (hz : ∀ c, (mat G t c).a [] = true → (den C T t).a = aNil) : Snd G T C k (.bm m o t) := Snd.val rfl (fun _ => rfl) rfl rfl fun c X W x co h => by
  cases x with
  | Call fn es kws pos =>
    cases fn with
    | Attribute ob n ap =>
      cases kws with
      | nil =>
        simp only [mat, Bool.and_eq_true, decide_eq_true_eq] at h
        obtain ⟨rfl, h1, h2, h3, h4, h5⟩ := h
        refine ⟨?_, rfl⟩
        cases es with
        | nil =>
          rw [hz c h3]
          exact d_bm0 (bm_of co.hu m) (ho.e c X W _ co h1) (base_ok h2) h5
        | cons a es => exact d_bm1 (bm_of co.hu m) (ho.e c X W _ co h1) (ht.a c X W _ co h3) (base_ok h2) h5 (few_ok h4) (starEach_cons (few_cons h4).1) (backTo_all (few_cons h4).2).2
      | cons _ _ => simp [mat] at h
    | _ => simp [mat] at h
  | _ => simp [mat] at h
end
end C2

/-! Each piece is sound: subscripts, comprehensions, statements, targets; all pieces. -/
namespace C2
open PySem PySem.Spec PyProof.Rows L2
section
variable {G : Nm} {T : CT} {C : Orc} {k : Nat}
theorem a_nil {c : Sc} (t : E) (h : (mat G t c).a [] = true) : (den C T t).a = aNil := by
  cases t <;> first | rfl | exact nomatch h
theorem snd_ix {a b : E} (ha : Snd G T C k a) (hb : Snd G T C k b) : Snd G T C k (.ix a b) := Snd.val rfl (fun _ => rfl) rfl rfl fun c X W x co h => by
  cases x with
  | Subscript u v pos =>
    simp only [mat, Bool.and_eq_true] at h
    obtain ⟨r, hr, ho⟩ := x_ix (X := X)
    exact ⟨d_ix hr ho (plainIx_ok h.1) (ha.e c X W u co h.2.1) (hb.e c X W v co h.2.2), rfl⟩
  | _ => simp [mat] at h
theorem d_part {X : Cx} {W : WX} {lo : Option Expr} {t : Option DE} (h : (lo = none ∧ t = none) ∨ ∃ e te, lo = some e ∧ t = some te ∧ PEd X W e te) {a : Expr} : True := trivial
/-- e[lo:hi] -/
theorem d_sl {X : Cx} {W : WX} {f : D → Option Int → Option Int → Sto → DK → Prop} {e : Expr} {te : DE} {lo hi : Option Expr} {tl th : Option DE} {p2 pos : Pos} (hs : SlD X f) (he : PEd X W e te)
    (hl : (lo = none ∧ tl = none) ∨ ∃ u tu, lo = some u ∧ tl = some tu ∧ PEd X W u tu) (hh : (hi = none ∧ th = none) ∨ ∃ u tu, hi = some u ∧ th = some tu ∧ PEd X W u tu) : PEd X W (.Subscript e (.Slice lo hi none p2) pos) (eSl f te tl th) := by
  obtain ⟨r, hr, ho⟩ := hs
  have part : ∀ (lo : Option Expr) (tl : Option DE), ((lo = none ∧ tl = none) ∨ ∃ u tu, lo = some u ∧ tl = some tu ∧ PEd X W u tu) → ∃ to : TO, PO X lo to ∧ ∀ R env S σ H (q : Option Int → Sto → Prop) (Q : Option Int → Hp → Prop), RelEnv X.K H env σ → RS X.K H S → oPart tl R env S q → XOk X.K W S H R → (∀ i S' H', Stp S H S' H' → RS X.K H' S' → q i S' → Q i H') → to σ H Q := by
    intro lo tl h
    rcases h with ⟨rfl, rfl⟩ | ⟨u, tu, rfl, rfl, hu⟩
    · exact ⟨_, po_none, fun R env S σ H q Q e s h x k => k none S H Stp.rfl' s h⟩
    · refine ⟨_, po_some hu, fun R env S σ H q Q e s h x k => ?_⟩
      refine ⟨R, env, S, _, e, s, h, x, fun d S1 v H1 t1 r1 s1 h1 => ?_⟩
      cases d with
      | int i => exact ⟨i, rd_int r1, k (some i) S1 H1 t1 s1 h1⟩
      | _ => exact h1.elim
  obtain ⟨tol, pl, kl⟩ := part lo tl hl
  obtain ⟨toh, ph, kh⟩ := part hi th hh
  refine PE.imp (pe_slice hr he pl ph) fun σ H Q ⟨R, env, S, q, e, s, h, x, k⟩ => ?_
  refine ⟨R, env, S, _, e, s, h, x, fun d S1 v H1 t1 r1 s1 h1 => ?_⟩
  refine kl R env S1 σ H1 _ _ (e.mono t1.t) s1 h1 (x.mono t1) fun i S2 H2 t2 s2 h2 => ?_
  refine kh R env S2 σ H2 _ _ (e.mono (t1.trans t2).t) s2 h2 (x.mono (t1.trans t2)) fun j S3 H3 t3 s3 h3 => ?_
  exact ho d v i j H3 S3 q Q ((r1.mono t2.t).mono t3.t) s3 h3 (k.mono ((t1.trans t2).trans t3))
theorem snd_sl {a lo hi : E} (ha : Snd G T C k a) (hl : Snd G T C k lo) (hh : Snd G T C k hi) : Snd G T C k (.sl a lo hi) := Snd.val rfl (fun _ => rfl) rfl rfl fun c X W x co h => by
  cases x with
  | Subscript u v pos =>
    cases v with
    | Slice l h' st p =>
      cases st with
      | none =>
        simp only [mat, Bool.and_eq_true] at h
        obtain ⟨h1, h2, h3⟩ := h
        refine ⟨d_sl x_sl (ha.e c X W u co h1) ?_ ?_, rfl⟩
        · cases l with
          | none => exact .inl ⟨rfl, by unfold oSel; rw [show lo.isNil = true from h2]; rfl⟩
          | some e =>
            simp only [Bool.and_eq_true, Bool.not_eq_true'] at h2
            exact .inr ⟨e, _, rfl, by unfold oSel; rw [h2.1]; rfl, hl.e c X W e co h2.2⟩
        · cases h' with
          | none => exact .inl ⟨rfl, by unfold oSel; rw [show hi.isNil = true from h3]; rfl⟩
          | some e =>
            simp only [Bool.and_eq_true, Bool.not_eq_true'] at h3
            exact .inr ⟨e, _, rfl, by unfold oSel; rw [h3.1]; rfl, hh.e c X W e co h3.2⟩
      | some _ => simp [mat] at h
    | _ => simp [mat] at h
  | _ => simp [mat] at h
theorem snd_attr {f : Str} {o : E} (ho : Snd G T C k o) : Snd G T C k (.attr f o) := Snd.val rfl (fun _ => rfl) rfl rfl fun c X W x co h => by
  cases x with
  | Attribute u n pos =>
    simp only [mat, Bool.and_eq_true, decide_eq_true_eq] at h
    obtain ⟨rfl, h1, h2⟩ := h
    exact ⟨d_attr co.ats co.rm (base_ok h1) (ho.e c X W u co h2), rfl⟩
  | _ => simp [mat] at h
theorem boot_ty : ∀ t ∈ tyNames, bootBuiltins (Str.ofString t) = some (.type t) := by
  intro t h
  simp only [tyNames, List.mem_cons, List.not_mem_nil, or_false] at h
  rcases h with rfl | rfl | rfl | rfl | rfl | rfl <;> decide +kernel
theorem fr_ty : ∀ t ∈ tyNames, Str.ofString t ∈ freeNames := by
  intro t h
  simp only [tyNames, List.mem_cons, List.not_mem_nil, or_false] at h
  rcases h with rfl | rfl | rfl | rfl | rfl | rfl <;> decide +kernel
theorem snd_isi {t : String} {a : E} (ha : Snd G T C k a) : Snd G T C k (.isi t a) := Snd.val rfl (fun _ => rfl) rfl rfl fun c X W x co h => by
  cases x with
  | Call fn es kws pos =>
    cases fn with
    | Name y p =>
      match es, kws, h with
      | [u, .Name z p2], [], h =>
        simp only [mat, Bool.and_eq_true, decide_eq_true_eq] at h
        obtain ⟨rfl, h1, rfl, h2, h3, h4, h5⟩ := h
        obtain ⟨g1, _, _⟩ := co.gl h1
        obtain ⟨g4, g5, g6⟩ := co.gl h3
        exact ⟨d_isi h2 g1 (co.fr _ (by decide +kernel)) g4 (co.fr _ (fr_ty t h2)) (boot_ty t h2) g6 g5 h4 (ha.e c X W u co h5), rfl⟩
    | _ => simp [mat] at h
  | _ => simp [mat] at h
theorem snd_fs {t : E} (ht : Snd G T C k t) : Snd G T C k (.fs t) := Snd.val rfl (fun _ => rfl) rfl rfl fun c X W x co h => by
  cases x with
  | JoinedStr es pos =>
    match es, h with
    | v :: w :: es, h => exact ⟨d_join (ht.ps c X W _ co h), rfl⟩
  | _ => simp [mat] at h
theorem snd_fp {a : E} (ha : Snd G T C k a) : Snd G T C k (.fp a) := Snd.tst (z := .fp a) (u := fun _ _ _ _ => False) rfl (fun _ => rfl) rfl rfl (fun c X W x co h => by
  cases x with
  | FormattedValue u n sp pos =>
    cases sp with
    | none =>
      simp only [mat, Bool.and_eq_true, decide_eq_true_eq] at h
      obtain ⟨rfl, h1⟩ := h
      exact d_fmt (ha.e c X W u co h1)
    | some _ => simp [mat] at h
  | _ => simp [mat] at h) (fun c X W x co h => t_dead) (fun c X W op vs p co h => w_dead) (.inl rfl)

/-! ### comprehensions -/
theorem blk_ok {N : List Str} {sc scope : Scope} {own : List Nat} (h : blkB N sc scope own = true) : BlkOk N sc scope (ownN N own) ∧ (ownN N own).map (·.2) = own := by
  unfold blkB at h
  simp only [Bool.and_eq_true, decide_eq_true_eq] at h
  obtain ⟨⟨⟨⟨h1, h2⟩, h3⟩, h4⟩, h5⟩ := h
  refine ⟨⟨h1, fun y hy => ?_, fun p hp => ?_, fun y hy e => ?_, fun y hy e => ?_⟩, h3⟩
  · exact eq_of_beq (List.all_eq_true.mp h2 y hy)
  · unfold ownN at hp
    obtain ⟨i, _, hi⟩ := List.mem_filterMap.mp hp
    cases e : N[i]? with
    | none => rw [e] at hi; cases hi
    | some x => rw [e] at hi; cases hi; exact e
  · have := List.all_eq_true.mp h4 y hy
    simp only [Bool.or_eq_true, bne_iff_ne, ne_eq, beq_iff_eq] at this
    rcases this with z | z
    · exact absurd e z
    · exact z
  · have := List.all_eq_true.mp h5 y hy
    simp only [Bool.or_eq_true, Bool.not_eq_true', beq_iff_eq, Bool.or_eq_false_iff, beq_eq_false_iff_ne, List.contains_iff_mem] at this
    rcases this with (z | z) | z
    · rcases e with e | e
      · exact absurd e z.1
      · exact absurd e z.2
    · exact .inl z
    · refine .inr fun m => ?_
      have : N.contains y.1 = true := List.contains_iff_mem.mpr m
      rw [z] at this; cases this
theorem tg_ok {c : Sc} {X : Cx} {W : WX} (co : CO G T C k c X W) : ∀ {es : List Expr} {is : List Nat}, tgB c es is = true → TgN X es is
  | [], [], _ => trivial
  | e :: es, i :: is, h => by
    cases e with
    | Name x p =>
      simp only [tgB, Bool.and_eq_true] at h
      obtain ⟨⟨h1, h2⟩, h3⟩ := h
      obtain ⟨l1, l2⟩ := co.loc h2
      exact ⟨co.slot h1, l1, l2, tg_ok co h3⟩
    | _ => simp [tgB] at h
  | [], _ :: _, h => by simp [tgB] at h
  | e :: _, [], h => by cases e <;> simp [tgB] at h
theorem pts_dead {X : Cx} {W : WX} {ifs : List Expr} : PTs X ifs (liftT X.K W (fun _ _ _ _ => False)) := ⟨fun pins s σ H Q I ⟨_, _, _, _, _, _, z, _⟩ => z.elim⟩
theorem PTs.imp {X : Cx} {e : List Expr} {t t' : TT} (h : PTs X e t) (i : ∀ σ H Q, t' σ H Q → t σ H Q) : PTs X e t' := ⟨fun pins s σ H Q I w => h.run pins s σ H Q I (i σ H Q w)⟩
theorem comp_parts {own tg : List Nat} {unp : Bool} {it cc el : E} (hi : Snd G T C k it) (hc : Snd G T C k cc) (he : Snd G T C k el) {c : Sc} {X : Cx} {W : WX} (co : CO G T C k c X W) {elx t iter : Expr} {ifs : List Expr} {scope : Scope} {pos : Pos} (h : (mat G (.comp own it tg unp cc el) c).e (.ListComp elx [⟨t, iter, ifs, 0⟩] scope pos) = true) :
    ∃ es, CompP X W elx t iter ifs es scope (ownN c.N own) it.many unp tg (den C T it).i (den C T cc).t (den C T el).e ∧ (ownN c.N own).map (·.2) = own := by
  simp only [mat, Bool.and_eq_true] at h
  obtain ⟨h1, h2, h3, h4, h5, h6, h7⟩ := h
  obtain ⟨b1, b2⟩ := blk_ok h3
  have cb : ∀ s H Cc cl fp, CO G T C k { c with sc := L2.relS scope c.sc, raw := some scope } (Blk X scope s H Cc cl fp) (fun _ _ _ _ => False) := co.blk scope
  have mk : ∀ (es : List Expr), (((it.many || unp) = true ∧ ∃ k p, t = .Tuple es k p) ∨ ((it.many || unp) = false ∧ es = [t])) → (it.many && unp) = false → ((it.many || unp) = false → tg.length = 1) → tgB { c with sc := L2.relS scope c.sc, raw := some scope } es tg = true → CompP X W elx t iter ifs es scope (ownN c.N own) it.many unp tg (den C T it).i (den C T cc).t (den C T el).e := fun es f x1 x2 x3 =>
    { it := hi.i c X W t iter co h2
      blk := by rw [co.hN, co.hsc]; exact b1
      form := f
      hx := x1
      one := x2
      ho := fun i hi => by
        rw [b2]
        have := List.all_eq_true.mp h4 i hi
        exact List.contains_iff_mem.mp this
      tgn := fun s H Cc cl fp => tg_ok (cb s H Cc cl fp) x3
      ht := fun s H Cc cl fp => by
        unfold ifsB at h6
        match ifs, h6 with
        | [], h6 =>
          have e : cc = .nil := by cases cc <;> first | rfl | exact nomatch h6
          subst e
          exact PTs.imp pts_nil fun σ H Q ⟨R, env, S, q, e, rs, hh, x, kk⟩ => kk true S H Stp.rfl' rs hh
        | [u], h6 =>
          simp only [Bool.and_eq_true] at h6
          exact pts_one (hc.t _ _ _ u (cb s H Cc cl fp) h6.2)
      he := fun s H Cc cl fp => he.e _ _ _ elx (cb s H Cc cl fp) h7
      hs := fold_ok h1 }
  have other : ∀ t', t = t' → (∀ es k p, t' ≠ .Tuple es k p) → (compT it.many unp tg t' { c with sc := L2.relS scope c.sc, raw := some scope } = (!(it.many || unp) && (decide (tg.length = 1) && tgB { c with sc := L2.relS scope c.sc, raw := some scope } [t'] tg))) → ∃ es, CompP X W elx t iter ifs es scope (ownN c.N own) it.many unp tg (den C T it).i (den C T cc).t (den C T el).e ∧ (ownN c.N own).map (·.2) = own := fun t' et hne hq => by
    subst et
    rw [hq] at h5
    simp only [Bool.and_eq_true, Bool.not_eq_true', decide_eq_true_eq] at h5
    obtain ⟨q1, q2, q3⟩ := h5
    exact ⟨[t], mk [t] (.inr ⟨q1, rfl⟩) (by cases hm : it.many <;> simp_all) (fun _ => q2) q3, b2⟩
  cases t with
  | Tuple es n p =>
    simp only [compT, Bool.and_eq_true, Bool.not_eq_true'] at h5
    obtain ⟨q1, q2, q3⟩ := h5
    exact ⟨es, mk es (.inl ⟨q1, n, p, rfl⟩) q2 (fun z => by rw [q1] at z; cases z) q3, b2⟩
  | _ => exact other _ rfl (fun _ _ _ => nofun) rfl
theorem snd_comp {own tg : List Nat} {unp : Bool} {it cc el : E} (hi : Snd G T C k it) (hc : Snd G T C k cc) (he : Snd G T C k el) : Snd G T C k (.comp own it tg unp cc el) := Snd.val rfl (fun _ => rfl) rfl rfl fun c X W x co h => by
  cases x with
  | ListComp elx gs scope pos =>
    match gs, h with
    | [⟨t, iter, ifs, 0⟩], h =>
      obtain ⟨es, cp, e⟩ := comp_parts hi hc he co h
      refine ⟨?_, rfl⟩
      have := d_comp (pos := pos) co.calm co.nd cp
      rw [e] at this
      exact this
  | _ => simp [mat] at h
end
end C2

/-! Statements and targets; all pieces. -/
namespace C2
open PySem PySem.Spec PyProof.Rows L2
section
variable {G : Nm} {T : CT} {C : Orc} {k : Nat}
theorem snd_rng1 {a : E} (ha : Snd G T C k a) : Snd G T C k (.rng1 a) := Snd.itr rfl (fun _ => rfl) rfl fun c X W tg x co h => by
  cases x with
  | Call fn es kws pos =>
    cases fn with
    | Name y p =>
      match es, kws, h with
      | [u], [], h =>
        simp only [mat, Bool.and_eq_true, decide_eq_true_eq] at h
        obtain ⟨rfl, h1, h2, h3⟩ := h
        exact i_range1 (co.gl h1).1 (co.fr _ (by decide +kernel)) (ha.e c X W u co h3) (starEach_cons h2)
    | _ => simp [mat] at h
  | _ => simp [mat] at h
theorem snd_rng2 {a b : E} (ha : Snd G T C k a) (hb : Snd G T C k b) : Snd G T C k (.rng2 a b) := Snd.itr rfl (fun _ => rfl) rfl fun c X W tg x co h => by
  cases x with
  | Call fn es kws pos =>
    cases fn with
    | Name y p =>
      match es, kws, h with
      | [u, v], [], h =>
        simp only [mat, Bool.and_eq_true, decide_eq_true_eq] at h
        obtain ⟨rfl, h1, h2, h3, h4, h5⟩ := h
        exact i_range2 (co.gl h1).1 (co.fr _ (by decide +kernel)) (ha.e c X W u co h4) (hb.e c X W v co h5) (by rw [starEach_cons h2, starEach_cons h3]; rfl) (starEach_cons h3)
    | _ => simp [mat] at h
  | _ => simp [mat] at h
theorem snd_rng3 {a b d : E} (ha : Snd G T C k a) (hb : Snd G T C k b) (hd : Snd G T C k d) : Snd G T C k (.rng3 a b d) := Snd.itr rfl (fun _ => rfl) rfl fun c X W tg x co h => by
  cases x with
  | Call fn es kws pos =>
    cases fn with
    | Name y p =>
      match es, kws, h with
      | [u, v, w], [], h =>
        simp only [mat, Bool.and_eq_true, decide_eq_true_eq] at h
        obtain ⟨rfl, h1, h2, h3, h4, h5, h6, h7⟩ := h
        exact i_range3 (co.gl h1).1 (co.fr _ (by decide +kernel)) (ha.e c X W u co h5) (hb.e c X W v co h6) (hd.e c X W w co h7) (starEach_cons h2) (starEach_cons h3) (starEach_cons h4)
    | _ => simp [mat] at h
  | _ => simp [mat] at h
theorem snd_enum {a : E} (ha : Snd G T C k a) : Snd G T C k (.enum a) := Snd.itr rfl (fun _ => rfl) rfl fun c X W tg x co h => by
  cases tg with
  | Tuple ts n tp =>
    cases x with
    | Call fn es kws pos =>
      cases fn with
      | Name y p =>
        match es, kws, h with
        | [u], [], h =>
          simp only [mat, Bool.and_eq_true, decide_eq_true_eq] at h
          obtain ⟨rfl, h1, h2, h3⟩ := h
          exact i_enum (co.gl h1).1 (co.fr _ (by decide +kernel)) (ha.e c X W u co h3) (starEach_cons h2)
      | _ => simp [mat] at h
    | _ => simp [mat] at h
  | _ => simp [mat] at h
theorem snd_zip {a b : E} (ha : Snd G T C k a) (hb : Snd G T C k b) : Snd G T C k (.zip a b) := Snd.itr rfl (fun _ => rfl) rfl fun c X W tg x co h => by
  cases tg with
  | Tuple ts n tp =>
    cases x with
    | Call fn es kws pos =>
      cases fn with
      | Name y p =>
        match es, kws, h with
        | [u, v], [], h =>
          simp only [mat, Bool.and_eq_true, decide_eq_true_eq] at h
          obtain ⟨rfl, h1, h2, h3, h4, h5⟩ := h
          exact i_zip (co.gl h1).1 (co.fr _ (by decide +kernel)) (ha.e c X W u co h4) (hb.e c X W v co h5) (by rw [starEach_cons h2, starEach_cons h3] <;> rfl) (starEach_cons h3)
      | _ => simp [mat] at h
    | _ => simp [mat] at h
  | _ => simp [mat] at h
theorem snd_dead : Snd G T C k .dead where
  e := fun c X W x o h => d_dead
  t := fun c X W x o h => t_dead
  w := fun c X W op vs p o h => w_dead
  a := fun c X W es o h => by cases h
  s := fun c X W x _ o h => s_dead
  ss := fun c X W x _ o h => by cases h
  g := fun c X W x o h => by cases h
  gs := fun c X W x o h => by cases h
  i := fun c X W tg x o h => i_dead
  ps := fun c X W x o h => by cases h
theorem snd_sq {a r : E} (ha : Snd G T C k a) (hr : Snd G T C k r) : Snd G T C k (.sq a r) where
  e := fun c X W x o h => by cases h
  t := fun c X W x o h => by cases h
  w := fun c X W op vs p o h => by cases h
  a := fun c X W es o h => by cases h
  s := fun c X W x _ o h => by cases h
  ss := fun c X W x hn o h => by
    cases x with
    | nil => cases h
    | cons s xs =>
      simp only [mat, Bool.and_eq_true] at h
      show PSsd X W (s :: xs) (sSeq (den C T a).s (den C T r).ss)
      exact s_cons (ha.s c X W s hn o h.1) (hr.ss c X W xs hn o h.2)
  g := fun c X W x o h => by cases h
  gs := fun c X W x o h => by cases h
  i := fun c X W tg x o h => by cases h
  ps := fun c X W x o h => by cases h
theorem swapB_ok {c : Sc} {X : Cx} {W : WX} (co : CO G T C k c X W) {t v : Expr} {n : Nat} (h : swapB c t v = true) : swapsWithSole [t] v n X.env = pure false := by
  show swapsWith v (some t) n X.env = pure false
  unfold swapB at h
  rw [Bool.or_eq_true] at h
  rcases h with h | h
  · exact swap_ok h
  · cases v with
    | ListComp el gs sc p =>
      cases t with
      | Name y q =>
        have h' : (c.sc.names.lookup y != some .local) = true := h
        have e : (X.env.kindOf y == some .local) = false := by
          show (X.env.scope.names.lookup y == some .local) = false
          rw [co.hsc]
          simpa [bne] using h'
        show (pure (X.env.blockKind == .function && X.env.kindOf y == some .local && q.line == p.line && !(sc.names.any fun (n, k) => n == y && (k == .local || k == .cell))) : Sem Bool) = pure false
        rw [e]
        simp
      | _ => rfl
    | _ => cases h
theorem names_ok {c : Sc} {X : Cx} {W : WX} (co : CO G T C k c X W) (n : Nat) : ∀ (ts : List Expr), (ts.filterMap fun
    | .Name id pos => if X.env.kindOf id == some .local && pos.line == n then some id else none
    | _ => none).length ≤ (nmsB c ts).length
  | [] => Nat.le_refl _
  | t :: ts => by
    have ih := names_ok co n ts
    cases t with
    | Name x p =>
      have e : (X.env.kindOf x == some .local) = (c.sc.names.lookup x == some .local) := by
        show (X.env.scope.names.lookup x == some .local) = _
        rw [co.hsc]
      unfold nmsB at ih ⊢
      rw [List.filterMap_cons, List.filterMap_cons]
      cases hh : (c.sc.names.lookup x == some .local) with
      | true =>
        simp only [e, hh, Bool.true_and, if_true]
        cases hq : (p.line == n) with
        | true => simp only [if_true, List.length_cons]; omega
        | false => simp only [Bool.false_eq_true, if_false, List.length_cons]; omega
      | false => simp only [e, hh, Bool.false_and, Bool.false_eq_true, if_false]; exact ih
    | _ => exact ih
theorem nms_le {c : Sc} : ∀ ts : List Expr, (nmsB c ts).length ≤ ts.length := fun ts => List.length_filterMap_le _ _
theorem unswapped_ok {c : Sc} {X : Cx} {W : WX} (co : CO G T C k c X W) {ts : List Expr} {n : Nat} {p : Pos} {v : Expr} (h : unswapped c ts v = true) : swappedStores [.Tuple ts n p] v X.env = pure none := by
  cases v with
  | Tuple vs m q =>
    simp only [unswapped, Bool.or_eq_true, Bool.not_eq_true', decide_eq_true_eq] at h
    unfold swappedStores
    have key : (ts.filterMap fun
      | .Name id pos => if X.env.kindOf id == some .local && pos.line == ((ts.head?.map (·.pos.line)).getD 0) then some id else none
      | _ => none).length ≤ (nmsB c ts).length := names_ok co _ ts
    have le := nms_le (c := c) ts
    simp only []
    split
    · rfl
    split
    · rfl
    split
    · rfl
    split
    · rfl
    rename_i a1 a2 a3 a4
    exfalso
    rcases h with h | h | h | h
    · exact a1 (by simp [h])
    · exact a1 (by simp [h])
    · refine a3 ?_
      rw [Bool.or_eq_true]
      left
      rw [bne_iff_ne]
      exact Nat.ne_of_lt (Nat.lt_of_le_of_lt key (by omega))
    · exact a4 h
  | _ => rfl
theorem liveTup_ok {vs : List Expr} (h : liveTup vs = true) : vs.all (foldedForSure 8) = false ∧ vs.all (constantsAlone 8) = false ∧ (vs.any fun | .Starred .. => true | _ => false) = false := by
  unfold liveTup at h
  simp only [Bool.and_eq_true, Bool.not_eq_true'] at h
  refine ⟨h.1.1, h.1.2, ?_⟩
  rw [Bool.eq_false_iff]
  intro z
  obtain ⟨y, hy, hz⟩ := List.any_eq_true.mp z
  have := List.all_eq_true.mp h.2 y hy
  cases y with
  | Starred u q => exact Bool.noConfusion this
  | _ => exact Bool.noConfusion hz
/-- the names of a tuple whose stores are in place -/
theorem swapped_ok {c : Sc} {X : Cx} {W : WX} (co : CO G T C k c X W) (hb : X.env.blockKind = .function) {ts vs : List Expr} {xs : List Str} {n m : Nat} {p q : Pos}
    (hnames : (ts.filterMap fun
      | .Name id pos => if X.env.kindOf id == some .local && pos.line == ((ts.head?.map (·.pos.line)).getD 0) then some id else none
      | _ => none) = xs) (hl : (ts.length == 2 || ts.length == 3) = true) (hx : xs.length = ts.length) (hv : vs.length = ts.length) (hd : xs.eraseDups.length = xs.length) (lv : liveTup vs = true) : swappedStores [.Tuple ts n p] (.Tuple vs m q) X.env = pure (some xs) := by
  obtain ⟨l1, l2, l3⟩ := liveTup_ok lv
  unfold swappedStores
  simp only []
  split
  · rename_i z; rw [hl, hb, hv] at z; simp at z
  split
  · rename_i z; exact absurd (z.symm.trans l3) (by decide)
  split
  · rename_i z
    exfalso
    have z' : (xs.length != ts.length || xs.eraseDups.length != xs.length) = true := by rw [← hnames]; exact z
    rw [hx, hd, hx] at z'
    simp at z'
  split
  · rename_i z; rw [l1] at z; cases z
  split
  · rename_i z; rw [l2] at z; cases z
  exact congrArg (fun z => (pure (some z) : Sem (Option (List Str)))) hnames
theorem nm_local {c : Sc} {X : Cx} {W : WX} (co : CO G T C k c X W) {x : Str} (h : (c.sc.names.lookup x == some .local) = true) : X.env.scope.names.lookup x = some .local := by rw [co.hsc]; exact eq_of_beq h
theorem kind_local {c : Sc} {X : Cx} {W : WX} (co : CO G T C k c X W) {x : Str} (h : (c.sc.names.lookup x == some .local) = true) : (X.env.kindOf x == some .local) = true := by
  show (X.env.scope.names.lookup x == some .local) = true
  rw [co.hsc]; exact h
theorem TgN.inv {X : Cx} {e : Expr} {es : List Expr} {is : List Nat} (h : TgN X (e :: es) is) : ∃ x p i is', e = .Name x p ∧ is = i :: is' ∧ X.N[i]? = some x ∧ TgN X es is' := by
  cases e with
  | Name x p =>
    cases is with
    | nil => exact h.elim
    | cons i is => obtain ⟨h1, _, _, h4⟩ := h; exact ⟨x, p, i, is, rfl, rfl, h1, h4⟩
  | _ => cases is <;> exact (show False from h).elim
theorem TgN.inv0 {X : Cx} {is : List Nat} (h : TgN X [] is) : is = [] := by
  cases is with
  | nil => rfl
  | cons _ _ => exact (show False from h).elim
theorem nms_cons {c : Sc} {x : Str} {p : Pos} {ts : List Expr} : nmsB c (.Name x p :: ts) = if (c.sc.names.lookup x == some .local) = true then x :: nmsB c ts else nmsB c ts := by
  cases hh : (c.sc.names.lookup x == some .local) with
  | true =>
    have h2 : c.sc.names.lookup x = some .local := eq_of_beq hh
    simp [nmsB, List.filterMap_cons, h2]
  | false =>
    have h2 : ¬ c.sc.names.lookup x = some .local := by simpa using hh
    simp [nmsB, List.filterMap_cons, h2]
theorem snd_par {is : List Nat} {t : E} (ht : Snd G T C k t) : Snd G T C k (.par is t) := Snd.stm rfl (fun _ => rfl) rfl fun c X W x hn co h => by
  cases x with
  | Assign tgs v pos =>
    match tgs, v, h with
    | [.Tuple ts n p], .Tuple vs m q, h =>
      simp only [mat, Bool.and_eq_true, decide_eq_true_eq, Bool.or_eq_true] at h
      obtain ⟨h1, h2, h3, h4, h5, h6, h7, h8, h9, h10⟩ := h
      have tn := tg_ok co h2
      have ha := ht.a c X W vs co h1
      rcases h7 with h7 | h7
      · match ts, h7 with
        | [a, b], _ =>
          obtain ⟨x, px, i, is1, rfl, rfl, n1, t1⟩ := tn.inv
          obtain ⟨y, py, j, is2, rfl, rfl, n2, t2⟩ := t1.inv
          obtain rfl := t2.inv0
          match vs, h6 with
          | [u, w], _ =>
            rw [nms_cons, nms_cons] at h3 h10
            have le0 : (nmsB c []).length = 0 := rfl
            cases hx : (c.sc.names.lookup x == some .local) with
            | false => rw [hx] at h3; cases hy : (c.sc.names.lookup y == some .local) <;> rw [hy] at h3 <;> simp [le0] at h3
            | true =>
              cases hy : (c.sc.names.lookup y == some .local) with
              | false => rw [hx, hy] at h3; simp [le0] at h3
              | true =>
                rw [hx, hy] at h10
                have hxy : x ≠ y := by
                  intro e; subst e
                  simp at h10
                have hline : (py.line == px.line) = true := by
                  simp only [lineOk, List.all_cons, List.all_nil, Bool.and_true] at h4
                  exact h4
                refine s_par2 co.calm co.nd n1 n2 (by intro e; subst e; simp at h9) (nm_local co hx) (nm_local co hy) ha (swapped_ok co (co.bk hn) ?_ rfl rfl rfl ?_ h5)
                · have e1 := kind_local co hx
                  have e2 := kind_local co hy
                  have e3 : (px.line == ((some (Expr.Name x px)).map (·.pos.line)).getD 0) = true := by show (px.line == px.line) = true; simp
                  have e4 : (py.line == ((some (Expr.Name x px)).map (·.pos.line)).getD 0) = true := hline
                  simp only [List.filterMap_cons, List.filterMap_nil, List.head?_cons, e1, e2, e3, e4, Bool.and_self, if_true]
                · simp [List.eraseDups_cons, hxy.symm, List.filter_cons, hxy]
      · match ts, h7 with
        | [a, b, d], _ =>
          obtain ⟨x, px, i, is1, rfl, rfl, n1, t1⟩ := tn.inv
          obtain ⟨y, py, j, is2, rfl, rfl, n2, t2⟩ := t1.inv
          obtain ⟨z, pz, l, is3, rfl, rfl, n3, t3⟩ := t2.inv
          obtain rfl := t3.inv0
          match vs, h6 with
          | [u, w, w2], _ =>
            rw [nms_cons, nms_cons, nms_cons] at h3 h10
            have le0 : (nmsB c []).length = 0 := rfl
            have all3 : (c.sc.names.lookup x == some .local) = true ∧ (c.sc.names.lookup y == some .local) = true ∧ (c.sc.names.lookup z == some .local) = true := by
              revert h3
              cases (c.sc.names.lookup x == some .local) <;> cases (c.sc.names.lookup y == some .local) <;> cases (c.sc.names.lookup z == some .local) <;> simp [le0]
            obtain ⟨hx, hy, hz⟩ := all3
            rw [hx, hy, hz] at h10
            simp only [if_true, List.nodup_cons, List.mem_cons, not_or] at h10
            obtain ⟨⟨hxy, hxz, _⟩, ⟨hyz, _⟩, _⟩ := h10
            simp only [List.nodup_cons, List.mem_cons, not_or] at h9
            obtain ⟨⟨hij, hil, _⟩, ⟨hjl, _⟩, _⟩ := h9
            simp only [lineOk, List.all_cons, List.all_nil, Bool.and_true, Bool.and_eq_true] at h4
            refine s_par3 co.calm co.nd n1 n2 n3 hij hil hjl (nm_local co hx) (nm_local co hy) (nm_local co hz) ha (swapped_ok co (co.bk hn) ?_ rfl rfl rfl ?_ h5)
            · have e1 := kind_local co hx
              have e2 := kind_local co hy
              have e5 := kind_local co hz
              have e3 : (px.line == ((some (Expr.Name x px)).map (·.pos.line)).getD 0) = true := by show (px.line == px.line) = true; simp
              have e4 : (py.line == ((some (Expr.Name x px)).map (·.pos.line)).getD 0) = true := h4.1
              have e6 : (pz.line == ((some (Expr.Name x px)).map (·.pos.line)).getD 0) = true := h4.2
              simp only [List.filterMap_cons, List.filterMap_nil, List.head?_cons, e1, e2, e3, e4, e5, e6, Bool.and_self, if_true]
            · have a1 := Ne.symm hxy
              have a2 := Ne.symm hxz
              have a3 := Ne.symm hyz
              simp [List.eraseDups_cons, List.filter_cons, a1, a2, a3]
  | _ => simp [mat] at h
end
end C2

/-! Statements and targets; all pieces. -/
namespace C2
open PySem PySem.Spec PyProof.Rows L2
section
variable {G : Nm} {T : CT} {C : Orc} {k : Nat}
theorem sole_map {t : Expr} {env : PySem.Env} (h : noStar t = true) : (assignEach [t] env).map (·.2) = [assign t env] := by rw [assignEach_cons h]; rfl
theorem snd_asg {g a : E} (hg : Snd G T C k g) (ha : Snd G T C k a) : Snd G T C k (.asg g a) := Snd.stm rfl (fun _ => rfl) rfl fun c X W x hn co h => by
  cases x with
  | Assign tgs v pos =>
    match tgs, h with
    | [t], h =>
      simp only [mat, Bool.and_eq_true] at h
      obtain ⟨h1, h2, h3, h4, h5⟩ := h
      refine s_asg (ha.e c X W v co h4) (hg.g c X W t co h3) (swapB_ok co h2) ?_ (sole_map h1)
      cases t with
      | Tuple ts n p => exact unswapped_ok co h5
      | List _ _ => cases h5
      | _ => rfl
  | _ => simp [mat] at h
theorem snd_asgc {i : Nat} {a : E} (ha : ∀ c X W el gs scope p, CO G T C k c X W → (mat G a c).e (.ListComp el gs scope p) = true → (den C T a).e = (den C T a).e) (hs : ∀ c X W y q el gs scope p pos, CO G T C k c X W → (mat G a c).e (.ListComp el gs scope p) = true → X.N[i]? = some y → X.env.scope.names.lookup y = some .local → swapsWith (.ListComp el gs scope p) (some (.Name y q)) pos.line X.env = pure true → PSd X W (.Assign [.Name y q] (.ListComp el gs scope p) pos) (sAsg (gNm i) (den C T a).e)) : Snd G T C k (.asgc i a) := Snd.stm rfl (fun _ => rfl) rfl fun c X W x hn co h => by
  cases x with
  | Assign tgs v pos =>
    match tgs, v, h with
    | [.Name y q], .ListComp el gs scope p, h =>
      simp only [mat, Bool.and_eq_true] at h
      obtain ⟨h1, h2, h3, h4, h5, h6⟩ := h
      have hl : X.env.scope.names.lookup y = some .local := nm_local co h2
      refine hs c X W y q el gs scope p pos co h3 (co.slot h1) hl ?_
      show (pure (X.env.blockKind == .function && X.env.kindOf y == some .local && q.line == p.line && !(scope.names.any fun (n, k) => n == y && (k == .local || k == .cell))) : Sem Bool) = pure true
      rw [co.bk hn, kind_local co h2, h5, h6]
      rfl
  | _ => simp [mat] at h
theorem snd_asgc_comp {i : Nat} {own tg : List Nat} {unp : Bool} {it cc el : E} (hi : Snd G T C k it) (hc : Snd G T C k cc) (he : Snd G T C k el) : Snd G T C k (.asgc i (.comp own it tg unp cc el)) :=
  snd_asgc (fun _ _ _ _ _ _ _ _ _ => rfl) fun c X W y q elx gs scope p pos co h hy hl hsw => by
    match gs, h with
    | [⟨t, iter, ifs, 0⟩], h =>
      obtain ⟨es, cp, e⟩ := comp_parts hi hc he co h
      have := s_comp (py := q) (spos := pos) co.calm co.nd hy hl hsw cp
      rw [e] at this
      exact this
theorem asgc_none {i : Nat} {a : E} (h : ∀ c el gs scope p, (mat G a c).e (.ListComp el gs scope p) = false) : Snd G T C k (.asgc i a) :=
  snd_asgc (fun _ _ _ _ _ _ _ _ _ => rfl) fun c X W y q elx gs scope p pos co hh _ _ _ => by rw [h] at hh; cases hh
theorem snd_asgcA {i : Nat} : ∀ {a : E}, (∀ own it tg unp cc el, a = .comp own it tg unp cc el → Snd G T C k it ∧ Snd G T C k cc ∧ Snd G T C k el) → (a ≠ .dead) → Snd G T C k (.asgc i a) := fun {a} h hd => by
  cases a with
  | comp own it tg unp cc el => obtain ⟨x, y, z⟩ := h _ _ _ _ _ _ rfl; exact snd_asgc_comp x y z
  | dead => exact absurd rfl hd
  | _ => exact asgc_none fun _ _ _ _ _ => rfl
theorem snd_exp {a : E} (ha : Snd G T C k a) : Snd G T C k (.exp a) := Snd.stm rfl (fun _ => rfl) rfl fun c X W x hn co h => by
  cases x with
  | Expr v pos =>
    simp only [mat, Bool.and_eq_true] at h
    exact s_expr (ha.e c X W v co h.2) (swap_ok h.1)
  | _ => simp [mat] at h
theorem snd_ret {a : E} (ha : Snd G T C k a) : Snd G T C k (.ret a) := Snd.stm rfl (fun _ => rfl) rfl fun c X W x hn co h => by
  cases x with
  | Return v pos =>
    cases v with
    | some v => exact s_ret (ha.e c X W v co h)
    | none => simp [mat] at h
  | _ => simp [mat] at h
theorem snd_retn : Snd G T C k .retn := Snd.stm rfl (fun _ => rfl) rfl fun c X W x hn co h => by
  cases x with
  | Return v pos =>
    cases v with
    | none => exact s_retN
    | some v => simp [mat] at h
  | _ => simp [mat] at h
theorem snd_ifs {t a b : E} (ht : Snd G T C k t) (ha : Snd G T C k a) (hb : Snd G T C k b) : Snd G T C k (.ifs t a b) := Snd.stm rfl (fun _ => rfl) rfl fun c X W x hn co h => by
  cases x with
  | If u v w pos =>
    simp only [mat, Bool.and_eq_true] at h
    exact s_if (ht.t c X W u co h.1) (ha.ss c X W v hn co h.2.1) (hb.ss c X W w hn co h.2.2)
  | _ => simp [mat] at h
theorem snd_whl {t b : E} (ht : Snd G T C k t) (hb : Snd G T C k b) : Snd G T C k (.whl t b) := Snd.stm rfl (fun _ => rfl) rfl fun c X W x hn co h => by
  cases x with
  | While u v w pos =>
    cases w with
    | nil =>
      simp only [mat, Bool.and_eq_true] at h
      exact s_while (co.po hn) (ht.t c X W u co h.1) (hb.ss c X W v hn co h.2)
    | cons _ _ => simp [mat] at h
  | _ => simp [mat] at h
theorem snd_for1 {g it b : E} (hg : Snd G T C k g) (hi : Snd G T C k it) (hb : Snd G T C k b) : Snd G T C k (.for1 g it b) := Snd.stm rfl (fun _ => rfl) rfl fun c X W x hn co h => by
  cases x with
  | For t i v w pos =>
    cases w with
    | nil =>
      simp only [mat, Bool.and_eq_true, Bool.not_eq_true'] at h
      obtain ⟨h1, h2, h3, h4, h5⟩ := h
      have z := hi.i c X W t i co h4
      rw [h1] at z
      exact s_for1 (co.po hn) co.calm z (hg.g c X W t co h3) (hb.ss c X W v hn co h5) (fold_ok h2)
    | cons _ _ => simp [mat] at h
  | _ => simp [mat] at h
theorem g_len {X : Cx} {W : WX} {es : List Expr} {n : Nat} {gs : DGs} (h : PGsd X W es gs) : PGsd X W es (gLen n gs) := PGs.imp h fun vs σ H Q ⟨R, ds, env, S, q, e, s, r, hh, x, nn⟩ => ⟨R, ds, env, S, q, e, s, r, hh.2, x, nn⟩
theorem snd_forM {g it b : E} (hg : Snd G T C k g) (hi : Snd G T C k it) (hb : Snd G T C k b) : Snd G T C k (.forM g it b) := Snd.stm rfl (fun _ => rfl) rfl fun c X W x hn co h => by
  cases x with
  | For t i v w pos =>
    cases w with
    | nil =>
      cases t with
      | Tuple es n p =>
        simp only [mat, Bool.and_eq_true] at h
        obtain ⟨h1, h2, h3, h4, h5⟩ := h
        have z := hi.i c X W (.Tuple es n p) i co h4
        rw [h1] at z
        obtain ⟨q1, q2, q3⟩ := hg.gs c X W es co h3
        exact s_forM (co.po hn) co.calm z (g_len q1) q2 q3 (fun _ _ _ _ _ hh => hh.1) (hb.ss c X W v hn co h5) (fold_ok h2)
      | _ => simp [mat] at h
    | cons _ _ => cases t <;> simp [mat] at h
  | _ => simp [mat] at h
theorem snd_pass : Snd G T C k .pass := Snd.stm rfl (fun _ => rfl) rfl fun c X W x hn co h => by
  cases x with
  | Pass _ => exact s_pass
  | _ => simp [mat] at h
theorem snd_cont : Snd G T C k .cont := Snd.stm rfl (fun _ => rfl) rfl fun c X W x hn co h => by
  cases x with
  | Continue _ => exact s_cont
  | _ => simp [mat] at h
theorem snd_gnm {i : Nat} : Snd G T C k (.gnm i) := Snd.tgt rfl (fun _ => rfl) rfl fun c X W x co h => by
  cases x with
  | Name y p =>
    simp only [mat, Bool.and_eq_true] at h
    obtain ⟨l1, l2⟩ := co.loc h.2
    exact g_nm co.nd (co.slot h.1) l1 l2
  | _ => simp [mat] at h
theorem snd_gtp {t : E} (ht : Snd G T C k t) : Snd G T C k (.gtp t) := Snd.tgt rfl (fun _ => rfl) rfl fun c X W x co h => by
  cases x with
  | Tuple es n p =>
    obtain ⟨q1, q2, q3⟩ := ht.gs c X W es co h
    exact g_tup co.calm (g_len q1) q2 q3 (fun _ _ _ _ _ hh => hh.1)
  | _ => simp [mat] at h
theorem PGs.star {X : Cx} {W : WX} {a b : Expr} {p : Pos} {gs : DGs} (hn : noStar a = true) (hb : noStar b = true) (h : PGsd X W [a, b] gs) : PGsd X W [a, .Starred b p] gs := by
  refine ⟨fun pins s σ H vs us Q I r hh => ?_⟩
  have := h.run pins s σ H vs us Q I r hh
  rw [assignEach_cons hn, assignEach_cons hb] at this
  rw [assignEach_cons hn]
  exact this
theorem gs_noStar {t : E} {c : Sc} : ∀ {es : List Expr}, (mat G t c).gs es = true → es.all noStar = true := by
  induction t with
  | nil => intro es h; have e : es = [] := List.isEmpty_iff.mp h; subst e; rfl
  | cons a r _ ih =>
    intro es h
    cases es with
    | nil => cases h
    | cons x xs =>
      simp only [mat, Bool.and_eq_true] at h
      rw [List.all_cons, Bool.and_eq_true]
      exact ⟨h.1, ih h.2.2⟩
  | _ => intro es h; cases h
theorem snd_gst {t : E} (ht : Snd G T C k t) : Snd G T C k (.gst t) := Snd.tgt rfl (fun _ => rfl) rfl fun c X W x co h => by
  cases x with
  | Tuple es n p =>
    match es, h with
    | [a, .Starred b q], h =>
      simp only [mat, Bool.and_eq_true] at h
      obtain ⟨q1, _, _⟩ := ht.gs c X W [a, b] co h.2
      have nb : noStar b = true := by
        have z := gs_noStar h.2
        rw [List.all_cons, List.all_cons, Bool.and_eq_true, Bool.and_eq_true] at z
        exact z.2.1
      refine g_star1 co.calm (PGs.star h.1 nb q1) ?_ ?_
      · rw [assignEach_cons h.1]; rfl
      · rw [assignEach_cons h.1]; rfl
  | _ => simp [mat] at h
theorem snd_gfl {f : Str} {o : E} (ho : Snd G T C k o) : Snd G T C k (.gfl f o) := Snd.tgt rfl (fun _ => rfl) rfl fun c X W x co h => by
  cases x with
  | Attribute u n pos =>
    simp only [mat, Bool.and_eq_true, decide_eq_true_eq] at h
    obtain ⟨rfl, h1⟩ := h
    exact g_fld co.ats (ho.e c X W u co h1)
  | _ => simp [mat] at h
theorem snd_gix {a i : E} (ha : Snd G T C k a) (hi : Snd G T C k i) : Snd G T C k (.gix a i) := Snd.tgt rfl (fun _ => rfl) rfl fun c X W x co h => by
  cases x with
  | Subscript u v pos =>
    simp only [mat, Bool.and_eq_true] at h
    exact g_ix (fun _ _ _ _ e => by subst e; cases h.1) (ha.e c X W u co h.2.1) (hi.e c X W v co h.2.2)
  | _ => simp [mat] at h
end
end C2

/-! All pieces; the call of a def by its depth. -/
namespace C2
open PySem PySem.Spec PyProof.Rows L2
section
variable {G : Nm} {T : CT} {C : Orc} {k : Nat}
theorem snd_both : ∀ z : E, Snd G T C k z ∧ ∀ own it tg unp cc el, z = .comp own it tg unp cc el → Snd G T C k it ∧ Snd G T C k cc ∧ Snd G T C k el := by
  intro z
  induction z with
  | comp own it tg unp cc el h1 h2 h3 =>
    refine ⟨snd_comp h1.1 h2.1 h3.1, fun _ _ _ _ _ _ e => ?_⟩
    cases e
    exact ⟨h1.1, h2.1, h3.1⟩
  | nil => exact ⟨snd_nil, fun _ _ _ _ _ _ e => nomatch e⟩
  | cons a r h1 h2 => exact ⟨snd_cons h1.1 h2.1, fun _ _ _ _ _ _ e => nomatch e⟩
  | star a r h1 h2 => exact ⟨snd_star h1.1 h2.1, fun _ _ _ _ _ _ e => nomatch e⟩
  | var i => exact ⟨snd_var, fun _ _ _ _ _ _ e => nomatch e⟩
  | cn c => exact ⟨snd_cn, fun _ _ _ _ _ _ e => nomatch e⟩
  | neg a h1 => exact ⟨snd_neg h1.1, fun _ _ _ _ _ _ e => nomatch e⟩
  | tup a h1 => exact ⟨snd_tup h1.1, fun _ _ _ _ _ _ e => nomatch e⟩
  | lst a h1 => exact ⟨snd_lst h1.1, fun _ _ _ _ _ _ e => nomatch e⟩
  | op o a b h1 h2 => exact ⟨snd_op h1.1 h2.1, fun _ _ _ _ _ _ e => nomatch e⟩
  | chain o p a b c h1 h2 h3 => exact ⟨snd_chain h1.1 h2.1 h3.1, fun _ _ _ _ _ _ e => nomatch e⟩
  | ife a b c h1 h2 h3 => exact ⟨snd_ife h1.1 h2.1 h3.1, fun _ _ _ _ _ _ e => nomatch e⟩
  | andv a b h1 h2 => exact ⟨snd_andv h1.1 h2.1, fun _ _ _ _ _ _ e => nomatch e⟩
  | orv a b h1 h2 => exact ⟨snd_orv h1.1 h2.1, fun _ _ _ _ _ _ e => nomatch e⟩
  | last a h1 => exact ⟨snd_last h1.1, fun _ _ _ _ _ _ e => nomatch e⟩
  | notv a h1 => exact ⟨snd_notv h1.1, fun _ _ _ _ _ _ e => nomatch e⟩
  | call x t h1 => exact ⟨snd_call h1.1 fun c => a_nil t, fun _ _ _ _ _ _ e => nomatch e⟩
  | mk x t h1 => exact ⟨snd_mk h1.1, fun _ _ _ _ _ _ e => nomatch e⟩
  | mkv i t h1 => exact ⟨snd_mkv h1.1, fun _ _ _ _ _ _ e => nomatch e⟩
  | cm x m t h1 => exact ⟨snd_cm h1.1, fun _ _ _ _ _ _ e => nomatch e⟩
  | om m o t h1 h2 => exact ⟨snd_om h1.1 h2.1 fun c => a_nil t, fun _ _ _ _ _ _ e => nomatch e⟩
  | bi b t h1 => exact ⟨snd_bi h1.1, fun _ _ _ _ _ _ e => nomatch e⟩
  | bm m o t h1 h2 => exact ⟨snd_bm h1.1 h2.1 fun c => a_nil t, fun _ _ _ _ _ _ e => nomatch e⟩
  | ix a b h1 h2 => exact ⟨snd_ix h1.1 h2.1, fun _ _ _ _ _ _ e => nomatch e⟩
  | sl a b c h1 h2 h3 => exact ⟨snd_sl h1.1 h2.1 h3.1, fun _ _ _ _ _ _ e => nomatch e⟩
  | attr f a h1 => exact ⟨snd_attr h1.1, fun _ _ _ _ _ _ e => nomatch e⟩
  | isi t a h1 => exact ⟨snd_isi h1.1, fun _ _ _ _ _ _ e => nomatch e⟩
  | fs a h1 => exact ⟨snd_fs h1.1, fun _ _ _ _ _ _ e => nomatch e⟩
  | fp a h1 => exact ⟨snd_fp h1.1, fun _ _ _ _ _ _ e => nomatch e⟩
  | rng1 a h1 => exact ⟨snd_rng1 h1.1, fun _ _ _ _ _ _ e => nomatch e⟩
  | rng2 a b h1 h2 => exact ⟨snd_rng2 h1.1 h2.1, fun _ _ _ _ _ _ e => nomatch e⟩
  | rng3 a b c h1 h2 h3 => exact ⟨snd_rng3 h1.1 h2.1 h3.1, fun _ _ _ _ _ _ e => nomatch e⟩
  | enum a h1 => exact ⟨snd_enum h1.1, fun _ _ _ _ _ _ e => nomatch e⟩
  | zip a b h1 h2 => exact ⟨snd_zip h1.1 h2.1, fun _ _ _ _ _ _ e => nomatch e⟩
  | dead => exact ⟨snd_dead, fun _ _ _ _ _ _ e => nomatch e⟩
  | sq a b h1 h2 => exact ⟨snd_sq h1.1 h2.1, fun _ _ _ _ _ _ e => nomatch e⟩
  | asg a b h1 h2 => exact ⟨snd_asg h1.1 h2.1, fun _ _ _ _ _ _ e => nomatch e⟩
  | asgc i a h1 =>
    refine ⟨?_, fun _ _ _ _ _ _ e => nomatch e⟩
    by_cases hd : a = .dead
    · subst hd
      exact snd_asgc (fun _ _ _ _ _ _ _ _ _ => rfl) fun c X W y q elx gs scope p pos co hh _ _ _ => ⟨fun pins s σ H D I ⟨R, N, env, S, e, rs, h, _⟩ => h.elim⟩
    · exact snd_asgcA h1.2 hd
  | par is t h1 => exact ⟨snd_par h1.1, fun _ _ _ _ _ _ e => nomatch e⟩
  | exp a h1 => exact ⟨snd_exp h1.1, fun _ _ _ _ _ _ e => nomatch e⟩
  | ret a h1 => exact ⟨snd_ret h1.1, fun _ _ _ _ _ _ e => nomatch e⟩
  | retn => exact ⟨snd_retn, fun _ _ _ _ _ _ e => nomatch e⟩
  | ifs a b c h1 h2 h3 => exact ⟨snd_ifs h1.1 h2.1 h3.1, fun _ _ _ _ _ _ e => nomatch e⟩
  | whl a b h1 h2 => exact ⟨snd_whl h1.1 h2.1, fun _ _ _ _ _ _ e => nomatch e⟩
  | for1 a b c h1 h2 h3 => exact ⟨snd_for1 h1.1 h2.1 h3.1, fun _ _ _ _ _ _ e => nomatch e⟩
  | forM a b c h1 h2 h3 => exact ⟨snd_forM h1.1 h2.1 h3.1, fun _ _ _ _ _ _ e => nomatch e⟩
  | pass => exact ⟨snd_pass, fun _ _ _ _ _ _ e => nomatch e⟩
  | cont => exact ⟨snd_cont, fun _ _ _ _ _ _ e => nomatch e⟩
  | gnm i => exact ⟨snd_gnm, fun _ _ _ _ _ _ e => nomatch e⟩
  | gtp a h1 => exact ⟨snd_gtp h1.1, fun _ _ _ _ _ _ e => nomatch e⟩
  | gst a h1 => exact ⟨snd_gst h1.1, fun _ _ _ _ _ _ e => nomatch e⟩
  | gfl f a h1 => exact ⟨snd_gfl h1.1, fun _ _ _ _ _ _ e => nomatch e⟩
  | gix a b h1 h2 => exact ⟨snd_gix h1.1 h2.1, fun _ _ _ _ _ _ e => nomatch e⟩
theorem snd_all (z : E) : Snd G T C k z := (snd_both z).1
end

/-! ### calls by depth -/
/-- a def: how many parameters, whether the last takes what is left, the slots, the body -/
structure Fun where
  np : Nat
  star : Bool := false
  ns : Nat
  body : E
/-- what a call may forget -/
def fin (q : DK) : DK := fun d S => ∃ S', Sub S' S ∧ q d S'
def runF (C : Orc) (T : CT) (F : Fun) (ds : List D) (S : Sto) (q : DK) (r : Exc → Sto → Prop) : Prop :=
  (den C T F.body).ss (fun x _ S' => ∃ S2, Sub S2 S' ∧ r x S2) { nx := fun _ S' => fin q .non S', rt := fin q, ct := fun _ _ => False } (ds.map some ++ List.replicate (F.ns - ds.length) none) S
def argsF (F : Fun) (ds : List D) : Option (List D) :=
  if F.star = true then (if F.np ≤ ds.length + 1 ∧ 1 ≤ F.np ∧ ds.length ≤ 1000 then some (ds.take (F.np - 1) ++ [.tup (ds.drop (F.np - 1))]) else none)
  else if ds.length = F.np then some ds else none
abbrev Tbl := FK → Option Fun
def callW (Γ : Tbl) (T : CT) : Nat → Orc
  | 0 => fun _ _ _ _ _ => False
  | n + 1 => fun key ds S q r => match Γ key with
    | some F => match argsF F ds with
      | some as => runF (callW Γ T n) T F as S q r
      | none => False
    | none => False
end C2

/-! A def keeps what its body means. -/
namespace C2
open PySem PySem.Spec PyProof.Rows L2
/-- what the module holds, at a depth -/
structure Lk (P : Program) (w : World) (K : PySem.W.Frag) (mg : Str → Option Value) (base : Heap) (G : Nm) (T : CT) (C : Orc) (k : Nat) : Prop where
  cons : ∀ x v, G.cons.lookup x = some v → ∃ u, mg x = some u ∧ RelV v.v u
  fns : ∀ x, G.fns.contains x = true → mg x = some (.ref (He.ga K x)) ∧ PySem.W.keepIn K (.ref (He.ga K x)) = true ∧ FnG P w K mg base G.rep k (He.ga K x) (liftSp K (C (.fn x)))
  mks : ∀ x, G.mks.contains x = true → mg x = some (.ref (He.ga K x)) ∧ T.mks x = true
  mkT : ∀ x, T.mks x = true → ∃ f, Mk K (He.ga K x) f ∧ FnG P w K mg base false k f (liftSp K (C (.me x "__init__")))
  cms : ∀ x m, G.cms.contains (x, m) = true → (∃ mc p g, ClX.CRead K (He.ga K x) mc ∧ ClX.CMet K (He.ga K x) mc m p g ∧ FnG P w K mg base false k g (liftSp K (C (.me x m)))) ∧ mg x = some (.ref (He.ga K x))
  atc : ∀ c f a, T.pr c f = some a → Cls K (He.ga K c)
  atf : ∀ c f, T.pr c f = some .fld → NoAttr K (He.ga K c) f
  atp : ∀ c f, T.pr c f = some .prop → ∃ p g, PropOf K (He.ga K c) f p g ∧ FnG P w K mg base false k g (liftSp K (C (.me c f)))
  oms : ∀ c m, T.hm c m = true → Cls K (He.ga K c) ∧ ∃ g, Meth K (He.ga K c) m g ∧ FnG P w K mg base false k g (liftSp K (C (.me c m)))
  fr : ∀ x ∈ freeNames, mg x = none
section
variable {P : Program} {w : World} {K : PySem.W.Frag} {mg : Str → Option Value} {base : Heap} {G : Nm} {T : CT} {C : Orc} {k : Nat}
theorem Lk.co (L : Lk P w K mg base G T C k) {N ps : List Str} {scope : Scope} {qual : Str} {f : Addr} {cdv : Value} {A : Around} {outer : List PySem.Env} {s : Shared} {H : Hp} {E : XK} (S : FnScope N ps scope) (hr : Room (k + 1) (A.deeper (envOfC qual scope s.heap.objs.size f cdv)))
    (hg : G.rep = true → (A.deeper (envOfC qual scope s.heap.objs.size f cdv)).guards = some []) : CO G T C k ⟨N, scope, none⟩ (cxOf (L2.CX P w) P w K mg base N qual scope f cdv A outer s H E) (fun cls d _ H => E cls d H) where
  hN := rfl
  hsc := rfl
  hfn := fun _ _ => .inl rfl
  nd := S.nd
  calm := rfl
  tk := takes_of rfl rfl rfl rfl
  rm := hr
  gd := hg
  bk := fun _ => by
    show (if scope.kind.isAnnotationScope then ScopeKind.function else scope.kind) = .function
    rw [S.kind]; rfl
  po := fun _ => passes_of rfl
  cons := L.cons
  fns := L.fns
  mks := L.mks
  mkT := L.mkT
  cms := fun x m h => ⟨⟨(L.cms x m h).1⟩, (L.cms x m h).2⟩
  ats := ⟨L.atc, L.atf, L.atp⟩
  oms := ⟨L.oms⟩
  fr := L.fr
theorem rel_start {H : Hp} {N : List Str} {ds : List D} {vs : List V} (r : RDs K H ds vs) (hl : ds.length ≤ N.length) : RelEnv K H (ds.map some ++ List.replicate (N.length - ds.length) none) (start N vs) := by
  have l := r.length
  refine ⟨by simp [L2.start, l], fun i d h => ?_⟩
  have hi : i < ds.length := by
    rcases Nat.lt_or_ge i ds.length with z | z
    · exact z
    · rw [List.getElem?_append_right (by simpa using z), List.getElem?_replicate] at h
      split at h
      · cases h
      · cases h
  rw [List.getElem?_append_left (by simpa using hi), List.getElem?_map, Option.map_eq_some_iff] at h
  obtain ⟨d', h1, h2⟩ := h
  cases h2
  obtain ⟨v, h3, h4⟩ := r.get h1
  refine ⟨v, ?_, h4⟩
  unfold L2.start
  rw [List.getElem?_append_left (by simpa [← l] using hi), List.getElem?_map, h3]; rfl
/-- the body's promise -/
theorem body_ok (L : Lk P w K mg base G T C k) {N ps : List Str} {scope : Scope} {qual : Str} {f : Addr} {cdv : Value} {A : Around} {outer : List PySem.Env} {s : Shared} {H : Hp} {E : XK} {Q : VK} {vs : List V} {body : List Stmt} {F : Fun} (S : FnScope N ps scope) (hr : Room (k + 1) (A.deeper (envOfC qual scope s.heap.objs.size f cdv)))
    (hg : G.rep = true → (A.deeper (envOfC qual scope s.heap.objs.size f cdv)).guards = some []) (hm : (mat G F.body ⟨N, scope, none⟩).ss body = true) (hn : F.ns = N.length) (hl : vs.length ≤ N.length) (h : liftSp K (runF C T F) vs H Q E) :
    ∃ t, PSs (cxOf (L2.CX P w) P w K mg base N qual scope f cdv A outer s H E) body t ∧ t { nx := fun _ H' => Q .non H', rt := Q } (start N vs) H := by
  obtain ⟨ds, Sa, q, r, r1, r2, hc, kk, hE⟩ := h
  refine ⟨_, (snd_all F.body).ss ⟨N, scope, none⟩ _ _ body rfl (L.co S hr hg) hm, ?_⟩
  unfold runF at hc
  rw [hn] at hc
  refine ⟨_, _, _, Sa, rel_start r1 (by rw [r1.length]; exact hl), r2, hc, ?_, ?_, ?_, ?_⟩
  · intro x env S' σ H' cls d st e rs ex ⟨S2, hs, hx⟩
    exact hE x S2 H' cls d (st.sub hs) (rs.sub hs) ex hx
  · intro env S' σ H' st e rs ⟨S2, hs, hx⟩
    exact kk .non S2 .non H' (st.sub hs) (by unfold RD; rfl) (rs.sub hs) hx
  · intro d S' v H' st rd rs ⟨S2, hs, hx⟩
    exact kk d S2 v H' (st.sub hs) rd (rs.sub hs) hx
  · intro env S' σ H' st e rs hx
    exact hx.elim
theorem FnG.imp {g : Bool} {f : Addr} {sp sp' : Sp} (F : FnG P w K mg base g k f sp) (h : ∀ vs H Q E, sp' vs H Q E → sp vs H Q E) : FnG P w K mg base g k f sp' := fun A outer s H us vs Q E hr hg e0 r hs => F A outer s H us vs Q E hr hg e0 r (h _ _ _ _ hs)
/-- a def without a star -/
theorem fun_ok {Γ : Tbl} {n : Nat} (L : Lk P w K mg base G T (callW Γ T n) (2 * n)) {key : FK} {F : Fun} (hF : Γ key = some F) {x qual : Str} {params : Arguments} {body : List Stmt} {scope : Scope} {kws : List (Str × V)} {fd : FuncData} {f : Addr} {N ps : List Str}
    (Fd : FunD K x qual params body scope [] kws f fd) (S : FnScope N ps scope) (hb : Binds K fd ps []) (hs : F.star = false) (hp : F.np = ps.length) (hn : F.ns = N.length) (hm : (mat G F.body ⟨N, scope, none⟩).ss body = true) :
    FnG P w K mg base G.rep (2 * (n + 1)) f (liftSp K (callW Γ T (n + 1) key)) := by
  have hpre : ps.length ≤ N.length := by
    have := congrArg List.length S.pre
    rw [List.length_take] at this
    omega
  refine FnG.imp (sp := fun vs H Q E => vs.length = ps.length ∧ liftSp K (runF (callW Γ T n) T F) vs H Q E) (fnG_of (k := 2 * n + 1) (dvs := []) Fd S hb .nil (fun vs H Q E h => by rw [List.append_nil]; exact h.1) fun cdv A outer s H vs Q E hr hg h => ?_) fun vs H Q E ⟨ds, Sa, q, r, r1, r2, hc, kk, hE⟩ => ?_
  · rw [List.append_nil]
    exact body_ok L S hr hg hm hn (by rw [h.1]; exact hpre) h.2
  · simp only [callW, hF] at hc
    unfold argsF at hc
    rw [hs] at hc
    simp only [Bool.false_eq_true, if_false] at hc
    by_cases hl : ds.length = F.np
    · rw [if_pos hl] at hc
      exact ⟨by rw [← r1.length, hl, hp], ds, Sa, q, r, r1, r2, hc, kk, hE⟩
    · rw [if_neg hl] at hc
      exact hc.elim
/-- a def with a star -/
theorem fun_star {Γ : Tbl} {n : Nat} (L : Lk P w K mg base G T (callW Γ T n) (2 * n)) (hrep : G.rep = false) {key : FK} {F : Fun} (hF : Γ key = some F) {x qual : Str} {params : Arguments} {body : List Stmt} {scope : Scope} {kws : List (Str × V)} {fd : FuncData} {f : Addr} {N ps : List Str} {pv : Str}
    (Fd : FunD K x qual params body scope [] kws f fd) (S : FnScope N (ps ++ [pv]) scope)
    (hb : ∀ (kV doc pm : Value) (an : Option Addr) (cdv ct : Value) (us rest : List Value), us.length = ps.length → bindArgs (PySem.W.fnOf x qual params body scope .none kV doc pm an cdv ct) ⟨us ++ rest, []⟩ = (newTuple rest >>= fun t => pure (ps.zip us ++ [(pv, t)])))
    (hs : F.star = true) (hp : F.np = ps.length + 1) (hn : F.ns = N.length) (hm : (mat G F.body ⟨N, scope, none⟩).ss body = true) :
    FnG P w K mg base false (2 * (n + 1)) f (liftSp K (callW Γ T (n + 1) key)) := by
  have hpre : (ps ++ [pv]).length ≤ N.length := by
    have := congrArg List.length S.pre
    rw [List.length_take] at this
    omega
  refine FnG.imp (fnR_star (k := 2 * n + 1) (sp := fun vs H Q E => vs.length = ps.length + 1 ∧ liftSp K (runF (callW Γ T n) T F) vs H Q E) Fd S hb fun cdv A outer s H vs Q E hr h => ?_) fun vs H Q E ⟨ds, Sa, q, r, r1, r2, hc, kk, hE⟩ => ?_
  · exact body_ok L S hr (fun z => by rw [hrep] at z; cases z) hm hn (by rw [h.1]; simpa using hpre) h.2
  · simp only [callW, hF] at hc
    unfold argsF at hc
    rw [hs] at hc
    simp only [if_true] at hc
    by_cases hl : F.np ≤ ds.length + 1 ∧ 1 ≤ F.np ∧ ds.length ≤ 1000
    · rw [if_pos hl] at hc
      rw [hp, Nat.add_sub_cancel] at hc
      rw [hp] at hl
      have l := r1.length
      refine ⟨vs.take ps.length, vs.drop ps.length, (List.take_append_drop _ _).symm, by rw [List.length_take]; omega, by rw [List.length_drop, sizeLine_eq]; omega, fun p o hp0 ho => ⟨by rw [List.length_append, List.length_take, List.length_singleton]; omega, ?_⟩⟩
      have t : Tle H (upd H p o) := Tle.new hp0
      have st : Stp Sa H Sa (upd H p o) := Stp.new hp0
      refine ⟨_, Sa, q, r, RDs.append ((r1.take ps.length).mono t) (RDs.one ?_), r2.new hp0, hc, kk.mono st, fun x S' H' cls d st2 => hE x S' H' cls d (st.trans st2)⟩
      unfold RD
      refine ⟨p, _, rfl, ?_, (r1.drop ps.length).mono t⟩
      unfold TupT
      rcases ho with ⟨rfl, c⟩ | ⟨u, rfl, hu, c⟩
      · rw [if_pos c]; exact upd_same
      · rw [if_neg c]; exact ⟨u, upd_same, hu⟩
    · rw [if_neg hl] at hc
      exact hc.elim
end
end C2

/-! The end: a law's def is called where no repr is under way. -/
namespace C2
open PySem PySem.Spec PyProof.Rows L2
section
variable {P : Program} {w : World} {K : PySem.W.Frag} {mg mb : Str → Option Value} {fa a : Addr} {s₁ : Shared} {vs : List Value} {ns : List Int}
/-- what is tracked of the script: nothing where the text holds it, else its object -/
def scrH (K : PySem.W.Frag) (a : Addr) (vs : List Value) (ns : List Int) : Hp := fun b => if b = a ∧ K.lookup a = none then some (.frz { cls := .type "list", data := .seq vs.toArray } (.lst (ns.map V.int))) else none
theorem scrH_some {b : Addr} {u : HO} (h : scrH K a vs ns b = some u) : b = a ∧ K.lookup a = none ∧ u = .frz { cls := .type "list", data := .seq vs.toArray } (.lst (ns.map V.int)) := by
  unfold scrH at h
  split at h
  · rename_i c; exact ⟨c.1, c.2, (Option.some.inj h).symm⟩
  · cases h
theorem end_call {k : Nat} {c : List D → Sto → DK → (Exc → Sto → Prop) → Prop} (hin : K.In s₁.heap) (hns : s₁.heap.Ns mainGlobals mg) (hb : s₁.heap.Ns builtinsNs mb) (hbb : ∀ x : Str, x ≠ "__name__" → mb x = bootBuiltins x) (hlim : s₁.heap.NoLimit) (hg : s₁.gens = #[])
    (ha : s₁.heap.get? a = some { cls := .type "list", data := .seq vs.toArray }) (hi : IntsAre vs ns) (hl : ns.length ≤ sizeLine) (hr : Room k callerA)
    (F : ∀ base : Heap, K.In base → base.Ns mainGlobals mg → FnG P w K mg base true k fa (liftSp K c)) (hc : c [.scr ns] (fun _ => none) (fun d _ => d = .bl true) (fun _ _ => False)) :
    codeAny (model P w) callerA (.call (.ref fa) ⟨[.ref a], []⟩) (fun r s' => r = .ok (.ret (.bool true)) ∧ OldK s₁.heap s'.heap ∧ s'.os = s₁.os ∧ AllBare s'.gens) s₁ := by
  have rv := vals_of_ints hi
  have hlen : vs.length = ns.length := by have := rv.length; simpa using this.symm
  let H := scrH K a vs ns
  have hidden : ∀ {b : Addr} {o : Obj}, s₁.heap.get? b = some o → H b = none → (hidT s₁.heap H).get? b = some o := fun e n => hidT_get e n
  have dictFree : ∀ {b : Addr} {o : Obj} {es : Array DictEntry} {ep : Nat}, s₁.heap.get? b = some o → o.data = .dict es ep → H b = none := fun {b o es ep} e d => by
    cases q : H b with
    | none => rfl
    | some u =>
      obtain ⟨rfl, _, _⟩ := scrH_some q
      rw [ha] at e; cases e; cases d
  have names : ∀ {b : Addr} {m : Str → Option Value}, s₁.heap.Ns b m → (hidT s₁.heap H).Ns b m := fun {b m} ⟨o, es, ep, e, d, r⟩ => ⟨o, es, ep, hidden e (dictFree e d), d, r⟩
  have inB : K.In (hidT s₁.heap H) := fun b o e => hidden (hin b o e) (by
    cases q : H b with
    | none => rfl
    | some u => obtain ⟨rfl, z, _⟩ := scrH_some q; rw [z] at e; cases e)
  have hM : Mod K mg (hidT s₁.heap H) := ⟨inB, names hns, ⟨mb, names hb, hbb⟩, let ⟨mc, h1, h2⟩ := hlim; ⟨mc, names h1, h2⟩⟩
  have hok : HOk P w H s₁.heap := fun b u q => by
    obtain ⟨rfl, _, rfl⟩ := scrH_some q
    exact ⟨ha, by rw [List.length_map]; exact hl, vs, _, rv, ha⟩
  have e0 : Env0 P w K mg (hidT s₁.heap H) callerA [] s₁ H := ⟨rfl, hM, fun b o e => of_hidT e, Nat.le_of_eq (hidT_size _ _), trivial, fun b z => absurd (show b ∈ ([] : List Addr) from z) List.not_mem_nil, hok, AllBare.of_eq hg⟩
  have script : RD K H (.scr ns) (.ref a) := by
    unfold RD
    refine ⟨a, rfl, ?_⟩
    cases hk : K.lookup a with
    | none => exact .inl ⟨_, if_pos ⟨rfl, hk⟩⟩
    | some o =>
      have e := hin a o hk
      rw [ha] at e
      cases e
      exact .inr ⟨_, vs.toArray, _, hk, rfl, rfl, rfl, by rw [List.size_toArray, hlen]; exact hl, by simpa using rv⟩
  have sp : liftSp K c [.ref a] H (fun v _ => v = .bl true) (fun _ _ _ => False) :=
    ⟨[.scr ns], _, _, _, RDs.one script, (fun _ _ z => by cases z), hc, fun d S v H' _ r _ q => by subst q; exact rd_bl r, fun _ _ _ _ _ _ _ _ z => z⟩
  refine codeAny_mono (F _ inB (names hns) callerA [] s₁ H [.ref a] [.ref a] _ _ hr (fun _ => rfl) e0 (.cons rfl .nil) sp) fun r s' h => ?_
  match r, h with
  | .error e, ⟨_, _, _, _, _, _, _, _, _, _, _, _, z⟩ => exact z.elim
  | .ok (.ret u), ⟨v, H', os, bare, un, hok', r', q⟩ =>
    have q' : v = .bl true := q
    subst q'
    obtain rfl : u = Value.bool true := r'
    refine ⟨rfl, OldK.of_keep fun b o e => ?_, os, bare⟩
    cases q : H b with
    | none => exact un.keep b o e q (fun z => absurd (show b ∈ ([] : List Addr) from z) List.not_mem_nil) (by simp)
    | some u =>
      obtain ⟨rfl, _, rfl⟩ := scrH_some q
      have z := un.frzs b _ _ q
      obtain ⟨e2, _⟩ := hok' b _ z
      rw [ha] at e; cases e
      exact e2
end
/-- a law's walk -/
theorem walkG {l : PySem.W.OpenLaw} {n k : Nat} {q : Program} {loose : List Str} {XP : (Str → Option Value) → Heap → Prop} {YP : World → Heap → Prop} {d : DefRec} {c : List D → Sto → DK → (Exc → Sto → Prop) → Prop}
    (hn : l.most = some n) (hn2 : n ≤ sizeLine) (hdf : d.params.defaults = []) (hr : Room k callerA)
    (F : ∀ (w : World) (mg : Str → Option Value) (fa : Addr) (h : Heap), YP w h → h.Ns mainGlobals mg → mg d.name = some (.ref fa) →
      ∃ K : PySem.W.Frag, K.In h ∧ ∀ base : Heap, K.In base → base.Ns mainGlobals mg → FnG l.prog w K mg base true k fa (liftSp K c))
    (hc : ∀ ns : List Int, ns.length ≤ n → (∀ i ∈ ns, Builtin.Int.intBits i ≤ 1048576) → c [.scr ns] (fun _ => none) (fun d _ => d = .bl true) (fun _ _ => False)) :
    PySem.W.WalkO q loose XP YP l.row.toRowW d [] (fun f vs => PySem.call f vs) := by
  refine Att.attach_callB hn hdf fun w s₀ s₁ mg mb fa o pm cd doc a vs ns G Y ho hd hcd hmg hobj hints hlen hbits hg => ?_
  obtain ⟨K, KX, hF⟩ := F w mg fa _ Y G.T.g hmg
  exact end_call KX G.T.g G.T.b G.T.builtins G.T.nolimit hg hobj hints (Nat.le_trans hlen hn2) hr hF (hc ns hlen hbits)
end C2

/-! The head's facts; every def of the table keeps its meaning, at any depth. -/
namespace C2
open PySem PySem.Spec PyProof.Rows L2
/-- the program's names, by lists -/
structure Tab where
  cons : List (Str × Cn)
  pfns : List Str
  lfns : List Str
  mks : List Str
  cms : List (Str × Str)
  cls : List Str
  flds : List (Str × Str)
  props : List (Str × Str)
  oms : List (Str × Str)
def Tab.CT (t : Tab) : CT where
  pr := fun c f => if t.flds.contains (c, f) = true then some .fld else if t.props.contains (c, f) = true then some .prop else none
  hm := fun c m => t.oms.contains (c, m)
  mks := fun c => t.mks.contains c
/-- what the program's own defs see; what the law's see -/
def Tab.G1 (t : Tab) : Nm := ⟨t.cons, t.pfns, t.mks, t.cms, false⟩
def Tab.G2 (t : Tab) : Nm := ⟨t.cons, t.pfns ++ t.lfns, t.mks, t.cms, true⟩
/-- where a def stands -/
def Tab.ad (t : Tab) (K : PySem.W.Frag) : FK → Addr
  | .fn x => He.ga K x
  | .me c m => if t.props.contains (c, m) = true then He5.wf K (He.ga K c) "property" m else if t.cms.contains (c, m) = true then He5.wf K (He.ga K c) "classmethod" m else He.ma K (He.ga K c) m
def conB (K : PySem.W.Frag) (p : Str × Cn) : Bool := match PySem.W.nsIn K mainGlobals p.1 with
  | some (some u) => He.relB p.2.v u
  | _ => false
def cmB (K : PySem.W.Frag) (p : Str × Str) : Bool := PySem.W.readsIn K (He.ga K p.1) (.type "type") && (He.eqO (PySem.W.specialIn K (.ref (He.ga K p.1)) "__getattribute__") (some (some (.builtin "type.__getattribute__"))) && (He5.wrapB K (He.ga K p.1) "classmethod" "classmethod.__get__" p.2 && PySem.W.fnIn K (He5.wf K (He.ga K p.1) "classmethod" p.2)))
def propB (K : PySem.W.Frag) (p : Str × Str) : Bool := He.eqO (PySem.W.findIn K (.ref (He.ga K p.1)) p.2) (some (some (.ref (He.ma K (He.ga K p.1) p.2)))) && (He.eqO (PySem.W.specialIn K (.ref (He.ma K (He.ga K p.1) p.2)) "__get__") (some (some (.builtin "property.__get__"))) &&
  (decide (PySem.W.takesIn K (.ref (He.ma K (He.ga K p.1) p.2)) = some true) && (match PySem.W.recIn K (He.ma K (He.ga K p.1) p.2) "property" with
    | some (.ref _ :: _) => true
    | _ => false)))
def Tab.facts (t : Tab) (K : PySem.W.Frag) : Bool :=
  t.cons.all (conB K) && (((t.pfns ++ t.lfns).all fun x => (He.Fa.glo x).ok K && (He.Fa.keep x).ok K) && ((t.mks.all fun x => (He.Fa.glo x).ok K && (He.Fa.mkr x).ok K) && ((t.cms.all fun p => cmB K p && (He.Fa.glo p.1).ok K) &&
    ((t.cls.all fun x => (He.Fa.cls x).ok K) && ((t.flds.all fun p => (He.Fa.noat p.1 p.2).ok K) && (t.props.all (propB K) && ((t.oms.all fun p => (He.Fa.meth p.1 p.2).ok K) && freeNames.all fun x => (He.Fa.free x).ok K)))))))
/-- one def of the table -/
structure DF where
  key : FK
  name : Str
  qual : Str
  params : Arguments
  body : List Stmt
  scope : Scope
  N : List Str
  ps : List Str
  law : Bool
  F : Fun
def scopeB (N ps : List Str) (sc : Scope) : Bool := decide (sc.kind = .function) && (!sc.isCoroutine && (!sc.isGenerator && (decide N.Nodup && (decide (N.take ps.length = ps) && ((ps.all fun x => sc.names.lookup x == some .local || sc.names.lookup x == some .cell) && sc.names.all fun y => y.2 != .free)))))
theorem scope_ok {N ps : List Str} {sc : Scope} (h : scopeB N ps sc = true) : FnScope N ps sc := by
  unfold scopeB at h
  simp only [Bool.and_eq_true, decide_eq_true_eq, Bool.not_eq_true'] at h
  obtain ⟨h1, h2, h3, h4, h5, h6, h7⟩ := h
  refine ⟨h1, h2, h3, h4, h5, fun x hx => ?_, fun y hy => ?_⟩
  · have := List.all_eq_true.mp h6 x hx
    simpa only [Bool.or_eq_true, beq_iff_eq] using this
  · have := List.all_eq_true.mp h7 y hy
    simpa using this
/-- its slots' names: the parameters, the star's, the rest -/
def DF.pre (f : DF) : List Str := f.ps
/-- the law's own are no other's -/
def lawB (t : Tab) (f : DF) : Bool := match f.key with
  | .fn x => !f.law || !t.pfns.contains x
  | .me _ _ => !f.law
def DF.da (t : Tab) (f : DF) : He5.DefA := ⟨fun K => t.ad K f.key, f.name, f.qual, f.params, f.body, f.scope, [], []⟩
def DF.ok (t : Tab) (f : DF) : Bool := scopeB f.N f.ps f.scope && (decide (f.F.np = f.ps.length) && (decide (f.F.ns = f.N.length) && ((!f.F.star || !f.law) && ((mat (if f.law = true then t.G2 else t.G1) f.F.body ⟨f.N, f.scope, none⟩).ss f.body && lawB t f))))
/-- how its arguments are bound -/
def DF.Bind (f : DF) : Prop :=
  if f.F.star = true then ∃ qs pv, f.ps = qs ++ [pv] ∧ ∀ (kV doc pm : Value) (an : Option Addr) (cdv ct : Value) (us rest : List Value), us.length = qs.length → bindArgs (PySem.W.fnOf f.name f.qual f.params f.body f.scope .none kV doc pm an cdv ct) ⟨us ++ rest, []⟩ = (newTuple rest >>= fun t => pure (qs.zip us ++ [(pv, t)]))
  else ∀ (kV doc pm : Value) (an : Option Addr) (cdv ct : Value) (us : List Value), us.length = f.ps.length → bindArgs (PySem.W.fnOf f.name f.qual f.params f.body f.scope .none kV doc pm an cdv ct) ⟨us, []⟩ = pure (f.ps.zip us)
def tblOf (l : List DF) : Tbl := fun key => (l.find? fun f => decide (f.key = key)).map (·.F)
theorem lookup_mem {α β : Type} [BEq α] [LawfulBEq α] {x : α} {v : β} : ∀ {l : List (α × β)}, l.lookup x = some v → (x, v) ∈ l
  | [], h => by cases h
  | (y, u) :: r, h => by
    rw [List.lookup_cons] at h
    cases e : x == y with
    | true => rw [e] at h; cases h; rw [eq_of_beq e]; exact List.mem_cons_self
    | false => rw [e] at h; exact List.mem_cons_of_mem _ (lookup_mem h)
section
variable {P : Program} {w : World} {K : PySem.W.Frag} {mg : Str → Option Value} {base : Heap} {t : Tab} {l : List DF}
/-- every def keeps its meaning at a depth -/
def AllF (P : Program) (w : World) (K : PySem.W.Frag) (mg : Str → Option Value) (base : Heap) (t : Tab) (l : List DF) (n : Nat) : Prop :=
  (∀ x, t.pfns.contains x = true → FnG P w K mg base false (2 * n) (He.ga K x) (liftSp K (callW (tblOf l) t.CT n (.fn x)))) ∧ (∀ x, t.lfns.contains x = true → FnG P w K mg base true (2 * n) (He.ga K x) (liftSp K (callW (tblOf l) t.CT n (.fn x)))) ∧
    ∀ c m, FnG P w K mg base false (2 * n) (t.ad K (.me c m)) (liftSp K (callW (tblOf l) t.CT n (.me c m)))
theorem fnG_none {g : Bool} {k : Nat} {f : Addr} {c : List D → Sto → DK → (Exc → Sto → Prop) → Prop} (h : ∀ ds S q r, ¬ c ds S q r) : FnG P w K mg base g k f (liftSp K c) := fun A outer s H us vs Q E _ _ _ _ ⟨ds, S, q, r, _, _, hc, _⟩ => (h ds S q r hc).elim
/-- the classes' kinds do not cross -/
def Tab.sane (t : Tab) : Bool := (t.cms.all fun p => !t.props.contains p) && ((t.oms.all fun p => !t.props.contains p && !t.cms.contains p) && ((t.mks.all fun x => !t.props.contains (x, "__init__") && !t.cms.contains (x, "__init__")) && ((t.flds.all fun p => t.cls.contains p.1) && ((t.props.all fun p => t.cls.contains p.1) && ((t.oms.all fun p => t.cls.contains p.1))))))
theorem mem_of {α : Type} [BEq α] [LawfulBEq α] {xs : List α} {x : α} (h : xs.contains x = true) : x ∈ xs := List.contains_iff_mem.mp h
theorem lk_of (KX : K.In base) (Gn : base.Ns mainGlobals mg) (hf : t.facts K = true) (hs : t.sane = true) {n : Nat} (A : AllF P w K mg base t l n) (law : Bool) : Lk P w K mg base (if law = true then t.G2 else t.G1) t.CT (callW (tblOf l) t.CT n) (2 * n) := by
  unfold Tab.facts at hf
  simp only [Bool.and_eq_true] at hf
  obtain ⟨f1, f2, f3, f4, f5, f6, f7, f8, f9⟩ := hf
  unfold Tab.sane at hs
  simp only [Bool.and_eq_true] at hs
  obtain ⟨s1, s2, s3, s4, s5, s6⟩ := hs
  obtain ⟨a1, a2, a3⟩ := A
  have cls : ∀ c, t.cls.contains c = true → Cls K (He.ga K c) := fun c h => He.cls_ok (List.all_eq_true.mp f5 c (mem_of h))
  have eG : ∀ (α : Type) (g : Nm → α), g (if law = true then t.G2 else t.G1) = if law = true then g t.G2 else g t.G1 := fun α g => by cases law <;> rfl
  have gcons : (if law = true then t.G2 else t.G1).cons = t.cons := by cases law <;> rfl
  have gmks : (if law = true then t.G2 else t.G1).mks = t.mks := by cases law <;> rfl
  have gcms : (if law = true then t.G2 else t.G1).cms = t.cms := by cases law <;> rfl
  have adm : ∀ c m, t.props.contains (c, m) = false → t.cms.contains (c, m) = false → t.ad K (.me c m) = He.ma K (He.ga K c) m := fun c m h1 h2 => by
    show (if t.props.contains (c, m) = true then _ else _) = _
    rw [h1, h2]; rfl
  refine ⟨fun x v h => ?_, fun x h => ?_, fun x h => ?_, fun x h => ?_, fun x m h => ?_, fun c f a h => ?_, fun c f h => ?_, fun c f h => ?_, fun c m h => ?_, fun x h => ?_⟩
  · rw [gcons] at h
    have hm : (x, v) ∈ t.cons := lookup_mem h
    have z := List.all_eq_true.mp f1 _ hm
    unfold conB at z
    cases e : PySem.W.nsIn K mainGlobals x with
    | none => simp only [e] at z; cases z
    | some o =>
      cases o with
      | none => simp only [e] at z; cases z
      | some u => simp only [e] at z; exact ⟨u, PySem.W.mg_of KX Gn e, He.relB_ok z⟩
  · have hx : x ∈ t.pfns ++ t.lfns := by
      cases law with
      | true => exact mem_of h
      | false => exact List.mem_append_left _ (mem_of h)
    have z := List.all_eq_true.mp f2 _ hx
    rw [Bool.and_eq_true] at z
    refine ⟨He.glo_ok KX Gn z.1, He.keep_ok z.2, ?_⟩
    cases law with
    | true =>
      rcases List.mem_append.mp (mem_of h) with q | q
      · exact (a1 x (List.contains_iff_mem.mpr q)).up
      · exact a2 x (List.contains_iff_mem.mpr q)
    | false => exact a1 x h
  · rw [gmks] at h
    have z := List.all_eq_true.mp f3 _ (mem_of h)
    rw [Bool.and_eq_true] at z
    exact ⟨He.glo_ok KX Gn z.1, h⟩
  · have h' : t.mks.contains x = true := h
    have z := List.all_eq_true.mp f3 _ (mem_of h')
    rw [Bool.and_eq_true] at z
    have q := List.all_eq_true.mp s3 _ (mem_of h')
    simp only [Bool.and_eq_true, Bool.not_eq_true'] at q
    refine ⟨_, He.mkr_ok z.2, ?_⟩
    have := a3 x "__init__"
    rw [adm _ _ q.1 q.2] at this
    exact this
  · rw [gcms] at h
    have z := List.all_eq_true.mp f4 _ (mem_of h)
    rw [Bool.and_eq_true] at z
    obtain ⟨z1, z2⟩ := z
    unfold cmB at z1
    simp only [Bool.and_eq_true] at z1
    obtain ⟨y1, y2, y3, y4⟩ := z1
    have q := List.all_eq_true.mp s1 _ (mem_of h)
    simp only [Bool.not_eq_true'] at q
    refine ⟨⟨_, _, _, ⟨y1, He.eqO_ok y2⟩, He5.cmet_of y3 y4, ?_⟩, He.glo_ok KX Gn z2⟩
    have e : t.ad K (.me x m) = He5.wf K (He.ga K x) "classmethod" m := by
      show (if t.props.contains (x, m) = true then _ else if t.cms.contains (x, m) = true then _ else _) = _
      rw [q, h]; rfl
    have := a3 x m
    rw [e] at this
    exact this
  · have h' : (if t.flds.contains (c, f) = true then some At.fld else if t.props.contains (c, f) = true then some At.prop else none) = some a := h
    split at h'
    · rename_i q; exact cls c (List.all_eq_true.mp s4 _ (mem_of q))
    · split at h'
      · rename_i q; exact cls c (List.all_eq_true.mp s5 _ (mem_of q))
      · cases h'
  · have h' : (if t.flds.contains (c, f) = true then some At.fld else if t.props.contains (c, f) = true then some At.prop else none) = some .fld := h
    split at h'
    · rename_i q; exact He.noat_ok (List.all_eq_true.mp f6 _ (mem_of q))
    · split at h' <;> cases h'
  · have h' : (if t.flds.contains (c, f) = true then some At.fld else if t.props.contains (c, f) = true then some At.prop else none) = some .prop := h
    split at h'
    · cases h'
    · split at h'
      · rename_i q
        have z := List.all_eq_true.mp f7 _ (mem_of q)
        unfold propB at z
        simp only [Bool.and_eq_true, decide_eq_true_eq] at z
        obtain ⟨z1, z2, z3, z4⟩ := z
        refine ⟨_, He5.wf K (He.ga K c) "property" f, ⟨He.eqO_ok z1, He.eqO_ok z2, z3, ?_⟩, ?_⟩
        · unfold He5.wf
          split at z4
          · rename_i g r e; rw [e]; exact ⟨r, rfl⟩
          · cases z4
        · have e : t.ad K (.me c f) = He5.wf K (He.ga K c) "property" f := by
            show (if t.props.contains (c, f) = true then _ else _) = _
            rw [q]; rfl
          have := a3 c f
          rw [e] at this
          exact this
      · cases h'
  · have h' : t.oms.contains (c, m) = true := h
    have z := List.all_eq_true.mp f8 _ (mem_of h')
    have q := List.all_eq_true.mp s2 _ (mem_of h')
    simp only [Bool.and_eq_true, Bool.not_eq_true'] at q
    refine ⟨cls c (List.all_eq_true.mp s6 _ (mem_of h')), _, He.meth_ok z, ?_⟩
    have := a3 c m
    rw [adm _ _ q.1 q.2] at this
    exact this
  · exact He.free_ok KX Gn (List.all_eq_true.mp f9 x h)
/-- one def more deep -/
theorem def_ok {n : Nat} {f : DF} (hok : f.ok t = true) (hb : f.Bind) (hk : tblOf l f.key = some f.F) (L : Lk P w K mg base (if f.law = true then t.G2 else t.G1) t.CT (callW (tblOf l) t.CT n) (2 * n)) {fd : FuncData} {a : Addr} (Fd : FunD K f.name f.qual f.params f.body f.scope [] [] a fd) :
    FnG P w K mg base f.law (2 * (n + 1)) a (liftSp K (callW (tblOf l) t.CT (n + 1) f.key)) := by
  unfold DF.ok at hok
  simp only [Bool.and_eq_true, decide_eq_true_eq] at hok
  obtain ⟨h1, h2, h3, h6, h7, _⟩ := hok
  have S := scope_ok h1
  unfold DF.Bind at hb
  cases hst : f.F.star with
  | false =>
    rw [hst] at hb
    simp only [Bool.false_eq_true, if_false] at hb
    have := fun_ok L hk Fd S (Fd.bindsN hb) hst h2 h3 h7
    cases hl : f.law with
    | true => rw [hl] at this; exact this
    | false => rw [hl] at this; exact this
  | true =>
    rw [hst] at hb h6
    simp only [if_true] at hb
    obtain ⟨qs, pv, e, hb⟩ := hb
    have hl : f.law = false := by simpa using h6
    rw [hl] at L h7 ⊢
    rw [e] at S h2
    exact fun_star (G := t.G1) L rfl hk Fd S hb hst (by simpa using h2) h3 h7
theorem all_ok (KX : K.In base) (Gn : base.Ns mainGlobals mg) (hf : t.facts K = true) (hs : t.sane = true) (hd : ∀ f ∈ l, f.ok t = true ∧ f.Bind ∧ ∃ fd, FunD K f.name f.qual f.params f.body f.scope [] [] (t.ad K f.key) fd) : ∀ n, AllF P w K mg base t l n
  | 0 => ⟨fun x h => fnG_none fun _ _ _ _ z => z, fun x h => fnG_none fun _ _ _ _ z => z, fun c m => fnG_none fun _ _ _ _ z => z⟩
  | n + 1 => by
    have A := all_ok KX Gn hf hs hd n
    have step : ∀ key, (∃ f ∈ l, f.key = key ∧ f.ok t = true ∧ FnG P w K mg base f.law (2 * (n + 1)) (t.ad K key) (liftSp K (callW (tblOf l) t.CT (n + 1) key))) ∨ ∀ g, FnG P w K mg base g (2 * (n + 1)) (t.ad K key) (liftSp K (callW (tblOf l) t.CT (n + 1) key)) := by
      intro key
      cases e : l.find? fun f => decide (f.key = key) with
      | none =>
        right
        intro g
        refine fnG_none fun ds S q r z => ?_
        have et : tblOf l key = none := by unfold tblOf; rw [e]; rfl
        simp only [callW, et] at z
      | some f =>
        left
        have hm := List.mem_of_find?_eq_some e
        have hk : f.key = key := by simpa using List.find?_some e
        obtain ⟨h1, h2, fd, h3⟩ := hd f hm
        have et : tblOf l f.key = some f.F := by unfold tblOf; rw [hk, e]; rfl
        have r := def_ok h1 h2 et (lk_of KX Gn hf hs A f.law) h3
        rw [hk] at r
        exact ⟨f, hm, hk, h1, r⟩
    have okL : ∀ f : DF, f.ok t = true → lawB t f = true := fun f h => by
      unfold DF.ok at h
      simp only [Bool.and_eq_true] at h
      exact h.2.2.2.2.2
    refine ⟨fun x h => ?_, fun x h => ?_, fun c m => ?_⟩
    · rcases step (.fn x) with ⟨f, _, hk, h1, r⟩ | r
      · have := okL f h1
        unfold lawB at this
        rw [hk] at this
        simp only [h, Bool.not_true, Bool.or_false, Bool.not_eq_true'] at this
        rw [this] at r
        exact r
      · exact r false
    · rcases step (.fn x) with ⟨f, _, hk, h1, r⟩ | r
      · cases hl : f.law with
        | true => rw [hl] at r; exact r
        | false => rw [hl] at r; exact r.up
      · exact r true
    · rcases step (.me c m) with ⟨f, _, hk, h1, r⟩ | r
      · have := okL f h1
        unfold lawB at this
        rw [hk] at this
        simp only [Bool.not_eq_true'] at this
        rw [this] at r
        exact r
      · exact r false
end

/-! ### the Hook -/
def obsC (t : Tab) (l : List DF) (K : PySem.W.Frag) : He.AlD := (t.facts K && l.all (fun f => (f.da t).ok K), l.map fun f => He5.fnA K (t.ad K f.key))
def valC (t : Tab) (l : List DF) : He.AlD := (true, l.map fun f => (f.da t).val)
def SaysC (t : Tab) (l : List DF) (K : PySem.W.Frag) : Prop := obsC t l K = valC t l
def obsCG (n : Nat) (t : Tab) (l : List DF) (g : Addr → Option Obj) : He.AlD := obsC t l (He.frG g (He5.asA g n))
def hookC (n : Nat) (t : Tab) (l : List DF) : PySem.W.Hook where
  α := He.AlD
  obs := fun s => obsCG n t l s.heap.get?
  val := fun _ => valC t l
  says := fun _ h => ∃ K : PySem.W.Frag, K.In h ∧ SaysC t l K
  of := fun _ _ e => ⟨_, He.frG_in, e⟩
  keeps := fun _ _ _ ⟨K, hK, c⟩ k => ⟨K, PySem.W.Frag.In.keeps hK k, c⟩
theorem obsCG_eq {n : Nat} {t : Tab} {l : List DF} {g : Addr → Option Obj} {s : Shared} (h : ∀ a, g a = s.heap.get? a) : obsCG n t l g = (hookC n t l).obs s := by
  have e : g = s.heap.get? := funext h
  rw [e] <;> rfl
theorem says_facts {t : Tab} {l : List DF} {K : PySem.W.Frag} (c : SaysC t l K) : t.facts K = true ∧ ∀ f ∈ l, ∃ fd, FunD K f.name f.qual f.params f.body f.scope [] [] (t.ad K f.key) fd := by
  have c1 : (t.facts K && l.all (fun f => (f.da t).ok K)) = true := congrArg (fun z : He.AlD => z.1) c
  rw [Bool.and_eq_true] at c1
  have c2 : l.map (fun f => He5.fnA K (t.ad K f.key)) = l.map fun f => (f.da t).val := congrArg (fun z : He.AlD => z.2) c
  refine ⟨c1.1, fun f hm => ?_⟩
  have e : He5.fnA K (t.ad K f.key) = (f.da t).val := List.map_inj_left.mp c2 f hm
  exact He5.DefA.funD (d := f.da t) e (List.all_eq_true.mp c1.2 f hm)
/-- the law's def, by its meaning -/
theorem law_of {P : Program} {w : World} {K : PySem.W.Frag} {h : Heap} {mg : Str → Option Value} {fa : Addr} {t : Tab} {l : List DF} {x : Str} (hs : t.sane = true) (hok : l.all (fun f => f.ok t) = true) (hb : ∀ f ∈ l, f.Bind) (hx : t.lfns.contains x = true) (X : K.In h) (Gn : h.Ns mainGlobals mg) (hm : mg x = some (.ref fa)) (c : SaysC t l K) (n : Nat) :
    ∀ base : Heap, K.In base → base.Ns mainGlobals mg → FnG P w K mg base true (2 * n) fa (liftSp K (callW (tblOf l) t.CT n (.fn x))) := by
  intro base KB GB
  obtain ⟨hf, hd⟩ := says_facts c
  have A := (all_ok (P := P) (w := w) KB GB hf hs (fun f hf' => ⟨List.all_eq_true.mp hok f hf', hb f hf', hd f hf'⟩) n).2.1 x hx
  have e : mg x = some (.ref (He.ga K x)) := by
    unfold Tab.facts at hf
    simp only [Bool.and_eq_true] at hf
    have z := List.all_eq_true.mp hf.2.1 x (List.mem_append_right _ (mem_of hx))
    rw [Bool.and_eq_true] at z
    exact He.glo_ok KB GB z.1
  rw [hm] at e
  cases e
  exact A
end C2
namespace C2
open PySem PySem.Spec PyProof.Rows L2
theorem bind0 {f : DF} (h : f.F.star = false) (hb : ∀ (kV doc pm : Value) (an : Option Addr) (cdv ct : Value) (us : List Value), us.length = f.ps.length → bindArgs (PySem.W.fnOf f.name f.qual f.params f.body f.scope .none kV doc pm an cdv ct) ⟨us, []⟩ = pure (f.ps.zip us)) : f.Bind := by
  unfold DF.Bind
  rw [h]
  exact hb
theorem bind1 {f : DF} {qs : List Str} {pv : Str} (h : f.F.star = true) (e : f.ps = qs ++ [pv]) (hb : ∀ (kV doc pm : Value) (an : Option Addr) (cdv ct : Value) (us rest : List Value), us.length = qs.length → bindArgs (PySem.W.fnOf f.name f.qual f.params f.body f.scope .none kV doc pm an cdv ct) ⟨us ++ rest, []⟩ = (newTuple rest >>= fun t => pure (qs.zip us ++ [(pv, t)]))) : f.Bind := by
  unfold DF.Bind
  rw [h]
  exact ⟨qs, pv, e, hb⟩
def clsBody : Stmt → List Stmt
  | .ClassDef _ _ _ b _ _ _ _ _ _ _ => b
  | _ => []
end C2

/-! The small language of the defs. -/
namespace C2
open PySem
def e_law_right : E := (.sq (.par [5, 6] (.cons (.cm "Plan" "read" (.cons (.call "_law_text" (.cons (.var 0) (.cons (.var 1) .nil))) .nil)) (.cons (.bi .tuple (.cons (.comp [7] (.var 1) [7] false .nil (.call "_law_unit" (.cons (.var 0) (.cons (.var 7) .nil)))) .nil)) .nil)))
    (.sq (.asg (.gnm 2) (.cn (.int 1)))
    (.sq (.for1 (.gnm 3) (.var 6)
    (.sq (.asg (.gnm 2) (.op .mul (.var 2) (.var 3)))
    .nil))
    (.sq (.asg (.gnm 4) (.lst (.cons (.attr "units" (.var 5)) (.cons (.attr "works" (.var 5)) (.cons (.attr "units" (.var 5)) (.cons (.attr "works" (.var 5)) .nil))))))
    (.sq (.ret (.op .eq (.bi .repr (.cons (.var 4) .nil)) (.bi .repr (.cons (.op .mul (.lst (.cons (.var 6) (.cons (.op .eq (.op .md (.var 0) (.var 2)) (.cn (.int 0))) .nil))) (.cn (.int 2))) .nil))))
    .nil)))))
/-- slots: _law_users, _law_some, _law_found, _law_unit_here, _law_told, _law_made, _law_due, _law_sizes_here -/
def F_law_right : Fun := ⟨2, false, 8, e_law_right⟩
def e_law_drawn : E := (.sq (.asg (.gnm 2) (.ix (.lst (.cons (.cn (.int 1)) (.cons (.cn (.int 2)) (.cons (.cn (.int 6)) (.cons (.cn (.int 7)) (.cons (.cn (.int 12)) (.cons (.cn (.int 24)) (.cons (.cn (.int 25)) (.cons (.cn (.int 36)) (.cons (.cn (.int 48)) (.cons (.cn (.int 59)) (.cons (.cn (.int 60)) (.cons (.op .add (.cn (.int 1)) (.call "_law_draw" (.cons (.var 0) (.cons (.cn (.int 60)) .nil)))) .nil))))))))))))) (.call "_law_draw" (.cons (.var 0) (.cons (.cn (.int 12)) .nil)))))
    (.sq (.par [4, 5] (.cons (.lst .nil) (.cons (.cn (.int 1)) .nil)))
    (.sq (.for1 (.gnm 3) (.rng1 (.call "_law_draw" (.cons (.var 0) (.cons (.cn (.int 6)) .nil))))
    (.sq (.asg (.gnm 6) (.call "_law_sizes" (.cons (.var 0) (.cons (.var 2) .nil))))
    (.sq (.ifs (.op .le (.op .mul (.var 5) (.bi .len (.cons (.var 6) .nil))) (.var 1))
    (.sq (.exp (.bm .append (.var 4) (.cons (.var 6) .nil)))
    (.sq (.asg (.gnm 5) (.op .mul (.var 5) (.bi .len (.cons (.var 6) .nil))))
    .nil))
    .nil)
    .nil)))
    (.sq (.ret (.tup (.cons (.var 2) (.cons (.var 4) .nil))))
    .nil))))
/-- slots: _law_pen_here, _law_most, _law_users, _law_turn, _law_found, _law_many, _law_sizes_here -/
def F_law_drawn : Fun := ⟨2, false, 7, e_law_drawn⟩
def e_law_pen : E := (.sq (.ret (.lst (.cons (.bi .max (.cons (.cn (.int 0)) (.cons (.op .sub (.var 0) (.op .pw (.cn (.int 10)) (.cn (.int 18)))) .nil))) (.cons (.op .md (.var 0) (.cn (.int 1000000007))) (.cons (.cn (.int 0)) .nil)))))
    .nil)
/-- slots: _law_cell -/
def F_law_pen : Fun := ⟨1, false, 1, e_law_pen⟩
def e_law_cell_at : E := (.sq (.ifs (.op .lt (.var 1) (.bi .len (.cons (.var 0) .nil)))
    (.sq (.ret (.ix (.var 0) (.var 1)))
    .nil)
    .nil)
    (.sq (.ret (.cn (.int 0)))
    .nil))
/-- slots: _law_script, _law_k -/
def F_law_cell_at : Fun := ⟨2, false, 2, e_law_cell_at⟩
def e_law_unit : E := (.sq (.asgc 2 (.comp [3] (.rng2 (.cn (.int 1)) (.op .add (.var 0) (.cn (.int 1)))) [3] false (.op .eq (.comp [4] (.var 1) [4] false (.op .ne (.op .md (.var 4) (.var 3)) (.cn (.int 0))) (.cn (.int 1))) (.lst .nil)) (.var 3)))
    (.sq (.ret (.op .dv (.var 0) (.ix (.var 2) (.neg (.cn (.int 1))))))
    .nil))
/-- slots: _law_users, _law_sizes_here, _law_some, _law_one, _law_size -/
def F_law_unit : Fun := ⟨2, false, 5, e_law_unit⟩
def e_Plan_read : E := (.sq (.ifs (.orv (.notv (.isi "str" (.var 1))) (.orv (.notv (.bm .startswith (.var 1) (.cons (.cn (.str "users ")) .nil))) (.last (.notv (.bm .endswith (.var 1) (.cons (.cn (.str "\n")) .nil))))))
    (.sq .dead
    .nil)
    .nil)
    (.sq (.asg (.gst (.cons (.gnm 2) (.cons (.gnm 5) .nil))) (.bm .split (.sl (.var 1) (.bi .len (.cons (.cn (.str "users ")) .nil)) (.neg (.cn (.int 1)))) (.cons (.cn (.str "\n")) .nil)))
    (.sq (.asg (.gtp (.cons (.gnm 3) (.cons (.gnm 4) .nil))) (.tup (.cons (.call "number_in" (.cons (.var 2) .nil)) (.cons (.comp [6] (.var 5) [6] false .nil (.bi .tuple (.cons (.comp [8] (.bm .split (.var 6) (.cons (.cn (.str " ")) .nil)) [8] false .nil (.call "number_in" (.cons (.var 8) .nil))) .nil))) .nil))))
    (.sq (.ifs (.orv (.notv (.call "is_between" (.cons (.var 3) (.cons (.cn (.int 1)) (.cons (.cn (.int 60)) .nil))))) (.last (.op .gt (.bi .len (.cons (.var 4) .nil)) (.cn (.int 5)))))
    (.sq .dead
    .nil)
    .nil)
    (.sq (.ifs (.notv (.bi .all (.cons (.comp [7] (.var 4) [7] false .nil (.call "are_sizes" (.cons (.var 7) (.cons (.var 3) .nil)))) .nil)))
    (.sq .dead
    .nil)
    .nil)
    (.sq (.ret (.mkv 0 (.cons (.var 3) (.star (.var 4) .nil))))
    .nil))))))
/-- slots: cls, text, first, users, sizes, lines, line, one, word -/
def F_Plan_read : Fun := ⟨2, false, 9, e_Plan_read⟩
def e_law_text : E := (.sq (.asg (.gnm 2) (.op .add (.lst (.cons (.op .add (.cn (.str "users ")) (.bi .str (.cons (.var 0) .nil))) .nil)) (.comp [3] (.var 1) [3] false .nil (.bm .join (.cn (.str " ")) (.cons (.comp [5] (.var 3) [5] false .nil (.bi .str (.cons (.var 5) .nil))) .nil)))))
    (.sq (.ret (.bm .join (.cn (.str "")) (.cons (.comp [4] (.var 2) [4] false .nil (.op .add (.var 4) (.cn (.str "\n")))) .nil)))
    .nil))
/-- slots: _law_users, _law_some, _law_lines, _law_sizes_here, _law_line, _law_size -/
def F_law_text : Fun := ⟨2, false, 6, e_law_text⟩
def e_Plan_units : E := (.sq (.ret (.bi .tuple (.cons (.comp [1] (.attr "kept" (.var 0)) [1] false .nil (.op .dv (.attr "count" (.var 0)) (.call "divisor_of" (.cons (.var 1) .nil)))) .nil)))
    .nil)
/-- slots: self, sizes -/
def F_Plan_units : Fun := ⟨1, false, 2, e_Plan_units⟩
def e_Plan_works : E := (.sq (.ret (.op .eq (.op .md (.attr "count" (.var 0)) (.call "product_of" (.cons (.attr "units" (.var 0)) .nil))) (.cn (.int 0))))
    .nil)
/-- slots: self -/
def F_Plan_works : Fun := ⟨1, false, 1, e_Plan_works⟩
def e_law_draw : E := (.sq (.ifs (.op .gt (.ix (.var 0) (.cn (.int 0))) (.cn (.int 0)))
    (.sq (.asg (.gnm 3) (.op .md (.ix (.var 0) (.cn (.int 0))) (.var 1)))
    (.sq (.asg (.gix (.var 0) (.cn (.int 0))) (.op .dv (.ix (.var 0) (.cn (.int 0))) (.var 1)))
    (.sq (.ret (.var 3))
    .nil)))
    .nil)
    (.sq (.asg (.gix (.var 0) (.cn (.int 2))) (.op .add (.ix (.var 0) (.cn (.int 2))) (.cn (.int 1))))
    (.sq (.asg (.gnm 2) (.op .md (.op .mul (.op .add (.ix (.var 0) (.cn (.int 1))) (.op .mul (.cn (.int 17)) (.ix (.var 0) (.cn (.int 2))))) (.op .add (.cn (.int 69621)) (.op .mul (.cn (.int 2)) (.ix (.var 0) (.cn (.int 2)))))) (.cn (.int 2147483647))))
    (.sq (.asg (.gnm 2) (.op .md (.op .add (.op .add (.op .mul (.var 2) (.var 2)) (.op .mul (.cn (.int 40503)) (.ix (.var 0) (.cn (.int 2))))) (.cn (.int 5))) (.cn (.int 2147483629))))
    (.sq (.ret (.op .md (.op .dv (.op .md (.op .mul (.var 2) (.cn (.int 48271))) (.cn (.int 2147483647))) (.cn (.int 32))) (.var 1)))
    .nil)))))
/-- slots: _law_pen_here, _law_many, _law_stir, _law_digit -/
def F_law_draw : Fun := ⟨2, false, 4, e_law_draw⟩
def e_law_sizes : E := (.sq (.asgc 2 (.comp [8] (.rng2 (.cn (.int 1)) (.op .add (.var 1) (.cn (.int 1)))) [8] false (.op .eq (.op .md (.var 1) (.var 8)) (.cn (.int 0))) (.var 8)))
    (.sq (.asg (.gnm 3) (.ix (.var 2) (.call "_law_draw" (.cons (.var 0) (.cons (.bi .len (.cons (.var 2) .nil)) .nil)))))
    (.sq (.asg (.gnm 4) (.bi .min (.cons (.op .dv (.var 1) (.var 3)) (.cons (.op .add (.cn (.int 1)) (.call "_law_draw" (.cons (.var 0) (.cons (.cn (.int 4)) .nil)))) .nil))))
    (.sq (.asg (.gnm 5) (.op .mul (.lst (.cons (.cn (.int 1)) .nil)) (.var 4)))
    (.sq (.for1 (.gnm 6) (.rng1 (.op .sub (.op .dv (.var 1) (.var 3)) (.var 4)))
    (.sq (.asg (.gnm 7) (.call "_law_draw" (.cons (.var 0) (.cons (.var 4) .nil))))
    (.sq (.asg (.gix (.var 5) (.var 7)) (.op .add (.ix (.var 5) (.var 7)) (.cn (.int 1))))
    .nil)))
    (.sq (.ret (.bi .tuple (.cons (.comp [9] (.var 5) [9] false .nil (.op .mul (.var 9) (.var 3))) .nil)))
    .nil))))))
/-- slots: _law_pen_here, _law_users, _law_some, _law_unit_here, _law_many, _law_parts, _law_turn, _law_at, _law_one, _law_part -/
def F_law_sizes : Fun := ⟨2, false, 10, e_law_sizes⟩
def e_Plan___init : E := (.sq (.exp (.call "need_users" (.cons (.var 1) .nil)))
    (.sq (.ifs (.notv (.bi .all (.cons (.comp [3] (.var 2) [3] false .nil (.call "are_sizes" (.cons (.var 3) (.cons (.var 1) .nil)))) .nil)))
    (.sq .dead
    .nil)
    .nil)
    (.sq (.ifs (.op .gt (.bi .len (.cons (.var 2) .nil)) (.cn (.int 5)))
    (.sq .dead
    .nil)
    .nil)
    (.sq (.asg (.gtp (.cons (.gfl "count" (.var 0)) (.cons (.gfl "kept" (.var 0)) .nil))) (.tup (.cons (.var 1) (.cons (.var 2) .nil))))
    .nil))))
/-- slots: self, users, sizes, one -/
def F_Plan___init : Fun := ⟨3, true, 4, e_Plan___init⟩
def e_are_sizes : E := (.sq (.ifs (.orv (.notv (.isi "tuple" (.var 0))) (.last (.notv (.chain .le .le (.cn (.int 1)) (.bi .len (.cons (.var 0) .nil)) (.cn (.int 4))))))
    (.sq (.ret (.cn (.bl false)))
    .nil)
    .nil)
    (.sq (.ret (.andv (.bi .all (.cons (.comp [2] (.var 0) [2] false .nil (.call "is_between" (.cons (.var 2) (.cons (.cn (.int 1)) (.cons (.var 1) .nil))))) .nil)) (.last (.op .eq (.bi .sum (.cons (.var 0) .nil)) (.var 1)))))
    .nil))
/-- slots: thing, users, size -/
def F_are_sizes : Fun := ⟨2, false, 3, e_are_sizes⟩
def e_is_between : E := (.sq (.ret (.andv (.isi "int" (.var 0)) (.andv (.notv (.isi "bool" (.var 0))) (.last (.chain .le .le (.var 1) (.var 0) (.var 2))))))
    .nil)
/-- slots: thing, low, high -/
def F_is_between : Fun := ⟨3, false, 3, e_is_between⟩
def e_number_in : E := (.sq (.ifs (.orv (.notv (.chain .le .le (.cn (.int 1)) (.bi .len (.cons (.var 0) .nil)) (.cn (.int 2)))) (.orv (.notv (.bi .all (.cons (.comp [1] (.var 0) [1] false .nil (.op .isin (.var 1) (.cn (.str "0123456789")))) .nil))) (.last (.op .eq (.ix (.var 0) (.cn (.int 0))) (.cn (.str "0"))))))
    (.sq (.ret (.cn (.int 0)))
    .nil)
    .nil)
    (.sq (.ret (.bi .int (.cons (.var 0) .nil)))
    .nil))
/-- slots: word, sign -/
def F_number_in : Fun := ⟨1, false, 2, e_number_in⟩
def e_divisor_of : E := (.sq (.asg (.gnm 1) (.cn (.int 0)))
    (.sq (.for1 (.gnm 2) (.var 0)
    (.sq (.asg (.gnm 1) (.call "divisor" (.cons (.var 1) (.cons (.var 2) .nil))))
    .nil))
    (.sq (.ret (.var 1))
    .nil)))
/-- slots: numbers, found, number -/
def F_divisor_of : Fun := ⟨1, false, 3, e_divisor_of⟩
def e_product_of : E := (.sq (.asg (.gnm 1) (.cn (.int 1)))
    (.sq (.for1 (.gnm 2) (.var 0)
    (.sq (.asg (.gnm 1) (.op .mul (.var 1) (.var 2)))
    .nil))
    (.sq (.ret (.var 1))
    .nil)))
/-- slots: numbers, found, number -/
def F_product_of : Fun := ⟨1, false, 3, e_product_of⟩
def e_need_users : E := (.sq (.ifs (.notv (.call "is_between" (.cons (.var 0) (.cons (.cn (.int 1)) (.cons (.cn (.int 60)) .nil)))))
    (.sq .dead
    .nil)
    .nil)
    .nil)
/-- slots: thing -/
def F_need_users : Fun := ⟨1, false, 1, e_need_users⟩
def e_divisor : E := (.sq (.whl (.op .ne (.var 1) (.cn (.int 0)))
    (.sq (.par [0, 1] (.cons (.var 1) (.cons (.op .md (.var 0) (.var 1)) .nil)))
    .nil))
    (.sq (.ret (.var 0))
    .nil))
/-- slots: one, other -/
def F_divisor : Fun := ⟨2, false, 2, e_divisor⟩
end C2

/-! Tools of the plain laws: calls, walks, comprehensions over plain data. -/
namespace C2
open PySem PySem.Spec PyProof.Rows L2
section
variable {Γ : Tbl} {T : CT} {n : Nat} {key : FK} {F : Fun} {ds as : List D} {S : Sto} {q : DK} {r : Exc → Sto → Prop} {env : Env}
/-- a call is its body's meaning -/
theorem call_go (h : Γ key = some F) (ha : argsF F ds = some as) (he : as.map some ++ List.replicate (F.ns - as.length) none = env) (hr : (den (callW Γ T n) T F.body).ss (fun x _ S' => ∃ S2, Sub S2 S' ∧ r x S2) { nx := fun _ S' => fin q .non S', rt := fin q, ct := fun _ _ => False } env S) : callW Γ T (n + 1) key ds S q r := by
  simp only [callW, h, ha]
  unfold runF
  rw [he]
  exact hr
theorem fin_same {d : D} (h : q d S) : fin q d S := ⟨S, Sub.rfl', h⟩
theorem fin_sub {S' : Sto} {d : D} (s : Sub S S') (h : q d S) : fin q d S' := ⟨S, s, h⟩
end
/-- a comprehension whose items ask nothing but what stands -/
theorem comp_pure {chk : Sto → Prop} {env : Env} {unp : Bool} {tg : List Nat} {e : DE} {f : List D → D} {q : List D → Sto → Prop} {S : Sto} (hc : ∀ S', Sub S S' → chk S') : ∀ {rows : List (List D)} {acc : List D} {S1 : Sto}, Sub S S1 →
    (∀ row ∈ rows, ∃ env2, bindRow unp tg row env = some env2 ∧ ∀ (S' : Sto) (k : DK), Sub S S' → (∀ S'', Sub S' S'' → k (f row) S'') → e noX env2 S' k) → acc.length + rows.length ≤ sizeLine → (∀ S', Sub S1 S' → q (acc ++ rows.map f) S') → compD chk env unp tg tYes2 e rows acc S1 q
  | [], acc, S1, s, _, _, h => by
    unfold compD
    exact ⟨hc S1 s, by simpa using h S1 Sub.rfl'⟩
  | row :: rows, acc, S1, s, hr, hl, h => by
    unfold compD
    refine ⟨hc S1 s, ?_⟩
    obtain ⟨env2, hb, he⟩ := hr row List.mem_cons_self
    simp only [hb]
    unfold tYes2
    simp only [if_true]
    refine he S1 _ s fun S'' s2 => ⟨by simp at hl; omega, ?_⟩
    refine comp_pure hc (s.trans s2) (fun row' hm => hr row' (List.mem_cons_of_mem _ hm)) (by simp at hl ⊢; omega) fun S' s3 => ?_
    have := h S' (s2.trans s3)
    simpa using this
/-- .. with a test -/
theorem comp_filter {chk : Sto → Prop} {env : Env} {unp : Bool} {tg : List Nat} {t : DT} {e : DE} {p : List D → Bool} {f : List D → D} {q : List D → Sto → Prop} {S : Sto} (hc : ∀ S', Sub S S' → chk S') : ∀ {rows : List (List D)} {acc : List D} {S1 : Sto}, Sub S S1 →
    (∀ row ∈ rows, ∃ env2, bindRow unp tg row env = some env2 ∧ (∀ (S' : Sto) (k : Bool → Sto → Prop), Sub S S' → (∀ S'', Sub S' S'' → k (p row) S'') → t noX env2 S' k) ∧ (p row = true → ∀ (S' : Sto) (k : DK), Sub S S' → (∀ S'', Sub S' S'' → k (f row) S'') → e noX env2 S' k)) →
    acc.length + rows.length ≤ sizeLine → (∀ S', Sub S1 S' → q (acc ++ (rows.filter p).map f) S') → compD chk env unp tg t e rows acc S1 q
  | [], acc, S1, s, _, _, h => by
    unfold compD
    exact ⟨hc S1 s, by simpa using h S1 Sub.rfl'⟩
  | row :: rows, acc, S1, s, hr, hl, h => by
    unfold compD
    refine ⟨hc S1 s, ?_⟩
    obtain ⟨env2, hb, ht, he⟩ := hr row List.mem_cons_self
    simp only [hb]
    refine ht S1 _ s fun S2 s2 => ?_
    cases hp : p row with
    | true =>
      rw [if_pos rfl]
      refine he hp S2 _ (s.trans s2) fun S3 s3 => ⟨by simp at hl; omega, ?_⟩
      refine comp_filter hc ((s.trans s2).trans s3) (fun row' hm => hr row' (List.mem_cons_of_mem _ hm)) (by simp at hl ⊢; omega) fun S' s4 => ?_
      have := h S' ((s2.trans s3).trans s4)
      rw [List.filter_cons, hp] at this
      simpa using this
    | false =>
      rw [if_neg (by decide)]
      refine comp_filter hc (s.trans s2) (fun row' hm => hr row' (List.mem_cons_of_mem _ hm)) (by simp at hl; omega) fun S' s4 => ?_
      have := h S' (s2.trans s4)
      rw [List.filter_cons, hp] at this
      simpa using this
/-- a comprehension over a mapped list -/
theorem comp_map {α : Type} {chk : Sto → Prop} {env : Env} {unp : Bool} {tg : List Nat} {e : DE} {g : α → List D} (f : α → D) {q : List D → Sto → Prop} {S : Sto} (hc : ∀ S', Sub S S' → chk S') : ∀ {l : List α} {acc : List D} {S1 : Sto}, Sub S S1 →
    (∀ x ∈ l, ∃ env2, bindRow unp tg (g x) env = some env2 ∧ ∀ (S' : Sto) (k : DK), Sub S S' → (∀ S'', Sub S' S'' → k (f x) S'') → e noX env2 S' k) → acc.length + l.length ≤ sizeLine → (∀ S', Sub S1 S' → q (acc ++ l.map f) S') → compD chk env unp tg tYes2 e (l.map g) acc S1 q
  | [], acc, S1, s, _, _, h => by
    rw [List.map_nil]
    unfold compD
    exact ⟨hc S1 s, by simpa using h S1 Sub.rfl'⟩
  | x :: l, acc, S1, s, hr, hl, h => by
    rw [List.map_cons]
    unfold compD
    refine ⟨hc S1 s, ?_⟩
    obtain ⟨env2, hb, he⟩ := hr x List.mem_cons_self
    simp only [hb]
    unfold tYes2
    simp only [if_true]
    refine he S1 _ s fun S'' s2 => ⟨by simp at hl; omega, ?_⟩
    refine comp_map f hc (s.trans s2) (fun x' hm => hr x' (List.mem_cons_of_mem _ hm)) (by simp at hl ⊢; omega) fun S' s3 => ?_
    have := h S' (s2.trans s3)
    simpa using this
theorem Sub.lst {S S' : Sto} {a : Addr} {ds : List D} (h : S a = some (.lst ds)) (s : Sub S S') : S' a = some (.lst ds) := s a _ h
theorem dEq_ii {neg : Bool} {i j : Int} {S : Sto} {q : DK} : dEq neg (.int i) (.int j) S q = q (.bl (if neg = true then !decide (i = j) else decide (i = j))) S := by
  have e : PyData.eqv (.int i) (.int j) = decide (i = j) := by
    rw [PyData.eqv]
    by_cases h : i = j
    · subst h; simp
    · simp [h]
  simp only [dEq, strEq, eqD, py, e]
theorem dEq_ss {neg : Bool} {i j : Str} {S : Sto} {q : DK} : dEq neg (.str i) (.str j) S q = q (.bl (if neg = true then !decide (i = j) else decide (i = j))) S := by
  simp only [dEq, strEq]
theorem mul_small {i j : Int} (h : -(2 ^ 64) < i ∧ i < 2 ^ 64) : mulFits i j := .inl (.inl h)
theorem mul_small2 {i j : Int} (h : -(2 ^ 64) < j ∧ j < 2 ^ 64) : mulFits i j := .inl (.inr h)
theorem div_small {i j : Int} (h : 0 < j ∧ j < 1073741824) : (CDivN i j ∨ CDivW i j) := .inl ⟨by omega, by omega⟩
theorem rows_ints {lo : Int} : ∀ n : Nat, intsFrom lo n = (List.range n).map fun (i : Nat) => [D.int (lo + i)] := by
  intro n
  induction n generalizing lo with
  | zero => rfl
  | succ n ih =>
    show [D.int lo] :: intsFrom (lo + 1) n = _
    rw [ih, List.range_succ_eq_map, List.map_cons, List.map_map]
    congr 1
    · simp
    · apply List.map_congr_left
      intro i _
      simp; omega
/-! the meaning at given kinds -/
section
variable {i j : Int} {k l : Bool} {x y : Str} {xs ys : List D} {a b : Addr} {S : Sto} {q : DK}
theorem dAdd_ii : dAdd (.int i) (.int j) S q = q (.int (i + j)) S := rfl
theorem dAdd_ss : dAdd (.str x) (.str y) S q = (x.length + y.length ≤ sizeLine ∧ q (.str (x ++ y)) S) := rfl
theorem dAdd_tt : dAdd (.tup xs) (.tup ys) S q = (xs.length + ys.length ≤ sizeLine ∧ q (.tup (xs ++ ys)) S) := rfl
theorem dAdd_rr : dAdd (.ref a) (.ref b) S q = (∃ xs ys, S a = some (.lst xs) ∧ S b = some (.lst ys) ∧ newL (xs ++ ys) S q) := rfl
theorem dSub_ii : dSub (.int i) (.int j) S q = q (.int (i - j)) S := rfl
theorem dMul_ii : dMul (.int i) (.int j) S q = (mulFits i j ∧ q (.int (i * j)) S) := rfl
theorem dMul_ri : dMul (.ref a) (.int j) S q = (∃ xs, S a = some (.lst xs) ∧ -(2 ^ 63) ≤ j ∧ j < 2 ^ 63 ∧ newL (List.replicate j.toNat xs).flatten S q) := rfl
theorem dMod_ii : dMod (.int i) (.int j) S q = (j ≠ 0 ∧ q (.int (i.fmod j)) S) := rfl
theorem dDiv_ii : dDiv (.int i) (.int j) S q = ((CDivN i j ∨ CDivW i j) ∧ q (.int (i.fdiv j)) S) := rfl
theorem dPow_ii : dPow (.int i) (.int j) S q = (CPow i j ∧ q (.int (i ^ j.toNat)) S) := rfl
theorem dCmp_ii {f : Int → Int → Bool} : dCmp f (.int i) (.int j) S q = q (.bl (f i j)) S := rfl
theorem dNeg_i : dNeg (.int i) S q = q (.int (-i)) S := rfl
theorem dMx_ii : dMx [.int i, .int j] S q = q (.int (max i j)) S := rfl
theorem dMn_ii : dMn [.int i, .int j] S q = q (.int (min i j)) S := rfl
theorem dLen1_s : dLen1 (.str x) S q = (x.length ≤ sizeLine ∧ q (.int x.length) S) := rfl
theorem dLen1_t : dLen1 (.tup xs) S q = q (.int xs.length) S := by
  simp only [dLen1, seqI, Option.some.injEq, exists_eq_left']
theorem dLen1_scr {ns : List Int} : dLen1 (.scr ns) S q = q (.int ns.length) S := by
  simp only [dLen1, seqI, Option.some.injEq, exists_eq_left', List.length_map]
theorem len_lst (h : S a = some (.lst xs)) (hq : q (.int xs.length) S) : dLen1 (.ref a) S q := by
  unfold dLen1
  exact ⟨xs, by simp only [seqI, h], hq⟩
theorem dTuple_t : dTuple (.tup xs) S q = q (.tup xs) S := rfl
theorem tuple_lst (h : S a = some (.lst xs)) (hq : q (.tup xs) S) : dTuple (.ref a) S q := by
  unfold dTuple
  exact ⟨xs, by simp only [seqI, h], hq⟩
theorem dStr_i : dStr (.int i) S q = (i.natAbs.log2 < 1920 ∧ q (.str (toString i)) S) := rfl
theorem truth_b {q : Bool → Sto → Prop} : truth (.bl k) S q = q k S := rfl
theorem truth_n {q : Bool → Sto → Prop} : truth .non S q = q false S := rfl
theorem truth_i {q : Bool → Sto → Prop} : truth (.int i) S q = q (i != 0) S := rfl
theorem rowsOf_t {q : List (List D) → (Sto → Prop) → Sto → Prop} : rowsOf (.tup xs) S q = q (xs.map fun d => [d]) (fun _ => True) S := rfl
theorem rowsOf_r {q : List (List D) → (Sto → Prop) → Sto → Prop} : rowsOf (.ref a) S q = (∃ ds, S a = some (.lst ds) ∧ q (ds.map fun d => [d]) (fun S' => S' a = some (.lst ds)) S) := rfl
theorem rowsOf_s {q : List (List D) → (Sto → Prop) → Sto → Prop} : rowsOf (.str x) S q = q (x.cps.toList.map fun c => [.str ⟨#[c]⟩]) (fun _ => True) S := rfl
def rng1 (x : D) (q : List (List D) → (Sto → Prop) → Sto → Prop) (S : Sto) : Prop := match x with
  | .int j => -(2 ^ 62) ≤ j ∧ j < 2 ^ 62 ∧ q (intsFrom 0 j.toNat) (fun _ => True) S
  | _ => False
def rng2 (x y : D) (q : List (List D) → (Sto → Prop) → Sto → Prop) (S : Sto) : Prop := match x, y with
  | .int i, .int j => -(2 ^ 62) ≤ i ∧ i < 2 ^ 62 ∧ -(2 ^ 62) ≤ j ∧ j < 2 ^ 62 ∧ q (intsFrom i (j - i).toNat) (fun _ => True) S
  | _, _ => False
theorem rng1_i {q : List (List D) → (Sto → Prop) → Sto → Prop} : rng1 (.int j) q S = (-(2 ^ 62) ≤ j ∧ j < 2 ^ 62 ∧ q (intsFrom 0 j.toNat) (fun _ => True) S) := rfl
theorem rng2_ii {q : List (List D) → (Sto → Prop) → Sto → Prop} : rng2 (.int i) (.int j) q S = (-(2 ^ 62) ≤ i ∧ i < 2 ^ 62 ∧ -(2 ^ 62) ≤ j ∧ j < 2 ^ 62 ∧ q (intsFrom i (j - i).toNat) (fun _ => True) S) := rfl
def dAttr (C : Orc) (pr : Str → Str → Option At) (f : Str) (x : D) (S : Sto) (q : DK) : Prop := match x with
  | .ref a => match S a with
    | some (.ins c fs) => match pr c f with
      | some .fld => match fs.lookup f with
        | some d => q d S
        | none => False
      | some .prop => C (.me c f) [x] S q fun _ _ => False
      | none => False
    | _ => False
  | _ => False
theorem eAttr_d {C : Orc} {pr : Str → Str → Option At} {f : Str} {o : DE} {R : XR} {env : Env} : eAttr C pr f o R env S q = o R env S fun x S1 => dAttr C pr f x S1 q := rfl
theorem attr_fld {C : Orc} {pr : Str → Str → Option At} {f c : Str} {fs : List (Str × D)} {d : D} (h : S a = some (.ins c fs)) (hp : pr c f = some .fld) (hl : fs.lookup f = some d) (hq : q d S) : dAttr C pr f (.ref a) S q := by
  simp only [dAttr, h, hp, hl]; exact hq
theorem attr_prop {C : Orc} {pr : Str → Str → Option At} {f c : Str} {fs : List (Str × D)} (h : S a = some (.ins c fs)) (hp : pr c f = some .prop) (hq : C (.me c f) [.ref a] S q fun _ _ => False) : dAttr C pr f (.ref a) S q := by
  simp only [dAttr, h, hp]; exact hq
theorem kindOf_s : kindOf (.str x) S = some .str := rfl
theorem kindOf_l (h : S a = some (.lst xs)) : kindOf (.ref a) S = some .list := by simp only [kindOf, h]
theorem denM_append : denM .append .list = some mApp := rfl
theorem denM_extend : denM .extend .list = some mExt := rfl
theorem denM_pop : denM .pop .list = some mPop := rfl
theorem denM_join : denM .join .str = some mJoin := rfl
theorem denM_split : denM .split .str = some mSplit := rfl
theorem denM_starts : denM .startswith .str = some mStarts := rfl
theorem denM_ends : denM .endswith .str = some mEnds := rfl
theorem denM_countL : denM .count .list = some mCountL := rfl
theorem denM_countT : denM .count .tuple = some mCountT := rfl
theorem mStarts_s : mStarts (.str x) [.str y] S q = q (.bl (Txt.startswith x y)) S := rfl
theorem mEnds_s : mEnds (.str x) [.str y] S q = q (.bl (Txt.endswith x y)) S := rfl
theorem mSplit_s : mSplit (.str x) [.str y] S q = ((y.length == 0) = false ∧ x.length + 2 ≤ sizeLine ∧ ∀ p, S p = none → q (.ref p) (up S p (.lst ((Txt.split x y).map .str)))) := rfl
theorem dSl_s {lo hi : Option Int} : dSl (.str x) lo hi S q = (x.length ≤ sizeLine ∧ q (.str (cutS x lo hi)) S) := rfl
theorem dSl_t {lo hi : Option Int} : dSl (.tup xs) lo hi S q = q (.tup (cutD xs lo hi)) S := rfl
theorem dSl_r {lo hi : Option Int} : dSl (.ref a) lo hi S q = (∃ ds, S a = some (.lst ds) ∧ ∀ p, S p = none → q (.ref p) (up S p (.lst (cutD ds lo hi)))) := rfl
theorem iRange1 {R : XR} {env : Env} {e : DE} {q : List (List D) → (Sto → Prop) → Sto → Prop} : iRange (aCons e aNil) R env S q = e R env S fun x S1 => rng1 x q S1 := by
  unfold iRange aCons aNil
  congr 1
  funext x S1
  unfold rng1
  cases x <;> rfl
theorem iRange2 {R : XR} {env : Env} {e f : DE} {q : List (List D) → (Sto → Prop) → Sto → Prop} : iRange (aCons e (aCons f aNil)) R env S q = e R env S fun x S1 => f R env S1 fun y S2 => rng2 x y q S2 := by
  unfold iRange aCons aNil
  congr 1
  funext x S1
  congr 1
  funext y S2
  unfold rng2
  cases x <;> cases y <;> rfl
end
end C2

/-! The program's own functions over plain data. -/
namespace C2
open PySem PySem.Spec PyProof.Rows L2
section
variable {Γ : Tbl} {T : CT} {n : Nat} {S : Sto} {q : DK} {r : Exc → Sto → Prop}
/-- is_between -/
def betw (d : D) (lo hi : Int) : Bool := match d with
  | .int i => decide (lo ≤ i) && decide (i ≤ hi)
  | _ => false
theorem c_between (h : Γ (.fn "is_between") = some F_is_between) {i lo hi : Int} (hq : q (.bl (decide (lo ≤ i) && decide (i ≤ hi))) S) : callW Γ T (n + 1) (.fn "is_between") [.int i, .int lo, .int hi] S q r := by
  refine call_go h rfl rfl ?_
  unfold F_is_between e_is_between
  simp only [den, Den.val, sSeq, sNx, sExpr, sRet, sRetN, sIf, sCt, sAsg, sPar, sFor, gNm, gTp, gLen, gsNil, gsCons, gOne, gStar1, gFld, gIx, eC, eVar, e1, e2, aNil, aCons, aStar, eTup, eB, eIf, eAnd, eOr, eNot, tAnd2, tOr2, tNot2, tE, tBl, tSel, oSel, E.isNil, E.many, E.glen, isCmp, eCall, eCm, eMk, eMkV, eAttr_d, eBm, eSl, oPart, eJoin, eChain, eComp, cIt, iOf, iEnum2, iZip2, tYes2, Cn.d, look, setAll, den2, denB, only1, only2, dIs, tyName, List.set_cons_zero, List.set_cons_succ, if_true, if_false, Bool.false_eq_true, List.map_cons, List.map_nil, Bool.not_true, Bool.not_false, true_and, and_true, true_or, or_true, or_false, false_or, and_false, false_and, decide_true, decide_false, String.reduceEq, eq_self, ne_eq, not_true_eq_false, not_false_eq_true, wipeE, List.cons_append, List.nil_append, dEq_ii, dEq_ss, List.length_cons, List.length_nil, Nat.reduceAdd, Nat.reduceSub, List.reduceReplicate, dAdd_ii, dAdd_ss, dAdd_tt, dSub_ii, dMul_ii, dMod_ii, dDiv_ii, dPow_ii, dCmp_ii, dNeg_i, dMx_ii, dMn_ii, dLen1_s, dLen1_t, dLen1_scr, dTuple_t, dStr_i, truth_b, truth_n, truth_i, rowsOf_t, rowsOf_s, rng1_i, rng2_ii, iRange1, iRange2, eLst, newL, kindOf_s, denM_append, denM_extend, denM_pop, denM_join, denM_split, denM_starts, denM_ends, denM_countL, denM_countT, mStarts_s, mEnds_s, mSplit_s, dSl_s, dSl_t]
  by_cases h1 : lo ≤ i <;> simp [h1] at hq ⊢ <;> exact fin_same hq
theorem c_divisor (h : Γ (.fn "divisor") = some F_divisor) {a b : Int} (ha : 0 ≤ a) (hb : 0 ≤ b) (hq : q (.int (Int.gcd a b)) S) : callW Γ T (n + 1) (.fn "divisor") [.int a, .int b] S q r := by
  refine call_go h rfl rfl ?_
  unfold F_divisor e_divisor
  simp only [den, Den.val, sSeq, sNx, sExpr, sRet, sRetN, sIf, sCt, sAsg, sPar, sFor, gNm, gTp, gLen, gsNil, gsCons, gOne, gStar1, gFld, gIx, eC, eVar, e1, e2, aNil, aCons, aStar, eTup, eB, eIf, eAnd, eOr, eNot, tAnd2, tOr2, tNot2, tE, tBl, tSel, oSel, E.isNil, E.many, E.glen, isCmp, eCall, eCm, eMk, eMkV, eAttr_d, eBm, eSl, oPart, eJoin, eChain, eComp, cIt, iOf, iEnum2, iZip2, tYes2, Cn.d, look, setAll, den2, denB, only1, only2, dIs, tyName, List.set_cons_zero, List.set_cons_succ, if_true, if_false, Bool.false_eq_true, List.map_cons, List.map_nil, Bool.not_true, Bool.not_false, true_and, and_true, true_or, or_true, or_false, false_or, and_false, false_and, decide_true, decide_false, String.reduceEq, eq_self, ne_eq, not_true_eq_false, not_false_eq_true, wipeE, List.cons_append, List.nil_append, dEq_ii, dEq_ss, List.length_cons, List.length_nil, Nat.reduceAdd, Nat.reduceSub, List.reduceReplicate, dAdd_ii, dAdd_ss, dAdd_tt, dSub_ii, dMul_ii, dMod_ii, dDiv_ii, dPow_ii, dCmp_ii, dNeg_i, dMx_ii, dMn_ii, dLen1_s, dLen1_t, dLen1_scr, dTuple_t, dStr_i, truth_b, truth_n, truth_i, rowsOf_t, rowsOf_s, rng1_i, rng2_ii, iRange1, iRange2, eLst, newL, kindOf_s, denM_append, denM_extend, denM_pop, denM_join, denM_split, denM_starts, denM_ends, denM_countL, denM_countT, mStarts_s, mEnds_s, mSplit_s, dSl_s, dSl_t]
  refine ⟨fun m env S' => S' = S ∧ ∃ x y : Nat, m = y ∧ env = [some (.int x), some (.int y)] ∧ Int.gcd a b = Nat.gcd x y, ⟨_, rfl, a.toNat, b.toNat, rfl, by simp [Int.toNat_of_nonneg ha, Int.toNat_of_nonneg hb], by rw [Int.gcd]; congr 1 <;> omega⟩, ?_⟩
  rintro m env S' ⟨rfl, x, y, hm, rfl, hg⟩
  subst hm
  simp only [den, Den.val, sSeq, sNx, sExpr, sRet, sRetN, sIf, sCt, sAsg, sPar, sFor, gNm, gTp, gLen, gsNil, gsCons, gOne, gStar1, gFld, gIx, eC, eVar, e1, e2, aNil, aCons, aStar, eTup, eB, eIf, eAnd, eOr, eNot, tAnd2, tOr2, tNot2, tE, tBl, tSel, oSel, E.isNil, E.many, E.glen, isCmp, eCall, eCm, eMk, eMkV, eAttr_d, eBm, eSl, oPart, eJoin, eChain, eComp, cIt, iOf, iEnum2, iZip2, tYes2, Cn.d, look, setAll, den2, denB, only1, only2, dIs, tyName, List.set_cons_zero, List.set_cons_succ, if_true, if_false, Bool.false_eq_true, List.map_cons, List.map_nil, Bool.not_true, Bool.not_false, true_and, and_true, true_or, or_true, or_false, false_or, and_false, false_and, decide_true, decide_false, String.reduceEq, eq_self, ne_eq, not_true_eq_false, not_false_eq_true, wipeE, List.cons_append, List.nil_append, dEq_ii, dEq_ss, List.length_cons, List.length_nil, Nat.reduceAdd, Nat.reduceSub, List.reduceReplicate, dAdd_ii, dAdd_ss, dAdd_tt, dSub_ii, dMul_ii, dMod_ii, dDiv_ii, dPow_ii, dCmp_ii, dNeg_i, dMx_ii, dMn_ii, dLen1_s, dLen1_t, dLen1_scr, dTuple_t, dStr_i, truth_b, truth_n, truth_i, rowsOf_t, rowsOf_s, rng1_i, rng2_ii, iRange1, iRange2, eLst, newL, kindOf_s, denM_append, denM_extend, denM_pop, denM_join, denM_split, denM_starts, denM_ends, denM_countL, denM_countT, mStarts_s, mEnds_s, mSplit_s, dSl_s, dSl_t]
  by_cases hy : m = 0
  · subst hy
    simp at hg ⊢
    exact fin_same (by rw [hg] at hq; exact hq)
  · have hy' : ¬ ((m : Int) = 0) := by omega
    simp only [hy', den, Den.val, sSeq, sNx, sExpr, sRet, sRetN, sIf, sCt, sAsg, sPar, sFor, gNm, gTp, gLen, gsNil, gsCons, gOne, gStar1, gFld, gIx, eC, eVar, e1, e2, aNil, aCons, aStar, eTup, eB, eIf, eAnd, eOr, eNot, tAnd2, tOr2, tNot2, tE, tBl, tSel, oSel, E.isNil, E.many, E.glen, isCmp, eCall, eCm, eMk, eMkV, eAttr_d, eBm, eSl, oPart, eJoin, eChain, eComp, cIt, iOf, iEnum2, iZip2, tYes2, Cn.d, look, setAll, den2, denB, only1, only2, dIs, tyName, List.set_cons_zero, List.set_cons_succ, if_true, if_false, Bool.false_eq_true, List.map_cons, List.map_nil, Bool.not_true, Bool.not_false, true_and, and_true, true_or, or_true, or_false, false_or, and_false, false_and, decide_true, decide_false, String.reduceEq, eq_self, ne_eq, not_true_eq_false, not_false_eq_true, wipeE, List.cons_append, List.nil_append, dEq_ii, dEq_ss, List.length_cons, List.length_nil, Nat.reduceAdd, Nat.reduceSub, List.reduceReplicate, dAdd_ii, dAdd_ss, dAdd_tt, dSub_ii, dMul_ii, dMod_ii, dDiv_ii, dPow_ii, dCmp_ii, dNeg_i, dMx_ii, dMn_ii, dLen1_s, dLen1_t, dLen1_scr, dTuple_t, dStr_i, truth_b, truth_n, truth_i, rowsOf_t, rowsOf_s, rng1_i, rng2_ii, iRange1, iRange2, eLst, newL, kindOf_s, denM_append, denM_extend, denM_pop, denM_join, denM_split, denM_starts, denM_ends, denM_countL, denM_countT, mStarts_s, mEnds_s, mSplit_s, dSl_s, dSl_t]
    refine ⟨x % m, Nat.mod_lt _ (by omega), m, x % m, rfl, ?_, ?_⟩
    · rw [Int.fmod_eq_emod_of_nonneg _ (by omega)]; simp
    · rw [hg, Nat.gcd_comm x m, Nat.gcd_rec m x, Nat.gcd_comm]
theorem gcd_fold {ns : List Int} (h : ∀ i ∈ ns, 0 ≤ i) : ∀ a : Int, 0 ≤ a → 0 ≤ ns.foldl (fun x y => ((Int.gcd x y : Nat) : Int)) a := by
  induction ns with
  | nil => intro a ha; exact ha
  | cons i r ih => intro a ha; exact ih (fun j hj => h j (List.mem_cons_of_mem _ hj)) _ (Int.natCast_nonneg _)
/-- the greatest common divisor of a tuple -/
def gcdL (ns : List Int) : Int := ns.foldl (fun x y => ((Int.gcd x y : Nat) : Int)) 0
theorem c_divisor_of (h : Γ (.fn "divisor_of") = some F_divisor_of) (hd : Γ (.fn "divisor") = some F_divisor) {ns : List Int} (h0 : ∀ i ∈ ns, 0 ≤ i) (hq : q (.int (gcdL ns)) S) : callW Γ T (n + 2) (.fn "divisor_of") [.tup (ns.map .int)] S q r := by
  refine call_go h rfl rfl ?_
  unfold F_divisor_of e_divisor_of
  simp only [den, Den.val, sSeq, sNx, sExpr, sRet, sRetN, sIf, sCt, sAsg, sPar, sFor, gNm, gTp, gLen, gsNil, gsCons, gOne, gStar1, gFld, gIx, eC, eVar, e1, e2, aNil, aCons, aStar, eTup, eB, eIf, eAnd, eOr, eNot, tAnd2, tOr2, tNot2, tE, tBl, tSel, oSel, E.isNil, E.many, E.glen, isCmp, eCall, eCm, eMk, eMkV, eAttr_d, eBm, eSl, oPart, eJoin, eChain, eComp, cIt, iOf, iEnum2, iZip2, tYes2, Cn.d, look, setAll, den2, denB, only1, only2, dIs, tyName, List.set_cons_zero, List.set_cons_succ, if_true, if_false, Bool.false_eq_true, List.map_cons, List.map_nil, Bool.not_true, Bool.not_false, true_and, and_true, true_or, or_true, or_false, false_or, and_false, false_and, decide_true, decide_false, String.reduceEq, eq_self, ne_eq, not_true_eq_false, not_false_eq_true, wipeE, List.cons_append, List.nil_append, dEq_ii, dEq_ss, List.length_cons, List.length_nil, Nat.reduceAdd, Nat.reduceSub, List.reduceReplicate, dAdd_ii, dAdd_ss, dAdd_tt, dSub_ii, dMul_ii, dMod_ii, dDiv_ii, dPow_ii, dCmp_ii, dNeg_i, dMx_ii, dMn_ii, dLen1_s, dLen1_t, dLen1_scr, dTuple_t, dStr_i, truth_b, truth_n, truth_i, rowsOf_t, rowsOf_s, rng1_i, rng2_ii, iRange1, iRange2, eLst, newL, kindOf_s, denM_append, denM_extend, denM_pop, denM_join, denM_split, denM_starts, denM_ends, denM_countL, denM_countT, mStarts_s, mEnds_s, mSplit_s, dSl_s, dSl_t, rowsOf, List.map_map]
  have loop : ∀ (ms : List Int) (a : Int) (x : Option D), (∀ i ∈ ms, 0 ≤ i) → 0 ≤ a → q (.int (ms.foldl (fun x y => ((Int.gcd x y : Nat) : Int)) a)) S → ∀ {g : DGs} {b : DS} {R : XR} {N : DN}, 
      (∀ i a x (k : Env → Sto → Prop) c rt, 0 ≤ i → 0 ≤ a → k [some (.tup (ns.map .int)), some (.int (Int.gcd a i)), some (.int i)] S → g R [.int i] [some (.tup (ns.map .int)), some (.int a), x] S fun e s => b R ⟨k, rt, c⟩ e s) →
      (∀ a x, q (.int a) S → N.nx [some (.tup (ns.map .int)), some (.int a), x] S) → forD (fun _ => True) g b R N (ms.map ((fun d => [d]) ∘ D.int)) [some (.tup (ns.map .int)), some (.int a), x] S := by
    intro ms
    induction ms with
    | nil => intro a x _ _ hq g b R N _ hn; exact ⟨trivial, hn a x hq⟩
    | cons i ms ih =>
      intro a x hm ha hq g b R N hs hn
      refine ⟨trivial, hs i a x _ _ _ (hm i List.mem_cons_self) ha ?_⟩
      exact ih _ _ (fun j hj => hm j (List.mem_cons_of_mem _ hj)) (Int.natCast_nonneg _) hq hs hn
  refine loop ns 0 none h0 (Int.le_refl _) hq (fun i a x k c rt hi ha hk => ?_) fun a x hq => ?_
  · simp only [den, Den.val, sSeq, sNx, sExpr, sRet, sRetN, sIf, sCt, sAsg, sPar, sFor, gNm, gTp, gLen, gsNil, gsCons, gOne, gStar1, gFld, gIx, eC, eVar, e1, e2, aNil, aCons, aStar, eTup, eB, eIf, eAnd, eOr, eNot, tAnd2, tOr2, tNot2, tE, tBl, tSel, oSel, E.isNil, E.many, E.glen, isCmp, eCall, eCm, eMk, eMkV, eAttr_d, eBm, eSl, oPart, eJoin, eChain, eComp, cIt, iOf, iEnum2, iZip2, tYes2, Cn.d, look, setAll, den2, denB, only1, only2, dIs, tyName, List.set_cons_zero, List.set_cons_succ, if_true, if_false, Bool.false_eq_true, List.map_cons, List.map_nil, Bool.not_true, Bool.not_false, true_and, and_true, true_or, or_true, or_false, false_or, and_false, false_and, decide_true, decide_false, String.reduceEq, eq_self, ne_eq, not_true_eq_false, not_false_eq_true, wipeE, List.cons_append, List.nil_append, dEq_ii, dEq_ss, List.length_cons, List.length_nil, Nat.reduceAdd, Nat.reduceSub, List.reduceReplicate, dAdd_ii, dAdd_ss, dAdd_tt, dSub_ii, dMul_ii, dMod_ii, dDiv_ii, dPow_ii, dCmp_ii, dNeg_i, dMx_ii, dMn_ii, dLen1_s, dLen1_t, dLen1_scr, dTuple_t, dStr_i, truth_b, truth_n, truth_i, rowsOf_t, rowsOf_s, rng1_i, rng2_ii, iRange1, iRange2, eLst, newL, kindOf_s, denM_append, denM_extend, denM_pop, denM_join, denM_split, denM_starts, denM_ends, denM_countL, denM_countT, mStarts_s, mEnds_s, mSplit_s, dSl_s, dSl_t]
    exact c_divisor hd ha hi hk
  · simp only [den, Den.val, sSeq, sNx, sExpr, sRet, sRetN, sIf, sCt, sAsg, sPar, sFor, gNm, gTp, gLen, gsNil, gsCons, gOne, gStar1, gFld, gIx, eC, eVar, e1, e2, aNil, aCons, aStar, eTup, eB, eIf, eAnd, eOr, eNot, tAnd2, tOr2, tNot2, tE, tBl, tSel, oSel, E.isNil, E.many, E.glen, isCmp, eCall, eCm, eMk, eMkV, eAttr_d, eBm, eSl, oPart, eJoin, eChain, eComp, cIt, iOf, iEnum2, iZip2, tYes2, Cn.d, look, setAll, den2, denB, only1, only2, dIs, tyName, List.set_cons_zero, List.set_cons_succ, if_true, if_false, Bool.false_eq_true, List.map_cons, List.map_nil, Bool.not_true, Bool.not_false, true_and, and_true, true_or, or_true, or_false, false_or, and_false, false_and, decide_true, decide_false, String.reduceEq, eq_self, ne_eq, not_true_eq_false, not_false_eq_true, wipeE, List.cons_append, List.nil_append, dEq_ii, dEq_ss, List.length_cons, List.length_nil, Nat.reduceAdd, Nat.reduceSub, List.reduceReplicate, dAdd_ii, dAdd_ss, dAdd_tt, dSub_ii, dMul_ii, dMod_ii, dDiv_ii, dPow_ii, dCmp_ii, dNeg_i, dMx_ii, dMn_ii, dLen1_s, dLen1_t, dLen1_scr, dTuple_t, dStr_i, truth_b, truth_n, truth_i, rowsOf_t, rowsOf_s, rng1_i, rng2_ii, iRange1, iRange2, eLst, newL, kindOf_s, denM_append, denM_extend, denM_pop, denM_join, denM_split, denM_starts, denM_ends, denM_countL, denM_countT, mStarts_s, mEnds_s, mSplit_s, dSl_s, dSl_t]
    exact fin_same hq
end
end C2

/-! The program's own functions over plain data: sizes, plans. -/
namespace C2
open PySem PySem.Spec PyProof.Rows L2
section
variable {Γ : Tbl} {T : CT} {n : Nat} {S : Sto} {q : DK} {r : Exc → Sto → Prop}
theorem c_product_of (h : Γ (.fn "product_of") = some F_product_of) {ns : List Int} (h0 : ∀ i ∈ ns, -(2 ^ 64) < i ∧ i < 2 ^ 64) (hq : q (.int (ns.foldl (fun x y => x * y) 1)) S) : callW Γ T (n + 1) (.fn "product_of") [.tup (ns.map .int)] S q r := by
  refine call_go h rfl rfl ?_
  unfold F_product_of e_product_of
  simp only [den, Den.val, sSeq, sNx, sExpr, sRet, sRetN, sIf, sCt, sAsg, sPar, sFor, gNm, gTp, gLen, gsNil, gsCons, gOne, gStar1, gFld, gIx, eC, eVar, e1, e2, aNil, aCons, aStar, eTup, eB, eIf, eAnd, eOr, eNot, tAnd2, tOr2, tNot2, tE, tBl, tSel, oSel, E.isNil, E.many, E.glen, isCmp, eCall, eCm, eMk, eMkV, eAttr_d, eBm, eSl, oPart, eJoin, eChain, eComp, cIt, iOf, iEnum2, iZip2, tYes2, Cn.d, look, setAll, den2, denB, only1, only2, dIs, tyName, List.set_cons_zero, List.set_cons_succ, if_true, if_false, Bool.false_eq_true, List.map_cons, List.map_nil, Bool.not_true, Bool.not_false, true_and, and_true, true_or, or_true, or_false, false_or, and_false, false_and, decide_true, decide_false, String.reduceEq, eq_self, ne_eq, not_true_eq_false, not_false_eq_true, wipeE, List.cons_append, List.nil_append, dEq_ii, dEq_ss, List.length_cons, List.length_nil, Nat.reduceAdd, Nat.reduceSub, List.reduceReplicate, dAdd_ii, dAdd_ss, dAdd_tt, dSub_ii, dMul_ii, dMod_ii, dDiv_ii, dPow_ii, dCmp_ii, dNeg_i, dMx_ii, dMn_ii, dLen1_s, dLen1_t, dLen1_scr, dTuple_t, dStr_i, truth_b, truth_n, truth_i, rowsOf_t, rowsOf_s, rng1_i, rng2_ii, iRange1, iRange2, eLst, newL, kindOf_s, denM_append, denM_extend, denM_pop, denM_join, denM_split, denM_starts, denM_ends, denM_countL, denM_countT, mStarts_s, mEnds_s, mSplit_s, dSl_s, dSl_t, rowsOf, List.map_map]
  have loop : ∀ (ms : List Int) (a : Int) (x : Option D), (∀ i ∈ ms, -(2 ^ 64) < i ∧ i < 2 ^ 64) → q (.int (ms.foldl (fun x y => x * y) a)) S → ∀ {g : DGs} {b : DS} {R : XR} {N : DN}, 
      (∀ i a x (k : Env → Sto → Prop) c rt, (-(2 ^ 64) < i ∧ i < 2 ^ 64) → k [some (.tup (ns.map .int)), some (.int (a * i)), some (.int i)] S → g R [.int i] [some (.tup (ns.map .int)), some (.int a), x] S fun e s => b R ⟨k, rt, c⟩ e s) →
      (∀ a x, q (.int a) S → N.nx [some (.tup (ns.map .int)), some (.int a), x] S) → forD (fun _ => True) g b R N (ms.map ((fun d => [d]) ∘ D.int)) [some (.tup (ns.map .int)), some (.int a), x] S := by
    intro ms
    induction ms with
    | nil => intro a x _ hq g b R N _ hn; exact ⟨trivial, hn a x hq⟩
    | cons i ms ih =>
      intro a x hm hq g b R N hs hn
      refine ⟨trivial, hs i a x _ _ _ (hm i List.mem_cons_self) ?_⟩
      exact ih _ _ (fun j hj => hm j (List.mem_cons_of_mem _ hj)) hq hs hn
  refine loop ns 1 none h0 hq (fun i a x k c rt hi hk => ?_) fun a x hq => ?_
  · simp only [den, Den.val, sSeq, sNx, sExpr, sRet, sRetN, sIf, sCt, sAsg, sPar, sFor, gNm, gTp, gLen, gsNil, gsCons, gOne, gStar1, gFld, gIx, eC, eVar, e1, e2, aNil, aCons, aStar, eTup, eB, eIf, eAnd, eOr, eNot, tAnd2, tOr2, tNot2, tE, tBl, tSel, oSel, E.isNil, E.many, E.glen, isCmp, eCall, eCm, eMk, eMkV, eAttr_d, eBm, eSl, oPart, eJoin, eChain, eComp, cIt, iOf, iEnum2, iZip2, tYes2, Cn.d, look, setAll, den2, denB, only1, only2, dIs, tyName, List.set_cons_zero, List.set_cons_succ, if_true, if_false, Bool.false_eq_true, List.map_cons, List.map_nil, Bool.not_true, Bool.not_false, true_and, and_true, true_or, or_true, or_false, false_or, and_false, false_and, decide_true, decide_false, String.reduceEq, eq_self, ne_eq, not_true_eq_false, not_false_eq_true, wipeE, List.cons_append, List.nil_append, dEq_ii, dEq_ss, List.length_cons, List.length_nil, Nat.reduceAdd, Nat.reduceSub, List.reduceReplicate, dAdd_ii, dAdd_ss, dAdd_tt, dSub_ii, dMul_ii, dMod_ii, dDiv_ii, dPow_ii, dCmp_ii, dNeg_i, dMx_ii, dMn_ii, dLen1_s, dLen1_t, dLen1_scr, dTuple_t, dStr_i, truth_b, truth_n, truth_i, rowsOf_t, rowsOf_s, rng1_i, rng2_ii, iRange1, iRange2, eLst, newL, kindOf_s, denM_append, denM_extend, denM_pop, denM_join, denM_split, denM_starts, denM_ends, denM_countL, denM_countT, mStarts_s, mEnds_s, mSplit_s, dSl_s, dSl_t, dMul]
    exact ⟨mul_small2 hi, hk⟩
  · simp only [den, Den.val, sSeq, sNx, sExpr, sRet, sRetN, sIf, sCt, sAsg, sPar, sFor, gNm, gTp, gLen, gsNil, gsCons, gOne, gStar1, gFld, gIx, eC, eVar, e1, e2, aNil, aCons, aStar, eTup, eB, eIf, eAnd, eOr, eNot, tAnd2, tOr2, tNot2, tE, tBl, tSel, oSel, E.isNil, E.many, E.glen, isCmp, eCall, eCm, eMk, eMkV, eAttr_d, eBm, eSl, oPart, eJoin, eChain, eComp, cIt, iOf, iEnum2, iZip2, tYes2, Cn.d, look, setAll, den2, denB, only1, only2, dIs, tyName, List.set_cons_zero, List.set_cons_succ, if_true, if_false, Bool.false_eq_true, List.map_cons, List.map_nil, Bool.not_true, Bool.not_false, true_and, and_true, true_or, or_true, or_false, false_or, and_false, false_and, decide_true, decide_false, String.reduceEq, eq_self, ne_eq, not_true_eq_false, not_false_eq_true, wipeE, List.cons_append, List.nil_append, dEq_ii, dEq_ss, List.length_cons, List.length_nil, Nat.reduceAdd, Nat.reduceSub, List.reduceReplicate, dAdd_ii, dAdd_ss, dAdd_tt, dSub_ii, dMul_ii, dMod_ii, dDiv_ii, dPow_ii, dCmp_ii, dNeg_i, dMx_ii, dMn_ii, dLen1_s, dLen1_t, dLen1_scr, dTuple_t, dStr_i, truth_b, truth_n, truth_i, rowsOf_t, rowsOf_s, rng1_i, rng2_ii, iRange1, iRange2, eLst, newL, kindOf_s, denM_append, denM_extend, denM_pop, denM_join, denM_split, denM_starts, denM_ends, denM_countL, denM_countT, mStarts_s, mEnds_s, mSplit_s, dSl_s, dSl_t]
    exact fin_same hq
/-- sizes of arms for so many users -/
structure SizesOk (u : Int) (ns : List Int) : Prop where
  len : 1 ≤ ns.length ∧ ns.length ≤ 4
  pos : ∀ i ∈ ns, 1 ≤ i ∧ i ≤ u
  sum : ns.sum = u
theorem sl_len : (4 : Nat) ≤ sizeLine := by rw [sizeLine_eq]; decide
theorem c_are_sizes (h : Γ (.fn "are_sizes") = some F_are_sizes) (hb : Γ (.fn "is_between") = some F_is_between) {ns : List Int} {u : Int} (ok : SizesOk u ns) (hq : q (.bl true) S) : callW Γ T (n + 2) (.fn "are_sizes") [.tup (ns.map .int), .int u] S q r := by
  refine call_go h rfl rfl ?_
  unfold F_are_sizes e_are_sizes
  have l1 := ok.len
  simp only [den, Den.val, sSeq, sNx, sExpr, sRet, sRetN, sIf, sCt, sAsg, sPar, sFor, gNm, gTp, gLen, gsNil, gsCons, gOne, gStar1, gFld, gIx, eC, eVar, e1, e2, aNil, aCons, aStar, eTup, eB, eIf, eAnd, eOr, eNot, tAnd2, tOr2, tNot2, tE, tBl, tSel, oSel, E.isNil, E.many, E.glen, isCmp, eCall, eCm, eMk, eMkV, eAttr_d, eBm, eSl, oPart, eJoin, eChain, eComp, cIt, iOf, iEnum2, iZip2, tYes2, Cn.d, look, setAll, den2, denB, only1, only2, dIs, tyName, List.set_cons_zero, List.set_cons_succ, if_true, if_false, Bool.false_eq_true, List.map_cons, List.map_nil, Bool.not_true, Bool.not_false, true_and, and_true, true_or, or_true, or_false, false_or, and_false, false_and, decide_true, decide_false, String.reduceEq, eq_self, ne_eq, not_true_eq_false, not_false_eq_true, wipeE, List.cons_append, List.nil_append, dEq_ii, dEq_ss, List.length_cons, List.length_nil, Nat.reduceAdd, Nat.reduceSub, List.reduceReplicate, dAdd_ii, dAdd_ss, dAdd_tt, dSub_ii, dMul_ii, dMod_ii, dDiv_ii, dPow_ii, dCmp_ii, dNeg_i, dMx_ii, dMn_ii, dLen1_s, dLen1_t, dLen1_scr, dTuple_t, dStr_i, truth_b, truth_n, truth_i, rowsOf_t, rowsOf_s, rng1_i, rng2_ii, iRange1, iRange2, eLst, newL, kindOf_s, denM_append, denM_extend, denM_pop, denM_join, denM_split, denM_starts, denM_ends, denM_countL, denM_countT, mStarts_s, mEnds_s, mSplit_s, dSl_s, dSl_t, dLen1, seqI, Option.some.injEq, exists_eq_left', List.length_map]
  have e1 : ((1 : Int) ≤ (ns.length : Int)) := by omega
  have e2 : ((ns.length : Int) ≤ 4) := by omega
  simp only [e1, e2, den, Den.val, sSeq, sNx, sExpr, sRet, sRetN, sIf, sCt, sAsg, sPar, sFor, gNm, gTp, gLen, gsNil, gsCons, gOne, gStar1, gFld, gIx, eC, eVar, e1, e2, aNil, aCons, aStar, eTup, eB, eIf, eAnd, eOr, eNot, tAnd2, tOr2, tNot2, tE, tBl, tSel, oSel, E.isNil, E.many, E.glen, isCmp, eCall, eCm, eMk, eMkV, eAttr_d, eBm, eSl, oPart, eJoin, eChain, eComp, cIt, iOf, iEnum2, iZip2, tYes2, Cn.d, look, setAll, den2, denB, only1, only2, dIs, tyName, List.set_cons_zero, List.set_cons_succ, if_true, if_false, Bool.false_eq_true, List.map_cons, List.map_nil, Bool.not_true, Bool.not_false, true_and, and_true, true_or, or_true, or_false, false_or, and_false, false_and, decide_true, decide_false, String.reduceEq, eq_self, ne_eq, not_true_eq_false, not_false_eq_true, wipeE, List.cons_append, List.nil_append, dEq_ii, dEq_ss, List.length_cons, List.length_nil, Nat.reduceAdd, Nat.reduceSub, List.reduceReplicate, dAdd_ii, dAdd_ss, dAdd_tt, dSub_ii, dMul_ii, dMod_ii, dDiv_ii, dPow_ii, dCmp_ii, dNeg_i, dMx_ii, dMn_ii, dLen1_s, dLen1_t, dLen1_scr, dTuple_t, dStr_i, truth_b, truth_n, truth_i, rowsOf_t, rowsOf_s, rng1_i, rng2_ii, iRange1, iRange2, eLst, newL, kindOf_s, denM_append, denM_extend, denM_pop, denM_join, denM_split, denM_starts, denM_ends, denM_countL, denM_countT, mStarts_s, mEnds_s, mSplit_s, dSl_s, dSl_t, rowsOf]
  refine comp_pure (S := S) (f := fun row => .bl true) (fun _ _ => trivial) Sub.rfl' (fun row hm => ?_) (by simp; have := sl_len; omega) fun S' s p hp => ?_
  · obtain ⟨d, hd, rfl⟩ := List.mem_map.mp hm
    obtain ⟨i, hi, rfl⟩ := List.mem_map.mp hd
    refine ⟨_, rfl, fun S' k s hk => ?_⟩
    simp only [den, Den.val, sSeq, sNx, sExpr, sRet, sRetN, sIf, sCt, sAsg, sPar, sFor, gNm, gTp, gLen, gsNil, gsCons, gOne, gStar1, gFld, gIx, eC, eVar, e1, e2, aNil, aCons, aStar, eTup, eB, eIf, eAnd, eOr, eNot, tAnd2, tOr2, tNot2, tE, tBl, tSel, oSel, E.isNil, E.many, E.glen, isCmp, eCall, eCm, eMk, eMkV, eAttr_d, eBm, eSl, oPart, eJoin, eChain, eComp, cIt, iOf, iEnum2, iZip2, tYes2, Cn.d, look, setAll, den2, denB, only1, only2, dIs, tyName, List.set_cons_zero, List.set_cons_succ, if_true, if_false, Bool.false_eq_true, List.map_cons, List.map_nil, Bool.not_true, Bool.not_false, true_and, and_true, true_or, or_true, or_false, false_or, and_false, false_and, decide_true, decide_false, String.reduceEq, eq_self, ne_eq, not_true_eq_false, not_false_eq_true, wipeE, List.cons_append, List.nil_append, dEq_ii, dEq_ss, List.length_cons, List.length_nil, Nat.reduceAdd, Nat.reduceSub, List.reduceReplicate, dAdd_ii, dAdd_ss, dAdd_tt, dSub_ii, dMul_ii, dMod_ii, dDiv_ii, dPow_ii, dCmp_ii, dNeg_i, dMx_ii, dMn_ii, dLen1_s, dLen1_t, dLen1_scr, dTuple_t, dStr_i, truth_b, truth_n, truth_i, rowsOf_t, rowsOf_s, rng1_i, rng2_ii, iRange1, iRange2, eLst, newL, kindOf_s, denM_append, denM_extend, denM_pop, denM_join, denM_split, denM_starts, denM_ends, denM_countL, denM_countT, mStarts_s, mEnds_s, mSplit_s, dSl_s, dSl_t]
    refine c_between hb ?_
    obtain ⟨p1, p2⟩ := ok.pos i hi
    simp only [p1, p2, decide_true, Bool.and_self]
    exact hk S' Sub.rfl'
  · refine ⟨List.replicate ns.length true, by simp only [lstI, up_same, List.map_map, List.map_replicate]; exact congrArg some (List.eq_replicate_iff.mpr ⟨by simp, by simp⟩), ?_⟩
    have e3 : (List.replicate ns.length true).all id = true := by simp
    simp only [e3, den, Den.val, sSeq, sNx, sExpr, sRet, sRetN, sIf, sCt, sAsg, sPar, sFor, gNm, gTp, gLen, gsNil, gsCons, gOne, gStar1, gFld, gIx, eC, eVar, e1, e2, aNil, aCons, aStar, eTup, eB, eIf, eAnd, eOr, eNot, tAnd2, tOr2, tNot2, tE, tBl, tSel, oSel, E.isNil, E.many, E.glen, isCmp, eCall, eCm, eMk, eMkV, eAttr_d, eBm, eSl, oPart, eJoin, eChain, eComp, cIt, iOf, iEnum2, iZip2, tYes2, Cn.d, look, setAll, den2, denB, only1, only2, dIs, tyName, List.set_cons_zero, List.set_cons_succ, if_true, if_false, Bool.false_eq_true, List.map_cons, List.map_nil, Bool.not_true, Bool.not_false, true_and, and_true, true_or, or_true, or_false, false_or, and_false, false_and, decide_true, decide_false, String.reduceEq, eq_self, ne_eq, not_true_eq_false, not_false_eq_true, wipeE, List.cons_append, List.nil_append, dEq_ii, dEq_ss, List.length_cons, List.length_nil, Nat.reduceAdd, Nat.reduceSub, List.reduceReplicate, dAdd_ii, dAdd_ss, dAdd_tt, dSub_ii, dMul_ii, dMod_ii, dDiv_ii, dPow_ii, dCmp_ii, dNeg_i, dMx_ii, dMn_ii, dLen1_s, dLen1_t, dLen1_scr, dTuple_t, dStr_i, truth_b, truth_n, truth_i, rowsOf_t, rowsOf_s, rng1_i, rng2_ii, iRange1, iRange2, eLst, newL, kindOf_s, denM_append, denM_extend, denM_pop, denM_join, denM_split, denM_starts, denM_ends, denM_countL, denM_countT, mStarts_s, mEnds_s, mSplit_s, dSl_s, dSl_t, dSum, seqI]
    refine ⟨ns, rfl, ?_⟩
    simp only [ok.sum, den, Den.val, sSeq, sNx, sExpr, sRet, sRetN, sIf, sCt, sAsg, sPar, sFor, gNm, gTp, gLen, gsNil, gsCons, gOne, gStar1, gFld, gIx, eC, eVar, e1, e2, aNil, aCons, aStar, eTup, eB, eIf, eAnd, eOr, eNot, tAnd2, tOr2, tNot2, tE, tBl, tSel, oSel, E.isNil, E.many, E.glen, isCmp, eCall, eCm, eMk, eMkV, eAttr_d, eBm, eSl, oPart, eJoin, eChain, eComp, cIt, iOf, iEnum2, iZip2, tYes2, Cn.d, look, setAll, den2, denB, only1, only2, dIs, tyName, List.set_cons_zero, List.set_cons_succ, if_true, if_false, Bool.false_eq_true, List.map_cons, List.map_nil, Bool.not_true, Bool.not_false, true_and, and_true, true_or, or_true, or_false, false_or, and_false, false_and, decide_true, decide_false, String.reduceEq, eq_self, ne_eq, not_true_eq_false, not_false_eq_true, wipeE, List.cons_append, List.nil_append, dEq_ii, dEq_ss, List.length_cons, List.length_nil, Nat.reduceAdd, Nat.reduceSub, List.reduceReplicate, dAdd_ii, dAdd_ss, dAdd_tt, dSub_ii, dMul_ii, dMod_ii, dDiv_ii, dPow_ii, dCmp_ii, dNeg_i, dMx_ii, dMn_ii, dLen1_s, dLen1_t, dLen1_scr, dTuple_t, dStr_i, truth_b, truth_n, truth_i, rowsOf_t, rowsOf_s, rng1_i, rng2_ii, iRange1, iRange2, eLst, newL, kindOf_s, denM_append, denM_extend, denM_pop, denM_join, denM_split, denM_starts, denM_ends, denM_countL, denM_countT, mStarts_s, mEnds_s, mSplit_s, dSl_s, dSl_t]
    exact fin_sub (s.trans (Sub.new hp)) hq
end
end C2

/-! Helpers of the laws over plain data: the pen. -/
namespace C2
open PySem PySem.Spec PyProof.Rows L2
/-- what stands in all places but one -/
def Off (p : Addr) (S S' : Sto) : Prop := ∀ a o, a ≠ p → S a = some o → S' a = some o
theorem Off.rfl' {p : Addr} {S : Sto} : Off p S S := fun _ _ _ h => h
theorem Off.trans {p : Addr} {S S1 S2 : Sto} (x : Off p S S1) (y : Off p S1 S2) : Off p S S2 := fun a o n h => y a o n (x a o n h)
theorem Off.sub {p : Addr} {S S1 : Sto} (x : Sub S S1) : Off p S S1 := fun a o _ h => x a o h
theorem Off.up {p : Addr} {S : Sto} {o : Ob} : Off p S (C2.up S p o) := fun a u n h => by rw [up_ne n]; exact h
/-- a pen with so many stirs at most -/
def Pen (S : Sto) (p : Addr) (c : Int) : Prop := ∃ a b d : Int, S p = some (.lst [.int a, .int b, .int d]) ∧ 0 ≤ b ∧ b < 1000000007 ∧ 0 ≤ d ∧ d ≤ c
theorem Pen.sub {S S' : Sto} {p : Addr} {c : Int} (h : Pen S p c) (s : Sub S S') : Pen S' p c := by
  obtain ⟨a, b, d, h1, h2⟩ := h
  exact ⟨a, b, d, s _ _ h1, h2⟩
theorem Pen.up {S : Sto} {p a : Addr} {c : Int} {o : Ob} (h : Pen S p c) (n : p ≠ a) : Pen (C2.up S a o) p c := by
  obtain ⟨x, b, d, h1, h2⟩ := h
  exact ⟨x, b, d, by rw [up_ne n]; exact h1, h2⟩
theorem Pen.mono {S : Sto} {p : Addr} {c c' : Int} (h : Pen S p c) (l : c ≤ c') : Pen S p c' := by
  obtain ⟨a, b, d, h1, h2, h3, h4, h5⟩ := h
  exact ⟨a, b, d, h1, h2, h3, h4, Int.le_trans h5 l⟩
theorem Pen.some {S : Sto} {p : Addr} {c : Int} (h : Pen S p c) : ∃ o, S p = some o := by
  obtain ⟨a, b, d, h1, h2⟩ := h
  exact ⟨_, h1⟩
section
variable {Γ : Tbl} {T : CT} {n : Nat} {S : Sto} {q : DK} {r : Exc → Sto → Prop}
theorem ix_lst {S : Sto} {p : Addr} {ds : List D} {i : Int} {d : D} {q : DK} (h : S p = some (.lst ds)) (e : atI ds i = some d) (hq : q d S) : dIx (.ref p) (.int i) S q := by
  unfold dIx
  exact ⟨ds, d, by simp only [seqI, h], e, hq⟩
theorem append_lst {S : Sto} {p : Addr} {ds : List D} {d : D} {q : DK} (h : S p = some (.lst ds)) (hl : ds.length < sizeLine) (hq : q .non (up S p (.lst (ds ++ [d])))) : mApp (.ref p) [d] S q := by
  exact ⟨ds, h, hl, hq⟩
theorem fm {i j : Int} (h : 0 < j) : i.fmod j = i % j := Int.fmod_eq_emod_of_nonneg _ (Int.le_of_lt h)
theorem fd {i j : Int} (h : 0 < j) : i.fdiv j = i / j := Int.fdiv_eq_ediv_of_nonneg _ (Int.le_of_lt h)
theorem c_draw (h : Γ (.fn "_law_draw") = some F_law_draw) {p : Addr} {c m : Int} (hp : Pen S p c) (hc : c < 2 ^ 40) (hm : 0 < m ∧ m < 1073741824) (hq : ∀ i S', 0 ≤ i → i < m → Pen S' p (c + 1) → Off p S S' → q (.int i) S') : callW Γ T (n + 1) (.fn "_law_draw") [.ref p, .int m] S q r := by
  refine call_go h rfl rfl ?_
  unfold F_law_draw e_law_draw
  obtain ⟨a, b, d, hs, b1, b2, d1, d2⟩ := hp
  simp (maxSteps := 2000000) only [den, Den.val, sSeq, sNx, sExpr, sRet, sRetN, sIf, sCt, sAsg, sPar, sFor, gNm, gTp, gLen, gsNil, gsCons, gOne, gStar1, gFld, gIx, eC, eVar, e1, e2, aNil, aCons, aStar, eTup, eB, eIf, eAnd, eOr, eNot, tAnd2, tOr2, tNot2, tE, tBl, tSel, oSel, E.isNil, E.many, E.glen, isCmp, eCall, eCm, eMk, eMkV, eAttr_d, eBm, eSl, oPart, eJoin, eChain, eComp, cIt, iOf, iEnum2, iZip2, tYes2, Cn.d, look, setAll, den2, denB, only1, only2, dIs, tyName, List.set_cons_zero, List.set_cons_succ, if_true, if_false, Bool.false_eq_true, List.map_cons, List.map_nil, Bool.not_true, Bool.not_false, true_and, and_true, true_or, or_true, or_false, false_or, and_false, false_and, decide_true, decide_false, String.reduceEq, eq_self, ne_eq, not_true_eq_false, not_false_eq_true, wipeE, List.cons_append, List.nil_append, dEq_ii, dEq_ss, List.length_cons, List.length_nil, Nat.reduceAdd, Nat.reduceSub, List.reduceReplicate, dAdd_ii, dAdd_ss, dAdd_tt, dSub_ii, dMul_ii, dMod_ii, dDiv_ii, dPow_ii, dCmp_ii, dNeg_i, dMx_ii, dMn_ii, dLen1_s, dLen1_t, dLen1_scr, dTuple_t, dStr_i, truth_b, truth_n, truth_i, rowsOf_t, rowsOf_s, rng1_i, rng2_ii, iRange1, iRange2, eLst, newL, kindOf_s, denM_append, denM_extend, denM_pop, denM_join, denM_split, denM_starts, denM_ends, denM_countL, denM_countT, mStarts_s, mEnds_s, mSplit_s, dSl_s, dSl_t, dMul]
  refine ix_lst hs rfl ?_
  have e1 : ∀ k : Int, k % m < m := fun k => Int.emod_lt_of_pos _ hm.1
  have e0 : ∀ k : Int, 0 ≤ k % m := fun k => Int.emod_nonneg _ (by omega)
  by_cases ha : 0 < a
  · simp only [ha, den, Den.val, sSeq, sNx, sExpr, sRet, sRetN, sIf, sCt, sAsg, sPar, sFor, gNm, gTp, gLen, gsNil, gsCons, gOne, gStar1, gFld, gIx, eC, eVar, e1, e2, aNil, aCons, aStar, eTup, eB, eIf, eAnd, eOr, eNot, tAnd2, tOr2, tNot2, tE, tBl, tSel, oSel, E.isNil, E.many, E.glen, isCmp, eCall, eCm, eMk, eMkV, eAttr_d, eBm, eSl, oPart, eJoin, eChain, eComp, cIt, iOf, iEnum2, iZip2, tYes2, Cn.d, look, setAll, den2, denB, only1, only2, dIs, tyName, List.set_cons_zero, List.set_cons_succ, if_true, if_false, Bool.false_eq_true, List.map_cons, List.map_nil, Bool.not_true, Bool.not_false, true_and, and_true, true_or, or_true, or_false, false_or, and_false, false_and, decide_true, decide_false, String.reduceEq, eq_self, ne_eq, not_true_eq_false, not_false_eq_true, wipeE, List.cons_append, List.nil_append, dEq_ii, dEq_ss, List.length_cons, List.length_nil, Nat.reduceAdd, Nat.reduceSub, List.reduceReplicate, dAdd_ii, dAdd_ss, dAdd_tt, dSub_ii, dMul_ii, dMod_ii, dDiv_ii, dPow_ii, dCmp_ii, dNeg_i, dMx_ii, dMn_ii, dLen1_s, dLen1_t, dLen1_scr, dTuple_t, dStr_i, truth_b, truth_n, truth_i, rowsOf_t, rowsOf_s, rng1_i, rng2_ii, iRange1, iRange2, eLst, newL, kindOf_s, denM_append, denM_extend, denM_pop, denM_join, denM_split, denM_starts, denM_ends, denM_countL, denM_countT, mStarts_s, mEnds_s, mSplit_s, dSl_s, dSl_t]
    refine ix_lst hs rfl ⟨by omega, ?_⟩
    refine ix_lst hs rfl ⟨div_small hm, ?_⟩
    refine ⟨_, _, hs, rfl, ?_⟩
    rw [fm hm.1]
    refine fin_same (hq _ _ (e0 _) (e1 _) ⟨_, b, d, up_same, b1, b2, d1, by omega⟩ Off.up)
  · simp only [ha, den, Den.val, sSeq, sNx, sExpr, sRet, sRetN, sIf, sCt, sAsg, sPar, sFor, gNm, gTp, gLen, gsNil, gsCons, gOne, gStar1, gFld, gIx, eC, eVar, e1, e2, aNil, aCons, aStar, eTup, eB, eIf, eAnd, eOr, eNot, tAnd2, tOr2, tNot2, tE, tBl, tSel, oSel, E.isNil, E.many, E.glen, isCmp, eCall, eCm, eMk, eMkV, eAttr_d, eBm, eSl, oPart, eJoin, eChain, eComp, cIt, iOf, iEnum2, iZip2, tYes2, Cn.d, look, setAll, den2, denB, only1, only2, dIs, tyName, List.set_cons_zero, List.set_cons_succ, if_true, if_false, Bool.false_eq_true, List.map_cons, List.map_nil, Bool.not_true, Bool.not_false, true_and, and_true, true_or, or_true, or_false, false_or, and_false, false_and, decide_true, decide_false, String.reduceEq, eq_self, ne_eq, not_true_eq_false, not_false_eq_true, wipeE, List.cons_append, List.nil_append, dEq_ii, dEq_ss, List.length_cons, List.length_nil, Nat.reduceAdd, Nat.reduceSub, List.reduceReplicate, dAdd_ii, dAdd_ss, dAdd_tt, dSub_ii, dMul_ii, dMod_ii, dDiv_ii, dPow_ii, dCmp_ii, dNeg_i, dMx_ii, dMn_ii, dLen1_s, dLen1_t, dLen1_scr, dTuple_t, dStr_i, truth_b, truth_n, truth_i, rowsOf_t, rowsOf_s, rng1_i, rng2_ii, iRange1, iRange2, eLst, newL, kindOf_s, denM_append, denM_extend, denM_pop, denM_join, denM_split, denM_starts, denM_ends, denM_countL, denM_countT, mStarts_s, mEnds_s, mSplit_s, dSl_s, dSl_t]
    refine ix_lst hs rfl ?_
    refine ⟨_, _, hs, rfl, ?_⟩
    have hs2 : up S p (.lst [.int a, .int b, .int (d + 1)]) p = some (.lst [.int a, .int b, .int (d + 1)]) := up_same
    refine ix_lst hs2 rfl ?_
    refine ix_lst hs2 rfl ?_
    simp only [den, Den.val, sSeq, sNx, sExpr, sRet, sRetN, sIf, sCt, sAsg, sPar, sFor, gNm, gTp, gLen, gsNil, gsCons, gOne, gStar1, gFld, gIx, eC, eVar, e1, e2, aNil, aCons, aStar, eTup, eB, eIf, eAnd, eOr, eNot, tAnd2, tOr2, tNot2, tE, tBl, tSel, oSel, E.isNil, E.many, E.glen, isCmp, eCall, eCm, eMk, eMkV, eAttr_d, eBm, eSl, oPart, eJoin, eChain, eComp, cIt, iOf, iEnum2, iZip2, tYes2, Cn.d, look, setAll, den2, denB, only1, only2, dIs, tyName, List.set_cons_zero, List.set_cons_succ, if_true, if_false, Bool.false_eq_true, List.map_cons, List.map_nil, Bool.not_true, Bool.not_false, true_and, and_true, true_or, or_true, or_false, false_or, and_false, false_and, decide_true, decide_false, String.reduceEq, eq_self, ne_eq, not_true_eq_false, not_false_eq_true, wipeE, List.cons_append, List.nil_append, dEq_ii, dEq_ss, List.length_cons, List.length_nil, Nat.reduceAdd, Nat.reduceSub, List.reduceReplicate, dAdd_ii, dAdd_ss, dAdd_tt, dSub_ii, dMul_ii, dMod_ii, dDiv_ii, dPow_ii, dCmp_ii, dNeg_i, dMx_ii, dMn_ii, dLen1_s, dLen1_t, dLen1_scr, dTuple_t, dStr_i, truth_b, truth_n, truth_i, rowsOf_t, rowsOf_s, rng1_i, rng2_ii, iRange1, iRange2, eLst, newL, kindOf_s, denM_append, denM_extend, denM_pop, denM_join, denM_split, denM_starts, denM_ends, denM_countL, denM_countT, mStarts_s, mEnds_s, mSplit_s, dSl_s, dSl_t]
    refine ⟨mul_small (by omega), ?_⟩
    refine ix_lst hs2 rfl ?_
    simp only [den, Den.val, sSeq, sNx, sExpr, sRet, sRetN, sIf, sCt, sAsg, sPar, sFor, gNm, gTp, gLen, gsNil, gsCons, gOne, gStar1, gFld, gIx, eC, eVar, e1, e2, aNil, aCons, aStar, eTup, eB, eIf, eAnd, eOr, eNot, tAnd2, tOr2, tNot2, tE, tBl, tSel, oSel, E.isNil, E.many, E.glen, isCmp, eCall, eCm, eMk, eMkV, eAttr_d, eBm, eSl, oPart, eJoin, eChain, eComp, cIt, iOf, iEnum2, iZip2, tYes2, Cn.d, look, setAll, den2, denB, only1, only2, dIs, tyName, List.set_cons_zero, List.set_cons_succ, if_true, if_false, Bool.false_eq_true, List.map_cons, List.map_nil, Bool.not_true, Bool.not_false, true_and, and_true, true_or, or_true, or_false, false_or, and_false, false_and, decide_true, decide_false, String.reduceEq, eq_self, ne_eq, not_true_eq_false, not_false_eq_true, wipeE, List.cons_append, List.nil_append, dEq_ii, dEq_ss, List.length_cons, List.length_nil, Nat.reduceAdd, Nat.reduceSub, List.reduceReplicate, dAdd_ii, dAdd_ss, dAdd_tt, dSub_ii, dMul_ii, dMod_ii, dDiv_ii, dPow_ii, dCmp_ii, dNeg_i, dMx_ii, dMn_ii, dLen1_s, dLen1_t, dLen1_scr, dTuple_t, dStr_i, truth_b, truth_n, truth_i, rowsOf_t, rowsOf_s, rng1_i, rng2_ii, iRange1, iRange2, eLst, newL, kindOf_s, denM_append, denM_extend, denM_pop, denM_join, denM_split, denM_starts, denM_ends, denM_countL, denM_countT, mStarts_s, mEnds_s, mSplit_s, dSl_s, dSl_t]
    refine ⟨mul_small (by omega), mul_small (by omega), ?_⟩
    have g0 : ∀ k : Int, 0 ≤ k % 2147483647 := fun k => Int.emod_nonneg _ (by decide)
    have g1 : ∀ k : Int, k % 2147483647 < 2147483647 := fun k => Int.emod_lt_of_pos _ (by decide)
    have g3 : ∀ k : Int, 0 ≤ k % 2147483629 := fun k => Int.emod_nonneg _ (by decide)
    have g4 : ∀ k : Int, k % 2147483629 < 2147483629 := fun k => Int.emod_lt_of_pos _ (by decide)
    rw [fm (by decide : (0 : Int) < 2147483647)]
    refine ⟨by omega, mul_small ⟨by have := g0 ((b + 17 * (d + 1)) * (69621 + 2 * (d + 1))); omega, by have := g1 ((b + 17 * (d + 1)) * (69621 + 2 * (d + 1))); omega⟩, ?_⟩
    refine ix_lst hs2 rfl ?_
    simp only [den, Den.val, sSeq, sNx, sExpr, sRet, sRetN, sIf, sCt, sAsg, sPar, sFor, gNm, gTp, gLen, gsNil, gsCons, gOne, gStar1, gFld, gIx, eC, eVar, e1, e2, aNil, aCons, aStar, eTup, eB, eIf, eAnd, eOr, eNot, tAnd2, tOr2, tNot2, tE, tBl, tSel, oSel, E.isNil, E.many, E.glen, isCmp, eCall, eCm, eMk, eMkV, eAttr_d, eBm, eSl, oPart, eJoin, eChain, eComp, cIt, iOf, iEnum2, iZip2, tYes2, Cn.d, look, setAll, den2, denB, only1, only2, dIs, tyName, List.set_cons_zero, List.set_cons_succ, if_true, if_false, Bool.false_eq_true, List.map_cons, List.map_nil, Bool.not_true, Bool.not_false, true_and, and_true, true_or, or_true, or_false, false_or, and_false, false_and, decide_true, decide_false, String.reduceEq, eq_self, ne_eq, not_true_eq_false, not_false_eq_true, wipeE, List.cons_append, List.nil_append, dEq_ii, dEq_ss, List.length_cons, List.length_nil, Nat.reduceAdd, Nat.reduceSub, List.reduceReplicate, dAdd_ii, dAdd_ss, dAdd_tt, dSub_ii, dMul_ii, dMod_ii, dDiv_ii, dPow_ii, dCmp_ii, dNeg_i, dMx_ii, dMn_ii, dLen1_s, dLen1_t, dLen1_scr, dTuple_t, dStr_i, truth_b, truth_n, truth_i, rowsOf_t, rowsOf_s, rng1_i, rng2_ii, iRange1, iRange2, eLst, newL, kindOf_s, denM_append, denM_extend, denM_pop, denM_join, denM_split, denM_starts, denM_ends, denM_countL, denM_countT, mStarts_s, mEnds_s, mSplit_s, dSl_s, dSl_t]
    refine ⟨mul_small (by omega), ?_⟩
    rw [fm (by decide : (0 : Int) < 2147483629)]
    refine ⟨by omega, mul_small2 (by omega), by omega, div_small (by omega), by omega, ?_⟩
    rw [fm hm.1]
    refine fin_same (hq _ _ (e0 _) (e1 _) ⟨a, b, _, hs2, b1, b2, by omega, by omega⟩ Off.up)
end
end C2

/-! Loops by invariants; drawn sizes. -/
namespace C2
open PySem PySem.Spec PyProof.Rows L2
/-- a loop's invariant, by the rows that are left -/
theorem forD_inv {chk : Sto → Prop} {g : DGs} {b : DS} {R : XR} {N : DN} (I : List (List D) → Env → Sto → Prop) (hc : ∀ rows e S, I rows e S → chk S)
    (hs : ∀ row rows e S, I (row :: rows) e S → ∀ k : Env → Sto → Prop, (∀ e s, I rows e s → k e s) → g R row e S fun e2 s2 => b R ⟨k, N.rt, k⟩ e2 s2) (hf : ∀ e S, I [] e S → N.nx e S) : ∀ rows e S, I rows e S → forD chk g b R N rows e S
  | [], e, S, h => ⟨hc _ _ _ h, hf _ _ h⟩
  | row :: rows, e, S, h => ⟨hc _ _ _ h, hs row rows e S h _ fun e' S' h' => forD_inv I hc hs hf rows e' S' h'⟩
/-- .. over a range -/
theorem forD_range {chk : Sto → Prop} {g : DGs} {b : DS} {R : XR} {N : DN} (I : Int → Env → Sto → Prop) (hc : ∀ i e S, I i e S → chk S) : ∀ (m : Nat) (lo : Int) (e : Env) (S : Sto), 
    (∀ i e S, lo ≤ i → i < lo + m → I i e S → ∀ k : Env → Sto → Prop, (∀ e s, I (i + 1) e s → k e s) → g R [.int i] e S fun e2 s2 => b R ⟨k, N.rt, k⟩ e2 s2) → (∀ e S, I (lo + m) e S → N.nx e S) → I lo e S → forD chk g b R N (intsFrom lo m) e S
  | 0, lo, e, S, hs, hf, h => ⟨hc _ _ _ h, hf _ _ (by simpa using h)⟩
  | m + 1, lo, e, S, hs, hf, h => ⟨hc _ _ _ h, hs lo e S (Int.le_refl _) (by omega) h _ fun e' S' h' => forD_range I hc m (lo + 1) e' S' (fun i e S l1 l2 => hs i e S (by omega) (by omega)) (fun e S h => hf e S (by rw [show lo + ((m + 1 : Nat) : Int) = lo + 1 + m by omega]; exact h)) h'⟩
theorem atI_mem {ds : List D} {i : Int} (h0 : 0 ≤ i) (h1 : i < ds.length) : ∃ d, atI ds i = some d ∧ d ∈ ds := by
  refine ⟨ds[i.toNat]'(by omega), ?_, List.getElem_mem _⟩
  unfold atI ixN
  rw [if_pos h0, if_pos h1]
  show ds[i.toNat]? = _
  rw [List.getElem?_eq_getElem]
theorem ixN_in {m : Nat} {i : Int} (h0 : 0 ≤ i) (h1 : i < m) : ixN m i = some i.toNat := by
  unfold ixN
  rw [if_pos h0, if_pos h1]
/-- numbers of a range -/
def intsL (lo : Int) (m : Nat) : List Int := (List.range m).map fun (i : Nat) => lo + i
theorem mem_intsL {lo x : Int} {m : Nat} : x ∈ intsL lo m ↔ lo ≤ x ∧ x < lo + m := by
  unfold intsL
  rw [List.mem_map]
  constructor
  · rintro ⟨i, hi, rfl⟩
    have := List.mem_range.mp hi
    omega
  · intro ⟨h1, h2⟩
    exact ⟨(x - lo).toNat, List.mem_range.mpr (by omega), by omega⟩
theorem len_intsL {lo : Int} {m : Nat} : (intsL lo m).length = m := by simp [intsL]
theorem rows_intsL {lo : Int} {m : Nat} : intsFrom lo m = (intsL lo m).map fun i => [D.int i] := by
  rw [rows_ints, intsL, List.map_map]
  rfl
def onI (P : Int → Bool) : List D → Bool
  | [.int i] => P i
  | _ => false
def fstD : List D → D
  | x :: _ => x
  | [] => .non
theorem filt_ints {P : Int → Bool} {ns : List Int} : ((ns.map fun i => [D.int i]).filter (onI P)).map fstD = (ns.filter P).map .int := by
  rw [List.filter_map, List.map_map]
  congr 1
theorem flat_one {α : Type} {x : α} : ∀ {n : Nat}, (List.replicate n [x]).flatten = List.replicate n x
  | 0 => rfl
  | n + 1 => by rw [List.replicate_succ, List.flatten_cons, flat_one, List.replicate_succ]; rfl
theorem sum_mul {k : Int} : ∀ {ns : List Int}, (ns.map (· * k)).sum = ns.sum * k
  | [] => by simp
  | a :: ns => by rw [List.map_cons, List.sum_cons, sum_mul, List.sum_cons, Int.add_mul]
theorem sum_pos : ∀ {ns : List Int}, (∀ j ∈ ns, 1 ≤ j) → 0 ≤ ns.sum
  | [], _ => by simp
  | a :: ns, h => by
    rw [List.sum_cons]
    have := h a List.mem_cons_self
    have := sum_pos (ns := ns) fun j hj => h j (List.mem_cons_of_mem _ hj)
    omega
theorem le_sum : ∀ {ns : List Int} {y : Int}, (∀ j ∈ ns, 1 ≤ j) → y ∈ ns → y ≤ ns.sum
  | a :: ns, y, h, hy => by
    have h1 := h a List.mem_cons_self
    have h2 : ∀ j ∈ ns, 1 ≤ j := fun j hj => h j (List.mem_cons_of_mem _ hj)
    rw [List.sum_cons]
    rcases List.mem_cons.mp hy with rfl | hy
    · have := sum_pos h2; omega
    · have := le_sum h2 hy; omega
section
variable {Γ : Tbl} {T : CT} {n : Nat} {S : Sto} {q : DK} {r : Exc → Sto → Prop}
theorem sl60 : (60 : Nat) ≤ sizeLine := by rw [sizeLine_eq]; decide
theorem Pen.ne {S : Sto} {p a : Addr} {c : Int} (h : Pen S p c) (n : S a = none) : a ≠ p := by
  rintro rfl
  obtain ⟨o, h⟩ := h.some
  rw [n] at h; cases h
theorem Off.free {p a : Addr} {S S1 : Sto} (x : Off p S S1) (n : a ≠ p) (h : S1 a = none) : S a = none := by
  cases e : S a with
  | none => rfl
  | some o => rw [x a o n e] at h; cases h
theorem Off.put {p a : Addr} {S S1 : Sto} {o : Ob} (x : Off p S S1) (h : S a = none) : Off p S (C2.up S1 a o) := fun b u n e => by
  have : b ≠ a := by rintro rfl; rw [h] at e; cases e
  rw [up_ne this]; exact x b u n e
theorem sum_set : ∀ {ns : List Int} {i : Nat} (h : i < ns.length), (ns.set i (ns[i] + 1)).sum = ns.sum + 1
  | [], i, h => absurd h (Nat.not_lt_zero _)
  | a :: ns, 0, h => by simp; omega
  | a :: ns, i + 1, h => by
    have := sum_set (ns := ns) (i := i) (by simpa using h)
    simp only [List.set_cons_succ, List.getElem_cons_succ, List.sum_cons, this]
    omega
theorem c_sizes (h : Γ (.fn "_law_sizes") = some F_law_sizes) (hd : Γ (.fn "_law_draw") = some F_law_draw) {p : Addr} {c u : Int} (hp : Pen S p c) (hc : c < 2 ^ 39) (hu : 1 ≤ u ∧ u ≤ 60) (hq : ∀ ns S', SizesOk u ns → Pen S' p (c + 63) → Off p S S' → q (.tup (ns.map .int)) S') : callW Γ T (n + 2) (.fn "_law_sizes") [.ref p, .int u] S q r := by
  refine call_go h rfl rfl ?_
  unfold F_law_sizes e_law_sizes
  simp (maxSteps := 2000000) only [den, Den.val, sSeq, sNx, sExpr, sRet, sRetN, sIf, sCt, sAsg, sPar, sFor, gNm, gTp, gLen, gsNil, gsCons, gOne, gStar1, gFld, gIx, eC, eVar, e1, e2, aNil, aCons, aStar, eTup, eB, eIf, eAnd, eOr, eNot, tAnd2, tOr2, tNot2, tE, tBl, tSel, oSel, E.isNil, E.many, E.glen, isCmp, eCall, eCm, eMk, eMkV, eAttr_d, eBm, eSl, oPart, eJoin, eChain, eComp, cIt, iOf, iEnum2, iZip2, tYes2, Cn.d, look, setAll, den2, denB, only1, only2, dIs, tyName, List.set_cons_zero, List.set_cons_succ, if_true, if_false, Bool.false_eq_true, List.map_cons, List.map_nil, Bool.not_true, Bool.not_false, true_and, and_true, true_or, or_true, or_false, false_or, and_false, false_and, decide_true, decide_false, String.reduceEq, eq_self, ne_eq, not_true_eq_false, not_false_eq_true, wipeE, List.cons_append, List.nil_append, dEq_ii, dEq_ss, List.length_cons, List.length_nil, Nat.reduceAdd, Nat.reduceSub, List.reduceReplicate, dAdd_ii, dAdd_ss, dAdd_tt, dSub_ii, dMul_ii, dMod_ii, dDiv_ii, dPow_ii, dCmp_ii, dNeg_i, dMx_ii, dMn_ii, dLen1_s, dLen1_t, dLen1_scr, dTuple_t, dStr_i, truth_b, truth_n, truth_i, rowsOf_t, rowsOf_s, rng1_i, rng2_ii, iRange1, iRange2, eLst, newL, kindOf_s, denM_append, denM_extend, denM_pop, denM_join, denM_split, denM_starts, denM_ends, denM_countL, denM_countT, mStarts_s, mEnds_s, mSplit_s, dSl_s, dSl_t]
  refine ⟨by omega, by omega, by omega, by omega, ?_⟩
  rw [rows_intsL]
  refine comp_filter (S := S) (p := onI fun i => decide (u.fmod i = 0)) (f := fstD) (fun _ _ => trivial) Sub.rfl' (fun row hm => ?_) ?_ fun S' s p2 hp2 => ?_
  · obtain ⟨i, hi, rfl⟩ := List.mem_map.mp hm
    have hi2 := mem_intsL.mp hi
    refine ⟨_, rfl, fun S' k s hk => ?_, fun _ S' k s hk => ?_⟩
    · simp only [den, Den.val, sSeq, sNx, sExpr, sRet, sRetN, sIf, sCt, sAsg, sPar, sFor, gNm, gTp, gLen, gsNil, gsCons, gOne, gStar1, gFld, gIx, eC, eVar, e1, e2, aNil, aCons, aStar, eTup, eB, eIf, eAnd, eOr, eNot, tAnd2, tOr2, tNot2, tE, tBl, tSel, oSel, E.isNil, E.many, E.glen, isCmp, eCall, eCm, eMk, eMkV, eAttr_d, eBm, eSl, oPart, eJoin, eChain, eComp, cIt, iOf, iEnum2, iZip2, tYes2, Cn.d, look, setAll, den2, denB, only1, only2, dIs, tyName, List.set_cons_zero, List.set_cons_succ, if_true, if_false, Bool.false_eq_true, List.map_cons, List.map_nil, Bool.not_true, Bool.not_false, true_and, and_true, true_or, or_true, or_false, false_or, and_false, false_and, decide_true, decide_false, String.reduceEq, eq_self, ne_eq, not_true_eq_false, not_false_eq_true, wipeE, List.cons_append, List.nil_append, dEq_ii, dEq_ss, List.length_cons, List.length_nil, Nat.reduceAdd, Nat.reduceSub, List.reduceReplicate, dAdd_ii, dAdd_ss, dAdd_tt, dSub_ii, dMul_ii, dMod_ii, dDiv_ii, dPow_ii, dCmp_ii, dNeg_i, dMx_ii, dMn_ii, dLen1_s, dLen1_t, dLen1_scr, dTuple_t, dStr_i, truth_b, truth_n, truth_i, rowsOf_t, rowsOf_s, rng1_i, rng2_ii, iRange1, iRange2, eLst, newL, kindOf_s, denM_append, denM_extend, denM_pop, denM_join, denM_split, denM_starts, denM_ends, denM_countL, denM_countT, mStarts_s, mEnds_s, mSplit_s, dSl_s, dSl_t]
      exact ⟨by omega, hk S' Sub.rfl'⟩
    · simp only [den, Den.val, sSeq, sNx, sExpr, sRet, sRetN, sIf, sCt, sAsg, sPar, sFor, gNm, gTp, gLen, gsNil, gsCons, gOne, gStar1, gFld, gIx, eC, eVar, e1, e2, aNil, aCons, aStar, eTup, eB, eIf, eAnd, eOr, eNot, tAnd2, tOr2, tNot2, tE, tBl, tSel, oSel, E.isNil, E.many, E.glen, isCmp, eCall, eCm, eMk, eMkV, eAttr_d, eBm, eSl, oPart, eJoin, eChain, eComp, cIt, iOf, iEnum2, iZip2, tYes2, Cn.d, look, setAll, den2, denB, only1, only2, dIs, tyName, List.set_cons_zero, List.set_cons_succ, if_true, if_false, Bool.false_eq_true, List.map_cons, List.map_nil, Bool.not_true, Bool.not_false, true_and, and_true, true_or, or_true, or_false, false_or, and_false, false_and, decide_true, decide_false, String.reduceEq, eq_self, ne_eq, not_true_eq_false, not_false_eq_true, wipeE, List.cons_append, List.nil_append, dEq_ii, dEq_ss, List.length_cons, List.length_nil, Nat.reduceAdd, Nat.reduceSub, List.reduceReplicate, dAdd_ii, dAdd_ss, dAdd_tt, dSub_ii, dMul_ii, dMod_ii, dDiv_ii, dPow_ii, dCmp_ii, dNeg_i, dMx_ii, dMn_ii, dLen1_s, dLen1_t, dLen1_scr, dTuple_t, dStr_i, truth_b, truth_n, truth_i, rowsOf_t, rowsOf_s, rng1_i, rng2_ii, iRange1, iRange2, eLst, newL, kindOf_s, denM_append, denM_extend, denM_pop, denM_join, denM_split, denM_starts, denM_ends, denM_countL, denM_countT, mStarts_s, mEnds_s, mSplit_s, dSl_s, dSl_t]
      exact hk S' Sub.rfl'
  · have := sl60
    simp only [List.length_map, len_intsL, List.length_nil]
    omega
  rw [filt_ints, List.nil_append]
  have hL : ∀ i ∈ (intsL 1 (u + 1 - 1).toNat).filter (fun i => decide (u.fmod i = 0)), 1 ≤ i ∧ i ≤ u ∧ u % i = 0 := by
    intro i hi
    rw [List.mem_filter, mem_intsL] at hi
    have h2 := of_decide_eq_true hi.2
    rw [fm (by omega)] at h2
    exact ⟨by omega, by omega, h2⟩
  have hLen : ((intsL 1 (u + 1 - 1).toNat).filter (fun i => decide (u.fmod i = 0))).length ≤ 60 := by
    refine Nat.le_trans (List.length_filter_le _ _) ?_
    rw [len_intsL]; omega
  have hPos : 0 < ((intsL 1 (u + 1 - 1).toNat).filter (fun i => decide (u.fmod i = 0))).length := by
    refine List.length_pos_of_mem (a := 1) ?_
    rw [List.mem_filter, mem_intsL]
    exact ⟨by omega, by simp⟩
  generalize ((intsL 1 (u + 1 - 1).toNat).filter (fun i => decide (u.fmod i = 0))) = L at *
  have np : p2 ≠ p := (hp.sub s).ne hp2
  refine len_lst up_same ?_
  rw [List.length_map]
  refine c_draw hd ((hp.sub s).up np.symm) (by omega) (by omega) fun i S2 i0 i1 pen2 off2 => ?_
  have h2 : S2 p2 = some (.lst (L.map .int)) := off2 _ _ np up_same
  obtain ⟨d, hd1, hd2⟩ := atI_mem (ds := L.map D.int) i0 (by rw [List.length_map]; exact i1)
  obtain ⟨k, hk, rfl⟩ := List.mem_map.mp hd2
  obtain ⟨k1, k2, k3⟩ := hL k hk
  refine ix_lst h2 hd1 ?_
  simp only [den, Den.val, sSeq, sNx, sExpr, sRet, sRetN, sIf, sCt, sAsg, sPar, sFor, gNm, gTp, gLen, gsNil, gsCons, gOne, gStar1, gFld, gIx, eC, eVar, e1, e2, aNil, aCons, aStar, eTup, eB, eIf, eAnd, eOr, eNot, tAnd2, tOr2, tNot2, tE, tBl, tSel, oSel, E.isNil, E.many, E.glen, isCmp, eCall, eCm, eMk, eMkV, eAttr_d, eBm, eSl, oPart, eJoin, eChain, eComp, cIt, iOf, iEnum2, iZip2, tYes2, Cn.d, look, setAll, den2, denB, only1, only2, dIs, tyName, List.set_cons_zero, List.set_cons_succ, if_true, if_false, Bool.false_eq_true, List.map_cons, List.map_nil, Bool.not_true, Bool.not_false, true_and, and_true, true_or, or_true, or_false, false_or, and_false, false_and, decide_true, decide_false, String.reduceEq, eq_self, ne_eq, not_true_eq_false, not_false_eq_true, wipeE, List.cons_append, List.nil_append, dEq_ii, dEq_ss, List.length_cons, List.length_nil, Nat.reduceAdd, Nat.reduceSub, List.reduceReplicate, dAdd_ii, dAdd_ss, dAdd_tt, dSub_ii, dMul_ii, dMod_ii, dDiv_ii, dPow_ii, dCmp_ii, dNeg_i, dMx_ii, dMn_ii, dLen1_s, dLen1_t, dLen1_scr, dTuple_t, dStr_i, truth_b, truth_n, truth_i, rowsOf_t, rowsOf_s, rng1_i, rng2_ii, iRange1, iRange2, eLst, newL, kindOf_s, denM_append, denM_extend, denM_pop, denM_join, denM_split, denM_starts, denM_ends, denM_countL, denM_countT, mStarts_s, mEnds_s, mSplit_s, dSl_s, dSl_t]
  refine ⟨div_small (by omega), ?_⟩
  have off3 : Off p S S2 := (Off.sub s).trans ((Off.sub (Sub.new hp2)).trans off2)
  refine c_draw hd pen2 (by omega) (by omega) fun m S3 m0 m1 pen3 off4 => ?_
  rw [fd (by omega)]
  simp only [den, Den.val, sSeq, sNx, sExpr, sRet, sRetN, sIf, sCt, sAsg, sPar, sFor, gNm, gTp, gLen, gsNil, gsCons, gOne, gStar1, gFld, gIx, eC, eVar, e1, e2, aNil, aCons, aStar, eTup, eB, eIf, eAnd, eOr, eNot, tAnd2, tOr2, tNot2, tE, tBl, tSel, oSel, E.isNil, E.many, E.glen, isCmp, eCall, eCm, eMk, eMkV, eAttr_d, eBm, eSl, oPart, eJoin, eChain, eComp, cIt, iOf, iEnum2, iZip2, tYes2, Cn.d, look, setAll, den2, denB, only1, only2, dIs, tyName, List.set_cons_zero, List.set_cons_succ, if_true, if_false, Bool.false_eq_true, List.map_cons, List.map_nil, Bool.not_true, Bool.not_false, true_and, and_true, true_or, or_true, or_false, false_or, and_false, false_and, decide_true, decide_false, String.reduceEq, eq_self, ne_eq, not_true_eq_false, not_false_eq_true, wipeE, List.cons_append, List.nil_append, dEq_ii, dEq_ss, List.length_cons, List.length_nil, Nat.reduceAdd, Nat.reduceSub, List.reduceReplicate, dAdd_ii, dAdd_ss, dAdd_tt, dSub_ii, dMul_ii, dMod_ii, dDiv_ii, dPow_ii, dCmp_ii, dNeg_i, dMx_ii, dMn_ii, dLen1_s, dLen1_t, dLen1_scr, dTuple_t, dStr_i, truth_b, truth_n, truth_i, rowsOf_t, rowsOf_s, rng1_i, rng2_ii, iRange1, iRange2, eLst, newL, kindOf_s, denM_append, denM_extend, denM_pop, denM_join, denM_split, denM_starts, denM_ends, denM_countL, denM_countT, mStarts_s, mEnds_s, mSplit_s, dSl_s, dSl_t]
  have hw : u / k * k = u := Int.ediv_mul_cancel (Int.dvd_of_emod_eq_zero k3)
  generalize hwe : u / k = w at *
  have w1 : 1 ≤ w := by
    have : ¬ w ≤ 0 := fun z => by
      have := Int.mul_le_mul_of_nonneg_right z (show 0 ≤ k by omega)
      omega
    omega
  have w2 : w ≤ 60 := by
    have := Int.mul_le_mul_of_nonneg_left k1 (show 0 ≤ w by omega)
    omega
  have sl := sl60
  have n1 : 1 ≤ min w (1 + m) := by omega
  have n2 : min w (1 + m) ≤ 4 := by omega
  have n3 : min w (1 + m) ≤ w := by omega
  generalize min w (1 + m) = many at *
  refine ⟨by omega, fun p3 hp3 => ?_⟩
  refine ⟨_, up_same, by omega, by omega, ?_, fun p4 hp4 => ?_⟩
  · simp; omega
  refine ⟨div_small (by omega), by omega, by omega, ?_⟩
  have np3 : p3 ≠ p := pen3.ne hp3
  have s34 : Sub S3 (up S3 p3 (.lst [.int 1])) := Sub.new hp3
  have hp4' : S3 p4 = none := s34.free hp4
  have np4 : p4 ≠ p := pen3.ne hp4'
  have off5 : Off p S (up S3 p3 (.lst [.int 1])) := (off3.trans off4).trans (Off.sub s34)
  have hS4 : S p4 = none := off5.free np4 hp4
  refine forD_range (fun i e S' => ∃ (ns : List Int) (x y : Option D), (ns.length : Int) = many ∧ (∀ j ∈ ns, 1 ≤ j) ∧ ns.sum = many + i ∧ S' p4 = some (.lst (ns.map .int)) ∧ Pen S' p (c + 2 + i) ∧ Off p S S' ∧ e = [some (.ref p), some (.int u), some (.ref p2), some (.int k), some (.int many), some (.ref p4), x, y, none, none]) (fun _ _ _ _ => trivial) _ _ _ _ ?_ ?_ ?_
  · rintro i e S' i0 i1 ⟨ns, x, y, a1, a2, a3, a4, a5, a6, rfl⟩ kk hk
    simp only [den, Den.val, sSeq, sNx, sExpr, sRet, sRetN, sIf, sCt, sAsg, sPar, sFor, gNm, gTp, gLen, gsNil, gsCons, gOne, gStar1, gFld, gIx, eC, eVar, e1, e2, aNil, aCons, aStar, eTup, eB, eIf, eAnd, eOr, eNot, tAnd2, tOr2, tNot2, tE, tBl, tSel, oSel, E.isNil, E.many, E.glen, isCmp, eCall, eCm, eMk, eMkV, eAttr_d, eBm, eSl, oPart, eJoin, eChain, eComp, cIt, iOf, iEnum2, iZip2, tYes2, Cn.d, look, setAll, den2, denB, only1, only2, dIs, tyName, List.set_cons_zero, List.set_cons_succ, if_true, if_false, Bool.false_eq_true, List.map_cons, List.map_nil, Bool.not_true, Bool.not_false, true_and, and_true, true_or, or_true, or_false, false_or, and_false, false_and, decide_true, decide_false, String.reduceEq, eq_self, ne_eq, not_true_eq_false, not_false_eq_true, wipeE, List.cons_append, List.nil_append, dEq_ii, dEq_ss, List.length_cons, List.length_nil, Nat.reduceAdd, Nat.reduceSub, List.reduceReplicate, dAdd_ii, dAdd_ss, dAdd_tt, dSub_ii, dMul_ii, dMod_ii, dDiv_ii, dPow_ii, dCmp_ii, dNeg_i, dMx_ii, dMn_ii, dLen1_s, dLen1_t, dLen1_scr, dTuple_t, dStr_i, truth_b, truth_n, truth_i, rowsOf_t, rowsOf_s, rng1_i, rng2_ii, iRange1, iRange2, eLst, newL, kindOf_s, denM_append, denM_extend, denM_pop, denM_join, denM_split, denM_starts, denM_ends, denM_countL, denM_countT, mStarts_s, mEnds_s, mSplit_s, dSl_s, dSl_t]
    refine c_draw hd a5 (by omega) (by omega) fun j S5 j0 j1 pen5 off6 => ?_
    have h5 : S5 p4 = some (.lst (ns.map .int)) := off6 _ _ np4 a4
    obtain ⟨v, hv, hv2⟩ := atI_mem (ds := ns.map D.int) j0 (by rw [List.length_map]; omega)
    have hj : ixN ns.length j = some j.toNat := ixN_in j0 (by omega)
    have hj2 : atI (ns.map D.int) j = some (.int (ns[j.toNat]'(by omega))) := by
      unfold atI
      rw [List.length_map, hj]
      show (ns.map D.int)[j.toNat]? = _
      rw [List.getElem?_map, List.getElem?_eq_getElem (by omega)]
      rfl
    refine ix_lst h5 hj2 ?_
    simp only [den, Den.val, sSeq, sNx, sExpr, sRet, sRetN, sIf, sCt, sAsg, sPar, sFor, gNm, gTp, gLen, gsNil, gsCons, gOne, gStar1, gFld, gIx, eC, eVar, e1, e2, aNil, aCons, aStar, eTup, eB, eIf, eAnd, eOr, eNot, tAnd2, tOr2, tNot2, tE, tBl, tSel, oSel, E.isNil, E.many, E.glen, isCmp, eCall, eCm, eMk, eMkV, eAttr_d, eBm, eSl, oPart, eJoin, eChain, eComp, cIt, iOf, iEnum2, iZip2, tYes2, Cn.d, look, setAll, den2, denB, only1, only2, dIs, tyName, List.set_cons_zero, List.set_cons_succ, if_true, if_false, Bool.false_eq_true, List.map_cons, List.map_nil, Bool.not_true, Bool.not_false, true_and, and_true, true_or, or_true, or_false, false_or, and_false, false_and, decide_true, decide_false, String.reduceEq, eq_self, ne_eq, not_true_eq_false, not_false_eq_true, wipeE, List.cons_append, List.nil_append, dEq_ii, dEq_ss, List.length_cons, List.length_nil, Nat.reduceAdd, Nat.reduceSub, List.reduceReplicate, dAdd_ii, dAdd_ss, dAdd_tt, dSub_ii, dMul_ii, dMod_ii, dDiv_ii, dPow_ii, dCmp_ii, dNeg_i, dMx_ii, dMn_ii, dLen1_s, dLen1_t, dLen1_scr, dTuple_t, dStr_i, truth_b, truth_n, truth_i, rowsOf_t, rowsOf_s, rng1_i, rng2_ii, iRange1, iRange2, eLst, newL, kindOf_s, denM_append, denM_extend, denM_pop, denM_join, denM_split, denM_starts, denM_ends, denM_countL, denM_countT, mStarts_s, mEnds_s, mSplit_s, dSl_s, dSl_t]
    refine ⟨_, _, h5, by rw [List.length_map]; exact hj, ?_⟩
    refine hk _ _ ⟨ns.set j.toNat (ns[j.toNat]'(by omega) + 1), _, _, ?_, ?_, ?_, ?_, ?_, ?_, rfl⟩
    · rw [List.length_set]; exact a1
    · intro z hz
      rcases List.mem_or_eq_of_mem_set hz with hz | rfl
      · exact a2 z hz
      · have := a2 _ (List.getElem_mem (h := (by omega : j.toNat < ns.length)))
        omega
    · rw [sum_set (by omega), a3]; omega
    · rw [up_same, List.map_set]
    · exact (pen5.up np4.symm).mono (by omega)
    · exact (a6.trans off6).put hS4
  · rintro e S' ⟨ns, x, y, a1, a2, a3, a4, a5, a6, rfl⟩
    simp only [den, Den.val, sSeq, sNx, sExpr, sRet, sRetN, sIf, sCt, sAsg, sPar, sFor, gNm, gTp, gLen, gsNil, gsCons, gOne, gStar1, gFld, gIx, eC, eVar, e1, e2, aNil, aCons, aStar, eTup, eB, eIf, eAnd, eOr, eNot, tAnd2, tOr2, tNot2, tE, tBl, tSel, oSel, E.isNil, E.many, E.glen, isCmp, eCall, eCm, eMk, eMkV, eAttr_d, eBm, eSl, oPart, eJoin, eChain, eComp, cIt, iOf, iEnum2, iZip2, tYes2, Cn.d, look, setAll, den2, denB, only1, only2, dIs, tyName, List.set_cons_zero, List.set_cons_succ, if_true, if_false, Bool.false_eq_true, List.map_cons, List.map_nil, Bool.not_true, Bool.not_false, true_and, and_true, true_or, or_true, or_false, false_or, and_false, false_and, decide_true, decide_false, String.reduceEq, eq_self, ne_eq, not_true_eq_false, not_false_eq_true, wipeE, List.cons_append, List.nil_append, dEq_ii, dEq_ss, List.length_cons, List.length_nil, Nat.reduceAdd, Nat.reduceSub, List.reduceReplicate, dAdd_ii, dAdd_ss, dAdd_tt, dSub_ii, dMul_ii, dMod_ii, dDiv_ii, dPow_ii, dCmp_ii, dNeg_i, dMx_ii, dMn_ii, dLen1_s, dLen1_t, dLen1_scr, dTuple_t, dStr_i, truth_b, truth_n, truth_i, rowsOf_t, rowsOf_s, rng1_i, rng2_ii, iRange1, iRange2, eLst, newL, kindOf_s, denM_append, denM_extend, denM_pop, denM_join, denM_split, denM_starts, denM_ends, denM_countL, denM_countT, mStarts_s, mEnds_s, mSplit_s, dSl_s, dSl_t]
    simp only [rowsOf_r]
    refine ⟨_, a4, ?_⟩
    refine comp_pure (S := S') (f := fun row => match row with | [.int i] => .int (i * k) | _ => .non) (fun S'' s => s _ _ a4) Sub.rfl' (fun row hm => ?_) ?_ fun S6 s6 p6 hp6 => ?_
    · obtain ⟨d, hd, rfl⟩ := List.mem_map.mp hm
      obtain ⟨i, hi, rfl⟩ := List.mem_map.mp hd
      refine ⟨_, rfl, fun S' kk s hk => ?_⟩
      simp only [den, Den.val, sSeq, sNx, sExpr, sRet, sRetN, sIf, sCt, sAsg, sPar, sFor, gNm, gTp, gLen, gsNil, gsCons, gOne, gStar1, gFld, gIx, eC, eVar, e1, e2, aNil, aCons, aStar, eTup, eB, eIf, eAnd, eOr, eNot, tAnd2, tOr2, tNot2, tE, tBl, tSel, oSel, E.isNil, E.many, E.glen, isCmp, eCall, eCm, eMk, eMkV, eAttr_d, eBm, eSl, oPart, eJoin, eChain, eComp, cIt, iOf, iEnum2, iZip2, tYes2, Cn.d, look, setAll, den2, denB, only1, only2, dIs, tyName, List.set_cons_zero, List.set_cons_succ, if_true, if_false, Bool.false_eq_true, List.map_cons, List.map_nil, Bool.not_true, Bool.not_false, true_and, and_true, true_or, or_true, or_false, false_or, and_false, false_and, decide_true, decide_false, String.reduceEq, eq_self, ne_eq, not_true_eq_false, not_false_eq_true, wipeE, List.cons_append, List.nil_append, dEq_ii, dEq_ss, List.length_cons, List.length_nil, Nat.reduceAdd, Nat.reduceSub, List.reduceReplicate, dAdd_ii, dAdd_ss, dAdd_tt, dSub_ii, dMul_ii, dMod_ii, dDiv_ii, dPow_ii, dCmp_ii, dNeg_i, dMx_ii, dMn_ii, dLen1_s, dLen1_t, dLen1_scr, dTuple_t, dStr_i, truth_b, truth_n, truth_i, rowsOf_t, rowsOf_s, rng1_i, rng2_ii, iRange1, iRange2, eLst, newL, kindOf_s, denM_append, denM_extend, denM_pop, denM_join, denM_split, denM_starts, denM_ends, denM_countL, denM_countT, mStarts_s, mEnds_s, mSplit_s, dSl_s, dSl_t]
      exact ⟨mul_small2 (by omega), hk S' Sub.rfl'⟩
    · simp only [List.length_map, List.length_nil]; omega
    refine tuple_lst up_same (fin_same ?_)
    simp only [List.nil_append, List.map_map]
    have : (List.map ((fun row => match row with | [.int i] => D.int (i * k) | _ => .non) ∘ (fun d => [d]) ∘ D.int) ns) = (ns.map (· * k)).map .int := by
      rw [List.map_map]; rfl
    rw [this]
    have hsum : ns.sum = w := by omega
    refine hq _ _ ⟨?_, ?_, ?_⟩ (((a5.sub s6).up (((a5.sub s6).ne hp6).symm)).mono (by omega)) ((a6.trans (Off.sub s6)).trans (Off.sub (Sub.new hp6)))
    · rw [List.length_map]; omega
    · intro z hz
      obtain ⟨y, hy, rfl⟩ := List.mem_map.mp hz
      have h1 := a2 y hy
      have h2 := Int.mul_le_mul_of_nonneg_right h1 (show 0 ≤ k by omega)
      have h3 := le_sum a2 hy
      have h4 := Int.mul_le_mul_of_nonneg_right h3 (show 0 ≤ k by omega)
      rw [hsum] at h4
      omega
    · rw [sum_mul, hsum, hw]
  · refine ⟨List.replicate many.toNat 1, _, _, ?_, ?_, ?_, ?_, ?_, off5.put hS4, rfl⟩
    · rw [List.length_replicate]; omega
    · intro j hj
      rw [List.eq_of_mem_replicate hj]; omega
    · simp; omega
    · rw [up_same, List.map_replicate]
      congr 2
      exact flat_one
    · exact (((pen3.up np3.symm)).up np4.symm).mono (by omega)
end
end C2

/-! Drawn users and sizes. -/
namespace C2
open PySem PySem.Spec PyProof.Rows L2
section
variable {Γ : Tbl} {T : CT} {n : Nat} {S : Sto} {q : DK} {r : Exc → Sto → Prop}
theorem c_cell_at (h : Γ (.fn "_law_cell_at") = some F_law_cell_at) {ns : List Int} {k : Int} (h0 : 0 ≤ k) (hq : ∀ v, q (.int v) S) : callW Γ T (n + 1) (.fn "_law_cell_at") [.scr ns, .int k] S q r := by
  refine call_go h rfl rfl ?_
  unfold F_law_cell_at e_law_cell_at
  simp only [den, Den.val, sSeq, sNx, sExpr, sRet, sRetN, sIf, sCt, sAsg, sPar, sFor, gNm, gTp, gLen, gsNil, gsCons, gOne, gStar1, gFld, gIx, eC, eVar, e1, e2, aNil, aCons, aStar, eTup, eB, eIf, eAnd, eOr, eNot, tAnd2, tOr2, tNot2, tE, tBl, tSel, oSel, E.isNil, E.many, E.glen, isCmp, eCall, eCm, eMk, eMkV, eAttr_d, eBm, eSl, oPart, eJoin, eChain, eComp, cIt, iOf, iEnum2, iZip2, tYes2, Cn.d, look, setAll, den2, denB, only1, only2, dIs, tyName, List.set_cons_zero, List.set_cons_succ, if_true, if_false, Bool.false_eq_true, List.map_cons, List.map_nil, Bool.not_true, Bool.not_false, true_and, and_true, true_or, or_true, or_false, false_or, and_false, false_and, decide_true, decide_false, String.reduceEq, eq_self, ne_eq, not_true_eq_false, not_false_eq_true, wipeE, List.cons_append, List.nil_append, dEq_ii, dEq_ss, List.length_cons, List.length_nil, Nat.reduceAdd, Nat.reduceSub, List.reduceReplicate, dAdd_ii, dAdd_ss, dAdd_tt, dSub_ii, dMul_ii, dMod_ii, dDiv_ii, dPow_ii, dCmp_ii, dNeg_i, dMx_ii, dMn_ii, dLen1_s, dLen1_t, dLen1_scr, dTuple_t, dStr_i, truth_b, truth_n, truth_i, rowsOf_t, rowsOf_s, rng1_i, rng2_ii, iRange1, iRange2, eLst, newL, kindOf_s, denM_append, denM_extend, denM_pop, denM_join, denM_split, denM_starts, denM_ends, denM_countL, denM_countT, mStarts_s, mEnds_s, mSplit_s, dSl_s, dSl_t]
  by_cases hk : k < ns.length
  · simp only [hk, den, Den.val, sSeq, sNx, sExpr, sRet, sRetN, sIf, sCt, sAsg, sPar, sFor, gNm, gTp, gLen, gsNil, gsCons, gOne, gStar1, gFld, gIx, eC, eVar, e1, e2, aNil, aCons, aStar, eTup, eB, eIf, eAnd, eOr, eNot, tAnd2, tOr2, tNot2, tE, tBl, tSel, oSel, E.isNil, E.many, E.glen, isCmp, eCall, eCm, eMk, eMkV, eAttr_d, eBm, eSl, oPart, eJoin, eChain, eComp, cIt, iOf, iEnum2, iZip2, tYes2, Cn.d, look, setAll, den2, denB, only1, only2, dIs, tyName, List.set_cons_zero, List.set_cons_succ, if_true, if_false, Bool.false_eq_true, List.map_cons, List.map_nil, Bool.not_true, Bool.not_false, true_and, and_true, true_or, or_true, or_false, false_or, and_false, false_and, decide_true, decide_false, String.reduceEq, eq_self, ne_eq, not_true_eq_false, not_false_eq_true, wipeE, List.cons_append, List.nil_append, dEq_ii, dEq_ss, List.length_cons, List.length_nil, Nat.reduceAdd, Nat.reduceSub, List.reduceReplicate, dAdd_ii, dAdd_ss, dAdd_tt, dSub_ii, dMul_ii, dMod_ii, dDiv_ii, dPow_ii, dCmp_ii, dNeg_i, dMx_ii, dMn_ii, dLen1_s, dLen1_t, dLen1_scr, dTuple_t, dStr_i, truth_b, truth_n, truth_i, rowsOf_t, rowsOf_s, rng1_i, rng2_ii, iRange1, iRange2, eLst, newL, kindOf_s, denM_append, denM_extend, denM_pop, denM_join, denM_split, denM_starts, denM_ends, denM_countL, denM_countT, mStarts_s, mEnds_s, mSplit_s, dSl_s, dSl_t]
    obtain ⟨d, hd, hm⟩ := atI_mem (ds := ns.map D.int) h0 (by rw [List.length_map]; exact hk)
    obtain ⟨v, _, rfl⟩ := List.mem_map.mp hm
    unfold dIx
    exact ⟨_, _, rfl, hd, fin_same (hq v)⟩
  · simp only [hk, den, Den.val, sSeq, sNx, sExpr, sRet, sRetN, sIf, sCt, sAsg, sPar, sFor, gNm, gTp, gLen, gsNil, gsCons, gOne, gStar1, gFld, gIx, eC, eVar, e1, e2, aNil, aCons, aStar, eTup, eB, eIf, eAnd, eOr, eNot, tAnd2, tOr2, tNot2, tE, tBl, tSel, oSel, E.isNil, E.many, E.glen, isCmp, eCall, eCm, eMk, eMkV, eAttr_d, eBm, eSl, oPart, eJoin, eChain, eComp, cIt, iOf, iEnum2, iZip2, tYes2, Cn.d, look, setAll, den2, denB, only1, only2, dIs, tyName, List.set_cons_zero, List.set_cons_succ, if_true, if_false, Bool.false_eq_true, List.map_cons, List.map_nil, Bool.not_true, Bool.not_false, true_and, and_true, true_or, or_true, or_false, false_or, and_false, false_and, decide_true, decide_false, String.reduceEq, eq_self, ne_eq, not_true_eq_false, not_false_eq_true, wipeE, List.cons_append, List.nil_append, dEq_ii, dEq_ss, List.length_cons, List.length_nil, Nat.reduceAdd, Nat.reduceSub, List.reduceReplicate, dAdd_ii, dAdd_ss, dAdd_tt, dSub_ii, dMul_ii, dMod_ii, dDiv_ii, dPow_ii, dCmp_ii, dNeg_i, dMx_ii, dMn_ii, dLen1_s, dLen1_t, dLen1_scr, dTuple_t, dStr_i, truth_b, truth_n, truth_i, rowsOf_t, rowsOf_s, rng1_i, rng2_ii, iRange1, iRange2, eLst, newL, kindOf_s, denM_append, denM_extend, denM_pop, denM_join, denM_split, denM_starts, denM_ends, denM_countL, denM_countT, mStarts_s, mEnds_s, mSplit_s, dSl_s, dSl_t]
    exact fin_same (hq 0)
theorem c_pen (h : Γ (.fn "_law_pen") = some F_law_pen) {v : Int} (hq : ∀ p S', S p = none → Sub S S' → Pen S' p 0 → q (.ref p) S') : callW Γ T (n + 1) (.fn "_law_pen") [.int v] S q r := by
  refine call_go h rfl rfl ?_
  unfold F_law_pen e_law_pen
  simp only [den, Den.val, sSeq, sNx, sExpr, sRet, sRetN, sIf, sCt, sAsg, sPar, sFor, gNm, gTp, gLen, gsNil, gsCons, gOne, gStar1, gFld, gIx, eC, eVar, e1, e2, aNil, aCons, aStar, eTup, eB, eIf, eAnd, eOr, eNot, tAnd2, tOr2, tNot2, tE, tBl, tSel, oSel, E.isNil, E.many, E.glen, isCmp, eCall, eCm, eMk, eMkV, eAttr_d, eBm, eSl, oPart, eJoin, eChain, eComp, cIt, iOf, iEnum2, iZip2, tYes2, Cn.d, look, setAll, den2, denB, only1, only2, dIs, tyName, List.set_cons_zero, List.set_cons_succ, if_true, if_false, Bool.false_eq_true, List.map_cons, List.map_nil, Bool.not_true, Bool.not_false, true_and, and_true, true_or, or_true, or_false, false_or, and_false, false_and, decide_true, decide_false, String.reduceEq, eq_self, ne_eq, not_true_eq_false, not_false_eq_true, wipeE, List.cons_append, List.nil_append, dEq_ii, dEq_ss, List.length_cons, List.length_nil, Nat.reduceAdd, Nat.reduceSub, List.reduceReplicate, dAdd_ii, dAdd_ss, dAdd_tt, dSub_ii, dMul_ii, dMod_ii, dDiv_ii, dPow_ii, dCmp_ii, dNeg_i, dMx_ii, dMn_ii, dLen1_s, dLen1_t, dLen1_scr, dTuple_t, dStr_i, truth_b, truth_n, truth_i, rowsOf_t, rowsOf_s, rng1_i, rng2_ii, iRange1, iRange2, eLst, newL, kindOf_s, denM_append, denM_extend, denM_pop, denM_join, denM_split, denM_starts, denM_ends, denM_countL, denM_countT, mStarts_s, mEnds_s, mSplit_s, dSl_s, dSl_t, denB]
  refine ⟨?_, by decide, ?_, fun p hp => ?_⟩
  · exact ⟨by decide, by decide, by decide⟩
  · rw [sizeLine_eq]; decide
  · refine fin_same (hq p _ hp (Sub.new hp) ⟨_, _, _, up_same, ?_, ?_, by decide, by decide⟩)
    · rw [fm (by decide)]; exact Int.emod_nonneg _ (by decide)
    · rw [fm (by decide)]; exact Int.emod_lt_of_pos _ (by decide)
/-- sizes as data -/
def szD (ns : List Int) : D := .tup (ns.map .int)
/-- how many cells -/
def cellsN (nss : List (List Int)) : Int := nss.foldl (fun x ns => x * ns.length) 1
theorem cellsN_snoc {nss : List (List Int)} {ns : List Int} : cellsN (nss ++ [ns]) = cellsN nss * ns.length := by
  unfold cellsN
  rw [List.foldl_append]; rfl
theorem c_drawn (h : Γ (.fn "_law_drawn") = some F_law_drawn) (hd : Γ (.fn "_law_draw") = some F_law_draw) (hs : Γ (.fn "_law_sizes") = some F_law_sizes) {p : Addr} {c most : Int} (hp : Pen S p c) (hc : c < 2 ^ 38) (hm : 1 ≤ most)
    (hq : ∀ (u : Int) (nss : List (List Int)) pl S', 1 ≤ u → u ≤ 60 → nss.length ≤ 5 → (∀ ns ∈ nss, SizesOk u ns) → cellsN nss ≤ most → S pl = none → S' pl = some (.lst (nss.map szD)) → Pen S' p (c + 400) → Off p S S' → q (.tup [.int u, .ref pl]) S') : callW Γ T (n + 3) (.fn "_law_drawn") [.ref p, .int most] S q r := by
  refine call_go h rfl rfl ?_
  unfold F_law_drawn e_law_drawn
  simp (maxSteps := 2000000) only [den, Den.val, sSeq, sNx, sExpr, sRet, sRetN, sIf, sCt, sAsg, sPar, sFor, gNm, gTp, gLen, gsNil, gsCons, gOne, gStar1, gFld, gIx, eC, eVar, e1, e2, aNil, aCons, aStar, eTup, eB, eIf, eAnd, eOr, eNot, tAnd2, tOr2, tNot2, tE, tBl, tSel, oSel, E.isNil, E.many, E.glen, isCmp, eCall, eCm, eMk, eMkV, eAttr_d, eBm, eSl, oPart, eJoin, eChain, eComp, cIt, iOf, iEnum2, iZip2, tYes2, Cn.d, look, setAll, den2, denB, only1, only2, dIs, tyName, List.set_cons_zero, List.set_cons_succ, if_true, if_false, Bool.false_eq_true, List.map_cons, List.map_nil, Bool.not_true, Bool.not_false, true_and, and_true, true_or, or_true, or_false, false_or, and_false, false_and, decide_true, decide_false, String.reduceEq, eq_self, ne_eq, not_true_eq_false, not_false_eq_true, wipeE, List.cons_append, List.nil_append, dEq_ii, dEq_ss, List.length_cons, List.length_nil, Nat.reduceAdd, Nat.reduceSub, List.reduceReplicate, dAdd_ii, dAdd_ss, dAdd_tt, dSub_ii, dMul_ii, dMod_ii, dDiv_ii, dPow_ii, dCmp_ii, dNeg_i, dMx_ii, dMn_ii, dLen1_s, dLen1_t, dLen1_scr, dTuple_t, dStr_i, truth_b, truth_n, truth_i, rowsOf_t, rowsOf_s, rng1_i, rng2_ii, iRange1, iRange2, eLst, newL, kindOf_s, denM_append, denM_extend, denM_pop, denM_join, denM_split, denM_starts, denM_ends, denM_countL, denM_countT, mStarts_s, mEnds_s, mSplit_s, dSl_s, dSl_t]
  refine c_draw hd hp (by omega) (by omega) fun i S1 i0 i1 pen1 off1 => ?_
  refine ⟨by rw [sizeLine_eq]; decide, fun p2 hp2 => ?_⟩
  have np2 := pen1.ne hp2
  refine c_draw hd (pen1.up np2.symm) (by omega) (by omega) fun j S2 j0 j1 pen2 off2 => ?_
  have h2 := off2 _ _ np2 up_same
  obtain ⟨d, hd1, hd2⟩ := atI_mem (ds := [D.int 1, D.int 2, D.int 6, D.int 7, D.int 12, D.int 24, D.int 25, D.int 36, D.int 48, D.int 59, D.int 60, D.int (1 + i)]) j0 j1
  refine ix_lst h2 hd1 ?_
  have hu : ∃ u, d = .int u ∧ 1 ≤ u ∧ u ≤ 60 := by
    simp only [List.mem_cons, List.not_mem_nil, or_false] at hd2
    rcases hd2 with rfl | rfl | rfl | rfl | rfl | rfl | rfl | rfl | rfl | rfl | rfl | rfl <;> exact ⟨_, rfl, by omega, by omega⟩
  obtain ⟨u, rfl, u1, u2⟩ := hu
  refine ⟨Nat.zero_le _, fun pl hpl => ?_⟩
  have npl := pen2.ne hpl
  have off3 : Off p S S2 := off1.trans ((Off.sub (Sub.new hp2)).trans off2)
  have hSpl : S pl = none := off3.free npl hpl
  refine c_draw hd (pen2.up npl.symm) (by omega) (by omega) fun k S3 k0 k1 pen3 off4 => ?_
  have h3 := off4 _ _ npl up_same
  have off5 : Off p S S3 := off3.trans ((Off.sub (Sub.new hpl)).trans off4)
  simp only [den, Den.val, sSeq, sNx, sExpr, sRet, sRetN, sIf, sCt, sAsg, sPar, sFor, gNm, gTp, gLen, gsNil, gsCons, gOne, gStar1, gFld, gIx, eC, eVar, e1, e2, aNil, aCons, aStar, eTup, eB, eIf, eAnd, eOr, eNot, tAnd2, tOr2, tNot2, tE, tBl, tSel, oSel, E.isNil, E.many, E.glen, isCmp, eCall, eCm, eMk, eMkV, eAttr_d, eBm, eSl, oPart, eJoin, eChain, eComp, cIt, iOf, iEnum2, iZip2, tYes2, Cn.d, look, setAll, den2, denB, only1, only2, dIs, tyName, List.set_cons_zero, List.set_cons_succ, if_true, if_false, Bool.false_eq_true, List.map_cons, List.map_nil, Bool.not_true, Bool.not_false, true_and, and_true, true_or, or_true, or_false, false_or, and_false, false_and, decide_true, decide_false, String.reduceEq, eq_self, ne_eq, not_true_eq_false, not_false_eq_true, wipeE, List.cons_append, List.nil_append, dEq_ii, dEq_ss, List.length_cons, List.length_nil, Nat.reduceAdd, Nat.reduceSub, List.reduceReplicate, dAdd_ii, dAdd_ss, dAdd_tt, dSub_ii, dMul_ii, dMod_ii, dDiv_ii, dPow_ii, dCmp_ii, dNeg_i, dMx_ii, dMn_ii, dLen1_s, dLen1_t, dLen1_scr, dTuple_t, dStr_i, truth_b, truth_n, truth_i, rowsOf_t, rowsOf_s, rng1_i, rng2_ii, iRange1, iRange2, eLst, newL, kindOf_s, denM_append, denM_extend, denM_pop, denM_join, denM_split, denM_starts, denM_ends, denM_countL, denM_countT, mStarts_s, mEnds_s, mSplit_s, dSl_s, dSl_t]
  refine ⟨by omega, by omega, ?_⟩
  refine forD_range (fun i e S' => ∃ (nss : List (List Int)) (x y : Option D), (nss.length : Int) ≤ i ∧ (∀ ns ∈ nss, SizesOk u ns) ∧ cellsN nss ≤ most ∧ 0 ≤ cellsN nss ∧ cellsN nss ≤ 4 ^ nss.length ∧ S' pl = some (.lst (nss.map szD)) ∧ Pen S' p (c + 3 + i * 63) ∧ Off p S S' ∧ e = [some (.ref p), some (.int most), some (.int u), x, some (.ref pl), some (.int (cellsN nss)), y]) (fun _ _ _ _ => trivial) _ _ _ _ ?_ ?_ ?_
  · rintro i e S' i0 i1 ⟨nss, x, y, a1, a2, a3, a4, a5, a6, a7, a8, rfl⟩ kk hk
    simp only [den, Den.val, sSeq, sNx, sExpr, sRet, sRetN, sIf, sCt, sAsg, sPar, sFor, gNm, gTp, gLen, gsNil, gsCons, gOne, gStar1, gFld, gIx, eC, eVar, e1, e2, aNil, aCons, aStar, eTup, eB, eIf, eAnd, eOr, eNot, tAnd2, tOr2, tNot2, tE, tBl, tSel, oSel, E.isNil, E.many, E.glen, isCmp, eCall, eCm, eMk, eMkV, eAttr_d, eBm, eSl, oPart, eJoin, eChain, eComp, cIt, iOf, iEnum2, iZip2, tYes2, Cn.d, look, setAll, den2, denB, only1, only2, dIs, tyName, List.set_cons_zero, List.set_cons_succ, if_true, if_false, Bool.false_eq_true, List.map_cons, List.map_nil, Bool.not_true, Bool.not_false, true_and, and_true, true_or, or_true, or_false, false_or, and_false, false_and, decide_true, decide_false, String.reduceEq, eq_self, ne_eq, not_true_eq_false, not_false_eq_true, wipeE, List.cons_append, List.nil_append, dEq_ii, dEq_ss, List.length_cons, List.length_nil, Nat.reduceAdd, Nat.reduceSub, List.reduceReplicate, dAdd_ii, dAdd_ss, dAdd_tt, dSub_ii, dMul_ii, dMod_ii, dDiv_ii, dPow_ii, dCmp_ii, dNeg_i, dMx_ii, dMn_ii, dLen1_s, dLen1_t, dLen1_scr, dTuple_t, dStr_i, truth_b, truth_n, truth_i, rowsOf_t, rowsOf_s, rng1_i, rng2_ii, iRange1, iRange2, eLst, newL, kindOf_s, denM_append, denM_extend, denM_pop, denM_join, denM_split, denM_starts, denM_ends, denM_countL, denM_countT, mStarts_s, mEnds_s, mSplit_s, dSl_s, dSl_t]
    refine c_sizes hs hd a7 (by omega) ⟨u1, u2⟩ fun ns S4 ok pen4 off6 => ?_
    have h4 := off6 _ _ npl a6
    have hl := ok.len
    simp only [den, Den.val, sSeq, sNx, sExpr, sRet, sRetN, sIf, sCt, sAsg, sPar, sFor, gNm, gTp, gLen, gsNil, gsCons, gOne, gStar1, gFld, gIx, eC, eVar, e1, e2, aNil, aCons, aStar, eTup, eB, eIf, eAnd, eOr, eNot, tAnd2, tOr2, tNot2, tE, tBl, tSel, oSel, E.isNil, E.many, E.glen, isCmp, eCall, eCm, eMk, eMkV, eAttr_d, eBm, eSl, oPart, eJoin, eChain, eComp, cIt, iOf, iEnum2, iZip2, tYes2, Cn.d, look, setAll, den2, denB, only1, only2, dIs, tyName, List.set_cons_zero, List.set_cons_succ, if_true, if_false, Bool.false_eq_true, List.map_cons, List.map_nil, Bool.not_true, Bool.not_false, true_and, and_true, true_or, or_true, or_false, false_or, and_false, false_and, decide_true, decide_false, String.reduceEq, eq_self, ne_eq, not_true_eq_false, not_false_eq_true, wipeE, List.cons_append, List.nil_append, dEq_ii, dEq_ss, List.length_cons, List.length_nil, Nat.reduceAdd, Nat.reduceSub, List.reduceReplicate, dAdd_ii, dAdd_ss, dAdd_tt, dSub_ii, dMul_ii, dMod_ii, dDiv_ii, dPow_ii, dCmp_ii, dNeg_i, dMx_ii, dMn_ii, dLen1_s, dLen1_t, dLen1_scr, dTuple_t, dStr_i, truth_b, truth_n, truth_i, rowsOf_t, rowsOf_s, rng1_i, rng2_ii, iRange1, iRange2, eLst, newL, kindOf_s, denM_append, denM_extend, denM_pop, denM_join, denM_split, denM_starts, denM_ends, denM_countL, denM_countT, mStarts_s, mEnds_s, mSplit_s, dSl_s, dSl_t, List.length_map]
    have m4 : (4 : Int) ^ nss.length ≤ 4 ^ 5 := by
      have : nss.length ≤ 5 := by omega
      exact_mod_cast Nat.pow_le_pow_right (by decide) this
    have m5 : cellsN nss * (ns.length : Int) ≤ cellsN nss * 4 := Int.mul_le_mul_of_nonneg_left (by omega) a4
    have m6 : 0 ≤ cellsN nss * (ns.length : Int) := Int.mul_nonneg a4 (by omega)
    refine ⟨mul_small (by omega), ?_⟩
    by_cases hle : cellsN nss * (ns.length : Int) ≤ most
    · simp only [hle, den, Den.val, sSeq, sNx, sExpr, sRet, sRetN, sIf, sCt, sAsg, sPar, sFor, gNm, gTp, gLen, gsNil, gsCons, gOne, gStar1, gFld, gIx, eC, eVar, e1, e2, aNil, aCons, aStar, eTup, eB, eIf, eAnd, eOr, eNot, tAnd2, tOr2, tNot2, tE, tBl, tSel, oSel, E.isNil, E.many, E.glen, isCmp, eCall, eCm, eMk, eMkV, eAttr_d, eBm, eSl, oPart, eJoin, eChain, eComp, cIt, iOf, iEnum2, iZip2, tYes2, Cn.d, look, setAll, den2, denB, only1, only2, dIs, tyName, List.set_cons_zero, List.set_cons_succ, if_true, if_false, Bool.false_eq_true, List.map_cons, List.map_nil, Bool.not_true, Bool.not_false, true_and, and_true, true_or, or_true, or_false, false_or, and_false, false_and, decide_true, decide_false, String.reduceEq, eq_self, ne_eq, not_true_eq_false, not_false_eq_true, wipeE, List.cons_append, List.nil_append, dEq_ii, dEq_ss, List.length_cons, List.length_nil, Nat.reduceAdd, Nat.reduceSub, List.reduceReplicate, dAdd_ii, dAdd_ss, dAdd_tt, dSub_ii, dMul_ii, dMod_ii, dDiv_ii, dPow_ii, dCmp_ii, dNeg_i, dMx_ii, dMn_ii, dLen1_s, dLen1_t, dLen1_scr, dTuple_t, dStr_i, truth_b, truth_n, truth_i, rowsOf_t, rowsOf_s, rng1_i, rng2_ii, iRange1, iRange2, eLst, newL, kindOf_s, denM_append, denM_extend, denM_pop, denM_join, denM_split, denM_starts, denM_ends, denM_countL, denM_countT, mStarts_s, mEnds_s, mSplit_s, dSl_s, dSl_t, kindOf_l h4]
      refine append_lst h4 (by rw [List.length_map]; have := sl60; omega) ?_
      refine ⟨mul_small (by omega), hk _ _ ⟨nss ++ [ns], _, _, ?_, ?_, ?_, ?_, ?_, ?_, (pen4.up npl.symm).mono (by omega), (a8.trans off6).put hSpl, by rw [cellsN_snoc]⟩⟩
      · rw [List.length_append]; simp; omega
      · intro z hz
        rcases List.mem_append.mp hz with hz | hz
        · exact a2 z hz
        · rw [List.mem_singleton.mp hz]; exact ok
      · rw [cellsN_snoc]; exact hle
      · rw [cellsN_snoc]; exact m6
      · rw [cellsN_snoc, List.length_append, List.length_singleton, Int.pow_succ]; omega
      · rw [up_same, List.map_append]; rfl
    · simp only [hle, den, Den.val, sSeq, sNx, sExpr, sRet, sRetN, sIf, sCt, sAsg, sPar, sFor, gNm, gTp, gLen, gsNil, gsCons, gOne, gStar1, gFld, gIx, eC, eVar, e1, e2, aNil, aCons, aStar, eTup, eB, eIf, eAnd, eOr, eNot, tAnd2, tOr2, tNot2, tE, tBl, tSel, oSel, E.isNil, E.many, E.glen, isCmp, eCall, eCm, eMk, eMkV, eAttr_d, eBm, eSl, oPart, eJoin, eChain, eComp, cIt, iOf, iEnum2, iZip2, tYes2, Cn.d, look, setAll, den2, denB, only1, only2, dIs, tyName, List.set_cons_zero, List.set_cons_succ, if_true, if_false, Bool.false_eq_true, List.map_cons, List.map_nil, Bool.not_true, Bool.not_false, true_and, and_true, true_or, or_true, or_false, false_or, and_false, false_and, decide_true, decide_false, String.reduceEq, eq_self, ne_eq, not_true_eq_false, not_false_eq_true, wipeE, List.cons_append, List.nil_append, dEq_ii, dEq_ss, List.length_cons, List.length_nil, Nat.reduceAdd, Nat.reduceSub, List.reduceReplicate, dAdd_ii, dAdd_ss, dAdd_tt, dSub_ii, dMul_ii, dMod_ii, dDiv_ii, dPow_ii, dCmp_ii, dNeg_i, dMx_ii, dMn_ii, dLen1_s, dLen1_t, dLen1_scr, dTuple_t, dStr_i, truth_b, truth_n, truth_i, rowsOf_t, rowsOf_s, rng1_i, rng2_ii, iRange1, iRange2, eLst, newL, kindOf_s, denM_append, denM_extend, denM_pop, denM_join, denM_split, denM_starts, denM_ends, denM_countL, denM_countT, mStarts_s, mEnds_s, mSplit_s, dSl_s, dSl_t]
      exact hk _ _ ⟨nss, _, _, by omega, a2, a3, a4, a5, h4, pen4.mono (by omega), a8.trans off6, rfl⟩
  · rintro e S' ⟨nss, x, y, a1, a2, a3, a4, a5, a6, a7, a8, rfl⟩
    simp only [den, Den.val, sSeq, sNx, sExpr, sRet, sRetN, sIf, sCt, sAsg, sPar, sFor, gNm, gTp, gLen, gsNil, gsCons, gOne, gStar1, gFld, gIx, eC, eVar, e1, e2, aNil, aCons, aStar, eTup, eB, eIf, eAnd, eOr, eNot, tAnd2, tOr2, tNot2, tE, tBl, tSel, oSel, E.isNil, E.many, E.glen, isCmp, eCall, eCm, eMk, eMkV, eAttr_d, eBm, eSl, oPart, eJoin, eChain, eComp, cIt, iOf, iEnum2, iZip2, tYes2, Cn.d, look, setAll, den2, denB, only1, only2, dIs, tyName, List.set_cons_zero, List.set_cons_succ, if_true, if_false, Bool.false_eq_true, List.map_cons, List.map_nil, Bool.not_true, Bool.not_false, true_and, and_true, true_or, or_true, or_false, false_or, and_false, false_and, decide_true, decide_false, String.reduceEq, eq_self, ne_eq, not_true_eq_false, not_false_eq_true, wipeE, List.cons_append, List.nil_append, dEq_ii, dEq_ss, List.length_cons, List.length_nil, Nat.reduceAdd, Nat.reduceSub, List.reduceReplicate, dAdd_ii, dAdd_ss, dAdd_tt, dSub_ii, dMul_ii, dMod_ii, dDiv_ii, dPow_ii, dCmp_ii, dNeg_i, dMx_ii, dMn_ii, dLen1_s, dLen1_t, dLen1_scr, dTuple_t, dStr_i, truth_b, truth_n, truth_i, rowsOf_t, rowsOf_s, rng1_i, rng2_ii, iRange1, iRange2, eLst, newL, kindOf_s, denM_append, denM_extend, denM_pop, denM_join, denM_split, denM_starts, denM_ends, denM_countL, denM_countT, mStarts_s, mEnds_s, mSplit_s, dSl_s, dSl_t]
    refine ⟨by rw [sizeLine_eq]; decide, fin_same (hq u nss pl S' u1 u2 (by omega) a2 a3 hSpl a6 (a7.mono (by omega)) a8)⟩
  · exact ⟨[], _, _, by simp, by simp, hm, by decide, by decide, h3, pen3.mono (by omega), off5, rfl⟩
end
end C2

/-! The unit of sizes by trying; data of ints. -/
namespace C2
open PySem PySem.Spec PyProof.Rows L2
theorem pyAll_ints {S : Sto} {m : Nat} : ∀ {ns : List Int}, pyAll (py S m) (ns.map .int) = some (ns.map .int)
  | [] => rfl
  | i :: ns => by
    rw [List.map_cons, pyAll, pyAll_ints]
    cases m <;> rfl
theorem py_tints {S : Sto} {m : Nat} {ns : List Int} : py S (m + 1) (.tup (ns.map .int)) = some (.tuple (ns.map .int)) := by
  rw [py, pyAll_ints]
theorem py_lints {S : Sto} {m : Nat} {a : Addr} {ns : List Int} (h : S a = some (.lst (ns.map .int))) : py S (m + 1) (.ref a) = some (.list (ns.map .int)) := by
  simp only [py, h, pyAll_ints]
theorem eq_lints_nil {S : Sto} {a b : Addr} {ns : List Int} {q : DK} (h1 : S a = some (.lst (ns.map .int))) (h2 : S b = some (.lst [])) (hq : q (.bl (decide (ns = []))) S) : dEq false (.ref a) (.ref b) S q := by
  have e1 : py S 8 (.ref a) = some (.list (ns.map .int)) := py_lints h1
  have e2 : py S 8 (.ref b) = some (.list []) := py_lints (ns := []) h2
  have e3 : PyData.eqv (.list (ns.map .int)) (.list []) = decide (ns = []) := by
    cases ns <;> simp [PyData.eqv, PyData.eqvAll]
  simp only [dEq, strEq, eqD, e1, e2, e3]
  simpa using hq
theorem dvd_fold {d : Int} : ∀ {ns : List Int} {a : Int}, d ∣ ns.foldl (fun x y => ((Int.gcd x y : Nat) : Int)) a ↔ d ∣ a ∧ ∀ x ∈ ns, d ∣ x
  | [], a => by simp
  | i :: ns, a => by
    rw [List.foldl_cons, dvd_fold]
    constructor
    · intro ⟨h1, h2⟩
      refine ⟨Int.dvd_trans h1 (Int.gcd_dvd_left ..), fun x hx => ?_⟩
      rcases List.mem_cons.mp hx with rfl | hx
      · exact Int.dvd_trans h1 (Int.gcd_dvd_right ..)
      · exact h2 x hx
    · intro ⟨h1, h2⟩
      exact ⟨Int.dvd_coe_gcd h1 (h2 i List.mem_cons_self), fun x hx => h2 x (List.mem_cons_of_mem _ hx)⟩
theorem dvd_gcdL {d : Int} {ns : List Int} : d ∣ gcdL ns ↔ ∀ x ∈ ns, d ∣ x := by
  unfold gcdL
  rw [dvd_fold]
  simp
theorem SizesOk.gcd {u : Int} {ns : List Int} (ok : SizesOk u ns) : 1 ≤ gcdL ns ∧ gcdL ns ≤ u := by
  have h0 : 0 ≤ gcdL ns := gcd_fold (fun i hi => by have := ok.pos i hi; omega) 0 (Int.le_refl _)
  obtain ⟨x, hx⟩ : ∃ x, x ∈ ns := by
    have := ok.len
    cases ns with
    | nil => simp at this
    | cons x r => exact ⟨x, List.mem_cons_self⟩
  have h1 := dvd_gcdL.mp (Int.dvd_refl (gcdL ns)) x hx
  have h2 := ok.pos x hx
  have h3 := Int.le_of_dvd (by omega) h1
  refine ⟨?_, by omega⟩
  by_cases z : gcdL ns = 0
  · rw [z] at h1
    have := Int.zero_dvd.mp h1
    omega
  · omega
theorem intsL_split {lo : Int} {a b : Nat} : intsL lo (a + b) = intsL lo a ++ intsL (lo + a) b := by
  unfold intsL
  rw [List.range_add, List.map_append, List.map_map]
  congr 1
  apply List.map_congr_left
  intro i _
  simp; omega
/-- the last of those that divide all -/
theorem last_div {P : Int → Bool} {g : Int} {u : Nat} (g1 : 1 ≤ g) (g2 : g ≤ u) (hg : P g = true) (hn : ∀ x, g < x → P x = false) : ∃ A, (intsL 1 u).filter P = A ++ [g] := by
  obtain ⟨k, rfl⟩ : ∃ k : Nat, u = (g - 1).toNat + (1 + k) := ⟨u - g.toNat, by omega⟩
  refine ⟨(intsL 1 (g - 1).toNat).filter P, ?_⟩
  rw [intsL_split, List.filter_append, intsL_split, List.filter_append]
  have e1 : 1 + (((g - 1).toNat : Nat) : Int) = g := by omega
  rw [e1]
  have e2 : intsL g 1 = [g] := by simp [intsL]
  rw [e2, List.filter_cons, hg, if_pos rfl]
  have e3 : (intsL (g + (1 : Nat)) k).filter P = [] := by
    rw [List.filter_eq_nil_iff]
    intro x hx
    rw [mem_intsL] at hx
    rw [hn x (by omega)]
    decide
  rw [e3]
  rfl
theorem atI_last {α : Type} {A : List α} {g : α} : atI (A ++ [g]) (-1) = some g := by
  unfold atI ixN
  rw [if_neg (by decide), if_pos (by simp; omega)]
  show (A ++ [g])[_]? = _
  have : ((-1 : Int) + ((A ++ [g]).length : Nat)).toNat = A.length := by simp; omega
  rw [this]
  simp
section
variable {Γ : Tbl} {T : CT} {n : Nat} {S : Sto} {q : DK} {r : Exc → Sto → Prop}
theorem c_unit (h : Γ (.fn "_law_unit") = some F_law_unit) {u : Int} {ns : List Int} (hu : 1 ≤ u ∧ u ≤ 60) (ok : SizesOk u ns) (hq : ∀ S', Sub S S' → q (.int (u / gcdL ns)) S') : callW Γ T (n + 1) (.fn "_law_unit") [.int u, szD ns] S q r := by
  refine call_go h rfl rfl ?_
  unfold F_law_unit e_law_unit szD
  simp (maxSteps := 2000000) only [den, Den.val, sSeq, sNx, sExpr, sRet, sRetN, sIf, sCt, sAsg, sPar, sFor, gNm, gTp, gLen, gsNil, gsCons, gOne, gStar1, gFld, gIx, eC, eVar, e1, e2, aNil, aCons, aStar, eTup, eB, eIf, eAnd, eOr, eNot, tAnd2, tOr2, tNot2, tE, tBl, tSel, oSel, E.isNil, E.many, E.glen, isCmp, eCall, eCm, eMk, eMkV, eAttr_d, eBm, eSl, oPart, eJoin, eChain, eComp, cIt, iOf, iEnum2, iZip2, tYes2, Cn.d, look, setAll, den2, denB, only1, only2, dIs, tyName, List.set_cons_zero, List.set_cons_succ, if_true, if_false, Bool.false_eq_true, List.map_cons, List.map_nil, Bool.not_true, Bool.not_false, true_and, and_true, true_or, or_true, or_false, false_or, and_false, false_and, decide_true, decide_false, String.reduceEq, eq_self, ne_eq, not_true_eq_false, not_false_eq_true, wipeE, List.cons_append, List.nil_append, dEq_ii, dEq_ss, List.length_cons, List.length_nil, Nat.reduceAdd, Nat.reduceSub, List.reduceReplicate, dAdd_ii, dAdd_ss, dAdd_tt, dSub_ii, dMul_ii, dMod_ii, dDiv_ii, dPow_ii, dCmp_ii, dNeg_i, dMx_ii, dMn_ii, dLen1_s, dLen1_t, dLen1_scr, dTuple_t, dStr_i, truth_b, truth_n, truth_i, rowsOf_t, rowsOf_s, rng1_i, rng2_ii, iRange1, iRange2, eLst, newL, kindOf_s, denM_append, denM_extend, denM_pop, denM_join, denM_split, denM_starts, denM_ends, denM_countL, denM_countT, mStarts_s, mEnds_s, mSplit_s, dSl_s, dSl_t]
  refine ⟨by omega, by omega, by omega, by omega, ?_⟩
  rw [rows_intsL]
  have sl := sl60
  have l4 := ok.len
  refine comp_filter (S := S) (p := onI fun i => decide ((ns.filter fun x => decide (x % i ≠ 0)) = [])) (f := fstD) (fun _ _ => trivial) Sub.rfl' (fun row hm => ?_) ?_ fun S' s p2 hp2 => ?_
  · obtain ⟨i, hi, rfl⟩ := List.mem_map.mp hm
    have hi2 := mem_intsL.mp hi
    refine ⟨_, rfl, fun S' k s hk => ?_, fun _ S' k s hk => ?_⟩
    · simp only [den, Den.val, sSeq, sNx, sExpr, sRet, sRetN, sIf, sCt, sAsg, sPar, sFor, gNm, gTp, gLen, gsNil, gsCons, gOne, gStar1, gFld, gIx, eC, eVar, e1, e2, aNil, aCons, aStar, eTup, eB, eIf, eAnd, eOr, eNot, tAnd2, tOr2, tNot2, tE, tBl, tSel, oSel, E.isNil, E.many, E.glen, isCmp, eCall, eCm, eMk, eMkV, eAttr_d, eBm, eSl, oPart, eJoin, eChain, eComp, cIt, iOf, iEnum2, iZip2, tYes2, Cn.d, look, setAll, den2, denB, only1, only2, dIs, tyName, List.set_cons_zero, List.set_cons_succ, if_true, if_false, Bool.false_eq_true, List.map_cons, List.map_nil, Bool.not_true, Bool.not_false, true_and, and_true, true_or, or_true, or_false, false_or, and_false, false_and, decide_true, decide_false, String.reduceEq, eq_self, ne_eq, not_true_eq_false, not_false_eq_true, wipeE, List.cons_append, List.nil_append, dEq_ii, dEq_ss, List.length_cons, List.length_nil, Nat.reduceAdd, Nat.reduceSub, List.reduceReplicate, dAdd_ii, dAdd_ss, dAdd_tt, dSub_ii, dMul_ii, dMod_ii, dDiv_ii, dPow_ii, dCmp_ii, dNeg_i, dMx_ii, dMn_ii, dLen1_s, dLen1_t, dLen1_scr, dTuple_t, dStr_i, truth_b, truth_n, truth_i, rowsOf_t, rowsOf_s, rng1_i, rng2_ii, iRange1, iRange2, eLst, newL, kindOf_s, denM_append, denM_extend, denM_pop, denM_join, denM_split, denM_starts, denM_ends, denM_countL, denM_countT, mStarts_s, mEnds_s, mSplit_s, dSl_s, dSl_t, List.map_map]
      refine comp_filter (S := S') (p := onI fun x => decide (x % i ≠ 0)) (f := fun _ => .int 1) (fun _ _ => trivial) Sub.rfl' (fun row hm => ?_) ?_ fun S1 s1 p3 hp3 => ?_
      · obtain ⟨x, hx, rfl⟩ := List.mem_map.mp hm
        refine ⟨_, rfl, fun S' k s hk => ?_, fun _ S' k s hk => ?_⟩
        · simp only [den, Den.val, sSeq, sNx, sExpr, sRet, sRetN, sIf, sCt, sAsg, sPar, sFor, gNm, gTp, gLen, gsNil, gsCons, gOne, gStar1, gFld, gIx, eC, eVar, e1, e2, aNil, aCons, aStar, eTup, eB, eIf, eAnd, eOr, eNot, tAnd2, tOr2, tNot2, tE, tBl, tSel, oSel, E.isNil, E.many, E.glen, isCmp, eCall, eCm, eMk, eMkV, eAttr_d, eBm, eSl, oPart, eJoin, eChain, eComp, cIt, iOf, iEnum2, iZip2, tYes2, Cn.d, look, setAll, den2, denB, only1, only2, dIs, tyName, List.set_cons_zero, List.set_cons_succ, if_true, if_false, Bool.false_eq_true, List.map_cons, List.map_nil, Bool.not_true, Bool.not_false, true_and, and_true, true_or, or_true, or_false, false_or, and_false, false_and, decide_true, decide_false, String.reduceEq, eq_self, ne_eq, not_true_eq_false, not_false_eq_true, wipeE, List.cons_append, List.nil_append, dEq_ii, dEq_ss, List.length_cons, List.length_nil, Nat.reduceAdd, Nat.reduceSub, List.reduceReplicate, dAdd_ii, dAdd_ss, dAdd_tt, dSub_ii, dMul_ii, dMod_ii, dDiv_ii, dPow_ii, dCmp_ii, dNeg_i, dMx_ii, dMn_ii, dLen1_s, dLen1_t, dLen1_scr, dTuple_t, dStr_i, truth_b, truth_n, truth_i, rowsOf_t, rowsOf_s, rng1_i, rng2_ii, iRange1, iRange2, eLst, newL, kindOf_s, denM_append, denM_extend, denM_pop, denM_join, denM_split, denM_starts, denM_ends, denM_countL, denM_countT, mStarts_s, mEnds_s, mSplit_s, dSl_s, dSl_t]
          refine ⟨by omega, ?_⟩
          rw [fm (by omega)]
          have := hk S' Sub.rfl'
          simpa [onI] using this
        · simp only [den, Den.val, sSeq, sNx, sExpr, sRet, sRetN, sIf, sCt, sAsg, sPar, sFor, gNm, gTp, gLen, gsNil, gsCons, gOne, gStar1, gFld, gIx, eC, eVar, e1, e2, aNil, aCons, aStar, eTup, eB, eIf, eAnd, eOr, eNot, tAnd2, tOr2, tNot2, tE, tBl, tSel, oSel, E.isNil, E.many, E.glen, isCmp, eCall, eCm, eMk, eMkV, eAttr_d, eBm, eSl, oPart, eJoin, eChain, eComp, cIt, iOf, iEnum2, iZip2, tYes2, Cn.d, look, setAll, den2, denB, only1, only2, dIs, tyName, List.set_cons_zero, List.set_cons_succ, if_true, if_false, Bool.false_eq_true, List.map_cons, List.map_nil, Bool.not_true, Bool.not_false, true_and, and_true, true_or, or_true, or_false, false_or, and_false, false_and, decide_true, decide_false, String.reduceEq, eq_self, ne_eq, not_true_eq_false, not_false_eq_true, wipeE, List.cons_append, List.nil_append, dEq_ii, dEq_ss, List.length_cons, List.length_nil, Nat.reduceAdd, Nat.reduceSub, List.reduceReplicate, dAdd_ii, dAdd_ss, dAdd_tt, dSub_ii, dMul_ii, dMod_ii, dDiv_ii, dPow_ii, dCmp_ii, dNeg_i, dMx_ii, dMn_ii, dLen1_s, dLen1_t, dLen1_scr, dTuple_t, dStr_i, truth_b, truth_n, truth_i, rowsOf_t, rowsOf_s, rng1_i, rng2_ii, iRange1, iRange2, eLst, newL, kindOf_s, denM_append, denM_extend, denM_pop, denM_join, denM_split, denM_starts, denM_ends, denM_countL, denM_countT, mStarts_s, mEnds_s, mSplit_s, dSl_s, dSl_t]
          exact hk S' Sub.rfl'
      · simp only [List.length_map, List.length_nil]; omega
      · refine ⟨Nat.zero_le _, fun p4 hp4 => ?_⟩
        have np : p3 ≠ p4 := fun z => by rw [← z, up_same] at hp4; cases hp4
        refine eq_lints_nil (ns := (ns.filter fun x => decide (x % i ≠ 0)).map fun _ => 1) ?_ up_same ?_
        · rw [up_ne np, up_same, List.nil_append]
          congr 2
          rw [show (List.map ((fun d => [d]) ∘ D.int) ns) = ns.map fun x => [D.int x] from rfl, List.filter_map, List.map_map, List.map_map]
          rfl
        · simp only [den, Den.val, sSeq, sNx, sExpr, sRet, sRetN, sIf, sCt, sAsg, sPar, sFor, gNm, gTp, gLen, gsNil, gsCons, gOne, gStar1, gFld, gIx, eC, eVar, e1, e2, aNil, aCons, aStar, eTup, eB, eIf, eAnd, eOr, eNot, tAnd2, tOr2, tNot2, tE, tBl, tSel, oSel, E.isNil, E.many, E.glen, isCmp, eCall, eCm, eMk, eMkV, eAttr_d, eBm, eSl, oPart, eJoin, eChain, eComp, cIt, iOf, iEnum2, iZip2, tYes2, Cn.d, look, setAll, den2, denB, only1, only2, dIs, tyName, List.set_cons_zero, List.set_cons_succ, if_true, if_false, Bool.false_eq_true, List.map_cons, List.map_nil, Bool.not_true, Bool.not_false, true_and, and_true, true_or, or_true, or_false, false_or, and_false, false_and, decide_true, decide_false, String.reduceEq, eq_self, ne_eq, not_true_eq_false, not_false_eq_true, wipeE, List.cons_append, List.nil_append, dEq_ii, dEq_ss, List.length_cons, List.length_nil, Nat.reduceAdd, Nat.reduceSub, List.reduceReplicate, dAdd_ii, dAdd_ss, dAdd_tt, dSub_ii, dMul_ii, dMod_ii, dDiv_ii, dPow_ii, dCmp_ii, dNeg_i, dMx_ii, dMn_ii, dLen1_s, dLen1_t, dLen1_scr, dTuple_t, dStr_i, truth_b, truth_n, truth_i, rowsOf_t, rowsOf_s, rng1_i, rng2_ii, iRange1, iRange2, eLst, newL, kindOf_s, denM_append, denM_extend, denM_pop, denM_join, denM_split, denM_starts, denM_ends, denM_countL, denM_countT, mStarts_s, mEnds_s, mSplit_s, dSl_s, dSl_t, List.map_eq_nil_iff]
          exact hk _ ((s1.trans (Sub.new hp3)).trans (Sub.new hp4))
    · simp only [den, Den.val, sSeq, sNx, sExpr, sRet, sRetN, sIf, sCt, sAsg, sPar, sFor, gNm, gTp, gLen, gsNil, gsCons, gOne, gStar1, gFld, gIx, eC, eVar, e1, e2, aNil, aCons, aStar, eTup, eB, eIf, eAnd, eOr, eNot, tAnd2, tOr2, tNot2, tE, tBl, tSel, oSel, E.isNil, E.many, E.glen, isCmp, eCall, eCm, eMk, eMkV, eAttr_d, eBm, eSl, oPart, eJoin, eChain, eComp, cIt, iOf, iEnum2, iZip2, tYes2, Cn.d, look, setAll, den2, denB, only1, only2, dIs, tyName, List.set_cons_zero, List.set_cons_succ, if_true, if_false, Bool.false_eq_true, List.map_cons, List.map_nil, Bool.not_true, Bool.not_false, true_and, and_true, true_or, or_true, or_false, false_or, and_false, false_and, decide_true, decide_false, String.reduceEq, eq_self, ne_eq, not_true_eq_false, not_false_eq_true, wipeE, List.cons_append, List.nil_append, dEq_ii, dEq_ss, List.length_cons, List.length_nil, Nat.reduceAdd, Nat.reduceSub, List.reduceReplicate, dAdd_ii, dAdd_ss, dAdd_tt, dSub_ii, dMul_ii, dMod_ii, dDiv_ii, dPow_ii, dCmp_ii, dNeg_i, dMx_ii, dMn_ii, dLen1_s, dLen1_t, dLen1_scr, dTuple_t, dStr_i, truth_b, truth_n, truth_i, rowsOf_t, rowsOf_s, rng1_i, rng2_ii, iRange1, iRange2, eLst, newL, kindOf_s, denM_append, denM_extend, denM_pop, denM_join, denM_split, denM_starts, denM_ends, denM_countL, denM_countT, mStarts_s, mEnds_s, mSplit_s, dSl_s, dSl_t]
      exact hk S' Sub.rfl'
  · simp only [List.length_map, len_intsL, List.length_nil]
    omega
  rw [filt_ints, List.nil_append]
  have hP : ∀ i : Int, 1 ≤ i → ((ns.filter fun x => decide (x % i ≠ 0)) = [] ↔ i ∣ gcdL ns) := by
    intro i hi
    rw [dvd_gcdL, List.filter_eq_nil_iff]
    constructor
    · intro z x hx
      have := z x hx
      simp at this
      exact Int.dvd_of_emod_eq_zero this
    · intro z x hx
      have := Int.emod_eq_zero_of_dvd (z x hx)
      simp [this]
  obtain ⟨g1, g2⟩ := ok.gcd
  obtain ⟨A, hA⟩ := last_div (P := fun i => decide ((ns.filter fun x => decide (x % i ≠ 0)) = [])) (u := (u + 1 - 1).toNat) g1 (by omega) (by simp only [decide_eq_true_eq]; exact (hP _ g1).mpr (Int.dvd_refl _)) (fun x hx => by
    rw [decide_eq_false_iff_not]
    intro z
    have := Int.le_of_dvd (by omega) ((hP x (by omega)).mp z)
    omega)
  rw [hA]
  refine ix_lst up_same (by rw [List.map_append]; exact atI_last) ?_
  simp only [den, Den.val, sSeq, sNx, sExpr, sRet, sRetN, sIf, sCt, sAsg, sPar, sFor, gNm, gTp, gLen, gsNil, gsCons, gOne, gStar1, gFld, gIx, eC, eVar, e1, e2, aNil, aCons, aStar, eTup, eB, eIf, eAnd, eOr, eNot, tAnd2, tOr2, tNot2, tE, tBl, tSel, oSel, E.isNil, E.many, E.glen, isCmp, eCall, eCm, eMk, eMkV, eAttr_d, eBm, eSl, oPart, eJoin, eChain, eComp, cIt, iOf, iEnum2, iZip2, tYes2, Cn.d, look, setAll, den2, denB, only1, only2, dIs, tyName, List.set_cons_zero, List.set_cons_succ, if_true, if_false, Bool.false_eq_true, List.map_cons, List.map_nil, Bool.not_true, Bool.not_false, true_and, and_true, true_or, or_true, or_false, false_or, and_false, false_and, decide_true, decide_false, String.reduceEq, eq_self, ne_eq, not_true_eq_false, not_false_eq_true, wipeE, List.cons_append, List.nil_append, dEq_ii, dEq_ss, List.length_cons, List.length_nil, Nat.reduceAdd, Nat.reduceSub, List.reduceReplicate, dAdd_ii, dAdd_ss, dAdd_tt, dSub_ii, dMul_ii, dMod_ii, dDiv_ii, dPow_ii, dCmp_ii, dNeg_i, dMx_ii, dMn_ii, dLen1_s, dLen1_t, dLen1_scr, dTuple_t, dStr_i, truth_b, truth_n, truth_i, rowsOf_t, rowsOf_s, rng1_i, rng2_ii, iRange1, iRange2, eLst, newL, kindOf_s, denM_append, denM_extend, denM_pop, denM_join, denM_split, denM_starts, denM_ends, denM_countL, denM_countT, mStarts_s, mEnds_s, mSplit_s, dSl_s, dSl_t]
  refine ⟨div_small (by omega), fin_same ?_⟩
  rw [fd (by omega)]
  exact hq _ (s.trans (Sub.new hp2))
end
end C2

/-! Numbers of words, texts of plans. -/
namespace C2
open PySem PySem.Spec PyProof.Rows L2 TL
def numS (i : Int) : Str := ((toString i : String) : Str)
theorem num_in {P : Int → Prop} (h : ∀ i ∈ intsL 1 60, P i) {i : Int} (h1 : 1 ≤ i ∧ i ≤ 60) : P i := h i (mem_intsL.mpr (by omega))
theorem num_int {i : Int} (h : 1 ≤ i ∧ i ≤ 60) : PySem.intText? (numS i) = some i := num_in (P := fun i => PySem.intText? (numS i) = some i) (by decide +kernel) h
theorem num_len {i : Int} (h : 1 ≤ i ∧ i ≤ 60) : (numS i).length ≤ 2 ∧ 1 ≤ (numS i).length := num_in (P := fun i => (numS i).length ≤ 2 ∧ 1 ≤ (numS i).length) (by decide +kernel) h
theorem num_digits {i : Int} (h : 1 ≤ i ∧ i ≤ 60) : ∀ c ∈ (numS i).cps.toList, c ∈ (Str.ofString "0123456789").cps.toList := num_in (P := fun i => ∀ c ∈ (numS i).cps.toList, c ∈ (Str.ofString "0123456789").cps.toList) (by decide +kernel) h
theorem num_first {i : Int} (h : 1 ≤ i ∧ i ≤ 60) : ∃ c, atI (numS i).cps.toList 0 = some c ∧ (⟨#[c]⟩ : Str) ≠ Str.ofString "0" := by
  have := num_in (P := fun i => (match atI (numS i).cps.toList 0 with | some c => decide ((⟨#[c]⟩ : Str) ≠ Str.ofString "0") | none => false) = true) (by decide +kernel) h
  split at this
  · rename_i c e; exact ⟨c, e, by simpa using this⟩
  · cases this
theorem num_log {i : Int} (h : 1 ≤ i ∧ i ≤ 60) : i.natAbs.log2 < 1920 := num_in (P := fun i => i.natAbs.log2 < 1920) (by decide +kernel) h
theorem all_true {S : Sto} {a : Addr} {ds : List D} {q : DK} (h : S a = some (.lst ds)) (h1 : ∀ d ∈ ds, d = .bl true) (hq : q (.bl true) S) : dAll (.ref a) S q := by
  have e : ds = (List.replicate ds.length true).map .bl := by
    rw [List.map_replicate]
    exact List.eq_replicate_iff.mpr ⟨rfl, h1⟩
  refine ⟨List.replicate ds.length true, by simp only [lstI, h]; exact congrArg some e, ?_⟩
  have : (List.replicate ds.length true).all id = true := by simp
  rw [this]; exact hq
section
variable {Γ : Tbl} {T : CT} {n : Nat} {S : Sto} {q : DK} {r : Exc → Sto → Prop}
theorem c_number_in (h : Γ (.fn "number_in") = some F_number_in) {i : Int} (hi : 1 ≤ i ∧ i ≤ 60) (hq : ∀ S', Sub S S' → q (.int i) S') : callW Γ T (n + 1) (.fn "number_in") [.str (numS i)] S q r := by
  refine call_go h rfl rfl ?_
  unfold F_number_in e_number_in
  simp (maxSteps := 2000000) only [den, Den.val, sSeq, sNx, sExpr, sRet, sRetN, sIf, sCt, sAsg, sPar, sFor, gNm, gTp, gLen, gsNil, gsCons, gOne, gStar1, gFld, gIx, eC, eVar, e1, e2, aNil, aCons, aStar, eTup, eB, eIf, eAnd, eOr, eNot, tAnd2, tOr2, tNot2, tE, tBl, tSel, oSel, E.isNil, E.many, E.glen, isCmp, eCall, eCm, eMk, eMkV, eAttr_d, eBm, eSl, oPart, eJoin, eChain, eComp, cIt, iOf, iEnum2, iZip2, tYes2, Cn.d, look, setAll, den2, denB, only1, only2, dIs, tyName, List.set_cons_zero, List.set_cons_succ, if_true, if_false, Bool.false_eq_true, List.map_cons, List.map_nil, Bool.not_true, Bool.not_false, true_and, and_true, true_or, or_true, or_false, false_or, and_false, false_and, decide_true, decide_false, String.reduceEq, eq_self, ne_eq, not_true_eq_false, not_false_eq_true, wipeE, List.cons_append, List.nil_append, dEq_ii, dEq_ss, List.length_cons, List.length_nil, Nat.reduceAdd, Nat.reduceSub, List.reduceReplicate, dAdd_ii, dAdd_ss, dAdd_tt, dSub_ii, dMul_ii, dMod_ii, dDiv_ii, dPow_ii, dCmp_ii, dNeg_i, dMx_ii, dMn_ii, dLen1_s, dLen1_t, dLen1_scr, dTuple_t, dStr_i, truth_b, truth_n, truth_i, rowsOf_t, rowsOf_s, rng1_i, rng2_ii, iRange1, iRange2, eLst, newL, kindOf_s, denM_append, denM_extend, denM_pop, denM_join, denM_split, denM_starts, denM_ends, denM_countL, denM_countT, mStarts_s, mEnds_s, mSplit_s, dSl_s, dSl_t]
  have l2 := num_len hi
  have sl := sl60
  refine ⟨by omega, ?_⟩
  have e1 : (1 : Int) ≤ ((numS i).length : Int) := by omega
  have e2 : ((numS i).length : Int) ≤ 2 := by omega
  simp only [e1, e2, den, Den.val, sSeq, sNx, sExpr, sRet, sRetN, sIf, sCt, sAsg, sPar, sFor, gNm, gTp, gLen, gsNil, gsCons, gOne, gStar1, gFld, gIx, eC, eVar, e1, e2, aNil, aCons, aStar, eTup, eB, eIf, eAnd, eOr, eNot, tAnd2, tOr2, tNot2, tE, tBl, tSel, oSel, E.isNil, E.many, E.glen, isCmp, eCall, eCm, eMk, eMkV, eAttr_d, eBm, eSl, oPart, eJoin, eChain, eComp, cIt, iOf, iEnum2, iZip2, tYes2, Cn.d, look, setAll, den2, denB, only1, only2, dIs, tyName, List.set_cons_zero, List.set_cons_succ, if_true, if_false, Bool.false_eq_true, List.map_cons, List.map_nil, Bool.not_true, Bool.not_false, true_and, and_true, true_or, or_true, or_false, false_or, and_false, false_and, decide_true, decide_false, String.reduceEq, eq_self, ne_eq, not_true_eq_false, not_false_eq_true, wipeE, List.cons_append, List.nil_append, dEq_ii, dEq_ss, List.length_cons, List.length_nil, Nat.reduceAdd, Nat.reduceSub, List.reduceReplicate, dAdd_ii, dAdd_ss, dAdd_tt, dSub_ii, dMul_ii, dMod_ii, dDiv_ii, dPow_ii, dCmp_ii, dNeg_i, dMx_ii, dMn_ii, dLen1_s, dLen1_t, dLen1_scr, dTuple_t, dStr_i, truth_b, truth_n, truth_i, rowsOf_t, rowsOf_s, rng1_i, rng2_ii, iRange1, iRange2, eLst, newL, kindOf_s, denM_append, denM_extend, denM_pop, denM_join, denM_split, denM_starts, denM_ends, denM_countL, denM_countT, mStarts_s, mEnds_s, mSplit_s, dSl_s, dSl_t]
  refine comp_pure (S := S) (f := fun _ => .bl true) (fun _ _ => trivial) Sub.rfl' (fun row hm => ?_) ?_ fun S' s p hp => ?_
  · obtain ⟨c, hc, rfl⟩ := List.mem_map.mp hm
    refine ⟨_, rfl, fun S' k s hk => ?_⟩
    simp only [den, Den.val, sSeq, sNx, sExpr, sRet, sRetN, sIf, sCt, sAsg, sPar, sFor, gNm, gTp, gLen, gsNil, gsCons, gOne, gStar1, gFld, gIx, eC, eVar, e1, e2, aNil, aCons, aStar, eTup, eB, eIf, eAnd, eOr, eNot, tAnd2, tOr2, tNot2, tE, tBl, tSel, oSel, E.isNil, E.many, E.glen, isCmp, eCall, eCm, eMk, eMkV, eAttr_d, eBm, eSl, oPart, eJoin, eChain, eComp, cIt, iOf, iEnum2, iZip2, tYes2, Cn.d, look, setAll, den2, denB, only1, only2, dIs, tyName, List.set_cons_zero, List.set_cons_succ, if_true, if_false, Bool.false_eq_true, List.map_cons, List.map_nil, Bool.not_true, Bool.not_false, true_and, and_true, true_or, or_true, or_false, false_or, and_false, false_and, decide_true, decide_false, String.reduceEq, eq_self, ne_eq, not_true_eq_false, not_false_eq_true, wipeE, List.cons_append, List.nil_append, dEq_ii, dEq_ss, List.length_cons, List.length_nil, Nat.reduceAdd, Nat.reduceSub, List.reduceReplicate, dAdd_ii, dAdd_ss, dAdd_tt, dSub_ii, dMul_ii, dMod_ii, dDiv_ii, dPow_ii, dCmp_ii, dNeg_i, dMx_ii, dMn_ii, dLen1_s, dLen1_t, dLen1_scr, dTuple_t, dStr_i, truth_b, truth_n, truth_i, rowsOf_t, rowsOf_s, rng1_i, rng2_ii, iRange1, iRange2, eLst, newL, kindOf_s, denM_append, denM_extend, denM_pop, denM_join, denM_split, denM_starts, denM_ends, denM_countL, denM_countT, mStarts_s, mEnds_s, mSplit_s, dSl_s, dSl_t, dIn]
    refine ⟨c, rfl, ?_⟩
    simp only [num_digits hi c hc, den, Den.val, sSeq, sNx, sExpr, sRet, sRetN, sIf, sCt, sAsg, sPar, sFor, gNm, gTp, gLen, gsNil, gsCons, gOne, gStar1, gFld, gIx, eC, eVar, e1, e2, aNil, aCons, aStar, eTup, eB, eIf, eAnd, eOr, eNot, tAnd2, tOr2, tNot2, tE, tBl, tSel, oSel, E.isNil, E.many, E.glen, isCmp, eCall, eCm, eMk, eMkV, eAttr_d, eBm, eSl, oPart, eJoin, eChain, eComp, cIt, iOf, iEnum2, iZip2, tYes2, Cn.d, look, setAll, den2, denB, only1, only2, dIs, tyName, List.set_cons_zero, List.set_cons_succ, if_true, if_false, Bool.false_eq_true, List.map_cons, List.map_nil, Bool.not_true, Bool.not_false, true_and, and_true, true_or, or_true, or_false, false_or, and_false, false_and, decide_true, decide_false, String.reduceEq, eq_self, ne_eq, not_true_eq_false, not_false_eq_true, wipeE, List.cons_append, List.nil_append, dEq_ii, dEq_ss, List.length_cons, List.length_nil, Nat.reduceAdd, Nat.reduceSub, List.reduceReplicate, dAdd_ii, dAdd_ss, dAdd_tt, dSub_ii, dMul_ii, dMod_ii, dDiv_ii, dPow_ii, dCmp_ii, dNeg_i, dMx_ii, dMn_ii, dLen1_s, dLen1_t, dLen1_scr, dTuple_t, dStr_i, truth_b, truth_n, truth_i, rowsOf_t, rowsOf_s, rng1_i, rng2_ii, iRange1, iRange2, eLst, newL, kindOf_s, denM_append, denM_extend, denM_pop, denM_join, denM_split, denM_starts, denM_ends, denM_countL, denM_countT, mStarts_s, mEnds_s, mSplit_s, dSl_s, dSl_t]
    exact hk S' Sub.rfl'
  · have e3 : (numS i).cps.toList.length = (numS i).length := Array.length_toList
    rw [List.length_map, e3, List.length_nil]
    omega
  refine all_true up_same (fun d hd => ?_) ?_
  · rw [List.nil_append] at hd
    obtain ⟨x, _, rfl⟩ := List.mem_map.mp hd
    rfl
  obtain ⟨c, hc, hne⟩ := num_first hi
  simp only [den, Den.val, sSeq, sNx, sExpr, sRet, sRetN, sIf, sCt, sAsg, sPar, sFor, gNm, gTp, gLen, gsNil, gsCons, gOne, gStar1, gFld, gIx, eC, eVar, e1, e2, aNil, aCons, aStar, eTup, eB, eIf, eAnd, eOr, eNot, tAnd2, tOr2, tNot2, tE, tBl, tSel, oSel, E.isNil, E.many, E.glen, isCmp, eCall, eCm, eMk, eMkV, eAttr_d, eBm, eSl, oPart, eJoin, eChain, eComp, cIt, iOf, iEnum2, iZip2, tYes2, Cn.d, look, setAll, den2, denB, only1, only2, dIs, tyName, List.set_cons_zero, List.set_cons_succ, if_true, if_false, Bool.false_eq_true, List.map_cons, List.map_nil, Bool.not_true, Bool.not_false, true_and, and_true, true_or, or_true, or_false, false_or, and_false, false_and, decide_true, decide_false, String.reduceEq, eq_self, ne_eq, not_true_eq_false, not_false_eq_true, wipeE, List.cons_append, List.nil_append, dEq_ii, dEq_ss, List.length_cons, List.length_nil, Nat.reduceAdd, Nat.reduceSub, List.reduceReplicate, dAdd_ii, dAdd_ss, dAdd_tt, dSub_ii, dMul_ii, dMod_ii, dDiv_ii, dPow_ii, dCmp_ii, dNeg_i, dMx_ii, dMn_ii, dLen1_s, dLen1_t, dLen1_scr, dTuple_t, dStr_i, truth_b, truth_n, truth_i, rowsOf_t, rowsOf_s, rng1_i, rng2_ii, iRange1, iRange2, eLst, newL, kindOf_s, denM_append, denM_extend, denM_pop, denM_join, denM_split, denM_starts, denM_ends, denM_countL, denM_countT, mStarts_s, mEnds_s, mSplit_s, dSl_s, dSl_t, dIx]
  refine ⟨by omega, c, hc, ?_⟩
  simp only [den, Den.val, sSeq, sNx, sExpr, sRet, sRetN, sIf, sCt, sAsg, sPar, sFor, gNm, gTp, gLen, gsNil, gsCons, gOne, gStar1, gFld, gIx, eC, eVar, e1, e2, aNil, aCons, aStar, eTup, eB, eIf, eAnd, eOr, eNot, tAnd2, tOr2, tNot2, tE, tBl, tSel, oSel, E.isNil, E.many, E.glen, isCmp, eCall, eCm, eMk, eMkV, eAttr_d, eBm, eSl, oPart, eJoin, eChain, eComp, cIt, iOf, iEnum2, iZip2, tYes2, Cn.d, look, setAll, den2, denB, only1, only2, dIs, tyName, List.set_cons_zero, List.set_cons_succ, if_true, if_false, Bool.false_eq_true, List.map_cons, List.map_nil, Bool.not_true, Bool.not_false, true_and, and_true, true_or, or_true, or_false, false_or, and_false, false_and, decide_true, decide_false, String.reduceEq, eq_self, ne_eq, not_true_eq_false, not_false_eq_true, wipeE, List.cons_append, List.nil_append, dEq_ii, dEq_ss, List.length_cons, List.length_nil, Nat.reduceAdd, Nat.reduceSub, List.reduceReplicate, dAdd_ii, dAdd_ss, dAdd_tt, dSub_ii, dMul_ii, dMod_ii, dDiv_ii, dPow_ii, dCmp_ii, dNeg_i, dMx_ii, dMn_ii, dLen1_s, dLen1_t, dLen1_scr, dTuple_t, dStr_i, truth_b, truth_n, truth_i, rowsOf_t, rowsOf_s, rng1_i, rng2_ii, iRange1, iRange2, eLst, newL, kindOf_s, denM_append, denM_extend, denM_pop, denM_join, denM_split, denM_starts, denM_ends, denM_countL, denM_countT, mStarts_s, mEnds_s, mSplit_s, dSl_s, dSl_t, hne, dInt]
  exact ⟨i, num_int hi, by omega, fin_same (hq _ (s.trans (Sub.new hp)))⟩
/-! ### the text of a plan -/
def lineS (ns : List Int) : Str := Txt.join " " (ns.map numS)
def bodyS (u : Int) (nss : List (List Int)) : List Str := numS u :: nss.map lineS
def textS (u : Int) (nss : List (List Int)) : Str := Txt.join "" ((("users " ++ numS u : Str) :: nss.map lineS).map fun (l : Str) => l ++ "\n")
theorem joinL_len {Y : List Nat} : ∀ {ps : List (List Nat)}, (joinL Y ps).length ≤ (ps.map List.length).sum + ps.length * Y.length
  | [] => by simp [joinL]
  | [p] => by simp [joinL]
  | p :: p2 :: r => by
    have := joinL_len (Y := Y) (ps := p2 :: r)
    simp only [joinL, List.length_append, List.map_cons, List.sum_cons, List.length_cons, Nat.add_mul] at this ⊢
    omega
theorem join_len {y : Str} {ps : List Str} : (Txt.join y ps).length ≤ (ps.map fun z => z.length).sum + ps.length * y.length := by
  rw [len_tl, TL.join_eq, TL.tl_join]
  refine Nat.le_trans joinL_len ?_
  rw [List.map_map, List.length_map, len_tl y]
  have : (List.map (List.length ∘ tl) ps) = ps.map fun z => z.length := List.map_congr_left fun z _ => (len_tl z).symm
  rw [this]
  exact Nat.le_refl _
theorem sum_le {α : Type} {f : α → Nat} {b : Nat} : ∀ {l : List α}, (∀ x ∈ l, f x ≤ b) → (l.map f).sum ≤ l.length * b
  | [], _ => by simp
  | x :: l, h => by
    have h1 := h x List.mem_cons_self
    have h2 := sum_le (f := f) (l := l) fun y hy => h y (List.mem_cons_of_mem _ hy)
    simp only [List.map_cons, List.sum_cons, List.length_cons, Nat.add_mul]
    omega
theorem SizesOk.small {u : Int} {ns : List Int} (ok : SizesOk u ns) (hu : u ≤ 60) : ∀ i ∈ ns, 1 ≤ i ∧ i ≤ 60 := fun i hi => by
  have := ok.pos i hi
  omega
theorem line_sum {ns : List Int} (h : ∀ i ∈ ns, 1 ≤ i ∧ i ≤ 60) : ((ns.map numS).map fun z => z.length).sum ≤ ns.length * 2 := by
  have := sum_le (f := fun z : Str => z.length) (b := 2) (l := ns.map numS) fun x hx => by
    obtain ⟨i, hi, rfl⟩ := List.mem_map.mp hx
    exact (num_len (h i hi)).1
  rw [List.length_map] at this
  exact this
theorem line_len {ns : List Int} (h : ∀ i ∈ ns, 1 ≤ i ∧ i ≤ 60) : (lineS ns).length ≤ ns.length * 3 := by
  have h1 := join_len (y := " ") (ps := ns.map numS)
  have h2 := line_sum h
  rw [List.length_map] at h1
  have : ns.length * (" " : Str).length = ns.length := Nat.mul_one _
  unfold lineS
  omega
theorem tl_lines {A B : Str} : ∀ {ls : List Str} (x : Str), tl (Txt.join "" ((x :: ls).map fun (l : Str) => l ++ "\n")) = tl (Txt.join "\n" (x :: ls)) ++ [10]
  | [], x => by
    rw [TL.join_eq, TL.join_eq, TL.tl_join, TL.tl_join]
    simp only [List.map_cons, List.map_nil, joinL, tl_append]
    rfl
  | z :: ls, x => by
    have ih := tl_lines (A := A) (B := B) (ls := ls) z
    rw [TL.join_eq, TL.join_eq, TL.tl_join, TL.tl_join] at ih ⊢
    simp only [List.map_cons, joinL, tl_append] at ih ⊢
    rw [show tl (Str.ofString "") = [] from rfl] at ih
    rw [show tl (Str.ofString "") = [] from rfl, List.nil_append, ih, show tl (Str.ofString "\n") = [10] from rfl]
    simp only [List.append_assoc]
end
end C2

/-! Plans are read. -/
namespace C2
open PySem PySem.Spec PyProof.Rows L2 TL
section
variable {Γ : Tbl} {T : CT} {n : Nat} {S : Sto} {q : DK} {r : Exc → Sto → Prop}
theorem rows_sz {ns : List Int} : (List.map (fun d => [d]) (ns.map D.int)) = ns.map fun i => [D.int i] := by rw [List.map_map]; rfl
theorem rows_szs {nss : List (List Int)} : (List.map (fun d => [d]) (nss.map szD)) = nss.map fun ns => [szD ns] := by rw [List.map_map]; rfl
theorem c_law_text (h : Γ (.fn "_law_text") = some F_law_text) {u : Int} {nss : List (List Int)} {x : Addr} (hu : 1 ≤ u ∧ u ≤ 60) (hn : nss.length ≤ 6) (ok : ∀ ns ∈ nss, SizesOk u ns) (hx : S x = some (.lst (nss.map szD))) (hq : ∀ S', Sub S S' → q (.str (textS u nss)) S') : callW Γ T (n + 1) (.fn "_law_text") [.int u, .ref x] S q r := by
  refine call_go h rfl rfl ?_
  unfold F_law_text e_law_text
  simp (maxSteps := 2000000) only [den, Den.val, sSeq, sNx, sExpr, sRet, sRetN, sIf, sCt, sAsg, sPar, sFor, gNm, gTp, gLen, gsNil, gsCons, gOne, gStar1, gFld, gIx, eC, eVar, e1, e2, aNil, aCons, aStar, eTup, eB, eIf, eAnd, eOr, eNot, tAnd2, tOr2, tNot2, tE, tBl, tSel, oSel, E.isNil, E.many, E.glen, isCmp, eCall, eCm, eMk, eMkV, eAttr_d, eBm, eSl, oPart, eJoin, eChain, eComp, cIt, iOf, iEnum2, iZip2, tYes2, Cn.d, look, setAll, den2, denB, only1, only2, dIs, tyName, List.set_cons_zero, List.set_cons_succ, if_true, if_false, Bool.false_eq_true, List.map_cons, List.map_nil, Bool.not_true, Bool.not_false, true_and, and_true, true_or, or_true, or_false, false_or, and_false, false_and, decide_true, decide_false, String.reduceEq, eq_self, ne_eq, not_true_eq_false, not_false_eq_true, wipeE, List.cons_append, List.nil_append, dEq_ii, dEq_ss, List.length_cons, List.length_nil, Nat.reduceAdd, Nat.reduceSub, List.reduceReplicate, dAdd_ii, dAdd_ss, dAdd_tt, dSub_ii, dMul_ii, dMod_ii, dDiv_ii, dPow_ii, dCmp_ii, dNeg_i, dMx_ii, dMn_ii, dLen1_s, dLen1_t, dLen1_scr, dTuple_t, dStr_i, truth_b, truth_n, truth_i, rowsOf_t, rowsOf_s, rng1_i, rng2_ii, iRange1, iRange2, eLst, newL, kindOf_s, denM_append, denM_extend, denM_pop, denM_join, denM_split, denM_starts, denM_ends, denM_countL, denM_countT, mStarts_s, mEnds_s, mSplit_s, dSl_s, dSl_t]
  have sl := sl60
  have big : 16777216 ≤ sizeLine := by rw [sizeLine_eq]; decide
  refine ⟨num_log hu, ?_⟩
  have lu := num_len hu
  have l6 : (Str.ofString "users ").length = 6 := rfl
  rw [show (toString u : String) = (toString u : String) from rfl]
  refine ⟨?_, by omega, fun p1 hp1 => ?_⟩
  · rw [l6]; have : (Str.ofString (toString u)).length = (numS u).length := rfl; omega
  have s1 : Sub S (up S p1 (.lst [.str (Str.ofString "users " ++ numS u)])) := Sub.new hp1
  simp only [rowsOf_r]
  refine ⟨_, s1 _ _ hx, ?_⟩
  rw [rows_szs]
  refine comp_map (S := up S p1 (.lst [.str (Str.ofString "users " ++ numS u)])) (fun ns => .str (lineS ns)) (fun S' s => s _ _ (s1 _ _ hx)) Sub.rfl' (fun ns hm => ?_) (by simp; omega) fun S2 s2 p2 hp2 => ?_
  · have sm := (ok ns hm).small hu.2
    have l4 := (ok ns hm).len
    refine ⟨_, rfl, fun S' k s hk => ?_⟩
    simp only [den, Den.val, sSeq, sNx, sExpr, sRet, sRetN, sIf, sCt, sAsg, sPar, sFor, gNm, gTp, gLen, gsNil, gsCons, gOne, gStar1, gFld, gIx, eC, eVar, e1, e2, aNil, aCons, aStar, eTup, eB, eIf, eAnd, eOr, eNot, tAnd2, tOr2, tNot2, tE, tBl, tSel, oSel, E.isNil, E.many, E.glen, isCmp, eCall, eCm, eMk, eMkV, eAttr_d, eBm, eSl, oPart, eJoin, eChain, eComp, cIt, iOf, iEnum2, iZip2, tYes2, Cn.d, look, setAll, den2, denB, only1, only2, dIs, tyName, List.set_cons_zero, List.set_cons_succ, if_true, if_false, Bool.false_eq_true, List.map_cons, List.map_nil, Bool.not_true, Bool.not_false, true_and, and_true, true_or, or_true, or_false, false_or, and_false, false_and, decide_true, decide_false, String.reduceEq, eq_self, ne_eq, not_true_eq_false, not_false_eq_true, wipeE, List.cons_append, List.nil_append, dEq_ii, dEq_ss, List.length_cons, List.length_nil, Nat.reduceAdd, Nat.reduceSub, List.reduceReplicate, dAdd_ii, dAdd_ss, dAdd_tt, dSub_ii, dMul_ii, dMod_ii, dDiv_ii, dPow_ii, dCmp_ii, dNeg_i, dMx_ii, dMn_ii, dLen1_s, dLen1_t, dLen1_scr, dTuple_t, dStr_i, truth_b, truth_n, truth_i, rowsOf_t, rowsOf_s, rng1_i, rng2_ii, iRange1, iRange2, eLst, newL, kindOf_s, denM_append, denM_extend, denM_pop, denM_join, denM_split, denM_starts, denM_ends, denM_countL, denM_countT, mStarts_s, mEnds_s, mSplit_s, dSl_s, dSl_t, szD, rows_sz]
    refine comp_map (S := S') (fun i => .str (numS i)) (fun _ _ => trivial) Sub.rfl' (fun i hi => ?_) (by simp; omega) fun S3 s3 p3 hp3 => ?_
    · refine ⟨_, rfl, fun S' k s hk => ?_⟩
      simp only [den, Den.val, sSeq, sNx, sExpr, sRet, sRetN, sIf, sCt, sAsg, sPar, sFor, gNm, gTp, gLen, gsNil, gsCons, gOne, gStar1, gFld, gIx, eC, eVar, e1, e2, aNil, aCons, aStar, eTup, eB, eIf, eAnd, eOr, eNot, tAnd2, tOr2, tNot2, tE, tBl, tSel, oSel, E.isNil, E.many, E.glen, isCmp, eCall, eCm, eMk, eMkV, eAttr_d, eBm, eSl, oPart, eJoin, eChain, eComp, cIt, iOf, iEnum2, iZip2, tYes2, Cn.d, look, setAll, den2, denB, only1, only2, dIs, tyName, List.set_cons_zero, List.set_cons_succ, if_true, if_false, Bool.false_eq_true, List.map_cons, List.map_nil, Bool.not_true, Bool.not_false, true_and, and_true, true_or, or_true, or_false, false_or, and_false, false_and, decide_true, decide_false, String.reduceEq, eq_self, ne_eq, not_true_eq_false, not_false_eq_true, wipeE, List.cons_append, List.nil_append, dEq_ii, dEq_ss, List.length_cons, List.length_nil, Nat.reduceAdd, Nat.reduceSub, List.reduceReplicate, dAdd_ii, dAdd_ss, dAdd_tt, dSub_ii, dMul_ii, dMod_ii, dDiv_ii, dPow_ii, dCmp_ii, dNeg_i, dMx_ii, dMn_ii, dLen1_s, dLen1_t, dLen1_scr, dTuple_t, dStr_i, truth_b, truth_n, truth_i, rowsOf_t, rowsOf_s, rng1_i, rng2_ii, iRange1, iRange2, eLst, newL, kindOf_s, denM_append, denM_extend, denM_pop, denM_join, denM_split, denM_starts, denM_ends, denM_countL, denM_countT, mStarts_s, mEnds_s, mSplit_s, dSl_s, dSl_t]
      exact ⟨num_log (sm i hi), hk S' Sub.rfl'⟩
    refine ⟨ns.map numS, by simp only [seqI, up_same, List.nil_append, List.map_map]; rfl, ?_, ?_⟩
    · have h2 := line_sum sm
      rw [List.length_map]
      have : ns.length * (Str.ofString " ").length = ns.length := Nat.mul_one _
      omega
    · exact hk _ (s3.trans (Sub.new hp3))
  have h1 : up S2 p2 (.lst ([] ++ nss.map fun ns => D.str (lineS ns))) p1 = some (.lst [.str (Str.ofString "users " ++ numS u)]) := (s2.trans (Sub.new hp2)) _ _ up_same
  simp only [dAdd_rr, rowsOf_r]
  refine ⟨_, _, h1, up_same, by simp; omega, fun p3 hp3 => ?_⟩
  refine ⟨_, up_same, ?_⟩
  have e1 : (List.map (fun d => [d]) (D.str (Str.ofString "users " ++ numS u) :: (nss.map fun ns => D.str (lineS ns)))) = ((Str.ofString "users " ++ numS u) :: nss.map lineS).map fun l => [D.str l] := by
    simp only [List.map_cons, List.map_map]; rfl
  simp only [List.nil_append, List.cons_append] at e1 ⊢
  rw [e1]
  have bnd : ∀ l ∈ (Str.ofString "users " ++ numS u) :: nss.map lineS, l.length ≤ 20 := by
    intro l hl
    rcases List.mem_cons.mp hl with rfl | hl
    · rw [len_tl, tl_append, List.length_append, ← len_tl, ← len_tl]; omega
    · obtain ⟨ns, hns, rfl⟩ := List.mem_map.mp hl
      have := line_len ((ok ns hns).small hu.2)
      have := (ok ns hns).len
      omega
  refine comp_map (S := _) (fun l => .str (l ++ Str.ofString "\n")) (fun S' s => s _ _ up_same) Sub.rfl' (fun l hl => ?_) (by simp; omega) fun S4 s4 p4 hp4 => ?_
  · refine ⟨_, rfl, fun S' k s hk => ?_⟩
    simp only [den, Den.val, sSeq, sNx, sExpr, sRet, sRetN, sIf, sCt, sAsg, sPar, sFor, gNm, gTp, gLen, gsNil, gsCons, gOne, gStar1, gFld, gIx, eC, eVar, e1, e2, aNil, aCons, aStar, eTup, eB, eIf, eAnd, eOr, eNot, tAnd2, tOr2, tNot2, tE, tBl, tSel, oSel, E.isNil, E.many, E.glen, isCmp, eCall, eCm, eMk, eMkV, eAttr_d, eBm, eSl, oPart, eJoin, eChain, eComp, cIt, iOf, iEnum2, iZip2, tYes2, Cn.d, look, setAll, den2, denB, only1, only2, dIs, tyName, List.set_cons_zero, List.set_cons_succ, if_true, if_false, Bool.false_eq_true, List.map_cons, List.map_nil, Bool.not_true, Bool.not_false, true_and, and_true, true_or, or_true, or_false, false_or, and_false, false_and, decide_true, decide_false, String.reduceEq, eq_self, ne_eq, not_true_eq_false, not_false_eq_true, wipeE, List.cons_append, List.nil_append, dEq_ii, dEq_ss, List.length_cons, List.length_nil, Nat.reduceAdd, Nat.reduceSub, List.reduceReplicate, dAdd_ii, dAdd_ss, dAdd_tt, dSub_ii, dMul_ii, dMod_ii, dDiv_ii, dPow_ii, dCmp_ii, dNeg_i, dMx_ii, dMn_ii, dLen1_s, dLen1_t, dLen1_scr, dTuple_t, dStr_i, truth_b, truth_n, truth_i, rowsOf_t, rowsOf_s, rng1_i, rng2_ii, iRange1, iRange2, eLst, newL, kindOf_s, denM_append, denM_extend, denM_pop, denM_join, denM_split, denM_starts, denM_ends, denM_countL, denM_countT, mStarts_s, mEnds_s, mSplit_s, dSl_s, dSl_t]
    have := bnd l hl
    have : (Str.ofString "\n").length = 1 := rfl
    exact ⟨by omega, hk S' Sub.rfl'⟩
  refine ⟨((Str.ofString "users " ++ numS u) :: nss.map lineS).map fun l => l ++ Str.ofString "\n", by simp only [seqI, up_same, List.nil_append, List.map_map]; rfl, ?_, fin_same ?_⟩
  · have := sum_le (f := fun z : Str => z.length) (b := 21) (l := ((Str.ofString "users " ++ numS u) :: nss.map lineS).map fun l => l ++ Str.ofString "\n") fun x hx => by
      obtain ⟨l, hl, rfl⟩ := List.mem_map.mp hx
      have := bnd l hl
      rw [len_tl, tl_append, List.length_append, ← len_tl, ← len_tl]
      have : (Str.ofString "\n").length = 1 := rfl
      omega
    have e0 : (Str.ofString "").length = 0 := rfl
    rw [e0]
    simp only [List.length_map, List.length_cons] at this ⊢
    omega
  · exact hq _ ((((s1.trans s2).trans (Sub.new hp2)).trans (Sub.new hp3)).trans (s4.trans (Sub.new hp4)))
end
end C2

/-! Plans are made and read. -/
namespace C2
open PySem PySem.Spec PyProof.Rows L2 TL
structure PlanT (T : CT) : Prop where
  count : T.pr "Plan" "count" = some .fld
  kept : T.pr "Plan" "kept" = some .fld
  made : T.mks "Plan" = true
def planO (u : Int) (nss : List (List Int)) : Ob := .ins "Plan" [("count", .int u), ("kept", .tup (nss.map szD))]
structure PlanOk (u : Int) (nss : List (List Int)) : Prop where
  users : 1 ≤ u ∧ u ≤ 60
  few : nss.length ≤ 5
  ok : ∀ ns ∈ nss, SizesOk u ns
section
variable {Γ : Tbl} {T : CT} {n : Nat} {S : Sto} {q : DK} {r : Exc → Sto → Prop}
theorem look_count {d e : D} : List.lookup (Str.ofString "count") [(Str.ofString "count", d), (Str.ofString "kept", e)] = some d := rfl
theorem look_kept {d e : D} : List.lookup (Str.ofString "kept") [(Str.ofString "count", d), (Str.ofString "kept", e)] = some e := rfl
theorem c_need_users (h : Γ (.fn "need_users") = some F_need_users) (hb : Γ (.fn "is_between") = some F_is_between) {u : Int} (hu : 1 ≤ u ∧ u ≤ 60) (hq : q .non S) : callW Γ T (n + 2) (.fn "need_users") [.int u] S q r := by
  refine call_go h rfl rfl ?_
  unfold F_need_users e_need_users
  simp only [den, Den.val, sSeq, sNx, sExpr, sRet, sRetN, sIf, sCt, sAsg, sPar, sFor, gNm, gTp, gLen, gsNil, gsCons, gOne, gStar1, gFld, gIx, eC, eVar, e1, e2, aNil, aCons, aStar, eTup, eB, eIf, eAnd, eOr, eNot, tAnd2, tOr2, tNot2, tE, tBl, tSel, oSel, E.isNil, E.many, E.glen, isCmp, eCall, eCm, eMk, eMkV, eAttr_d, eBm, eSl, oPart, eJoin, eChain, eComp, cIt, iOf, iEnum2, iZip2, tYes2, Cn.d, look, setAll, den2, denB, only1, only2, dIs, tyName, List.set_cons_zero, List.set_cons_succ, if_true, if_false, Bool.false_eq_true, List.map_cons, List.map_nil, Bool.not_true, Bool.not_false, true_and, and_true, true_or, or_true, or_false, false_or, and_false, false_and, decide_true, decide_false, String.reduceEq, eq_self, ne_eq, not_true_eq_false, not_false_eq_true, wipeE, List.cons_append, List.nil_append, dEq_ii, dEq_ss, List.length_cons, List.length_nil, Nat.reduceAdd, Nat.reduceSub, List.reduceReplicate, dAdd_ii, dAdd_ss, dAdd_tt, dSub_ii, dMul_ii, dMod_ii, dDiv_ii, dPow_ii, dCmp_ii, dNeg_i, dMx_ii, dMn_ii, dLen1_s, dLen1_t, dLen1_scr, dTuple_t, dStr_i, truth_b, truth_n, truth_i, rowsOf_t, rowsOf_s, rng1_i, rng2_ii, iRange1, iRange2, eLst, newL, kindOf_s, denM_append, denM_extend, denM_pop, denM_join, denM_split, denM_starts, denM_ends, denM_countL, denM_countT, mStarts_s, mEnds_s, mSplit_s, dSl_s, dSl_t]
  refine c_between hb ?_
  simp only [hu.1, hu.2, den, Den.val, sSeq, sNx, sExpr, sRet, sRetN, sIf, sCt, sAsg, sPar, sFor, gNm, gTp, gLen, gsNil, gsCons, gOne, gStar1, gFld, gIx, eC, eVar, e1, e2, aNil, aCons, aStar, eTup, eB, eIf, eAnd, eOr, eNot, tAnd2, tOr2, tNot2, tE, tBl, tSel, oSel, E.isNil, E.many, E.glen, isCmp, eCall, eCm, eMk, eMkV, eAttr_d, eBm, eSl, oPart, eJoin, eChain, eComp, cIt, iOf, iEnum2, iZip2, tYes2, Cn.d, look, setAll, den2, denB, only1, only2, dIs, tyName, List.set_cons_zero, List.set_cons_succ, if_true, if_false, Bool.false_eq_true, List.map_cons, List.map_nil, Bool.not_true, Bool.not_false, true_and, and_true, true_or, or_true, or_false, false_or, and_false, false_and, decide_true, decide_false, String.reduceEq, eq_self, ne_eq, not_true_eq_false, not_false_eq_true, wipeE, List.cons_append, List.nil_append, dEq_ii, dEq_ss, List.length_cons, List.length_nil, Nat.reduceAdd, Nat.reduceSub, List.reduceReplicate, dAdd_ii, dAdd_ss, dAdd_tt, dSub_ii, dMul_ii, dMod_ii, dDiv_ii, dPow_ii, dCmp_ii, dNeg_i, dMx_ii, dMn_ii, dLen1_s, dLen1_t, dLen1_scr, dTuple_t, dStr_i, truth_b, truth_n, truth_i, rowsOf_t, rowsOf_s, rng1_i, rng2_ii, iRange1, iRange2, eLst, newL, kindOf_s, denM_append, denM_extend, denM_pop, denM_join, denM_split, denM_starts, denM_ends, denM_countL, denM_countT, mStarts_s, mEnds_s, mSplit_s, dSl_s, dSl_t, Bool.and_self]
  exact fin_same hq
theorem c_init (t : PlanT T) (h : Γ (.me "Plan" "__init__") = some F_Plan___init) (hn : Γ (.fn "need_users") = some F_need_users) (hs : Γ (.fn "are_sizes") = some F_are_sizes) (hb : Γ (.fn "is_between") = some F_is_between) {a : Addr} {u : Int} {nss : List (List Int)} (ha : S a = some (.ins "Plan" [])) (ok : PlanOk u nss)
    (hq : ∀ S', S' a = some (planO u nss) → (∀ b o, b ≠ a → S b = some o → S' b = some o) → q .non S') : callW Γ T (n + 3) (.me "Plan" "__init__") (.ref a :: .int u :: nss.map szD) S q r := by
  have l5 := ok.few
  refine call_go (F := F_Plan___init) (as := [.ref a, .int u, .tup (nss.map szD)]) h ?_ rfl ?_
  · simp only [argsF, F_Plan___init, if_true, List.length_cons, List.length_map]
    rw [if_pos (by omega)]
    rfl
  unfold F_Plan___init e_Plan___init
  simp (maxSteps := 2000000) only [den, Den.val, sSeq, sNx, sExpr, sRet, sRetN, sIf, sCt, sAsg, sPar, sFor, gNm, gTp, gLen, gsNil, gsCons, gOne, gStar1, gFld, gIx, eC, eVar, e1, e2, aNil, aCons, aStar, eTup, eB, eIf, eAnd, eOr, eNot, tAnd2, tOr2, tNot2, tE, tBl, tSel, oSel, E.isNil, E.many, E.glen, isCmp, eCall, eCm, eMk, eMkV, eAttr_d, eBm, eSl, oPart, eJoin, eChain, eComp, cIt, iOf, iEnum2, iZip2, tYes2, Cn.d, look, setAll, den2, denB, only1, only2, dIs, tyName, List.set_cons_zero, List.set_cons_succ, if_true, if_false, Bool.false_eq_true, List.map_cons, List.map_nil, Bool.not_true, Bool.not_false, true_and, and_true, true_or, or_true, or_false, false_or, and_false, false_and, decide_true, decide_false, String.reduceEq, eq_self, ne_eq, not_true_eq_false, not_false_eq_true, wipeE, List.cons_append, List.nil_append, dEq_ii, dEq_ss, List.length_cons, List.length_nil, Nat.reduceAdd, Nat.reduceSub, List.reduceReplicate, dAdd_ii, dAdd_ss, dAdd_tt, dSub_ii, dMul_ii, dMod_ii, dDiv_ii, dPow_ii, dCmp_ii, dNeg_i, dMx_ii, dMn_ii, dLen1_s, dLen1_t, dLen1_scr, dTuple_t, dStr_i, truth_b, truth_n, truth_i, rowsOf_t, rowsOf_s, rng1_i, rng2_ii, iRange1, iRange2, eLst, newL, kindOf_s, denM_append, denM_extend, denM_pop, denM_join, denM_split, denM_starts, denM_ends, denM_countL, denM_countT, mStarts_s, mEnds_s, mSplit_s, dSl_s, dSl_t]
  refine c_need_users hn hb ok.users ?_
  have sl := sl60
  simp only [rows_szs]
  refine comp_map (S := S) (fun ns => .bl true) (fun S' s => trivial) Sub.rfl' (fun ns hm => ?_) (by simp; omega) fun S2 s2 p2 hp2 => ?_
  · refine ⟨_, rfl, fun S' k s hk => ?_⟩
    simp only [den, Den.val, sSeq, sNx, sExpr, sRet, sRetN, sIf, sCt, sAsg, sPar, sFor, gNm, gTp, gLen, gsNil, gsCons, gOne, gStar1, gFld, gIx, eC, eVar, e1, e2, aNil, aCons, aStar, eTup, eB, eIf, eAnd, eOr, eNot, tAnd2, tOr2, tNot2, tE, tBl, tSel, oSel, E.isNil, E.many, E.glen, isCmp, eCall, eCm, eMk, eMkV, eAttr_d, eBm, eSl, oPart, eJoin, eChain, eComp, cIt, iOf, iEnum2, iZip2, tYes2, Cn.d, look, setAll, den2, denB, only1, only2, dIs, tyName, List.set_cons_zero, List.set_cons_succ, if_true, if_false, Bool.false_eq_true, List.map_cons, List.map_nil, Bool.not_true, Bool.not_false, true_and, and_true, true_or, or_true, or_false, false_or, and_false, false_and, decide_true, decide_false, String.reduceEq, eq_self, ne_eq, not_true_eq_false, not_false_eq_true, wipeE, List.cons_append, List.nil_append, dEq_ii, dEq_ss, List.length_cons, List.length_nil, Nat.reduceAdd, Nat.reduceSub, List.reduceReplicate, dAdd_ii, dAdd_ss, dAdd_tt, dSub_ii, dMul_ii, dMod_ii, dDiv_ii, dPow_ii, dCmp_ii, dNeg_i, dMx_ii, dMn_ii, dLen1_s, dLen1_t, dLen1_scr, dTuple_t, dStr_i, truth_b, truth_n, truth_i, rowsOf_t, rowsOf_s, rng1_i, rng2_ii, iRange1, iRange2, eLst, newL, kindOf_s, denM_append, denM_extend, denM_pop, denM_join, denM_split, denM_starts, denM_ends, denM_countL, denM_countT, mStarts_s, mEnds_s, mSplit_s, dSl_s, dSl_t]
    exact c_are_sizes hs hb (ok.ok ns hm) (hk _ Sub.rfl')
  refine all_true up_same (fun d hd => ?_) ?_
  · rw [List.nil_append] at hd
    obtain ⟨x, _, rfl⟩ := List.mem_map.mp hd
    rfl
  have e5 : ¬ (5 : Int) < (nss.map szD).length := by rw [List.length_map]; omega
  have na : a ≠ p2 := by
    rintro rfl
    rw [s2 _ _ ha] at hp2; cases hp2
  simp only [den, Den.val, sSeq, sNx, sExpr, sRet, sRetN, sIf, sCt, sAsg, sPar, sFor, gNm, gTp, gLen, gsNil, gsCons, gOne, gStar1, gFld, gIx, eC, eVar, e1, e2, aNil, aCons, aStar, eTup, eB, eIf, eAnd, eOr, eNot, tAnd2, tOr2, tNot2, tE, tBl, tSel, oSel, E.isNil, E.many, E.glen, isCmp, eCall, eCm, eMk, eMkV, eAttr_d, eBm, eSl, oPart, eJoin, eChain, eComp, cIt, iOf, iEnum2, iZip2, tYes2, Cn.d, look, setAll, den2, denB, only1, only2, dIs, tyName, List.set_cons_zero, List.set_cons_succ, if_true, if_false, Bool.false_eq_true, List.map_cons, List.map_nil, Bool.not_true, Bool.not_false, true_and, and_true, true_or, or_true, or_false, false_or, and_false, false_and, decide_true, decide_false, String.reduceEq, eq_self, ne_eq, not_true_eq_false, not_false_eq_true, wipeE, List.cons_append, List.nil_append, dEq_ii, dEq_ss, List.length_cons, List.length_nil, Nat.reduceAdd, Nat.reduceSub, List.reduceReplicate, dAdd_ii, dAdd_ss, dAdd_tt, dSub_ii, dMul_ii, dMod_ii, dDiv_ii, dPow_ii, dCmp_ii, dNeg_i, dMx_ii, dMn_ii, dLen1_s, dLen1_t, dLen1_scr, dTuple_t, dStr_i, truth_b, truth_n, truth_i, rowsOf_t, rowsOf_s, rng1_i, rng2_ii, iRange1, iRange2, eLst, newL, kindOf_s, denM_append, denM_extend, denM_pop, denM_join, denM_split, denM_starts, denM_ends, denM_countL, denM_countT, mStarts_s, mEnds_s, mSplit_s, dSl_s, dSl_t, e5]
  have h1 : up S2 p2 (.lst ([] ++ nss.map fun _ => D.bl true)) a = some (.ins "Plan" []) := (s2.trans (Sub.new hp2)) _ _ ha
  simp only [List.nil_append] at h1
  simp only [h1, up_same, putFd, up_up]
  rw [if_neg (show ¬ (Str.ofString "kept" = Str.ofString "count") by decide)]
  refine ⟨by omega, t.count, by simp, t.kept, by simp, fin_same (hq _ up_same fun b o hb he => ?_)⟩
  rw [up_ne hb]
  exact (s2.trans (Sub.new hp2)) _ _ he
/-- the instance of a plan -/
theorem c_units (t : PlanT T) (h : Γ (.me "Plan" "units") = some F_Plan_units) (hd : Γ (.fn "divisor_of") = some F_divisor_of) (hd2 : Γ (.fn "divisor") = some F_divisor) {a : Addr} {u : Int} {nss : List (List Int)} (ha : S a = some (planO u nss)) (ok : PlanOk u nss)
    (hq : ∀ S', Sub S S' → q (.tup (nss.map fun ns => .int (u / gcdL ns))) S') : callW Γ T (n + 3) (.me "Plan" "units") [.ref a] S q r := by
  refine call_go h rfl rfl ?_
  have l5 := ok.few
  have sl := sl60
  unfold F_Plan_units e_Plan_units
  unfold planO at ha
  simp only [den, Den.val, sSeq, sNx, sExpr, sRet, sRetN, sIf, sCt, sAsg, sPar, sFor, gNm, gTp, gLen, gsNil, gsCons, gOne, gStar1, gFld, gIx, eC, eVar, e1, e2, aNil, aCons, aStar, eTup, eB, eIf, eAnd, eOr, eNot, tAnd2, tOr2, tNot2, tE, tBl, tSel, oSel, E.isNil, E.many, E.glen, isCmp, eCall, eCm, eMk, eMkV, eAttr_d, eBm, eSl, oPart, eJoin, eChain, eComp, cIt, iOf, iEnum2, iZip2, tYes2, Cn.d, look, setAll, den2, denB, only1, only2, dIs, tyName, List.set_cons_zero, List.set_cons_succ, if_true, if_false, Bool.false_eq_true, List.map_cons, List.map_nil, Bool.not_true, Bool.not_false, true_and, and_true, true_or, or_true, or_false, false_or, and_false, false_and, decide_true, decide_false, String.reduceEq, eq_self, ne_eq, not_true_eq_false, not_false_eq_true, wipeE, List.cons_append, List.nil_append, dEq_ii, dEq_ss, List.length_cons, List.length_nil, Nat.reduceAdd, Nat.reduceSub, List.reduceReplicate, dAdd_ii, dAdd_ss, dAdd_tt, dSub_ii, dMul_ii, dMod_ii, dDiv_ii, dPow_ii, dCmp_ii, dNeg_i, dMx_ii, dMn_ii, dLen1_s, dLen1_t, dLen1_scr, dTuple_t, dStr_i, truth_b, truth_n, truth_i, rowsOf_t, rowsOf_s, rng1_i, rng2_ii, iRange1, iRange2, eLst, newL, kindOf_s, denM_append, denM_extend, denM_pop, denM_join, denM_split, denM_starts, denM_ends, denM_countL, denM_countT, mStarts_s, mEnds_s, mSplit_s, dSl_s, dSl_t]
  refine attr_fld ha t.kept look_kept ?_
  simp only [den, Den.val, sSeq, sNx, sExpr, sRet, sRetN, sIf, sCt, sAsg, sPar, sFor, gNm, gTp, gLen, gsNil, gsCons, gOne, gStar1, gFld, gIx, eC, eVar, e1, e2, aNil, aCons, aStar, eTup, eB, eIf, eAnd, eOr, eNot, tAnd2, tOr2, tNot2, tE, tBl, tSel, oSel, E.isNil, E.many, E.glen, isCmp, eCall, eCm, eMk, eMkV, eAttr_d, eBm, eSl, oPart, eJoin, eChain, eComp, cIt, iOf, iEnum2, iZip2, tYes2, Cn.d, look, setAll, den2, denB, only1, only2, dIs, tyName, List.set_cons_zero, List.set_cons_succ, if_true, if_false, Bool.false_eq_true, List.map_cons, List.map_nil, Bool.not_true, Bool.not_false, true_and, and_true, true_or, or_true, or_false, false_or, and_false, false_and, decide_true, decide_false, String.reduceEq, eq_self, ne_eq, not_true_eq_false, not_false_eq_true, wipeE, List.cons_append, List.nil_append, dEq_ii, dEq_ss, List.length_cons, List.length_nil, Nat.reduceAdd, Nat.reduceSub, List.reduceReplicate, dAdd_ii, dAdd_ss, dAdd_tt, dSub_ii, dMul_ii, dMod_ii, dDiv_ii, dPow_ii, dCmp_ii, dNeg_i, dMx_ii, dMn_ii, dLen1_s, dLen1_t, dLen1_scr, dTuple_t, dStr_i, truth_b, truth_n, truth_i, rowsOf_t, rowsOf_s, rng1_i, rng2_ii, iRange1, iRange2, eLst, newL, kindOf_s, denM_append, denM_extend, denM_pop, denM_join, denM_split, denM_starts, denM_ends, denM_countL, denM_countT, mStarts_s, mEnds_s, mSplit_s, dSl_s, dSl_t, rows_szs]
  refine comp_map (S := S) (fun ns => .int (u / gcdL ns)) (fun S' s => trivial) Sub.rfl' (fun ns hm => ?_) (by simp; omega) fun S2 s2 p2 hp2 => ?_
  · refine ⟨_, rfl, fun S' k s hk => ?_⟩
    have ha' := s _ _ ha
    have o := ok.ok ns hm
    have g := o.gcd
    have hu := ok.users
    simp only [den, Den.val, sSeq, sNx, sExpr, sRet, sRetN, sIf, sCt, sAsg, sPar, sFor, gNm, gTp, gLen, gsNil, gsCons, gOne, gStar1, gFld, gIx, eC, eVar, e1, e2, aNil, aCons, aStar, eTup, eB, eIf, eAnd, eOr, eNot, tAnd2, tOr2, tNot2, tE, tBl, tSel, oSel, E.isNil, E.many, E.glen, isCmp, eCall, eCm, eMk, eMkV, eAttr_d, eBm, eSl, oPart, eJoin, eChain, eComp, cIt, iOf, iEnum2, iZip2, tYes2, Cn.d, look, setAll, den2, denB, only1, only2, dIs, tyName, List.set_cons_zero, List.set_cons_succ, if_true, if_false, Bool.false_eq_true, List.map_cons, List.map_nil, Bool.not_true, Bool.not_false, true_and, and_true, true_or, or_true, or_false, false_or, and_false, false_and, decide_true, decide_false, String.reduceEq, eq_self, ne_eq, not_true_eq_false, not_false_eq_true, wipeE, List.cons_append, List.nil_append, dEq_ii, dEq_ss, List.length_cons, List.length_nil, Nat.reduceAdd, Nat.reduceSub, List.reduceReplicate, dAdd_ii, dAdd_ss, dAdd_tt, dSub_ii, dMul_ii, dMod_ii, dDiv_ii, dPow_ii, dCmp_ii, dNeg_i, dMx_ii, dMn_ii, dLen1_s, dLen1_t, dLen1_scr, dTuple_t, dStr_i, truth_b, truth_n, truth_i, rowsOf_t, rowsOf_s, rng1_i, rng2_ii, iRange1, iRange2, eLst, newL, kindOf_s, denM_append, denM_extend, denM_pop, denM_join, denM_split, denM_starts, denM_ends, denM_countL, denM_countT, mStarts_s, mEnds_s, mSplit_s, dSl_s, dSl_t]
    refine attr_fld ha' t.count look_count ?_
    refine c_divisor_of hd hd2 (fun i hi => by have := o.pos i hi; omega) ?_
    simp only [den, Den.val, sSeq, sNx, sExpr, sRet, sRetN, sIf, sCt, sAsg, sPar, sFor, gNm, gTp, gLen, gsNil, gsCons, gOne, gStar1, gFld, gIx, eC, eVar, e1, e2, aNil, aCons, aStar, eTup, eB, eIf, eAnd, eOr, eNot, tAnd2, tOr2, tNot2, tE, tBl, tSel, oSel, E.isNil, E.many, E.glen, isCmp, eCall, eCm, eMk, eMkV, eAttr_d, eBm, eSl, oPart, eJoin, eChain, eComp, cIt, iOf, iEnum2, iZip2, tYes2, Cn.d, look, setAll, den2, denB, only1, only2, dIs, tyName, List.set_cons_zero, List.set_cons_succ, if_true, if_false, Bool.false_eq_true, List.map_cons, List.map_nil, Bool.not_true, Bool.not_false, true_and, and_true, true_or, or_true, or_false, false_or, and_false, false_and, decide_true, decide_false, String.reduceEq, eq_self, ne_eq, not_true_eq_false, not_false_eq_true, wipeE, List.cons_append, List.nil_append, dEq_ii, dEq_ss, List.length_cons, List.length_nil, Nat.reduceAdd, Nat.reduceSub, List.reduceReplicate, dAdd_ii, dAdd_ss, dAdd_tt, dSub_ii, dMul_ii, dMod_ii, dDiv_ii, dPow_ii, dCmp_ii, dNeg_i, dMx_ii, dMn_ii, dLen1_s, dLen1_t, dLen1_scr, dTuple_t, dStr_i, truth_b, truth_n, truth_i, rowsOf_t, rowsOf_s, rng1_i, rng2_ii, iRange1, iRange2, eLst, newL, kindOf_s, denM_append, denM_extend, denM_pop, denM_join, denM_split, denM_starts, denM_ends, denM_countL, denM_countT, mStarts_s, mEnds_s, mSplit_s, dSl_s, dSl_t]
    refine ⟨div_small (by omega), ?_⟩
    rw [fd (by omega)]
    exact hk _ Sub.rfl'
  · exact tuple_lst up_same (fin_same (hq _ (s2.trans (Sub.new hp2))))
/-- the product of the units -/
def unitsP (u : Int) (nss : List (List Int)) : Int := (nss.map fun ns => u / gcdL ns).foldl (fun x y => x * y) 1
theorem PlanOk.unit {u : Int} {nss : List (List Int)} (ok : PlanOk u nss) : ∀ i ∈ nss.map (fun ns => u / gcdL ns), 1 ≤ i ∧ i ≤ 60 := by
  intro i hi
  obtain ⟨ns, hns, rfl⟩ := List.mem_map.mp hi
  have g := (ok.ok ns hns).gcd
  have hu := ok.users
  constructor
  · exact Int.le_ediv_of_mul_le (by omega) (by omega)
  · have : u / gcdL ns ≤ u := Int.ediv_le_self _ (by omega)
    omega
theorem prod_pos : ∀ {l : List Int} {a : Int}, 1 ≤ a → (∀ i ∈ l, 1 ≤ i) → 1 ≤ l.foldl (fun x y => x * y) a
  | [], a, h, _ => h
  | i :: l, a, h, h2 => by
    refine prod_pos (l := l) ?_ fun j hj => h2 j (List.mem_cons_of_mem _ hj)
    have h3 := h2 i List.mem_cons_self
    have := Int.mul_le_mul_of_nonneg_left h3 (show 0 ≤ a by omega)
    show 1 ≤ a * i
    omega
theorem c_works (t : PlanT T) (hpr : T.pr "Plan" "units" = some .prop) (h : Γ (.me "Plan" "works") = some F_Plan_works) (hu : Γ (.me "Plan" "units") = some F_Plan_units) (hp : Γ (.fn "product_of") = some F_product_of) (hd : Γ (.fn "divisor_of") = some F_divisor_of) (hd2 : Γ (.fn "divisor") = some F_divisor) {a : Addr} {u : Int} {nss : List (List Int)} (ha : S a = some (planO u nss)) (ok : PlanOk u nss)
    (hq : ∀ S', Sub S S' → q (.bl (decide (u % unitsP u nss = 0))) S') : callW Γ T (n + 4) (.me "Plan" "works") [.ref a] S q r := by
  refine call_go h rfl rfl ?_
  unfold F_Plan_works e_Plan_works
  have ha2 := ha
  unfold planO at ha
  simp only [den, Den.val, sSeq, sNx, sExpr, sRet, sRetN, sIf, sCt, sAsg, sPar, sFor, gNm, gTp, gLen, gsNil, gsCons, gOne, gStar1, gFld, gIx, eC, eVar, e1, e2, aNil, aCons, aStar, eTup, eB, eIf, eAnd, eOr, eNot, tAnd2, tOr2, tNot2, tE, tBl, tSel, oSel, E.isNil, E.many, E.glen, isCmp, eCall, eCm, eMk, eMkV, eAttr_d, eBm, eSl, oPart, eJoin, eChain, eComp, cIt, iOf, iEnum2, iZip2, tYes2, Cn.d, look, setAll, den2, denB, only1, only2, dIs, tyName, List.set_cons_zero, List.set_cons_succ, if_true, if_false, Bool.false_eq_true, List.map_cons, List.map_nil, Bool.not_true, Bool.not_false, true_and, and_true, true_or, or_true, or_false, false_or, and_false, false_and, decide_true, decide_false, String.reduceEq, eq_self, ne_eq, not_true_eq_false, not_false_eq_true, wipeE, List.cons_append, List.nil_append, dEq_ii, dEq_ss, List.length_cons, List.length_nil, Nat.reduceAdd, Nat.reduceSub, List.reduceReplicate, dAdd_ii, dAdd_ss, dAdd_tt, dSub_ii, dMul_ii, dMod_ii, dDiv_ii, dPow_ii, dCmp_ii, dNeg_i, dMx_ii, dMn_ii, dLen1_s, dLen1_t, dLen1_scr, dTuple_t, dStr_i, truth_b, truth_n, truth_i, rowsOf_t, rowsOf_s, rng1_i, rng2_ii, iRange1, iRange2, eLst, newL, kindOf_s, denM_append, denM_extend, denM_pop, denM_join, denM_split, denM_starts, denM_ends, denM_countL, denM_countT, mStarts_s, mEnds_s, mSplit_s, dSl_s, dSl_t]
  refine attr_fld ha t.count look_count ?_
  refine attr_prop ha hpr ?_
  refine c_units t hu hd hd2 ha2 ok fun S2 s2 => ?_
  have un := ok.unit
  rw [show (nss.map fun ns => D.int (u / gcdL ns)) = (nss.map fun ns => u / gcdL ns).map .int by rw [List.map_map]; rfl]
  refine c_product_of hp (fun i hi => by have := un i hi; omega) ?_
  have pp : 1 ≤ unitsP u nss := prod_pos (Int.le_refl _) fun i hi => (un i hi).1
  simp only [den, Den.val, sSeq, sNx, sExpr, sRet, sRetN, sIf, sCt, sAsg, sPar, sFor, gNm, gTp, gLen, gsNil, gsCons, gOne, gStar1, gFld, gIx, eC, eVar, e1, e2, aNil, aCons, aStar, eTup, eB, eIf, eAnd, eOr, eNot, tAnd2, tOr2, tNot2, tE, tBl, tSel, oSel, E.isNil, E.many, E.glen, isCmp, eCall, eCm, eMk, eMkV, eAttr_d, eBm, eSl, oPart, eJoin, eChain, eComp, cIt, iOf, iEnum2, iZip2, tYes2, Cn.d, look, setAll, den2, denB, only1, only2, dIs, tyName, List.set_cons_zero, List.set_cons_succ, if_true, if_false, Bool.false_eq_true, List.map_cons, List.map_nil, Bool.not_true, Bool.not_false, true_and, and_true, true_or, or_true, or_false, false_or, and_false, false_and, decide_true, decide_false, String.reduceEq, eq_self, ne_eq, not_true_eq_false, not_false_eq_true, wipeE, List.cons_append, List.nil_append, dEq_ii, dEq_ss, List.length_cons, List.length_nil, Nat.reduceAdd, Nat.reduceSub, List.reduceReplicate, dAdd_ii, dAdd_ss, dAdd_tt, dSub_ii, dMul_ii, dMod_ii, dDiv_ii, dPow_ii, dCmp_ii, dNeg_i, dMx_ii, dMn_ii, dLen1_s, dLen1_t, dLen1_scr, dTuple_t, dStr_i, truth_b, truth_n, truth_i, rowsOf_t, rowsOf_s, rng1_i, rng2_ii, iRange1, iRange2, eLst, newL, kindOf_s, denM_append, denM_extend, denM_pop, denM_join, denM_split, denM_starts, denM_ends, denM_countL, denM_countT, mStarts_s, mEnds_s, mSplit_s, dSl_s, dSl_t]
  refine ⟨by show unitsP u nss ≠ 0; omega, fin_same ?_⟩
  rw [fm (by show 0 < unitsP u nss; omega)]
  exact hq _ s2
end
end C2

/-! A plan's text is read back. -/
namespace C2
open PySem PySem.Spec PyProof.Rows L2 TL
theorem joinL_head {Y a b : List Nat} : ∀ {r : List (List Nat)}, joinL Y ((a ++ b) :: r) = a ++ joinL Y (b :: r)
  | [] => rfl
  | c :: r => by simp only [joinL, List.append_assoc]
theorem tl_text {u : Int} {nss : List (List Int)} : tl (textS u nss) = tl (Str.ofString "users ") ++ (tl (Txt.join "\n" (bodyS u nss)) ++ [10]) := by
  unfold textS bodyS
  rw [tl_lines (A := "") (B := ""), TL.join_eq, TL.join_eq, TL.tl_join, TL.tl_join, List.map_cons, List.map_cons, tl_append, joinL_head, List.append_assoc]
theorem joinL_free {s : Nat} {Y : List Nat} (hy : s ∉ Y) : ∀ {ps : List (List Nat)}, (∀ p ∈ ps, s ∉ p) → s ∉ joinL Y ps
  | [], _ => by simp [joinL]
  | [p], h => h p List.mem_cons_self
  | p :: p2 :: r, h => by
    simp only [joinL, List.mem_append, not_or]
    exact ⟨h p List.mem_cons_self, hy, joinL_free hy fun z hz => h z (List.mem_cons_of_mem _ hz)⟩
theorem num_free {i : Int} {s : Nat} (h : 1 ≤ i ∧ i ≤ 60) (hs : s < 48) : s ∉ tl (numS i) := fun hm => by
  have := num_digits h s hm
  have e : ∀ c ∈ (Str.ofString "0123456789").cps.toList, 48 ≤ c := by decide +kernel
  have := e s this
  omega
theorem line_free {ns : List Int} (h : ∀ i ∈ ns, 1 ≤ i ∧ i ≤ 60) : 10 ∉ tl (lineS ns) := by
  unfold lineS
  rw [TL.join_eq, TL.tl_join]
  refine joinL_free (by decide +kernel) fun p hp => ?_
  obtain ⟨z, hz, rfl⟩ := List.mem_map.mp hp
  obtain ⟨i, hi, rfl⟩ := List.mem_map.mp hz
  exact num_free (h i hi) (by decide)
theorem split_line {ns : List Int} (h : ∀ i ∈ ns, 1 ≤ i ∧ i ≤ 60) (hn : ns ≠ []) : Txt.split (lineS ns) (Str.ofString " ") = ns.map numS := by
  refine TL.split_join (s := 32) (S := []) (by decide +kernel) (by decide +kernel) (by simpa using hn) fun p hp => ?_
  obtain ⟨i, hi, rfl⟩ := List.mem_map.mp hp
  exact num_free (h i hi) (by decide)
theorem split_body {u : Int} {nss : List (List Int)} (ok : PlanOk u nss) : Txt.split (Txt.join (Str.ofString "\n") (bodyS u nss)) (Str.ofString "\n") = bodyS u nss := by
  refine TL.split_join (s := 10) (S := []) (by decide +kernel) (by decide +kernel) (by simp [bodyS]) fun p hp => ?_
  rcases List.mem_cons.mp hp with rfl | hp
  · exact num_free ok.users (by decide)
  · obtain ⟨ns, hns, rfl⟩ := List.mem_map.mp hp
    exact line_free ((ok.ok ns hns).small ok.users.2)
theorem text_starts {u : Int} {nss : List (List Int)} : Txt.startswith (textS u nss) (Str.ofString "users ") = true := by
  have e : (textS u nss).cps.toList = tl (Str.ofString "users ") ++ (tl (Txt.join "\n" (bodyS u nss)) ++ [10]) := tl_text
  have e2 : (textS u nss).length = 6 + ((tl (Txt.join "\n" (bodyS u nss))).length + 1) := by
    rw [len_tl, tl_text, List.length_append, List.length_append]; rfl
  have e3 : (Str.ofString "users ").length = 6 := rfl
  unfold Txt.startswith
  rw [PySem.StrLaws.subAt_eq, e, e2, e3, List.drop_zero, List.take_left' (by rfl : (tl (Str.ofString "users ")).length = 6)]
  simp
theorem text_ends {u : Int} {nss : List (List Int)} : Txt.endswith (textS u nss) (Str.ofString "\n") = true := by
  have e : (textS u nss).cps.toList = (tl (Str.ofString "users ") ++ tl (Txt.join "\n" (bodyS u nss))) ++ [10] := by
    rw [List.append_assoc]; exact tl_text
  have e2 : (textS u nss).length = (tl (Str.ofString "users ") ++ tl (Txt.join "\n" (bodyS u nss))).length + 1 := by
    rw [len_tl]; show ((textS u nss).cps.toList).length = _; rw [e, List.length_append]; rfl
  have e3 : (Str.ofString "\n").length = 1 := rfl
  unfold Txt.endswith
  rw [PySem.StrLaws.subAt_eq, e, e2, e3, Nat.add_sub_cancel, List.drop_left' rfl]
  simp
  rfl
theorem text_cut {u : Int} {nss : List (List Int)} : cutS (textS u nss) (some 6) (some (-1)) = Txt.join (Str.ofString "\n") (bodyS u nss) := by
  refine ext_tl ?_
  unfold cutS
  rw [tl_mk]
  have e : (textS u nss).length = 6 + (tl (Txt.join (Str.ofString "\n") (bodyS u nss))).length + 1 := by
    rw [len_tl, tl_text, List.length_append, List.length_append]
    rw [show (tl (Str.ofString "users ")).length = 6 from rfl]
    simp; omega
  rw [e]
  show List.take _ (List.drop _ (tl (textS u nss))) = _
  rw [tl_text]
  have e1 : HT.sIx (6 + (tl (Txt.join (Str.ofString "\n") (bodyS u nss))).length + 1) 0 (some 6) = 6 := by
    unfold HT.sIx
    simp; omega
  have e2 : HT.sIx (6 + (tl (Txt.join (Str.ofString "\n") (bodyS u nss))).length + 1) (6 + (tl (Txt.join (Str.ofString "\n") (bodyS u nss))).length + 1) (some (-1)) = 6 + (tl (Txt.join (Str.ofString "\n") (bodyS u nss))).length := by
    unfold HT.sIx
    simp; omega
  rw [e1, e2, List.drop_left' (by rfl : (tl (Str.ofString "users ")).length = 6), Nat.add_sub_cancel_left, List.take_left' rfl]
theorem body_len {u : Int} {nss : List (List Int)} (ok : PlanOk u nss) : (Txt.join (Str.ofString "\n") (bodyS u nss)).length ≤ 200 ∧ (textS u nss).length ≤ 300 := by
  have h1 := join_len (y := Str.ofString "\n") (ps := bodyS u nss)
  have h2 := sum_le (f := fun z : Str => z.length) (b := 12) (l := bodyS u nss) fun x hx => by
    rcases List.mem_cons.mp hx with rfl | hx
    · have := num_len ok.users; omega
    · obtain ⟨ns, hns, rfl⟩ := List.mem_map.mp hx
      have := line_len ((ok.ok ns hns).small ok.users.2)
      have := (ok.ok ns hns).len
      omega
  have h3 : (bodyS u nss).length ≤ 6 := by
    have := ok.few
    simp [bodyS]; omega
  have h4 : (Str.ofString "\n").length = 1 := rfl
  rw [h4] at h1
  have h5 : (Txt.join (Str.ofString "\n") (bodyS u nss)).length ≤ 200 := by omega
  refine ⟨h5, ?_⟩
  rw [len_tl, tl_text, List.length_append, List.length_append, ← len_tl, ← len_tl]
  have : (Str.ofString "users ").length = 6 := rfl
  simp; omega
section
variable {Γ : Tbl} {T : CT} {n : Nat} {S : Sto} {q : DK} {r : Exc → Sto → Prop}
theorem c_read (t : PlanT T) (h : Γ (.me "Plan" "read") = some F_Plan_read) (hi : Γ (.me "Plan" "__init__") = some F_Plan___init) (hm : Γ (.fn "number_in") = some F_number_in) (hn : Γ (.fn "need_users") = some F_need_users) (hs : Γ (.fn "are_sizes") = some F_are_sizes) (hb : Γ (.fn "is_between") = some F_is_between) {u : Int} {nss : List (List Int)} (ok : PlanOk u nss)
    (hq : ∀ p S', S p = none → S' p = some (planO u nss) → Sub S S' → q (.ref p) S') : callW Γ T (n + 4) (.me "Plan" "read") [.cls "Plan", .str (textS u nss)] S q r := by
  refine call_go h rfl rfl ?_
  unfold F_Plan_read e_Plan_read
  simp (maxSteps := 2000000) only [den, Den.val, sSeq, sNx, sExpr, sRet, sRetN, sIf, sCt, sAsg, sPar, sFor, gNm, gTp, gLen, gsNil, gsCons, gOne, gStar1, gFld, gIx, eC, eVar, e1, e2, aNil, aCons, aStar, eTup, eB, eIf, eAnd, eOr, eNot, tAnd2, tOr2, tNot2, tE, tBl, tSel, oSel, E.isNil, E.many, E.glen, isCmp, eCall, eCm, eMk, eMkV, eAttr_d, eBm, eSl, oPart, eJoin, eChain, eComp, cIt, iOf, iEnum2, iZip2, tYes2, Cn.d, look, setAll, den2, denB, only1, only2, dIs, tyName, List.set_cons_zero, List.set_cons_succ, if_true, if_false, Bool.false_eq_true, List.map_cons, List.map_nil, Bool.not_true, Bool.not_false, true_and, and_true, true_or, or_true, or_false, false_or, and_false, false_and, decide_true, decide_false, String.reduceEq, eq_self, ne_eq, not_true_eq_false, not_false_eq_true, wipeE, List.cons_append, List.nil_append, dEq_ii, dEq_ss, List.length_cons, List.length_nil, Nat.reduceAdd, Nat.reduceSub, List.reduceReplicate, dAdd_ii, dAdd_ss, dAdd_tt, dSub_ii, dMul_ii, dMod_ii, dDiv_ii, dPow_ii, dCmp_ii, dNeg_i, dMx_ii, dMn_ii, dLen1_s, dLen1_t, dLen1_scr, dTuple_t, dStr_i, truth_b, truth_n, truth_i, rowsOf_t, rowsOf_s, rng1_i, rng2_ii, iRange1, iRange2, eLst, newL, kindOf_s, denM_append, denM_extend, denM_pop, denM_join, denM_split, denM_starts, denM_ends, denM_countL, denM_countT, mStarts_s, mEnds_s, mSplit_s, dSl_s, dSl_t]
  have sl := sl60
  have big : 16777216 ≤ sizeLine := by rw [sizeLine_eq]; decide
  have l5 := ok.few
  obtain ⟨b1, b2⟩ := body_len ok
  rw [text_starts, text_ends]
  simp only [den, Den.val, sSeq, sNx, sExpr, sRet, sRetN, sIf, sCt, sAsg, sPar, sFor, gNm, gTp, gLen, gsNil, gsCons, gOne, gStar1, gFld, gIx, eC, eVar, e1, e2, aNil, aCons, aStar, eTup, eB, eIf, eAnd, eOr, eNot, tAnd2, tOr2, tNot2, tE, tBl, tSel, oSel, E.isNil, E.many, E.glen, isCmp, eCall, eCm, eMk, eMkV, eAttr_d, eBm, eSl, oPart, eJoin, eChain, eComp, cIt, iOf, iEnum2, iZip2, tYes2, Cn.d, look, setAll, den2, denB, only1, only2, dIs, tyName, List.set_cons_zero, List.set_cons_succ, if_true, if_false, Bool.false_eq_true, List.map_cons, List.map_nil, Bool.not_true, Bool.not_false, true_and, and_true, true_or, or_true, or_false, false_or, and_false, false_and, decide_true, decide_false, String.reduceEq, eq_self, ne_eq, not_true_eq_false, not_false_eq_true, wipeE, List.cons_append, List.nil_append, dEq_ii, dEq_ss, List.length_cons, List.length_nil, Nat.reduceAdd, Nat.reduceSub, List.reduceReplicate, dAdd_ii, dAdd_ss, dAdd_tt, dSub_ii, dMul_ii, dMod_ii, dDiv_ii, dPow_ii, dCmp_ii, dNeg_i, dMx_ii, dMn_ii, dLen1_s, dLen1_t, dLen1_scr, dTuple_t, dStr_i, truth_b, truth_n, truth_i, rowsOf_t, rowsOf_s, rng1_i, rng2_ii, iRange1, iRange2, eLst, newL, kindOf_s, denM_append, denM_extend, denM_pop, denM_join, denM_split, denM_starts, denM_ends, denM_countL, denM_countT, mStarts_s, mEnds_s, mSplit_s, dSl_s, dSl_t]
  have l6 : ((Str.ofString "users ").length : Int) = 6 := rfl
  have l6' : (Str.ofString "users ").length = 6 := rfl
  rw [l6, text_cut, split_body ok]
  refine ⟨by omega, by omega, rfl, by omega, fun p1 hp1 => ?_⟩
  refine ⟨.str (numS u), (nss.map lineS).map .str, by rw [up_same]; rfl, by simp; omega, fun p2 hp2 => ?_⟩
  have s1 : Sub S (up S p1 (.lst ((bodyS u nss).map .str))) := Sub.new hp1
  refine c_number_in hm ok.users fun S2 s2 => ?_
  simp only [rowsOf_r]
  refine ⟨_, s2 _ _ up_same, ?_⟩
  rw [show List.map (fun d => [d]) ((nss.map lineS).map D.str) = nss.map fun ns => [D.str (lineS ns)] by rw [List.map_map, List.map_map]; rfl]
  refine comp_map (S := S2) (fun ns => szD ns) (fun S' s => s _ _ (s2 _ _ up_same)) Sub.rfl' (fun ns hns => ?_) (by simp; omega) fun S3 s3 p3 hp3 => ?_
  · have sm := (ok.ok ns hns).small ok.users.2
    have l4 := (ok.ok ns hns).len
    have ll := line_len sm
    refine ⟨_, rfl, fun S' k s hk => ?_⟩
    simp only [den, Den.val, sSeq, sNx, sExpr, sRet, sRetN, sIf, sCt, sAsg, sPar, sFor, gNm, gTp, gLen, gsNil, gsCons, gOne, gStar1, gFld, gIx, eC, eVar, e1, e2, aNil, aCons, aStar, eTup, eB, eIf, eAnd, eOr, eNot, tAnd2, tOr2, tNot2, tE, tBl, tSel, oSel, E.isNil, E.many, E.glen, isCmp, eCall, eCm, eMk, eMkV, eAttr_d, eBm, eSl, oPart, eJoin, eChain, eComp, cIt, iOf, iEnum2, iZip2, tYes2, Cn.d, look, setAll, den2, denB, only1, only2, dIs, tyName, List.set_cons_zero, List.set_cons_succ, if_true, if_false, Bool.false_eq_true, List.map_cons, List.map_nil, Bool.not_true, Bool.not_false, true_and, and_true, true_or, or_true, or_false, false_or, and_false, false_and, decide_true, decide_false, String.reduceEq, eq_self, ne_eq, not_true_eq_false, not_false_eq_true, wipeE, List.cons_append, List.nil_append, dEq_ii, dEq_ss, List.length_cons, List.length_nil, Nat.reduceAdd, Nat.reduceSub, List.reduceReplicate, dAdd_ii, dAdd_ss, dAdd_tt, dSub_ii, dMul_ii, dMod_ii, dDiv_ii, dPow_ii, dCmp_ii, dNeg_i, dMx_ii, dMn_ii, dLen1_s, dLen1_t, dLen1_scr, dTuple_t, dStr_i, truth_b, truth_n, truth_i, rowsOf_t, rowsOf_s, rng1_i, rng2_ii, iRange1, iRange2, eLst, newL, kindOf_s, denM_append, denM_extend, denM_pop, denM_join, denM_split, denM_starts, denM_ends, denM_countL, denM_countT, mStarts_s, mEnds_s, mSplit_s, dSl_s, dSl_t]
    refine ⟨rfl, by omega, fun p4 hp4 => ?_⟩
    rw [split_line sm (by intro z; rw [z] at l4; simp at l4)]
    simp only [rowsOf_r]
    refine ⟨_, up_same, ?_⟩
    rw [show List.map (fun d => [d]) ((ns.map numS).map D.str) = ns.map fun i => [D.str (numS i)] by rw [List.map_map, List.map_map]; rfl]
    refine comp_map (S := up S' p4 (.lst ((ns.map numS).map .str))) (fun i => .int i) (fun S' s => s _ _ up_same) Sub.rfl' (fun i hi => ?_) (by simp; omega) fun S5 s5 p5 hp5 => ?_
    · refine ⟨_, rfl, fun S' k s hk => ?_⟩
      simp only [den, Den.val, sSeq, sNx, sExpr, sRet, sRetN, sIf, sCt, sAsg, sPar, sFor, gNm, gTp, gLen, gsNil, gsCons, gOne, gStar1, gFld, gIx, eC, eVar, e1, e2, aNil, aCons, aStar, eTup, eB, eIf, eAnd, eOr, eNot, tAnd2, tOr2, tNot2, tE, tBl, tSel, oSel, E.isNil, E.many, E.glen, isCmp, eCall, eCm, eMk, eMkV, eAttr_d, eBm, eSl, oPart, eJoin, eChain, eComp, cIt, iOf, iEnum2, iZip2, tYes2, Cn.d, look, setAll, den2, denB, only1, only2, dIs, tyName, List.set_cons_zero, List.set_cons_succ, if_true, if_false, Bool.false_eq_true, List.map_cons, List.map_nil, Bool.not_true, Bool.not_false, true_and, and_true, true_or, or_true, or_false, false_or, and_false, false_and, decide_true, decide_false, String.reduceEq, eq_self, ne_eq, not_true_eq_false, not_false_eq_true, wipeE, List.cons_append, List.nil_append, dEq_ii, dEq_ss, List.length_cons, List.length_nil, Nat.reduceAdd, Nat.reduceSub, List.reduceReplicate, dAdd_ii, dAdd_ss, dAdd_tt, dSub_ii, dMul_ii, dMod_ii, dDiv_ii, dPow_ii, dCmp_ii, dNeg_i, dMx_ii, dMn_ii, dLen1_s, dLen1_t, dLen1_scr, dTuple_t, dStr_i, truth_b, truth_n, truth_i, rowsOf_t, rowsOf_s, rng1_i, rng2_ii, iRange1, iRange2, eLst, newL, kindOf_s, denM_append, denM_extend, denM_pop, denM_join, denM_split, denM_starts, denM_ends, denM_countL, denM_countT, mStarts_s, mEnds_s, mSplit_s, dSl_s, dSl_t]
      exact c_number_in hm (sm i hi) hk
    · exact tuple_lst up_same (hk _ (((Sub.new hp4).trans s5).trans (Sub.new hp5)))
  have s13 : Sub S (up S3 p3 (.lst (nss.map szD))) := (((s1.trans (Sub.new hp2)).trans s2).trans s3).trans (Sub.new hp3)
  refine ⟨by omega, c_between hb ?_⟩
  simp only [ok.users.1, ok.users.2, den, Den.val, sSeq, sNx, sExpr, sRet, sRetN, sIf, sCt, sAsg, sPar, sFor, gNm, gTp, gLen, gsNil, gsCons, gOne, gStar1, gFld, gIx, eC, eVar, e1, e2, aNil, aCons, aStar, eTup, eB, eIf, eAnd, eOr, eNot, tAnd2, tOr2, tNot2, tE, tBl, tSel, oSel, E.isNil, E.many, E.glen, isCmp, eCall, eCm, eMk, eMkV, eAttr_d, eBm, eSl, oPart, eJoin, eChain, eComp, cIt, iOf, iEnum2, iZip2, tYes2, Cn.d, look, setAll, den2, denB, only1, only2, dIs, tyName, List.set_cons_zero, List.set_cons_succ, if_true, if_false, Bool.false_eq_true, List.map_cons, List.map_nil, Bool.not_true, Bool.not_false, true_and, and_true, true_or, or_true, or_false, false_or, and_false, false_and, decide_true, decide_false, String.reduceEq, eq_self, ne_eq, not_true_eq_false, not_false_eq_true, wipeE, List.cons_append, List.nil_append, dEq_ii, dEq_ss, List.length_cons, List.length_nil, Nat.reduceAdd, Nat.reduceSub, List.reduceReplicate, dAdd_ii, dAdd_ss, dAdd_tt, dSub_ii, dMul_ii, dMod_ii, dDiv_ii, dPow_ii, dCmp_ii, dNeg_i, dMx_ii, dMn_ii, dLen1_s, dLen1_t, dLen1_scr, dTuple_t, dStr_i, truth_b, truth_n, truth_i, rowsOf_t, rowsOf_s, rng1_i, rng2_ii, iRange1, iRange2, eLst, newL, kindOf_s, denM_append, denM_extend, denM_pop, denM_join, denM_split, denM_starts, denM_ends, denM_countL, denM_countT, mStarts_s, mEnds_s, mSplit_s, dSl_s, dSl_t, Bool.and_self]
  refine len_lst up_same ?_
  have e5 : ¬ (5 : Int) < (nss.map szD).length := by rw [List.length_map]; omega
  simp only [den, Den.val, sSeq, sNx, sExpr, sRet, sRetN, sIf, sCt, sAsg, sPar, sFor, gNm, gTp, gLen, gsNil, gsCons, gOne, gStar1, gFld, gIx, eC, eVar, e1, e2, aNil, aCons, aStar, eTup, eB, eIf, eAnd, eOr, eNot, tAnd2, tOr2, tNot2, tE, tBl, tSel, oSel, E.isNil, E.many, E.glen, isCmp, eCall, eCm, eMk, eMkV, eAttr_d, eBm, eSl, oPart, eJoin, eChain, eComp, cIt, iOf, iEnum2, iZip2, tYes2, Cn.d, look, setAll, den2, denB, only1, only2, dIs, tyName, List.set_cons_zero, List.set_cons_succ, if_true, if_false, Bool.false_eq_true, List.map_cons, List.map_nil, Bool.not_true, Bool.not_false, true_and, and_true, true_or, or_true, or_false, false_or, and_false, false_and, decide_true, decide_false, String.reduceEq, eq_self, ne_eq, not_true_eq_false, not_false_eq_true, wipeE, List.cons_append, List.nil_append, dEq_ii, dEq_ss, List.length_cons, List.length_nil, Nat.reduceAdd, Nat.reduceSub, List.reduceReplicate, dAdd_ii, dAdd_ss, dAdd_tt, dSub_ii, dMul_ii, dMod_ii, dDiv_ii, dPow_ii, dCmp_ii, dNeg_i, dMx_ii, dMn_ii, dLen1_s, dLen1_t, dLen1_scr, dTuple_t, dStr_i, truth_b, truth_n, truth_i, rowsOf_t, rowsOf_s, rng1_i, rng2_ii, iRange1, iRange2, eLst, newL, kindOf_s, denM_append, denM_extend, denM_pop, denM_join, denM_split, denM_starts, denM_ends, denM_countL, denM_countT, mStarts_s, mEnds_s, mSplit_s, dSl_s, dSl_t, e5, rowsOf_r]
  refine ⟨_, up_same, ?_⟩
  rw [rows_szs]
  refine comp_map (S := up S3 p3 (.lst (nss.map szD))) (fun ns => .bl true) (fun S' s => s _ _ up_same) Sub.rfl' (fun ns hns => ?_) (by simp; omega) fun S6 s6 p6 hp6 => ?_
  · refine ⟨_, rfl, fun S' k s hk => ?_⟩
    simp only [den, Den.val, sSeq, sNx, sExpr, sRet, sRetN, sIf, sCt, sAsg, sPar, sFor, gNm, gTp, gLen, gsNil, gsCons, gOne, gStar1, gFld, gIx, eC, eVar, e1, e2, aNil, aCons, aStar, eTup, eB, eIf, eAnd, eOr, eNot, tAnd2, tOr2, tNot2, tE, tBl, tSel, oSel, E.isNil, E.many, E.glen, isCmp, eCall, eCm, eMk, eMkV, eAttr_d, eBm, eSl, oPart, eJoin, eChain, eComp, cIt, iOf, iEnum2, iZip2, tYes2, Cn.d, look, setAll, den2, denB, only1, only2, dIs, tyName, List.set_cons_zero, List.set_cons_succ, if_true, if_false, Bool.false_eq_true, List.map_cons, List.map_nil, Bool.not_true, Bool.not_false, true_and, and_true, true_or, or_true, or_false, false_or, and_false, false_and, decide_true, decide_false, String.reduceEq, eq_self, ne_eq, not_true_eq_false, not_false_eq_true, wipeE, List.cons_append, List.nil_append, dEq_ii, dEq_ss, List.length_cons, List.length_nil, Nat.reduceAdd, Nat.reduceSub, List.reduceReplicate, dAdd_ii, dAdd_ss, dAdd_tt, dSub_ii, dMul_ii, dMod_ii, dDiv_ii, dPow_ii, dCmp_ii, dNeg_i, dMx_ii, dMn_ii, dLen1_s, dLen1_t, dLen1_scr, dTuple_t, dStr_i, truth_b, truth_n, truth_i, rowsOf_t, rowsOf_s, rng1_i, rng2_ii, iRange1, iRange2, eLst, newL, kindOf_s, denM_append, denM_extend, denM_pop, denM_join, denM_split, denM_starts, denM_ends, denM_countL, denM_countT, mStarts_s, mEnds_s, mSplit_s, dSl_s, dSl_t]
    exact c_are_sizes hs hb (ok.ok ns hns) (hk _ Sub.rfl')
  refine all_true up_same (fun d hd => ?_) ?_
  · rw [List.nil_append] at hd
    obtain ⟨x, _, rfl⟩ := List.mem_map.mp hd
    rfl
  have s16 : Sub (up S3 p3 (.lst (nss.map szD))) (up S6 p6 (.lst (nss.map fun _ => D.bl true))) := s6.trans (Sub.new hp6)
  simp only [den, Den.val, sSeq, sNx, sExpr, sRet, sRetN, sIf, sCt, sAsg, sPar, sFor, gNm, gTp, gLen, gsNil, gsCons, gOne, gStar1, gFld, gIx, eC, eVar, e1, e2, aNil, aCons, aStar, eTup, eB, eIf, eAnd, eOr, eNot, tAnd2, tOr2, tNot2, tE, tBl, tSel, oSel, E.isNil, E.many, E.glen, isCmp, eCall, eCm, eMk, eMkV, eAttr_d, eBm, eSl, oPart, eJoin, eChain, eComp, cIt, iOf, iEnum2, iZip2, tYes2, Cn.d, look, setAll, den2, denB, only1, only2, dIs, tyName, List.set_cons_zero, List.set_cons_succ, if_true, if_false, Bool.false_eq_true, List.map_cons, List.map_nil, Bool.not_true, Bool.not_false, true_and, and_true, true_or, or_true, or_false, false_or, and_false, false_and, decide_true, decide_false, String.reduceEq, eq_self, ne_eq, not_true_eq_false, not_false_eq_true, wipeE, List.cons_append, List.nil_append, dEq_ii, dEq_ss, List.length_cons, List.length_nil, Nat.reduceAdd, Nat.reduceSub, List.reduceReplicate, dAdd_ii, dAdd_ss, dAdd_tt, dSub_ii, dMul_ii, dMod_ii, dDiv_ii, dPow_ii, dCmp_ii, dNeg_i, dMx_ii, dMn_ii, dLen1_s, dLen1_t, dLen1_scr, dTuple_t, dStr_i, truth_b, truth_n, truth_i, rowsOf_t, rowsOf_s, rng1_i, rng2_ii, iRange1, iRange2, eLst, newL, kindOf_s, denM_append, denM_extend, denM_pop, denM_join, denM_split, denM_starts, denM_ends, denM_countL, denM_countT, mStarts_s, mEnds_s, mSplit_s, dSl_s, dSl_t]
  refine ⟨t.made, nss.map szD, by simp only [seqI, s16 _ _ up_same], fun a ha => ?_⟩
  rw [List.append_nil]
  refine c_init t hi hn hs hb up_same ok fun S7 h7 k7 => ⟨rfl, fin_same (hq a S7 ((s13.trans s16).free ha) h7 fun b o hb => ?_)⟩
  have ne : b ≠ a := by
    rintro rfl
    rw [(s13.trans s16) _ _ hb] at ha; cases ha
  exact k7 _ _ ne (by rw [up_ne ne]; exact (s13.trans s16) _ _ hb)
end
end C2

/-! Texts of values. -/
namespace C2
open PySem PySem.Spec PyProof.Rows L2 TL
mutual
/-- its ints are from 0 on and not great -/
def tame : PyData → Bool
  | .none => true
  | .bool _ => true
  | .str _ => true
  | .int i => decide (0 ≤ i) && decide (i < 1000000000000)
  | .list xs => tameAll xs
  | .tuple xs => tameAll xs
  | .dict _ => false
def tameAll : List PyData → Bool
  | [] => true
  | x :: xs => tame x && tameAll xs
end
theorem shown_int {i : Int} (h : 0 ≤ i ∧ i < 1000000000000) : (PyData.shown (.int i)).length ≤ 13 := by
  obtain ⟨k, rfl⟩ := Int.eq_ofNat_of_zero_le h.1
  rw [PyData.shown]
  rw [len_tl]
  show (tl (Str.ofString (toString ((k : Nat) : Int)))).length ≤ 13
  rw [tl_num]
  exact Nat.le_trans (numL_len (k := 12) (by decide) (by have := h.2; omega)) (by decide)
mutual
theorem tame_short : ∀ p : PyData, tame p = true → p.intsShort 13 = true
  | .none, _ => by simp only [PyData.intsShort]
  | .bool _, _ => by simp only [PyData.intsShort]
  | .str _, _ => by simp only [PyData.intsShort]
  | .int i, h => by
    simp only [tame, Bool.and_eq_true, decide_eq_true_eq] at h
    simp only [PyData.intsShort, decide_eq_true_eq]
    exact shown_int h
  | .list xs, h => by
    rw [tame] at h
    rw [PyData.intsShort]; exact tame_shortAll xs h
  | .tuple xs, h => by
    rw [tame] at h
    rw [PyData.intsShort]; exact tame_shortAll xs h
  | .dict _, h => by simp [tame] at h
theorem tame_shortAll : ∀ ps : List PyData, tameAll ps = true → PyData.intsShortAll 13 ps = true
  | [], _ => by simp only [PyData.intsShortAll]
  | p :: ps, h => by
    simp only [tameAll, Bool.and_eq_true] at h
    rw [PyData.intsShortAll, tame_short p h.1, tame_shortAll ps h.2]; rfl
end
mutual
theorem tame_showable : ∀ p : PyData, tame p = true → p.showable = true
  | .none, _ => by simp only [PyData.showable]
  | .bool _, _ => by simp only [PyData.showable]
  | .str _, _ => by simp only [PyData.showable]
  | .int i, h => by
    simp only [tame, Bool.and_eq_true, decide_eq_true_eq] at h
    simp only [PyData.showable, decide_eq_true_eq]
    have : i.natAbs < 2 ^ 40 := by omega
    by_cases z : i.natAbs = 0
    · rw [z]; decide
    · have := (Nat.log2_lt z).mpr this
      omega
  | .list xs, h => by
    rw [tame] at h
    rw [PyData.showable]; exact tame_showableAll xs h
  | .tuple xs, h => by
    rw [tame] at h
    rw [PyData.showable]; exact tame_showableAll xs h
  | .dict _, h => by simp [tame] at h
theorem tame_showableAll : ∀ ps : List PyData, tameAll ps = true → PyData.showableAll ps = true
  | [], _ => by simp only [PyData.showableAll]
  | p :: ps, h => by
    simp only [tameAll, Bool.and_eq_true] at h
    rw [PyData.showableAll, tame_showable p h.1, tame_showableAll ps h.2]; rfl
end
theorem repr_ok {x : D} {S : Sto} {p : PyData} {q : DK} (hr : isRef x = true) (h : py S 8 x = some p) (ht : tame p = true) (hw : p.weight ≤ 2 ^ 20) (hq : q (.str p.shown) S) : dRepr x S q := by
  obtain ⟨h1, h2⟩ := py_ok h
  have hl : p.layable0 = true := by
    unfold PyData.layable0
    rw [h1, Bool.true_and, Bool.and_eq_true, decide_eq_true_eq, decide_eq_true_eq]
    exact ⟨by omega, hw⟩
  have h3 := PyProof.Rows.shown_le13 hl (tame_short p ht)
  have h4 : sizeLine = 16777216 := sizeLine_eq
  exact ⟨hr, p, h, tame_showable p ht, by omega, hq⟩
theorem tameAll_ints {ns : List Int} (h : ∀ i ∈ ns, 0 ≤ i ∧ i < 1000000000000) : tameAll (ns.map .int) = true := by
  induction ns with
  | nil => rw [List.map_nil, tameAll]
  | cons i ns ih =>
    have h1 := h i List.mem_cons_self
    rw [List.map_cons, tameAll, ih fun j hj => h j (List.mem_cons_of_mem _ hj), tame]
    simp [h1]
theorem weight_int {i : Int} (h : 0 ≤ i ∧ i < 1000000000000) : PyData.weight (.int i) ≤ 41 := by
  rw [PyData.weight]
  split
  · decide
  · have : i.natAbs < 2 ^ 40 := by omega
    by_cases z : i.natAbs = 0
    · rw [z]; decide
    · have := (Nat.log2_lt z).mpr this
      omega
theorem weight_ints : ∀ {ns : List Int}, (∀ i ∈ ns, 0 ≤ i ∧ i < 1000000000000) → PyData.weightAll (ns.map .int) ≤ ns.length * 42
  | [], _ => by simp [PyData.weightAll]
  | i :: ns, h => by
    have h1 := weight_int (h i List.mem_cons_self)
    have h2 := weight_ints (ns := ns) fun j hj => h j (List.mem_cons_of_mem _ hj)
    rw [List.map_cons, PyData.weightAll, List.length_cons, Nat.add_mul]
    omega
theorem cutD_map {α β : Type} {f : α → β} {l : List α} {lo hi : Option Int} : cutD (l.map f) lo hi = (cutD l lo hi).map f := by
  unfold cutD
  rw [List.length_map, List.map_take, List.map_drop]
theorem cutD_mem {α : Type} {l : List α} {lo hi : Option Int} {x : α} (h : x ∈ cutD l lo hi) : x ∈ l := List.mem_of_mem_drop (List.mem_of_mem_take h)
theorem PlanOk.cut {u : Int} {nss : List (List Int)} {lo hi : Option Int} (ok : PlanOk u nss) : PlanOk u (cutD nss lo hi) := by
  refine ⟨ok.users, ?_, fun ns h => ok.ok ns (cutD_mem h)⟩
  unfold cutD
  have := ok.few
  rw [List.length_take, List.length_drop]
  omega
section
variable {Γ : Tbl} {T : CT} {n : Nat} {S : Sto} {q : DK} {r : Exc → Sto → Prop}
theorem c_right (t : PlanT T) (hcm : T.pr "Plan" "units" = some .prop) (hcw : T.pr "Plan" "works" = some .prop) (h : Γ (.fn "_law_right") = some F_law_right) (hlt : Γ (.fn "_law_text") = some F_law_text) (hlu : Γ (.fn "_law_unit") = some F_law_unit) (hr : Γ (.me "Plan" "read") = some F_Plan_read) (hi : Γ (.me "Plan" "__init__") = some F_Plan___init) (hm : Γ (.fn "number_in") = some F_number_in) (hn : Γ (.fn "need_users") = some F_need_users) (hs : Γ (.fn "are_sizes") = some F_are_sizes) (hb : Γ (.fn "is_between") = some F_is_between)
    (hw : Γ (.me "Plan" "works") = some F_Plan_works) (hu : Γ (.me "Plan" "units") = some F_Plan_units) (hp : Γ (.fn "product_of") = some F_product_of) (hd : Γ (.fn "divisor_of") = some F_divisor_of) (hd2 : Γ (.fn "divisor") = some F_divisor)
    {u : Int} {nss : List (List Int)} {x : Addr} (ok : PlanOk u nss) (hx : S x = some (.lst (nss.map szD))) (hq : ∀ S', Sub S S' → q (.bl true) S') : callW Γ T (n + 5) (.fn "_law_right") [.int u, .ref x] S q r := by
  have sl := sl60
  have l5 := ok.few
  refine call_go h rfl rfl ?_
  unfold F_law_right e_law_right
  simp (maxSteps := 2000000) only [den, Den.val, sSeq, sNx, sExpr, sRet, sRetN, sIf, sCt, sAsg, sPar, sFor, gNm, gTp, gLen, gsNil, gsCons, gOne, gStar1, gFld, gIx, eC, eVar, e1, e2, aNil, aCons, aStar, eTup, eB, eIf, eAnd, eOr, eNot, tAnd2, tOr2, tNot2, tE, tBl, tSel, oSel, E.isNil, E.many, E.glen, isCmp, eCall, eCm, eMk, eMkV, eAttr_d, eBm, eSl, oPart, eJoin, eChain, eComp, cIt, iOf, iEnum2, iZip2, tYes2, Cn.d, look, setAll, den2, denB, only1, only2, dIs, tyName, List.set_cons_zero, List.set_cons_succ, if_true, if_false, Bool.false_eq_true, List.map_cons, List.map_nil, Bool.not_true, Bool.not_false, true_and, and_true, true_or, or_true, or_false, false_or, and_false, false_and, decide_true, decide_false, String.reduceEq, eq_self, ne_eq, not_true_eq_false, not_false_eq_true, wipeE, List.cons_append, List.nil_append, dEq_ii, dEq_ss, List.length_cons, List.length_nil, Nat.reduceAdd, Nat.reduceSub, List.reduceReplicate, dAdd_ii, dAdd_ss, dAdd_tt, dSub_ii, dMul_ii, dMod_ii, dDiv_ii, dPow_ii, dCmp_ii, dNeg_i, dMx_ii, dMn_ii, dLen1_s, dLen1_t, dLen1_scr, dTuple_t, dStr_i, truth_b, truth_n, truth_i, rowsOf_t, rowsOf_s, rng1_i, rng2_ii, iRange1, iRange2, eLst, newL, kindOf_s, denM_append, denM_extend, denM_pop, denM_join, denM_split, denM_starts, denM_ends, denM_countL, denM_countT, mStarts_s, mEnds_s, mSplit_s, dSl_s, dSl_t]
  refine c_law_text hlt ok.users (by omega) ok.ok hx fun S1 s1 => ?_
  refine c_read t hr hi hm hn hs hb ok fun p S2 hp0 hp2 s2 => ?_
  have s02 := s1.trans s2
  simp only [rowsOf_r]
  refine ⟨_, s02 _ _ hx, ?_⟩
  rw [rows_szs]
  refine comp_map (S := S2) (fun ns => .int (u / gcdL ns)) (fun S' s => s _ _ (s02 _ _ hx)) Sub.rfl' (fun ns hns => ?_) (by simp; omega) fun S3 s3 p3 hp3 => ?_
  · refine ⟨_, rfl, fun S' k s hk => ?_⟩
    simp only [den, Den.val, sSeq, sNx, sExpr, sRet, sRetN, sIf, sCt, sAsg, sPar, sFor, gNm, gTp, gLen, gsNil, gsCons, gOne, gStar1, gFld, gIx, eC, eVar, e1, e2, aNil, aCons, aStar, eTup, eB, eIf, eAnd, eOr, eNot, tAnd2, tOr2, tNot2, tE, tBl, tSel, oSel, E.isNil, E.many, E.glen, isCmp, eCall, eCm, eMk, eMkV, eAttr_d, eBm, eSl, oPart, eJoin, eChain, eComp, cIt, iOf, iEnum2, iZip2, tYes2, Cn.d, look, setAll, den2, denB, only1, only2, dIs, tyName, List.set_cons_zero, List.set_cons_succ, if_true, if_false, Bool.false_eq_true, List.map_cons, List.map_nil, Bool.not_true, Bool.not_false, true_and, and_true, true_or, or_true, or_false, false_or, and_false, false_and, decide_true, decide_false, String.reduceEq, eq_self, ne_eq, not_true_eq_false, not_false_eq_true, wipeE, List.cons_append, List.nil_append, dEq_ii, dEq_ss, List.length_cons, List.length_nil, Nat.reduceAdd, Nat.reduceSub, List.reduceReplicate, dAdd_ii, dAdd_ss, dAdd_tt, dSub_ii, dMul_ii, dMod_ii, dDiv_ii, dPow_ii, dCmp_ii, dNeg_i, dMx_ii, dMn_ii, dLen1_s, dLen1_t, dLen1_scr, dTuple_t, dStr_i, truth_b, truth_n, truth_i, rowsOf_t, rowsOf_s, rng1_i, rng2_ii, iRange1, iRange2, eLst, newL, kindOf_s, denM_append, denM_extend, denM_pop, denM_join, denM_split, denM_starts, denM_ends, denM_countL, denM_countT, mStarts_s, mEnds_s, mSplit_s, dSl_s, dSl_t]
    exact c_unit hlu ok.users (ok.ok ns hns) hk
  refine tuple_lst up_same ?_
  have un := ok.unit
  rw [List.nil_append, show (nss.map fun ns => D.int (u / gcdL ns)) = (nss.map fun ns => u / gcdL ns).map .int by rw [List.map_map]; rfl]
  simp only [den, Den.val, sSeq, sNx, sExpr, sRet, sRetN, sIf, sCt, sAsg, sPar, sFor, gNm, gTp, gLen, gsNil, gsCons, gOne, gStar1, gFld, gIx, eC, eVar, e1, e2, aNil, aCons, aStar, eTup, eB, eIf, eAnd, eOr, eNot, tAnd2, tOr2, tNot2, tE, tBl, tSel, oSel, E.isNil, E.many, E.glen, isCmp, eCall, eCm, eMk, eMkV, eAttr_d, eBm, eSl, oPart, eJoin, eChain, eComp, cIt, iOf, iEnum2, iZip2, tYes2, Cn.d, look, setAll, den2, denB, only1, only2, dIs, tyName, List.set_cons_zero, List.set_cons_succ, if_true, if_false, Bool.false_eq_true, List.map_cons, List.map_nil, Bool.not_true, Bool.not_false, true_and, and_true, true_or, or_true, or_false, false_or, and_false, false_and, decide_true, decide_false, String.reduceEq, eq_self, ne_eq, not_true_eq_false, not_false_eq_true, wipeE, List.cons_append, List.nil_append, dEq_ii, dEq_ss, List.length_cons, List.length_nil, Nat.reduceAdd, Nat.reduceSub, List.reduceReplicate, dAdd_ii, dAdd_ss, dAdd_tt, dSub_ii, dMul_ii, dMod_ii, dDiv_ii, dPow_ii, dCmp_ii, dNeg_i, dMx_ii, dMn_ii, dLen1_s, dLen1_t, dLen1_scr, dTuple_t, dStr_i, truth_b, truth_n, truth_i, rowsOf_t, rowsOf_s, rng1_i, rng2_ii, iRange1, iRange2, eLst, newL, kindOf_s, denM_append, denM_extend, denM_pop, denM_join, denM_split, denM_starts, denM_ends, denM_countL, denM_countT, mStarts_s, mEnds_s, mSplit_s, dSl_s, dSl_t]
  have hp4 : (up S3 p3 (.lst ((nss.map fun ns => u / gcdL ns).map .int))) p = some (planO u nss) := (s3.trans (Sub.new hp3)) _ _ hp2
  have s04 : Sub S (up S3 p3 (.lst ((nss.map fun ns => u / gcdL ns).map .int))) := (s02.trans s3).trans (Sub.new hp3)
  revert hp4 s04
  generalize (up S3 p3 (.lst ((nss.map fun ns => u / gcdL ns).map .int))) = S4
  intro hp4 s04
  have pp : 1 ≤ unitsP u nss := prod_pos (Int.le_refl _) fun i hi => (un i hi).1
  refine forD_inv (fun rows e S' => ∃ (l : List Int) (a : Int) (y : Option D), rows = l.map (fun i => [D.int i]) ∧ S' = S4 ∧ (∀ i ∈ l, 1 ≤ i ∧ i ≤ 60) ∧ l.foldl (fun x y => x * y) a = unitsP u nss ∧ e = [some (.int u), some (.ref x), some (.int a), y, none, some (.ref p), some (.tup ((nss.map fun ns => u / gcdL ns).map .int)), none]) (fun _ _ _ _ => trivial) ?_ ?_ _ _ _ ⟨nss.map fun ns => u / gcdL ns, 1, _, rows_sz, rfl, un, rfl, rfl⟩
  · rintro row rows e S' ⟨l, a, y, hl, rfl, hb, hf, rfl⟩ kk hk
    cases l with
    | nil => cases hl
    | cons i l =>
      rw [List.map_cons] at hl
      injection hl with hl1 hl2
      subst hl1 hl2
      simp only [den, Den.val, sSeq, sNx, sExpr, sRet, sRetN, sIf, sCt, sAsg, sPar, sFor, gNm, gTp, gLen, gsNil, gsCons, gOne, gStar1, gFld, gIx, eC, eVar, e1, e2, aNil, aCons, aStar, eTup, eB, eIf, eAnd, eOr, eNot, tAnd2, tOr2, tNot2, tE, tBl, tSel, oSel, E.isNil, E.many, E.glen, isCmp, eCall, eCm, eMk, eMkV, eAttr_d, eBm, eSl, oPart, eJoin, eChain, eComp, cIt, iOf, iEnum2, iZip2, tYes2, Cn.d, look, setAll, den2, denB, only1, only2, dIs, tyName, List.set_cons_zero, List.set_cons_succ, if_true, if_false, Bool.false_eq_true, List.map_cons, List.map_nil, Bool.not_true, Bool.not_false, true_and, and_true, true_or, or_true, or_false, false_or, and_false, false_and, decide_true, decide_false, String.reduceEq, eq_self, ne_eq, not_true_eq_false, not_false_eq_true, wipeE, List.cons_append, List.nil_append, dEq_ii, dEq_ss, List.length_cons, List.length_nil, Nat.reduceAdd, Nat.reduceSub, List.reduceReplicate, dAdd_ii, dAdd_ss, dAdd_tt, dSub_ii, dMul_ii, dMod_ii, dDiv_ii, dPow_ii, dCmp_ii, dNeg_i, dMx_ii, dMn_ii, dLen1_s, dLen1_t, dLen1_scr, dTuple_t, dStr_i, truth_b, truth_n, truth_i, rowsOf_t, rowsOf_s, rng1_i, rng2_ii, iRange1, iRange2, eLst, newL, kindOf_s, denM_append, denM_extend, denM_pop, denM_join, denM_split, denM_starts, denM_ends, denM_countL, denM_countT, mStarts_s, mEnds_s, mSplit_s, dSl_s, dSl_t]
      have := hb i List.mem_cons_self
      exact ⟨mul_small2 (by omega), hk _ _ ⟨l, a * i, _, rfl, rfl, fun j hj => hb j (List.mem_cons_of_mem _ hj), hf, rfl⟩⟩
  · rintro e S' ⟨l, a, y, hl, rfl, _, hf, rfl⟩
    have : l = [] := by cases l with | nil => rfl | cons _ _ => cases hl
    subst this
    obtain rfl : a = unitsP u nss := hf
    simp only [den, Den.val, sSeq, sNx, sExpr, sRet, sRetN, sIf, sCt, sAsg, sPar, sFor, gNm, gTp, gLen, gsNil, gsCons, gOne, gStar1, gFld, gIx, eC, eVar, e1, e2, aNil, aCons, aStar, eTup, eB, eIf, eAnd, eOr, eNot, tAnd2, tOr2, tNot2, tE, tBl, tSel, oSel, E.isNil, E.many, E.glen, isCmp, eCall, eCm, eMk, eMkV, eAttr_d, eBm, eSl, oPart, eJoin, eChain, eComp, cIt, iOf, iEnum2, iZip2, tYes2, Cn.d, look, setAll, den2, denB, only1, only2, dIs, tyName, List.set_cons_zero, List.set_cons_succ, if_true, if_false, Bool.false_eq_true, List.map_cons, List.map_nil, Bool.not_true, Bool.not_false, true_and, and_true, true_or, or_true, or_false, false_or, and_false, false_and, decide_true, decide_false, String.reduceEq, eq_self, ne_eq, not_true_eq_false, not_false_eq_true, wipeE, List.cons_append, List.nil_append, dEq_ii, dEq_ss, List.length_cons, List.length_nil, Nat.reduceAdd, Nat.reduceSub, List.reduceReplicate, dAdd_ii, dAdd_ss, dAdd_tt, dSub_ii, dMul_ii, dMod_ii, dDiv_ii, dPow_ii, dCmp_ii, dNeg_i, dMx_ii, dMn_ii, dLen1_s, dLen1_t, dLen1_scr, dTuple_t, dStr_i, truth_b, truth_n, truth_i, rowsOf_t, rowsOf_s, rng1_i, rng2_ii, iRange1, iRange2, eLst, newL, kindOf_s, denM_append, denM_extend, denM_pop, denM_join, denM_split, denM_starts, denM_ends, denM_countL, denM_countT, mStarts_s, mEnds_s, mSplit_s, dSl_s, dSl_t]
    refine attr_prop hp4 hcm (c_units t hu hd hd2 hp4 ok fun S5 s5 => ?_)
    have h5 := s5 _ _ hp4
    refine attr_prop h5 hcw (c_works t hcm hw hu hp hd hd2 h5 ok fun S6 s6 => ?_)
    have h6 := s6 _ _ h5
    refine attr_prop h6 hcm (c_units t hu hd hd2 h6 ok fun S7 s7 => ?_)
    have h7 := s7 _ _ h6
    refine attr_prop h7 hcw (c_works t hcm hw hu hp hd hd2 h7 ok fun S8 s8 => ?_)
    refine ⟨by omega, fun p9 hp9 => ?_⟩
    rw [show (nss.map fun ns => D.int (u / gcdL ns)) = (nss.map fun ns => u / gcdL ns).map .int by rw [List.map_map]; rfl]
    have unl : (nss.map fun ns => u / gcdL ns).length ≤ 5 := by rw [List.length_map]; omega
    revert un unl
    generalize (nss.map fun ns => u / gcdL ns) = us
    intro un unl
    have efm : u.fmod (unitsP u nss) = u % unitsP u nss := fm (by omega)
    simp only [efm]
    generalize decide (u % unitsP u nss = 0) = b
    have un2 : ∀ i ∈ us, 0 ≤ i ∧ i < 1000000000000 := fun i hi => by have := un i hi; omega
    have pyl : ∀ (S : Sto) (a : Addr), S a = some (.lst [.tup (us.map .int), .bl b, .tup (us.map .int), .bl b]) → py S 8 (.ref a) = some (.list [.tuple (us.map .int), .bool b, .tuple (us.map .int), .bool b]) := by
      intro S a h
      have e1 : py S 7 (.tup (us.map .int)) = some (.tuple (us.map .int)) := py_tints
      have e2 : py S 7 (.bl b) = some (.bool b) := rfl
      simp only [py, h, pyAll, pyAll_ints]
    have tm : tame (.list [.tuple (us.map .int), .bool b, .tuple (us.map .int), .bool b]) = true := by
      simp only [tame, tameAll, tameAll_ints un2, Bool.and_self]
    have wt : (PyData.list [.tuple (us.map .int), .bool b, .tuple (us.map .int), .bool b]).weight ≤ 2 ^ 20 := by
      have := weight_ints un2
      simp only [PyData.weight, PyData.weightAll]
      omega
    refine repr_ok rfl (pyl _ p9 up_same) tm wt ?_
    refine ⟨by omega, by omega, fun p10 hp10 => ?_⟩
    rw [dMul_ri]
    refine ⟨_, up_same, by decide, by decide, by simp; omega, fun p11 hp11 => ?_⟩
    refine repr_ok rfl (pyl _ p11 up_same) tm wt ?_
    simp only [den, Den.val, sSeq, sNx, sExpr, sRet, sRetN, sIf, sCt, sAsg, sPar, sFor, gNm, gTp, gLen, gsNil, gsCons, gOne, gStar1, gFld, gIx, eC, eVar, e1, e2, aNil, aCons, aStar, eTup, eB, eIf, eAnd, eOr, eNot, tAnd2, tOr2, tNot2, tE, tBl, tSel, oSel, E.isNil, E.many, E.glen, isCmp, eCall, eCm, eMk, eMkV, eAttr_d, eBm, eSl, oPart, eJoin, eChain, eComp, cIt, iOf, iEnum2, iZip2, tYes2, Cn.d, look, setAll, den2, denB, only1, only2, dIs, tyName, List.set_cons_zero, List.set_cons_succ, if_true, if_false, Bool.false_eq_true, List.map_cons, List.map_nil, Bool.not_true, Bool.not_false, true_and, and_true, true_or, or_true, or_false, false_or, and_false, false_and, decide_true, decide_false, String.reduceEq, eq_self, ne_eq, not_true_eq_false, not_false_eq_true, wipeE, List.cons_append, List.nil_append, dEq_ii, dEq_ss, List.length_cons, List.length_nil, Nat.reduceAdd, Nat.reduceSub, List.reduceReplicate, dAdd_ii, dAdd_ss, dAdd_tt, dSub_ii, dMul_ii, dMod_ii, dDiv_ii, dPow_ii, dCmp_ii, dNeg_i, dMx_ii, dMn_ii, dLen1_s, dLen1_t, dLen1_scr, dTuple_t, dStr_i, truth_b, truth_n, truth_i, rowsOf_t, rowsOf_s, rng1_i, rng2_ii, iRange1, iRange2, eLst, newL, kindOf_s, denM_append, denM_extend, denM_pop, denM_join, denM_split, denM_starts, denM_ends, denM_countL, denM_countT, mStarts_s, mEnds_s, mSplit_s, dSl_s, dSl_t]
    exact fin_same (hq _ ((((((s04.trans s5).trans s6).trans s7).trans s8).trans (Sub.new hp9)).trans ((Sub.new hp10).trans (Sub.new hp11))))
end
end C2

namespace K43p
open PySem PySem.Spec PyProof.Rows L2 C2
def e_law : E := (.sq (.for1 (.gnm 1) (.rng1 (.bi .max (.cons (.cn (.int 1)) (.cons (.bi .min (.cons (.bi .len (.cons (.var 0) .nil)) (.cons (.cn (.int 3)) .nil))) .nil))))
    (.sq (.asg (.gnm 2) (.call "_law_pen" (.cons (.call "_law_cell_at" (.cons (.var 0) (.cons (.var 1) .nil))) .nil)))
    (.sq (.for1 (.gnm 3) (.rng1 (.cn (.int 8)))
    (.sq (.asg (.gtp (.cons (.gnm 4) (.cons (.gnm 5) .nil))) (.call "_law_drawn" (.cons (.var 2) (.cons (.cn (.int 1024)) .nil))))
    (.sq (.ifs (.orv (.notv (.call "_law_right" (.cons (.var 4) (.cons (.var 5) .nil)))) (.orv (.notv (.call "_law_right" (.cons (.var 4) (.cons (.sl (.var 5) .nil (.neg (.cn (.int 1)))) .nil)))) (.last (.notv (.call "_law_right" (.cons (.var 4) (.cons (.sl (.var 5) .nil (.cn (.int 2))) .nil)))))))
    (.sq (.ret (.cn (.bl false)))
    .nil)
    .nil)
    .nil)))
    .nil)))
    (.sq (.ret (.cn (.bl true)))
    .nil))
def F_law : Fun := ⟨1, false, 6, e_law⟩
section
variable {Γ : Tbl} {T : CT} {n : Nat} {S : Sto}
theorem c_law (t : PlanT T) (hcm : T.pr "Plan" "units" = some .prop) (hcw : T.pr "Plan" "works" = some .prop) (h : Γ (.fn "law") = some F_law) (hca : Γ (.fn "_law_cell_at") = some F_law_cell_at) (hpen : Γ (.fn "_law_pen") = some F_law_pen) (hdr : Γ (.fn "_law_drawn") = some F_law_drawn) (hdw : Γ (.fn "_law_draw") = some F_law_draw) (hsz : Γ (.fn "_law_sizes") = some F_law_sizes)
    (hri : Γ (.fn "_law_right") = some F_law_right) (hlt : Γ (.fn "_law_text") = some F_law_text) (hlu : Γ (.fn "_law_unit") = some F_law_unit) (hr : Γ (.me "Plan" "read") = some F_Plan_read) (hi : Γ (.me "Plan" "__init__") = some F_Plan___init) (hm : Γ (.fn "number_in") = some F_number_in) (hn : Γ (.fn "need_users") = some F_need_users) (hs : Γ (.fn "are_sizes") = some F_are_sizes) (hb : Γ (.fn "is_between") = some F_is_between)
    (hw : Γ (.me "Plan" "works") = some F_Plan_works) (hu : Γ (.me "Plan" "units") = some F_Plan_units) (hp : Γ (.fn "product_of") = some F_product_of) (hd : Γ (.fn "divisor_of") = some F_divisor_of) (hd2 : Γ (.fn "divisor") = some F_divisor) {ns : List Int} {q : DK} {r : Exc → Sto → Prop} (hl : ns.length ≤ 63) (hq : ∀ S', q (.bl true) S') : callW Γ T (n + 6) (.fn "law") [.scr ns] S q r := by
  refine call_go h rfl rfl ?_
  unfold F_law e_law
  simp (maxSteps := 2000000) only [den, Den.val, sSeq, sNx, sExpr, sRet, sRetN, sIf, sCt, sAsg, sPar, sFor, gNm, gTp, gLen, gsNil, gsCons, gOne, gStar1, gFld, gIx, eC, eVar, e1, e2, aNil, aCons, aStar, eTup, eB, eIf, eAnd, eOr, eNot, tAnd2, tOr2, tNot2, tE, tBl, tSel, oSel, E.isNil, E.many, E.glen, isCmp, eCall, eCm, eMk, eMkV, eAttr_d, eBm, eSl, oPart, eJoin, eChain, eComp, cIt, iOf, iEnum2, iZip2, tYes2, Cn.d, look, setAll, den2, denB, only1, only2, dIs, tyName, List.set_cons_zero, List.set_cons_succ, if_true, if_false, Bool.false_eq_true, List.map_cons, List.map_nil, Bool.not_true, Bool.not_false, true_and, and_true, true_or, or_true, or_false, false_or, and_false, false_and, decide_true, decide_false, String.reduceEq, eq_self, ne_eq, not_true_eq_false, not_false_eq_true, wipeE, List.cons_append, List.nil_append, dEq_ii, dEq_ss, List.length_cons, List.length_nil, Nat.reduceAdd, Nat.reduceSub, List.reduceReplicate, dAdd_ii, dAdd_ss, dAdd_tt, dSub_ii, dMul_ii, dMod_ii, dDiv_ii, dPow_ii, dCmp_ii, dNeg_i, dMx_ii, dMn_ii, dLen1_s, dLen1_t, dLen1_scr, dTuple_t, dStr_i, truth_b, truth_n, truth_i, rowsOf_t, rowsOf_s, rng1_i, rng2_ii, iRange1, iRange2, eLst, newL, kindOf_s, denM_append, denM_extend, denM_pop, denM_join, denM_split, denM_starts, denM_ends, denM_countL, denM_countT, mStarts_s, mEnds_s, mSplit_s, dSl_s, dSl_t]
  refine ⟨by omega, by omega, ?_⟩
  refine forD_range (fun i e S' => 0 ≤ i ∧ ∃ a b c d f, e = [some (.scr ns), a, b, c, d, f]) (fun _ _ _ _ => trivial) _ _ _ _ ?_ ?_ ⟨Int.le_refl _, _, _, _, _, _, rfl⟩
  · rintro i e S1 i0 i1 ⟨_, a, b, c, d, f, rfl⟩ kk hk
    simp only [den, Den.val, sSeq, sNx, sExpr, sRet, sRetN, sIf, sCt, sAsg, sPar, sFor, gNm, gTp, gLen, gsNil, gsCons, gOne, gStar1, gFld, gIx, eC, eVar, e1, e2, aNil, aCons, aStar, eTup, eB, eIf, eAnd, eOr, eNot, tAnd2, tOr2, tNot2, tE, tBl, tSel, oSel, E.isNil, E.many, E.glen, isCmp, eCall, eCm, eMk, eMkV, eAttr_d, eBm, eSl, oPart, eJoin, eChain, eComp, cIt, iOf, iEnum2, iZip2, tYes2, Cn.d, look, setAll, den2, denB, only1, only2, dIs, tyName, List.set_cons_zero, List.set_cons_succ, if_true, if_false, Bool.false_eq_true, List.map_cons, List.map_nil, Bool.not_true, Bool.not_false, true_and, and_true, true_or, or_true, or_false, false_or, and_false, false_and, decide_true, decide_false, String.reduceEq, eq_self, ne_eq, not_true_eq_false, not_false_eq_true, wipeE, List.cons_append, List.nil_append, dEq_ii, dEq_ss, List.length_cons, List.length_nil, Nat.reduceAdd, Nat.reduceSub, List.reduceReplicate, dAdd_ii, dAdd_ss, dAdd_tt, dSub_ii, dMul_ii, dMod_ii, dDiv_ii, dPow_ii, dCmp_ii, dNeg_i, dMx_ii, dMn_ii, dLen1_s, dLen1_t, dLen1_scr, dTuple_t, dStr_i, truth_b, truth_n, truth_i, rowsOf_t, rowsOf_s, rng1_i, rng2_ii, iRange1, iRange2, eLst, newL, kindOf_s, denM_append, denM_extend, denM_pop, denM_join, denM_split, denM_starts, denM_ends, denM_countL, denM_countT, mStarts_s, mEnds_s, mSplit_s, dSl_s, dSl_t]
    refine c_cell_at hca i0 fun v => ?_
    refine c_pen hpen fun p S2 hp2 s2 pen => ?_
    refine ⟨by decide, by decide, ?_⟩
    refine forD_range (fun j e S' => 0 ≤ j ∧ Pen S' p (j * 400) ∧ ∃ a b c d, e = [some (.scr ns), a, some (.ref p), b, c, d]) (fun _ _ _ _ => trivial) _ _ _ _ ?_ ?_ ⟨Int.le_refl _, by simpa using pen, _, _, _, _, rfl⟩
    · rintro j e S3 j0 j1 ⟨_, pen3, a, b, c, d, rfl⟩ kk2 hk2
      simp only [den, Den.val, sSeq, sNx, sExpr, sRet, sRetN, sIf, sCt, sAsg, sPar, sFor, gNm, gTp, gLen, gsNil, gsCons, gOne, gStar1, gFld, gIx, eC, eVar, e1, e2, aNil, aCons, aStar, eTup, eB, eIf, eAnd, eOr, eNot, tAnd2, tOr2, tNot2, tE, tBl, tSel, oSel, E.isNil, E.many, E.glen, isCmp, eCall, eCm, eMk, eMkV, eAttr_d, eBm, eSl, oPart, eJoin, eChain, eComp, cIt, iOf, iEnum2, iZip2, tYes2, Cn.d, look, setAll, den2, denB, only1, only2, dIs, tyName, List.set_cons_zero, List.set_cons_succ, if_true, if_false, Bool.false_eq_true, List.map_cons, List.map_nil, Bool.not_true, Bool.not_false, true_and, and_true, true_or, or_true, or_false, false_or, and_false, false_and, decide_true, decide_false, String.reduceEq, eq_self, ne_eq, not_true_eq_false, not_false_eq_true, wipeE, List.cons_append, List.nil_append, dEq_ii, dEq_ss, List.length_cons, List.length_nil, Nat.reduceAdd, Nat.reduceSub, List.reduceReplicate, dAdd_ii, dAdd_ss, dAdd_tt, dSub_ii, dMul_ii, dMod_ii, dDiv_ii, dPow_ii, dCmp_ii, dNeg_i, dMx_ii, dMn_ii, dLen1_s, dLen1_t, dLen1_scr, dTuple_t, dStr_i, truth_b, truth_n, truth_i, rowsOf_t, rowsOf_s, rng1_i, rng2_ii, iRange1, iRange2, eLst, newL, kindOf_s, denM_append, denM_extend, denM_pop, denM_join, denM_split, denM_starts, denM_ends, denM_countL, denM_countT, mStarts_s, mEnds_s, mSplit_s, dSl_s, dSl_t]
      refine c_drawn hdr hdw hsz pen3 (by omega) (by decide) fun u nss pl S4 u1 u2 few ok _ hpl hpl4 pen4 off4 => ?_
      have np : pl ≠ p := pen3.ne hpl
      have okp : PlanOk u nss := ⟨⟨u1, u2⟩, few, ok⟩
      simp only [den, Den.val, sSeq, sNx, sExpr, sRet, sRetN, sIf, sCt, sAsg, sPar, sFor, gNm, gTp, gLen, gsNil, gsCons, gOne, gStar1, gFld, gIx, eC, eVar, e1, e2, aNil, aCons, aStar, eTup, eB, eIf, eAnd, eOr, eNot, tAnd2, tOr2, tNot2, tE, tBl, tSel, oSel, E.isNil, E.many, E.glen, isCmp, eCall, eCm, eMk, eMkV, eAttr_d, eBm, eSl, oPart, eJoin, eChain, eComp, cIt, iOf, iEnum2, iZip2, tYes2, Cn.d, look, setAll, den2, denB, only1, only2, dIs, tyName, List.set_cons_zero, List.set_cons_succ, if_true, if_false, Bool.false_eq_true, List.map_cons, List.map_nil, Bool.not_true, Bool.not_false, true_and, and_true, true_or, or_true, or_false, false_or, and_false, false_and, decide_true, decide_false, String.reduceEq, eq_self, ne_eq, not_true_eq_false, not_false_eq_true, wipeE, List.cons_append, List.nil_append, dEq_ii, dEq_ss, List.length_cons, List.length_nil, Nat.reduceAdd, Nat.reduceSub, List.reduceReplicate, dAdd_ii, dAdd_ss, dAdd_tt, dSub_ii, dMul_ii, dMod_ii, dDiv_ii, dPow_ii, dCmp_ii, dNeg_i, dMx_ii, dMn_ii, dLen1_s, dLen1_t, dLen1_scr, dTuple_t, dStr_i, truth_b, truth_n, truth_i, rowsOf_t, rowsOf_s, rng1_i, rng2_ii, iRange1, iRange2, eLst, newL, kindOf_s, denM_append, denM_extend, denM_pop, denM_join, denM_split, denM_starts, denM_ends, denM_countL, denM_countT, mStarts_s, mEnds_s, mSplit_s, dSl_s, dSl_t, dSl_r]
      refine c_right t hcm hcw hri hlt hlu hr hi hm hn hs hb hw hu hp hd hd2 okp hpl4 fun S5 s5 => ?_
      simp only [den, Den.val, sSeq, sNx, sExpr, sRet, sRetN, sIf, sCt, sAsg, sPar, sFor, gNm, gTp, gLen, gsNil, gsCons, gOne, gStar1, gFld, gIx, eC, eVar, e1, e2, aNil, aCons, aStar, eTup, eB, eIf, eAnd, eOr, eNot, tAnd2, tOr2, tNot2, tE, tBl, tSel, oSel, E.isNil, E.many, E.glen, isCmp, eCall, eCm, eMk, eMkV, eAttr_d, eBm, eSl, oPart, eJoin, eChain, eComp, cIt, iOf, iEnum2, iZip2, tYes2, Cn.d, look, setAll, den2, denB, only1, only2, dIs, tyName, List.set_cons_zero, List.set_cons_succ, if_true, if_false, Bool.false_eq_true, List.map_cons, List.map_nil, Bool.not_true, Bool.not_false, true_and, and_true, true_or, or_true, or_false, false_or, and_false, false_and, decide_true, decide_false, String.reduceEq, eq_self, ne_eq, not_true_eq_false, not_false_eq_true, wipeE, List.cons_append, List.nil_append, dEq_ii, dEq_ss, List.length_cons, List.length_nil, Nat.reduceAdd, Nat.reduceSub, List.reduceReplicate, dAdd_ii, dAdd_ss, dAdd_tt, dSub_ii, dMul_ii, dMod_ii, dDiv_ii, dPow_ii, dCmp_ii, dNeg_i, dMx_ii, dMn_ii, dLen1_s, dLen1_t, dLen1_scr, dTuple_t, dStr_i, truth_b, truth_n, truth_i, rowsOf_t, rowsOf_s, rng1_i, rng2_ii, iRange1, iRange2, eLst, newL, kindOf_s, denM_append, denM_extend, denM_pop, denM_join, denM_split, denM_starts, denM_ends, denM_countL, denM_countT, mStarts_s, mEnds_s, mSplit_s, dSl_s, dSl_t]
      refine ⟨_, s5 _ _ hpl4, fun p6 hp6 => ?_⟩
      rw [cutD_map]
      refine c_right t hcm hcw hri hlt hlu hr hi hm hn hs hb hw hu hp hd hd2 okp.cut up_same fun S7 s7 => ?_
      simp only [den, Den.val, sSeq, sNx, sExpr, sRet, sRetN, sIf, sCt, sAsg, sPar, sFor, gNm, gTp, gLen, gsNil, gsCons, gOne, gStar1, gFld, gIx, eC, eVar, e1, e2, aNil, aCons, aStar, eTup, eB, eIf, eAnd, eOr, eNot, tAnd2, tOr2, tNot2, tE, tBl, tSel, oSel, E.isNil, E.many, E.glen, isCmp, eCall, eCm, eMk, eMkV, eAttr_d, eBm, eSl, oPart, eJoin, eChain, eComp, cIt, iOf, iEnum2, iZip2, tYes2, Cn.d, look, setAll, den2, denB, only1, only2, dIs, tyName, List.set_cons_zero, List.set_cons_succ, if_true, if_false, Bool.false_eq_true, List.map_cons, List.map_nil, Bool.not_true, Bool.not_false, true_and, and_true, true_or, or_true, or_false, false_or, and_false, false_and, decide_true, decide_false, String.reduceEq, eq_self, ne_eq, not_true_eq_false, not_false_eq_true, wipeE, List.cons_append, List.nil_append, dEq_ii, dEq_ss, List.length_cons, List.length_nil, Nat.reduceAdd, Nat.reduceSub, List.reduceReplicate, dAdd_ii, dAdd_ss, dAdd_tt, dSub_ii, dMul_ii, dMod_ii, dDiv_ii, dPow_ii, dCmp_ii, dNeg_i, dMx_ii, dMn_ii, dLen1_s, dLen1_t, dLen1_scr, dTuple_t, dStr_i, truth_b, truth_n, truth_i, rowsOf_t, rowsOf_s, rng1_i, rng2_ii, iRange1, iRange2, eLst, newL, kindOf_s, denM_append, denM_extend, denM_pop, denM_join, denM_split, denM_starts, denM_ends, denM_countL, denM_countT, mStarts_s, mEnds_s, mSplit_s, dSl_s, dSl_t]
      have s57 := s5.trans ((C2.Sub.new hp6).trans s7)
      refine ⟨_, s57 _ _ hpl4, fun p8 hp8 => ?_⟩
      rw [cutD_map]
      refine c_right t hcm hcw hri hlt hlu hr hi hm hn hs hb hw hu hp hd hd2 okp.cut up_same fun S9 s9 => ?_
      simp only [den, Den.val, sSeq, sNx, sExpr, sRet, sRetN, sIf, sCt, sAsg, sPar, sFor, gNm, gTp, gLen, gsNil, gsCons, gOne, gStar1, gFld, gIx, eC, eVar, e1, e2, aNil, aCons, aStar, eTup, eB, eIf, eAnd, eOr, eNot, tAnd2, tOr2, tNot2, tE, tBl, tSel, oSel, E.isNil, E.many, E.glen, isCmp, eCall, eCm, eMk, eMkV, eAttr_d, eBm, eSl, oPart, eJoin, eChain, eComp, cIt, iOf, iEnum2, iZip2, tYes2, Cn.d, look, setAll, den2, denB, only1, only2, dIs, tyName, List.set_cons_zero, List.set_cons_succ, if_true, if_false, Bool.false_eq_true, List.map_cons, List.map_nil, Bool.not_true, Bool.not_false, true_and, and_true, true_or, or_true, or_false, false_or, and_false, false_and, decide_true, decide_false, String.reduceEq, eq_self, ne_eq, not_true_eq_false, not_false_eq_true, wipeE, List.cons_append, List.nil_append, dEq_ii, dEq_ss, List.length_cons, List.length_nil, Nat.reduceAdd, Nat.reduceSub, List.reduceReplicate, dAdd_ii, dAdd_ss, dAdd_tt, dSub_ii, dMul_ii, dMod_ii, dDiv_ii, dPow_ii, dCmp_ii, dNeg_i, dMx_ii, dMn_ii, dLen1_s, dLen1_t, dLen1_scr, dTuple_t, dStr_i, truth_b, truth_n, truth_i, rowsOf_t, rowsOf_s, rng1_i, rng2_ii, iRange1, iRange2, eLst, newL, kindOf_s, denM_append, denM_extend, denM_pop, denM_join, denM_split, denM_starts, denM_ends, denM_countL, denM_countT, mStarts_s, mEnds_s, mSplit_s, dSl_s, dSl_t]
      have s59 := s57.trans ((C2.Sub.new hp8).trans s9)
      refine hk2 _ _ ⟨by omega, (pen4.sub s59).mono (by omega), _, _, _, _, rfl⟩
    · rintro e S3 ⟨_, _, a, b, c, d, rfl⟩
      exact hk _ _ ⟨by omega, _, _, _, _, _, rfl⟩
  · rintro e S' ⟨_, a, b, c, d, f, rfl⟩
    simp only [den, Den.val, sSeq, sNx, sExpr, sRet, sRetN, sIf, sCt, sAsg, sPar, sFor, gNm, gTp, gLen, gsNil, gsCons, gOne, gStar1, gFld, gIx, eC, eVar, e1, e2, aNil, aCons, aStar, eTup, eB, eIf, eAnd, eOr, eNot, tAnd2, tOr2, tNot2, tE, tBl, tSel, oSel, E.isNil, E.many, E.glen, isCmp, eCall, eCm, eMk, eMkV, eAttr_d, eBm, eSl, oPart, eJoin, eChain, eComp, cIt, iOf, iEnum2, iZip2, tYes2, Cn.d, look, setAll, den2, denB, only1, only2, dIs, tyName, List.set_cons_zero, List.set_cons_succ, if_true, if_false, Bool.false_eq_true, List.map_cons, List.map_nil, Bool.not_true, Bool.not_false, true_and, and_true, true_or, or_true, or_false, false_or, and_false, false_and, decide_true, decide_false, String.reduceEq, eq_self, ne_eq, not_true_eq_false, not_false_eq_true, wipeE, List.cons_append, List.nil_append, dEq_ii, dEq_ss, List.length_cons, List.length_nil, Nat.reduceAdd, Nat.reduceSub, List.reduceReplicate, dAdd_ii, dAdd_ss, dAdd_tt, dSub_ii, dMul_ii, dMod_ii, dDiv_ii, dPow_ii, dCmp_ii, dNeg_i, dMx_ii, dMn_ii, dLen1_s, dLen1_t, dLen1_scr, dTuple_t, dStr_i, truth_b, truth_n, truth_i, rowsOf_t, rowsOf_s, rng1_i, rng2_ii, iRange1, iRange2, eLst, newL, kindOf_s, denM_append, denM_extend, denM_pop, denM_join, denM_split, denM_starts, denM_ends, denM_countL, denM_countT, mStarts_s, mEnds_s, mSplit_s, dSl_s, dSl_t]
    exact fin_same (hq _)
end
end K43p

namespace K43
open PySem PySem.Spec PyProof.Rows L2 C2
def T (i : Nat) : Stmt := PySem.Challenge.pw_crossarms_k43_units_and_works.main.body.getD i (.Pass ⟨0, 0, 0, 0⟩)
def M (i j : Nat) : Stmt := (clsBody (T i)).getD j (.Pass ⟨0, 0, 0, 0⟩)
def e_law : E := (.sq (.for1 (.gnm 1) (.rng1 (.bi .max (.cons (.cn (.int 1)) (.cons (.bi .min (.cons (.bi .len (.cons (.var 0) .nil)) (.cons (.cn (.int 3)) .nil))) .nil))))
    (.sq (.asg (.gnm 2) (.call "_law_pen" (.cons (.call "_law_cell_at" (.cons (.var 0) (.cons (.var 1) .nil))) .nil)))
    (.sq (.for1 (.gnm 3) (.rng1 (.cn (.int 8)))
    (.sq (.asg (.gtp (.cons (.gnm 4) (.cons (.gnm 5) .nil))) (.call "_law_drawn" (.cons (.var 2) (.cons (.cn (.int 1024)) .nil))))
    (.sq (.ifs (.orv (.notv (.call "_law_right" (.cons (.var 4) (.cons (.var 5) .nil)))) (.orv (.notv (.call "_law_right" (.cons (.var 4) (.cons (.sl (.var 5) .nil (.neg (.cn (.int 1)))) .nil)))) (.last (.notv (.call "_law_right" (.cons (.var 4) (.cons (.sl (.var 5) .nil (.cn (.int 2))) .nil)))))))
    (.sq (.ret (.cn (.bl false)))
    .nil)
    .nil)
    .nil)))
    .nil)))
    (.sq (.ret (.cn (.bl true)))
    .nil))
def f_law : DF := ⟨.fn "law", "law", "law", defArgs (T 40), defBody (T 40), defScope (T 40), ["_law_script", "_law_k", "_law_pen_here", "_law_lap", "_law_users", "_law_some"], ["_law_script"], true, ⟨1, false, 6, e_law⟩⟩
def e_law_right : E := (.sq (.par [5, 6] (.cons (.cm "Plan" "read" (.cons (.call "_law_text" (.cons (.var 0) (.cons (.var 1) .nil))) .nil)) (.cons (.bi .tuple (.cons (.comp [7] (.var 1) [7] false .nil (.call "_law_unit" (.cons (.var 0) (.cons (.var 7) .nil)))) .nil)) .nil)))
    (.sq (.asg (.gnm 2) (.cn (.int 1)))
    (.sq (.for1 (.gnm 3) (.var 6)
    (.sq (.asg (.gnm 2) (.op .mul (.var 2) (.var 3)))
    .nil))
    (.sq (.asg (.gnm 4) (.lst (.cons (.attr "units" (.var 5)) (.cons (.attr "works" (.var 5)) (.cons (.attr "units" (.var 5)) (.cons (.attr "works" (.var 5)) .nil))))))
    (.sq (.ret (.op .eq (.bi .repr (.cons (.var 4) .nil)) (.bi .repr (.cons (.op .mul (.lst (.cons (.var 6) (.cons (.op .eq (.op .md (.var 0) (.var 2)) (.cn (.int 0))) .nil))) (.cn (.int 2))) .nil))))
    .nil)))))
def f_law_right : DF := ⟨.fn "_law_right", "_law_right", "_law_right", defArgs (T 39), defBody (T 39), defScope (T 39), ["_law_users", "_law_some", "_law_found", "_law_unit_here", "_law_told", "_law_made", "_law_due", "_law_sizes_here"], ["_law_users", "_law_some"], true, ⟨2, false, 8, e_law_right⟩⟩
def e_law_drawn : E := (.sq (.asg (.gnm 2) (.ix (.lst (.cons (.cn (.int 1)) (.cons (.cn (.int 2)) (.cons (.cn (.int 6)) (.cons (.cn (.int 7)) (.cons (.cn (.int 12)) (.cons (.cn (.int 24)) (.cons (.cn (.int 25)) (.cons (.cn (.int 36)) (.cons (.cn (.int 48)) (.cons (.cn (.int 59)) (.cons (.cn (.int 60)) (.cons (.op .add (.cn (.int 1)) (.call "_law_draw" (.cons (.var 0) (.cons (.cn (.int 60)) .nil)))) .nil))))))))))))) (.call "_law_draw" (.cons (.var 0) (.cons (.cn (.int 12)) .nil)))))
    (.sq (.par [4, 5] (.cons (.lst .nil) (.cons (.cn (.int 1)) .nil)))
    (.sq (.for1 (.gnm 3) (.rng1 (.call "_law_draw" (.cons (.var 0) (.cons (.cn (.int 6)) .nil))))
    (.sq (.asg (.gnm 6) (.call "_law_sizes" (.cons (.var 0) (.cons (.var 2) .nil))))
    (.sq (.ifs (.op .le (.op .mul (.var 5) (.bi .len (.cons (.var 6) .nil))) (.var 1))
    (.sq (.exp (.bm .append (.var 4) (.cons (.var 6) .nil)))
    (.sq (.asg (.gnm 5) (.op .mul (.var 5) (.bi .len (.cons (.var 6) .nil))))
    .nil))
    .nil)
    .nil)))
    (.sq (.ret (.tup (.cons (.var 2) (.cons (.var 4) .nil))))
    .nil))))
def f_law_drawn : DF := ⟨.fn "_law_drawn", "_law_drawn", "_law_drawn", defArgs (T 35), defBody (T 35), defScope (T 35), ["_law_pen_here", "_law_most", "_law_users", "_law_turn", "_law_found", "_law_many", "_law_sizes_here"], ["_law_pen_here", "_law_most"], true, ⟨2, false, 7, e_law_drawn⟩⟩
def e_law_pen : E := (.sq (.ret (.lst (.cons (.bi .max (.cons (.cn (.int 0)) (.cons (.op .sub (.var 0) (.op .pw (.cn (.int 10)) (.cn (.int 18)))) .nil))) (.cons (.op .md (.var 0) (.cn (.int 1000000007))) (.cons (.cn (.int 0)) .nil)))))
    .nil)
def f_law_pen : DF := ⟨.fn "_law_pen", "_law_pen", "_law_pen", defArgs (T 31), defBody (T 31), defScope (T 31), ["_law_cell"], ["_law_cell"], true, ⟨1, false, 1, e_law_pen⟩⟩
def e_law_cell_at : E := (.sq (.ifs (.op .lt (.var 1) (.bi .len (.cons (.var 0) .nil)))
    (.sq (.ret (.ix (.var 0) (.var 1)))
    .nil)
    .nil)
    (.sq (.ret (.cn (.int 0)))
    .nil))
def f_law_cell_at : DF := ⟨.fn "_law_cell_at", "_law_cell_at", "_law_cell_at", defArgs (T 30), defBody (T 30), defScope (T 30), ["_law_script", "_law_k"], ["_law_script", "_law_k"], true, ⟨2, false, 2, e_law_cell_at⟩⟩
def e_law_unit : E := (.sq (.asgc 2 (.comp [3] (.rng2 (.cn (.int 1)) (.op .add (.var 0) (.cn (.int 1)))) [3] false (.op .eq (.comp [4] (.var 1) [4] false (.op .ne (.op .md (.var 4) (.var 3)) (.cn (.int 0))) (.cn (.int 1))) (.lst .nil)) (.var 3)))
    (.sq (.ret (.op .dv (.var 0) (.ix (.var 2) (.neg (.cn (.int 1))))))
    .nil))
def f_law_unit : DF := ⟨.fn "_law_unit", "_law_unit", "_law_unit", defArgs (T 38), defBody (T 38), defScope (T 38), ["_law_users", "_law_sizes_here", "_law_some", "_law_one", "_law_size"], ["_law_users", "_law_sizes_here"], true, ⟨2, false, 5, e_law_unit⟩⟩
def e_Plan_read : E := (.sq (.ifs (.orv (.notv (.isi "str" (.var 1))) (.orv (.notv (.bm .startswith (.var 1) (.cons (.cn (.str "users ")) .nil))) (.last (.notv (.bm .endswith (.var 1) (.cons (.cn (.str "\n")) .nil))))))
    (.sq .dead
    .nil)
    .nil)
    (.sq (.asg (.gst (.cons (.gnm 2) (.cons (.gnm 5) .nil))) (.bm .split (.sl (.var 1) (.bi .len (.cons (.cn (.str "users ")) .nil)) (.neg (.cn (.int 1)))) (.cons (.cn (.str "\n")) .nil)))
    (.sq (.asg (.gtp (.cons (.gnm 3) (.cons (.gnm 4) .nil))) (.tup (.cons (.call "number_in" (.cons (.var 2) .nil)) (.cons (.comp [6] (.var 5) [6] false .nil (.bi .tuple (.cons (.comp [8] (.bm .split (.var 6) (.cons (.cn (.str " ")) .nil)) [8] false .nil (.call "number_in" (.cons (.var 8) .nil))) .nil))) .nil))))
    (.sq (.ifs (.orv (.notv (.call "is_between" (.cons (.var 3) (.cons (.cn (.int 1)) (.cons (.cn (.int 60)) .nil))))) (.last (.op .gt (.bi .len (.cons (.var 4) .nil)) (.cn (.int 5)))))
    (.sq .dead
    .nil)
    .nil)
    (.sq (.ifs (.notv (.bi .all (.cons (.comp [7] (.var 4) [7] false .nil (.call "are_sizes" (.cons (.var 7) (.cons (.var 3) .nil)))) .nil)))
    (.sq .dead
    .nil)
    .nil)
    (.sq (.ret (.mkv 0 (.cons (.var 3) (.star (.var 4) .nil))))
    .nil))))))
def f_Plan_read : DF := ⟨.me "Plan" "read", "read", "Plan.read", defArgs (M 25 1), defBody (M 25 1), defScope (M 25 1), ["cls", "text", "first", "users", "sizes", "lines", "line", "one", "word"], ["cls", "text"], false, ⟨2, false, 9, e_Plan_read⟩⟩
def e_law_text : E := (.sq (.asg (.gnm 2) (.op .add (.lst (.cons (.op .add (.cn (.str "users ")) (.bi .str (.cons (.var 0) .nil))) .nil)) (.comp [3] (.var 1) [3] false .nil (.bm .join (.cn (.str " ")) (.cons (.comp [5] (.var 3) [5] false .nil (.bi .str (.cons (.var 5) .nil))) .nil)))))
    (.sq (.ret (.bm .join (.cn (.str "")) (.cons (.comp [4] (.var 2) [4] false .nil (.op .add (.var 4) (.cn (.str "\n")))) .nil)))
    .nil))
def f_law_text : DF := ⟨.fn "_law_text", "_law_text", "_law_text", defArgs (T 36), defBody (T 36), defScope (T 36), ["_law_users", "_law_some", "_law_lines", "_law_sizes_here", "_law_line", "_law_size"], ["_law_users", "_law_some"], true, ⟨2, false, 6, e_law_text⟩⟩
def e_Plan_units : E := (.sq (.ret (.bi .tuple (.cons (.comp [1] (.attr "kept" (.var 0)) [1] false .nil (.op .dv (.attr "count" (.var 0)) (.call "divisor_of" (.cons (.var 1) .nil)))) .nil)))
    .nil)
def f_Plan_units : DF := ⟨.me "Plan" "units", "units", "Plan.units", defArgs (M 25 6), defBody (M 25 6), defScope (M 25 6), ["self", "sizes"], ["self"], false, ⟨1, false, 2, e_Plan_units⟩⟩
def e_Plan_works : E := (.sq (.ret (.op .eq (.op .md (.attr "count" (.var 0)) (.call "product_of" (.cons (.attr "units" (.var 0)) .nil))) (.cn (.int 0))))
    .nil)
def f_Plan_works : DF := ⟨.me "Plan" "works", "works", "Plan.works", defArgs (M 25 7), defBody (M 25 7), defScope (M 25 7), ["self"], ["self"], false, ⟨1, false, 1, e_Plan_works⟩⟩
def e_law_draw : E := (.sq (.ifs (.op .gt (.ix (.var 0) (.cn (.int 0))) (.cn (.int 0)))
    (.sq (.asg (.gnm 3) (.op .md (.ix (.var 0) (.cn (.int 0))) (.var 1)))
    (.sq (.asg (.gix (.var 0) (.cn (.int 0))) (.op .dv (.ix (.var 0) (.cn (.int 0))) (.var 1)))
    (.sq (.ret (.var 3))
    .nil)))
    .nil)
    (.sq (.asg (.gix (.var 0) (.cn (.int 2))) (.op .add (.ix (.var 0) (.cn (.int 2))) (.cn (.int 1))))
    (.sq (.asg (.gnm 2) (.op .md (.op .mul (.op .add (.ix (.var 0) (.cn (.int 1))) (.op .mul (.cn (.int 17)) (.ix (.var 0) (.cn (.int 2))))) (.op .add (.cn (.int 69621)) (.op .mul (.cn (.int 2)) (.ix (.var 0) (.cn (.int 2)))))) (.cn (.int 2147483647))))
    (.sq (.asg (.gnm 2) (.op .md (.op .add (.op .add (.op .mul (.var 2) (.var 2)) (.op .mul (.cn (.int 40503)) (.ix (.var 0) (.cn (.int 2))))) (.cn (.int 5))) (.cn (.int 2147483629))))
    (.sq (.ret (.op .md (.op .dv (.op .md (.op .mul (.var 2) (.cn (.int 48271))) (.cn (.int 2147483647))) (.cn (.int 32))) (.var 1)))
    .nil)))))
def f_law_draw : DF := ⟨.fn "_law_draw", "_law_draw", "_law_draw", defArgs (T 32), defBody (T 32), defScope (T 32), ["_law_pen_here", "_law_many", "_law_stir", "_law_digit"], ["_law_pen_here", "_law_many"], true, ⟨2, false, 4, e_law_draw⟩⟩
def e_law_sizes : E := (.sq (.asgc 2 (.comp [8] (.rng2 (.cn (.int 1)) (.op .add (.var 1) (.cn (.int 1)))) [8] false (.op .eq (.op .md (.var 1) (.var 8)) (.cn (.int 0))) (.var 8)))
    (.sq (.asg (.gnm 3) (.ix (.var 2) (.call "_law_draw" (.cons (.var 0) (.cons (.bi .len (.cons (.var 2) .nil)) .nil)))))
    (.sq (.asg (.gnm 4) (.bi .min (.cons (.op .dv (.var 1) (.var 3)) (.cons (.op .add (.cn (.int 1)) (.call "_law_draw" (.cons (.var 0) (.cons (.cn (.int 4)) .nil)))) .nil))))
    (.sq (.asg (.gnm 5) (.op .mul (.lst (.cons (.cn (.int 1)) .nil)) (.var 4)))
    (.sq (.for1 (.gnm 6) (.rng1 (.op .sub (.op .dv (.var 1) (.var 3)) (.var 4)))
    (.sq (.asg (.gnm 7) (.call "_law_draw" (.cons (.var 0) (.cons (.var 4) .nil))))
    (.sq (.asg (.gix (.var 5) (.var 7)) (.op .add (.ix (.var 5) (.var 7)) (.cn (.int 1))))
    .nil)))
    (.sq (.ret (.bi .tuple (.cons (.comp [9] (.var 5) [9] false .nil (.op .mul (.var 9) (.var 3))) .nil)))
    .nil))))))
def f_law_sizes : DF := ⟨.fn "_law_sizes", "_law_sizes", "_law_sizes", defArgs (T 34), defBody (T 34), defScope (T 34), ["_law_pen_here", "_law_users", "_law_some", "_law_unit_here", "_law_many", "_law_parts", "_law_turn", "_law_at", "_law_one", "_law_part"], ["_law_pen_here", "_law_users"], true, ⟨2, false, 10, e_law_sizes⟩⟩
def e_Plan___init : E := (.sq (.exp (.call "need_users" (.cons (.var 1) .nil)))
    (.sq (.ifs (.notv (.bi .all (.cons (.comp [3] (.var 2) [3] false .nil (.call "are_sizes" (.cons (.var 3) (.cons (.var 1) .nil)))) .nil)))
    (.sq .dead
    .nil)
    .nil)
    (.sq (.ifs (.op .gt (.bi .len (.cons (.var 2) .nil)) (.cn (.int 5)))
    (.sq .dead
    .nil)
    .nil)
    (.sq (.asg (.gtp (.cons (.gfl "count" (.var 0)) (.cons (.gfl "kept" (.var 0)) .nil))) (.tup (.cons (.var 1) (.cons (.var 2) .nil))))
    .nil))))
def f_Plan___init : DF := ⟨.me "Plan" "__init__", "__init__", "Plan.__init__", defArgs (M 25 0), defBody (M 25 0), defScope (M 25 0), ["self", "users", "sizes", "one"], ["self", "users", "sizes"], false, ⟨3, true, 4, e_Plan___init⟩⟩
def e_are_sizes : E := (.sq (.ifs (.orv (.notv (.isi "tuple" (.var 0))) (.last (.notv (.chain .le .le (.cn (.int 1)) (.bi .len (.cons (.var 0) .nil)) (.cn (.int 4))))))
    (.sq (.ret (.cn (.bl false)))
    .nil)
    .nil)
    (.sq (.ret (.andv (.bi .all (.cons (.comp [2] (.var 0) [2] false .nil (.call "is_between" (.cons (.var 2) (.cons (.cn (.int 1)) (.cons (.var 1) .nil))))) .nil)) (.last (.op .eq (.bi .sum (.cons (.var 0) .nil)) (.var 1)))))
    .nil))
def f_are_sizes : DF := ⟨.fn "are_sizes", "are_sizes", "are_sizes", defArgs (T 22), defBody (T 22), defScope (T 22), ["thing", "users", "size"], ["thing", "users"], false, ⟨2, false, 3, e_are_sizes⟩⟩
def e_is_between : E := (.sq (.ret (.andv (.isi "int" (.var 0)) (.andv (.notv (.isi "bool" (.var 0))) (.last (.chain .le .le (.var 1) (.var 0) (.var 2))))))
    .nil)
def f_is_between : DF := ⟨.fn "is_between", "is_between", "is_between", defArgs (T 10), defBody (T 10), defScope (T 10), ["thing", "low", "high"], ["thing", "low", "high"], false, ⟨3, false, 3, e_is_between⟩⟩
def e_number_in : E := (.sq (.ifs (.orv (.notv (.chain .le .le (.cn (.int 1)) (.bi .len (.cons (.var 0) .nil)) (.cn (.int 2)))) (.orv (.notv (.bi .all (.cons (.comp [1] (.var 0) [1] false .nil (.op .isin (.var 1) (.cn (.str "0123456789")))) .nil))) (.last (.op .eq (.ix (.var 0) (.cn (.int 0))) (.cn (.str "0"))))))
    (.sq (.ret (.cn (.int 0)))
    .nil)
    .nil)
    (.sq (.ret (.bi .int (.cons (.var 0) .nil)))
    .nil))
def f_number_in : DF := ⟨.fn "number_in", "number_in", "number_in", defArgs (T 24), defBody (T 24), defScope (T 24), ["word", "sign"], ["word"], false, ⟨1, false, 2, e_number_in⟩⟩
def e_divisor_of : E := (.sq (.asg (.gnm 1) (.cn (.int 0)))
    (.sq (.for1 (.gnm 2) (.var 0)
    (.sq (.asg (.gnm 1) (.call "divisor" (.cons (.var 1) (.cons (.var 2) .nil))))
    .nil))
    (.sq (.ret (.var 1))
    .nil)))
def f_divisor_of : DF := ⟨.fn "divisor_of", "divisor_of", "divisor_of", defArgs (T 12), defBody (T 12), defScope (T 12), ["numbers", "found", "number"], ["numbers"], false, ⟨1, false, 3, e_divisor_of⟩⟩
def e_product_of : E := (.sq (.asg (.gnm 1) (.cn (.int 1)))
    (.sq (.for1 (.gnm 2) (.var 0)
    (.sq (.asg (.gnm 1) (.op .mul (.var 1) (.var 2)))
    .nil))
    (.sq (.ret (.var 1))
    .nil)))
def f_product_of : DF := ⟨.fn "product_of", "product_of", "product_of", defArgs (T 13), defBody (T 13), defScope (T 13), ["numbers", "found", "number"], ["numbers"], false, ⟨1, false, 3, e_product_of⟩⟩
def e_need_users : E := (.sq (.ifs (.notv (.call "is_between" (.cons (.var 0) (.cons (.cn (.int 1)) (.cons (.cn (.int 60)) .nil)))))
    (.sq .dead
    .nil)
    .nil)
    .nil)
def f_need_users : DF := ⟨.fn "need_users", "need_users", "need_users", defArgs (T 23), defBody (T 23), defScope (T 23), ["thing"], ["thing"], false, ⟨1, false, 1, e_need_users⟩⟩
def e_divisor : E := (.sq (.whl (.op .ne (.var 1) (.cn (.int 0)))
    (.sq (.par [0, 1] (.cons (.var 1) (.cons (.op .md (.var 0) (.var 1)) .nil)))
    .nil))
    (.sq (.ret (.var 0))
    .nil))
def f_divisor : DF := ⟨.fn "divisor", "divisor", "divisor", defArgs (T 11), defBody (T 11), defScope (T 11), ["one", "other"], ["one", "other"], false, ⟨2, false, 2, e_divisor⟩⟩
def fs : List DF := [f_law, f_law_right, f_law_drawn, f_law_pen, f_law_cell_at, f_law_unit, f_Plan_read, f_law_text, f_Plan_units, f_Plan_works, f_law_draw, f_law_sizes, f_Plan___init, f_are_sizes, f_is_between, f_number_in, f_divisor_of, f_product_of, f_need_users, f_divisor]
def tab : Tab := ⟨[("DIGITS", (.str "0123456789")), ("HEAD", (.str "users ")), ("MOST_ARMS", (.int 4)), ("MOST_EXPERIMENTS", (.int 5)), ("MOST_USERS", (.int 60))], ["are_sizes", "is_between", "number_in", "divisor_of", "product_of", "need_users", "divisor"], ["law", "_law_right", "_law_drawn", "_law_pen", "_law_cell_at", "_law_unit", "_law_text", "_law_draw", "_law_sizes"], ["Plan"], [("Plan", "read")], ["Plan"], [("Plan", "count"), ("Plan", "kept")], [("Plan", "units"), ("Plan", "works")], []⟩
theorem tab_sane : tab.sane = true := by kernel_rfl
theorem ok_law : f_law.ok tab = true := by kernel_rfl
theorem ok_law_right : f_law_right.ok tab = true := by kernel_rfl
theorem ok_law_drawn : f_law_drawn.ok tab = true := by kernel_rfl
theorem ok_law_pen : f_law_pen.ok tab = true := by kernel_rfl
theorem ok_law_cell_at : f_law_cell_at.ok tab = true := by kernel_rfl
theorem ok_law_unit : f_law_unit.ok tab = true := by kernel_rfl
theorem ok_Plan_read : f_Plan_read.ok tab = true := by kernel_rfl
theorem ok_law_text : f_law_text.ok tab = true := by kernel_rfl
theorem ok_Plan_units : f_Plan_units.ok tab = true := by kernel_rfl
theorem ok_Plan_works : f_Plan_works.ok tab = true := by kernel_rfl
theorem ok_law_draw : f_law_draw.ok tab = true := by kernel_rfl
theorem ok_law_sizes : f_law_sizes.ok tab = true := by kernel_rfl
theorem ok_Plan___init : f_Plan___init.ok tab = true := by kernel_rfl
theorem ok_are_sizes : f_are_sizes.ok tab = true := by kernel_rfl
theorem ok_is_between : f_is_between.ok tab = true := by kernel_rfl
theorem ok_number_in : f_number_in.ok tab = true := by kernel_rfl
theorem ok_divisor_of : f_divisor_of.ok tab = true := by kernel_rfl
theorem ok_product_of : f_product_of.ok tab = true := by kernel_rfl
theorem ok_need_users : f_need_users.ok tab = true := by kernel_rfl
theorem ok_divisor : f_divisor.ok tab = true := by kernel_rfl
theorem fs_ok : fs.all (fun f => f.ok tab) = true := by
  simp only [fs, List.all_cons, List.all_nil, ok_law, ok_law_right, ok_law_drawn, ok_law_pen, ok_law_cell_at, ok_law_unit, ok_Plan_read, ok_law_text, ok_Plan_units, ok_Plan_works, ok_law_draw, ok_law_sizes, ok_Plan___init, ok_are_sizes, ok_is_between, ok_number_in, ok_divisor_of, ok_product_of, ok_need_users, ok_divisor, Bool.and_self]
theorem b_law : f_law.Bind := bind0 rfl fun _ _ _ _ _ _ us hl => match us, hl with | [_], _ => rfl
theorem b_law_right : f_law_right.Bind := bind0 rfl fun _ _ _ _ _ _ us hl => match us, hl with | [_, _], _ => rfl
theorem b_law_drawn : f_law_drawn.Bind := bind0 rfl fun _ _ _ _ _ _ us hl => match us, hl with | [_, _], _ => rfl
theorem b_law_pen : f_law_pen.Bind := bind0 rfl fun _ _ _ _ _ _ us hl => match us, hl with | [_], _ => rfl
theorem b_law_cell_at : f_law_cell_at.Bind := bind0 rfl fun _ _ _ _ _ _ us hl => match us, hl with | [_, _], _ => rfl
theorem b_law_unit : f_law_unit.Bind := bind0 rfl fun _ _ _ _ _ _ us hl => match us, hl with | [_, _], _ => rfl
theorem b_Plan_read : f_Plan_read.Bind := bind0 rfl fun _ _ _ _ _ _ us hl => match us, hl with | [_, _], _ => rfl
theorem b_law_text : f_law_text.Bind := bind0 rfl fun _ _ _ _ _ _ us hl => match us, hl with | [_, _], _ => rfl
theorem b_Plan_units : f_Plan_units.Bind := bind0 rfl fun _ _ _ _ _ _ us hl => match us, hl with | [_], _ => rfl
theorem b_Plan_works : f_Plan_works.Bind := bind0 rfl fun _ _ _ _ _ _ us hl => match us, hl with | [_], _ => rfl
theorem b_law_draw : f_law_draw.Bind := bind0 rfl fun _ _ _ _ _ _ us hl => match us, hl with | [_, _], _ => rfl
theorem b_law_sizes : f_law_sizes.Bind := bind0 rfl fun _ _ _ _ _ _ us hl => match us, hl with | [_, _], _ => rfl
theorem b_Plan___init : f_Plan___init.Bind := bind1 (qs := ["self", "users"]) (pv := "sizes") rfl rfl fun kV doc pm an cdv ct => StX.bind_star2 (B := fun us => bindArgs (PySem.W.fnOf f_Plan___init.name f_Plan___init.qual f_Plan___init.params f_Plan___init.body f_Plan___init.scope .none kV doc pm an cdv ct) ⟨us, []⟩) (p1 := "self") (p2 := "users") (pv := "sizes") (fun _ _ => rfl) (fun _ _ _ _ => rfl)
theorem b_are_sizes : f_are_sizes.Bind := bind0 rfl fun _ _ _ _ _ _ us hl => match us, hl with | [_, _], _ => rfl
theorem b_is_between : f_is_between.Bind := bind0 rfl fun _ _ _ _ _ _ us hl => match us, hl with | [_, _, _], _ => rfl
theorem b_number_in : f_number_in.Bind := bind0 rfl fun _ _ _ _ _ _ us hl => match us, hl with | [_], _ => rfl
theorem b_divisor_of : f_divisor_of.Bind := bind0 rfl fun _ _ _ _ _ _ us hl => match us, hl with | [_], _ => rfl
theorem b_product_of : f_product_of.Bind := bind0 rfl fun _ _ _ _ _ _ us hl => match us, hl with | [_], _ => rfl
theorem b_need_users : f_need_users.Bind := bind0 rfl fun _ _ _ _ _ _ us hl => match us, hl with | [_], _ => rfl
theorem b_divisor : f_divisor.Bind := bind0 rfl fun _ _ _ _ _ _ us hl => match us, hl with | [_, _], _ => rfl
theorem fs_bind : ∀ f ∈ fs, f.Bind := by
  unfold fs
  refine List.forall_mem_cons.mpr ⟨b_law, ?_⟩
  refine List.forall_mem_cons.mpr ⟨b_law_right, ?_⟩
  refine List.forall_mem_cons.mpr ⟨b_law_drawn, ?_⟩
  refine List.forall_mem_cons.mpr ⟨b_law_pen, ?_⟩
  refine List.forall_mem_cons.mpr ⟨b_law_cell_at, ?_⟩
  refine List.forall_mem_cons.mpr ⟨b_law_unit, ?_⟩
  refine List.forall_mem_cons.mpr ⟨b_Plan_read, ?_⟩
  refine List.forall_mem_cons.mpr ⟨b_law_text, ?_⟩
  refine List.forall_mem_cons.mpr ⟨b_Plan_units, ?_⟩
  refine List.forall_mem_cons.mpr ⟨b_Plan_works, ?_⟩
  refine List.forall_mem_cons.mpr ⟨b_law_draw, ?_⟩
  refine List.forall_mem_cons.mpr ⟨b_law_sizes, ?_⟩
  refine List.forall_mem_cons.mpr ⟨b_Plan___init, ?_⟩
  refine List.forall_mem_cons.mpr ⟨b_are_sizes, ?_⟩
  refine List.forall_mem_cons.mpr ⟨b_is_between, ?_⟩
  refine List.forall_mem_cons.mpr ⟨b_number_in, ?_⟩
  refine List.forall_mem_cons.mpr ⟨b_divisor_of, ?_⟩
  refine List.forall_mem_cons.mpr ⟨b_product_of, ?_⟩
  refine List.forall_mem_cons.mpr ⟨b_need_users, ?_⟩
  refine List.forall_mem_cons.mpr ⟨b_divisor, ?_⟩
  exact fun _ h => nomatch h
abbrev R : PySem.W.OpenRow := PySem.W.OpenLaw.row PySem.Challenge.rw_crossarms_k43_units_and_works
abbrev hk : PySem.W.Hook := hookC 6 tab fs
def ob (s : PySem.W.SharedT) : He.AlD := obsCG 6 tab fs (HandSHeadRun.getT s)
theorem ob_eq (s : PySem.W.SharedT) : ob s = hk.obs s.abs := obsCG_eq (HandSHeadRun.getT_eq s)
def loose : List Str := (["_wall", "__name__", "ArmsError", "NoUsers", "NoSizes", "NoNumber", "NoCell", "NoText", "TooMany", "is_between", "divisor", "divisor_of", "product_of", "power", "fraction", "MOST_USERS", "MOST_EXPERIMENTS", "MOST_ARMS", "DIGITS", "HEAD"] : List Str) ++ (["are_sizes", "need_users", "number_in", "Plan", "is_cell", "sizes_at", "share_of", "_law_cell_at", "_law_pen", "_law_draw", "_law_mixed", "_law_sizes", "_law_drawn", "_law_text", "_law_dealt", "_law_unit", "_law_right"] : List Str)
theorem run (w : World) : HandSHeadRun.RunEq R (PySem.W.view R.prog [40]) hk ob 6000 loose w := by
  intro os
  kernel_rfl
theorem law_true (ns : List Int) (hl : ns.length ≤ 63) (hb : ∀ i ∈ ns, Builtin.Int.intBits i ≤ 1048576) : callW (tblOf fs) tab.CT 12 (.fn "law") [.scr ns] (fun _ => none) (fun d _ => d = .bl true) (fun _ _ => False) :=
  K43p.c_law (Γ := tblOf fs) (T := tab.CT) (n := 6) ⟨rfl, rfl, rfl⟩ rfl rfl rfl rfl rfl rfl rfl rfl rfl rfl rfl rfl rfl rfl rfl rfl rfl rfl rfl rfl rfl rfl hl fun _ => rfl
end K43
open PySem PySem.W PySem.Calls PyProof.Rows
theorem PySem.Challenge.cw_crossarms_k43_units_and_works_holds : PySem.Challenge.rw_crossarms_k43_units_and_works.Holds := by
  w_on; o_law
  refine HandSHeadRun.head_any (r := OpenLaw.row PySem.Challenge.rw_crossarms_k43_units_and_works) (q := view (OpenLaw.row PySem.Challenge.rw_crossarms_k43_units_and_works).prog [40]) (H := K43.hk) (ob := K43.ob) (M := 6000) (loose := K43.loose) (d := HandSHeadRun.topDef (OpenLaw.row PySem.Challenge.rw_crossarms_k43_units_and_works).prog 40) (kwd := []) K43.ob_eq
    (by kernel_rfl) (fun s => by kernel_rfl) K43.run (by kernel_rfl) (by kernel_rfl) (by kernel_rfl) (by rfl) (by first | assumption | decide +kernel) (by decide +kernel) ⟨rfl, rfl, rfl, rfl, rfl, by decide +kernel⟩ ?hw ?hc
  case hw => w_witness2
  case hc =>
    refine C2.walkG (l := PySem.Challenge.rw_crossarms_k43_units_and_works) (n := 63) (k := 2 * 12) (c := C2.callW (C2.tblOf K43.fs) K43.tab.CT 12 (.fn "law")) rfl (by decide) (by kernel_rfl) ⟨rfl, by decide, by decide⟩ ?F (fun ns hl hb => K43.law_true ns hl hb)
    intro w mg fa h Y Gn hmg0
    obtain ⟨K, KX, c⟩ := Y
    have hmg : mg ("law" : PySem.Str) = some (.ref fa) := by
      have e : (HandSHeadRun.topDef (OpenLaw.row PySem.Challenge.rw_crossarms_k43_units_and_works).prog 40).name = ("law" : PySem.Str) := by kernel_rfl
      rw [← e]
      exact hmg0
    exact ⟨K, KX, C2.law_of (P := (PySem.Challenge.rw_crossarms_k43_units_and_works).prog) (w := w) K43.tab_sane K43.fs_ok K43.fs_bind (by decide +kernel) KX Gn hmg c 12⟩


