import PyProof.Rows.All
import Wide.All
import OpenK.AllK
import Wide.FinOn
import PyProof.EqAt
import PyProof.EqKinds
import PyProof.TupleCall
import HandS.ForMost
import HandS.ForExc
import HandS.HeadHook2
import HandS.IsInst
import HandS.FStr
import HandS.Star
import HandS.Wide
import HandS.TupAny
import HandS.StrMore
import HandS.Style
import HandS.WideBits
import PyProof.StrBlock2
import PyProof.ListMulRoad
import PyProof.ListIndexOut
import HandS.RaiseMore
import PyProof.ReprRoads
import PyProof.ReprBulk
import HandS.EndBits
import HandS.HeadEnd
import HandS.Head0
import HandS.Head1
import HandS.Head2
import HandS.ExcOwn
import HandS.ExcIs
import HandS.ExcField
import KE.KExcIs
import HandS.ExcInit
import HandS.ExcSuper
import HandS.ExcValue
import KE.KExcSuper
import HandS.ReplaceLit
import HandS.Property
import HandS.ClsMeth
import HandS.MakeKw
import KE.KOpsOwn
import KE.KRevSl
import HandS.Deep
import HandS.TupMul
import HandS.Dict
import PyProof.ListRange
import KE.KTupSum
import KE.KStateDown
import PySem.Challenge.RW_lastcopied_k41_errors_of_joins
set_option Elab.async false
set_option linter.all false
set_option maxRecDepth 100000
set_option maxHeartbeats 0
/-! The data layer, core: values as deep data, the heap split into what never changes and what may. -/
namespace DL
open PySem PySem.Spec L2

/-- deep data; ref: an object that is told by its address; kt: a tuple of ints that was made here, good as a key -/
inductive D where
  | non | bl (b : Bool) | int (i : Int) | str (x : Str) | ty (n : String) | ref (a : Addr)
  | lst (xs : List D) | tup (xs : List D)
  | kls (c : Str) | exc (c : Str) (fs : List D)
  | kt (ks : List Int)
/-- an exception object of the class cls, its dict d, at a -/
def exE (cls : Value) (d : Option Addr) (a : Addr) : HO := .ext fun h => ∃ (oe : Obj) (vs : Array Value), h.get? a = some oe ∧ Zc cls d oe ∧ oe.data = .fields vs
abbrev DSt := List (Option D)

/-- a list, exactly: tracked, frozen, or the text's own -/
def LL (K : PySem.W.Frag) (H : Hp) (a : Addr) (xs : List V) : Prop :=
  H a = some (.lst xs) ∨ (∃ (its : Array Value) (n : Nat), H a = some (.frz { cls := .type "list", data := .seq its n } (.lst xs))) ∨
    ∃ (its : Array Value) (n : Nat), K.lookup a = some { cls := .type "list", data := .seq its n } ∧ its.size ≤ sizeLine ∧ Vals xs its.toList
theorem LL.sq {K : PySem.W.Frag} {H : Hp} {a : Addr} {xs : List V} (h : LL K H a xs) : SqL K H a xs := by
  rcases h with h | ⟨its, n, h⟩ | ⟨its, n, h, hz, r⟩
  · exact .inl (.inl h)
  · exact .inl (.inr ⟨_, h⟩)
  · exact .inr ⟨_, its, n, h, rfl, rfl, rfl, hz, r⟩
theorem LL.up {K : PySem.W.Frag} {H H' : Hp} {a : Addr} {xs : List V} (e : Same H H') (h : LL K H a xs) : LL K H' a xs := by
  rcases h with h | ⟨its, n, h⟩ | h
  · exact .inl (e _ _ h)
  · exact .inr (.inl ⟨its, n, e _ _ h⟩)
  · exact .inr (.inr h)
theorem LL.of {K : PySem.W.Frag} {H : Hp} {a : Addr} {xs : List V} (h : H a = some (.lst xs)) : LL K H a xs := .inl h
theorem ll_at {X : Cx} {pins : List (Addr × Obj)} {σ : L2.St} {H : Hp} {s : Shared} {a : Addr} {xs : List V} (I : Inv X pins σ H s) (h : LL X.K H a xs) :
    ∃ (its : List Value) (n : Nat), Vals xs its ∧ xs.length = its.length ∧ s.heap.get? a = some { cls := .type "list", data := .seq its.toArray n } ∧ xs.length ≤ sizeLine := by
  rcases h with h | ⟨its, n, h⟩ | ⟨its, n, h, hz, r⟩
  · obtain ⟨z, its, n, r, e⟩ := I.hok a _ h
    exact ⟨its, n, r, r.length, e, z⟩
  · obtain ⟨e, z, its2, n2, r, e2⟩ := I.hok a _ h
    exact ⟨its2, n2, r, r.length, e2, z⟩
  · refine ⟨its.toList, n, r, r.length, ?_, ?_⟩
    · rw [I.kIn a _ h, Array.toArray_toList]
    · rw [r.length, Array.length_toList]; exact hz
mutual
inductive Rep (K : PySem.W.Frag) (H : Hp) : V → D → Prop
  | non : Rep K H .non .non
  | bl (b : Bool) : Rep K H (.bl b) (.bl b)
  | int (i : Int) : Rep K H (.int i) (.int i)
  | str (x : Str) : Rep K H (.str x) (.str x)
  | ty (n : String) : Rep K H (.ty n) (.ty n)
  | ref (a : Addr) : Rep K H (.ref a) (.ref a)
  | lst {a : Addr} {xs : List V} {ds : List D} : LL K H a xs → RepL K H xs ds → Rep K H (.ref a) (.lst ds)
  | tup {a : Addr} {xs : List V} {ds : List D} : SqT K H a xs → RepL K H xs ds → Rep K H (.ref a) (.tup ds)
  | kls (c : Str) : Rep K H (.ref (He.ga K c)) (.kls c)
  | kt {a : Addr} {ks : List Int} : H a = some (.tup (ks.map V.int)) → Rep K H (.ref a) (.kt ks)
  | exc0 {a : Addr} {c : Str} : H a = some (exE (.ref (He.ga K c)) none a) → Rep K H (.ref a) (.exc c [])
  | exc1 {a b : Addr} {c : Str} {v : V} {d : D} : H a = some (exE (.ref (He.ga K c)) (some b) a) → H b = some (.xd [(Str.ofString "place", v)]) → Rep K H v d → Rep K H (.ref a) (.exc c [d])
inductive RepL (K : PySem.W.Frag) (H : Hp) : List V → List D → Prop
  | nil : RepL K H [] []
  | cons {v : V} {vs : List V} {d : D} {ds : List D} : Rep K H v d → RepL K H vs ds → RepL K H (v :: vs) (d :: ds)
end

theorem same_t {K : PySem.W.Frag} {H H' : Hp} {a : Addr} {xs : List V} (e : Same H H') (h : SqT K H a xs) : SqT K H' a xs := by
  rcases h with (h | ⟨o, h⟩) | h
  · exact .inl (.inl (e _ _ h))
  · exact .inl (.inr ⟨o, e _ _ h⟩)
  · exact .inr h

section
variable {K : PySem.W.Frag} {H H' : Hp}
mutual
theorem Rep.mono (sm : Same H H') : ∀ (d : D) (v : V), Rep K H v d → Rep K H' v d
  | .non, _, .non => .non
  | .bl b, _, .bl _ => .bl b
  | .int i, _, .int _ => .int i
  | .str x, _, .str _ => .str x
  | .ty n, _, .ty _ => .ty n
  | .ref a, _, .ref _ => .ref a
  | .lst ds, _, .lst h r => .lst (h.up sm) (RepL.mono sm ds _ r)
  | .tup ds, _, .tup h r => .tup (same_t sm h) (RepL.mono sm ds _ r)
  | .kls c, _, .kls _ => .kls c
  | .kt ks, _, .kt h => .kt (sm _ _ h)
  | .exc c [], _, .exc0 h => .exc0 (sm _ _ h)
  | .exc c [d], _, .exc1 h h2 r => .exc1 (sm _ _ h) (sm _ _ h2) (Rep.mono sm d _ r)
theorem RepL.mono (sm : Same H H') : ∀ (ds : List D) (vs : List V), RepL K H vs ds → RepL K H' vs ds
  | [], _, .nil => .nil
  | d :: ds, _, .cons h r => .cons (Rep.mono sm d _ h) (RepL.mono sm ds _ r)
end
theorem Rep.up (sm : Same H H') {d : D} {v : V} (h : Rep K H v d) : Rep K H' v d := Rep.mono sm d v h
theorem RepL.up (sm : Same H H') {ds : List D} {vs : List V} (h : RepL K H vs ds) : RepL K H' vs ds := RepL.mono sm ds vs h
theorem RepL.len : ∀ {vs : List V} {ds : List D}, RepL K H vs ds → vs.length = ds.length
  | _, _, .nil => rfl
  | _, _, .cons _ r => by rw [List.length_cons, List.length_cons, RepL.len r]
theorem RepL.get : ∀ {vs : List V} {ds : List D} {i : Nat} {d : D}, RepL K H vs ds → ds[i]? = some d → ∃ v, vs[i]? = some v ∧ Rep K H v d
  | _, _, _, _, .nil, e => by simp at e
  | _, _, 0, _, .cons h _, e => by simp at e; subst e; exact ⟨_, rfl, h⟩
  | _, _, i + 1, d, .cons _ r, e => by
    obtain ⟨v, h1, h2⟩ := RepL.get (i := i) (d := d) r (by simpa using e)
    exact ⟨v, by simpa using h1, h2⟩
theorem RepL.getV : ∀ {vs : List V} {ds : List D} {i : Nat} {v : V}, RepL K H vs ds → vs[i]? = some v → ∃ d, ds[i]? = some d ∧ Rep K H v d
  | _, _, _, _, .nil, e => by simp at e
  | _, _, 0, _, .cons h _, e => by simp at e; subst e; exact ⟨_, rfl, h⟩
  | _, _, i + 1, d, .cons _ r, e => by
    obtain ⟨v, h1, h2⟩ := RepL.getV (i := i) (v := d) r (by simpa using e)
    exact ⟨v, by simpa using h1, h2⟩
theorem RepL.app : ∀ {vs ws : List V} {ds es : List D}, RepL K H vs ds → RepL K H ws es → RepL K H (vs ++ ws) (ds ++ es)
  | _, _, _, _, .nil, s => s
  | _, _, _, _, .cons r t, s => .cons r (RepL.app t s)
theorem RepL.take : ∀ {vs : List V} {ds : List D} (n : Nat), RepL K H vs ds → RepL K H (vs.take n) (ds.take n)
  | _, _, 0, _ => .nil
  | _, _, _ + 1, .nil => .nil
  | _, _, n + 1, .cons r t => .cons r (RepL.take n t)
theorem RepL.drop : ∀ {vs : List V} {ds : List D} (n : Nat), RepL K H vs ds → RepL K H (vs.drop n) (ds.drop n)
  | _, _, 0, r => r
  | _, _, _ + 1, .nil => .nil
  | _, _, n + 1, .cons _ t => RepL.drop n t
theorem RepL.rev {vs : List V} {ds : List D} (h : RepL K H vs ds) : RepL K H vs.reverse ds.reverse := by
  induction vs generalizing ds with
  | nil => cases h; exact .nil
  | cons v vs ih =>
    cases h with
    | cons r t =>
      rw [List.reverse_cons, List.reverse_cons]
      exact (ih t).app (.cons r .nil)
theorem RepL.set : ∀ {vs : List V} {ds : List D} {v : V} {d : D} (i : Nat), RepL K H vs ds → Rep K H v d → RepL K H (vs.set i v) (ds.set i d)
  | _, _, _, _, _, .nil, _ => .nil
  | _, _, _, _, 0, .cons _ t, q => .cons q t
  | _, _, _, _, i + 1, .cons r t, q => .cons r (RepL.set i t q)
theorem RepL.dropLast {vs : List V} {ds : List D} (h : RepL K H vs ds) : RepL K H vs.dropLast ds.dropLast := by
  rw [List.dropLast_eq_take, List.dropLast_eq_take, h.len]
  exact h.take _
theorem RepL.rep {vs : List V} {ds : List D} (h : RepL K H vs ds) : ∀ k : Nat, RepL K H (List.replicate k vs).flatten (List.replicate k ds).flatten
  | 0 => .nil
  | k + 1 => by
    rw [List.replicate_succ, List.replicate_succ, List.flatten_cons, List.flatten_cons]
    exact h.app (RepL.rep h k)
/-- all ints -/
theorem RepL.ints : ∀ {vs : List V} {ns : List Int}, RepL K H vs (ns.map D.int) → vs = ns.map V.int
  | _, [], .nil => rfl
  | _, n :: ns, .cons (.int _) r => by
    rw [List.map_cons, RepL.ints (ns := ns) r]
theorem RepL.bls : ∀ {vs : List V} {ns : List Bool}, RepL K H vs (ns.map D.bl) → vs = ns.map V.bl
  | _, [], .nil => rfl
  | _, n :: ns, .cons (.bl _) r => by
    rw [List.map_cons, RepL.bls (ns := ns) r]
theorem RepL.txts : ∀ {vs : List V} {ns : List Str}, RepL K H vs (ns.map D.str) → vs = ns.map V.str
  | _, [], .nil => rfl
  | _, n :: ns, .cons (.str _) r => by
    rw [List.map_cons, RepL.txts (ns := ns) r]
theorem RepL.of_ints : ∀ (ns : List Int), RepL K H (ns.map V.int) (ns.map D.int)
  | [] => .nil
  | n :: ns => .cons (.int n) (RepL.of_ints ns)
theorem RepL.of_txts : ∀ (ns : List Str), RepL K H (ns.map V.str) (ns.map D.str)
  | [] => .nil
  | n :: ns => .cons (.str n) (RepL.of_txts ns)
end

/-! ### what may change -/
inductive MO where
  | lst (xs : List D)
  | ins (C : Str) (fs : List (Str × D))
  | dK (kvs : List (Key × D))
  | dT (kvs : List (List Int × D))
  | dF (kvs : List (List Int × D))
abbrev MM := Addr → Option MO
def mput (M : MM) (a : Addr) (o : MO) : MM := fun b => if b = a then some o else M b
def mdel (M : MM) (a : Addr) : MM := fun b => if b = a then none else M b
theorem mput_same {M : MM} {a : Addr} {o : MO} : mput M a o a = some o := if_pos rfl
theorem mput_ne {M : MM} {a b : Addr} {o : MO} (h : b ≠ a) : mput M a o b = M b := if_neg h
theorem mdel_same {M : MM} {a : Addr} : mdel M a a = none := if_pos rfl
theorem mdel_ne {M : MM} {a b : Addr} (h : b ≠ a) : mdel M a b = M b := if_neg h
theorem mput_mput {M : MM} {a : Addr} {o u : MO} : mput (mput M a o) a u = mput M a u := by
  funext b; unfold mput; split <;> rfl
theorem mdel_mput {M : MM} {a : Addr} {o : MO} (h : M a = none) : mdel (mput M a o) a = M := by
  funext b; unfold mdel mput; split
  · rename_i e; rw [e, h]
  · rfl
theorem mput_comm {M : MM} {a b : Addr} {o u : MO} (h : a ≠ b) : mput (mput M a o) b u = mput (mput M b u) a o := by
  funext c; unfold mput
  by_cases h1 : c = a
  · subst h1; rw [if_neg h, if_pos rfl, if_pos rfl]
  · rw [if_neg h1, if_neg h1]
theorem mm_ne {M : MM} {a b : Addr} {o : MO} (h : M a = some o) (h' : M b = none) : a ≠ b := by
  intro e; subst e; rw [h] at h'; cases h'

def PF (K : PySem.W.Frag) (H : Hp) {κ : Type} : List (κ × V) → List (κ × D) → Prop := Paired fun p q => p.1 = q.1 ∧ Rep K H p.2 q.2
theorem PF.up {K : PySem.W.Frag} {H H' : Hp} {κ : Type} (sm : Same H H') {l : List (κ × V)} {r : List (κ × D)} (h : PF K H l r) : PF K H' l r :=
  Paired.mapP h fun _ _ z => ⟨z.1, z.2.up sm⟩
abbrev keyed {α : Type} (p : List Int × α) : List Key × α := (p.1.map Sum.inl, p.2)
/-- what stands at a place that may change -/
def MRep (K : PySem.W.Frag) (HI H : Hp) (a : Addr) : MO → Prop
  | .lst ds => ∃ xs, H a = some (.lst xs) ∧ RepL K HI xs ds
  | .ins C fs => ∃ dx vs, H a = some (.ins (He.ga K C) dx vs) ∧ PF K HI vs fs
  | .dK kvs => ∃ vs, H a = some (.dK vs) ∧ PF K HI vs kvs
  | .dT kvs => ∃ vs : List (List Int × V), H a = some (.dT (vs.map keyed)) ∧ PF K HI vs kvs
  | .dF kvs => ∃ (od : Obj) (vs : List (List Int × V)), H a = some (.frz od (.dT (vs.map keyed))) ∧ PF K HI vs kvs
theorem MRep.there {K : PySem.W.Frag} {HI H : Hp} {a : Addr} {o : MO} (h : MRep K HI H a o) : ∃ u, H a = some u := by
  cases o with
  | lst ds => obtain ⟨_, e, _⟩ := h; exact ⟨_, e⟩
  | ins C fs => obtain ⟨_, _, e, _⟩ := h; exact ⟨_, e⟩
  | dK kvs => obtain ⟨_, e, _⟩ := h; exact ⟨_, e⟩
  | dT kvs => obtain ⟨_, e, _⟩ := h; exact ⟨_, e⟩
  | dF kvs => obtain ⟨_, _, e, _⟩ := h; exact ⟨_, e⟩
theorem MRep.up {K : PySem.W.Frag} {HI HI' H H' : Hp} {a : Addr} {o : MO} (sm : Same HI HI') (e : H' a = H a) (h : MRep K HI H a o) : MRep K HI' H' a o := by
  cases o with
  | lst ds => obtain ⟨x, e1, r⟩ := h; exact ⟨x, e.trans e1, r.up sm⟩
  | ins C fs => obtain ⟨x, y, e1, r⟩ := h; exact ⟨x, y, e.trans e1, r.up sm⟩
  | dK kvs => obtain ⟨x, e1, r⟩ := h; exact ⟨x, e.trans e1, r.up sm⟩
  | dT kvs => obtain ⟨x, e1, r⟩ := h; exact ⟨x, e.trans e1, r.up sm⟩
  | dF kvs => obtain ⟨x, y, e1, r⟩ := h; exact ⟨x, y, e.trans e1, r.up sm⟩

/-- the heap: HI stands still, M may change -/
structure Ok (K : PySem.W.Frag) (HI : Hp) (M : MM) (H : Hp) : Prop where
  imm : ∀ a o, HI a = some o → H a = some o ∧ M a = none
  var : ∀ a o, M a = some o → MRep K HI H a o
section
variable {K : PySem.W.Frag} {HI HI' H H' : Hp} {M M' : MM} {a p : Addr}
theorem Ok.same (ok : Ok K HI M H) : Same HI H := fun b o e => (ok.imm b o e).1
theorem Ok.free (ok : Ok K HI M H) (h : H p = none) : HI p = none ∧ M p = none := by
  constructor
  · cases e : HI p with
    | none => rfl
    | some o => rw [(ok.imm p o e).1] at h; cases h
  · cases e : M p with
    | none => rfl
    | some o =>
      obtain ⟨u, q⟩ := (ok.var p o e).there
      rw [q] at h; cases h
theorem same_upd {o : HO} (h : H p = none) : Same H (upd H p o) := fun b u e => by rw [upd_ne (ne_of_none e h)]; exact e
/-- a new thing that will stand still -/
theorem Ok.newI {o : HO} (ok : Ok K HI M H) (h : H p = none) : Ok K (upd HI p o) M (upd H p o) ∧ Same HI (upd HI p o) := by
  obtain ⟨h1, h2⟩ := ok.free h
  have sm : Same HI (upd HI p o) := same_upd h1
  refine ⟨⟨fun b u e => ?_, fun b u e => ?_⟩, sm⟩
  · by_cases hb : b = p
    · subst hb; rw [upd_same] at e; cases e; exact ⟨upd_same, h2⟩
    · rw [upd_ne hb] at e; rw [upd_ne hb]; exact ok.imm b u e
  · have hb : b ≠ p := mm_ne e h2
    exact (ok.var b u e).up sm (upd_ne hb)
/-- a new thing that may change; or a change -/
theorem Ok.newM {o : HO} {m : MO} (ok : Ok K HI M H) (h : HI p = none) (r : MRep K HI (upd H p o) p m) : Ok K HI (mput M p m) (upd H p o) := by
  refine ⟨fun b u e => ?_, fun b u e => ?_⟩
  · have hb : b ≠ p := ne_of_none e h
    rw [upd_ne hb, mput_ne hb]; exact ok.imm b u e
  · by_cases hb : b = p
    · subst hb; rw [mput_same] at e; cases e; exact r
    · rw [mput_ne hb] at e
      exact (ok.var b u e).up (Same.refl _) (upd_ne hb)
/-- a new thing that isn't told -/
theorem Ok.newH {o : HO} (ok : Ok K HI M H) (h : H p = none) : Ok K HI M (upd H p o) := by
  obtain ⟨h1, h2⟩ := ok.free h
  refine ⟨fun b u e => ?_, fun b u e => ?_⟩
  · rw [upd_ne (ne_of_none e h1)]; exact ok.imm b u e
  · exact (ok.var b u e).up (Same.refl _) (upd_ne (mm_ne e h2))
theorem Ok.notI (ok : Ok K HI M H) {m : MO} (h : M p = some m) : HI p = none := by
  cases e : HI p with
  | none => rfl
  | some o => rw [(ok.imm p o e).2] at h; cases h
/-- less is told -/
def MLe (M M' : MM) : Prop := ∀ a o, M a = some o → M' a = some o
theorem MLe.refl (M : MM) : MLe M M := fun _ _ h => h
theorem Ok.less (ok : Ok K HI M' H) (l : MLe M M') : Ok K HI M H := by
  refine ⟨fun b u e => ?_, fun b u e => ok.var b u (l b u e)⟩
  obtain ⟨h1, h2⟩ := ok.imm b u e
  refine ⟨h1, ?_⟩
  cases q : M b with
  | none => rfl
  | some o => rw [l b o q] at h2; cases h2
theorem mle_del {p : Addr} : MLe (mdel M p) M := by
  intro b o e
  by_cases hb : b = p
  · subst hb; rw [mdel_same] at e; cases e
  · rw [mdel_ne hb] at e; exact e
theorem mle_put {p : Addr} {o : MO} (h : M p = none) : MLe M (mput M p o) := fun b u e => by rw [mput_ne (mm_ne e h)]; exact e
theorem mle_none {p : Addr} (l : MLe M M') (h : M' p = none) : M p = none := by
  cases q : M p with
  | none => rfl
  | some o => rw [l p o q] at h; cases h
end

/-! ### slots -/
def RO (K : PySem.W.Frag) (H : Hp) (v : Option V) (d : Option D) : Prop := match d with
  | none => True
  | some d => ∃ x, v = some x ∧ Rep K H x d
abbrev REnv (K : PySem.W.Frag) (H : Hp) : St → DSt → Prop := Paired (RO K H)
section
variable {K : PySem.W.Frag} {H H' : Hp}
theorem REnv.up (sm : Same H H') {σv : St} {σ : DSt} (h : REnv K H σv σ) : REnv K H' σv σ := Paired.mapP h fun _ b z => by
  cases b with
  | none => trivial
  | some d => obtain ⟨x, e, r⟩ := z; exact ⟨x, e, r.up sm⟩
theorem REnv.get : ∀ {σv : St} {σ : DSt} {i : Nat} {d : D}, REnv K H σv σ → σ[i]? = some (some d) → ∃ v, σv[i]? = some (some v) ∧ Rep K H v d
  | _, _, _, _, .nil, e => by simp at e
  | _, _, 0, _, .cons h _, e => by
    simp at e; subst e
    obtain ⟨x, e1, r⟩ := h
    exact ⟨x, by rw [e1]; rfl, r⟩
  | _, _, i + 1, d, .cons _ r, e => by
    obtain ⟨v, h1, h2⟩ := REnv.get (i := i) (d := d) r (by simpa using e)
    exact ⟨v, by simpa using h1, h2⟩
theorem REnv.set {v : V} {d : D} (q : Rep K H v d) : ∀ {σv : St} {σ : DSt} (i : Nat), REnv K H σv σ → REnv K H (σv.set i (some v)) (σ.set i (some d))
  | _, _, _, .nil => .nil
  | _, _, 0, .cons _ t => .cons ⟨v, rfl, q⟩ t
  | _, _, i + 1, .cons r t => .cons r (REnv.set q i t)
theorem REnv.drop1 : ∀ {σv : St} {σ : DSt} (i : Nat) (x : Option V), REnv K H σv σ → REnv K H (σv.set i x) (σ.set i none)
  | _, _, _, _, .nil => .nil
  | _, _, 0, _, .cons _ t => .cons trivial t
  | _, _, i + 1, x, .cons r t => .cons r (REnv.drop1 i x t)
/-- the block's own slots forgotten -/
def wipeD (σ : DSt) : List Nat → DSt
  | [] => σ
  | v :: vs => (wipeD σ vs).set v none
theorem REnv.wipe {σv : St} {σ : DSt} (h : REnv K H σv σ) : ∀ vs : List Nat, REnv K H (L2.wipe σv vs) (wipeD σ vs)
  | [] => h
  | v :: vs => REnv.drop1 v none (REnv.wipe h vs)
def startD (N : List Str) (ds : List D) : DSt := ds.map some ++ List.replicate (N.length - ds.length) none
theorem start_env {N : List Str} : ∀ {vs : List V} {ds : List D}, RepL K H vs ds → REnv K H (L2.start N vs) (startD N ds) := fun {vs ds} h => by
  unfold L2.start startD
  rw [h.len]
  have tail : ∀ n : Nat, REnv K H (List.replicate n none) (List.replicate n none) := fun n => by
    induction n with
    | zero => exact .nil
    | succ n ih => exact .cons trivial ih
  generalize N.length - ds.length = n
  induction vs generalizing ds with
  | nil => cases h; exact tail n
  | cons v vs ih =>
    cases h with
    | cons r t => exact .cons ⟨v, rfl, r⟩ (ih t)
end

/-! ### exceptions -/
structure XV where
  cls : Str
  fs : List D := []
def XRep (K : PySem.W.Frag) (HI : Hp) (c : Value) (d : Option Addr) (x : XV) : Prop := c = .ref (He.ga K x.cls) ∧ match d with
  | none => x.fs = []
  | some a => ∃ v p, HI a = some (.xd [(Str.ofString "place", v)]) ∧ x.fs = [p] ∧ Rep K HI v p

/-! ### the ends -/
abbrev DK := D → MM → Prop
abbrev EK := XV → MM → Prop
/-- a step: what stands still, stands; what isn't told to change isn't changed -/
structure Stp (HI : Hp) (M : MM) (H : Hp) (HI' : Hp) (M' : MM) (H' : Hp) : Prop where
  sm : Same HI HI'
  fr : ∀ a o, H a = some o → M a = none → H' a = some o ∧ M' a = none ∧ (HI a = none → (∀ xs, o ≠ .tup xs) → HI' a = none)
theorem Stp.refl {HI : Hp} {M : MM} {H : Hp} : Stp HI M H HI M H := ⟨Same.refl _, fun _ _ h h' => ⟨h, h', fun z _ => z⟩⟩
theorem Stp.trans {HI HI1 HI2 : Hp} {M M1 M2 : MM} {H H1 H2 : Hp} (a : Stp HI M H HI1 M1 H1) (b : Stp HI1 M1 H1 HI2 M2 H2) : Stp HI M H HI2 M2 H2 :=
  ⟨a.sm.trans b.sm, fun x o h h' => let ⟨h1, h2, h3⟩ := a.fr x o h h'; let ⟨k1, k2, k3⟩ := b.fr x o h1 h2; ⟨k1, k2, fun z n => k3 (h3 z n) n⟩⟩
theorem Stp.newI {HI : Hp} {M : MM} {H : Hp} {p : Addr} {o : HO} (hi : HI p = none) (h : H p = none) : Stp HI M H (upd HI p o) M (upd H p o) :=
  ⟨same_upd hi, fun a u e hm => ⟨by rw [upd_ne (ne_of_none e h)]; exact e, hm, fun z _ => by rw [upd_ne (ne_of_none e h)]; exact z⟩⟩
theorem Stp.newM {HI : Hp} {M : MM} {H : Hp} {p : Addr} {o : HO} {m : MO} (h : H p = none) : Stp HI M H HI (mput M p m) (upd H p o) :=
  ⟨Same.refl _, fun a u e hm => ⟨by rw [upd_ne (ne_of_none e h)]; exact e, by rw [mput_ne (ne_of_none e h)]; exact hm, fun z _ => z⟩⟩
theorem Stp.chg {HI : Hp} {M : MM} {H : Hp} {p : Addr} {o : HO} {m m' : MO} (h : M p = some m) : Stp HI M H HI (mput M p m') (upd H p o) := by
  refine ⟨Same.refl _, fun a u e hm => ?_⟩
  have ne : a ≠ p := fun z => by rw [z, h] at hm; cases hm
  exact ⟨by rw [upd_ne ne]; exact e, by rw [mput_ne ne]; exact hm, fun z _ => z⟩
theorem Stp.newH {HI : Hp} {M : MM} {H : Hp} {p : Addr} {o : HO} (h : H p = none) : Stp HI M H HI M (upd H p o) :=
  ⟨Same.refl _, fun a u e hm => ⟨by rw [upd_ne (ne_of_none e h)]; exact e, hm, fun z _ => z⟩⟩
theorem Stp.less {HI : Hp} {M M' : MM} {H : Hp} (l : MLe M' M) : Stp HI M H HI M' H := by
  refine ⟨Same.refl _, fun a u e hm => ⟨e, ?_, fun z _ => z⟩⟩
  cases q : M' a with
  | none => rfl
  | some o => rw [l a o q] at hm; cases hm
/-- a list that may change stands still from now on -/
theorem Ok.freeze {K : PySem.W.Frag} {HI H : Hp} {M : MM} {p : Addr} {ds : List D} (ok : Ok K HI M H) (h : M p = some (.lst ds)) : ∃ HI', Stp HI M H HI' (mdel M p) H ∧ Ok K HI' (mdel M p) H ∧ Rep K HI' (.ref p) (.lst ds) := by
  obtain ⟨xs, e, r⟩ := ok.var p _ h
  have hn := ok.notI h
  have sm : Same HI (upd HI p (.lst xs)) := same_upd hn
  refine ⟨upd HI p (.lst xs), ⟨sm, fun a u q hm => ⟨q, mle_none mle_del hm, fun z _ => ?_⟩⟩, ⟨fun b u q => ?_, fun b u q => ?_⟩, .lst (LL.of upd_same) (r.up sm)⟩
  · have ne : a ≠ p := fun z => by rw [z, h] at hm; cases hm
    rw [upd_ne ne]; exact z
  · by_cases hb : b = p
    · subst hb; rw [upd_same] at q; cases q; exact ⟨e, mdel_same⟩
    · rw [upd_ne hb] at q; rw [mdel_ne hb]; exact ok.imm b u q
  · exact (ok.var b u (mle_del b u q)).up sm rfl
/-- what isn't told is changed -/
theorem Ok.out {K : PySem.W.Frag} {HI H : Hp} {M : MM} {p : Addr} {o : HO} (ok : Ok K HI M H) (hi : HI p = none) (hm : M p = none) : Ok K HI M (upd H p o) := by
  refine ⟨fun b u e => ?_, fun b u e => ?_⟩
  · rw [upd_ne (ne_of_none e hi)]; exact ok.imm b u e
  · exact (ok.var b u e).up (Same.refl _) (upd_ne (mm_ne e hm))
def low (K : PySem.W.Frag) (HI : Hp) (M : MM) (H : Hp) (Q : DK) (v : V) (H' : Hp) : Prop := ∃ HI' M' d, Stp HI M H HI' M' H' ∧ Ok K HI' M' H' ∧ Rep K HI' v d ∧ Q d M'
def lowL (K : PySem.W.Frag) (HI : Hp) (M : MM) (H : Hp) (Q : List D → MM → Prop) (v : List V) (H' : Hp) : Prop := ∃ HI' M' d, Stp HI M H HI' M' H' ∧ Ok K HI' M' H' ∧ RepL K HI' v d ∧ Q d M'
def lowX (K : PySem.W.Frag) (HI : Hp) (M : MM) (H : Hp) (E : EK) (c : Value) (d : Option Addr) (H' : Hp) : Prop := ∃ HI' M' x, Stp HI M H HI' M' H' ∧ Ok K HI' M' H' ∧ XRep K HI' c d x ∧ E x M'
def lowB (K : PySem.W.Frag) (HI : Hp) (M : MM) (H : Hp) (Q : Bool → MM → Prop) (b : Bool) (H' : Hp) : Prop := ∃ HI' M', Stp HI M H HI' M' H' ∧ Ok K HI' M' H' ∧ Q b M'
section
variable {K : PySem.W.Frag} {HI HI' H H' H2 : Hp} {M M' : MM}
theorem low.of {Q : DK} {v : V} (sm : Stp HI M H HI' M' H') (h : low K HI' M' H' Q v H2) : low K HI M H Q v H2 := by
  obtain ⟨h1, m, d, a, b⟩ := h
  exact ⟨h1, m, d, sm.trans a, b⟩
theorem lowB.of {Q : Bool → MM → Prop} {v : Bool} (sm : Stp HI M H HI' M' H') (h : lowB K HI' M' H' Q v H2) : lowB K HI M H Q v H2 := by
  obtain ⟨h1, m, a, b⟩ := h
  exact ⟨h1, m, sm.trans a, b⟩
theorem lowX.of {Q : EK} {c : Value} {d : Option Addr} (sm : Stp HI M H HI' M' H') (h : lowX K HI' M' H' Q c d H2) : lowX K HI M H Q c d H2 := by
  obtain ⟨h1, m, x, a, b⟩ := h
  exact ⟨h1, m, x, sm.trans a, b⟩
end

abbrev TD := DSt → MM → DK → EK → Prop
abbrev TDT := DSt → MM → (Bool → MM → Prop) → EK → Prop
abbrev TDL := DSt → MM → (List D → MM → Prop) → EK → Prop
structure DEnds where
  nx : DSt → MM → Prop
  rt : DK
  bk : DSt → MM → Prop := fun _ _ => False
  ct : DSt → MM → Prop := fun _ _ => False
  ex : XV → DSt → MM → Prop := fun _ _ _ => False
abbrev TDS := DEnds → DSt → MM → Prop

/-- a wish at the slots -/
def WOk (K : PySem.W.Frag) (W : WX) (HI : Hp) (M : MM) (H : Hp) (σv : St) (E : EK) : Prop := ∀ c d H', lowX K HI M H E c d H' → W c d σv H'
theorem WOk.up {K : PySem.W.Frag} {W : WX} {HI HI' : Hp} {M M' : MM} {H H' : Hp} {σv : St} {E : EK} (h : WOk K W HI M H σv E) (sm : Stp HI M H HI' M' H') : WOk K W HI' M' H' σv E := fun c d H' q => h c d H' (q.of sm)

def upE (K : PySem.W.Frag) (W : WX) (t : TD) : TE := fun σv H Qv => ∃ HI σ M Q E, Ok K HI M H ∧ REnv K HI σv σ ∧ t σ M Q E ∧ (∀ v H', low K HI M H Q v H' → Qv v H') ∧ WOk K W HI M H σv E
def upT (K : PySem.W.Frag) (W : WX) (t : TDT) : TT := fun σv H Qv => ∃ HI σ M Q E, Ok K HI M H ∧ REnv K HI σv σ ∧ t σ M Q E ∧ (∀ v H', lowB K HI M H Q v H' → Qv v H') ∧ WOk K W HI M H σv E
def upL (K : PySem.W.Frag) (W : WX) (t : TDL) : TA := fun σv H Qv => ∃ HI σ M Q E, Ok K HI M H ∧ REnv K HI σv σ ∧ t σ M Q E ∧ (∀ v H', lowL K HI M H Q v H' → Qv v H') ∧ WOk K W HI M H σv E
/-- D is what is wanted, Dv its lifting -/
structure Ref (K : PySem.W.Frag) (W : WX) (HI : Hp) (M : MM) (H : Hp) (Dd : DEnds) (Dv : Ends) : Prop where
  nx : ∀ HI' σv' H' σ' M', Stp HI M H HI' M' H' → Ok K HI' M' H' → REnv K HI' σv' σ' → Dd.nx σ' M' → Dv.nx σv' H'
  rt : ∀ v H', low K HI M H Dd.rt v H' → Dv.rt v H'
  bk : ∀ HI' σv' H' σ' M', Stp HI M H HI' M' H' → Ok K HI' M' H' → REnv K HI' σv' σ' → Dd.bk σ' M' → Dv.bk σv' H'
  ct : ∀ HI' σv' H' σ' M', Stp HI M H HI' M' H' → Ok K HI' M' H' → REnv K HI' σv' σ' → Dd.ct σ' M' → Dv.ct σv' H'
  ex : ∀ HI' σv' H' σ' M', Stp HI M H HI' M' H' → REnv K HI' σv' σ' → WOk K W HI' M' H' σv' (fun x M => Dd.ex x σ' M)
theorem Ref.up {K : PySem.W.Frag} {W : WX} {HI HI' : Hp} {M M' : MM} {H H' : Hp} {Dd : DEnds} {Dv : Ends} (r : Ref K W HI M H Dd Dv) (sm : Stp HI M H HI' M' H') : Ref K W HI' M' H' Dd Dv :=
  ⟨fun h a b c d s => r.nx h a b c d (sm.trans s), fun v H' q => r.rt v H' (q.of sm), fun h a b c d s => r.bk h a b c d (sm.trans s), fun h a b c d s => r.ct h a b c d (sm.trans s), fun h a b c d s => r.ex h a b c d (sm.trans s)⟩
def upS (K : PySem.W.Frag) (W : WX) (t : TDS) : TS := fun Dv σv H => ∃ HI σ M Dd, Ok K HI M H ∧ REnv K HI σv σ ∧ t Dd σ M ∧ Ref K W HI M H Dd Dv

/-! ### the judgements -/
abbrev DE (X : Cx) (W : WX) (e : Expr) (t : TD) : Prop := PE X e (upE X.K W t)
abbrev DT (X : Cx) (W : WX) (e : Expr) (t : TDT) : Prop := PT X e (upT X.K W t)
abbrev DW (X : Cx) (W : WX) (e : Expr) (t : TDT) : Prop := PW X e (upT X.K W t)
abbrev DA (X : Cx) (W : WX) (es : List Expr) (t : TDL) : Prop := PA X es (upL X.K W t)
abbrev DS (X : Cx) (W : WX) (st : Stmt) (t : TDS) : Prop := PS X st (upS X.K W t)
abbrev DSs (X : Cx) (W : WX) (st : List Stmt) (t : TDS) : Prop := PSs X st (upS X.K W t)

theorem pe_imp {X : Cx} {e : Expr} {t t' : TE} (h : PE X e t) (k : ∀ σ H Q, t' σ H Q → t σ H Q) : PE X e t' := ⟨fun pins s σ H Q I q => h.run pins s σ H Q I (k σ H Q q)⟩
theorem pt_imp {X : Cx} {e : Expr} {t t' : TT} (h : PT X e t) (k : ∀ σ H Q, t' σ H Q → t σ H Q) : PT X e t' := ⟨fun pins s σ H Q I q => h.run pins s σ H Q I (k σ H Q q)⟩
theorem pw_imp {X : Cx} {e : Expr} {t t' : TT} (h : PW X e t) (k : ∀ σ H Q, t' σ H Q → t σ H Q) : PW X e t' := ⟨fun w pins s σ H Q I q => h.run w pins s σ H Q I (k σ H Q q)⟩
theorem pa_imp {X : Cx} {e : List Expr} {t t' : TA} (h : PA X e t) (k : ∀ σ H Q, t' σ H Q → t σ H Q) : PA X e t' := ⟨fun p pins s σ H Q I q => h.run p pins s σ H Q I (k σ H Q q)⟩
theorem ps_imp {X : Cx} {e : Stmt} {t t' : TS} (h : PS X e t) (k : ∀ σ H Q, t' Q σ H → t Q σ H) : PS X e t' := ⟨fun pins s σ H Q I q => h.run pins s σ H Q I (k σ H Q q)⟩
theorem pss_imp {X : Cx} {e : List Stmt} {t t' : TS} (h : PSs X e t) (k : ∀ σ H Q, t' Q σ H → t Q σ H) : PSs X e t' := ⟨fun pins s σ H Q I q => h.run pins s σ H Q I (k σ H Q q)⟩
end DL

/-! The data layer: expressions. -/
namespace DL
open PySem PySem.Spec L2

section
variable {K : PySem.W.Frag} {HI HI' H : Hp} {M : MM}
theorem low.mk {Q : DK} {v : V} {d : D} (ok : Ok K HI M H) (r : Rep K HI v d) (q : Q d M) : low K HI M H Q v H := ⟨HI, M, d, .refl, ok, r, q⟩
theorem lowB.mk {Q : Bool → MM → Prop} {b : Bool} (ok : Ok K HI M H) (q : Q b M) : lowB K HI M H Q b H := ⟨HI, M, .refl, ok, q⟩
theorem lowL.mk {Q : List D → MM → Prop} {v : List V} {d : List D} (ok : Ok K HI M H) (r : RepL K HI v d) (q : Q d M) : lowL K HI M H Q v H := ⟨HI, M, d, .refl, ok, r, q⟩
end

/-! ### names, constants -/
def tv (i : Nat) : TD := fun σ M Q _ => match σ[i]? with
  | some (some d) => Q d M
  | _ => False
def tk (d : D) : TD := fun _ M Q _ => Q d M
section
variable {X : Cx} {W : WX} {pos : Pos}
theorem d_var (i : Nat) {x : Str} (hN : X.N[i]? = some x := by rfl) (hv : Vis X.env.scope x := by first | exact Or.inl rfl | exact Or.inr (Or.inl rfl) | exact Or.inr (Or.inr rfl)) (hd : (x == ("__debug__" : Str)) = false := by decide)
    (hcd : (x == ("__classdict__" : Str)) = false := by decide) : DE X W (.Name x pos) (tv i) := pe_imp (pe_var hN hv hd hcd) fun σv H Qv h => by
  obtain ⟨HI, σ, M, Q, E, ok, re, h, k, _⟩ := h
  unfold tv at h
  split at h
  · rename_i d e
    obtain ⟨v, e1, r⟩ := re.get e
    exact ⟨v, e1, k v H (.mk ok r h)⟩
  · exact h.elim
theorem d_k {e : Expr} {v : V} {d : D} (h : PE X e (tC v)) (r : ∀ H, Rep X.K H v d) : DE X W e (tk d) := pe_imp h fun σv H Qv h => by
  obtain ⟨HI, σ, M, Q, E, ok, re, h, k, _⟩ := h
  exact k v H (.mk ok (r _) h)
theorem d_int {i j} : DE X W (.Constant (.int i) j pos) (tk (.int i)) := d_k pe_int fun _ => .int i
theorem d_bl {i j} : DE X W (.Constant (.bool i) j pos) (tk (.bl i)) := d_k pe_bl fun _ => .bl i
theorem d_non {j} : DE X W (.Constant .none j pos) (tk .non) := d_k pe_non fun _ => .non
theorem d_str {i j} : DE X W (.Constant (.str i) j pos) (tk (.str i)) := d_k pe_str fun _ => .str i
theorem d_glob {x : Str} {v : V} {d : D} {u : Value} (hg : Gl X x) (hm : X.mg x = some u) (r : RelV v u) (rep : ∀ H, Rep X.K H v d) (hd : (x == ("__debug__" : Str)) = false := by decide) : DE X W (.Name x pos) (tk d) := d_k (pe_glob hg hm r hd) rep
/-- int, str, .. as values -/
theorem d_ty {x : Str} {n : String} (hg : Gl X x) (hm : X.mg x = none) (hv : bootBuiltins x = some (.type n)) (hn : x ≠ "__name__" := by decide) (hd : (x == ("__debug__" : Str)) = false := by decide) : DE X W (.Name x pos) (tk (.ty n)) :=
  d_k (pe_bltn (v := .ty n) hg hm hv rfl hn hd) fun _ => .ty n
end

/-! ### operators -/
abbrev RD2 := D → D → MM → DK → Prop
def OpD (K : PySem.W.Frag) (r : R2) (rd : RD2) : Prop := ∀ HI M H x y dx dy Q Qv, Ok K HI M H → Rep K HI x dx → Rep K HI y dy → rd dx dy M Q → (∀ v H', low K HI M H Q v H' → Qv v H') → r x y H Qv
def to2 (rd : RD2) (ta tb : TD) : TD := fun σ M Q E => ta σ M (fun x M1 => tb σ M1 (fun y M2 => rd x y M2 Q) E) E
section
variable {X : Cx} {W : WX} {pos : Pos} {a b c : Expr} {ta tb' tc : TD}
theorem up2 {r : R2} {rd : RD2} (hr : OpD X.K r rd) : ∀ σv H Qv, upE X.K W (to2 rd ta tb') σv H Qv → tOp r (upE X.K W ta) (upE X.K W tb') σv H Qv := fun σv H Qv h => by
  obtain ⟨HI, σ, M, Q, E, ok, re, h, k, we⟩ := h
  refine ⟨HI, σ, M, _, E, ok, re, h, fun v H1 ⟨HI1, M1, d1, s1, ok1, r1, h1⟩ => ?_, we⟩
  refine ⟨HI1, σ, M1, _, E, ok1, re.up s1.sm, h1, fun v2 H2 ⟨HI2, M2, d2, s2, ok2, r2, h2⟩ => ?_, we.up s1⟩
  exact hr HI2 M2 H2 v v2 d1 d2 Q Qv ok2 (r1.up s2.sm) r2 h2 fun v' H' q => k v' H' (q.of (s1.trans s2))
theorem d_bin {op : Operator} {r : R2} {rd : RD2} (ho : OpR X (binaryOp op) r) (hr : OpD X.K r rd) (ha : DE X W a ta) (hb : DE X W b tb') : DE X W (.BinOp a op b pos) (to2 rd ta tb') := pe_imp (pe_op ho ha hb) (up2 hr)
theorem d_cmp {op : CmpOp} {r : R2} {rd : RD2} (ho : OpR X (compareOp op) r) (hr : OpD X.K r rd) (ha : DE X W a ta) (hb : DE X W b tb') (hm : behindInMarks op b = false := by first | exact nomark _ | rfl) : DE X W (.Compare a [op] [b] pos) (to2 rd ta tb') := pe_imp (pe_cmpR ho ha hb hm) (up2 hr)
/-- a bool, as a test -/
def tbl (t : TD) : TDT := fun σ M Q E => t σ M (fun x M1 => match x with
  | .bl c => Q c M1
  | _ => False) E
theorem upb {t : TD} : ∀ σv H (Qv : Bool → Hp → Prop), upT X.K W (tbl t) σv H Qv → tB (upE X.K W t) σv H Qv := fun σv H Qv h => by
  obtain ⟨HI, σ, M, Q, E, ok, re, h, k, we⟩ := h
  refine ⟨HI, σ, M, _, E, ok, re, h, fun v H1 ⟨HI1, M1, d1, s1, ok1, r1, h1⟩ => ?_, we⟩
  cases r1 with
  | bl c => exact ⟨c, rfl, k _ _ ⟨HI1, M1, s1, ok1, h1⟩⟩
  | _ => exact h1.elim
/-- a comparison, a call, a name as a test -/
theorem t_val {e : Expr} {t : TD} (h : DE X W e t) (he : ∀ whole, isTrue e X.env whole = (do let v ← whole; standAt e.pos; holding [v] (truthy v)) := by intro _; rfl) : DT X W e (tbl t) := pt_imp (pt_val h he) upb
theorem t_cmp {op : CmpOp} {r : R2} {rd : RD2} (ho : OpR X (compareOp op) r) (hr : OpD X.K r rd) (ha : DE X W a ta) (hb : DE X W b tb') (hm : behindInMarks op b = false := by first | exact nomark _ | rfl) : DT X W (.Compare a [op] [b] pos) (tbl (to2 rd ta tb')) :=
  pt_imp (pt_cmpR ho ha hb hm) fun σv H Qv h => by
    obtain ⟨HI, σ, M, Q, E, ok, re, h, k, we⟩ := h
    refine up2 hr σv H _ ⟨HI, σ, M, _, E, ok, re, h, fun v H1 ⟨HI1, M1, d1, s1, ok1, r1, h1⟩ => ?_, we⟩
    cases r1 with
    | bl c => exact ⟨c, rfl, k _ _ ⟨HI1, M1, s1, ok1, h1⟩⟩
    | _ => exact h1.elim
/-- a < b <= c -/
def tch (r1 r2 : RD2) (ta tb tc : TD) : TD := fun σ M Q E => ta σ M (fun x M1 => tb σ M1 (fun y M2 => r1 x y M2 (fun z M3 => match z with
  | .bl c => if c = true then tc σ M3 (fun u M4 => r2 y u M4 Q) E else Q (.bl false) M3
  | _ => False)) E) E
/-! and, or, not -/
def tand (t u : TDT) : TDT := fun σ M Q E => t σ M (fun c M1 => if c = true then u σ M1 Q E else Q false M1) E
def tor (t u : TDT) : TDT := fun σ M Q E => t σ M (fun c M1 => if c = true then Q true M1 else u σ M1 Q E) E
def tnot (t : TDT) : TDT := fun σ M Q E => t σ M (fun c M1 => Q (!c) M1) E
variable {rest : List Expr} {tA tB' : TDT}
theorem w_and1 (ha : DT X W a tA) : DW X W (.BoolOp .And [a] pos) tA := pw_imp (pw_and1 ha) fun _ _ _ h => h
theorem w_or1 (ha : DT X W a tA) : DW X W (.BoolOp .Or [a] pos) tA := pw_imp (pw_or1 ha) fun _ _ _ h => h
theorem w_and (ha : DT X W a tA) (hb : DW X W (.BoolOp .And (b :: rest) pos) tB') : DW X W (.BoolOp .And (a :: b :: rest) pos) (tand tA tB') := pw_imp (pw_and ha hb) fun σv H Qv h => by
  obtain ⟨HI, σ, M, Q, E, ok, re, h, k, we⟩ := h
  refine ⟨HI, σ, M, _, E, ok, re, h, fun c H1 ⟨HI1, M1, s1, ok1, h1⟩ => ?_, we⟩
  cases c with
  | true => exact ⟨HI1, σ, M1, Q, E, ok1, re.up s1.sm, h1, fun v H' ⟨h2, m2, s2, q⟩ => k v H' ⟨h2, m2, s1.trans s2, q⟩, we.up s1⟩
  | false => exact k _ _ ⟨HI1, M1, s1, ok1, h1⟩
theorem w_or (ha : DT X W a tA) (hb : DW X W (.BoolOp .Or (b :: rest) pos) tB') : DW X W (.BoolOp .Or (a :: b :: rest) pos) (tor tA tB') := pw_imp (pw_or ha hb) fun σv H Qv h => by
  obtain ⟨HI, σ, M, Q, E, ok, re, h, k, we⟩ := h
  refine ⟨HI, σ, M, _, E, ok, re, h, fun c H1 ⟨HI1, M1, s1, ok1, h1⟩ => ?_, we⟩
  cases c with
  | false => exact ⟨HI1, σ, M1, Q, E, ok1, re.up s1.sm, h1, fun v H' ⟨h2, m2, s2, q⟩ => k v H' ⟨h2, m2, s1.trans s2, q⟩, we.up s1⟩
  | true => exact k _ _ ⟨HI1, M1, s1, ok1, h1⟩
theorem t_w {e : Expr} (h : DW X W e tA) : DT X W e tA := PW.pt h
theorem t_not (ha : DT X W a tA) : DT X W (.UnaryOp .Not a pos) (tnot tA) := pt_imp (pt_not ha) fun σv H Qv h => by
  obtain ⟨HI, σ, M, Q, E, ok, re, h, k, we⟩ := h
  exact ⟨HI, σ, M, _, E, ok, re, h, fun c H1 ⟨HI1, M1, s1, ok1, h1⟩ => k _ _ ⟨HI1, M1, s1, ok1, h1⟩, we⟩
/-! .. as values -/
def vand (t u : TD) : TD := fun σ M Q E => t σ M (fun x M1 => match x with
  | .bl c => if c = true then u σ M1 Q E else Q (.bl false) M1
  | _ => False) E
def vor (t u : TD) : TD := fun σ M Q E => t σ M (fun x M1 => match x with
  | .bl c => if c = true then Q (.bl true) M1 else u σ M1 Q E
  | _ => False) E
def vnot (t : TD) : TD := fun σ M Q E => t σ M (fun x M1 => match x with
  | .bl c => Q (.bl (!c)) M1
  | _ => False) E
theorem d_one {op} {t : TD} (h : DE X W a t) : DE X W (.BoolOp op [a] pos) t := pe_one h
theorem d_and {u : TD} (ha : DE X W a ta) (hb : DE X W (.BoolOp .And (b :: rest) pos) u) : DE X W (.BoolOp .And (a :: b :: rest) pos) (vand ta u) := pe_imp (pe_and ha hb) fun σv H Qv h => by
  obtain ⟨HI, σ, M, Q, E, ok, re, h, k, we⟩ := h
  refine ⟨HI, σ, M, _, E, ok, re, h, fun v H1 ⟨HI1, M1, d1, s1, ok1, r1, h1⟩ => ?_, we⟩
  cases r1 with
  | bl c =>
    refine ⟨c, rfl, ?_⟩
    cases c with
    | true => exact ⟨HI1, σ, M1, Q, E, ok1, re.up s1.sm, h1, fun v H' q => k v H' (q.of s1), we.up s1⟩
    | false => exact k _ _ ⟨HI1, M1, _, s1, ok1, .bl _, h1⟩
  | _ => exact h1.elim
theorem d_or {u : TD} (ha : DE X W a ta) (hb : DE X W (.BoolOp .Or (b :: rest) pos) u) : DE X W (.BoolOp .Or (a :: b :: rest) pos) (vor ta u) := pe_imp (pe_or ha hb) fun σv H Qv h => by
  obtain ⟨HI, σ, M, Q, E, ok, re, h, k, we⟩ := h
  refine ⟨HI, σ, M, _, E, ok, re, h, fun v H1 ⟨HI1, M1, d1, s1, ok1, r1, h1⟩ => ?_, we⟩
  cases r1 with
  | bl c =>
    refine ⟨c, rfl, ?_⟩
    cases c with
    | false => exact ⟨HI1, σ, M1, Q, E, ok1, re.up s1.sm, h1, fun v H' q => k v H' (q.of s1), we.up s1⟩
    | true => exact k _ _ ⟨HI1, M1, _, s1, ok1, .bl _, h1⟩
  | _ => exact h1.elim
theorem d_not (ha : DE X W a ta) : DE X W (.UnaryOp .Not a pos) (vnot ta) := pe_imp (pe_not ha) fun σv H Qv h => by
  obtain ⟨HI, σ, M, Q, E, ok, re, h, k, we⟩ := h
  refine ⟨HI, σ, M, _, E, ok, re, h, fun v H1 ⟨HI1, M1, d1, s1, ok1, r1, h1⟩ => ?_, we⟩
  cases r1 with
  | bl c => exact ⟨c, rfl, k _ _ ⟨HI1, M1, _, s1, ok1, .bl _, h1⟩⟩
  | _ => exact h1.elim
/-- a if t else b -/
def tif (t : TDT) (ta tb : TD) : TD := fun σ M Q E => t σ M (fun c M1 => if c = true then ta σ M1 Q E else tb σ M1 Q E) E
theorem d_if (hc : DT X W c tA) (ha : DE X W a ta) (hb : DE X W b tb') : DE X W (.IfExp c a b pos) (tif tA ta tb') := pe_imp (pe_ifExp hc ha hb) fun σv H Qv h => by
  obtain ⟨HI, σ, M, Q, E, ok, re, h, k, we⟩ := h
  refine ⟨HI, σ, M, _, E, ok, re, h, fun c H1 ⟨HI1, M1, s1, ok1, h1⟩ => ?_, we⟩
  cases c with
  | true => exact ⟨HI1, σ, M1, Q, E, ok1, re.up s1.sm, h1, fun v H' q => k v H' (q.of s1), we.up s1⟩
  | false => exact ⟨HI1, σ, M1, Q, E, ok1, re.up s1.sm, h1, fun v H' q => k v H' (q.of s1), we.up s1⟩
theorem upch {r r' : R2} {rd rd' : RD2} (hr : OpD X.K r rd) (hr' : OpD X.K r' rd') : ∀ σv H Qv, upE X.K W (tch rd rd' ta tb' tc) σv H Qv → tChain r r' (upE X.K W ta) (upE X.K W tb') (upE X.K W tc) σv H Qv := fun σv H Qv h => by
  obtain ⟨HI, σ, M, Q, E, ok, re, h, k, we⟩ := h
  refine ⟨HI, σ, M, _, E, ok, re, h, fun v H1 ⟨HI1, M1, d1, s1, ok1, r1, h1⟩ => ?_, we⟩
  refine ⟨HI1, σ, M1, _, E, ok1, re.up s1.sm, h1, fun v2 H2 ⟨HI2, M2, d2, s2, ok2, r2, h2⟩ => ?_, we.up s1⟩
  refine hr HI2 M2 H2 v v2 d1 d2 _ _ ok2 (r1.up s2.sm) r2 h2 fun z H3 ⟨HI3, M3, d3, s3, ok3, r3, h3⟩ => ?_
  cases r3 with
  | bl c =>
    refine ⟨c, rfl, ?_⟩
    cases c with
    | true =>
      refine ⟨HI3, σ, M3, _, E, ok3, re.up ((s1.trans s2).trans s3).sm, h3, fun u H4 ⟨HI4, M4, d4, s4, ok4, r4, h4⟩ => ?_, we.up ((s1.trans s2).trans s3)⟩
      exact hr' HI4 M4 H4 v2 u d2 d4 Q Qv ok4 ((r2.up s3.sm).up s4.sm) r4 h4 fun v' H' q => k v' H' (q.of (((s1.trans s2).trans s3).trans s4))
    | false => exact k _ _ ⟨HI3, M3, _, (s1.trans s2).trans s3, ok3, .bl _, h3⟩
  | _ => exact h3.elim
theorem d_ch {op op' : CmpOp} {r r' : R2} {rd rd' : RD2} (ho : OpR X (compareOp op) r) (ho' : OpR X (compareOp op') r') (hr : OpD X.K r rd) (hr' : OpD X.K r' rd') (ha : DE X W a ta) (hb : DE X W b tb') (hc : DE X W c tc)
    (hm : lastMarks [op, op'] [b, c] = false := by with_unfolding_all rfl) : DE X W (.Compare a [op, op'] [b, c] pos) (tch rd rd' ta tb' tc) := pe_imp (pe_chain ho ho' ha hb hc hm) (upch hr hr')
theorem t_ch {op op' : CmpOp} {r r' : R2} {rd rd' : RD2} (ho : OpR X (compareOp op) r) (ho' : OpR X (compareOp op') r') (hr : OpD X.K r rd) (hr' : OpD X.K r' rd') (ha : DE X W a ta) (hb : DE X W b tb') (hc : DE X W c tc)
    (hm : lastMarks [op, op'] [b, c] = false := by with_unfolding_all rfl) : DT X W (.Compare a [op, op'] [b, c] pos) (tbl (tch rd rd' ta tb' tc)) := pt_imp (pt_chain ho ho' ha hb hc hm) fun σv H Qv h => by
  obtain ⟨HI, σ, M, Q, E, ok, re, h, k, we⟩ := h
  refine upch hr hr' σv H _ ⟨HI, σ, M, _, E, ok, re, h, fun v H1 ⟨HI1, M1, d1, s1, ok1, r1, h1⟩ => ?_, we⟩
  cases r1 with
  | bl c => exact ⟨c, rfl, k _ _ ⟨HI1, M1, s1, ok1, h1⟩⟩
  | _ => exact h1.elim
end
end DL

/-! The data layer: operators, comparisons, built-in calls. -/
namespace DL
open PySem PySem.Spec L2

/-! ### deep data as the library's -/
mutual
def D.py : D → PyData
  | .non => .none
  | .bl b => .bool b
  | .int i => .int i
  | .str x => .str x
  | .ty _ => .none
  | .ref _ => .none
  | .kls _ => .none
  | .kt _ => .none
  | .exc _ _ => .none
  | .lst ds => .list (pyL ds)
  | .tup ds => .tuple (pyL ds)
def pyL : List D → List PyData
  | [] => []
  | d :: ds => d.py :: pyL ds
end
/-- of a depth, its texts sound -/
def D.nice : Nat → D → Bool
  | _, .non => true
  | _, .bl _ => true
  | _, .int _ => true
  | _, .str x => PyData.strOk x
  | n + 1, .lst ds => ds.all (D.nice n)
  | n + 1, .tup ds => ds.all (D.nice n)
  | _, _ => false
theorem nice_facts : ∀ (n : Nat) (d : D), d.nice n = true → PyData.canLay0 d.py = true ∧ d.py.depth ≤ n ∧ ∀ K H v, Rep K H v d → Dp K H v d.py := by
  intro n
  induction n with
  | zero =>
    intro d h
    cases d with
    | non => exact ⟨by simp [D.py, PyData.canLay0], by simp [D.py, PyData.depth], fun K H v r => by cases r; exact .non⟩
    | bl b => exact ⟨by simp [D.py, PyData.canLay0], by simp [D.py, PyData.depth], fun K H v r => by cases r; exact .bl _⟩
    | int b => exact ⟨by simp [D.py, PyData.canLay0], by simp [D.py, PyData.depth], fun K H v r => by cases r; exact .int _⟩
    | str b => exact ⟨by simp only [D.py, PyData.canLay0]; exact h, by simp [D.py, PyData.depth], fun K H v r => by cases r; exact .str _⟩
    | ty b => cases h
    | ref b => cases h
    | kls b => cases h
    | kt b => cases h
    | exc b fs => cases h
    | lst b => cases h
    | tup b => cases h
  | succ n ih =>
    have all : ∀ ds : List D, ds.all (D.nice n) = true → PyData.canLayAll0 (pyL ds) = true ∧ PyData.depthAll (pyL ds) ≤ n ∧ ∀ K H vs, RepL K H vs ds → DpAll K H vs (pyL ds) := by
      intro ds
      induction ds with
      | nil => intro _; exact ⟨by simp [pyL, PyData.canLayAll0], by simp [pyL, PyData.depthAll], fun K H vs r => by cases r; exact .nil⟩
      | cons d ds ih2 =>
        intro h
        simp only [List.all_cons, Bool.and_eq_true] at h
        obtain ⟨a1, a2, a3⟩ := ih d h.1
        obtain ⟨b1, b2, b3⟩ := ih2 h.2
        refine ⟨by simp only [pyL, PyData.canLayAll0, a1, b1, Bool.and_self], by simp only [pyL, PyData.depthAll]; omega, fun K H vs r => ?_⟩
        cases r with
        | cons r1 r2 => exact .cons (a3 _ _ _ r1) (b3 _ _ _ r2)
    intro d h
    cases d with
    | non => exact ⟨by simp [D.py, PyData.canLay0], by simp [D.py, PyData.depth], fun K H v r => by cases r; exact .non⟩
    | bl b => exact ⟨by simp [D.py, PyData.canLay0], by simp [D.py, PyData.depth], fun K H v r => by cases r; exact .bl _⟩
    | int b => exact ⟨by simp [D.py, PyData.canLay0], by simp [D.py, PyData.depth], fun K H v r => by cases r; exact .int _⟩
    | str b => exact ⟨by simp only [D.py, PyData.canLay0]; exact h, by simp [D.py, PyData.depth], fun K H v r => by cases r; exact .str _⟩
    | ty b => cases h
    | ref b => cases h
    | kls b => cases h
    | kt b => cases h
    | exc b fs => cases h
    | lst ds =>
      obtain ⟨b1, b2, b3⟩ := all ds h
      refine ⟨by simp only [D.py, PyData.canLay0]; exact b1, by simp only [D.py, PyData.depth]; omega, fun K H v r => ?_⟩
      cases r with
      | lst h1 h2 => exact .lst h1.sq (b3 _ _ _ h2)
    | tup ds =>
      obtain ⟨b1, b2, b3⟩ := all ds h
      refine ⟨by simp only [D.py, PyData.canLay0]; exact b1, by simp only [D.py, PyData.depth]; omega, fun K H v r => ?_⟩
      cases r with
      | tup h1 h2 => exact .tup h1 (b3 _ _ _ h2)
theorem nice_shaped {d : D} (h : d.nice 16 = true) : SeqAt.shaped d.py = true := by
  obtain ⟨a, b, _⟩ := nice_facts 16 d h
  unfold SeqAt.shaped
  rw [a, decide_eq_true (by omega : d.py.depth ≤ 64)]
  rfl
def eqvD (x y : D) : Bool := PyData.eqv x.py y.py
theorem eqvD_refl {d : D} (h : d.nice 16 = true) : eqvD d d = true := SeqAt.eqv_refl d.py (nice_facts 16 d h).1

/-! ### new things -/
section
variable {K : PySem.W.Frag} {HI H : Hp} {M : MM} {p : Addr} {Q : DK}
theorem low.lst {xs : List V} {ds : List D} (ok : Ok K HI M H) (r : RepL K HI xs ds) (h : H p = none) (q : Q (.lst ds) M) : low K HI M H Q (.ref p) (upd H p (.lst xs)) := by
  obtain ⟨ok', sm⟩ := ok.newI (o := .lst xs) h
  exact ⟨_, M, _, .newI (ok.free h).1 h, ok', .lst (.of upd_same) (r.up sm), q⟩
theorem low.tup {xs : List V} {ds : List D} (ok : Ok K HI M H) (r : RepL K HI xs ds) (h : H p = none) (q : Q (.tup ds) M) : low K HI M H Q (.ref p) (upd H p (.tup xs)) := by
  obtain ⟨ok', sm⟩ := ok.newI (o := .tup xs) h
  exact ⟨_, M, _, .newI (ok.free h).1 h, ok', .tup (.of upd_same) (r.up sm), q⟩
theorem low.lstM {xs : List V} {ds : List D} (ok : Ok K HI M H) (r : RepL K HI xs ds) (h : H p = none) (q : Q (.ref p) (mput M p (.lst ds))) : low K HI M H Q (.ref p) (upd H p (.lst xs)) :=
  ⟨HI, _, _, .newM h, ok.newM (m := .lst ds) (ok.free h).1 (show MRep K HI _ p (.lst ds) from ⟨_, upd_same, r⟩), .ref p, q⟩
end

/-! ### + - * // % ** -/
section
variable {X : Cx}
def rCatL (K : PySem.W.Frag) : R2 := fun x y H Q => ∃ l b xs zs, x = .ref l ∧ y = .ref b ∧ LL K H l xs ∧ LL K H b zs ∧ xs.length + zs.length ≤ sizeLine ∧ ∀ p, H p = none → Q (.ref p) (upd H p (.lst (xs ++ zs)))
theorem op_catL : OpR X (binaryOp .Add) (rCatL X.K) := by
  intro pins s σ H x y v u Q I rx ry h
  obtain ⟨l, b, xs, zs, rfl, rfl, hH, hB, hz, q⟩ := h
  cases rx
  cases ry
  obtain ⟨its, n, r, hl, e, _⟩ := ll_at I hH
  obtain ⟨its2, n2, r2, hl2, e2, _⟩ := ll_at I hB
  refine PySem.P.add_list e e2 ?_ (by rw [List.size_toArray, List.size_toArray]; omega)
  have ea : its.toArray ++ its2.toArray = (its ++ its2).toArray := by simp
  rw [ea]
  exact ⟨.ref _, _, I.lnew (t' := s.toks) (r.append r2) (by rw [List.length_append]; omega), rfl, q _ I.fresh⟩
def rdAdd : RD2 := fun x y M Q => match x, y with
  | .int i, .int j => Q (.int (i + j)) M
  | .str a, .str b => a.length + b.length ≤ sizeLine ∧ Q (.str (a ++ b)) M
  | .lst a, .lst b => a.length + b.length ≤ sizeLine ∧ Q (.lst (a ++ b)) M
  | .tup a, .tup b => a.length + b.length ≤ sizeLine ∧ Q (.tup (a ++ b)) M
  | _, _ => False
def rAddA (K : PySem.W.Frag) : R2 := fun x y H Q => rI0 (fun i j => .int (i + j)) x y H Q ∨ (∃ i j, x = .str i ∧ y = .str j ∧ i.length + j.length ≤ sizeLine ∧ Q (.str (i ++ j)) H) ∨ rCatA K x y H Q ∨ rCatL K x y H Q
theorem o_add : OpR X (binaryOp .Add) (rAddA X.K) := op_add.or (op_add_str.or (op_catA.or op_catL))
theorem od_add {K : PySem.W.Frag} : OpD K (rAddA K) rdAdd := by
  intro HI M H x y dx dy Q Qv ok rx ry h k
  cases rx with
  | int i =>
    cases ry with
    | int j => exact .inl ⟨i, j, rfl, rfl, k _ _ (.mk ok (.int _) h)⟩
    | _ => exact h.elim
  | str a =>
    cases ry with
    | str b => exact .inr (.inl ⟨a, b, rfl, rfl, h.1, k _ _ (.mk ok (.str _) h.2)⟩)
    | _ => exact h.elim
  | lst h1 r1 =>
    cases ry with
    | lst h2 r2 => exact .inr (.inr (.inr ⟨_, _, _, _, rfl, rfl, h1.up ok.same, h2.up ok.same, by rw [r1.len, r2.len]; exact h.1, fun p hp => k _ _ (.lst ok (r1.app r2) hp h.2)⟩))
    | _ => exact h.elim
  | tup h1 r1 =>
    cases ry with
    | tup h2 r2 =>
      refine .inr (.inr (.inl ⟨_, _, _, _, rfl, rfl, same_t ok.same h1, same_t ok.same h2, by rw [r1.len, r2.len]; exact h.1, fun e => ?_, fun _ e => ?_, fun _ _ p hp => k _ _ (.tup ok (r1.app r2) hp h.2)⟩))
      · subst e
        cases r1
        exact k _ _ (.mk ok (.tup h2 r2) h.2)
      · subst e
        cases r2
        refine k _ _ (.mk ok (.tup h1 r1) ?_)
        have q := h.2
        rw [List.append_nil] at q
        exact q
    | _ => exact h.elim
  | _ => exact h.elim
def rdI (C : Int → Int → Prop) (g : Int → Int → D) : RD2 := fun x y M Q => match x, y with
  | .int i, .int j => C i j ∧ Q (g i j) M
  | _, _ => False
theorem od_I {K : PySem.W.Frag} {C : Int → Int → Prop} {g : Int → Int → V} {gd : Int → Int → D} (hg : ∀ H i j, Rep K H (g i j) (gd i j)) : OpD K (rI C g) (rdI C gd) := by
  intro HI M H x y dx dy Q Qv ok rx ry h k
  cases rx with
  | int i =>
    cases ry with
    | int j => exact ⟨i, j, rfl, rfl, h.1, k _ _ (.mk ok (hg _ _ _) h.2)⟩
    | _ => exact h.elim
  | _ => exact h.elim
def rdI0 (g : Int → Int → D) : RD2 := fun x y M Q => match x, y with
  | .int i, .int j => Q (g i j) M
  | _, _ => False
theorem od_I0 {K : PySem.W.Frag} {g : Int → Int → V} {gd : Int → Int → D} (hg : ∀ H i j, Rep K H (g i j) (gd i j)) : OpD K (rI0 g) (rdI0 gd) := by
  intro HI M H x y dx dy Q Qv ok rx ry h k
  cases rx with
  | int i =>
    cases ry with
    | int j => exact ⟨i, j, rfl, rfl, k _ _ (.mk ok (hg _ _ _) h)⟩
    | _ => exact h.elim
  | _ => exact h.elim
abbrev rdSub : RD2 := rdI0 fun i j => .int (i - j)
theorem od_sub {K : PySem.W.Frag} : OpD K (rI0 fun i j => .int (i - j)) rdSub := od_I0 fun _ _ _ => .int _
abbrev rdDiv : RD2 := rdI CDivW fun i j => .int (i / j)
theorem od_div {K : PySem.W.Frag} : OpD K (rI CDivW fun i j => .int (i / j)) rdDiv := od_I fun _ _ _ => .int _
abbrev rdMod : RD2 := rdI (fun _ j => 0 < j) fun i j => .int (i % j)
theorem od_mod {K : PySem.W.Frag} : OpD K (rI (fun _ j => 0 < j) fun i j => .int (i % j)) rdMod := od_I fun _ _ _ => .int _
abbrev rdPow : RD2 := rdI CPow fun i j => .int (i ^ j.toNat)
theorem od_pow {K : PySem.W.Frag} : OpD K (rI CPow fun i j => .int (i ^ j.toNat)) rdPow := od_I fun _ _ _ => .int _
/-! * -/
def rRepL (K : PySem.W.Frag) : R2 := fun x y H Q => ∃ l k xs, x = .ref l ∧ y = .int k ∧ LL K H l xs ∧ -(2 ^ 63) ≤ k ∧ k < 2 ^ 63 ∧ xs.length * k.toNat ≤ sizeLine ∧
  ∀ p, H p = none → Q (.ref p) (upd H p (.lst (List.replicate k.toNat xs).flatten))
theorem op_repL : OpR X (binaryOp .Mult) (rRepL X.K) := by
  intro pins s σ H x y v u Q I rx ry h
  obtain ⟨l, k, xs, rfl, rfl, hH, h1, h2, hz, q⟩ := h
  cases rx
  obtain ⟨t, rfl⟩ := ry
  obtain ⟨its, n, r, hl, e, _⟩ := ll_at I hH
  have sz : its.toArray.size * k.toNat ≤ sizeLine := by rw [List.size_toArray, ← hl]; exact hz
  have c1 : ¬ its.toArray.size * k.toNat > (2 ^ 63 - 1) / 8 := by
    have big : (sizeLine : Nat) ≤ (2 ^ 63 - 1) / 8 := by decide
    omega
  have c2 : ¬ (!Builtin.List.listFitsIndex k) = true := by rw [fitsIndex_both h1 h2]; simp
  have c3 : ¬ Builtin.List.listTooLong (its.toArray.size * k.toNat) = true := by rw [notLongL sz]; simp
  have new : List.foldl (fun x1 x2 => x1 ++ x2) #[] (List.replicate (if its.toArray.isEmpty = true then 0 else k.toNat) its.toArray) = (List.replicate k.toNat its).flatten.toArray := by
    have g : ∀ m : Nat, List.foldl (fun x1 x2 => x1 ++ x2) #[] (List.replicate m its.toArray) = (List.replicate m its).flatten.toArray := fun m => by simpa using foldl_rep its m []
    rw [g]
    cases its with
    | nil => simp
    | cons a r' => rw [if_neg (by simp)]
  refine wpAny_binaryOp_repeat_ref (T := "list") (U := "int") (by decide) ⟨_, e, rfl⟩ (fun s' => typeIs_int s' k t) noFill_list_mul F.fills_int_mul F.slot_int_rmul repeat_list F.slot_int_index.lookup ?_
  refine call_meets F.slot_int_rmul (typeIs_int s k t) F.entry_int_rmul (F.args_int_rmul_2 _ _) (int___rmul___int_list k t l its.toArray n) ⟨e, rfl, ⟨_, e, rfl⟩, ?_⟩
  refine call_meets F.slot_list_mul ⟨_, e, rfl⟩ F.entry_list_mul (F.args_list_mul_2 _ _) (AutoListH.list___mul___list_int_3 l its.toArray n k t c2 c1 c3) ⟨e, ?_⟩
  rw [new]
  exact ⟨.ref _, _, I.lnew (t' := s.toks) (r.rep k.toNat) (by rw [PyProof.Rows.lm_len_rep_flat, Nat.mul_comm]; exact hz), rfl, q _ I.fresh⟩
theorem op_mulS : OpR X (binaryOp .Mult) (fun x y H Q => ∃ a k, x = .str a ∧ y = .int k ∧ MulOk a k ∧ Q (.str (Txt.mul a k)) H) := by
  intro pins s σ H x y v u Q I rx ry h
  obtain ⟨a, k, rfl, rfl, hc, q⟩ := h
  obtain ⟨t, rfl⟩ := rx
  obtain ⟨t', rfl⟩ := ry
  exact PySem.SB.mul hc fun t2 k2 => ⟨.str _, H, I.tok _, ⟨_, rfl⟩, q⟩
def rMulA (K : PySem.W.Frag) : R2 := fun x y H Q => rI CMulX (fun i j => .int (i * j)) x y H Q ∨ (∃ a k, x = .str a ∧ y = .int k ∧ MulOk a k ∧ Q (.str (Txt.mul a k)) H) ∨ rRepL K x y H Q
theorem o_mul : OpR X (binaryOp .Mult) (rMulA X.K) := op_mulX.or (op_mulS.or op_repL)
def rdMul : RD2 := fun x y M Q => match x, y with
  | .int i, .int j => CMulX i j ∧ Q (.int (i * j)) M
  | .str a, .int k => MulOk a k ∧ Q (.str (Txt.mul a k)) M
  | .lst a, .int k => -(2 ^ 63) ≤ k ∧ k < 2 ^ 63 ∧ a.length * k.toNat ≤ sizeLine ∧ Q (.lst (List.replicate k.toNat a).flatten) M
  | _, _ => False
theorem od_mul {K : PySem.W.Frag} : OpD K (rMulA K) rdMul := by
  intro HI M H x y dx dy Q Qv ok rx ry h k
  cases rx with
  | int i =>
    cases ry with
    | int j => exact .inl ⟨i, j, rfl, rfl, h.1, k _ _ (.mk ok (.int _) h.2)⟩
    | _ => exact h.elim
  | str a =>
    cases ry with
    | int b => exact .inr (.inl ⟨a, b, rfl, rfl, h.1, k _ _ (.mk ok (.str _) h.2)⟩)
    | _ => exact h.elim
  | lst h1 r1 =>
    cases ry with
    | int j => exact .inr (.inr ⟨_, _, _, rfl, rfl, h1.up ok.same, h.1, h.2.1, by rw [r1.len]; exact h.2.2.1, fun p hp => k _ _ (.lst ok (r1.rep _) hp h.2.2.2)⟩)
    | _ => exact h.elim
  | _ => exact h.elim
end

/-! ### comparisons -/
section
variable {X : Cx}
abbrev rdLt : RD2 := rdI0 fun i j => .bl (decide (i < j))
abbrev rdLe : RD2 := rdI0 fun i j => .bl (decide (i ≤ j))
abbrev rdGt : RD2 := rdI0 fun i j => .bl (decide (j < i))
abbrev rdGe : RD2 := rdI0 fun i j => .bl (decide (j ≤ i))
theorem od_lt {K : PySem.W.Frag} : OpD K (rI0 fun i j => .bl (decide (i < j))) rdLt := od_I0 fun _ _ _ => .bl _
theorem od_le {K : PySem.W.Frag} : OpD K (rI0 fun i j => .bl (decide (i ≤ j))) rdLe := od_I0 fun _ _ _ => .bl _
theorem od_gt {K : PySem.W.Frag} : OpD K (rI0 fun i j => .bl (decide (j < i))) rdGt := od_I0 fun _ _ _ => .bl _
theorem od_ge {K : PySem.W.Frag} : OpD K (rI0 fun i j => .bl (decide (j ≤ i))) rdGe := od_I0 fun _ _ _ => .bl _
/-- == of data -/
def eqS (x y : D) : Option Bool := match x, y with
  | .int i, .int j => some (decide (i = j))
  | .str i, .str j => some (decide (i = j))
  | .bl i, .bl j => some (decide (i = j))
  | .non, .non => some true
  | _, _ => none
def rdEq : RD2 := fun x y M Q => match eqS x y with
  | some b => Q (.bl b) M
  | none => (x.nice 16 && y.nice 16) = true ∧ Q (.bl (eqvD x y)) M
def rdNe : RD2 := fun x y M Q => match eqS x y with
  | some b => Q (.bl (!b)) M
  | none => (x.nice 16 && y.nice 16) = true ∧ Q (.bl (!eqvD x y)) M
theorem o_eq (hu : X.A.units + 64 < cLine) : OpR X (compareOp .Eq) (fun x y H Q => rEq x y H Q ∨ rEqD X.K x y H Q) := op_eq.or (op_eqD hu)
theorem o_ne (hu : X.A.units + 64 < cLine) : OpR X (compareOp .NotEq) (fun x y H Q => rNe x y H Q ∨ rNeD X.K x y H Q) := op_ne.or (op_neD hu)
theorem eqS_rep {K : PySem.W.Frag} {H : Hp} {x y : V} {dx dy : D} {b : Bool} (rx : Rep K H x dx) (ry : Rep K H y dy) (e : eqS dx dy = some b) : scal x y = true ∧ decide (x = y) = b := by
  cases rx <;> cases ry <;> simp only [eqS] at e <;> first
    | (cases e; exact ⟨rfl, by first | rfl | simp⟩)
    | cases e
theorem od_eq {K : PySem.W.Frag} : OpD K (fun x y H Q => rEq x y H Q ∨ rEqD K x y H Q) rdEq := by
  intro HI M H x y dx dy Q Qv ok rx ry h k
  unfold rdEq at h
  split at h
  · rename_i b e
    obtain ⟨h1, h2⟩ := eqS_rep rx ry e
    exact .inl ⟨h1, by rw [h2]; exact k _ _ (.mk ok (.bl _) h)⟩
  · obtain ⟨hn, q⟩ := h
    rw [Bool.and_eq_true] at hn
    exact .inr ⟨dx.py, dy.py, (nice_facts 16 dx hn.1).2.2 _ _ _ (rx.up ok.same), (nice_facts 16 dy hn.2).2.2 _ _ _ (ry.up ok.same), nice_shaped hn.1, nice_shaped hn.2, k _ _ (.mk ok (.bl _) q)⟩
theorem od_ne {K : PySem.W.Frag} : OpD K (fun x y H Q => rNe x y H Q ∨ rNeD K x y H Q) rdNe := by
  intro HI M H x y dx dy Q Qv ok rx ry h k
  unfold rdNe at h
  split at h
  · rename_i b e
    obtain ⟨h1, h2⟩ := eqS_rep rx ry e
    exact .inl ⟨h1, by rw [h2]; exact k _ _ (.mk ok (.bl _) h)⟩
  · obtain ⟨hn, q⟩ := h
    rw [Bool.and_eq_true] at hn
    exact .inr ⟨dx.py, dy.py, (nice_facts 16 dx hn.1).2.2 _ _ _ (rx.up ok.same), (nice_facts 16 dy hn.2).2.2 _ _ _ (ry.up ok.same), nice_shaped hn.1, nice_shaped hn.2, k _ _ (.mk ok (.bl _) q)⟩
/-- is None -/
def isN : D → Bool
  | .non => true
  | _ => false
def rdIs : RD2 := fun x y M Q => match y with
  | .non => Q (.bl (isN x)) M
  | _ => False
def rdIsNot : RD2 := fun x y M Q => match y with
  | .non => Q (.bl (!isN x)) M
  | _ => False
theorem isN_rep {K : PySem.W.Frag} {H : Hp} {x : V} {d : D} (r : Rep K H x d) : decide (x = .non) = isN d := by cases r <;> rfl
theorem od_is {K : PySem.W.Frag} : OpD K (fun x y H Q => y = .non ∧ Q (.bl (decide (x = .non))) H) rdIs := by
  intro HI M H x y dx dy Q Qv ok rx ry h k
  cases ry with
  | non => exact ⟨rfl, by rw [isN_rep rx]; exact k _ _ (.mk ok (.bl _) h)⟩
  | _ => exact h.elim
theorem od_isNot {K : PySem.W.Frag} : OpD K (fun x y H Q => y = .non ∧ Q (.bl (!decide (x = .non))) H) rdIsNot := by
  intro HI M H x y dx dy Q Qv ok rx ry h k
  cases ry with
  | non => exact ⟨rfl, by rw [isN_rep rx]; exact k _ _ (.mk ok (.bl _) h)⟩
  | _ => exact h.elim
/-- in: flat things in a list or a tuple; one sign in a text -/
def flatD : D → Bool
  | .non => true
  | .bl _ => true
  | .int _ => true
  | .str _ => true
  | _ => false
def eqF : D → D → Bool
  | .non, .non => true
  | .bl a, .bl b => a == b
  | .bl a, .int b => (if a then 1 else 0) == b
  | .int a, .bl b => a == (if b then 1 else 0)
  | .int a, .int b => a == b
  | .str a, .str b => a == b
  | _, _ => false
def inF (x : D) (ds : List D) : Bool := ds.any fun y => eqF y x
theorem flat_rep {K : PySem.W.Frag} {H : Hp} {x : V} {d : D} (r : Rep K H x d) (f : flatD d = true) : flatV x = true := by cases r <;> first | rfl | cases f
theorem flats_rep {K : PySem.W.Frag} {H : Hp} : ∀ {xs : List V} {ds : List D}, RepL K H xs ds → ds.all flatD = true → xs.all flatV = true
  | _, _, .nil, _ => rfl
  | _, _, .cons r t, f => by
    simp only [List.all_cons, Bool.and_eq_true] at f ⊢
    exact ⟨flat_rep r f.1, flats_rep t f.2⟩
theorem eqF_rep {K : PySem.W.Frag} {H : Hp} {x y : V} {dx dy : D} (rx : Rep K H x dx) (ry : Rep K H y dy) (f : flatD dx = true) (g : flatD dy = true) : eqV x y = eqF dx dy := by
  cases rx <;> cases ry <;> first | rfl | cases f | cases g
theorem inF_rep {K : PySem.W.Frag} {H : Hp} {x : V} {d : D} (rx : Rep K H x d) (f : flatD d = true) : ∀ {xs : List V} {ds : List D}, RepL K H xs ds → ds.all flatD = true → inV x xs = inF d ds
  | _, _, .nil, _ => rfl
  | _, _, .cons r t, g => by
    simp only [List.all_cons, Bool.and_eq_true] at g
    unfold inV inF
    rw [List.any_cons, List.any_cons, eqF_rep r rx g.1 f]
    exact congrArg _ (inF_rep rx f t g.2)
def rdIn (neg : Bool) : RD2 := fun x y M Q => match x, y with
  | .str a, .str z => a.cps.size = 1 ∧ Q (.bl (neg ^^ decide (a.cps.getD 0 0 ∈ z.cps.toList))) M
  | x, .lst ds => (flatD x && ds.all flatD) = true ∧ Q (.bl (neg ^^ inF x ds)) M
  | x, .tup ds => (flatD x && ds.all flatD) = true ∧ Q (.bl (neg ^^ inF x ds)) M
  | _, _ => False
theorem one_sign {a : Str} (h : a.cps.size = 1) : a = ⟨#[a.cps.getD 0 0]⟩ := by
  obtain ⟨c⟩ := a
  obtain ⟨l⟩ := c
  cases l with
  | nil => simp at h
  | cons x r =>
    cases r with
    | nil => simp
    | cons y r => simp at h
theorem o_in : OpR X (compareOp .In) (fun x y H Q => (∃ (c : Nat) (z : Str), x = .str ⟨#[c]⟩ ∧ y = .str z ∧ Q (.bl (decide (c ∈ z.cps.toList))) H) ∨ rIn X.K false x y H Q) := op_in_sign.or op_in_seq
theorem o_notIn : OpR X (compareOp .NotIn) (fun x y H Q => (∃ (c : Nat) (z : Str), x = .str ⟨#[c]⟩ ∧ y = .str z ∧ Q (.bl (!decide (c ∈ z.cps.toList))) H) ∨ rIn X.K true x y H Q) := op_notIn_sign.or op_notIn_seq
theorem rdIn_seq {K : PySem.W.Frag} {neg : Bool} {HI : Hp} {M : MM} {H : Hp} {x : V} {dx : D} {p : Addr} {xs : List V} {ds : List D} {Q : DK} {Qv : VK} (ok : Ok K HI M H) (rx : Rep K HI x dx) (hs : SqL K H p xs ∨ SqT K H p xs) (r : RepL K HI xs ds)
    (h : (flatD dx && ds.all flatD) = true ∧ Q (.bl (neg ^^ inF dx ds)) M) (k : ∀ v H', low K HI M H Q v H' → Qv v H') : rIn K neg x (.ref p) H Qv := by
  obtain ⟨h1, h2⟩ := h
  rw [Bool.and_eq_true] at h1
  refine ⟨p, xs, rfl, hs, flat_rep rx h1.1, flats_rep r h1.2, ?_⟩
  rw [inF_rep rx h1.1 r h1.2]
  cases neg with
  | true =>
    rw [if_pos rfl]
    rw [Bool.true_xor] at h2
    exact k _ _ (.mk ok (.bl _) h2)
  | false =>
    rw [if_neg (by decide)]
    rw [Bool.false_xor] at h2
    exact k _ _ (.mk ok (.bl _) h2)
theorem od_in {K : PySem.W.Frag} : OpD K (fun x y H Q => (∃ (c : Nat) (z : Str), x = .str ⟨#[c]⟩ ∧ y = .str z ∧ Q (.bl (decide (c ∈ z.cps.toList))) H) ∨ rIn K false x y H Q) (rdIn false) := by
  intro HI M H x y dx dy Q Qv ok rx ry h k
  cases ry with
  | str z =>
    cases rx with
    | str a =>
      have h2 := h.2
      rw [Bool.false_xor] at h2
      exact .inl ⟨a.cps.getD 0 0, z, congrArg V.str (one_sign h.1), rfl, k _ _ (.mk ok (.bl _) h2)⟩
    | _ => exact h.elim
  | lst h1 r1 => exact .inr (rdIn_seq ok rx (.inl (h1.up ok.same).sq) r1 (by cases rx <;> exact h) k)
  | tup h1 r1 => exact .inr (rdIn_seq ok rx (.inr (same_t ok.same h1)) r1 (by cases rx <;> exact h) k)
  | _ => cases rx <;> exact h.elim
theorem od_notIn {K : PySem.W.Frag} : OpD K (fun x y H Q => (∃ (c : Nat) (z : Str), x = .str ⟨#[c]⟩ ∧ y = .str z ∧ Q (.bl (!decide (c ∈ z.cps.toList))) H) ∨ rIn K true x y H Q) (rdIn true) := by
  intro HI M H x y dx dy Q Qv ok rx ry h k
  cases ry with
  | str z =>
    cases rx with
    | str a =>
      have h2 := h.2
      rw [Bool.true_xor] at h2
      exact .inl ⟨a.cps.getD 0 0, z, congrArg V.str (one_sign h.1), rfl, k _ _ (.mk ok (.bl _) h2)⟩
    | _ => exact h.elim
  | lst h1 r1 => exact .inr (rdIn_seq ok rx (.inl (h1.up ok.same).sq) r1 (by cases rx <;> exact h) k)
  | tup h1 r1 => exact .inr (rdIn_seq ok rx (.inr (same_t ok.same h1)) r1 (by cases rx <;> exact h) k)
  | _ => cases rx <;> exact h.elim

/-! ### -x -/
abbrev RD1 := D → MM → DK → Prop
def UnD (K : PySem.W.Frag) (r : V → Hp → VK → Prop) (rd : RD1) : Prop := ∀ HI M H x dx Q Qv, Ok K HI M H → Rep K HI x dx → rd dx M Q → (∀ v H', low K HI M H Q v H' → Qv v H') → r x H Qv
def to1 (rd : RD1) (ta : TD) : TD := fun σ M Q E => ta σ M (fun x M1 => rd x M1 Q) E
theorem d_un {W : WX} {pos : Pos} {a : Expr} {ta : TD} {op : UnaryOp} {r : V → Hp → VK → Prop} {rd : RD1} (ho : UnR X (unaryOp op) r) (hr : UnD X.K r rd) (ha : DE X W a ta) : DE X W (.UnaryOp op a pos) (to1 rd ta) := pe_imp (pe_un ho ha) fun σv H Qv h => by
  obtain ⟨HI, σ, M, Q, E, ok, re, h, k, we⟩ := h
  refine ⟨HI, σ, M, _, E, ok, re, h, fun v H1 ⟨HI1, M1, d1, s1, ok1, r1, h1⟩ => ?_, we⟩
  exact hr HI1 M1 H1 v d1 Q Qv ok1 r1 h1 fun v' H' q => k v' H' (q.of s1)
def rdNeg : RD1 := fun x M Q => match x with
  | .int i => Q (.int (-i)) M
  | _ => False
theorem od_neg {K : PySem.W.Frag} : UnD K (rU fun i => .int (-i)) rdNeg := by
  intro HI M H x dx Q Qv ok rx h k
  cases rx with
  | int i => exact ⟨i, rfl, k _ _ (.mk ok (.int _) h)⟩
  | _ => exact h.elim

/-! ### x[i] -/
def atD (x : Option D) (M : MM) (Q : DK) : Prop := match x with
  | some d => Q d M
  | none => False
def rdIx : RD2 := fun x y M Q => match x, y with
  | .lst ds, .int i => atD (atI ds i) M Q
  | .tup ds, .int i => atD (atI ds i) M Q
  | .str z, .int i => z.length ≤ sizeLine ∧ match atI z.cps.toList i with
    | some c => Q (.str ⟨#[c]⟩) M
    | none => False
  | .ref p, .int i => (match M p with
    | some (.lst ds) => atD (atI ds i) M Q
    | _ => False)
  | _, _ => False
theorem atI_rep {K : PySem.W.Frag} {H : Hp} {xs : List V} {ds : List D} (r : RepL K H xs ds) {i : Int} {d : D} (h : atI ds i = some d) : ∃ v, atI xs i = some v ∧ Rep K H v d := by
  unfold atI at h ⊢
  rw [r.len]
  cases e : ixN ds.length i with
  | none => rw [e] at h; cases h
  | some j =>
    rw [e] at h
    exact r.get h
theorem ix_at {K : PySem.W.Frag} {HI : Hp} {M : MM} {H : Hp} {xs : List V} {ds : List D} {i : Int} {Q : DK} {Qv : VK} (ok : Ok K HI M H) (r : RepL K HI xs ds) (h : atD (atI ds i) M Q) (k : ∀ v H', low K HI M H Q v H' → Qv v H') :
    ∃ v, atI xs i = some v ∧ Qv v H := by
  unfold atD at h
  split at h
  · rename_i d e
    obtain ⟨v, e1, r1⟩ := atI_rep r e
    exact ⟨v, e1, k _ _ (.mk ok r1 h)⟩
  · exact h.elim
theorem od_ix {K : PySem.W.Frag} : OpD K (rIx K) rdIx := by
  intro HI M H x y dx dy Q Qv ok rx ry h k
  cases ry with
  | int i =>
    cases rx with
    | lst h1 r1 =>
      obtain ⟨v, e, q⟩ := ix_at ok r1 h k
      exact .inl ⟨_, _, i, v, rfl, rfl, (h1.up ok.same).sq, e, q⟩
    | tup h1 r1 =>
      obtain ⟨v, e, q⟩ := ix_at ok r1 h k
      exact .inr (.inl ⟨_, _, i, v, rfl, rfl, same_t ok.same h1, e, q⟩)
    | str z =>
      obtain ⟨hz, h⟩ := h
      split at h
      · rename_i c e
        exact .inr (.inr ⟨z, i, c, rfl, rfl, hz, e, k _ _ (.mk ok (.str _) h)⟩)
      · exact h.elim
    | ref p =>
      simp only [rdIx] at h
      split at h
      · rename_i ds e
        obtain ⟨xs, hx, r1⟩ := ok.var p _ e
        obtain ⟨v, e1, q⟩ := ix_at ok r1 h k
        exact .inl ⟨p, xs, i, v, rfl, rfl, .of hx, e1, q⟩
      · exact h.elim
    | _ => exact h.elim
  | _ => cases rx <;> exact h.elim
theorem d_ix {W : WX} {pos : Pos} {a b : Expr} {ta tb' : TD} (ha : DE X W a ta) (hb : DE X W b tb') (hs : PlainIx b := by exact fun _ _ => rfl) : DE X W (.Subscript a b pos) (to2 rdIx ta tb') := pe_imp (pe_ix ix_seq ha hb hs) (up2 od_ix)

/-! ### x[i:j] -/
abbrev TDO := DSt → MM → (Option Int → MM → Prop) → EK → Prop
def upO (K : PySem.W.Frag) (W : WX) (t : TDO) : TO := fun σv H Qv => ∃ HI σ M Q E, Ok K HI M H ∧ REnv K HI σv σ ∧ t σ M Q E ∧ (∀ o H', (∃ HI' M', Stp HI M H HI' M' H' ∧ Ok K HI' M' H' ∧ Q o M') → Qv o H') ∧ WOk K W HI M H σv E
abbrev DO (X : Cx) (W : WX) (e : Option Expr) (t : TDO) : Prop := PO X e (upO X.K W t)
def so_none : TDO := fun _ M Q _ => Q none M
def so_some (t : TD) : TDO := fun σ M Q E => t σ M (fun x M1 => match x with
  | .int i => Q (some i) M1
  | _ => False) E
theorem p_none {W : WX} : DO X W none so_none := ⟨fun pins s σ H Q I h => by
  obtain ⟨HI, σ', M, Qd, E, ok, re, h, k, we⟩ := h
  exact po_none.run pins s σ H Q I (k _ _ ⟨HI, M, .refl, ok, h⟩)⟩
theorem p_some {W : WX} {e : Expr} {t : TD} (h : DE X W e t) : DO X W (some e) (so_some t) := ⟨fun pins s σ H Q I hh => by
  obtain ⟨HI, σ', M, Qd, E, ok, re, q, k, we⟩ := hh
  refine (po_some h).run pins s σ H Q I ⟨HI, σ', M, _, E, ok, re, q, fun v H1 ⟨HI1, M1, d1, s1, ok1, r1, h1⟩ => ?_, we⟩
  cases r1 with
  | int i => exact ⟨i, rfl, k _ _ ⟨HI1, M1, s1, ok1, h1⟩⟩
  | _ => exact h1.elim⟩
def cutD (xs : List D) (lo hi : Option Int) : List D := (xs.drop (HT.sIx xs.length 0 lo)).take (HT.sIx xs.length xs.length hi - HT.sIx xs.length 0 lo)
theorem cutD_rep {K : PySem.W.Frag} {H : Hp} {xs : List V} {ds : List D} (r : RepL K H xs ds) (lo hi : Option Int) : RepL K H (cutV xs lo hi) (cutD ds lo hi) := by
  unfold cutV cutD
  rw [r.len]
  exact (r.drop _).take _
def tsl (te : TD) (tl th : TDO) : TD := fun σ M Q E => te σ M (fun x M1 => tl σ M1 (fun lo M2 => th σ M2 (fun hi M3 => match x with
  | .lst ds => Q (.lst (cutD ds lo hi)) M3
  | .tup ds => Q (.tup (cutD ds lo hi)) M3
  | .str z => z.length ≤ sizeLine ∧ Q (.str (cutS z lo hi)) M3
  | .ref p => (match M3 p with
    | some (.lst ds) => Q (.lst (cutD ds lo hi)) M3
    | _ => False)
  | _ => False) E) E) E
theorem d_sl {W : WX} {pos p2 : Pos} {e : Expr} {lo hi : Option Expr} {te : TD} {tl th : TDO} (he : DE X W e te) (hl : DO X W lo tl) (hh : DO X W hi th) : DE X W (.Subscript e (.Slice lo hi none p2) pos) (tsl te tl th) :=
  pe_imp (pe_slice (sl_list.or (sl_tupA.or sl_str)) he hl hh) fun σv H Qv h => by
    obtain ⟨HI, σ, M, Q, E, ok, re, h, k, we⟩ := h
    refine ⟨HI, σ, M, _, E, ok, re, h, fun v H1 ⟨HI1, M1, d1, s1, ok1, r1, h1⟩ => ?_, we⟩
    refine ⟨HI1, σ, M1, _, E, ok1, re.up s1.sm, h1, fun o1 H2 ⟨HI2, M2, s2, ok2, h2⟩ => ?_, we.up s1⟩
    refine ⟨HI2, σ, M2, _, E, ok2, re.up (s1.trans s2).sm, h2, fun o2 H3 ⟨HI3, M3, s3, ok3, h3⟩ => ?_, we.up (s1.trans s2)⟩
    have sm := (s1.trans s2).trans s3
    cases r1.up (s2.trans s3).sm with
    | lst a r => exact .inl ⟨_, _, rfl, (a.up ok3.same).sq, fun p hp => k _ _ (low.of sm (.lst ok3 (cutD_rep r _ _) hp h3))⟩
    | @tup _ _ ds0 a r =>
      refine .inr (.inl ⟨_, _, rfl, same_t ok3.same a, fun hw => ?_, fun _ p hp => k _ _ (low.of sm (.tup ok3 (cutD_rep r _ _) hp h3))⟩)
      refine k _ _ (low.of sm (.mk ok3 (.tup a r) ?_))
      have e : cutD ds0 o1 o2 = ds0 := by
        unfold cutD
        rw [← r.len, hw.1, hw.2, List.drop_zero, Nat.sub_zero, r.len, List.take_length]
      have h4 : Q (.tup (cutD ds0 o1 o2)) M3 := h3
      rw [e] at h4
      exact h4
    | str z => exact .inr (.inr ⟨z, rfl, h3.1, k _ _ (low.of sm (.mk ok3 (.str _) h3.2))⟩)
    | ref p =>
      simp only at h3
      split at h3
      · rename_i ds e
        obtain ⟨xs, hx, r⟩ := ok3.var p _ e
        exact .inl ⟨p, xs, rfl, .of hx, fun p hp => k _ _ (low.of sm (.lst ok3 (cutD_rep r _ _) hp h3))⟩
      · exact h3.elim
    | _ => exact h3.elim
end
end DL

/-! The data layer: arguments, displays, built-in calls, methods. -/
namespace DL
open PySem PySem.Spec L2

section
variable {X : Cx} {W : WX} {pos : Pos} {e : Expr} {es : List Expr} {t : TD} {ts : TDL}
def a0 : TDL := fun _ M Q _ => Q [] M
def ac (t : TD) (ts : TDL) : TDL := fun σ M Q E => t σ M (fun x M1 => ts σ M1 (fun xs M2 => Q (x :: xs) M2) E) E
theorem d_nil : DA X W [] a0 := pa_imp pa_nil fun σv H Qv h => by
  obtain ⟨HI, σ, M, Q, E, ok, re, h, k, we⟩ := h
  exact k _ _ (.mk ok .nil h)
theorem d_cons (ha : DE X W e t) (hr : DA X W es ts) (hs : starEach (e :: es) X.env = (false, eval e X.env) :: starEach es X.env := by rfl) : DA X W (e :: es) (ac t ts) := pa_imp (pa_cons ha hr hs) fun σv H Qv h => by
  obtain ⟨HI, σ, M, Q, E, ok, re, h, k, we⟩ := h
  refine ⟨HI, σ, M, _, E, ok, re, h, fun v H1 ⟨HI1, M1, d1, s1, ok1, r1, h1⟩ => ?_, we⟩
  refine ⟨HI1, σ, M1, _, E, ok1, re.up s1.sm, h1, fun vs H2 ⟨HI2, M2, d2, s2, ok2, r2, h2⟩ => ?_, we.up s1⟩
  exact k _ _ ⟨HI2, M2, _, s1.trans s2, ok2, .cons (r1.up s2.sm) r2, h2⟩
/-- *e: a list or a tuple -/
def as_ (t : TD) (ts : TDL) : TDL := fun σ M Q E => t σ M (fun x M1 => match x with
  | .lst ds => ts σ M1 (fun xs M2 => Q (ds ++ xs) M2) E
  | .tup ds => ts σ M1 (fun xs M2 => Q (ds ++ xs) M2) E
  | _ => False) E
theorem d_star {p : Pos} (ha : DE X W e t) (hr : DA X W es ts) (hs : starEach (.Starred e p :: es) X.env = (true, eval e X.env) :: starEach es X.env := by rfl) : DA X W (.Starred e p :: es) (as_ t ts) := pa_imp (StX.pa_star ha hr hs) fun σv H Qv h => by
  obtain ⟨HI, σ, M, Q, E, ok, re, h, k, we⟩ := h
  refine ⟨HI, σ, M, _, E, ok, re, h, fun v H1 ⟨HI1, M1, d1, s1, ok1, r1, h1⟩ => ?_, we⟩
  cases r1 with
  | lst a r =>
    exact ⟨_, _, rfl, .inr (a.up ok1.same).sq, HI1, σ, M1, _, E, ok1, re.up s1.sm, h1, fun vs H2 ⟨HI2, M2, d2, s2, ok2, r2, h2⟩ => k _ _ ⟨HI2, M2, _, s1.trans s2, ok2, (r.up s2.sm).app r2, h2⟩, we.up s1⟩
  | tup a r =>
    exact ⟨_, _, rfl, .inl (same_t ok1.same a), HI1, σ, M1, _, E, ok1, re.up s1.sm, h1, fun vs H2 ⟨HI2, M2, d2, s2, ok2, r2, h2⟩ => k _ _ ⟨HI2, M2, _, s1.trans s2, ok2, (r.up s2.sm).app r2, h2⟩, we.up s1⟩
  | _ => exact h1.elim
/-- displays -/
def dtup (ts : TDL) : TD := fun σ M Q E => ts σ M (fun xs M1 => xs.length ≤ sizeLine ∧ Q (.tup xs) M1) E
def dlst (ts : TDL) : TD := fun σ M Q E => ts σ M (fun xs M1 => xs.length ≤ sizeLine ∧ Q (.lst xs) M1) E
/-- a list that will be changed -/
def dlstM (ts : TDL) : TD := fun σ M Q E => ts σ M (fun xs M1 => xs.length ≤ sizeLine ∧ ∀ p, M1 p = none → Q (.ref p) (mput M1 p (.lst xs))) E
theorem d_tup {c} (h : DA X W es ts) : DE X W (.Tuple es c pos) (dtup ts) := pe_imp (pe_tup h) fun σv H Qv h => by
  obtain ⟨HI, σ, M, Q, E, ok, re, h, k, we⟩ := h
  refine ⟨HI, σ, M, _, E, ok, re, h, fun v H1 ⟨HI1, M1, d1, s1, ok1, r1, h1⟩ => ?_, we⟩
  exact ⟨by rw [r1.len]; exact h1.1, fun p hp => k _ _ (low.of s1 (.tup ok1 r1 hp h1.2))⟩
theorem d_lst (h : DA X W es ts) : DE X W (.List es pos) (dlst ts) := pe_imp (pe_lst h) fun σv H Qv h => by
  obtain ⟨HI, σ, M, Q, E, ok, re, h, k, we⟩ := h
  refine ⟨HI, σ, M, _, E, ok, re, h, fun v H1 ⟨HI1, M1, d1, s1, ok1, r1, h1⟩ => ?_, we⟩
  exact ⟨by rw [r1.len]; exact h1.1, fun p hp => k _ _ (low.of s1 (.lst ok1 r1 hp h1.2))⟩
theorem d_lstM (h : DA X W es ts) : DE X W (.List es pos) (dlstM ts) := pe_imp (pe_lst h) fun σv H Qv h => by
  obtain ⟨HI, σ, M, Q, E, ok, re, h, k, we⟩ := h
  refine ⟨HI, σ, M, _, E, ok, re, h, fun v H1 ⟨HI1, M1, d1, s1, ok1, r1, h1⟩ => ?_, we⟩
  exact ⟨by rw [r1.len]; exact h1.1, fun p hp => k _ _ (low.of s1 (.lstM ok1 r1 hp (h1.2 p (ok1.free hp).2)))⟩
/-- a list that may change stands still from now on -/
def tfrz (t : TD) : TD := fun σ M Q E => t σ M (fun x M1 => match x with
  | .ref p => (match M1 p with
    | some (.lst ds) => Q (.lst ds) (mdel M1 p)
    | _ => False)
  | _ => False) E
theorem d_frz (h : DE X W e t) : DE X W e (tfrz t) := pe_imp h fun σv H Qv h => by
  obtain ⟨HI, σ, M, Q, E, ok, re, h, k, we⟩ := h
  refine ⟨HI, σ, M, _, E, ok, re, h, fun v H1 ⟨HI1, M1, d1, s1, ok1, r1, h1⟩ => ?_, we⟩
  cases r1 with
  | ref p =>
    simp only at h1
    split at h1
    · rename_i ds e
      obtain ⟨HI2, s2, ok2, r2⟩ := ok1.freeze e
      exact k _ _ ⟨HI2, _, _, s1.trans s2, ok2, r2, h1⟩
    · exact h1.elim
  | _ => exact h1.elim
end

/-! ### calls of built-ins -/
abbrev RDL := List D → MM → DK → Prop
def CrD (K : PySem.W.Frag) (r : List V → Hp → VK → Prop) (rd : RDL) : Prop := ∀ HI M H xs ds Q Qv, Ok K HI M H → RepL K HI xs ds → rd ds M Q → (∀ v H', low K HI M H Q v H' → Qv v H') → r xs H Qv
def tcb (rd : RDL) (ts : TDL) : TD := fun σ M Q E => ts σ M (fun xs M1 => rd xs M1 Q) E
section
variable {X : Cx} {W : WX} {pos p : Pos} {e : Expr} {es : List Expr} {ts : TDL} {r : List V → Hp → VK → Prop} {rd : RDL} {id T : String} {x : Str}
theorem upcb (hr : CrD X.K r rd) : ∀ σv H Qv, upE X.K W (tcb rd ts) σv H Qv → tCB r (upL X.K W ts) σv H Qv := fun σv H Qv h => by
  obtain ⟨HI, σ, M, Q, E, ok, re, h, k, we⟩ := h
  refine ⟨HI, σ, M, _, E, ok, re, h, fun v H1 ⟨HI1, M1, d1, s1, ok1, r1, h1⟩ => ?_, we⟩
  exact hr HI1 M1 H1 v d1 Q Qv ok1 r1 h1 fun v' H' q => k v' H' (q.of s1)
theorem d_callB (hc : CallR X (.builtin id) r) (hr : CrD X.K r rd) (hg : Gl X x) (hm : X.mg x = none) (hv : bootBuiltins x = some (.builtin id)) (ha : DA X W (e :: es) ts) (hn : x ≠ "__name__" := by decide) (hdb : (x == ("__debug__" : Str)) = false := by decide)
    (he : starEach (e :: es) X.env = (false, eval e X.env) :: starEach es X.env := by rfl) (hpl : (backTo pos (starEach es X.env)).any (·.1) = false := by rfl) : DE X W (.Call (.Name x p) (e :: es) [] pos) (tcb rd ts) :=
  pe_imp (pe_callB hc hg hm hv ha hn hdb he hpl) (upcb hr)
theorem d_callTy (hc : CallR X (.type T) r) (hr : CrD X.K r rd) (hg : Gl X x) (hm : X.mg x = none) (hv : bootBuiltins x = some (.type T)) (ha : DA X W (e :: es) ts) (hn : x ≠ "__name__" := by decide) (hdb : (x == ("__debug__" : Str)) = false := by decide)
    (he : starEach (e :: es) X.env = (false, eval e X.env) :: starEach es X.env := by rfl) (hpl : (backTo pos (starEach es X.env)).any (·.1) = false := by rfl) : DE X W (.Call (.Name x p) (e :: es) [] pos) (tcb rd ts) :=
  pe_imp (pe_callTy hc hg hm hv ha hn hdb he hpl) (upcb hr)

/-- len -/
def rdLen : RDL := fun ds M Q => match ds with
  | [.lst xs] => Q (.int xs.length) M
  | [.tup xs] => Q (.int xs.length) M
  | [.str z] => z.length ≤ sizeLine ∧ Q (.int z.length) M
  | [.ref p] => (match M p with
    | some (.lst xs) => Q (.int xs.length) M
    | _ => False)
  | _ => False
theorem od_len {K : PySem.W.Frag} : CrD K (fun xs H Q => (∃ p ys, xs = [.ref p] ∧ (SqL K H p ys ∨ SqT K H p ys) ∧ Q (.int ys.length) H) ∨ ∃ z, xs = [.str z] ∧ z.length ≤ sizeLine ∧ Q (.int z.length) H) rdLen := by
  intro HI M H xs ds Q Qv ok r h k
  cases r with
  | nil => exact h.elim
  | cons r rr =>
    cases rr with
    | cons _ _ => cases r <;> exact h.elim
    | nil =>
      cases r with
      | lst a r => exact .inl ⟨_, _, rfl, .inl (a.up ok.same).sq, k _ _ (.mk ok (.int _) (by rw [r.len]; exact h))⟩
      | tup a r => exact .inl ⟨_, _, rfl, .inr (same_t ok.same a), k _ _ (.mk ok (.int _) (by rw [r.len]; exact h))⟩
      | str z => exact .inr ⟨z, rfl, h.1, k _ _ (.mk ok (.int _) h.2)⟩
      | ref p =>
        simp only [rdLen] at h
        split at h
        · rename_i ds e
          obtain ⟨xs, hx, r⟩ := ok.var p _ e
          exact .inl ⟨p, xs, rfl, .inl (.of hx), k _ _ (.mk ok (.int _) (by rw [r.len]; exact h))⟩
        · exact h.elim
      | _ => exact h.elim
theorem c_len : CallR X (.builtin "len") (fun xs H Q => (∃ p ys, xs = [.ref p] ∧ (SqL X.K H p ys ∨ SqT X.K H p ys) ∧ Q (.int ys.length) H) ∨ ∃ z, xs = [.str z] ∧ z.length ≤ sizeLine ∧ Q (.int z.length) H) := call_len_seq.or call_len_str
/-- abs -/
def rdAbs : RDL := fun ds M Q => match ds with
  | [.int i] => Q (.int (if i < 0 then -i else i)) M
  | _ => False
theorem od_abs {K : PySem.W.Frag} : CrD K (fun xs H Q => ∃ i, xs = [.int i] ∧ Q (.int (if i < 0 then -i else i)) H) rdAbs := by
  intro HI M H xs ds Q Qv ok r h k
  cases r with
  | nil => exact h.elim
  | cons r rr =>
    cases rr with
    | cons _ _ => cases r <;> exact h.elim
    | nil =>
      cases r with
      | int i => exact ⟨i, rfl, k _ _ (.mk ok (.int _) h)⟩
      | _ => exact h.elim
/-- int(n), int(flag), int(text) -/
def rdInt : RDL := fun ds M Q => match ds with
  | [.int i] => Q (.int i) M
  | [.bl b] => Q (.int (if b then 1 else 0)) M
  | [.str a] => a.length ≤ 640 ∧ match PySem.intText? a with
    | some n => Q (.int n) M
    | none => False
  | _ => False
theorem c_int : CallR X (.type "int") (fun xs H Q => ((∃ i, xs = [.int i] ∧ Q (.int i) H) ∨ ∃ k, xs = [.bl k] ∧ Q (.int (if k then 1 else 0)) H) ∨ ∃ a n, xs = [.str a] ∧ PySem.intText? a = some n ∧ a.length ≤ 640 ∧ Q (.int n) H) := call_int1.or call_int_str
theorem od_int {K : PySem.W.Frag} : CrD K (fun xs H Q => ((∃ i, xs = [.int i] ∧ Q (.int i) H) ∨ ∃ k, xs = [.bl k] ∧ Q (.int (if k then 1 else 0)) H) ∨ ∃ a n, xs = [.str a] ∧ PySem.intText? a = some n ∧ a.length ≤ 640 ∧ Q (.int n) H) rdInt := by
  intro HI M H xs ds Q Qv ok r h k
  cases r with
  | nil => exact h.elim
  | cons r rr =>
    cases rr with
    | cons _ _ => cases r <;> exact h.elim
    | nil =>
      cases r with
      | int i => exact .inl (.inl ⟨i, rfl, k _ _ (.mk ok (.int _) h)⟩)
      | bl b => exact .inl (.inr ⟨b, rfl, k _ _ (.mk ok (.int _) h)⟩)
      | str a =>
        obtain ⟨hz, h⟩ := h
        split at h
        · rename_i n e
          exact .inr ⟨a, n, rfl, e, hz, k _ _ (.mk ok (.int _) h)⟩
        · exact h.elim
      | _ => exact h.elim
/-- str(n), str(text) -/
def rdStr : RDL := fun ds M Q => match ds with
  | [.int i] => i.natAbs.log2 < 1920 ∧ Q (.str (toString i)) M
  | _ => False
theorem od_strI {K : PySem.W.Frag} : CrD K (fun xs H Q => ∃ i, xs = [.int i] ∧ i.natAbs.log2 < 1920 ∧ Q (.str (toString i)) H) rdStr := by
  intro HI M H xs ds Q Qv ok r h k
  cases r with
  | nil => exact h.elim
  | cons r rr =>
    cases rr with
    | cons _ _ => cases r <;> exact h.elim
    | nil =>
      cases r with
      | int i => exact ⟨i, rfl, h.1, k _ _ (.mk ok (.str _) h.2)⟩
      | _ => exact h.elim
/-- list(x), tuple(x) -/
def rdList : RDL := fun ds M Q => match ds with
  | [.lst xs] => Q (.lst xs) M
  | [.tup xs] => Q (.lst xs) M
  | [.ref p] => (match M p with
    | some (.lst xs) => Q (.lst xs) M
    | _ => False)
  | _ => False
theorem od_list {K : PySem.W.Frag} : CrD K (fun xs H Q => ∃ p ys, xs = [.ref p] ∧ (SqL K H p ys ∨ SqT K H p ys) ∧ ∀ l, H l = none → Q (.ref l) (upd H l (.lst ys))) rdList := by
  intro HI M H xs ds Q Qv ok r h k
  cases r with
  | nil => exact h.elim
  | cons r rr =>
    cases rr with
    | cons _ _ => cases r <;> exact h.elim
    | nil =>
      cases r with
      | lst a r => exact ⟨_, _, rfl, .inl (a.up ok.same).sq, fun l hl => k _ _ (.lst ok r hl h)⟩
      | tup a r => exact ⟨_, _, rfl, .inr (same_t ok.same a), fun l hl => k _ _ (.lst ok r hl h)⟩
      | ref p =>
        simp only [rdList] at h
        split at h
        · rename_i ds e
          obtain ⟨xs, hx, r⟩ := ok.var p _ e
          exact ⟨p, xs, rfl, .inl (.of hx), fun l hl => k _ _ (.lst ok r hl h)⟩
        · exact h.elim
      | _ => exact h.elim
def rdTuple : RDL := fun ds M Q => match ds with
  | [.lst xs] => Q (.tup xs) M
  | [.tup xs] => Q (.tup xs) M
  | [.ref p] => (match M p with
    | some (.lst xs) => Q (.tup xs) M
    | _ => False)
  | _ => False
theorem od_tuple {K : PySem.W.Frag} : CrD K (fun xs H Q => ∃ p ys, xs = [.ref p] ∧ ((SqL K H p ys ∧ ∀ l, H l = none → Q (.ref l) (upd H l (.tup ys))) ∨ (SqT K H p ys ∧ Q (.ref p) H))) rdTuple := by
  intro HI M H xs ds Q Qv ok r h k
  cases r with
  | nil => exact h.elim
  | cons r rr =>
    cases rr with
    | cons _ _ => cases r <;> exact h.elim
    | nil =>
      cases r with
      | lst a r => exact ⟨_, _, rfl, .inl ⟨(a.up ok.same).sq, fun l hl => k _ _ (.tup ok r hl h)⟩⟩
      | tup a r => exact ⟨_, _, rfl, .inr ⟨same_t ok.same a, k _ _ (.mk ok (.tup a r) h)⟩⟩
      | ref p =>
        simp only [rdTuple] at h
        split at h
        · rename_i ds e
          obtain ⟨xs, hx, r⟩ := ok.var p _ e
          exact ⟨p, xs, rfl, .inl ⟨.of hx, fun l hl => k _ _ (.tup ok r hl h)⟩⟩
        · exact h.elim
      | _ => exact h.elim
/-- all, any of bools -/
def blsOf : List D → Option (List Bool)
  | [] => some []
  | .bl b :: r => (blsOf r).map (b :: ·)
  | _ :: _ => none
theorem blsOf_map : ∀ bs : List Bool, blsOf (bs.map D.bl) = some bs
  | [] => rfl
  | b :: bs => by rw [List.map_cons, blsOf, blsOf_map bs]; rfl
theorem blsOf_eq : ∀ {ds : List D} {bs : List Bool}, blsOf ds = some bs → ds = bs.map D.bl
  | [], bs, h => by cases h; rfl
  | d :: ds, bs, h => by
    cases d with
    | bl b =>
      unfold blsOf at h
      cases e : blsOf ds with
      | none => rw [e] at h; cases h
      | some r => rw [e] at h; cases h; rw [List.map_cons, blsOf_eq e]
    | _ => cases h
def rdAll : RDL := fun ds M Q => match ds with
  | [.lst xs] => (match blsOf xs with
    | some bs => Q (.bl (bs.all _root_.id)) M
    | none => False)
  | _ => False
def rdAny : RDL := fun ds M Q => match ds with
  | [.lst xs] => (match blsOf xs with
    | some bs => Q (.bl (bs.any _root_.id)) M
    | none => False)
  | _ => False
theorem od_all {K : PySem.W.Frag} : CrD K (rAll K) rdAll := by
  intro HI M H xs ds Q Qv ok r h k
  cases r with
  | nil => exact h.elim
  | cons r rr =>
    cases rr with
    | cons _ _ => cases r <;> exact h.elim
    | nil =>
      cases r with
      | lst a r =>
        simp only [rdAll] at h
        split at h
        · rename_i bs e
          rw [blsOf_eq e] at r
          have e2 := r.bls
          subst e2
          exact ⟨_, bs, rfl, (a.up ok.same).sq, k _ _ (.mk ok (.bl _) h)⟩
        · exact h.elim
      | _ => exact h.elim
theorem od_any {K : PySem.W.Frag} : CrD K (rAny K) rdAny := by
  intro HI M H xs ds Q Qv ok r h k
  cases r with
  | nil => exact h.elim
  | cons r rr =>
    cases rr with
    | cons _ _ => cases r <;> exact h.elim
    | nil =>
      cases r with
      | lst a r =>
        simp only [rdAny] at h
        split at h
        · rename_i bs e
          rw [blsOf_eq e] at r
          have e2 := r.bls
          subst e2
          exact ⟨_, bs, rfl, (a.up ok.same).sq, k _ _ (.mk ok (.bl _) h)⟩
        · exact h.elim
      | _ => exact h.elim
/-- isinstance(x, a built-in class) -/
def D.cls : D → Option String
  | .non => some "NoneType"
  | .bl _ => some "bool"
  | .int _ => some "int"
  | .str _ => some "str"
  | .lst _ => some "list"
  | .tup _ => some "tuple"
  | _ => none
theorem ty_rep {K : PySem.W.Frag} {H : Hp} {x : V} {d : D} {c : String} (r : Rep K H x d) (e : d.cls = some c) : TyX K H x (.type c) := by
  cases r with
  | non => cases e; exact .base .non
  | bl b => cases e; exact .base (.bl b)
  | int b => cases e; exact .base (.int b)
  | str b => cases e; exact .base (.str b)
  | ty b => cases e
  | ref b => cases e
  | kls b => cases e
  | kt _ => cases e
  | exc0 _ => cases e
  | exc1 _ _ _ => cases e
  | lst a r =>
    cases e
    rcases a with a | ⟨its, n, a⟩ | ⟨its, n, a, _⟩
    · exact .base (.lst a)
    · exact .base (.frz a)
    · exact .kList a rfl
  | tup a r =>
    cases e
    rcases a with (a | ⟨o, a⟩) | ⟨o, its, n, a, c, _⟩
    · exact .base (.tup a)
    · exact .fTuple a
    · exact .kTuple a c
def isB (d : D) (n : String) : Option Bool := d.cls.bind fun c => kitB c n
def rdIsi : RDL := fun ds M Q => match ds with
  | [x, .ty n] => (match isB x n with
    | some b => Q (.bl b) M
    | none => False)
  | _ => False
theorem od_isi {K : PySem.W.Frag} : CrD K (rIsi K) rdIsi := by
  intro HI M H xs ds Q Qv ok r h k
  unfold rdIsi at h
  split at h
  · rename_i x n
    split at h
    · rename_i b e
      cases r with
      | cons r rr =>
        cases rr with
        | cons r2 rr =>
          cases rr
          cases r2
          unfold isB at e
          cases ec : x.cls with
          | none => rw [ec] at e; cases e
          | some c =>
            rw [ec] at e
            exact ⟨_, _, _, _, b, rfl, .ty n, ty_rep (r.up ok.same) ec, kit_ty e, k _ _ (.mk ok (.bl _) h)⟩
    · exact h.elim
  · exact h.elim
end

/-! ### repr -/
/-- what may be shown: of a depth, its numbers not too long -/
def D.shw : Nat → D → Bool
  | _, .non => true
  | _, .bl _ => true
  | _, .int i => decide (i.natAbs.log2 < 1920)
  | _, .str _ => true
  | n + 1, .lst ds => ds.all (D.shw n)
  | n + 1, .tup ds => ds.all (D.shw n)
  | _, _ => false
theorem shw_facts : ∀ (n : Nat) (d : D), d.shw n = true → PyData.showable d.py = true ∧ d.py.depth ≤ n ∧ PyData.hasDict d.py = false ∧ ∀ K H v, Rep K H v d → Dp K H v d.py := by
  intro n
  have base : ∀ (m : Nat) (d : D), (∀ ds, d ≠ .lst ds) → (∀ ds, d ≠ .tup ds) → d.shw m = true → PyData.showable d.py = true ∧ d.py.depth ≤ m ∧ PyData.hasDict d.py = false ∧ ∀ K H v, Rep K H v d → Dp K H v d.py := by
    intro m d n1 n2 h
    cases d with
    | non => exact ⟨by simp [D.py, PyData.showable], by simp [D.py, PyData.depth], by simp [D.py, PyData.hasDict], fun K H v r => by cases r; exact .non⟩
    | bl b => exact ⟨by simp [D.py, PyData.showable], by simp [D.py, PyData.depth], by simp [D.py, PyData.hasDict], fun K H v r => by cases r; exact .bl _⟩
    | int b => exact ⟨by simp only [D.py, PyData.showable]; cases m <;> exact h, by simp [D.py, PyData.depth], by simp [D.py, PyData.hasDict], fun K H v r => by cases r; exact .int _⟩
    | str b => exact ⟨by simp [D.py, PyData.showable], by simp [D.py, PyData.depth], by simp [D.py, PyData.hasDict], fun K H v r => by cases r; exact .str _⟩
    | ty b => cases m <;> cases h
    | ref b => cases m <;> cases h
    | kls b => cases m <;> cases h
    | kt b => cases m <;> cases h
    | exc b fs => cases m <;> cases h
    | lst b => exact absurd rfl (n1 b)
    | tup b => exact absurd rfl (n2 b)
  induction n with
  | zero =>
    intro d h
    refine base 0 d (fun ds e => ?_) (fun ds e => ?_) h
    · subst e; cases h
    · subst e; cases h
  | succ n ih =>
    have all : ∀ ds : List D, ds.all (D.shw n) = true → PyData.showableAll (pyL ds) = true ∧ PyData.depthAll (pyL ds) ≤ n ∧ PyData.hasDictAll (pyL ds) = false ∧ ∀ K H vs, RepL K H vs ds → DpAll K H vs (pyL ds) := by
      intro ds
      induction ds with
      | nil => intro _; exact ⟨by simp [pyL, PyData.showableAll], by simp [pyL, PyData.depthAll], by simp [pyL, PyData.hasDictAll], fun K H vs r => by cases r; exact .nil⟩
      | cons d ds ih2 =>
        intro h
        simp only [List.all_cons, Bool.and_eq_true] at h
        obtain ⟨a1, a2, a4, a3⟩ := ih d h.1
        obtain ⟨b1, b2, b4, b3⟩ := ih2 h.2
        refine ⟨by simp only [pyL, PyData.showableAll, a1, b1, Bool.and_self], by simp only [pyL, PyData.depthAll]; omega, by simp only [pyL, PyData.hasDictAll, a4, b4, Bool.or_self], fun K H vs r => ?_⟩
        cases r with
        | cons r1 r2 => exact .cons (a3 _ _ _ r1) (b3 _ _ _ r2)
    intro d h
    cases d with
    | lst ds =>
      obtain ⟨b1, b2, b4, b3⟩ := all ds h
      refine ⟨by simp only [D.py, PyData.showable]; exact b1, by simp only [D.py, PyData.depth]; omega, by simp only [D.py, PyData.hasDict]; exact b4, fun K H v r => ?_⟩
      cases r with
      | lst h1 h2 => exact .lst h1.sq (b3 _ _ _ h2)
    | tup ds =>
      obtain ⟨b1, b2, b4, b3⟩ := all ds h
      refine ⟨by simp only [D.py, PyData.showable]; exact b1, by simp only [D.py, PyData.depth]; omega, by simp only [D.py, PyData.hasDict]; exact b4, fun K H v r => ?_⟩
      cases r with
      | tup h1 h2 => exact .tup h1 (b3 _ _ _ h2)
    | _ => exact base _ _ (fun ds e => by cases e) (fun ds e => by cases e) h
def D.shown (d : D) : Str := d.py.shown
/-- data of two or more parts; an int; a text -/
def rdRepr : RDL := fun ds M Q => match ds with
  | [.int i] => i.natAbs.log2 < 1920 ∧ Q (.str (toString i)) M
  | [.lst xs] => (D.shw 16 (.lst xs) = true ∧ (D.lst xs).shown.length ≤ sizeLine) ∧ Q (.str (D.lst xs).shown) M
  | [.tup xs] => (D.shw 16 (.tup xs) = true ∧ (D.tup xs).shown.length ≤ sizeLine) ∧ Q (.str (D.tup xs).shown) M
  | _ => False
section
variable {X : Cx}
theorem c_repr (hg : X.A.guards = some []) (hu : X.A.units + 64 < cLine) : CallR X (.builtin "repr") (fun xs H Q => (∃ i, xs = [.int i] ∧ i.natAbs.log2 < 1920 ∧ Q (.str (toString i)) H) ∨
    ∃ a d, xs = [.ref a] ∧ Dp X.K H (.ref a) d ∧ d.showable = true ∧ d.depth ≤ 16 ∧ d.hasDict = false ∧ d.shown.length ≤ sizeLine ∧ Q (.str d.shown) H) := by
  refine CallR.or SkE.call_repr_int ?_
  intro pins s σ H xs us Q I r h
  obtain ⟨a, d, rfl, hd, h1, h2, h3, h4, q⟩ := h
  have e := r.ref1
  subst e
  obtain ⟨as, rd⟩ := Dp.reads I d _ _ hd rfl
  refine repr_of_reads' (h₀ := s.heap) rd h1 (PyData.noDict_hsm h3) hg (by omega) (fun _ _ q => q) (fun h' u tk k => ?_) h4
  exact ⟨.str _, H, I.kept (t' := tk) k, ⟨_, rfl⟩, q⟩
theorem od_repr {K : PySem.W.Frag} : CrD K (fun xs H Q => (∃ i, xs = [.int i] ∧ i.natAbs.log2 < 1920 ∧ Q (.str (toString i)) H) ∨
    ∃ a d, xs = [.ref a] ∧ Dp K H (.ref a) d ∧ d.showable = true ∧ d.depth ≤ 16 ∧ d.hasDict = false ∧ d.shown.length ≤ sizeLine ∧ Q (.str d.shown) H) rdRepr := by
  intro HI M H xs ds Q Qv ok r h k
  unfold rdRepr at h
  split at h
  · rename_i i
    cases r with
    | cons r rr =>
      cases rr
      cases r
      exact .inl ⟨i, rfl, h.1, k _ _ (.mk ok (.str _) h.2)⟩
  · rename_i ys
    obtain ⟨⟨h1, h2⟩, q⟩ := h
    obtain ⟨b1, b2, b4, b3⟩ := shw_facts 16 _ h1
    cases r with
    | cons r rr =>
      cases rr
      have z := b3 K H _ (r.up ok.same)
      cases r with
      | lst a r => exact .inr ⟨_, _, rfl, z, b1, b2, b4, h2, k _ _ (.mk ok (.str _) q)⟩
  · rename_i ys
    obtain ⟨⟨h1, h2⟩, q⟩ := h
    obtain ⟨b1, b2, b4, b3⟩ := shw_facts 16 _ h1
    cases r with
    | cons r rr =>
      cases rr
      have z := b3 K H _ (r.up ok.same)
      cases r with
      | tup a r => exact .inr ⟨_, _, rfl, z, b1, b2, b4, h2, k _ _ (.mk ok (.str _) q)⟩
  · exact h.elim
end

/-! ### methods of texts and lists -/
abbrev RDM := Str → List D → MM → DK → Prop
def MsD (K : PySem.W.Frag) (r : V → List V → Hp → VK → Prop) (rd : RDM) : Prop := ∀ HI M H a xs ds Q Qv, Ok K HI M H → RepL K HI xs ds → rd a ds M Q → (∀ v H', low K HI M H Q v H' → Qv v H') → r (.str a) xs H Qv
def tms (rd : RDM) (t : TD) (ts : TDL) : TD := fun σ M Q E => t σ M (fun x M1 => match x with
  | .str a => ts σ M1 (fun xs M2 => rd a xs M2 Q) E
  | _ => False) E
abbrev RDML := Addr → List D → List D → MM → DK → Prop
section
variable {X : Cx} {W : WX} {o e : Expr} {es : List Expr} {to : TD} {ts : TDL} {name : Str} {apos cpos : Pos} {T id : String} {r : V → List V → Hp → VK → Prop} {rd : RDM}
theorem d_ms (slot : Slot "str" name id) (hty : typeOf (.builtin id) = pure (.type "method_descriptor")) (hm : MtR X id r) (hr : MsD X.K r rd) (ho : DE X W o to) (ha : DA X W (e :: es) ts)
    (hbase : attributeBase o name X.env (eval o X.env) = eval o X.env := by rfl)
    (hfew : ((backTo cpos (starEach (e :: es) X.env)).all (fun x => !x.1) && (backToKw cpos (keywordEach [] X.env)).all (fun x => x.1.isSome)
      && decide ((e :: es).length + ([] : List Keyword).length + (if ([] : List Keyword).isEmpty then 0 else 1) < 30)) = true := by rfl)
    (hline : (apos.endLine == cpos.line) = true := by rfl) (hs : starEach (e :: es) X.env = (false, eval e X.env) :: starEach es X.env := by rfl) (hplain : (backTo cpos (starEach es X.env)).any (·.1) = false := by rfl) :
    DE X W (.Call (.Attribute o name apos) (e :: es) [] cpos) (tms rd to ts) := pe_imp (pe_bm PySem.F.plainAttrs_str slot hty hm ho ha hbase hfew hline hs hplain) fun σv H Qv h => by
  obtain ⟨HI, σ, M, Q, E, ok, re, h, k, we⟩ := h
  refine ⟨HI, σ, M, _, E, ok, re, h, fun v H1 ⟨HI1, M1, d1, s1, ok1, r1, h1⟩ => ?_, we⟩
  cases r1 with
  | str a =>
    refine ⟨rfl, HI1, σ, M1, _, E, ok1, re.up s1.sm, h1, fun vs H2 ⟨HI2, M2, d2, s2, ok2, r2, h2⟩ => ?_, we.up s1⟩
    exact hr HI2 M2 H2 a vs d2 Q Qv ok2 r2 h2 fun v' H' q => k v' H' (q.of (s1.trans s2))
  | _ => exact h1.elim
/-- one text in, a text, a bool or an int out -/
def rdS1 (C : Str → Str → Prop) (g : Str → Str → D) : RDM := fun a ds M Q => match ds with
  | [.str b] => C a b ∧ Q (g a b) M
  | _ => False
theorem ms_removeprefix {K : PySem.W.Frag} : MsD K (fun x xs H Q => ∃ a b, x = .str a ∧ xs = [.str b] ∧ a.length ≤ sizeLine ∧ Q (.str (Txt.removeprefix a b)) H) (rdS1 (fun a _ => a.length ≤ sizeLine) fun a b => .str (Txt.removeprefix a b)) := by
  intro HI M H a xs ds Q Qv ok r h k
  unfold rdS1 at h
  split at h
  · cases r with
    | cons r rr =>
      cases rr
      cases r
      exact ⟨a, _, rfl, rfl, h.1, k _ _ (.mk ok (.str _) h.2)⟩
  · exact h.elim
/-- split by a text -/
abbrev dstrs (l : List Str) : List D := l.map D.str
def rdSplit : RDM := fun a ds M Q => match ds with
  | [.str b] => ((b.length == 0) = false ∧ a.length + 2 ≤ sizeLine) ∧ Q (.lst (dstrs (Txt.split a b))) M
  | _ => False
theorem ms_split {K : PySem.W.Frag} : MsD K (fun x xs H Q => ∃ a b, x = .str a ∧ xs = [.str b] ∧ (b.length == 0) = false ∧ a.length + 2 ≤ sizeLine ∧ rNewStrs (Txt.split a b) H Q) rdSplit := by
  intro HI M H a xs ds Q Qv ok r h k
  unfold rdSplit at h
  split at h
  · cases r with
    | cons r rr =>
      cases rr
      cases r
      exact ⟨a, _, rfl, rfl, h.1.1, h.1.2, fun p hp => k _ _ (.lst ok (RepL.of_txts _) hp h.2)⟩
  · exact h.elim
def rdPart : RDM := fun a ds M Q => match ds with
  | [.str b] => ((b.length == 0) = false ∧ a.length ≤ sizeLine) ∧ Q (.tup [.str (Txt.partition a b).1, .str (Txt.partition a b).2.1, .str (Txt.partition a b).2.2]) M
  | _ => False
theorem ms_partition {K : PySem.W.Frag} : MsD K (fun x xs H Q => ∃ a b, x = .str a ∧ xs = [.str b] ∧ (b.length == 0) = false ∧ a.length ≤ sizeLine ∧
    ∀ p, H p = none → Q (.ref p) (upd H p (.tup [.str (Txt.partition a b).1, .str (Txt.partition a b).2.1, .str (Txt.partition a b).2.2]))) rdPart := by
  intro HI M H a xs ds Q Qv ok r h k
  unfold rdPart at h
  split at h
  · cases r with
    | cons r rr =>
      cases rr
      cases r
      exact ⟨a, _, rfl, rfl, h.1.1, h.1.2, fun p hp => k _ _ (.tup ok (.cons (.str _) (.cons (.str _) (.cons (.str _) .nil))) hp h.2)⟩
  · exact h.elim
/-- texts out of data -/
def strsOf : List D → Option (List Str)
  | [] => some []
  | .str b :: r => (strsOf r).map (b :: ·)
  | _ :: _ => none
theorem strsOf_map : ∀ bs : List Str, strsOf (bs.map D.str) = some bs
  | [] => rfl
  | b :: bs => by rw [List.map_cons, strsOf, strsOf_map bs]; rfl
theorem strsOf_eq : ∀ {ds : List D} {bs : List Str}, strsOf ds = some bs → ds = bs.map D.str
  | [], bs, h => by cases h; rfl
  | d :: ds, bs, h => by
    cases d with
    | str b =>
      unfold strsOf at h
      cases e : strsOf ds with
      | none => rw [e] at h; cases h
      | some r => rw [e] at h; cases h; rw [List.map_cons, strsOf_eq e]
    | _ => cases h
def rdJoin : RDM := fun a ds M Q => match ds with
  | [.lst xs] => (match strsOf xs with
    | some ys => (ys.map (·.length)).sum + ys.length * a.length ≤ 16777216 ∧ Q (.str (Txt.join a ys)) M
    | none => False)
  | _ => False
theorem ms_join {K : PySem.W.Frag} : MsD K (fun x xs H Q => ∃ a p, ∃ ys : List Str, x = .str a ∧ xs = [.ref p] ∧ (SqL K H p (ys.map V.str) ∨ SqT K H p (ys.map V.str)) ∧
    (ys.map (·.length)).sum + ys.length * a.length ≤ 16777216 ∧ Q (.str (Txt.join a ys)) H) rdJoin := by
  intro HI M H a xs ds Q Qv ok r h k
  unfold rdJoin at h
  split at h
  · split at h
    · rename_i ys e
      cases r with
      | cons r rr =>
        cases rr
        cases r with
        | lst al r =>
          rw [strsOf_eq e] at r
          have e2 := r.txts
          subst e2
          exact ⟨a, _, ys, rfl, rfl, .inl (al.up ok.same).sq, h.1, k _ _ (.mk ok (.str _) h.2)⟩
    · exact h.elim
  · exact h.elim
/-! lists that change -/
theorem same_updI {HI H : Hp} {p : Addr} {o : HO} (hn : HI p = none) (s : Same HI H) : Same HI (upd H p o) := fun b u e => by rw [upd_ne (ne_of_none e hn)]; exact s b u e
/-- xs.append(e), xs told by its address -/
def isL (M : MM) (p : Addr) : Prop := match M p with
  | some (.lst _) => True
  | _ => False
def tapp (t : TD) (ts : TDL) : TD := fun σ M Q E => t σ M (fun x M1 => match x with
  | .ref p => isL M1 p ∧ ts σ M1 (fun ys M2 => match ys, M2 p with
    | [y], some (.lst ds) => ds.length < sizeLine ∧ Q .non (mput M2 p (.lst (ds ++ [y])))
    | _, _ => False) E
  | _ => False) E
theorem d_app (ho : DE X W o to) (ha : DA X W (e :: es) ts)
    (hbase : attributeBase o "append" X.env (eval o X.env) = eval o X.env := by rfl)
    (hfew : ((backTo cpos (starEach (e :: es) X.env)).all (fun x => !x.1) && (backToKw cpos (keywordEach [] X.env)).all (fun x => x.1.isSome)
      && decide ((e :: es).length + ([] : List Keyword).length + (if ([] : List Keyword).isEmpty then 0 else 1) < 30)) = true := by rfl)
    (hline : (apos.endLine == cpos.line) = true := by rfl) (hs : starEach (e :: es) X.env = (false, eval e X.env) :: starEach es X.env := by rfl) (hplain : (backTo cpos (starEach es X.env)).any (·.1) = false := by rfl) :
    DE X W (.Call (.Attribute o "append" apos) (e :: es) [] cpos) (tapp to ts) := pe_imp (pe_bm PySem.F.plainAttrs_list PySem.F.slot_list_append PySem.F.type_list_append mt_append ho ha hbase hfew hline hs hplain) fun σv H Qv h => by
  obtain ⟨HI, σ, M, Q, E, ok, re, h, k, we⟩ := h
  refine ⟨HI, σ, M, _, E, ok, re, h, fun v H1 ⟨HI1, M1, d1, s1, ok1, r1, h1⟩ => ?_, we⟩
  cases r1 with
  | ref p =>
    obtain ⟨hp, h1⟩ := h1
    refine ⟨.inl ⟨rfl, ?_⟩, HI1, σ, M1, _, E, ok1, re.up s1.sm, h1, fun vs H2 ⟨HI2, M2, d2, s2, ok2, r2, h2⟩ => ?_, we.up s1⟩
    · unfold isL at hp
      split at hp
      · rename_i ds e
        obtain ⟨xs, hx, _⟩ := ok1.var p _ e
        exact ⟨xs, .of hx⟩
      · exact hp.elim
    · simp only at h2
      split at h2
      · rename_i y ds e
        obtain ⟨xs, hx, rx⟩ := ok2.var p _ e
        cases r2 with
        | cons ry rr =>
          cases rr
          refine ⟨p, xs, _, rfl, rfl, hx, by rw [rx.len]; exact h2.1, k _ _ ⟨HI2, _, _, (s1.trans s2).trans (.chg e), ?_, .non, h2.2⟩⟩
          exact ok2.newM (m := .lst (ds ++ [y])) (ok2.notI e) (show MRep X.K HI2 _ p (.lst (ds ++ [y])) from ⟨_, upd_same, rx.app (.cons ry .nil)⟩)
      · exact h2.elim
  | _ => exact h1.elim
end
end DL

/-! The data layer: statements, loops, comprehensions. -/
namespace DL
open PySem PySem.Spec L2

section
variable {X : Cx} {W : WX} {st : Stmt} {rest : List Stmt} {t u : TDS} {e : Expr} {te : TD} {pos : Pos}
def snx : TDS := fun D σ M => D.nx σ M
def sseq (t u : TDS) : TDS := fun D σ M => t { D with nx := u D } σ M
theorem s_nil : DSs X W [] snx := pss_imp pss_nil fun σv H Dv h => by
  obtain ⟨HI, σ, M, Dd, ok, re, h, r⟩ := h
  exact r.nx HI σv H σ M .refl ok re h
theorem s_cons (h1 : DS X W st t) (h2 : DSs X W rest u) : DSs X W (st :: rest) (sseq t u) := pss_imp (pss_cons h1 h2) fun σv H Dv h => by
  obtain ⟨HI, σ, M, Dd, ok, re, h, r⟩ := h
  exact ⟨HI, σ, M, _, ok, re, h, ⟨fun HI' σv' H' σ' M' s ok' re' q => ⟨HI', σ', M', Dd, ok', re', q, r.up s⟩, r.rt, r.bk, r.ct, r.ex⟩⟩
theorem s_one (h1 : DS X W st t) : DSs X W [st] t := pss_one h1
theorem s_pass : DS X W (.Pass pos) snx := ps_imp ps_pass fun σv H Dv h => by
  obtain ⟨HI, σ, M, Dd, ok, re, h, r⟩ := h
  exact r.nx HI σv H σ M .refl ok re h
theorem s_doc {x j pos'} : DS X W (.Expr (.Constant (.str x) j pos) pos') snx := ps_imp ps_doc fun σv H Dv h => by
  obtain ⟨HI, σ, M, Dd, ok, re, h, r⟩ := h
  exact r.nx HI σv H σ M .refl ok re h
def sdrop (te : TD) : TDS := fun D σ M => te σ M (fun _ M1 => D.nx σ M1) (fun x M1 => D.ex x σ M1)
theorem s_expr (he : DE X W e te) (hs : swapsWith e none pos.line X.env = pure false := by rfl) : DS X W (.Expr e pos) (sdrop te) := ps_imp (ps_expr he hs) fun σv H Dv h => by
  obtain ⟨HI, σ, M, Dd, ok, re, h, r⟩ := h
  exact ⟨HI, σ, M, _, _, ok, re, h, fun v H' ⟨HI1, M1, d1, s1, ok1, r1, h1⟩ => r.nx HI1 σv H' σ M1 s1 ok1 (re.up s1.sm) h1, r.ex HI σv H σ M .refl re⟩
def sret (te : TD) : TDS := fun D σ M => te σ M D.rt (fun x M1 => D.ex x σ M1)
theorem s_ret (he : DE X W e te) : DS X W (.Return (some e) pos) (sret te) := ps_imp (ps_ret he) fun σv H Dv h => by
  obtain ⟨HI, σ, M, Dd, ok, re, h, r⟩ := h
  exact ⟨HI, σ, M, _, _, ok, re, h, r.rt, r.ex HI σv H σ M .refl re⟩
def sretN : TDS := fun D _ M => D.rt .non M
theorem s_retN : DS X W (.Return none pos) sretN := ps_imp ps_retN fun σv H Dv h => by
  obtain ⟨HI, σ, M, Dd, ok, re, h, r⟩ := h
  exact r.rt _ _ (.mk ok .non h)
def sif (c : TDT) (t u : TDS) : TDS := fun D σ M => c σ M (fun b M1 => if b = true then t D σ M1 else u D σ M1) (fun x M1 => D.ex x σ M1)
theorem s_if {c : Expr} {a b : List Stmt} {tc : TDT} (hc : DT X W c tc) (ha : DSs X W a t) (hb : DSs X W b u) : DS X W (.If c a b pos) (sif tc t u) := ps_imp (ps_if hc ha hb) fun σv H Dv h => by
  obtain ⟨HI, σ, M, Dd, ok, re, h, r⟩ := h
  refine ⟨HI, σ, M, _, _, ok, re, h, fun c H1 ⟨HI1, M1, s1, ok1, h1⟩ => ?_, r.ex HI σv H σ M .refl re⟩
  cases c with
  | true => exact ⟨HI1, σ, M1, Dd, ok1, re.up s1.sm, h1, r.up s1⟩
  | false => exact ⟨HI1, σ, M1, Dd, ok1, re.up s1.sm, h1, r.up s1⟩
def snever : TDS := fun _ _ _ => False
theorem s_never : DS X W st snever := ps_imp ps_never fun σv H Dv h => by
  obtain ⟨HI, σ, M, Dd, ok, re, h, r⟩ := h
  exact h
theorem s_neverS {sts : List Stmt} : DSs X W sts snever := pss_imp pss_never fun σv H Dv h => by
  obtain ⟨HI, σ, M, Dd, ok, re, h, r⟩ := h
  exact h
def sbrk : TDS := fun D σ M => D.bk σ M
def sct : TDS := fun D σ M => D.ct σ M
theorem s_brk : DS X W (.Break pos) sbrk := ps_imp ps_break fun σv H Dv h => by
  obtain ⟨HI, σ, M, Dd, ok, re, h, r⟩ := h
  exact r.bk HI σv H σ M .refl ok re h
theorem s_ct : DS X W (.Continue pos) sct := ps_imp ps_continue fun σv H Dv h => by
  obtain ⟨HI, σ, M, Dd, ok, re, h, r⟩ := h
  exact r.ct HI σv H σ M .refl ok re h
/-- raise X('..'), X without an __init__ of its own -/
def sraise (x : Str) : TDS := fun D σ M => D.ex ⟨x, []⟩ σ M
theorem s_raise {x m : Str} {j : Nat} {p p2 cp : Pos} (hc : X.calm = true) (tk : Takes X W) (f : (He.Fa.exc x).ok X.K = true) (gC : X.mg x = some (.ref (He.ga X.K x))) (hg : Gl X x) (hdb : (x == ("__debug__" : Str)) = false := by decide) :
    DS X W (.Raise (some (.Call (.Name x p) [.Constant (.str m) j p2] [] cp)) none pos) (sraise x) := by
  obtain ⟨h1, h2, h3, h4⟩ := He.exc_ok f
  refine ps_imp (ps_raise hc tk (pmk_own PySem.F.excBase_ValueError h1 gC h2 (raises_own h3 h4) hg hdb)) fun σv H Dv h => ?_
  obtain ⟨HI, σ, M, Dd, ok, re, h, r⟩ := h
  exact r.ex HI σv H σ M .refl re _ _ _ ⟨HI, M, ⟨x, []⟩, .refl, ok, ⟨rfl, rfl⟩, h⟩
end

/-! ### targets -/
abbrev TDG := D → DSt → MM → (DSt → MM → Prop) → Prop
abbrev TDGs := List D → DSt → MM → (DSt → MM → Prop) → Prop
def upG (K : PySem.W.Frag) (vs : List Nat) (g : TDG) : TG := fun v σv H Qv => ∃ HI σ M d Q, Ok K HI M H ∧ REnv K HI σv σ ∧ Rep K HI v d ∧ g d σ M Q ∧
  ∀ HI' σv' H' σ' M', Stp HI M H HI' M' H' → Ok K HI' M' H' → REnv K HI' σv' σ' → L2.wipe σv' vs = L2.wipe σv vs → Q σ' M' → Qv σv' H'
def upGs (K : PySem.W.Frag) (vs : List Nat) (g : TDGs) : TGs := fun v σv H Qv => ∃ HI σ M d Q, Ok K HI M H ∧ REnv K HI σv σ ∧ RepL K HI v d ∧ g d σ M Q ∧
  ∀ HI' σv' H' σ' M', Stp HI M H HI' M' H' → Ok K HI' M' H' → REnv K HI' σv' σ' → L2.wipe σv' vs = L2.wipe σv vs → Q σ' M' → Qv σv' H'
abbrev DG (X : Cx) (vs : List Nat) (e : Expr) (g : TDG) : Prop := PG X e (upG X.K vs g)
abbrev DGs (X : Cx) (vs : List Nat) (e : List Expr) (g : TDGs) : Prop := PGs X e (upGs X.K vs g)
theorem wipe_out1 {σ : L2.St} {i : Nat} {x : Option V} : ∀ {vs : List Nat}, i ∈ vs → L2.wipe (σ.set i x) vs = L2.wipe σ vs
  | [], h => by cases h
  | v :: vs, h => by
    unfold L2.wipe
    by_cases hv : v = i
    · subst hv
      by_cases hm : v ∈ vs
      · rw [wipe_out1 hm]
      · have e : L2.wipe (σ.set v x) vs = (L2.wipe σ vs).set v x := wipe_set hm
        rw [e, List.set_set]
    · have hm : i ∈ vs := by
        rcases List.mem_cons.mp h with z | z
        · exact absurd z.symm hv
        · exact z
      rw [wipe_out1 hm]
where
  wipe_set {σ : L2.St} {i : Nat} {x : Option V} : ∀ {vs : List Nat}, i ∉ vs → L2.wipe (σ.set i x) vs = (L2.wipe σ vs).set i x
  | [], _ => rfl
  | v :: vs, h => by
    unfold L2.wipe
    rw [wipe_set (fun z => h (List.mem_cons_of_mem _ z)), List.set_comm _ _ (fun z => h (by rw [z]; exact List.mem_cons_self))]
theorem wipe_wipe {σ : L2.St} : ∀ (vs : List Nat), L2.wipe (L2.wipe σ vs) vs = L2.wipe σ vs := by
  have gen : ∀ (ws vs : List Nat), (∀ v ∈ ws, v ∈ vs) → L2.wipe (L2.wipe σ ws) vs = L2.wipe σ vs := by
    intro ws
    induction ws with
    | nil => intro vs _; rfl
    | cons w ws ih =>
      intro vs h
      show L2.wipe ((L2.wipe σ ws).set w none) vs = _
      rw [wipe_out1 (h w List.mem_cons_self)]
      exact ih vs fun v hv => h v (List.mem_cons_of_mem _ hv)
  exact fun vs => gen vs vs fun _ h => h
section
variable {X : Cx} {pos : Pos} {vs : List Nat}
def gn (i : Nat) : TDG := fun d σ M Q => Q (σ.set i (some d)) M
theorem g_name {i : Nat} {x : Str} (hN : X.N.Nodup) (hi : X.N[i]? = some x) (hx : Loc X.env.scope x) (hv : i ∈ vs := by decide) (hf : X.fn x = true ∨ X.env.scope.names.lookup x = some .local := by first | exact .inl rfl | exact .inr rfl | assumption) : DG X vs (.Name x pos) (gn i) :=
  ⟨fun pins s σ H v u Q I r h => by
    obtain ⟨HI, σd, M, d, Qd, ok, re, rp, h, k⟩ := h
    exact (pg_name hN hi hx hf).run pins s σ H v u Q I r (k HI _ H _ M .refl ok (re.set rp i) (wipe_out1 hv) h)⟩
def gsn : TDGs := fun ds σ M Q => match ds with
  | [] => Q σ M
  | _ => False
def gsc (g : TDG) (gs : TDGs) : TDGs := fun ds σ M Q => match ds with
  | d :: r => g d σ M (fun σ' M' => gs r σ' M' Q)
  | _ => False
theorem gs_nil : DGs X vs [] gsn := ⟨fun pins s σ H vs us Q I r h => by
  obtain ⟨HI, σd, M, d, Qd, ok, re, rp, h, k⟩ := h
  cases d with
  | nil =>
    cases rp
    exact pgs_nil.run pins s σ H [] us Q I r ⟨rfl, k HI σ H σd M .refl ok re rfl h⟩
  | cons _ _ => exact h.elim⟩
theorem gs_cons {e : Expr} {es : List Expr} {t : TDG} {u : TDGs} (h1 : DG X vs e t) (h2 : DGs X vs es u)
    (hs : (assignEach (e :: es) X.env).map (·.2) = assign e X.env :: (assignEach es X.env).map (·.2) := by rfl) : DGs X vs (e :: es) (gsc t u) := ⟨fun pins s σ H ws us Q I r h => by
  obtain ⟨HI, σd, M, d, Qd, ok, re, rp, h, k⟩ := h
  cases d with
  | nil => exact h.elim
  | cons d ds =>
    cases rp with
    | cons r1 r2 =>
      refine (pgs_cons h1 h2 hs).run pins s σ H _ us Q I r ⟨_, _, rfl, HI, σd, M, d, _, ok, re, r1, h, fun HI1 σv1 H1 σ1 M1 s1 ok1 re1 w1 q1 => ?_⟩
      exact ⟨HI1, σ1, M1, ds, Qd, ok1, re1, r2.up s1.sm, q1, fun HI2 σv2 H2 σ2 M2 s2 ok2 re2 w2 q2 => k HI2 σv2 H2 σ2 M2 (s1.trans s2) ok2 re2 (w2.trans w1) q2⟩⟩
def gtup (n : Nat) (gs : TDGs) : TDG := fun d σ M Q => match d with
  | .tup ds => ds.length = n ∧ gs ds σ M Q
  | _ => False
theorem g_tup {es : List Expr} {k : Nat} {t : TDGs} {n : Nat} (hc : X.calm = true) (h : DGs X vs es t) (hn : (assignEach es X.env).length = n := by rfl) (hst : (assignEach es X.env).findIdx? (·.1) = none := by rfl) : DG X vs (.Tuple es k pos) (gtup n t) :=
  ⟨fun pins s σ H v u Q I r hh => by
    obtain ⟨HI, σd, M, d, Qd, ok, re, rp, hh, kk⟩ := hh
    cases rp with
    | tup a rl => exact (pg_tup hc h hn hst).run pins s σ H _ u Q I r ⟨_, _, rfl, same_t ok.same a, by rw [rl.len]; exact hh.1, HI, σd, M, _, Qd, ok, re, rl, hh.2, kk⟩
    | _ => exact hh.elim⟩
end

section
variable {X : Cx} {W : WX} {pos : Pos} {vs : List Nat}
def sasg (te : TD) (g : TDG) : TDS := fun D σ M => te σ M (fun d M1 => g d σ M1 D.nx) (fun x M1 => D.ex x σ M1)
theorem upasg {te : TD} {g : TDG} : ∀ σv H Dv, upS X.K W (sasg te g) Dv σv H → tAsg (upE X.K W te) (upG X.K vs g) Dv σv H := fun σv H Dv h => by
  obtain ⟨HI, σ, M, Dd, ok, re, h, r⟩ := h
  refine ⟨HI, σ, M, _, _, ok, re, h, fun v H1 ⟨HI1, M1, d1, s1, ok1, r1, h1⟩ => ?_, r.ex HI σv H σ M .refl re⟩
  exact ⟨HI1, σ, M1, d1, _, ok1, re.up s1.sm, r1, h1, fun HI' σv' H' σ' M' s ok' re' _ q => r.nx HI' σv' H' σ' M' (s1.trans s) ok' re' q⟩
theorem s_asg {tg e : Expr} {te : TD} {g : TDG} (vs : List Nat) (he : DE X W e te) (hg : DG X vs tg g) (hs : swapsWithSole [tg] e pos.line X.env = pure false := by rfl) (hw : swappedStores [tg] e X.env = pure none := by rfl)
    (h1 : (assignEach [tg] X.env).map (·.2) = [assign tg X.env] := by rfl) : DS X W (.Assign [tg] e pos) (sasg te g) := ps_imp (ps_asg he hg hs hw h1) upasg
/-- name = e -/
theorem s_set {i : Nat} {x : Str} {e : Expr} {te : TD} {pos' : Pos} (hN : X.N.Nodup) (hi : X.N[i]? = some x) (hx : Loc X.env.scope x) (he : DE X W e te) (hs : swapsWith e (some (.Name x pos')) pos.line X.env = pure false := by rfl) (hf : X.fn x = true ∨ X.env.scope.names.lookup x = some .local := by first | exact .inl rfl | exact .inr rfl | assumption) :
    DS X W (.Assign [.Name x pos'] e pos) (sasg te (gn i)) := ps_imp (ps_set hN hi hx he hs hf) fun σv H Dv h => by
  obtain ⟨HI, σ, M, Dd, ok, re, h, r⟩ := h
  refine ⟨HI, σ, M, _, _, ok, re, h, fun v H1 ⟨HI1, M1, d1, s1, ok1, r1, h1⟩ => ?_, r.ex HI σv H σ M .refl re⟩
  exact r.nx HI1 _ H1 _ M1 s1 ok1 ((re.up s1.sm).set r1 i) h1
/-- a, b = x, y -/
def spar (i j : Nat) (ta : TDL) : TDS := fun D σ M => ta σ M (fun ds M1 => match ds with
  | [a, b] => D.nx ((σ.set i (some a)).set j (some b)) M1
  | _ => False) (fun x M1 => D.ex x σ M1)
theorem s_par {i j : Nat} {x y : Str} {a b : Expr} {ta : TDL} {px py pt : Pos} {kt k2 pt2} (hc : X.calm = true) (hN : X.N.Nodup) (hi : X.N[i]? = some x) (hj : X.N[j]? = some y) (hij : i ≠ j)
    (hx : X.env.scope.names.lookup x = some .local) (hy : X.env.scope.names.lookup y = some .local) (ha : DA X W [a, b] ta)
    (hw : swappedStores [.Tuple [.Name x px, .Name y py] kt pt] (.Tuple [a, b] k2 pt2) X.env = pure (some [x, y]) := by rfl)
    (hs : swapsWithSole [.Tuple [.Name x px, .Name y py] kt pt] (.Tuple [a, b] k2 pt2) pos.line X.env = pure false := by rfl) :
    DS X W (.Assign [.Tuple [.Name x px, .Name y py] kt pt] (.Tuple [a, b] k2 pt2) pos) (spar i j ta) := ps_imp (ps_par hc hN hi hj hij hx hy ha hw hs) fun σv H Dv h => by
  obtain ⟨HI, σ, M, Dd, ok, re, h, r⟩ := h
  refine ⟨HI, σ, M, _, _, ok, re, h, fun v H1 ⟨HI1, M1, d1, s1, ok1, r1, h1⟩ => ?_, r.ex HI σv H σ M .refl re⟩
  simp only at h1
  split at h1
  · cases r1 with
    | cons ra r1 =>
      cases r1 with
      | cons rb r1 =>
        cases r1
        exact ⟨_, _, rfl, r.nx HI1 _ H1 _ M1 s1 ok1 (((re.up s1.sm).set ra i).set rb j) h1⟩
  · exact h1.elim
/-- o[i] = e, o a list that may change -/
def sseti (te to ti : TD) : TDS := fun D σ M => te σ M (fun d M1 => to σ M1 (fun o M2 => ti σ M2 (fun i M3 => match o, i with
  | .ref p, .int k => (match M3 p with
    | some (.lst ds) => (match ixN ds.length k with
      | some j => D.nx σ (mput M3 p (.lst (ds.set j d)))
      | none => False)
    | _ => False)
  | _, _ => False) (fun x M1 => D.ex x σ M1)) (fun x M1 => D.ex x σ M1)) (fun x M1 => D.ex x σ M1)
theorem DE.nopin {e : Expr} {t : TE} (h : PE X e t) : PE X e t := h
theorem s_seti {o i e : Expr} {te to ti : TD} {ip : Pos} (tk : Takes X W) (he : DE X W e te) (ho : DE X W o to) (hi : DE X W i ti)
    (hs : swapsWithSole [.Subscript o i ip] e pos.line X.env = pure false := by rfl) (hw : swappedStores [.Subscript o i ip] e X.env = pure none := by rfl)
    (h1 : (assignEach [.Subscript o i ip] X.env).map (·.2) = [assign (.Subscript o i ip) X.env] := by rfl)
    (hb : ∀ v, assign (.Subscript o i ip) X.env v = (do
      let ov ← holding [v] (eval o X.env)
      let iv ← holding [v, ov] (eval i X.env)
      standAt ip
      holding [v, ov, iv] (setItem ov iv v)
      release [v, ov, iv] []) := by intro _; rfl) : DS X W (.Assign [.Subscript o i ip] e pos) (sseti te to ti) :=
  ps_imp (ps_asg he (pg_sub ho hi set_list hb) hs hw h1) fun σv H Dv h => by
    obtain ⟨HI, σ, M, Dd, ok, re, h, r⟩ := h
    refine ⟨HI, σ, M, _, _, ok, re, h, fun v H1 ⟨HI1, M1, d1, s1, ok1, r1, h1⟩ => ?_, r.ex HI σv H σ M .refl re⟩
    refine ⟨HI1, σ, M1, _, _, ok1, re.up s1.sm, h1, fun o2 H2 ⟨HI2, M2, d2, s2, ok2, r2, h2⟩ => ?_, r.ex HI1 σv H1 σ M1 s1 (re.up s1.sm)⟩
    refine ⟨HI2, σ, M2, _, _, ok2, re.up (s1.trans s2).sm, h2, fun i3 H3 ⟨HI3, M3, d3, s3, ok3, r3, h3⟩ => ?_, r.ex HI2 σv H2 σ M2 (s1.trans s2) (re.up (s1.trans s2).sm)⟩
    cases r2.up s3.sm with
    | ref p =>
     cases r3 with
     | int k =>
      simp only at h3
      split at h3
      · rename_i ds e
        split at h3
        · rename_i j ej
          obtain ⟨xs, hx, rx⟩ := ok3.var p _ e
          refine ⟨p, xs, k, j, rfl, rfl, hx, by rw [rx.len]; exact ej, ?_⟩
          refine r.nx HI3 σv _ σ _ (((s1.trans s2).trans s3).trans (.chg e)) ?_ (re.up ((s1.trans s2).trans s3).sm) h3
          exact ok3.newM (m := .lst (ds.set j d1)) (ok3.notI e) (show MRep X.K HI3 _ p (.lst (ds.set j d1)) from ⟨_, upd_same, rx.set j (r1.up (s2.trans s3).sm)⟩)
        · exact h3.elim
      · exact h3.elim
     | _ => exact h3.elim
    | _ => cases r3 <;> exact h3.elim
/-- name op= e -/
def saug (i : Nat) (te : TD) (rd : RD2) : TDS := fun D σ M => match σ[i]? with
  | some (some a) => te σ M (fun b M1 => rd a b M1 (fun d M2 => D.nx (σ.set i (some d)) M2)) (fun x M1 => D.ex x σ M1)
  | _ => False

/-! ### what a loop walks -/
/-- the items, each told in whatever heap stands then -/
def Walks (K : PySem.W.Frag) (HI0 : Hp) (J : It) (ds : List D) : Prop :=
  (∀ i d HI M H, ds[i]? = some d → Same HI0 HI → Ok K HI M H → J.go i H ∧ ∀ x H', J.yld i H x H' → ∃ HI', Stp HI M H HI' M H' ∧ Ok K HI' M H' ∧ Rep K HI' x d) ∧
    ∀ HI M H, Same HI0 HI → Ok K HI M H → J.stop ds.length H
abbrev TDI := DSt → MM → (List D → MM → Prop) → EK → Prop
def upI (K : PySem.W.Frag) (W : WX) (wi : TDI) : TI := fun σv H R => ∃ HI σ M Q E, Ok K HI M H ∧ REnv K HI σv σ ∧ wi σ M Q E ∧
  (∀ J H' HI' M' ds, Stp HI M H HI' M' H' → Ok K HI' M' H' → Walks K HI' J ds → Q ds M' → R J H') ∧ WOk K W HI M H σv E
abbrev DI (X : Cx) (W : WX) (tg e : Expr) (wi : TDI) : Prop := PI X tg e (upI X.K W wi)
def iseq (t : TD) : TDI := fun σ M Q E => t σ M (fun x M1 => match x with
  | .lst ds => Q ds M1
  | _ => False) E
theorem i_lst {tg e : Expr} {te : TD} (he : DE X W e te) : DI X W tg e (iseq te) := ⟨fun pins s σ H R I h => by
  obtain ⟨HI, σd, M, Q, E, ok, re, h, k, we⟩ := h
  refine (pi_list he).run pins s σ H R I ⟨HI, σd, M, _, E, ok, re, h, fun v H1 ⟨HI1, M1, d1, s1, ok1, r1, h1⟩ => ?_, we⟩
  cases r1 with
  | @lst a xs ds al rl =>
    refine ⟨a, rfl, ⟨xs, (al.up ok1.same).sq⟩, k _ _ HI1 M1 ds s1 ok1 ⟨fun i d HI2 M2 H2 hd sm ok2 => ?_, fun HI2 M2 H2 sm ok2 => ?_⟩ h1⟩
    · obtain ⟨v, hv, rv⟩ := rl.get hd
      have q := (al.up (sm.trans ok2.same)).sq
      refine ⟨⟨xs, v, q, hv⟩, fun x H' ⟨e1, e2⟩ => ?_⟩
      subst e1
      have e3 := e2 xs q
      rw [hv] at e3
      cases e3
      exact ⟨HI2, .refl, ok2, rv.up sm⟩
    · exact ⟨xs, (al.up (sm.trans ok2.same)).sq, by rw [rl.len]; exact Nat.le_refl _⟩
  | _ => exact h1.elim⟩
def itup (t : TD) : TDI := fun σ M Q E => t σ M (fun x M1 => match x with
  | .tup ds => Q ds M1
  | _ => False) E
theorem i_tup {tg e : Expr} {te : TD} (he : DE X W e te) : DI X W tg e (itup te) := ⟨fun pins s σ H R I h => by
  obtain ⟨HI, σd, M, Q, E, ok, re, h, k, we⟩ := h
  refine (pi_tup he).run pins s σ H R I ⟨HI, σd, M, _, E, ok, re, h, fun v H1 ⟨HI1, M1, d1, s1, ok1, r1, h1⟩ => ?_, we⟩
  cases r1 with
  | @tup a xs ds al rl =>
    refine ⟨a, rfl, ⟨xs, same_t ok1.same al⟩, k _ _ HI1 M1 ds s1 ok1 ⟨fun i d HI2 M2 H2 hd sm ok2 => ?_, fun HI2 M2 H2 sm ok2 => ?_⟩ h1⟩
    · obtain ⟨v, hv, rv⟩ := rl.get hd
      have q := same_t (sm.trans ok2.same) al
      refine ⟨⟨xs, v, q, hv⟩, fun x H' ⟨e1, e2⟩ => ?_⟩
      subst e1
      have e3 := e2 xs q
      rw [hv] at e3
      cases e3
      exact ⟨HI2, .refl, ok2, rv.up sm⟩
    · exact ⟨xs, same_t (sm.trans ok2.same) al, by rw [rl.len]; exact Nat.le_refl _⟩
  | _ => exact h1.elim⟩
/-- the signs of a text -/
def istr (t : TD) : TDI := fun σ M Q E => t σ M (fun x M1 => match x with
  | .str z => Q (z.cps.toList.map fun c => .str ⟨#[c]⟩) M1
  | _ => False) E
theorem i_str {tg e : Expr} {te : TD} (he : DE X W e te) : DI X W tg e (istr te) := ⟨fun pins s σ H R I h => by
  obtain ⟨HI, σd, M, Q, E, ok, re, h, k, we⟩ := h
  refine (pi_str he).run pins s σ H R I ⟨HI, σd, M, _, E, ok, re, h, fun v H1 ⟨HI1, M1, d1, s1, ok1, r1, h1⟩ => ?_, we⟩
  cases r1 with
  | str z =>
    refine ⟨z, rfl, k _ _ HI1 M1 _ s1 ok1 ⟨fun i d HI2 M2 H2 hd sm ok2 => ?_, fun HI2 M2 H2 sm ok2 => ?_⟩ h1⟩
    · rw [List.getElem?_map] at hd
      cases e : z.cps.toList[i]? with
      | none => rw [e] at hd; cases hd
      | some c =>
        rw [e] at hd
        cases hd
        refine ⟨?_, fun x H' ⟨e1, c2, e2, e3⟩ => ?_⟩
        · have z1 := (List.getElem?_eq_some_iff.mp e).1
          rw [Array.length_toList] at z1
          exact z1
        · subst e1 e3
          rw [Array.getElem?_toList] at e
          rw [e] at e2
          cases e2
          exact ⟨HI2, .refl, ok2, .str _⟩
    · show z.cps.size ≤ _
      simp
  | _ => exact h1.elim⟩
/-- range(n), range(a, b) -/
def rgD (a b : Int) : List D := (List.range (b - a).toNat).map fun (i : Nat) => D.int (a + (i : Int))
def irng1 (ts : TDL) : TDI := fun σ M Q E => ts σ M (fun xs M1 => match xs with
  | [.int j] => (-(2 ^ 62) ≤ j ∧ j < 2 ^ 62) ∧ Q (rgD 0 j) M1
  | _ => False) E
def irng2 (ts : TDL) : TDI := fun σ M Q E => ts σ M (fun xs M1 => match xs with
  | [.int i, .int j] => (-(2 ^ 62) ≤ i ∧ i < 2 ^ 62 ∧ -(2 ^ 62) ≤ j ∧ j < 2 ^ 62) ∧ Q (rgD i j) M1
  | _ => False) E
theorem walks_rng {K : PySem.W.Frag} {HI : Hp} (a b : Int) : Walks K HI (Itr a (b - a).toNat) (rgD a b) := by
  refine ⟨fun i d HI2 M2 H2 hd sm ok2 => ?_, fun HI2 M2 H2 sm ok2 => ?_⟩
  · unfold rgD at hd
    rw [List.getElem?_map] at hd
    cases e : (List.range (b - a).toNat)[i]? with
    | none => rw [e] at hd; cases hd
    | some j =>
      rw [e] at hd
      cases hd
      obtain ⟨h1, h2⟩ := List.getElem?_eq_some_iff.mp e
      rw [List.getElem_range] at h2
      subst h2
      rw [List.length_range] at h1
      refine ⟨h1, fun x H' ⟨e1, e2⟩ => ?_⟩
      subst e1 e2
      exact ⟨HI2, .refl, ok2, .int _⟩
  · show (b - a).toNat ≤ _
    unfold rgD
    rw [List.length_map, List.length_range]
    exact Nat.le_refl _
theorem walks_rng0 {K : PySem.W.Frag} {HI : Hp} (b : Int) : Walks K HI (Itr 0 b.toNat) (rgD 0 b) := by
  have q := walks_rng (K := K) (HI := HI) 0 b
  rw [Int.sub_zero] at q
  exact q
theorem i_rng1 {tg a : Expr} {ts : TDL} {p : Pos} (hg : Gl X "range") (hm : X.mg "range" = none) (ha : DA X W [a] ts) (hs : starEach [a] X.env = [(false, eval a X.env)] := by rfl) : DI X W tg (.Call (.Name "range" p) [a] [] pos) (irng1 ts) := ⟨fun pins s σ H R I h => by
  obtain ⟨HI, σd, M, Q, E, ok, re, h, k, we⟩ := h
  refine (pi_range1 hg hm ha hs).run pins s σ H R I ⟨HI, σd, M, _, E, ok, re, h, fun v H1 ⟨HI1, M1, d1, s1, ok1, r1, h1⟩ => ?_, we⟩
  simp only at h1
  split at h1
  · cases r1 with
    | cons r r1 =>
      cases r1
      cases r with
      | int =>
        exact ⟨_, rfl, h1.1.1, h1.1.2, k _ _ HI1 M1 _ s1 ok1 (walks_rng0 _) h1.2⟩
  · exact h1.elim⟩
theorem i_rng2 {tg a b : Expr} {ts : TDL} {p : Pos} (hg : Gl X "range") (hm : X.mg "range" = none) (ha : DA X W [a, b] ts) (hs : starEach [a, b] X.env = [(false, eval a X.env), (false, eval b X.env)] := by rfl) (hs2 : starEach [b] X.env = [(false, eval b X.env)] := by rfl) :
    DI X W tg (.Call (.Name "range" p) [a, b] [] pos) (irng2 ts) := ⟨fun pins s σ H R I h => by
  obtain ⟨HI, σd, M, Q, E, ok, re, h, k, we⟩ := h
  refine (pi_range2 hg hm ha hs hs2).run pins s σ H R I ⟨HI, σd, M, _, E, ok, re, h, fun v H1 ⟨HI1, M1, d1, s1, ok1, r1, h1⟩ => ?_, we⟩
  simp only at h1
  split at h1
  · cases r1 with
    | cons r r1 =>
      cases r1 with
      | cons r' r1 =>
        cases r1
        cases r with
        | int =>
          cases r' with
          | int => exact ⟨_, _, rfl, h1.1, k _ _ HI1 M1 _ s1 ok1 (walks_rng _ _) h1.2⟩
  · exact h1.elim⟩

/-! ### for -/
def forD (g : TDG) (tb : TDS) : List D → TDS
  | [], D, σ, M => D.nx σ M
  | d :: ds, D, σ, M => g d σ M (fun σ' M' => tb { D with nx := fun σ2 M2 => forD g tb ds D σ2 M2, ct := fun σ2 M2 => forD g tb ds D σ2 M2, bk := D.nx } σ' M')
def sfor (wi : TDI) (g : TDG) (tb : TDS) : TDS := fun D σ M => wi σ M (fun ds M1 => forD g tb ds D σ M1) (fun x M1 => D.ex x σ M1)
theorem upfor {X : Cx} {W : WX} {g : TDG} {tb : TDS} {wi : TDI} (vs : List Nat) : ∀ σv H Dv, upS X.K W (sfor wi g tb) Dv σv H → tFor (upI X.K W wi) (upG X.K vs g) (upS X.K W tb) Dv σv H := fun σv H Dv h => by
  obtain ⟨HI, σ, M, Dd, ok, re, h, r⟩ := h
  refine ⟨HI, σ, M, _, _, ok, re, h, fun J H1 HI1 M1 ds s1 ok1 wk h1 => ?_, r.ex HI σv H σ M .refl re⟩
  refine ⟨fun i m σv' H' => ∃ HI' σ' M', Stp HI1 M1 H1 HI' M' H' ∧ Ok X.K HI' M' H' ∧ REnv X.K HI' σv' σ' ∧ m = ds.length - i ∧ i ≤ ds.length ∧ forD g tb (ds.drop i) Dd σ' M', ⟨_, HI1, σ, M1, .refl, ok1, re.up s1.sm, rfl, Nat.zero_le _, h1⟩, ?_⟩
  rintro i m σv' H' ⟨HI', σ', M', s', ok', re', rfl, hle, hf⟩
  have r' := r.up (s1.trans s')
  by_cases hlt : i < ds.length
  · have hd : ds[i]? = some ds[i] := List.getElem?_eq_getElem hlt
    rw [List.drop_eq_getElem_cons hlt] at hf
    obtain ⟨hgo, hy⟩ := wk.1 i _ HI' M' H' hd s'.sm ok'
    refine .inr ⟨hgo, fun σv2 H2 => ∃ HI2 σ2 M2, Stp HI1 M1 H1 HI2 M2 H2 ∧ Ok X.K HI2 M2 H2 ∧ REnv X.K HI2 σv2 σ2 ∧ forD g tb (ds.drop (i + 1)) Dd σ2 M2, fun σv2 H2 ⟨HI2, σ2, M2, s2, ok2, re2, q⟩ => ⟨ds.length - (i + 1), by omega, HI2, σ2, M2, s2, ok2, re2, rfl, hlt, q⟩, fun x H2 y => ?_⟩
    obtain ⟨HI2, s2, ok2, rx⟩ := hy x H2 y
    refine ⟨HI2, σ', M', _, _, ok2, re'.up s2.sm, rx, hf, fun HI3 σv3 H3 σ3 M3 s3 ok3 re3 _ q3 => ?_⟩
    have s03 := (s'.trans s2).trans s3
    have r3 := r'.up (s2.trans s3)
    refine ⟨HI3, σ3, M3, _, ok3, re3, q3, ⟨fun HI4 σv4 H4 σ4 M4 s4 ok4 re4 q4 => ⟨HI4, σ4, M4, s03.trans s4, ok4, re4, q4⟩, r3.rt, r3.nx, fun HI4 σv4 H4 σ4 M4 s4 ok4 re4 q4 => ⟨HI4, σ4, M4, s03.trans s4, ok4, re4, q4⟩, r3.ex⟩⟩
  · have e : i = ds.length := by omega
    subst e
    rw [List.drop_length] at hf
    exact .inl ⟨wk.2 HI' M' H' s'.sm ok', r'.nx HI' σv' H' σ' M' .refl ok' re' hf⟩

theorem s_for {tg iter : Expr} {body : List Stmt} {wi : TDI} {g : TDG} {tb : TDS} (vs : List Nat) (hp : PassesOwn (model X.prog X.w) X.A X.env X.xe) (hc : X.calm = true) (hi : DI X W tg iter wi) (hg : DG X vs tg g) (hb : DSs X W body tb)
    (hs : ∀ x, foldedSetIterable iter X.env x = pure x := by intro _; rfl) : DS X W (.For tg iter body [] pos) (sfor wi g tb) := ps_imp (ps_for hp hc hi hg hb hs) (upfor vs)

/-! ### while -/
def whN (c : TDT) (tb : TDS) : Nat → TDS
  | 0, _, _, _ => False
  | n + 1, D, σ, M => c σ M (fun b M1 => if b = true then tb { D with nx := fun σ2 M2 => whN c tb n D σ2 M2, ct := fun σ2 M2 => whN c tb n D σ2 M2, bk := D.nx } σ M1 else D.nx σ M1) (fun x M1 => D.ex x σ M1)
def swh (c : TDT) (tb : TDS) : TDS := fun D σ M => ∃ n, whN c tb n D σ M
theorem s_while {c : Expr} {body : List Stmt} {tc : TDT} {tb : TDS} (hp : PassesOwn (model X.prog X.w) X.A X.env X.xe) (hc : DT X W c tc) (hb : DSs X W body tb) : DS X W (.While c body [] pos) (swh tc tb) := ps_imp (ps_while hp hc hb) fun σv H Dv h => by
  obtain ⟨HI, σ, M, Dd, ok, re, ⟨n0, h⟩, r⟩ := h
  refine ⟨fun m σv' H' => ∃ HI' σ' M', Stp HI M H HI' M' H' ∧ Ok X.K HI' M' H' ∧ REnv X.K HI' σv' σ' ∧ whN tc tb m Dd σ' M', ⟨n0, HI, σ, M, .refl, ok, re, h⟩, ?_⟩
  rintro m σv' H' ⟨HI', σ', M', s', ok', re', hf⟩
  cases m with
  | zero => exact hf.elim
  | succ m =>
    have r' := r.up s'
    refine ⟨HI', σ', M', _, _, ok', re', hf, fun b H1 ⟨HI1, M1, s1, ok1, h1⟩ => ?_, r'.ex HI' σv' H' σ' M' .refl re'⟩
    have r1 := r'.up s1
    cases b with
    | true =>
      refine ⟨fun σv2 H2 => ∃ HI2 σ2 M2, Stp HI M H HI2 M2 H2 ∧ Ok X.K HI2 M2 H2 ∧ REnv X.K HI2 σv2 σ2 ∧ whN tc tb m Dd σ2 M2, fun σv2 H2 q => ⟨m, Nat.lt_succ_self m, q⟩, HI1, σ', M1, _, ok1, re'.up s1.sm, h1, ?_⟩
      exact ⟨fun HI4 σv4 H4 σ4 M4 s4 ok4 re4 q4 => ⟨HI4, σ4, M4, (s'.trans s1).trans s4, ok4, re4, q4⟩, r1.rt, r1.nx, fun HI4 σv4 H4 σ4 M4 s4 ok4 re4 q4 => ⟨HI4, σ4, M4, (s'.trans s1).trans s4, ok4, re4, q4⟩, r1.ex⟩
    | false => exact r1.nx HI1 σv' H1 σ' M1 .refl ok1 (re'.up s1.sm) h1
end
end DL

/-! The data layer: comprehensions, f-strings, functions. -/
namespace DL
open PySem PySem.Spec L2

/-! ### comprehensions -/
abbrev W0 : WX := fun _ _ _ _ => False
def compD (g : TDG) (tt : TDT) (te : TD) (σ : DSt) : List D → List D → MM → (List D → MM → Prop) → Prop
  | [], acc, M, Q => Q acc M
  | d :: ds, acc, M, Q => g d σ M (fun σ2 M2 => tt σ2 M2 (fun b M3 => if b = true then te σ2 M3 (fun y M4 => acc.length < sizeLine ∧ compD g tt te σ ds (acc ++ [y]) M4 Q) (fun _ _ => False) else compD g tt te σ ds acc M3 Q) (fun _ _ => False))
def tlc (wi : TDI) (g : TDG) (tt : TDT) (te : TD) (vs : List Nat) : TD := fun σ M Q E => wi σ M (fun ds M1 => compD g tt te (wipeD σ vs) ds [] M1 (fun acc M2 => Q (.lst acc) M2)) E
def tyes : TDT := fun _ M Q _ => Q true M
abbrev DTs (X : Cx) (W : WX) (ifs : List Expr) (t : TDT) : Prop := PTs X ifs (upT X.K W t)
theorem ts_nil {X : Cx} {W : WX} : DTs X W [] tyes := ⟨fun pins s σ H Q I h => by
  obtain ⟨HI, σd, M, Qd, E, ok, re, h, k, we⟩ := h
  exact pts_nil.run pins s σ H Q I (k _ _ (.mk ok h))⟩
theorem ts_one {X : Cx} {W : WX} {c : Expr} {t : TDT} (h : DT X W c t) : DTs X W [c] t := pts_one h
section
variable {X : Cx} {W : WX}
theorem uplc {wi : TDI} {g : TDG} {tt : TDT} {te : TD} {vs : List Nat} : ∀ σv H Qv, upE X.K W (tlc wi g tt te vs) σv H Qv → tLc (upI X.K W wi) (upG X.K vs g) (upT X.K W0 tt) (upE X.K W0 te) vs σv H Qv := fun σv H Qv h => by
  obtain ⟨HI, σ, M, Q, E, ok, re, h, k, we⟩ := h
  refine ⟨HI, σ, M, _, E, ok, re, h, fun J H1 HI1 M1 ds s1 ok1 wk h1 => ?_, we⟩
  intro Da hD
  obtain ⟨hiD, hmD⟩ := ok1.free hD
  have reW : REnv X.K HI1 (L2.wipe σv vs) (wipeD σ vs) := (re.up s1.sm).wipe vs
  refine ⟨fun i m H' => ∃ HI' M' accV acc, Stp HI1 M1 H1 HI' M' H' ∧ Ok X.K HI' M' H' ∧ H' Da = some (.lst accV) ∧ HI' Da = none ∧ M' Da = none ∧ RepL X.K HI' accV acc ∧ m = ds.length - i ∧ i ≤ ds.length ∧
    compD g tt te (wipeD σ vs) (ds.drop i) acc M' (fun acc M2 => Q (.lst acc) M2), ⟨_, HI1, M1, [], [], .newH hD, ok1.newH hD, upd_same, hiD, hmD, .nil, rfl, Nat.zero_le _, h1⟩, ?_⟩
  rintro i m H' ⟨HI', M', accV, acc, s', ok', e1, e2, e3, ra, rfl, hle, hf⟩
  by_cases hlt : i < ds.length
  · have hd : ds[i]? = some ds[i] := List.getElem?_eq_getElem hlt
    rw [List.drop_eq_getElem_cons hlt] at hf
    obtain ⟨hgo, hy⟩ := wk.1 i _ HI' M' H' hd s'.sm ok'
    refine .inr ⟨hgo, fun H4 => ∃ HI4 M4 accV acc, Stp HI1 M1 H1 HI4 M4 H4 ∧ Ok X.K HI4 M4 H4 ∧ H4 Da = some (.lst accV) ∧ HI4 Da = none ∧ M4 Da = none ∧ RepL X.K HI4 accV acc ∧
      compD g tt te (wipeD σ vs) (ds.drop (i + 1)) acc M4 (fun acc M2 => Q (.lst acc) M2), fun H4 ⟨HI4, M4, aV, a, q1, q2, q3, q4, q5, q6, q7⟩ => ⟨ds.length - (i + 1), by omega, HI4, M4, aV, a, q1, q2, q3, q4, q5, q6, rfl, hlt, q7⟩, fun x H2 y => ?_⟩
    obtain ⟨HI2, s2, ok2, rx⟩ := hy x H2 y
    refine ⟨HI2, wipeD σ vs, M', _, _, ok2, reW.up (s'.trans s2).sm, rx, hf, fun HI3 σv3 H3 σ3 M3 s3 ok3 re3 w3 q3 => ?_⟩
    refine ⟨by rw [w3, wipe_wipe], ?_⟩
    refine ⟨HI3, σ3, M3, _, _, ok3, re3, q3, fun b H4 ⟨HI4, M4, s4, ok4, q4⟩ => ?_, fun c d H' ⟨_, _, _, _, _, _, z⟩ => z⟩
    have st := (s2.trans s3).trans s4
    obtain ⟨f1, f2, f3⟩ := st.fr Da _ e1 e3
    cases b with
    | true =>
      refine ⟨HI4, σ3, M4, _, _, ok4, re3.up s4.sm, q4, fun yv H5 ⟨HI5, M5, d5, s5, ok5, r5, q5⟩ => ?_, fun c d H' ⟨_, _, _, _, _, _, z⟩ => z⟩
      have st5 := st.trans s5
      obtain ⟨g1, g2, g3⟩ := st5.fr Da _ e1 e3
      refine ⟨accV, g1, by rw [ra.len]; exact q5.1, HI5, M5, accV ++ [yv], acc ++ [d5], ⟨(s'.trans st5).sm, fun a u ha hm => ?_⟩, ok5.out (g3 e2 (fun _ z => nomatch z)) g2, upd_same, g3 e2 (fun _ z => nomatch z), g2, (ra.up st5.sm).app (.cons r5 .nil), q5.2⟩
      rw [upd_ne (ne_of_none ha hD)]
      exact (s'.trans st5).fr a u ha hm
    | false => exact ⟨HI4, M4, accV, acc, s'.trans st, ok4, f1, f3 e2 (fun _ z => nomatch z), f2, ra.up st.sm, q4⟩
  · have e : i = ds.length := by omega
    subst e
    rw [List.drop_length] at hf
    refine .inl ⟨wk.2 HI' M' H' s'.sm ok', k _ _ ?_⟩
    have sm : Same HI' (upd HI' Da (.lst accV)) := same_upd e2
    refine ⟨upd HI' Da (.lst accV), M', .lst acc, s1.trans ⟨(s'.sm).trans sm, fun a u ha hm => ?_⟩, ⟨fun b u q => ?_, fun b u q => (ok'.var b u q).up sm rfl⟩, .lst (LL.of upd_same) (ra.up sm), hf⟩
    · obtain ⟨g1, g2, g3⟩ := s'.fr a u ha hm
      exact ⟨g1, g2, fun z n => by rw [upd_ne (ne_of_none ha hD)]; exact g3 z n⟩
    · by_cases hb : b = Da
      · subst hb; rw [upd_same] at q; cases q; exact ⟨e1, e3⟩
      · rw [upd_ne hb] at q; exact ok'.imm b u q
theorem d_lc {elt tg iter : Expr} {ifs : List Expr} {scope : Scope} (own : List (Str × Nat)) {pos : Pos} {wi : TDI} {g : TDG} {tt : TDT} {te : TD} (hc : X.calm = true) (hN : X.N.Nodup) (hi : DI X W tg iter wi) (ok : BlkOk X.N X.env.scope scope own)
    (hg : ∀ (s : Shared) (H : Hp) (C : Addr) (cl : List (Str × Addr)) (fp : List Addr), DG (X.blk s H scope (compEnvC scope cl C X.env) fp) (own.map (·.2)) tg g) (ht : ∀ (s : Shared) (H : Hp) (C : Addr) (cl : List (Str × Addr)) (fp : List Addr), DTs (X.blk s H scope (compEnvC scope cl C X.env) fp) W0 ifs tt)
    (he : ∀ (s : Shared) (H : Hp) (C : Addr) (cl : List (Str × Addr)) (fp : List Addr), DE (X.blk s H scope (compEnvC scope cl C X.env) fp) W0 elt te) (hs : ∀ x, foldedSetIterable iter X.env x = pure x := by intro _; rfl) :
    DE X W (.ListComp elt [⟨tg, iter, ifs, 0⟩] scope pos) (tlc wi g tt te (own.map (·.2))) := pe_imp (pe_lc hc hN hi ok hg ht he hs) uplc
/-- name = [..] -/
theorem s_setLc {i : Nat} {y : Str} {py : Pos} {elt tg iter : Expr} {ifs : List Expr} {scope : Scope} (own : List (Str × Nat)) {pos spos : Pos} {wi : TDI} {g : TDG} {tt : TDT} {te : TD} (hc : X.calm = true) (hN : X.N.Nodup) (hy : X.N[i]? = some y) (hyl : X.env.scope.names.lookup y = some .local)
    (hsw : swapsWith (.ListComp elt [⟨tg, iter, ifs, 0⟩] scope pos) (some (.Name y py)) spos.line X.env = pure true) (hi : DI X W tg iter wi) (ok : BlkOk X.N X.env.scope scope own)
    (hg : ∀ (s : Shared) (H : Hp) (C : Addr) (cl : List (Str × Addr)) (fp : List Addr), DG (X.blk s H scope (compEnvC scope cl C X.env) fp) (own.map (·.2)) tg g) (ht : ∀ (s : Shared) (H : Hp) (C : Addr) (cl : List (Str × Addr)) (fp : List Addr), DTs (X.blk s H scope (compEnvC scope cl C X.env) fp) W0 ifs tt)
    (he : ∀ (s : Shared) (H : Hp) (C : Addr) (cl : List (Str × Addr)) (fp : List Addr), DE (X.blk s H scope (compEnvC scope cl C X.env) fp) W0 elt te) (hs : ∀ x, foldedSetIterable iter X.env x = pure x := by intro _; rfl) :
    DS X W (.Assign [.Name y py] (.ListComp elt [⟨tg, iter, ifs, 0⟩] scope pos) spos) (sasg (tlc wi g tt te (own.map (·.2))) (gn i)) :=
  ps_imp (ps_setLc hc hN hy hyl hsw hi ok hg ht he hs) fun σv H Dv h => by
    obtain ⟨HI, σ, M, Dd, ok, re, h, r⟩ := h
    refine uplc σv H _ ⟨HI, σ, M, _, _, ok, re, h, fun v H1 ⟨HI1, M1, d1, s1, ok1, r1, h1⟩ => ?_, r.ex HI σv H σ M .refl re⟩
    exact r.nx HI1 _ H1 _ M1 s1 ok1 ((re.up s1.sm).set r1 i) h1
end

/-! ### f-strings -/
def tfmt (te : TD) : TD := fun σ M Q E => te σ M (fun x M1 => match x with
  | .str y => y.length ≤ sizeLine ∧ Q (.str y) M1
  | .int i => i.natAbs.log2 < 1920 ∧ Q (.str (toString i)) M1
  | _ => False) E
theorem d_fmt {X : Cx} {W : WX} {e : Expr} {te : TD} {pos : Pos} (he : DE X W e te) : DE X W (.FormattedValue e (-1) none pos) (tfmt te) := pe_imp (pe_fmt he) fun σv H Qv h => by
  obtain ⟨HI, σ, M, Q, E, ok, re, h, k, we⟩ := h
  refine ⟨HI, σ, M, _, E, ok, re, h, fun v H1 ⟨HI1, M1, d1, s1, ok1, r1, h1⟩ => ?_, we⟩
  cases r1 with
  | str y => exact .inl ⟨y, rfl, h1.1, k _ _ ⟨HI1, M1, _, s1, ok1, .str _, h1.2⟩⟩
  | int i => exact .inr ⟨i, rfl, h1.1, k _ _ ⟨HI1, M1, _, s1, ok1, .str _, h1.2⟩⟩
  | _ => exact h1.elim
/-- the parts -/
def tjs : List TD → Str → DSt → MM → (Str → MM → Prop) → EK → Prop
  | [], acc, _, M, Q, _ => Q acc M
  | t :: ts, acc, σ, M, Q, E => t σ M (fun x M1 => match x with
    | .str y => (acc ++ y).length ≤ sizeLine ∧ tjs ts (acc ++ y) σ M1 Q E
    | _ => False) E
def tjoined (ts : List TD) : TD := fun σ M Q E => tjs ts Str.empty σ M (fun y M1 => Q (.str y) M1) E
inductive DJ (X : Cx) (W : WX) : List Expr → List TD → Prop where
  | nil : DJ X W [] []
  | cons {e : Expr} {t : TD} {es : List Expr} {ts : List TD} (h : DE X W e t) (r : DJ X W es ts) : DJ X W (e :: es) (t :: ts)
theorem DJ.pj {X : Cx} {W : WX} {es : List Expr} {ts : List TD} (h : DJ X W es ts) : PJ X es (ts.map (upE X.K W)) := by
  induction h with
  | nil => exact .nil
  | cons h _ ih => exact .cons h ih
theorem upjs {K : PySem.W.Frag} {W : WX} {σv : L2.St} {HI0 : Hp} {M0 : MM} {H0 : Hp} {Qv : Str → Hp → Prop} : ∀ (ts : List TD) (acc : Str) (HI : Hp) (σ : DSt) (M : MM) (H : Hp) (Q : Str → MM → Prop) (E : EK), Ok K HI M H → REnv K HI σv σ → tjs ts acc σ M Q E →
    Stp HI0 M0 H0 HI M H → (∀ y HI' M' H', Stp HI0 M0 H0 HI' M' H' → Ok K HI' M' H' → Q y M' → Qv y H') → WOk K W HI0 M0 H0 σv E → tJs (ts.map (upE K W)) acc σv H Qv
  | [], acc, HI, σ, M, H, Q, E, ok, re, h, s, k, we => k acc HI M H s ok h
  | t :: ts, acc, HI, σ, M, H, Q, E, ok, re, h, s, k, we => by
    refine ⟨HI, σ, M, _, E, ok, re, h, fun v H1 ⟨HI1, M1, d1, s1, ok1, r1, h1⟩ => ?_, we.up s⟩
    cases r1 with
    | str y => exact ⟨y, rfl, h1.1, upjs ts (acc ++ y) HI1 σ M1 H1 Q E ok1 (re.up s1.sm) h1.2 (s.trans s1) k we⟩
    | _ => exact h1.elim
theorem d_joined {X : Cx} {W : WX} {v1 v2 : Expr} {rest : List Expr} {ts : List TD} {pos : Pos} (h : DJ X W (v1 :: v2 :: rest) ts) : DE X W (.JoinedStr (v1 :: v2 :: rest) pos) (tjoined ts) :=
  pe_imp (pe_joined h.pj) fun σv H Qv h => by
    obtain ⟨HI, σ, M, Q, E, ok, re, h, k, we⟩ := h
    exact upjs ts _ HI σ M H _ E ok re h .refl (fun y HI' M' H' s ok' q => k _ _ ⟨HI', M', _, s, ok', .str y, q⟩) we

/-! ### functions -/
/-- room, and no repr under way -/
structure Rm (k : Nat) (A : Around) : Prop where
  r : Room k A
  g : A.guards = some []
theorem Rm.mono {j k : Nat} {A : Around} (r : Rm k A) (h : j ≤ k) : Rm j A := ⟨r.r.mono h, r.g⟩
theorem Rm.deeper {k : Nat} {A : Around} (r : Rm (k + 1) A) (env : Env) : Rm k (A.deeper env) := ⟨r.r.deeper env, r.g⟩
theorem Rm.u {k : Nat} {A : Around} (r : Rm k A) : A.units + 64 < cLine := r.r.units
/-- the function object at f, as the text's part K has it -/
def fdAt (K : PySem.W.Frag) (f : Addr) : FuncData := match K.lookup f with
  | some ⟨_, _, .func fd, _⟩ => fd
  | _ => PySem.W.fnOf "" "" { posonlyargs := [], args := [], vararg := none, kwonlyargs := [], kw_defaults := [], kwarg := none, defaults := [] } [] { kind := .function, names := [], isGenerator := false, isCoroutine := false } .none .none .none .none none .none .none
/-- what a def promises, over data: the arguments, what may change, the wanted end, the wanted exception -/
abbrev SpD := List D → MM → DK → EK → Prop
def lift (K : PySem.W.Frag) (sp : SpD) : Sp := fun vs H Q E => ∃ HI M ds Qd Ed, Ok K HI M H ∧ RepL K HI vs ds ∧ sp ds M Qd Ed ∧ (∀ v H', low K HI M H Qd v H' → Q v H') ∧ ∀ c d H', lowX K HI M H Ed c d H' → E c d H'
structure FnG (P : Program) (w : World) (K : PySem.W.Frag) (mg : Str → Option Value) (base : Heap) (k : Nat) (f : Addr) (ps : List Str) (sp : SpD) : Prop where
  len : ∀ ds M Q E, sp ds M Q E → ds.length = ps.length
  run : ∀ (A : Around) (outer : List Env) (s : Shared) (H : Hp) (args : Args) (us : List Value) (vs : List V) (Q : VK) (E : XK), Rm k A → Env0 P w K mg base A outer s H → BindsTo s (fdAt K f) args (ps.zip us) → Vals vs us → lift K sp vs H Q E →
    codeAny (model P w) A (.call (.ref f) args) (CR (L2.CX P w) outer P w H s Q E) s
theorem lift_len {K : PySem.W.Frag} {sp : SpD} {n : Nat} (h : ∀ ds M Q E, sp ds M Q E → ds.length = n) {vs : List V} {H : Hp} {Q : VK} {E : XK} (q : lift K sp vs H Q E) : vs.length = n := by
  obtain ⟨HI, M, ds, Qd, Ed, _, r, q, _⟩ := q
  rw [r.len]
  exact h _ _ _ _ q
section
variable {P : Program} {w : World} {K : PySem.W.Frag} {mg : Str → Option Value} {base : Heap}
theorem FnG.mono {j k : Nat} {f : Addr} {ps : List Str} {sp : SpD} (F : FnG P w K mg base j f ps sp) (h : j ≤ k) : FnG P w K mg base k f ps sp := ⟨F.len, fun A outer s H args us vs Q E hr => F.run A outer s H args us vs Q E (hr.mono h)⟩
theorem FnG.imp {k : Nat} {f : Addr} {ps : List Str} {sp sp' : SpD} (F : FnG P w K mg base k f ps sp) (h : ∀ ds M Q E, sp' ds M Q E → sp ds M Q E) : FnG P w K mg base k f ps sp' :=
  ⟨fun ds M Q E q => F.len ds M Q E (h _ _ _ _ q), fun A outer s H args us vs Q E hr he hb hv ⟨HI, M, ds, Qd, Ed, ok, r, q, k⟩ => F.run A outer s H args us vs Q E hr he hb hv ⟨HI, M, ds, Qd, Ed, ok, r, h _ _ _ _ q, k⟩⟩
/-- a def as it stands -/
structure FunK (K : PySem.W.Frag) (x qual : Str) (st : Stmt) (f : Addr) : Prop where
  F : Fun K x qual st f (fdAt K f)
abbrev bcx (P : Program) (w : World) (K : PySem.W.Frag) (mg : Str → Option Value) (base : Heap) (N : List Str) (qual : Str) (st : Stmt) (f : Addr) (cdv : Value) (A : Around) (outer : List Env) (s : Shared) (H : Hp) (E : XK) : Cx :=
  cxOf (L2.CX P w) P w K mg base N qual (defScope st) f cdv A outer s H E
/-- the body's end -/
def bend (Q : DK) (E : EK) : DEnds := { nx := fun _ M => Q .non M, rt := Q, ex := fun x _ M => E x M }
theorem fn_ok {x qual : Str} {st : Stmt} {f : Addr} {N ps : List Str} {k : Nat} {sp : SpD} {t : TDS} (F : FunK K x qual st f) (S : FnScope N ps (defScope st)) (len : ∀ ds M Q E, sp ds M Q E → ds.length = ps.length)
    (hb : ∀ (cdv : Value) (A : Around) (outer : List Env) (s : Shared) (H : Hp) (E : XK), Rm k (A.deeper (PyProof.Rows.envOfC qual (defScope st) s.heap.objs.size f cdv)) →
      DSs (bcx P w K mg base N qual st f cdv A outer s H E) (fun c d _ H' => E c d H') (defBody st) t)
    (hq : ∀ ds M Q E, sp ds M Q E → t (bend Q E) (startD N ds) M) : FnG P w K mg base (k + 1) f ps sp := by
  refine ⟨len, fun A outer s H args us vs Q E hr e0 hbind r hsp => ?_⟩
  have hl := lift_len len hsp
  obtain ⟨oc, od, kV, doc, pm, an, cdv, ct, osl, efd, lk, hcd⟩ := F.F.ex
  have KX : K.In s.heap := e0.mod.kin.keeps fun b o e => (e0.bs b o e).1
  have lim : s.heap.NoLimit := e0.mod.nolimit.keeps fun b o e => (e0.bs b o e).1
  rw [efd] at hbind lk
  have kinds : ∀ y ∈ ps.zip us, (defScope st).names.lookup y.1 = some .local ∨ ((defScope st).names.lookup y.1 = some .cell ∧ ((cellsFrom (s.heap.objs.size + 1) (defScope st).names []).lookup y.1).isSome = true) := by
    rintro ⟨n, v⟩ hy
    rcases S.par n (List.of_mem_zip hy).1 with q | q
    · exact .inl q
    · exact .inr ⟨q, PySem.W.cellsFrom_some _ _ _ (.inl q)⟩
  refine codeAny_call_function hr.r.depth (KX _ _ lk) rfl S.co S.gen rfl (PySem.W.codeRec_of KX hcd) (hbind _ _ _ _ ?_)
  refine wpAny_newFunctionEnv_cells S.kind kinds fun env he s1 x => ?_
  subst he
  refine ⟨lim.keeps x.toInCall.keep, codeAny_func ?_⟩
  have I := inv_start (CX := L2.CX P w) (E := E) S hr.r.hd e0 hl r x
  obtain ⟨HI, M, ds, Qd, Ed, ok, rl, q, kq, ke⟩ := hsp
  have body := (hb cdv A outer s H E (hr.deeper _)).run [] s1 (L2.start N vs) H { nx := fun _ H' => Q .non H', rt := Q } I ⟨HI, startD N ds, M, bend Qd Ed, ok, start_env rl, hq _ _ _ _ q,
    ⟨fun HI' σv' H' σ' M' st' ok' _ z => kq _ _ ⟨HI', M', _, st', ok', .non, z⟩, kq, fun _ _ _ _ _ _ _ _ z => z, fun _ _ _ _ _ _ _ _ z => z, fun HI' σv' H' σ' M' st' _ c d H2 z => ke c d H2 (z.of st')⟩⟩
  refine wpAny_mono body (fun fl s' hs => ?_) fun e s' hs => hs
  cases fl with
  | ret u =>
    obtain ⟨v, σ', H', J, rv, q⟩ := hs
    exact ⟨v, H', J.os, J.bare, J.base, J.hok, rv, q⟩
  | next =>
    obtain ⟨σ', H', J, q⟩ := hs
    exact ⟨.non, H', J.os, J.bare, J.base, J.hok, rfl, q⟩
  | brk =>
    obtain ⟨_, _, _, q⟩ := hs
    exact q.elim
  | cont =>
    obtain ⟨_, _, _, q⟩ := hs
    exact q.elim
end

/-! ### calls of the text's own defs -/
def tcall (sp : SpD) (ts : TDL) : TD := fun σ M Q E => ts σ M (fun ds M1 => sp ds M1 Q E) E
section
variable {X : Cx} {W : WX} {k : Nat} {f : Addr} {ps : List Str} {sp : SpD} {x : Str} {p pos : Pos} {e : Expr} {es : List Expr} {ts : TDL}
/-- the callee runs -/
theorem run_g {pins : List (Addr × Obj)} {σ : L2.St} {H : Hp} {s : Shared} {Q : VK} {E : XK} {args : Args} {us : List Value} {vs : List V} (F : FnG X.prog X.w X.K X.mg X.base k f ps sp) (hr : Rm k X.A) (hb : BindsTo s (fdAt X.K f) args (ps.zip us)) (hx : ∀ e s', L2.CX X.prog X.w X.stack H s E e s' → X.xe e s')
    (I : Inv X pins σ H s) (r : Vals vs us) (h : lift X.K sp vs H Q E) : codeAny (model X.prog X.w) X.A (.call (.ref f) args) (fun r s' => match r with
      | .ok (.ret u) => EP X pins σ Q u s'
      | .ok _ => False
      | .error e => X.xe e s') s := by
  refine codeAny_mono (F.run X.A X.stack s H args us vs Q E hr I.env0 hb r h) fun r s' hq => ?_
  cases r with
  | error e => exact hx e s' hq
  | ok fl =>
    cases fl with
    | ret u => exact I.after hq
    | next => exact hq
    | brk => exact hq
    | cont => exact hq
theorem passW {H : Hp} {s : Shared} {pins : List (Addr × Obj)} {σ : L2.St} (tk : Takes X W) (I : Inv X pins σ H s) : ∀ e s', L2.CX X.prog X.w X.stack H s (fun c d H' => W c d σ H') e s' → X.xe e s' := fun e s' c => tk e s' (XE.of_call I (fun _ _ _ h => h) c)
theorem d_call (F : FnG X.prog X.w X.K X.mg X.base k f ps sp) (hr : Rm k X.A) (tk : Takes X W) (hg : Gl X x) (hm : X.mg x = some (.ref f)) (hk : PySem.W.keepIn X.K (.ref f) = true) (hb : Binds X.K (fdAt X.K f) ps [])
    (ha : DA X W (e :: es) ts) (hdb : (x == ("__debug__" : Str)) = false := by decide) (he : starEach (e :: es) X.env = (false, eval e X.env) :: starEach es X.env := by rfl) (hpl : (backTo pos (starEach es X.env)).any (·.1) = false := by rfl) :
    DE X W (.Call (.Name x p) (e :: es) [] pos) (tcall sp ts) := by
  refine ⟨fun pins s σ H Qv I h => ?_⟩
  obtain ⟨HI, σd, M, Q, E, ok, re, h, kq, we⟩ := h
  refine wpAny_Call_Name_kw (ld_glob I hg hm ?_ hdb)
  refine PySem.W.callWith_K (h₀ := X.base) I.ok.mod.kin hk (thn (ha.run pos pins s σ H (fun vs H1 => lift X.K sp vs H1 Qv fun c d H' => W c d σ H') I ⟨HI, σd, M, _, E, ok, re, h, fun v H1 ⟨HI1, M1, d1, s1, ok1, r1, h1⟩ => ?_, we⟩) fun us s1 ⟨vs, H1, I1, r, q⟩ => ⟨I1.kIn, ?_⟩) he hpl
  · exact ⟨HI1, M1, d1, Q, E, ok1, r1, h1, fun v' H' z => kq v' H' (z.of s1), fun c d H' z => we c d H' (z.of s1)⟩
  · have hl : us.length = ps.length := by rw [← r.length]; exact lift_len F.len q
    have b := hb s1 us I1.kIn (by rw [List.append_nil]; exact hl)
    rw [List.append_nil] at b
    exact wpAny_call (codeAny_mono (run_g F hr b (passW tk I1) I1 r q) fun r s' z => by
      cases r with
      | error e => exact z
      | ok fl => cases fl <;> exact z)
/-- f() -/
theorem d_call0 (F : FnG X.prog X.w X.K X.mg X.base k f ps sp) (hr : Rm k X.A) (tk : Takes X W) (hg : Gl X x) (hm : X.mg x = some (.ref f)) (hk : PySem.W.keepIn X.K (.ref f) = true) (hb : Binds X.K (fdAt X.K f) ps [])
    (hdb : (x == ("__debug__" : Str)) = false := by decide) : DE X W (.Call (.Name x p) [] [] pos) (tcall sp a0) := by
  refine ⟨fun pins s σ H Qv I h => ?_⟩
  obtain ⟨HI, σd, M, Q, E, ok, re, h, kq, we⟩ := h
  refine wpAny_Call_Name_kw (ld_glob I hg hm ?_ hdb)
  refine PySem.W.callWith_K0 I.kIn hk ?_
  have q : lift X.K sp [] H Qv fun c d H' => W c d σ H' := ⟨HI, M, [], Q, E, ok, .nil, h, kq, we⟩
  have b := hb s [] I.kIn (by rw [List.append_nil, ← lift_len F.len q]; rfl)
  rw [List.append_nil] at b
  exact wpAny_call (codeAny_mono (run_g F hr b (passW tk I) I .nil q) fun r s' z => by
    cases r with
    | error e => exact z
    | ok fl => cases fl <;> exact z)
/-- keywords -/
abbrev DKs (X : Cx) (W : WX) (kws : List Keyword) (t : TDL) : Prop := PK X kws (upL X.K W t)
theorem k_nil : DKs X W [] a0 := ⟨fun ps' pins s σ H Q I h => by
  obtain ⟨HI, σd, M, Qd, E, ok, re, h, k, we⟩ := h
  exact pk_nil.run ps' pins s σ H Q I (k _ _ (.mk ok .nil h))⟩
theorem k_cons {t : TD} {ts : TDL} {kws : List Keyword} {nm : Option Str} {kpos : Pos} (ha : DE X W e t) (hr : DKs X W kws ts) : DKs X W (⟨nm, e, kpos⟩ :: kws) (ac t ts) := ⟨fun ps' pins s σ H Q I h => by
  obtain ⟨HI, σd, M, Qd, E, ok, re, h, k, we⟩ := h
  refine (pk_cons ha hr).run ps' pins s σ H Q I ⟨HI, σd, M, _, E, ok, re, h, fun v H1 ⟨HI1, M1, d1, s1, ok1, r1, h1⟩ => ?_, we⟩
  refine ⟨HI1, σd, M1, _, E, ok1, re.up s1.sm, h1, fun vs H2 ⟨HI2, M2, d2, s2, ok2, r2, h2⟩ => ?_, we.up s1⟩
  exact k _ _ ⟨HI2, M2, _, s1.trans s2, ok2, .cons (r1.up s2.sm) r2, h2⟩⟩
/-- the arguments in the parameters' order -/
def ro {α : Type} (d : α) (ix : List Nat) (l : List α) : List α := ix.map fun i => l.getD i d
theorem ro_vals {vs : List V} {us : List Value} (r : Vals vs us) : ∀ (ix : List Nat), (∀ i ∈ ix, i < vs.length) → Vals (ro V.non ix vs) (ro Value.none ix us)
  | [], _ => .nil
  | i :: ix, h => by
    have hi := h i List.mem_cons_self
    obtain ⟨u, hu, ru⟩ := r.get (List.getElem?_eq_getElem hi)
    refine .cons ?_ (ro_vals r ix fun j hj => h j (List.mem_cons_of_mem _ hj))
    show RelV (vs.getD i V.non) (us.getD i Value.none)
    rw [List.getD_eq_getElem?_getD, List.getD_eq_getElem?_getD, hu, List.getElem?_eq_getElem hi]
    exact ru
theorem ro_rep {K : PySem.W.Frag} {H : Hp} {vs : List V} {ds : List D} (r : RepL K H vs ds) : ∀ (ix : List Nat), (∀ i ∈ ix, i < vs.length) → RepL K H (ro V.non ix vs) (ro D.non ix ds)
  | [], _ => .nil
  | i :: ix, h => by
    have hi := h i List.mem_cons_self
    obtain ⟨u, hu, ru⟩ := r.getV (List.getElem?_eq_getElem hi)
    refine .cons ?_ (ro_rep r ix fun j hj => h j (List.mem_cons_of_mem _ hj))
    show Rep K H (vs.getD i V.non) (ds.getD i D.non)
    rw [List.getD_eq_getElem?_getD, List.getD_eq_getElem?_getD, hu, List.getElem?_eq_getElem hi]
    exact ru
/-- how keywords bind: n positional ones, the names ks -/
def KB (K : PySem.W.Frag) (f : Addr) (ps : List Str) (n : Nat) (ks : List Str) (ix : List Nat) : Prop :=
  ∀ (s : Shared) (us ws : List Value), us.length = n → ws.length = ks.length → BindsTo s (fdAt K f) ⟨us, ks.zip ws⟩ (ps.zip (ro Value.none ix (us ++ ws)))
def tcallK (n m : Nat) (sp : SpD) (ix : List Nat) (ts tks : TDL) : TD := fun σ M Q E => ts σ M (fun ds M1 => tks σ M1 (fun zs M2 => ds.length = n ∧ zs.length = m ∧ sp (ro D.non ix (ds ++ zs)) M2 Q E) E) E
theorem d_callK0 {ks : List Str} {ix : List Nat} {kws : List Keyword} {tks : TDL} (F : FnG X.prog X.w X.K X.mg X.base k f ps sp) (hr : Rm k X.A) (tk : Takes X W) (hg : Gl X x) (hm : X.mg x = some (.ref f)) (hk : PySem.W.keepIn X.K (.ref f) = true) (hb : KB X.K f ps 0 ks ix)
    (hix : ∀ i ∈ ix, i < ks.length) (hkw : DKs X W kws tks) (hall : (backToKw pos (keywordEach kws X.env)).all (·.1.isSome) = true := by rfl) (hks : (backToKw pos (keywordEach kws X.env)).filterMap (·.1) = ks := by rfl) (hdb : (x == ("__debug__" : Str)) = false := by decide)
    (hpl : ((backTo pos (starEach [] X.env)).any (·.1) || (backToKw pos (keywordEach kws X.env)).any (·.1.isNone)) = false := by rfl) : DE X W (.Call (.Name x p) [] kws pos) (tcallK 0 ks.length sp ix a0 tks) := by
  refine ⟨fun pins s σ H Qv I h => ?_⟩
  obtain ⟨HI, σd, M, Q, E, ok, re, h, kq, we⟩ := h
  refine wpAny_Call_Name_kw (ld_glob I hg hm ?_ hdb)
  refine PySem.W.callWith_KW0 (h₀ := X.base) I.ok.mod.kin hk hall ?_ hpl
  refine thn (hkw.run pos pins s σ H (fun vs H1 => vs.length = ks.length ∧ lift X.K sp (ro V.non ix vs) H1 Qv fun c d H' => W c d σ H') I ⟨HI, σd, M, _, E, ok, re, h, fun v H1 ⟨HI1, M1, d1, s1, ok1, r1, _, l1, h1⟩ => ?_, we⟩) fun ws s2 ⟨zs, H2, I2, rz, l2, q2⟩ => ⟨I2.kIn, ?_⟩
  · have lv : v.length = ks.length := by rw [r1.len]; exact l1
    exact ⟨lv, HI1, M1, _, Q, E, ok1, ro_rep r1 ix fun i hi => by rw [lv]; exact hix i hi, h1, fun v' H' z => kq v' H' (z.of s1), fun c d H' z => we c d H' (z.of s1)⟩
  · rw [hks]
    have b := hb s2 [] ws rfl (by rw [← rz.length, l2])
    rw [List.nil_append] at b
    exact wpAny_call (codeAny_mono (run_g F hr b (passW tk I2) I2 (ro_vals rz ix fun i hi => by rw [l2]; exact hix i hi) q2) fun r s' z => by
      cases r with
      | error e => exact z
      | ok fl => cases fl <;> exact z)
theorem d_callK {n : Nat} {ks : List Str} {ix : List Nat} {kws : List Keyword} {tks : TDL} (F : FnG X.prog X.w X.K X.mg X.base k f ps sp) (hr : Rm k X.A) (tk : Takes X W) (hg : Gl X x) (hm : X.mg x = some (.ref f)) (hk : PySem.W.keepIn X.K (.ref f) = true) (hb : KB X.K f ps n ks ix)
    (hix : ∀ i ∈ ix, i < n + ks.length) (ha : DA X W (e :: es) ts) (hkw : DKs X W kws tks) (hall : (backToKw pos (keywordEach kws X.env)).all (·.1.isSome) = true := by rfl) (hks : (backToKw pos (keywordEach kws X.env)).filterMap (·.1) = ks := by rfl) (hdb : (x == ("__debug__" : Str)) = false := by decide)
    (he : starEach (e :: es) X.env = (false, eval e X.env) :: starEach es X.env := by rfl) (hpl : ((backTo pos (starEach (e :: es) X.env)).any (·.1) || (backToKw pos (keywordEach kws X.env)).any (·.1.isNone)) = false := by rfl) :
    DE X W (.Call (.Name x p) (e :: es) kws pos) (tcallK n ks.length sp ix ts tks) := by
  refine ⟨fun pins s σ H Qv I h => ?_⟩
  obtain ⟨HI, σd, M, Q, E, ok, re, h, kq, we⟩ := h
  refine wpAny_Call_Name_kw (ld_glob I hg hm ?_ hdb)
  refine PySem.W.callWith_KW (h₀ := X.base) I.ok.mod.kin hk hall (thn (ha.run pos pins s σ H (fun vs H1 => ∃ (HI1 : Hp) (M1 : MM) (ds : List D), Stp HI M H HI1 M1 H1 ∧ Ok X.K HI1 M1 H1 ∧ RepL X.K HI1 vs ds ∧ tks σd M1 (fun zs M2 => ds.length = n ∧ zs.length = ks.length ∧ sp (ro D.non ix (ds ++ zs)) M2 Q E) E) I
    ⟨HI, σd, M, _, E, ok, re, h, fun v H1 q => q, we⟩) fun us s1 ⟨vs, H1, I1, rv, HI1, M1, ds, st1, ok1, r1, h1⟩ => ?_) hpl he
  refine thn (hkw.run pos pins s1 σ H1 (fun zs H2 => vs.length = n ∧ zs.length = ks.length ∧ lift X.K sp (ro V.non ix (vs ++ zs)) H2 Qv fun c d H' => W c d σ H') I1 ⟨HI1, σd, M1, _, E, ok1, re.up st1.sm, h1, fun v H2 ⟨HI2, M2, d2, st2, ok2, r2, l1, l2, h2⟩ => ?_, we.up st1⟩) fun ws s2 ⟨zs, H2, I2, rz, l1, l2, q2⟩ => ⟨I2.kIn, ?_⟩
  · have lv : v.length = ks.length := by rw [r2.len]; exact l2
    have lw : vs.length = n := by rw [r1.len]; exact l1
    exact ⟨lw, lv, HI2, M2, _, Q, E, ok2, ro_rep ((r1.up st2.sm).app r2) ix fun i hi => by rw [List.length_append, lw, lv]; exact hix i hi, h2, fun v' H' z => kq v' H' (z.of (st1.trans st2)), fun c d H' z => we c d H' (z.of (st1.trans st2))⟩
  · rw [hks]
    have b := hb s2 us ws (by rw [← rv.length, l1]) (by rw [← rz.length, l2])
    exact wpAny_call (codeAny_mono (run_g F hr b (passW tk I2) I2 (ro_vals (rv.append rz) ix fun i hi => by rw [List.length_append, l1, l2]; exact hix i hi) q2) fun r s' z => by
      cases r with
      | error e => exact z
      | ok fl => cases fl <;> exact z)
end
section
variable {K : PySem.W.Frag} {x qual : Str} {st : Stmt} {f : Addr} {ps : List Str}
theorem FunK.binds (F : FunK K x qual st f) (h : ∀ (kV doc pm : Value) (an : Option Addr) (cdv ct : Value) (us : List Value), us.length = ps.length → bindArgs (PySem.W.fnOf x qual (defArgs st) (defBody st) (defScope st) .none kV doc pm an cdv ct) ⟨us, []⟩ = pure (ps.zip us)) : Binds K (fdAt K f) ps [] := F.F.binds h
theorem FunK.kb {n : Nat} {ks : List Str} {ix : List Nat} (F : FunK K x qual st f)
    (h : ∀ (kV doc pm : Value) (an : Option Addr) (cdv ct : Value) (us ws : List Value), us.length = n → ws.length = ks.length → bindArgs (PySem.W.fnOf x qual (defArgs st) (defBody st) (defScope st) .none kV doc pm an cdv ct) ⟨us, ks.zip ws⟩ = pure (ps.zip (ro Value.none ix (us ++ ws)))) : KB K f ps n ks ix := fun s us ws h1 h2 => by
  obtain ⟨oc, od, kV, doc, pm, an, cdv, ct, osl, e, lk, hcd⟩ := F.F.ex
  rw [e]
  exact .of_eq (h kV doc pm an cdv ct us ws h1 h2)
theorem funK_of {c : He.DefD} {fd : FuncData} (F : FunD K c.name c.qual c.params c.body c.scope (c.dvs K) (c.kws K) f fd) (hx : c.name = x) (hq : c.qual = qual) (hp : c.params = defArgs st) (hb : c.body = defBody st) (hs : c.scope = defScope st) (hd : c.dfl = []) (hk : PySem.W.keepIn K (.ref f) = true) : FunK K x qual st f := by
  obtain ⟨oc, od, dV, kV, doc, pm, an, cdv, ct, osl, rfl, lk, hcd, hD, hK⟩ := F.ex
  have hdv : c.dvs K = [] := by unfold He.DefD.dvs; rw [hd]; rfl
  have e0 : dV = .none := by
    rcases hD with ⟨_, e⟩ | ⟨e, _⟩
    · exact e
    · exact absurd hdv e
  subst e0
  rw [hx, hq, hp, hb, hs] at lk
  rw [hq] at hcd
  have e1 : fdAt K f = PySem.W.fnOf x qual (defArgs st) (defBody st) (defScope st) .none kV doc pm an cdv ct := by
    unfold fdAt
    rw [lk]
  exact ⟨⟨⟨oc, od, kV, doc, pm, an, cdv, ct, osl, e1, by rw [e1]; exact lk, hcd⟩, hk⟩⟩
end
end DL

/-! The data layer: the law's end. -/
namespace DL
open PySem PySem.Spec L2

/-- the law's promise: of a short list of ints, its numbers not too long, it gives True -/
def spLaw : SpD := fun ds M Q _ => ∃ ns : List Int, ds = [.lst (ns.map D.int)] ∧ ns.length ≤ 63 ∧ (∀ z ∈ ns, Builtin.Int.intBits z ≤ 1048576) ∧ ∀ M', Q (.bl true) M'
theorem law_g {P : Program} {w : World} {K : PySem.W.Frag} {mg mb : Str → Option Value} {k : Nat} {fa a : Addr} {x : Str} {s1 : Shared} {vs : List Value} {ns : List Int}
    (KX : K.In s1.heap) (hns : s1.heap.Ns mainGlobals mg) (hb : s1.heap.Ns builtinsNs mb) (hbb : ∀ x : Str, x ≠ "__name__" → mb x = bootBuiltins x) (hlim : s1.heap.NoLimit) (hg : s1.gens = #[])
    (ha : s1.heap.get? a = some { cls := .type "list", data := .seq vs.toArray }) (hi : PyProof.Rows.IntsAre vs ns) (hl : ns.length ≤ 63) (hbits : ∀ z ∈ ns, Builtin.Int.intBits z ≤ 1048576) (hr : Rm k callerA)
    (F : ∀ base : Heap, K.In base → base.Ns mainGlobals mg → FnG P w K mg base k fa [x] spLaw) (hbind : ∀ (s : Shared) (u : Value), BindsTo s (fdAt K fa) ⟨[u], []⟩ [(x, u)]) :
    codeAny (model P w) callerA (.call (.ref fa) ⟨[.ref a], []⟩) (fun r s' => r = .ok (.ret (.bool true)) ∧ OldK s1.heap s'.heap ∧ s'.os = s1.os ∧ PyProof.Rows.AllBare s'.gens) s1 := by
  have rv := vals_ints hi
  have szl : ns.length ≤ sizeLine := Nat.le_trans hl (by decide)
  obtain ⟨H, eH⟩ : ∃ H : Hp, H = fun b => if b = a ∧ K.lookup a = none then some (.frz { cls := .type "list", data := .seq vs.toArray } (.lst (ns.map V.int))) else none := ⟨_, rfl⟩
  have only : ∀ b o, H b = some o → b = a ∧ K.lookup a = none ∧ o = .frz { cls := .type "list", data := .seq vs.toArray } (.lst (ns.map V.int)) := fun b o e => by
    rw [eH] at e
    by_cases c : b = a ∧ K.lookup a = none
    · rw [show (fun b => if b = a ∧ K.lookup a = none then some (HO.frz { cls := .type "list", data := .seq vs.toArray } (.lst (ns.map V.int))) else none) b = some (.frz { cls := .type "list", data := .seq vs.toArray } (.lst (ns.map V.int))) from if_pos c] at e
      exact ⟨c.1, c.2, (Option.some.inj e).symm⟩
    · rw [show (fun b => if b = a ∧ K.lookup a = none then some (HO.frz { cls := .type "list", data := .seq vs.toArray } (.lst (ns.map V.int))) else none) b = none from if_neg c] at e
      cases e
  have there : LL K H a (ns.map V.int) := by
    cases hk : K.lookup a with
    | none => exact .inr (.inl ⟨vs.toArray, 0, by rw [eH]; exact if_pos ⟨rfl, hk⟩⟩)
    | some o =>
      have e := KX a o hk
      rw [ha] at e
      cases e
      exact .inr (.inr ⟨vs.toArray, 0, hk, by rw [List.size_toArray, hi.length]; exact szl, by simpa using rv⟩)
  have hok : HOk P w H s1.heap := fun b o e => by
    obtain ⟨rfl, _, rfl⟩ := only b o e
    exact ⟨ha, by rw [List.length_map]; exact szl, vs, 0, rv, ha⟩
  have nsH : ∀ {b : Addr} {m : Str → Option Value}, s1.heap.Ns b m → (hidT s1.heap H).Ns b m := fun {b m} ⟨o, es, ep, e, d, r⟩ => ⟨o, es, ep, hidT_get e (by
    cases q : H b with
    | none => rfl
    | some u =>
      obtain ⟨rfl, _, _⟩ := only b u q
      rw [ha] at e; cases e; cases d), d, r⟩
  have kH : K.In (hidT s1.heap H) := fun b o e => hidT_get (KX b o e) (by
    cases q : H b with
    | none => rfl
    | some u =>
      obtain ⟨rfl, z, _⟩ := only b u q
      rw [z] at e; cases e)
  have hM : Mod K mg (hidT s1.heap H) := ⟨kH, nsH hns, ⟨mb, nsH hb, hbb⟩, let ⟨mc, h1, h2⟩ := hlim; ⟨mc, nsH h1, h2⟩⟩
  have e0 : Env0 P w K mg (hidT s1.heap H) callerA [] s1 H := ⟨rfl, hM, fun b o e => of_hidT e, Nat.le_of_eq (hidT_size _ _), trivial, fun b hb => absurd (show b ∈ ([] : List Addr) from hb) (by simp), hok, .of_eq hg⟩
  have ok0 : Ok K H (fun _ => none) H := ⟨fun b o e => ⟨e, rfl⟩, fun b o e => by cases e⟩
  have sp0 : lift K spLaw [.ref a] H (fun v _ => v = .bl true) (fun _ _ _ => False) := by
    refine ⟨H, fun _ => none, [.lst (ns.map D.int)], fun d _ => d = .bl true, fun _ _ => False, ok0, .cons (.lst there (RepL.of_ints ns)) .nil, ⟨ns, rfl, hl, hbits, fun _ => rfl⟩, fun v H' ⟨_, _, d, _, _, r, e⟩ => ?_, fun c d H' ⟨_, _, _, _, _, _, z⟩ => z⟩
    subst e
    cases r
    rfl
  refine codeAny_mono ((F _ kH (nsH hns)).run callerA [] s1 H ⟨[.ref a], []⟩ [.ref a] [.ref a] _ _ hr e0 (hbind s1 (.ref a)) (.cons rfl .nil) sp0) fun r s' h => ?_
  cases r with
  | error e =>
    obtain ⟨_, _, _, _, _, _, _, _, _, _, _, _, z⟩ := h
    exact z.elim
  | ok fl =>
    cases fl with
    | next => exact False.elim h
    | brk => exact False.elim h
    | cont => exact False.elim h
    | ret u =>
      obtain ⟨v, H', os, bare, un, hok', r', q⟩ := h
      cases (show v = .bl true from q)
      cases (show u = Value.bool true from r')
      refine ⟨rfl, OldK.of_keep fun b o e => ?_, os, bare⟩
      cases q : H b with
      | none => exact un.keep b o e q (by intro z; exact absurd (show b ∈ ([] : List Addr) from z) (by simp)) (by simp)
      | some u =>
        obtain ⟨_, _, rfl⟩ := only b u q
        obtain ⟨e1, _⟩ := hok b _ q
        obtain ⟨e2, _⟩ := hok' b _ (un.frzs b _ _ q)
        rw [e] at e1; cases e1
        exact e2
theorem walk_g {l : PySem.W.OpenLaw} {k : Nat} {q : Program} {loose : List Str} {XP : (Str → Option Value) → Heap → Prop} {YP : World → Heap → Prop} {d : DefRec} {x : Str}
    (hn : l.most = some 63) (hdf : d.params.defaults = []) (hr : Rm k callerA)
    (F : ∀ (w : World) (mg : Str → Option Value) (fa : Addr) (h : Heap), YP w h → h.Ns mainGlobals mg → mg d.name = some (.ref fa) →
      ∃ K : PySem.W.Frag, K.In h ∧ (∀ (s : Shared) (u : Value), BindsTo s (fdAt K fa) ⟨[u], []⟩ [(x, u)]) ∧ ∀ base : Heap, K.In base → base.Ns mainGlobals mg → FnG l.prog w K mg base k fa [x] spLaw) :
    PySem.W.WalkO q loose XP YP l.row.toRowW d [] (fun f vs => PySem.call f vs) := by
  refine Att.attach_callB hn hdf fun w s0 s1 mg mb fa o pm cd doc a vs ns G Y ho hd hcd hmg hobj hints hlen hbits hg => ?_
  obtain ⟨K, KX, hb, hF⟩ := F w mg fa _ Y G.T.g hmg
  exact law_g KX G.T.g G.T.b G.T.builtins G.T.nolimit hg hobj hints hlen hbits hr hF hb
end DL
namespace DL
open PySem PySem.Spec L2
/-! ### the facts of a head: those of the library's hook, and one Bool more -/
abbrev FnC : Type := Option (Str × Str × Arguments × FuncBody × Scope × Addr × List Str × Addr)
/-- a def with what it holds from around -/
def fnC (K : PySem.W.Frag) (p : PySem.W.Frag → Addr) : FnC := match K.lookup (p K) with
  | some ⟨_, _, .func fd, _⟩ => some (fd.name, fd.qualname, fd.params, fd.body, fd.scope, fd.globals, fd.closure.map (·.1), fd.builtins)
  | _ => none
abbrev FcT := List ((PySem.W.Frag → Addr) × FnC)
/-- the text's part of a heap: what the globals reach, and the model's own statics -/
def asM (g : Addr → Option Obj) (n : Nat) : PySem.W.Frag := He.frG g (PySem.cStatics :: He.asD g n)
def hookM (n : Nat) (fa : List He.Fa) (fn : List He.DefD) (ex : PySem.W.Frag → Bool) (fc : FcT) : PySem.W.Hook where
  α := He.AlD × (Bool × List FnC)
  obs := fun s => (He.obsD fa fn (asM s.heap.get? n), (ex (asM s.heap.get? n), fc.map fun p => fnC (asM s.heap.get? n) p.1))
  val := fun _ => (He.valD fn, (true, fc.map (·.2)))
  says := fun _ h => ∃ K : PySem.W.Frag, K.In h ∧ He.SaysD fa fn K ∧ ex K = true ∧ (fc.map fun p => fnC K p.1) = fc.map (·.2)
  of := fun _ _ e => ⟨_, He.frG_in, congrArg Prod.fst e, congrArg (fun z => z.2.1) e, congrArg (fun z => z.2.2) e⟩
  keeps := fun _ _ _ ⟨K, hK, c⟩ k => ⟨K, PySem.W.Frag.In.keeps hK k, c⟩
def obM (n : Nat) (fa : List He.Fa) (fn : List He.DefD) (ex : PySem.W.Frag → Bool) (fc : FcT) (s : PySem.W.SharedT) : He.AlD × (Bool × List FnC) :=
  (He.obsD fa fn (asM (HandSHeadRun.getT s) n), (ex (asM (HandSHeadRun.getT s) n), fc.map fun p => fnC (asM (HandSHeadRun.getT s) n) p.1))
theorem obM_eq (n : Nat) (fa : List He.Fa) (fn : List He.DefD) (ex : PySem.W.Frag → Bool) (fc : FcT) (s : PySem.W.SharedT) : obM n fa fn ex fc s = (hookM n fa fn ex fc).obs s.abs := by
  have e : HandSHeadRun.getT s = s.abs.heap.get? := funext fun a => HandSHeadRun.getT_eq s a
  unfold obM
  rw [e]
  rfl
/-- what the top has left: the text's part K of the base -/
structure TxtM (fa : List He.Fa) (fn : List He.DefD) (ex : PySem.W.Frag → Bool) (fc : FcT) (K : PySem.W.Frag) (mg : Str → Option Value) (base : Heap) : Prop where
  X : K.In base
  G : base.Ns mainGlobals mg
  c : He.SaysD fa fn K
  e : ex K = true
  k : (fc.map fun p => fnC K p.1) = fc.map (·.2)
section
variable {fa : List He.Fa} {fn : List He.DefD} {ex : PySem.W.Frag → Bool} {fc : FcT} {K : PySem.W.Frag} {mg : Str → Option Value} {base : Heap}
theorem TxtM.glo (T : TxtM fa fn ex fc K mg base) (i : Nat) (x : Str) (h : fa[i]? = some (.glo x)) : mg x = some (.ref (He.ga K x)) := He.glo_ok T.X T.G (T.c.fact i h)
theorem TxtM.free (T : TxtM fa fn ex fc K mg base) (i : Nat) (x : Str) (h : fa[i]? = some (.free x)) : mg x = none := He.free_ok T.X T.G (T.c.fact i h)
theorem TxtM.int (T : TxtM fa fn ex fc K mg base) (i : Nat) (x : Str) (n : Int) (h : fa[i]? = some (.int x n)) : ∃ t, mg x = some (.int n t) := He.int_ok T.X T.G (T.c.fact i h)
theorem TxtM.fc_ (T : TxtM fa fn ex fc K mg base) (i : Nat) {p : (PySem.W.Frag → Addr) × FnC} (h : fc[i]? = some p) : fnC K p.1 = p.2 := by
  have e := congrArg (fun l : List FnC => l[i]?) T.k
  simp only [List.getElem?_map, h, Option.map_some] at e
  exact Option.some.inj e
theorem TxtM.fn_ (T : TxtM fa fn ex fc K mg base) (i : Nat) (x qual : Str) (st : Stmt) (h : fn[i]? = some ⟨(x, none), x, qual, defArgs st, defBody st, defScope st, [], []⟩) : FunK K x qual st (He.ga K x) := by
  obtain ⟨fd, F⟩ := T.c.def_ i h
  exact funK_of (c := ⟨(x, none), x, qual, defArgs st, defBody st, defScope st, [], []⟩) (F := F) rfl rfl rfl rfl rfl rfl F.kp
end
/-- a module's int -/
theorem d_gint {X : Cx} {W : WX} {pos : Pos} {x : Str} {n : Int} (h : ∃ t, X.mg x = some (.int n t)) (hg : Gl X x) (hd : (x == ("__debug__" : Str)) = false := by decide) : DE X W (.Name x pos) (tk (.int n)) := by
  obtain ⟨t, h⟩ := h
  exact d_glob hg h (v := .int n) ⟨t, rfl⟩ (fun _ => .int n) hd
/-- a module's tuple of texts -/
theorem d_gtxts {X : Cx} {W : WX} {pos : Pos} {x : Str} {ss : List Str} (h : He.tupB X.K x (ss.map He.Dv.str) = true) (hm : X.mg x = some (.ref (He.ga X.K x))) (hg : Gl X x) (hd : (x == ("__debug__" : Str)) = false := by decide) : DE X W (.Name x pos) (tk (.tup (ss.map D.str))) :=
  d_glob hg hm (v := .ref (He.ga X.K x)) rfl (fun H => .tup (He.tupB_ok h H) (by
    rw [List.map_map]
    exact RepL.of_txts ss)) hd
section
variable {P : Program} {w : World} {K : PySem.W.Frag} {mg : Str → Option Value} {base : Heap} {N : List Str} {qual : Str} {st : Stmt} {f : Addr} {cdv : Value} {A : Around} {outer : List Env} {s : Shared} {H : Hp} {E : XK}
theorem tk_b : Takes (bcx P w K mg base N qual st f cdv A outer s H E) (fun c d _ H' => E c d H') := takes_of rfl rfl rfl rfl
theorem hp_b : PassesOwn (model (bcx P w K mg base N qual st f cdv A outer s H E).prog (bcx P w K mg base N qual st f cdv A outer s H E).w) (bcx P w K mg base N qual st f cdv A outer s H E).A (bcx P w K mg base N qual st f cdv A outer s H E).env (bcx P w K mg base N qual st f cdv A outer s H E).xe := passes_of rfl
end
end DL

namespace DL
open PySem
theorem boot_len : bootBuiltins "len" = some (.builtin "len") := by decide +kernel
theorem boot_abs : bootBuiltins "abs" = some (.builtin "abs") := by decide +kernel
theorem boot_all : bootBuiltins "all" = some (.builtin "all") := by decide +kernel
theorem boot_any : bootBuiltins "any" = some (.builtin "any") := by decide +kernel
theorem boot_isinstance : bootBuiltins "isinstance" = some (.builtin "isinstance") := by decide +kernel
theorem boot_repr : bootBuiltins "repr" = some (.builtin "repr") := by decide +kernel
theorem boot_sorted : bootBuiltins "sorted" = some (.builtin "sorted") := by decide +kernel
theorem boot_sum : bootBuiltins "sum" = some (.builtin "sum") := by decide +kernel
theorem boot_min : bootBuiltins "min" = some (.builtin "min") := by decide +kernel
theorem boot_max : bootBuiltins "max" = some (.builtin "max") := by decide +kernel
theorem boot_int : bootBuiltins "int" = some (.type "int") := by decide +kernel
theorem boot_str : bootBuiltins "str" = some (.type "str") := by decide +kernel
theorem boot_bool : bootBuiltins "bool" = some (.type "bool") := by decide +kernel
theorem boot_list : bootBuiltins "list" = some (.type "list") := by decide +kernel
theorem boot_tuple : bootBuiltins "tuple" = some (.type "tuple") := by decide +kernel
theorem boot_dict : bootBuiltins "dict" = some (.type "dict") := by decide +kernel
theorem boot_set : bootBuiltins "set" = some (.type "set") := by decide +kernel
theorem boot_zip : bootBuiltins "zip" = some (.type "zip") := by decide +kernel
theorem boot_enumerate : bootBuiltins "enumerate" = some (.type "enumerate") := by decide +kernel
theorem boot_range : bootBuiltins "range" = some (.type "range") := by decide +kernel
theorem boot_ValueError : bootBuiltins "ValueError" = some (.type "ValueError") := by decide +kernel
theorem boot_super : bootBuiltins "super" = some (.type "super") := by decide +kernel
end DL

/-! The data layer: repr of lists that may change, enumerate, forms of specs, comprehensions' laws. -/
namespace DL
open PySem PySem.Spec L2

/-! ### data as it is seen now -/
mutual
def see (M : MM) : D → D
  | .ref p => (match M p with
    | some (.lst xs) => .lst xs
    | _ => .ref p)
  | .lst ds => .lst (seeL M ds)
  | .tup ds => .tup (seeL M ds)
  | .non => .non
  | .bl b => .bl b
  | .int i => .int i
  | .str x => .str x
  | .ty n => .ty n
  | .kls n => .kls n
  | .kt n => .kt n
  | .exc n fs => .exc n fs
def seeL (M : MM) : List D → List D
  | [] => []
  | d :: ds => see M d :: seeL M ds
end
mutual
theorem see_rep {K : PySem.W.Frag} {HI H : Hp} {M : MM} (ok : Ok K HI M H) : ∀ (d : D) (v : V), Rep K HI v d → Rep K H v (see M d)
  | .ref p, v, r => by
    cases r
    unfold see
    split
    · rename_i xs e
      obtain ⟨us, hx, rx⟩ := ok.var p _ e
      exact .lst (.of hx) (rx.up ok.same)
    · exact .ref p
  | .lst ds, v, r => by
    cases r with
    | lst a r => exact .lst (a.up ok.same) (seeL_rep ok ds _ r)
  | .tup ds, v, r => by
    cases r with
    | tup a r => exact .tup (same_t ok.same a) (seeL_rep ok ds _ r)
  | .non, v, r => r.up ok.same
  | .bl b, v, r => r.up ok.same
  | .int b, v, r => r.up ok.same
  | .str b, v, r => r.up ok.same
  | .ty b, v, r => r.up ok.same
  | .kls b, v, r => r.up ok.same
  | .kt b, v, r => r.up ok.same
  | .exc b fs, v, r => r.up ok.same
theorem seeL_rep {K : PySem.W.Frag} {HI H : Hp} {M : MM} (ok : Ok K HI M H) : ∀ (ds : List D) (vs : List V), RepL K HI vs ds → RepL K H vs (seeL M ds)
  | [], vs, r => by cases r; exact .nil
  | d :: ds, vs, r => by
    cases r with
    | cons r1 r2 => exact .cons (see_rep ok d _ r1) (seeL_rep ok ds _ r2)
end
def rdReprM : RDL := fun ds M Q => match ds with
  | [.int i] => i.natAbs.log2 < 1920 ∧ Q (.str (toString i)) M
  | [d] => (match see M d with
    | .lst xs => (D.shw 16 (.lst xs) = true ∧ (D.lst xs).shown.length ≤ sizeLine) ∧ Q (.str (D.lst xs).shown) M
    | .tup xs => (D.shw 16 (.tup xs) = true ∧ (D.tup xs).shown.length ≤ sizeLine) ∧ Q (.str (D.tup xs).shown) M
    | _ => False)
  | _ => False
theorem od_reprM {K : PySem.W.Frag} : CrD K (fun xs H Q => (∃ i, xs = [.int i] ∧ i.natAbs.log2 < 1920 ∧ Q (.str (toString i)) H) ∨
    ∃ a d, xs = [.ref a] ∧ Dp K H (.ref a) d ∧ d.showable = true ∧ d.depth ≤ 16 ∧ d.hasDict = false ∧ d.shown.length ≤ sizeLine ∧ Q (.str d.shown) H) rdReprM := by
  intro HI M H xs ds Q Qv ok r h k
  unfold rdReprM at h
  split at h
  · rename_i i
    cases r with
    | cons r rr =>
      cases rr
      cases r
      exact .inl ⟨i, rfl, h.1, k _ _ (.mk ok (.str _) h.2)⟩
  · rename_i d _
    cases r with
    | cons r rr =>
      cases rr
      have z0 := see_rep ok _ _ r
      split at h
      · rename_i ys e
        obtain ⟨⟨h1, h2⟩, q⟩ := h
        obtain ⟨b1, b2, b4, b3⟩ := shw_facts 16 _ h1
        rw [e] at z0
        have z := b3 K H _ z0
        cases z0 with
        | lst a r => exact .inr ⟨_, _, rfl, z, b1, b2, b4, h2, k _ _ (.mk ok (.str _) q)⟩
      · rename_i ys e
        obtain ⟨⟨h1, h2⟩, q⟩ := h
        obtain ⟨b1, b2, b4, b3⟩ := shw_facts 16 _ h1
        rw [e] at z0
        have z := b3 K H _ z0
        cases z0 with
        | tup a r => exact .inr ⟨_, _, rfl, z, b1, b2, b4, h2, k _ _ (.mk ok (.str _) q)⟩
      · exact h.elim
  · exact h.elim
theorem seeL_map {M : MM} {α : Type} (f : α → D) (hf : ∀ a, see M (f a) = f a) : ∀ l : List α, seeL M (l.map f) = l.map f
  | [] => by rw [List.map_nil, seeL]
  | a :: l => by rw [List.map_cons, seeL, hf a, seeL_map f hf l]

/-! ### enumerate -/
def enumD : Nat → List D → List D
  | _, [] => []
  | n, d :: ds => .tup [.int (n : Int), d] :: enumD (n + 1) ds
theorem enumD_len : ∀ (n : Nat) (ds : List D), (enumD n ds).length = ds.length
  | _, [] => rfl
  | n, d :: ds => by rw [enumD, List.length_cons, List.length_cons, enumD_len]
theorem enumD_get : ∀ (n : Nat) (ds : List D) (i : Nat) (e : D), (enumD n ds)[i]? = some e → ∃ d, ds[i]? = some d ∧ e = .tup [.int ((n + i : Nat) : Int), d]
  | _, [], _, _, h => by rw [enumD] at h; cases h
  | n, d :: ds, 0, e, h => by rw [enumD] at h; cases h; exact ⟨d, rfl, rfl⟩
  | n, d :: ds, i + 1, e, h => by
    rw [enumD, List.getElem?_cons_succ] at h
    obtain ⟨d', h1, h2⟩ := enumD_get (n + 1) ds i e h
    exact ⟨d', h1, by rw [h2, show n + 1 + i = n + (i + 1) from by omega]⟩
def ienum (t : TDL) : TDI := fun σ M Q E => t σ M (fun xs M1 => match xs with
  | [.lst ds] => Q (enumD 0 ds) M1
  | _ => False) E
theorem i_enum {X : Cx} {W : WX} {e : Expr} {ts : TDL} {p pos tpos : Pos} {elts : List Expr} {kk : Nat} (hg : Gl X "enumerate") (hm : X.mg "enumerate" = none) (ha : DA X W [e] ts) (hs : starEach [e] X.env = [(false, eval e X.env)] := by rfl) :
    DI X W (.Tuple elts kk tpos) (.Call (.Name "enumerate" p) [e] [] pos) (ienum ts) := ⟨fun pins s σ H R I h => by
  obtain ⟨HI, σd, M, Q, E, ok, re, h, k, we⟩ := h
  refine (pi_enum hg hm ha hs).run pins s σ H R I ⟨HI, σd, M, _, E, ok, re, h, fun v H1 ⟨HI1, M1, d1, s1, ok1, r1, h1⟩ => ?_, we⟩
  simp only at h1
  split at h1
  · rename_i ds
    cases r1 with
    | cons r1 rr =>
      cases rr
      cases r1 with
      | @lst a xs ds al rl =>
        refine ⟨a, xs, rfl, (al.up ok1.same).sq, k _ _ HI1 M1 _ s1 ok1 ⟨fun i d HI2 M2 H2 hd sm ok2 => ?_, fun HI2 M2 H2 sm ok2 => ?_⟩ h1⟩
        · obtain ⟨d', hd', e⟩ := enumD_get 0 ds i d hd
          obtain ⟨v, hv, rv⟩ := rl.get hd'
          have q := (al.up (sm.trans ok2.same)).sq
          refine ⟨⟨xs, v, q, hv⟩, fun x H' ⟨T, x', e1, e2, e3, e4⟩ => ?_⟩
          subst e1 e3 e
          have e5 := e4 xs q
          rw [hv] at e5
          cases e5
          obtain ⟨ok3, sm3⟩ := ok2.newI (o := .tup [.int ((i : Nat) : Int), v]) e2
          refine ⟨_, .newI (ok2.free e2).1 e2, ok3, .tup (.inl (.inl upd_same)) ?_⟩
          refine .cons ?_ (.cons ((rv.up sm).up sm3) .nil)
          rw [Nat.zero_add]
          exact .int _
        · exact ⟨xs, (al.up (sm.trans ok2.same)).sq, by rw [rl.len, enumD_len]; exact Nat.le_refl _⟩
  · exact h1.elim⟩

/-! ### forms of specs -/
def spF0 (f : MM → DK → EK → Prop) : SpD := fun ds M Q E => match ds with
  | [] => f M Q E
  | _ => False
def spF1 (f : D → MM → DK → EK → Prop) : SpD := fun ds M Q E => match ds with
  | [a] => f a M Q E
  | _ => False
def spF2 (f : D → D → MM → DK → EK → Prop) : SpD := fun ds M Q E => match ds with
  | [a, b] => f a b M Q E
  | _ => False
def spF3 (f : D → D → D → MM → DK → EK → Prop) : SpD := fun ds M Q E => match ds with
  | [a, b, c] => f a b c M Q E
  | _ => False
def spF4 (f : D → D → D → D → MM → DK → EK → Prop) : SpD := fun ds M Q E => match ds with
  | [a, b, c, d] => f a b c d M Q E
  | _ => False
theorem lnF0 {f : MM → DK → EK → Prop} : ∀ ds M Q E, spF0 f ds M Q E → ds.length = 0 := by
  intro ds M Q E h; unfold spF0 at h; split at h
  · rfl
  · exact h.elim
theorem lnF1 {f : D → MM → DK → EK → Prop} : ∀ ds M Q E, spF1 f ds M Q E → ds.length = 1 := by
  intro ds M Q E h; unfold spF1 at h; split at h
  · rfl
  · exact h.elim
theorem lnF2 {f : D → D → MM → DK → EK → Prop} : ∀ ds M Q E, spF2 f ds M Q E → ds.length = 2 := by
  intro ds M Q E h; unfold spF2 at h; split at h
  · rfl
  · exact h.elim
theorem lnF3 {f : D → D → D → MM → DK → EK → Prop} : ∀ ds M Q E, spF3 f ds M Q E → ds.length = 3 := by
  intro ds M Q E h; unfold spF3 at h; split at h
  · rfl
  · exact h.elim
theorem lnF4 {f : D → D → D → D → MM → DK → EK → Prop} : ∀ ds M Q E, spF4 f ds M Q E → ds.length = 4 := by
  intro ds M Q E h; unfold spF4 at h; split at h
  · rfl
  · exact h.elim
theorem rdF0 {f : MM → DK → EK → Prop} {t : TDS} {N : List Str} (h : ∀ M Q E, f M Q E → t (bend Q E) (startD N []) M) : ∀ ds M Q E, spF0 f ds M Q E → t (bend Q E) (startD N ds) M := by
  intro ds M Q E q; unfold spF0 at q; split at q
  · exact h _ _ _ q
  · exact q.elim
theorem rdF1 {f : D → MM → DK → EK → Prop} {t : TDS} {N : List Str} (h : ∀ a M Q E, f a M Q E → t (bend Q E) (startD N [a]) M) : ∀ ds M Q E, spF1 f ds M Q E → t (bend Q E) (startD N ds) M := by
  intro ds M Q E q; unfold spF1 at q; split at q
  · exact h _ _ _ _ q
  · exact q.elim
theorem rdF2 {f : D → D → MM → DK → EK → Prop} {t : TDS} {N : List Str} (h : ∀ a b M Q E, f a b M Q E → t (bend Q E) (startD N [a, b]) M) : ∀ ds M Q E, spF2 f ds M Q E → t (bend Q E) (startD N ds) M := by
  intro ds M Q E q; unfold spF2 at q; split at q
  · exact h _ _ _ _ _ q
  · exact q.elim
theorem rdF3 {f : D → D → D → MM → DK → EK → Prop} {t : TDS} {N : List Str} (h : ∀ a b c M Q E, f a b c M Q E → t (bend Q E) (startD N [a, b, c]) M) : ∀ ds M Q E, spF3 f ds M Q E → t (bend Q E) (startD N ds) M := by
  intro ds M Q E q; unfold spF3 at q; split at q
  · exact h _ _ _ _ _ _ q
  · exact q.elim
theorem rdF4 {f : D → D → D → D → MM → DK → EK → Prop} {t : TDS} {N : List Str} (h : ∀ a b c d M Q E, f a b c d M Q E → t (bend Q E) (startD N [a, b, c, d]) M) : ∀ ds M Q E, spF4 f ds M Q E → t (bend Q E) (startD N ds) M := by
  intro ds M Q E q; unfold spF4 at q; split at q
  · exact h _ _ _ _ _ _ _ q
  · exact q.elim

/-! ### laws of comprehensions -/
abbrev F0 : EK := fun _ _ => False
theorem compD_step1 {te : TD} {σ : DSt} {i : Nat} {d : D} {ds acc : List D} {M : MM} {Q : List D → MM → Prop} (h : te (σ.set i (some d)) M (fun y M4 => acc.length < sizeLine ∧ compD (gn i) tyes te σ ds (acc ++ [y]) M4 Q) F0) : compD (gn i) tyes te σ (d :: ds) acc M Q := by
  unfold compD
  exact h
/-- an element each, by what is there -/
theorem compD_n {te : TD} {σ : DSt} {i : Nat} {α : Type} {f : α → D} {r : α → D} {M : MM} {Q : List D → MM → Prop} :
    ∀ (l : List α) (acc : List D), (∀ a ∈ l, ∀ k : DK, k (r a) M → te (σ.set i (some (f a))) M k F0) → acc.length + l.length ≤ sizeLine → Q (acc ++ l.map r) M → compD (gn i) tyes te σ (l.map f) acc M Q
  | [], acc, _, _, q => by
    rw [List.map_nil, List.append_nil] at q
    exact q
  | a :: l, acc, h, hl, q => by
    rw [List.length_cons] at hl
    show compD (gn i) tyes te σ (f a :: l.map f) acc M Q
    refine compD_step1 ?_
    exact h a List.mem_cons_self _ ⟨by omega, compD_n l (acc ++ [r a]) (fun b hb => h b (List.mem_cons_of_mem _ hb)) (by rw [List.length_append, List.length_singleton]; omega) (by rw [List.append_assoc]; exact q)⟩
/-- those that pass a test -/
theorem compD_f {tt : TDT} {te : TD} {σ : DSt} {i : Nat} {α : Type} {f : α → D} {r : α → D} {b : α → Bool} {M : MM} {Q : List D → MM → Prop} :
    ∀ (l : List α) (acc : List D), (∀ a ∈ l, ∀ k : Bool → MM → Prop, k (b a) M → tt (σ.set i (some (f a))) M k F0) → (∀ a ∈ l, b a = true → ∀ k : DK, k (r a) M → te (σ.set i (some (f a))) M k F0) →
      acc.length + l.length ≤ sizeLine → Q (acc ++ (l.filter b).map r) M → compD (gn i) tt te σ (l.map f) acc M Q
  | [], acc, _, _, _, q => by
    rw [List.filter_nil, List.map_nil, List.append_nil] at q
    exact q
  | a :: l, acc, h1, h2, hl, q => by
    rw [List.length_cons] at hl
    show compD (gn i) tt te σ (f a :: l.map f) acc M Q
    unfold compD
    show tt (σ.set i (some (f a))) M _ _
    refine h1 a List.mem_cons_self _ ?_
    cases e : b a with
    | true =>
      rw [if_pos rfl]
      rw [List.filter_cons_of_pos e] at q
      exact h2 a List.mem_cons_self e _ ⟨by omega, compD_f l (acc ++ [r a]) (fun b hb => h1 b (List.mem_cons_of_mem _ hb)) (fun b hb => h2 b (List.mem_cons_of_mem _ hb)) (by rw [List.length_append, List.length_singleton]; omega) (by rw [List.append_assoc]; exact q)⟩
    | false =>
      rw [if_neg (by simp)]
      rw [List.filter_cons_of_neg (by simp [e])] at q
      exact compD_f l acc (fun b hb => h1 b (List.mem_cons_of_mem _ hb)) (fun b hb => h2 b (List.mem_cons_of_mem _ hb)) (by omega) q
/-- what may change meanwhile -/
theorem compD_s {te : TD} {σ : DSt} {i : Nat} {Iv : Nat → MM → Prop} {P : D → Prop} {Q : List D → MM → Prop} (N : Nat) :
    ∀ (ds : List D) (n : Nat) (acc : List D) (M : MM), (∀ d ∈ ds, ∀ n M, n < N → Iv n M → ∀ k : DK, (∀ y M', P y → Iv (n + 1) M' → k y M') → te (σ.set i (some d)) M k F0) → acc.length + ds.length ≤ sizeLine → n + ds.length ≤ N → Iv n M →
      (∀ ys M', ys.length = ds.length → (∀ y ∈ ys, P y) → Iv (n + ds.length) M' → Q (acc ++ ys) M') → compD (gn i) tyes te σ ds acc M Q
  | [], n, acc, M, _, _, _, hi, q => by
    have z := q [] M rfl (fun _ h => by cases h) hi
    rw [List.append_nil] at z
    exact z
  | d :: ds, n, acc, M, h, hl, hN, hi, q => by
    rw [List.length_cons] at hl hN
    refine compD_step1 ?_
    refine h d List.mem_cons_self n M (by omega) hi _ fun y M' hy hi' => ⟨by omega, ?_⟩
    refine compD_s N ds (n + 1) (acc ++ [y]) M' (fun b hb => h b (List.mem_cons_of_mem _ hb)) (by rw [List.length_append, List.length_singleton]; omega) (by omega) hi' fun ys M2 e1 e2 e3 => ?_
    rw [List.append_assoc]
    exact q (y :: ys) M2 (by rw [List.length_cons, List.length_cons, e1]) (fun z hz => by
      rcases List.mem_cons.mp hz with e | e
      · subst e; exact hy
      · exact e2 z e) (by rw [List.length_cons, show n + (ds.length + 1) = n + 1 + ds.length from by omega]; exact e3)
end DL

/-! The data layer: texts of whole numbers. -/
namespace DL
open PySem PySem.Spec L2
open TL
/-- the text of a whole number -/
abbrev numT (i : Int) : Str := Str.ofString (toString i)
def numZ (i : Int) : List Nat := if i < 0 then 45 :: numL i.natAbs else numL i.natAbs
theorem tl_numT (i : Int) : tl (numT i) = numZ i := by
  unfold numZ numT
  by_cases h : i < 0
  · rw [if_pos h, PyProof.Rows.toString_neg h, tl_ofString, String.toList_append, List.map_append, ← tl_ofString (toString (0 - i))]
    have e : (0 - i) = ((i.natAbs : Nat) : Int) := by omega
    rw [e, tl_num]
    rfl
  · rw [if_neg h]
    have e : i = ((i.natAbs : Nat) : Int) := by omega
    rw [show Str.ofString (toString i) = Str.ofString (toString ((i.natAbs : Nat) : Int)) from by rw [← e], tl_num]
theorem numZ_inj {i j : Int} (h : numZ i = numZ j) : i = j := by
  unfold numZ at h
  have no : ∀ n m : Nat, (45 :: numL n) ≠ numL m := fun n m e => numL_free (n := m) (s := 45) (by omega) (by rw [← e]; exact List.mem_cons_self)
  split at h <;> split at h
  · injection h with _ h
    have := numL_inj h
    omega
  · exact absurd h (no _ _)
  · exact absurd h.symm (no _ _)
  · have := numL_inj h
    omega
theorem numT_inj {i j : Int} (h : numT i = numT j) : i = j := numZ_inj (by rw [← tl_numT, ← tl_numT, h])
theorem numZ_signs {i : Int} {c : Nat} (h : c ∈ numZ i) : c = 45 ∨ (48 ≤ c ∧ c ≤ 57) := by
  unfold numZ at h
  split at h
  · rcases List.mem_cons.mp h with e | e
    · exact .inl e
    · exact .inr (numL_digits _ _ e)
  · exact .inr (numL_digits _ _ h)
theorem numZ_free {i : Int} {c : Nat} (h1 : c ≠ 45) (h2 : c < 48 ∨ 57 < c) : c ∉ numZ i := fun h => by
  rcases numZ_signs h with e | e <;> omega
theorem numZ_ne (i : Int) : numZ i ≠ [] := by
  unfold numZ
  split
  · exact List.cons_ne_nil _ _
  · exact numL_ne _
theorem numT_len {i : Int} {k : Nat} (hk : 0 < k) (h : i.natAbs < 10 ^ k) : (numT i).length ≤ k + 1 := by
  rw [len_tl, tl_numT]
  unfold numZ
  have := numL_len hk h
  split
  · rw [List.length_cons]; omega
  · omega
/-! ### a word that is a whole number of up to nine digits -/
def bodyL (l : List Nat) : List Nat := match l with
  | 45 :: r => r
  | _ => l
def dig (c : Nat) : Bool := decide (48 ≤ c) && decide (c ≤ 57)
def valL (l : List Nat) : Int := match l with
  | 45 :: r => -((NumText.digitsVal r : Nat) : Int)
  | _ => ((NumText.digitsVal l : Nat) : Int)
def wholeL (l : List Nat) : Option Int :=
  if bodyL l = [] ∨ 9 < (bodyL l).length ∨ (bodyL l).all dig = false then none else if numZ (valL l) = l then some (valL l) else none
def whole (w : Str) : Option Int := wholeL (tl w)
theorem bodyL_numZ (i : Int) : bodyL (numZ i) = numL i.natAbs := by
  unfold numZ
  split
  · rfl
  · unfold bodyL
    split
    · rename_i r e
      exact absurd (numL_free (n := i.natAbs) (s := 45) (by omega)) (by rw [e]; simp)
    · rfl
theorem valL_numZ (i : Int) : valL (numZ i) = i := by
  unfold numZ
  split
  · show -((NumText.digitsVal (numL i.natAbs) : Nat) : Int) = i
    rw [numL_val]; omega
  · unfold valL
    split
    · rename_i r e
      exact absurd (numL_free (n := i.natAbs) (s := 45) (by omega)) (by rw [e]; simp)
    · rw [numL_val]; omega
theorem dig_all {l : List Nat} : l.all dig = true ↔ NumText.AllDigits l := by
  unfold NumText.AllDigits
  rw [List.all_eq_true]
  constructor
  · intro h c hc
    have := h c hc
    unfold dig at this
    rw [Bool.and_eq_true, decide_eq_true_eq, decide_eq_true_eq] at this
    exact this
  · intro h c hc
    unfold dig
    rw [Bool.and_eq_true, decide_eq_true_eq, decide_eq_true_eq]
    exact h c hc
theorem whole_num {i : Int} (h : i.natAbs < 10 ^ 9) : whole (numT i) = some i := by
  unfold whole wholeL
  rw [tl_numT, bodyL_numZ, valL_numZ, if_pos rfl, if_neg]
  rintro (h1 | h1 | h1)
  · exact numL_ne _ h1
  · have := numL_len (by decide) h; omega
  · rw [dig_all.mpr (numL_digits _)] at h1
    cases h1
theorem whole_some {w : Str} {i : Int} (h : whole w = some i) : w = numT i ∧ i.natAbs < 10 ^ 9 := by
  unfold whole wholeL at h
  split at h
  · cases h
  · rename_i hn
    split at h
    · rename_i e
      injection h with h
      rw [h] at e
      refine ⟨ext_tl (by rw [tl_numT]; exact e.symm), ?_⟩
      have hl : (numL i.natAbs).length ≤ 9 := by
        rw [← bodyL_numZ, e]
        have : ¬ 9 < (bodyL (tl w)).length := fun z => hn (.inr (.inl z))
        omega
      have key : ∀ (k n : Nat), (numL n).length ≤ k → n < 10 ^ k := by
        intro k
        induction k with
        | zero => intro n h0; exact absurd (List.eq_nil_of_length_eq_zero (Nat.le_zero.mp h0)) (numL_ne n)
        | succ k ih =>
          intro n h0
          by_cases h10 : n < 10
          · calc n < 10 := h10
              _ ≤ 10 ^ (k + 1) := by rw [Nat.pow_succ]; have : 0 < 10 ^ k := Nat.pow_pos (by decide); omega
          · rw [numL_step (by omega), List.length_append, List.length_singleton] at h0
            have := ih (n / 10) (by omega)
            rw [Nat.pow_succ]
            omega
      exact key 9 _ hl
    · cases h
theorem removeprefix_minus (w : Str) : tl (Txt.removeprefix w (Str.ofString "-")) = bodyL (tl w) := by
  rw [PySem.StrLaws.removeprefix_eq]
  have e1 : (Str.ofString "-").length = 1 := rfl
  have e2 : (Str.ofString "-").cps.toList = [45] := by decide
  rw [PySem.StrLaws.subAt_eq, e1, e2, List.drop_zero]
  show tl _ = bodyL w.cps.toList
  have hl : w.length = w.cps.toList.length := len_tl w
  rw [hl]
  cases hw : w.cps.toList with
  | nil =>
    rw [if_neg (by simp)]
    exact hw
  | cons c r =>
    by_cases hc : c = 45
    · subst hc
      rw [if_pos (by simp)]
      show ((45 :: r).drop 1).take ((45 :: r).length - 1) = _
      rw [List.drop_one, List.tail_cons, List.length_cons, Nat.add_sub_cancel, List.take_length]
      rfl
    · rw [if_neg (by simp [hc])]
      show w.cps.toList = _
      rw [hw]
      unfold bodyL
      split
      · rename_i e
        injection e with e _
        exact absurd e hc
      · rfl
end DL

/-! The data layer: small facts for specs. -/
namespace DL
open PySem PySem.Spec L2
open TL
/-! isinstance of data -/
def dat (v : D) : Prop := ∃ c, v.cls = some c
def isNum : D → Bool
  | .int _ => true
  | _ => false
def isBool : D → Bool
  | .bl _ => true
  | _ => false
def isStr : D → Bool
  | .str _ => true
  | _ => false
def isLst : D → Bool
  | .lst _ => true
  | _ => false
def isTup : D → Bool
  | .tup _ => true
  | _ => false
theorem isi_int {v : D} (h : dat v) : isB v "int" = some (isNum v || isBool v) := by
  obtain ⟨c, h⟩ := h
  cases v <;> first | rfl | cases h
theorem isi_bool {v : D} (h : dat v) : isB v "bool" = some (isBool v) := by
  obtain ⟨c, h⟩ := h
  cases v <;> first | rfl | cases h
theorem isi_str {v : D} (h : dat v) : isB v "str" = some (isStr v) := by
  obtain ⟨c, h⟩ := h
  cases v <;> first | rfl | cases h
theorem isi_list {v : D} (h : dat v) : isB v "list" = some (isLst v) := by
  obtain ⟨c, h⟩ := h
  cases v <;> first | rfl | cases h
theorem isi_tuple {v : D} (h : dat v) : isB v "tuple" = some (isTup v) := by
  obtain ⟨c, h⟩ := h
  cases v <;> first | rfl | cases h
@[simp] theorem dat_int (i : Int) : dat (.int i) := ⟨_, rfl⟩
@[simp] theorem dat_str (i : Str) : dat (.str i) := ⟨_, rfl⟩
@[simp] theorem dat_bl (i : Bool) : dat (.bl i) := ⟨_, rfl⟩
@[simp] theorem dat_non : dat .non := ⟨_, rfl⟩
@[simp] theorem dat_lst (i : List D) : dat (.lst i) := ⟨_, rfl⟩
@[simp] theorem dat_tup (i : List D) : dat (.tup i) := ⟨_, rfl⟩
/-! lengths of what is shown -/
theorem pyL_map : ∀ ds : List D, PyData.shownAll (pyL ds) = ds.map D.shown
  | [] => by simp [pyL, PyData.shownAll]
  | d :: ds => by rw [pyL, PyData.shownAll, pyL_map ds]; rfl
theorem sum_le {B : Nat} : ∀ l : List Str, (∀ x ∈ l, x.length ≤ B) → (l.map (·.length)).sum ≤ l.length * B
  | [], _ => by simp
  | x :: l, h => by
    rw [List.map_cons, List.sum_cons, List.length_cons, Nat.succ_mul]
    have h1 := h x List.mem_cons_self
    have h2 := sum_le l fun y hy => h y (List.mem_cons_of_mem _ hy)
    omega
theorem shown_lst {ds : List D} {B : Nat} (h : ∀ d ∈ ds, d.shown.length ≤ B) : (D.lst ds).shown.length ≤ ds.length * B + 2 * ds.length + 3 := by
  have e : (D.lst ds).shown = listText (ds.map D.shown) := by
    show PyData.shown (.list (pyL ds)) = _
    rw [PyData.shown, pyL_map]
  rw [e]
  have q := listText_len_le (ds.map D.shown)
  have s := sum_le (B := B) (ds.map D.shown) (fun x hx => by
    obtain ⟨d, hd, rfl⟩ := List.mem_map.mp hx
    exact h d hd)
  rw [List.length_map] at q s
  omega
theorem join_len_le {sep : Str} : ∀ l : List Str, (Str.join sep l).length ≤ (l.map (·.length)).sum + l.length * sep.length
  | [] => Nat.zero_le _
  | [x] => by show x.length ≤ _; simp
  | x :: y :: l => by
    have ih := join_len_le (sep := sep) (y :: l)
    show (x ++ sep ++ Str.join sep (y :: l)).length ≤ _
    rw [strLen_append, strLen_append, List.map_cons, List.sum_cons, List.length_cons (as := y :: l), Nat.succ_mul]
    omega
theorem shown_tup {ds : List D} {B : Nat} (h : ∀ d ∈ ds, d.shown.length ≤ B) : (D.tup ds).shown.length ≤ ds.length * B + 2 * ds.length + 3 := by
  have e : (D.tup ds).shown = tupleText (ds.map D.shown) := by
    show PyData.shown (.tuple (pyL ds)) = _
    rw [PyData.shown, pyL_map]
  rw [e]
  have q := join_len_le (sep := Str.ofString ", ") (ds.map D.shown)
  have s := sum_le (B := B) (ds.map D.shown) (fun x hx => by
    obtain ⟨d, hd, rfl⟩ := List.mem_map.mp hx
    exact h d hd)
  rw [List.length_map] at q s
  have e2 : (Str.ofString ", ").length = 2 := rfl
  rw [e2] at q
  unfold tupleText
  rw [strLen_append, strLen_append]
  have h1 : ((Str.ofString "(" : Str)).length = 1 := rfl
  have h2 : (Str.ofString (if ((ds.map D.shown).length == 1) = true then ",)" else ")")).length ≤ 2 := by
    split <;> decide
  omega
theorem shown_int {i : Int} {k : Nat} (hk : 0 < k) (h : i.natAbs < 10 ^ k) : (D.int i).shown.length ≤ k + 1 := by
  show (PyData.shown (.int i)).length ≤ _
  rw [PyData.shown]
  exact numT_len hk h
theorem log2_10 {i : Int} {k : Nat} (h : i.natAbs < 10 ^ k) (hk : k ≤ 400) : i.natAbs.log2 < 1920 := by
  by_cases h0 : i.natAbs = 0
  · rw [h0]; decide
  · rw [Nat.log2_lt h0]
    calc i.natAbs < 10 ^ k := h
      _ ≤ 10 ^ 400 := Nat.pow_le_pow_right (by decide) hk
      _ < 2 ^ 1920 := by decide +kernel
theorem shw_int {n : Nat} {i : Int} {k : Nat} (h : i.natAbs < 10 ^ k) (hk : k ≤ 400) : (D.int i).shw n = true := by
  cases n <;> exact decide_eq_true (log2_10 h hk)
theorem shw_lst {n : Nat} {ds : List D} (h : ∀ d ∈ ds, d.shw n = true) : (D.lst ds).shw (n + 1) = true := List.all_eq_true.mpr h
theorem shw_tup {n : Nat} {ds : List D} (h : ∀ d ∈ ds, d.shw n = true) : (D.tup ds).shw (n + 1) = true := List.all_eq_true.mpr h
/-! texts put together -/
theorem join_tl {sep : Str} {l : List Str} {c : Nat} (h : c ∈ tl (Txt.join sep l)) : (∃ x ∈ l, c ∈ tl x) ∨ c ∈ tl sep := by
  rw [join_eq] at h
  induction l with
  | nil => cases h
  | cons x l ih =>
    cases l with
    | nil => exact .inl ⟨x, List.mem_cons_self, h⟩
    | cons y l =>
      have e : tl (Str.join sep (x :: y :: l)) = tl x ++ tl sep ++ tl (Str.join sep (y :: l)) := by
        show tl (x ++ sep ++ Str.join sep (y :: l)) = _
        rw [tl_append, tl_append]
      rw [e, List.mem_append, List.mem_append] at h
      rcases h with (h | h) | h
      · exact .inl ⟨x, List.mem_cons_self, h⟩
      · exact .inr h
      · rcases ih h with ⟨z, hz, hc⟩ | h
        · exact .inl ⟨z, List.mem_cons_of_mem _ hz, hc⟩
        · exact .inr h
theorem join_len {sep : Str} (l : List Str) : (Txt.join sep l).length ≤ (l.map (·.length)).sum + l.length * sep.length := by
  rw [join_eq]; exact join_len_le l
theorem strOk_tl {x : Str} (h : ∀ c ∈ tl x, c < 1114112) : PyData.strOk x = true := by
  unfold PyData.strOk
  rw [← Array.all_toList, List.all_eq_true]
  exact fun c hc => decide_eq_true (h c hc)
theorem nice_str {n : Nat} {x : Str} (h : ∀ c ∈ tl x, c < 1114112) : (D.str x).nice n = true := by
  cases n <;> exact strOk_tl h
theorem eqv_same {ds : List D} (h : ∀ x ∈ ds, D.nice 15 x = true) : (D.lst ds).nice 16 = true := by
  show ds.all (D.nice 15) = true
  exact List.all_eq_true.mpr h
end DL

/-! The data layer: readings at known data, one rule each; steps. -/
namespace DL
open PySem PySem.Spec L2
section
variable {M : MM} {Q : DK} {i j : Int} {a b : Str} {x y z u v : D} {xs ys : List D} {p : Addr} {c d : Bool}
theorem q_add_i : rdAdd (.int i) (.int j) M Q = Q (.int (i + j)) M := rfl
theorem q_add_s : rdAdd (.str a) (.str b) M Q = (a.length + b.length ≤ sizeLine ∧ Q (.str (a ++ b)) M) := rfl
theorem q_add_l : rdAdd (.lst xs) (.lst ys) M Q = (xs.length + ys.length ≤ sizeLine ∧ Q (.lst (xs ++ ys)) M) := rfl
theorem q_add_t : rdAdd (.tup xs) (.tup ys) M Q = (xs.length + ys.length ≤ sizeLine ∧ Q (.tup (xs ++ ys)) M) := rfl
theorem q_sub : rdSub (.int i) (.int j) M Q = Q (.int (i - j)) M := rfl
theorem q_mul_i : rdMul (.int i) (.int j) M Q = (CMulX i j ∧ Q (.int (i * j)) M) := rfl
theorem q_mul_l : rdMul (.lst xs) (.int j) M Q = (-(2 ^ 63) ≤ j ∧ j < 2 ^ 63 ∧ xs.length * j.toNat ≤ sizeLine ∧ Q (.lst (List.replicate j.toNat xs).flatten) M) := rfl
theorem q_mul_s : rdMul (.str a) (.int j) M Q = (MulOk a j ∧ Q (.str (Txt.mul a j)) M) := rfl
theorem q_div : rdDiv (.int i) (.int j) M Q = (CDivW i j ∧ Q (.int (i / j)) M) := rfl
theorem q_mod : rdMod (.int i) (.int j) M Q = (0 < j ∧ Q (.int (i % j)) M) := rfl
theorem q_pow : rdPow (.int i) (.int j) M Q = (CPow i j ∧ Q (.int (i ^ j.toNat)) M) := rfl
theorem q_lt : rdLt (.int i) (.int j) M Q = Q (.bl (decide (i < j))) M := rfl
theorem q_le : rdLe (.int i) (.int j) M Q = Q (.bl (decide (i ≤ j))) M := rfl
theorem q_gt : rdGt (.int i) (.int j) M Q = Q (.bl (decide (j < i))) M := rfl
theorem q_ge : rdGe (.int i) (.int j) M Q = Q (.bl (decide (j ≤ i))) M := rfl
theorem q_eq_i : rdEq (.int i) (.int j) M Q = Q (.bl (decide (i = j))) M := rfl
theorem q_eq_s : rdEq (.str a) (.str b) M Q = Q (.bl (decide (a = b))) M := rfl
theorem q_eq_b : rdEq (.bl c) (.bl d) M Q = Q (.bl (decide (c = d))) M := rfl
theorem q_ne_i : rdNe (.int i) (.int j) M Q = Q (.bl (!decide (i = j))) M := rfl
theorem q_ne_s : rdNe (.str a) (.str b) M Q = Q (.bl (!decide (a = b))) M := rfl
theorem q_ne_b : rdNe (.bl c) (.bl d) M Q = Q (.bl (!decide (c = d))) M := rfl
theorem q_eq_l : rdEq (.lst xs) (.lst ys) M Q = (((D.lst xs).nice 16 && (D.lst ys).nice 16) = true ∧ Q (.bl (eqvD (.lst xs) (.lst ys))) M) := rfl
theorem q_eq_t : rdEq (.tup xs) (.tup ys) M Q = (((D.tup xs).nice 16 && (D.tup ys).nice 16) = true ∧ Q (.bl (eqvD (.tup xs) (.tup ys))) M) := rfl
theorem q_ne_l : rdNe (.lst xs) (.lst ys) M Q = (((D.lst xs).nice 16 && (D.lst ys).nice 16) = true ∧ Q (.bl (!eqvD (.lst xs) (.lst ys))) M) := rfl
theorem q_ne_t : rdNe (.tup xs) (.tup ys) M Q = (((D.tup xs).nice 16 && (D.tup ys).nice 16) = true ∧ Q (.bl (!eqvD (.tup xs) (.tup ys))) M) := rfl
theorem q_is : rdIs x .non M Q = Q (.bl (isN x)) M := rfl
theorem q_isnt : rdIsNot x .non M Q = Q (.bl (!isN x)) M := rfl
theorem isN_int : isN (.int i) = false := rfl
theorem isN_str : isN (.str a) = false := rfl
theorem isN_lst : isN (.lst xs) = false := rfl
theorem isN_tup : isN (.tup xs) = false := rfl
theorem isN_ref : isN (.ref p) = false := rfl
theorem isN_bl : isN (.bl c) = false := rfl
theorem isN_non : isN .non = true := rfl
theorem q_neg : rdNeg (.int i) M Q = Q (.int (-i)) M := rfl
theorem q_ix_l : rdIx (.lst xs) (.int i) M Q = atD (atI xs i) M Q := rfl
theorem q_ix_t : rdIx (.tup xs) (.int i) M Q = atD (atI xs i) M Q := rfl
theorem q_ix_s {c : Nat} (h : atI a.cps.toList i = some c) : rdIx (.str a) (.int i) M Q = (a.length ≤ sizeLine ∧ Q (.str ⟨#[c]⟩) M) := by
  unfold rdIx
  simp only [h]
theorem q_ix_r (h : M p = some (.lst xs)) : rdIx (.ref p) (.int i) M Q = atD (atI xs i) M Q := by
  unfold rdIx
  simp only [h]
theorem atD_s : atD (some x) M Q = Q x M := rfl
theorem at_1_0 : atI [x] 0 = some x := rfl
theorem at_2_0 : atI [x, y] 0 = some x := rfl
theorem at_2_1 : atI [x, y] 1 = some y := rfl
theorem at_3_0 : atI [x, y, z] 0 = some x := rfl
theorem at_3_1 : atI [x, y, z] 1 = some y := rfl
theorem at_3_2 : atI [x, y, z] 2 = some z := rfl
theorem at_4_0 : atI [x, y, z, u] 0 = some x := rfl
theorem at_4_1 : atI [x, y, z, u] 1 = some y := rfl
theorem at_4_2 : atI [x, y, z, u] 2 = some z := rfl
theorem at_4_3 : atI [x, y, z, u] 3 = some u := rfl
theorem q_len_l : rdLen [.lst xs] M Q = Q (.int xs.length) M := rfl
theorem q_len_t : rdLen [.tup xs] M Q = Q (.int xs.length) M := rfl
theorem q_len_s : rdLen [.str a] M Q = (a.length ≤ sizeLine ∧ Q (.int a.length) M) := rfl
theorem q_len_r (h : M p = some (.lst xs)) : rdLen [.ref p] M Q = Q (.int xs.length) M := by
  unfold rdLen
  simp only [h]
theorem q_abs : rdAbs [.int i] M Q = Q (.int (if i < 0 then -i else i)) M := rfl
theorem q_int_i : rdInt [.int i] M Q = Q (.int i) M := rfl
theorem q_int_b : rdInt [.bl c] M Q = Q (.int (if c then 1 else 0)) M := rfl
theorem q_str : rdStr [.int i] M Q = (i.natAbs.log2 < 1920 ∧ Q (.str (Str.ofString (toString i))) M) := rfl
theorem q_list_l : rdList [.lst xs] M Q = Q (.lst xs) M := rfl
theorem q_list_t : rdList [.tup xs] M Q = Q (.lst xs) M := rfl
theorem q_tuple_l : rdTuple [.lst xs] M Q = Q (.tup xs) M := rfl
theorem q_tuple_t : rdTuple [.tup xs] M Q = Q (.tup xs) M := rfl
theorem q_tuple_r (h : M p = some (.lst xs)) : rdTuple [.ref p] M Q = Q (.tup xs) M := by
  unfold rdTuple
  simp only [h]
theorem q_repr_l : rdRepr [.lst xs] M Q = ((D.shw 16 (.lst xs) = true ∧ (D.lst xs).shown.length ≤ sizeLine) ∧ Q (.str (D.lst xs).shown) M) := rfl
theorem q_repr_t : rdRepr [.tup xs] M Q = ((D.shw 16 (.tup xs) = true ∧ (D.tup xs).shown.length ≤ sizeLine) ∧ Q (.str (D.tup xs).shown) M) := rfl
theorem q_reprM_l (h : see M x = .lst ys) : rdReprM [x] M Q = ((D.shw 16 (.lst ys) = true ∧ (D.lst ys).shown.length ≤ sizeLine) ∧ Q (.str (D.lst ys).shown) M) := by
  cases x with
  | int i => cases h
  | _ => unfold rdReprM; simp only [h]
theorem q_join {l : List Str} (h : strsOf xs = some l) : rdJoin a [.lst xs] M Q = ((l.map (·.length)).sum + l.length * a.length ≤ 16777216 ∧ Q (.str (Txt.join a l)) M) := by
  unfold rdJoin
  simp only [h]
theorem q_all {l : List Bool} (h : blsOf xs = some l) : rdAll [.lst xs] M Q = Q (.bl (l.all _root_.id)) M := by
  unfold rdAll
  simp only [h]
theorem q_any {l : List Bool} (h : blsOf xs = some l) : rdAny [.lst xs] M Q = Q (.bl (l.any _root_.id)) M := by
  unfold rdAny
  simp only [h]
theorem q_isi {n : String} {c : Bool} (h : isB x n = some c) : rdIsi [x, .ty n] M Q = Q (.bl c) M := by
  unfold rdIsi
  simp only [h]
end
/-! ### a step at a time -/
theorem seq_step {t u : TDS} {Dd : DEnds} {σ : DSt} {M : MM} (h : ∀ Kk : DSt → MM → Prop, Kk = u Dd → t { Dd with nx := Kk } σ M) : sseq t u Dd σ M := h _ rfl
/-- a test, what comes of it known -/
theorem if_step {c : TDT} {t u : TDS} {Dd : DEnds} {σ : DSt} {M : MM} {E : EK} (hE : E = fun x M1 => Dd.ex x σ M1) (b : Bool) {R : MM → Prop} (h : c σ M (fun x M1 => x = b ∧ R M1) E)
    (mono : ∀ (k k' : Bool → MM → Prop), (∀ x N, k x N → k' x N) → c σ M k E → c σ M k' E) (hr : ∀ M1, R M1 → (if b = true then t else u) Dd σ M1) : sif c t u Dd σ M := by
  subst hE
  refine mono _ _ (fun x N ⟨e, r⟩ => ?_) h
  subst e
  have q := hr N r
  cases x <;> exact q
end DL

/-! The data layer: a caught error that is kept as a value. -/
namespace DL
open PySem PySem.Spec L2 PyProof.Rows
section
variable {X : Cx} {pins : List (Addr × Obj)} {σ : L2.St} {H : Hp} {s : Shared} {a : Addr} {oe : Obj} {vs : Array Value} {cls : Value} {d : Option Addr}
/-- an object that nobody told of is told from now on -/
theorem track (I : Inv X pins σ H s) (ha : s.heap.get? a = some oe) (hz : Zc cls d oe) (hd : oe.data = .fields vs) (na : H a = none) (n0 : X.s_0.heap.get? a = none) (nL : a ≠ X.env.locals) (np : ∀ p ∈ X.pn ++ pins, p.1 ≠ a) : Inv X pins σ (upd H a (exE cls d a)) s := by
  have ne : ∀ {b : Addr} {o : HO}, H b = some o → b ≠ a := fun q => ne_of_none q na
  refine ⟨I.ok, I.os, I.bare, ⟨I.base.keep, I.base.slot, fun b o e n hx => ?_, I.base.there, fun b xs e => ?_, fun b o u e => ?_, fun b ps e => ?_⟩, I.loc, I.cell, ?_, fun x c e => ?_, fun p hp => ?_, fun b u e => ?_, I.len⟩
  · rw [upd_ne (fun z => by rw [z, n0] at e; cases e)]
    exact I.base.free b o e n hx
  · have q := I.base.tups b xs e
    rw [upd_ne (ne q)]; exact q
  · have q := I.base.frzs b o u e
    rw [upd_ne (ne q)]; exact q
  · obtain ⟨m, q⟩ := I.base.tbls b ps e
    exact ⟨m, by rw [upd_ne (ne q)]; exact q⟩
  · rw [upd_ne (Ne.symm nL)]; exact I.free
  · have hc : c ≠ a := fun z => by
      obtain ⟨v, o, ho, hv⟩ := I.cell x c e
      rw [z, ha] at ho
      cases ho
      rw [hd] at hv
      cases hv
    rw [upd_ne hc]; exact I.freeC x c e
  · obtain ⟨e, n, n1, n2, n3⟩ := I.pin p hp
    exact ⟨e, by rw [upd_ne (np p hp)]; exact n, n1, n2, n3⟩
  · by_cases hb : b = a
    · subst hb
      rw [upd_same] at e
      cases e
      exact ⟨⟨oe, vs, ha, hz, hd⟩, ⟨oe, ha⟩, fun _ _ ⟨o, v, q, r⟩ k => ⟨o, v, k o q, r⟩⟩
    · rw [upd_ne hb] at e
      exact (I.hok b u e).stay (fun c v _ q => q) (fun c q => by rw [upd_ne (ne q)]; exact q) fun c xs q => by rw [upd_ne (ne q)]; exact q
end
/-- what 'except x as n: y = n' wishes -/
def wKeep (K : PySem.W.Frag) (c : Value) (i j : Nat) (Wout : WX) (D : Ends) : WX := fun cls d σ H =>
  ∃ b, PySem.W.exmOne K cls c = some b ∧ (b = true → ∀ a, H a = none → D.nx (((σ.set i (some (.ref a))).set j (some (.ref a))).set i none) (upd H a (exE cls d a))) ∧ (b = false → Wout cls d σ H)
section
variable {X : Cx} {x n y : Str} {c : Value} {i j : Nat} {body : List Stmt} {np pos pos' py pn2 pa : Pos} {tb : WX → TS} {Wout : WX}
theorem ps_try_keep (hex : X.ex = []) (hs : X.stack = X.env :: X.outer) (hf : X.env.frame = some X.env.locals) (hN : X.N.Nodup) (hi : X.N[i]? = some n) (hj : X.N[j]? = some y) (hij : i ≠ j) (hln : X.env.kindOf n = some .local) (hly : X.env.kindOf y = some .local) (hc : Names X x c) (tk : Takes X Wout)
    (hvn : Vis X.env.scope n) (hdn : (n == ("__debug__" : Str)) = false) (hcd : (n == ("__classdict__" : Str)) = false) (hsw : swapsWith (.Name n pn2) (some (.Name y py)) pa.line X.env = pure false)
    (hb : ∀ (W : WX) (pn : List (Addr × Obj)) (xe : Value → Shared → Prop), Takes (X.tr pn xe) W → PassesOwn (model X.prog X.w) X.A X.env xe → PSs (X.tr pn xe) body (tb W)) :
    PS X (.Try body [.ExceptHandler (some (.Name x np)) (some n) [.Assign [.Name y py] (.Name n pn2) pa] pos'] [] [] pos) (fun D σ H => tb (wKeep X.K c i j Wout D) D σ H) := by
  refine ⟨fun pins s σ H D I h => ?_⟩
  have ok := I.ok
  have hfr : X.A.frames = some (X.env :: X.outer) := by rw [ok.frames, hs]
  refine wpAny_Try_except ?_
  refine wpAny_mono ((hb (wKeep X.K c i j Wout D) (X.pn ++ pins) (fun e s₁ => wpAny (model X.prog X.w) X.A (noteFrame e X.env) (fun _ s₂ => wpAny (model X.prog X.w) X.A (setFlight e none) (fun _ s₃ =>
    wpAny (model X.prog X.w) X.A (handleBy e X.env [.ExceptHandler (some (.Name x np)) (some n) [.Assign [.Name y py] (.Name n pn2) pa] pos']) (SP X pins D) X.xe s₃) X.xe s₂) X.xe s₁) (fun u s' xx => ?_) PassesOwn.looking).run [] s σ H D (I.toTry _) h) (fun f s1 hsp => ?_) (fun e s1 he => he)
  · obtain ⟨a, B, sI, pins', σ', H', cls, d, rfl, J', nb, up, sky, na, os, ag, b, hb1, hyes, hno⟩ := xx
    have J : Inv X pins σ' H' sI := J'.ofTry ok
    have sky' : Sky B (X.env :: X.outer) a (Zc cls d) X.env.locals s'.heap := by rw [← hs]; exact sky
    show wpAny (model X.prog X.w) X.A (noteFrame (.ref a) X.env) _ _ _
    refine Sky.land Zc.steady hfr hf sky' fun h3 fl3 up3 => ?_
    have J3 : Inv X pins σ' H' { s' with heap := h3 } := J.landed nb fl3.1 (up.trans up3) os ag
    obtain ⟨oe3, vs3, he3, hz3, hd3⟩ := fl3.there
    have nfr : a ∉ frs (X.env :: X.outer) := fun hm => by
      obtain ⟨_, o', e', hnf⟩ := fl3.2.2.1.mem hm
      rw [he3] at e'; cases e'
      exact hnf _ hd3
    have nL : a ≠ X.env.locals := fun z => nfr (List.mem_filterMap.mpr ⟨X.env, List.mem_cons_self, by rw [hf, z]⟩)
    have nF : a ∉ X.fs := fun hm => by
      obtain ⟨e, he, q⟩ := List.mem_filterMap.mp hm
      exact nfr (List.mem_filterMap.mpr ⟨e, List.mem_cons_of_mem _ he, q⟩)
    have nI : sI.heap.get? a = none := by
      cases e : sI.heap.get? a with
      | none => rfl
      | some o =>
        have q := nb a o e (by rw [hs]; exact nfr)
        rw [fl3.2.1] at q
        cases q
    have n0 : X.s_0.heap.get? a = none := by
      cases e : X.s_0.heap.get? a with
      | none => rfl
      | some o =>
        obtain ⟨o', q⟩ := J.base.there a o e (by rw [hex]; exact fun z => nomatch z)
        rw [nI] at q
        cases q
    have npn : ∀ p ∈ X.pn ++ pins, p.1 ≠ a := fun p hp z => by
      have q := (J.pin p hp).1
      rw [z, nI] at q
      cases q
    have S3 := J3.suite he3 hd3 na nL nF
    refine wpAny_handleBy_cons (codeAny_handlers_test ?_) (by intro q; cases q)
    have LT : PySem.W.Looks (model X.prog X.w) h3 (typeOf (.ref a)) cls := fun A Q E s k q => wpAny_typeOf_ref (k _ _ he3) (by rw [hz3.1]; exact q)
    have LM := PySem.W.exm_one (M := model X.prog X.w) (J3.kIn) LT hb1
    have test : ∀ {Q : Value → Shared → Prop} {E : Value → Shared → Prop}, Q c { s' with heap := h3 } → wpAny (model X.prog X.w) (X.A.mark (some (.ref a))) (eval (.Name x np) X.env) Q E { s' with heap := h3 } := fun {Q E} q => by
      obtain ⟨hg, hdbg, hm | ⟨hm, hv, hnn⟩⟩ := hc
      · exact ld_glob (X := X.suite a ((a, oe3) :: (X.pn ++ pins))) S3 hg hm q hdbg
      · exact ld_blt (X := X.suite a ((a, oe3) :: (X.pn ++ pins))) S3 hg hm hv q hnn hdbg
    refine test (LM.here ?_)
    cases b with
    | true =>
      refine codeAny_handlers_suite_as ?_
      refine HandSPX.lands_againZ fl3 fun h4 fl4 up4 => ?_
      have J4 : Inv X pins σ' H' { s' with heap := h4 } := J.landed nb fl4.1 ((up.trans up3).trans up4) os ag
      obtain ⟨oe4, vs4, he4, hz4, hd4⟩ := fl4.there
      have S4 := J4.suite he4 hd4 na nL nF
      refine store_ok (X := X.suite a ((a, oe4) :: (X.pn ++ pins))) (v := .ref a) S4 hN hi (.inl hln) rfl (fun s5 S5 => ?_) (.inr hln)
      have hsl : (σ'.set i (some (V.ref a)))[i]? = some (some (V.ref a)) := by
        have hl : i < σ'.length := by
          rw [J.len]
          exact (List.getElem?_eq_some_iff.mp hi).1
        rw [List.getElem?_set_self hl]
      have asg : PSs (X.suite a ((a, oe4) :: (X.pn ++ pins))) [.Assign [.Name y py] (.Name n pn2) pa] _ :=
        pss_one (ps_set (X := X.suite a ((a, oe4) :: (X.pn ++ pins))) (i := j) hN hj (.inl hly) (pe_var (X := X.suite a ((a, oe4) :: (X.pn ++ pins))) hi hvn hdn hcd) hsw (.inr hly))
      refine wpAny_mono (asg.run [] s5 _ H' { nx := fun σ6 H6 => σ6 = (σ'.set i (some (V.ref a))).set j (some (V.ref a)) ∧ H6 = H', rt := fun _ _ => False } S5 ⟨_, hsl, rfl, rfl⟩) (fun f s6 hsp => ?_) (fun _ _ z => False.elim z)
      cases f with
      | next =>
        obtain ⟨σ6, H6, S6, e6, e7⟩ := hsp
        subst e6 e7
        obtain ⟨hp6, _⟩ := S6.pin (a, oe4) (List.mem_append_left _ List.mem_cons_self)
        have T6 := track (S6.unsuite ok) hp6 hz4 hd4 na n0 nL npn
        exact gone_ok T6 hN hi hln fun s7 J7 => ⟨_, _, J7, hyes rfl a na⟩
      | brk =>
        obtain ⟨σ6, H6, S6, q6⟩ := hsp
        exact q6.elim
      | cont =>
        obtain ⟨σ6, H6, S6, q6⟩ := hsp
        exact q6.elim
      | ret u =>
        obtain ⟨v6, σ6, H6, S6, r6, q6⟩ := hsp
        exact q6.elim
    | false =>
      show wpAny _ X.A (handleBy (.ref a) X.env []) _ _ _
      refine wpAny_handleBy_nil ?_
      obtain ⟨k1, k2, k3, oe, vs, T, oT, ts', he, hz, hd, h1, hr⟩ := id fl3
      unfold PySem.passOn
      refine wpAny_bind (wpAny_field he hd h1 ?_)
      rw [if_neg (show ¬ ((Value.ref T == Value.none) = true) from by simp)]
      have fin : wpAny (model X.prog X.w) X.A (setFlight (.ref a) X.env.frame) (fun _ s4 => wpAny (model X.prog X.w) X.A (throw (.ref a) : Sem Flow) (SP X pins D) X.xe s4) X.xe { s' with heap := h3 } := by
        rw [hf]
        refine HandSPX.setFlight_upZ fl3 fun h4 hh4 up4 => wpAny_throw (tk _ _ ?_)
        exact ⟨a, B, sI, pins, σ', H', cls, d, rfl, J, nb, (up.trans up3).trans up4, .inr (.inr (by rw [hs]; exact hh4)), na, os, ag, hno rfl⟩
      first
        | exact wpAny_bind (wpAny_pure (wpAny_bind fin))
        | exact wpAny_bind fin
  · cases f with
    | next =>
      obtain ⟨σ', H', J', q⟩ := hsp
      exact wpAny_execs_nil ⟨σ', H', J'.ofTry ok, q⟩
    | brk =>
      obtain ⟨σ', H', J', q⟩ := hsp
      exact ⟨σ', H', J'.ofTry ok, q⟩
    | cont =>
      obtain ⟨σ', H', J', q⟩ := hsp
      exact ⟨σ', H', J'.ofTry ok, q⟩
    | ret u =>
      obtain ⟨v, σ', H', J', r, q⟩ := hsp
      exact ⟨v, σ', H', J'.ofTry ok, r, q⟩
end
end DL
namespace DL
open PySem PySem.Spec L2
/-- try: .. except C as n: y = n; which classes C takes -/
def stryK (cs : List (Str × Bool)) (i j : Nat) (tb : TDS) : TDS := fun D σ M => tb { D with ex := fun x σ' M' => match cs.lookup x.cls with
  | some true => D.nx (((σ'.set i (some (.exc x.cls x.fs))).set j (some (.exc x.cls x.fs))).set i none) M'
  | some false => D.ex x σ' M'
  | none => False } σ M
/-- the classes as the text has them -/
def takesB (K : PySem.W.Frag) (C : Str) (cs : List (Str × Bool)) : Bool := cs.all fun p => decide (PySem.W.exmOne K (.ref (He.ga K p.1)) (.ref (He.ga K C)) = some p.2)
theorem takesB_at {K : PySem.W.Frag} {C : Str} {cs : List (Str × Bool)} (h : takesB K C cs = true) {x : Str} {b : Bool} (e : cs.lookup x = some b) : PySem.W.exmOne K (.ref (He.ga K x)) (.ref (He.ga K C)) = some b := by
  have key : ∀ l : List (Str × Bool), l.lookup x = some b → (x, b) ∈ l := by
    intro l
    induction l with
    | nil => intro h; cases h
    | cons p l ih =>
      obtain ⟨y, c⟩ := p
      intro h
      rw [List.lookup_cons] at h
      by_cases hq : (x == y) = true
      · rw [hq] at h
        have := eq_of_beq hq
        cases h
        subst this
        exact List.mem_cons_self
      · rw [show (x == y) = false by simpa using hq] at h
        exact List.mem_cons_of_mem _ (ih h)
  exact of_decide_eq_true (List.all_eq_true.mp h _ (key cs e))
theorem exc_rep {K : PySem.W.Frag} {HI : Hp} {c : Value} {d : Option Addr} {x : XV} {a : Addr} (r : XRep K HI c d x) (sm : Same HI (upd HI a (exE c d a))) : Rep K (upd HI a (exE c d a)) (.ref a) (.exc x.cls x.fs) := by
  obtain ⟨rfl, r⟩ := r
  cases d with
  | none =>
    rw [show x.fs = [] from r]
    exact .exc0 upd_same
  | some b =>
    obtain ⟨v, p, h1, h2, h3⟩ := r
    rw [h2]
    exact .exc1 upd_same (sm _ _ h1) (h3.up sm)
section
variable {X : Cx} {W : WX} {C n y : Str} {i j : Nat} {body : List Stmt} {np pos pos' py pn2 pa : Pos} {tb : TDS} {cs : List (Str × Bool)}
theorem s_tryK (hex : X.ex = []) (hs : X.stack = X.env :: X.outer) (hf : X.env.frame = some X.env.locals) (hN : X.N.Nodup) (hi : X.N[i]? = some n) (hj : X.N[j]? = some y) (hij : i ≠ j) (hln : X.env.kindOf n = some .local) (hly : X.env.kindOf y = some .local) (hg : Gl X C) (hm : X.mg C = some (.ref (He.ga X.K C))) (tk : Takes X W)
    (hcs : takesB X.K C cs = true) (hb : ∀ (W' : WX) (pn : List (Addr × Obj)) (xe : Value → Shared → Prop), Takes (X.tr pn xe) W' → PassesOwn (model X.prog X.w) X.A X.env xe → DSs (X.tr pn xe) W' body tb)
    (hvn : Vis X.env.scope n := by first | exact Or.inl rfl | exact Or.inr (Or.inl rfl) | exact Or.inr (Or.inr rfl)) (hdn : (n == ("__debug__" : Str)) = false := by decide) (hcd : (n == ("__classdict__" : Str)) = false := by decide) (hdb : (C == ("__debug__" : Str)) = false := by decide) (hsw : swapsWith (.Name n pn2) (some (.Name y py)) pa.line X.env = pure false := by rfl) :
    DS X W (.Try body [.ExceptHandler (some (.Name C np)) (some n) [.Assign [.Name y py] (.Name n pn2) pa] pos'] [] [] pos) (stryK cs i j tb) :=
  ps_imp (ps_try_keep (Wout := W) (tb := fun W' => upS X.K W' tb) hex hs hf hN hi hj hij hln hly ⟨hg, hdb, .inl hm⟩ tk hvn hdn hcd hsw hb) fun σv H Dv h => by
    obtain ⟨HI, σ, M, Dd, ok, re, h, r⟩ := h
    refine ⟨HI, σ, M, _, ok, re, h, ⟨r.nx, r.rt, r.bk, r.ct, fun HI' σv' H' σ' M' st re' => ?_⟩⟩
    intro c d H2 ⟨HI2, M2, x, st2, ok2, rx, q⟩
    simp only at q
    cases e : cs.lookup x.cls with
    | none => rw [e] at q; exact q.elim
    | some b =>
      rw [e] at q
      obtain ⟨ec, rx'⟩ := id rx
      subst ec
      refine ⟨b, takesB_at hcs e, fun hb1 a na => ?_, fun hb1 => ?_⟩
      · subst hb1
        obtain ⟨ok3, sm3⟩ := ok2.newI (o := exE (.ref (He.ga X.K x.cls)) d a) na
        have rp := exc_rep (a := a) rx sm3
        have st3 : Stp HI2 M2 H2 (upd HI2 a (exE (.ref (He.ga X.K x.cls)) d a)) M2 (upd H2 a (exE (.ref (He.ga X.K x.cls)) d a)) := .newI (ok2.free na).1 na
        have re3 := ((re'.up st2.sm).up sm3)
        exact r.nx _ _ _ _ _ ((st.trans st2).trans st3) ok3 ((((re3.set rp i).set rp j).drop1 i none)) q
      · subst hb1
        exact r.ex HI' σv' H' σ' M' st re' _ _ _ ⟨HI2, M2, x, st2, ok2, rx, q⟩
end
end DL

/-! The data layer: isinstance with the text's own classes, a kept error's field. -/
namespace DL
open PySem PySem.Spec L2 PyProof.Rows
/-- what an own exception class must say for isinstance and fields -/
structure EClass (K : PySem.W.Frag) (C : Addr) : Prop where
  cl : (PySem.W.clsIn K C).isSome = true
  ga : PySem.W.findIn K (.ref C) "__getattribute__" = some (some (.builtin "BaseException.__getattribute__"))
  gg : PySem.W.findIn K (.ref C) "__getattr__" = some none
  sb : PySem.W.subIn K (.ref C) (.type "BaseException") = some true
  cc : PySem.W.findIn K (.ref C) "__class__" = some (some (.builtin "object.__class__"))
  gs : PySem.W.specialIn K (.builtin "object.__class__") "__get__" = some (some (.builtin "getset_descriptor.__get__"))
  tk : PySem.W.takesIn K (.builtin "object.__class__") = some true
  mo : PySem.W.mroIn K C (.type "object") = some true
  hd : PySem.W.hasDictIn K C = true
  np : PySem.W.findIn K (.ref C) "place" = some none
def eclassB (K : PySem.W.Frag) (C : Addr) : Bool := (PySem.W.clsIn K C).isSome && (decide (PySem.W.findIn K (.ref C) "__getattribute__" = some (some (.builtin "BaseException.__getattribute__"))) && (decide (PySem.W.findIn K (.ref C) "__getattr__" = some none) && (decide (PySem.W.subIn K (.ref C) (.type "BaseException") = some true) &&
  (decide (PySem.W.findIn K (.ref C) "__class__" = some (some (.builtin "object.__class__"))) && (decide (PySem.W.specialIn K (.builtin "object.__class__") "__get__" = some (some (.builtin "getset_descriptor.__get__"))) && (decide (PySem.W.takesIn K (.builtin "object.__class__") = some true) && (decide (PySem.W.mroIn K C (.type "object") = some true) &&
  (PySem.W.hasDictIn K C && decide (PySem.W.findIn K (.ref C) "place" = some none)))))))))
theorem eclassB_ok {K : PySem.W.Frag} {C : Addr} (h : eclassB K C = true) : EClass K C := by
  unfold eclassB at h
  simp only [Bool.and_eq_true, decide_eq_true_eq] at h
  obtain ⟨h1, h2, h3, h4, h5, h6, h7, h8, h9, h10⟩ := h
  exact ⟨h1, h2, h3, h4, h5, h6, h7, h8, h9, h10⟩
theorem exE_at {P : Program} {w : World} {H : Hp} {h : Heap} {a : Addr} {cls : Value} {d : Option Addr} (hok : HOk P w H h) (e : H a = some (exE cls d a)) : ∃ (oe : Obj) (vs : Array Value), h.get? a = some oe ∧ Zc cls d oe ∧ oe.data = .fields vs := by
  have x : ObjOk P w H h a (.ext fun h => ∃ (oe : Obj) (vs : Array Value), h.get? a = some oe ∧ Zc cls d oe ∧ oe.data = .fields vs) := hok a _ e
  exact x.1
/-- the kept error as an instance -/
theorem exE_inst {P : Program} {w : World} {H : Hp} {h : Heap} {a C : Addr} {d : Option Addr} (hok : HOk P w H h) (e : H a = some (exE (.ref C) d a)) (ed : ∀ b, d = some b → ∃ fs, H b = some (.xd fs)) : ∃ (oe : Obj) (od : Option Obj), PySem.W.InstAt h a oe C od := by
  obtain ⟨oe, vs, h1, ⟨h2, h3⟩, h4⟩ := exE_at hok e
  cases d with
  | none => exact ⟨oe, none, h1, h2, by unfold PySem.W.notCls; rw [h4] <;> rfl, by rw [h3]; trivial⟩
  | some b =>
    obtain ⟨fs, hb⟩ := ed b rfl
    have hx : ObjOk P w H h b (.xd fs) := hok b _ hb
    obtain ⟨mA, hns, hr⟩ := hx
    obtain ⟨od, ho, hl⟩ := lookIn_ns hns
    exact ⟨oe, some od, h1, h2, by unfold PySem.W.notCls; rw [h4] <;> rfl, by rw [h3]; exact ho⟩
/-- isinstance(e, c), e a kept error -/
def rIsiE (K : PySem.W.Frag) : List V → Hp → VK → Prop := fun xs H Q => ∃ (a C : Addr) (d : Option Addr) (c : V) (u : Value) (b : Bool), xs = [.ref a, c] ∧ ClsV c u ∧ H a = some (exE (.ref C) d a) ∧ (∀ b, d = some b → ∃ fs, H b = some (.xd fs)) ∧ EClass K C ∧ PySem.W.kitOne K (.ref C) u = some b ∧ Q (.bl b) H
theorem call_isiE {X : Cx} : CallR X (.builtin "isinstance") (rIsiE X.K) := by
  intro pins s σ H xs us Q I r h
  obtain ⟨a, C, d, c, u, b, rfl, k, ea, ed, T, e, q⟩ := h
  obtain ⟨u1, u2, rfl, r1, r2⟩ := vals2 r
  have e2 := k.eq r2
  subst e2
  cases (show u1 = Value.ref a from r1)
  obtain ⟨oe, od, J⟩ := exE_inst I.hok ea ed
  exact PySem.W.kia_one (PySem.W.kitx_exc T.cl T.ga T.gg T.sb T.cc T.gs T.tk T.mo) I.kIn J e (fun z => nomatch z) fun tk => ⟨.bl b, H, I.tok tk, rfl, q⟩
/-! ### the reading -/
inductive Tg where
  | ty (n : String) | own (c : Str)
  deriving DecidableEq
def Tg.v (K : PySem.W.Frag) : Tg → Value
  | .ty n => .type n
  | .own c => .ref (He.ga K c)
def tgOf : D → Option Tg
  | .exc c _ => some (.own c)
  | d => d.cls.map Tg.ty
def tgC : D → Option Tg
  | .ty n => some (.ty n)
  | .kls c => some (.own c)
  | _ => none
abbrev IsTab := List ((Tg × Tg) × Bool)
def isT (tab : IsTab) (x c : D) : Option Bool := match tgOf x, tgC c with
  | some (.ty a), some (.ty b) => kitB a b
  | some t, some u => tab.lookup (t, u)
  | _, _ => none
/-- the table's facts; xs: the exception classes -/
def isTabB (K : PySem.W.Frag) (tab : IsTab) (xs : List Str) : Bool := (tab.all fun e => decide (PySem.W.kitOne K (e.1.1.v K) (e.1.2.v K) = some e.2)) && ((tab.all fun e => match e.1.1 with
  | .own c => xs.contains c
  | _ => true) && xs.all fun c => eclassB K (He.ga K c))
theorem lookup_mem {α β : Type} [BEq α] [LawfulBEq α] {x : α} {b : β} : ∀ {l : List (α × β)}, l.lookup x = some b → (x, b) ∈ l
  | [], h => by cases h
  | (y, c) :: l, h => by
    rw [List.lookup_cons] at h
    by_cases hq : (x == y) = true
    · rw [hq] at h
      have e := eq_of_beq hq
      cases h
      subst e
      exact List.mem_cons_self
    · rw [show (x == y) = false by simpa using hq] at h
      exact List.mem_cons_of_mem _ (lookup_mem h)
def rdIsiX (tab : IsTab) : RDL := fun ds M Q => match ds with
  | [x, c] => (match isT tab x c with
    | some b => Q (.bl b) M
    | none => False)
  | _ => False
theorem clsV_rep {K : PySem.W.Frag} {H : Hp} {v : V} {c : D} {u : Tg} (r : Rep K H v c) (e : tgC c = some u) : ClsV v (u.v K) := by
  cases r with
  | ty n => cases e; exact .ty n
  | kls c => cases e; exact .own _
  | _ => cases e
theorem od_isiX {K : PySem.W.Frag} {tab : IsTab} {xs : List Str} (hT : isTabB K tab xs = true) : CrD K (fun vs H Q => rIsi K vs H Q ∨ rIsiE K vs H Q) (rdIsiX tab) := by
  intro HI M H vs ds Q Qv ok r h k
  unfold isTabB at hT
  simp only [Bool.and_eq_true] at hT
  obtain ⟨t1, t2, t3⟩ := hT
  unfold rdIsiX at h
  split at h
  · rename_i x c
    cases e : isT tab x c with
    | none => rw [e] at h; exact h.elim
    | some b =>
      rw [e] at h
      cases r with
      | cons rx r =>
        cases r with
        | cons rc r =>
          cases r
          have q := k _ _ (low.mk ok (.bl b) h)
          unfold isT at e
          split at e
          · rename_i a b' ea eb
            have ec : x.cls = some a := by
              cases x with
              | exc _ _ => cases ea
              | _ => first | (cases ea; rfl) | cases ea
            exact .inl ⟨_, _, _, _, b, rfl, clsV_rep rc eb, ty_rep (rx.up ok.same) ec, kit_ty e, q⟩
          · rename_i t u hne et eu
            have kf := of_decide_eq_true (List.all_eq_true.mp t1 _ (lookup_mem e))
            cases x with
            | exc c0 fs =>
              cases et
              have hc0 : eclassB K (He.ga K c0) = true := by
                have z := List.all_eq_true.mp t2 _ (lookup_mem e)
                exact List.all_eq_true.mp t3 c0 (List.contains_iff_mem.mp z)
              have T := eclassB_ok hc0
              cases rx with
              | exc0 ha => exact .inr ⟨_, _, none, _, _, b, rfl, clsV_rep rc eu, (ok.imm _ _ ha).1, (fun _ z => by cases z), T, kf, q⟩
              | exc1 ha hb rp => exact .inr ⟨_, _, _, _, _, b, rfl, clsV_rep rc eu, (ok.imm _ _ ha).1, (fun b' z => by cases z; exact ⟨_, (ok.imm _ _ hb).1⟩), T, kf, q⟩
            | _ =>
              first
                | (cases et; exact .inl ⟨_, _, _, _, b, rfl, clsV_rep rc eu, ty_rep (rx.up ok.same) rfl, kf, q⟩)
                | cases et
          · cases e
  · exact h.elim
/-- e.place, e a kept error of the class C -/
def tplace (C : Str) (te : TD) : TD := fun σ M Q E => te σ M (fun x M1 => match x with
  | .exc c [p] => c = C ∧ Q p M1
  | _ => False) E
theorem d_place {X : Cx} {W : WX} {C : Str} {e : Expr} {te : TD} {pos : Pos} (T : EClass X.K (He.ga X.K C)) (he : DE X W e te) (hb : attributeBase e "place" X.env (eval e X.env) = eval e X.env := by rfl) : DE X W (.Attribute e "place" pos) (tplace C te) := by
  refine ⟨fun pins s σv H Qv I h => ?_⟩
  obtain ⟨HI, σ, M, Q, E, ok, re, h, k, we⟩ := h
  refine attr_of hb (thn (he.run pins s σv H _ I ⟨HI, σ, M, _, E, ok, re, h, fun v H' z => z, we⟩) fun u s1 ⟨v, H1, I1, rv, HI1, M1, d1, s1', ok1, r1, h1⟩ => ?_)
  cases r1 with
  | @exc1 a b c v' d' ha hb' rp =>
    obtain ⟨rfl, q⟩ := h1
    obtain rfl : u = Value.ref a := rv
    have ea := (ok1.imm _ _ ha).1
    have eb := (ok1.imm _ _ hb').1
    obtain ⟨oe, vs, g1, ⟨g2, g3⟩, g4⟩ := exE_at I1.hok ea
    have hx : ObjOk X.prog X.w H1 s1.heap b (.xd [(Str.ofString "place", v')]) := I1.hok b _ eb
    obtain ⟨mA, hns, hr⟩ := hx
    obtain ⟨od, ho, hl⟩ := lookIn_ns hns
    obtain ⟨u', hu, ru⟩ := RelO.some_of (v := v') (o := mA "place") (by
      have z := hr "place"
      exact z)
    have J : PySem.W.InstAt s1.heap a oe (He.ga X.K c) (some od) := ⟨g1, g2, by unfold PySem.W.notCls; rw [g4] <;> rfl, by rw [g3]; exact ho⟩
    exact HandSPX.exc_get I1.kIn J T.ga T.gg T.sb (PySem.W.findObj_own T.hd T.np rfl (by rw [hl, hu])) (handed_of ru) ⟨v', H1, I1.tok _, ru, k _ _ ⟨HI1, M1, _, s1', ok1, rp, q⟩⟩
  | exc0 _ => exact h1.elim
  | _ => exact h1.elim
end DL

/-! The data layer: an own exception over ValueError whose __init__ says super().__init__('..') and keeps its argument as self.place. -/
namespace DL
open PySem PySem.W PySem.Spec PyProof.Rows PySem.Calls
open L2 (OexC RelV)
/-- what the text's part says of the class at C and of its __init__ at fI -/
structure TIni (prog : Program) (K : PySem.W.Frag) (C fI : Addr) (qual : Str) (params : Arguments) (body : List Stmt) (scope : Scope) : Prop where
  fn : ∃ (oc : Value) (od : Option Addr) (kV doc pm : Value) (an : Option Addr) (cda : Addr) (ct : Value) (osl : Array (Option Value)) (cc : Addr) (ccl : Value) (cdd : Option Addr) (vs : Array Value) (ccs : Array (Option Value)) (file : Str) (tf : Tok) (cl : Value) (cld : Option Addr) (csl : Array (Option Value)),
    K.lookup fI = some ⟨oc, od, .func (fnX "__init__" qual params body scope [("__class__", cc)] .none kV doc pm an (.ref cda) ct), osl⟩ ∧ codeIn K (.ref cda) qual = true ∧ K.lookup cda = some ⟨ccl, cdd, .fields vs, ccs⟩ ∧ vs[2]? = some (.str file tf) ∧
      ((prog.main.file : Str) == file) = true ∧ K.lookup cc = some ⟨cl, cld, .cell (some (.ref C)), csl⟩
  ho : nsIn K cStatics "thirdparty.any" = some none
  hm : ks_superIn K C C "__init__" = some (some (.builtin "ValueError.__init__"))
  hB : subIn K (.ref C) (.type "ValueError") = some true
  sf : mroIn K C (.ref C) = some true
  q : excInitIn K C [.type "ValueError", .type "Exception", .type "BaseException", .type "object"] "ValueError.__new__" = true
  ox : OexC K C
  np : findIn K (.ref C) "place" = some none
section
variable {prog : Program} {w : World} {A : Around} {K : PySem.W.Frag} {C fI : Addr} {qual : Str} {params : Arguments} {scope : Scope} {p0 p1 p2 p3 p4 p5 p6 p7 p8 p9 : Pos} {msg : Str} {j : Nat} {ar : Arg} {R : Result → Shared → Prop} {hp : Heap} {s : Shared} {e t0 : Addr} {pv : Value} {mg mb : Str → Option Value}
abbrev iniBody (p0 p1 p2 p3 p4 p5 p6 p7 p8 p9 : Pos) (msg : Str) (j : Nat) : List Stmt :=
  [.Expr (.Call (.Attribute (.Call (.Name "super" p0) [] [] p1) "__init__" p2) [.Constant (.str msg) j p3] [] p4) p5, .Assign [.Attribute (.Name "self" p6) "place" p7] (.Name "place" p8) p9]
theorem text_init (T : TIni prog K C fI qual params (iniBody p0 p1 p2 p3 p4 p5 p6 p7 p8 p9 msg j) scope) (pl : Env → Sem Bool) (hev : ∀ env : Env, eval (.Call (.Attribute (.Call (.Name "super" p0) [] [] p1) "__init__" p2) [.Constant (.str msg) j p3] [] p4) env = (do
      let ov ← attributeBase (.Call (.Name "super" p0) [] [] p1) "__init__" env (eval (.Call (.Name "super" p0) [] [] p1) env)
      standAt p2.atName
      let (f, first) ← holding [ov] (getMethod ov "__init__" (pl env))
      callWith p4 f first (backTo p4 (starEach [.Constant (.str msg) j p3] env)) []))
    (hpar : (params.posonlyargs ++ params.args).head? = some ar) (har : ar.arg = "self")
    (h1 : scope.names.lookup ("super" : Str) = some .globalImplicit) (h2 : scope.names.lookup ("__class__" : Str) = some .free) (h3 : scope.names.lookup ("self" : Str) = some .local) (h4 : scope.names.lookup ("place" : Str) = some .local)
    (hk : scope.kind = .function) (hco : scope.isCoroutine = false) (hgen : scope.isGenerator = false) (hcell : ∀ x ∈ scope.names, x.2 ≠ .cell) (htop : (prog.main.scope.names.lookup ("super" : Str)).isSome = false)
    (hbind : ∀ fd : FuncData, (K.lookup fI).map (·.data) = some (.func fd) → BindsTo s fd ⟨[.ref e, pv], []⟩ [("self", .ref e), ("place", pv)]) (hroom : A.depth < recursionLimit)
    (X0 : K.In hp) (k0 : ∀ b o, hp.get? b = some o → s.heap.get? b = some o) (hsz : hp.objs.size ≤ s.heap.objs.size) (hx : s.heap.get? e = some (HandSPX.excO C t0)) (he : hp.get? e = none) (hg : hp.Ns mainGlobals mg) (hmg : mg "super" = none) (hb : hp.Ns builtinsNs mb) (hmb : mb "super" = some (.type "super")) (hlim : hp.NoLimit) (hms : msg.length ≤ sizeLine)
    (hq : ∀ h' t' dx u1, (∀ b o, hp.get? b = some o → h'.get? b = some o) → h'.get? e = some { cls := .ref C, dict := some dx, data := .fields #[.ref u1, .none, .none, .none, .bool false, .none] } → hp.get? dx = none → dx ≠ e →
      h'.Ns1 dx (fun y => if y = "place" then some pv else none) → R (.ok (.ret .none)) { s with heap := h', toks := t' }) : codeAny (model prog w) A (.call (.ref fI) ⟨[.ref e, pv], []⟩) R s := by
  obtain ⟨oc, od, kV, doc, pm, an, cda, ct, osl, cc, ccl, cdd, vs, ccs, file, tf, cl, cld, csl, lf, hcd, lc, hvs, hfile, lcc⟩ := T.fn
  have XS : K.In s.heap := X0.keeps k0
  refine ks_codeAny_call_defAt (binds := [("self", .ref e), ("place", pv)]) hroom (XS _ _ lf) rfl (hlim.keeps k0) (codeRec_of XS hcd) rfl (hbind _ (by rw [lf] <;> rfl)) hcell (fun x hxm => ?_) (fun h0 hns kk => ?_) hco hgen hk
  · rcases List.mem_cons.mp hxm with z | z
    · rw [z]; exact h3
    · rw [List.mem_singleton.mp z]; exact h4
  have X1 : K.In h0 := X0.keeps fun b o z => kk b o (k0 b o z)
  have F1 : Fr hp s.heap.objs.size h0 (fun x => ([("self", .ref e), ("place", pv)] : List (Str × Value)).reverse.lookup x) := ⟨hns, fun b o z => kk b o (k0 b o z), hsz⟩
  have N1 : News hp s.heap.objs.size h0 [(e, HandSPX.excO C t0)] := fun p hp' => by
    rw [List.mem_singleton.mp hp']
    exact ⟨kk _ _ hx, Nat.ne_of_lt (Heap.lt_size hx), he⟩
  obtain ⟨cd, hcl⟩ : ∃ cd, clsIn K C = some cd := by
    cases z : clsIn K C with
    | some cd => exact ⟨cd, rfl⟩
    | none =>
      have z2 := T.sf
      unfold mroIn at z2
      rw [z] at z2
      cases z2
  obtain ⟨oD, hD0, hD2⟩ : ∃ oD, K.lookup C = some oD ∧ oD.data = .cls cd := by
    unfold clsIn at hcl
    split at hcl
    · rename_i c d cd' sl ho
      cases hcl
      exact ⟨_, ho, rfl⟩
    · cases hcl
  have hself : ([("self", .ref e), ("place", pv)] : List (Str × Value)).reverse.lookup (Str.ofString "self") = some (Value.ref e) := by
    show List.lookup (Str.ofString "self") [(Str.ofString "place", pv), (Str.ofString "self", Value.ref e)] = some (Value.ref e)
    rw [List.lookup_cons, show (Str.ofString "self" == Str.ofString "place") = false by decide, List.lookup_cons, show (Str.ofString "self" == Str.ofString "self") = true by decide]
  have hplace : ([("self", .ref e), ("place", pv)] : List (Str × Value)).reverse.lookup (Str.ofString "place") = some pv := by
    show List.lookup (Str.ofString "place") [(Str.ofString "place", pv), (Str.ofString "self", Value.ref e)] = some pv
    rw [List.lookup_cons, show (Str.ofString "place" == Str.ofString "place") = true by decide]
  obtain ⟨hh, gg, dd, tt, os⟩ := s
  have quiet : interactive (ksEnv qual scope hh.objs.size fI (.ref cda) cc) = false := by simp [interactive, hk]
  refine ks_wpAt_execs_cons (ks_wpAt_Expr_any (ks_wpAt_MethodCall (pl := pl _) (ks_wpAt_super_base (f := fI) (cc := cda) h1 h2 (by decide) rfl (X1 _ _ lf) rfl hpar rfl (X1 _ _ lc) rfl hvs hfile htop ?_) (hev _)) quiet (by rfl))
  have he0 := kk _ _ hx
  refine ks_loadName_global hk h1 (Calls.loadGlobal_builtin (hg.keeps F1.keep) hmg (hb.keeps F1.keep) hmb ⟨rfl, ?_⟩)
  refine wpAny_loadName_free hk h2 rfl ⟨_, X1 _ _ lcc, rfl⟩ ?_
  rw [har]
  refine wpAny_loadName_local hk h3 F1.ns hself ?_
  refine ks_wpAny_isType_cls (X1 _ _ hD0) hD2 ⟨rfl, ?_⟩
  refine ks_wpAny_call_super (X1 _ _ hD0) hD2 he0 rfl (fun c z => by cases z) (looks_mroIn X1 T.sf) (fun hA eA kA => ?_)
  obtain ⟨F2, N2, l2⟩ := ks_newsPush (s := ⟨h0, gg, dd, tt, os⟩) F1 N1 rfl eA kA
  have I2 : InstAt hA e (HandSPX.excO C t0) C none := ⟨kA _ _ he0, rfl, rfl, trivial⟩
  refine kxs_method kxs_ValueError F2 X0 N2 (by simp) I2 T.ho T.hm T.hB (by decide) (fun q hB F3 N3 l3 => ?_)
  refine kxs_callWith1 (i := "ValueError.__init__") (x := e) (news := _) N3 List.mem_cons_self ?_
  show wpAny _ _ (spliced ((false, eval (.Constant (.str msg) j p3) _) :: backTo p4 (starEach [] _))) _ _ _
  refine Calls.spliced_cons (Calls.Constant_str (Calls.spliced_nil ⟨kxs_at N3 List.mem_cons_self, ?_⟩))
  have ne2 : h0.objs.size ≠ e := fun z => Nat.lt_irrefl _ (by have := l2 (e, HandSPX.excO C t0) (by simp); rw [← z] at this; exact this)
  have ne3 : q ≠ e := fun z => Nat.lt_irrefl _ (by have := l3 (e, HandSPX.excO C t0) (by simp); rw [← z] at this; exact this)
  refine kxs_call (t := t0) (dv := none) (c2 := .none) F3 X0 N3 PySem.F.excBase_ValueError T.q List.mem_cons_self (.tail ne3 (.tail ne2 (.head fun p z => by cases z))) (by show 1 ≤ sizeLine; decide) (fun t1 hC F4 N4 l4 => ?_)
  obtain ⟨he4, _, _⟩ := N4 (e, excObj C t1 none .none) (by simp)
  have X4 : K.In hC := X0.keeps F4.keep
  refine ks_wpAt_execs_cons (ks_wpAt_Assign_Attr (wpAt_of_wpAny (ESX.ldL F4.ns hplace (ESX.ldL F4.ns hself ?_ hk h3) hk h4)) (by rfl))
  obtain ⟨nm, qn, N, bs, bm, sn, sub, ab, col, dd0, k0', k1, k2, k3, k5, hC0, hbm⟩ := T.ox.cls
  have hcl2 : PySem.W.clsIn K C = some { name := nm, bases := bs, mro := .ref C :: bm, ns := N, qualname := qn, hasDict := true, slotNames := sn, subclasses := sub, abstract := ab, collection := col, hasDel := false } := by unfold PySem.W.clsIn; rw [hC0] <;> rfl
  refine PySem.W.set_plain X4 (ox := excObj C t1 none .none) (od := none) ⟨he4, rfl, rfl, trivial⟩ T.ox.sa ?_
  refine PySem.HandSPX.exc_osa X4 he4 hcl2 (show PySem.HandSPX.refsVE (.ref C :: bm) = true from hbm) rfl T.np (fun hD tk' dx k dn dne hx' hn => ?_)
  refine wpAt_of_wpAny (wpAny_execs_nil ?_)
  refine hq hD tk' dx t1 (fun b o z => k b o (fun y => by rw [y, he] at z; cases z) (F4.keep b o z)) hx' ?_ dne hn
  cases z : hp.get? dx with
  | none => rfl
  | some o => exact absurd (Nat.lt_of_lt_of_le (Heap.lt_size (F4.keep _ _ z)) dn) (Nat.lt_irrefl _)
end
end DL
namespace DL
open PySem PySem.Spec L2 PyProof.Rows
/-- C(e): a new error of the class C, its place told -/
def tMkT (C : Addr) (ta : TA) : L2.St → Hp → XK → Prop := fun σ H Q => ta σ H fun vs H1 => ∃ v, vs = [v] ∧ ∀ d, H1 d = none → Q (.ref C) (some d) (upd H1 d (.xd [(Str.ofString "place", v)]))
section
variable {X : Cx} {x : Str} {C fI : Addr} {k : Nat} {qual : Str} {params : Arguments} {scope : Scope} {q0 q1 q2 q3 q4 q5 q6 q7 q8 q9 p pos : Pos} {msg : Str} {j : Nat} {ar : Arg} {e : Expr} {ta : TA}
theorem pmk_text (T : TIni X.prog X.K C fI qual params (iniBody q0 q1 q2 q3 q4 q5 q6 q7 q8 q9 msg j) scope) (iC : PySem.W.findIn X.K (.ref C) "__init__" = some (some (.ref fI))) (tI : PySem.W.typeIn X.K (.ref fI) = some (.type "function"))
    (pl : Env → Sem Bool) (hev : ∀ env : Env, eval (.Call (.Attribute (.Call (.Name "super" q0) [] [] q1) "__init__" q2) [.Constant (.str msg) j q3] [] q4) env = (do
      let ov ← attributeBase (.Call (.Name "super" q0) [] [] q1) "__init__" env (eval (.Call (.Name "super" q0) [] [] q1) env)
      standAt q2.atName
      let (f, first) ← holding [ov] (getMethod ov "__init__" (pl env))
      callWith q4 f first (backTo q4 (starEach [.Constant (.str msg) j q3] env)) []))
    (hpar : (params.posonlyargs ++ params.args).head? = some ar) (har : ar.arg = "self")
    (h1 : scope.names.lookup ("super" : Str) = some .globalImplicit) (h2 : scope.names.lookup ("__class__" : Str) = some .free) (h3 : scope.names.lookup ("self" : Str) = some .local) (h4 : scope.names.lookup ("place" : Str) = some .local)
    (hk : scope.kind = .function) (hco : scope.isCoroutine = false) (hgen : scope.isGenerator = false) (hcell : ∀ x ∈ scope.names, x.2 ≠ .cell) (htop : (X.prog.main.scope.names.lookup ("super" : Str)).isSome = false) (hms : msg.length ≤ sizeLine)
    (hbind : ∀ fd : FuncData, (X.K.lookup fI).map (·.data) = some (.func fd) → ∀ (s : Shared) (e pv : Value), BindsTo s fd ⟨[e, pv], []⟩ [("self", e), ("place", pv)]) (hr : Room (k + 1) X.A) (hsup : X.mg "super" = none) (hg : Gl X x) (hm : X.mg x = some (.ref C)) (ha : PA X [e] ta)
    (hdb : (x == ("__debug__" : Str)) = false := by decide) (he : starEach [e] X.env = (false, eval e X.env) :: starEach [] X.env := by rfl) : PMk X (.Call (.Name x p) [e] [] pos) (tMkT C ta) := by
  intro pins s σ H Q I h
  obtain ⟨nm, q, N, bs, bm, sn, sub, ab, col, dd, k0, k1, k2, k3, k5, hC, hbm⟩ := T.ox.cls
  refine wpAny_Call_Name_kw (ld_glob I hg hm ?_ hdb)
  refine PySem.W.callWith_K (h₀ := X.base) I.ok.mod.kin T.ox.kC (thn (ha.run pos pins s σ H _ I h) fun us s1 ⟨vs, H1, I1, r1, q1⟩ => ⟨I1.kIn, ?_⟩) he (by rfl)
  obtain ⟨v, ev, q1⟩ := q1
  subst ev
  show wpAny _ _ (call (.ref C) us) _ _ _
  obtain ⟨u, rfl, ru⟩ : ∃ u, us = [u] ∧ RelV v u := by
    cases r1 with
    | cons ra rr => cases rr; exact ⟨_, rfl, ra⟩
  obtain ⟨hp, g, dr, tk, os⟩ := s1
  have hsz : hp.objs.size ≤ hp.objs.size + 1 := Nat.le_succ _
  have kk : ∀ b o, hp.get? b = some o → ((hp.push (PySem.W.kdv_tup [u])).push (PySem.HandSPX.excO C hp.objs.size)).get? b = some o := fun b o e => Heap.get?_push_of_some _ (Heap.get?_push_of_some _ e)
  have hget : ((hp.push (PySem.W.kdv_tup [u])).push (PySem.HandSPX.excO C hp.objs.size)).get? (hp.objs.size + 1) = some (PySem.HandSPX.excO C hp.objs.size) := by heap_get
  have hne : hp.get? (hp.objs.size + 1) = none := by
    cases z : hp.get? (hp.objs.size + 1) with
    | none => rfl
    | some o => exact absurd (Heap.lt_size z) (Nat.not_lt.mpr (Nat.le_succ _))
  have bsz : hp.objs.size ≤ ((hp.push (PySem.W.kdv_tup [u])).push (PySem.HandSPX.excO C hp.objs.size)).objs.size := by
    exact Nat.le_trans (Nat.le_succ _) (Nat.le_of_lt (Heap.lt_size hget))
  obtain ⟨mb, hbn, hbb⟩ := I1.mod.blt
  refine wpAny_call (PySem.HandSPX.call_own F.excBase_ValueError (fun Y => PySem.HandSPX.refsVE_contains Y bm hbm) (I1.kIn _ _ hC) (PySem.W.looks_findIn I1.kIn iC) (fun self => PySem.W.bind_fn I1.kIn self tI) (by show 1 ≤ sizeLine; decide)
    (text_init (hp := hp) (t0 := hp.objs.size) (mg := X.mg) (mb := mb) T pl hev hpar har h1 h2 h3 h4 hk hco hgen hcell htop (fun fd hfd => hbind fd hfd _ _ _) (hr.make C [u] []).depth I1.kIn kk bsz hget hne (I1.mod.glob.keeps I1.bk) hsup (hbn.keeps I1.bk) ((hbb _ (by decide)).trans (by kernel_rfl)) I1.nolimit hms
      (fun h' t' dx u1 kh hx hdx dne hn => ?_)))
  obtain ⟨G, g1, g2⟩ := restrict h' fun b => decide (b ≠ hp.objs.size + 1)
  have gk : ∀ b, b ≠ hp.objs.size + 1 → G.get? b = h'.get? b := fun b hb => g1 b (decide_eq_true hb)
  have ge : G.get? (hp.objs.size + 1) = none := g2 _ (by simp)
  have hd1 : H1 dx = none := I1.hok.gone hdx
  have J : Inv X pins σ (upd H1 dx (.xd [(Str.ofString "place", v)])) ⟨G, g, dr, t', os⟩ := by
    refine I1.laidN (t' := t') (h' := G) (fun b o z => ?_) hdx hd1 ?_
    · rw [gk b (fun y => by rw [y, hne] at z; cases z)]
      exact kh b o z
    · exact ⟨_, hn.at fun o y => (gk dx dne).trans y, relO_put (fs := []) ru fun g => True.intro⟩
  exact ⟨rfl, hp.objs.size + 1, _, _, ⟨G, g, dr, t', os⟩, _, .ref C, some dx, rfl, J, (fun b o z => by
    by_cases hb : b = hp.objs.size + 1
    · rw [hb, ge] at z; cases z
    · exact (gk b hb).symm.trans z), ge, hx, ⟨rfl, rfl⟩, rfl, rfl, by rw [upd_ne (Ne.symm dne)]; exact I1.hok.gone hne, rfl, I1.bare, raises_own T.ox.exC T.ox.tyC, q1 dx hd1⟩
end
end DL

/-! The data layer: raise X(e), X an own exception with a place. -/
namespace DL
open PySem PySem.Spec L2 PyProof.Rows
/-! ### the text's part by a Bool -/
def oexB (K : PySem.W.Frag) (C : Addr) : Bool := match K.lookup C with
  | some ⟨.type t, _, .cls cd, sl⟩ => (match cd.mro, sl.toList with
    | .ref C' :: bm, [_, _, _, _, some (.builtin n), _] => decide (t = "type") && (decide (C' = C) && (decide (n = "ValueError.__new__") && (cd.hasDict && (!cd.hasDel && PySem.HandSPX.refsVE bm))))
    | _, _ => false)
  | _ => false
theorem oexB_ok {K : PySem.W.Frag} {C : Addr} (h : oexB K C = true) : ∃ nm q N bs bm sn sub ab col dd k0 k1 k2 k3 k5, K.lookup C = some (excClassObj nm q C N bs bm true sn sub ab col dd k0 k1 k2 k3 k5 "ValueError.__new__") ∧ PySem.HandSPX.refsVE bm = true := by
  unfold oexB at h
  split at h
  · rename_i t dd cd sl hl
    split at h
    · rename_i C' bm k0 k1 k2 k3 n k5 hm hs
      simp only [Bool.and_eq_true, decide_eq_true_eq, Bool.not_eq_true'] at h
      obtain ⟨e1, e2, e3, e4, e5, e6⟩ := h
      subst e1 e2 e3
      obtain ⟨nm, bs, mro, ns, qn, hd, sn, sb, ab, col, del⟩ := cd
      dsimp only at hm e4 e5
      subst hm e4 e5
      refine ⟨nm, qn, ns, bs, bm, sn, sb, ab, col, dd, k0, k1, k2, k3, k5, ?_, e6⟩
      rw [hl]
      have : sl = #[k0, k1, k2, k3, some (.builtin "ValueError.__new__"), k5] := by
        rw [← Array.toArray_toList (xs := sl), hs]
      rw [this]
    · cases h
  · cases h
/-- C's facts; fI its __init__; file the text's file; qual the qualified name -/
def iniB (K : PySem.W.Frag) (C fI : Addr) (file qual : Str) : Bool :=
  (match K.lookup fI with
    | some ⟨_, _, .func fd, _⟩ => (match fd.closure, fd.code with
      | [(_, cc)], .ref cda => (PySem.W.codeIn K (.ref cda) qual && (match fd.defaults with
          | .none => true
          | _ => false)) && ((match K.lookup cda with
          | some ⟨_, _, .fields vs, _⟩ => (match (vs[2]? : Option Value) with
            | some (Value.str f _) => decide (f = file)
            | _ => false)
          | _ => false) && (match K.lookup cc with
          | some ⟨_, _, .cell (some (.ref D)), _⟩ => decide (D = C)
          | _ => false))
      | _, _ => false)
    | _ => false) && (decide (PySem.W.nsIn K cStatics "thirdparty.any" = some none) && (decide (PySem.W.ks_superIn K C C "__init__" = some (some (.builtin "ValueError.__init__"))) && (decide (PySem.W.subIn K (.ref C) (.type "ValueError") = some true) &&
  (decide (PySem.W.mroIn K C (.ref C) = some true) && (PySem.W.excInitIn K C [.type "ValueError", .type "Exception", .type "BaseException", .type "object"] "ValueError.__new__" && (oexB K C && (decide (PySem.W.findIn K (.ref C) "__setattr__" = some (some (.builtin "object.__setattr__"))) &&
  (decide (PySem.W.subIn K (.ref C) (.type "BaseException") = some true) && (decide (PySem.W.typeIn K (.ref C) = some (.type "type")) && (PySem.W.keepIn K (.ref C) && (decide (PySem.W.findIn K (.ref C) "place" = some none) && (decide (PySem.W.findIn K (.ref C) "__init__" = some (some (.ref fI))) && decide (PySem.W.typeIn K (.ref fI) = some (.type "function"))))))))))))))
theorem ini_of {prog : Program} {K : PySem.W.Frag} {C fI : Addr} {file qual : Str} {params : Arguments} {body : List Stmt} {scope : Scope} (h : iniB K C fI file qual = true) (hf : ((prog.main.file : Str) == file) = true)
    (hc : (match K.lookup fI with
      | some ⟨_, _, .func fd, _⟩ => some (fd.name, fd.qualname, fd.params, fd.body, fd.scope, fd.globals, fd.closure.map (·.1), fd.builtins)
      | _ => none) = (some ("__init__", qual, params, .stmts body, scope, mainGlobals, ["__class__"], builtinsNs) : FnC)) :
    TIni prog K C fI qual params body scope ∧ PySem.W.findIn K (.ref C) "__init__" = some (some (.ref fI)) ∧ PySem.W.typeIn K (.ref fI) = some (.type "function") := by
  unfold iniB at h
  simp only [Bool.and_eq_true, decide_eq_true_eq] at h
  obtain ⟨h0, h1, h2, h3, h4, h5, h6, h7, h8, h9, h10, h11, h12, h13⟩ := h
  refine ⟨⟨?_, h1, h2, h3, h4, h5, ⟨oexB_ok h6, h7, h8, h9, h10⟩, h11⟩, h12, h13⟩
  cases q : K.lookup fI with
  | none => rw [q] at hc; cases hc
  | some o =>
    obtain ⟨oc, od, dt, osl⟩ := o
    rw [q] at hc h0
    cases dt with
    | func fd =>
      obtain ⟨n1, n2, n3, n4, n5, n6, n7, n8, n9, n10, n11, n12, n13, n14, n15⟩ := fd
      simp only [Option.some.injEq, Prod.mk.injEq] at hc
      obtain ⟨c1, c2, c3, c4, c5, c6, c7, c8⟩ := hc
      subst c1 c2 c3 c4 c5 c6 c8
      dsimp only at h0
      split at h0
      · rename_i _ _ nm cc cda
        have en : nm = ("__class__" : Str) := by
          have z := c7
          simp only [List.map_cons, List.map_nil, List.cons.injEq, and_true] at z
          exact z
        subst en
        obtain ⟨k01, k23⟩ := Bool.and_eq_true_iff.mp h0
        obtain ⟨k2, k3⟩ := Bool.and_eq_true_iff.mp k23
        obtain ⟨k1, k0⟩ := Bool.and_eq_true_iff.mp k01
        have ed : n8 = Value.none := by
          cases n8 <;> first | rfl | cases k0
        subst ed
        split at k2
        · rename_i ccl cdd vs ccs e3
          split at k2
          · rename_i f tf e4
            have e5 := of_decide_eq_true k2
            subst e5
            split at k3
            · rename_i cl cld D csl e6
              have e7 := of_decide_eq_true k3
              subst e7
              exact ⟨oc, od, n9, n10, n11, n12, cda, n14, osl, cc, ccl, cdd, vs, ccs, f, tf, cl, cld, csl, rfl, k1, e3, e4, hf, e6⟩
            · cases k3
          · cases k2
        · cases k2
      · cases h0
    | _ => cases hc
/-! ### the rule -/
def sraiseT (x : Str) (ts : TDL) : TDS := fun D σ M => ts σ M (fun ds M1 => match ds with
  | [d] => D.ex ⟨x, [d]⟩ σ M1
  | _ => False) (fun x M1 => D.ex x σ M1)
/-- all that raise x(e) asks of the text -/
structure TextX (prog : Program) (K : PySem.W.Frag) (x : Str) : Prop where
  ex : ∃ (fI : Addr) (qual : Str) (params : Arguments) (scope : Scope) (q0 q1 q2 q3 q4 q5 q6 q7 q8 q9 : Pos) (msg : Str) (j : Nat) (ar : Arg) (pl : Env → Sem Bool), TIni prog K (He.ga K x) fI qual params (iniBody q0 q1 q2 q3 q4 q5 q6 q7 q8 q9 msg j) scope ∧
    PySem.W.findIn K (.ref (He.ga K x)) "__init__" = some (some (.ref fI)) ∧ PySem.W.typeIn K (.ref fI) = some (.type "function") ∧
    (∀ env : Env, eval (.Call (.Attribute (.Call (.Name "super" q0) [] [] q1) "__init__" q2) [.Constant (.str msg) j q3] [] q4) env = (do
      let ov ← attributeBase (.Call (.Name "super" q0) [] [] q1) "__init__" env (eval (.Call (.Name "super" q0) [] [] q1) env)
      standAt q2.atName
      let (f, first) ← holding [ov] (getMethod ov "__init__" (pl env))
      callWith q4 f first (backTo q4 (starEach [.Constant (.str msg) j q3] env)) [])) ∧
    (params.posonlyargs ++ params.args).head? = some ar ∧ ar.arg = "self" ∧ scope.names.lookup ("super" : Str) = some .globalImplicit ∧ scope.names.lookup ("__class__" : Str) = some .free ∧ scope.names.lookup ("self" : Str) = some .local ∧ scope.names.lookup ("place" : Str) = some .local ∧
    scope.kind = .function ∧ scope.isCoroutine = false ∧ scope.isGenerator = false ∧ (∀ y ∈ scope.names, y.2 ≠ .cell) ∧ (prog.main.scope.names.lookup ("super" : Str)).isSome = false ∧ msg.length ≤ sizeLine ∧
    (∀ fd : FuncData, (K.lookup fI).map (·.data) = some (.func fd) → ∀ (s : Shared) (e pv : Value), BindsTo s fd ⟨[e, pv], []⟩ [("self", e), ("place", pv)])
theorem s_raiseT {X : Cx} {W : WX} {x : Str} {e : Expr} {ts : TDL} {p cp pos : Pos} {k : Nat} (hc : X.calm = true) (F : TextX X.prog X.K x) (hr : Room (k + 1) X.A) (tk : Takes X W) (hsup : X.mg "super" = none) (gC : X.mg x = some (.ref (He.ga X.K x))) (hg : Gl X x) (ha : DA X W [e] ts)
    (hdb : (x == ("__debug__" : Str)) = false := by decide) (he : starEach [e] X.env = (false, eval e X.env) :: starEach [] X.env := by rfl) : DS X W (.Raise (some (.Call (.Name x p) [e] [] cp)) none pos) (sraiseT x ts) := by
  obtain ⟨fI, qual, params, scope, q0, q1, q2, q3, q4, q5, q6, q7, q8, q9, msg, j, ar, pl, T, iC, tI, hev, hpar, har, h1, h2, h3, h4, hk, hco, hgen, hcell, htop, hms, hbind⟩ := F.ex
  refine ps_imp (ps_raise hc tk (pmk_text T iC tI pl hev hpar har h1 h2 h3 h4 hk hco hgen hcell htop hms hbind hr hsup hg gC ha hdb he)) fun σv H Dv h => ?_
  obtain ⟨HI, σ, M, Dd, ok, re, h, r⟩ := h
  refine ⟨HI, σ, M, _, _, ok, re, h, fun vs H1 ⟨HI1, M1, ds, s1, ok1, r1, h1⟩ => ?_, r.ex HI σv H σ M .refl re⟩
  simp only at h1
  split at h1
  · rename_i d
    cases r1 with
    | cons rv rr =>
      cases rr
      refine ⟨_, rfl, fun dx hdx => ?_⟩
      obtain ⟨ok2, sm2⟩ := ok1.newI (o := .xd [(Str.ofString "place", _)]) hdx
      exact r.ex HI1 σv H1 σ M1 s1 (re.up s1.sm) _ _ _ ⟨_, M1, ⟨x, [d]⟩, .newI (ok1.free hdx).1 hdx, ok2, ⟨rfl, _, d, upd_same, rfl, rv.up sm2⟩, h1⟩
  · exact h1.elim
end DL
namespace DL
open PySem PySem.Spec L2
/-- an own class's name as a value -/
theorem d_kls {X : Cx} {W : WX} {pos : Pos} {x : Str} (hm : X.mg x = some (.ref (He.ga X.K x))) (hg : Gl X x) (hd : (x == ("__debug__" : Str)) = false := by decide) : DE X W (.Name x pos) (tk (.kls x)) :=
  d_glob hg hm (v := .ref (He.ga X.K x)) rfl (fun H => .kls x) hd
end DL
namespace DL
open PySem
/-- a class's statements -/
def clsStmts : Stmt → List Stmt
  | .ClassDef (body := b) .. => b
  | _ => []
end DL

/-! The data layer: x.replace('a', 'b'): rules that carry that a token was given out. -/
namespace DL
open PySem PySem.Spec L2 PyProof.Rows
abbrev DET (X : Cx) (W : WX) (e : Expr) (t : TD) : Prop := PET X e (upE X.K W t)
abbrev DAT (X : Cx) (W : WX) (es : List Expr) (t : TDL) : Prop := PAT X es (upL X.K W t)
abbrev DST (X : Cx) (W : WX) (st : Stmt) (t : TDS) : Prop := PST X st (upS X.K W t)
abbrev DSsT (X : Cx) (W : WX) (st : List Stmt) (t : TDS) : Prop := PSsT X st (upS X.K W t)
theorem pet_imp {X : Cx} {e : Expr} {t t' : TE} (h : PET X e t) (k : ∀ σ H Q, t' σ H Q → t σ H Q) : PET X e t' := fun pins s σ H Q h0 I q => h pins s σ H Q h0 I (k σ H Q q)
theorem pat_imp {X : Cx} {e : List Expr} {t t' : TA} (h : PAT X e t) (k : ∀ σ H Q, t' σ H Q → t σ H Q) : PAT X e t' := fun p pins s σ H Q h0 I q => h p pins s σ H Q h0 I (k σ H Q q)
theorem pst_imp {X : Cx} {e : Stmt} {t t' : TS} (h : PST X e t) (k : ∀ σ H Q, t' Q σ H → t Q σ H) : PST X e t' := fun pins s σ H Q h0 I q => h pins s σ H Q h0 I (k σ H Q q)
theorem psst_imp {X : Cx} {e : List Stmt} {t t' : TS} (h : PSsT X e t) (k : ∀ σ H Q, t' Q σ H → t Q σ H) : PSsT X e t' := fun pins s σ H Q h0 I q => h pins s σ H Q h0 I (k σ H Q q)
section
variable {X : Cx} {W : WX} {st : Stmt} {rest : List Stmt} {t u : TDS} {e a b : Expr} {es : List Expr} {te ta tb' : TD} {ts : TDL} {pos : Pos}
theorem e_T (h : DE X W e te) : DET X W e te := CwR.PET.of h
theorem st_T (h : DS X W st t) : DST X W st t := PST.of h
theorem sT_cons (h1 : DST X W st t) (h2 : DSsT X W rest u) : DSsT X W (st :: rest) (sseq t u) := psst_imp (psst_cons h1 h2) fun σv H Dv h => by
  obtain ⟨HI, σ, M, Dd, ok, re, h, r⟩ := h
  exact ⟨HI, σ, M, _, ok, re, h, ⟨fun HI' σv' H' σ' M' s ok' re' q => ⟨HI', σ', M', Dd, ok', re', q, r.up s⟩, r.rt, r.bk, r.ct, r.ex⟩⟩
theorem sT_of (h : DSs X W rest t) : DSsT X W rest t := PSsT.of h
theorem sT_one (h1 : DST X W st t) : DSsT X W [st] t := by
  intro pins s σ H D h0 I h
  refine wpAny_execs_cons (thn (h1 pins s σ H D h0 I h) fun f s1 q => ?_)
  cases f with
  | next => exact wpAny_execs_nil q
  | ret v => exact q
  | brk => exact q
  | cont => exact q
theorem dT_cons (ha : DET X W e te) (hr : DAT X W es ts) (hs : starEach (e :: es) X.env = (false, eval e X.env) :: starEach es X.env := by rfl) : DAT X W (e :: es) (ac te ts) := pat_imp (pat_cons ha hr hs) fun σv H Qv h => by
  obtain ⟨HI, σ, M, Q, E, ok, re, h, k, we⟩ := h
  refine ⟨HI, σ, M, _, E, ok, re, h, fun v H1 ⟨HI1, M1, d1, s1, ok1, r1, h1⟩ => ?_, we⟩
  exact ⟨HI1, σ, M1, _, E, ok1, re.up s1.sm, h1, fun vs H2 ⟨HI2, M2, d2, s2, ok2, r2, h2⟩ => k _ _ ⟨HI2, M2, _, s1.trans s2, ok2, .cons (r1.up s2.sm) r2, h2⟩, we.up s1⟩
theorem dT_nil : DAT X W [] a0 := fun p pins s σ H Q _ I q => d_nil.run p pins s σ H Q I q
theorem dT_lst (h : DAT X W es ts) : DET X W (.List es pos) (dlst ts) := pet_imp (pet_lst h) fun σv H Qv h => by
  obtain ⟨HI, σ, M, Q, E, ok, re, h, k, we⟩ := h
  refine ⟨HI, σ, M, _, E, ok, re, h, fun v H1 ⟨HI1, M1, d1, s1, ok1, r1, h1⟩ => ?_, we⟩
  exact ⟨by rw [r1.len]; exact h1.1, fun p hp => k _ _ (low.of s1 (.lst ok1 r1 hp h1.2))⟩
theorem dT_bin {op : Operator} {r : R2} {rd : RD2} (ho : OpR X (binaryOp op) r) (hr : OpD X.K r rd) (ha : DET X W a ta) (hb : DET X W b tb') : DET X W (.BinOp a op b pos) (to2 rd ta tb') := pet_imp (CwR.pet_op ho ha hb) (up2 hr)
/-- x.replace('a', 'b') -/
def trepl (y z : Str) (t : TD) : TD := fun σ M Q E => t σ M (fun x M1 => match x with
  | .str a => a.length + (a.length + 1) * z.length ≤ 16777216 ∧ Q (.str (Txt.replace a y z)) M1
  | _ => False) E
theorem d_repl {o : Expr} {to : TD} {y z : Str} {j k : Nat} {c0 c1 apos : Pos} (ho : DE X W o to) (hyz : (y == z) = false := by decide)
    (hst : starEach [.Constant (.str y) j c0, .Constant (.str z) k c1] X.env = [(false, eval (.Constant (.str y) j c0) X.env), (false, eval (.Constant (.str z) k c1) X.env)] := by rfl)
    (hbase : attributeBase o "replace" X.env (eval o X.env) = eval o X.env := by rfl) (hline : (apos.endLine == pos.line) = true := by rfl) :
    DET X W (.Call (.Attribute o "replace" apos) [.Constant (.str y) j c0, .Constant (.str z) k c1] [] pos) (trepl y z to) := pet_imp (CwR.pet_replC ho hyz hst hbase hline) fun σv H Qv h => by
  obtain ⟨HI, σ, M, Q, E, ok, re, h, k, we⟩ := h
  refine ⟨HI, σ, M, _, E, ok, re, h, fun v H1 ⟨HI1, M1, d1, s1, ok1, r1, h1⟩ => ?_, we⟩
  cases r1 with
  | str a => exact ⟨a, rfl, h1.1, k _ _ ⟨HI1, M1, _, s1, ok1, .str _, h1.2⟩⟩
  | _ => exact h1.elim
/-- name = e -/
theorem sT_set {i : Nat} {x : Str} {pos' : Pos} (hN : X.N.Nodup) (hi : X.N[i]? = some x) (hx : Loc X.env.scope x) (he : DET X W e te) (hs : swapsWith e (some (.Name x pos')) pos.line X.env = pure false := by rfl) (hf : X.fn x = true ∨ X.env.scope.names.lookup x = some .local := by first | exact .inl rfl | exact .inr rfl | assumption) :
    DST X W (.Assign [.Name x pos'] e pos) (sasg te (gn i)) := by
  intro pins s σv H Dv h0 I h
  obtain ⟨HI, σ, M, Dd, ok, re, h, r⟩ := h
  refine wpAny_Assign_Name (thn (he pins s σv H _ h0 I ⟨HI, σ, M, _, _, ok, re, h, fun v H' z => z, r.ex HI σv H σ M .refl re⟩) fun u s1 hq => ?_) hs
  obtain ⟨v, H1, I1, rv, HI1, M1, d1, s1', ok1, r1, h1⟩ := hq
  refine store_ok I1 hN hi hx rv (fun s2 I2 => ?_) hf
  exact ⟨_, _, I2, r.nx HI1 _ H1 _ M1 s1' ok1 ((re.up s1'.sm).set r1 i) h1⟩
end
section
variable {X : Cx} {W : WX} {pos : Pos}
theorem thnT {α : Type} {M : Model} {A : Around} {t : Sem α} {Q Q' : α → Shared → Prop} {E : Value → Shared → Prop} {s : Shared} (h0 : 1 ≤ s.toks) (h : wpAny M A t Q E s) (k : ∀ a s', 1 ≤ s'.toks → Q a s' → Q' a s') : wpAny M A t Q' E s :=
  wpAny_mono (PySem.wpAny_toks_of h0 h) (fun a s' q => k a s' q.1 q.2) fun _ _ z => z.2
/-- for, a token out, its body too -/
theorem pst_forT {tg iter : Expr} {body : List Stmt} {wi : TI} {g : TG} {tb : TS} (hp : PassesOwn (model X.prog X.w) X.A X.env X.xe) (hc : X.calm = true) (hi : PI X tg iter wi) (hg : PG X tg g) (hb : PSsT X body tb)
    (hs : ∀ x, foldedSetIterable iter X.env x = pure x := by intro _; rfl) : PST X (.For tg iter body [] pos) (tFor wi g tb) := by
  intro pins s σ H D h0 I h
  refine wpAny_For (thnT h0 (hi.run pins s σ H _ I h) fun v s1 t1 h1 => thnT t1 h1 fun itv s2 t2 h2 => ?_) hs
  obtain ⟨it, fp, tn, J, H2, e, I2, T, st2, f2, W, ⟨m0, w0⟩, turn⟩ := h2
  subst e
  have stat : ∀ {H' : Hp}, (∀ b ∈ fp, H' b = none) → ∀ b ∈ fp, FpOk X pins H' b := fun hn b hb => ⟨hn b hb, (f2 b hb).2⟩
  refine codeAny_forLoop_any (fun n s' => 1 ≤ s'.toks ∧ ∃ i σ' H', Inv X pins σ' H' s' ∧ tn i s'.heap ∧ (∀ b ∈ fp, H' b = none) ∧ W i n σ' H') ?_ m0 ⟨t2, 0, σ, H2, I2, st2, fun b hb => (f2 b hb).1, w0⟩
  rintro n s3 ⟨t3, i, σ3, H3, I3, st3, fr3, w3⟩
  rcases turn i n σ3 H3 w3 with ⟨stop, qn⟩ | ⟨go, N, hN, step⟩
  · refine wpAny_passesOwn hp (thn (T.done X rfl rfl rfl hc i pins s3 σ3 H3 X.xe I3 (stat fr3) st3 stop) fun r s4 ⟨hr, I4⟩ => ?_)
    subst hr
    exact wpAny_execs_nil ⟨σ3, H3, I4, qn⟩
  · refine wpAny_passesOwn hp (thnT t3 (T.item X rfl rfl rfl hc i pins s3 σ3 H3 X.xe I3 (stat fr3) st3 go) fun r s4 t4 ⟨u, hr, h4⟩ => ?_)
    subst hr
    refine wpAny_passesOwn hp (thnT t4 h4 fun _ s5 t5 ⟨x, H5, I5, r5, y5, st5, fr5⟩ => ?_)
    have I5' := I5.pinned (stat fr5) (T.obj _ _ st5)
    refine wpAny_passesOwn hp (thnT t5 (hg.run _ s5 σ3 H5 x u _ I5' r5 (step x H5 y5)) fun _ s6 t6 ⟨σ6, H6, I6, q6⟩ => ?_)
    refine wpAny_passesOwn hp (thnT t6 (hb _ s6 σ6 H6 _ t6 I6 q6) fun f s7 t7 q7 => ?_)
    have again : ∀ {σ7 : L2.St} {H7 : Hp}, Inv X (pins ++ pinsAt fp s5.heap) σ7 H7 s7 → N σ7 H7 → ∃ m, m < n ∧ (1 ≤ s7.toks ∧ ∃ i σ' H', Inv X pins σ' H' s7 ∧ tn i s7.heap ∧ (∀ b ∈ fp, H' b = none) ∧ W i m σ' H') := fun {σ7 H7} I7 n7 => by
      obtain ⟨m', hm, w7⟩ := hN σ7 H7 n7
      refine ⟨m', hm, t7, i + 1, σ7, H7, I7.unpinned, T.keep _ _ _ st5 fun b hb o e => (I7.pin (b, o) (List.mem_append_right _ (List.mem_append_right _ (mem_pinsAt hb e)))).1, fun b hb => ?_, w7⟩
      obtain ⟨o, e, d⟩ := T.obj _ _ st5 b hb
      exact (I7.pin (b, o) (List.mem_append_right _ (List.mem_append_right _ (mem_pinsAt hb e)))).2.1
    cases f with
    | next => obtain ⟨σ7, H7, I7, n7⟩ := q7; exact again I7 n7
    | cont => obtain ⟨σ7, H7, I7, n7⟩ := q7; exact again I7 n7
    | brk => obtain ⟨σ7, H7, I7, q7⟩ := q7; exact ⟨σ7, H7, I7.unpinned, q7⟩
    | ret v => obtain ⟨x7, σ7, H7, I7, r7, q7⟩ := q7; exact ⟨x7, σ7, H7, I7.unpinned, r7, q7⟩
end
section
variable {X : Cx} {W : WX} {pos : Pos}
theorem sT_for {tg iter : Expr} {body : List Stmt} {wi : TDI} {g : TDG} {tb : TDS} (vs : List Nat) (hp : PassesOwn (model X.prog X.w) X.A X.env X.xe) (hc : X.calm = true) (hi : DI X W tg iter wi) (hg : DG X vs tg g) (hb : DSsT X W body tb)
    (hs : ∀ x, foldedSetIterable iter X.env x = pure x := by intro _; rfl) : DST X W (.For tg iter body [] pos) (sfor wi g tb) := pst_imp (pst_forT hp hc hi hg hb hs) (upfor vs)
/-- name = ['..', ..]: a token is out from here on -/
theorem s_listT {i : Nat} {x c : Str} {j : Nat} {cp lp pos' : Pos} {es : List Expr} {ts : TDL} {rest : List Stmt} {u : TDS} (hN : X.N.Nodup) (hi : X.N[i]? = some x) (hx : Loc X.env.scope x) (ha : DA X W es ts) (h2 : DSsT X W rest u)
    (hst : starEach (.Constant (.str c) j cp :: es) X.env = (false, eval (.Constant (.str c) j cp) X.env) :: starEach es X.env := by rfl)
    (hs : swapsWith (.List (.Constant (.str c) j cp :: es) lp) (some (.Name x pos')) pos.line X.env = pure false := by rfl) (hf : X.fn x = true ∨ X.env.scope.names.lookup x = some .local := by first | exact .inl rfl | exact .inr rfl | assumption) :
    DSs X W (.Assign [.Name x pos'] (.List (.Constant (.str c) j cp :: es) lp) pos :: rest) (sseq (sasg (dlst (ac (tk (.str c)) ts)) (gn i)) u) := by
  refine ⟨fun pins s σv H Dv I h => ?_⟩
  obtain ⟨HI, σ, M, Dd, ok, re, h, r⟩ := h
  refine wpAny_execs_cons (wpAny_Assign_Name (wpAny_List_spliced ?_) hs)
  rw [hst]
  show wpAny _ _ (spliced ((false, eval (.Constant (.str c) j cp) X.env) :: backTo lp (starEach es X.env))) _ _ s
  refine Calls.spliced_cons (Calls.Constant_str ?_)
  refine thnT (Nat.succ_le_succ (Nat.zero_le _)) (ha.run lp pins { s with toks := s.toks + 1 } σv H _ (I.tok _) ⟨HI, σ, M, _, _, ok, re, h, fun v H' z => z, r.ex HI σv H σ M .refl re⟩) fun us s1 t1 hq => ?_
  obtain ⟨vs, H1, I1, rv, HI1, M1, ds, s1', ok1, r1, h1, h3⟩ := hq
  have r1' : RepL X.K HI1 (V.str c :: vs) (D.str c :: ds) := .cons (.str c) r1
  have rv' : Vals (V.str c :: vs) (Value.str c s.toks :: us) := .cons ⟨_, rfl⟩ rv
  have hz : (V.str c :: vs).length ≤ sizeLine := by rw [r1'.len]; exact h1
  refine ⟨by rw [← rv'.length]; exact hz, ?_⟩
  have hfr : H1 s1.heap.objs.size = none := I1.hok.fresh (Nat.le_refl _)
  obtain ⟨HI2, M2, d2, st2, ok2, r2, q2⟩ := low.lst (Q := fun d M' => u Dd (σ.set i (some d)) M') ok1 r1' hfr h3
  have I2 : Inv X pins σv (upd H1 s1.heap.objs.size (.lst (V.str c :: vs))) { s1 with heap := s1.heap.push { cls := .type "list", data := .seq (Value.str c s.toks :: us).toArray 0 } } :=
    I1.laid (t' := s1.toks) (fun b u e => Heap.get?_push_of_some _ e) (Nat.le_refl _) ⟨hz, _, 0, rv', Heap.get?_push_size _ rfl⟩
  refine thnT t1 (store_ok (v := V.ref s1.heap.objs.size) (Q := fun _ s2 => Inv X pins (σv.set i (some (V.ref s1.heap.objs.size))) (upd H1 s1.heap.objs.size (.lst (V.str c :: vs))) s2) I2 hN hi hx rfl (fun _ I3 => I3) hf) fun _ s2 t2 I3 => ?_
  have st := s1'.trans st2
  exact h2 pins s2 _ _ Dv t2 I3 ⟨HI2, _, M2, Dd, ok2, (re.up st.sm).set r2 i, q2, r.up st⟩
end
section
variable {X : Cx} {W : WX}
/-- xs[::-1] -/
def trevL (t : TD) : TD := fun σ M Q E => t σ M (fun x M1 => match x with
  | .lst ds => Q (.lst ds.reverse) M1
  | _ => False) E
theorem d_revL {e : Expr} {te : TD} {k : Nat} {p1 p2 p3 pos : Pos} (he : DE X W e te) : DE X W (.Subscript e (.Slice none none (some (.UnaryOp .USub (.Constant (.int 1) k p1) p2)) p3) pos) (trevL te) := pe_imp (pe_revL he) fun σv H Qv h => by
  obtain ⟨HI, σ, M, Q, E, ok, re, h, k, we⟩ := h
  refine ⟨HI, σ, M, _, E, ok, re, h, fun v H1 ⟨HI1, M1, d1, s1, ok1, r1, h1⟩ => ?_, we⟩
  cases r1 with
  | lst al rl => exact ⟨_, _, rfl, (al.up ok1.same).sq, fun p hp => k _ _ (low.of s1 (.lst ok1 rl.rev hp h1))⟩
  | _ => exact h1.elim
end
end DL

/-! The data layer: what may be called; instances of the text's own classes. -/
namespace DL
open PySem PySem.Spec L2 PyProof.Rows

/-! ### what may be called -/
/-- positional values, then the keywords ks -/
def FnQ (P : Program) (w : World) (K : PySem.W.Frag) (mg : Str → Option Value) (base : Heap) (k : Nat) (f : Addr) (ks : List Str) (sp : SpD) : Prop :=
  ∀ (A : Around) (outer : List Env) (s : Shared) (H : Hp) (us ws : List Value) (vs : List V) (Q : VK) (E : XK), Rm k A → Env0 P w K mg base A outer s H → Vals vs (us ++ ws) → ws.length = ks.length → lift K sp vs H Q E →
    codeAny (model P w) A (.call (.ref f) ⟨us, ks.zip ws⟩) (CR (L2.CX P w) outer P w H s Q E) s
section
variable {P : Program} {w : World} {K : PySem.W.Frag} {mg : Str → Option Value} {base : Heap} {k j n : Nat} {f : Addr} {ps ks : List Str} {ix : List Nat} {sp sp' : SpD}
theorem FnQ.mono (F : FnQ P w K mg base j f ks sp) (h : j ≤ k) : FnQ P w K mg base k f ks sp := fun A outer s H us ws vs Q E hr => F A outer s H us ws vs Q E (hr.mono h)
theorem FnQ.imp (F : FnQ P w K mg base k f ks sp) (h : ∀ ds M Q E, sp' ds M Q E → sp ds M Q E) : FnQ P w K mg base k f ks sp' :=
  fun A outer s H us ws vs Q E hr e0 r hl ⟨HI, M, ds, Qd, Ed, ok, rl, q, kq⟩ => F A outer s H us ws vs Q E hr e0 r hl ⟨HI, M, ds, Qd, Ed, ok, rl, h _ _ _ _ q, kq⟩
theorem FnG.c (F : FnG P w K mg base k f ps sp) (hb : Binds K (fdAt K f) ps []) : FnQ P w K mg base k f [] sp := by
  intro A outer s H us ws vs Q E hr e0 r hl h
  have e : ws = [] := List.eq_nil_of_length_eq_zero hl
  subst e
  rw [List.append_nil] at r
  have KX : K.In s.heap := e0.mod.kin.keeps fun b o e => (e0.bs b o e).1
  have hl2 : us.length = ps.length := by rw [← r.length]; exact lift_len F.len h
  have b := hb s us KX (by rw [List.append_nil]; exact hl2)
  rw [List.append_nil] at b
  exact F.run A outer s H ⟨us, []⟩ us vs Q E hr e0 b r h
theorem FnG.ck (F : FnG P w K mg base k f ps sp) (hb : KB K f ps n ks ix) (hix : ∀ i ∈ ix, i < n + ks.length) : FnQ P w K mg base k f ks (fun ds M Q E => ds.length = n + ks.length ∧ sp (ro D.non ix ds) M Q E) := by
  intro A outer s H us ws vs Q E hr e0 r hl ⟨HI, M, ds, Qd, Ed, ok, rl, ⟨hn, q⟩, kq⟩
  have lv : vs.length = n + ks.length := by rw [rl.len]; exact hn
  have lu : us.length = n := by
    have := r.length
    rw [lv, List.length_append, hl] at this
    omega
  exact F.run A outer s H ⟨us, ks.zip ws⟩ (ro Value.none ix (us ++ ws)) (ro V.non ix vs) Q E hr e0 (hb s us ws lu hl) (ro_vals r ix fun i hi => by rw [lv]; exact hix i hi)
    ⟨HI, M, _, Qd, Ed, ok, ro_rep rl ix fun i hi => by rw [lv]; exact hix i hi, q, kq⟩
end
/-- def f(a, .., *v): n parameters ahead -/
def starSp (n : Nat) (sp : SpD) : SpD := fun ds M Q E => ∃ ws rest, ds = ws ++ rest ∧ ws.length = n ∧ rest.length ≤ sizeLine ∧ sp (ws ++ [.tup rest]) M Q E
theorem starSp_2 {sp : SpD} {a b : D} {rest : List D} {M : MM} {Q : DK} {E : EK} (h : rest.length ≤ sizeLine ∧ sp [a, b, .tup rest] M Q E) : starSp 2 sp (a :: b :: rest) M Q E := ⟨[a, b], rest, rfl, rfl, h.1, h.2⟩
/-- its rule -/
theorem fn_starG {P : Program} {w : World} {K : PySem.W.Frag} {mg : Str → Option Value} {base : Heap} {x qual pv : Str} {st : Stmt} {f : Addr} {N ps : List Str} {k : Nat} {sp : SpD} {t : TDS} (F : FunK K x qual st f) (S : FnScope N (ps ++ [pv]) (defScope st))
    (hbd : ∀ (kV doc pm : Value) (an : Option Addr) (cdv ct : Value) (us rest : List Value), us.length = ps.length → bindArgs (PySem.W.fnOf x qual (defArgs st) (defBody st) (defScope st) .none kV doc pm an cdv ct) ⟨us ++ rest, []⟩ = (newTuple rest >>= fun t => pure (ps.zip us ++ [(pv, t)])))
    (hb : ∀ (cdv : Value) (A : Around) (outer : List Env) (s : Shared) (H : Hp) (E : XK), Rm k (A.deeper (PyProof.Rows.envOfC qual (defScope st) s.heap.objs.size f cdv)) →
      DSs (bcx P w K mg base N qual st f cdv A outer s H E) (fun c d _ H' => E c d H') (defBody st) t)
    (hq : ∀ ds M Q E, sp ds M Q E → t (bend Q E) (startD N ds) M) : FnQ P w K mg base (k + 1) f [] (starSp ps.length sp) := by
  intro A outer s H us us2 vs Q E hr e0 r hl ⟨HI, M, ds, Qd, Ed, ok, rl, ⟨ws, rest, ed, hws, hz, q⟩, kq, ke⟩
  have e : us2 = [] := List.eq_nil_of_length_eq_zero hl
  subst e
  rw [List.append_nil] at r
  obtain ⟨oc, od, kV, doc, pm, an, cdv, ct, osl, efd, lk, hcd⟩ := F.F.ex
  rw [efd] at lk
  subst ed
  obtain ⟨v1, v2, ev, rl1, rl2⟩ : ∃ v1 v2, vs = v1 ++ v2 ∧ RepL K HI v1 ws ∧ RepL K HI v2 rest := by
    have h1 := rl.take ws.length
    have h2 := rl.drop ws.length
    rw [List.take_left] at h1
    rw [List.drop_left] at h2
    exact ⟨_, _, (List.take_append_drop _ _).symm, h1, h2⟩
  subst ev
  obtain ⟨u1, u2, eu, r1, r2⟩ := StX.vals_split r
  subst eu
  have hn : H s.heap.objs.size = Option.none := e0.hok.fresh (Nat.le_refl _)
  have hl1 : u1.length = ps.length := by rw [← r1.length, rl1.len]; exact hws
  have hl2 : u2.length ≤ sizeLine := by rw [← r2.length, rl2.len]; exact hz
  refine StX.run_bnd (CX := L2.CX P w) lk hcd S hr.r e0 (G := fun xs H2 => ∃ p, H p = Option.none ∧ xs = v1 ++ [V.ref p] ∧ H2 = upd H p (.tup v2)) (fun A' Ex Q' h => ?_) fun s2 H2 xs ⟨p, hp, ex, eH⟩ hr' => ?_
  · show wpAny _ _ (bindArgs _ ⟨u1 ++ u2, []⟩) _ _ _
    rw [hbd kV doc pm an cdv ct u1 u2 hl1]
    refine wpAny_bind (wpAny_newTuple (wpAny_pure ?_) hl2)
    have new : ObjOk P w (upd H s.heap.objs.size (.tup v2)) (s.heap.push ({ cls := .type "tuple", data := .seq u2.toArray } : Obj)) s.heap.objs.size (.tup v2) := ⟨by rw [rl2.len]; exact hz, u2, r2, ⟨_, Heap.get?_push_size _ rfl, rfl, _, rfl⟩⟩
    have un := StX.un_laid (fs := frs outer) (s := s) (o := ({ cls := .type "tuple", data := .seq u2.toArray } : Obj)) (u := .tup v2) hn
    have z := h _ _ (v1 ++ [V.ref s.heap.objs.size]) (u1 ++ [Value.ref s.heap.objs.size]) (StX.env0_laid e0 new) un rfl (fun e s' => StX.cxUp outer s H _ _ E e s' un (fun b o q => Heap.get?_push_of_some _ q) rfl) (r1.append (.cons rfl .nil))
      (by rw [List.length_append, List.length_append, rl1.len, hws] <;> rfl) ⟨_, hn, rfl, rfl⟩
    rw [List.zip_append hl1.symm] at z
    exact z
  · subst ex eH
    refine ⟨_, hb cdv A outer s2 _ E (hr.deeper _), ?_⟩
    obtain ⟨ok', sm'⟩ := ok.newI (o := .tup v2) hp
    have st : Stp HI M H (upd HI p (.tup v2)) M (upd H p (.tup v2)) := .newI (ok.free hp).1 hp
    refine ⟨_, startD N (ws ++ [.tup rest]), M, bend Qd Ed, ok', start_env ((rl1.up sm').app (.cons (.tup (.of upd_same) (rl2.up sm')) .nil)), hq _ _ _ _ q, ?_⟩
    exact ⟨fun HI' σv' H' σ' M' st' ok' _ z => kq _ _ ⟨HI', M', _, st.trans st', ok', .non, z⟩, fun v H' z => kq v H' (z.of st), fun _ _ _ _ _ _ _ _ z => z.elim, fun _ _ _ _ _ _ _ _ z => z.elim, fun HI' σv' H' σ' M' st' _ c d H2 z => ke c d H2 (z.of (st.trans st'))⟩

/-! ### fields as pairs -/
def putD (f : Str) (v : D) : List (Str × D) → List (Str × D)
  | [] => [(f, v)]
  | (g, x) :: r => if g = f then (g, v) :: r else (g, x) :: putD f v r
section
variable {K : PySem.W.Frag} {HI : Hp}
theorem PF.len {vs : List (Str × V)} {fs : List (Str × D)} (h : PF K HI vs fs) : vs.length = fs.length := by
  induction h with
  | nil => rfl
  | cons _ _ ih => rw [List.length_cons, List.length_cons, ih]
theorem PF.look {f : Str} {vs : List (Str × V)} {fs : List (Str × D)} (h : PF K HI vs fs) : (∀ d, fs.lookup f = some d → ∃ v, vs.lookup f = some v ∧ Rep K HI v d) ∧ (fs.lookup f = none → vs.lookup f = none) := by
  induction h with
  | nil => exact ⟨fun d e => (by cases e), fun _ => rfl⟩
  | @cons p q ps qs h _ ih =>
    obtain ⟨n, v⟩ := p
    obtain ⟨n', d⟩ := q
    obtain ⟨h1, h2⟩ := h
    dsimp only at h1 h2
    subst h1
    rw [List.lookup_cons, List.lookup_cons]
    cases e : (f == n) with
    | true => exact ⟨fun d' z => by cases z; exact ⟨v, rfl, h2⟩, fun z => by cases z⟩
    | false => exact ih
theorem PF.put {f : Str} {v : V} {d : D} (r : Rep K HI v d) {vs : List (Str × V)} {fs : List (Str × D)} (h : PF K HI vs fs) : PF K HI (putF f v vs) (putD f d fs) := by
  induction h with
  | nil => exact .cons ⟨rfl, r⟩ .nil
  | @cons p q ps qs h t ih =>
    obtain ⟨n, v'⟩ := p
    obtain ⟨n', d'⟩ := q
    obtain ⟨h1, h2⟩ := h
    dsimp only at h1 h2
    subst h1
    unfold putF putD
    by_cases e : n = f
    · rw [if_pos e, if_pos e]; exact .cons ⟨rfl, r⟩ t
    · rw [if_neg e, if_neg e]; exact .cons ⟨rfl, h2⟩ ih
end
/-! ### e.f, e.f = v -/
def fldB (K : PySem.W.Frag) (cs : List Str) (f : Str) : Bool := cs.all fun C => (He.Fa.cls C).ok K && (He.Fa.noat C f).ok K
theorem fldB_at {K : PySem.W.Frag} {cs : List Str} {f C : Str} (h : fldB K cs f = true) (hC : C ∈ cs) : Cls K (He.ga K C) ∧ NoAttr K (He.ga K C) f := by
  have z := List.all_eq_true.mp h C hC
  rw [Bool.and_eq_true] at z
  exact ⟨He.cls_ok z.1, He.noat_ok z.2⟩
def tfld (cs : List Str) (f : Str) (te : TD) : TD := fun σ M Q E => te σ M (fun x M1 => match x with
  | .ref p => (match M1 p with
    | some (.ins C fs) => C ∈ cs ∧ (match fs.lookup f with
      | some d => Q d M1
      | none => False)
    | _ => False)
  | _ => False) E
def sfld (cs : List Str) (f : Str) (te to : TD) : TDS := fun D σ M => te σ M (fun d M1 => to σ M1 (fun o M2 => match o with
  | .ref p => (match M2 p with
    | some (.ins C fs) => C ∈ cs ∧ fs.length < 1000 ∧ D.nx σ (mput M2 p (.ins C (putD f d fs)))
    | _ => False)
  | _ => False) (fun x M1 => D.ex x σ M1)) (fun x M1 => D.ex x σ M1)
section
variable {X : Cx} {W : WX} {e o : Expr} {te to : TD} {f : Str} {pos pos' : Pos} {cs : List Str}
theorem d_fld (hcs : fldB X.K cs f = true) (he : DE X W e te) (hb : attributeBase e f X.env (eval e X.env) = eval e X.env := by rfl) : DE X W (.Attribute e f pos) (tfld cs f te) := pe_imp (pe_fld he hb) fun σv H Qv h => by
  obtain ⟨HI, σ, M, Q, E, ok, re, h, k, we⟩ := h
  refine ⟨HI, σ, M, _, E, ok, re, h, fun v H1 ⟨HI1, M1, d1, s1, ok1, r1, h1⟩ => ?_, we⟩
  cases r1 with
  | ref p =>
    simp only at h1
    split at h1
    · rename_i C fs e
      obtain ⟨hC, h1⟩ := h1
      obtain ⟨dx, vs, hx, pf⟩ := ok1.var p _ e
      obtain ⟨c, n⟩ := fldB_at hcs hC
      split at h1
      · rename_i d ed
        obtain ⟨v, ev, rv⟩ := pf.look.1 d ed
        exact ⟨p, _, dx, vs, v, rfl, hx, c, n, ev, k _ _ ⟨HI1, M1, d, s1, ok1, rv, h1⟩⟩
      · exact h1.elim
    · exact h1.elim
  | _ => exact h1.elim
theorem s_fld (hcs : fldB X.K cs f = true) (ho : DE X W o to) (he : DE X W e te) (hs : swapsWith e (some (.Attribute o f pos')) pos.line X.env = pure false := by rfl) : DS X W (.Assign [.Attribute o f pos'] e pos) (sfld cs f te to) :=
  ps_imp (ps_fld ho he hs) fun σv H Dv h => by
    obtain ⟨HI, σ, M, Dd, ok, re, h, r⟩ := h
    refine ⟨HI, σ, M, _, _, ok, re, h, fun v H1 ⟨HI1, M1, d1, s1, ok1, r1, h1⟩ => ?_, r.ex HI σv H σ M .refl re⟩
    refine ⟨HI1, σ, M1, _, _, ok1, re.up s1.sm, h1, fun o2 H2 ⟨HI2, M2, d2, s2, ok2, r2, h2⟩ => ?_, r.ex HI1 σv H1 σ M1 s1 (re.up s1.sm)⟩
    cases r2 with
    | ref p =>
      simp only at h2
      split at h2
      · rename_i C fs e
        obtain ⟨hC, hz, h2⟩ := h2
        obtain ⟨dx, vs, hx, pf⟩ := ok2.var p _ e
        obtain ⟨c, n⟩ := fldB_at hcs hC
        refine ⟨p, _, dx, vs, rfl, hx, c, n, by rw [pf.len]; exact hz, ?_⟩
        refine r.nx HI2 σv _ σ _ ((s1.trans s2).trans (.chg e)) ?_ (re.up (s1.trans s2).sm) h2
        exact ok2.newM (m := .ins C (putD f d1 fs)) (ok2.notI e) (show MRep X.K HI2 _ p (.ins C (putD f d1 fs)) from ⟨dx, _, upd_same, pf.put (r1.up s2.sm)⟩)
      · exact h2.elim
    | _ => exact h2.elim
end
/-! ### the callee runs -/
section
variable {X : Cx} {W : WX} {k : Nat} {f : Addr} {ks : List Str} {sp : SpD}
theorem run_cA {A' : Around} {pins : List (Addr × Obj)} {σ : L2.St} {H : Hp} {s : Shared} {Q : VK} {E : XK} {us ws : List Value} {vs : List V} (F : FnQ X.prog X.w X.K X.mg X.base k f ks sp) (hr : Rm k A') (e0 : Env0 X.prog X.w X.K X.mg X.base A' X.stack s H)
    (hx : ∀ e s', L2.CX X.prog X.w X.stack H s E e s' → X.xe e s') (I : Inv X pins σ H s) (r : Vals vs (us ++ ws)) (hl : ws.length = ks.length) (h : lift X.K sp vs H Q E) :
    codeAny (model X.prog X.w) A' (.call (.ref f) ⟨us, ks.zip ws⟩) (fun r s' => match r with
      | .ok (.ret u) => EP X pins σ Q u s'
      | .ok _ => False
      | .error e => X.xe e s') s := by
  refine codeAny_mono (F A' X.stack s H us ws vs Q E hr e0 r hl h) fun r s' hq => ?_
  cases r with
  | error e => exact hx e s' hq
  | ok fl =>
    cases fl with
    | ret u => exact I.after hq
    | next => exact hq
    | brk => exact hq
    | cont => exact hq
theorem run_c {pins : List (Addr × Obj)} {σ : L2.St} {H : Hp} {s : Shared} {Q : VK} {E : XK} {us ws : List Value} {vs : List V} (F : FnQ X.prog X.w X.K X.mg X.base k f ks sp) (hr : Rm k X.A)
    (hx : ∀ e s', L2.CX X.prog X.w X.stack H s E e s' → X.xe e s') (I : Inv X pins σ H s) (r : Vals vs (us ++ ws)) (hl : ws.length = ks.length) (h : lift X.K sp vs H Q E) :
    wpAny (model X.prog X.w) X.A (call (.ref f) us (ks.zip ws)) (EP X pins σ Q) X.xe s :=
  wpAny_call (codeAny_mono (run_cA F hr I.env0 hx I r hl h) fun r s' z => by
    cases r with
    | error e => exact z
    | ok fl => cases fl <;> exact z)
theorem Rm.in1 {k : Nat} {A : Around} (r : Rm (k + 1) A) : Rm k A.in1 := ⟨r.r.in1, r.g⟩
theorem run_c1 {pins : List (Addr × Obj)} {σ : L2.St} {H : Hp} {s : Shared} {Q : VK} {E : XK} {us : List Value} {vs : List V} (F : FnQ X.prog X.w X.K X.mg X.base k f [] sp) (hr : Rm (k + 1) X.A)
    (hx : ∀ e s', L2.CX X.prog X.w X.stack H s E e s' → X.xe e s') (I : Inv X pins σ H s) (r : Vals vs us) (h : lift X.K sp vs H Q E) :
    wpAny (model X.prog X.w) X.A.in1 (call (.ref f) us) (EP X pins σ Q) X.xe s :=
  wpAny_call (codeAny_mono (run_cA (A' := X.A.in1) (us := us) (ws := []) F hr.in1 I.env0.in1 hx I (by rw [List.append_nil]; exact r) rfl h) fun r s' z => by
    cases r with
    | error e => exact z
    | ok fl => cases fl <;> exact z)
theorem run_c0 {pins : List (Addr × Obj)} {σ : L2.St} {H : Hp} {s : Shared} {Q : VK} {E : XK} {us : List Value} {vs : List V} (F : FnQ X.prog X.w X.K X.mg X.base k f [] sp) (hr : Rm k X.A)
    (hx : ∀ e s', L2.CX X.prog X.w X.stack H s E e s' → X.xe e s') (I : Inv X pins σ H s) (r : Vals vs us) (h : lift X.K sp vs H Q E) :
    wpAny (model X.prog X.w) X.A (call (.ref f) us) (EP X pins σ Q) X.xe s := run_c (us := us) (ws := []) F hr hx I (by rw [List.append_nil]; exact r) rfl h
end
/-! ### methods -/
abbrev MTab := List (Str × SpD)
structure MethT (P : Program) (w : World) (K : PySem.W.Frag) (mg : Str → Option Value) (base : Heap) (k : Nat) (m : Str) (ks : List Str) (tab : MTab) : Prop where
  at_ : ∀ C sp, tab.lookup C = some sp → Cls K (He.ga K C) ∧ ∃ g, Meth K (He.ga K C) m g ∧ FnQ P w K mg base k g ks sp
theorem MethT.one {P : Program} {w : World} {K : PySem.W.Frag} {mg : Str → Option Value} {base : Heap} {k : Nat} {m C : Str} {ks : List Str} {sp : SpD} {g : Addr} (c : Cls K (He.ga K C)) (h : Meth K (He.ga K C) m g) (F : FnQ P w K mg base k g ks sp) : MethT P w K mg base k m ks [(C, sp)] := ⟨fun C' sp' e => by
  rw [List.lookup_cons] at e
  by_cases hq : (C' == C) = true
  · rw [hq] at e
    cases e
    rw [eq_of_beq hq]
    exact ⟨c, g, h, F⟩
  · rw [show (C' == C) = false by simpa using hq] at e
    cases e⟩
def onIns (tab : MTab) (m : Str) (x : D) (M : MM) (R : SpD → Prop) : Prop := match x with
  | .ref p => (match M p with
    | some (.ins C fs) => fs.lookup m = none ∧ (match tab.lookup C with
      | some sp => R sp
      | none => False)
    | _ => False)
  | _ => False
theorem onIns_at {tab : MTab} {m : Str} {x : D} {M : MM} {R : SpD → Prop} (h : onIns tab m x M R) : ∃ p C fs sp, x = .ref p ∧ M p = some (.ins C fs) ∧ fs.lookup m = none ∧ tab.lookup C = some sp ∧ R sp := by
  unfold onIns at h
  split at h
  · rename_i p
    split at h
    · rename_i C fs e
      obtain ⟨h1, h⟩ := h
      split at h
      · rename_i sp e2
        exact ⟨p, C, fs, sp, rfl, e, h1, e2, h⟩
      · exact h.elim
    · exact h.elim
  · exact h.elim
theorem onIns_eq {tab : MTab} {m : Str} {p : Addr} {M : MM} {R : SpD → Prop} {C : Str} {fs : List (Str × D)} {sp : SpD} (h : M p = some (.ins C fs)) (h1 : fs.lookup m = none) (h2 : tab.lookup C = some sp) : onIns tab m (.ref p) M R = R sp := by
  unfold onIns
  simp only [h, h1, h2, true_and]
def tmeth (tab : MTab) (m : Str) (to : TD) (ts : TDL) : TD := fun σ M Q E => to σ M (fun x M1 => onIns tab m x M1 fun sp => ts σ M1 (fun ds M2 => sp (x :: ds) M2 Q E) E) E
section
variable {X : Cx} {W : WX} {k : Nat} {m : Str} {tab : MTab} {o e : Expr} {es : List Expr} {to : TD} {ts : TDL} {apos pos : Pos}
theorem d_meth {pl : Sem Bool} (T : MethT X.prog X.w X.K X.mg X.base k m [] tab) (hr : Rm k X.A) (tk : Takes X W) (ho : DE X W o to) (ha : DA X W (e :: es) ts)
    (hst : starEach (e :: es) X.env = (false, eval e X.env) :: starEach es X.env := by rfl) (hpl : (backTo pos (starEach es X.env)).any (·.1) = false := by rfl)
    (ht : eval (.Call (.Attribute o m apos) (e :: es) [] pos) X.env = (do
      let ov ← eval o X.env
      standAt apos.atName
      let (f, first) ← holding [ov] (getMethod ov m pl)
      callWith pos f first (backTo pos (starEach (e :: es) X.env)) (backToKw pos (keywordEach [] X.env))) := by rfl) :
    DE X W (.Call (.Attribute o m apos) (e :: es) [] pos) (tmeth tab m to ts) := by
  refine ⟨fun pins s σ H Qv I h => ?_⟩
  obtain ⟨HI, σd, M, Q, E, ok, re, h, kq, we⟩ := h
  refine PySem.W.methodCall_KW (pl := pl) (thn (ho.run pins s σ H _ I ⟨HI, σd, M, _, E, ok, re, h, fun v H' z => z, we⟩) fun u s1 ⟨x, H1, I1, rx, HI1, M1, d1, s1', ok1, r1, h1⟩ => ?_) ht
  obtain ⟨p, C, fs, sp, ex, eM, l, et, q⟩ := onIns_at h1
  subst ex
  obtain ⟨c, g, hm, F⟩ := T.at_ C sp et
  cases r1
  obtain rfl : u = Value.ref p := rx
  obtain ⟨dx, vs, hx, pf⟩ := ok1.var p _ eM
  refine getmeth_ok I1 hx c hm (pf.look.2 l) ?_
  refine PySem.W.callWith_K (first := [.ref p]) (h₀ := X.base) I.ok.mod.kin hm.kp (thn (ha.run pos pins s1 σ H1 (fun vs H2 => lift X.K sp (.ref p :: vs) H2 Qv fun c d H' => W c d σ H') I1
    ⟨HI1, σd, M1, _, E, ok1, re.up s1'.sm, q, fun v H2 ⟨HI2, M2, d2, s2, ok2, r2, h2⟩ => ?_, we.up s1'⟩) fun us s2 ⟨vs, H2, I2, r, q2⟩ => ⟨I2.kIn, ?_⟩) hst hpl
  · exact ⟨HI2, M2, .ref p :: d2, Q, E, ok2, .cons (.ref p) r2, h2, fun v' H' z => kq v' H' (z.of (s1'.trans s2)), fun c d H' z => we c d H' (z.of (s1'.trans s2))⟩
  · exact run_c0 (us := .ref p :: us) (vs := .ref p :: vs) F hr (passW tk I2) I2 (.cons rfl r) q2
theorem d_meth0 {pl : Sem Bool} (T : MethT X.prog X.w X.K X.mg X.base k m [] tab) (hr : Rm k X.A) (tk : Takes X W) (ho : DE X W o to)
    (ht : eval (.Call (.Attribute o m apos) [] [] pos) X.env = (do
      let ov ← eval o X.env
      standAt apos.atName
      let (f, first) ← holding [ov] (getMethod ov m pl)
      callWith pos f first (backTo pos (starEach [] X.env)) (backToKw pos (keywordEach [] X.env))) := by rfl) :
    DE X W (.Call (.Attribute o m apos) [] [] pos) (tmeth tab m to a0) := by
  refine ⟨fun pins s σ H Qv I h => ?_⟩
  obtain ⟨HI, σd, M, Q, E, ok, re, h, kq, we⟩ := h
  refine PySem.W.methodCall_KW (pl := pl) (thn (ho.run pins s σ H _ I ⟨HI, σd, M, _, E, ok, re, h, fun v H' z => z, we⟩) fun u s1 ⟨x, H1, I1, rx, HI1, M1, d1, s1', ok1, r1, h1⟩ => ?_) ht
  obtain ⟨p, C, fs, sp, ex, eM, l, et, q⟩ := onIns_at h1
  subst ex
  obtain ⟨c, g, hm, F⟩ := T.at_ C sp et
  cases r1
  obtain rfl : u = Value.ref p := rx
  obtain ⟨dx, vs, hx, pf⟩ := ok1.var p _ eM
  refine getmeth_ok I1 hx c hm (pf.look.2 l) ?_
  refine PySem.W.callWith_K0 (first := [.ref p]) I1.kIn hm.kp ?_
  refine run_c0 (us := [.ref p]) (vs := [.ref p]) F hr (passW tk I1) I1 (.cons rfl .nil) ?_
  exact ⟨HI1, M1, [.ref p], Q, E, ok1, .cons (.ref p) .nil, q, fun v' H' z => kq v' H' (z.of s1'), fun c d H' z => we c d H' (z.of s1')⟩
end
/-! ### properties -/
structure PropT (P : Program) (w : World) (K : PySem.W.Frag) (mg : Str → Option Value) (base : Heap) (k : Nat) (f : Str) (tab : MTab) : Prop where
  at_ : ∀ C sp, tab.lookup C = some sp → Cls K (He.ga K C) ∧ ∃ p g, PropOf K (He.ga K C) f p g ∧ FnQ P w K mg base k g [] sp
theorem PropT.one {P : Program} {w : World} {K : PySem.W.Frag} {mg : Str → Option Value} {base : Heap} {k : Nat} {m C : Str} {sp : SpD} {p g : Addr} (c : Cls K (He.ga K C)) (h : PropOf K (He.ga K C) m p g) (F : FnQ P w K mg base k g [] sp) : PropT P w K mg base k m [(C, sp)] := ⟨fun C' sp' e => by
  rw [List.lookup_cons] at e
  by_cases hq : (C' == C) = true
  · rw [hq] at e
    cases e
    rw [eq_of_beq hq]
    exact ⟨c, p, g, h, F⟩
  · rw [show (C' == C) = false by simpa using hq] at e
    cases e⟩
def onCls (tab : MTab) (x : D) (M : MM) (R : SpD → Prop) : Prop := match x with
  | .ref p => (match M p with
    | some (.ins C _) => (match tab.lookup C with
      | some sp => R sp
      | none => False)
    | _ => False)
  | _ => False
theorem onCls_at {tab : MTab} {x : D} {M : MM} {R : SpD → Prop} (h : onCls tab x M R) : ∃ p C fs sp, x = .ref p ∧ M p = some (.ins C fs) ∧ tab.lookup C = some sp ∧ R sp := by
  unfold onCls at h
  split at h
  · rename_i p
    split at h
    · rename_i C fs e
      split at h
      · rename_i sp e2
        exact ⟨p, C, fs, sp, rfl, e, e2, h⟩
      · exact h.elim
    · exact h.elim
  · exact h.elim
theorem onCls_eq {tab : MTab} {p : Addr} {M : MM} {R : SpD → Prop} {C : Str} {fs : List (Str × D)} {sp : SpD} (h : M p = some (.ins C fs)) (h2 : tab.lookup C = some sp) : onCls tab (.ref p) M R = R sp := by
  unfold onCls
  simp only [h, h2]
def tprop (tab : MTab) (te : TD) : TD := fun σ M Q E => te σ M (fun x M1 => onCls tab x M1 fun sp => sp [x] M1 Q fun _ _ => False) E
section
variable {X : Cx} {W : WX} {k : Nat} {f : Str} {tab : MTab} {e : Expr} {te : TD} {pos : Pos}
theorem d_prop (T : PropT X.prog X.w X.K X.mg X.base k f tab) (hr : Rm (k + 1) X.A) (he : DE X W e te) (hab : attributeBase e f X.env (eval e X.env) = eval e X.env := by rfl) : DE X W (.Attribute e f pos) (tprop tab te) := by
  refine ⟨fun pins s σ H Qv I h => ?_⟩
  obtain ⟨HI, σd, M, Q, E, ok, re, h, kq, we⟩ := h
  refine attr_of hab (thn (he.run pins s σ H _ I ⟨HI, σd, M, _, E, ok, re, h, fun v H' z => z, we⟩) fun u s1 ⟨x, H1, I1, rx, HI1, M1, d1, s1', ok1, r1, h1⟩ => ?_)
  obtain ⟨p, C, fs, sp, ex, eM, et, q⟩ := onCls_at h1
  subst ex
  obtain ⟨c, pr, g, hp, F⟩ := T.at_ C sp et
  cases r1
  obtain rfl : u = Value.ref p := rx
  obtain ⟨dx, vs, hx, pf⟩ := ok1.var p _ eM
  obtain ⟨mA, O, _, _, _, _⟩ := ins_get I1.hok hx
  obtain ⟨od, J, _⟩ := O.look
  obtain ⟨rest, hrec⟩ := hp.rec_
  have I2 := I1.tok (s1.toks + 1)
  have hc : (PySem.W.clsIn X.K (He.ga X.K C)).isSome = true := by
    obtain ⟨cd, hc, _⟩ := PySem.W.any_some c.hd
    rw [hc]
    rfl
  refine PySem.W.get_bind I1.kIn J (PySem.W.plainGet_of (c.get f)).1 (PySem.W.findObj_data hc hp.at_ hp.get hp.tak) (PySem.W.plainGet_of (c.get f)).2 (wpAny_call (PySem.W.prop_get (s := { s1 with toks := s1.toks + 1 }) I1.kIn hrec ?_))
  have sp0 : lift X.K sp [.ref p] H1 Qv fun _ _ _ => False := ⟨HI1, M1, [.ref p], Q, fun _ _ => False, ok1, .cons (.ref p) .nil, q, fun v' H' z => kq v' H' (z.of s1'), fun c d H' ⟨_, _, _, _, _, _, z⟩ => z⟩
  refine codeAny_mono (F X.A.in1 X.stack { s1 with toks := s1.toks + 1 } H1 [.ref p] [] [.ref p] Qv (fun _ _ _ => False) hr.in1 I2.env0.in1 (.cons rfl .nil) rfl sp0) fun r s' hq => ?_
  cases r with
  | error er =>
    obtain ⟨_, _, _, _, _, _, _, _, _, _, _, _, z⟩ := hq
    exact z.elim
  | ok fl =>
    cases fl with
    | ret u =>
      obtain ⟨v, H', I3, rv, q3⟩ := I2.after hq
      show wpAny _ _ (handedOut u) _ _ _
      rw [PySem.W.handedOut_of (handed_of rv)]
      exact wpAny_pure ⟨v, H', I3, rv, q3⟩
    | next => exact False.elim hq
    | brk => exact False.elim hq
    | cont => exact False.elim hq
end
/-! ### C(..) -/
def mkD (C : Str) (sp : SpD) (ds : List D) (M : MM) (Q : DK) (E : EK) : Prop := ∀ a, M a = none → sp (.ref a :: ds) (mput M a (.ins C [])) (fun v M2 => v = .non ∧ Q (.ref a) M2) E
def tmk (C : Str) (sp : SpD) (ts : TDL) : TD := fun σ M Q E => ts σ M (fun ds M1 => mkD C sp ds M1 Q E) E
structure MkT (P : Program) (w : World) (K : PySem.W.Frag) (mg : Str → Option Value) (base : Heap) (k : Nat) (C : Str) (ks : List Str) (sp : SpD) : Prop where
  ex : ∃ g, Mk K (He.ga K C) g ∧ FnQ P w K mg base k g ks sp
section
variable {X : Cx} {W : WX} {k : Nat} {C x : Str} {ks : List Str} {sp : SpD} {e : Expr} {es : List Expr} {kws : List Keyword} {te : TD} {ts tks : TDL} {p pos : Pos}
theorem Rm.make {k : Nat} {A : Around} (r : Rm (k + 1) A) (C : Addr) (us : List Value) (kw : List (Str × Value)) : Rm k (A.under (.builtin "type.__call__" ⟨.ref C :: us, kw⟩)) := ⟨r.r.make C us kw, by first | exact r.g | (have := r.g; simpa [Around.under] using this)⟩
theorem run_mk {pins : List (Addr × Obj)} {σ : L2.St} {H : Hp} {s : Shared} {Qv : VK} {us ws : List Value} {HI : Hp} {M : MM} {ds : List D} {vs : List V} {Q : DK} {E : EK} (T : MkT X.prog X.w X.K X.mg X.base k C ks sp) (hr : Rm (k + 1) X.A)
    (tk : Takes X W) (I : Inv X pins σ H s) (r : Vals vs (us ++ ws)) (hl : ws.length = ks.length) (ok : Ok X.K HI M H) (rl : RepL X.K HI vs ds) (h : mkD C sp ds M Q E) (kq : ∀ v H', low X.K HI M H Q v H' → Qv v H') (ke : WOk X.K W HI M H σ E) :
    wpAny (model X.prog X.w) X.A (call (.ref (He.ga X.K C)) us (ks.zip ws)) (EP X pins σ Qv) X.xe s := by
  obtain ⟨g, mk, F⟩ := T.ex
  have n1 : H (s.heap.objs.size + 1) = none := I.hok.fresh (Nat.le_succ _)
  have n2 : H s.heap.objs.size = none := I.hok.fresh (Nat.le_refl _)
  have ne : s.heap.objs.size ≠ s.heap.objs.size + 1 := Nat.ne_of_lt (Nat.lt_succ_self _)
  have n3 : (upd H s.heap.objs.size (.own (s.heap.objs.size + 1))) (s.heap.objs.size + 1) = none := by rw [upd_ne (Ne.symm ne)]; exact n1
  have ok1 := ok.newH (o := .own (s.heap.objs.size + 1)) n2
  have ok2 : Ok X.K HI (mput M (s.heap.objs.size + 1) (.ins C [])) (upd (upd H s.heap.objs.size (.own (s.heap.objs.size + 1))) (s.heap.objs.size + 1) (.ins (He.ga X.K C) s.heap.objs.size [])) :=
    ok1.newM (m := .ins C []) (ok.free n1).1 (show MRep X.K HI _ _ (.ins C []) from ⟨s.heap.objs.size, [], upd_same, .nil⟩)
  have st : Stp HI M H HI (mput M (s.heap.objs.size + 1) (.ins C [])) (upd (upd H s.heap.objs.size (.own (s.heap.objs.size + 1))) (s.heap.objs.size + 1) (.ins (He.ga X.K C) s.heap.objs.size [])) := (Stp.newH n2).trans (.newM n3)
  have hq := h (s.heap.objs.size + 1) (ok.free n1).2
  have I2 := Inv.made (C := He.ga X.K C) I
  refine wpAny_call (make_map (f := g) I.kIn mk.makes mk.init (beq_iff_eq.mp mk.fn) (codeAny_mono (F _ X.stack _ _ (.ref (s.heap.objs.size + 1) :: us) ws (.ref (s.heap.objs.size + 1) :: vs) (fun v H' => v = .non ∧ Qv (.ref (s.heap.objs.size + 1)) H') (fun c d H' => W c d σ H') (hr.make (He.ga X.K C) us (ks.zip ws)) (I2.env0.make _ _ _) (.cons rfl r) hl
    ⟨HI, _, .ref (s.heap.objs.size + 1) :: ds, _, E, ok2, .cons (.ref _) rl, hq, fun v H' ⟨HI', M', d', st', ok', rd', ed, qd⟩ => ?_, fun c d H' z => ke c d H' (z.of st)⟩) fun r s' hq => ?_))
  · subst ed
    cases rd'
    exact ⟨rfl, kq _ _ ⟨HI', M', _, st.trans st', ok', .ref _, qd⟩⟩
  · cases r with
    | error e => exact passW tk I2 e s' hq
    | ok fl =>
      cases fl with
      | ret u =>
        obtain ⟨v, H', I3, rv, ev, q3⟩ := I2.after hq
        subst ev
        exact ⟨rv, ⟨V.ref (s.heap.objs.size + 1), H', I3, rfl, q3⟩⟩
      | next => exact False.elim hq
      | brk => exact False.elim hq
      | cont => exact False.elim hq
/-- C(e, ..) -/
theorem d_mk (T : MkT X.prog X.w X.K X.mg X.base k C [] sp) (hr : Rm (k + 1) X.A) (tk : Takes X W) (hg : Gl X x) (hm : X.mg x = some (.ref (He.ga X.K C))) (ha : DA X W (e :: es) ts) (hdb : (x == ("__debug__" : Str)) = false := by decide)
    (he : starEach (e :: es) X.env = (false, eval e X.env) :: starEach es X.env := by rfl) (hpl : (backTo pos (starEach es X.env)).any (·.1) = false := by rfl) : DE X W (.Call (.Name x p) (e :: es) [] pos) (tmk C sp ts) := by
  refine ⟨fun pins s σ H Qv I h => ?_⟩
  obtain ⟨HI, σd, M, Q, E, ok, re, h, kq, we⟩ := h
  have kp : PySem.W.keepIn X.K (.ref (He.ga X.K C)) = true := let ⟨g, mk, _⟩ := T.ex; mk.kp
  refine wpAny_Call_Name_kw (ld_glob I hg hm ?_ hdb)
  refine PySem.W.callWith_K (h₀ := X.base) I.ok.mod.kin kp (thn (ha.run pos pins s σ H _ I ⟨HI, σd, M, _, E, ok, re, h, fun v H' z => z, we⟩) fun us s1 ⟨vs, H1, I1, r, HI1, M1, ds, s1', ok1, r1, h1⟩ => ⟨I1.kIn, ?_⟩) he hpl
  exact run_mk (us := us) (ws := []) T hr tk I1 (by rw [List.append_nil]; exact r) rfl ok1 r1 h1 (fun v H' z => kq v H' (z.of s1')) (we.up s1')
/-- C(e, .., *y) -/
theorem d_mkS (T : MkT X.prog X.w X.K X.mg X.base k C [] sp) (hr : Rm (k + 1) X.A) (tk : Takes X W) (hg : Gl X x) (hm : X.mg x = some (.ref (He.ga X.K C))) (ha : DA X W (e :: es) ts) (hdb : (x == ("__debug__" : Str)) = false := by decide)
    (he : starEach (e :: es) X.env = (false, eval e X.env) :: starEach es X.env := by rfl) (hst : (backTo pos (starEach es X.env)).any (·.1) = true := by rfl) : DE X W (.Call (.Name x p) (e :: es) [] pos) (tmk C sp ts) := by
  refine ⟨fun pins s σ H Qv I h => ?_⟩
  obtain ⟨HI, σd, M, Q, E, ok, re, h, kq, we⟩ := h
  have kp : PySem.W.keepIn X.K (.ref (He.ga X.K C)) = true := let ⟨g, mk, _⟩ := T.ex; mk.kp
  refine wpAny_Call_Name_kw (ld_glob I hg hm ?_ hdb)
  refine PySem.W.callWith_S2 (h₀ := X.base) I.ok.mod.kin kp (thn (ha.run pos pins s σ H _ I ⟨HI, σd, M, _, E, ok, re, h, fun v H' z => z, we⟩) fun us s1 ⟨vs, H1, I1, r, HI1, M1, ds, s1', ok1, r1, h1⟩ => ⟨I1.kIn, ?_⟩) he hst
  exact run_mk (us := us) (ws := []) T hr tk I1 (by rw [List.append_nil]; exact r) rfl ok1 r1 h1 (fun v H' z => kq v H' (z.of s1')) (we.up s1')
/-- cls(e, .., *y), cls a name that holds the class -/
def tmkL (C : Str) (sp : SpD) (i : Nat) (ts : TDL) : TD := fun σ M Q E => match σ[i]? with
  | some (some d) => d = .kls C ∧ ts σ M (fun ds M1 => mkD C sp ds M1 Q E) E
  | _ => False
theorem d_mkSL {i : Nat} (T : MkT X.prog X.w X.K X.mg X.base k C [] sp) (hr : Rm (k + 1) X.A) (tk : Takes X W) (hN : X.N[i]? = some x) (ha : DA X W (e :: es) ts) (hv : Vis X.env.scope x := by first | exact Or.inl rfl | exact Or.inr (Or.inl rfl) | exact Or.inr (Or.inr rfl)) (hdb : (x == ("__debug__" : Str)) = false := by decide) (hcd : (x == ("__classdict__" : Str)) = false := by decide)
    (he : starEach (e :: es) X.env = (false, eval e X.env) :: starEach es X.env := by rfl) (hst : (backTo pos (starEach es X.env)).any (·.1) = true := by rfl) : DE X W (.Call (.Name x p) (e :: es) [] pos) (tmkL C sp i ts) := by
  refine ⟨fun pins s σ H Qv I h => ?_⟩
  obtain ⟨HI, σd, M, Q, E, ok, re, h, kq, we⟩ := h
  have kp : PySem.W.keepIn X.K (.ref (He.ga X.K C)) = true := let ⟨g, mk, _⟩ := T.ex; mk.kp
  unfold tmkL at h
  split at h
  · rename_i d ed
    obtain ⟨rfl, h⟩ := h
    obtain ⟨v, ev, rv⟩ := re.get ed
    cases rv
    refine wpAny_Call_Name_kw (thn ((pe_var (X := X) hN hv hdb hcd).run pins s σ H (fun v' H' => v' = .ref (He.ga X.K C) ∧ H' = H) I ⟨_, ev, rfl, rfl⟩) fun u s0 ⟨v', H', I0, r0, e1, e2⟩ => ?_)
    subst e1 e2
    obtain rfl : u = Value.ref (He.ga X.K C) := r0
    refine PySem.W.callWith_S2 (h₀ := X.base) I0.ok.mod.kin kp (thn (ha.run pos pins s0 σ H' _ I0 ⟨HI, σd, M, _, E, ok, re, h, fun v H' z => z, we⟩) fun us s1 ⟨vs, H1, I1, r, HI1, M1, ds, s1', ok1, r1, h1⟩ => ⟨I1.kIn, ?_⟩) he hst
    exact run_mk (us := us) (ws := []) T hr tk I1 (by rw [List.append_nil]; exact r) rfl ok1 r1 h1 (fun v H' z => kq v H' (z.of s1')) (we.up s1')
  · exact h.elim
/-- C(k=e, ..) -/
def tmkK (C : Str) (n : Nat) (sp : SpD) (tks : TDL) : TD := fun σ M Q E => tks σ M (fun ds M1 => ds.length = n ∧ mkD C sp ds M1 Q E) E
theorem d_mkK (T : MkT X.prog X.w X.K X.mg X.base k C ks sp) (hr : Rm (k + 1) X.A) (tk : Takes X W) (hg : Gl X x) (hm : X.mg x = some (.ref (He.ga X.K C))) (hkw : DKs X W kws tks) (hall : (backToKw pos (keywordEach kws X.env)).all (·.1.isSome) = true := by rfl) (hks : (backToKw pos (keywordEach kws X.env)).filterMap (·.1) = ks := by rfl)
    (hdb : (x == ("__debug__" : Str)) = false := by decide)
    (hpl : ((backTo pos (starEach [] X.env)).any (·.1) || (backToKw pos (keywordEach kws X.env)).any (·.1.isNone)) = false := by rfl) : DE X W (.Call (.Name x p) [] kws pos) (tmkK C ks.length sp tks) := by
  refine ⟨fun pins s σ H Qv I h => ?_⟩
  obtain ⟨HI, σd, M, Q, E, ok, re, h, kq, we⟩ := h
  have kp : PySem.W.keepIn X.K (.ref (He.ga X.K C)) = true := let ⟨g, mk, _⟩ := T.ex; mk.kp
  refine wpAny_Call_Name_kw (ld_glob I hg hm ?_ hdb)
  refine PySem.W.callWith_KW0 (h₀ := X.base) I.ok.mod.kin kp hall ?_ hpl
  refine thn (hkw.run pos pins s σ H _ I ⟨HI, σd, M, _, E, ok, re, h, fun v H' z => z, we⟩) fun us s1 ⟨vs, H1, I1, r, HI1, M1, ds, s1', ok1, r1, hl, h1⟩ => ⟨I1.kIn, ?_⟩
  rw [hks]
  exact run_mk (us := []) (ws := us) T hr tk I1 r (by rw [← r.length, r1.len]; exact hl) ok1 r1 h1 (fun v H' z => kq v H' (z.of s1')) (we.up s1')
end
/-! ### C.m(..), m a classmethod -/
structure CMetT (P : Program) (w : World) (K : PySem.W.Frag) (mg : Str → Option Value) (base : Heap) (k : Nat) (C m : Str) (ks : List Str) (sp : SpD) : Prop where
  ex : ∃ mc p g, ClX.CRead K (He.ga K C) mc ∧ ClX.CMet K (He.ga K C) mc m p g ∧ FnQ P w K mg base k g ks sp
def tcm (C : Str) (sp : SpD) (te : TD) (ts : TDL) : TD := fun σ M Q E => te σ M (fun x M1 => match x with
  | .kls C' => C' = C ∧ ts σ M1 (fun ds M2 => sp (.kls C :: ds) M2 Q E) E
  | _ => False) E
section
variable {X : Cx} {W : WX} {k : Nat} {C m : Str} {ks : List Str} {sp : SpD} {o e : Expr} {es : List Expr} {to : TD} {ts : TDL} {apos pos : Pos}
theorem d_cm {pl : Sem Bool} (T : CMetT X.prog X.w X.K X.mg X.base k C m [] sp) (hr : Rm k X.A) (tk : Takes X W) (ho : DE X W o to) (ha : DA X W (e :: es) ts)
    (hst : starEach (e :: es) X.env = (false, eval e X.env) :: starEach es X.env := by rfl) (hpl : (backTo pos (starEach es X.env)).any (·.1) = false := by rfl)
    (ht : eval (.Call (.Attribute o m apos) (e :: es) [] pos) X.env = (do
      let ov ← eval o X.env
      standAt apos.atName
      let (f, first) ← holding [ov] (getMethod ov m pl)
      callWith pos f first (backTo pos (starEach (e :: es) X.env)) (backToKw pos (keywordEach [] X.env))) := by rfl) :
    DE X W (.Call (.Attribute o m apos) (e :: es) [] pos) (tcm C sp to ts) := by
  refine ⟨fun pins s σ H Qv I h => ?_⟩
  obtain ⟨HI, σd, M, Q, E, ok, re, h, kq, we⟩ := h
  obtain ⟨mc, p, g, cr, cm, F⟩ := T.ex
  refine PySem.W.methodCall_KW (pl := pl) (thn (ho.run pins s σ H _ I ⟨HI, σd, M, _, E, ok, re, h, fun v H' z => z, we⟩) fun u s1 ⟨x, H1, I1, rx, HI1, M1, d1, s1', ok1, r1, h1⟩ => ?_) ht
  cases r1 with
  | kls C' =>
    obtain ⟨rfl, q⟩ := h1
    obtain rfl : u = Value.ref (He.ga X.K C') := rx
    refine ClX.getmethcm_ok I1 cr cm fun s2 I2 => ?_
    refine ClX.callwith_cm I2 (ClX.base_none I1 (Nat.le_refl _)) cm.fi (thn (ha.run pos _ s2 σ H1 (fun vs H2 => lift X.K sp (.ref (He.ga X.K C') :: vs) H2 Qv fun c d H' => W c d σ H') I2
      ⟨HI1, σd, M1, _, E, ok1, re.up s1'.sm, q, fun v H2 ⟨HI2, M2, d2, s2, ok2, r2, h2⟩ => ?_, we.up s1'⟩) fun us s3 ⟨vs, H2, I3, rv, q2⟩ => ⟨⟨ClX.pin_at I3, I3.kIn⟩, ?_⟩) hst hpl
    · exact ⟨HI2, M2, .kls C' :: d2, Q, E, ok2, .cons (.kls C') r2, h2, fun v' H' z => kq v' H' (z.of (s1'.trans s2)), fun c d H' z => we c d H' (z.of (s1'.trans s2))⟩
    · have z : wpAny (model X.prog X.w) X.A (call (.ref s1.heap.objs.size) us) (EP X ((s1.heap.objs.size, PySem.W.methodObj (.ref g) (.ref (He.ga X.K C'))) :: pins) σ Qv) X.xe s3 :=
        wpAny_call (PySem.W.method_call (ClX.pin_at I3) (codeAny_mono (run_cA (us := .ref (He.ga X.K C') :: us) (ws := []) F hr I3.env0 (passW tk I3) I3 (by rw [List.append_nil]; exact .cons rfl rv) rfl q2) fun r s' z => by
          cases r with
          | error e => exact z
          | ok fl => cases fl <;> exact z))
      exact thn z fun _ _ y => ClX.unpinE y
  | _ => exact h1.elim
end
end DL

/-! The data layer: what the text's part says of classes, by Bools. -/
namespace DL
open PySem PySem.Spec L2 PyProof.Rows
/-- a plain def at an address -/
def fB (K : PySem.W.Frag) (f : Addr) (qual : Str) : Bool := PySem.W.keepIn K (.ref f) && (match K.lookup f with
  | some ⟨_, _, .func fd, _⟩ => PySem.W.codeIn K fd.code qual && (He.dflB K fd.defaults [] && He.kwdB K fd.kwdefaults [])
  | _ => false)
/-- what the class's attribute m stands for: a def, or the def in a property or a classmethod -/
def uA (K : PySem.W.Frag) (C m : Str) : Addr := match K.lookup (He.ma K (He.ga K C) m) with
  | some ⟨_, _, .fields vs, _⟩ => (match (vs[0]? : Option Value) with
    | some (.ref g) => g
    | _ => 0)
  | _ => He.ma K (He.ga K C) m
theorem funK_at {K : PySem.W.Frag} {x qual : Str} {st : Stmt} {f : Addr} (e : fnC K (fun _ => f) = some (x, qual, defArgs st, .stmts (defBody st), defScope st, mainGlobals, [], builtinsNs)) (c : fB K f qual = true) : FunK K x qual st f := by
  unfold fB at c
  obtain ⟨kp, c2⟩ := He.ba c
  unfold fnC at e
  cases q : K.lookup f with
  | none => rw [q] at c2; cases c2
  | some o =>
    obtain ⟨oc, od, dt, osl⟩ := o
    rw [q] at c2 e
    cases dt with
    | func fd =>
      obtain ⟨n1, n2, n3, n4, n5, n6, n7, n8, n9, n10, n11, n12, n13, n14, n15⟩ := fd
      simp only [Option.some.injEq, Prod.mk.injEq, List.map_eq_nil_iff] at e
      obtain ⟨h1, h2, h3, h4, h5, h6, h7, h8⟩ := e
      subst h1 h2 h3 h4 h5 h6 h7 h8
      obtain ⟨k1, k2⟩ := He.ba c2
      obtain ⟨k3, k4⟩ := He.ba k2
      have FD : FunD K n1 n2 (defArgs st) (defBody st) (defScope st) [] [] f _ := ⟨⟨oc, od, n8, n9, n10, n11, n12, n13, n14, osl, rfl, q, k1, He.dflB_ok k3, He.kwdB_ok k4⟩, kp⟩
      exact funK_of (c := ⟨(n1, none), n1, n2, defArgs st, defBody st, defScope st, [], []⟩) FD rfl rfl rfl rfl rfl rfl kp
    | _ => cases c2
/-- a property f of the class C -/
def propB (K : PySem.W.Frag) (C f : Str) : Bool := He.eqO (PySem.W.findIn K (.ref (He.ga K C)) f) (some (some (.ref (He.ma K (He.ga K C) f)))) && (He.eqO (PySem.W.specialIn K (.ref (He.ma K (He.ga K C) f)) "__get__") (some (some (.builtin "property.__get__"))) &&
  (decide (PySem.W.takesIn K (.ref (He.ma K (He.ga K C) f)) = some true) && (match PySem.W.recIn K (He.ma K (He.ga K C) f) "property" with
    | some (v :: _) => v == .ref (uA K C f)
    | _ => false)))
theorem propB_ok {K : PySem.W.Frag} {C f : Str} (h : propB K C f = true) : PropOf K (He.ga K C) f (He.ma K (He.ga K C) f) (uA K C f) := by
  unfold propB at h
  obtain ⟨h1, h⟩ := He.ba h
  obtain ⟨h2, h⟩ := He.ba h
  obtain ⟨h3, h4⟩ := He.ba h
  refine ⟨He.eqO_ok h1, He.eqO_ok h2, of_decide_eq_true h3, ?_⟩
  split at h4
  · rename_i v r e
    rw [eq_of_beq h4] at e
    exact ⟨r, e⟩
  · cases h4
/-- a classmethod m of the class C -/
def cmB (K : PySem.W.Frag) (C m : Str) : Bool := PySem.W.readsIn K (He.ga K C) (.type "type") && (He.eqO (PySem.W.specialIn K (.ref (He.ga K C)) "__getattribute__") (some (some (.builtin "type.__getattribute__"))) &&
  ((match PySem.W.findCls K (.ref (He.ga K C)) (.type "type") m with
    | some (.get (.builtin n) (.ref p) .none (.ref C')) => decide (n = "classmethod.__get__") && (decide (p = He.ma K (He.ga K C) m) && decide (C' = He.ga K C))
    | _ => false) && ((match PySem.W.recIn K (He.ma K (He.ga K C) m) "classmethod" with
    | some (v :: _) => v == .ref (uA K C m)
    | _ => false) && PySem.W.fnIn K (uA K C m))))
theorem cmB_ok {K : PySem.W.Frag} {C m : Str} (h : cmB K C m = true) : ClX.CRead K (He.ga K C) (.type "type") ∧ ClX.CMet K (He.ga K C) (.type "type") m (He.ma K (He.ga K C) m) (uA K C m) := by
  unfold cmB at h
  obtain ⟨h1, h⟩ := He.ba h
  obtain ⟨h2, h⟩ := He.ba h
  obtain ⟨h3, h⟩ := He.ba h
  obtain ⟨h4, h5⟩ := He.ba h
  refine ⟨⟨h1, He.eqO_ok h2⟩, ?_, ?_, h5⟩
  · split at h3
    · rename_i n p C' e
      obtain ⟨z1, z⟩ := He.ba h3
      obtain ⟨z2, z3⟩ := He.ba z
      rw [of_decide_eq_true z1, of_decide_eq_true z2, of_decide_eq_true z3] at e
      exact e
    · cases h3
  · split at h4
    · rename_i v r e
      rw [eq_of_beq h4] at e
      exact ⟨r, e⟩
    · cases h4
end DL

/-! The data layer: operators of the text's own classes. -/
namespace DL
open PySem PySem.Spec L2 PyProof.Rows
/-! ### operations that may raise -/
abbrev RDLE := List D → MM → DK → EK → Prop
abbrev RD2E := D → D → MM → DK → EK → Prop
abbrev RD1E := D → MM → DK → EK → Prop
def BCallX (X : Cx) (W : WX) (f : Value) (rd : RDLE) : Prop := ∀ (pins : List (Addr × Obj)) (s : Shared) (σ : L2.St) (H HI : Hp) (M : MM) (vs : List V) (us : List Value) (ds : List D) (Q : DK) (E : EK) (Qv : VK), Inv X pins σ H s → Vals vs us → Ok X.K HI M H → RepL X.K HI vs ds → rd ds M Q E →
  (∀ v H', low X.K HI M H Q v H' → Qv v H') → WOk X.K W HI M H σ E → wpAny (model X.prog X.w) X.A (call f us) (EP X pins σ Qv) X.xe s
def Op2X (X : Cx) (W : WX) (f : Value → Value → Sem Value) (rd : RD2E) : Prop := ∀ (pins : List (Addr × Obj)) (s : Shared) (σ : L2.St) (H HI : Hp) (M : MM) (x y : V) (u v : Value) (dx dy : D) (Q : DK) (E : EK) (Qv : VK), Inv X pins σ H s → RelV x u → RelV y v → Ok X.K HI M H → Rep X.K HI x dx → Rep X.K HI y dy → rd dx dy M Q E →
  (∀ v H', low X.K HI M H Q v H' → Qv v H') → WOk X.K W HI M H σ E → wpAny (model X.prog X.w) X.A (f u v) (EP X pins σ Qv) X.xe s
def Op1X (X : Cx) (W : WX) (f : Value → Sem Value) (rd : RD1E) : Prop := ∀ (pins : List (Addr × Obj)) (s : Shared) (σ : L2.St) (H HI : Hp) (M : MM) (x : V) (u : Value) (dx : D) (Q : DK) (E : EK) (Qv : VK), Inv X pins σ H s → RelV x u → Ok X.K HI M H → Rep X.K HI x dx → rd dx M Q E →
  (∀ v H', low X.K HI M H Q v H' → Qv v H') → WOk X.K W HI M H σ E → wpAny (model X.prog X.w) X.A (f u) (EP X pins σ Qv) X.xe s
theorem BCallX.of {X : Cx} {W : WX} {f : Value} {r : List V → Hp → VK → Prop} {rd : RDL} (hc : CallR X f r) (hr : CrD X.K r rd) : BCallX X W f (fun ds M Q _ => rd ds M Q) :=
  fun pins s σ H HI M vs us ds Q E Qv I rv ok rl h k _ => hc pins s σ H vs us Qv I rv (hr HI M H vs ds Q Qv ok rl h k)
theorem Op2X.of {X : Cx} {W : WX} {f : Value → Value → Sem Value} {r : R2} {rd : RD2} (hc : OpR X f r) (hr : OpD X.K r rd) : Op2X X W f (fun x y M Q _ => rd x y M Q) :=
  fun pins s σ H HI M x y u v dx dy Q E Qv I rx ry ok r1 r2 h k _ => hc pins s σ H x y u v Qv I rx ry (hr HI M H x y dx dy Q Qv ok r1 r2 h k)
def tcbE (rd : RDLE) (ts : TDL) : TD := fun σ M Q E => ts σ M (fun xs M1 => rd xs M1 Q E) E
def to2E (rd : RD2E) (ta tb : TD) : TD := fun σ M Q E => ta σ M (fun x M1 => tb σ M1 (fun y M2 => rd x y M2 Q E) E) E
def to1E (rd : RD1E) (ta : TD) : TD := fun σ M Q E => ta σ M (fun x M1 => rd x M1 Q E) E
section
variable {X : Cx} {W : WX} {pos p : Pos} {e a b : Expr} {es : List Expr} {ts : TDL} {ta tb' : TD} {id T : String} {x : Str}
theorem d_callX {rd : RDLE} (hc : BCallX X W (.builtin id) rd) (hg : Gl X x) (hm : X.mg x = none) (hv : bootBuiltins x = some (.builtin id)) (ha : DA X W (e :: es) ts) (hn : x ≠ "__name__" := by decide) (hdb : (x == ("__debug__" : Str)) = false := by decide)
    (he : starEach (e :: es) X.env = (false, eval e X.env) :: starEach es X.env := by rfl) (hpl : (backTo pos (starEach es X.env)).any (·.1) = false := by rfl) : DE X W (.Call (.Name x p) (e :: es) [] pos) (tcbE rd ts) := by
  refine ⟨fun pins s σ H Qv I h => ?_⟩
  obtain ⟨HI, σd, M, Q, E, ok, re, h, k, we⟩ := h
  refine wpAny_Call_Name_kw (ld_blt I hg hm hv ?_ hn hdb)
  exact PyProof.Rows.callWith_builtin1 (thn (ha.run pos pins s σ H _ I ⟨HI, σd, M, _, E, ok, re, h, fun v H' z => z, we⟩) fun us s1 ⟨vs, H1, I1, r1, HI1, M1, ds, s1', ok1, rl, h1⟩ =>
    hc pins s1 σ H1 HI1 M1 vs us ds Q E Qv I1 r1 ok1 rl h1 (fun v H' z => k v H' (z.of s1')) (we.up s1')) he hpl
theorem d_callXT {rd : RDLE} (hc : BCallX X W (.type T) rd) (hg : Gl X x) (hm : X.mg x = none) (hv : bootBuiltins x = some (.type T)) (ha : DA X W (e :: es) ts) (hn : x ≠ "__name__" := by decide) (hdb : (x == ("__debug__" : Str)) = false := by decide)
    (he : starEach (e :: es) X.env = (false, eval e X.env) :: starEach es X.env := by rfl) (hpl : (backTo pos (starEach es X.env)).any (·.1) = false := by rfl) : DE X W (.Call (.Name x p) (e :: es) [] pos) (tcbE rd ts) := by
  refine ⟨fun pins s σ H Qv I h => ?_⟩
  obtain ⟨HI, σd, M, Q, E, ok, re, h, k, we⟩ := h
  refine wpAny_Call_Name_kw (ld_blt I hg hm hv ?_ hn hdb)
  exact PyProof.Rows.callWith_type1 (thn (ha.run pos pins s σ H _ I ⟨HI, σd, M, _, E, ok, re, h, fun v H' z => z, we⟩) fun us s1 ⟨vs, H1, I1, r1, HI1, M1, ds, s1', ok1, rl, h1⟩ =>
    hc pins s1 σ H1 HI1 M1 vs us ds Q E Qv I1 r1 ok1 rl h1 (fun v H' z => k v H' (z.of s1')) (we.up s1')) he hpl
/-- two sides, then what follows -/
theorem run2 {pins : List (Addr × Obj)} {σ : L2.St} {H : Hp} {s : Shared} {Qv : VK} {rd : RD2E} {F : Value → Value → Sem Value} (hc : Op2X X W F rd) (ha : DE X W a ta) (hb : DE X W b tb') (I : Inv X pins σ H s) (h : upE X.K W (to2E rd ta tb') σ H Qv) :
    wpAny (model X.prog X.w) X.A (eval a X.env) (fun u s1 => wpAny (model X.prog X.w) X.A (eval b X.env) (fun v s2 => wpAny (model X.prog X.w) X.A (F u v) (EP X pins σ Qv) X.xe s2) X.xe s1) X.xe s := by
  obtain ⟨HI, σd, M, Q, E, ok, re, h, k, we⟩ := h
  refine thn (ha.run pins s σ H _ I ⟨HI, σd, M, _, E, ok, re, h, fun v H' z => z, we⟩) fun u s1 ⟨x, H1, I1, rx, HI1, M1, d1, s1', ok1, r1, h1⟩ => ?_
  refine thn (hb.run pins s1 σ H1 _ I1 ⟨HI1, σd, M1, _, E, ok1, re.up s1'.sm, h1, fun v H' z => z, we.up s1'⟩) fun v s2 ⟨y, H2, I2, ry, HI2, M2, d2, s2', ok2, r2, h2⟩ => ?_
  exact hc pins s2 σ H2 HI2 M2 x y u v d1 d2 Q E Qv I2 rx ry ok2 (r1.up s2'.sm) r2 h2 (fun v H' z => k v H' (z.of (s1'.trans s2'))) (we.up (s1'.trans s2'))
theorem d_binX {op : Operator} {rd : RD2E} (hc : Op2X X W (binaryOp op) rd) (ha : DE X W a ta) (hb : DE X W b tb') : DE X W (.BinOp a op b pos) (to2E rd ta tb') := ⟨fun pins s σ H Q I h => wpAny_BinOp (run2 hc ha hb I h)⟩
theorem d_cmpX {op : CmpOp} {rd : RD2E} (hc : Op2X X W (compareOp op) rd) (ha : DE X W a ta) (hb : DE X W b tb') (hm : behindInMarks op b = false := by first | exact nomark _ | rfl) : DE X W (.Compare a [op] [b] pos) (to2E rd ta tb') :=
  ⟨fun pins s σ H Q I h => wpAny_Compare1 (run2 hc ha hb I h) hm⟩
theorem t_cmpX {op : CmpOp} {rd : RD2E} (hc : Op2X X W (compareOp op) rd) (ha : DE X W a ta) (hb : DE X W b tb') (hm : behindInMarks op b = false := by first | exact nomark _ | rfl) : DT X W (.Compare a [op] [b] pos) (tbl (to2E rd ta tb')) := by
  refine ⟨fun pins s σ H Qv I h => ?_⟩
  obtain ⟨HI, σd, M, Q, E, ok, re, h, k, we⟩ := h
  have z := run2 (Qv := fun v H' => ∃ c, v = .bl c ∧ Qv c H') hc ha hb I ⟨HI, σd, M, _, E, ok, re, h, fun v H1 ⟨HI1, M1, d1, s1, ok1, r1, h1⟩ => by
    cases r1 with
    | bl c => exact ⟨c, rfl, k _ _ ⟨HI1, M1, s1, ok1, h1⟩⟩
    | _ => exact h1.elim, we⟩
  refine wpAny_isTrue_Compare1 (thn z fun u s1 z1 => thn z1 fun v s2 z2 => thn z2 fun c s3 ⟨zv, H3, I3, r3, k', e, q3⟩ => ?_) hm
  subst e
  cases r3
  exact wpAny_truthy_bool ⟨H3, I3, q3⟩
theorem d_unX {op : UnaryOp} {rd : RD1E} (hc : Op1X X W (unaryOp op) rd) (ha : DE X W a ta) : DE X W (.UnaryOp op a pos) (to1E rd ta) := by
  refine ⟨fun pins s σ H Qv I h => ?_⟩
  obtain ⟨HI, σd, M, Q, E, ok, re, h, k, we⟩ := h
  exact UnaryOp_ (thn (ha.run pins s σ H _ I ⟨HI, σd, M, _, E, ok, re, h, fun v H' z => z, we⟩) fun u s1 ⟨x, H1, I1, rx, HI1, M1, d1, s1', ok1, r1, h1⟩ =>
    hc pins s1 σ H1 HI1 M1 x u d1 Q E Qv I1 rx ok1 r1 h1 (fun v H' z => k v H' (z.of s1')) (we.up s1'))
/-- name op= e -/
def saugX (i : Nat) (te : TD) (rd : RD2E) : TDS := fun D σ M => match σ[i]? with
  | some (some a) => te σ M (fun b M1 => rd a b M1 (fun d M2 => D.nx (σ.set i (some d)) M2) (fun x M2 => D.ex x σ M2)) (fun x M1 => D.ex x σ M1)
  | _ => False
theorem s_augX {i : Nat} {op : Operator} {rd : RD2E} {pos' : Pos} (hc : Op2X X W (inplaceOp op) rd) (hN : X.N.Nodup) (hi : X.N[i]? = some x) (hx : X.env.scope.names.lookup x = some .local) (he : DE X W e ta) (hkd : X.env.kindOf x = some .local := by rfl) : DS X W (.AugAssign (.Name x pos') op e pos) (saugX i ta rd) := by
  refine ⟨fun pins s σ H Dv I h => ?_⟩
  obtain ⟨HI, σd, M, Dd, ok, re, h, r⟩ := h
  unfold saugX at h
  split at h
  · rename_i d0 e0
    obtain ⟨v0, e1, r0⟩ := re.get e0
    obtain ⟨m, hn, hl⟩ := I.loc
    obtain ⟨u0, ru, l⟩ := hl i x v0 hi e1 (.inl hx)
    refine wpAny_AugAssign_Name ?_
    have go : wpAny (model X.prog X.w) X.A (eval e X.env) (fun w s₂ => wpAny (model X.prog X.w) X.A (inplaceOp op u0 w) (fun r s₃ => wpAny (model X.prog X.w) X.A (storeName X.env x r) (fun _ => SP X pins Dv .next) X.xe s₃) X.xe s₂) X.xe s := by
      refine thn (he.run pins s σ H _ I ⟨HI, σd, M, _, _, ok, re, h, fun v H' z => z, r.ex HI σ H σd M .refl re⟩) fun w s1 ⟨y, H1, I1, ry, HI1, M1, d1, s1', ok1, r1, h1⟩ => ?_
      refine thn (hc pins s1 σ H1 HI1 M1 v0 y u0 w d0 d1 _ _ _ I1 ru ry ok1 (r0.up s1'.sm) r1 h1 (fun v H' z => z) (r.ex HI1 σ H1 σd M1 s1' (re.up s1'.sm))) fun z s2 ⟨zv, H2, I2, rz, HI2, M2, d2, s2', ok2, r2, h2⟩ => ?_
      exact store_ok I2 hN hi (.inl hx) rz (fun s3 I3 => ⟨_, H2, I3, r.nx HI2 _ H2 _ M2 (s1'.trans s2') ok2 ((re.up (s1'.trans s2').sm).set r2 i) h2⟩) (.inr hx)
    rcases l with ⟨hk, hm⟩ | ⟨hk, c, hc2, hcell⟩
    · exact wpAny_loadName_local I.ok.kind hk hn hm go
    · rw [hkd] at hk
      rcases hk with hk | hk <;> cases hk
  · exact h.elim
end
/-! ### an instance and its special methods -/
section
variable {X : Cx} {W : WX} {k : Nat} {tab : MTab} {m : Str}
theorem relV_back {Q : Value → Shared → Prop} {v : V} {u : Value} {s : Shared} (r : RelV v u) (q : Q u s) : PySem.W.CmpBack Q u s := by
  cases v with
  | non => cases (show u = Value.none from r); exact q
  | bl b => cases (show u = Value.bool b from r); exact q
  | int i => obtain ⟨t, e⟩ := (show ∃ t, u = Value.int i t from r); cases e; exact q
  | str x => obtain ⟨t, e⟩ := (show ∃ t, u = Value.str x t from r); cases e; exact q
  | byt b => obtain ⟨t, e⟩ := (show ∃ t, u = Value.bytes b t from r); cases e; exact q
  | flt b => obtain ⟨t, e⟩ := (show ∃ t, u = Value.float b t from r); cases e; exact q
  | ref a => cases (show u = Value.ref a from r); exact q
  | ty n => cases (show u = Value.type n from r); exact q
theorem ins_look {pins : List (Addr × Obj)} {σ : L2.St} {H HI : Hp} {s : Shared} {M : MM} {p : Addr} {C : Str} {fs : List (Str × D)} (I : Inv X pins σ H s) (ok : Ok X.K HI M H) (e : M p = some (.ins C fs)) : ∃ ox od, PySem.W.InstAt s.heap p ox (He.ga X.K C) od := by
  obtain ⟨dx, vs, hx, pf⟩ := ok.var p _ e
  obtain ⟨mA, O, _⟩ := ins_get I.hok hx
  obtain ⟨od, J, _⟩ := O.look
  exact ⟨_, _, J⟩
theorem lift_of {σ : L2.St} {H HI : Hp} {M : MM} {sp : SpD} {vs : List V} {ds : List D} {Q : DK} {E : EK} {Qv : VK} (ok : Ok X.K HI M H) (r : RepL X.K HI vs ds) (h : sp ds M Q E) (k : ∀ v H', low X.K HI M H Q v H' → Qv v H') (we : WOk X.K W HI M H σ E) :
    lift X.K sp vs H Qv fun c d H' => W c d σ H' := ⟨HI, M, ds, Q, E, ok, r, h, k, we⟩
/-! len -/
def rdLenO (tab : MTab) : RDLE := fun ds M Q E => match ds with
  | [x] => onCls tab x M fun sp => sp [x] M (fun v M2 => match v with
    | .int n => (0 ≤ n ∧ n < 2 ^ 63) ∧ Q (.int n) M2
    | _ => False) E
  | _ => False
theorem bx_len (T : MethT X.prog X.w X.K X.mg X.base k "__len__" [] tab) (hr : Rm (k + 1) X.A) (tk : Takes X W) : BCallX X W (.builtin "len") (rdLenO tab) := by
  intro pins s σ H HI M vs us ds Q E Qv I rv ok rl h kq we
  unfold rdLenO at h
  split at h
  · rename_i x
    obtain ⟨p, C, fs, sp, ex, eM, et, q⟩ := onCls_at h
    subst ex
    obtain ⟨c, g, hm, F⟩ := T.at_ C sp et
    obtain ⟨ox, od, J⟩ := ins_look I ok eM
    obtain ⟨m, hF⟩ := I.fr
    cases rl with
    | cons r1 rr =>
      cases rr
      cases r1
      have e := rv.ref1
      subst e
      refine PySem.W.len_K hF I.ok.mod.kin J hm.at_ hm.fn (wpAny_mono (run_c1 (us := [.ref p]) (vs := [.ref p]) F hr (passW tk I) I (.cons rfl .nil) (lift_of (Qv := fun v H' => ∃ n, v = .int n ∧ (0 ≤ n ∧ n < 2 ^ 63) ∧ Qv (.int n) H') ok (.cons (.ref p) .nil) q (fun v H' ⟨HI1, M1, d1, s1, ok1, r1, q1⟩ => ?_) we)) (fun u s' ⟨v, H', I', r', n, en, hn, q'⟩ => ?_) fun _ _ z => z)
      · cases r1 with
        | int n => exact ⟨n, rfl, q1.1, kq _ _ ⟨HI1, M1, _, s1, ok1, .int n, q1.2⟩⟩
        | _ => exact q1.elim
      · subst en
        obtain ⟨t, rfl⟩ := r'
        exact ⟨hn, .int n, H', I'.tok _, ⟨_, rfl⟩, q'⟩
  · exact h.elim
/-! ~ -/
def rdUnO (tab : MTab) : RD1E := fun x M Q E => onCls tab x M fun sp => sp [x] M Q E
theorem ox_inv (T : MethT X.prog X.w X.K X.mg X.base k "__invert__" [] tab) (hr : Rm k X.A) (tk : Takes X W) : Op1X X W (unaryOp .Invert) (rdUnO tab) := by
  intro pins s σ H HI M x u dx Q E Qv I rx ok r1 h kq we
  obtain ⟨p, C, fs, sp, ex, eM, et, q⟩ := onCls_at h
  subst ex
  obtain ⟨c, g, hm, F⟩ := T.at_ C sp et
  obtain ⟨ox, od, J⟩ := ins_look I ok eM
  obtain ⟨m, hF⟩ := I.fr
  cases r1
  obtain rfl : u = Value.ref p := rx
  exact PySem.W.ksp_inv hF I.ok.mod.kin J hm.at_ hm.fn (run_c0 (us := [.ref p]) (vs := [.ref p]) F hr (passW tk I) I (.cons rfl .nil) (lift_of ok (.cons (.ref p) .nil) q kq we))
/-! x in o -/
def rdInO (tab : MTab) (neg : Bool) : RD2E := fun x y M Q E => onCls tab y M fun sp => sp [y, x] M (fun v M2 => match v with
  | .bl b => Q (.bl (neg ^^ b)) M2
  | _ => False) E
theorem ox_in (T : MethT X.prog X.w X.K X.mg X.base k "__contains__" [] tab) (hr : Rm k X.A) (tk : Takes X W) : Op2X X W (compareOp .In) (rdInO tab false) := by
  intro pins s σ H HI M x y u v dx dy Q E Qv I rx ry ok r1 r2 h kq we
  obtain ⟨p, C, fs, sp, ex, eM, et, q⟩ := onCls_at h
  subst ex
  obtain ⟨c, g, hm, F⟩ := T.at_ C sp et
  obtain ⟨ox, od, J⟩ := ins_look I ok eM
  obtain ⟨m, hF⟩ := I.fr
  cases r2
  obtain rfl : v = Value.ref p := ry
  refine PySem.W.in_K hF I.ok.mod.kin J hm.at_ hm.fn (wpAny_mono (run_c0 (us := [.ref p, u]) (vs := [.ref p, x]) F hr (passW tk I) I (.cons rfl (.cons rx .nil)) (lift_of (Qv := fun v H' => ∃ b, v = .bl b ∧ Qv (.bl b) H') ok (.cons (.ref p) (.cons r1 .nil)) q (fun v H' ⟨HI1, M1, d1, s1, ok1, r1, q1⟩ => ?_) we)) (fun u s' ⟨v, H', I', r', b, en, q'⟩ => ?_) fun _ _ z => z)
  · cases r1 with
    | bl b =>
      have q1 : Q (.bl (false ^^ b)) M1 := q1
      rw [Bool.false_xor] at q1
      exact ⟨b, rfl, kq _ _ ⟨HI1, M1, _, s1, ok1, .bl b, q1⟩⟩
    | _ => exact q1.elim
  · subst en
    cases r'
    exact wpAny_truthy_bool ⟨.bl b, H', I', rfl, q'⟩
/-! o + x, x + o, o += x -/
theorem du_add : PySem.dunder (Operator.Add.info).2 = ("__add__" : Str) := by decide +kernel
theorem du_radd : PySem.dunderR (Operator.Add.info).2 = ("__radd__" : Str) := by decide +kernel
theorem du_iadd : PySem.dunderI (Operator.Add.info).2 = ("__iadd__" : Str) := by decide +kernel
/-- a number's + declines an own object -/
theorem int_add_own (a : Int) (t : Tok) (l : Addr) (C : Addr) (dx : Addr) :
    Meets (Builtin.«int.__add__» ⟨[.int a t, .ref l], []⟩) (fun _ R s => s.heap.get? l = some { cls := .ref C, dict := some dx, data := .plain, slots := #[] } ∧ R (.ok (.ret Value.notImplemented)) s) :=
  .of_wp fun prog w A R s h => by obtain ⟨hp, g, d, tk, os⟩ := s; obtain ⟨hl, h⟩ := h; wp_walk; exact ⟨_, rfl, h⟩
end
section
open PySem.W
variable {prog : Program} {w : World} {A : Around} {E : Value → Shared → Prop} {s : Shared} {K : Frag} {x C L f g : Addr} {h₀ : Heap} {m : Str → Option Value} {ox : Obj} {od : Option Obj} {T : String}
/-- a + o: the left side's type is built-in, it declines -/
theorem bin_right {op : Operator} {a : Value} {fo ro : Option Value} {Q : Value → Shared → Prop} (F : Fr h₀ L s.heap m) (X₀ : K.In h₀) (I : InstAt s.heap x ox C od) (ha : typeOf a = pure (.type T)) (hc : selfFirst K C = true)
    (hs : findIn K (.ref C) (PySem.dunder op.info.2) = some (some (.ref f))) (hr : findIn K (.ref C) (dunderR op.info.2) = some (some (.ref g))) (hg : isFn K (.ref g) = true)
    (h1 : findIn K (.type T) (PySem.dunder op.info.2) = some fo) (h2 : findIn K (.type T) (dunderR op.info.2) = some ro) (hsub : subIn K (.ref C) (.type T) = some false)
    (hd : ((fo.isSome && !isSeqSlot fo) || (ro.isSome && !isSeqSlot ro)) = true → ∀ Q' : Option Value → Shared → Prop, Q' none s → wpAny (model prog w) A (tryMethod a (PySem.dunder op.info.2) (.ref x)) Q' E s)
    (h : wpAny (model prog w) A (call (.ref g) [.ref x, a]) (PySem.W.CmpBack Q) E s) : wpAny (model prog w) A (binaryOp op a (.ref x)) Q E s := by
  have X := X₀.keeps F.keep
  obtain ⟨cd, rest, hcd, hm⟩ := ksp_first hc
  rcases hi : op.info with ⟨sym, nm'⟩
  rw [hi] at hs hr h1 h2 hd
  dsimp only at hs hr h1 h2 hd
  have one := ksp_try X I hr hg h
  obtain ⟨hh, gg, d, tt, os⟩ := s
  have L1 : Looks (model prog w) hh (typeOf (.ref x)) (.ref C) := I.type
  have L2 : Looks (model prog w) hh (typeOf a) (.type T) := Looks.of_pure ha
  have L3 : Looks (model prog w) hh (fillsNumberSlot (.ref C) nm') true := fills_K X hcd hm hs
  have L4 : Looks (model prog w) hh (fillsNumberSlot (.type T) nm') ((fo.isSome && !isSeqSlot fo) || (ro.isSome && !isSeqSlot ro)) := ksp_fillsT X h1 h2
  have L5 : Looks (model prog w) hh (isSubtype (.ref C) (.type T)) false := looks_subIn X hsub
  have L7 : Looks (model prog w) hh (numberSlotInPython (.type T) nm') false := Looks.of_pure rfl
  generalize ((fo.isSome && !isSeqSlot fo) || (ro.isSome && !isSeqSlot ro)) = left at L4 hd
  have hne : (Value.type T == Value.ref C) = false := Bool.eq_false_iff.mpr fun q => by cases beq_iff_eq.mp q
  simp only [binaryOp, hi]
  refine wpAny_holding (wpAny_bind ?_)
  unfold binaryOp1
  refine wpAny_bind (L2.at (wpAny_bind (L1.at (wpAny_bind (L4.at ?_)))))
  simp only [hne, Bool.false_eq_true, if_false]
  cases left with
  | false =>
    ksp_lk
    refine wpAny_mono one (fun r s' hr' => ?_) fun _ _ e => e
    obtain ⟨v, rfl, hq⟩ := hr'
    ksp_lk
    exact hq
  | true =>
    ksp_lk
    refine hd rfl _ ?_
    ksp_lk
    refine wpAny_mono one (fun r s' hr' => ?_) fun _ _ e => e
    obtain ⟨v, rfl, hq⟩ := hr'
    ksp_lk
    exact hq
end

/-- what a class with its own + must have beside numbers -/
def numB (K : PySem.W.Frag) (C : Str) : Bool := PySem.W.selfFirst K (He.ga K C) && (decide (PySem.W.subIn K (.type "int") (.ref (He.ga K C)) = some false) && decide (PySem.W.subIn K (.ref (He.ga K C)) (.type "int") = some false))
theorem tab1 {C C' : Str} {sp sp' : SpD} (h : List.lookup C' [(C, sp)] = some sp') : C' = C ∧ sp' = sp := by
  rw [List.lookup_cons] at h
  by_cases hq : (C' == C) = true
  · rw [hq] at h
    cases h
    exact ⟨eq_of_beq hq, rfl⟩
  · rw [show (C' == C) = false by simpa using hq] at h
    cases h
theorem look1 {C : Str} {sp : SpD} : List.lookup C [(C, sp)] = some sp := by rw [List.lookup_cons, beq_self_eq_true]
theorem int_fo (K : PySem.W.Frag) : PySem.W.findIn K (.type "int") (PySem.dunder (Operator.Add.info).2) = some (some (.builtin "int.__add__")) := by rw [du_add]; show PySem.fastLookup "int" _ = _; decide +kernel
theorem int_ro (K : PySem.W.Frag) : PySem.W.findIn K (.type "int") (PySem.dunderR (Operator.Add.info).2) = some (some (.builtin "int.__radd__")) := by rw [du_radd]; show PySem.fastLookup "int" _ = _; decide +kernel
def rdAddO (C : Str) (sp spr : SpD) : RD2E := fun x y M Q E => match x, y with
  | .int i, .ref p => onCls [(C, spr)] (.ref p) M fun sp => sp [.ref p, .int i] M Q E
  | .ref p, .int i => onCls [(C, sp)] (.ref p) M fun sp => sp [.ref p, .int i] M Q E
  | .ref p, .ref q => onCls [(C, sp)] (.ref q) M fun _ => onCls [(C, sp)] (.ref p) M fun sp => sp [.ref p, .ref q] M Q E
  | x, y => rdAdd x y M Q
section
variable {X : Cx} {W : WX} {k : Nat} {C : Str} {sp spr : SpD}
theorem ox_add (T : MethT X.prog X.w X.K X.mg X.base k "__add__" [] [(C, sp)]) (Tr : MethT X.prog X.w X.K X.mg X.base k "__radd__" [] [(C, spr)]) (hn : numB X.K C = true) (hr : Rm k X.A) (tk : Takes X W) : Op2X X W (binaryOp .Add) (rdAddO C sp spr) := by
  obtain ⟨n1, n23⟩ := He.ba hn
  obtain ⟨n2, n3⟩ := He.ba n23
  have n2 := of_decide_eq_true n2
  have n3 := of_decide_eq_true n3
  obtain ⟨c, g, hm, F⟩ := T.at_ C sp look1
  obtain ⟨_, gr, hmr, Fr⟩ := Tr.at_ C spr look1
  have a1 : PySem.W.findIn X.K (.ref (He.ga X.K C)) (PySem.dunder (Operator.Add.info).2) = some (some (.ref g)) := by rw [du_add]; exact hm.at_
  have a2 : PySem.W.findIn X.K (.ref (He.ga X.K C)) (PySem.dunderR (Operator.Add.info).2) = some (some (.ref gr)) := by rw [du_radd]; exact hmr.at_
  intro pins s σ H HI M x y u v dx dy Q E Qv I rx ry ok r1 r2 h kq we
  obtain ⟨m, hF⟩ := I.fr
  unfold rdAddO at h
  split at h
  · rename_i i p
    obtain ⟨p', C', fs, sp', ex, eM, et, q⟩ := onCls_at h
    cases ex
    obtain ⟨rfl, rfl⟩ := tab1 et
    obtain ⟨ox, od, J⟩ := ins_look I ok eM
    obtain ⟨dxx, vs, hx, pf⟩ := ok.var p _ eM
    obtain ⟨mA, O, _⟩ := ins_get I.hok hx
    cases r1
    cases r2
    obtain ⟨t, rfl⟩ := rx
    obtain rfl : v = Value.ref p := ry
    refine bin_right hF I.ok.mod.kin J rfl n1 a1 a2 hmr.fn (int_fo _) (int_ro _) n3 (fun _ Q' hq => ?_) (wpAny_mono (run_c0 (us := [.ref p, .int i t]) (vs := [.ref p, .int i]) Fr hr (passW tk I) I (.cons rfl (.cons ⟨t, rfl⟩ .nil)) (lift_of ok (.cons (.ref p) (.cons (.int i) .nil)) q kq we)) (fun u s' ⟨v, H', I', r', q'⟩ => relV_back r' ⟨v, H', I', r', q'⟩) fun _ _ z => z)
    unfold tryMethod
    refine wpAny_bind (wpAny_callSpecial?_slot (name := PySem.dunder (Operator.Add.info).2) (typeIs_int s i t) PySem.F.slot_int_add ?_)
    refine call_meets PySem.F.slot_int_add (typeIs_int s i t) PySem.F.entry_int_add (PySem.F.args_int_add_2 _ _) (int_add_own i t p (He.ga X.K C') dxx) ⟨O.obj, ?_⟩
    exact wpAny_pure hq
  · rename_i p i
    obtain ⟨p', C', fs, sp', ex, eM, et, q⟩ := onCls_at h
    cases ex
    obtain ⟨rfl, rfl⟩ := tab1 et
    obtain ⟨ox, od, J⟩ := ins_look I ok eM
    cases r1
    cases r2
    obtain ⟨t, rfl⟩ := ry
    obtain rfl : u = Value.ref p := rx
    exact PySem.W.ksp_binT hF I.ok.mod.kin J rfl n1 a1 hm.fn a2 (.inr ⟨_, rfl⟩) (int_fo _) (int_ro _) n2 (wpAny_mono (run_c0 (us := [.ref p, .int i t]) (vs := [.ref p, .int i]) F hr (passW tk I) I (.cons rfl (.cons ⟨t, rfl⟩ .nil)) (lift_of ok (.cons (.ref p) (.cons (.int i) .nil)) q kq we)) (fun u s' ⟨v, H', I', r', q'⟩ => relV_back r' ⟨v, H', I', r', q'⟩) fun _ _ z => z)
  · rename_i p p2
    obtain ⟨p', C', fs, sp', ex, eM2, et, h⟩ := onCls_at h
    cases ex
    obtain ⟨rfl, _⟩ := tab1 et
    obtain ⟨p'', C'', fs', sp'', ex, eM, et', q⟩ := onCls_at h
    cases ex
    obtain ⟨rfl, rfl⟩ := tab1 et'
    obtain ⟨ox, od, J⟩ := ins_look I ok eM
    obtain ⟨ox2, od2, J2⟩ := ins_look I ok eM2
    cases r1
    cases r2
    obtain rfl : u = Value.ref p := rx
    obtain rfl : v = Value.ref p2 := ry
    exact PySem.W.binop_K hF I.ok.mod.kin J J2.type n1 a1 hm.fn (wpAny_mono (run_c0 (us := [.ref p, .ref p2]) (vs := [.ref p, .ref p2]) F hr (passW tk I) I (.cons rfl (.cons rfl .nil)) (lift_of ok (.cons (.ref p) (.cons (.ref p2) .nil)) q kq we)) (fun u s' ⟨v, H', I', r', q'⟩ => relV_back r' ⟨v, H', I', r', q'⟩) fun _ _ z => z)
  · exact o_add pins s σ H x y u v Qv I rx ry (od_add HI M H x y dx dy Q Qv ok r1 r2 h kq)
/-- o += x -/
def rdIAddO (C : Str) (sp : SpD) : RD2E := fun x y M Q E => onCls [(C, sp)] x M fun sp => sp [x, y] M Q E
theorem ox_iadd (T : MethT X.prog X.w X.K X.mg X.base k "__iadd__" [] [(C, sp)]) (hn : numB X.K C = true) (hr : Rm k X.A) (tk : Takes X W) : Op2X X W (inplaceOp .Add) (rdIAddO C sp) := by
  obtain ⟨n1, _⟩ := He.ba hn
  obtain ⟨c, g, hm, F⟩ := T.at_ C sp look1
  have a1 : PySem.W.findIn X.K (.ref (He.ga X.K C)) (PySem.dunderI (Operator.Add.info).2) = some (some (.ref g)) := by rw [du_iadd]; exact hm.at_
  intro pins s σ H HI M x y u v dx dy Q E Qv I rx ry ok r1 r2 h kq we
  obtain ⟨m, hF⟩ := I.fr
  obtain ⟨p, C', fs, sp', ex, eM, et, q⟩ := onCls_at h
  subst ex
  obtain ⟨rfl, rfl⟩ := tab1 et
  obtain ⟨ox, od, J⟩ := ins_look I ok eM
  cases r1
  obtain rfl : u = Value.ref p := rx
  exact PySem.W.ksp_inplace hF I.ok.mod.kin J n1 a1 hm.fn (wpAny_mono (run_c0 (us := [.ref p, v]) (vs := [.ref p, y]) F hr (passW tk I) I (.cons rfl (.cons ry .nil)) (lift_of ok (.cons (.ref p) (.cons r2 .nil)) q kq we)) (fun u s' ⟨v, H', I', r', q'⟩ => relV_back r' ⟨v, H', I', r', q'⟩) fun _ _ z => z)
/-! o[i], o[i] = x -/
theorem ma_of {K : PySem.W.Frag} {C m : Str} {g : Addr} (h : Meth K (He.ga K C) m g) : He.ma K (He.ga K C) m = g := by
  unfold He.ma
  rw [h.at_]
def rdIxO (C : Str) (sp : SpD) : RD2E := fun x y M Q E => onCls [(C, sp)] x M fun sp => sp [x, y] M Q E
theorem d_ixO {a b : Expr} {ta tb' : TD} {pos : Pos} (T : MethT X.prog X.w X.K X.mg X.base k "__getitem__" [] [(C, sp)]) (hfi : PySem.W.fnIn X.K (He.ma X.K (He.ga X.K C) "__getitem__") = true) (hr : Rm (k + 1) X.A) (tk : Takes X W) (ha : DE X W a ta) (hb : DE X W b tb')
    (hsl : ∀ (p : Addr) (i : Value), subscripted b true (.ref p) i = runValue (.builtin "lifetime.subscript" ⟨[.ref p, i], []⟩) := by intros; with_unfolding_all rfl) : DE X W (.Subscript a b pos) (to2E (rdIxO C sp) ta tb') := by
  have hc : Op2X X W (subscriptTail a b) (rdIxO C sp) := by
    obtain ⟨c, g, hm, F⟩ := T.at_ C sp look1
    rw [ma_of hm] at hfi
    intro pins s σ H HI M x y u v dx dy Q E Qv I rx ry ok r1 r2 h kq we
    obtain ⟨m, hF⟩ := I.fr
    obtain ⟨p, C', fs, sp', ex, eM, et, q⟩ := onCls_at h
    subst ex
    obtain ⟨rfl, rfl⟩ := tab1 et
    obtain ⟨ox, od, J⟩ := ins_look I ok eM
    cases r1
    obtain rfl : u = Value.ref p := rx
    exact PySem.W.sub_K hF I.ok.mod.kin J hm.at_ hfi hm.fn (run_c1 (us := [.ref p, v]) (vs := [.ref p, y]) F hr (passW tk I) I (.cons rfl (.cons ry .nil)) (lift_of ok (.cons (.ref p) (.cons r2 .nil)) q kq we)) (hsl p v)
  exact ⟨fun pins s σ H Q I h => Subscript_ (run2 hc ha hb I h)⟩
def ssetiO (C : Str) (sp : SpD) (te to ti : TD) : TDS := fun D σ M => te σ M (fun d M1 => to σ M1 (fun o M2 => ti σ M2 (fun i M3 => onCls [(C, sp)] o M3 fun sp => sp [o, i, d] M3 (fun _ M4 => D.nx σ M4) (fun x M4 => D.ex x σ M4)) (fun x M1 => D.ex x σ M1)) (fun x M1 => D.ex x σ M1)) (fun x M1 => D.ex x σ M1)
theorem s_setiO {o i e : Expr} {te to ti : TD} {ip pos : Pos} (T : MethT X.prog X.w X.K X.mg X.base k "__setitem__" [] [(C, sp)]) (hq : PySem.W.noSeq X.K (He.ga X.K C) = true) (hr : Rm k X.A) (tk : Takes X W) (he : DE X W e te) (ho : DE X W o to) (hi : DE X W i ti)
    (hs : swapsWithSole [.Subscript o i ip] e pos.line X.env = pure false := by rfl) (hw : swappedStores [.Subscript o i ip] e X.env = pure none := by rfl)
    (h1 : (assignEach [.Subscript o i ip] X.env).map (·.2) = [assign (.Subscript o i ip) X.env] := by rfl)
    (hb : ∀ v, assign (.Subscript o i ip) X.env v = (do
      let ov ← holding [v] (eval o X.env)
      let iv ← holding [v, ov] (eval i X.env)
      standAt ip
      holding [v, ov, iv] (setItem ov iv v)
      release [v, ov, iv] []) := by intro _; rfl) : DS X W (.Assign [.Subscript o i ip] e pos) (ssetiO C sp te to ti) := by
  obtain ⟨c, g, hm, F⟩ := T.at_ C sp look1
  have tgt : PG X (.Subscript o i ip) (fun v σv H Qv => ∃ (HI : Hp) (σ : DSt) (M : MM) (d : D) (Q : DSt → MM → Prop) (E : EK), Ok X.K HI M H ∧ REnv X.K HI σv σ ∧ Rep X.K HI v d ∧ to σ M (fun o M2 => ti σ M2 (fun i M3 => onCls [(C, sp)] o M3 fun sp => sp [o, i, d] M3 (fun _ M4 => Q σ M4) E) E) E ∧
      (∀ HI' σv' H' σ' M', Stp HI M H HI' M' H' → Ok X.K HI' M' H' → REnv X.K HI' σv' σ' → Q σ' M' → Qv σv' H') ∧ WOk X.K W HI M H σv E) := by
    refine ⟨fun pins s σv H v u Qv I r h => ?_⟩
    obtain ⟨HI, σ, M, d, Q, E, ok, re, rd, h, kq, we⟩ := h
    rw [hb]
    refine wpAny_bind (wpAny_holding (thn (ho.run pins s σv H _ I ⟨HI, σ, M, _, E, ok, re, h, fun v H' z => z, we⟩) fun ov s1 ⟨x, H1, I1, rx, HI1, M1, d1, s1', ok1, r1, h1⟩ => ?_))
    refine wpAny_bind (wpAny_holding (thn (hi.run pins s1 σv H1 _ I1 ⟨HI1, σ, M1, _, E, ok1, re.up s1'.sm, h1, fun v H' z => z, we.up s1'⟩) fun iv s2 ⟨y, H2, I2, ry, HI2, M2, d2, s2', ok2, r2, h2⟩ => ?_))
    obtain ⟨p, C', fs, sp', ex, eM, et, q⟩ := onCls_at h2
    subst ex
    obtain ⟨rfl, rfl⟩ := tab1 et
    obtain ⟨ox, od, J⟩ := ins_look I2 ok2 eM
    obtain ⟨m, hF⟩ := I2.fr
    have st := s1'.trans s2'
    cases r1
    obtain rfl : ov = Value.ref p := rx
    refine wpAny_bind (wpAny_standAt (wpAny_bind (wpAny_holding (PySem.W.ksp_setItem hF I2.ok.mod.kin J hq hm.at_ hm.fn (wpAny_mono (run_c0 (us := [.ref p, iv, u]) (vs := [.ref p, y, v]) (Q := fun _ H' => Qv σv H') F hr (passW tk I2) I2 (.cons rfl (.cons ry (.cons r .nil)))
      (lift_of ok2 (.cons (.ref p) (.cons r2 (.cons (rd.up st.sm) .nil))) q (fun v H' ⟨HI3, M3, d3, s3, ok3, r3, q3⟩ => kq HI3 σv H' σ M3 (st.trans s3) ok3 (re.up (st.trans s3).sm) q3) (we.up st))) (fun u' s' ⟨v', H', I', r', q'⟩ => ?_) fun _ _ z => z)))))
    exact wpAny_release ⟨σv, H', I', q'⟩
  refine ps_imp (ps_asg he tgt hs hw h1) fun σv H Dv h => ?_
  obtain ⟨HI, σ, M, Dd, ok, re, h, r⟩ := h
  refine ⟨HI, σ, M, _, _, ok, re, h, fun v H1 ⟨HI1, M1, d1, s1, ok1, r1, h1⟩ => ?_, r.ex HI σv H σ M .refl re⟩
  exact ⟨HI1, σ, M1, d1, _, _, ok1, re.up s1.sm, r1, h1, fun HI' σv' H' σ' M' s' ok' re' q => r.nx HI' σv' H' σ' M' (s1.trans s') ok' re' q, r.ex HI1 σv H1 σ M1 s1 (re.up s1.sm)⟩
end
/-! ### calls by keywords alone -/
section
variable {X : Cx} {W : WX} {k : Nat} {C m : Str} {ks : List Str} {sp : SpD} {tab : MTab} {o : Expr} {to : TD} {tks : TDL} {kws : List Keyword} {apos pos : Pos}
def tmethK (tab : MTab) (m : Str) (n : Nat) (to : TD) (tks : TDL) : TD := fun σ M Q E => to σ M (fun x M1 => onIns tab m x M1 fun sp => tks σ M1 (fun ds M2 => ds.length = n ∧ sp (x :: ds) M2 Q E) E) E
theorem d_methK {pl : Sem Bool} (T : MethT X.prog X.w X.K X.mg X.base k m ks tab) (hr : Rm k X.A) (tk : Takes X W) (ho : DE X W o to) (hkw : DKs X W kws tks) (hall : (backToKw pos (keywordEach kws X.env)).all (·.1.isSome) = true := by rfl) (hks : (backToKw pos (keywordEach kws X.env)).filterMap (·.1) = ks := by rfl)
    (hpl : ((backTo pos (starEach [] X.env)).any (·.1) || (backToKw pos (keywordEach kws X.env)).any (·.1.isNone)) = false := by rfl)
    (ht : eval (.Call (.Attribute o m apos) [] kws pos) X.env = (do
      let ov ← eval o X.env
      standAt apos.atName
      let (f, first) ← holding [ov] (getMethod ov m pl)
      callWith pos f first (backTo pos (starEach [] X.env)) (backToKw pos (keywordEach kws X.env))) := by rfl) :
    DE X W (.Call (.Attribute o m apos) [] kws pos) (tmethK tab m ks.length to tks) := by
  refine ⟨fun pins s σ H Qv I h => ?_⟩
  obtain ⟨HI, σd, M, Q, E, ok, re, h, kq, we⟩ := h
  refine PySem.W.methodCall_KW (pl := pl) (thn (ho.run pins s σ H _ I ⟨HI, σd, M, _, E, ok, re, h, fun v H' z => z, we⟩) fun u s1 ⟨x, H1, I1, rx, HI1, M1, d1, s1', ok1, r1, h1⟩ => ?_) ht
  obtain ⟨p, C, fs, sp, ex, eM, l, et, q⟩ := onIns_at h1
  subst ex
  obtain ⟨c, g, hm, F⟩ := T.at_ C sp et
  cases r1
  obtain rfl : u = Value.ref p := rx
  obtain ⟨dx, vs, hx, pf⟩ := ok1.var p _ eM
  refine getmeth_ok I1 hx c hm (pf.look.2 l) ?_
  refine PySem.W.callWith_KW0 (first := [.ref p]) (h₀ := X.base) I.ok.mod.kin hm.kp hall ?_ hpl
  refine thn (hkw.run pos pins s1 σ H1 (fun vs H2 => vs.length = ks.length ∧ lift X.K sp (.ref p :: vs) H2 Qv fun c d H' => W c d σ H') I1
    ⟨HI1, σd, M1, _, E, ok1, re.up s1'.sm, q, fun v H2 ⟨HI2, M2, d2, s2, ok2, r2, hl, h2⟩ => ?_, we.up s1'⟩) fun us s2 ⟨vs, H2, I2, r, hl, q2⟩ => ⟨I2.kIn, ?_⟩
  · exact ⟨by rw [r2.len]; exact hl, HI2, M2, .ref p :: d2, Q, E, ok2, .cons (.ref p) r2, h2, fun v' H' z => kq v' H' (z.of (s1'.trans s2)), fun c d H' z => we c d H' (z.of (s1'.trans s2))⟩
  · rw [hks]
    exact run_c (us := [.ref p]) (ws := us) (vs := .ref p :: vs) F hr (passW tk I2) I2 (.cons rfl r) (by rw [← r.length]; exact hl) q2
def tcmK (C : Str) (n : Nat) (sp : SpD) (te : TD) (tks : TDL) : TD := fun σ M Q E => te σ M (fun x M1 => match x with
  | .kls C' => C' = C ∧ tks σ M1 (fun ds M2 => ds.length = n ∧ sp (.kls C :: ds) M2 Q E) E
  | _ => False) E
theorem callWith_MK0 {Mo : Model} {A : Around} {E : Value → Shared → Prop} {s : Shared} {K : PySem.W.Frag} {env : Env} {pos : Pos} {q g : Addr} {self : Value} {first : List Value} {Q : Value → Shared → Prop} {kws : List Keyword} (hf : PySem.W.fnIn K g = true) (hall : (backToKw pos (keywordEach kws env)).all (·.1.isSome) = true)
    (h : wpAny Mo A (evalAll ((backToKw pos (keywordEach kws env)).map (·.2))) (fun ks s₂ => PySem.W.MethP K q g self s₂.heap ∧ wpAny Mo A (call (.ref q) (first ++ []) (((backToKw pos (keywordEach kws env)).filterMap (·.1)).zip ks)) Q E s₂) E s)
    (hplain : ((backTo pos (starEach [] env)).any (·.1) || (backToKw pos (keywordEach kws env)).any (·.1.isNone)) = false := by rfl) :
    wpAny Mo A (callWith pos (.ref q) first (backTo pos (starEach [] env)) (backToKw pos (keywordEach kws env))) Q E s :=
  PySem.W.callWith_of hplain (PySem.W.keeps_M hf) (PyProof.Rows.evalArgs_kw2_nil hall h)
theorem d_cmK {pl : Sem Bool} (T : CMetT X.prog X.w X.K X.mg X.base k C m ks sp) (hr : Rm k X.A) (tk : Takes X W) (ho : DE X W o to) (hkw : DKs X W kws tks) (hall : (backToKw pos (keywordEach kws X.env)).all (·.1.isSome) = true := by rfl) (hks : (backToKw pos (keywordEach kws X.env)).filterMap (·.1) = ks := by rfl)
    (hpl : ((backTo pos (starEach [] X.env)).any (·.1) || (backToKw pos (keywordEach kws X.env)).any (·.1.isNone)) = false := by rfl)
    (ht : eval (.Call (.Attribute o m apos) [] kws pos) X.env = (do
      let ov ← eval o X.env
      standAt apos.atName
      let (f, first) ← holding [ov] (getMethod ov m pl)
      callWith pos f first (backTo pos (starEach [] X.env)) (backToKw pos (keywordEach kws X.env))) := by rfl) :
    DE X W (.Call (.Attribute o m apos) [] kws pos) (tcmK C ks.length sp to tks) := by
  refine ⟨fun pins s σ H Qv I h => ?_⟩
  obtain ⟨HI, σd, M, Q, E, ok, re, h, kq, we⟩ := h
  obtain ⟨mc, p, g, cr, cm, F⟩ := T.ex
  refine PySem.W.methodCall_KW (pl := pl) (thn (ho.run pins s σ H _ I ⟨HI, σd, M, _, E, ok, re, h, fun v H' z => z, we⟩) fun u s1 ⟨x, H1, I1, rx, HI1, M1, d1, s1', ok1, r1, h1⟩ => ?_) ht
  cases r1 with
  | kls C' =>
    obtain ⟨rfl, q⟩ := h1
    obtain rfl : u = Value.ref (He.ga X.K C') := rx
    refine ClX.getmethcm_ok I1 cr cm fun s2 I2 => ?_
    refine callWith_MK0 (K := X.K) (g := g) (self := .ref (He.ga X.K C')) (first := []) cm.fi hall ?_ hpl
    refine thn (hkw.run pos _ s2 σ H1 (fun vs H2 => vs.length = ks.length ∧ lift X.K sp (.ref (He.ga X.K C') :: vs) H2 Qv fun c d H' => W c d σ H') I2
      ⟨HI1, σd, M1, _, E, ok1, re.up s1'.sm, q, fun v H2 ⟨HI2, M2, d2, s2, ok2, r2, hl, h2⟩ => ?_, we.up s1'⟩) fun us s3 ⟨vs, H2, I3, rv, hl, q2⟩ => ⟨⟨ClX.pin_at I3, I3.kIn⟩, ?_⟩
    · exact ⟨by rw [r2.len]; exact hl, HI2, M2, .kls C' :: d2, Q, E, ok2, .cons (.kls C') r2, h2, fun v' H' z => kq v' H' (z.of (s1'.trans s2)), fun c d H' z => we c d H' (z.of (s1'.trans s2))⟩
    · rw [hks]
      have z : wpAny (model X.prog X.w) X.A (call (.ref s1.heap.objs.size) [] (ks.zip us)) (EP X ((s1.heap.objs.size, PySem.W.methodObj (.ref g) (.ref (He.ga X.K C'))) :: pins) σ Qv) X.xe s3 :=
        wpAny_call (PySem.W.method_call (ClX.pin_at I3) (codeAny_mono (run_cA (us := [.ref (He.ga X.K C')]) (ws := us) F hr I3.env0 (passW tk I3) I3 (show Vals (V.ref (He.ga X.K C') :: vs) ([Value.ref (He.ga X.K C')] ++ us) from .cons rfl rv) (by rw [← rv.length]; exact hl) q2) fun r s' z => by
          cases r with
          | error e => exact z
          | ok fl => cases fl <;> exact z))
      exact thn z fun _ _ y => ClX.unpinE y
  | _ => exact h1.elim
end
end DL

/-! The data layer: isinstance of anything. -/
namespace DL
open PySem PySem.Spec L2 PyProof.Rows
/-- the classes that a law knows: of its errors, of its objects, and what isinstance answers -/
structure IsK where
  tab : IsTab
  xs : List Str
  is : List Str
def tagM (k : IsK) (M : MM) : D → Option Tg
  | .ref p => (match M p with
    | some (.lst _) => some (.ty "list")
    | some (.ins C _) => if k.is.contains C = true then some (.own C) else none
    | _ => none)
  | .exc c _ => if k.xs.contains c = true then some (.own c) else none
  | d => d.cls.map Tg.ty
def isTM (k : IsK) (M : MM) (x c : D) : Option Bool := match tagM k M x, tgC c with
  | some (.ty a), some (.ty b) => kitB a b
  | some t, some u => k.tab.lookup (t, u)
  | _, _ => none
def rdIsiM (k : IsK) : RDL := fun ds M Q => match ds with
  | [x, c] => (match isTM k M x c with
    | some b => Q (.bl b) M
    | none => False)
  | _ => False
/-- an own class whose instances have a dict -/
def iclsB (K : PySem.W.Frag) (C : Str) : Bool := (He.Fa.cls C).ok K && (decide (PySem.W.findIn K (.ref (He.ga K C)) "__class__" = some (some (.builtin "object.__class__"))) && (decide (PySem.W.specialIn K (.builtin "object.__class__") "__get__" = some (some (.builtin "getset_descriptor.__get__"))) &&
  (decide (PySem.W.takesIn K (.builtin "object.__class__") = some true) && decide (PySem.W.mroIn K (He.ga K C) (.type "object") = some true))))
theorem icls_ty {K : PySem.W.Frag} {H : Hp} {a dx : Addr} {C : Str} {fs : List (Str × V)} (h : iclsB K C = true) (e : H a = some (.ins (He.ga K C) dx fs)) : TyX K H (.ref a) (.ref (He.ga K C)) := by
  obtain ⟨h1, h⟩ := He.ba h
  obtain ⟨h2, h⟩ := He.ba h
  obtain ⟨h3, h⟩ := He.ba h
  obtain ⟨h4, h5⟩ := He.ba h
  exact .base (.ins e (He.cls_ok h1) (of_decide_eq_true h2) (of_decide_eq_true h3) (of_decide_eq_true h4) (of_decide_eq_true h5))
/-- the table's facts -/
def isTabMB (K : PySem.W.Frag) (k : IsK) : Bool := (k.tab.all fun e => decide (PySem.W.kitOne K (e.1.1.v K) (e.1.2.v K) = some e.2)) && ((k.xs.all fun c => eclassB K (He.ga K c)) && k.is.all fun c => iclsB K c)
theorem ty_repM {K : PySem.W.Frag} {HI H : Hp} {M : MM} {k : IsK} {v : V} {d : D} {c : String} (hT : isTabMB K k = true) (ok : Ok K HI M H) (r : Rep K HI v d) (e : tagM k M d = some (.ty c)) : TyX K H v (.type c) := by
  cases r with
  | ref p =>
    simp only [tagM] at e
    split at e
    · rename_i xs em
      cases e
      obtain ⟨us, hx, _⟩ := ok.var p _ em
      exact .base (.lst hx)
    · split at e <;> cases e
    · cases e
  | exc0 _ => simp only [tagM] at e; split at e <;> cases e
  | exc1 _ _ _ => simp only [tagM] at e; split at e <;> cases e
  | kls c => cases e
  | kt c => cases e
  | ty n => cases e
  | non => cases e; exact ty_rep (Rep.non : Rep K H _ _) rfl
  | bl b => cases e; exact ty_rep (Rep.bl b : Rep K H _ _) rfl
  | int i => cases e; exact ty_rep (Rep.int i : Rep K H _ _) rfl
  | str x => cases e; exact ty_rep (Rep.str x : Rep K H _ _) rfl
  | lst a rl => cases e; exact ty_rep ((Rep.lst a rl).up ok.same) rfl
  | tup a rl => cases e; exact ty_rep ((Rep.tup a rl).up ok.same) rfl
theorem od_isiM {K : PySem.W.Frag} {k : IsK} (hT : isTabMB K k = true) : CrD K (fun vs H Q => rIsi K vs H Q ∨ rIsiE K vs H Q) (rdIsiM k) := by
  intro HI M H vs ds Q Qv ok r h kq
  obtain ⟨t1, t2⟩ := He.ba hT
  obtain ⟨t3, t4⟩ := He.ba t2
  unfold rdIsiM at h
  split at h
  · rename_i x c
    cases e : isTM k M x c with
    | none => rw [e] at h; exact h.elim
    | some b =>
      rw [e] at h
      cases r with
      | cons rx r =>
        cases r with
        | cons rc r =>
          cases r
          have q := kq _ _ (low.mk ok (.bl b) h)
          unfold isTM at e
          split at e
          · rename_i a b' ea eb
            exact .inl ⟨_, _, _, _, b, rfl, clsV_rep rc eb, ty_repM hT ok rx ea, kit_ty e, q⟩
          · rename_i t u hne et eu
            have kf := of_decide_eq_true (List.all_eq_true.mp t1 _ (lookup_mem e))
            cases t with
            | ty n => exact .inl ⟨_, _, _, _, b, rfl, clsV_rep rc eu, ty_repM hT ok rx et, kf, q⟩
            | own c0 =>
              cases rx with
              | ref p =>
                simp only [tagM] at et
                split at et
                · cases et
                · rename_i C fs em
                  split at et
                  · rename_i hc
                    cases et
                    obtain ⟨dx, us, hx, _⟩ := ok.var p _ em
                    exact .inl ⟨_, _, _, _, b, rfl, clsV_rep rc eu, icls_ty (List.all_eq_true.mp t4 _ (List.contains_iff_mem.mp hc)) hx, kf, q⟩
                  · cases et
                · cases et
              | @exc0 a c0' ha =>
                simp only [tagM] at et
                split at et
                · rename_i hc
                  cases et
                  have T := eclassB_ok (List.all_eq_true.mp t3 _ (List.contains_iff_mem.mp hc))
                  exact .inr ⟨_, _, none, _, _, b, rfl, clsV_rep rc eu, (ok.imm _ _ ha).1, (fun _ z => by cases z), T, kf, q⟩
                · cases et
              | exc1 ha hb rp =>
                simp only [tagM] at et
                split at et
                · rename_i hc
                  cases et
                  have T := eclassB_ok (List.all_eq_true.mp t3 _ (List.contains_iff_mem.mp hc))
                  exact .inr ⟨_, _, _, _, _, b, rfl, clsV_rep rc eu, (ok.imm _ _ ha).1, (fun b' z => by cases z; exact ⟨_, (ok.imm _ _ hb).1⟩), T, kf, q⟩
                · cases et
              | _ => cases et
          · cases e
  · exact h.elim
theorem q_isiM {k : IsK} {x c : D} {b : Bool} {M : MM} {Q : DK} (h : isTM k M x c = some b) : rdIsiM k [x, c] M Q = Q (.bl b) M := by
  unfold rdIsiM
  simp only [h]
end DL

/-! The data layer: t[::-1] of a tuple, lists that grow by +, three targets. -/
namespace HT
open PySem PySem.Calls PyProof.Rows
theorem sliceApplied_rev {prog : Program} {w : World} {A : Around} {E : Value → Shared → Prop} {s : Shared} {sl : Addr} {vs : Value} {n : Nat} {Q : Int × Int × Nat → Shared → Prop} (hs : s.heap.IsSliceOf sl .none .none vs) (ps : IsPart vs (some (-1)))
    (h : Q ((n : Int) - 1, -1, n) s) : wpAny (model prog w) A (Builtin.Slice.sliceApplied (.ref sl) (pure (n : Int))) Q E s := by
  obtain ⟨os, hos, hcs, hds⟩ := id hs
  unfold Builtin.Slice.sliceApplied Builtin.Slice.sliceFields
  refine wpAny_bind (wpAny_bind (wpAny_field hos hds (x := .none) rfl (wpAny_bind (wpAny_field hos hds (x := .none) rfl (wpAny_bind (wpAny_field hos hds (x := vs) rfl (wpAny_pure ?_)))))))
  refine wpAny_bind (slicePart_ ps ?_)
  show wpAny _ _ (if ((-1 : Int) == 0) = true then _ else _) _ _ s
  rw [if_neg (by decide)]
  refine wpAny_bind (slicePart_none (wpAny_bind (slicePart_none (wpAny_bind (wpAny_pure ?_)))))
  show wpAny _ _ (match Builtin.Slice.sliceAdjust none none (-1) (n : Int) with | (lo, hi) => pure (lo, (-1 : Int), Builtin.Slice.slicePlaces lo hi (-1))) _ _ s
  have e1 : Builtin.Slice.sliceAdjust none none (-1) (n : Int) = ((n : Int) - 1, -1) := rfl
  rw [e1]
  show wpAny _ _ (pure ((n : Int) - 1, (-1 : Int), Builtin.Slice.slicePlaces ((n : Int) - 1) (-1) (-1))) _ _ s
  have e2 : Builtin.Slice.slicePlaces ((n : Int) - 1) (-1) (-1) = n := by
    unfold Builtin.Slice.slicePlaces
    rw [if_neg (by decide)]
    have e3 : (- -1 : Int) = 1 := rfl
    rw [e3, Int.ediv_one]
    split <;> omega
  rw [e2]
  exact wpAny_pure h
theorem pick_rev (xs : Array Value) : ((List.range xs.size).filterMap fun (m : Nat) => xs[(((xs.size : Int) - 1) + (m : Int) * -1).toNat]?).toArray = xs.toList.reverse.toArray := by
  have e : ((List.range xs.size).filterMap fun (m : Nat) => xs[(((xs.size : Int) - 1) + (m : Int) * -1).toNat]?) = ((List.range xs.size).map fun k => xs.size - 1 - k).filterMap (xs[·]?) := by
    rw [List.filterMap_map]
    congr 1
    funext m
    have : (((xs.size : Int) - 1) + (m : Int) * -1).toNat = xs.size - 1 - m := by omega
    show xs[_]? = xs[xs.size - 1 - m]?
    rw [this]
  rw [e, PySem.W.krv_range, List.filterMap_reverse, PySem.W.krv_all]
theorem getItem_tuple_rev {prog : Program} {w : World} {A : Around} {E : Value → Shared → Prop} {s : Shared} {t sl : Addr} {items : Array Value} {vs : Value} {Q : Value → Shared → Prop} (ht : IsTup s.heap t items) (hs : s.heap.IsSliceOf sl .none .none vs) (ps : IsPart vs (some (-1)))
    (h : Q (.ref s.heap.objs.size) { s with heap := s.heap.push { cls := .type "tuple", data := .seq items.toList.reverse.toArray } })
    (hsz : items.size ≤ sizeLine) : wpAny (model prog w) A (getItem (.ref t) (.ref sl)) Q E s := by
  have htake : sizeOk (.seq items.toList.reverse.toArray) := by
    show items.toList.reverse.toArray.size ≤ sizeLine
    rw [List.size_toArray, List.length_reverse, Array.length_toList]
    exact hsz
  obtain ⟨os, hos, hcs, hds⟩ := id hs
  have hTs : s.TypeIs (.ref sl) "slice" := ⟨os, hos, hcs⟩
  unfold getItem
  try with_reducible refine wpAny_holding ?_
  first | refine wpAny_bind (wpAny_pure ?_) | skip
  refine wpAny_bind (wpAny_sequenceKey ht.typeIs (by decide) ?_)
  refine wpAny_bind (wpAny_callSpecial?_slot (name := Str.ofString "__getitem__") ht.typeIs PyProof.Rows.slot_tuple_getitem
    (wpAny_call_entry PyProof.Rows.slot_tuple_getitem ht.typeIs entry_tuple_getitem ?_ (args_tuple_getitem _ _)))
  show wpAny _ _ (Builtin.Tuple.tupleItemsOf (.ref t) >>= _) _ _ s
  refine wpAny_bind (tupleItemsOf_ ht ?_)
  refine wpAny_bind (wpAny_typeOf hTs ?_)
  rw [if_pos (by decide)]
  refine wpAny_bind (sliceApplied_rev hs ps ?_)
  have hno : ¬ ((((items.size : Int) - 1) == 0 && (-1 : Int) == 1 && items.size == items.size) = true) := by
    intro q
    rw [Bool.and_eq_true, Bool.and_eq_true] at q
    exact absurd (eq_of_beq q.1.2) (by decide)
  show wpAny _ _ (if (((items.size : Int) - 1) == 0 && (-1 : Int) == 1 && items.size == items.size) = true then _ else _) _ _ s
  rw [if_neg hno, pick_rev]
  first
    | exact wpAny_bind (m := Builtin.Tuple.tupleExact _) (wpAny_newObj_type (wpAny_pure ⟨_, rfl, wpAny_pure h⟩) htake)
    | exact wpAny_bind (m := Builtin.Tuple.tupleExact _) (wpAny_newObj_type (wpAny_bind (wpAny_pure (wpAny_pure ⟨_, rfl, wpAny_pure h⟩))) htake)
    | exact wpAny_bind (wpAny_bind (m := Builtin.Tuple.tupleExact _) (wpAny_newObj_type (wpAny_pure (wpAny_pure ⟨_, rfl, wpAny_pure h⟩)) htake))
    | exact wpAny_bind (wpAny_bind (m := Builtin.Tuple.tupleExact _) (wpAny_newObj_type (wpAny_pure ⟨_, rfl, wpAny_pure h⟩) htake))
end HT
namespace L2
open PySem PySem.Spec PyProof.Rows
def tRevT (K : PySem.W.Frag) (te : TE) : TE := fun σ H Q => te σ H fun x H1 => ∃ a xs, x = .ref a ∧ SqT K H1 a xs ∧ ∀ p, H1 p = none → Q (.ref p) (upd H1 p (.tup xs.reverse))
theorem pe_revT {X : Cx} {te : TE} {e : Expr} {k : Nat} {p1 p2 p3 pos : Pos} (he : PE X e te) : PE X (.Subscript e (.Slice none none (some (.UnaryOp .USub (.Constant (.int 1) k p1) p2)) p3) pos) (tRevT X.K te) := by
  refine ⟨fun pins s σ H Q I h => ?_⟩
  refine Subscript_ (thn (he.run pins s σ H _ I h) fun v s1 ⟨x, H1, I1, r1, q1⟩ => ?_)
  obtain ⟨a, xs, ex, hx, q⟩ := q1
  subst ex
  cases r1
  have hst : PO X (some (.UnaryOp .USub (.Constant (.int 1) k p1) p2)) (tPart (tUn (rU fun i => .int (-i)) (tC (.int 1)))) := po_some (pe_un un_neg pe_int)
  refine wpAny_Slice (thn (po_none.run pins s1 σ H1 (fun o H2 => o = none ∧ H2 = H1) I1 ⟨rfl, rfl⟩) fun vl s2 ⟨l, H2, I2, pl, el, e2⟩ => ?_)
  subst el e2
  refine thn (po_none.run pins s2 σ H2 (fun o H3 => o = none ∧ H3 = H2) I2 ⟨rfl, rfl⟩) fun vu s3 ⟨u, H3, I3, pu, eu, e3⟩ => ?_
  subst eu e3
  refine thn (hst.run pins s3 σ H3 (fun o H4 => o = some (-1) ∧ H4 = H3) I3 ⟨1, rfl, -1, rfl, rfl, rfl⟩) fun vs s4 ⟨o, H4, I4, ps, eo, e4⟩ => ?_
  subst eo e4
  cases pl
  cases pu
  have I5 : Inv X pins σ H4 { s4 with heap := s4.heap.push { cls := .type "slice", data := .fields #[.none, .none, vs] } } := I4.kept (t' := s4.toks) fun b ob q => Heap.get?_push_of_some _ q
  obtain ⟨its, r, ht, hz⟩ := I5.tuple hx
  show wpAny (model X.prog X.w) X.A (subscriptTail e (.Slice none none (some (.UnaryOp .USub (.Constant (.int 1) k p1) p2)) p3) (.ref a) (.ref s4.heap.objs.size)) (EP X pins σ Q) X.xe { s4 with heap := s4.heap.push { cls := .type "slice", data := .fields #[.none, .none, vs] } }
  have hlen : its.toArray.size = xs.length := by rw [List.size_toArray]; exact r.length.symm
  refine tail_any (ops := [.ref a, .ref s4.heap.objs.size]) ht.typeIs (PyProof.Rows.slot_tuple_getitem.lookup) ?_ (by with_unfolding_all rfl)
  refine HT.getItem_tuple_rev ht (Heap.IsSliceOf.new _ .none .none vs) ps ?_ (by rw [hlen]; exact hz)
  refine ⟨.ref _, _, I5.laid (t' := s4.toks) (o := .tup xs.reverse) (fun b ob q => Heap.get?_push_of_some _ q) (Nat.le_refl _) ?_, rfl, q _ (I5.hok.fresh (Nat.le_refl _))⟩
  exact ⟨by rw [List.length_reverse]; exact hz, _, r.reverse, IsTup.new _ _⟩
end L2
namespace DL
open PySem PySem.Spec L2 PyProof.Rows
section
variable {X : Cx} {W : WX}
def trevT (t : TD) : TD := fun σ M Q E => t σ M (fun x M1 => match x with
  | .tup ds => Q (.tup ds.reverse) M1
  | _ => False) E
theorem d_revT {e : Expr} {te : TD} {k : Nat} {p1 p2 p3 pos : Pos} (he : DE X W e te) : DE X W (.Subscript e (.Slice none none (some (.UnaryOp .USub (.Constant (.int 1) k p1) p2)) p3) pos) (trevT te) := pe_imp (pe_revT he) fun σv H Qv h => by
  obtain ⟨HI, σ, M, Q, E, ok, re, h, k, we⟩ := h
  refine ⟨HI, σ, M, _, E, ok, re, h, fun v H1 ⟨HI1, M1, d1, s1, ok1, r1, h1⟩ => ?_, we⟩
  cases r1 with
  | tup al rl => exact ⟨_, _, rfl, same_t ok1.same al, fun p hp => k _ _ (low.of s1 (.tup ok1 rl.rev hp h1))⟩
  | _ => exact h1.elim
/-- a list, of either kind -/
def lsOf (M : MM) : D → Option (List D)
  | .lst xs => some xs
  | .ref p => (match M p with
    | some (.lst xs) => some xs
    | _ => none)
  | _ => none
/-- xs + ys, a new list that may change -/
def rdAddM : RD2 := fun x y M Q => match lsOf M x, lsOf M y with
  | some xs, some ys => xs.length + ys.length ≤ sizeLine ∧ ∀ p, M p = none → Q (.ref p) (mput M p (.lst (xs ++ ys)))
  | _, _ => False
theorem lsOf_ok {K : PySem.W.Frag} {HI H : Hp} {M : MM} {x : V} {d : D} {ds : List D} (ok : Ok K HI M H) (r : Rep K HI x d) (e : lsOf M d = some ds) : ∃ a xs, x = .ref a ∧ LL K H a xs ∧ RepL K HI xs ds := by
  cases r with
  | lst h1 r1 => cases e; exact ⟨_, _, rfl, h1.up ok.same, r1⟩
  | ref p =>
    simp only [lsOf] at e
    split at e
    · rename_i em
      cases e
      obtain ⟨us, hx, r⟩ := ok.var p _ em
      exact ⟨_, _, rfl, .of hx, r⟩
    · cases e
  | _ => cases e
theorem od_addM {K : PySem.W.Frag} : OpD K (rAddA K) rdAddM := by
  intro HI M H x y dx dy Q Qv ok rx ry h k
  unfold rdAddM at h
  cases e1 : lsOf M dx with
  | none => rw [e1] at h; exact h.elim
  | some xs =>
    cases e2 : lsOf M dy with
    | none => rw [e1, e2] at h; exact h.elim
    | some ys =>
      rw [e1, e2] at h
      obtain ⟨a, us, rfl, l1, r1⟩ := lsOf_ok ok rx e1
      obtain ⟨b, ws, rfl, l2, r2⟩ := lsOf_ok ok ry e2
      refine .inr (.inr (.inr ⟨_, _, _, _, rfl, rfl, l1, l2, by rw [r1.len, r2.len]; exact h.1, fun p hp => k _ _ (.lstM ok (r1.app r2) hp (h.2 p (ok.free hp).2))⟩))
/-- a, b, c = x, y, z -/
def spar3 (i j l : Nat) (ta : TDL) : TDS := fun D σ M => ta σ M (fun ds M1 => match ds with
  | [a, b, c] => D.nx (((σ.set i (some a)).set j (some b)).set l (some c)) M1
  | _ => False) (fun x M1 => D.ex x σ M1)
theorem s_par3 {i j l : Nat} {x y z : Str} {a b c : Expr} {ta : TDL} {px py pz pt pos : Pos} {kt k2 pt2} (hc : X.calm = true) (hN : X.N.Nodup) (hi : X.N[i]? = some x) (hj : X.N[j]? = some y) (hl : X.N[l]? = some z) (hij : i ≠ j) (hil : i ≠ l) (hjl : j ≠ l)
    (hx : X.env.scope.names.lookup x = some .local) (hy : X.env.scope.names.lookup y = some .local) (hz : X.env.scope.names.lookup z = some .local) (ha : DA X W [a, b, c] ta)
    (hw : swappedStores [.Tuple [.Name x px, .Name y py, .Name z pz] kt pt] (.Tuple [a, b, c] k2 pt2) X.env = pure (some [x, y, z]) := by rfl)
    (hs : swapsWithSole [.Tuple [.Name x px, .Name y py, .Name z pz] kt pt] (.Tuple [a, b, c] k2 pt2) pos.line X.env = pure false := by rfl) :
    DS X W (.Assign [.Tuple [.Name x px, .Name y py, .Name z pz] kt pt] (.Tuple [a, b, c] k2 pt2) pos) (spar3 i j l ta) := ps_imp (ps_par3 hc hN hi hj hl hij hil hjl hx hy hz ha hw hs) fun σv H Dv h => by
  obtain ⟨HI, σ, M, Dd, ok, re, h, r⟩ := h
  refine ⟨HI, σ, M, _, _, ok, re, h, fun v H1 ⟨HI1, M1, d1, s1, ok1, r1, h1⟩ => ?_, r.ex HI σv H σ M .refl re⟩
  simp only at h1
  split at h1
  · rename_i da db dc
    cases r1 with
    | cons ra r1 =>
      cases r1 with
      | cons rb r1 =>
        cases r1 with
        | cons rc r1 =>
          cases r1
          exact ⟨_, _, _, rfl, r.nx HI1 _ H1 _ M1 s1 ok1 ((((re.up s1.sm).set ra i).set rb j).set rc l) h1⟩
  · exact h1.elim
end
theorem MethT.mono {P : Program} {w : World} {K : PySem.W.Frag} {mg : Str → Option Value} {base : Heap} {j k : Nat} {m : Str} {ks : List Str} {tab : MTab} (T : MethT P w K mg base j m ks tab) (h : j ≤ k) : MethT P w K mg base k m ks tab := ⟨fun C sp e => by
  obtain ⟨c, g, hm, F⟩ := T.at_ C sp e
  exact ⟨c, g, hm, F.mono h⟩⟩
abbrev ckSp (n : Nat) (ix : List Nat) (sp : SpD) : SpD := fun ds M Q E => ds.length = n ∧ sp (ro D.non ix ds) M Q E
end DL

namespace DL
open PySem PySem.Spec L2
open TL
def inR (l h : Int) : D → Bool
  | .int i => decide (l ≤ i) && decide (i ≤ h)
  | _ => false
theorem gcd_loop (Q : DK) (E : EK) (M : MM) (tc : TDT) (tb : TDS) (D0 : DEnds)
    (hc : ∀ a b : Nat, ∀ Q' E', Q' (decide (0 < b)) M → tc [some (.int (a : Int)), some (.int (b : Int))] M Q' E')
    (hb : ∀ a b : Nat, 0 < b → ∀ D : DEnds, D.nx [some (.int (b : Int)), some (.int ((a % b : Nat) : Int))] M → tb D [some (.int (a : Int)), some (.int (b : Int))] M) :
    ∀ (n a b : Nat), b < n → D0.nx [some (.int ((Nat.gcd a b : Nat) : Int)), some (.int 0)] M → whN tc tb n D0 [some (.int (a : Int)), some (.int (b : Int))] M
  | 0, _, _, h, _ => absurd h (Nat.not_lt_zero _)
  | n + 1, a, b, h, q => by
    unfold whN
    refine hc a b _ _ ?_
    by_cases hp : 0 < b
    · rw [decide_eq_true hp, if_pos rfl]
      refine hb a b hp _ ?_
      refine gcd_loop Q E M tc tb D0 hc hb n b (a % b) (by have := Nat.mod_lt a hp; omega) ?_
      rw [Nat.gcd_comm b, ← Nat.gcd_rec, Nat.gcd_comm]
      exact q
    · rw [decide_eq_false hp, if_neg (by simp)]
      have e : b = 0 := by omega
      subst e
      rw [Nat.gcd_zero_right] at q
      exact q
/-! rows -/
def rowD (t : Str) (ps : List Int) : D := .tup [.str t, .tup (ps.map D.int)]
structure GoodRow (t : Str) (ps : List Int) : Prop where
  t : t = Str.ofString "new" ∨ t = Str.ofString "old"
  l : 2 ≤ ps.length ∧ ps.length ≤ 5
  p : ∀ p ∈ ps, 1 ≤ p ∧ p ≤ 60
theorem GoodRow.sz {t : Str} {ps : List Int} (g : GoodRow t ps) : ps.length ≤ sizeLine := Nat.le_trans g.l.2 (by decide)
theorem all_true {α : Type} (l : List α) : blsOf (l.map fun _ => D.bl true) = some (l.map fun _ => true) := by
  induction l with
  | nil => rfl
  | cons a l ih => rw [List.map_cons, blsOf, ih]; rfl
theorem all_true' {α : Type} (l : List α) : (l.map fun _ => true).all _root_.id = true := by
  induction l with
  | nil => rfl
  | cons a l ih => rw [List.map_cons, List.all_cons, ih]; rfl
theorem rdAll_true {α : Type} {l : List α} {M : MM} {Q : DK} (q : Q (.bl true) M) : rdAll [.lst (l.map fun _ => D.bl true)] M Q := by
  show (match blsOf (l.map fun _ => D.bl true) with
    | some bs => Q (.bl (bs.all _root_.id)) M
    | none => False)
  rw [all_true]
  show Q (.bl ((l.map fun _ => true).all _root_.id)) M
  rw [all_true']
  exact q
/-! fractions -/
structure GoodF (f : Int × Int) : Prop where
  pos : 0 < f.2
  red : Nat.gcd f.1.natAbs f.2.natAbs = 1
def fracD (f : Int × Int) : D := .tup [.int f.1, .int f.2]
theorem abs_nat (i : Int) : (if i < 0 then -i else i) = ((i.natAbs : Nat) : Int) := by split <;> omega
/-! words -/
def optD : Option Int → D
  | some i => .int i
  | none => .non
theorem dig_in (c : Nat) : decide (c ∈ (Str.ofString "0123456789").cps.toList) = dig c := by
  have e : (Str.ofString "0123456789").cps.toList = [48, 49, 50, 51, 52, 53, 54, 55, 56, 57] := by decide
  rw [e]
  unfold dig
  by_cases h : 48 ≤ c ∧ c ≤ 57
  · rw [decide_eq_true h.1, decide_eq_true h.2]
    refine decide_eq_true ?_
    simp only [List.mem_cons, List.mem_nil_iff, or_false]
    omega
  · have : (decide (48 ≤ c) && decide (c ≤ 57)) = false := by
      rw [Bool.and_eq_false_iff, decide_eq_false_iff_not, decide_eq_false_iff_not]
      omega
    rw [this]
    refine decide_eq_false ?_
    simp only [List.mem_cons, List.mem_nil_iff, or_false]
    omega
theorem blsOf_digs (l : List Nat) : blsOf (l.map fun c => D.bl (dig c)) = some (l.map dig) := by
  induction l with
  | nil => rfl
  | cons a l ih => rw [List.map_cons, blsOf, ih]; rfl
theorem eq_empty (w : Str) : decide (w = Str.ofString "") = decide (tl w = []) := by
  by_cases h : tl w = []
  · rw [decide_eq_true h, decide_eq_true]
    exact ext_tl h
  · rw [decide_eq_false h, decide_eq_false]
    intro e
    subst e
    exact h rfl
/-! fractions' words -/
def fracOf (w : Str) : Option (Int × Int) :=
  let p := Txt.partition w (Str.ofString "/")
  match whole p.1, (if p.2.1 = Str.ofString "/" then whole p.2.2 else some 1) with
  | some t, some b => if p.2.1 = Str.ofString "/" ∧ (b < 2 ∨ 1 < Nat.gcd t.natAbs b.natAbs) then none else some (t, b)
  | _, _ => none
def optF : Option (Int × Int) → D
  | some f => fracD f
  | none => .non
theorem part_len (w y : Str) (hy : tl y ≠ []) : (Txt.partition w y).1.length ≤ w.length ∧ (Txt.partition w y).2.2.length ≤ w.length := by
  unfold Txt.partition
  split
  · have e := len_tl w
    constructor
    · rw [len_tl (Builtin.Str.strSub _ _ _), tl_strSub]; simp only [List.length_take, List.length_drop]; omega
    · rw [len_tl (Builtin.Str.strSub _ _ _), tl_strSub]; simp only [List.length_take, List.length_drop]; omega
  · exact ⟨Nat.le_refl _, Nat.zero_le _⟩
theorem isN_opt (o : Option Int) : isN (optD o) = o.isNone := by cases o <;> rfl
def fracT (f : Int × Int) : Str := if f.2 = 1 then numT f.1 else numT f.1 ++ Str.ofString "/" ++ numT f.2
structure SmallF (f : Int × Int) : Prop where
  a : f.1.natAbs < 10 ^ 40
  b : f.2.natAbs < 10 ^ 40
theorem strsOf_nums {α : Type} (g : α → Str) : ∀ l : List α, strsOf (l.map fun a => D.str (g a)) = some (l.map g)
  | [] => rfl
  | a :: l => by rw [List.map_cons, strsOf, strsOf_nums g l]; rfl
theorem fracT_len {f : Int × Int} (g : SmallF f) : (fracT f).length ≤ 83 := by
  have b1 := numT_len (by decide) g.a
  have b2 := numT_len (by decide) g.b
  unfold fracT
  split
  · omega
  · rw [strLen_append, strLen_append]
    have bs : (Str.ofString "/").length = 1 := rfl
    omega
theorem rgD_cons {a b : Int} (h : a < b) : rgD a b = .int a :: rgD (a + 1) b := by
  unfold rgD
  have e : (b - a).toNat = (b - (a + 1)).toNat + 1 := by omega
  rw [e, List.range_succ_eq_map, List.map_cons, List.map_map]
  congr 1
  · simp
  · refine List.map_congr_left fun i _ => ?_
    show D.int _ = D.int _
    congr 1
    show a + ((i + 1 : Nat) : Int) = a + 1 + (i : Int)
    omega
theorem rgD_nil {a b : Int} (h : b ≤ a) : rgD a b = [] := by
  unfold rgD
  have e : (b - a).toNat = 0 := by omega
  rw [e]; rfl
theorem sp_len : tl (Str.ofString " ") = [32] := by decide
theorem split_ws {ws : List Str} (hne : ws ≠ []) (h : ∀ w ∈ ws, (32 : Nat) ∉ tl w) : Txt.split (Txt.join (Str.ofString " ") ws) (Str.ofString " ") = ws := split_join (s := 32) (S := []) sp_len (by decide +kernel) hne h
theorem num_free (i : Int) : (32 : Nat) ∉ tl (numT i) := by
  rw [tl_numT]; exact numZ_free (by decide) (by decide)
theorem join_bound {ws : List Str} {B : Nat} (h : ∀ w ∈ ws, w.length ≤ B) : (Txt.join (Str.ofString " ") ws).length ≤ ws.length * (B + 1) := by
  have q := join_len (sep := Str.ofString " ") ws
  have s := sum_le ws h
  have l1 : (Str.ofString " ").length = 1 := rfl
  rw [l1] at q
  rw [Nat.mul_add]
  omega
theorem sl_len : tl (Str.ofString "/") = [47] := by decide
theorem num_free2 (i : Int) : (47 : Nat) ∉ tl (numT i) := by
  rw [tl_numT]; exact numZ_free (by decide) (by decide)
theorem fracT_free (f : Int × Int) : (32 : Nat) ∉ tl (fracT f) := by
  unfold fracT
  split
  · exact num_free _
  · rw [tl_append, tl_append, List.mem_append, List.mem_append, sl_len]
    rintro ((h | h) | h)
    · exact num_free _ h
    · revert h; decide
    · exact num_free _ h
theorem frac_of_text {f : Int × Int} (g : GoodF f) (h1 : f.1.natAbs < 10 ^ 9) (h2 : f.2.natAbs < 10 ^ 9) : fracOf (fracT f) = some f := by
  unfold fracOf fracT
  by_cases h : f.2 = 1
  · rw [if_pos h, partition_none (s := 47) (S := []) sl_len (num_free2 _)]
    dsimp only
    rw [whole_num h1]
    have e : ¬ Str.empty = Str.ofString "/" := by decide
    simp only [if_neg e, e, false_and, if_false]
    rw [← h]
  · rw [if_neg h, partition_app (s := 47) (S := []) sl_len (num_free2 _)]
    dsimp only
    rw [whole_num h1]
    simp only [if_true, true_and, whole_num h2]
    rw [if_neg]
    have := g.pos
    have := g.red
    omega
/-! the law's draws -/
def Bag (M : MM) (p : Addr) (n : Nat) : Prop := ∃ a b c : Int, M p = some (.lst [.int a, .int b, .int c]) ∧ 0 ≤ a ∧ 0 ≤ b ∧ b < 2 ^ 60 ∧ 0 ≤ c ∧ c ≤ n
theorem Bag.mle {M M' : MM} {p : Addr} {n : Nat} (h : Bag M p n) (l : MLe M M') : Bag M' p n := by
  obtain ⟨a, b, c, e, r⟩ := h
  exact ⟨a, b, c, l _ _ e, r⟩
theorem Bag.more {M : MM} {p : Addr} {n m : Nat} (h : Bag M p n) (l : n ≤ m) : Bag M p m := by
  obtain ⟨a, b, c, e, r1, r2, r3, r4, r5⟩ := h
  exact ⟨a, b, c, e, r1, r2, r3, r4, by omega⟩
theorem cm {i j : Int} (a b : Nat) (h1 : i.natAbs < 2 ^ a) (h2 : j.natAbs < 2 ^ b) (h : a + b ≤ 1000) : CMulX i j ∧ (i * j).natAbs < 2 ^ (a + b) := by
  have e1 := PyProof.Rows.intBits_le h1
  have e2 := PyProof.Rows.intBits_le h2
  refine ⟨?_, ?_⟩
  · unfold CMulX
    omega
  · rw [Int.natAbs_mul, Nat.pow_add]
    exact Nat.mul_lt_mul'' h1 h2
theorem of_each {α : Type} {f : α → D} {R : α → Prop} : ∀ ys : List D, (∀ y ∈ ys, ∃ a, y = f a ∧ R a) → ∃ l : List α, ys = l.map f ∧ l.length = ys.length ∧ ∀ a ∈ l, R a
  | [], _ => ⟨[], rfl, rfl, fun _ h => by cases h⟩
  | y :: ys, h => by
    obtain ⟨a, e, r⟩ := h y List.mem_cons_self
    obtain ⟨l, e2, hl, rl⟩ := of_each ys fun z hz => h z (List.mem_cons_of_mem _ hz)
    refine ⟨a :: l, by rw [e, e2, List.map_cons], by rw [List.length_cons, List.length_cons, hl], fun b hb => ?_⟩
    rcases List.mem_cons.mp hb with z | z
    · subst z; exact r
    · exact rl b z
theorem rgD_len {a b : Int} : (rgD a b).length = (b - a).toNat := by unfold rgD; rw [List.length_map, List.length_range]
theorem reduce {t b : Int} (hb : 0 < b) (h1 : t.natAbs < 10 ^ 9) (h2 : b < 10 ^ 9) : GoodF (t / ((Nat.gcd t.natAbs b.natAbs : Nat) : Int), b / ((Nat.gcd t.natAbs b.natAbs : Nat) : Int)) ∧
    (t / ((Nat.gcd t.natAbs b.natAbs : Nat) : Int)).natAbs < 10 ^ 9 ∧ (b / ((Nat.gcd t.natAbs b.natAbs : Nat) : Int)).natAbs < 10 ^ 9 := by
  obtain ⟨g, hg⟩ : ∃ g, g = Nat.gcd t.natAbs b.natAbs := ⟨_, rfl⟩
  have hb0 : 0 < b.natAbs := by omega
  have gp : 0 < g := by rw [hg]; exact Nat.gcd_pos_of_pos_right _ hb0
  obtain ⟨u, hu⟩ : (g : Int) ∣ t := Int.ofNat_dvd_left.mpr (by rw [hg]; exact Nat.gcd_dvd_left _ _)
  obtain ⟨v, hv⟩ : (g : Int) ∣ b := Int.ofNat_dvd_left.mpr (by rw [hg]; exact Nat.gcd_dvd_right _ _)
  have gi : (0 : Int) < (g : Int) := by omega
  rw [← hg]
  have e1 : t / (g : Int) = u := by rw [hu]; exact Int.mul_ediv_cancel_left _ (by omega)
  have e2 : b / (g : Int) = v := by rw [hv]; exact Int.mul_ediv_cancel_left _ (by omega)
  rw [e1, e2]
  have n1 : t.natAbs = g * u.natAbs := by rw [hu, Int.natAbs_mul]; rfl
  have n2 : b.natAbs = g * v.natAbs := by rw [hv, Int.natAbs_mul]; rfl
  have vp : 0 < v := by
    rcases Int.lt_trichotomy v 0 with h | h | h
    · rw [hv] at hb
      have := Int.mul_neg_of_pos_of_neg gi h
      omega
    · subst h; rw [hv] at hb; simp at hb
    · exact h
  refine ⟨⟨vp, ?_⟩, ?_, ?_⟩
  · rw [n1, n2, Nat.gcd_mul_left] at hg
    exact Nat.eq_of_mul_eq_mul_left gp (by rw [Nat.mul_one]; exact hg.symm)
  · have : u.natAbs ≤ t.natAbs := by rw [n1]; exact Nat.le_mul_of_pos_left _ gp
    omega
  · have : v.natAbs ≤ b.natAbs := by rw [n2]; exact Nat.le_mul_of_pos_left _ gp
    omega
theorem num_code {i : Int} {c : Nat} (h : c ∈ tl (numT i)) : c < 128 := by
  rw [tl_numT] at h
  rcases numZ_signs h with e | e <;> omega
theorem join_code {ws : List Str} (h : ∀ w ∈ ws, ∀ c ∈ tl w, c < 128) : ∀ c ∈ tl (Txt.join (Str.ofString " ") ws), c < 128 := fun c hc => by
  rcases join_tl hc with ⟨w, hw, hc⟩ | hc
  · exact h w hw c hc
  · rw [sp_len] at hc
    rcases List.mem_singleton.mp hc
    decide
theorem fracT_code {f : Int × Int} {c : Nat} (h : c ∈ tl (fracT f)) : c < 128 := by
  unfold fracT at h
  split at h
  · exact num_code h
  · rw [tl_append, tl_append, List.mem_append, List.mem_append, sl_len] at h
    rcases h with (h | h) | h
    · exact num_code h
    · rcases List.mem_singleton.mp h
      decide
    · exact num_code h
theorem nice2 {x : Str} (h : ∀ c ∈ tl x, c < 1114112) : D.nice 16 (.lst [.str x, .str x]) = true := eqv_same fun y hy => by
  rcases List.mem_cons.mp hy with e | e
  · subst e; exact nice_str h
  · rcases List.mem_singleton.mp e; exact nice_str h
/-! parts of a text -/
theorem spl_bound (s : Nat) : ∀ (l acc : List Nat), (spl [s] 0 acc l).length ≤ l.length + 1 ∧ ∀ m ∈ spl [s] 0 acc l, m.length ≤ acc.length + l.length ∧ ∀ c ∈ m, c ∈ acc ∨ c ∈ l
  | [], acc => by
    rw [spl_nil]
    refine ⟨Nat.le_refl _, fun m hm => ?_⟩
    rw [List.mem_singleton.mp hm]
    exact ⟨Nat.le_refl _, fun c hc => .inl hc⟩
  | c :: r, acc => by
    by_cases h : pre [s] (c :: r) = true
    · rw [spl_hit h]
      have e : [s].length - 1 = 0 := rfl
      rw [e]
      obtain ⟨h1, h2⟩ := spl_bound s r []
      refine ⟨by rw [List.length_cons, List.length_cons]; omega, fun m hm => ?_⟩
      rcases List.mem_cons.mp hm with z | z
      · subst z; exact ⟨Nat.le_add_right _ _, fun c hc => .inl hc⟩
      · obtain ⟨a, b⟩ := h2 m z
        rw [List.length_nil] at a
        refine ⟨by rw [List.length_cons]; omega, fun d hd => .inr ?_⟩
        rcases b d hd with y | y
        · cases y
        · exact List.mem_cons_of_mem _ y
    · have h : pre [s] (c :: r) = false := by simpa using h
      rw [spl_miss h]
      obtain ⟨h1, h2⟩ := spl_bound s r (acc ++ [c])
      refine ⟨by rw [List.length_cons]; omega, fun m hm => ?_⟩
      obtain ⟨a, b⟩ := h2 m hm
      rw [List.length_append, List.length_singleton] at a
      refine ⟨by rw [List.length_cons]; omega, fun d hd => ?_⟩
      rcases b d hd with y | y
      · rcases List.mem_append.mp y with y | y
        · exact .inl y
        · rw [List.mem_singleton.mp y]; exact .inr List.mem_cons_self
      · exact .inr (List.mem_cons_of_mem _ y)
theorem split_bound {x y : Str} {s : Nat} (ey : tl y = [s]) (hk : y.cps.all (· < 256) = true) : (Txt.split x y).length ≤ x.length + 1 ∧ ∀ w ∈ Txt.split x y, w.length ≤ x.length ∧ ∀ c ∈ tl w, c ∈ tl x := by
  have e := split_spl x y (by rw [ey]; simp) (kind_ok hk)
  rw [ey] at e
  obtain ⟨h1, h2⟩ := spl_bound s (tl x) []
  rw [← e] at h1 h2
  rw [List.length_map, ← len_tl] at h1
  refine ⟨h1, fun w hw => ?_⟩
  obtain ⟨a, b⟩ := h2 (tl w) (List.mem_map_of_mem hw)
  rw [List.length_nil, Nat.zero_add, ← len_tl, ← len_tl] at a
  refine ⟨a, fun c hc => ?_⟩
  rcases b c hc with z | z
  · cases z
  · exact z
abbrev wsOf (s : Str) : List Str := Txt.split s (Str.ofString " ")
theorem ws_bound (s : Str) : (wsOf s).length ≤ s.length + 1 ∧ ∀ w ∈ wsOf s, w.length ≤ s.length ∧ ∀ c ∈ tl w, c ∈ tl s := split_bound (s := 32) sp_len (by decide +kernel)
/-! a walk over words -/
def scan {α : Type} (f : Nat → Str → Option α) : Nat → List Str → Nat ⊕ List α
  | _, [] => .inr []
  | k, w :: ws => match f k w with
    | none => .inl k
    | some a => match scan f (k + 1) ws with
      | .inl j => .inl j
      | .inr l => .inr (a :: l)
def stepOf (w : Str) : Option Int := match whole w with
  | some i => if i < 0 then none else some i
  | none => none
def phOf (n k : Nat) (w : Str) : Option (Int × Int) := if n ≤ k then none else fracOf w
abbrev badX (k : Int) : XV := ⟨"InvalidText", [.int k]⟩
theorem scan_loop {α : Type} {f : Nat → Str → Option α} {g : α → D} {tb : TDS} {D0 : DEnds} {pre : List (Option D)} {n : Nat} {pf : Addr} {M0 : MM} (hpre : pre.length = n)
    (hb : ∀ (Dn : DEnds) (k : Nat) (w : Str) (acc : List D) (o : Option D), acc.length < 8388608 → w.length ≤ 4194304 → (match f k w with
      | some a => Dn.nx (pre ++ [some (.int (k : Int)), some (.str w), some (g a)]) (mput M0 pf (.lst (acc ++ [g a])))
      | none => ∀ σ' M', M' = mput M0 pf (.lst acc) → Dn.ex (badX k) σ' M') → tb Dn (pre ++ [some (.int (k : Int)), some (.str w), o]) (mput M0 pf (.lst acc))) :
    ∀ (ws : List Str) (k : Nat) (acc : List D) (o1 o2 o3 : Option D), acc.length + ws.length ≤ 8388608 → (∀ w ∈ ws, w.length ≤ 4194304) →
      (match scan f k ws with
      | .inr l => ∀ o1 o2 o3, D0.nx (pre ++ [o1, o2, o3]) (mput M0 pf (.lst (acc ++ l.map g)))
      | .inl j => ∀ σ' xs, D0.ex (badX j) σ' (mput M0 pf (.lst xs))) →
      forD (gtup 2 (gsc (gn n) (gsc (gn (n + 1)) gsn))) tb (enumD k (ws.map D.str)) D0 (pre ++ [o1, o2, o3]) (mput M0 pf (.lst acc))
  | [], k, acc, o1, o2, o3, _, _, q => by
    have q : ∀ o1 o2 o3, D0.nx (pre ++ [o1, o2, o3]) (mput M0 pf (.lst (acc ++ []))) := q
    rw [List.append_nil] at q
    exact q o1 o2 o3
  | w :: ws, k, acc, o1, o2, o3, hl, hw, q => by
    rw [List.length_cons] at hl
    refine ⟨rfl, ?_⟩
    have e1 : ((pre ++ [o1, o2, o3]).set n (some (D.int (k : Int)))).set (n + 1) (some (D.str w)) = pre ++ [some (.int (k : Int)), some (.str w), o3] := by
      rw [← hpre, List.set_append_right _ _ (Nat.le_refl _), Nat.sub_self, List.set_append_right _ _ (show pre.length ≤ pre.length + 1 from Nat.le_succ _), Nat.add_sub_cancel_left]
      rfl
    show tb _ (((pre ++ [o1, o2, o3]).set n (some (D.int (k : Int)))).set (n + 1) (some (D.str w))) _
    rw [e1]
    refine hb _ k w acc o3 (by omega) (hw w List.mem_cons_self) ?_
    unfold scan at q
    cases e : f k w with
    | none =>
      rw [e] at q
      intro σ' M' hM
      subst hM
      exact q σ' acc
    | some a =>
      rw [e] at q
      refine scan_loop hpre hb ws (k + 1) (acc ++ [g a]) _ _ _ (by rw [List.length_append, List.length_singleton]; omega) (fun w' h' => hw w' (List.mem_cons_of_mem _ h')) ?_
      cases e2 : scan f (k + 1) ws with
      | inl j =>
        simp only [e2] at q
        exact q
      | inr l =>
        simp only [e2] at q
        intro o1 o2 o3
        have z := q o1 o2 o3
        rw [List.map_cons] at z
        rw [List.append_assoc]
        exact z
def phasesOf (n : Nat) (s : Str) : Nat ⊕ List (Int × Int) := match scan (phOf n) 0 (wsOf s) with
  | .inl k => .inl k
  | .inr l => if l.length < n then .inl (wsOf s).length else .inr l
/-! sound texts -/
structure OkT (n : Nat) (s : Str) : Prop where
  l : s.length ≤ n
  c : ∀ c ∈ tl s, c < 128
theorem OkT.u {n : Nat} {s : Str} (h : OkT n s) : ∀ c ∈ tl s, c < 1114112 := fun c hc => Nat.lt_trans (h.c c hc) (by decide)
theorem OkT.mono {n m : Nat} {s : Str} (h : OkT n s) (l : n ≤ m) : OkT m s := ⟨Nat.le_trans h.l l, h.c⟩
theorem OkT.ws {n : Nat} {s w : Str} (h : OkT n s) (hw : w ∈ wsOf s) : OkT n w := ⟨Nat.le_trans ((ws_bound s).2 w hw).1 h.l, fun c hc => h.c c (((ws_bound s).2 w hw).2 c hc)⟩
/-! a number's word -/
theorem num_back {l : List Nat} (ha : NumText.AllDigits l) (hne : l ≠ []) (hh : ∀ c r, l = c :: r → c ≠ 48) : numL (NumText.digitsVal l) = l := by
  cases l with
  | nil => exact absurd rfl hne
  | cons c r =>
    have hc := ha.head
    have h48 := hh c r rfl
    have e := NumText.toDigits_digitsVal r.length (c :: r) rfl ha (.inr ⟨c, r, rfl, by omega⟩)
    unfold numL
    rw [e, List.map_map]
    have key : ∀ m : List Nat, NumText.AllDigits m → m.map (Char.toNat ∘ Char.ofNat) = m := by
      intro m
      induction m with
      | nil => intro _; rfl
      | cons d m ih =>
        intro h
        rw [List.map_cons, ih h.tail]
        congr 1
        have hd := h.head
        have : ∀ k : Nat, k < 58 → (Char.ofNat k).toNat = k := by decide
        exact this d (by omega)
    exact key _ ha
theorem numL_head {n : Nat} : ∀ {c : Nat} {r : List Nat}, numL n = c :: r → 0 < n → c ≠ 48 := by
  induction n using Nat.strongRecOn with
  | ind n ih =>
    intro c r e h0
    by_cases h : n < 10
    · rw [numL_lt h] at e
      injection e with e _
      omega
    · rw [numL_step (by omega)] at e
      cases q : numL (n / 10) with
      | nil => exact absurd q (numL_ne _)
      | cons d m =>
        rw [q] at e
        injection e with e _
        rw [← e]
        exact ih (n / 10) (by omega) q (by omega)
theorem int_of_whole {w : Str} {i : Int} (h : whole w = some i) : w.length ≤ 640 ∧ intText? w = some i := by
  obtain ⟨e, hb⟩ := whole_some h
  subst e
  have hl := numT_len (by decide) hb
  refine ⟨by omega, ?_⟩
  have hz := tl_numT i
  unfold numZ at hz
  by_cases hi : i < 0
  · rw [if_pos hi] at hz
    rw [PySem.intText_neg (x := numT i) hz (numL_digits _) (numL_ne _) (by omega), numL_val]
    congr 1
    omega
  · rw [if_neg hi] at hz
    have hz' : (numT i).cps.toList = numL i.natAbs := hz
    rw [PySem.intText_digits (x := numT i) (by rw [hz']; exact numL_digits _) (by rw [hz']; exact numL_ne _) (by omega), hz', numL_val]
    congr 1
    omega
theorem tl_cut_none (z : Str) (k : Nat) : tl (cutS z none (some (k : Int))) = (tl z).take k := by
  show ((z.cps.toList.drop (HT.sIx z.length 0 none)).take (HT.sIx z.length z.length (some (k : Int)) - HT.sIx z.length 0 none)) = _
  rw [HT.sIx_none, List.drop_zero, Nat.sub_zero, HT.sIx_nat, len_tl, List.take_eq_take_iff]
  show min (min k (tl z).length) (tl z).length = min k (tl z).length
  omega
theorem tl_cut_from (z : Str) (k : Nat) : tl (cutS z (some (k : Int)) none) = (tl z).drop k := by
  show ((z.cps.toList.drop (HT.sIx z.length 0 (some (k : Int)))).take (HT.sIx z.length z.length none - HT.sIx z.length 0 (some (k : Int)))) = _
  rw [HT.sIx_none, HT.sIx_nat, len_tl]
  show ((tl z).drop (min k (tl z).length)).take ((tl z).length - min k (tl z).length) = _
  rw [List.take_of_length_le (by rw [List.length_drop]; exact Nat.le_refl _)]
  by_cases h : k ≤ (tl z).length
  · rw [Nat.min_eq_left h]
  · rw [Nat.min_eq_right (by omega), List.drop_of_length_le (Nat.le_refl _), List.drop_of_length_le (by omega)]
theorem str_eq_tl (a b : Str) : decide (a = b) = decide (tl a = tl b) := by
  by_cases h : tl a = tl b
  · rw [decide_eq_true h, decide_eq_true (ext_tl h)]
  · rw [decide_eq_false h, decide_eq_false]
    intro e; exact h (by rw [e])
theorem eqv_nil (ds : List D) : eqvD (.lst ds) (.lst []) = ds.isEmpty := by
  cases ds with
  | nil => rfl
  | cons d ds =>
    unfold eqvD
    simp only [D.py, pyL, PyData.eqv]
    rfl
theorem nice_nil : D.nice 16 (.lst []) = true := rfl
theorem nice_strs {l : List Str} (h : ∀ s ∈ l, ∀ c ∈ tl s, c < 1114112) : D.nice 16 (.lst (l.map D.str)) = true := eqv_same fun x hx => by
  obtain ⟨s, hs, rfl⟩ := List.mem_map.mp hx
  exact nice_str (h s hs)
/-! a fraction's word -/
theorem spl_par (s : Nat) : ∀ (l acc : List Nat), spl [s] 0 acc l = match par [s] acc l with
    | some (a, b) => a :: spl [s] 0 [] b
    | none => [acc ++ l]
  | [], acc => by rw [spl_nil, List.append_nil]; rfl
  | c :: r, acc => by
    by_cases h : pre [s] (c :: r) = true
    · rw [spl_hit h, par_hit h]; rfl
    · have h : pre [s] (c :: r) = false := by simpa using h
      rw [spl_miss h, par_miss h, spl_par s r (acc ++ [c])]
      cases par [s] (acc ++ [c]) r with
      | none => simp
      | some p => rfl
theorem par_none_free (s : Nat) : ∀ (l acc : List Nat), par [s] acc l = none → s ∉ l
  | [], _, _ => by simp
  | c :: r, acc, h => by
    by_cases hp : pre [s] (c :: r) = true
    · rw [par_hit hp] at h; cases h
    · have hp : pre [s] (c :: r) = false := by simpa using hp
      rw [par_miss hp] at h
      intro hm
      rcases List.mem_cons.mp hm with e | e
      · subst e
        have : pre [s] (s :: r) = true := by unfold pre; simp
        rw [this] at hp; cases hp
      · exact par_none_free s r _ h e
theorem whole_slash {w : Str} (h : 47 ∈ tl w) : whole w = none := by
  cases e : whole w with
  | none => rfl
  | some i =>
    obtain ⟨e2, _⟩ := whole_some e
    subst e2
    exact absurd h (num_free2 i)
theorem frac_cases (w : Str) : (Txt.split w (Str.ofString "/") = [w] ∧ fracOf w = (whole w).map fun t => (t, 1)) ∨
    (∃ a b : Str, Txt.split w (Str.ofString "/") = [a, b] ∧ w = a ++ Str.ofString "/" ++ b ∧ fracOf w = match whole a, whole b with
      | some t, some m => if m < 2 ∨ 1 < Nat.gcd t.natAbs m.natAbs then none else some (t, m)
      | _, _ => none) ∨ (2 < (Txt.split w (Str.ofString "/")).length ∧ fracOf w = none) := by
  have hne : tl (Str.ofString "/") ≠ [] := by rw [sl_len]; simp
  have es := split_spl w (Str.ofString "/") hne (kind_ok (by decide +kernel))
  have ep := partition_par w (Str.ofString "/") hne
  rw [sl_len] at es ep
  rw [spl_par] at es
  cases hp : par [47] [] (tl w) with
  | none =>
    rw [hp] at es ep
    have es : (Txt.split w (Str.ofString "/")).map tl = [tl w] := es
    refine .inl ⟨map_tl_inj (by rw [es]; rfl), ?_⟩
    unfold fracOf
    rw [ep]
    have e : ¬ Str.empty = Str.ofString "/" := by decide
    simp only [if_neg e, e, false_and, if_false]
    cases whole w <;> rfl
  | some p =>
    obtain ⟨a, b⟩ := p
    rw [hp] at es ep
    have es : (Txt.split w (Str.ofString "/")).map tl = a :: spl [47] 0 [] b := es
    have ew : tl w = a ++ (47 :: b) := by
      have key : ∀ (l acc : List Nat), par [47] acc l = some (a, b) → acc ++ l = a ++ (47 :: b) := by
        intro l
        induction l with
        | nil => intro acc h; cases h
        | cons c r ih =>
          intro acc h
          by_cases hp : pre [47] (c :: r) = true
          · rw [par_hit hp] at h
            have hc : c = 47 := by
              unfold pre at hp
              simpa using hp
            subst hc
            injection h with h
            injection h with h1 h2
            subst h1
            rw [← h2]; rfl
          · have hp : pre [47] (c :: r) = false := by simpa using hp
            rw [par_miss hp] at h
            have := ih _ h
            rw [← this, List.append_assoc]; rfl
      have := key _ _ hp
      rwa [List.nil_append] at this
    rw [spl_par] at es
    cases hb : par [47] [] b with
    | none =>
      rw [hb] at es
      have es : (Txt.split w (Str.ofString "/")).map tl = [a, b] := es
      refine .inr (.inl ⟨⟨a.toArray⟩, ⟨b.toArray⟩, map_tl_inj (by rw [es]; rfl), ext_tl (by rw [tl_append, tl_append, sl_len, ew]; simp [tl]), ?_⟩)
      unfold fracOf
      rw [ep]
      simp only [if_true, true_and]
      all_goals (cases whole (⟨a.toArray⟩ : Str) <;> cases whole (⟨b.toArray⟩ : Str) <;> rfl)
    | some p2 =>
      obtain ⟨a2, b2⟩ := p2
      rw [hb] at es
      refine .inr (.inr ⟨?_, ?_⟩)
      · have := congrArg List.length es
        rw [List.length_map] at this
        rw [this]
        show 2 < (a :: (a2 :: spl [47] 0 [] b2)).length
        rw [List.length_cons, List.length_cons]
        cases h : spl [47] 0 [] b2 with
        | nil =>
          rw [spl_par] at h
          cases h2 : par [47] [] b2 <;> rw [h2] at h <;> cases h
        | cons => rw [List.length_cons]; omega
      · unfold fracOf
        rw [ep]
        simp only [if_true, true_and]
        have hm : 47 ∈ tl (⟨b.toArray⟩ : Str) := by
          show 47 ∈ b
          apply Classical.byContradiction
          intro hn
          rw [par_none1 hn] at hb
          cases hb
        rw [whole_slash hm]
        cases whole (⟨a.toArray⟩ : Str) <;> rfl
theorem q_int_s {a : Str} {n : Int} {M : MM} {Q : DK} (h : intText? a = some n) : rdInt [.str a] M Q = (a.length ≤ 640 ∧ Q (.int n) M) := by
  unfold rdInt
  simp only [h]
/-! where the words fail -/
theorem scan_len {α : Type} {f : Nat → Str → Option α} : ∀ (ws : List Str) (k : Nat) {l : List α}, scan f k ws = .inr l → l.length = ws.length
  | [], _, l, h => by unfold scan at h; cases h; rfl
  | w :: ws, k, l, h => by
    unfold scan at h
    cases e : f k w with
    | none => rw [e] at h; cases h
    | some a =>
      rw [e] at h
      cases e2 : scan f (k + 1) ws with
      | inl j => simp only [e2] at h; cases h
      | inr l2 =>
        simp only [e2] at h
        cases h
        rw [List.length_cons, List.length_cons, scan_len ws (k + 1) e2]
theorem place_loop {α : Type} {f : Nat → Str → Option α} {tb : TDS} {D0 : DEnds} {c v : Option D} {M : MM} {ws : List Str}
    (hb : ∀ (Dn : DEnds) (k : Nat) (w : Str) (o : Option D), ws[k]? = some w → Dn.rt = D0.rt → (match f k w with
      | some _ => ∀ o', Dn.nx [c, v, some (.int (k : Int)), o'] M
      | none => Dn.rt (.int (k : Int)) M) → tb Dn [c, v, some (.int (k : Int)), o] M) :
    ∀ (rest pre : List Str) (o1 o2 : Option D), ws = pre ++ rest → (match scan f pre.length rest with
      | .inl k => D0.rt (.int (k : Int)) M
      | .inr _ => ∀ o1 o2, D0.nx [c, v, o1, o2] M) → forD (gn 2) tb (rgD (pre.length : Int) (ws.length : Int)) D0 [c, v, o1, o2] M
  | [], pre, o1, o2, e, q => by
    rw [List.append_nil] at e
    subst e
    rw [rgD_nil (Int.le_refl _)]
    have q : ∀ o1 o2, D0.nx [c, v, o1, o2] M := q
    exact q o1 o2
  | w :: rest, pre, o1, o2, e, q => by
    have hl : ws.length = pre.length + (rest.length + 1) := by rw [e, List.length_append, List.length_cons]
    rw [rgD_cons (by omega)]
    refine hb _ pre.length w o2 (by rw [e, List.getElem?_append_right (Nat.le_refl _), Nat.sub_self]; rfl) rfl ?_
    unfold scan at q
    cases ef : f pre.length w with
    | none => rw [ef] at q; exact q
    | some a =>
      rw [ef] at q
      intro o'
      have z := place_loop hb rest (pre ++ [w]) (some (.int (pre.length : Int))) o' (by rw [e, List.append_assoc]; rfl)
      rw [List.length_append, List.length_singleton] at z
      have e2 : ((pre.length + 1 : Nat) : Int) = (pre.length : Int) + 1 := by omega
      rw [e2] at z
      refine z ?_
      cases e3 : scan f (pre.length + 1) rest with
      | inl j => simp only [e3] at q; exact q
      | inr l => simp only [e3] at q; exact q
def placeS (ws : List Str) : D := match scan (fun _ w => stepOf w) 0 ws with
  | .inl k => .int (k : Int)
  | .inr _ => .non
def placeP (n : Nat) (ws : List Str) : D := match scan (phOf n) 0 ws with
  | .inl k => .int (k : Int)
  | .inr _ => if ws.length < n then .int (ws.length : Int) else .non
theorem word_at {ws : List Str} {k : Nat} {w : Str} (h : ws[k]? = some w) : atI (ws.map D.str) (k : Int) = some (D.str w) := atI_nat (by rw [List.getElem?_map, h]; rfl)
/-! there and back -/
theorem step_back {w : Str} {i : Int} (h : stepOf w = some i) : w = numT i ∧ i.natAbs < 10 ^ 9 := by
  unfold stepOf at h
  cases e : whole w with
  | none => rw [e] at h; cases h
  | some j =>
    rw [e] at h
    have h : (if j < 0 then none else some j) = some i := h
    split at h
    · cases h
    · cases h; exact whole_some e
theorem frac_back {w : Str} {f : Int × Int} (h : fracOf w = some f) : w = fracT f ∧ SmallF f := by
  rcases frac_cases w with ⟨_, e⟩ | ⟨a, b, _, ew, e⟩ | ⟨_, e⟩
  · rw [e] at h
    cases hw : whole w with
    | none => rw [hw] at h; cases h
    | some t =>
      rw [hw] at h
      have h : some (t, (1 : Int)) = some f := h
      cases h
      obtain ⟨e1, e2⟩ := whole_some hw
      refine ⟨?_, ⟨Nat.lt_trans e2 (by decide), by show (1 : Int).natAbs < 10 ^ 40; decide⟩⟩
      unfold fracT
      rw [if_pos rfl]
      exact e1
  · rw [e] at h
    cases ha : whole a with
    | none => rw [ha] at h; cases h
    | some t =>
      cases hb : whole b with
      | none => rw [ha, hb] at h; cases h
      | some m =>
        rw [ha, hb] at h
        have h : (if m < 2 ∨ 1 < Nat.gcd t.natAbs m.natAbs then none else some (t, m)) = some f := h
        split at h
        · cases h
        · rename_i hn
          cases h
          obtain ⟨a1, a2⟩ := whole_some ha
          obtain ⟨b1, b2⟩ := whole_some hb
          refine ⟨?_, ⟨Nat.lt_trans a2 (by decide), Nat.lt_trans b2 (by decide)⟩⟩
          unfold fracT
          rw [if_neg (show ¬ m = 1 by omega), ew, ← a1, ← b1]
  · rw [e] at h; cases h
theorem scan_back {α : Type} {f : Nat → Str → Option α} {g : α → Str} {R : α → Prop} (hf : ∀ k w a, f k w = some a → w = g a ∧ R a) : ∀ (ws : List Str) (k : Nat) {l : List α}, scan f k ws = .inr l → l.map g = ws ∧ ∀ a ∈ l, R a
  | [], _, l, h => by unfold scan at h; cases h; exact ⟨rfl, fun _ h => by cases h⟩
  | w :: ws, k, l, h => by
    unfold scan at h
    cases e : f k w with
    | none => rw [e] at h; cases h
    | some a =>
      rw [e] at h
      cases e2 : scan f (k + 1) ws with
      | inl j => simp only [e2] at h; cases h
      | inr l2 =>
        simp only [e2] at h
        cases h
        obtain ⟨h1, h2⟩ := scan_back hf ws (k + 1) e2
        obtain ⟨h3, h4⟩ := hf k w a e
        refine ⟨by rw [List.map_cons, h1, ← h3], fun b hb => ?_⟩
        rcases List.mem_cons.mp hb with z | z
        · subst z; exact h4
        · exact h2 b z
theorem q_isiX {tab : IsTab} {x c : D} {b : Bool} {M : MM} {Q : DK} (h : isT tab x c = some b) : rdIsiX tab [x, c] M Q = Q (.bl b) M := by
  unfold rdIsiX
  simp only [h]
/-! texts put together -/
theorem ok_app {n m : Nat} {x y : Str} (a : OkT n x) (b : OkT m y) : OkT (n + m) (x ++ y) := ⟨by rw [strLen_append]; have := a.l; have := b.l; omega, fun c hc => by
  rw [tl_append] at hc
  rcases List.mem_append.mp hc with h | h
  · exact a.c c h
  · exact b.c c h⟩
theorem ok_cut {n : Nat} {x : Str} (a : OkT n x) (lo hi : Option Int) : OkT n (cutS x lo hi) := by
  have e : tl (cutS x lo hi) = ((tl x).drop (HT.sIx x.length 0 lo)).take (HT.sIx x.length x.length hi - HT.sIx x.length 0 lo) := rfl
  refine ⟨?_, fun c hc => ?_⟩
  · rw [len_tl, e, List.length_take, List.length_drop]
    have := a.l
    have := len_tl x
    omega
  · rw [e] at hc
    exact a.c c (List.mem_of_mem_drop (List.mem_of_mem_take hc))
theorem ok_join {n : Nat} {ws : List Str} (h : ∀ w ∈ ws, OkT n w) : OkT (ws.length * (n + 1)) (Txt.join (Str.ofString " ") ws) := ⟨join_bound fun w hw => (h w hw).l, join_code fun w hw => (h w hw).c⟩
theorem ok_num {i : Int} (h : i.natAbs < 10 ^ 9) : OkT 10 (numT i) := ⟨numT_len (by decide) h, fun c hc => num_code hc⟩
theorem ok_frac {f : Int × Int} (h : SmallF f) : OkT 83 (fracT f) := ⟨fracT_len h, fun c hc => fracT_code hc⟩
theorem fold_mem {c : Nat} : ∀ (l : List (Array Nat)) (acc : Array Nat), c ∈ (l.foldl (· ++ ·) acc).toList → c ∈ acc.toList ∨ ∃ a ∈ l, c ∈ a.toList
  | [], acc, h => .inl h
  | a :: l, acc, h => by
    rw [List.foldl_cons] at h
    rcases fold_mem l (acc ++ a) h with h | ⟨b, hb, h⟩
    · rw [Array.toList_append] at h
      rcases List.mem_append.mp h with h | h
      · exact .inl h
      · exact .inr ⟨a, List.mem_cons_self, h⟩
    · exact .inr ⟨b, List.mem_cons_of_mem _ hb, h⟩
theorem ok_mul {n : Nat} {x : Str} (a : OkT n x) (k : Nat) : OkT (n * k) (Txt.mul x (k : Int)) := by
  refine ⟨PyProof.Rows.len_mul_leN a.l (Int.le_refl _), fun c hc => ?_⟩
  unfold Txt.mul at hc
  split at hc
  · cases hc
  · split at hc
    · exact a.c c hc
    · rcases fold_mem _ _ hc with h | ⟨b, hb, h⟩
      · cases h
      · rw [List.eq_of_mem_replicate hb] at h
        exact a.c c h
theorem parts_mem {x : Str} {w c : Nat} : ∀ (cuts : List Nat) (i : Nat) (p : Str), p ∈ PySem.StrLaws.partsFrom x w i cuts → c ∈ tl p → c ∈ tl x
  | [], i, p, h, hc => by
    rw [List.mem_singleton.mp h, tl_strSub] at hc
    exact List.mem_of_mem_drop (List.mem_of_mem_take hc)
  | j :: cuts, i, p, h, hc => by
    rcases List.mem_cons.mp h with e | e
    · rw [e, tl_strSub] at hc
      exact List.mem_of_mem_drop (List.mem_of_mem_take hc)
    · exact parts_mem cuts _ p e hc
theorem ok_repl {n m : Nat} {x y z : Str} (a : OkT n x) (b : OkT m z) : OkT (n + (n + 1) * m) (Txt.replace x y z) := by
  refine ⟨?_, fun c hc => ?_⟩
  · have h := TK.replace_len x y z
    have h2 : (x.length + 1) * z.length ≤ (n + 1) * m := Nat.mul_le_mul (Nat.succ_le_succ a.l) b.l
    have := a.l
    omega
  · unfold Txt.replace at hc
    split at hc
    · exact a.c c hc
    · rw [PySem.StrLaws.partsBetween_eq] at hc
      rcases join_tl (sep := z) (l := PySem.StrLaws.partsFrom x y.length 0 _) hc with ⟨p, hp, h⟩ | h
      · exact a.c c (parts_mem _ _ p hp h)
      · exact b.c c h
/-! words changed -/
theorem at_ok {l : List Str} {v : Int} {R : Str → Prop} (h0 : 0 ≤ v) (h1 : v < (l.length : Int)) (h : ∀ s ∈ l, R s) : ∃ s, atI (l.map D.str) v = some (D.str s) ∧ R s := by
  obtain ⟨k, rfl⟩ : ∃ k : Nat, v = (k : Int) := ⟨v.toNat, by omega⟩
  have hl : k < l.length := by omega
  exact ⟨l[k], atI_nat (by rw [List.getElem?_map, List.getElem?_eq_getElem hl]; rfl), h _ (List.getElem_mem hl)⟩
theorem ok_sub {w : Str} (a : OkT 1000000 w) (lo hi : Option Int) : OkT w.length (cutS w lo hi) := ok_cut ⟨Nat.le_refl _, a.c⟩ lo hi
structure OkW (k n : Nat) (ws : List Str) : Prop where
  l : ws.length ≤ k
  w : ∀ w ∈ ws, OkT n w
theorem cutD_map (ws : List Str) (lo hi : Option Int) : ∃ l : List Str, cutD (ws.map D.str) lo hi = l.map D.str ∧ (∀ w ∈ l, w ∈ ws) ∧ l.length ≤ ws.length := by
  refine ⟨(ws.drop (HT.sIx ws.length 0 lo)).take (HT.sIx ws.length ws.length hi - HT.sIx ws.length 0 lo), ?_, fun w hw => List.mem_of_mem_drop (List.mem_of_mem_take hw), ?_⟩
  · unfold cutD
    rw [List.length_map, ← List.map_drop, ← List.map_take]
  · rw [List.length_take, List.length_drop]; omega
theorem mulok {x : Str} {n : Nat} (hx : x.length ≤ 4000) (hn : n ≤ 4000) : MulOk x (n : Int) := by
  have z : sizeLine = 16777216 := rfl
  refine ⟨?_, fun h _ => ?_, fun h hh => ?_⟩
  · rw [Bool.or_eq_false_iff, decide_eq_false_iff_not, decide_eq_false_iff_not]
    omega
  · have h1 : (x.length : Int) * (n : Int) ≤ 4000 * 4000 := Int.mul_le_mul (by omega) (by omega) (by omega) (by omega)
    have h2 : (x.length : Int) ≤ (2 ^ 63 - 1) / (n : Int) := Int.le_ediv_of_mul_le (by omega) (by omega)
    omega
  · unfold Builtin.Str.tooLong
    refine decide_eq_false ?_
    have h1 : x.length * n ≤ 4000 * 4000 := Nat.mul_le_mul hx hn
    rw [Int.toNat_natCast]
    omega
theorem ok_lit {s : Str} {n : Nat} (h : (decide (s.length ≤ n) && (tl s).all fun c => decide (c < 128)) = true) : OkT n s := by
  rw [Bool.and_eq_true] at h
  exact ⟨of_decide_eq_true h.1, fun c hc => of_decide_eq_true (List.all_eq_true.mp h.2 c hc)⟩
theorem row_new (ps : List Int) (h : (decide (2 ≤ ps.length) && (decide (ps.length ≤ 5) && ps.all fun p => decide (1 ≤ p) && decide (p ≤ 60))) = true) : GoodRow (Str.ofString "new") ps ∧ GoodRow (Str.ofString "old") ps := by
  simp only [Bool.and_eq_true, decide_eq_true_eq, List.all_eq_true] at h
  exact ⟨⟨.inl rfl, ⟨h.1, h.2.1⟩, fun p hp => h.2.2 p hp⟩, ⟨.inr rfl, ⟨h.1, h.2.1⟩, fun p hp => h.2.2 p hp⟩⟩
/-! the law -/
theorem for_cnt {tb : TDS} {i : Nat} {I : Nat → DSt → MM → Prop} {D0 : DEnds} (N : Nat) : ∀ (ds : List D) (n : Nat) (σ : DSt) (M : MM), (∀ d ∈ ds, ∀ (n : Nat) (σ : DSt) (M : MM) (Dn : DEnds), n < N → I n σ M → (∀ σ' M', I (n + 1) σ' M' → Dn.nx σ' M') → tb Dn (σ.set i (some d)) M) →
    n + ds.length ≤ N → I n σ M → (∀ σ' M', I (n + ds.length) σ' M' → D0.nx σ' M') → forD (gn i) tb ds D0 σ M
  | [], n, σ, M, _, _, hi, q => q σ M hi
  | d :: ds, n, σ, M, h, hN, hi, q => by
    rw [List.length_cons] at hN
    refine h d List.mem_cons_self n σ M _ (by omega) hi fun σ' M' hi' => ?_
    refine for_cnt N ds (n + 1) σ' M' (fun x hx => h x (List.mem_cons_of_mem _ hx)) (by omega) hi' fun σ'' M'' h2 => q σ'' M'' ?_
    rw [List.length_cons, show n + (ds.length + 1) = n + 1 + ds.length from by omega]
    exact h2
end DL
namespace DL
open PySem PySem.Spec L2
open TL
/-! upper -/
theorem tl_upper (x : Str) : ∀ c ∈ tl (Txt.upper x), ∃ d ∈ tl x, c ∈ Unicode.upperOf d := by
  intro c hc
  have h : c ∈ (x.cps.mapIdx fun _ c => (Unicode.upperOf c).toArray).flatten := Array.mem_toList_iff.mp hc
  obtain ⟨ys, hy, hc2⟩ := Array.mem_flatten.mp h
  obtain ⟨i, hi, e⟩ := Array.mem_mapIdx.mp hy
  subst e
  exact ⟨x.cps[i], Array.mem_toList_iff.mpr (Array.getElem_mem hi), by simpa using hc2⟩
theorem upper_ascii : ∀ d, d < 128 → ∀ c ∈ Unicode.upperOf d, c < 128 := by decide +kernel
theorem ok_upper {n : Nat} {x : Str} (a : OkT n x) : OkT (3 * n) (Txt.upper x) := ⟨Nat.le_trans (PyProof.Rows.len_upper x) (Nat.mul_le_mul_left _ a.l), fun c hc => by
  obtain ⟨d, hd, hc⟩ := tl_upper x c hc
  exact upper_ascii d (a.c d hd) c hc⟩
/-- x.upper() -/
def tupper (t : TD) : TD := fun σ M Q E => t σ M (fun x M1 => match x with
  | .str a => a.length ≤ 5592405 ∧ Q (.str (Txt.upper a)) M1
  | _ => False) E
theorem d_upper {X : Cx} {W : WX} {o : Expr} {to : TD} {apos pos : Pos} (ho : DE X W o to) (hbase : attributeBase o "upper" X.env (eval o X.env) = eval o X.env := by rfl) (hline : (apos.endLine == pos.line) = true := by rfl) :
    DE X W (.Call (.Attribute o "upper" apos) [] [] pos) (tupper to) := pe_imp (pe_upper ho hbase hline) fun σv H Qv h => by
  obtain ⟨HI, σ, M, Q, E, ok, re, h, k, we⟩ := h
  refine ⟨HI, σ, M, _, E, ok, re, h, fun v H1 ⟨HI1, M1, d1, s1, ok1, r1, h1⟩ => ?_, we⟩
  cases r1 with
  | str a => exact ⟨⟨a, rfl⟩, a, rfl, rfl, h1.1, k _ _ ⟨HI1, M1, _, s1, ok1, .str _, h1.2⟩⟩
  | _ => exact h1.elim
end DL
namespace DL
open PySem PySem.Spec L2
open TL
theorem OkW.mono {k n k' n' : Nat} {ws : List Str} (h : OkW k n ws) (a : k ≤ k') (b : n ≤ n') : OkW k' n' ws := ⟨Nat.le_trans h.l a, fun w hw => (h.w w hw).mono b⟩
theorem mulokG {x : Str} {n : Nat} (hx : x.length ≤ 2000) (hn : n ≤ 8000) : MulOk x (n : Int) := by
  have z : sizeLine = 16777216 := rfl
  refine ⟨?_, fun h _ => ?_, fun h hh => ?_⟩
  · rw [Bool.or_eq_false_iff, decide_eq_false_iff_not, decide_eq_false_iff_not]
    omega
  · have h1 : (x.length : Int) * (n : Int) ≤ 2000 * 8000 := Int.mul_le_mul (by omega) (by omega) (by omega) (by omega)
    have h2 : (x.length : Int) ≤ (2 ^ 63 - 1) / (n : Int) := Int.le_ediv_of_mul_le (by omega) (by omega)
    omega
  · unfold Builtin.Str.tooLong
    refine decide_eq_false ?_
    have h1 : x.length * n ≤ 2000 * 8000 := Nat.mul_le_mul hx hn
    rw [Int.toNat_natCast]
    omega
end DL

/-! The data layer: specs of tests of any value. -/
namespace DL
open PySem PySem.Spec L2
/-- a value of a kind that the law knows -/
def AnyV (k : IsK) (M : MM) : D → Prop
  | .ty _ => False
  | .kls _ => False
  | .kt _ => False
  | .exc c _ => k.xs.contains c = true
  | .ref p => (∃ xs, M p = some (.lst xs)) ∨ ∃ C fs, M p = some (.ins C fs) ∧ k.is.contains C = true
  | _ => True
theorem AnyV.mle {k : IsK} {M M' : MM} {v : D} (h : AnyV k M v) (l : MLe M M') : AnyV k M' v := by
  cases v with
  | ref p =>
    rcases h with ⟨xs, h⟩ | ⟨C, fs, h, c⟩
    · exact .inl ⟨xs, l _ _ h⟩
    · exact .inr ⟨C, fs, l _ _ h, c⟩
  | _ => exact h
def isOkB (k : IsK) : Bool := (k.is ++ k.xs).all fun C => (["int", "bool", "tuple", "str", "list"] : List String).all fun t => decide (k.tab.lookup (.own C, .ty t) = some false)
theorem isOk_at {k : IsK} (h : isOkB k = true) {C : Str} (hC : k.is.contains C = true ∨ k.xs.contains C = true) {t : String} (ht : t ∈ (["int", "bool", "tuple", "str", "list"] : List String)) : k.tab.lookup (.own C, .ty t) = some false := by
  have z := List.all_eq_true.mp h C (List.mem_append.mpr (hC.imp (fun q => List.contains_iff_mem.mp q) fun q => List.contains_iff_mem.mp q))
  exact of_decide_eq_true (List.all_eq_true.mp z t ht)
/-- what isinstance of a built-in class answers -/
def isList (M : MM) : D → Bool
  | .lst _ => true
  | .ref p => (match M p with
    | some (.lst _) => true
    | _ => false)
  | _ => false
theorem im_gen {k : IsK} {M : MM} {v : D} {t : String} {f : D → Bool} (hk : isOkB k = true) (ht : t ∈ (["int", "bool", "tuple", "str", "list"] : List String)) (h : AnyV k M v)
    (hb : ∀ d c, d.cls = some c → kitB c t = some (f d)) (hr : ∀ p, (∃ C fs, M p = some (.ins C fs)) → f (.ref p) = false) (hl : ∀ p xs, M p = some (.lst xs) → kitB "list" t = some (f (.ref p))) (hx : ∀ c fs, f (.exc c fs) = false) : isTM k M v (.ty t) = some (f v) := by
  unfold isTM
  cases v with
  | ref p =>
    rcases h with ⟨xs, h⟩ | ⟨C, fs, h, c⟩
    · simp only [tagM, tgC, h]
      exact hl p xs h
    · simp only [tagM, tgC, h]
      rw [if_pos c, hr p ⟨C, fs, h⟩]
      exact isOk_at hk (.inl c) ht
  | exc c fs =>
    simp only [tagM, tgC]
    rw [if_pos (show k.xs.contains c = true from h), hx]
    exact isOk_at hk (.inr h) ht
  | ty n => exact h.elim
  | kls c => exact h.elim
  | kt c => exact h.elim
  | _ => exact hb _ _ rfl
section
variable {k : IsK} {M : MM} {v : D}
theorem im_int (hk : isOkB k = true) (h : AnyV k M v) : isTM k M v (.ty "int") = some (isNum v || isBool v) :=
  im_gen (f := fun v => isNum v || isBool v) hk (by decide) h (fun d c e => by cases d <;> first | (cases e; rfl) | cases e) (fun _ _ => rfl) (fun _ _ _ => rfl) fun _ _ => rfl
theorem im_bool (hk : isOkB k = true) (h : AnyV k M v) : isTM k M v (.ty "bool") = some (isBool v) :=
  im_gen (f := isBool) hk (by decide) h (fun d c e => by cases d <;> first | (cases e; rfl) | cases e) (fun _ _ => rfl) (fun _ _ _ => rfl) fun _ _ => rfl
theorem im_str (hk : isOkB k = true) (h : AnyV k M v) : isTM k M v (.ty "str") = some (isStr v) :=
  im_gen (f := isStr) hk (by decide) h (fun d c e => by cases d <;> first | (cases e; rfl) | cases e) (fun _ _ => rfl) (fun _ _ _ => rfl) fun _ _ => rfl
theorem im_tuple (hk : isOkB k = true) (h : AnyV k M v) : isTM k M v (.ty "tuple") = some (isTup v) :=
  im_gen (f := isTup) hk (by decide) h (fun d c e => by cases d <;> first | (cases e; rfl) | cases e) (fun _ _ => rfl) (fun _ _ _ => rfl) fun _ _ => rfl
theorem im_list (hk : isOkB k = true) (h : AnyV k M v) : isTM k M v (.ty "list") = some (isList M v) :=
  im_gen (f := isList M) hk (by decide) h (fun d c e => by cases d <;> first | (cases e; rfl) | cases e) (fun p ⟨C, fs, e⟩ => by simp only [isList, e]) (fun p xs e => by simp only [isList, e]; rfl) fun _ _ => rfl
end
/-- a value whose parts, and theirs, are of kinds that the law knows -/
structure AnyRow (k : IsK) (M : MM) (v : D) : Prop where
  hv : AnyV k M v
  hx : ∀ xs, v = .tup xs → ∀ x ∈ xs, AnyV k M x
  hy : ∀ xs, v = .tup xs → ∀ x ∈ xs, ∀ ys, x = .tup ys → ∀ y ∈ ys, AnyV k M y
theorem AnyRow.mle {k : IsK} {M M' : MM} {v : D} (h : AnyRow k M v) (l : MLe M M') : AnyRow k M' v := ⟨h.hv.mle l, fun xs e x hx => (h.hx xs e x hx).mle l, fun xs e x hx ys e2 y hy => (h.hy xs e x hx ys e2 y hy).mle l⟩
def isTie (s : Str) : Bool := decide (s = Str.ofString "new") || decide (s = Str.ofString "old")
def rowOkB : D → Bool
  | .tup [.str t, .tup ps] => isTie t && (decide (2 ≤ ps.length) && decide (ps.length ≤ 5) && ps.all (inR 1 60))
  | _ => false
theorem inR_ints : ∀ ys : List D, ys.all (inR 1 60) = true → ∃ ps : List Int, ys = ps.map D.int ∧ ∀ p ∈ ps, 1 ≤ p ∧ p ≤ 60
  | [], _ => ⟨[], rfl, fun _ h => by cases h⟩
  | y :: ys, h => by
    rw [List.all_cons, Bool.and_eq_true] at h
    obtain ⟨ps, e, hp⟩ := inR_ints ys h.2
    have h1 := h.1
    cases y with
    | int i =>
      have q : (decide (1 ≤ i) && decide (i ≤ 60)) = true := h1
      rw [Bool.and_eq_true, decide_eq_true_eq, decide_eq_true_eq] at q
      refine ⟨i :: ps, by rw [List.map_cons, e], fun p hpp => ?_⟩
      rcases List.mem_cons.mp hpp with z | z
      · subst z; exact q
      · exact hp p z
    | _ => cases h1
theorem rowOk_good {v : D} (h : rowOkB v = true) : ∃ t ps, v = rowD t ps ∧ GoodRow t ps := by
  unfold rowOkB at h
  split at h
  · rename_i t ys
    simp only [Bool.and_eq_true, decide_eq_true_eq] at h
    obtain ⟨h1, ⟨h2, h3⟩, h4⟩ := h
    obtain ⟨ps, e, hp⟩ := inR_ints ys h4
    subst e
    rw [List.length_map] at h2 h3
    refine ⟨t, ps, rfl, ⟨?_, ⟨h2, h3⟩, hp⟩⟩
    unfold isTie at h1
    rw [Bool.or_eq_true, decide_eq_true_eq, decide_eq_true_eq] at h1
    exact h1
  · cases h
theorem good_rowOk {t : Str} {ps : List Int} (g : GoodRow t ps) : rowOkB (rowD t ps) = true := by
  show (isTie t && (decide (2 ≤ (ps.map D.int).length) && decide ((ps.map D.int).length ≤ 5) && (ps.map D.int).all (inR 1 60))) = true
  rw [List.length_map]
  simp only [Bool.and_eq_true, decide_eq_true_eq, List.all_eq_true, List.mem_map]
  refine ⟨?_, ⟨g.l.1, g.l.2⟩, fun x ⟨p, hp, e⟩ => ?_⟩
  · unfold isTie
    rcases g.t with h | h <;> subst h <;> decide
  · subst e
    have q := g.p p hp
    show (decide (1 ≤ p) && decide (p ≤ 60)) = true
    rw [decide_eq_true q.1, decide_eq_true q.2]; rfl
theorem any_row {k : IsK} {M : MM} {t : Str} {ps : List Int} : AnyRow k M (rowD t ps) := by
  refine ⟨trivial, fun xs e x hx => ?_, fun xs e x hx ys e2 y hy => ?_⟩
  · cases e
    rcases List.mem_cons.mp hx with z | z
    · subst z; trivial
    · rcases List.mem_cons.mp z with z | z
      · subst z; trivial
      · cases z
  · cases e
    subst e2
    rcases List.mem_cons.mp hx with z | z
    · cases z
    · rcases List.mem_cons.mp z with z | z
      · cases z
        obtain ⟨p, _, e⟩ := List.mem_map.mp hy
        subst e; trivial
      · cases z
theorem blsOf_mapf {α : Type} (f : α → Bool) (l : List α) : blsOf (l.map fun a => D.bl (f a)) = some (l.map f) := by
  have := blsOf_map (l.map f)
  rw [List.map_map] at this
  exact this
theorem all_id {α : Type} (f : α → Bool) (l : List α) : (l.map f).all _root_.id = l.all f := by
  induction l with
  | nil => rfl
  | cons a l ih => rw [List.map_cons, List.all_cons, List.all_cons, ih]; rfl
/-! where the heap has changed -/
def FrB (p : Addr) (M M' : MM) : Prop := ∀ q, q ≠ p → M' q = M q
theorem FrB.refl {p : Addr} {M : MM} : FrB p M M := fun _ _ => rfl
theorem FrB.trans {p : Addr} {M M' M'' : MM} (a : FrB p M M') (b : FrB p M' M'') : FrB p M M'' := fun q h => (b q h).trans (a q h)
theorem FrB.put {p : Addr} {M : MM} {o : MO} : FrB p M (mput M p o) := fun q h => mput_ne h
theorem MLe.trans {M M' M'' : MM} (a : MLe M M') (b : MLe M' M'') : MLe M M'' := fun q o h => b q o (a q o h)
end DL

/-! The data layer: an error that is made and kept, and not raised. -/
namespace DL
open PySem PySem.Spec L2 PyProof.Rows
section
variable {X : Cx} {W : WX}
theorem ns_there {h : Heap} {a : Addr} {m : Str → Option Value} (q : h.Ns a m) : ∃ o, h.get? a = some o := by
  obtain ⟨o, _, _, ho, _⟩ := q
  exact ⟨_, ho⟩
theorem pe_mk {e : Expr} {C : Value} (hex : X.ex = []) (h : PMk X e (fun _ H Q => Q C none H)) : PE X e (fun σ H Q => ∀ a, H a = none → Q (.ref a) (upd H a (exE C none a))) := by
  refine ⟨fun pins s σ H Q I q => ?_⟩
  refine wpAny_mono (h pins s σ H (fun cls d H' => cls = C ∧ d = none ∧ H' = H) I ⟨rfl, rfl, rfl⟩) (fun u s' hu => ?_) fun _ _ z => z
  obtain ⟨a, oe, vs, sI, H', cls, d, rfl, J, up, nI, ha, hz, hd, h1, na, os, ag, r, ec, ed, eH⟩ := hu
  subst ec ed eH
  have K : Inv X pins σ H' s' := J.landed (fun b o e _ => e) (fun b o e => up b o e) (fun b o e _ => ⟨o.slots, up b o e⟩) os ag
  have n0 : X.s_0.heap.get? a = none := by
    cases e : X.s_0.heap.get? a with
    | none => rfl
    | some o =>
      obtain ⟨o', q'⟩ := J.base.there a o e (by rw [hex]; exact fun z => nomatch z)
      rw [nI] at q'
      cases q'
  have nL : a ≠ X.env.locals := fun z => by
    obtain ⟨m, hns, _⟩ := J.loc
    obtain ⟨o, ho⟩ := ns_there hns
    rw [← z, nI] at ho
    cases ho
  have npn : ∀ p ∈ X.pn ++ pins, p.1 ≠ a := fun p hp z => by
    have q' := (J.pin p hp).1
    rw [z, nI] at q'
    cases q'
  exact ⟨.ref a, _, track K ha hz hd na n0 nL npn, rfl, q a na⟩
def texc (C : Str) : TD := fun _ M Q _ => Q (.exc C []) M
theorem low.exc {K : PySem.W.Frag} {HI H : Hp} {M : MM} {Q : DK} {C : Str} {a : Addr} (ok : Ok K HI M H) (hp : H a = none) (h : Q (.exc C []) M) : low K HI M H Q (.ref a) (upd H a (exE (.ref (He.ga K C)) none a)) := by
  obtain ⟨ok', sm⟩ := ok.newI (o := exE (.ref (He.ga K C)) none a) hp
  exact ⟨_, M, _, .newI (ok.free hp).1 hp, ok', .exc0 upd_same, h⟩
/-- X('..'), an own error without an __init__ of its own -/
theorem d_exc {x m : Str} {j : Nat} {p p2 cp : Pos} (hex : X.ex = []) (f : (He.Fa.exc x).ok X.K = true) (gC : X.mg x = some (.ref (He.ga X.K x))) (hg : Gl X x) (hdb : (x == ("__debug__" : Str)) = false := by decide) :
    DE X W (.Call (.Name x p) [.Constant (.str m) j p2] [] cp) (texc x) := by
  obtain ⟨h1, h2, h3, h4⟩ := He.exc_ok f
  refine pe_imp (pe_mk hex (pmk_own PySem.F.excBase_ValueError h1 gC h2 (raises_own h3 h4) hg hdb)) fun σv H Qv h => ?_
  obtain ⟨HI, σ, M, Q, E, ok, re, h, k, we⟩ := h
  exact fun a na => k _ _ (low.exc ok na h)
end
end DL

/-! The data layer: comprehensions with two fors. -/
namespace DL
open PySem PySem.Spec L2
def compD2 (g : TDG) (tt : TDT) (wi1 : TDI) (g1 : TDG) (tt1 : TDT) (te : TD) (vs1 : List Nat) (σ : DSt) : List D → List D → MM → (List D → MM → Prop) → Prop
  | [], acc, M, Q => Q acc M
  | d :: ds, acc, M, Q => g d σ M (fun σ2 M2 => tt σ2 M2 (fun b M3 => if b = true then wi1 σ2 M3 (fun ds1 M4 => compD g1 tt1 te (wipeD σ2 vs1) ds1 acc M4 (fun acc M5 => compD2 g tt wi1 g1 tt1 te vs1 σ ds acc M5 Q)) (fun _ _ => False) else compD2 g tt wi1 g1 tt1 te vs1 σ ds acc M3 Q) (fun _ _ => False))
def tlc2 (wi : TDI) (g : TDG) (tt : TDT) (wi1 : TDI) (g1 : TDG) (tt1 : TDT) (te : TD) (vs vs1 : List Nat) : TD := fun σ M Q E => wi σ M (fun ds M1 => compD2 g tt wi1 g1 tt1 te vs1 (wipeD σ vs) ds [] M1 (fun acc M2 => Q (.lst acc) M2)) E
section
variable {X : Cx} {W : WX}
/-- what stands while a list grows at Da -/
structure Grow (K : PySem.W.Frag) (HI1 : Hp) (M1 : MM) (H1 : Hp) (Da : Addr) (acc : List D) (HI : Hp) (M : MM) (H : Hp) : Prop where
  s : Stp HI1 M1 H1 HI M H
  ok : Ok K HI M H
  r : ∃ accV, H Da = some (.lst accV) ∧ RepL K HI accV acc
  ni : HI Da = none
  nm : M Da = none
theorem Grow.step {K : PySem.W.Frag} {HI1 HI HI' H1 H H' : Hp} {M1 M M' : MM} {Da : Addr} {acc : List D} (G : Grow K HI1 M1 H1 Da acc HI M H) (st : Stp HI M H HI' M' H') (ok' : Ok K HI' M' H') : Grow K HI1 M1 H1 Da acc HI' M' H' := by
  obtain ⟨s, ok, ⟨accV, e1, ra⟩, e2, e3⟩ := G
  obtain ⟨f1, f2, f3⟩ := st.fr Da _ e1 e3
  exact ⟨s.trans st, ok', ⟨accV, f1, ra.up st.sm⟩, f3 e2 (fun _ z => nomatch z), f2⟩
theorem Grow.put {K : PySem.W.Frag} {HI1 HI HI' H1 H H' : Hp} {M1 M M' : MM} {Da : Addr} {acc : List D} {yv : V} {d : D} (hD : H1 Da = none) (G : Grow K HI1 M1 H1 Da acc HI M H) (st : Stp HI M H HI' M' H') (ok' : Ok K HI' M' H') (r : Rep K HI' yv d) :
    ∃ accV, H' Da = some (.lst accV) ∧ accV.length = acc.length ∧ Grow K HI1 M1 H1 Da (acc ++ [d]) HI' M' (upd H' Da (.lst (accV ++ [yv]))) := by
  obtain ⟨s, ok, ⟨accV, e1, ra⟩, e2, e3⟩ := G
  obtain ⟨f1, f2, f3⟩ := st.fr Da _ e1 e3
  refine ⟨accV, f1, ra.len, ⟨(s.trans st).sm, fun a u ha hm => ?_⟩, ok'.out (f3 e2 (fun _ z => nomatch z)) f2, ⟨_, upd_same, (ra.up st.sm).app (.cons r .nil)⟩, f3 e2 (fun _ z => nomatch z), f2⟩
  rw [upd_ne (ne_of_none ha hD)]
  exact (s.trans st).fr a u ha hm
theorem Grow.fin {K : PySem.W.Frag} {HI1 HI H1 H : Hp} {M1 M : MM} {Da : Addr} {acc : List D} (hD : H1 Da = none) (G : Grow K HI1 M1 H1 Da acc HI M H) : ∃ HI', Stp HI1 M1 H1 HI' M H ∧ Ok K HI' M H ∧ Rep K HI' (.ref Da) (.lst acc) := by
  obtain ⟨s, ok, ⟨accV, e1, ra⟩, e2, e3⟩ := G
  have sm : Same HI (upd HI Da (.lst accV)) := same_upd e2
  refine ⟨upd HI Da (.lst accV), ⟨(s.sm).trans sm, fun a u ha hm => ?_⟩, ⟨fun b u q => ?_, fun b u q => (ok.var b u q).up sm rfl⟩, .lst (LL.of upd_same) (ra.up sm)⟩
  · obtain ⟨g1, g2, g3⟩ := s.fr a u ha hm
    exact ⟨g1, g2, fun z n => by rw [upd_ne (ne_of_none ha hD)]; exact g3 z n⟩
  · by_cases hb : b = Da
    · subst hb; rw [upd_same] at q; cases q; exact ⟨e1, e3⟩
    · rw [upd_ne hb] at q; exact ok.imm b u q
theorem uplc2 {wi wi1 : TDI} {g g1 : TDG} {tt tt1 : TDT} {te : TD} {vs vs1 : List Nat} : ∀ σv H Qv, upE X.K W (tlc2 wi g tt wi1 g1 tt1 te vs vs1) σv H Qv →
    tLc2 (upI X.K W wi) (upG X.K vs g) (upT X.K W0 tt) (upI X.K W0 wi1) (upG X.K vs1 g1) (upT X.K W0 tt1) (upE X.K W0 te) vs vs1 σv H Qv := fun σv H Qv h => by
  obtain ⟨HI, σ, M, Q, E, ok, re, h, k, we⟩ := h
  refine ⟨HI, σ, M, _, E, ok, re, h, fun J H1 HI1 M1 ds s1 ok1 wk h1 => ?_, we⟩
  intro Da hD
  obtain ⟨hiD, hmD⟩ := ok1.free hD
  have reW : REnv X.K HI1 (L2.wipe σv vs) (wipeD σ vs) := (re.up s1.sm).wipe vs
  refine ⟨fun i m H' => ∃ HI' M' acc, Grow X.K HI1 M1 H1 Da acc HI' M' H' ∧ m = ds.length - i ∧ i ≤ ds.length ∧ compD2 g tt wi1 g1 tt1 te vs1 (wipeD σ vs) (ds.drop i) acc M' (fun acc M2 => Q (.lst acc) M2),
    ⟨_, HI1, M1, [], ⟨.newH hD, ok1.newH hD, ⟨[], upd_same, .nil⟩, hiD, hmD⟩, rfl, Nat.zero_le _, h1⟩, ?_⟩
  rintro i m H' ⟨HI', M', acc, G, rfl, hle, hf⟩
  by_cases hlt : i < ds.length
  · have hd : ds[i]? = some ds[i] := List.getElem?_eq_getElem hlt
    rw [List.drop_eq_getElem_cons hlt] at hf
    obtain ⟨hgo, hy⟩ := wk.1 i _ HI' M' H' hd G.s.sm G.ok
    refine .inr ⟨hgo, fun H4 => ∃ HI4 M4 acc, Grow X.K HI1 M1 H1 Da acc HI4 M4 H4 ∧ compD2 g tt wi1 g1 tt1 te vs1 (wipeD σ vs) (ds.drop (i + 1)) acc M4 (fun acc M2 => Q (.lst acc) M2),
      fun H4 ⟨HI4, M4, a, q1, q7⟩ => ⟨ds.length - (i + 1), by omega, HI4, M4, a, q1, rfl, hlt, q7⟩, fun x H2 y => ?_⟩
    obtain ⟨HI2, s2, ok2, rx⟩ := hy x H2 y
    refine ⟨HI2, wipeD σ vs, M', _, _, ok2, reW.up (G.s.trans s2).sm, rx, hf, fun HI3 σv3 H3 σ3 M3 s3 ok3 re3 w3 q3 => ?_⟩
    refine ⟨by rw [w3, wipe_wipe], ?_⟩
    refine ⟨HI3, σ3, M3, _, _, ok3, re3, q3, fun b H4 ⟨HI4, M4, s4, ok4, q4⟩ => ?_, fun c d H' ⟨_, _, _, _, _, _, z⟩ => z⟩
    have G4 := G.step ((s2.trans s3).trans s4) ok4
    cases b with
    | false => exact ⟨HI4, M4, acc, G4, q4⟩
    | true =>
      refine ⟨HI4, σ3, M4, _, _, ok4, re3.up s4.sm, q4, fun J1 H5 HI5 M5 ds1 s5 ok5 wk1 q5 => ?_, fun c d H' ⟨_, _, _, _, _, _, z⟩ => z⟩
      have G5 := G4.step s5 ok5
      have re5 : REnv X.K HI5 (L2.wipe σv3 vs1) (wipeD σ3 vs1) := ((re3.up s4.sm).up s5.sm).wipe vs1
      refine ⟨fun j m H' => ∃ HI' M' acc, Grow X.K HI1 M1 H1 Da acc HI' M' H' ∧ Same HI5 HI' ∧ m = ds1.length - j ∧ j ≤ ds1.length ∧ compD g1 tt1 te (wipeD σ3 vs1) (ds1.drop j) acc M' (fun acc M5 => compD2 g tt wi1 g1 tt1 te vs1 (wipeD σ vs) (ds.drop (i + 1)) acc M5 (fun acc M2 => Q (.lst acc) M2)),
        ⟨_, HI5, M5, acc, G5, Same.refl _, rfl, Nat.zero_le _, q5⟩, ?_⟩
      rintro j m1 H6 ⟨HI6, M6, acc6, G6, s6, rfl, hle1, hf1⟩
      by_cases hlt1 : j < ds1.length
      · have hd1 : ds1[j]? = some ds1[j] := List.getElem?_eq_getElem hlt1
        rw [List.drop_eq_getElem_cons hlt1] at hf1
        obtain ⟨hgo1, hy1⟩ := wk1.1 j _ HI6 M6 H6 hd1 s6 G6.ok
        refine .inr ⟨hgo1, fun H' => ∃ HI' M' acc, Grow X.K HI1 M1 H1 Da acc HI' M' H' ∧ Same HI5 HI' ∧ compD g1 tt1 te (wipeD σ3 vs1) (ds1.drop (j + 1)) acc M' (fun acc M5 => compD2 g tt wi1 g1 tt1 te vs1 (wipeD σ vs) (ds.drop (i + 1)) acc M5 (fun acc M2 => Q (.lst acc) M2)),
          fun H' ⟨HI', M', a, q1, q2, q7⟩ => ⟨ds1.length - (j + 1), by omega, HI', M', a, q1, q2, rfl, hlt1, q7⟩, fun x1 H7 y1 => ?_⟩
        obtain ⟨HI7, s7, ok7, rx1⟩ := hy1 x1 H7 y1
        refine ⟨HI7, wipeD σ3 vs1, M6, _, _, ok7, re5.up (s6.trans s7.sm), rx1, hf1, fun HI8 σv8 H8 σ8 M8 s8 ok8 re8 w8 q8 => ?_⟩
        refine ⟨by rw [w8, wipe_wipe], ?_⟩
        refine ⟨HI8, σ8, M8, _, _, ok8, re8, q8, fun b H9 ⟨HI9, M9, s9, ok9, q9⟩ => ?_, fun c d H' ⟨_, _, _, _, _, _, z⟩ => z⟩
        have st9 := (s7.trans s8).trans s9
        cases b with
        | false => exact ⟨HI9, M9, acc6, G6.step st9 ok9, s6.trans st9.sm, q9⟩
        | true =>
          refine ⟨HI9, σ8, M9, _, _, ok9, re8.up s9.sm, q9, fun yv HA ⟨HIA, MA, dA, sA, okA, rA, qA⟩ => ?_, fun c d H' ⟨_, _, _, _, _, _, z⟩ => z⟩
          have stA := st9.trans sA
          obtain ⟨accV, p1, p2, p3⟩ := G6.put hD stA okA rA
          refine ⟨accV, p1, by rw [p2]; exact qA.1, HIA, MA, acc6 ++ [dA], p3, s6.trans stA.sm, qA.2⟩
      · have e : j = ds1.length := by omega
        subst e
        rw [List.drop_length] at hf1
        exact .inl ⟨wk1.2 HI6 M6 H6 s6 G6.ok, HI6, M6, acc6, G6, hf1⟩
  · have e : i = ds.length := by omega
    subst e
    rw [List.drop_length] at hf
    obtain ⟨HIf, f1, f2, f3⟩ := G.fin hD
    refine .inl ⟨wk.2 HI' M' H' G.s.sm G.ok, k _ _ ?_⟩
    exact ⟨HIf, M', .lst acc, s1.trans f1, f2, f3, hf⟩
theorem d_lc2 {elt tg iter tg1 iter1 : Expr} {ifs ifs1 : List Expr} {scope : Scope} (own : List (Str × Nat)) (vs1 : List Nat) {pos : Pos} {wi wi1 : TDI} {g g1 : TDG} {tt tt1 : TDT} {te : TD} (hc : X.calm = true) (hN : X.N.Nodup) (hi : DI X W tg iter wi) (ok : BlkOk X.N X.env.scope scope own) (hv : ∀ i ∈ vs1, i ∈ own.map (·.2))
    (hg : ∀ (s : Shared) (H : Hp) (C : Addr) (cl : List (Str × Addr)) (fp : List Addr), DG (X.blk s H scope (compEnvC scope cl C X.env) fp) (own.map (·.2)) tg g) (ht : ∀ (s : Shared) (H : Hp) (C : Addr) (cl : List (Str × Addr)) (fp : List Addr), DTs (X.blk s H scope (compEnvC scope cl C X.env) fp) W0 ifs tt)
    (hi1 : ∀ (s : Shared) (H : Hp) (C : Addr) (cl : List (Str × Addr)) (fp : List Addr), DI (X.blk s H scope (compEnvC scope cl C X.env) fp) W0 tg1 iter1 wi1)
    (hg1 : ∀ (s : Shared) (H : Hp) (C : Addr) (cl : List (Str × Addr)) (fp : List Addr), DG (X.blk s H scope (compEnvC scope cl C X.env) fp) vs1 tg1 g1) (ht1 : ∀ (s : Shared) (H : Hp) (C : Addr) (cl : List (Str × Addr)) (fp : List Addr), DTs (X.blk s H scope (compEnvC scope cl C X.env) fp) W0 ifs1 tt1)
    (he : ∀ (s : Shared) (H : Hp) (C : Addr) (cl : List (Str × Addr)) (fp : List Addr), DE (X.blk s H scope (compEnvC scope cl C X.env) fp) W0 elt te) (hs : ∀ x, foldedSetIterable iter X.env x = pure x := by intro _; rfl) (hs1 : ∀ env x, foldedSetIterable iter1 env x = pure x := by intro _ _; rfl) :
    DE X W (.ListComp elt [⟨tg, iter, ifs, 0⟩, ⟨tg1, iter1, ifs1, 0⟩] scope pos) (tlc2 wi g tt wi1 g1 tt1 te (own.map (·.2)) vs1) := pe_imp (pe_lc2 hc hN hi ok hv hg ht hi1 hg1 ht1 he hs hs1) uplc2
theorem s_setLc2 {i : Nat} {y : Str} {py : Pos} {elt tg iter tg1 iter1 : Expr} {ifs ifs1 : List Expr} {scope : Scope} (own : List (Str × Nat)) (vs1 : List Nat) {pos spos : Pos} {wi wi1 : TDI} {g g1 : TDG} {tt tt1 : TDT} {te : TD} (hc : X.calm = true) (hN : X.N.Nodup) (hy : X.N[i]? = some y) (hyl : X.env.scope.names.lookup y = some .local)
    (hsw : swapsWith (.ListComp elt [⟨tg, iter, ifs, 0⟩, ⟨tg1, iter1, ifs1, 0⟩] scope pos) (some (.Name y py)) spos.line X.env = pure true) (hi : DI X W tg iter wi) (ok : BlkOk X.N X.env.scope scope own) (hv : ∀ i ∈ vs1, i ∈ own.map (·.2))
    (hg : ∀ (s : Shared) (H : Hp) (C : Addr) (cl : List (Str × Addr)) (fp : List Addr), DG (X.blk s H scope (compEnvC scope cl C X.env) fp) (own.map (·.2)) tg g) (ht : ∀ (s : Shared) (H : Hp) (C : Addr) (cl : List (Str × Addr)) (fp : List Addr), DTs (X.blk s H scope (compEnvC scope cl C X.env) fp) W0 ifs tt)
    (hi1 : ∀ (s : Shared) (H : Hp) (C : Addr) (cl : List (Str × Addr)) (fp : List Addr), DI (X.blk s H scope (compEnvC scope cl C X.env) fp) W0 tg1 iter1 wi1)
    (hg1 : ∀ (s : Shared) (H : Hp) (C : Addr) (cl : List (Str × Addr)) (fp : List Addr), DG (X.blk s H scope (compEnvC scope cl C X.env) fp) vs1 tg1 g1) (ht1 : ∀ (s : Shared) (H : Hp) (C : Addr) (cl : List (Str × Addr)) (fp : List Addr), DTs (X.blk s H scope (compEnvC scope cl C X.env) fp) W0 ifs1 tt1)
    (he : ∀ (s : Shared) (H : Hp) (C : Addr) (cl : List (Str × Addr)) (fp : List Addr), DE (X.blk s H scope (compEnvC scope cl C X.env) fp) W0 elt te) (hs : ∀ x, foldedSetIterable iter X.env x = pure x := by intro _; rfl) (hs1 : ∀ env x, foldedSetIterable iter1 env x = pure x := by intro _ _; rfl) :
    DS X W (.Assign [.Name y py] (.ListComp elt [⟨tg, iter, ifs, 0⟩, ⟨tg1, iter1, ifs1, 0⟩] scope pos) spos) (sasg (tlc2 wi g tt wi1 g1 tt1 te (own.map (·.2)) vs1) (gn i)) :=
  ps_imp (ps_setLc2 hc hN hy hyl hsw hi ok hv hg ht hi1 hg1 ht1 he hs hs1) fun σv H Dv h => by
    obtain ⟨HI, σ, M, Dd, ok, re, h, r⟩ := h
    refine uplc2 σv H _ ⟨HI, σ, M, _, _, ok, re, h, fun v H1 ⟨HI1, M1, d1, s1, ok1, r1, h1⟩ => ?_, r.ex HI σv H σ M .refl re⟩
    exact r.nx HI1 _ H1 _ M1 s1 ok1 ((re.up s1.sm).set r1 i) h1
end
end DL

/-! The data layer: step ranges, sums, count and index of a list, a tuple times an int. -/
namespace L2
open PySem PySem.Spec PyProof.Rows
def rCountD (K : PySem.W.Frag) : V → List V → Hp → VK → Prop := fun x xs H Q => ∃ (a : Addr) (y : V) (d : PyData) (ds : List PyData), x = V.ref a ∧ xs = [y] ∧ Dp K H (V.ref a) (.list ds) ∧ Dp K H y d ∧
  SeqAt.shaped (.list ds) = true ∧ SeqAt.shaped d = true ∧ Q (.int ((ds.countP fun z => PyData.eqv z d : Nat) : Int)) H
theorem mt_countD {X : Cx} (hu : X.A.units + 65 < cLine) : MtR X "list.count" (rCountD X.K) := by
  intro pins s σ H x xs v us Q I rx rxs h
  obtain ⟨a, y, d, ds, rfl, rfl, hl, hy, sl, sd, q⟩ := h
  cases rx
  cases rxs with
  | cons ry rt =>
    rename_i uy ut
    cases rt
    obtain ⟨bs, r1⟩ := Dp.reads I d y uy hy ry
    have hxs : PyData.canLayAll0 ds = true := SeqAt.canLay_of_shaped sl
    have hroom : X.A.units + 1 + min (PyData.depthAll ds) d.depth < cLine := room_in_shaped sd hu
    cases hl with
    | lst hs ha =>
      obtain ⟨its, rv, ⟨⟨cls, dd, data, sls⟩, n, ho, hc, hdn, hdt⟩, hlen⟩ := I.list hs
      simp only at hc hdt
      subst hc hdt
      obtain ⟨as, h4⟩ := Dp.readsAll I ds _ its ha rv
      have hmap : its.map (SeqAt.readOf s.heap) = ds := SeqAt.readsAll_map ds its as hxs h4
      refine call_meets PySem.F.slot_list_count ⟨_, ho, rfl⟩ PySem.F.entry_list_count (PySem.F.args_list_count_2 _ _)
        (SeqAt.list_countAt a its.toArray n dd sls uy (fun u => PyData.eqv (SeqAt.readOf s.heap u) d)) ⟨ho, SeqAt.items_eqAt (vs := its.toArray) (show ReadsAll s.heap its.toArray.toList ds as from h4) r1 hxs (SeqAt.canLay_of_shaped sd) hroom, ?_⟩
      have e : its.toArray.toList.countP (fun u => PyData.eqv (SeqAt.readOf s.heap u) d) = ds.countP fun z => PyData.eqv z d := by
        rw [← hmap, List.countP_map]
        rfl
      rw [e]
      exact ⟨.int _, H, I.tok _, ⟨_, rfl⟩, q⟩
end L2
namespace DL
open PySem PySem.Spec L2
/-! range(i, j, -1) -/
def rgU (a b : Int) : List D := (List.range (a - b).toNat).map fun i : Nat => D.int (a - (i : Int))
def irng3 (ts : TDL) : TDI := fun σ M Q E => ts σ M (fun xs M1 => match xs with
  | [.int i, .int j, .int c] => c = -1 ∧ (-(2 ^ 62) ≤ i ∧ i < 2 ^ 62 ∧ -(2 ^ 62) ≤ j ∧ j < 2 ^ 62) ∧ Q (rgU i j) M1
  | _ => False) E
theorem walks_rgU {K : PySem.W.Frag} {HI : Hp} (a b : Int) : Walks K HI (Itc a (-1) (a - b).toNat) (rgU a b) := by
  refine ⟨fun i d HI2 M2 H2 hd sm ok2 => ?_, fun HI2 M2 H2 sm ok2 => ?_⟩
  · unfold rgU at hd
    rw [List.getElem?_map] at hd
    cases e : (List.range (a - b).toNat)[i]? with
    | none => rw [e] at hd; cases hd
    | some j =>
      rw [e] at hd
      cases hd
      obtain ⟨h1, h2⟩ := List.getElem?_eq_some_iff.mp e
      rw [List.getElem_range] at h2
      subst h2
      rw [List.length_range] at h1
      refine ⟨h1, fun x H' ⟨e1, e2⟩ => ?_⟩
      subst e1 e2
      refine ⟨HI2, .refl, ok2, ?_⟩
      have e3 : a + (i : Int) * -1 = a - (i : Int) := by omega
      rw [e3]
      exact .int _
  · show (a - b).toNat ≤ _
    unfold rgU
    rw [List.length_map, List.length_range]
    exact Nat.le_refl _
section
variable {X : Cx} {W : WX}
theorem i_rng3 {tg a b c : Expr} {ts : TDL} {p pos : Pos} (hg : Gl X "range") (hm : X.mg "range" = none) (ha : DA X W [a, b, c] ts) (hs : starEach [a, b, c] X.env = (false, eval a X.env) :: starEach [b, c] X.env := by rfl) (hpl : (backTo pos (starEach [b, c] X.env)).any (·.1) = false := by rfl) :
    DI X W tg (.Call (.Name "range" p) [a, b, c] [] pos) (irng3 ts) := ⟨fun pins s σ H R I h => by
  obtain ⟨HI, σd, M, Q, E, ok, re, h, k, we⟩ := h
  refine (pi_range3 hg hm ha hs hpl).run pins s σ H R I ⟨HI, σd, M, _, E, ok, re, h, fun v H1 ⟨HI1, M1, d1, s1, ok1, r1, h1⟩ => ?_, we⟩
  simp only at h1
  split at h1
  · obtain ⟨ec, ⟨b1, b2, b3, b4⟩, q⟩ := h1
    subst ec
    cases r1 with
    | cons r r1 =>
      cases r1 with
      | cons r' r1 =>
        cases r1 with
        | cons r'' r1 =>
          cases r1
          cases r with
          | int =>
            cases r' with
            | int =>
              cases r'' with
              | int => exact ⟨_, _, _, _, rfl, RgC.neg b1 b2 b3 b4, k _ _ HI1 M1 _ s1 ok1 (walks_rgU _ _) q⟩
  · exact h1.elim⟩
/-! sum -/
def intsOf : List D → Option (List Int)
  | [] => some []
  | .int i :: ds => (intsOf ds).map (i :: ·)
  | _ :: _ => none
theorem intsOf_map : ∀ l : List Int, intsOf (l.map D.int) = some l
  | [] => rfl
  | i :: l => by rw [List.map_cons, intsOf, intsOf_map l]; rfl
theorem intsOf_eq : ∀ {ds : List D} {l : List Int}, intsOf ds = some l → ds = l.map D.int
  | [], l, h => by cases h; rfl
  | d :: ds, l, h => by
    cases d with
    | int i =>
      rw [intsOf] at h
      cases e : intsOf ds with
      | none => rw [e] at h; cases h
      | some r => rw [e] at h; cases h; rw [List.map_cons, intsOf_eq e]
    | _ => cases h
theorem ints_rep {K : PySem.W.Frag} {H : Hp} : ∀ {l : List Int} {xs : List V}, RepL K H xs (l.map D.int) → xs = l.map V.int
  | [], _, h => by cases h; rfl
  | i :: l, _, h => by
    rw [List.map_cons] at h
    cases h with
    | cons r t =>
      cases r
      rw [List.map_cons, ints_rep t]
def rdSum : RDL := fun ds M Q => match ds with
  | [x] => (match lsOf M x with
    | some xs => (match intsOf xs with
      | some l => Q (.int l.sum) M
      | none => False)
    | none => False)
  | _ => False
theorem od_sum {K : PySem.W.Frag} : CrD K (rSum K) rdSum := by
  intro HI M H xs ds Q Qv ok r h k
  unfold rdSum at h
  split at h
  · rename_i x
    cases e : lsOf M x with
    | none => rw [e] at h; exact h.elim
    | some ys =>
      rw [e] at h
      simp only at h
      cases e2 : intsOf ys with
      | none => rw [e2] at h; exact h.elim
      | some l =>
        rw [e2] at h
        cases r with
        | cons rx r =>
          cases r
          obtain ⟨a, us, rfl, la, ra⟩ := lsOf_ok ok rx e
          rw [intsOf_eq e2] at ra
          have eu := ints_rep ra
          subst eu
          exact ⟨a, l, rfl, la.sq, k _ _ (.mk ok (.int _) h)⟩
  · exact h.elim
/-! xs.count(y), xs.index(y), ints, bools and texts -/
def eqvP (x y : D) : Bool := PyData.eqv x.py y.py
def rdCnt (x : D) (ds : List D) (M : MM) (Q : DK) : Prop := match x, ds with
  | .lst xs, [y] => (D.shw 4 (.lst xs) = true ∧ D.shw 4 y = true ∧ SeqAt.shaped (D.lst xs).py = true ∧ SeqAt.shaped y.py = true) ∧ Q (.int ((xs.countP fun z => eqvP z y : Nat) : Int)) M
  | _, _ => False
def rdIdx (x : D) (ds : List D) (M : MM) (Q : DK) : Prop := match x, ds with
  | .lst xs, [y] => (D.shw 4 (.lst xs) = true ∧ D.shw 4 y = true ∧ SeqAt.shaped (D.lst xs).py = true ∧ SeqAt.shaped y.py = true) ∧ (match xs.findIdx? fun z => eqvP z y with
    | some j => Q (.int (j : Nat)) M
    | none => False)
  | _, _ => False
def tlm (rd : D → List D → MM → DK → Prop) (to : TD) (ts : TDL) : TD := fun σ M Q E => to σ M (fun x M1 => isLst x = true ∧ ts σ M1 (fun ds M2 => rd x ds M2 Q) E) E
def LmD (K : PySem.W.Frag) (r : V → List V → Hp → VK → Prop) (rd : D → List D → MM → DK → Prop) : Prop := ∀ (HI : Hp) (M : MM) (H : Hp) (v : V) (x : D) (vs : List V) (ds : List D) (Q : DK) (Qv : VK), Ok K HI M H → Rep K HI v x → RepL K HI vs ds → rd x ds M Q →
  (∀ v' H', low K HI M H Q v' H' → Qv v' H') → r v vs H Qv
theorem pyL_eq : ∀ ds : List D, pyL ds = ds.map D.py
  | [] => by rw [pyL]; rfl
  | d :: ds => by rw [pyL, pyL_eq ds]; rfl
theorem dp_lst {K : PySem.W.Frag} {HI H : Hp} {M : MM} {v : V} {d : D} {n : Nat} (ok : Ok K HI M H) (r : Rep K HI v d) (h : D.shw n d = true) : Dp K H v d.py := (shw_facts n d h).2.2.2 K H v (r.up ok.same)
theorem lm_cnt {K : PySem.W.Frag} : LmD K (rCountD K) rdCnt := by
  intro HI M H v x vs ds Q Qv ok rx rs h k
  unfold rdCnt at h
  split at h
  · rename_i xs y
    obtain ⟨⟨s1, s2, s3, s4⟩, q⟩ := h
    cases rs with
    | cons ry rs =>
      cases rs
      have hl := dp_lst ok rx s1
      have hy := dp_lst ok ry s2
      cases rx with
      | lst al rl =>
        have e : (D.lst xs).py = .list (pyL xs) := by rw [D.py]
        rw [e] at hl s3
        refine ⟨_, _, y.py, pyL xs, rfl, rfl, hl, hy, s3, s4, k _ _ ?_⟩
        rw [pyL_eq, List.countP_map]
        exact .mk ok (.int _) q
  · exact h.elim
theorem lm_idx {K : PySem.W.Frag} : LmD K (rIndexD K) rdIdx := by
  intro HI M H v x vs ds Q Qv ok rx rs h k
  unfold rdIdx at h
  split at h
  · rename_i xs y
    obtain ⟨⟨s1, s2, s3, s4⟩, q⟩ := h
    cases rs with
    | cons ry rs =>
      cases rs
      have hl := dp_lst ok rx s1
      have hy := dp_lst ok ry s2
      cases rx with
      | lst al rl =>
        have e : (D.lst xs).py = .list (pyL xs) := by rw [D.py]
        rw [e] at hl s3
        split at q
        · rename_i j ej
          rw [List.findIdx?_eq_some_iff_getElem] at ej
          obtain ⟨hj, hyes, hno⟩ := ej
          refine ⟨_, _, y.py, pyL xs, j, (xs[j]).py, rfl, rfl, hl, hy, s3, s4, ?_, hyes, fun m z' hm hz => ?_, k _ _ (.mk ok (.int _) q)⟩
          · rw [pyL_eq, List.getElem?_map, List.getElem?_eq_getElem hj]; rfl
          · rw [pyL_eq, List.getElem?_map, List.getElem?_eq_getElem (by omega)] at hz
            cases hz
            have := hno m hm
            simpa [eqvP] using this
        · exact q.elim
  · exact h.elim
variable {o e : Expr} {es : List Expr} {to : TD} {ts : TDL} {name : Str} {apos cpos : Pos} {id : String} {r : V → List V → Hp → VK → Prop} {rd : D → List D → MM → DK → Prop}
theorem d_lm (slot : Slot "list" name id) (hty : typeOf (.builtin id) = pure (.type "method_descriptor")) (hm : MtR X id r) (hr : LmD X.K r rd) (ho : DE X W o to) (ha : DA X W (e :: es) ts)
    (hbase : attributeBase o name X.env (eval o X.env) = eval o X.env := by rfl)
    (hfew : ((backTo cpos (starEach (e :: es) X.env)).all (fun x => !x.1) && (backToKw cpos (keywordEach [] X.env)).all (fun x => x.1.isSome)
      && decide ((e :: es).length + ([] : List Keyword).length + (if ([] : List Keyword).isEmpty then 0 else 1) < 30)) = true := by rfl)
    (hline : (apos.endLine == cpos.line) = true := by rfl) (hs : starEach (e :: es) X.env = (false, eval e X.env) :: starEach es X.env := by rfl) (hplain : (backTo cpos (starEach es X.env)).any (·.1) = false := by rfl) :
    DE X W (.Call (.Attribute o name apos) (e :: es) [] cpos) (tlm rd to ts) := pe_imp (pe_bm PySem.F.plainAttrs_list slot hty hm ho ha hbase hfew hline hs hplain) fun σv H Qv h => by
  obtain ⟨HI, σ, M, Q, E, ok, re, h, k, we⟩ := h
  refine ⟨HI, σ, M, _, E, ok, re, h, fun v H1 ⟨HI1, M1, d1, s1, ok1, r1, h1⟩ => ?_, we⟩
  obtain ⟨h0, h1⟩ := h1
  cases r1 with
  | lst al rl =>
    refine ⟨.inl ⟨rfl, _, (al.up ok1.same).sq⟩, HI1, σ, M1, _, E, ok1, re.up s1.sm, h1, fun vs H2 ⟨HI2, M2, d2, s2, ok2, r2, h2⟩ => ?_, we.up s1⟩
    exact hr HI2 M2 H2 _ _ vs d2 Q Qv ok2 ((Rep.lst al rl).up s2.sm) r2 h2 fun v' H' q => k v' H' (q.of (s1.trans s2))
  | _ => cases h0
end
/-! t * k -/
def rdMulT : RD2 := fun x y M Q => match x, y with
  | .tup xs, .int k => xs ≠ [] ∧ 2 ≤ k ∧ k ≤ 1000 ∧ xs.length ≤ 1000 ∧ Q (.tup (List.replicate k.toNat xs).flatten) M
  | _, _ => False
theorem od_mulT {K : PySem.W.Frag} : OpD K (rRepT K) rdMulT := by
  intro HI M H x y dx dy Q Qv ok rx ry h k
  cases rx with
  | tup h1 r1 =>
    cases ry with
    | int j =>
      refine ⟨_, _, _, rfl, rfl, same_t ok.same h1, fun e => ?_, h.2.1, h.2.2.1, by rw [r1.len]; exact h.2.2.2.1, fun p hp => k _ _ (.tup ok (r1.rep _) hp h.2.2.2.2)⟩
      subst e
      cases r1
      exact h.1 rfl
    | _ => exact h.elim
  | _ => exact h.elim
end DL
namespace DL
open PySem PySem.Spec L2
/-! {k: v, ..}[e] of constant texts, two pairs -/
def tdsel (k1 v1 k2 v2 : Str) (ti : TD) : TD := fun σ M Q E => ti σ M (fun y M1 => match y with
  | .str s => if s = k1 then Q (.str v1) M1 else if s = k2 then Q (.str v2) M1 else False
  | _ => False) E
theorem d_dsel {X : Cx} {W : WX} {k1 v1 k2 v2 : Str} {j1 j2 j3 j4 : Nat} {q1 q2 q3 q4 dp pos : Pos} {i : Expr} {ti : TD} (hu : X.A.units + 1 < cLine) (hi : DE X W i ti) (hne : k1 ≠ k2) (hs : NoSl i := by intro _ _; rfl) :
    DE X W (.Subscript (.Dict [some (.Constant (.str k1) j1 q1), some (.Constant (.str k2) j2 q2)] [.Constant (.str v1) j3 q3, .Constant (.str v2) j4 q4] dp) i pos) (tdsel k1 v1 k2 v2 ti) :=
  pe_imp (pe_dget hu (pe_disp (pps_cons pe_str pe_str (pps_cons pe_str pe_str pps_nil)) rfl rfl (List.cons_ne_nil _ _) (by show 2 ≤ 15; decide)) hi hs) fun σv H Qv h => by
    obtain ⟨HI, σ, M, Q, E, ok, re, h, k, we⟩ := h
    intro p hp
    refine ⟨upd_same, [(.inr k1, .str v1), (.inr k2, .str v2)], rfl, by show 2 ≤ 15; decide, ?_⟩
    have e : mergeK [] [((.inr k1 : Key), V.str v1), (.inr k2, .str v2)] = [(.inr k1, .str v1), (.inr k2, .str v2)] := by
      have hk : ¬ ((.inr k1 : Key) = .inr k2) := fun z => hne (Sum.inr.inj z)
      simp [mergeK, putK, hk]
    rw [e, upd_upd]
    refine ⟨HI, σ, M, _, E, ok.newH hp, re, h, fun y H2 ⟨HI2, M2, d, s2, ok2, r2, q2⟩ => ?_, we.up (.newH hp)⟩
    obtain ⟨f1, _, _⟩ := s2.fr p _ upd_same (ok.free hp).2
    cases r2 with
    | str s =>
      simp only at q2
      by_cases h1 : s = k1
      · subst h1
        rw [if_pos rfl] at q2
        refine ⟨p, .str v1, rfl, ?_, k _ _ ⟨HI2, M2, _, (Stp.newH hp).trans s2, ok2, .str _, q2⟩⟩
        have g := DGet.k (k := .inr s) f1
        rw [valV_pos rfl] at g
        exact g
      · rw [if_neg h1] at q2
        by_cases h2 : s = k2
        · subst h2
          rw [if_pos rfl] at q2
          refine ⟨p, .str v2, rfl, ?_, k _ _ ⟨HI2, M2, _, (Stp.newH hp).trans s2, ok2, .str _, q2⟩⟩
          have g := DGet.k (k := .inr s) f1
          rw [valV_neg (fun z => h1 (Sum.inr.inj z).symm), valV_pos rfl] at g
          exact g
        · rw [if_neg h2] at q2; exact q2.elim
    | _ => exact q2.elim
theorem Rm.u65 {k : Nat} {A : Around} (r : Rm k A) : A.units + 65 < cLine := by have := r.r.un; omega
theorem Rm.u1 {k : Nat} {A : Around} (r : Rm k A) : A.units + 1 < cLine := by have := r.r.un; omega
end DL

/-! The data layer: list(range(a, b)). -/
namespace L2
open PySem PySem.Spec PyProof.Rows
theorem rangeSizeU (a b : Int) : Builtin.Range.rangeSize a b 1 = (((b - a).toNat : Nat) : Int) := by
  rw [PySem.rangeSize_one]
  split <;> omega
theorem vals_items {i : Int} {acc : Array Value} {n : Nat} (h : ItemsOf (fun k v => ∃ t, v = .int (i + k * 1) t) acc n) : Vals ((List.range n).map fun k : Nat => V.int (i + (k : Int))) acc.toList := by
  obtain ⟨hs, hv⟩ := h
  subst hs
  have key : ∀ (l : List Value) (m : Nat), (∀ j v, l[j]? = some v → ∃ t, v = Value.int (i + ((m + j : Nat) : Int)) t) → Vals ((List.range' m l.length).map fun k : Nat => V.int (i + (k : Int))) l := by
    intro l
    induction l with
    | nil => intro m _; exact .nil
    | cons x r ih =>
      intro m h
      rw [List.length_cons, List.range'_succ, List.map_cons]
      refine .cons ?_ (ih (m + 1) fun j v e => ?_)
      · obtain ⟨t, e⟩ := h 0 x rfl
        exact ⟨t, by rw [e, Nat.add_zero]⟩
      · obtain ⟨t, e2⟩ := h (j + 1) v e
        exact ⟨t, by rw [e2, show m + (j + 1) = m + 1 + j from by omega]⟩
  have q := key acc.toList 0 fun j v e => by
    rw [Array.getElem?_toList] at e
    obtain ⟨t, e2⟩ := hv j v e
    exact ⟨t, by rw [e2, Nat.zero_add, Int.mul_one]⟩
  rw [Array.length_toList, ← List.range_eq_range'] at q
  exact q
theorem pe_lrng {X : Cx} {a b : Expr} {ta : TA} {p p2 pos pos2 : Pos} (hc : X.calm = true) (hg : Gl X "range") (hm : X.mg "range" = none) (hgl : Gl X "list") (hml : X.mg "list" = none) (hbl : bootBuiltins ("list" : Str) = some (.type "list")) (ha : PA X [a, b] ta)
    (hs : starEach [a, b] X.env = (false, eval a X.env) :: starEach [b] X.env := by rfl) (hpl : (backTo pos (starEach [b] X.env)).any (·.1) = false := by rfl)
    (hst : starEach [.Call (.Name "range" p) [a, b] [] pos] X.env = [(false, eval (.Call (.Name "range" p) [a, b] [] pos) X.env)] := by rfl) :
    PE X (.Call (.Name "list" p2) [.Call (.Name "range" p) [a, b] [] pos] [] pos2) (fun σ H Q => ta σ H fun vs H1 => ∃ i j : Int, vs = [.int i, .int j] ∧ -(2 ^ 62) ≤ i ∧ i < 2 ^ 62 ∧ -(2 ^ 62) ≤ j ∧ j < 2 ^ 62 ∧ (j - i).toNat ≤ 16777216 ∧
      ∀ q, H1 q = none → Q (.ref q) (upd H1 q (.lst ((List.range (j - i).toNat).map fun k : Nat => V.int (i + (k : Int)))))) := by
  refine ⟨fun pins s σ H Q I h => ?_⟩
  refine Call_ (ld_blt I hgl hml hbl ?_)
  show wpAny _ _ (callWith pos2 (.type "list") [] (backTo pos2 (starEach [.Call (.Name "range" p) [a, b] [] pos] X.env)) []) _ _ s
  rw [hst]
  refine PyProof.Rows.callWith_type (by rfl) (Calls.evalArgs_plain ?_)
  refine Calls.spliced_cons ?_
  refine Call_ (ld_blt I hg hm boot_range (PyProof.Rows.callWith_type1 (thn (ha.run pos pins s σ H _ I h) fun us s1 ⟨vs, H1, I1, r1, q1⟩ => ?_) hs hpl))
  obtain ⟨i, j, e, b1, b2, b3, b4, hz, q⟩ := q1
  subst e
  cases r1 with
  | cons r rr =>
    cases rr with
    | cons r' rr =>
      cases rr
      obtain ⟨t, rfl⟩ := r
      obtain ⟨t', rfl⟩ := r'
      refine call_range_2 ?_
      refine Calls.spliced_nil ?_
      have I2 : Inv X pins σ H1 { s1 with heap := s1.heap.push { cls := .type "range", data := .fields #[.int i t, .int j t', .int 1 s1.toks] }, toks := s1.toks + 1 } := I1.kept (t' := s1.toks + 1) fun b o e => Heap.get?_push_of_some _ e
      have hn : Builtin.Range.rangeSize i j 1 = (((j - i).toNat : Nat) : Int) := rangeSizeU i j
      refine PySem.call_list_range (n := (j - i).toNat) (I.ok.hd hc) (IsRange.new ..) (PySem.small_one b1 b2 b3 b4) hn (by omega) fun h' tk acc' c' kp hS hacc => ?_
      refine ⟨.ref _, _, I2.laid (t' := tk) (o := .lst ((List.range (j - i).toNat).map fun k : Nat => V.int (i + (k : Int)))) kp (Nat.le_refl _) ?_, rfl, q _ (I2.hok.fresh (Nat.le_refl _))⟩
      refine ⟨by rw [List.length_map, List.length_range, sizeLine_eq]; exact hz, acc'.toList, c', vals_items hacc, ?_⟩
      rw [hS]
end L2
namespace DL
open PySem PySem.Spec L2
def tlrng (ts : TDL) : TD := fun σ M Q E => ts σ M (fun xs M1 => match xs with
  | [.int i, .int j] => (-(2 ^ 62) ≤ i ∧ i < 2 ^ 62 ∧ -(2 ^ 62) ≤ j ∧ j < 2 ^ 62 ∧ (j - i).toNat ≤ 16777216) ∧ Q (.lst (rgD i j)) M1
  | _ => False) E
theorem rg_rep {K : PySem.W.Frag} {H : Hp} {i : Int} : ∀ l : List Nat, RepL K H (l.map fun k : Nat => V.int (i + (k : Int))) (l.map fun k : Nat => D.int (i + (k : Int)))
  | [] => .nil
  | _ :: l => .cons (.int _) (rg_rep l)
theorem d_lrng {X : Cx} {W : WX} {a b : Expr} {ts : TDL} {p p2 pos pos2 : Pos} (hc : X.calm = true) (hg : Gl X "range") (hm : X.mg "range" = none) (hgl : Gl X "list") (hml : X.mg "list" = none) (hbl : bootBuiltins ("list" : Str) = some (.type "list")) (ha : DA X W [a, b] ts)
    (hs : starEach [a, b] X.env = (false, eval a X.env) :: starEach [b] X.env := by rfl) (hpl : (backTo pos (starEach [b] X.env)).any (·.1) = false := by rfl)
    (hst : starEach [.Call (.Name "range" p) [a, b] [] pos] X.env = [(false, eval (.Call (.Name "range" p) [a, b] [] pos) X.env)] := by rfl) :
    DE X W (.Call (.Name "list" p2) [.Call (.Name "range" p) [a, b] [] pos] [] pos2) (tlrng ts) := pe_imp (pe_lrng hc hg hm hgl hml hbl ha hs hpl hst) fun σv H Qv h => by
  obtain ⟨HI, σ, M, Q, E, ok, re, h, k, we⟩ := h
  refine ⟨HI, σ, M, _, E, ok, re, h, fun vs H1 ⟨HI1, M1, d1, s1, ok1, r1, h1⟩ => ?_, we⟩
  simp only at h1
  split at h1
  · rename_i i j
    obtain ⟨⟨b1, b2, b3, b4, hz⟩, q⟩ := h1
    cases r1 with
    | cons r r1 =>
      cases r1 with
      | cons r' r1 =>
        cases r1
        cases r with
        | int =>
          cases r' with
          | int => exact ⟨i, j, rfl, b1, b2, b3, b4, hz, fun p hp => k _ _ (low.of s1 (.lst ok1 (rg_rep _) hp q))⟩
  · exact h1.elim
end DL

/-! The data layer: what comprehensions hold, by a property of the items. -/
namespace DL
open PySem PySem.Spec L2
theorem compD_p {te : TD} {σ : DSt} {i : Nat} {M : MM} {Q : List D → MM → Prop} (P : D → Prop) : ∀ (ds acc : List D), (∀ d ∈ ds, ∀ k : DK, (∀ y, P y → k y M) → te (σ.set i (some d)) M k F0) → acc.length + ds.length ≤ sizeLine → (∀ y ∈ acc, P y) →
    (∀ ys : List D, ys.length = acc.length + ds.length → (∀ y ∈ ys, P y) → Q ys M) → compD (gn i) tyes te σ ds acc M Q
  | [], acc, _, _, ha, q => q acc rfl ha
  | d :: ds, acc, h, hl, ha, q => by
    rw [List.length_cons] at hl q
    refine compD_step1 (h d List.mem_cons_self _ fun y hy => ⟨by omega, ?_⟩)
    refine compD_p P ds (acc ++ [y]) (fun x hx => h x (List.mem_cons_of_mem _ hx)) (by rw [List.length_append, List.length_singleton]; omega) (fun z hz => ?_) fun ys e1 e2 => q ys (by rw [e1, List.length_append, List.length_singleton]; omega) e2
    rcases List.mem_append.mp hz with w | w
    · exact ha z w
    · rw [List.mem_singleton.mp w]; exact hy
theorem compD2_p {wi1 : TDI} {te : TD} {σ : DSt} {i j : Nat} {vs1 : List Nat} {M : MM} {Q : List D → MM → Prop} (P : D → Prop) (ds1 : List D) : ∀ (ds acc : List D),
    (∀ d ∈ ds, ∀ K : List D → MM → Prop, K ds1 M → wi1 (σ.set i (some d)) M K F0) →
    (∀ d ∈ ds, ∀ d1 ∈ ds1, ∀ k : DK, (∀ y, P y → k y M) → te ((wipeD (σ.set i (some d)) vs1).set j (some d1)) M k F0) → acc.length + ds.length * ds1.length ≤ sizeLine → (∀ y ∈ acc, P y) →
    (∀ ys : List D, ys.length = acc.length + ds.length * ds1.length → (∀ y ∈ ys, P y) → Q ys M) → compD2 (gn i) tyes wi1 (gn j) tyes te vs1 σ ds acc M Q
  | [], acc, _, _, _, ha, q => q acc (by rw [List.length_nil, Nat.zero_mul]; rfl) ha
  | d :: ds, acc, h1, h2, hl, ha, q => by
    rw [List.length_cons, Nat.succ_mul] at hl q
    unfold compD2
    refine h1 d List.mem_cons_self _ ?_
    refine compD_p P ds1 acc (fun d1 hd1 => h2 d List.mem_cons_self d1 hd1) (by omega) ha fun ys e1 e2 => ?_
    exact compD2_p P ds1 ds ys (fun x hx => h1 x (List.mem_cons_of_mem _ hx)) (fun x hx => h2 x (List.mem_cons_of_mem _ hx)) (by omega) e2 fun zs f1 f2 => q zs (by omega) f2
theorem mem_rgU {a b : Int} {d : D} (h : d ∈ rgU a b) : ∃ i, d = .int i ∧ b < i ∧ i ≤ a := by
  unfold rgU at h
  obtain ⟨k, hk, e⟩ := List.mem_map.mp h
  have := List.mem_range.mp hk
  exact ⟨_, e.symm, by omega, by omega⟩
theorem rgU_len {a b : Int} : (rgU a b).length = (a - b).toNat := by unfold rgU; rw [List.length_map, List.length_range]
end DL

/-! The data layer: the sum of a list or a tuple; loops that may return. -/
namespace L2
open PySem PySem.Spec PyProof.Rows PyProof.V
def rSumT (K : PySem.W.Frag) : List V → Hp → VK → Prop := fun vs H Q => ∃ (a : Addr) (ns : List Int), vs = [V.ref a] ∧ SqT K H a (ns.map V.int) ∧ Q (.int ns.sum) H
theorem cr_sumT {X : Cx} (hc : X.calm = true) : CallR X (.builtin "sum") (rSumT X.K) := by
  intro pins s σ H vs us Q I r h
  obtain ⟨a, ns, rfl, hs, q⟩ := h
  obtain ⟨its, rv, ht, _⟩ := I.tuple hs
  rw [Vals.ref1 r]
  have hi : IntsAre its ns := rv.ints
  obtain ⟨xs, e⟩ := hi.allInts.items
  have hn : numsOf (intItems xs).toList = ns := by rw [← e]; exact hi.numsOf
  rw [nums_intItems] at hn
  have hl : s.heap.IsTuple a (intItems xs) := by rw [← e]; exact ht
  refine PySem.W.ktm_sumG (I.ok.hd hc) hl fun h' tk t' hk => ?_
  rw [preSum_eq, List.take_of_length_le (by simp), hn]
  exact ⟨.int _, H, I.kept hk, ⟨_, rfl⟩, q⟩
theorem cr_sumA {X : Cx} (hc : X.calm = true) : CallR X (.builtin "sum") (fun vs H Q => rSum X.K vs H Q ∨ rSumT X.K vs H Q) := (cr_sum hc).or (cr_sumT hc)
end L2
namespace DL
open PySem PySem.Spec L2
def rdSumA : RDL := fun ds M Q => match ds with
  | [.tup xs] => (match intsOf xs with
    | some l => Q (.int l.sum) M
    | none => False)
  | ds => rdSum ds M Q
theorem od_sumA {K : PySem.W.Frag} : CrD K (fun vs H Q => rSum K vs H Q ∨ rSumT K vs H Q) rdSumA := by
  intro HI M H xs ds Q Qv ok r h k
  unfold rdSumA at h
  split at h
  · rename_i ys
    cases e2 : intsOf ys with
    | none => rw [e2] at h; exact h.elim
    | some l =>
      rw [e2] at h
      cases r with
      | cons rx r =>
        cases r
        cases rx with
        | tup h1 r1 =>
          rw [intsOf_eq e2] at r1
          have eu := ints_rep r1
          subst eu
          exact .inr ⟨_, l, rfl, same_t ok.same h1, k _ _ (.mk ok (.int _) h)⟩
  · exact .inl (od_sum HI M H xs _ Q Qv ok r h k)
theorem q_sum_t {l : List Int} {M : MM} {Q : DK} : rdSumA [.tup (l.map D.int)] M Q = Q (.int l.sum) M := by
  unfold rdSumA
  simp only [intsOf_map]
theorem q_sum_l {l : List Int} {M : MM} {Q : DK} : rdSumA [.lst (l.map D.int)] M Q = Q (.int l.sum) M := by
  show rdSum [.lst (l.map D.int)] M Q = _
  unfold rdSum
  simp only [lsOf, intsOf_map]
/-- a loop whose body may return -/
theorem for_rt {tb : TDS} {g : TDG} {I : Nat → DSt → MM → Prop} {D0 : DEnds} (N : Nat) : ∀ (ds : List D) (n : Nat) (σ : DSt) (M : MM),
    (∀ d ∈ ds, ∀ (n : Nat) (σ : DSt) (M : MM) (Dn : DEnds), n < N → Dn.rt = D0.rt → I n σ M → (∀ σ' M', I (n + 1) σ' M' → Dn.nx σ' M') → g d σ M (fun σ2 M2 => tb Dn σ2 M2)) →
    n + ds.length ≤ N → I n σ M → (∀ σ' M', I (n + ds.length) σ' M' → D0.nx σ' M') → forD g tb ds D0 σ M
  | [], n, σ, M, _, _, hi, q => q σ M hi
  | d :: ds, n, σ, M, h, hN, hi, q => by
    rw [List.length_cons] at hN
    refine h d List.mem_cons_self n σ M _ (by omega) rfl hi fun σ' M' hi' => ?_
    refine for_rt N ds (n + 1) σ' M' (fun x hx => h x (List.mem_cons_of_mem _ hx)) (by omega) hi' fun σ'' M'' h2 => q σ'' M'' ?_
    rw [List.length_cons, show n + (ds.length + 1) = n + 1 + ds.length from by omega]
    exact h2
end DL

namespace K41
open PySem PySem.Spec L2 DL
open TL
def c_TIES : TD := tk (.tup ((["new", "old"] : List Str).map D.str))
def c_MOST_PERIOD : TD := tk (.int 60)
def c_MOST_DIGITS : TD := tk (.int 9)
def c_MOST_COPIERS : TD := tk (.int 5)
def isk : IsK := ⟨[((.ty "NoneType", .own "InvalidRow"), false),
  ((.ty "NoneType", .own "OtherEnds"), false),
  ((.ty "NoneType", .own "InvalidPhases"), false),
  ((.ty "NoneType", .own "InvalidIndex"), false),
  ((.ty "NoneType", .own "InvalidNumber"), false),
  ((.ty "bool", .own "InvalidRow"), false),
  ((.ty "bool", .own "OtherEnds"), false),
  ((.ty "bool", .own "InvalidPhases"), false),
  ((.ty "bool", .own "InvalidIndex"), false),
  ((.ty "bool", .own "InvalidNumber"), false),
  ((.ty "int", .own "InvalidRow"), false),
  ((.ty "int", .own "OtherEnds"), false),
  ((.ty "int", .own "InvalidPhases"), false),
  ((.ty "int", .own "InvalidIndex"), false),
  ((.ty "int", .own "InvalidNumber"), false),
  ((.ty "str", .own "InvalidRow"), false),
  ((.ty "str", .own "OtherEnds"), false),
  ((.ty "str", .own "InvalidPhases"), false),
  ((.ty "str", .own "InvalidIndex"), false),
  ((.ty "str", .own "InvalidNumber"), false),
  ((.ty "list", .own "InvalidRow"), false),
  ((.ty "list", .own "OtherEnds"), false),
  ((.ty "list", .own "InvalidPhases"), false),
  ((.ty "list", .own "InvalidIndex"), false),
  ((.ty "list", .own "InvalidNumber"), false),
  ((.ty "tuple", .own "InvalidRow"), false),
  ((.ty "tuple", .own "OtherEnds"), false),
  ((.ty "tuple", .own "InvalidPhases"), false),
  ((.ty "tuple", .own "InvalidIndex"), false),
  ((.ty "tuple", .own "InvalidNumber"), false),
  ((.own "InvalidRow", .ty "int"), false),
  ((.own "InvalidRow", .ty "bool"), false),
  ((.own "InvalidRow", .ty "tuple"), false),
  ((.own "InvalidRow", .ty "str"), false),
  ((.own "InvalidRow", .ty "list"), false),
  ((.own "InvalidRow", .own "InvalidRow"), true),
  ((.own "InvalidRow", .own "OtherEnds"), false),
  ((.own "InvalidRow", .own "InvalidPhases"), false),
  ((.own "InvalidRow", .own "InvalidIndex"), false),
  ((.own "InvalidRow", .own "InvalidNumber"), false),
  ((.own "InvalidRow", .ty "ValueError"), true),
  ((.own "OtherEnds", .ty "int"), false),
  ((.own "OtherEnds", .ty "bool"), false),
  ((.own "OtherEnds", .ty "tuple"), false),
  ((.own "OtherEnds", .ty "str"), false),
  ((.own "OtherEnds", .ty "list"), false),
  ((.own "OtherEnds", .own "InvalidRow"), false),
  ((.own "OtherEnds", .own "OtherEnds"), true),
  ((.own "OtherEnds", .own "InvalidPhases"), false),
  ((.own "OtherEnds", .own "InvalidIndex"), false),
  ((.own "OtherEnds", .own "InvalidNumber"), false),
  ((.own "OtherEnds", .ty "ValueError"), true),
  ((.own "Line", .ty "int"), false),
  ((.own "Line", .ty "bool"), false),
  ((.own "Line", .ty "tuple"), false),
  ((.own "Line", .ty "str"), false),
  ((.own "Line", .ty "list"), false),
  ((.own "Line", .own "InvalidRow"), false),
  ((.own "Line", .own "OtherEnds"), false),
  ((.own "Line", .own "InvalidPhases"), false),
  ((.own "Line", .own "InvalidIndex"), false),
  ((.own "Line", .own "InvalidNumber"), false),
  ((.own "Line", .ty "ValueError"), false)],
  ["InvalidRow", "OtherEnds"], ["Line"]⟩
def cs_CopyError : List (Str × Bool) := [("InvalidRow", true), ("OtherEnds", true)]
def isTab : IsTab := [((.own "InvalidRow", .ty "int"), false),
  ((.own "InvalidRow", .ty "bool"), false),
  ((.own "InvalidRow", .ty "tuple"), false),
  ((.own "InvalidRow", .ty "str"), false),
  ((.own "InvalidRow", .ty "list"), false),
  ((.own "InvalidRow", .own "InvalidRow"), true),
  ((.own "InvalidRow", .own "OtherEnds"), false),
  ((.own "InvalidRow", .own "InvalidPhases"), false),
  ((.own "InvalidRow", .own "InvalidIndex"), false),
  ((.own "InvalidRow", .own "InvalidNumber"), false),
  ((.own "InvalidRow", .ty "ValueError"), true),
  ((.own "OtherEnds", .ty "int"), false),
  ((.own "OtherEnds", .ty "bool"), false),
  ((.own "OtherEnds", .ty "tuple"), false),
  ((.own "OtherEnds", .ty "str"), false),
  ((.own "OtherEnds", .ty "list"), false),
  ((.own "OtherEnds", .own "InvalidRow"), false),
  ((.own "OtherEnds", .own "OtherEnds"), true),
  ((.own "OtherEnds", .own "InvalidPhases"), false),
  ((.own "OtherEnds", .own "InvalidIndex"), false),
  ((.own "OtherEnds", .own "InvalidNumber"), false),
  ((.own "OtherEnds", .ty "ValueError"), true),
  ((.ty "NoneType", .own "InvalidRow"), false),
  ((.ty "NoneType", .own "OtherEnds"), false),
  ((.ty "NoneType", .own "InvalidPhases"), false),
  ((.ty "NoneType", .own "InvalidIndex"), false),
  ((.ty "NoneType", .own "InvalidNumber"), false),
  ((.ty "bool", .own "InvalidRow"), false),
  ((.ty "bool", .own "OtherEnds"), false),
  ((.ty "bool", .own "InvalidPhases"), false),
  ((.ty "bool", .own "InvalidIndex"), false),
  ((.ty "bool", .own "InvalidNumber"), false),
  ((.ty "int", .own "InvalidRow"), false),
  ((.ty "int", .own "OtherEnds"), false),
  ((.ty "int", .own "InvalidPhases"), false),
  ((.ty "int", .own "InvalidIndex"), false),
  ((.ty "int", .own "InvalidNumber"), false),
  ((.ty "str", .own "InvalidRow"), false),
  ((.ty "str", .own "OtherEnds"), false),
  ((.ty "str", .own "InvalidPhases"), false),
  ((.ty "str", .own "InvalidIndex"), false),
  ((.ty "str", .own "InvalidNumber"), false),
  ((.ty "list", .own "InvalidRow"), false),
  ((.ty "list", .own "OtherEnds"), false),
  ((.ty "list", .own "InvalidPhases"), false),
  ((.ty "list", .own "InvalidIndex"), false),
  ((.ty "list", .own "InvalidNumber"), false),
  ((.ty "tuple", .own "InvalidRow"), false),
  ((.ty "tuple", .own "OtherEnds"), false),
  ((.ty "tuple", .own "InvalidPhases"), false),
  ((.ty "tuple", .own "InvalidIndex"), false),
  ((.ty "tuple", .own "InvalidNumber"), false)]
abbrev fc_kept_row : List Str := ["Line"]
theorem iskOk : isOkB isk = true := by decide +kernel
def sp_is_number : SpD := spF1 fun v M Q _ => AnyV isk M v ∧ Q (.bl (isNum v)) M
/-! def is_number(value): slots 0 value -/
def t_is_number : TDS :=
    (sret (vand (tcb (rdIsiM isk) (ac (tv 0) (ac (tk (.ty "int")) a0))) (vnot (tcb (rdIsiM isk) (ac (tv 0) (ac (tk (.ty "bool")) a0))))))
theorem rd_is_number : ∀ ds M Q E, sp_is_number ds M Q E → t_is_number (bend Q E) (startD ["value"] ds) M := rdF1 fun v M Q E ⟨h, q⟩ => by
  unfold t_is_number
  simp only [tv, tk, to2, to1, tbl, tch, tand, tor, tnot, vand, vor, vnot, tif, a0, ac, as_, dtup, dlst, tcb, tcall, sret, sretN, sseq, sif, snx, sdrop, sasg, gn, spar, snever, bend, rdLt, rdLe, rdGt, rdGe, rdSub, rdDiv, rdMod, rdPow, rdI0, rdI, startD, List.map_cons, List.map_nil, List.length_cons, List.length_nil, List.replicate, List.cons_append, List.nil_append, List.append_nil, List.getElem?_cons_zero, List.getElem?_cons_succ, List.set_cons_zero, List.set_cons_succ, Nat.reduceAdd, Nat.reduceSub, Nat.zero_add, tcallK, ro, List.getD_cons_zero, List.getD_cons_succ, true_and, q_isiM (im_int iskOk h), q_isiM (im_bool iskOk h)]
  cases v <;> exact q
def sp_is_whole : SpD := spF3 fun v l h M Q _ => AnyV isk M v ∧ ∃ a b, l = .int a ∧ h = .int b ∧ Q (.bl (inR a b v)) M
/-! def is_whole(value, low, high): slots 0 value, 1 low, 2 high -/
def t_is_whole : TDS :=
    (sret (vand (tcall sp_is_number (ac (tv 0) a0)) (tch rdLe rdLe (tv 1) (tv 0) (tv 2))))
theorem rd_is_whole : ∀ ds M Q E, sp_is_whole ds M Q E → t_is_whole (bend Q E) (startD ["value", "low", "high"] ds) M := rdF3 fun v l h M Q E ⟨hd, a, b, e1, e2, q⟩ => by
  subst e1 e2
  unfold t_is_whole
  simp only [tv, tk, to2, to1, tbl, tch, tand, tor, tnot, vand, vor, vnot, tif, a0, ac, as_, dtup, dlst, tcb, tcall, sret, sretN, sseq, sif, snx, sdrop, sasg, gn, spar, snever, bend, rdLt, rdLe, rdGt, rdGe, rdSub, rdDiv, rdMod, rdPow, rdI0, rdI, startD, List.map_cons, List.map_nil, List.length_cons, List.length_nil, List.replicate, List.cons_append, List.nil_append, List.append_nil, List.getElem?_cons_zero, List.getElem?_cons_succ, List.set_cons_zero, List.set_cons_succ, Nat.reduceAdd, Nat.reduceSub, Nat.zero_add, tcallK, ro, List.getD_cons_zero, List.getD_cons_succ, true_and]
  refine ⟨hd, ?_⟩
  cases v with
  | int i =>
    have q : Q (.bl (decide (a ≤ i) && decide (i ≤ b))) M := q
    simp only [tv, tk, to2, to1, tbl, tch, tand, tor, tnot, vand, vor, vnot, tif, a0, ac, as_, dtup, dlst, tcb, tcall, sret, sretN, sseq, sif, snx, sdrop, sasg, gn, spar, snever, bend, rdLt, rdLe, rdGt, rdGe, rdSub, rdDiv, rdMod, rdPow, rdI0, rdI, startD, List.map_cons, List.map_nil, List.length_cons, List.length_nil, List.replicate, List.cons_append, List.nil_append, List.append_nil, List.getElem?_cons_zero, List.getElem?_cons_succ, List.set_cons_zero, List.set_cons_succ, Nat.reduceAdd, Nat.reduceSub, Nat.zero_add, tcallK, ro, List.getD_cons_zero, List.getD_cons_succ, true_and, isNum, if_true]
    by_cases h1 : a ≤ i
    · rw [decide_eq_true h1, Bool.true_and] at q
      rw [decide_eq_true h1, if_pos rfl]; exact q
    · rw [decide_eq_false h1, Bool.false_and] at q
      rw [decide_eq_false h1, if_neg (by simp)]; exact q
  | _ => exact q
def sp_fits_row : SpD := spF1 fun v M Q _ => AnyRow isk M v ∧ Q (.bl (rowOkB v)) M
/-! def fits_row(value): slots 0 value, 1 period -/
def t_fits_row : TDS :=
    (sseq (sif (tor (tnot (tbl (tcb (rdIsiM isk) (ac (tv 0) (ac (tk (.ty "tuple")) a0))))) (tor (tbl (to2 rdNe (tcb rdLen (ac (tv 0) a0)) (tk (.int 2)))) (tor (tnot (tbl (tcb (rdIsiM isk) (ac (to2 rdIx (tv 0) (tk (.int 0))) (ac (tk (.ty "str")) a0))))) (tbl (to2 (rdIn true) (to2 rdIx (tv 0) (tk (.int 0))) c_TIES)))))
      (sret (tk (.bl false)))
      snx)
    (sseq (sif (tor (tnot (tbl (tcb (rdIsiM isk) (ac (to2 rdIx (tv 0) (tk (.int 1))) (ac (tk (.ty "tuple")) a0))))) (tnot (tbl (tch rdLe rdLe (tk (.int 2)) (tcb rdLen (ac (to2 rdIx (tv 0) (tk (.int 1))) a0)) (tk (.int 5))))))
      (sret (tk (.bl false)))
      snx)
    (sret (tcb rdAll (ac (tlc (itup (to2 rdIx (tv 0) (tk (.int 1)))) (gn 1) tyes (tcall sp_is_whole (ac (tv 1) (ac (tk (.int 1)) (ac c_MOST_PERIOD a0)))) [1]) a0)))))
theorem tie_in (t : Str) : inF (.str t) [D.str (Str.ofString "new"), D.str (Str.ofString "old")] = isTie t := by
  show (decide (Str.ofString "new" = t) || (decide (Str.ofString "old" = t) || false)) = (decide (t = Str.ofString "new") || decide (t = Str.ofString "old"))
  rw [Bool.or_false]
  congr 1 <;> exact decide_eq_decide.mpr eq_comm
theorem rd_fits_row : ∀ ds M Q E, sp_fits_row ds M Q E → t_fits_row (bend Q E) (startD ["value", "period"] ds) M := rdF1 fun v M Q E ⟨g, q⟩ => by
  unfold t_fits_row
  have z : sizeLine = 16777216 := rfl
  simp only [tv, tk, to2, to1, tbl, tch, tand, tor, tnot, vand, vor, vnot, tif, a0, ac, as_, dtup, dlst, tcb, tcall, sret, sretN, sseq, sif, snx, sdrop, sasg, gn, spar, snever, bend, rdLt, rdLe, rdGt, rdGe, rdSub, rdDiv, rdMod, rdPow, rdI0, rdI, startD, List.map_cons, List.map_nil, List.length_cons, List.length_nil, List.replicate, List.cons_append, List.nil_append, List.append_nil, List.getElem?_cons_zero, List.getElem?_cons_succ, List.set_cons_zero, List.set_cons_succ, Nat.reduceAdd, Nat.reduceSub, Nat.zero_add, tcallK, ro, List.getD_cons_zero, List.getD_cons_succ, true_and, q_isiM (im_tuple iskOk g.hv)]
  cases v with
  | tup xs =>
    match xs, g, q with
    | [a, b], g, q =>
      have ga := g.hx _ rfl a List.mem_cons_self
      have gb := g.hx _ rfl b (List.mem_cons_of_mem _ List.mem_cons_self)
      have h0 : atI [a, b] 0 = some a := rfl
      have h1 : atI [a, b] 1 = some b := rfl
      have e2 : eqS (.int ((2 : Nat) : Int)) (.int 2) = some true := rfl
      simp only [isTup, Bool.not_true, Bool.false_eq_true, if_false, rdLen, tv, tk, to2, to1, tbl, tch, tand, tor, tnot, vand, vor, vnot, tif, a0, ac, as_, dtup, dlst, tcb, tcall, sret, sretN, sseq, sif, snx, sdrop, sasg, gn, spar, snever, bend, rdLt, rdLe, rdGt, rdGe, rdSub, rdDiv, rdMod, rdPow, rdI0, rdI, startD, List.map_cons, List.map_nil, List.length_cons, List.length_nil, List.replicate, List.cons_append, List.nil_append, List.append_nil, List.getElem?_cons_zero, List.getElem?_cons_succ, List.set_cons_zero, List.set_cons_succ, Nat.reduceAdd, Nat.reduceSub, Nat.zero_add, tcallK, ro, List.getD_cons_zero, List.getD_cons_succ, true_and, rdNe, e2, rdIx, h0, h1, atD, q_isiM (im_str iskOk ga), q_isiM (im_tuple iskOk gb), c_TIES, c_MOST_PERIOD]
      cases a with
      | str t =>
        simp only [isStr, Bool.not_true, Bool.false_eq_true, if_false, rdIn, tv, tk, to2, to1, tbl, tch, tand, tor, tnot, vand, vor, vnot, tif, a0, ac, as_, dtup, dlst, tcb, tcall, sret, sretN, sseq, sif, snx, sdrop, sasg, gn, spar, snever, bend, rdLt, rdLe, rdGt, rdGe, rdSub, rdDiv, rdMod, rdPow, rdI0, rdI, startD, List.map_cons, List.map_nil, List.length_cons, List.length_nil, List.replicate, List.cons_append, List.nil_append, List.append_nil, List.getElem?_cons_zero, List.getElem?_cons_succ, List.set_cons_zero, List.set_cons_succ, Nat.reduceAdd, Nat.reduceSub, Nat.zero_add, tcallK, ro, List.getD_cons_zero, List.getD_cons_succ, true_and]
        refine ⟨rfl, ?_⟩
        rw [tie_in]
        cases ht : isTie t with
        | false =>
          have q2 : rowOkB (.tup [.str t, b]) = false := by
            cases b <;> first | rfl | (show (isTie t && _) = false; rw [ht]; rfl)
          rw [q2] at q
          exact q
        | true =>
          simp only [Bool.bne_true, Bool.not_true, Bool.xor_true, Bool.false_eq_true, if_false]
          rw [q_isiM (im_tuple iskOk gb)]
          cases b with
          | tup ys =>
            have q1 : rowOkB (.tup [.str t, .tup ys]) = (decide (2 ≤ ys.length) && decide (ys.length ≤ 5) && ys.all (inR 1 60)) := by
              show (isTie t && _) = _
              rw [ht, Bool.true_and]
            rw [q1] at q
            simp only [isTup, Bool.not_true, Bool.false_eq_true, if_false, rdLen, tv, tk, to2, to1, tbl, tch, tand, tor, tnot, vand, vor, vnot, tif, a0, ac, as_, dtup, dlst, tcb, tcall, sret, sretN, sseq, sif, snx, sdrop, sasg, gn, spar, snever, bend, rdLt, rdLe, rdGt, rdGe, rdSub, rdDiv, rdMod, rdPow, rdI0, rdI, startD, List.map_cons, List.map_nil, List.length_cons, List.length_nil, List.replicate, List.cons_append, List.nil_append, List.append_nil, List.getElem?_cons_zero, List.getElem?_cons_succ, List.set_cons_zero, List.set_cons_succ, Nat.reduceAdd, Nat.reduceSub, Nat.zero_add, tcallK, ro, List.getD_cons_zero, List.getD_cons_succ, true_and]
            have i1 : decide ((2 : Int) ≤ (ys.length : Int)) = decide (2 ≤ ys.length) := decide_eq_decide.mpr (by omega)
            have i2 : decide ((ys.length : Int) ≤ 5) = decide (ys.length ≤ 5) := decide_eq_decide.mpr (by omega)
            rw [i1, i2]
            by_cases hl : 2 ≤ ys.length
            · rw [decide_eq_true hl, Bool.true_and] at q
              rw [decide_eq_true hl]
              simp only [if_true]
              by_cases hm : ys.length ≤ 5
              · rw [decide_eq_true hm, Bool.true_and] at q
                rw [decide_eq_true hm]
                simp only [Bool.not_true, Bool.false_eq_true, if_false, tlc, itup, h1, atD, tv, tk, to2, to1, tbl, tch, tand, tor, tnot, vand, vor, vnot, tif, a0, ac, as_, dtup, dlst, tcb, tcall, sret, sretN, sseq, sif, snx, sdrop, sasg, gn, spar, snever, bend, rdLt, rdLe, rdGt, rdGe, rdSub, rdDiv, rdMod, rdPow, rdI0, rdI, startD, List.map_cons, List.map_nil, List.length_cons, List.length_nil, List.replicate, List.cons_append, List.nil_append, List.append_nil, List.getElem?_cons_zero, List.getElem?_cons_succ, List.set_cons_zero, List.set_cons_succ, Nat.reduceAdd, Nat.reduceSub, Nat.zero_add, tcallK, ro, List.getD_cons_zero, List.getD_cons_succ, true_and, rdIx]
                have em : ys = ys.map fun y => y := (List.map_id ys).symm
                have main := fun Qc => compD_n (f := fun y : D => y) (r := fun y => D.bl (inR 1 60 y)) (M := M) (Q := Qc) (te := tcall sp_is_whole (ac (tv 1) (ac (tk (.int 1)) (ac (tk (.int 60)) a0)))) (σ := [some (.tup [.str t, .tup ys]), none]) (i := 1) ys [] (fun p hp k hk => by
                  simp only [tv, tk, to2, to1, tbl, tch, tand, tor, tnot, vand, vor, vnot, tif, a0, ac, as_, dtup, dlst, tcb, tcall, sret, sretN, sseq, sif, snx, sdrop, sasg, gn, spar, snever, bend, rdLt, rdLe, rdGt, rdGe, rdSub, rdDiv, rdMod, rdPow, rdI0, rdI, startD, List.map_cons, List.map_nil, List.length_cons, List.length_nil, List.replicate, List.cons_append, List.nil_append, List.append_nil, List.getElem?_cons_zero, List.getElem?_cons_succ, List.set_cons_zero, List.set_cons_succ, Nat.reduceAdd, Nat.reduceSub, Nat.zero_add, tcallK, ro, List.getD_cons_zero, List.getD_cons_succ, true_and]
                  exact ⟨g.hy _ rfl _ (List.mem_cons_of_mem _ List.mem_cons_self) _ rfl p hp, 1, 60, rfl, rfl, hk⟩) (by rw [List.length_nil, Nat.zero_add]; omega)
                rw [← em] at main
                refine main _ ?_
                show rdAll [.lst (ys.map fun y => D.bl (inR 1 60 y))] M Q
                rw [q_all (blsOf_mapf _ ys), all_id]
                exact q
              · rw [decide_eq_false hm, Bool.false_and] at q
                rw [decide_eq_false hm]
                exact q
            · rw [decide_eq_false hl] at q
              rw [decide_eq_false hl]
              exact q
          | _ => exact q
      | _ => exact q
    | [], g, q => exact q
    | [a], g, q =>
      have q2 : rowOkB (.tup [a]) = false := by
        unfold rowOkB
        split
        · rename_i h; cases h
        · rfl
      rw [q2] at q
      exact q
    | a :: b :: c :: xs, g, q =>
      simp only [isTup, Bool.not_true, Bool.false_eq_true, if_false, rdLen, tv, tk, to2, to1, tbl, tch, tand, tor, tnot, vand, vor, vnot, tif, a0, ac, as_, dtup, dlst, tcb, tcall, sret, sretN, sseq, sif, snx, sdrop, sasg, gn, spar, snever, bend, rdLt, rdLe, rdGt, rdGe, rdSub, rdDiv, rdMod, rdPow, rdI0, rdI, startD, List.map_cons, List.map_nil, List.length_cons, List.length_nil, List.replicate, List.cons_append, List.nil_append, List.append_nil, List.getElem?_cons_zero, List.getElem?_cons_succ, List.set_cons_zero, List.set_cons_succ, Nat.reduceAdd, Nat.reduceSub, Nat.zero_add, tcallK, ro, List.getD_cons_zero, List.getD_cons_succ, true_and, rdNe]
      have e2 : eqS (.int (((xs.length + 1 + 1 + 1 : Nat)) : Int)) (.int 2) = some false := by
        show some (decide ((((xs.length + 1 + 1 + 1 : Nat)) : Int) = 2)) = _
        rw [decide_eq_false (by omega)]
      rw [e2]
      have q2 : rowOkB (.tup (a :: b :: c :: xs)) = false := by
        unfold rowOkB
        split
        · rename_i h; cases h
        · rfl
      rw [q2] at q
      exact q
  | _ => exact q
def sp_greatest_common : SpD := spF2 fun x y M Q _ => ∃ a b : Nat, x = .int (a : Int) ∧ y = .int (b : Int) ∧ Q (.int ((Nat.gcd a b : Nat) : Int)) M
/-! def greatest_common(one, other): slots 0 one, 1 other -/
def t_greatest_common : TDS :=
    (sseq (swh (tbl (to2 rdGt (tv 1) (tk (.int 0)))) (spar 0 1 (ac (tv 1) (ac (to2 rdMod (tv 0) (tv 1)) a0))))
    (sret (tv 0)))
theorem rd_greatest_common : ∀ ds M Q E, sp_greatest_common ds M Q E → t_greatest_common (bend Q E) (startD ["one", "other"] ds) M := rdF2 fun x y M Q E ⟨a, b, e1, e2, q⟩ => by
  subst e1 e2
  unfold t_greatest_common
  simp only [sseq, swh]
  refine ⟨b + 1, gcd_loop Q E M _ _ _ (fun a b Q' E' q => ?_) (fun a b hb D q => ?_) (b + 1) a b (Nat.lt_succ_self b) ?_⟩
  · simp only [tv, tk, to2, to1, tbl, tch, tand, tor, tnot, vand, vor, vnot, tif, a0, ac, as_, dtup, dlst, tcb, tcall, sret, sretN, sseq, sif, snx, sdrop, sasg, gn, spar, snever, bend, rdLt, rdLe, rdGt, rdGe, rdSub, rdDiv, rdMod, rdPow, rdI0, rdI, startD, List.map_cons, List.map_nil, List.length_cons, List.length_nil, List.replicate, List.cons_append, List.nil_append, List.append_nil, List.getElem?_cons_zero, List.getElem?_cons_succ, List.set_cons_zero, List.set_cons_succ, Nat.reduceAdd, Nat.reduceSub, Nat.zero_add, tcallK, ro, List.getD_cons_zero, List.getD_cons_succ, true_and]
    have e : decide ((0 : Int) < (b : Int)) = decide (0 < b) := by simp
    rw [e]; exact q
  · simp only [tv, tk, to2, to1, tbl, tch, tand, tor, tnot, vand, vor, vnot, tif, a0, ac, as_, dtup, dlst, tcb, tcall, sret, sretN, sseq, sif, snx, sdrop, sasg, gn, spar, snever, bend, rdLt, rdLe, rdGt, rdGe, rdSub, rdDiv, rdMod, rdPow, rdI0, rdI, startD, List.map_cons, List.map_nil, List.length_cons, List.length_nil, List.replicate, List.cons_append, List.nil_append, List.append_nil, List.getElem?_cons_zero, List.getElem?_cons_succ, List.set_cons_zero, List.set_cons_succ, Nat.reduceAdd, Nat.reduceSub, Nat.zero_add, tcallK, ro, List.getD_cons_zero, List.getD_cons_succ, true_and]
    refine ⟨by omega, ?_⟩
    exact q
  · simp only [tv, tk, to2, to1, tbl, tch, tand, tor, tnot, vand, vor, vnot, tif, a0, ac, as_, dtup, dlst, tcb, tcall, sret, sretN, sseq, sif, snx, sdrop, sasg, gn, spar, snever, bend, rdLt, rdLe, rdGt, rdGe, rdSub, rdDiv, rdMod, rdPow, rdI0, rdI, startD, List.map_cons, List.map_nil, List.length_cons, List.length_nil, List.replicate, List.cons_append, List.nil_append, List.append_nil, List.getElem?_cons_zero, List.getElem?_cons_succ, List.set_cons_zero, List.set_cons_succ, Nat.reduceAdd, Nat.reduceSub, Nat.zero_add, tcallK, ro, List.getD_cons_zero, List.getD_cons_succ, true_and]
    exact q
def sp_need_row : SpD := spF1 fun v M Q E => AnyRow isk M v ∧ (rowOkB v = true → Q .non M) ∧ (rowOkB v = false → E ⟨"InvalidRow", []⟩ M)
/-! def need_row(row): slots 0 row -/
def t_need_row : TDS :=
    (sif (tnot (tbl (tcall sp_fits_row (ac (tv 0) a0))))
      (sraise "InvalidRow")
      snx)
theorem rd_need_row : ∀ ds M Q E, sp_need_row ds M Q E → t_need_row (bend Q E) (startD ["row"] ds) M := rdF1 fun v M Q E ⟨h, q1, q2⟩ => by
  unfold t_need_row
  simp only [tv, tk, to2, to1, tbl, tch, tand, tor, tnot, vand, vor, vnot, tif, a0, ac, as_, dtup, dlst, tcb, tcall, sret, sretN, sseq, sif, snx, sdrop, sasg, gn, spar, snever, bend, rdLt, rdLe, rdGt, rdGe, rdSub, rdDiv, rdMod, rdPow, rdI0, rdI, startD, List.map_cons, List.map_nil, List.length_cons, List.length_nil, List.replicate, List.cons_append, List.nil_append, List.append_nil, List.getElem?_cons_zero, List.getElem?_cons_succ, List.set_cons_zero, List.set_cons_succ, Nat.reduceAdd, Nat.reduceSub, Nat.zero_add, tcallK, ro, List.getD_cons_zero, List.getD_cons_succ, true_and]
  refine ⟨h, ?_⟩
  cases e : rowOkB v with
  | true => exact q1 e
  | false => exact q2 e
/-! the least common -/
theorem cdiv {i k : Int} (h0 : 0 < k) (h : k < 2 ^ 64) : CDivW i k := ⟨h0, by
  have : k.natAbs < 2 ^ 64 := by omega
  by_cases z : k.natAbs = 0
  · rw [z]; decide
  · have := (Nat.log2_lt z).mpr this; omega⟩
def lcmF (l : List Nat) : Nat := l.foldl Nat.lcm 1
def natsD (l : List Nat) : List D := l.map fun n : Nat => D.int (n : Int)
def sp_least_common : SpD := spF1 fun v M Q _ => ∃ ns : List Nat, v = .tup (natsD ns) ∧ (∀ n ∈ ns, 1 ≤ n ∧ n ≤ 60) ∧ ns.length ≤ 10 ∧ Q (.int ((lcmF ns : Nat) : Int)) M
/-! def least_common(numbers): slots 0 numbers, 1 found, 2 number -/
def t_least_common : TDS :=
    (sseq (sasg (tk (.int 1)) (gn 1))
    (sseq (sfor (itup (tv 0)) (gn 2)
      (sasg (to2 rdMul (to2 rdDiv (tv 1) (tcall sp_greatest_common (ac (tv 1) (ac (tv 2) a0)))) (tv 2)) (gn 1)))
    (sret (tv 1))))
theorem lcm_loop {tb : TDS} {D0 : DEnds} {x : Option D} {M : MM} (hb : ∀ (Dn : DEnds) (f n : Nat) (k : Nat), 1 ≤ f → f ≤ 60 ^ k → k ≤ 10 → 1 ≤ n → n ≤ 60 → Dn.nx [x, some (.int ((Nat.lcm f n : Nat) : Int)), some (.int (n : Int))] M → tb Dn [x, some (.int (f : Int)), some (.int (n : Int))] M) :
    ∀ (ns : List Nat) (f k : Nat) (o : Option D), (∀ n ∈ ns, 1 ≤ n ∧ n ≤ 60) → 1 ≤ f → f ≤ 60 ^ k → k + ns.length ≤ 10 → (∀ o, D0.nx [x, some (.int ((ns.foldl Nat.lcm f : Nat) : Int)), o] M) → forD (gn 2) tb (natsD ns) D0 [x, some (.int (f : Int)), o] M
  | [], f, k, o, _, _, _, _, q => q o
  | n :: ns, f, k, o, hn, hf, hk, hl, q => by
    rw [List.length_cons] at hl
    obtain ⟨n1, n2⟩ := hn n List.mem_cons_self
    refine hb _ f n k hf hk (by omega) n1 n2 ?_
    refine lcm_loop hb ns (Nat.lcm f n) (k + 1) (some (.int (n : Int))) (fun m hm => hn m (List.mem_cons_of_mem _ hm)) (Nat.lcm_pos hf n1) ?_ (by omega) q
    refine Nat.le_trans (Nat.le_of_dvd (Nat.mul_pos hf n1) (Nat.lcm_dvd_mul f n)) ?_
    rw [Nat.pow_succ]
    exact Nat.mul_le_mul hk n2
theorem rd_least_common : ∀ ds M Q E, sp_least_common ds M Q E → t_least_common (bend Q E) (startD ["numbers", "found", "number"] ds) M := rdF1 fun v M Q E ⟨ns, e, hn, hl, q⟩ => by
  subst e
  unfold t_least_common
  simp only [tv, tk, to2, to1, tbl, tch, tand, tor, tnot, vand, vor, vnot, tif, a0, ac, as_, dtup, dlst, tcb, tcall, sret, sretN, sif, snx, sdrop, sasg, gn, spar, snever, bend, startD, List.map_cons, List.map_nil, List.length_cons, List.length_nil, List.replicate, List.cons_append, List.nil_append, List.append_nil, List.getElem?_cons_zero, List.getElem?_cons_succ, List.set_cons_zero, List.set_cons_succ, Nat.reduceAdd, Nat.reduceSub, Nat.zero_add, tcallK, ro, List.getD_cons_zero, List.getD_cons_succ, true_and, wipeD, Bool.not_true, Bool.not_false, Bool.false_eq_true, if_true, if_false, q_add_i, q_add_s, q_add_l, q_add_t, q_sub, q_mul_i, q_mul_l, q_mul_s, q_div, q_mod, q_pow, q_lt, q_le, q_gt, q_ge, q_eq_i, q_eq_s, q_eq_b, q_ne_i, q_ne_s, q_ne_b, q_eq_l, q_eq_t, q_ne_l, q_ne_t, q_is, q_isnt, isN_int, isN_str, isN_lst, isN_tup, isN_ref, isN_bl, isN_non, q_neg, q_ix_l, q_ix_t, atD_s, at_1_0, at_2_0, at_2_1, at_3_0, at_3_1, at_3_2, at_4_0, at_4_1, at_4_2, at_4_3, q_len_l, q_len_t, q_len_s, q_abs, q_int_i, q_int_b, q_str, q_list_l, q_list_t, q_tuple_l, q_tuple_t, q_repr_l, q_repr_t, sseq, sfor, itup]
  refine lcm_loop (fun Dn f n k hf hk hk2 n1 n2 hnx => ?_) ns 1 0 none hn (by decide) (by decide) (by omega) (fun o => q)
  simp only [tv, tk, to2, to1, tbl, tch, tand, tor, tnot, vand, vor, vnot, tif, a0, ac, as_, dtup, dlst, tcb, tcall, sret, sretN, sif, snx, sdrop, sasg, gn, spar, snever, bend, startD, List.map_cons, List.map_nil, List.length_cons, List.length_nil, List.replicate, List.cons_append, List.nil_append, List.append_nil, List.getElem?_cons_zero, List.getElem?_cons_succ, List.set_cons_zero, List.set_cons_succ, Nat.reduceAdd, Nat.reduceSub, Nat.zero_add, tcallK, ro, List.getD_cons_zero, List.getD_cons_succ, true_and, wipeD, Bool.not_true, Bool.not_false, Bool.false_eq_true, if_true, if_false, q_add_i, q_add_s, q_add_l, q_add_t, q_sub, q_mul_i, q_mul_l, q_mul_s, q_div, q_mod, q_pow, q_lt, q_le, q_gt, q_ge, q_eq_i, q_eq_s, q_eq_b, q_ne_i, q_ne_s, q_ne_b, q_eq_l, q_eq_t, q_ne_l, q_ne_t, q_is, q_isnt, isN_int, isN_str, isN_lst, isN_tup, isN_ref, isN_bl, isN_non, q_neg, q_ix_l, q_ix_t, atD_s, at_1_0, at_2_0, at_2_1, at_3_0, at_3_1, at_3_2, at_4_0, at_4_1, at_4_2, at_4_3, q_len_l, q_len_t, q_len_s, q_abs, q_int_i, q_int_b, q_str, q_list_l, q_list_t, q_tuple_l, q_tuple_t, q_repr_l, q_repr_t]
  refine ⟨f, n, rfl, rfl, ?_⟩
  have gp : 1 ≤ Nat.gcd f n := Nat.gcd_pos_of_pos_left n hf
  have f60 : f < 2 ^ 60 := Nat.lt_of_le_of_lt (Nat.le_trans hk (Nat.pow_le_pow_right (by decide) hk2)) (by decide)
  have gl : Nat.gcd f n ≤ n := Nat.le_of_dvd (by omega) (Nat.gcd_dvd_right f n)
  simp only [tv, tk, to2, to1, tbl, tch, tand, tor, tnot, vand, vor, vnot, tif, a0, ac, as_, dtup, dlst, tcb, tcall, sret, sretN, sif, snx, sdrop, sasg, gn, spar, snever, bend, startD, List.map_cons, List.map_nil, List.length_cons, List.length_nil, List.replicate, List.cons_append, List.nil_append, List.append_nil, List.getElem?_cons_zero, List.getElem?_cons_succ, List.set_cons_zero, List.set_cons_succ, Nat.reduceAdd, Nat.reduceSub, Nat.zero_add, tcallK, ro, List.getD_cons_zero, List.getD_cons_succ, true_and, wipeD, Bool.not_true, Bool.not_false, Bool.false_eq_true, if_true, if_false, q_add_i, q_add_s, q_add_l, q_add_t, q_sub, q_mul_i, q_mul_l, q_mul_s, q_div, q_mod, q_pow, q_lt, q_le, q_gt, q_ge, q_eq_i, q_eq_s, q_eq_b, q_ne_i, q_ne_s, q_ne_b, q_eq_l, q_eq_t, q_ne_l, q_ne_t, q_is, q_isnt, isN_int, isN_str, isN_lst, isN_tup, isN_ref, isN_bl, isN_non, q_neg, q_ix_l, q_ix_t, atD_s, at_1_0, at_2_0, at_2_1, at_3_0, at_3_1, at_3_2, at_4_0, at_4_1, at_4_2, at_4_3, q_len_l, q_len_t, q_len_s, q_abs, q_int_i, q_int_b, q_str, q_list_l, q_list_t, q_tuple_l, q_tuple_t, q_repr_l, q_repr_t]
  have ed : (f : Int) / ((Nat.gcd f n : Nat) : Int) = ((f / Nat.gcd f n : Nat) : Int) := by rw [Int.natCast_ediv]
  have el : f / Nat.gcd f n * n = Nat.lcm f n := by
    rw [Nat.lcm, Nat.div_mul_right_comm (Nat.gcd_dvd_left f n)]
  rw [ed]
  have fl : f / Nat.gcd f n < 2 ^ 60 := Nat.lt_of_le_of_lt (Nat.div_le_self _ _) f60
  obtain ⟨m1, _⟩ := cm (i := ((f / Nat.gcd f n : Nat) : Int)) (j := (n : Int)) 60 6 (by rw [Int.natAbs_natCast]; exact fl) (by rw [Int.natAbs_natCast]; omega) (by decide)
  refine ⟨cdiv (by omega) (by omega), m1, ?_⟩
  · have e2 : ((f / Nat.gcd f n : Nat) : Int) * (n : Int) = ((Nat.lcm f n : Nat) : Int) := by rw [← el, Int.natCast_mul]
    rw [e2]
    exact hnx
end K41

namespace K41
open PySem PySem.Spec L2 DL
open TL
/-! the ends of rows -/
def sameEnds (t t' : Str) (ps qs : List Int) : Bool := decide (t = t') && (decide (ps.head? = qs.head?) && decide (ps.getLast? = qs.getLast?))
theorem ends_of {ps : List Int} (h : 2 ≤ ps.length) : ∃ a m e, ps = a :: (m ++ [e]) := by
  cases ps with
  | nil => exact absurd h (by decide)
  | cons a r =>
    refine ⟨a, r.dropLast, r.getLast (fun z => by subst z; simp at h), ?_⟩
    rw [List.dropLast_concat_getLast]
theorem at_last {xs : List D} {x : D} : atI (xs ++ [x]) (-1) = some x := by
  unfold atI ixN
  rw [if_neg (by decide), if_pos (by rw [List.length_append, List.length_singleton]; omega)]
  show (xs ++ [x])[((-1 : Int) + ((xs ++ [x]).length : Int)).toNat]? = some x
  have e : ((-1 : Int) + ((xs ++ [x]).length : Int)).toNat = xs.length := by rw [List.length_append, List.length_singleton]; omega
  rw [e, List.getElem?_append_right (Nat.le_refl _), Nat.sub_self]
  rfl
theorem at_head {a : Int} {r : List Int} : atI ((a :: r).map D.int) 0 = some (D.int a) := atI_nat (j := 0) rfl
theorem at_end {a e : Int} {m : List Int} : atI ((a :: (m ++ [e])).map D.int) (-1) = some (D.int e) := by
  have : (a :: (m ++ [e])).map D.int = (D.int a :: m.map D.int) ++ [D.int e] := by simp
  rw [this]; exact at_last
theorem cut_mid {a e : Int} {m : List Int} : cutD ((a :: (m ++ [e])).map D.int) (some 1) (some (-1)) = m.map D.int := by
  unfold cutD
  have hl : ((a :: (m ++ [e])).map D.int).length = m.length + 2 := by rw [List.length_map, List.length_cons, List.length_append, List.length_singleton]
  have e1 : HT.sIx (m.length + 2) 0 (some 1) = 1 := by
    have := HT.sIx_nat (m.length + 2) 0 1
    rw [show ((1 : Nat) : Int) = 1 from rfl] at this
    rw [this]; omega
  have e2 : HT.sIx (m.length + 2) (m.length + 2) (some (-1)) = m.length + 1 := by
    show (if (-1 : Int) < 0 then ((-1 : Int) + ((m.length + 2 : Nat) : Int)).toNat else min (-1 : Int).toNat (m.length + 2)) = _
    rw [if_pos (by decide)]; omega
  rw [hl, e1, e2]
  have e3 : (a :: (m ++ [e])).map D.int = D.int a :: (m.map D.int ++ [D.int e]) := by simp
  rw [e3, List.drop_succ_cons, List.drop_zero, show m.length + 1 - 1 = (m.map D.int).length from by rw [List.length_map]; omega, List.take_left]
def sp_need_branches : SpD := spF2 fun a b M Q E => AnyRow isk M a ∧ AnyRow isk M b ∧ ((rowOkB a && rowOkB b) = false → E ⟨"InvalidRow", []⟩ M) ∧
  (∀ t ps t' qs, a = rowD t ps → b = rowD t' qs → GoodRow t ps → GoodRow t' qs → (sameEnds t t' ps qs = true → Q .non M) ∧ (sameEnds t t' ps qs = false → E ⟨"OtherEnds", []⟩ M))
/-! def need_branches(one, other): slots 0 one, 1 other -/
def t_need_branches : TDS :=
    (sseq (sdrop (tcall sp_need_row (ac (tv 0) a0)))
    (sseq (sdrop (tcall sp_need_row (ac (tv 1) a0)))
    (sif (tor (tbl (to2 rdNe (to2 rdIx (tv 0) (tk (.int 0))) (to2 rdIx (tv 1) (tk (.int 0))))) (tor (tbl (to2 rdNe (to2 rdIx (to2 rdIx (tv 0) (tk (.int 1))) (tk (.int 0))) (to2 rdIx (to2 rdIx (tv 1) (tk (.int 1))) (tk (.int 0))))) (tbl (to2 rdNe (to2 rdIx (to2 rdIx (tv 0) (tk (.int 1))) (to1 rdNeg (tk (.int 1)))) (to2 rdIx (to2 rdIx (tv 1) (tk (.int 1))) (to1 rdNeg (tk (.int 1))))))))
      (sraise "OtherEnds")
      snx)))
theorem rd_need_branches : ∀ ds M Q E, sp_need_branches ds M Q E → t_need_branches (bend Q E) (startD ["one", "other"] ds) M := rdF2 fun x y M Q E ⟨hx, hy, q1, q2⟩ => by
  unfold t_need_branches
  refine seq_step fun K1 hK1 => ?_
  simp only [tv, tk, to2, to1, tbl, tch, tand, tor, tnot, vand, vor, vnot, tif, a0, ac, as_, dtup, dlst, tcb, tcall, sret, sretN, sif, snx, sdrop, sasg, gn, spar, snever, bend, startD, List.map_cons, List.map_nil, List.length_cons, List.length_nil, List.replicate, List.cons_append, List.nil_append, List.append_nil, List.getElem?_cons_zero, List.getElem?_cons_succ, List.set_cons_zero, List.set_cons_succ, Nat.reduceAdd, Nat.reduceSub, Nat.zero_add, tcallK, ro, List.getD_cons_zero, List.getD_cons_succ, true_and, wipeD, Bool.not_true, Bool.not_false, Bool.false_eq_true, if_true, if_false, q_add_i, q_add_s, q_add_l, q_add_t, q_sub, q_mul_i, q_mul_l, q_mul_s, q_div, q_mod, q_pow, q_lt, q_le, q_gt, q_ge, q_eq_i, q_eq_s, q_eq_b, q_ne_i, q_ne_s, q_ne_b, q_eq_l, q_eq_t, q_ne_l, q_ne_t, q_is, q_isnt, isN_int, isN_str, isN_lst, isN_tup, isN_ref, isN_bl, isN_non, q_neg, q_ix_l, q_ix_t, atD_s, at_1_0, at_2_0, at_2_1, at_3_0, at_3_1, at_3_2, at_4_0, at_4_1, at_4_2, at_4_3, q_len_l, q_len_t, q_len_s, q_abs, q_int_i, q_int_b, q_str, q_list_l, q_list_t, q_tuple_l, q_tuple_t, q_repr_l, q_repr_t]
  refine ⟨hx, fun ox => ?_, fun ox => q1 (by rw [ox]; rfl)⟩
  subst hK1
  refine seq_step fun K2 hK2 => ?_
  simp only [tv, tk, to2, to1, tbl, tch, tand, tor, tnot, vand, vor, vnot, tif, a0, ac, as_, dtup, dlst, tcb, tcall, sret, sretN, sif, snx, sdrop, sasg, gn, spar, snever, bend, startD, List.map_cons, List.map_nil, List.length_cons, List.length_nil, List.replicate, List.cons_append, List.nil_append, List.append_nil, List.getElem?_cons_zero, List.getElem?_cons_succ, List.set_cons_zero, List.set_cons_succ, Nat.reduceAdd, Nat.reduceSub, Nat.zero_add, tcallK, ro, List.getD_cons_zero, List.getD_cons_succ, true_and, wipeD, Bool.not_true, Bool.not_false, Bool.false_eq_true, if_true, if_false, q_add_i, q_add_s, q_add_l, q_add_t, q_sub, q_mul_i, q_mul_l, q_mul_s, q_div, q_mod, q_pow, q_lt, q_le, q_gt, q_ge, q_eq_i, q_eq_s, q_eq_b, q_ne_i, q_ne_s, q_ne_b, q_eq_l, q_eq_t, q_ne_l, q_ne_t, q_is, q_isnt, isN_int, isN_str, isN_lst, isN_tup, isN_ref, isN_bl, isN_non, q_neg, q_ix_l, q_ix_t, atD_s, at_1_0, at_2_0, at_2_1, at_3_0, at_3_1, at_3_2, at_4_0, at_4_1, at_4_2, at_4_3, q_len_l, q_len_t, q_len_s, q_abs, q_int_i, q_int_b, q_str, q_list_l, q_list_t, q_tuple_l, q_tuple_t, q_repr_l, q_repr_t]
  refine ⟨hy, fun oy => ?_, fun oy => q1 (by rw [ox, oy]; rfl)⟩
  subst hK2
  obtain ⟨t, ps, ex, gx⟩ := rowOk_good ox
  obtain ⟨t', qs, ey, gy⟩ := rowOk_good oy
  obtain ⟨k1, k2⟩ := q2 t ps t' qs ex ey gx gy
  subst ex ey
  obtain ⟨a, m, e, eps⟩ := ends_of gx.l.1
  obtain ⟨a', m', e', eqs⟩ := ends_of gy.l.1
  have hS : sameEnds t t' ps qs = (decide (t = t') && (decide (a = a') && decide (e = e'))) := by
    unfold sameEnds
    rw [eps, eqs]
    have l1 : (a :: (m ++ [e])).getLast? = some e := by rw [← List.cons_append, List.getLast?_concat]
    have l2 : (a' :: (m' ++ [e'])).getLast? = some e' := by rw [← List.cons_append, List.getLast?_concat]
    rw [l1, l2]
    simp only [List.head?_cons, Option.some.injEq]
  rw [hS] at k1 k2
  have h0 : ∀ x y : D, atI [x, y] 0 = some x := fun _ _ => rfl
  have h1 : ∀ x y : D, atI [x, y] 1 = some y := fun _ _ => rfl
  have p1 : atI (ps.map D.int) 0 = some (D.int a) := by rw [eps]; exact at_head
  have p2 : atI (ps.map D.int) (-1) = some (D.int e) := by rw [eps]; exact at_end
  have p3 : atI (qs.map D.int) 0 = some (D.int a') := by rw [eqs]; exact at_head
  have p4 : atI (qs.map D.int) (-1) = some (D.int e') := by rw [eqs]; exact at_end
  have b1 : ∀ i j : Int, eqS (.int i) (.int j) = some (decide (i = j)) := fun _ _ => rfl
  have b2 : ∀ i j : Str, eqS (.str i) (.str j) = some (decide (i = j)) := fun _ _ => rfl
  simp only [tv, tk, to2, to1, tbl, tch, tand, tor, tnot, vand, vor, vnot, tif, a0, ac, as_, dtup, dlst, tcb, tcall, sret, sretN, sif, snx, sdrop, sasg, gn, spar, snever, bend, startD, List.map_cons, List.map_nil, List.length_cons, List.length_nil, List.replicate, List.cons_append, List.nil_append, List.append_nil, List.getElem?_cons_zero, List.getElem?_cons_succ, List.set_cons_zero, List.set_cons_succ, Nat.reduceAdd, Nat.reduceSub, Nat.zero_add, tcallK, ro, List.getD_cons_zero, List.getD_cons_succ, true_and, wipeD, Bool.not_true, Bool.not_false, Bool.false_eq_true, if_true, if_false, q_add_i, q_add_s, q_add_l, q_add_t, q_sub, q_mul_i, q_mul_l, q_mul_s, q_div, q_mod, q_pow, q_lt, q_le, q_gt, q_ge, q_eq_i, q_eq_s, q_eq_b, q_ne_i, q_ne_s, q_ne_b, q_eq_l, q_eq_t, q_ne_l, q_ne_t, q_is, q_isnt, isN_int, isN_str, isN_lst, isN_tup, isN_ref, isN_bl, isN_non, q_neg, q_ix_l, q_ix_t, atD_s, at_1_0, at_2_0, at_2_1, at_3_0, at_3_1, at_3_2, at_4_0, at_4_1, at_4_2, at_4_3, q_len_l, q_len_t, q_len_s, q_abs, q_int_i, q_int_b, q_str, q_list_l, q_list_t, q_tuple_l, q_tuple_t, q_repr_l, q_repr_t, rowD, rdIx, h0, h1, atD, p1, p2, p3, p4, rdNe, b1, b2]
  by_cases c1 : t = t'
  · rw [decide_eq_true c1] at k1 k2 ⊢
    simp only [Bool.not_true, Bool.false_eq_true, if_false]
    by_cases c2 : a = a'
    · rw [decide_eq_true c2] at k1 k2 ⊢
      simp only [Bool.not_true, Bool.false_eq_true, if_false]
      by_cases c3 : e = e'
      · rw [decide_eq_true c3] at k1 k2 ⊢
        exact k1 rfl
      · rw [decide_eq_false c3] at k1 k2 ⊢
        exact k2 rfl
    · rw [decide_eq_false c2] at k1 k2 ⊢
      exact k2 rfl
  · rw [decide_eq_false c1] at k1 k2 ⊢
    exact k2 rfl
def sp_rounded_up : SpD := spF2 fun x y M Q _ => ∃ a b : Int, x = .int a ∧ y = .int b ∧ 0 < b ∧ b ≤ 60 ∧ Q (.int (-(-a / b))) M
/-! def rounded_up(number, by): slots 0 number, 1 by -/
def t_rounded_up : TDS :=
    (sret (to1 rdNeg (to2 rdDiv (to1 rdNeg (tv 0)) (tv 1))))
theorem rd_rounded_up : ∀ ds M Q E, sp_rounded_up ds M Q E → t_rounded_up (bend Q E) (startD ["number", "by"] ds) M := rdF2 fun x y M Q E ⟨a, b, e1, e2, h0, h1, q⟩ => by
  subst e1 e2
  unfold t_rounded_up
  simp only [tv, tk, to2, to1, tbl, tch, tand, tor, tnot, vand, vor, vnot, tif, a0, ac, as_, dtup, dlst, tcb, tcall, sret, sretN, sif, snx, sdrop, sasg, gn, spar, snever, bend, startD, List.map_cons, List.map_nil, List.length_cons, List.length_nil, List.replicate, List.cons_append, List.nil_append, List.append_nil, List.getElem?_cons_zero, List.getElem?_cons_succ, List.set_cons_zero, List.set_cons_succ, Nat.reduceAdd, Nat.reduceSub, Nat.zero_add, tcallK, ro, List.getD_cons_zero, List.getD_cons_succ, true_and, wipeD, Bool.not_true, Bool.not_false, Bool.false_eq_true, if_true, if_false, q_add_i, q_add_s, q_add_l, q_add_t, q_sub, q_mul_i, q_mul_l, q_mul_s, q_div, q_mod, q_pow, q_lt, q_le, q_gt, q_ge, q_eq_i, q_eq_s, q_eq_b, q_ne_i, q_ne_s, q_ne_b, q_eq_l, q_eq_t, q_ne_l, q_ne_t, q_is, q_isnt, isN_int, isN_str, isN_lst, isN_tup, isN_ref, isN_bl, isN_non, q_neg, q_ix_l, q_ix_t, atD_s, at_1_0, at_2_0, at_2_1, at_3_0, at_3_1, at_3_2, at_4_0, at_4_1, at_4_2, at_4_3, q_len_l, q_len_t, q_len_s, q_abs, q_int_i, q_int_b, q_str, q_list_l, q_list_t, q_tuple_l, q_tuple_t, q_repr_l, q_repr_t]
  exact ⟨cdiv h0 (by omega), q⟩
/-! what arrives -/
theorem div_abs {a w : Int} (h : 1 ≤ w) : (a / w).natAbs ≤ a.natAbs := by
  by_cases ha : 0 ≤ a
  · have h1 := Int.ediv_le_self w ha
    have h2 := Int.ediv_nonneg ha (show 0 ≤ w by omega)
    omega
  · have h1 : a ≤ a / w := (Int.le_ediv_iff_mul_le (by omega)).mpr (by
      have := Int.mul_le_mul_of_nonpos_left (a := a) (by omega) h
      omega)
    have h2 : a / w < 0 := Int.ediv_neg_of_neg_of_pos (by omega) (by omega)
    omega
def sp_arrival_by : SpD := spF3 fun p s m M Q _ => ∃ (ps ss : List Int) (k : Int), p = .tup (ps.map D.int) ∧ s = .lst (ss.map D.int) ∧ m = .int k ∧ (∀ i ∈ ps, 1 ≤ i ∧ i ≤ 60) ∧ (∀ i ∈ ss, i.natAbs < 2 ^ 10) ∧ 1 ≤ ps.length ∧ ps.length ≤ 5 ∧ ps.length = ss.length + 1 ∧ k.natAbs < 2 ^ 10 ∧ ∀ v : Int, Q (.int v) M
/-! def arrival_by(periods, steps_apart, moment): slots 0 periods, 1 steps_apart, 2 moment, 3 at -/
def t_arrival_by : TDS :=
    (sseq (sfor (irng3 (ac (to2 rdSub (tcb rdLen (ac (tv 0) a0)) (tk (.int 1))) (ac (tk (.int 0)) (ac (to1 rdNeg (tk (.int 1))) a0)))) (gn 3)
      (sasg (to2 rdDiv (to2 rdAdd (to2 rdIx (tv 1) (to2 rdSub (tv 3) (tk (.int 1)))) (to2 rdMul (tv 2) (to2 rdIx (tv 0) (tv 3)))) (to2 rdIx (tv 0) (to2 rdSub (tv 3) (tk (.int 1))))) (gn 2)))
    (sret (tv 2)))
theorem rd_arrival_by : ∀ ds M Q E, sp_arrival_by ds M Q E → t_arrival_by (bend Q E) (startD ["periods", "steps_apart", "moment", "at"] ds) M := rdF3 fun p s m M Q E ⟨ps, ss, k, e1, e2, e3, hp, hs, l1, l2, l3, hk, q⟩ => by
  subst e1 e2 e3
  unfold t_arrival_by
  refine seq_step fun K1 hK1 => ?_
  simp only [sfor, irng3, tv, tk, to2, to1, tbl, tch, tand, tor, tnot, vand, vor, vnot, tif, a0, ac, as_, dtup, dlst, tcb, tcall, sret, sretN, sif, snx, sdrop, sasg, gn, spar, snever, bend, startD, List.map_cons, List.map_nil, List.length_cons, List.length_nil, List.replicate, List.cons_append, List.nil_append, List.append_nil, List.getElem?_cons_zero, List.getElem?_cons_succ, List.set_cons_zero, List.set_cons_succ, Nat.reduceAdd, Nat.reduceSub, Nat.zero_add, tcallK, ro, List.getD_cons_zero, List.getD_cons_succ, true_and, wipeD, Bool.not_true, Bool.not_false, Bool.false_eq_true, if_true, if_false, q_add_i, q_add_s, q_add_l, q_add_t, q_sub, q_mul_i, q_mul_l, q_mul_s, q_div, q_mod, q_pow, q_lt, q_le, q_gt, q_ge, q_eq_i, q_eq_s, q_eq_b, q_ne_i, q_ne_s, q_ne_b, q_eq_l, q_eq_t, q_ne_l, q_ne_t, q_is, q_isnt, isN_int, isN_str, isN_lst, isN_tup, isN_ref, isN_bl, isN_non, q_neg, q_ix_l, q_ix_t, atD_s, at_1_0, at_2_0, at_2_1, at_3_0, at_3_1, at_3_2, at_4_0, at_4_1, at_4_2, at_4_3, q_len_l, q_len_t, q_len_s, q_abs, q_int_i, q_int_b, q_str, q_list_l, q_list_t, q_tuple_l, q_tuple_t, q_repr_l, q_repr_t, List.length_map]
  refine ⟨⟨by omega, by omega, by decide, by decide⟩, ?_⟩
  refine for_cnt (I := fun j σ N => N = M ∧ ∃ (x : Int) (o : Option D), σ = [some (.tup (ps.map D.int)), some (.lst (ss.map D.int)), some (.int x), o] ∧ x.natAbs < 2 ^ (10 + 8 * j)) 5 _ 0 _ M
    (fun d hd j σ N Dn hj ⟨eN, x, o, hσ, hx⟩ hnx => ?body) (by rw [rgU_len]; omega) ⟨rfl, k, none, rfl, hk⟩ (fun σ' M' ⟨eN, x, o, hσ, hx⟩ => ?fin)
  case fin =>
    subst hσ eN hK1
    simp only [tv, tk, to2, to1, tbl, tch, tand, tor, tnot, vand, vor, vnot, tif, a0, ac, as_, dtup, dlst, tcb, tcall, sret, sretN, sif, snx, sdrop, sasg, gn, spar, snever, bend, startD, List.map_cons, List.map_nil, List.length_cons, List.length_nil, List.replicate, List.cons_append, List.nil_append, List.append_nil, List.getElem?_cons_zero, List.getElem?_cons_succ, List.set_cons_zero, List.set_cons_succ, Nat.reduceAdd, Nat.reduceSub, Nat.zero_add, tcallK, ro, List.getD_cons_zero, List.getD_cons_succ, true_and, wipeD, Bool.not_true, Bool.not_false, Bool.false_eq_true, if_true, if_false, q_add_i, q_add_s, q_add_l, q_add_t, q_sub, q_mul_i, q_mul_l, q_mul_s, q_div, q_mod, q_pow, q_lt, q_le, q_gt, q_ge, q_eq_i, q_eq_s, q_eq_b, q_ne_i, q_ne_s, q_ne_b, q_eq_l, q_eq_t, q_ne_l, q_ne_t, q_is, q_isnt, isN_int, isN_str, isN_lst, isN_tup, isN_ref, isN_bl, isN_non, q_neg, q_ix_l, q_ix_t, atD_s, at_1_0, at_2_0, at_2_1, at_3_0, at_3_1, at_3_2, at_4_0, at_4_1, at_4_2, at_4_3, q_len_l, q_len_t, q_len_s, q_abs, q_int_i, q_int_b, q_str, q_list_l, q_list_t, q_tuple_l, q_tuple_t, q_repr_l, q_repr_t]
    exact q x
  case body =>
    subst hσ eN
    obtain ⟨i, ei, i0, i1⟩ := mem_rgU hd
    subst ei
    obtain ⟨n, en⟩ : ∃ n : Nat, i = (n : Int) + 1 := ⟨(i - 1).toNat, by omega⟩
    subst en
    have hn : n < ss.length := by omega
    have a1 : atI (ss.map D.int) ((n : Int) + 1 - 1) = some (D.int ss[n]) := by
      rw [show (n : Int) + 1 - 1 = ((n : Nat) : Int) from by omega]
      exact atI_nat (by rw [List.getElem?_map, List.getElem?_eq_getElem hn]; rfl)
    have hn1 : n + 1 < ps.length := by omega
    have a2 : atI (ps.map D.int) ((n : Int) + 1) = some (D.int ps[n + 1]) := by
      rw [show (n : Int) + 1 = ((n + 1 : Nat) : Int) from by omega]
      exact atI_nat (by rw [List.getElem?_map, List.getElem?_eq_getElem hn1]; rfl)
    have hn2 : n < ps.length := by omega
    have a3 : atI (ps.map D.int) ((n : Int) + 1 - 1) = some (D.int ps[n]) := by
      rw [show (n : Int) + 1 - 1 = ((n : Nat) : Int) from by omega]
      exact atI_nat (by rw [List.getElem?_map, List.getElem?_eq_getElem hn2]; rfl)
    have b1 := hs _ (List.getElem_mem hn)
    have b2 := hp _ (List.getElem_mem hn1)
    have b3 := hp _ (List.getElem_mem hn2)
    simp only [tv, tk, to2, to1, tbl, tch, tand, tor, tnot, vand, vor, vnot, tif, a0, ac, as_, dtup, dlst, tcb, tcall, sret, sretN, sif, snx, sdrop, sasg, gn, spar, snever, bend, startD, List.map_cons, List.map_nil, List.length_cons, List.length_nil, List.replicate, List.cons_append, List.nil_append, List.append_nil, List.getElem?_cons_zero, List.getElem?_cons_succ, List.set_cons_zero, List.set_cons_succ, Nat.reduceAdd, Nat.reduceSub, Nat.zero_add, tcallK, ro, List.getD_cons_zero, List.getD_cons_succ, true_and, wipeD, Bool.not_true, Bool.not_false, Bool.false_eq_true, if_true, if_false, q_add_i, q_add_s, q_add_l, q_add_t, q_sub, q_mul_i, q_mul_l, q_mul_s, q_div, q_mod, q_pow, q_lt, q_le, q_gt, q_ge, q_eq_i, q_eq_s, q_eq_b, q_ne_i, q_ne_s, q_ne_b, q_eq_l, q_eq_t, q_ne_l, q_ne_t, q_is, q_isnt, isN_int, isN_str, isN_lst, isN_tup, isN_ref, isN_bl, isN_non, q_neg, q_ix_l, q_ix_t, atD_s, at_1_0, at_2_0, at_2_1, at_3_0, at_3_1, at_3_2, at_4_0, at_4_1, at_4_2, at_4_3, q_len_l, q_len_t, q_len_s, q_abs, q_int_i, q_int_b, q_str, q_list_l, q_list_t, q_tuple_l, q_tuple_t, q_repr_l, q_repr_t, rdIx, a1, a2, a3, atD]
    generalize ss[n] = s at b1
    generalize ps[n + 1] = u at b2
    generalize ps[n] = w at b3
    obtain ⟨m1, m2⟩ := cm (i := x) (j := u) (10 + 8 * j) 6 hx (by omega) (by omega)
    refine ⟨m1, cdiv (by omega) (by omega), ?_⟩
    refine hnx _ _ ⟨rfl, _, _, rfl, ?_⟩
    have h1 : ((s + x * u) / w).natAbs ≤ (s + x * u).natAbs := div_abs b3.1
    have h2 : (s + x * u).natAbs ≤ s.natAbs + (x * u).natAbs := Int.natAbs_add_le _ _
    have h3 : 2 ^ 10 + 2 ^ (10 + 8 * j + 6) ≤ 2 ^ (10 + 8 * (j + 1)) := by
      have e1 : 10 + 8 * (j + 1) = 10 + 8 * j + 6 + 1 + 1 := by omega
      have e2 : 2 ^ 10 ≤ 2 ^ (10 + 8 * j + 6) := Nat.pow_le_pow_right (by decide) (by omega)
      rw [e1, Nat.pow_succ, Nat.pow_succ]
      omega
    omega
end K41

namespace K41
open PySem PySem.Spec L2 DL
open TL
/-! the ways -/
theorem mem_rgD0 {b : Int} {d : D} (h : d ∈ rgD 0 b) : ∃ i, d = .int i ∧ 0 ≤ i ∧ i < b := by
  unfold rgD at h
  obtain ⟨k, hk, e⟩ := List.mem_map.mp h
  have := List.mem_range.mp hk
  exact ⟨_, e.symm, by omega, by omega⟩
def prodN (m : List Int) : Nat := m.foldr (fun i a => i.toNat * a) 1
theorem prodN_pos : ∀ m : List Int, (∀ i ∈ m, 1 ≤ i) → 1 ≤ prodN m
  | [], _ => Nat.le_refl 1
  | i :: m, h => by
    have h1 := prodN_pos m fun j hj => h j (List.mem_cons_of_mem _ hj)
    have h2 := h i List.mem_cons_self
    show 1 ≤ i.toNat * prodN m
    exact Nat.mul_pos (by omega) h1
def WayN (c : Nat) (y : D) : Prop := ∃ w : List Int, y = .lst (w.map D.int) ∧ w.length = c ∧ ∀ x ∈ w, 0 ≤ x ∧ x < 60
theorem sum_60 : ∀ w : List Int, (∀ x ∈ w, 0 ≤ x ∧ x < 60) → 0 ≤ w.sum ∧ w.sum ≤ 60 * (w.length : Int)
  | [], _ => ⟨by decide, by decide⟩
  | x :: w, h => by
    have h1 := sum_60 w fun y hy => h y (List.mem_cons_of_mem _ hy)
    have h2 := h x List.mem_cons_self
    rw [List.sum_cons, List.length_cons]
    omega
/-- a way and where it is late -/
def WayF (c : Nat) (y : D) : Prop := ∃ w : List Int, y = .lst (w.map D.int) ∧ w.length = c ∧ ∀ x ∈ w, x.natAbs < 2 ^ 10
def sp_ways_of : SpD := spF2 fun p l M Q _ => ∃ (a e : Int) (m : List Int) (late : Int), p = .tup ((a :: (m ++ [e])).map D.int) ∧ l = .int late ∧ (∀ i ∈ m, 1 ≤ i ∧ i ≤ 60) ∧ m.length ≤ 3 ∧ 0 ≤ late ∧ late < 60 ∧ prodN m ≤ 200 ∧
  ∀ ws : List D, ws.length ≤ 1000 → (∀ y ∈ ws, WayF (m.length + 1) y) → Q (.lst ws) M
/-! def ways_of(periods, late): slots 0 periods, 1 late, 2 middles, 3 found, 4 period, 5 way, 6 apart, 7 less -/
def t_ways_of : TDS :=
    (sseq (sasg (tsl (tv 0) (so_some (tk (.int 1))) (so_some (to1 rdNeg (tk (.int 1))))) (gn 2))
    (sseq (sasg (dlst (ac (dlst a0) a0)) (gn 3))
    (sseq (sfor (itup (tv 2)) (gn 4)
      (sasg (tlc2 (iseq (tv 3)) (gn 5) tyes (irng1 (ac (tv 4) a0)) (gn 6) tyes (dlst (as_ (tv 5) (ac (tv 6) a0))) [5, 6] [6]) (gn 3)))
    (sret (tlc2 (iseq (tv 3)) (gn 5) tyes (irng1 (ac (to2 rdAdd (tcb rdLen (ac (tv 2) a0)) (tk (.int 1))) a0)) (gn 7) tyes (dlst (as_ (tv 5) (ac (to2 rdSub (to2 rdSub (tv 1) (tv 7)) (tcb rdSumA (ac (tv 5) a0))) a0))) [5, 7] [7])))))
theorem ways_loop {tb : TDS} {D0 : DEnds} {x0 x1 x2 : Option D} {M : MM}
    (hb : ∀ (Dn : DEnds) (F : List D) (c : Nat) (i : Int) (o5 o6 o7 : Option D), 1 ≤ i → i ≤ 60 → F.length * i.toNat ≤ 200 → (∀ y ∈ F, WayN c y) → c ≤ 3 → (∀ F', F'.length = F.length * i.toNat → (∀ y ∈ F', WayN (c + 1) y) → ∀ o5 o6 o7, Dn.nx [x0, x1, x2, some (.lst F'), some (.int i), o5, o6, o7] M) → tb Dn [x0, x1, x2, some (.lst F), some (.int i), o5, o6, o7] M) :
    ∀ (m : List Int) (F : List D) (c : Nat) (o4 o5 o6 o7 : Option D), (∀ i ∈ m, 1 ≤ i ∧ i ≤ 60) → F.length * prodN m ≤ 200 → (∀ y ∈ F, WayN c y) → c + m.length ≤ 3 →
      (∀ F' o4 o5 o6 o7, F'.length = F.length * prodN m → (∀ y ∈ F', WayN (c + m.length) y) → D0.nx [x0, x1, x2, some (.lst F'), o4, o5, o6, o7] M) →
      forD (gn 4) tb (m.map D.int) D0 [x0, x1, x2, some (.lst F), o4, o5, o6, o7] M
  | [], F, c, o4, o5, o6, o7, _, _, hF, _, q => q F o4 o5 o6 o7 (by show _ = F.length * 1; omega) hF
  | i :: m, F, c, o4, o5, o6, o7, hm, hP, hF, hc, q => by
    rw [List.length_cons] at hc q
    obtain ⟨i1, i2⟩ := hm i List.mem_cons_self
    have hm2 := fun j hj => hm j (List.mem_cons_of_mem _ hj)
    have pp := prodN_pos m fun j hj => (hm2 j hj).1
    have eP : F.length * prodN (i :: m) = F.length * i.toNat * prodN m := (Nat.mul_assoc _ _ _).symm
    rw [eP] at hP q
    have h200 : F.length * i.toNat ≤ 200 := Nat.le_trans (Nat.le_mul_of_pos_right _ pp) hP
    refine hb _ F c i o5 o6 o7 i1 i2 h200 hF (by omega) fun F' e1 e2 p5 p6 p7 => ?_
    refine ways_loop hb m F' (c + 1) (some (.int i)) p5 p6 p7 hm2 (by rw [e1]; exact hP) e2 (by omega) fun F'' q4 q5 q6 q7 f1 f2 => q F'' q4 q5 q6 q7 (by rw [f1, e1]) ?_
    rw [show c + (m.length + 1) = c + 1 + m.length from by omega]
    exact f2
theorem rd_ways_of : ∀ ds M Q E, sp_ways_of ds M Q E → t_ways_of (bend Q E) (startD ["periods", "late", "middles", "found", "period", "way", "apart", "less"] ds) M := rdF2 fun p l M Q E ⟨a, e, m, late, e1, e2, hm, lm, hl0, hl1, hP, q⟩ => by
  subst e1 e2
  unfold t_ways_of
  have z : sizeLine = 16777216 := rfl
  have hc : cutD ((a :: (m ++ [e])).map D.int) (some 1) (some (-1)) = m.map D.int := cut_mid
  obtain ⟨all, hall⟩ : ∃ all, all = (a :: (m ++ [e])).map D.int := ⟨_, rfl⟩
  rw [← hall] at hc ⊢
  refine seq_step fun K1 hK1 => ?_
  simp only [tv, tk, to2, to1, tbl, tch, tand, tor, tnot, vand, vor, vnot, tif, a0, ac, as_, dtup, dlst, tcb, tcall, sret, sretN, sif, snx, sdrop, sasg, gn, spar, snever, bend, startD, List.map_cons, List.map_nil, List.length_cons, List.length_nil, List.replicate, List.cons_append, List.nil_append, List.append_nil, List.getElem?_cons_zero, List.getElem?_cons_succ, List.set_cons_zero, List.set_cons_succ, Nat.reduceAdd, Nat.reduceSub, Nat.zero_add, tcallK, ro, List.getD_cons_zero, List.getD_cons_succ, true_and, wipeD, Bool.not_true, Bool.not_false, Bool.false_eq_true, if_true, if_false, q_add_i, q_add_s, q_add_l, q_add_t, q_sub, q_mul_i, q_mul_l, q_mul_s, q_div, q_mod, q_pow, q_lt, q_le, q_gt, q_ge, q_eq_i, q_eq_s, q_eq_b, q_ne_i, q_ne_s, q_ne_b, q_eq_l, q_eq_t, q_ne_l, q_ne_t, q_is, q_isnt, isN_int, isN_str, isN_lst, isN_tup, isN_ref, isN_bl, isN_non, q_neg, q_ix_l, q_ix_t, atD_s, at_1_0, at_2_0, at_2_1, at_3_0, at_3_1, at_3_2, at_4_0, at_4_1, at_4_2, at_4_3, q_len_l, q_len_t, q_len_s, q_abs, q_int_i, q_int_b, q_str, q_list_l, q_list_t, q_tuple_l, q_tuple_t, q_repr_l, q_repr_t, tsl, so_some, hc]
  subst hK1
  refine seq_step fun K2 hK2 => ?_
  simp only [tv, tk, to2, to1, tbl, tch, tand, tor, tnot, vand, vor, vnot, tif, a0, ac, as_, dtup, dlst, tcb, tcall, sret, sretN, sif, snx, sdrop, sasg, gn, spar, snever, bend, startD, List.map_cons, List.map_nil, List.length_cons, List.length_nil, List.replicate, List.cons_append, List.nil_append, List.append_nil, List.getElem?_cons_zero, List.getElem?_cons_succ, List.set_cons_zero, List.set_cons_succ, Nat.reduceAdd, Nat.reduceSub, Nat.zero_add, tcallK, ro, List.getD_cons_zero, List.getD_cons_succ, true_and, wipeD, Bool.not_true, Bool.not_false, Bool.false_eq_true, if_true, if_false, q_add_i, q_add_s, q_add_l, q_add_t, q_sub, q_mul_i, q_mul_l, q_mul_s, q_div, q_mod, q_pow, q_lt, q_le, q_gt, q_ge, q_eq_i, q_eq_s, q_eq_b, q_ne_i, q_ne_s, q_ne_b, q_eq_l, q_eq_t, q_ne_l, q_ne_t, q_is, q_isnt, isN_int, isN_str, isN_lst, isN_tup, isN_ref, isN_bl, isN_non, q_neg, q_ix_l, q_ix_t, atD_s, at_1_0, at_2_0, at_2_1, at_3_0, at_3_1, at_3_2, at_4_0, at_4_1, at_4_2, at_4_3, q_len_l, q_len_t, q_len_s, q_abs, q_int_i, q_int_b, q_str, q_list_l, q_list_t, q_tuple_l, q_tuple_t, q_repr_l, q_repr_t]
  refine ⟨by decide, by decide, ?_⟩
  subst hK2
  refine seq_step fun K3 hK3 => ?_
  simp only [tv, tk, to2, to1, tbl, tch, tand, tor, tnot, vand, vor, vnot, tif, a0, ac, as_, dtup, dlst, tcb, tcall, sret, sretN, sif, snx, sdrop, sasg, gn, spar, snever, bend, startD, List.map_cons, List.map_nil, List.length_cons, List.length_nil, List.replicate, List.cons_append, List.nil_append, List.append_nil, List.getElem?_cons_zero, List.getElem?_cons_succ, List.set_cons_zero, List.set_cons_succ, Nat.reduceAdd, Nat.reduceSub, Nat.zero_add, tcallK, ro, List.getD_cons_zero, List.getD_cons_succ, true_and, wipeD, Bool.not_true, Bool.not_false, Bool.false_eq_true, if_true, if_false, q_add_i, q_add_s, q_add_l, q_add_t, q_sub, q_mul_i, q_mul_l, q_mul_s, q_div, q_mod, q_pow, q_lt, q_le, q_gt, q_ge, q_eq_i, q_eq_s, q_eq_b, q_ne_i, q_ne_s, q_ne_b, q_eq_l, q_eq_t, q_ne_l, q_ne_t, q_is, q_isnt, isN_int, isN_str, isN_lst, isN_tup, isN_ref, isN_bl, isN_non, q_neg, q_ix_l, q_ix_t, atD_s, at_1_0, at_2_0, at_2_1, at_3_0, at_3_1, at_3_2, at_4_0, at_4_1, at_4_2, at_4_3, q_len_l, q_len_t, q_len_s, q_abs, q_int_i, q_int_b, q_str, q_list_l, q_list_t, q_tuple_l, q_tuple_t, q_repr_l, q_repr_t, sfor, itup]
  refine ways_loop (fun Dn F c i o5 o6 o7 i1 i2 h200 hF hc3 hnx => ?_) m [.lst []] 0 none none none none hm (by show 1 * prodN m ≤ 200; omega) (fun y hy => ⟨[], List.mem_singleton.mp hy, rfl, fun x hx => by cases hx⟩) (by omega) (fun F' o4 o5 o6 o7 f1 f2 => ?_)
  · simp only [tv, tk, to2, to1, tbl, tch, tand, tor, tnot, vand, vor, vnot, tif, a0, ac, as_, dtup, dlst, tcb, tcall, sret, sretN, sif, snx, sdrop, sasg, gn, spar, snever, bend, startD, List.map_cons, List.map_nil, List.length_cons, List.length_nil, List.replicate, List.cons_append, List.nil_append, List.append_nil, List.getElem?_cons_zero, List.getElem?_cons_succ, List.set_cons_zero, List.set_cons_succ, Nat.reduceAdd, Nat.reduceSub, Nat.zero_add, tcallK, ro, List.getD_cons_zero, List.getD_cons_succ, true_and, wipeD, Bool.not_true, Bool.not_false, Bool.false_eq_true, if_true, if_false, q_add_i, q_add_s, q_add_l, q_add_t, q_sub, q_mul_i, q_mul_l, q_mul_s, q_div, q_mod, q_pow, q_lt, q_le, q_gt, q_ge, q_eq_i, q_eq_s, q_eq_b, q_ne_i, q_ne_s, q_ne_b, q_eq_l, q_eq_t, q_ne_l, q_ne_t, q_is, q_isnt, isN_int, isN_str, isN_lst, isN_tup, isN_ref, isN_bl, isN_non, q_neg, q_ix_l, q_ix_t, atD_s, at_1_0, at_2_0, at_2_1, at_3_0, at_3_1, at_3_2, at_4_0, at_4_1, at_4_2, at_4_3, q_len_l, q_len_t, q_len_s, q_abs, q_int_i, q_int_b, q_str, q_list_l, q_list_t, q_tuple_l, q_tuple_t, q_repr_l, q_repr_t, tlc2, iseq]
    have rl : (rgD 0 i).length = i.toNat := by rw [rgD_len, Int.sub_zero]
    refine compD2_p (WayN (c + 1)) (rgD 0 i) F [] (fun d hd K hK => ?_) (fun d hd d1 hd1 k hk => ?_) (by rw [rl, List.length_nil, Nat.zero_add]; omega) (fun y hy => by cases hy) fun ys g1 g2 => ?_
    · simp only [tv, tk, to2, to1, tbl, tch, tand, tor, tnot, vand, vor, vnot, tif, a0, ac, as_, dtup, dlst, tcb, tcall, sret, sretN, sif, snx, sdrop, sasg, gn, spar, snever, bend, startD, List.map_cons, List.map_nil, List.length_cons, List.length_nil, List.replicate, List.cons_append, List.nil_append, List.append_nil, List.getElem?_cons_zero, List.getElem?_cons_succ, List.set_cons_zero, List.set_cons_succ, Nat.reduceAdd, Nat.reduceSub, Nat.zero_add, tcallK, ro, List.getD_cons_zero, List.getD_cons_succ, true_and, wipeD, Bool.not_true, Bool.not_false, Bool.false_eq_true, if_true, if_false, q_add_i, q_add_s, q_add_l, q_add_t, q_sub, q_mul_i, q_mul_l, q_mul_s, q_div, q_mod, q_pow, q_lt, q_le, q_gt, q_ge, q_eq_i, q_eq_s, q_eq_b, q_ne_i, q_ne_s, q_ne_b, q_eq_l, q_eq_t, q_ne_l, q_ne_t, q_is, q_isnt, isN_int, isN_str, isN_lst, isN_tup, isN_ref, isN_bl, isN_non, q_neg, q_ix_l, q_ix_t, atD_s, at_1_0, at_2_0, at_2_1, at_3_0, at_3_1, at_3_2, at_4_0, at_4_1, at_4_2, at_4_3, q_len_l, q_len_t, q_len_s, q_abs, q_int_i, q_int_b, q_str, q_list_l, q_list_t, q_tuple_l, q_tuple_t, q_repr_l, q_repr_t, irng1]
      exact ⟨⟨by omega, by omega⟩, hK⟩
    · obtain ⟨w, ew, lw, hw⟩ := hF d hd
      obtain ⟨x, ex, x0, x1⟩ := mem_rgD0 hd1
      subst ew ex
      simp only [tv, tk, to2, to1, tbl, tch, tand, tor, tnot, vand, vor, vnot, tif, a0, ac, as_, dtup, dlst, tcb, tcall, sret, sretN, sif, snx, sdrop, sasg, gn, spar, snever, bend, startD, List.map_cons, List.map_nil, List.length_cons, List.length_nil, List.replicate, List.cons_append, List.nil_append, List.append_nil, List.getElem?_cons_zero, List.getElem?_cons_succ, List.set_cons_zero, List.set_cons_succ, Nat.reduceAdd, Nat.reduceSub, Nat.zero_add, tcallK, ro, List.getD_cons_zero, List.getD_cons_succ, true_and, wipeD, Bool.not_true, Bool.not_false, Bool.false_eq_true, if_true, if_false, q_add_i, q_add_s, q_add_l, q_add_t, q_sub, q_mul_i, q_mul_l, q_mul_s, q_div, q_mod, q_pow, q_lt, q_le, q_gt, q_ge, q_eq_i, q_eq_s, q_eq_b, q_ne_i, q_ne_s, q_ne_b, q_eq_l, q_eq_t, q_ne_l, q_ne_t, q_is, q_isnt, isN_int, isN_str, isN_lst, isN_tup, isN_ref, isN_bl, isN_non, q_neg, q_ix_l, q_ix_t, atD_s, at_1_0, at_2_0, at_2_1, at_3_0, at_3_1, at_3_2, at_4_0, at_4_1, at_4_2, at_4_3, q_len_l, q_len_t, q_len_s, q_abs, q_int_i, q_int_b, q_str, q_list_l, q_list_t, q_tuple_l, q_tuple_t, q_repr_l, q_repr_t]
      refine ⟨by rw [List.length_append, List.length_map, lw]; show c + 1 ≤ _; omega, hk _ ⟨w ++ [x], by rw [List.map_append]; rfl, by rw [List.length_append, lw]; rfl, fun v hv => ?_⟩⟩
      rcases List.mem_append.mp hv with u | u
      · exact hw v u
      · rw [List.mem_singleton.mp u]; omega
    · exact hnx ys (by rw [g1, rl, List.length_nil, Nat.zero_add]) g2 _ _ _
  · subst hK3
    rw [Nat.zero_add] at f2
    have f3 : F'.length ≤ 200 := by rw [f1]; show 1 * prodN m ≤ 200; omega
    simp only [tv, tk, to2, to1, tbl, tch, tand, tor, tnot, vand, vor, vnot, tif, a0, ac, as_, dtup, dlst, tcb, tcall, sret, sretN, sif, snx, sdrop, sasg, gn, spar, snever, bend, startD, List.map_cons, List.map_nil, List.length_cons, List.length_nil, List.replicate, List.cons_append, List.nil_append, List.append_nil, List.getElem?_cons_zero, List.getElem?_cons_succ, List.set_cons_zero, List.set_cons_succ, Nat.reduceAdd, Nat.reduceSub, Nat.zero_add, tcallK, ro, List.getD_cons_zero, List.getD_cons_succ, true_and, wipeD, Bool.not_true, Bool.not_false, Bool.false_eq_true, if_true, if_false, q_add_i, q_add_s, q_add_l, q_add_t, q_sub, q_mul_i, q_mul_l, q_mul_s, q_div, q_mod, q_pow, q_lt, q_le, q_gt, q_ge, q_eq_i, q_eq_s, q_eq_b, q_ne_i, q_ne_s, q_ne_b, q_eq_l, q_eq_t, q_ne_l, q_ne_t, q_is, q_isnt, isN_int, isN_str, isN_lst, isN_tup, isN_ref, isN_bl, isN_non, q_neg, q_ix_l, q_ix_t, atD_s, at_1_0, at_2_0, at_2_1, at_3_0, at_3_1, at_3_2, at_4_0, at_4_1, at_4_2, at_4_3, q_len_l, q_len_t, q_len_s, q_abs, q_int_i, q_int_b, q_str, q_list_l, q_list_t, q_tuple_l, q_tuple_t, q_repr_l, q_repr_t, tlc2, iseq, List.length_map]
    have rl : (rgD 0 ((m.length : Int) + 1)).length = m.length + 1 := by rw [rgD_len]; omega
    have hb : F'.length * (m.length + 1) ≤ 200 * 4 := Nat.mul_le_mul f3 (by omega)
    refine compD2_p (WayF (m.length + 1)) (rgD 0 ((m.length : Int) + 1)) F' [] (fun d hd K hK => ?_) (fun d hd d1 hd1 k hk => ?_) (by rw [rl, List.length_nil, Nat.zero_add]; omega) (fun y hy => by cases hy) fun ys g1 g2 => ?_
    · simp only [tv, tk, to2, to1, tbl, tch, tand, tor, tnot, vand, vor, vnot, tif, a0, ac, as_, dtup, dlst, tcb, tcall, sret, sretN, sif, snx, sdrop, sasg, gn, spar, snever, bend, startD, List.map_cons, List.map_nil, List.length_cons, List.length_nil, List.replicate, List.cons_append, List.nil_append, List.append_nil, List.getElem?_cons_zero, List.getElem?_cons_succ, List.set_cons_zero, List.set_cons_succ, Nat.reduceAdd, Nat.reduceSub, Nat.zero_add, tcallK, ro, List.getD_cons_zero, List.getD_cons_succ, true_and, wipeD, Bool.not_true, Bool.not_false, Bool.false_eq_true, if_true, if_false, q_add_i, q_add_s, q_add_l, q_add_t, q_sub, q_mul_i, q_mul_l, q_mul_s, q_div, q_mod, q_pow, q_lt, q_le, q_gt, q_ge, q_eq_i, q_eq_s, q_eq_b, q_ne_i, q_ne_s, q_ne_b, q_eq_l, q_eq_t, q_ne_l, q_ne_t, q_is, q_isnt, isN_int, isN_str, isN_lst, isN_tup, isN_ref, isN_bl, isN_non, q_neg, q_ix_l, q_ix_t, atD_s, at_1_0, at_2_0, at_2_1, at_3_0, at_3_1, at_3_2, at_4_0, at_4_1, at_4_2, at_4_3, q_len_l, q_len_t, q_len_s, q_abs, q_int_i, q_int_b, q_str, q_list_l, q_list_t, q_tuple_l, q_tuple_t, q_repr_l, q_repr_t, irng1, List.length_map]
      exact ⟨⟨by omega, by omega⟩, hK⟩
    · obtain ⟨w, ew, lw, hw⟩ := f2 d hd
      obtain ⟨x, ex, x0, x1⟩ := mem_rgD0 hd1
      subst ew ex
      simp only [tv, tk, to2, to1, tbl, tch, tand, tor, tnot, vand, vor, vnot, tif, a0, ac, as_, dtup, dlst, tcb, tcall, sret, sretN, sif, snx, sdrop, sasg, gn, spar, snever, bend, startD, List.map_cons, List.map_nil, List.length_cons, List.length_nil, List.replicate, List.cons_append, List.nil_append, List.append_nil, List.getElem?_cons_zero, List.getElem?_cons_succ, List.set_cons_zero, List.set_cons_succ, Nat.reduceAdd, Nat.reduceSub, Nat.zero_add, tcallK, ro, List.getD_cons_zero, List.getD_cons_succ, true_and, wipeD, Bool.not_true, Bool.not_false, Bool.false_eq_true, if_true, if_false, q_add_i, q_add_s, q_add_l, q_add_t, q_sub, q_mul_i, q_mul_l, q_mul_s, q_div, q_mod, q_pow, q_lt, q_le, q_gt, q_ge, q_eq_i, q_eq_s, q_eq_b, q_ne_i, q_ne_s, q_ne_b, q_eq_l, q_eq_t, q_ne_l, q_ne_t, q_is, q_isnt, isN_int, isN_str, isN_lst, isN_tup, isN_ref, isN_bl, isN_non, q_neg, q_ix_l, q_ix_t, atD_s, at_1_0, at_2_0, at_2_1, at_3_0, at_3_1, at_3_2, at_4_0, at_4_1, at_4_2, at_4_3, q_len_l, q_len_t, q_len_s, q_abs, q_int_i, q_int_b, q_str, q_list_l, q_list_t, q_tuple_l, q_tuple_t, q_repr_l, q_repr_t, q_sum_l]
      have sw := sum_60 w hw
      refine ⟨by rw [List.length_append, List.length_map, lw]; show m.length + 1 ≤ _; omega, hk _ ⟨w ++ [late - x - w.sum], by rw [List.map_append]; rfl, by rw [List.length_append, lw]; rfl, fun v hv => ?_⟩⟩
      rcases List.mem_append.mp hv with u | u
      · have := hw v u; omega
      · rw [List.mem_singleton.mp u]; omega
    · exact q ys (by rw [g1, rl, List.length_nil, Nat.zero_add]; omega) g2
end K41

namespace K41
open PySem PySem.Spec L2 DL
open TL
/-! two rows with the same ends, not too much between -/
abbrev psOf (a e : Int) (m : List Int) : List Int := a :: (m ++ [e])
structure SmallP (a e : Int) (m m' : List Int) : Prop where
  ha : 1 ≤ a ∧ a ≤ 60
  he : 1 ≤ e ∧ e ≤ 60
  hm : ∀ i ∈ m, 1 ≤ i ∧ i ≤ 60
  hm' : ∀ i ∈ m', 1 ≤ i ∧ i ≤ 60
  l : m.length ≤ 3
  l' : m'.length ≤ 3
  n : a.toNat * e.toNat * (prodN m * prodN m') ≤ 200
theorem SmallP.ps {a e : Int} {m m' : List Int} (S : SmallP a e m m') : ∀ i ∈ psOf a e m, 1 ≤ i ∧ i ≤ 60 := fun i hi => by
  rcases List.mem_cons.mp hi with w | w
  · subst w; exact S.ha
  · rcases List.mem_append.mp w with w | w
    · exact S.hm i w
    · rw [List.mem_singleton.mp w]; exact S.he
theorem SmallP.symm {a e : Int} {m m' : List Int} (S : SmallP a e m m') : SmallP a e m' m := ⟨S.ha, S.he, S.hm', S.hm, S.l', S.l, by rw [Nat.mul_comm (prodN m')]; exact S.n⟩
theorem SmallP.pm {a e : Int} {m m' : List Int} (S : SmallP a e m m') : prodN m ≤ 200 := by
  have h1 : 1 ≤ a.toNat * e.toNat := Nat.mul_pos (by have := S.ha; omega) (by have := S.he; omega)
  have h2 := prodN_pos m' fun i hi => (S.hm' i hi).1
  have h3 : prodN m ≤ prodN m * prodN m' := Nat.le_mul_of_pos_right _ h2
  have h4 : prodN m * prodN m' ≤ a.toNat * e.toNat * (prodN m * prodN m') := Nat.le_mul_of_pos_left _ h1
  have := S.n
  omega
theorem dvd_prodN : ∀ {m : List Int} {i : Int}, i ∈ m → i.toNat ∣ prodN m
  | [], i, h => by cases h
  | j :: m, i, h => by
    rcases List.mem_cons.mp h with w | w
    · subst w; exact Nat.dvd_mul_right _ _
    · exact Nat.dvd_trans (dvd_prodN w) (Nat.dvd_mul_left _ _)
theorem lcmF_dvd {N : Nat} : ∀ (l : List Nat) (f : Nat), f ∣ N → (∀ x ∈ l, x ∣ N) → l.foldl Nat.lcm f ∣ N
  | [], f, h, _ => h
  | x :: l, f, h, q => lcmF_dvd l (Nat.lcm f x) (Nat.lcm_dvd h (q x List.mem_cons_self)) fun y hy => q y (List.mem_cons_of_mem _ hy)
theorem nats_of : ∀ l : List Int, (∀ i ∈ l, 1 ≤ i ∧ i ≤ 60) → l.map D.int = natsD (l.map Int.toNat) := fun l h => by
  unfold natsD
  rw [List.map_map]
  refine List.map_congr_left fun i hi => ?_
  show D.int i = D.int ((i.toNat : Nat) : Int)
  rw [Int.toNat_of_nonneg (by have := h i hi; omega)]
theorem ps_len (a e : Int) (m : List Int) : (psOf a e m).length = m.length + 2 := by rw [List.length_cons, List.length_append, List.length_singleton]
def sp_is_apart : SpD := spF4 fun x y u v M Q _ => ∃ (a e : Int) (m m' : List Int), x = .tup ((psOf a e m).map D.int) ∧ y = .tup ((psOf a e m').map D.int) ∧ SmallP a e m m' ∧ WayF (m.length + 1) u ∧ WayF (m'.length + 1) v ∧ ∀ b, Q (.bl b) M
/-! def is_apart(one, other, mine, its): slots 0 one, 1 other, 2 mine, 3 its, 4 moments, 5 at -/
def t_is_apart : TDS :=
    (sseq (sasg (to2 rdDiv (tcall sp_least_common (ac (to2 rdAdd (tv 0) (tv 1)) a0)) (to2 rdIx (tv 0) (to1 rdNeg (tk (.int 1))))) (gn 4))
    (sret (tcb rdAll (ac (tlc (irng1 (ac (tv 4) a0)) (gn 5) tyes (to2 rdNe (tcall sp_arrival_by (ac (tv 0) (ac (tv 2) (ac (tv 5) a0)))) (tcall sp_arrival_by (ac (tv 1) (ac (tv 3) (ac (tv 5) a0))))) [5]) a0))))
theorem rd_is_apart : ∀ ds M Q E, sp_is_apart ds M Q E → t_is_apart (bend Q E) (startD ["one", "other", "mine", "its", "moments", "at"] ds) M := rdF4 fun x y u v M Q E ⟨a, e, m, m', e1, e2, S, ⟨w1, u1, u2, u3⟩, ⟨w2, v1, v2, v3⟩, q⟩ => by
  subst e1 e2 u1 v1
  unfold t_is_apart
  have z : sizeLine = 16777216 := rfl
  have L1 := ps_len a e m
  have L2 := ps_len a e m'
  have s1 := S.l
  have s2 := S.l'
  have hps := S.ps
  have hqs := S.symm.ps
  have he : atI ((psOf a e m).map D.int) (-1) = some (D.int e) := at_end
  refine seq_step fun K1 hK1 => ?_
  generalize hP : psOf a e m = P at hps he L1 ⊢
  generalize hQ : psOf a e m' = R at hqs L2 ⊢
  simp only [tv, tk, to2, to1, tbl, tch, tand, tor, tnot, vand, vor, vnot, tif, a0, ac, as_, dtup, dlst, tcb, tcall, sret, sretN, sif, snx, sdrop, sasg, gn, spar, snever, bend, startD, List.map_cons, List.map_nil, List.length_cons, List.length_nil, List.replicate, List.cons_append, List.nil_append, List.append_nil, List.getElem?_cons_zero, List.getElem?_cons_succ, List.set_cons_zero, List.set_cons_succ, Nat.reduceAdd, Nat.reduceSub, Nat.zero_add, tcallK, ro, List.getD_cons_zero, List.getD_cons_succ, true_and, wipeD, Bool.not_true, Bool.not_false, Bool.false_eq_true, if_true, if_false, q_add_i, q_add_s, q_add_l, q_add_t, q_sub, q_mul_i, q_mul_l, q_mul_s, q_div, q_mod, q_pow, q_lt, q_le, q_gt, q_ge, q_eq_i, q_eq_s, q_eq_b, q_ne_i, q_ne_s, q_ne_b, q_eq_l, q_eq_t, q_ne_l, q_ne_t, q_is, q_isnt, isN_int, isN_str, isN_lst, isN_tup, isN_ref, isN_bl, isN_non, q_neg, q_ix_l, q_ix_t, atD_s, at_1_0, at_2_0, at_2_1, at_3_0, at_3_1, at_3_2, at_4_0, at_4_1, at_4_2, at_4_3, q_len_l, q_len_t, q_len_s, q_abs, q_int_i, q_int_b, q_str, q_list_l, q_list_t, q_tuple_l, q_tuple_t, q_repr_l, q_repr_t, List.length_map]
  refine ⟨by omega, P.map Int.toNat ++ R.map Int.toNat, ?_, ?_, ?_, ?_⟩
  · rw [nats_of P hps, nats_of R hqs]
    unfold natsD
    rw [List.map_append]
  · intro n hn
    rcases List.mem_append.mp hn with w | w
    · obtain ⟨i, hi, ei⟩ := List.mem_map.mp w
      have := hps i hi; omega
    · obtain ⟨i, hi, ei⟩ := List.mem_map.mp w
      have := hqs i hi; omega
  · rw [List.length_append, List.length_map, List.length_map]; omega
  have hd : lcmF (P.map Int.toNat ++ R.map Int.toNat) ∣ a.toNat * e.toNat * (prodN m * prodN m') := by
    refine lcmF_dvd _ 1 (Nat.one_dvd _) fun n hn => ?_
    have key : ∀ (mm : List Int) (i : Int), (∀ j ∈ mm, j.toNat ∣ prodN m * prodN m') → i ∈ psOf a e mm → i.toNat ∣ a.toNat * e.toNat * (prodN m * prodN m') := fun mm i hmm hi => by
      rcases List.mem_cons.mp hi with w | w
      · subst w; exact Nat.dvd_trans (Nat.dvd_mul_right _ _) (Nat.dvd_mul_right _ _)
      · rcases List.mem_append.mp w with w | w
        · exact Nat.dvd_trans (hmm i w) (Nat.dvd_mul_left _ _)
        · rw [List.mem_singleton.mp w]; exact Nat.dvd_trans (Nat.dvd_mul_left _ _) (Nat.dvd_mul_right _ _)
    rcases List.mem_append.mp hn with w | w
    · obtain ⟨i, hi, ei⟩ := List.mem_map.mp w
      subst ei
      exact key m i (fun j hj => Nat.dvd_trans (dvd_prodN hj) (Nat.dvd_mul_right _ _)) (by rw [hP]; exact hi)
    · obtain ⟨i, hi, ei⟩ := List.mem_map.mp w
      subst ei
      exact key m' i (fun j hj => Nat.dvd_trans (dvd_prodN hj) (Nat.dvd_mul_left _ _)) (by rw [hQ]; exact hi)
  have hN : 1 ≤ a.toNat * e.toNat * (prodN m * prodN m') := Nat.mul_pos (Nat.mul_pos (by have := S.ha; omega) (by have := S.he; omega)) (Nat.mul_pos (prodN_pos m fun i hi => (S.hm i hi).1) (prodN_pos m' fun i hi => (S.hm' i hi).1))
  have hle := Nat.le_of_dvd hN hd
  have hS := S.n
  generalize lcmF (P.map Int.toNat ++ R.map Int.toNat) = L at hle
  have h0 := S.he
  have hdiv : ∀ x : Int, 0 ≤ x → x ≤ 200 → 0 ≤ x / e ∧ x / e ≤ 200 := fun x g1 g2 => ⟨Int.ediv_nonneg g1 (by omega), by have := Int.ediv_le_self e g1; omega⟩
  obtain ⟨k0, k1⟩ := hdiv ((L : Nat) : Int) (by omega) (by omega)
  simp only [tv, tk, to2, to1, tbl, tch, tand, tor, tnot, vand, vor, vnot, tif, a0, ac, as_, dtup, dlst, tcb, tcall, sret, sretN, sif, snx, sdrop, sasg, gn, spar, snever, bend, startD, List.map_cons, List.map_nil, List.length_cons, List.length_nil, List.replicate, List.cons_append, List.nil_append, List.append_nil, List.getElem?_cons_zero, List.getElem?_cons_succ, List.set_cons_zero, List.set_cons_succ, Nat.reduceAdd, Nat.reduceSub, Nat.zero_add, tcallK, ro, List.getD_cons_zero, List.getD_cons_succ, true_and, wipeD, Bool.not_true, Bool.not_false, Bool.false_eq_true, if_true, if_false, q_add_i, q_add_s, q_add_l, q_add_t, q_sub, q_mul_i, q_mul_l, q_mul_s, q_div, q_mod, q_pow, q_lt, q_le, q_gt, q_ge, q_eq_i, q_eq_s, q_eq_b, q_ne_i, q_ne_s, q_ne_b, q_eq_l, q_eq_t, q_ne_l, q_ne_t, q_is, q_isnt, isN_int, isN_str, isN_lst, isN_tup, isN_ref, isN_bl, isN_non, q_neg, q_ix_l, q_ix_t, atD_s, at_1_0, at_2_0, at_2_1, at_3_0, at_3_1, at_3_2, at_4_0, at_4_1, at_4_2, at_4_3, q_len_l, q_len_t, q_len_s, q_abs, q_int_i, q_int_b, q_str, q_list_l, q_list_t, q_tuple_l, q_tuple_t, q_repr_l, q_repr_t, rdIx, he, atD]
  refine ⟨cdiv (by omega) (by omega), ?_⟩
  generalize ((L : Nat) : Int) / e = k at k0 k1
  subst hK1
  simp only [tv, tk, to2, to1, tbl, tch, tand, tor, tnot, vand, vor, vnot, tif, a0, ac, as_, dtup, dlst, tcb, tcall, sret, sretN, sif, snx, sdrop, sasg, gn, spar, snever, bend, startD, List.map_cons, List.map_nil, List.length_cons, List.length_nil, List.replicate, List.cons_append, List.nil_append, List.append_nil, List.getElem?_cons_zero, List.getElem?_cons_succ, List.set_cons_zero, List.set_cons_succ, Nat.reduceAdd, Nat.reduceSub, Nat.zero_add, tcallK, ro, List.getD_cons_zero, List.getD_cons_succ, true_and, wipeD, Bool.not_true, Bool.not_false, Bool.false_eq_true, if_true, if_false, q_add_i, q_add_s, q_add_l, q_add_t, q_sub, q_mul_i, q_mul_l, q_mul_s, q_div, q_mod, q_pow, q_lt, q_le, q_gt, q_ge, q_eq_i, q_eq_s, q_eq_b, q_ne_i, q_ne_s, q_ne_b, q_eq_l, q_eq_t, q_ne_l, q_ne_t, q_is, q_isnt, isN_int, isN_str, isN_lst, isN_tup, isN_ref, isN_bl, isN_non, q_neg, q_ix_l, q_ix_t, atD_s, at_1_0, at_2_0, at_2_1, at_3_0, at_3_1, at_3_2, at_4_0, at_4_1, at_4_2, at_4_3, q_len_l, q_len_t, q_len_s, q_abs, q_int_i, q_int_b, q_str, q_list_l, q_list_t, q_tuple_l, q_tuple_t, q_repr_l, q_repr_t, tlc, irng1]
  refine ⟨⟨by omega, by omega⟩, ?_⟩
  have rl : (rgD 0 k).length = k.toNat := by rw [rgD_len, Int.sub_zero]
  refine compD_p (fun y => ∃ b, y = D.bl b) (rgD 0 k) [] (fun d hd kq hk => ?_) (by rw [rl, List.length_nil]; omega) (fun y hy => by cases hy) fun ys f1 f2 => ?_
  · obtain ⟨i, ei, i0, i1⟩ := mem_rgD0 hd
    subst ei
    simp only [tv, tk, to2, to1, tbl, tch, tand, tor, tnot, vand, vor, vnot, tif, a0, ac, as_, dtup, dlst, tcb, tcall, sret, sretN, sif, snx, sdrop, sasg, gn, spar, snever, bend, startD, List.map_cons, List.map_nil, List.length_cons, List.length_nil, List.replicate, List.cons_append, List.nil_append, List.append_nil, List.getElem?_cons_zero, List.getElem?_cons_succ, List.set_cons_zero, List.set_cons_succ, Nat.reduceAdd, Nat.reduceSub, Nat.zero_add, tcallK, ro, List.getD_cons_zero, List.getD_cons_succ, true_and, wipeD, Bool.not_true, Bool.not_false, Bool.false_eq_true, if_true, if_false, q_add_i, q_add_s, q_add_l, q_add_t, q_sub, q_mul_i, q_mul_l, q_mul_s, q_div, q_mod, q_pow, q_lt, q_le, q_gt, q_ge, q_eq_i, q_eq_s, q_eq_b, q_ne_i, q_ne_s, q_ne_b, q_eq_l, q_eq_t, q_ne_l, q_ne_t, q_is, q_isnt, isN_int, isN_str, isN_lst, isN_tup, isN_ref, isN_bl, isN_non, q_neg, q_ix_l, q_ix_t, atD_s, at_1_0, at_2_0, at_2_1, at_3_0, at_3_1, at_3_2, at_4_0, at_4_1, at_4_2, at_4_3, q_len_l, q_len_t, q_len_s, q_abs, q_int_i, q_int_b, q_str, q_list_l, q_list_t, q_tuple_l, q_tuple_t, q_repr_l, q_repr_t]
    refine ⟨P, w1, i, rfl, rfl, rfl, hps, u3, by omega, by omega, by omega, by omega, fun x1 => ?_⟩
    simp only [tv, tk, to2, to1, tbl, tch, tand, tor, tnot, vand, vor, vnot, tif, a0, ac, as_, dtup, dlst, tcb, tcall, sret, sretN, sif, snx, sdrop, sasg, gn, spar, snever, bend, startD, List.map_cons, List.map_nil, List.length_cons, List.length_nil, List.replicate, List.cons_append, List.nil_append, List.append_nil, List.getElem?_cons_zero, List.getElem?_cons_succ, List.set_cons_zero, List.set_cons_succ, Nat.reduceAdd, Nat.reduceSub, Nat.zero_add, tcallK, ro, List.getD_cons_zero, List.getD_cons_succ, true_and, wipeD, Bool.not_true, Bool.not_false, Bool.false_eq_true, if_true, if_false, q_add_i, q_add_s, q_add_l, q_add_t, q_sub, q_mul_i, q_mul_l, q_mul_s, q_div, q_mod, q_pow, q_lt, q_le, q_gt, q_ge, q_eq_i, q_eq_s, q_eq_b, q_ne_i, q_ne_s, q_ne_b, q_eq_l, q_eq_t, q_ne_l, q_ne_t, q_is, q_isnt, isN_int, isN_str, isN_lst, isN_tup, isN_ref, isN_bl, isN_non, q_neg, q_ix_l, q_ix_t, atD_s, at_1_0, at_2_0, at_2_1, at_3_0, at_3_1, at_3_2, at_4_0, at_4_1, at_4_2, at_4_3, q_len_l, q_len_t, q_len_s, q_abs, q_int_i, q_int_b, q_str, q_list_l, q_list_t, q_tuple_l, q_tuple_t, q_repr_l, q_repr_t]
    refine ⟨R, w2, i, rfl, rfl, rfl, hqs, v3, by omega, by omega, by omega, by omega, fun x2 => ?_⟩
    simp only [tv, tk, to2, to1, tbl, tch, tand, tor, tnot, vand, vor, vnot, tif, a0, ac, as_, dtup, dlst, tcb, tcall, sret, sretN, sif, snx, sdrop, sasg, gn, spar, snever, bend, startD, List.map_cons, List.map_nil, List.length_cons, List.length_nil, List.replicate, List.cons_append, List.nil_append, List.append_nil, List.getElem?_cons_zero, List.getElem?_cons_succ, List.set_cons_zero, List.set_cons_succ, Nat.reduceAdd, Nat.reduceSub, Nat.zero_add, tcallK, ro, List.getD_cons_zero, List.getD_cons_succ, true_and, wipeD, Bool.not_true, Bool.not_false, Bool.false_eq_true, if_true, if_false, q_add_i, q_add_s, q_add_l, q_add_t, q_sub, q_mul_i, q_mul_l, q_mul_s, q_div, q_mod, q_pow, q_lt, q_le, q_gt, q_ge, q_eq_i, q_eq_s, q_eq_b, q_ne_i, q_ne_s, q_ne_b, q_eq_l, q_eq_t, q_ne_l, q_ne_t, q_is, q_isnt, isN_int, isN_str, isN_lst, isN_tup, isN_ref, isN_bl, isN_non, q_neg, q_ix_l, q_ix_t, atD_s, at_1_0, at_2_0, at_2_1, at_3_0, at_3_1, at_3_2, at_4_0, at_4_1, at_4_2, at_4_3, q_len_l, q_len_t, q_len_s, q_abs, q_int_i, q_int_b, q_str, q_list_l, q_list_t, q_tuple_l, q_tuple_t, q_repr_l, q_repr_t]
    exact hk _ ⟨_, rfl⟩
  · obtain ⟨bs, eb, _⟩ := of_each (f := D.bl) (R := fun _ => True) ys fun y hy => by
      obtain ⟨b, e⟩ := f2 y hy
      exact ⟨b, e, trivial⟩
    subst eb
    rw [q_all (blsOf_map bs)]
    exact q _
end K41

namespace K41
open PySem PySem.Spec L2 DL
open TL
def sp_found_apart : SpD := spF2 fun x y M Q _ => ∃ (a e : Int) (m m' : List Int), x = .tup ((psOf a e m).map D.int) ∧ y = .tup ((psOf a e m').map D.int) ∧ SmallP a e m m' ∧ Q .non M ∧
  ∀ (late : Int) (u v : D), 0 ≤ late → late < 60 → WayF (m.length + 1) u → WayF (m'.length + 1) v → Q (.tup [.int late, u, v]) M
/-! def found_apart(one, other): slots 0 one, 1 other, 2 late, 3 mine, 4 its -/
def t_found_apart : TDS :=
    (sseq (sfor (irng1 (ac (tcall sp_greatest_common (ac (to2 rdIx (tv 0) (tk (.int 0))) (ac (to2 rdIx (tv 0) (to1 rdNeg (tk (.int 1)))) a0))) a0)) (gn 2)
      (sfor (iseq (tcall sp_ways_of (ac (tv 0) (ac (tv 2) a0)))) (gn 3)
      (sfor (iseq (tcall sp_ways_of (ac (tv 1) (ac (tv 2) a0)))) (gn 4)
      (sif (tbl (tcall sp_is_apart (ac (tv 0) (ac (tv 1) (ac (tv 3) (ac (tv 4) a0))))))
      (sret (dtup (ac (tv 2) (ac (tv 3) (ac (tv 4) a0)))))
      snx))))
    (sret (tk .non)))
theorem rd_found_apart : ∀ ds M Q E, sp_found_apart ds M Q E → t_found_apart (bend Q E) (startD ["one", "other", "late", "mine", "its"] ds) M := rdF2 fun x y M Q E ⟨a, e, m, m', e1, e2, S, q0, q1⟩ => by
  obtain ⟨P, hP⟩ : ∃ P, P = (psOf a e m).map D.int := ⟨_, rfl⟩
  obtain ⟨R, hR⟩ : ∃ R, R = (psOf a e m').map D.int := ⟨_, rfl⟩
  rw [← hP] at e1
  rw [← hR] at e2
  subst e1 e2
  unfold t_found_apart
  have z : sizeLine = 16777216 := rfl
  have p1 : atI P 0 = some (D.int ((a.toNat : Nat) : Int)) := by rw [hP, Int.toNat_of_nonneg (by have := S.ha; omega)]; exact at_head
  have p2 : atI P (-1) = some (D.int ((e.toNat : Nat) : Int)) := by rw [hP, Int.toNat_of_nonneg (by have := S.he; omega)]; exact at_end
  have g1 : Nat.gcd a.toNat e.toNat ≤ 60 := Nat.le_trans (Nat.le_of_dvd (by have := S.ha; omega) (Nat.gcd_dvd_left _ _)) (by have := S.ha; omega)
  refine seq_step fun K1 hK1 => ?_
  simp only [tv, tk, to2, to1, tbl, tch, tand, tor, tnot, vand, vor, vnot, tif, a0, ac, as_, dtup, dlst, tcb, tcall, sret, sretN, sif, snx, sdrop, sasg, gn, spar, snever, bend, startD, List.map_cons, List.map_nil, List.length_cons, List.length_nil, List.replicate, List.cons_append, List.nil_append, List.append_nil, List.getElem?_cons_zero, List.getElem?_cons_succ, List.set_cons_zero, List.set_cons_succ, Nat.reduceAdd, Nat.reduceSub, Nat.zero_add, tcallK, ro, List.getD_cons_zero, List.getD_cons_succ, true_and, wipeD, Bool.not_true, Bool.not_false, Bool.false_eq_true, if_true, if_false, q_add_i, q_add_s, q_add_l, q_add_t, q_sub, q_mul_i, q_mul_l, q_mul_s, q_div, q_mod, q_pow, q_lt, q_le, q_gt, q_ge, q_eq_i, q_eq_s, q_eq_b, q_ne_i, q_ne_s, q_ne_b, q_eq_l, q_eq_t, q_ne_l, q_ne_t, q_is, q_isnt, isN_int, isN_str, isN_lst, isN_tup, isN_ref, isN_bl, isN_non, q_neg, q_ix_l, q_ix_t, atD_s, at_1_0, at_2_0, at_2_1, at_3_0, at_3_1, at_3_2, at_4_0, at_4_1, at_4_2, at_4_3, q_len_l, q_len_t, q_len_s, q_abs, q_int_i, q_int_b, q_str, q_list_l, q_list_t, q_tuple_l, q_tuple_t, q_repr_l, q_repr_t, sfor, irng1, rdIx, p1, p2, atD]
  refine ⟨a.toNat, e.toNat, rfl, rfl, ?_⟩
  simp only [tv, tk, to2, to1, tbl, tch, tand, tor, tnot, vand, vor, vnot, tif, a0, ac, as_, dtup, dlst, tcb, tcall, sret, sretN, sif, snx, sdrop, sasg, gn, spar, snever, bend, startD, List.map_cons, List.map_nil, List.length_cons, List.length_nil, List.replicate, List.cons_append, List.nil_append, List.append_nil, List.getElem?_cons_zero, List.getElem?_cons_succ, List.set_cons_zero, List.set_cons_succ, Nat.reduceAdd, Nat.reduceSub, Nat.zero_add, tcallK, ro, List.getD_cons_zero, List.getD_cons_succ, true_and, wipeD, Bool.not_true, Bool.not_false, Bool.false_eq_true, if_true, if_false, q_add_i, q_add_s, q_add_l, q_add_t, q_sub, q_mul_i, q_mul_l, q_mul_s, q_div, q_mod, q_pow, q_lt, q_le, q_gt, q_ge, q_eq_i, q_eq_s, q_eq_b, q_ne_i, q_ne_s, q_ne_b, q_eq_l, q_eq_t, q_ne_l, q_ne_t, q_is, q_isnt, isN_int, isN_str, isN_lst, isN_tup, isN_ref, isN_bl, isN_non, q_neg, q_ix_l, q_ix_t, atD_s, at_1_0, at_2_0, at_2_1, at_3_0, at_3_1, at_3_2, at_4_0, at_4_1, at_4_2, at_4_3, q_len_l, q_len_t, q_len_s, q_abs, q_int_i, q_int_b, q_str, q_list_l, q_list_t, q_tuple_l, q_tuple_t, q_repr_l, q_repr_t]
  refine ⟨⟨by omega, by omega⟩, ?_⟩
  refine for_rt (I := fun _ σ N => N = M ∧ ∃ o2 o3 o4, σ = [some (.tup P), some (.tup R), o2, o3, o4]) 1000 _ 0 _ M (fun d hd j σ N Dn hj hrt ⟨eN, o2, o3, o4, hσ⟩ hnx => ?body) (by rw [rgD_len]; omega) ⟨rfl, none, none, none, rfl⟩ (fun σ' M' ⟨eN, o2, o3, o4, hσ⟩ => ?fin)
  case fin =>
    subst hσ eN hK1
    exact q0
  case body =>
    subst hσ eN
    obtain ⟨late, ed, d0, d1⟩ := mem_rgD0 hd
    subst ed
    simp only [tv, tk, to2, to1, tbl, tch, tand, tor, tnot, vand, vor, vnot, tif, a0, ac, as_, dtup, dlst, tcb, tcall, sret, sretN, sif, snx, sdrop, sasg, gn, spar, snever, bend, startD, List.map_cons, List.map_nil, List.length_cons, List.length_nil, List.replicate, List.cons_append, List.nil_append, List.append_nil, List.getElem?_cons_zero, List.getElem?_cons_succ, List.set_cons_zero, List.set_cons_succ, Nat.reduceAdd, Nat.reduceSub, Nat.zero_add, tcallK, ro, List.getD_cons_zero, List.getD_cons_succ, true_and, wipeD, Bool.not_true, Bool.not_false, Bool.false_eq_true, if_true, if_false, q_add_i, q_add_s, q_add_l, q_add_t, q_sub, q_mul_i, q_mul_l, q_mul_s, q_div, q_mod, q_pow, q_lt, q_le, q_gt, q_ge, q_eq_i, q_eq_s, q_eq_b, q_ne_i, q_ne_s, q_ne_b, q_eq_l, q_eq_t, q_ne_l, q_ne_t, q_is, q_isnt, isN_int, isN_str, isN_lst, isN_tup, isN_ref, isN_bl, isN_non, q_neg, q_ix_l, q_ix_t, atD_s, at_1_0, at_2_0, at_2_1, at_3_0, at_3_1, at_3_2, at_4_0, at_4_1, at_4_2, at_4_3, q_len_l, q_len_t, q_len_s, q_abs, q_int_i, q_int_b, q_str, q_list_l, q_list_t, q_tuple_l, q_tuple_t, q_repr_l, q_repr_t, sfor, iseq]
    refine ⟨a, e, m, late, by rw [hP], rfl, S.hm, S.l, d0, by omega, S.pm, fun ws hl hws => ?_⟩
    simp only [tv, tk, to2, to1, tbl, tch, tand, tor, tnot, vand, vor, vnot, tif, a0, ac, as_, dtup, dlst, tcb, tcall, sret, sretN, sif, snx, sdrop, sasg, gn, spar, snever, bend, startD, List.map_cons, List.map_nil, List.length_cons, List.length_nil, List.replicate, List.cons_append, List.nil_append, List.append_nil, List.getElem?_cons_zero, List.getElem?_cons_succ, List.set_cons_zero, List.set_cons_succ, Nat.reduceAdd, Nat.reduceSub, Nat.zero_add, tcallK, ro, List.getD_cons_zero, List.getD_cons_succ, true_and, wipeD, Bool.not_true, Bool.not_false, Bool.false_eq_true, if_true, if_false, q_add_i, q_add_s, q_add_l, q_add_t, q_sub, q_mul_i, q_mul_l, q_mul_s, q_div, q_mod, q_pow, q_lt, q_le, q_gt, q_ge, q_eq_i, q_eq_s, q_eq_b, q_ne_i, q_ne_s, q_ne_b, q_eq_l, q_eq_t, q_ne_l, q_ne_t, q_is, q_isnt, isN_int, isN_str, isN_lst, isN_tup, isN_ref, isN_bl, isN_non, q_neg, q_ix_l, q_ix_t, atD_s, at_1_0, at_2_0, at_2_1, at_3_0, at_3_1, at_3_2, at_4_0, at_4_1, at_4_2, at_4_3, q_len_l, q_len_t, q_len_s, q_abs, q_int_i, q_int_b, q_str, q_list_l, q_list_t, q_tuple_l, q_tuple_t, q_repr_l, q_repr_t]
    refine for_rt (I := fun _ σ N' => N' = N ∧ ∃ o3 o4, σ = [some (.tup P), some (.tup R), some (.int late), o3, o4]) 2000 _ 0 _ N (fun u hu j2 σ N2 Dn2 hj2 hrt2 ⟨eN, o3, o4, hσ⟩ hnx2 => ?_) (by omega) ⟨rfl, _, _, rfl⟩ (fun σ' M' ⟨eN, o3, o4, hσ⟩ => hnx σ' M' ⟨eN, _, _, _, hσ⟩)
    subst hσ eN
    simp only [tv, tk, to2, to1, tbl, tch, tand, tor, tnot, vand, vor, vnot, tif, a0, ac, as_, dtup, dlst, tcb, tcall, sret, sretN, sif, snx, sdrop, sasg, gn, spar, snever, bend, startD, List.map_cons, List.map_nil, List.length_cons, List.length_nil, List.replicate, List.cons_append, List.nil_append, List.append_nil, List.getElem?_cons_zero, List.getElem?_cons_succ, List.set_cons_zero, List.set_cons_succ, Nat.reduceAdd, Nat.reduceSub, Nat.zero_add, tcallK, ro, List.getD_cons_zero, List.getD_cons_succ, true_and, wipeD, Bool.not_true, Bool.not_false, Bool.false_eq_true, if_true, if_false, q_add_i, q_add_s, q_add_l, q_add_t, q_sub, q_mul_i, q_mul_l, q_mul_s, q_div, q_mod, q_pow, q_lt, q_le, q_gt, q_ge, q_eq_i, q_eq_s, q_eq_b, q_ne_i, q_ne_s, q_ne_b, q_eq_l, q_eq_t, q_ne_l, q_ne_t, q_is, q_isnt, isN_int, isN_str, isN_lst, isN_tup, isN_ref, isN_bl, isN_non, q_neg, q_ix_l, q_ix_t, atD_s, at_1_0, at_2_0, at_2_1, at_3_0, at_3_1, at_3_2, at_4_0, at_4_1, at_4_2, at_4_3, q_len_l, q_len_t, q_len_s, q_abs, q_int_i, q_int_b, q_str, q_list_l, q_list_t, q_tuple_l, q_tuple_t, q_repr_l, q_repr_t, sfor, iseq]
    refine ⟨a, e, m', late, by rw [hR], rfl, S.hm', S.l', d0, by omega, S.symm.pm, fun ws2 hl2 hws2 => ?_⟩
    simp only [tv, tk, to2, to1, tbl, tch, tand, tor, tnot, vand, vor, vnot, tif, a0, ac, as_, dtup, dlst, tcb, tcall, sret, sretN, sif, snx, sdrop, sasg, gn, spar, snever, bend, startD, List.map_cons, List.map_nil, List.length_cons, List.length_nil, List.replicate, List.cons_append, List.nil_append, List.append_nil, List.getElem?_cons_zero, List.getElem?_cons_succ, List.set_cons_zero, List.set_cons_succ, Nat.reduceAdd, Nat.reduceSub, Nat.zero_add, tcallK, ro, List.getD_cons_zero, List.getD_cons_succ, true_and, wipeD, Bool.not_true, Bool.not_false, Bool.false_eq_true, if_true, if_false, q_add_i, q_add_s, q_add_l, q_add_t, q_sub, q_mul_i, q_mul_l, q_mul_s, q_div, q_mod, q_pow, q_lt, q_le, q_gt, q_ge, q_eq_i, q_eq_s, q_eq_b, q_ne_i, q_ne_s, q_ne_b, q_eq_l, q_eq_t, q_ne_l, q_ne_t, q_is, q_isnt, isN_int, isN_str, isN_lst, isN_tup, isN_ref, isN_bl, isN_non, q_neg, q_ix_l, q_ix_t, atD_s, at_1_0, at_2_0, at_2_1, at_3_0, at_3_1, at_3_2, at_4_0, at_4_1, at_4_2, at_4_3, q_len_l, q_len_t, q_len_s, q_abs, q_int_i, q_int_b, q_str, q_list_l, q_list_t, q_tuple_l, q_tuple_t, q_repr_l, q_repr_t]
    refine for_rt (I := fun _ σ N' => N' = N2 ∧ ∃ o4, σ = [some (.tup P), some (.tup R), some (.int late), some u, o4]) 2000 _ 0 _ N2 (fun v hv j3 σ N3 Dn3 hj3 hrt3 ⟨eN, o4, hσ⟩ hnx3 => ?_) (by omega) ⟨rfl, _, rfl⟩ (fun σ' M' ⟨eN, o4, hσ⟩ => hnx2 σ' M' ⟨eN, _, _, hσ⟩)
    subst hσ eN
    simp only [tv, tk, to2, to1, tbl, tch, tand, tor, tnot, vand, vor, vnot, tif, a0, ac, as_, dtup, dlst, tcb, tcall, sret, sretN, sif, snx, sdrop, sasg, gn, spar, snever, bend, startD, List.map_cons, List.map_nil, List.length_cons, List.length_nil, List.replicate, List.cons_append, List.nil_append, List.append_nil, List.getElem?_cons_zero, List.getElem?_cons_succ, List.set_cons_zero, List.set_cons_succ, Nat.reduceAdd, Nat.reduceSub, Nat.zero_add, tcallK, ro, List.getD_cons_zero, List.getD_cons_succ, true_and, wipeD, Bool.not_true, Bool.not_false, Bool.false_eq_true, if_true, if_false, q_add_i, q_add_s, q_add_l, q_add_t, q_sub, q_mul_i, q_mul_l, q_mul_s, q_div, q_mod, q_pow, q_lt, q_le, q_gt, q_ge, q_eq_i, q_eq_s, q_eq_b, q_ne_i, q_ne_s, q_ne_b, q_eq_l, q_eq_t, q_ne_l, q_ne_t, q_is, q_isnt, isN_int, isN_str, isN_lst, isN_tup, isN_ref, isN_bl, isN_non, q_neg, q_ix_l, q_ix_t, atD_s, at_1_0, at_2_0, at_2_1, at_3_0, at_3_1, at_3_2, at_4_0, at_4_1, at_4_2, at_4_3, q_len_l, q_len_t, q_len_s, q_abs, q_int_i, q_int_b, q_str, q_list_l, q_list_t, q_tuple_l, q_tuple_t, q_repr_l, q_repr_t]
    refine ⟨a, e, m, m', by rw [hP], by rw [hR], S, hws u hu, hws2 v hv, fun b => ?_⟩
    cases b with
    | false => exact hnx3 _ _ ⟨rfl, _, rfl⟩
    | true =>
      simp only [tv, tk, to2, to1, tbl, tch, tand, tor, tnot, vand, vor, vnot, tif, a0, ac, as_, dtup, dlst, tcb, tcall, sret, sretN, sif, snx, sdrop, sasg, gn, spar, snever, bend, startD, List.map_cons, List.map_nil, List.length_cons, List.length_nil, List.replicate, List.cons_append, List.nil_append, List.append_nil, List.getElem?_cons_zero, List.getElem?_cons_succ, List.set_cons_zero, List.set_cons_succ, Nat.reduceAdd, Nat.reduceSub, Nat.zero_add, tcallK, ro, List.getD_cons_zero, List.getD_cons_succ, true_and, wipeD, Bool.not_true, Bool.not_false, Bool.false_eq_true, if_true, if_false, q_add_i, q_add_s, q_add_l, q_add_t, q_sub, q_mul_i, q_mul_l, q_mul_s, q_div, q_mod, q_pow, q_lt, q_le, q_gt, q_ge, q_eq_i, q_eq_s, q_eq_b, q_ne_i, q_ne_s, q_ne_b, q_eq_l, q_eq_t, q_ne_l, q_ne_t, q_is, q_isnt, isN_int, isN_str, isN_lst, isN_tup, isN_ref, isN_bl, isN_non, q_neg, q_ix_l, q_ix_t, atD_s, at_1_0, at_2_0, at_2_1, at_3_0, at_3_1, at_3_2, at_4_0, at_4_1, at_4_2, at_4_3, q_len_l, q_len_t, q_len_s, q_abs, q_int_i, q_int_b, q_str, q_list_l, q_list_t, q_tuple_l, q_tuple_t, q_repr_l, q_repr_t]
      refine ⟨by decide, ?_⟩
      rw [hrt3, hrt2, hrt]
      exact q1 late u v d0 (by omega) (hws u hu) (hws2 v hv)
def sp_lowest : SpD := spF2 fun x y M Q _ => ∃ t b : Int, x = .int t ∧ y = .int b ∧ 1 ≤ b ∧ b ≤ 60 ∧ ∀ i j : Int, Q (.tup [.int i, .int j]) M
/-! def lowest(top, bottom): slots 0 top, 1 bottom, 2 common -/
def t_lowest : TDS :=
    (sseq (sasg (tcall sp_greatest_common (ac (tcb rdAbs (ac (tv 0) a0)) (ac (tv 1) a0))) (gn 2))
    (sret (dtup (ac (to2 rdDiv (tv 0) (tv 2)) (ac (to2 rdDiv (tv 1) (tv 2)) a0)))))
theorem rd_lowest : ∀ ds M Q E, sp_lowest ds M Q E → t_lowest (bend Q E) (startD ["top", "bottom", "common"] ds) M := rdF2 fun x y M Q E ⟨t, b, e1, e2, b1, b2, q⟩ => by
  subst e1 e2
  unfold t_lowest
  refine seq_step fun K1 hK1 => ?_
  simp only [tv, tk, to2, to1, tbl, tch, tand, tor, tnot, vand, vor, vnot, tif, a0, ac, as_, dtup, dlst, tcb, tcall, sret, sretN, sif, snx, sdrop, sasg, gn, spar, snever, bend, startD, List.map_cons, List.map_nil, List.length_cons, List.length_nil, List.replicate, List.cons_append, List.nil_append, List.append_nil, List.getElem?_cons_zero, List.getElem?_cons_succ, List.set_cons_zero, List.set_cons_succ, Nat.reduceAdd, Nat.reduceSub, Nat.zero_add, tcallK, ro, List.getD_cons_zero, List.getD_cons_succ, true_and, wipeD, Bool.not_true, Bool.not_false, Bool.false_eq_true, if_true, if_false, q_add_i, q_add_s, q_add_l, q_add_t, q_sub, q_mul_i, q_mul_l, q_mul_s, q_div, q_mod, q_pow, q_lt, q_le, q_gt, q_ge, q_eq_i, q_eq_s, q_eq_b, q_ne_i, q_ne_s, q_ne_b, q_eq_l, q_eq_t, q_ne_l, q_ne_t, q_is, q_isnt, isN_int, isN_str, isN_lst, isN_tup, isN_ref, isN_bl, isN_non, q_neg, q_ix_l, q_ix_t, atD_s, at_1_0, at_2_0, at_2_1, at_3_0, at_3_1, at_3_2, at_4_0, at_4_1, at_4_2, at_4_3, q_len_l, q_len_t, q_len_s, q_abs, q_int_i, q_int_b, q_str, q_list_l, q_list_t, q_tuple_l, q_tuple_t, q_repr_l, q_repr_t, abs_nat]
  refine ⟨t.natAbs, b.toNat, rfl, by rw [Int.toNat_of_nonneg (by omega)], ?_⟩
  simp only [tv, tk, to2, to1, tbl, tch, tand, tor, tnot, vand, vor, vnot, tif, a0, ac, as_, dtup, dlst, tcb, tcall, sret, sretN, sif, snx, sdrop, sasg, gn, spar, snever, bend, startD, List.map_cons, List.map_nil, List.length_cons, List.length_nil, List.replicate, List.cons_append, List.nil_append, List.append_nil, List.getElem?_cons_zero, List.getElem?_cons_succ, List.set_cons_zero, List.set_cons_succ, Nat.reduceAdd, Nat.reduceSub, Nat.zero_add, tcallK, ro, List.getD_cons_zero, List.getD_cons_succ, true_and, wipeD, Bool.not_true, Bool.not_false, Bool.false_eq_true, if_true, if_false, q_add_i, q_add_s, q_add_l, q_add_t, q_sub, q_mul_i, q_mul_l, q_mul_s, q_div, q_mod, q_pow, q_lt, q_le, q_gt, q_ge, q_eq_i, q_eq_s, q_eq_b, q_ne_i, q_ne_s, q_ne_b, q_eq_l, q_eq_t, q_ne_l, q_ne_t, q_is, q_isnt, isN_int, isN_str, isN_lst, isN_tup, isN_ref, isN_bl, isN_non, q_neg, q_ix_l, q_ix_t, atD_s, at_1_0, at_2_0, at_2_1, at_3_0, at_3_1, at_3_2, at_4_0, at_4_1, at_4_2, at_4_3, q_len_l, q_len_t, q_len_s, q_abs, q_int_i, q_int_b, q_str, q_list_l, q_list_t, q_tuple_l, q_tuple_t, q_repr_l, q_repr_t]
  have g1 : 1 ≤ Nat.gcd t.natAbs b.toNat := Nat.gcd_pos_of_pos_right _ (by omega)
  have g2 : Nat.gcd t.natAbs b.toNat ≤ b.toNat := Nat.le_of_dvd (by omega) (Nat.gcd_dvd_right _ _)
  subst hK1
  simp only [tv, tk, to2, to1, tbl, tch, tand, tor, tnot, vand, vor, vnot, tif, a0, ac, as_, dtup, dlst, tcb, tcall, sret, sretN, sif, snx, sdrop, sasg, gn, spar, snever, bend, startD, List.map_cons, List.map_nil, List.length_cons, List.length_nil, List.replicate, List.cons_append, List.nil_append, List.append_nil, List.getElem?_cons_zero, List.getElem?_cons_succ, List.set_cons_zero, List.set_cons_succ, Nat.reduceAdd, Nat.reduceSub, Nat.zero_add, tcallK, ro, List.getD_cons_zero, List.getD_cons_succ, true_and, wipeD, Bool.not_true, Bool.not_false, Bool.false_eq_true, if_true, if_false, q_add_i, q_add_s, q_add_l, q_add_t, q_sub, q_mul_i, q_mul_l, q_mul_s, q_div, q_mod, q_pow, q_lt, q_le, q_gt, q_ge, q_eq_i, q_eq_s, q_eq_b, q_ne_i, q_ne_s, q_ne_b, q_eq_l, q_eq_t, q_ne_l, q_ne_t, q_is, q_isnt, isN_int, isN_str, isN_lst, isN_tup, isN_ref, isN_bl, isN_non, q_neg, q_ix_l, q_ix_t, atD_s, at_1_0, at_2_0, at_2_1, at_3_0, at_3_1, at_3_2, at_4_0, at_4_1, at_4_2, at_4_3, q_len_l, q_len_t, q_len_s, q_abs, q_int_i, q_int_b, q_str, q_list_l, q_list_t, q_tuple_l, q_tuple_t, q_repr_l, q_repr_t]
  exact ⟨cdiv (by omega) (by omega), cdiv (by omega) (by omega), by decide, q _ _⟩
theorem sum_abs : ∀ w : List Int, (∀ x ∈ w, x.natAbs < 2 ^ 10) → w.sum.natAbs ≤ 2 ^ 10 * w.length
  | [], _ => by decide
  | x :: w, h => by
    have h1 := sum_abs w fun y hy => h y (List.mem_cons_of_mem _ hy)
    have h2 := h x List.mem_cons_self
    rw [List.sum_cons, List.length_cons]
    omega
theorem mem_enum {ds : List D} {d : D} (h : d ∈ enumD 0 ds) : ∃ (i : Nat) (x : D), d = .tup [.int (i : Int), x] ∧ i < ds.length ∧ x ∈ ds := by
  obtain ⟨i, hi⟩ := List.mem_iff_getElem?.mp h
  obtain ⟨x, hx, e⟩ := enumD_get 0 ds i d hi
  rw [Nat.zero_add] at e
  exact ⟨i, x, e, (List.getElem?_eq_some_iff.mp hx).1, List.mem_of_getElem? hx⟩
def sp_phases_by : SpD := spF3 fun x y u M Q _ => ∃ (t : Str) (l : Int) (c : Nat), x = .str t ∧ y = .int l ∧ l.natAbs < 64 ∧ 1 ≤ c ∧ c ≤ 4 ∧ WayF c u ∧ ∀ p M', MLe M M' → Q (.ref p) M'
/-! def phases_by(tie, late, way): slots 0 tie, 1 late, 2 way, 3 whole, 4 rest, 5 parts, 6 found, 7 here, 8 at, 9 apart -/
def t_phases_by : TDS :=
    (sseq (sasg (tif (tbl (to2 rdEq (tv 0) (tk (.str "new")))) (tv 1) (to2 rdAdd (tv 1) (tk (.int 1)))) (gn 3))
    (sseq (spar 4 5 (ac (to2 rdSub (tv 3) (tcb rdSumA (ac (tv 2) a0))) (ac (tcb rdLen (ac (tv 2) a0)) a0)))
    (sseq (spar 6 7 (ac (dlstM (ac (dtup (ac (tk (.int 0)) (ac (tk (.int 1)) a0))) a0)) (ac (tk (.int 0)) a0)))
    (sseq (sfor (ienum (ac (tv 2) a0)) (gtup 2 (gsc (gn 8) (gsc (gn 9) gsn)))
      (sseq (sasg (to2 rdAdd (tv 7) (tv 9)) (gn 7))
    (sdrop (tapp (tv 6) (ac (tcall sp_lowest (ac (to2 rdAdd (to2 rdMul (tv 7) (tv 5)) (to2 rdMul (tv 4) (to2 rdAdd (tv 8) (tk (.int 1))))) (ac (tv 5) a0))) a0)))))
    (sret (tv 6))))))
theorem rd_phases_by : ∀ ds M Q E, sp_phases_by ds M Q E → t_phases_by (bend Q E) (startD ["tie", "late", "way", "whole", "rest", "parts", "found", "here", "at", "apart"] ds) M := rdF3 fun x y u M Q E ⟨t, l, c, e1, e2, hl, c1, c4, ⟨w, eu, lw, hw⟩, q⟩ => by
  subst e1 e2 eu
  unfold t_phases_by
  have z : sizeLine = 16777216 := rfl
  have sw := sum_abs w hw
  rw [lw] at sw
  have main : ∀ wh : Int, wh.natAbs < 100 → ∀ K : DSt → MM → Prop, (∀ rest : Int, rest.natAbs < 2 ^ 13 → K [some (.str t), some (.int l), some (.lst (w.map D.int)), some (.int wh), some (.int rest), some (.int (c : Int)), none, none, none, none] M) →
      spar 4 5 (ac (to2 rdSub (tv 3) (tcb rdSumA (ac (tv 2) a0))) (ac (tcb rdLen (ac (tv 2) a0)) a0)) { bend Q E with nx := K } [some (.str t), some (.int l), some (.lst (w.map D.int)), some (.int wh), none, none, none, none, none, none] M := fun wh hwh K hK => by
    simp only [spar, tv, tk, to2, to1, tbl, tch, tand, tor, tnot, vand, vor, vnot, tif, a0, ac, as_, dtup, dlst, tcb, tcall, sret, sretN, sif, snx, sdrop, sasg, gn, spar, snever, bend, startD, List.map_cons, List.map_nil, List.length_cons, List.length_nil, List.replicate, List.cons_append, List.nil_append, List.append_nil, List.getElem?_cons_zero, List.getElem?_cons_succ, List.set_cons_zero, List.set_cons_succ, Nat.reduceAdd, Nat.reduceSub, Nat.zero_add, tcallK, ro, List.getD_cons_zero, List.getD_cons_succ, true_and, wipeD, Bool.not_true, Bool.not_false, Bool.false_eq_true, if_true, if_false, q_add_i, q_add_s, q_add_l, q_add_t, q_sub, q_mul_i, q_mul_l, q_mul_s, q_div, q_mod, q_pow, q_lt, q_le, q_gt, q_ge, q_eq_i, q_eq_s, q_eq_b, q_ne_i, q_ne_s, q_ne_b, q_eq_l, q_eq_t, q_ne_l, q_ne_t, q_is, q_isnt, isN_int, isN_str, isN_lst, isN_tup, isN_ref, isN_bl, isN_non, q_neg, q_ix_l, q_ix_t, atD_s, at_1_0, at_2_0, at_2_1, at_3_0, at_3_1, at_3_2, at_4_0, at_4_1, at_4_2, at_4_3, q_len_l, q_len_t, q_len_s, q_abs, q_int_i, q_int_b, q_str, q_list_l, q_list_t, q_tuple_l, q_tuple_t, q_repr_l, q_repr_t, q_sum_l, List.length_map, lw]
    exact hK _ (by omega)
  refine seq_step fun K1 hK1 => ?_
  have step : ∀ wh : Int, wh.natAbs < 100 → K1 [some (.str t), some (.int l), some (.lst (w.map D.int)), some (.int wh), none, none, none, none, none, none] M := fun wh hwh => by
    subst hK1
    refine seq_step fun K2 hK2 => ?_
    refine main wh hwh K2 fun rest hr => ?_
    subst hK2
    refine seq_step fun K3 hK3 => ?_
    simp only [spar, tv, tk, to2, to1, tbl, tch, tand, tor, tnot, vand, vor, vnot, tif, a0, ac, as_, dtup, dlst, tcb, tcall, sret, sretN, sif, snx, sdrop, sasg, gn, spar, snever, bend, startD, List.map_cons, List.map_nil, List.length_cons, List.length_nil, List.replicate, List.cons_append, List.nil_append, List.append_nil, List.getElem?_cons_zero, List.getElem?_cons_succ, List.set_cons_zero, List.set_cons_succ, Nat.reduceAdd, Nat.reduceSub, Nat.zero_add, tcallK, ro, List.getD_cons_zero, List.getD_cons_succ, true_and, wipeD, Bool.not_true, Bool.not_false, Bool.false_eq_true, if_true, if_false, q_add_i, q_add_s, q_add_l, q_add_t, q_sub, q_mul_i, q_mul_l, q_mul_s, q_div, q_mod, q_pow, q_lt, q_le, q_gt, q_ge, q_eq_i, q_eq_s, q_eq_b, q_ne_i, q_ne_s, q_ne_b, q_eq_l, q_eq_t, q_ne_l, q_ne_t, q_is, q_isnt, isN_int, isN_str, isN_lst, isN_tup, isN_ref, isN_bl, isN_non, q_neg, q_ix_l, q_ix_t, atD_s, at_1_0, at_2_0, at_2_1, at_3_0, at_3_1, at_3_2, at_4_0, at_4_1, at_4_2, at_4_3, q_len_l, q_len_t, q_len_s, q_abs, q_int_i, q_int_b, q_str, q_list_l, q_list_t, q_tuple_l, q_tuple_t, q_repr_l, q_repr_t, dlstM]
    refine ⟨by decide, by decide, fun p hp => ?_⟩
    subst hK3
    refine seq_step fun K4 hK4 => ?_
    simp only [tv, tk, to2, to1, tbl, tch, tand, tor, tnot, vand, vor, vnot, tif, a0, ac, as_, dtup, dlst, tcb, tcall, sret, sretN, sif, snx, sdrop, sasg, gn, spar, snever, bend, startD, List.map_cons, List.map_nil, List.length_cons, List.length_nil, List.replicate, List.cons_append, List.nil_append, List.append_nil, List.getElem?_cons_zero, List.getElem?_cons_succ, List.set_cons_zero, List.set_cons_succ, Nat.reduceAdd, Nat.reduceSub, Nat.zero_add, tcallK, ro, List.getD_cons_zero, List.getD_cons_succ, true_and, wipeD, Bool.not_true, Bool.not_false, Bool.false_eq_true, if_true, if_false, q_add_i, q_add_s, q_add_l, q_add_t, q_sub, q_mul_i, q_mul_l, q_mul_s, q_div, q_mod, q_pow, q_lt, q_le, q_gt, q_ge, q_eq_i, q_eq_s, q_eq_b, q_ne_i, q_ne_s, q_ne_b, q_eq_l, q_eq_t, q_ne_l, q_ne_t, q_is, q_isnt, isN_int, isN_str, isN_lst, isN_tup, isN_ref, isN_bl, isN_non, q_neg, q_ix_l, q_ix_t, atD_s, at_1_0, at_2_0, at_2_1, at_3_0, at_3_1, at_3_2, at_4_0, at_4_1, at_4_2, at_4_3, q_len_l, q_len_t, q_len_s, q_abs, q_int_i, q_int_b, q_str, q_list_l, q_list_t, q_tuple_l, q_tuple_t, q_repr_l, q_repr_t, sfor, ienum]
    refine for_rt (I := fun j σ N => ∃ (xs : List D) (here : Int) (o8 o9 : Option D), σ = [some (.str t), some (.int l), some (.lst (w.map D.int)), some (.int wh), some (.int rest), some (.int (c : Int)), some (.ref p), some (.int here), o8, o9] ∧ N = mput M p (.lst xs) ∧ xs.length ≤ j + 1 ∧ here.natAbs ≤ 2 ^ 10 * j) 5 _ 0 _ _
      (fun d hd j σ N Dn hj hrt ⟨xs, here, o8, o9, hσ, hN, hx, hh⟩ hnx => ?body) (by rw [enumD_len, List.length_map]; omega) ⟨_, 0, none, none, rfl, rfl, by decide, by decide⟩ (fun σ' M' ⟨xs, here, o8, o9, hσ, hN, hx, hh⟩ => ?fin)
    case fin =>
      subst hσ hN hK4
      exact q p _ (mle_put hp)
    case body =>
      subst hσ hN
      obtain ⟨i, v, ed, hi, hv⟩ := mem_enum hd
      obtain ⟨s, hs, es⟩ := List.mem_map.mp hv
      subst ed es
      rw [List.length_map] at hi
      have hs2 := hw s hs
      simp only [gtup, gsc, gsn, tv, tk, to2, to1, tbl, tch, tand, tor, tnot, vand, vor, vnot, tif, a0, ac, as_, dtup, dlst, tcb, tcall, sret, sretN, sif, snx, sdrop, sasg, gn, spar, snever, bend, startD, List.map_cons, List.map_nil, List.length_cons, List.length_nil, List.replicate, List.cons_append, List.nil_append, List.append_nil, List.getElem?_cons_zero, List.getElem?_cons_succ, List.set_cons_zero, List.set_cons_succ, Nat.reduceAdd, Nat.reduceSub, Nat.zero_add, tcallK, ro, List.getD_cons_zero, List.getD_cons_succ, true_and, wipeD, Bool.not_true, Bool.not_false, Bool.false_eq_true, if_true, if_false, q_add_i, q_add_s, q_add_l, q_add_t, q_sub, q_mul_i, q_mul_l, q_mul_s, q_div, q_mod, q_pow, q_lt, q_le, q_gt, q_ge, q_eq_i, q_eq_s, q_eq_b, q_ne_i, q_ne_s, q_ne_b, q_eq_l, q_eq_t, q_ne_l, q_ne_t, q_is, q_isnt, isN_int, isN_str, isN_lst, isN_tup, isN_ref, isN_bl, isN_non, q_neg, q_ix_l, q_ix_t, atD_s, at_1_0, at_2_0, at_2_1, at_3_0, at_3_1, at_3_2, at_4_0, at_4_1, at_4_2, at_4_3, q_len_l, q_len_t, q_len_s, q_abs, q_int_i, q_int_b, q_str, q_list_l, q_list_t, q_tuple_l, q_tuple_t, q_repr_l, q_repr_t]
      have t1 : (here + s).natAbs ≤ 2 ^ 10 * (j + 1) := by omega
      obtain ⟨h2, eh⟩ : ∃ h, h = here + s := ⟨_, rfl⟩
      rw [← eh] at t1
      have hi5 : i < 5 := by omega
      obtain ⟨m1, n1⟩ := cm (i := h2) (j := (c : Int)) 13 3 (by omega) (by omega) (by decide)
      obtain ⟨m2, n2⟩ := cm (i := rest) (j := (i : Int) + 1) 13 3 hr (by omega) (by decide)
      simp only [tv, tk, to2, to1, tbl, tch, tand, tor, tnot, vand, vor, vnot, tif, a0, ac, as_, dtup, dlst, tcb, tcall, sret, sretN, sif, snx, sdrop, sasg, gn, spar, snever, bend, startD, List.map_cons, List.map_nil, List.length_cons, List.length_nil, List.replicate, List.cons_append, List.nil_append, List.append_nil, List.getElem?_cons_zero, List.getElem?_cons_succ, List.set_cons_zero, List.set_cons_succ, Nat.reduceAdd, Nat.reduceSub, Nat.zero_add, tcallK, ro, List.getD_cons_zero, List.getD_cons_succ, true_and, wipeD, Bool.not_true, Bool.not_false, Bool.false_eq_true, if_true, if_false, q_add_i, q_add_s, q_add_l, q_add_t, q_sub, q_mul_i, q_mul_l, q_mul_s, q_div, q_mod, q_pow, q_lt, q_le, q_gt, q_ge, q_eq_i, q_eq_s, q_eq_b, q_ne_i, q_ne_s, q_ne_b, q_eq_l, q_eq_t, q_ne_l, q_ne_t, q_is, q_isnt, isN_int, isN_str, isN_lst, isN_tup, isN_ref, isN_bl, isN_non, q_neg, q_ix_l, q_ix_t, atD_s, at_1_0, at_2_0, at_2_1, at_3_0, at_3_1, at_3_2, at_4_0, at_4_1, at_4_2, at_4_3, q_len_l, q_len_t, q_len_s, q_abs, q_int_i, q_int_b, q_str, q_list_l, q_list_t, q_tuple_l, q_tuple_t, q_repr_l, q_repr_t, sseq, tapp, ← eh]
      refine ⟨by unfold isL; rw [mput_same]; trivial, m1, m2, _, _, rfl, rfl, by omega, by omega, fun x1 x2 => ?_⟩
      simp only [tv, tk, to2, to1, tbl, tch, tand, tor, tnot, vand, vor, vnot, tif, a0, ac, as_, dtup, dlst, tcb, tcall, sret, sretN, sif, snx, sdrop, sasg, gn, spar, snever, bend, startD, List.map_cons, List.map_nil, List.length_cons, List.length_nil, List.replicate, List.cons_append, List.nil_append, List.append_nil, List.getElem?_cons_zero, List.getElem?_cons_succ, List.set_cons_zero, List.set_cons_succ, Nat.reduceAdd, Nat.reduceSub, Nat.zero_add, tcallK, ro, List.getD_cons_zero, List.getD_cons_succ, true_and, wipeD, Bool.not_true, Bool.not_false, Bool.false_eq_true, if_true, if_false, q_add_i, q_add_s, q_add_l, q_add_t, q_sub, q_mul_i, q_mul_l, q_mul_s, q_div, q_mod, q_pow, q_lt, q_le, q_gt, q_ge, q_eq_i, q_eq_s, q_eq_b, q_ne_i, q_ne_s, q_ne_b, q_eq_l, q_eq_t, q_ne_l, q_ne_t, q_is, q_isnt, isN_int, isN_str, isN_lst, isN_tup, isN_ref, isN_bl, isN_non, q_neg, q_ix_l, q_ix_t, atD_s, at_1_0, at_2_0, at_2_1, at_3_0, at_3_1, at_3_2, at_4_0, at_4_1, at_4_2, at_4_3, q_len_l, q_len_t, q_len_s, q_abs, q_int_i, q_int_b, q_str, q_list_l, q_list_t, q_tuple_l, q_tuple_t, q_repr_l, q_repr_t, mput_same, mput_mput]
      refine ⟨by omega, ?_⟩
      exact hnx _ _ ⟨_, _, _, _, rfl, rfl, by rw [List.length_append, List.length_singleton]; omega, t1⟩
  simp only [tv, tk, to2, to1, tbl, tch, tand, tor, tnot, vand, vor, vnot, tif, a0, ac, as_, dtup, dlst, tcb, tcall, sret, sretN, sif, snx, sdrop, sasg, gn, spar, snever, bend, startD, List.map_cons, List.map_nil, List.length_cons, List.length_nil, List.replicate, List.cons_append, List.nil_append, List.append_nil, List.getElem?_cons_zero, List.getElem?_cons_succ, List.set_cons_zero, List.set_cons_succ, Nat.reduceAdd, Nat.reduceSub, Nat.zero_add, tcallK, ro, List.getD_cons_zero, List.getD_cons_succ, true_and, wipeD, Bool.not_true, Bool.not_false, Bool.false_eq_true, if_true, if_false, q_add_i, q_add_s, q_add_l, q_add_t, q_sub, q_mul_i, q_mul_l, q_mul_s, q_div, q_mod, q_pow, q_lt, q_le, q_gt, q_ge, q_eq_i, q_eq_s, q_eq_b, q_ne_i, q_ne_s, q_ne_b, q_eq_l, q_eq_t, q_ne_l, q_ne_t, q_is, q_isnt, isN_int, isN_str, isN_lst, isN_tup, isN_ref, isN_bl, isN_non, q_neg, q_ix_l, q_ix_t, atD_s, at_1_0, at_2_0, at_2_1, at_3_0, at_3_1, at_3_2, at_4_0, at_4_1, at_4_2, at_4_3, q_len_l, q_len_t, q_len_s, q_abs, q_int_i, q_int_b, q_str, q_list_l, q_list_t, q_tuple_l, q_tuple_t, q_repr_l, q_repr_t]
  by_cases ht : t = Str.ofString "new"
  · rw [decide_eq_true ht]
    simp only [if_true]
    exact step l (by omega)
  · rw [decide_eq_false ht]
    simp only [Bool.false_eq_true, if_false]
    exact step (l + 1) (by omega)
/-! the three that are asked -/
def sp_ask : SpD := spF2 fun x y M Q E => AnyRow isk M x ∧ AnyRow isk M y ∧ ((rowOkB x && rowOkB y) = false → E ⟨"InvalidRow", []⟩ M) ∧
  (∀ t ps t' qs, x = rowD t ps → y = rowD t' qs → GoodRow t ps → GoodRow t' qs → (sameEnds t t' ps qs = false → E ⟨"OtherEnds", []⟩ M) ∧
    (sameEnds t t' ps qs = true → (∃ a e m m', ps = psOf a e m ∧ qs = psOf a e m' ∧ SmallP a e m m') ∧ ∀ v M', MLe M M' → Q v M'))
/-- what need_branches wants, out of what is asked -/
theorem ask_need {x y : D} {M : MM} {Q Q' : DK} {E : EK} (h : sp_ask [x, y] M Q E) (k : ∀ t t' a e m m', x = rowD t (psOf a e m) → y = rowD t' (psOf a e m') → SmallP a e m m' → (∀ v M', MLe M M' → Q v M') → Q' .non M) : sp_need_branches [x, y] M Q' E := by
  obtain ⟨h1, h2, h3, h4⟩ := h
  refine ⟨h1, h2, h3, fun t ps t' qs ex ey gx gy => ⟨fun hs => ?_, fun hs => (h4 t ps t' qs ex ey gx gy).1 hs⟩⟩
  obtain ⟨⟨a, e, m, m', e1, e2, S⟩, q⟩ := (h4 t ps t' qs ex ey gx gy).2 hs
  subst e1 e2
  exact k t t' a e m m' ex ey S q
abbrev sp_differences : SpD := sp_ask
abbrev sp_together : SpD := sp_ask
abbrev sp_apart_phases : SpD := sp_ask
/-! def differences(one, other): slots 0 one, 1 other, 2 source, 3 low, 4 high -/
def t_differences : TDS :=
    (sseq (sdrop (tcall sp_need_branches (ac (tv 0) (ac (tv 1) a0))))
    (sseq (sasg (to2 rdIx (to2 rdIx (tv 0) (tk (.int 1))) (tk (.int 0))) (gn 2))
    (sseq (spar 3 4 (ac (tcall sp_rounded_up (ac (tcb rdSumA (ac (tsl (to2 rdIx (tv 0) (tk (.int 1))) (so_some (tk (.int 1))) (so_some (to1 rdNeg (tk (.int 1))))) a0)) (ac (tv 2) a0))) (ac (tcall sp_rounded_up (ac (tcb rdSumA (ac (tsl (to2 rdIx (tv 1) (tk (.int 1))) (so_some (tk (.int 1))) (so_some (to1 rdNeg (tk (.int 1))))) a0)) (ac (tv 2) a0))) a0)))
    (sret (tlrng (ac (to1 rdNeg (tv 3)) (ac (to2 rdAdd (tv 4) (tk (.int 1))) a0)))))))
/-! def together(one, other): slots 0 one, 1 other -/
def t_together : TDS :=
    (sseq (sdrop (tcall sp_need_branches (ac (tv 0) (ac (tv 1) a0))))
    (sseq (sif (tand (tbl (to2 rdEq (tcb rdLen (ac (to2 rdIx (tv 0) (tk (.int 1))) a0)) (tk (.int 2)))) (tbl (to2 rdEq (tcb rdLen (ac (to2 rdIx (tv 1) (tk (.int 1))) a0)) (tk (.int 2)))))
      (sret (tk (.str "always")))
      snx)
    (sret (tif (tbl (to2 rdIs (tcall sp_found_apart (ac (to2 rdIx (tv 0) (tk (.int 1))) (ac (to2 rdIx (tv 1) (tk (.int 1))) a0))) (tk .non))) (tk (.str "surely")) (tk (.str "perhaps"))))))
/-! def apart_phases(one, other): slots 0 one, 1 other, 2 found, 3 late, 4 mine, 5 its -/
def t_apart_phases : TDS :=
    (sseq (sdrop (tcall sp_need_branches (ac (tv 0) (ac (tv 1) a0))))
    (sseq (sasg (tcall sp_found_apart (ac (to2 rdIx (tv 0) (tk (.int 1))) (ac (to2 rdIx (tv 1) (tk (.int 1))) a0))) (gn 2))
    (sseq (sif (tbl (to2 rdIs (tv 2) (tk .non)))
      (sret (tk .non))
      snx)
    (sseq (sasg (tv 2) (gtup 3 (gsc (gn 3) (gsc (gn 4) (gsc (gn 5) gsn)))))
    (sret (dtup (ac (tcall sp_phases_by (ac (to2 rdIx (tv 0) (tk (.int 0))) (ac (tv 3) (ac (tv 4) a0)))) (ac (tcall sp_phases_by (ac (to2 rdIx (tv 0) (tk (.int 0))) (ac (tv 3) (ac (tv 5) a0)))) a0))))))))
theorem rdA {t : TDS} {N : List Str} (h : ∀ x y M Q E, sp_ask [x, y] M Q E → t (bend Q E) (startD N [x, y]) M) : ∀ ds M Q E, sp_ask ds M Q E → t (bend Q E) (startD N ds) M := rdF2 fun x y M Q E q => h x y M Q E q
section
variable {x y : D}
theorem at_20' : atI [x, y] 0 = some x := rfl
theorem at_21' : atI [x, y] 1 = some y := rfl
end
theorem up_abs {s a : Int} (h : 1 ≤ a) : (-(-s / a)).natAbs ≤ s.natAbs := by
  have := div_abs (a := -s) h
  omega
theorem rd_differences : ∀ ds M Q E, sp_differences ds M Q E → t_differences (bend Q E) (startD ["one", "other", "source", "low", "high"] ds) M := rdA fun x y M Q E h => by
  unfold t_differences
  refine seq_step fun K1 hK1 => ?_
  simp only [tv, tk, to2, to1, tbl, tch, tand, tor, tnot, vand, vor, vnot, tif, a0, ac, as_, dtup, dlst, tcb, tcall, sret, sretN, sif, snx, sdrop, sasg, gn, spar, snever, bend, startD, List.map_cons, List.map_nil, List.length_cons, List.length_nil, List.replicate, List.cons_append, List.nil_append, List.append_nil, List.getElem?_cons_zero, List.getElem?_cons_succ, List.set_cons_zero, List.set_cons_succ, Nat.reduceAdd, Nat.reduceSub, Nat.zero_add, tcallK, ro, List.getD_cons_zero, List.getD_cons_succ, true_and, wipeD, Bool.not_true, Bool.not_false, Bool.false_eq_true, if_true, if_false, q_add_i, q_add_s, q_add_l, q_add_t, q_sub, q_mul_i, q_mul_l, q_mul_s, q_div, q_mod, q_pow, q_lt, q_le, q_gt, q_ge, q_eq_i, q_eq_s, q_eq_b, q_ne_i, q_ne_s, q_ne_b, q_eq_l, q_eq_t, q_ne_l, q_ne_t, q_is, q_isnt, isN_int, isN_str, isN_lst, isN_tup, isN_ref, isN_bl, isN_non, q_neg, q_ix_l, q_ix_t, atD_s, at_1_0, at_2_0, at_2_1, at_3_0, at_3_1, at_3_2, at_4_0, at_4_1, at_4_2, at_4_3, q_len_l, q_len_t, q_len_s, q_abs, q_int_i, q_int_b, q_str, q_list_l, q_list_t, q_tuple_l, q_tuple_t, q_repr_l, q_repr_t]
  refine ask_need h fun t t' a e m m' ex ey S q => ?_
  subst ex ey hK1
  have mid : ∀ mm, cutD ((psOf a e mm).map D.int) (some 1) (some (-1)) = mm.map D.int := fun mm => cut_mid
  have hd : ∀ mm, atI ((psOf a e mm).map D.int) 0 = some (D.int a) := fun mm => at_head
  have z60 : ∀ w : List Int, (∀ i ∈ w, 1 ≤ i ∧ i ≤ 60) → w.length ≤ 3 → w.sum.natAbs ≤ 180 := fun w hw hl => by
    have key : ∀ w : List Int, (∀ i ∈ w, 1 ≤ i ∧ i ≤ 60) → w.sum.natAbs ≤ 60 * w.length := fun w => by
      induction w with
      | nil => intro _; decide
      | cons x w ih =>
        intro h
        have h1 := ih fun y hy => h y (List.mem_cons_of_mem _ hy)
        have h2 := h x List.mem_cons_self
        rw [List.sum_cons, List.length_cons]
        omega
    have := key w hw
    omega
  have s1 := z60 m S.hm S.l
  have s2 := z60 m' S.hm' S.l'
  generalize hP : psOf a e m = P
  generalize hR : psOf a e m' = R
  have mid1 : cutD (P.map D.int) (some 1) (some (-1)) = m.map D.int := by rw [← hP]; exact mid m
  have mid2 : cutD (R.map D.int) (some 1) (some (-1)) = m'.map D.int := by rw [← hR]; exact mid m'
  have hd1 : atI (P.map D.int) 0 = some (D.int a) := by rw [← hP]; exact hd m
  have ha := S.ha
  refine seq_step fun K2 hK2 => ?_
  simp only [tv, tk, to2, to1, tbl, tch, tand, tor, tnot, vand, vor, vnot, tif, a0, ac, as_, dtup, dlst, tcb, tcall, sret, sretN, sif, snx, sdrop, sasg, gn, spar, snever, bend, startD, List.map_cons, List.map_nil, List.length_cons, List.length_nil, List.replicate, List.cons_append, List.nil_append, List.append_nil, List.getElem?_cons_zero, List.getElem?_cons_succ, List.set_cons_zero, List.set_cons_succ, Nat.reduceAdd, Nat.reduceSub, Nat.zero_add, tcallK, ro, List.getD_cons_zero, List.getD_cons_succ, true_and, wipeD, Bool.not_true, Bool.not_false, Bool.false_eq_true, if_true, if_false, q_add_i, q_add_s, q_add_l, q_add_t, q_sub, q_mul_i, q_mul_l, q_mul_s, q_div, q_mod, q_pow, q_lt, q_le, q_gt, q_ge, q_eq_i, q_eq_s, q_eq_b, q_ne_i, q_ne_s, q_ne_b, q_eq_l, q_eq_t, q_ne_l, q_ne_t, q_is, q_isnt, isN_int, isN_str, isN_lst, isN_tup, isN_ref, isN_bl, isN_non, q_neg, q_ix_l, q_ix_t, atD_s, at_1_0, at_2_0, at_2_1, at_3_0, at_3_1, at_3_2, at_4_0, at_4_1, at_4_2, at_4_3, q_len_l, q_len_t, q_len_s, q_abs, q_int_i, q_int_b, q_str, q_list_l, q_list_t, q_tuple_l, q_tuple_t, q_repr_l, q_repr_t, rowD, rdIx, at_20', at_21', atD, hd1]
  subst hK2
  refine seq_step fun K3 hK3 => ?_
  simp only [spar, tv, tk, to2, to1, tbl, tch, tand, tor, tnot, vand, vor, vnot, tif, a0, ac, as_, dtup, dlst, tcb, tcall, sret, sretN, sif, snx, sdrop, sasg, gn, spar, snever, bend, startD, List.map_cons, List.map_nil, List.length_cons, List.length_nil, List.replicate, List.cons_append, List.nil_append, List.append_nil, List.getElem?_cons_zero, List.getElem?_cons_succ, List.set_cons_zero, List.set_cons_succ, Nat.reduceAdd, Nat.reduceSub, Nat.zero_add, tcallK, ro, List.getD_cons_zero, List.getD_cons_succ, true_and, wipeD, Bool.not_true, Bool.not_false, Bool.false_eq_true, if_true, if_false, q_add_i, q_add_s, q_add_l, q_add_t, q_sub, q_mul_i, q_mul_l, q_mul_s, q_div, q_mod, q_pow, q_lt, q_le, q_gt, q_ge, q_eq_i, q_eq_s, q_eq_b, q_ne_i, q_ne_s, q_ne_b, q_eq_l, q_eq_t, q_ne_l, q_ne_t, q_is, q_isnt, isN_int, isN_str, isN_lst, isN_tup, isN_ref, isN_bl, isN_non, q_neg, q_ix_l, q_ix_t, atD_s, at_1_0, at_2_0, at_2_1, at_3_0, at_3_1, at_3_2, at_4_0, at_4_1, at_4_2, at_4_3, q_len_l, q_len_t, q_len_s, q_abs, q_int_i, q_int_b, q_str, q_list_l, q_list_t, q_tuple_l, q_tuple_t, q_repr_l, q_repr_t, tsl, so_some, rdIx, at_20', at_21', atD, mid1, mid2, q_sum_t]
  refine ⟨_, _, rfl, rfl, by omega, by omega, ?_⟩
  simp only [tv, tk, to2, to1, tbl, tch, tand, tor, tnot, vand, vor, vnot, tif, a0, ac, as_, dtup, dlst, tcb, tcall, sret, sretN, sif, snx, sdrop, sasg, gn, spar, snever, bend, startD, List.map_cons, List.map_nil, List.length_cons, List.length_nil, List.replicate, List.cons_append, List.nil_append, List.append_nil, List.getElem?_cons_zero, List.getElem?_cons_succ, List.set_cons_zero, List.set_cons_succ, Nat.reduceAdd, Nat.reduceSub, Nat.zero_add, tcallK, ro, List.getD_cons_zero, List.getD_cons_succ, true_and, wipeD, Bool.not_true, Bool.not_false, Bool.false_eq_true, if_true, if_false, q_add_i, q_add_s, q_add_l, q_add_t, q_sub, q_mul_i, q_mul_l, q_mul_s, q_div, q_mod, q_pow, q_lt, q_le, q_gt, q_ge, q_eq_i, q_eq_s, q_eq_b, q_ne_i, q_ne_s, q_ne_b, q_eq_l, q_eq_t, q_ne_l, q_ne_t, q_is, q_isnt, isN_int, isN_str, isN_lst, isN_tup, isN_ref, isN_bl, isN_non, q_neg, q_ix_l, q_ix_t, atD_s, at_1_0, at_2_0, at_2_1, at_3_0, at_3_1, at_3_2, at_4_0, at_4_1, at_4_2, at_4_3, q_len_l, q_len_t, q_len_s, q_abs, q_int_i, q_int_b, q_str, q_list_l, q_list_t, q_tuple_l, q_tuple_t, q_repr_l, q_repr_t, tsl, so_some, rdIx, at_20', at_21', atD, mid1, mid2, q_sum_t]
  refine ⟨_, _, rfl, rfl, by omega, by omega, ?_⟩
  have u1 := up_abs (s := m.sum) ha.1
  have u2 := up_abs (s := m'.sum) ha.1
  generalize -(-m.sum / a) = lo at u1
  generalize -(-m'.sum / a) = hi at u2
  simp only [tv, tk, to2, to1, tbl, tch, tand, tor, tnot, vand, vor, vnot, tif, a0, ac, as_, dtup, dlst, tcb, tcall, sret, sretN, sif, snx, sdrop, sasg, gn, spar, snever, bend, startD, List.map_cons, List.map_nil, List.length_cons, List.length_nil, List.replicate, List.cons_append, List.nil_append, List.append_nil, List.getElem?_cons_zero, List.getElem?_cons_succ, List.set_cons_zero, List.set_cons_succ, Nat.reduceAdd, Nat.reduceSub, Nat.zero_add, tcallK, ro, List.getD_cons_zero, List.getD_cons_succ, true_and, wipeD, Bool.not_true, Bool.not_false, Bool.false_eq_true, if_true, if_false, q_add_i, q_add_s, q_add_l, q_add_t, q_sub, q_mul_i, q_mul_l, q_mul_s, q_div, q_mod, q_pow, q_lt, q_le, q_gt, q_ge, q_eq_i, q_eq_s, q_eq_b, q_ne_i, q_ne_s, q_ne_b, q_eq_l, q_eq_t, q_ne_l, q_ne_t, q_is, q_isnt, isN_int, isN_str, isN_lst, isN_tup, isN_ref, isN_bl, isN_non, q_neg, q_ix_l, q_ix_t, atD_s, at_1_0, at_2_0, at_2_1, at_3_0, at_3_1, at_3_2, at_4_0, at_4_1, at_4_2, at_4_3, q_len_l, q_len_t, q_len_s, q_abs, q_int_i, q_int_b, q_str, q_list_l, q_list_t, q_tuple_l, q_tuple_t, q_repr_l, q_repr_t]
  subst hK3
  simp only [tv, tk, to2, to1, tbl, tch, tand, tor, tnot, vand, vor, vnot, tif, a0, ac, as_, dtup, dlst, tcb, tcall, sret, sretN, sif, snx, sdrop, sasg, gn, spar, snever, bend, startD, List.map_cons, List.map_nil, List.length_cons, List.length_nil, List.replicate, List.cons_append, List.nil_append, List.append_nil, List.getElem?_cons_zero, List.getElem?_cons_succ, List.set_cons_zero, List.set_cons_succ, Nat.reduceAdd, Nat.reduceSub, Nat.zero_add, tcallK, ro, List.getD_cons_zero, List.getD_cons_succ, true_and, wipeD, Bool.not_true, Bool.not_false, Bool.false_eq_true, if_true, if_false, q_add_i, q_add_s, q_add_l, q_add_t, q_sub, q_mul_i, q_mul_l, q_mul_s, q_div, q_mod, q_pow, q_lt, q_le, q_gt, q_ge, q_eq_i, q_eq_s, q_eq_b, q_ne_i, q_ne_s, q_ne_b, q_eq_l, q_eq_t, q_ne_l, q_ne_t, q_is, q_isnt, isN_int, isN_str, isN_lst, isN_tup, isN_ref, isN_bl, isN_non, q_neg, q_ix_l, q_ix_t, atD_s, at_1_0, at_2_0, at_2_1, at_3_0, at_3_1, at_3_2, at_4_0, at_4_1, at_4_2, at_4_3, q_len_l, q_len_t, q_len_s, q_abs, q_int_i, q_int_b, q_str, q_list_l, q_list_t, q_tuple_l, q_tuple_t, q_repr_l, q_repr_t, tlrng]
  exact ⟨⟨by omega, by omega, by omega, by omega, by omega⟩, q _ _ (MLe.refl _)⟩
theorem rd_together : ∀ ds M Q E, sp_together ds M Q E → t_together (bend Q E) (startD ["one", "other"] ds) M := rdA fun x y M Q E h => by
  unfold t_together
  refine seq_step fun K1 hK1 => ?_
  simp only [tv, tk, to2, to1, tbl, tch, tand, tor, tnot, vand, vor, vnot, tif, a0, ac, as_, dtup, dlst, tcb, tcall, sret, sretN, sif, snx, sdrop, sasg, gn, spar, snever, bend, startD, List.map_cons, List.map_nil, List.length_cons, List.length_nil, List.replicate, List.cons_append, List.nil_append, List.append_nil, List.getElem?_cons_zero, List.getElem?_cons_succ, List.set_cons_zero, List.set_cons_succ, Nat.reduceAdd, Nat.reduceSub, Nat.zero_add, tcallK, ro, List.getD_cons_zero, List.getD_cons_succ, true_and, wipeD, Bool.not_true, Bool.not_false, Bool.false_eq_true, if_true, if_false, q_add_i, q_add_s, q_add_l, q_add_t, q_sub, q_mul_i, q_mul_l, q_mul_s, q_div, q_mod, q_pow, q_lt, q_le, q_gt, q_ge, q_eq_i, q_eq_s, q_eq_b, q_ne_i, q_ne_s, q_ne_b, q_eq_l, q_eq_t, q_ne_l, q_ne_t, q_is, q_isnt, isN_int, isN_str, isN_lst, isN_tup, isN_ref, isN_bl, isN_non, q_neg, q_ix_l, q_ix_t, atD_s, at_1_0, at_2_0, at_2_1, at_3_0, at_3_1, at_3_2, at_4_0, at_4_1, at_4_2, at_4_3, q_len_l, q_len_t, q_len_s, q_abs, q_int_i, q_int_b, q_str, q_list_l, q_list_t, q_tuple_l, q_tuple_t, q_repr_l, q_repr_t]
  refine ask_need h fun t t' a e m m' ex ey S q => ?_
  subst ex ey hK1
  have q' := fun v => q v M (MLe.refl _)
  refine seq_step fun K2 hK2 => ?_
  have k2 : K2 [some (rowD t (psOf a e m)), some (rowD t' (psOf a e m'))] M := by
    subst hK2
    simp only [tv, tk, to2, to1, tbl, tch, tand, tor, tnot, vand, vor, vnot, tif, a0, ac, as_, dtup, dlst, tcb, tcall, sret, sretN, sif, snx, sdrop, sasg, gn, spar, snever, bend, startD, List.map_cons, List.map_nil, List.length_cons, List.length_nil, List.replicate, List.cons_append, List.nil_append, List.append_nil, List.getElem?_cons_zero, List.getElem?_cons_succ, List.set_cons_zero, List.set_cons_succ, Nat.reduceAdd, Nat.reduceSub, Nat.zero_add, tcallK, ro, List.getD_cons_zero, List.getD_cons_succ, true_and, wipeD, Bool.not_true, Bool.not_false, Bool.false_eq_true, if_true, if_false, q_add_i, q_add_s, q_add_l, q_add_t, q_sub, q_mul_i, q_mul_l, q_mul_s, q_div, q_mod, q_pow, q_lt, q_le, q_gt, q_ge, q_eq_i, q_eq_s, q_eq_b, q_ne_i, q_ne_s, q_ne_b, q_eq_l, q_eq_t, q_ne_l, q_ne_t, q_is, q_isnt, isN_int, isN_str, isN_lst, isN_tup, isN_ref, isN_bl, isN_non, q_neg, q_ix_l, q_ix_t, atD_s, at_1_0, at_2_0, at_2_1, at_3_0, at_3_1, at_3_2, at_4_0, at_4_1, at_4_2, at_4_3, q_len_l, q_len_t, q_len_s, q_abs, q_int_i, q_int_b, q_str, q_list_l, q_list_t, q_tuple_l, q_tuple_t, q_repr_l, q_repr_t, rowD, rdIx, at_20', at_21', atD]
    refine ⟨a, e, m, m', rfl, rfl, S, ?_, fun late u v _ _ _ _ => ?_⟩
    · simp only [tv, tk, to2, to1, tbl, tch, tand, tor, tnot, vand, vor, vnot, tif, a0, ac, as_, dtup, dlst, tcb, tcall, sret, sretN, sif, snx, sdrop, sasg, gn, spar, snever, bend, startD, List.map_cons, List.map_nil, List.length_cons, List.length_nil, List.replicate, List.cons_append, List.nil_append, List.append_nil, List.getElem?_cons_zero, List.getElem?_cons_succ, List.set_cons_zero, List.set_cons_succ, Nat.reduceAdd, Nat.reduceSub, Nat.zero_add, tcallK, ro, List.getD_cons_zero, List.getD_cons_succ, true_and, wipeD, Bool.not_true, Bool.not_false, Bool.false_eq_true, if_true, if_false, q_add_i, q_add_s, q_add_l, q_add_t, q_sub, q_mul_i, q_mul_l, q_mul_s, q_div, q_mod, q_pow, q_lt, q_le, q_gt, q_ge, q_eq_i, q_eq_s, q_eq_b, q_ne_i, q_ne_s, q_ne_b, q_eq_l, q_eq_t, q_ne_l, q_ne_t, q_is, q_isnt, isN_int, isN_str, isN_lst, isN_tup, isN_ref, isN_bl, isN_non, q_neg, q_ix_l, q_ix_t, atD_s, at_1_0, at_2_0, at_2_1, at_3_0, at_3_1, at_3_2, at_4_0, at_4_1, at_4_2, at_4_3, q_len_l, q_len_t, q_len_s, q_abs, q_int_i, q_int_b, q_str, q_list_l, q_list_t, q_tuple_l, q_tuple_t, q_repr_l, q_repr_t]; exact q' _
    · simp only [tv, tk, to2, to1, tbl, tch, tand, tor, tnot, vand, vor, vnot, tif, a0, ac, as_, dtup, dlst, tcb, tcall, sret, sretN, sif, snx, sdrop, sasg, gn, spar, snever, bend, startD, List.map_cons, List.map_nil, List.length_cons, List.length_nil, List.replicate, List.cons_append, List.nil_append, List.append_nil, List.getElem?_cons_zero, List.getElem?_cons_succ, List.set_cons_zero, List.set_cons_succ, Nat.reduceAdd, Nat.reduceSub, Nat.zero_add, tcallK, ro, List.getD_cons_zero, List.getD_cons_succ, true_and, wipeD, Bool.not_true, Bool.not_false, Bool.false_eq_true, if_true, if_false, q_add_i, q_add_s, q_add_l, q_add_t, q_sub, q_mul_i, q_mul_l, q_mul_s, q_div, q_mod, q_pow, q_lt, q_le, q_gt, q_ge, q_eq_i, q_eq_s, q_eq_b, q_ne_i, q_ne_s, q_ne_b, q_eq_l, q_eq_t, q_ne_l, q_ne_t, q_is, q_isnt, isN_int, isN_str, isN_lst, isN_tup, isN_ref, isN_bl, isN_non, q_neg, q_ix_l, q_ix_t, atD_s, at_1_0, at_2_0, at_2_1, at_3_0, at_3_1, at_3_2, at_4_0, at_4_1, at_4_2, at_4_3, q_len_l, q_len_t, q_len_s, q_abs, q_int_i, q_int_b, q_str, q_list_l, q_list_t, q_tuple_l, q_tuple_t, q_repr_l, q_repr_t]; exact q' _
  have e1 : ((psOf a e m).map D.int).length = m.length + 2 := by rw [List.length_map, ps_len]
  have e2 : ((psOf a e m').map D.int).length = m'.length + 2 := by rw [List.length_map, ps_len]
  unfold rowD at k2 ⊢
  generalize (psOf a e m).map D.int = P at e1 k2 ⊢
  generalize (psOf a e m').map D.int = R at e2 k2 ⊢
  simp only [tv, tk, to2, to1, tbl, tch, tand, tor, tnot, vand, vor, vnot, tif, a0, ac, as_, dtup, dlst, tcb, tcall, sret, sretN, sif, snx, sdrop, sasg, gn, spar, snever, bend, startD, List.map_cons, List.map_nil, List.length_cons, List.length_nil, List.replicate, List.cons_append, List.nil_append, List.append_nil, List.getElem?_cons_zero, List.getElem?_cons_succ, List.set_cons_zero, List.set_cons_succ, Nat.reduceAdd, Nat.reduceSub, Nat.zero_add, tcallK, ro, List.getD_cons_zero, List.getD_cons_succ, true_and, wipeD, Bool.not_true, Bool.not_false, Bool.false_eq_true, if_true, if_false, q_add_i, q_add_s, q_add_l, q_add_t, q_sub, q_mul_i, q_mul_l, q_mul_s, q_div, q_mod, q_pow, q_lt, q_le, q_gt, q_ge, q_eq_i, q_eq_s, q_eq_b, q_ne_i, q_ne_s, q_ne_b, q_eq_l, q_eq_t, q_ne_l, q_ne_t, q_is, q_isnt, isN_int, isN_str, isN_lst, isN_tup, isN_ref, isN_bl, isN_non, q_neg, q_ix_l, q_ix_t, atD_s, at_1_0, at_2_0, at_2_1, at_3_0, at_3_1, at_3_2, at_4_0, at_4_1, at_4_2, at_4_3, q_len_l, q_len_t, q_len_s, q_abs, q_int_i, q_int_b, q_str, q_list_l, q_list_t, q_tuple_l, q_tuple_t, q_repr_l, q_repr_t, rdIx, at_20', at_21', atD]
  by_cases c1 : (P.length : Int) = 2
  · rw [decide_eq_true c1]
    simp only [if_true]
    by_cases c2 : (R.length : Int) = 2
    · rw [decide_eq_true c2]
      simp only [if_true]
      exact q' _
    · rw [decide_eq_false c2]
      simp only [Bool.false_eq_true, if_false]
      exact k2
  · rw [decide_eq_false c1]
    simp only [Bool.false_eq_true, if_false]
    exact k2
theorem rd_apart_phases : ∀ ds M Q E, sp_apart_phases ds M Q E → t_apart_phases (bend Q E) (startD ["one", "other", "found", "late", "mine", "its"] ds) M := rdA fun x y M Q E h => by
  unfold t_apart_phases
  refine seq_step fun K1 hK1 => ?_
  simp only [tv, tk, to2, to1, tbl, tch, tand, tor, tnot, vand, vor, vnot, tif, a0, ac, as_, dtup, dlst, tcb, tcall, sret, sretN, sif, snx, sdrop, sasg, gn, spar, snever, bend, startD, List.map_cons, List.map_nil, List.length_cons, List.length_nil, List.replicate, List.cons_append, List.nil_append, List.append_nil, List.getElem?_cons_zero, List.getElem?_cons_succ, List.set_cons_zero, List.set_cons_succ, Nat.reduceAdd, Nat.reduceSub, Nat.zero_add, tcallK, ro, List.getD_cons_zero, List.getD_cons_succ, true_and, wipeD, Bool.not_true, Bool.not_false, Bool.false_eq_true, if_true, if_false, q_add_i, q_add_s, q_add_l, q_add_t, q_sub, q_mul_i, q_mul_l, q_mul_s, q_div, q_mod, q_pow, q_lt, q_le, q_gt, q_ge, q_eq_i, q_eq_s, q_eq_b, q_ne_i, q_ne_s, q_ne_b, q_eq_l, q_eq_t, q_ne_l, q_ne_t, q_is, q_isnt, isN_int, isN_str, isN_lst, isN_tup, isN_ref, isN_bl, isN_non, q_neg, q_ix_l, q_ix_t, atD_s, at_1_0, at_2_0, at_2_1, at_3_0, at_3_1, at_3_2, at_4_0, at_4_1, at_4_2, at_4_3, q_len_l, q_len_t, q_len_s, q_abs, q_int_i, q_int_b, q_str, q_list_l, q_list_t, q_tuple_l, q_tuple_t, q_repr_l, q_repr_t]
  refine ask_need h fun t t' a e m m' ex ey S q => ?_
  subst ex ey hK1
  refine seq_step fun K2 hK2 => ?_
  simp only [tv, tk, to2, to1, tbl, tch, tand, tor, tnot, vand, vor, vnot, tif, a0, ac, as_, dtup, dlst, tcb, tcall, sret, sretN, sif, snx, sdrop, sasg, gn, spar, snever, bend, startD, List.map_cons, List.map_nil, List.length_cons, List.length_nil, List.replicate, List.cons_append, List.nil_append, List.append_nil, List.getElem?_cons_zero, List.getElem?_cons_succ, List.set_cons_zero, List.set_cons_succ, Nat.reduceAdd, Nat.reduceSub, Nat.zero_add, tcallK, ro, List.getD_cons_zero, List.getD_cons_succ, true_and, wipeD, Bool.not_true, Bool.not_false, Bool.false_eq_true, if_true, if_false, q_add_i, q_add_s, q_add_l, q_add_t, q_sub, q_mul_i, q_mul_l, q_mul_s, q_div, q_mod, q_pow, q_lt, q_le, q_gt, q_ge, q_eq_i, q_eq_s, q_eq_b, q_ne_i, q_ne_s, q_ne_b, q_eq_l, q_eq_t, q_ne_l, q_ne_t, q_is, q_isnt, isN_int, isN_str, isN_lst, isN_tup, isN_ref, isN_bl, isN_non, q_neg, q_ix_l, q_ix_t, atD_s, at_1_0, at_2_0, at_2_1, at_3_0, at_3_1, at_3_2, at_4_0, at_4_1, at_4_2, at_4_3, q_len_l, q_len_t, q_len_s, q_abs, q_int_i, q_int_b, q_str, q_list_l, q_list_t, q_tuple_l, q_tuple_t, q_repr_l, q_repr_t, rowD, rdIx, at_20', at_21', atD]
  refine ⟨a, e, m, m', rfl, rfl, S, ?_, fun late u v d0 d1 wu wv => ?_⟩
  · subst hK2
    simp only [tv, tk, to2, to1, tbl, tch, tand, tor, tnot, vand, vor, vnot, tif, a0, ac, as_, dtup, dlst, tcb, tcall, sret, sretN, sif, snx, sdrop, sasg, gn, spar, snever, bend, startD, List.map_cons, List.map_nil, List.length_cons, List.length_nil, List.replicate, List.cons_append, List.nil_append, List.append_nil, List.getElem?_cons_zero, List.getElem?_cons_succ, List.set_cons_zero, List.set_cons_succ, Nat.reduceAdd, Nat.reduceSub, Nat.zero_add, tcallK, ro, List.getD_cons_zero, List.getD_cons_succ, true_and, wipeD, Bool.not_true, Bool.not_false, Bool.false_eq_true, if_true, if_false, q_add_i, q_add_s, q_add_l, q_add_t, q_sub, q_mul_i, q_mul_l, q_mul_s, q_div, q_mod, q_pow, q_lt, q_le, q_gt, q_ge, q_eq_i, q_eq_s, q_eq_b, q_ne_i, q_ne_s, q_ne_b, q_eq_l, q_eq_t, q_ne_l, q_ne_t, q_is, q_isnt, isN_int, isN_str, isN_lst, isN_tup, isN_ref, isN_bl, isN_non, q_neg, q_ix_l, q_ix_t, atD_s, at_1_0, at_2_0, at_2_1, at_3_0, at_3_1, at_3_2, at_4_0, at_4_1, at_4_2, at_4_3, q_len_l, q_len_t, q_len_s, q_abs, q_int_i, q_int_b, q_str, q_list_l, q_list_t, q_tuple_l, q_tuple_t, q_repr_l, q_repr_t, sseq]
    exact q _ _ (MLe.refl _)
  · subst hK2
    have l1 := S.l
    have l2 := S.l'
    refine seq_step fun K3 hK3 => ?_
    simp only [tv, tk, to2, to1, tbl, tch, tand, tor, tnot, vand, vor, vnot, tif, a0, ac, as_, dtup, dlst, tcb, tcall, sret, sretN, sif, snx, sdrop, sasg, gn, spar, snever, bend, startD, List.map_cons, List.map_nil, List.length_cons, List.length_nil, List.replicate, List.cons_append, List.nil_append, List.append_nil, List.getElem?_cons_zero, List.getElem?_cons_succ, List.set_cons_zero, List.set_cons_succ, Nat.reduceAdd, Nat.reduceSub, Nat.zero_add, tcallK, ro, List.getD_cons_zero, List.getD_cons_succ, true_and, wipeD, Bool.not_true, Bool.not_false, Bool.false_eq_true, if_true, if_false, q_add_i, q_add_s, q_add_l, q_add_t, q_sub, q_mul_i, q_mul_l, q_mul_s, q_div, q_mod, q_pow, q_lt, q_le, q_gt, q_ge, q_eq_i, q_eq_s, q_eq_b, q_ne_i, q_ne_s, q_ne_b, q_eq_l, q_eq_t, q_ne_l, q_ne_t, q_is, q_isnt, isN_int, isN_str, isN_lst, isN_tup, isN_ref, isN_bl, isN_non, q_neg, q_ix_l, q_ix_t, atD_s, at_1_0, at_2_0, at_2_1, at_3_0, at_3_1, at_3_2, at_4_0, at_4_1, at_4_2, at_4_3, q_len_l, q_len_t, q_len_s, q_abs, q_int_i, q_int_b, q_str, q_list_l, q_list_t, q_tuple_l, q_tuple_t, q_repr_l, q_repr_t]
    subst hK3
    simp only [tv, tk, to2, to1, tbl, tch, tand, tor, tnot, vand, vor, vnot, tif, a0, ac, as_, dtup, dlst, tcb, tcall, sret, sretN, sif, snx, sdrop, sasg, gn, spar, snever, bend, startD, List.map_cons, List.map_nil, List.length_cons, List.length_nil, List.replicate, List.cons_append, List.nil_append, List.append_nil, List.getElem?_cons_zero, List.getElem?_cons_succ, List.set_cons_zero, List.set_cons_succ, Nat.reduceAdd, Nat.reduceSub, Nat.zero_add, tcallK, ro, List.getD_cons_zero, List.getD_cons_succ, true_and, wipeD, Bool.not_true, Bool.not_false, Bool.false_eq_true, if_true, if_false, q_add_i, q_add_s, q_add_l, q_add_t, q_sub, q_mul_i, q_mul_l, q_mul_s, q_div, q_mod, q_pow, q_lt, q_le, q_gt, q_ge, q_eq_i, q_eq_s, q_eq_b, q_ne_i, q_ne_s, q_ne_b, q_eq_l, q_eq_t, q_ne_l, q_ne_t, q_is, q_isnt, isN_int, isN_str, isN_lst, isN_tup, isN_ref, isN_bl, isN_non, q_neg, q_ix_l, q_ix_t, atD_s, at_1_0, at_2_0, at_2_1, at_3_0, at_3_1, at_3_2, at_4_0, at_4_1, at_4_2, at_4_3, q_len_l, q_len_t, q_len_s, q_abs, q_int_i, q_int_b, q_str, q_list_l, q_list_t, q_tuple_l, q_tuple_t, q_repr_l, q_repr_t, sseq, gtup, gsc, gsn, rdIx, at_20', at_21', atD]
    refine ⟨t, late, m.length + 1, rfl, rfl, by omega, by omega, by omega, wu, fun p1 M1 k1 => ?_⟩
    simp only [tv, tk, to2, to1, tbl, tch, tand, tor, tnot, vand, vor, vnot, tif, a0, ac, as_, dtup, dlst, tcb, tcall, sret, sretN, sif, snx, sdrop, sasg, gn, spar, snever, bend, startD, List.map_cons, List.map_nil, List.length_cons, List.length_nil, List.replicate, List.cons_append, List.nil_append, List.append_nil, List.getElem?_cons_zero, List.getElem?_cons_succ, List.set_cons_zero, List.set_cons_succ, Nat.reduceAdd, Nat.reduceSub, Nat.zero_add, tcallK, ro, List.getD_cons_zero, List.getD_cons_succ, true_and, wipeD, Bool.not_true, Bool.not_false, Bool.false_eq_true, if_true, if_false, q_add_i, q_add_s, q_add_l, q_add_t, q_sub, q_mul_i, q_mul_l, q_mul_s, q_div, q_mod, q_pow, q_lt, q_le, q_gt, q_ge, q_eq_i, q_eq_s, q_eq_b, q_ne_i, q_ne_s, q_ne_b, q_eq_l, q_eq_t, q_ne_l, q_ne_t, q_is, q_isnt, isN_int, isN_str, isN_lst, isN_tup, isN_ref, isN_bl, isN_non, q_neg, q_ix_l, q_ix_t, atD_s, at_1_0, at_2_0, at_2_1, at_3_0, at_3_1, at_3_2, at_4_0, at_4_1, at_4_2, at_4_3, q_len_l, q_len_t, q_len_s, q_abs, q_int_i, q_int_b, q_str, q_list_l, q_list_t, q_tuple_l, q_tuple_t, q_repr_l, q_repr_t, rdIx, at_20', at_21', atD]
    refine ⟨t, late, m'.length + 1, rfl, rfl, by omega, by omega, by omega, wv, fun p2 M2 k2 => ?_⟩
    simp only [tv, tk, to2, to1, tbl, tch, tand, tor, tnot, vand, vor, vnot, tif, a0, ac, as_, dtup, dlst, tcb, tcall, sret, sretN, sif, snx, sdrop, sasg, gn, spar, snever, bend, startD, List.map_cons, List.map_nil, List.length_cons, List.length_nil, List.replicate, List.cons_append, List.nil_append, List.append_nil, List.getElem?_cons_zero, List.getElem?_cons_succ, List.set_cons_zero, List.set_cons_succ, Nat.reduceAdd, Nat.reduceSub, Nat.zero_add, tcallK, ro, List.getD_cons_zero, List.getD_cons_succ, true_and, wipeD, Bool.not_true, Bool.not_false, Bool.false_eq_true, if_true, if_false, q_add_i, q_add_s, q_add_l, q_add_t, q_sub, q_mul_i, q_mul_l, q_mul_s, q_div, q_mod, q_pow, q_lt, q_le, q_gt, q_ge, q_eq_i, q_eq_s, q_eq_b, q_ne_i, q_ne_s, q_ne_b, q_eq_l, q_eq_t, q_ne_l, q_ne_t, q_is, q_isnt, isN_int, isN_str, isN_lst, isN_tup, isN_ref, isN_bl, isN_non, q_neg, q_ix_l, q_ix_t, atD_s, at_1_0, at_2_0, at_2_1, at_3_0, at_3_1, at_3_2, at_4_0, at_4_1, at_4_2, at_4_3, q_len_l, q_len_t, q_len_s, q_abs, q_int_i, q_int_b, q_str, q_list_l, q_list_t, q_tuple_l, q_tuple_t, q_repr_l, q_repr_t]
    exact ⟨by decide, q _ _ (k1.trans k2)⟩
end K41

namespace K41
open PySem PySem.Spec L2 DL
open TL
/-! a line made -/
def lineO (t : Str) (ps : List Int) : MO := .ins "Line" [(Str.ofString "kept_row", rowD t ps)]
def sp_Line___init__ : SpD := spF3 fun s t r M Q _ => ∃ p t' ps, s = .ref p ∧ t = .str t' ∧ r = .tup (ps.map D.int) ∧ GoodRow t' ps ∧ M p = some (.ins "Line" []) ∧ Q .non (mput M p (lineO t' ps))
/-! def Line___init__(self, tie, periods): slots 0 self, 1 tie, 2 periods -/
def t_Line___init__ : TDS :=
    (sseq (sdrop (tcall sp_need_row (ac (dtup (ac (tv 1) (ac (tv 2) a0))) a0)))
    (sfld fc_kept_row "kept_row" (dtup (ac (tv 1) (ac (tcb rdTuple (ac (tv 2) a0)) a0))) (tv 0)))
theorem rd_Line___init__ : ∀ ds M Q E, sp_Line___init__ ds M Q E → t_Line___init__ (bend Q E) (startD ["self", "tie", "periods"] ds) M := rdF3 fun s t r M Q E ⟨p, t', ps, e1, e2, e3, g, h, q⟩ => by
  subst e1 e2 e3
  unfold t_Line___init__
  have z : sizeLine = 16777216 := rfl
  refine seq_step fun K1 hK1 => ?_
  simp only [tv, tk, to2, to1, tbl, tch, tand, tor, tnot, vand, vor, vnot, tif, a0, ac, as_, dtup, dlst, tcb, tcall, sret, sretN, sif, snx, sdrop, sasg, gn, spar, snever, bend, startD, List.map_cons, List.map_nil, List.length_cons, List.length_nil, List.replicate, List.cons_append, List.nil_append, List.append_nil, List.getElem?_cons_zero, List.getElem?_cons_succ, List.set_cons_zero, List.set_cons_succ, Nat.reduceAdd, Nat.reduceSub, Nat.zero_add, tcallK, ro, List.getD_cons_zero, List.getD_cons_succ, true_and, wipeD, Bool.not_true, Bool.not_false, Bool.false_eq_true, if_true, if_false, q_add_i, q_add_s, q_add_l, q_add_t, q_sub, q_mul_i, q_mul_l, q_mul_s, q_div, q_mod, q_pow, q_lt, q_le, q_gt, q_ge, q_eq_i, q_eq_s, q_eq_b, q_ne_i, q_ne_s, q_ne_b, q_eq_l, q_eq_t, q_ne_l, q_ne_t, q_is, q_isnt, isN_int, isN_str, isN_lst, isN_tup, isN_ref, isN_bl, isN_non, q_neg, q_ix_l, q_ix_t, atD_s, at_1_0, at_2_0, at_2_1, at_3_0, at_3_1, at_3_2, at_4_0, at_4_1, at_4_2, at_4_3, q_len_l, q_len_t, q_len_s, q_abs, q_int_i, q_int_b, q_str, q_list_l, q_list_t, q_tuple_l, q_tuple_t, q_repr_l, q_repr_t, sfld]
  refine ⟨by decide, any_row (t := t') (ps := ps), fun _ => ?_, fun w => ?_⟩
  · subst hK1
    simp only [tv, tk, to2, to1, tbl, tch, tand, tor, tnot, vand, vor, vnot, tif, a0, ac, as_, dtup, dlst, tcb, tcall, sret, sretN, sif, snx, sdrop, sasg, gn, spar, snever, bend, startD, List.map_cons, List.map_nil, List.length_cons, List.length_nil, List.replicate, List.cons_append, List.nil_append, List.append_nil, List.getElem?_cons_zero, List.getElem?_cons_succ, List.set_cons_zero, List.set_cons_succ, Nat.reduceAdd, Nat.reduceSub, Nat.zero_add, tcallK, ro, List.getD_cons_zero, List.getD_cons_succ, true_and, wipeD, Bool.not_true, Bool.not_false, Bool.false_eq_true, if_true, if_false, q_add_i, q_add_s, q_add_l, q_add_t, q_sub, q_mul_i, q_mul_l, q_mul_s, q_div, q_mod, q_pow, q_lt, q_le, q_gt, q_ge, q_eq_i, q_eq_s, q_eq_b, q_ne_i, q_ne_s, q_ne_b, q_eq_l, q_eq_t, q_ne_l, q_ne_t, q_is, q_isnt, isN_int, isN_str, isN_lst, isN_tup, isN_ref, isN_bl, isN_non, q_neg, q_ix_l, q_ix_t, atD_s, at_1_0, at_2_0, at_2_1, at_3_0, at_3_1, at_3_2, at_4_0, at_4_1, at_4_2, at_4_3, q_len_l, q_len_t, q_len_s, q_abs, q_int_i, q_int_b, q_str, q_list_l, q_list_t, q_tuple_l, q_tuple_t, q_repr_l, q_repr_t, sfld, h]
    exact ⟨by decide, List.mem_cons_self, by show 0 < 1000; decide, q⟩
  · rw [show rowOkB (.tup [.str t', .tup (ps.map D.int)]) = true from good_rowOk g] at w
    cases w
abbrev mk_Line : SpD := starSp 2 sp_Line___init__
/-! the spring -/
def Spr (M : MM) (p : Addr) (n : Nat) : Prop := ∃ a b c : Int, M p = some (.lst [.int a, .int b, .int c]) ∧ 0 ≤ a ∧ 0 ≤ b ∧ b < 2 ^ 62 ∧ 0 ≤ c ∧ c ≤ n
theorem Spr.more {M : MM} {p : Addr} {n m : Nat} (h : Spr M p n) (l : n ≤ m) : Spr M p m := by
  obtain ⟨a, b, c, e, h1, h2, h3, h4, h5⟩ := h
  exact ⟨a, b, c, e, h1, h2, h3, h4, by omega⟩
theorem Spr.mle {M M' : MM} {p : Addr} {n : Nat} (h : Spr M p n) (l : MLe M M') : Spr M' p n := by
  obtain ⟨a, b, c, e, r⟩ := h
  exact ⟨a, b, c, l _ _ e, r⟩
def sp__law_spring : SpD := spF1 fun c M Q _ => ∃ z, c = .int z ∧ Builtin.Int.intBits z ≤ 1048576 ∧ ∀ p M', M p = none → MLe M M' → Spr M' p 0 → Q (.ref p) M'
/-! def _law_spring(cell): slots 0 cell, 1 rest -/
def t__law_spring : TDS :=
    (sseq (sasg (tif (tbl (to2 rdGe (tv 0) (to2 rdPow (tk (.int 10)) (tk (.int 18))))) (to2 rdSub (tv 0) (to2 rdPow (tk (.int 10)) (tk (.int 18)))) (tk (.int 0))) (gn 1))
    (sret (dlstM (ac (tv 1) (ac (to2 rdMod (tcb rdInt (ac (to2 rdAdd (to2 rdMul (tv 0) (tk (.int 3202034522624059733))) (tk (.int 88172645463325252))) a0)) (tk (.int 2305843009213693951))) (ac (tk (.int 0)) a0))))))
theorem rd__law_spring : ∀ ds M Q E, sp__law_spring ds M Q E → t__law_spring (bend Q E) (startD ["cell", "rest"] ds) M := rdF1 fun v M Q E ⟨z, e, hz, q⟩ => by
  subst e
  unfold t__law_spring
  have ep : (10 : Int) ^ (18 : Int).toNat = 1000000000000000000 := by decide
  have cp : CPow 10 18 := ⟨by decide, by decide, by decide⟩
  have cz : CMulX z 3202034522624059733 := by
    have e1 := PyProof.Rows.intBits_le (k := 62) (a := 3202034522624059733) (by decide)
    unfold CMulX
    omega
  have fin : ∀ r : Int, 0 ≤ r → ∀ K : DSt → MM → Prop, K = sret (dlstM (ac (tv 1) (ac (to2 rdMod (tcb rdInt (ac (to2 rdAdd (to2 rdMul (tv 0) (tk (.int 3202034522624059733))) (tk (.int 88172645463325252))) a0)) (tk (.int 2305843009213693951))) (ac (tk (.int 0)) a0)))) (bend Q E) → K [some (.int z), some (.int r)] M := fun r hr K hK => by
    subst hK
    simp only [tv, tk, to2, to1, tbl, tch, tand, tor, tnot, vand, vor, vnot, tif, a0, ac, as_, dtup, dlst, tcb, tcall, sret, sretN, sif, snx, sdrop, sasg, gn, spar, snever, bend, startD, List.map_cons, List.map_nil, List.length_cons, List.length_nil, List.replicate, List.cons_append, List.nil_append, List.append_nil, List.getElem?_cons_zero, List.getElem?_cons_succ, List.set_cons_zero, List.set_cons_succ, Nat.reduceAdd, Nat.reduceSub, Nat.zero_add, tcallK, ro, List.getD_cons_zero, List.getD_cons_succ, true_and, wipeD, Bool.not_true, Bool.not_false, Bool.false_eq_true, if_true, if_false, q_add_i, q_add_s, q_add_l, q_add_t, q_sub, q_mul_i, q_mul_l, q_mul_s, q_div, q_mod, q_pow, q_lt, q_le, q_gt, q_ge, q_eq_i, q_eq_s, q_eq_b, q_ne_i, q_ne_s, q_ne_b, q_eq_l, q_eq_t, q_ne_l, q_ne_t, q_is, q_isnt, isN_int, isN_str, isN_lst, isN_tup, isN_ref, isN_bl, isN_non, q_neg, q_ix_l, q_ix_t, atD_s, at_1_0, at_2_0, at_2_1, at_3_0, at_3_1, at_3_2, at_4_0, at_4_1, at_4_2, at_4_3, q_len_l, q_len_t, q_len_s, q_abs, q_int_i, q_int_b, q_str, q_list_l, q_list_t, q_tuple_l, q_tuple_t, q_repr_l, q_repr_t, dlstM]
    refine ⟨cz, by decide, by decide, fun p hp => ?_⟩
    exact q p _ hp (mle_put hp) ⟨_, _, _, mput_same, hr, by omega, by omega, by omega, by omega⟩
  refine seq_step fun K1 hK1 => ?_
  simp only [tv, tk, to2, to1, tbl, tch, tand, tor, tnot, vand, vor, vnot, tif, a0, ac, as_, dtup, dlst, tcb, tcall, sret, sretN, sif, snx, sdrop, sasg, gn, spar, snever, bend, startD, List.map_cons, List.map_nil, List.length_cons, List.length_nil, List.replicate, List.cons_append, List.nil_append, List.append_nil, List.getElem?_cons_zero, List.getElem?_cons_succ, List.set_cons_zero, List.set_cons_succ, Nat.reduceAdd, Nat.reduceSub, Nat.zero_add, tcallK, ro, List.getD_cons_zero, List.getD_cons_succ, true_and, wipeD, Bool.not_true, Bool.not_false, Bool.false_eq_true, if_true, if_false, q_add_i, q_add_s, q_add_l, q_add_t, q_sub, q_mul_i, q_mul_l, q_mul_s, q_div, q_mod, q_pow, q_lt, q_le, q_gt, q_ge, q_eq_i, q_eq_s, q_eq_b, q_ne_i, q_ne_s, q_ne_b, q_eq_l, q_eq_t, q_ne_l, q_ne_t, q_is, q_isnt, isN_int, isN_str, isN_lst, isN_tup, isN_ref, isN_bl, isN_non, q_neg, q_ix_l, q_ix_t, atD_s, at_1_0, at_2_0, at_2_1, at_3_0, at_3_1, at_3_2, at_4_0, at_4_1, at_4_2, at_4_3, q_len_l, q_len_t, q_len_s, q_abs, q_int_i, q_int_b, q_str, q_list_l, q_list_t, q_tuple_l, q_tuple_t, q_repr_l, q_repr_t, ep]
  refine ⟨cp, ?_⟩
  by_cases h : (1000000000000000000 : Int) ≤ z
  · rw [decide_eq_true h]
    simp only [if_true]
    exact ⟨cp, fin _ (by omega) K1 hK1⟩
  · rw [decide_eq_false h]
    simp only [Bool.false_eq_true, if_false]
    exact fin 0 (by omega) K1 hK1
def sp__law_take : SpD := spF2 fun s m M Q _ => ∃ p k n, s = .ref p ∧ m = .int k ∧ 0 < k ∧ k < 2 ^ 64 ∧ Spr M p n ∧ n ≤ 1000000 ∧ ∀ v M', 0 ≤ v → v < k → Spr M' p (n + 1) → FrB p M M' → Q (.int v) M'
/-! def _law_take(spring, count): slots 0 spring, 1 count, 2 digit, 3 mixed -/
def t__law_take : TDS :=
    (sseq (sif (tbl (to2 rdGt (to2 rdIx (tv 0) (tk (.int 0))) (tk (.int 0))))
      (sseq (sasg (to2 rdMod (tcb rdInt (ac (to2 rdIx (tv 0) (tk (.int 0))) a0)) (tv 1)) (gn 2))
    (sseq (sseti (to2 rdDiv (to2 rdIx (tv 0) (tk (.int 0))) (tv 1)) (tv 0) (tk (.int 0)))
    (sret (tv 2))))
      snx)
    (sseq (sseti (to2 rdAdd (to2 rdIx (tv 0) (tk (.int 2))) (tk (.int 1))) (tv 0) (tk (.int 2)))
    (sseq (sasg (to2 rdMod (tcb rdInt (ac (to2 rdAdd (to2 rdIx (tv 0) (tk (.int 1))) (to2 rdMul (tk (.int 11400714819323198485)) (to2 rdIx (tv 0) (tk (.int 2))))) a0)) (tk (.int 18446744073709551616))) (gn 3))
    (sseq (sasg (to2 rdAdd (to2 rdAdd (to2 rdMul (tv 3) (tv 3)) (to2 rdMul (tk (.int 7046029254386353131)) (tv 3))) (to2 rdIx (tv 0) (tk (.int 2)))) (gn 3))
    (sseq (sasg (to2 rdMod (tcb rdInt (ac (tv 3) a0)) (tk (.int 340282366920938463463))) (gn 3))
    (sseq (sasg (to2 rdMod (tcb rdInt (ac (to2 rdAdd (to2 rdPow (to2 rdDiv (tv 3) (tk (.int 4294967296))) (tk (.int 2))) (tv 3)) a0)) (tk (.int 1180591620717411303389))) (gn 3))
    (sret (to2 rdMod (tcb rdInt (ac (to2 rdDiv (tv 3) (tk (.int 65536))) a0)) (tv 1)))))))))
theorem rd__law_take : ∀ ds M Q E, sp__law_take ds M Q E → t__law_take (bend Q E) (startD ["spring", "count", "digit", "mixed"] ds) M := rdF2 fun x y M Q E ⟨p, k, n, e1, e2, h0, hk, ⟨a, b, c, e, ha, hb, hb2, hc, hcn⟩, hn, q⟩ => by
  subst e1 e2
  unfold t__law_take
  have i0 : ∀ x y z : D, atI [x, y, z] 0 = some x := fun _ _ _ => rfl
  have i1 : ∀ x y z : D, atI [x, y, z] 1 = some y := fun _ _ _ => rfl
  have i2 : ∀ x y z : D, atI [x, y, z] 2 = some z := fun _ _ _ => rfl
  have x0 : ixN 3 0 = some 0 := rfl
  have x2 : ixN 3 2 = some 2 := rfl
  by_cases hp : 0 < a
  · simp only [tv, tk, to2, to1, tbl, tch, tand, tor, tnot, vand, vor, vnot, tif, a0, ac, as_, dtup, dlst, tcb, tcall, sret, sretN, sseq, sif, snx, sdrop, sasg, gn, spar, snever, bend, rdLt, rdLe, rdGt, rdGe, rdSub, rdDiv, rdMod, rdPow, rdI0, rdI, startD, List.map_cons, List.map_nil, List.length_cons, List.length_nil, List.replicate, List.cons_append, List.nil_append, List.append_nil, List.getElem?_cons_zero, List.getElem?_cons_succ, List.set_cons_zero, List.set_cons_succ, Nat.reduceAdd, Nat.reduceSub, Nat.zero_add, tcallK, ro, List.getD_cons_zero, List.getD_cons_succ, true_and, rdIx, e, i0, atD]
    rw [decide_eq_true hp]
    simp only [if_true, sseti, rdIx, e, i0, i1, i2, atD, x0, x2, rdInt, tv, tk, to2, to1, tbl, tch, tand, tor, tnot, vand, vor, vnot, tif, a0, ac, as_, dtup, dlst, tcb, tcall, sret, sretN, sseq, sif, snx, sdrop, sasg, gn, spar, snever, bend, rdLt, rdLe, rdGt, rdGe, rdSub, rdDiv, rdMod, rdPow, rdI0, rdI, startD, List.map_cons, List.map_nil, List.length_cons, List.length_nil, List.replicate, List.cons_append, List.nil_append, List.append_nil, List.getElem?_cons_zero, List.getElem?_cons_succ, List.set_cons_zero, List.set_cons_succ, Nat.reduceAdd, Nat.reduceSub, Nat.zero_add, tcallK, ro, List.getD_cons_zero, List.getD_cons_succ, true_and]
    refine ⟨h0, cdiv h0 hk, ?_⟩
    exact q _ _ (Int.emod_nonneg _ (by omega)) (Int.emod_lt_of_pos _ h0) ⟨_, _, _, mput_same, Int.ediv_nonneg ha (by omega), hb, hb2, hc, by omega⟩ FrB.put
  · simp only [tv, tk, to2, to1, tbl, tch, tand, tor, tnot, vand, vor, vnot, tif, a0, ac, as_, dtup, dlst, tcb, tcall, sret, sretN, sseq, sif, snx, sdrop, sasg, gn, spar, snever, bend, rdLt, rdLe, rdGt, rdGe, rdSub, rdDiv, rdMod, rdPow, rdI0, rdI, startD, List.map_cons, List.map_nil, List.length_cons, List.length_nil, List.replicate, List.cons_append, List.nil_append, List.append_nil, List.getElem?_cons_zero, List.getElem?_cons_succ, List.set_cons_zero, List.set_cons_succ, Nat.reduceAdd, Nat.reduceSub, Nat.zero_add, tcallK, ro, List.getD_cons_zero, List.getD_cons_succ, true_and, rdIx, e, i0, atD]
    rw [decide_eq_false hp]
    simp only [Bool.false_eq_true, if_false, sseti, rdIx, e, i0, i1, i2, atD, x0, x2, rdInt, rdAdd, rdMul, tv, tk, to2, to1, tbl, tch, tand, tor, tnot, vand, vor, vnot, tif, a0, ac, as_, dtup, dlst, tcb, tcall, sret, sretN, sseq, sif, snx, sdrop, sasg, gn, spar, snever, bend, rdLt, rdLe, rdGt, rdGe, rdSub, rdDiv, rdMod, rdPow, rdI0, rdI, startD, List.map_cons, List.map_nil, List.length_cons, List.length_nil, List.replicate, List.cons_append, List.nil_append, List.append_nil, List.getElem?_cons_zero, List.getElem?_cons_succ, List.set_cons_zero, List.set_cons_succ, Nat.reduceAdd, Nat.reduceSub, Nat.zero_add, tcallK, ro, List.getD_cons_zero, List.getD_cons_succ, true_and, mput_same]
    obtain ⟨t, ht⟩ : ∃ t, t = c + 1 := ⟨_, rfl⟩
    rw [← ht]
    have t21 : t.natAbs < 2 ^ 21 := by omega
    obtain ⟨m1, z1⟩ := cm (i := 11400714819323198485) (j := t) 64 21 (by decide) t21 (by decide)
    obtain ⟨x, hx⟩ : ∃ x, x = (b + 11400714819323198485 * t) % 18446744073709551616 := ⟨_, rfl⟩
    have x64 : x.natAbs < 2 ^ 64 := by rw [hx]; omega
    rw [← hx]
    obtain ⟨m2, z2⟩ := cm (i := x) (j := x) 64 64 x64 x64 (by decide)
    obtain ⟨m3, z3⟩ := cm (i := 7046029254386353131) (j := x) 63 64 (by decide) x64 (by decide)
    obtain ⟨w, hw⟩ : ∃ w, w = (x * x + 7046029254386353131 * x + t) % 340282366920938463463 := ⟨_, rfl⟩
    have w69 : 0 ≤ w ∧ w < 340282366920938463463 := by rw [hw]; omega
    rw [← hw]
    have d1 : (w / 4294967296).natAbs < 2 ^ 64 := by omega
    exact ⟨m1, by decide, m2, m3, by decide, cdiv (by decide) (by decide), ⟨by decide, by decide, d1⟩, by decide, cdiv (by decide) (by decide), h0, q _ _ (Int.emod_nonneg _ (by omega)) (Int.emod_lt_of_pos _ h0) ⟨_, _, _, mput_same, ha, hb, hb2, by omega, by omega⟩ FrB.put⟩
end K41

namespace K41
open PySem PySem.Spec L2 DL
open TL
def sp__law_ask : SpD := spF2 fun w a M Q E => ∃ k x y, w = .int k ∧ a = .lst [x, y] ∧ sp_ask [x, y] M (fun _ M' => Q .non M') E
/-! def _law_ask(way, a): slots 0 way, 1 a -/
def t__law_ask : TDS :=
    (sif (tbl (to2 rdEq (tv 0) (tk (.int 0))))
      (sdrop (tcall sp_differences (ac (to2 rdIx (tv 1) (tk (.int 0))) (ac (to2 rdIx (tv 1) (tk (.int 1))) a0))))
      (sif (tbl (to2 rdEq (tv 0) (tk (.int 1))))
      (sdrop (tcallK 0 2 sp_differences [1, 0] a0 (ac (to2 rdIx (tv 1) (tk (.int 1))) (ac (to2 rdIx (tv 1) (tk (.int 0))) a0))))
      (sif (tbl (to2 rdEq (tv 0) (tk (.int 2))))
      (sdrop (tcall sp_together (ac (to2 rdIx (tv 1) (tk (.int 0))) (ac (to2 rdIx (tv 1) (tk (.int 1))) a0))))
      (sif (tbl (to2 rdEq (tv 0) (tk (.int 3))))
      (sdrop (tcallK 0 2 sp_together [1, 0] a0 (ac (to2 rdIx (tv 1) (tk (.int 1))) (ac (to2 rdIx (tv 1) (tk (.int 0))) a0))))
      (sif (tbl (to2 rdEq (tv 0) (tk (.int 4))))
      (sdrop (tcall sp_apart_phases (ac (to2 rdIx (tv 1) (tk (.int 0))) (ac (to2 rdIx (tv 1) (tk (.int 1))) a0))))
      (sdrop (tcallK 0 2 sp_apart_phases [1, 0] a0 (ac (to2 rdIx (tv 1) (tk (.int 1))) (ac (to2 rdIx (tv 1) (tk (.int 0))) a0)))))))))
theorem rd__law_ask : ∀ ds M Q E, sp__law_ask ds M Q E → t__law_ask (bend Q E) (startD ["way", "a"] ds) M := rdF2 fun w a M Q E ⟨k, x, y, e1, e2, h⟩ => by
  subst e1 e2
  unfold t__law_ask
  have i0 : atI [x, y] 0 = some x := rfl
  have i1 : atI [x, y] 1 = some y := rfl
  have key : ∀ (j : Int) (t u : TDS) (Dn : DEnds) (σ : DSt), σ[0]? = some (some (.int k)) → (k = j → t Dn σ M) → (k ≠ j → u Dn σ M) → sif (tbl (to2 rdEq (tv 0) (tk (.int j)))) t u Dn σ M := fun j t u Dn σ hσ h1 h2 => by
    simp only [sif, tbl, to2, tv, tk, hσ, q_eq_i]
    by_cases c : k = j
    · rw [decide_eq_true c]; exact h1 c
    · rw [decide_eq_false c]; exact h2 c
  refine key 0 _ _ _ _ rfl (fun _ => ?_) fun _ => key 1 _ _ _ _ rfl (fun _ => ?_) fun _ => key 2 _ _ _ _ rfl (fun _ => ?_) fun _ => key 3 _ _ _ _ rfl (fun _ => ?_) fun _ => key 4 _ _ _ _ rfl (fun _ => ?_) fun _ => ?_
  all_goals simp only [tv, tk, to2, to1, tbl, tch, tand, tor, tnot, vand, vor, vnot, tif, a0, ac, as_, dtup, dlst, tcb, tcall, sret, sretN, sif, snx, sdrop, sasg, gn, spar, snever, bend, startD, List.map_cons, List.map_nil, List.length_cons, List.length_nil, List.replicate, List.cons_append, List.nil_append, List.append_nil, List.getElem?_cons_zero, List.getElem?_cons_succ, List.set_cons_zero, List.set_cons_succ, Nat.reduceAdd, Nat.reduceSub, Nat.zero_add, tcallK, ro, List.getD_cons_zero, List.getD_cons_succ, true_and, wipeD, Bool.not_true, Bool.not_false, Bool.false_eq_true, if_true, if_false, q_add_i, q_add_s, q_add_l, q_add_t, q_sub, q_mul_i, q_mul_l, q_mul_s, q_div, q_mod, q_pow, q_lt, q_le, q_gt, q_ge, q_eq_i, q_eq_s, q_eq_b, q_ne_i, q_ne_s, q_ne_b, q_eq_l, q_eq_t, q_ne_l, q_ne_t, q_is, q_isnt, isN_int, isN_str, isN_lst, isN_tup, isN_ref, isN_bl, isN_non, q_neg, q_ix_l, q_ix_t, atD_s, at_1_0, at_2_0, at_2_1, at_3_0, at_3_1, at_3_2, at_4_0, at_4_1, at_4_2, at_4_3, q_len_l, q_len_t, q_len_s, q_abs, q_int_i, q_int_b, q_str, q_list_l, q_list_t, q_tuple_l, q_tuple_t, q_repr_l, q_repr_t, rdIx, i0, i1, atD]
  · exact h
  · exact h
  · exact h
  · exact h
  · exact h
  · exact h
/-- what comes of an ask -/
def Out (x y : D) (c : Int) : Prop := ((rowOkB x && rowOkB y) = false ∧ c = 1) ∨ ∃ t ps t' qs, x = rowD t ps ∧ y = rowD t' qs ∧ GoodRow t ps ∧ GoodRow t' qs ∧
  ((sameEnds t t' ps qs = false ∧ c = 2) ∨ (sameEnds t t' ps qs = true ∧ c = 0 ∧ ∃ a e m m', ps = psOf a e m ∧ qs = psOf a e m' ∧ SmallP a e m m'))
theorem rowD_inj {t t' : Str} {ps qs : List Int} (h : rowD t ps = rowD t' qs) : t = t' ∧ ps = qs := by
  unfold rowD at h
  injection h with h
  injection h with h1 h2
  injection h1 with h1
  injection h2 with h2 _
  injection h2 with h2
  have h3 : ps = qs := (List.map_inj_right (f := D.int) (fun a b e => by injection e)).mp h2
  exact ⟨h1, h3⟩
theorem out_ask {x y : D} {c : Int} {M : MM} {Q : DK} {E : EK} (hx : AnyRow isk M x) (hy : AnyRow isk M y) (o : Out x y c) (q1 : c = 1 → E ⟨"InvalidRow", []⟩ M) (q2 : c = 2 → E ⟨"OtherEnds", []⟩ M) (q0 : c = 0 → ∀ v M', MLe M M' → Q v M') : sp_ask [x, y] M Q E := by
  refine ⟨hx, hy, fun h => ?_, fun t ps t' qs ex ey gx gy => ?_⟩
  · rcases o with ⟨_, e⟩ | ⟨t, ps, t', qs, ex, ey, gx, gy, _⟩
    · exact q1 e
    · subst ex ey
      rw [good_rowOk gx, good_rowOk gy] at h
      cases h
  · rcases o with ⟨h, _⟩ | ⟨t2, ps2, t2', qs2, ex2, ey2, _, _, o⟩
    · subst ex ey
      rw [good_rowOk gx, good_rowOk gy] at h
      cases h
    · obtain ⟨r1, r2⟩ := rowD_inj (ex.symm.trans ex2)
      obtain ⟨r3, r4⟩ := rowD_inj (ey.symm.trans ey2)
      subst r1 r2 r3 r4
      rcases o with ⟨h, e⟩ | ⟨h, e, S⟩
      · exact ⟨fun _ => q2 e, fun w => by rw [h] at w; cases w⟩
      · exact ⟨fun w => (by rw [h] at w; cases w), fun _ => ⟨S, q0 e⟩⟩
def sp__law_kind_of : SpD := spF2 fun w a M Q _ => ∃ k x y c, w = .int k ∧ a = .lst [x, y] ∧ AnyRow isk M x ∧ AnyRow isk M y ∧ Out x y c ∧ ∀ M', MLe M M' → Q (.int c) M'
/-! def _law_kind_of(way, a): slots 0 way, 1 a, 2 caught, 3 e, 4 flags, 5 others -/
def t__law_kind_of : TDS :=
    (sseq (sasg (tk .non) (gn 2))
    (sseq (stryK cs_CopyError 3 2
      (sdrop (tcall sp__law_ask (ac (tv 0) (ac (tv 1) a0)))))
    (sseq (sif (tbl (to2 rdIs (tv 2) (tk .non)))
      (sret (tk (.int 0)))
      snx)
    (sseq (sasg (dlst (ac (tcb (rdIsiM isk) (ac (tv 2) (ac (tk (.kls "InvalidRow")) a0))) (ac (tcb (rdIsiM isk) (ac (tv 2) (ac (tk (.kls "OtherEnds")) a0))) a0))) (gn 4))
    (sseq (sasg (vor (tcb (rdIsiM isk) (ac (tv 2) (ac (tk (.kls "InvalidPhases")) a0))) (vor (tcb (rdIsiM isk) (ac (tv 2) (ac (tk (.kls "InvalidIndex")) a0))) (tcb (rdIsiM isk) (ac (tv 2) (ac (tk (.kls "InvalidNumber")) a0))))) (gn 5))
    (sret (tif (tor (tbl (tv 5)) (tor (tnot (tbl (tcb (rdIsiM isk) (ac (tv 2) (ac (tk (.ty "ValueError")) a0))))) (tbl (to2 rdNe (tlm rdCnt (tv 4) (ac (tk (.bl true)) a0)) (tk (.int 1)))))) (tk (.int 9)) (to2 rdAdd (tk (.int 1)) (tlm rdIdx (tv 4) (ac (tk (.bl true)) a0))))))))))
theorem cnt_tf {M : MM} {Q : DK} (q : Q (.int 1) M) : rdCnt (.lst [.bl true, .bl false]) [.bl true] M Q := by
  refine ⟨⟨by decide +kernel, by decide +kernel, by decide +kernel, by decide +kernel⟩, ?_⟩
  have e : List.countP (fun z => eqvP z (.bl true)) [.bl true, .bl false] = 1 := by decide +kernel
  rw [e]; exact q
theorem cnt_ft {M : MM} {Q : DK} (q : Q (.int 1) M) : rdCnt (.lst [.bl false, .bl true]) [.bl true] M Q := by
  refine ⟨⟨by decide +kernel, by decide +kernel, by decide +kernel, by decide +kernel⟩, ?_⟩
  have e : List.countP (fun z => eqvP z (.bl true)) [.bl false, .bl true] = 1 := by decide +kernel
  rw [e]; exact q
theorem idx_tf {M : MM} {Q : DK} (q : Q (.int 0) M) : rdIdx (.lst [.bl true, .bl false]) [.bl true] M Q := by
  refine ⟨⟨by decide +kernel, by decide +kernel, by decide +kernel, by decide +kernel⟩, ?_⟩
  have e : List.findIdx? (fun z => eqvP z (.bl true)) [.bl true, .bl false] = some 0 := by decide +kernel
  rw [e]; exact q
theorem idx_ft {M : MM} {Q : DK} (q : Q (.int 1) M) : rdIdx (.lst [.bl false, .bl true]) [.bl true] M Q := by
  refine ⟨⟨by decide +kernel, by decide +kernel, by decide +kernel, by decide +kernel⟩, ?_⟩
  have e : List.findIdx? (fun z => eqvP z (.bl true)) [.bl false, .bl true] = some 1 := by decide +kernel
  rw [e]; exact q
theorem isE {M : MM} {c : Str} {t : D} {b : Bool} (h : isTM isk (fun _ => none) (.exc c []) t = some b) : isTM isk M (.exc c []) t = some b := h
theorem rd__law_kind_of : ∀ ds M Q E, sp__law_kind_of ds M Q E → t__law_kind_of (bend Q E) (startD ["way", "a", "caught", "e", "flags", "others"] ds) M := rdF2 fun w a M Q E ⟨k, x, y, c, e1, e2, hx, hy, o, q⟩ => by
  subst e1 e2
  unfold t__law_kind_of
  refine seq_step fun K1 hK1 => ?_
  simp only [tv, tk, to2, to1, tbl, tch, tand, tor, tnot, vand, vor, vnot, tif, a0, ac, as_, dtup, dlst, tcb, tcall, sret, sretN, sif, snx, sdrop, sasg, gn, spar, snever, bend, startD, List.map_cons, List.map_nil, List.length_cons, List.length_nil, List.replicate, List.cons_append, List.nil_append, List.append_nil, List.getElem?_cons_zero, List.getElem?_cons_succ, List.set_cons_zero, List.set_cons_succ, Nat.reduceAdd, Nat.reduceSub, Nat.zero_add, tcallK, ro, List.getD_cons_zero, List.getD_cons_succ, true_and, wipeD, Bool.not_true, Bool.not_false, Bool.false_eq_true, if_true, if_false, q_add_i, q_add_s, q_add_l, q_add_t, q_sub, q_mul_i, q_mul_l, q_mul_s, q_div, q_mod, q_pow, q_lt, q_le, q_gt, q_ge, q_eq_i, q_eq_s, q_eq_b, q_ne_i, q_ne_s, q_ne_b, q_eq_l, q_eq_t, q_ne_l, q_ne_t, q_is, q_isnt, isN_int, isN_str, isN_lst, isN_tup, isN_ref, isN_bl, isN_non, q_neg, q_ix_l, q_ix_t, atD_s, at_1_0, at_2_0, at_2_1, at_3_0, at_3_1, at_3_2, at_4_0, at_4_1, at_4_2, at_4_3, q_len_l, q_len_t, q_len_s, q_abs, q_int_i, q_int_b, q_str, q_list_l, q_list_t, q_tuple_l, q_tuple_t, q_repr_l, q_repr_t]
  subst hK1
  refine seq_step fun K2 hK2 => ?_
  have row : c = 1 → ∀ o3, K2 [some (.int k), some (.lst [x, y]), some (.exc "InvalidRow" []), o3, none, none] M := fun ec o3 => by
    subst ec hK2
    have a1 := isE (M := M) (c := "InvalidRow") (t := .kls "InvalidRow") (b := true) (by decide +kernel)
    have a2 := isE (M := M) (c := "InvalidRow") (t := .kls "OtherEnds") (b := false) (by decide +kernel)
    have a3 := isE (M := M) (c := "InvalidRow") (t := .kls "InvalidPhases") (b := false) (by decide +kernel)
    have a4 := isE (M := M) (c := "InvalidRow") (t := .kls "InvalidIndex") (b := false) (by decide +kernel)
    have a5 := isE (M := M) (c := "InvalidRow") (t := .kls "InvalidNumber") (b := false) (by decide +kernel)
    have a6 := isE (M := M) (c := "InvalidRow") (t := .ty "ValueError") (b := true) (by decide +kernel)
    simp only [tv, tk, to2, to1, tbl, tch, tand, tor, tnot, vand, vor, vnot, tif, a0, ac, as_, dtup, dlst, tcb, tcall, sret, sretN, sif, snx, sdrop, sasg, gn, spar, snever, bend, startD, List.map_cons, List.map_nil, List.length_cons, List.length_nil, List.replicate, List.cons_append, List.nil_append, List.append_nil, List.getElem?_cons_zero, List.getElem?_cons_succ, List.set_cons_zero, List.set_cons_succ, Nat.reduceAdd, Nat.reduceSub, Nat.zero_add, tcallK, ro, List.getD_cons_zero, List.getD_cons_succ, true_and, wipeD, Bool.not_true, Bool.not_false, Bool.false_eq_true, if_true, if_false, q_add_i, q_add_s, q_add_l, q_add_t, q_sub, q_mul_i, q_mul_l, q_mul_s, q_div, q_mod, q_pow, q_lt, q_le, q_gt, q_ge, q_eq_i, q_eq_s, q_eq_b, q_ne_i, q_ne_s, q_ne_b, q_eq_l, q_eq_t, q_ne_l, q_ne_t, q_is, q_isnt, isN_int, isN_str, isN_lst, isN_tup, isN_ref, isN_bl, isN_non, q_neg, q_ix_l, q_ix_t, atD_s, at_1_0, at_2_0, at_2_1, at_3_0, at_3_1, at_3_2, at_4_0, at_4_1, at_4_2, at_4_3, q_len_l, q_len_t, q_len_s, q_abs, q_int_i, q_int_b, q_str, q_list_l, q_list_t, q_tuple_l, q_tuple_t, q_repr_l, q_repr_t, sseq, isN, q_isiM a1, q_isiM a2, q_isiM a3, q_isiM a4, q_isiM a5, q_isiM a6, tlm, isLst]
    refine ⟨by decide, cnt_tf ?_⟩
    simp only [tv, tk, to2, to1, tbl, tch, tand, tor, tnot, vand, vor, vnot, tif, a0, ac, as_, dtup, dlst, tcb, tcall, sret, sretN, sif, snx, sdrop, sasg, gn, spar, snever, bend, startD, List.map_cons, List.map_nil, List.length_cons, List.length_nil, List.replicate, List.cons_append, List.nil_append, List.append_nil, List.getElem?_cons_zero, List.getElem?_cons_succ, List.set_cons_zero, List.set_cons_succ, Nat.reduceAdd, Nat.reduceSub, Nat.zero_add, tcallK, ro, List.getD_cons_zero, List.getD_cons_succ, true_and, wipeD, Bool.not_true, Bool.not_false, Bool.false_eq_true, if_true, if_false, q_add_i, q_add_s, q_add_l, q_add_t, q_sub, q_mul_i, q_mul_l, q_mul_s, q_div, q_mod, q_pow, q_lt, q_le, q_gt, q_ge, q_eq_i, q_eq_s, q_eq_b, q_ne_i, q_ne_s, q_ne_b, q_eq_l, q_eq_t, q_ne_l, q_ne_t, q_is, q_isnt, isN_int, isN_str, isN_lst, isN_tup, isN_ref, isN_bl, isN_non, q_neg, q_ix_l, q_ix_t, atD_s, at_1_0, at_2_0, at_2_1, at_3_0, at_3_1, at_3_2, at_4_0, at_4_1, at_4_2, at_4_3, q_len_l, q_len_t, q_len_s, q_abs, q_int_i, q_int_b, q_str, q_list_l, q_list_t, q_tuple_l, q_tuple_t, q_repr_l, q_repr_t, q_ne_i, decide_true]
    refine idx_tf ?_
    simp only [tv, tk, to2, to1, tbl, tch, tand, tor, tnot, vand, vor, vnot, tif, a0, ac, as_, dtup, dlst, tcb, tcall, sret, sretN, sif, snx, sdrop, sasg, gn, spar, snever, bend, startD, List.map_cons, List.map_nil, List.length_cons, List.length_nil, List.replicate, List.cons_append, List.nil_append, List.append_nil, List.getElem?_cons_zero, List.getElem?_cons_succ, List.set_cons_zero, List.set_cons_succ, Nat.reduceAdd, Nat.reduceSub, Nat.zero_add, tcallK, ro, List.getD_cons_zero, List.getD_cons_succ, true_and, wipeD, Bool.not_true, Bool.not_false, Bool.false_eq_true, if_true, if_false, q_add_i, q_add_s, q_add_l, q_add_t, q_sub, q_mul_i, q_mul_l, q_mul_s, q_div, q_mod, q_pow, q_lt, q_le, q_gt, q_ge, q_eq_i, q_eq_s, q_eq_b, q_ne_i, q_ne_s, q_ne_b, q_eq_l, q_eq_t, q_ne_l, q_ne_t, q_is, q_isnt, isN_int, isN_str, isN_lst, isN_tup, isN_ref, isN_bl, isN_non, q_neg, q_ix_l, q_ix_t, atD_s, at_1_0, at_2_0, at_2_1, at_3_0, at_3_1, at_3_2, at_4_0, at_4_1, at_4_2, at_4_3, q_len_l, q_len_t, q_len_s, q_abs, q_int_i, q_int_b, q_str, q_list_l, q_list_t, q_tuple_l, q_tuple_t, q_repr_l, q_repr_t]
    exact q M (MLe.refl _)
  have ends : c = 2 → ∀ o3, K2 [some (.int k), some (.lst [x, y]), some (.exc "OtherEnds" []), o3, none, none] M := fun ec o3 => by
    subst ec hK2
    have a1 := isE (M := M) (c := "OtherEnds") (t := .kls "InvalidRow") (b := false) (by decide +kernel)
    have a2 := isE (M := M) (c := "OtherEnds") (t := .kls "OtherEnds") (b := true) (by decide +kernel)
    have a3 := isE (M := M) (c := "OtherEnds") (t := .kls "InvalidPhases") (b := false) (by decide +kernel)
    have a4 := isE (M := M) (c := "OtherEnds") (t := .kls "InvalidIndex") (b := false) (by decide +kernel)
    have a5 := isE (M := M) (c := "OtherEnds") (t := .kls "InvalidNumber") (b := false) (by decide +kernel)
    have a6 := isE (M := M) (c := "OtherEnds") (t := .ty "ValueError") (b := true) (by decide +kernel)
    simp only [tv, tk, to2, to1, tbl, tch, tand, tor, tnot, vand, vor, vnot, tif, a0, ac, as_, dtup, dlst, tcb, tcall, sret, sretN, sif, snx, sdrop, sasg, gn, spar, snever, bend, startD, List.map_cons, List.map_nil, List.length_cons, List.length_nil, List.replicate, List.cons_append, List.nil_append, List.append_nil, List.getElem?_cons_zero, List.getElem?_cons_succ, List.set_cons_zero, List.set_cons_succ, Nat.reduceAdd, Nat.reduceSub, Nat.zero_add, tcallK, ro, List.getD_cons_zero, List.getD_cons_succ, true_and, wipeD, Bool.not_true, Bool.not_false, Bool.false_eq_true, if_true, if_false, q_add_i, q_add_s, q_add_l, q_add_t, q_sub, q_mul_i, q_mul_l, q_mul_s, q_div, q_mod, q_pow, q_lt, q_le, q_gt, q_ge, q_eq_i, q_eq_s, q_eq_b, q_ne_i, q_ne_s, q_ne_b, q_eq_l, q_eq_t, q_ne_l, q_ne_t, q_is, q_isnt, isN_int, isN_str, isN_lst, isN_tup, isN_ref, isN_bl, isN_non, q_neg, q_ix_l, q_ix_t, atD_s, at_1_0, at_2_0, at_2_1, at_3_0, at_3_1, at_3_2, at_4_0, at_4_1, at_4_2, at_4_3, q_len_l, q_len_t, q_len_s, q_abs, q_int_i, q_int_b, q_str, q_list_l, q_list_t, q_tuple_l, q_tuple_t, q_repr_l, q_repr_t, sseq, isN, q_isiM a1, q_isiM a2, q_isiM a3, q_isiM a4, q_isiM a5, q_isiM a6, tlm, isLst]
    refine ⟨by decide, cnt_ft ?_⟩
    simp only [tv, tk, to2, to1, tbl, tch, tand, tor, tnot, vand, vor, vnot, tif, a0, ac, as_, dtup, dlst, tcb, tcall, sret, sretN, sif, snx, sdrop, sasg, gn, spar, snever, bend, startD, List.map_cons, List.map_nil, List.length_cons, List.length_nil, List.replicate, List.cons_append, List.nil_append, List.append_nil, List.getElem?_cons_zero, List.getElem?_cons_succ, List.set_cons_zero, List.set_cons_succ, Nat.reduceAdd, Nat.reduceSub, Nat.zero_add, tcallK, ro, List.getD_cons_zero, List.getD_cons_succ, true_and, wipeD, Bool.not_true, Bool.not_false, Bool.false_eq_true, if_true, if_false, q_add_i, q_add_s, q_add_l, q_add_t, q_sub, q_mul_i, q_mul_l, q_mul_s, q_div, q_mod, q_pow, q_lt, q_le, q_gt, q_ge, q_eq_i, q_eq_s, q_eq_b, q_ne_i, q_ne_s, q_ne_b, q_eq_l, q_eq_t, q_ne_l, q_ne_t, q_is, q_isnt, isN_int, isN_str, isN_lst, isN_tup, isN_ref, isN_bl, isN_non, q_neg, q_ix_l, q_ix_t, atD_s, at_1_0, at_2_0, at_2_1, at_3_0, at_3_1, at_3_2, at_4_0, at_4_1, at_4_2, at_4_3, q_len_l, q_len_t, q_len_s, q_abs, q_int_i, q_int_b, q_str, q_list_l, q_list_t, q_tuple_l, q_tuple_t, q_repr_l, q_repr_t, q_ne_i, decide_true]
    refine idx_ft ?_
    simp only [tv, tk, to2, to1, tbl, tch, tand, tor, tnot, vand, vor, vnot, tif, a0, ac, as_, dtup, dlst, tcb, tcall, sret, sretN, sif, snx, sdrop, sasg, gn, spar, snever, bend, startD, List.map_cons, List.map_nil, List.length_cons, List.length_nil, List.replicate, List.cons_append, List.nil_append, List.append_nil, List.getElem?_cons_zero, List.getElem?_cons_succ, List.set_cons_zero, List.set_cons_succ, Nat.reduceAdd, Nat.reduceSub, Nat.zero_add, tcallK, ro, List.getD_cons_zero, List.getD_cons_succ, true_and, wipeD, Bool.not_true, Bool.not_false, Bool.false_eq_true, if_true, if_false, q_add_i, q_add_s, q_add_l, q_add_t, q_sub, q_mul_i, q_mul_l, q_mul_s, q_div, q_mod, q_pow, q_lt, q_le, q_gt, q_ge, q_eq_i, q_eq_s, q_eq_b, q_ne_i, q_ne_s, q_ne_b, q_eq_l, q_eq_t, q_ne_l, q_ne_t, q_is, q_isnt, isN_int, isN_str, isN_lst, isN_tup, isN_ref, isN_bl, isN_non, q_neg, q_ix_l, q_ix_t, atD_s, at_1_0, at_2_0, at_2_1, at_3_0, at_3_1, at_3_2, at_4_0, at_4_1, at_4_2, at_4_3, q_len_l, q_len_t, q_len_s, q_abs, q_int_i, q_int_b, q_str, q_list_l, q_list_t, q_tuple_l, q_tuple_t, q_repr_l, q_repr_t]
    exact q M (MLe.refl _)
  have none_ : c = 0 → ∀ o3 M', MLe M M' → K2 [some (.int k), some (.lst [x, y]), some .non, o3, none, none] M' := fun ec o3 M' l => by
    subst ec hK2
    simp only [tv, tk, to2, to1, tbl, tch, tand, tor, tnot, vand, vor, vnot, tif, a0, ac, as_, dtup, dlst, tcb, tcall, sret, sretN, sif, snx, sdrop, sasg, gn, spar, snever, bend, startD, List.map_cons, List.map_nil, List.length_cons, List.length_nil, List.replicate, List.cons_append, List.nil_append, List.append_nil, List.getElem?_cons_zero, List.getElem?_cons_succ, List.set_cons_zero, List.set_cons_succ, Nat.reduceAdd, Nat.reduceSub, Nat.zero_add, tcallK, ro, List.getD_cons_zero, List.getD_cons_succ, true_and, wipeD, Bool.not_true, Bool.not_false, Bool.false_eq_true, if_true, if_false, q_add_i, q_add_s, q_add_l, q_add_t, q_sub, q_mul_i, q_mul_l, q_mul_s, q_div, q_mod, q_pow, q_lt, q_le, q_gt, q_ge, q_eq_i, q_eq_s, q_eq_b, q_ne_i, q_ne_s, q_ne_b, q_eq_l, q_eq_t, q_ne_l, q_ne_t, q_is, q_isnt, isN_int, isN_str, isN_lst, isN_tup, isN_ref, isN_bl, isN_non, q_neg, q_ix_l, q_ix_t, atD_s, at_1_0, at_2_0, at_2_1, at_3_0, at_3_1, at_3_2, at_4_0, at_4_1, at_4_2, at_4_3, q_len_l, q_len_t, q_len_s, q_abs, q_int_i, q_int_b, q_str, q_list_l, q_list_t, q_tuple_l, q_tuple_t, q_repr_l, q_repr_t, sseq, isN]
    exact q M' l
  simp only [stryK, tv, tk, to2, to1, tbl, tch, tand, tor, tnot, vand, vor, vnot, tif, a0, ac, as_, dtup, dlst, tcb, tcall, sret, sretN, sif, snx, sdrop, sasg, gn, spar, snever, bend, startD, List.map_cons, List.map_nil, List.length_cons, List.length_nil, List.replicate, List.cons_append, List.nil_append, List.append_nil, List.getElem?_cons_zero, List.getElem?_cons_succ, List.set_cons_zero, List.set_cons_succ, Nat.reduceAdd, Nat.reduceSub, Nat.zero_add, tcallK, ro, List.getD_cons_zero, List.getD_cons_succ, true_and, wipeD, Bool.not_true, Bool.not_false, Bool.false_eq_true, if_true, if_false, q_add_i, q_add_s, q_add_l, q_add_t, q_sub, q_mul_i, q_mul_l, q_mul_s, q_div, q_mod, q_pow, q_lt, q_le, q_gt, q_ge, q_eq_i, q_eq_s, q_eq_b, q_ne_i, q_ne_s, q_ne_b, q_eq_l, q_eq_t, q_ne_l, q_ne_t, q_is, q_isnt, isN_int, isN_str, isN_lst, isN_tup, isN_ref, isN_bl, isN_non, q_neg, q_ix_l, q_ix_t, atD_s, at_1_0, at_2_0, at_2_1, at_3_0, at_3_1, at_3_2, at_4_0, at_4_1, at_4_2, at_4_3, q_len_l, q_len_t, q_len_s, q_abs, q_int_i, q_int_b, q_str, q_list_l, q_list_t, q_tuple_l, q_tuple_t, q_repr_l, q_repr_t]
  refine ⟨k, x, y, rfl, rfl, out_ask hx hy o (fun ec => ?_) (fun ec => ?_) fun ec v M' l => ?_⟩
  · have e1 : cs_CopyError.lookup (Str.ofString "InvalidRow") = some true := by decide +kernel
    simp only [e1]
    exact row ec _
  · have e1 : cs_CopyError.lookup (Str.ofString "OtherEnds") = some true := by decide +kernel
    simp only [e1]
    exact ends ec _
  · exact none_ ec _ M' l
end K41

namespace K41
open PySem PySem.Spec L2 DL
open TL
theorem prodN_app : ∀ (m : List Int) (i : Int), prodN (m ++ [i]) = prodN m * i.toNat
  | [], i => by show i.toNat * 1 = 1 * i.toNat; omega
  | j :: m, i => by
    show j.toNat * prodN (m ++ [i]) = j.toNat * prodN m * i.toNat
    rw [prodN_app m i, Nat.mul_assoc]
theorem spr_ne {M : MM} {p q : Addr} {n : Nat} (h : Spr M p n) (hq : M q = none) : q ≠ p := fun w => by
  obtain ⟨_, _, _, e, _⟩ := h
  rw [w, e] at hq; cases hq
theorem Spr.fr {M M' : MM} {p q : Addr} {n : Nat} (h : Spr M p n) (hq : q ≠ p) (f : FrB q M M') : Spr M' p n := by
  obtain ⟨x, y, z, e, r⟩ := h
  exact ⟨x, y, z, (f p (Ne.symm hq)).trans e, r⟩
def sp__law_branches : SpD := spF3 fun s t d M Q _ => ∃ p n k md, s = .ref p ∧ t = .int k ∧ d = .int md ∧ 1 ≤ k ∧ k ≤ 60 ∧ 0 ≤ md ∧ md ≤ 3 ∧ Spr M p n ∧ n ≤ 1000 ∧
  ∀ (tie : Str) (a e : Int) (m m' : List Int) (q : Addr) M', (tie = Str.ofString "new" ∨ tie = Str.ofString "old") → SmallP a e m m' → (a ≤ k ∧ e ≤ k) → q ≠ p → Spr M' p (n + 20) → M' q = some (.lst [rowD tie (psOf a e m), rowD tie (psOf a e m')]) → Q (.ref q) M'
/-! def _law_branches(spring, top, middles): slots 0 spring, 1 top, 2 middles, 3 tie, 4 ends, 5 k, 6 rows, 7 cut, 8 product, 9 count, 10 inside, 11 period -/
def t__law_branches : TDS :=
    (sseq (spar 3 4 (ac (to2 rdIx (dlst (ac (tk (.str "new")) (ac (tk (.str "old")) a0))) (tcall sp__law_take (ac (tv 0) (ac (tk (.int 2)) a0)))) (ac (tlc (irng1 (ac (tk (.int 2)) a0)) (gn 5) tyes (to2 rdAdd (tk (.int 1)) (tcall sp__law_take (ac (tv 0) (ac (tv 1) a0)))) [5]) a0)))
    (sseq (spar3 6 7 8 (ac (dlstM a0) (ac (tcall sp__law_take (ac (tv 0) (ac (to2 rdAdd (tv 2) (tk (.int 1))) a0))) (ac (to2 rdMul (to2 rdIx (tv 4) (tk (.int 0))) (to2 rdIx (tv 4) (tk (.int 1)))) a0))))
    (sseq (sif (tbl (to2 rdGt (tv 8) (tk (.int 200))))
      (spar 4 8 (ac (dlst (ac (to2 rdIx (tv 4) (tk (.int 0))) (ac (tk (.int 1)) a0))) (ac (to2 rdIx (tv 4) (tk (.int 0))) a0)))
      snx)
    (sseq (sfor (itup (dtup (ac (tv 7) (ac (to2 rdSub (tv 2) (tv 7)) a0)))) (gn 9)
      (sseq (sasg (dlstM a0) (gn 10))
    (sseq (sfor (irng1 (ac (tv 9) a0)) (gn 5)
      (sseq (sasg (to2 rdAdd (tk (.int 1)) (tcall sp__law_take (ac (tv 0) (ac (tv 1) a0)))) (gn 11))
    (sseq (sdrop (tapp (tv 10) (ac (tif (tbl (to2 rdLt (to2 rdMul (tv 8) (tv 11)) (tk (.int 201)))) (tv 11) (tk (.int 1))) a0)))
    (sasg (to2 rdMul (tv 8) (to2 rdIx (tv 10) (to1 rdNeg (tk (.int 1))))) (gn 8)))))
    (sdrop (tapp (tv 6) (ac (dtup (ac (tv 3) (ac (tcb rdTuple (ac (to2 rdAddM (to2 rdAddM (tsl (tv 4) so_none (so_some (tk (.int 1)))) (tv 10)) (tsl (tv 4) (so_some (tk (.int 1))) so_none)) a0)) a0))) a0))))))
    (sret (tv 6))))))
theorem inside_loop {D0 : DEnds} {x1 x2 x3 x4 x6 x7 x9 : Option D} {p r : Addr} {n P0 : Nat} {k : Int} {M0 : MM} (hk : 1 ≤ k ∧ k ≤ 60) (hr : r ≠ p) (hP0 : P0 ≤ 200) (h1 : 1 ≤ P0) (hn : n ≤ 2000) (hx1 : x1 = some (.int k)) (c : Nat) (hc : c ≤ 3) (hS : Spr M0 p n) (hM : M0 r = some (.lst [])) (o5 o11 : Option D)
    (q : ∀ (m : List Int) (o5 o11 : Option D) N, m.length = c → (∀ i ∈ m, 1 ≤ i ∧ i ≤ 60) → P0 * prodN m ≤ 200 → Spr N p (n + c) → N r = some (.lst (m.map D.int)) → (∀ q, q ≠ p → q ≠ r → N q = M0 q) → D0.nx [some (.ref p), x1, x2, x3, x4, o5, x6, x7, some (.int ((P0 * prodN m : Nat) : Int)), x9, some (.ref r), o11] N) :
    forD (gn 5) (sseq (sasg (to2 rdAdd (tk (.int 1)) (tcall sp__law_take (ac (tv 0) (ac (tv 1) a0)))) (gn 11))
      (sseq (sdrop (tapp (tv 10) (ac (tif (tbl (to2 rdLt (to2 rdMul (tv 8) (tv 11)) (tk (.int 201)))) (tv 11) (tk (.int 1))) a0)))
        (sasg (to2 rdMul (tv 8) (to2 rdIx (tv 10) (to1 rdNeg (tk (.int 1))))) (gn 8)))) (rgD 0 (c : Int)) D0 [some (.ref p), x1, x2, x3, x4, o5, x6, x7, some (.int (P0 : Int)), x9, some (.ref r), o11] M0 := by
  subst hx1
  have z : sizeLine = 16777216 := rfl
  refine for_rt (I := fun j σ N => ∃ (m : List Int) (o5 o11 : Option D), σ = [some (.ref p), some (.int k), x2, x3, x4, o5, x6, x7, some (.int ((P0 * prodN m : Nat) : Int)), x9, some (.ref r), o11] ∧ m.length = j ∧ (∀ i ∈ m, 1 ≤ i ∧ i ≤ 60) ∧ P0 * prodN m ≤ 200 ∧ Spr N p (n + j) ∧ N r = some (.lst (m.map D.int)) ∧ ∀ q, q ≠ p → q ≠ r → N q = M0 q) 5 _ 0 _ _
    (fun d hd j σ N Dn hj hrt ⟨m, o5, o11, hσ, lm, hm, hP, hS, hN, hF⟩ hnx => ?body) (by rw [rgD_len]; omega) ⟨[], o5, o11, by show _ = [_, _, _, _, _, _, _, _, some (D.int ((P0 * 1 : Nat) : Int)), _, _, _]; rw [Nat.mul_one], rfl, (fun i hi => by cases hi), by show P0 * 1 ≤ 200; omega, hS, hM, fun _ _ _ => rfl⟩ (fun σ' M' ⟨m, o5, o11, hσ, lm, hm, hP, hS, hN, hF⟩ => ?fin)
  case fin =>
    rw [rgD_len] at lm hS
    have e : (( (c : Int) - 0).toNat) = c := by omega
    rw [e, Nat.zero_add] at lm hS
    subst hσ
    exact q m o5 o11 M' lm hm hP hS hN hF
  case body =>
    subst hσ
    have pm := prodN_pos m fun i hi => (hm i hi).1
    simp only [tv, tk, to2, to1, tbl, tch, tand, tor, tnot, vand, vor, vnot, tif, a0, ac, as_, dtup, dlst, tcb, tcall, sret, sretN, sif, snx, sdrop, sasg, gn, spar, snever, bend, startD, List.map_cons, List.map_nil, List.length_cons, List.length_nil, List.replicate, List.cons_append, List.nil_append, List.append_nil, List.getElem?_cons_zero, List.getElem?_cons_succ, List.set_cons_zero, List.set_cons_succ, Nat.reduceAdd, Nat.reduceSub, Nat.zero_add, tcallK, ro, List.getD_cons_zero, List.getD_cons_succ, true_and, wipeD, Bool.not_true, Bool.not_false, Bool.false_eq_true, if_true, if_false, q_add_i, q_add_s, q_add_l, q_add_t, q_sub, q_mul_i, q_mul_l, q_mul_s, q_div, q_mod, q_pow, q_lt, q_le, q_gt, q_ge, q_eq_i, q_eq_s, q_eq_b, q_ne_i, q_ne_s, q_ne_b, q_eq_l, q_eq_t, q_ne_l, q_ne_t, q_is, q_isnt, isN_int, isN_str, isN_lst, isN_tup, isN_ref, isN_bl, isN_non, q_neg, q_ix_l, q_ix_t, atD_s, at_1_0, at_2_0, at_2_1, at_3_0, at_3_1, at_3_2, at_4_0, at_4_1, at_4_2, at_4_3, q_len_l, q_len_t, q_len_s, q_abs, q_int_i, q_int_b, q_str, q_list_l, q_list_t, q_tuple_l, q_tuple_t, q_repr_l, q_repr_t, sseq]
    refine ⟨p, k, n + j, rfl, rfl, by omega, by omega, hS, by omega, fun v N1 v0 v1 S1 F1 => ?_⟩
    simp only [tv, tk, to2, to1, tbl, tch, tand, tor, tnot, vand, vor, vnot, tif, a0, ac, as_, dtup, dlst, tcb, tcall, sret, sretN, sif, snx, sdrop, sasg, gn, spar, snever, bend, startD, List.map_cons, List.map_nil, List.length_cons, List.length_nil, List.replicate, List.cons_append, List.nil_append, List.append_nil, List.getElem?_cons_zero, List.getElem?_cons_succ, List.set_cons_zero, List.set_cons_succ, Nat.reduceAdd, Nat.reduceSub, Nat.zero_add, tcallK, ro, List.getD_cons_zero, List.getD_cons_succ, true_and, wipeD, Bool.not_true, Bool.not_false, Bool.false_eq_true, if_true, if_false, q_add_i, q_add_s, q_add_l, q_add_t, q_sub, q_mul_i, q_mul_l, q_mul_s, q_div, q_mod, q_pow, q_lt, q_le, q_gt, q_ge, q_eq_i, q_eq_s, q_eq_b, q_ne_i, q_ne_s, q_ne_b, q_eq_l, q_eq_t, q_ne_l, q_ne_t, q_is, q_isnt, isN_int, isN_str, isN_lst, isN_tup, isN_ref, isN_bl, isN_non, q_neg, q_ix_l, q_ix_t, atD_s, at_1_0, at_2_0, at_2_1, at_3_0, at_3_1, at_3_2, at_4_0, at_4_1, at_4_2, at_4_3, q_len_l, q_len_t, q_len_s, q_abs, q_int_i, q_int_b, q_str, q_list_l, q_list_t, q_tuple_l, q_tuple_t, q_repr_l, q_repr_t, sseq]
    have N1r : N1 r = some (.lst (m.map D.int)) := (F1 r hr).trans hN
    have i1 : isL N1 r := by unfold isL; rw [N1r]; trivial
    have lmc : m.length < 5 := by omega
    obtain ⟨B, hB⟩ : ∃ B, B = P0 * prodN m := ⟨_, rfl⟩
    obtain ⟨m1, _⟩ := cm (i := ((P0 * prodN m : Nat) : Int)) (j := 1 + v) 10 10 (by omega) (by omega) (by decide)
    have step : ∀ (i : Int), 1 ≤ i → i ≤ 60 → P0 * prodN m * i.toNat ≤ 200 → ((m.map D.int).length < sizeLine ∧ rdIx (.ref r) (.int (-1)) (mput N1 r (.lst (m.map D.int ++ [.int i]))) fun y M2 => rdMul (.int ((P0 * prodN m : Nat) : Int)) y M2 fun d_1 M1 => Dn.nx [some (.ref p), some (.int k), x2, x3, x4, some d, x6, x7, some d_1, x9, some (.ref r), some (.int (1 + v))] M1) := fun i i0 i60 hi => by
      refine ⟨by rw [List.length_map]; omega, ?_⟩
      have e1 : m.map D.int ++ [D.int i] = (m ++ [i]).map D.int := by rw [List.map_append]; rfl
      rw [e1]
      have al : atI ((m ++ [i]).map D.int) (-1) = some (D.int i) := by rw [← e1]; exact at_last
      rw [q_ix_r (xs := (m ++ [i]).map D.int) mput_same, al, atD_s, q_mul_i]
      obtain ⟨m2, _⟩ := cm (i := ((P0 * prodN m : Nat) : Int)) (j := i) 10 10 (by omega) (by omega) (by decide)
      refine ⟨m2, ?_⟩
      have e2 : ((P0 * prodN m : Nat) : Int) * i = ((P0 * prodN (m ++ [i]) : Nat) : Int) := by
        rw [prodN_app, ← Nat.mul_assoc, Int.natCast_mul (P0 * prodN m) i.toNat, Int.toNat_of_nonneg (by omega)]
      rw [e2]
      refine hnx _ _ ⟨m ++ [i], _, _, rfl, by rw [List.length_append, List.length_singleton, lm], fun x hx => ?_, by rw [prodN_app, ← Nat.mul_assoc]; exact hi, ((S1.more (by omega : n + j + 1 ≤ n + (j + 1))).fr hr FrB.put), mput_same, fun q h1 h2 => ?_⟩
      · rcases List.mem_append.mp hx with w | w
        · exact hm x w
        · rw [List.mem_singleton.mp w]; exact ⟨i0, i60⟩
      · rw [mput_ne h2]; exact (F1 q h1).trans (hF q h1 h2)
    simp only [tapp, tv, tk, to2, to1, tbl, tch, tand, tor, tnot, vand, vor, vnot, tif, a0, ac, as_, dtup, dlst, tcb, tcall, sret, sretN, sif, snx, sdrop, sasg, gn, spar, snever, bend, startD, List.map_cons, List.map_nil, List.length_cons, List.length_nil, List.replicate, List.cons_append, List.nil_append, List.append_nil, List.getElem?_cons_zero, List.getElem?_cons_succ, List.set_cons_zero, List.set_cons_succ, Nat.reduceAdd, Nat.reduceSub, Nat.zero_add, tcallK, ro, List.getD_cons_zero, List.getD_cons_succ, true_and, wipeD, Bool.not_true, Bool.not_false, Bool.false_eq_true, if_true, if_false, q_add_i, q_add_s, q_add_l, q_add_t, q_sub, q_mul_i, q_mul_l, q_mul_s, q_div, q_mod, q_pow, q_lt, q_le, q_gt, q_ge, q_eq_i, q_eq_s, q_eq_b, q_ne_i, q_ne_s, q_ne_b, q_eq_l, q_eq_t, q_ne_l, q_ne_t, q_is, q_isnt, isN_int, isN_str, isN_lst, isN_tup, isN_ref, isN_bl, isN_non, q_neg, q_ix_l, q_ix_t, atD_s, at_1_0, at_2_0, at_2_1, at_3_0, at_3_1, at_3_2, at_4_0, at_4_1, at_4_2, at_4_3, q_len_l, q_len_t, q_len_s, q_abs, q_int_i, q_int_b, q_str, q_list_l, q_list_t, q_tuple_l, q_tuple_t, q_repr_l, q_repr_t, N1r]
    refine ⟨i1, m1, ?_⟩
    by_cases c1 : ((P0 * prodN m : Nat) : Int) * (1 + v) < 201
    · rw [decide_eq_true c1]
      simp only [if_true]
      refine step (1 + v) (by omega) (by omega) ?_
      have e3 : ((P0 * prodN m * (1 + v).toNat : Nat) : Int) = ((P0 * prodN m : Nat) : Int) * (1 + v) := by rw [Int.natCast_mul (P0 * prodN m) (1 + v).toNat, Int.toNat_of_nonneg (by omega)]
      omega
    · rw [decide_eq_false c1]
      simp only [Bool.false_eq_true, if_false]
      exact step 1 (by decide) (by decide) (by show P0 * prodN m * 1 ≤ 200; omega)
theorem rd__law_branches : ∀ ds M Q E, sp__law_branches ds M Q E → t__law_branches (bend Q E) (startD ["spring", "top", "middles", "tie", "ends", "k", "rows", "cut", "product", "count", "inside", "period"] ds) M := rdF3 fun s t d M Q E ⟨p, n, k, md, e1, e2, e3, hk1, hk2, hd0, hd1, hS, hn, q⟩ => by
  subst e1 e2 e3
  unfold t__law_branches
  have z : sizeLine = 16777216 := rfl
  have j0 : atI [D.str "new", D.str "old"] 0 = some (D.str "new") := rfl
  have j1 : atI [D.str "new", D.str "old"] 1 = some (D.str "old") := rfl
  refine seq_step fun K1 hK1 => ?_
  have afterTie : ∀ (tie : Str) N, (tie = Str.ofString "new" ∨ tie = Str.ofString "old") → Spr N p (n + 1) → compD (gn 5) tyes (to2 rdAdd (tk (.int 1)) (tcall sp__law_take (ac (tv 0) (ac (tv 1) a0)))) [some (.ref p), some (.int k), some (.int md), none, none, none, none, none, none, none, none, none] (rgD 0 2) [] N
      (fun acc M2 => K1 [some (.ref p), some (.int k), some (.int md), some (.str tie), some (.lst acc), none, none, none, none, none, none, none] M2) := fun tie N ht S1 => by
    refine compD_s 2 (Iv := fun j N => Spr N p (n + 1 + j)) (P := fun y => ∃ i, y = D.int i ∧ 1 ≤ i ∧ i ≤ k) (rgD 0 2) 0 [] N (fun d _ j N hj S2 kq hkq => ?_) (by decide) (by decide) S1 fun ys N2 hl hy S2 => ?_
    · simp only [tv, tk, to2, to1, tbl, tch, tand, tor, tnot, vand, vor, vnot, tif, a0, ac, as_, dtup, dlst, tcb, tcall, sret, sretN, sif, snx, sdrop, sasg, gn, spar, snever, bend, startD, List.map_cons, List.map_nil, List.length_cons, List.length_nil, List.replicate, List.cons_append, List.nil_append, List.append_nil, List.getElem?_cons_zero, List.getElem?_cons_succ, List.set_cons_zero, List.set_cons_succ, Nat.reduceAdd, Nat.reduceSub, Nat.zero_add, tcallK, ro, List.getD_cons_zero, List.getD_cons_succ, true_and, wipeD, Bool.not_true, Bool.not_false, Bool.false_eq_true, if_true, if_false, q_add_i, q_add_s, q_add_l, q_add_t, q_sub, q_mul_i, q_mul_l, q_mul_s, q_div, q_mod, q_pow, q_lt, q_le, q_gt, q_ge, q_eq_i, q_eq_s, q_eq_b, q_ne_i, q_ne_s, q_ne_b, q_eq_l, q_eq_t, q_ne_l, q_ne_t, q_is, q_isnt, isN_int, isN_str, isN_lst, isN_tup, isN_ref, isN_bl, isN_non, q_neg, q_ix_l, q_ix_t, atD_s, at_1_0, at_2_0, at_2_1, at_3_0, at_3_1, at_3_2, at_4_0, at_4_1, at_4_2, at_4_3, q_len_l, q_len_t, q_len_s, q_abs, q_int_i, q_int_b, q_str, q_list_l, q_list_t, q_tuple_l, q_tuple_t, q_repr_l, q_repr_t]
      refine ⟨p, k, _, rfl, rfl, by omega, by omega, S2, by omega, fun v N3 v0 v1 S3 _ => ?_⟩
      simp only [tv, tk, to2, to1, tbl, tch, tand, tor, tnot, vand, vor, vnot, tif, a0, ac, as_, dtup, dlst, tcb, tcall, sret, sretN, sif, snx, sdrop, sasg, gn, spar, snever, bend, startD, List.map_cons, List.map_nil, List.length_cons, List.length_nil, List.replicate, List.cons_append, List.nil_append, List.append_nil, List.getElem?_cons_zero, List.getElem?_cons_succ, List.set_cons_zero, List.set_cons_succ, Nat.reduceAdd, Nat.reduceSub, Nat.zero_add, tcallK, ro, List.getD_cons_zero, List.getD_cons_succ, true_and, wipeD, Bool.not_true, Bool.not_false, Bool.false_eq_true, if_true, if_false, q_add_i, q_add_s, q_add_l, q_add_t, q_sub, q_mul_i, q_mul_l, q_mul_s, q_div, q_mod, q_pow, q_lt, q_le, q_gt, q_ge, q_eq_i, q_eq_s, q_eq_b, q_ne_i, q_ne_s, q_ne_b, q_eq_l, q_eq_t, q_ne_l, q_ne_t, q_is, q_isnt, isN_int, isN_str, isN_lst, isN_tup, isN_ref, isN_bl, isN_non, q_neg, q_ix_l, q_ix_t, atD_s, at_1_0, at_2_0, at_2_1, at_3_0, at_3_1, at_3_2, at_4_0, at_4_1, at_4_2, at_4_3, q_len_l, q_len_t, q_len_s, q_abs, q_int_i, q_int_b, q_str, q_list_l, q_list_t, q_tuple_l, q_tuple_t, q_repr_l, q_repr_t]
      exact hkq _ _ ⟨_, rfl, by omega, by omega⟩ S3
    · obtain ⟨l, el, ll, hl2⟩ := of_each ys hy
      have l2 : l.length = 2 := by rw [ll, hl]; rfl
      obtain ⟨a, e, rfl⟩ : ∃ a e, l = [a, e] := by
        match l, l2 with
        | [a, e], _ => exact ⟨a, e, rfl⟩
      subst el
      have ha := hl2 a List.mem_cons_self
      have he := hl2 e (List.mem_cons_of_mem _ List.mem_cons_self)
      subst hK1
      refine seq_step fun K2 hK2 => ?_
      have ea : atI [D.int a, D.int e] 0 = some (D.int a) := rfl
      have ee : atI [D.int a, D.int e] 1 = some (D.int e) := rfl
      obtain ⟨mm, _⟩ := cm (i := a) (j := e) 6 6 (by omega) (by omega) (by decide)
      simp only [spar3, tv, tk, to2, to1, tbl, tch, tand, tor, tnot, vand, vor, vnot, tif, a0, ac, as_, dtup, dlst, tcb, tcall, sret, sretN, sif, snx, sdrop, sasg, gn, spar, snever, bend, startD, List.map_cons, List.map_nil, List.length_cons, List.length_nil, List.replicate, List.cons_append, List.nil_append, List.append_nil, List.getElem?_cons_zero, List.getElem?_cons_succ, List.set_cons_zero, List.set_cons_succ, Nat.reduceAdd, Nat.reduceSub, Nat.zero_add, tcallK, ro, List.getD_cons_zero, List.getD_cons_succ, true_and, wipeD, Bool.not_true, Bool.not_false, Bool.false_eq_true, if_true, if_false, q_add_i, q_add_s, q_add_l, q_add_t, q_sub, q_mul_i, q_mul_l, q_mul_s, q_div, q_mod, q_pow, q_lt, q_le, q_gt, q_ge, q_eq_i, q_eq_s, q_eq_b, q_ne_i, q_ne_s, q_ne_b, q_eq_l, q_eq_t, q_ne_l, q_ne_t, q_is, q_isnt, isN_int, isN_str, isN_lst, isN_tup, isN_ref, isN_bl, isN_non, q_neg, q_ix_l, q_ix_t, atD_s, at_1_0, at_2_0, at_2_1, at_3_0, at_3_1, at_3_2, at_4_0, at_4_1, at_4_2, at_4_3, q_len_l, q_len_t, q_len_s, q_abs, q_int_i, q_int_b, q_str, q_list_l, q_list_t, q_tuple_l, q_tuple_t, q_repr_l, q_repr_t, dlstM, List.nil_append]
      refine ⟨by decide, fun q0 hq0 => ?_⟩
      have nq := spr_ne S2 hq0
      have S3 := S2.mle (mle_put (o := .lst []) hq0)
      try simp only [tv, tk, to2, to1, tbl, tch, tand, tor, tnot, vand, vor, vnot, tif, a0, ac, as_, dtup, dlst, tcb, tcall, sret, sretN, sif, snx, sdrop, sasg, gn, spar, snever, bend, startD, List.map_cons, List.map_nil, List.length_cons, List.length_nil, List.replicate, List.cons_append, List.nil_append, List.append_nil, List.getElem?_cons_zero, List.getElem?_cons_succ, List.set_cons_zero, List.set_cons_succ, Nat.reduceAdd, Nat.reduceSub, Nat.zero_add, tcallK, ro, List.getD_cons_zero, List.getD_cons_succ, true_and, wipeD, Bool.not_true, Bool.not_false, Bool.false_eq_true, if_true, if_false, q_add_i, q_add_s, q_add_l, q_add_t, q_sub, q_mul_i, q_mul_l, q_mul_s, q_div, q_mod, q_pow, q_lt, q_le, q_gt, q_ge, q_eq_i, q_eq_s, q_eq_b, q_ne_i, q_ne_s, q_ne_b, q_eq_l, q_eq_t, q_ne_l, q_ne_t, q_is, q_isnt, isN_int, isN_str, isN_lst, isN_tup, isN_ref, isN_bl, isN_non, q_neg, q_ix_l, q_ix_t, atD_s, at_1_0, at_2_0, at_2_1, at_3_0, at_3_1, at_3_2, at_4_0, at_4_1, at_4_2, at_4_3, q_len_l, q_len_t, q_len_s, q_abs, q_int_i, q_int_b, q_str, q_list_l, q_list_t, q_tuple_l, q_tuple_t, q_repr_l, q_repr_t, rdIx, ea, ee, atD]
      refine ⟨p, md + 1, _, rfl, rfl, by omega, by omega, S3, by rw [rgD_len]; show n + 1 + 2 ≤ _; omega, fun cut N4 c0 c1 S4 F4 => ?_⟩
      try simp only [tv, tk, to2, to1, tbl, tch, tand, tor, tnot, vand, vor, vnot, tif, a0, ac, as_, dtup, dlst, tcb, tcall, sret, sretN, sif, snx, sdrop, sasg, gn, spar, snever, bend, startD, List.map_cons, List.map_nil, List.length_cons, List.length_nil, List.replicate, List.cons_append, List.nil_append, List.append_nil, List.getElem?_cons_zero, List.getElem?_cons_succ, List.set_cons_zero, List.set_cons_succ, Nat.reduceAdd, Nat.reduceSub, Nat.zero_add, tcallK, ro, List.getD_cons_zero, List.getD_cons_succ, true_and, wipeD, Bool.not_true, Bool.not_false, Bool.false_eq_true, if_true, if_false, q_add_i, q_add_s, q_add_l, q_add_t, q_sub, q_mul_i, q_mul_l, q_mul_s, q_div, q_mod, q_pow, q_lt, q_le, q_gt, q_ge, q_eq_i, q_eq_s, q_eq_b, q_ne_i, q_ne_s, q_ne_b, q_eq_l, q_eq_t, q_ne_l, q_ne_t, q_is, q_isnt, isN_int, isN_str, isN_lst, isN_tup, isN_ref, isN_bl, isN_non, q_neg, q_ix_l, q_ix_t, atD_s, at_1_0, at_2_0, at_2_1, at_3_0, at_3_1, at_3_2, at_4_0, at_4_1, at_4_2, at_4_3, q_len_l, q_len_t, q_len_s, q_abs, q_int_i, q_int_b, q_str, q_list_l, q_list_t, q_tuple_l, q_tuple_t, q_repr_l, q_repr_t, rdIx, ea, ee, atD]
      refine ⟨mm, ?_⟩
      have hN4 : N4 q0 = some (.lst []) := (F4 q0 nq).trans mput_same
      have rl2 : (rgD 0 2).length = 2 := by rw [rgD_len]; rfl
      rw [rl2] at S4
      subst hK2
      refine seq_step fun K3 hK3 => ?_
      have rest : ∀ (e' : Int) (P0 : Nat), 1 ≤ e' → e' ≤ k → P0 = a.toNat * e'.toNat → P0 ≤ 200 → K3 [some (.ref p), some (.int k), some (.int md), some (.str tie), some (.lst [.int a, .int e']), none, some (.ref q0), some (.int cut), some (.int (P0 : Int)), none, none, none] N4 := fun e' P0 h1 h2 hP hP2 => by
        subst hK3
        refine seq_step fun K4 hK4 => ?_
        have k1 : cutD [D.int a, D.int e'] none (some 1) = [D.int a] := rfl
        have k2 : cutD [D.int a, D.int e'] (some 1) none = [D.int e'] := rfl
        have one : ∀ (c P1 : Nat) (xs : List D) (N : MM) (n' : Nat) (o5 o10 o11 : Option D) (Dn : DEnds), c ≤ 3 → 1 ≤ P1 → P1 ≤ 200 → n' ≤ 2000 → Spr N p n' → N q0 = some (.lst xs) → xs.length ≤ 5 →
            (∀ (m : List Int) (N' : MM) (o5 o10 o11 : Option D), m.length = c → (∀ i ∈ m, 1 ≤ i ∧ i ≤ 60) → P1 * prodN m ≤ 200 → Spr N' p (n' + c) → N' q0 = some (.lst (xs ++ [rowD tie (psOf a e' m)])) → Dn.nx [some (.ref p), some (.int k), some (.int md), some (.str tie), some (.lst [.int a, .int e']), o5, some (.ref q0), some (.int cut), some (.int ((P1 * prodN m : Nat) : Int)), some (.int (c : Int)), o10, o11] N') →
            (sseq (sasg (dlstM a0) (gn 10)) (sseq (sfor (irng1 (ac (tv 9) a0)) (gn 5) (sseq (sasg (to2 rdAdd (tk (.int 1)) (tcall sp__law_take (ac (tv 0) (ac (tv 1) a0)))) (gn 11))
              (sseq (sdrop (tapp (tv 10) (ac (tif (tbl (to2 rdLt (to2 rdMul (tv 8) (tv 11)) (tk (.int 201)))) (tv 11) (tk (.int 1))) a0)))
                (sasg (to2 rdMul (tv 8) (to2 rdIx (tv 10) (to1 rdNeg (tk (.int 1))))) (gn 8)))))
              (sdrop (tapp (tv 6) (ac (dtup (ac (tv 3) (ac (tcb rdTuple (ac (to2 rdAddM (to2 rdAddM (tsl (tv 4) so_none (so_some (tk (.int 1)))) (tv 10)) (tsl (tv 4) (so_some (tk (.int 1))) so_none)) a0)) a0))) a0))))) Dn
              [some (.ref p), some (.int k), some (.int md), some (.str tie), some (.lst [.int a, .int e']), o5, some (.ref q0), some (.int cut), some (.int (P1 : Int)), some (.int (c : Int)), o10, o11] N := fun c P1 xs N n' o5 o10 o11 Dn hc p1 p2 hn' hS hN hx hnx => by
          refine seq_step fun K5 hK5 => ?_
          simp only [tv, tk, to2, to1, tbl, tch, tand, tor, tnot, vand, vor, vnot, tif, a0, ac, as_, dtup, dlst, tcb, tcall, sret, sretN, sif, snx, sdrop, sasg, gn, spar, snever, bend, startD, List.map_cons, List.map_nil, List.length_cons, List.length_nil, List.replicate, List.cons_append, List.nil_append, List.append_nil, List.getElem?_cons_zero, List.getElem?_cons_succ, List.set_cons_zero, List.set_cons_succ, Nat.reduceAdd, Nat.reduceSub, Nat.zero_add, tcallK, ro, List.getD_cons_zero, List.getD_cons_succ, true_and, wipeD, Bool.not_true, Bool.not_false, Bool.false_eq_true, if_true, if_false, q_add_i, q_add_s, q_add_l, q_add_t, q_sub, q_mul_i, q_mul_l, q_mul_s, q_div, q_mod, q_pow, q_lt, q_le, q_gt, q_ge, q_eq_i, q_eq_s, q_eq_b, q_ne_i, q_ne_s, q_ne_b, q_eq_l, q_eq_t, q_ne_l, q_ne_t, q_is, q_isnt, isN_int, isN_str, isN_lst, isN_tup, isN_ref, isN_bl, isN_non, q_neg, q_ix_l, q_ix_t, atD_s, at_1_0, at_2_0, at_2_1, at_3_0, at_3_1, at_3_2, at_4_0, at_4_1, at_4_2, at_4_3, q_len_l, q_len_t, q_len_s, q_abs, q_int_i, q_int_b, q_str, q_list_l, q_list_t, q_tuple_l, q_tuple_t, q_repr_l, q_repr_t, dlstM]
          refine ⟨by decide, fun r hr => ?_⟩
          have nr := spr_ne hS hr
          have qr : q0 ≠ r := fun w => by rw [w, hr] at hN; cases hN
          have S5 := hS.mle (mle_put (o := .lst []) hr)
          subst hK5
          refine seq_step fun K6 hK6 => ?_
          simp only [tv, tk, to2, to1, tbl, tch, tand, tor, tnot, vand, vor, vnot, tif, a0, ac, as_, dtup, dlst, tcb, tcall, sret, sretN, sif, snx, sdrop, sasg, gn, spar, snever, bend, startD, List.map_cons, List.map_nil, List.length_cons, List.length_nil, List.replicate, List.cons_append, List.nil_append, List.append_nil, List.getElem?_cons_zero, List.getElem?_cons_succ, List.set_cons_zero, List.set_cons_succ, Nat.reduceAdd, Nat.reduceSub, Nat.zero_add, tcallK, ro, List.getD_cons_zero, List.getD_cons_succ, true_and, wipeD, Bool.not_true, Bool.not_false, Bool.false_eq_true, if_true, if_false, q_add_i, q_add_s, q_add_l, q_add_t, q_sub, q_mul_i, q_mul_l, q_mul_s, q_div, q_mod, q_pow, q_lt, q_le, q_gt, q_ge, q_eq_i, q_eq_s, q_eq_b, q_ne_i, q_ne_s, q_ne_b, q_eq_l, q_eq_t, q_ne_l, q_ne_t, q_is, q_isnt, isN_int, isN_str, isN_lst, isN_tup, isN_ref, isN_bl, isN_non, q_neg, q_ix_l, q_ix_t, atD_s, at_1_0, at_2_0, at_2_1, at_3_0, at_3_1, at_3_2, at_4_0, at_4_1, at_4_2, at_4_3, q_len_l, q_len_t, q_len_s, q_abs, q_int_i, q_int_b, q_str, q_list_l, q_list_t, q_tuple_l, q_tuple_t, q_repr_l, q_repr_t, sfor, irng1]
          refine ⟨⟨by omega, by omega⟩, ?_⟩
          refine inside_loop (r := r) (k := k) ⟨hk1, hk2⟩ nr p2 p1 hn' rfl c hc S5 mput_same _ _ fun m o5 o11 N6 lm hm hP hS6 hN6 hF => ?_
          have h6 : N6 q0 = some (.lst xs) := by rw [hF q0 nq qr, mput_ne qr]; exact hN
          have i6 : isL N6 q0 := by unfold isL; rw [h6]; trivial
          subst hK6
          simp only [tv, tk, to2, to1, tbl, tch, tand, tor, tnot, vand, vor, vnot, tif, a0, ac, as_, dtup, dlst, tcb, tcall, sret, sretN, sif, snx, sdrop, sasg, gn, spar, snever, bend, startD, List.map_cons, List.map_nil, List.length_cons, List.length_nil, List.replicate, List.cons_append, List.nil_append, List.append_nil, List.getElem?_cons_zero, List.getElem?_cons_succ, List.set_cons_zero, List.set_cons_succ, Nat.reduceAdd, Nat.reduceSub, Nat.zero_add, tcallK, ro, List.getD_cons_zero, List.getD_cons_succ, true_and, wipeD, Bool.not_true, Bool.not_false, Bool.false_eq_true, if_true, if_false, q_add_i, q_add_s, q_add_l, q_add_t, q_sub, q_mul_i, q_mul_l, q_mul_s, q_div, q_mod, q_pow, q_lt, q_le, q_gt, q_ge, q_eq_i, q_eq_s, q_eq_b, q_ne_i, q_ne_s, q_ne_b, q_eq_l, q_eq_t, q_ne_l, q_ne_t, q_is, q_isnt, isN_int, isN_str, isN_lst, isN_tup, isN_ref, isN_bl, isN_non, q_neg, q_ix_l, q_ix_t, atD_s, at_1_0, at_2_0, at_2_1, at_3_0, at_3_1, at_3_2, at_4_0, at_4_1, at_4_2, at_4_3, q_len_l, q_len_t, q_len_s, q_abs, q_int_i, q_int_b, q_str, q_list_l, q_list_t, q_tuple_l, q_tuple_t, q_repr_l, q_repr_t, tapp, tsl, so_some, so_none, k1, k2, rdAddM, lsOf, hN6]
          refine ⟨i6, by rw [List.length_map]; omega, fun r1 hr1 => ?_⟩
          simp only [mput_same]
          refine ⟨by simp only [List.length_cons, List.length_map, List.length_nil]; omega, fun r2 hr2 => ?_⟩
          have n1 : q0 ≠ r1 := fun w => by rw [w, hr1] at h6; cases h6
          have g1 : mput N6 r1 (.lst (D.int a :: m.map D.int)) q0 = some (.lst xs) := by rw [mput_ne n1]; exact h6
          have n2 : q0 ≠ r2 := fun w => by rw [w, hr2] at g1; cases g1
          rw [q_tuple_r mput_same]
          have g2 : mput (mput N6 r1 (.lst (D.int a :: m.map D.int))) r2 (.lst (D.int a :: (m.map D.int ++ [D.int e']))) q0 = some (.lst xs) := by rw [mput_ne n2]; exact g1
          simp only [tv, tk, to2, to1, tbl, tch, tand, tor, tnot, vand, vor, vnot, tif, a0, ac, as_, dtup, dlst, tcb, tcall, sret, sretN, sif, snx, sdrop, sasg, gn, spar, snever, bend, startD, List.map_cons, List.map_nil, List.length_cons, List.length_nil, List.replicate, List.cons_append, List.nil_append, List.append_nil, List.getElem?_cons_zero, List.getElem?_cons_succ, List.set_cons_zero, List.set_cons_succ, Nat.reduceAdd, Nat.reduceSub, Nat.zero_add, tcallK, ro, List.getD_cons_zero, List.getD_cons_succ, true_and, wipeD, Bool.not_true, Bool.not_false, Bool.false_eq_true, if_true, if_false, q_add_i, q_add_s, q_add_l, q_add_t, q_sub, q_mul_i, q_mul_l, q_mul_s, q_div, q_mod, q_pow, q_lt, q_le, q_gt, q_ge, q_eq_i, q_eq_s, q_eq_b, q_ne_i, q_ne_s, q_ne_b, q_eq_l, q_eq_t, q_ne_l, q_ne_t, q_is, q_isnt, isN_int, isN_str, isN_lst, isN_tup, isN_ref, isN_bl, isN_non, q_neg, q_ix_l, q_ix_t, atD_s, at_1_0, at_2_0, at_2_1, at_3_0, at_3_1, at_3_2, at_4_0, at_4_1, at_4_2, at_4_3, q_len_l, q_len_t, q_len_s, q_abs, q_int_i, q_int_b, q_str, q_list_l, q_list_t, q_tuple_l, q_tuple_t, q_repr_l, q_repr_t, g2]
          refine ⟨by decide, by omega, ?_⟩
          have er : D.tup [.str tie, .tup (D.int a :: (m.map D.int ++ [D.int e']))] = rowD tie (psOf a e' m) := by unfold rowD; simp
          rw [er]
          refine hnx m _ _ _ _ lm hm hP ?_ mput_same
          exact ((hS6.mle (mle_put hr1)).mle (mle_put hr2)).fr nq FrB.put
        simp only [tv, tk, to2, to1, tbl, tch, tand, tor, tnot, vand, vor, vnot, tif, a0, ac, as_, dtup, dlst, tcb, tcall, sret, sretN, sif, snx, sdrop, sasg, gn, spar, snever, bend, startD, List.map_cons, List.map_nil, List.length_cons, List.length_nil, List.replicate, List.cons_append, List.nil_append, List.append_nil, List.getElem?_cons_zero, List.getElem?_cons_succ, List.set_cons_zero, List.set_cons_succ, Nat.reduceAdd, Nat.reduceSub, Nat.zero_add, tcallK, ro, List.getD_cons_zero, List.getD_cons_succ, true_and, wipeD, Bool.not_true, Bool.not_false, Bool.false_eq_true, if_true, if_false, q_add_i, q_add_s, q_add_l, q_add_t, q_sub, q_mul_i, q_mul_l, q_mul_s, q_div, q_mod, q_pow, q_lt, q_le, q_gt, q_ge, q_eq_i, q_eq_s, q_eq_b, q_ne_i, q_ne_s, q_ne_b, q_eq_l, q_eq_t, q_ne_l, q_ne_t, q_is, q_isnt, isN_int, isN_str, isN_lst, isN_tup, isN_ref, isN_bl, isN_non, q_neg, q_ix_l, q_ix_t, atD_s, at_1_0, at_2_0, at_2_1, at_3_0, at_3_1, at_3_2, at_4_0, at_4_1, at_4_2, at_4_3, q_len_l, q_len_t, q_len_s, q_abs, q_int_i, q_int_b, q_str, q_list_l, q_list_t, q_tuple_l, q_tuple_t, q_repr_l, q_repr_t, sfor, itup]
        refine ⟨by decide, ?_⟩
        obtain ⟨c1', ec1⟩ : ∃ c : Nat, cut = (c : Int) := ⟨cut.toNat, by omega⟩
        obtain ⟨c2', ec2⟩ : ∃ c : Nat, md - cut = (c : Int) := ⟨(md - cut).toNat, by omega⟩
        rw [ec2]
        have hP1 : 1 ≤ P0 := by rw [hP]; exact Nat.mul_pos (by omega) (by omega)
        unfold forD
        show (sseq _ _) _ _ _
        have first := one c1' P0 [] N4 (n + 1 + (0 + 2) + 1)
        rw [← ec1] at first
        refine first _ _ _ _ (by omega) hP1 hP2 (by omega) S4 hN4 (by decide) fun m N5 o5 o10 o11 lm hm hPm S5 h5 => ?_
        show forD _ _ _ _ _ _
        unfold forD
        refine one c2' (P0 * prodN m) [rowD tie (psOf a e' m)] N5 _ _ _ _ _ (by omega) (Nat.mul_pos hP1 (prodN_pos m fun i hi => (hm i hi).1)) hPm (by omega) S5 h5 (by show 1 ≤ 5; decide) fun m' N6 o5 o10 o11 lm' hm' hPm' S6 h6 => ?_
        show forD _ _ _ _ _ _
        unfold forD
        subst hK4
        simp only [tv, tk, to2, to1, tbl, tch, tand, tor, tnot, vand, vor, vnot, tif, a0, ac, as_, dtup, dlst, tcb, tcall, sret, sretN, sif, snx, sdrop, sasg, gn, spar, snever, bend, startD, List.map_cons, List.map_nil, List.length_cons, List.length_nil, List.replicate, List.cons_append, List.nil_append, List.append_nil, List.getElem?_cons_zero, List.getElem?_cons_succ, List.set_cons_zero, List.set_cons_succ, Nat.reduceAdd, Nat.reduceSub, Nat.zero_add, tcallK, ro, List.getD_cons_zero, List.getD_cons_succ, true_and, wipeD, Bool.not_true, Bool.not_false, Bool.false_eq_true, if_true, if_false, q_add_i, q_add_s, q_add_l, q_add_t, q_sub, q_mul_i, q_mul_l, q_mul_s, q_div, q_mod, q_pow, q_lt, q_le, q_gt, q_ge, q_eq_i, q_eq_s, q_eq_b, q_ne_i, q_ne_s, q_ne_b, q_eq_l, q_eq_t, q_ne_l, q_ne_t, q_is, q_isnt, isN_int, isN_str, isN_lst, isN_tup, isN_ref, isN_bl, isN_non, q_neg, q_ix_l, q_ix_t, atD_s, at_1_0, at_2_0, at_2_1, at_3_0, at_3_1, at_3_2, at_4_0, at_4_1, at_4_2, at_4_3, q_len_l, q_len_t, q_len_s, q_abs, q_int_i, q_int_b, q_str, q_list_l, q_list_t, q_tuple_l, q_tuple_t, q_repr_l, q_repr_t]
        refine q tie a e' m m' q0 N6 ht ⟨by omega, by omega, hm, hm', by omega, by omega, ?_⟩ ⟨ha.2, h2⟩ nq (S6.more (by omega)) h6
        rw [← hP, ← Nat.mul_assoc]; exact hPm'
      have pos : (((a.toNat * e.toNat : Nat)) : Int) = a * e := by rw [Int.natCast_mul, Int.toNat_of_nonneg (by omega), Int.toNat_of_nonneg (by omega)]
      simp only [tv, tk, to2, to1, tbl, tch, tand, tor, tnot, vand, vor, vnot, tif, a0, ac, as_, dtup, dlst, tcb, tcall, sret, sretN, sif, snx, sdrop, sasg, gn, spar, snever, bend, startD, List.map_cons, List.map_nil, List.length_cons, List.length_nil, List.replicate, List.cons_append, List.nil_append, List.append_nil, List.getElem?_cons_zero, List.getElem?_cons_succ, List.set_cons_zero, List.set_cons_succ, Nat.reduceAdd, Nat.reduceSub, Nat.zero_add, tcallK, ro, List.getD_cons_zero, List.getD_cons_succ, true_and, wipeD, Bool.not_true, Bool.not_false, Bool.false_eq_true, if_true, if_false, q_add_i, q_add_s, q_add_l, q_add_t, q_sub, q_mul_i, q_mul_l, q_mul_s, q_div, q_mod, q_pow, q_lt, q_le, q_gt, q_ge, q_eq_i, q_eq_s, q_eq_b, q_ne_i, q_ne_s, q_ne_b, q_eq_l, q_eq_t, q_ne_l, q_ne_t, q_is, q_isnt, isN_int, isN_str, isN_lst, isN_tup, isN_ref, isN_bl, isN_non, q_neg, q_ix_l, q_ix_t, atD_s, at_1_0, at_2_0, at_2_1, at_3_0, at_3_1, at_3_2, at_4_0, at_4_1, at_4_2, at_4_3, q_len_l, q_len_t, q_len_s, q_abs, q_int_i, q_int_b, q_str, q_list_l, q_list_t, q_tuple_l, q_tuple_t, q_repr_l, q_repr_t, spar, rdIx, ea, ee, atD]
      by_cases hb : 200 < a * e
      · rw [decide_eq_true hb]
        simp only [if_true]
        refine ⟨by decide, ?_⟩
        have := rest 1 a.toNat (by decide) (by omega) (by show a.toNat = a.toNat * 1; omega) (by omega)
        rw [Int.toNat_of_nonneg (by omega)] at this
        exact this
      · rw [decide_eq_false hb]
        simp only [Bool.false_eq_true, if_false]
        have := rest e (a.toNat * e.toNat) (by omega) (by omega) rfl (by omega)
        rw [pos] at this
        exact this
  simp only [spar, tv, tk, to2, to1, tbl, tch, tand, tor, tnot, vand, vor, vnot, tif, a0, ac, as_, dtup, dlst, tcb, tcall, sret, sretN, sif, snx, sdrop, sasg, gn, spar, snever, bend, startD, List.map_cons, List.map_nil, List.length_cons, List.length_nil, List.replicate, List.cons_append, List.nil_append, List.append_nil, List.getElem?_cons_zero, List.getElem?_cons_succ, List.set_cons_zero, List.set_cons_succ, Nat.reduceAdd, Nat.reduceSub, Nat.zero_add, tcallK, ro, List.getD_cons_zero, List.getD_cons_succ, true_and, wipeD, Bool.not_true, Bool.not_false, Bool.false_eq_true, if_true, if_false, q_add_i, q_add_s, q_add_l, q_add_t, q_sub, q_mul_i, q_mul_l, q_mul_s, q_div, q_mod, q_pow, q_lt, q_le, q_gt, q_ge, q_eq_i, q_eq_s, q_eq_b, q_ne_i, q_ne_s, q_ne_b, q_eq_l, q_eq_t, q_ne_l, q_ne_t, q_is, q_isnt, isN_int, isN_str, isN_lst, isN_tup, isN_ref, isN_bl, isN_non, q_neg, q_ix_l, q_ix_t, atD_s, at_1_0, at_2_0, at_2_1, at_3_0, at_3_1, at_3_2, at_4_0, at_4_1, at_4_2, at_4_3, q_len_l, q_len_t, q_len_s, q_abs, q_int_i, q_int_b, q_str, q_list_l, q_list_t, q_tuple_l, q_tuple_t, q_repr_l, q_repr_t, rdIx]
  refine ⟨by decide, p, 2, n, rfl, rfl, by decide, by decide, hS, by omega, fun v N v0 v1 S1 _ => ?_⟩
  have hv : v = 0 ∨ v = 1 := by omega
  rcases hv with w | w <;> subst w
  · simp only [j0, j1, atD, tv, tk, to2, to1, tbl, tch, tand, tor, tnot, vand, vor, vnot, tif, a0, ac, as_, dtup, dlst, tcb, tcall, sret, sretN, sif, snx, sdrop, sasg, gn, spar, snever, bend, startD, List.map_cons, List.map_nil, List.length_cons, List.length_nil, List.replicate, List.cons_append, List.nil_append, List.append_nil, List.getElem?_cons_zero, List.getElem?_cons_succ, List.set_cons_zero, List.set_cons_succ, Nat.reduceAdd, Nat.reduceSub, Nat.zero_add, tcallK, ro, List.getD_cons_zero, List.getD_cons_succ, true_and, wipeD, Bool.not_true, Bool.not_false, Bool.false_eq_true, if_true, if_false, q_add_i, q_add_s, q_add_l, q_add_t, q_sub, q_mul_i, q_mul_l, q_mul_s, q_div, q_mod, q_pow, q_lt, q_le, q_gt, q_ge, q_eq_i, q_eq_s, q_eq_b, q_ne_i, q_ne_s, q_ne_b, q_eq_l, q_eq_t, q_ne_l, q_ne_t, q_is, q_isnt, isN_int, isN_str, isN_lst, isN_tup, isN_ref, isN_bl, isN_non, q_neg, q_ix_l, q_ix_t, atD_s, at_1_0, at_2_0, at_2_1, at_3_0, at_3_1, at_3_2, at_4_0, at_4_1, at_4_2, at_4_3, q_len_l, q_len_t, q_len_s, q_abs, q_int_i, q_int_b, q_str, q_list_l, q_list_t, q_tuple_l, q_tuple_t, q_repr_l, q_repr_t, tlc, irng1]
    exact ⟨⟨by decide, by decide⟩, afterTie _ N (.inl rfl) S1⟩
  · simp only [j0, j1, atD, tv, tk, to2, to1, tbl, tch, tand, tor, tnot, vand, vor, vnot, tif, a0, ac, as_, dtup, dlst, tcb, tcall, sret, sretN, sif, snx, sdrop, sasg, gn, spar, snever, bend, startD, List.map_cons, List.map_nil, List.length_cons, List.length_nil, List.replicate, List.cons_append, List.nil_append, List.append_nil, List.getElem?_cons_zero, List.getElem?_cons_succ, List.set_cons_zero, List.set_cons_succ, Nat.reduceAdd, Nat.reduceSub, Nat.zero_add, tcallK, ro, List.getD_cons_zero, List.getD_cons_succ, true_and, wipeD, Bool.not_true, Bool.not_false, Bool.false_eq_true, if_true, if_false, q_add_i, q_add_s, q_add_l, q_add_t, q_sub, q_mul_i, q_mul_l, q_mul_s, q_div, q_mod, q_pow, q_lt, q_le, q_gt, q_ge, q_eq_i, q_eq_s, q_eq_b, q_ne_i, q_ne_s, q_ne_b, q_eq_l, q_eq_t, q_ne_l, q_ne_t, q_is, q_isnt, isN_int, isN_str, isN_lst, isN_tup, isN_ref, isN_bl, isN_non, q_neg, q_ix_l, q_ix_t, atD_s, at_1_0, at_2_0, at_2_1, at_3_0, at_3_1, at_3_2, at_4_0, at_4_1, at_4_2, at_4_3, q_len_l, q_len_t, q_len_s, q_abs, q_int_i, q_int_b, q_str, q_list_l, q_list_t, q_tuple_l, q_tuple_t, q_repr_l, q_repr_t, tlc, irng1]
    exact ⟨⟨by decide, by decide⟩, afterTie _ N (.inr rfl) S1⟩
end K41

namespace K41
open PySem PySem.Spec L2 DL
open TL
/-- a value that is no row -/
def BadR (M : MM) (d : D) : Prop := AnyRow isk M d ∧ rowOkB d = false
theorem any_flat {M : MM} {d : D} (h : AnyV isk M d) (hn : ∀ xs, d ≠ .tup xs) : AnyRow isk M d := ⟨h, fun xs e => absurd e (hn xs), fun xs e => absurd e (hn xs)⟩
theorem any_tup {M : MM} {xs : List D} (h : ∀ x ∈ xs, AnyV isk M x ∧ ∀ ys, x = .tup ys → ∀ y ∈ ys, AnyV isk M y) : AnyRow isk M (.tup xs) := ⟨trivial, fun zs e x hx => by cases e; exact (h x hx).1, fun zs e x hx => by cases e; exact (h x hx).2⟩
theorem mk_line {t : Str} {ps : List Int} {M : MM} {Q : DK} {E : EK} (g : GoodRow t ps) (q : ∀ a M', M a = none → MLe M M' → FrB a M M' → M' a = some (lineO t ps) → Q (.ref a) M') : mkD "Line" mk_Line (.str t :: ps.map D.int) M Q E := by
  intro a ha
  refine ⟨[.ref a, .str t], ps.map D.int, rfl, rfl, by rw [List.length_map]; exact g.sz, ?_⟩
  refine ⟨a, t, ps, rfl, rfl, rfl, g, mput_same, rfl, ?_⟩
  rw [mput_mput]
  exact q a _ ha (mle_put ha) FrB.put mput_same
def sp__law_bad_pack : SpD := spF2 fun s v M Q _ => ∃ p n t ps, s = .ref p ∧ v = rowD t ps ∧ GoodRow t ps ∧ Spr M p n ∧ n ≤ 2000 ∧
  ∀ d M', BadR M' d → Spr M' p (n + 2) → (∀ q o, q ≠ p → M q = some o → M' q = some o) → Q d M'
/-! def _law_bad_pack(spring, pack): slots 0 spring, 1 pack, 2 tie, 3 periods, 4 at, 5 bad, 6 found, 7 part -/
def t__law_bad_pack : TDS :=
    (sseq (sasg (tv 1) (gtup 2 (gsc (gn 2) (gsc (gn 3) gsn))))
    (sseq (sasg (tcall sp__law_take (ac (tv 0) (ac (tcb rdLen (ac (tv 3) a0)) a0))) (gn 4))
    (sseq (sasg (dlst (ac (tk (.int 0)) (ac (tk (.int 61)) (ac (to1 rdNeg (tk (.int 1))) (ac (tk (.bl true)) (ac (tk .non) (ac (tk (.str "3")) (ac (dtup (ac (tk (.int 3)) a0)) (ac (to2 rdPow (tk (.int 10)) (tk (.int 30))) (ac (texc "OtherEnds") (ac (tk (.bl false)) a0))))))))))) (gn 5))
    (sseq (sasg (dlst (ac (tcb rdList (ac (tv 1) a0)) (ac (dtup (ac (tv 2) a0)) (ac (dtup (ac (tv 2) (ac (tv 3) (ac (tk (.int 1)) a0)))) (ac (dtup (ac (tv 3) (ac (tv 2) a0))) (ac (dtup (ac (tk (.str "New")) (ac (tv 3) a0))) (ac (dtup (ac (tk (.str "")) (ac (tv 3) a0))) (ac (dtup (ac (tk .non) (ac (tv 3) a0))) a0)))))))) (gn 6))
    (sseq (sasg (to2 rdAdd (tv 6) (dlst (ac (dtup (ac (tk (.int 0)) (ac (tv 3) a0))) (ac (dtup (ac (tv 2) (ac (tcb rdList (ac (tv 3) a0)) a0))) (ac (dtup (ac (tv 2) (ac (tsl (tv 3) so_none (so_some (tk (.int 1)))) a0))) (ac (dtup (ac (tv 2) (ac (dtup a0) a0))) (ac (dtup (ac (tv 2) (ac (to2 rdMulT (dtup (ac (tk (.int 2)) a0)) (tk (.int 6))) a0))) (ac (tk .non) a0)))))))) (gn 6))
    (sseq (sasg (to2 rdAdd (tv 6) (dlst (ac (tk (.str "new 2 3")) (ac (tk (.int 0)) (ac (texc "OtherEnds") (ac (dtup a0) (ac (dtup (ac (tv 2) (ac (tk .non) a0))) (ac (dtup (ac (dtup (ac (tv 2) (ac (tv 3) a0))) a0)) (ac (dtup (ac (tk (.str "newold")) (ac (tv 3) a0))) a0))))))))) (gn 6))
    (sseq (sasg (to2 rdAdd (tv 6) (dlst (ac (dtup (ac (dlst (ac (tv 2) a0)) (ac (tv 3) a0))) (ac (dtup (ac (dtup (ac (tv 2) a0)) (ac (tv 3) a0))) (ac (tmk "Line" mk_Line (ac (tv 2) (ac (tk (.int 2)) (ac (tk (.int 3)) a0)))) a0))))) (gn 6))
    (sret (to2 rdIx (to2 rdAdd (tv 6) (tlc (iseq (tv 5)) (gn 7) tyes (dtup (ac (tv 2) (ac (to2 rdAdd (to2 rdAdd (tsl (tv 3) so_none (so_some (tv 4))) (dtup (ac (tv 7) a0))) (tsl (tv 3) (so_some (to2 rdAdd (tv 4) (tk (.int 1)))) so_none)) a0))) [7])) (tcall sp__law_take (ac (tv 0) (ac (tk (.int 33)) a0))))))))))))
theorem ok_pair {x y : D} (h : rowOkB (.tup [x, y]) = true) : ∃ t ps, x = .str t ∧ isTie t = true ∧ y = .tup ps ∧ (2 ≤ ps.length ∧ ps.length ≤ 5) ∧ ps.all (inR 1 60) = true := by
  unfold rowOkB at h
  split at h
  · rename_i t ps e
    cases e
    simp only [Bool.and_eq_true, decide_eq_true_eq] at h
    exact ⟨t, ps, rfl, h.1, rfl, h.2.1, h.2.2⟩
  · cases h
theorem ok_two {xs : List D} (h : rowOkB (.tup xs) = true) : xs.length = 2 := by
  unfold rowOkB at h
  split at h
  · rename_i e; cases e; rfl
  · cases h
theorem nb {d : D} (h : rowOkB d = true → False) : rowOkB d = false := by
  cases e : rowOkB d with
  | false => rfl
  | true => exact (h e).elim
def A1 (M : MM) (x : D) : Prop := AnyV isk M x ∧ ∀ ys, x = .tup ys → ∀ y ∈ ys, AnyV isk M y
theorem any_two {M : MM} {x y : D} (hx : A1 M x) (hy : A1 M y) : AnyRow isk M (.tup [x, y]) := any_tup fun z hz => by
  rcases List.mem_cons.mp hz with w | w
  · subst w; exact hx
  · rw [List.mem_singleton.mp w]; exact hy
theorem a1_flat {M : MM} {d : D} (h : AnyV isk M d) (hn : ∀ xs, d ≠ .tup xs) : A1 M d := ⟨h, fun xs e => absurd e (hn xs)⟩
theorem a1_tup {M : MM} {xs : List D} (h : ∀ x ∈ xs, AnyV isk M x) : A1 M (.tup xs) := ⟨trivial, fun ys e => by cases e; exact h⟩
theorem a1_ints {M : MM} (l : List Int) : A1 M (.tup (l.map D.int)) := a1_tup fun x hx => by
  obtain ⟨i, _, e⟩ := List.mem_map.mp hx
  subst e; trivial
/-- the candidates that are written out -/
theorem bad_fixed {M : MM} {t : Str} {ps c1 : List Int} {a : Addr} {ls : List (Str × D)} (hc : c1.length ≤ 1) (ha : M a = some (.ins "Line" ls)) : ∀ d ∈ [D.lst [.str t, .tup (ps.map D.int)], .tup [.str t], .tup [.str t, .tup (ps.map D.int), .int 1], .tup [.tup (ps.map D.int), .str t], .tup [.str "New", .tup (ps.map D.int)], .tup [.str "", .tup (ps.map D.int)], .tup [.non, .tup (ps.map D.int)],
    .tup [.int 0, .tup (ps.map D.int)], .tup [.str t, .lst (ps.map D.int)], .tup [.str t, .tup (c1.map D.int)], .tup [.str t, .tup []], .tup [.str t, .tup ([2, 2, 2, 2, 2, 2].map D.int)], .non,
    .str "new 2 3", .int 0, .exc "OtherEnds" [], .tup [], .tup [.str t, .non], .tup [.tup [.str t, .tup (ps.map D.int)]], .tup [.str "newold", .tup (ps.map D.int)],
    .tup [.lst [.str t], .tup (ps.map D.int)], .tup [.tup [.str t], .tup (ps.map D.int)], .ref a], BadR M d := fun d hd => by
  have P := a1_ints (M := M) ps
  have T : A1 M (.str t) := a1_flat trivial (fun _ e => by cases e)
  have S : ∀ s, A1 M (.str s) := fun s => a1_flat trivial (fun _ e => by cases e)
  simp only [List.mem_cons, List.not_mem_nil, or_false] at hd
  rcases hd with w | w | w | w | w | w | w | w | w | w | w | w | w | w | w | w | w | w | w | w | w | w | w <;> subst w
  · exact ⟨any_flat trivial (fun _ e => by cases e), rfl⟩
  · exact ⟨any_tup fun z hz => by rw [List.mem_singleton.mp hz]; exact T, nb fun h => by have := ok_two h; cases this⟩
  · refine ⟨any_tup fun z hz => ?_, nb fun h => by have := ok_two h; cases this⟩
    rcases List.mem_cons.mp hz with w | w
    · subst w; exact T
    · rcases List.mem_cons.mp w with w | w
      · subst w; exact P
      · rw [List.mem_singleton.mp w]; exact a1_flat trivial (fun _ e => by cases e)
  · exact ⟨any_two P T, nb fun h => by obtain ⟨_, _, e, _⟩ := ok_pair h; cases e⟩
  · exact ⟨any_two (S _) P, nb fun h => by obtain ⟨s, _, e, ht, _⟩ := ok_pair h; cases e; revert ht; decide +kernel⟩
  · exact ⟨any_two (S _) P, nb fun h => by obtain ⟨s, _, e, ht, _⟩ := ok_pair h; cases e; revert ht; decide +kernel⟩
  · exact ⟨any_two (a1_flat trivial (fun _ e => by cases e)) P, nb fun h => by obtain ⟨_, _, e, _⟩ := ok_pair h; cases e⟩
  · exact ⟨any_two (a1_flat trivial (fun _ e => by cases e)) P, nb fun h => by obtain ⟨_, _, e, _⟩ := ok_pair h; cases e⟩
  · exact ⟨any_two T (a1_flat trivial (fun _ e => by cases e)), nb fun h => by obtain ⟨_, _, _, _, e, _⟩ := ok_pair h; cases e⟩
  · exact ⟨any_two T (a1_ints _), nb fun h => by obtain ⟨_, _, _, _, e, l, _⟩ := ok_pair h; cases e; rw [List.length_map] at l; omega⟩
  · exact ⟨any_two T (a1_tup fun x hx => by cases hx), nb fun h => by obtain ⟨_, _, _, _, e, l, _⟩ := ok_pair h; cases e; exact absurd l.1 (by decide)⟩
  · exact ⟨any_two T (a1_ints _), nb fun h => by obtain ⟨_, _, _, _, e, l, _⟩ := ok_pair h; cases e; exact absurd l.2 (by decide)⟩
  · exact ⟨any_flat trivial (fun _ e => by cases e), rfl⟩
  · exact ⟨any_flat trivial (fun _ e => by cases e), rfl⟩
  · exact ⟨any_flat trivial (fun _ e => by cases e), rfl⟩
  · exact ⟨any_flat (show isk.xs.contains _ = true by decide +kernel) (fun _ e => by cases e), rfl⟩
  · exact ⟨any_tup fun x hx => (by cases hx), nb fun h => by have := ok_two h; cases this⟩
  · exact ⟨any_two T (a1_flat trivial (fun _ e => by cases e)), nb fun h => by obtain ⟨_, _, _, _, e, _⟩ := ok_pair h; cases e⟩
  · refine ⟨any_tup fun z hz => ?_, nb fun h => by have := ok_two h; cases this⟩
    rw [List.mem_singleton.mp hz]
    refine a1_tup fun x hx => ?_
    rcases List.mem_cons.mp hx with w | w
    · subst w; trivial
    · rw [List.mem_singleton.mp w]; trivial
  · exact ⟨any_two (S _) P, nb fun h => by obtain ⟨s, _, e, ht, _⟩ := ok_pair h; cases e; revert ht; decide +kernel⟩
  · exact ⟨any_two (a1_flat trivial (fun _ e => by cases e)) P, nb fun h => by obtain ⟨_, _, e, _⟩ := ok_pair h; cases e⟩
  · exact ⟨any_two (a1_tup fun x hx => by rw [List.mem_singleton.mp hx]; trivial) P, nb fun h => by obtain ⟨_, _, e, _⟩ := ok_pair h; cases e⟩
  · exact ⟨any_flat (.inr ⟨_, _, ha, by decide +kernel⟩) (fun _ e => by cases e), rfl⟩
theorem bad_part {M : MM} {t : Str} {A B : List Int} {d : D} (hd : AnyV isk M d) (hb : inR 1 60 d = false) : BadR M (.tup [.str t, .tup (A.map D.int ++ [d] ++ B.map D.int)]) := by
  refine ⟨any_two (a1_flat trivial (fun _ e => by cases e)) (a1_tup fun x hx => ?_), nb fun h => ?_⟩
  · rcases List.mem_append.mp hx with w | w
    · rcases List.mem_append.mp w with w | w
      · obtain ⟨i, _, e⟩ := List.mem_map.mp w
        subst e; trivial
      · rw [List.mem_singleton.mp w]; exact hd
    · obtain ⟨i, _, e⟩ := List.mem_map.mp w
      subst e; trivial
  · obtain ⟨_, _, _, _, e, _, l⟩ := ok_pair h
    cases e
    have := List.all_eq_true.mp l d (by simp)
    rw [hb] at this; cases this
theorem at_mem {l : List D} {v : Int} (h0 : 0 ≤ v) (h1 : v < (l.length : Int)) : ∃ d ∈ l, atI l v = some d := by
  obtain ⟨n, en⟩ : ∃ n : Nat, v = (n : Int) := ⟨v.toNat, by omega⟩
  subst en
  have hv : n < l.length := by omega
  exact ⟨l[n], List.getElem_mem hv, atI_nat (List.getElem?_eq_getElem hv)⟩
theorem comp_all {te : TD} {σ : DSt} {i : Nat} {M : MM} {Q : List D → MM → Prop} (r : D → D) (ds : List D) (h : ∀ d ∈ ds, ∀ kq : DK, kq (r d) M → te (σ.set i (some d)) M kq F0) (hl : ds.length ≤ sizeLine) (q : Q (ds.map r) M) :
    compD (gn i) tyes te σ ds [] M Q := by
  have z := compD_n (te := te) (σ := σ) (i := i) (M := M) (Q := Q) (f := fun d : D => d) (r := r) ds [] h (by show 0 + _ ≤ _; omega) q
  rw [List.map_id'] at z
  exact z
theorem cut_ints (l : List Int) (lo hi : Option Int) : ∃ A : List Int, cutD (l.map D.int) lo hi = A.map D.int ∧ A.length ≤ l.length := by
  refine ⟨(l.drop (HT.sIx l.length 0 lo)).take (HT.sIx l.length l.length hi - HT.sIx l.length 0 lo), ?_, ?_⟩
  · unfold cutD
    rw [List.length_map, ← List.map_drop, ← List.map_take]
  · rw [List.length_take, List.length_drop]; omega
theorem rd__law_bad_pack : ∀ ds M Q E, sp__law_bad_pack ds M Q E → t__law_bad_pack (bend Q E) (startD ["spring", "pack", "tie", "periods", "at", "bad", "found", "part"] ds) M := rdF2 fun s v M Q E ⟨p, n, t, ps, e1, e2, g, hS, hn, q⟩ => by
  subst e1 e2
  unfold t__law_bad_pack
  have z : sizeLine = 16777216 := rfl
  have gl := g.l
  refine seq_step fun K1 hK1 => ?_
  simp only [tv, tk, to2, to1, tbl, tch, tand, tor, tnot, vand, vor, vnot, tif, a0, ac, as_, dtup, dlst, tcb, tcall, sret, sretN, sif, snx, sdrop, sasg, gn, spar, snever, bend, startD, List.map_cons, List.map_nil, List.length_cons, List.length_nil, List.replicate, List.cons_append, List.nil_append, List.append_nil, List.getElem?_cons_zero, List.getElem?_cons_succ, List.set_cons_zero, List.set_cons_succ, Nat.reduceAdd, Nat.reduceSub, Nat.zero_add, tcallK, ro, List.getD_cons_zero, List.getD_cons_succ, true_and, wipeD, Bool.not_true, Bool.not_false, Bool.false_eq_true, if_true, if_false, q_add_i, q_add_s, q_add_l, q_add_t, q_sub, q_mul_i, q_mul_l, q_mul_s, q_div, q_mod, q_pow, q_lt, q_le, q_gt, q_ge, q_eq_i, q_eq_s, q_eq_b, q_ne_i, q_ne_s, q_ne_b, q_eq_l, q_eq_t, q_ne_l, q_ne_t, q_is, q_isnt, isN_int, isN_str, isN_lst, isN_tup, isN_ref, isN_bl, isN_non, q_neg, q_ix_l, q_ix_t, atD_s, at_1_0, at_2_0, at_2_1, at_3_0, at_3_1, at_3_2, at_4_0, at_4_1, at_4_2, at_4_3, q_len_l, q_len_t, q_len_s, q_abs, q_int_i, q_int_b, q_str, q_list_l, q_list_t, q_tuple_l, q_tuple_t, q_repr_l, q_repr_t, rowD, gtup, gsc, gsn]
  subst hK1
  refine seq_step fun K2 hK2 => ?_
  simp only [tv, tk, to2, to1, tbl, tch, tand, tor, tnot, vand, vor, vnot, tif, a0, ac, as_, dtup, dlst, tcb, tcall, sret, sretN, sif, snx, sdrop, sasg, gn, spar, snever, bend, startD, List.map_cons, List.map_nil, List.length_cons, List.length_nil, List.replicate, List.cons_append, List.nil_append, List.append_nil, List.getElem?_cons_zero, List.getElem?_cons_succ, List.set_cons_zero, List.set_cons_succ, Nat.reduceAdd, Nat.reduceSub, Nat.zero_add, tcallK, ro, List.getD_cons_zero, List.getD_cons_succ, true_and, wipeD, Bool.not_true, Bool.not_false, Bool.false_eq_true, if_true, if_false, q_add_i, q_add_s, q_add_l, q_add_t, q_sub, q_mul_i, q_mul_l, q_mul_s, q_div, q_mod, q_pow, q_lt, q_le, q_gt, q_ge, q_eq_i, q_eq_s, q_eq_b, q_ne_i, q_ne_s, q_ne_b, q_eq_l, q_eq_t, q_ne_l, q_ne_t, q_is, q_isnt, isN_int, isN_str, isN_lst, isN_tup, isN_ref, isN_bl, isN_non, q_neg, q_ix_l, q_ix_t, atD_s, at_1_0, at_2_0, at_2_1, at_3_0, at_3_1, at_3_2, at_4_0, at_4_1, at_4_2, at_4_3, q_len_l, q_len_t, q_len_s, q_abs, q_int_i, q_int_b, q_str, q_list_l, q_list_t, q_tuple_l, q_tuple_t, q_repr_l, q_repr_t, List.length_map]
  refine ⟨p, ps.length, n, rfl, rfl, by omega, by omega, hS, by omega, fun at_ N1 v0 v1 S1 F1 => ?_⟩
  simp only [tv, tk, to2, to1, tbl, tch, tand, tor, tnot, vand, vor, vnot, tif, a0, ac, as_, dtup, dlst, tcb, tcall, sret, sretN, sif, snx, sdrop, sasg, gn, spar, snever, bend, startD, List.map_cons, List.map_nil, List.length_cons, List.length_nil, List.replicate, List.cons_append, List.nil_append, List.append_nil, List.getElem?_cons_zero, List.getElem?_cons_succ, List.set_cons_zero, List.set_cons_succ, Nat.reduceAdd, Nat.reduceSub, Nat.zero_add, tcallK, ro, List.getD_cons_zero, List.getD_cons_succ, true_and, wipeD, Bool.not_true, Bool.not_false, Bool.false_eq_true, if_true, if_false, q_add_i, q_add_s, q_add_l, q_add_t, q_sub, q_mul_i, q_mul_l, q_mul_s, q_div, q_mod, q_pow, q_lt, q_le, q_gt, q_ge, q_eq_i, q_eq_s, q_eq_b, q_ne_i, q_ne_s, q_ne_b, q_eq_l, q_eq_t, q_ne_l, q_ne_t, q_is, q_isnt, isN_int, isN_str, isN_lst, isN_tup, isN_ref, isN_bl, isN_non, q_neg, q_ix_l, q_ix_t, atD_s, at_1_0, at_2_0, at_2_1, at_3_0, at_3_1, at_3_2, at_4_0, at_4_1, at_4_2, at_4_3, q_len_l, q_len_t, q_len_s, q_abs, q_int_i, q_int_b, q_str, q_list_l, q_list_t, q_tuple_l, q_tuple_t, q_repr_l, q_repr_t]
  subst hK2
  refine seq_step fun K3 hK3 => ?_
  have cp : CPow 10 30 := ⟨by decide, by decide, by decide⟩
  obtain ⟨big, hbig⟩ : ∃ b : Int, b = 10 ^ (30 : Int).toNat := ⟨_, rfl⟩
  have hb : 1000 < big := by rw [hbig]; decide
  simp only [tv, tk, to2, to1, tbl, tch, tand, tor, tnot, vand, vor, vnot, tif, a0, ac, as_, dtup, dlst, tcb, tcall, sret, sretN, sif, snx, sdrop, sasg, gn, spar, snever, bend, startD, List.map_cons, List.map_nil, List.length_cons, List.length_nil, List.replicate, List.cons_append, List.nil_append, List.append_nil, List.getElem?_cons_zero, List.getElem?_cons_succ, List.set_cons_zero, List.set_cons_succ, Nat.reduceAdd, Nat.reduceSub, Nat.zero_add, tcallK, ro, List.getD_cons_zero, List.getD_cons_succ, true_and, wipeD, Bool.not_true, Bool.not_false, Bool.false_eq_true, if_true, if_false, q_add_i, q_add_s, q_add_l, q_add_t, q_sub, q_mul_i, q_mul_l, q_mul_s, q_div, q_mod, q_pow, q_lt, q_le, q_gt, q_ge, q_eq_i, q_eq_s, q_eq_b, q_ne_i, q_ne_s, q_ne_b, q_eq_l, q_eq_t, q_ne_l, q_ne_t, q_is, q_isnt, isN_int, isN_str, isN_lst, isN_tup, isN_ref, isN_bl, isN_non, q_neg, q_ix_l, q_ix_t, atD_s, at_1_0, at_2_0, at_2_1, at_3_0, at_3_1, at_3_2, at_4_0, at_4_1, at_4_2, at_4_3, q_len_l, q_len_t, q_len_s, q_abs, q_int_i, q_int_b, q_str, q_list_l, q_list_t, q_tuple_l, q_tuple_t, q_repr_l, q_repr_t, texc, ← hbig]
  refine ⟨by decide, cp, by decide, ?_⟩
  clear hbig
  obtain ⟨bad, hbad⟩ : ∃ bad, bad = [D.int 0, .int 61, .int (-1), .bl true, .non, .str "3", .tup [.int 3], .int big, .exc "OtherEnds" [], .bl false] := ⟨_, rfl⟩
  rw [← hbad]
  subst hK3
  refine seq_step fun K4 hK4 => ?_
  simp only [tv, tk, to2, to1, tbl, tch, tand, tor, tnot, vand, vor, vnot, tif, a0, ac, as_, dtup, dlst, tcb, tcall, sret, sretN, sif, snx, sdrop, sasg, gn, spar, snever, bend, startD, List.map_cons, List.map_nil, List.length_cons, List.length_nil, List.replicate, List.cons_append, List.nil_append, List.append_nil, List.getElem?_cons_zero, List.getElem?_cons_succ, List.set_cons_zero, List.set_cons_succ, Nat.reduceAdd, Nat.reduceSub, Nat.zero_add, tcallK, ro, List.getD_cons_zero, List.getD_cons_succ, true_and, wipeD, Bool.not_true, Bool.not_false, Bool.false_eq_true, if_true, if_false, q_add_i, q_add_s, q_add_l, q_add_t, q_sub, q_mul_i, q_mul_l, q_mul_s, q_div, q_mod, q_pow, q_lt, q_le, q_gt, q_ge, q_eq_i, q_eq_s, q_eq_b, q_ne_i, q_ne_s, q_ne_b, q_eq_l, q_eq_t, q_ne_l, q_ne_t, q_is, q_isnt, isN_int, isN_str, isN_lst, isN_tup, isN_ref, isN_bl, isN_non, q_neg, q_ix_l, q_ix_t, atD_s, at_1_0, at_2_0, at_2_1, at_3_0, at_3_1, at_3_2, at_4_0, at_4_1, at_4_2, at_4_3, q_len_l, q_len_t, q_len_s, q_abs, q_int_i, q_int_b, q_str, q_list_l, q_list_t, q_tuple_l, q_tuple_t, q_repr_l, q_repr_t]
  repeat (refine And.intro (by first | omega | decide) ?_)
  subst hK4
  have k1 : cutD (ps.map D.int) none (some 1) = (ps.take 1).map D.int := by
    unfold cutD
    have e1 := HT.sIx_nat (ps.map D.int).length (ps.map D.int).length 1
    rw [show ((1 : Nat) : Int) = 1 from rfl] at e1
    rw [HT.sIx_none, List.drop_zero, Nat.sub_zero, e1, List.map_take, List.length_map, Nat.min_eq_left (by omega)]
  refine seq_step fun K5 hK5 => ?_
  simp only [tv, tk, to2, to1, tbl, tch, tand, tor, tnot, vand, vor, vnot, tif, a0, ac, as_, dtup, dlst, tcb, tcall, sret, sretN, sif, snx, sdrop, sasg, gn, spar, snever, bend, startD, List.map_cons, List.map_nil, List.length_cons, List.length_nil, List.replicate, List.cons_append, List.nil_append, List.append_nil, List.getElem?_cons_zero, List.getElem?_cons_succ, List.set_cons_zero, List.set_cons_succ, Nat.reduceAdd, Nat.reduceSub, Nat.zero_add, tcallK, ro, List.getD_cons_zero, List.getD_cons_succ, true_and, wipeD, Bool.not_true, Bool.not_false, Bool.false_eq_true, if_true, if_false, q_add_i, q_add_s, q_add_l, q_add_t, q_sub, q_mul_i, q_mul_l, q_mul_s, q_div, q_mod, q_pow, q_lt, q_le, q_gt, q_ge, q_eq_i, q_eq_s, q_eq_b, q_ne_i, q_ne_s, q_ne_b, q_eq_l, q_eq_t, q_ne_l, q_ne_t, q_is, q_isnt, isN_int, isN_str, isN_lst, isN_tup, isN_ref, isN_bl, isN_non, q_neg, q_ix_l, q_ix_t, atD_s, at_1_0, at_2_0, at_2_1, at_3_0, at_3_1, at_3_2, at_4_0, at_4_1, at_4_2, at_4_3, q_len_l, q_len_t, q_len_s, q_abs, q_int_i, q_int_b, q_str, q_list_l, q_list_t, q_tuple_l, q_tuple_t, q_repr_l, q_repr_t, tsl, so_some, so_none, k1, rdMulT]
  repeat (refine And.intro (by first | omega | decide) ?_)
  subst hK5
  refine seq_step fun K6 hK6 => ?_
  simp only [tv, tk, to2, to1, tbl, tch, tand, tor, tnot, vand, vor, vnot, tif, a0, ac, as_, dtup, dlst, tcb, tcall, sret, sretN, sif, snx, sdrop, sasg, gn, spar, snever, bend, startD, List.map_cons, List.map_nil, List.length_cons, List.length_nil, List.replicate, List.cons_append, List.nil_append, List.append_nil, List.getElem?_cons_zero, List.getElem?_cons_succ, List.set_cons_zero, List.set_cons_succ, Nat.reduceAdd, Nat.reduceSub, Nat.zero_add, tcallK, ro, List.getD_cons_zero, List.getD_cons_succ, true_and, wipeD, Bool.not_true, Bool.not_false, Bool.false_eq_true, if_true, if_false, q_add_i, q_add_s, q_add_l, q_add_t, q_sub, q_mul_i, q_mul_l, q_mul_s, q_div, q_mod, q_pow, q_lt, q_le, q_gt, q_ge, q_eq_i, q_eq_s, q_eq_b, q_ne_i, q_ne_s, q_ne_b, q_eq_l, q_eq_t, q_ne_l, q_ne_t, q_is, q_isnt, isN_int, isN_str, isN_lst, isN_tup, isN_ref, isN_bl, isN_non, q_neg, q_ix_l, q_ix_t, atD_s, at_1_0, at_2_0, at_2_1, at_3_0, at_3_1, at_3_2, at_4_0, at_4_1, at_4_2, at_4_3, q_len_l, q_len_t, q_len_s, q_abs, q_int_i, q_int_b, q_str, q_list_l, q_list_t, q_tuple_l, q_tuple_t, q_repr_l, q_repr_t, texc]
  repeat (refine And.intro (by first | omega | decide) ?_)
  subst hK6
  refine seq_step fun K7 hK7 => ?_
  simp only [tv, tk, to2, to1, tbl, tch, tand, tor, tnot, vand, vor, vnot, tif, a0, ac, as_, dtup, dlst, tcb, tcall, sret, sretN, sif, snx, sdrop, sasg, gn, spar, snever, bend, startD, List.map_cons, List.map_nil, List.length_cons, List.length_nil, List.replicate, List.cons_append, List.nil_append, List.append_nil, List.getElem?_cons_zero, List.getElem?_cons_succ, List.set_cons_zero, List.set_cons_succ, Nat.reduceAdd, Nat.reduceSub, Nat.zero_add, tcallK, ro, List.getD_cons_zero, List.getD_cons_succ, true_and, wipeD, Bool.not_true, Bool.not_false, Bool.false_eq_true, if_true, if_false, q_add_i, q_add_s, q_add_l, q_add_t, q_sub, q_mul_i, q_mul_l, q_mul_s, q_div, q_mod, q_pow, q_lt, q_le, q_gt, q_ge, q_eq_i, q_eq_s, q_eq_b, q_ne_i, q_ne_s, q_ne_b, q_eq_l, q_eq_t, q_ne_l, q_ne_t, q_is, q_isnt, isN_int, isN_str, isN_lst, isN_tup, isN_ref, isN_bl, isN_non, q_neg, q_ix_l, q_ix_t, atD_s, at_1_0, at_2_0, at_2_1, at_3_0, at_3_1, at_3_2, at_4_0, at_4_1, at_4_2, at_4_3, q_len_l, q_len_t, q_len_s, q_abs, q_int_i, q_int_b, q_str, q_list_l, q_list_t, q_tuple_l, q_tuple_t, q_repr_l, q_repr_t, tmk]
  repeat (refine And.intro (by first | omega | decide) ?_)
  have g2 : GoodRow t [2, 3] := ⟨g.t, by decide, by decide⟩
  refine mk_line (ps := [2, 3]) g2 fun a N2 ha l2 f2 hL => ?_
  have na := spr_ne S1 ha
  have S2 := S1.mle l2
  try simp only [tv, tk, to2, to1, tbl, tch, tand, tor, tnot, vand, vor, vnot, tif, a0, ac, as_, dtup, dlst, tcb, tcall, sret, sretN, sif, snx, sdrop, sasg, gn, spar, snever, bend, startD, List.map_cons, List.map_nil, List.length_cons, List.length_nil, List.replicate, List.cons_append, List.nil_append, List.append_nil, List.getElem?_cons_zero, List.getElem?_cons_succ, List.set_cons_zero, List.set_cons_succ, Nat.reduceAdd, Nat.reduceSub, Nat.zero_add, tcallK, ro, List.getD_cons_zero, List.getD_cons_succ, true_and, wipeD, Bool.not_true, Bool.not_false, Bool.false_eq_true, if_true, if_false, q_add_i, q_add_s, q_add_l, q_add_t, q_sub, q_mul_i, q_mul_l, q_mul_s, q_div, q_mod, q_pow, q_lt, q_le, q_gt, q_ge, q_eq_i, q_eq_s, q_eq_b, q_ne_i, q_ne_s, q_ne_b, q_eq_l, q_eq_t, q_ne_l, q_ne_t, q_is, q_isnt, isN_int, isN_str, isN_lst, isN_tup, isN_ref, isN_bl, isN_non, q_neg, q_ix_l, q_ix_t, atD_s, at_1_0, at_2_0, at_2_1, at_3_0, at_3_1, at_3_2, at_4_0, at_4_1, at_4_2, at_4_3, q_len_l, q_len_t, q_len_s, q_abs, q_int_i, q_int_b, q_str, q_list_l, q_list_t, q_tuple_l, q_tuple_t, q_repr_l, q_repr_t]
  repeat (refine And.intro (by first | omega | decide) ?_)
  subst hK7
  obtain ⟨A, hA, lA⟩ := cut_ints ps none (some at_)
  obtain ⟨B, hB, lB⟩ := cut_ints ps (some (at_ + 1)) none
  have lbad : bad.length = 10 := by rw [hbad]; rfl
  simp only [tv, tk, to2, to1, tbl, tch, tand, tor, tnot, vand, vor, vnot, tif, a0, ac, as_, dtup, dlst, tcb, tcall, sret, sretN, sif, snx, sdrop, sasg, gn, spar, snever, bend, startD, List.map_cons, List.map_nil, List.length_cons, List.length_nil, List.replicate, List.cons_append, List.nil_append, List.append_nil, List.getElem?_cons_zero, List.getElem?_cons_succ, List.set_cons_zero, List.set_cons_succ, Nat.reduceAdd, Nat.reduceSub, Nat.zero_add, tcallK, ro, List.getD_cons_zero, List.getD_cons_succ, true_and, wipeD, Bool.not_true, Bool.not_false, Bool.false_eq_true, if_true, if_false, q_add_i, q_add_s, q_add_l, q_add_t, q_sub, q_mul_i, q_mul_l, q_mul_s, q_div, q_mod, q_pow, q_lt, q_le, q_gt, q_ge, q_eq_i, q_eq_s, q_eq_b, q_ne_i, q_ne_s, q_ne_b, q_eq_l, q_eq_t, q_ne_l, q_ne_t, q_is, q_isnt, isN_int, isN_str, isN_lst, isN_tup, isN_ref, isN_bl, isN_non, q_neg, q_ix_l, q_ix_t, atD_s, at_1_0, at_2_0, at_2_1, at_3_0, at_3_1, at_3_2, at_4_0, at_4_1, at_4_2, at_4_3, q_len_l, q_len_t, q_len_s, q_abs, q_int_i, q_int_b, q_str, q_list_l, q_list_t, q_tuple_l, q_tuple_t, q_repr_l, q_repr_t, tlc, iseq]
  refine comp_all (fun d => D.tup [.str t, .tup (A.map D.int ++ [d] ++ B.map D.int)]) bad (fun d hd kq hq => ?_) (by omega) ?_
  · simp only [tv, tk, to2, to1, tbl, tch, tand, tor, tnot, vand, vor, vnot, tif, a0, ac, as_, dtup, dlst, tcb, tcall, sret, sretN, sif, snx, sdrop, sasg, gn, spar, snever, bend, startD, List.map_cons, List.map_nil, List.length_cons, List.length_nil, List.replicate, List.cons_append, List.nil_append, List.append_nil, List.getElem?_cons_zero, List.getElem?_cons_succ, List.set_cons_zero, List.set_cons_succ, Nat.reduceAdd, Nat.reduceSub, Nat.zero_add, tcallK, ro, List.getD_cons_zero, List.getD_cons_succ, true_and, wipeD, Bool.not_true, Bool.not_false, Bool.false_eq_true, if_true, if_false, q_add_i, q_add_s, q_add_l, q_add_t, q_sub, q_mul_i, q_mul_l, q_mul_s, q_div, q_mod, q_pow, q_lt, q_le, q_gt, q_ge, q_eq_i, q_eq_s, q_eq_b, q_ne_i, q_ne_s, q_ne_b, q_eq_l, q_eq_t, q_ne_l, q_ne_t, q_is, q_isnt, isN_int, isN_str, isN_lst, isN_tup, isN_ref, isN_bl, isN_non, q_neg, q_ix_l, q_ix_t, atD_s, at_1_0, at_2_0, at_2_1, at_3_0, at_3_1, at_3_2, at_4_0, at_4_1, at_4_2, at_4_3, q_len_l, q_len_t, q_len_s, q_abs, q_int_i, q_int_b, q_str, q_list_l, q_list_t, q_tuple_l, q_tuple_t, q_repr_l, q_repr_t, tsl, so_some, so_none, hA, hB, List.length_append, List.length_map]
    repeat (refine And.intro (by first | omega | decide) ?_)
    exact hq
  refine ⟨by rw [List.length_map]; omega, p, 33, n + 1, rfl, rfl, by decide, by decide, S2, by omega, fun w N3 w0 w1 S3 F3 => ?_⟩
  have ha3 : N3 a = some (lineO t [2, 3]) := (F3 a na).trans hL
  have fix := bad_fixed (M := N3) (t := t) (ps := ps) (c1 := ps.take 1) (a := a) (by rw [List.length_take]; omega) ha3
  have keep : ∀ q o, q ≠ p → M q = some o → N3 q = some o := fun q o hq ho => (F3 q hq).trans (l2 q o ((F1 q hq).trans ho))
  simp only [q_ix_l]
  obtain ⟨d, hd, ed⟩ := at_mem (l := [D.lst [.str t, .tup (ps.map D.int)], .tup [.str t], .tup [.str t, .tup (ps.map D.int), .int 1], .tup [.tup (ps.map D.int), .str t], .tup [.str "New", .tup (ps.map D.int)], .tup [.str "", .tup (ps.map D.int)], .tup [.non, .tup (ps.map D.int)],
    .tup [.int 0, .tup (ps.map D.int)], .tup [.str t, .lst (ps.map D.int)], .tup [.str t, .tup ((ps.take 1).map D.int)], .tup [.str t, .tup []], .tup [.str t, .tup ([2, 2, 2, 2, 2, 2].map D.int)], .non,
    .str "new 2 3", .int 0, .exc "OtherEnds" [], .tup [], .tup [.str t, .non], .tup [.tup [.str t, .tup (ps.map D.int)]], .tup [.str "newold", .tup (ps.map D.int)],
    .tup [.lst [.str t], .tup (ps.map D.int)], .tup [.tup [.str t], .tup (ps.map D.int)], .ref a] ++ bad.map fun d => D.tup [.str t, .tup (A.map D.int ++ [d] ++ B.map D.int)]) w0 (by rw [List.length_append, List.length_map, lbad]; exact w1)
  have goal_ : Q d N3 := by
    refine q d N3 ?_ S3 keep
    rcases List.mem_append.mp hd with u | u
    · exact fix d u
    · obtain ⟨x, hx, ex⟩ := List.mem_map.mp u
      subst ex
      rw [hbad] at hx
      simp only [List.mem_cons, List.not_mem_nil, or_false] at hx
      rcases hx with u | u | u | u | u | u | u | u | u | u <;> subst u
      · exact bad_part trivial rfl
      · exact bad_part trivial rfl
      · exact bad_part trivial rfl
      · exact bad_part trivial rfl
      · exact bad_part trivial rfl
      · exact bad_part trivial rfl
      · exact bad_part trivial rfl
      · exact bad_part trivial (by show (decide (1 ≤ big) && decide (big ≤ 60)) = false; rw [decide_eq_false (show ¬ big ≤ 60 by omega), Bool.and_false])
      · exact bad_part (show isk.xs.contains _ = true by decide +kernel) rfl
      · exact bad_part trivial rfl
  have fin : atD (some d) N3 Q := goal_
  rw [← ed] at fin
  exact fin
end K41

namespace K41
open PySem PySem.Spec L2 DL
open TL
def sp_law : SpD := spF1 fun v M Q _ => ∃ ns : List Int, v = .lst (ns.map D.int) ∧ ns.length ≤ 63 ∧ (∀ z ∈ ns, Builtin.Int.intBits z ≤ 1048576) ∧ ∀ M', Q (.bl true) M'
/-! def law(script): slots 0 script, 1 cell, 2 spring, 3 way, 4 rows, 5 change, 6 tie, 7 periods, 8 bad, 9 k, 10 given, 11 due -/
def t_law : TDS :=
    (sseq (sfor (iseq (to2 rdAdd (dlst (ac (to2 rdAdd (to2 rdPow (tk (.int 10)) (tk (.int 18))) (tk (.int 6))) a0)) (tsl (tv 0) so_none (so_some (tk (.int 6)))))) (gn 1)
      (sseq (sasg (tcall sp__law_spring (ac (tv 1) a0)) (gn 2))
    (sfor (irng1 (ac (tk (.int 6)) a0)) (gn 3)
      (sseq (sasg (tcall sp__law_branches (ac (tv 2) (ac (tk (.int 3)) (ac (tcall sp__law_take (ac (tv 2) (ac (tk (.int 3)) a0))) a0)))) (gn 4))
    (sseq (sasg (tcall sp__law_take (ac (tv 2) (ac (tk (.int 6)) a0))) (gn 5))
    (sseq (sasg (to2 rdIx (tv 4) (tk (.int 1))) (gtup 2 (gsc (gn 6) (gsc (gn 7) gsn))))
    (sseq (sif (tbl (to2 rdEq (tv 5) (tk (.int 0))))
      (sseti (dtup (ac (tdsel "new" "old" "old" "new" (tv 6)) (ac (tv 7) a0))) (tv 4) (tk (.int 1)))
      snx)
    (sseq (sif (tbl (to2 rdEq (tv 5) (tk (.int 1))))
      (sseti (dtup (ac (tv 6) (ac (to2 rdAdd (dtup (ac (to2 rdAdd (to2 rdIx (tv 7) (tk (.int 0))) (tk (.int 1))) a0)) (tsl (tv 7) (so_some (tk (.int 1))) so_none)) a0))) (tv 4) (tk (.int 1)))
      snx)
    (sseq (sif (tbl (to2 rdEq (tv 5) (tk (.int 2))))
      (sseti (dtup (ac (tv 6) (ac (to2 rdAdd (tsl (tv 7) so_none (so_some (to1 rdNeg (tk (.int 1))))) (dtup (ac (to2 rdAdd (to2 rdIx (tv 7) (to1 rdNeg (tk (.int 1)))) (tk (.int 1))) a0))) a0))) (tv 4) (tk (.int 1)))
      snx)
    (sseq (sasg (tlc (irng1 (ac (tk (.int 2)) a0)) (gn 9) tyes (to2 rdEq (tcall sp__law_take (ac (tv 2) (ac (tk (.int 3)) a0))) (tk (.int 2))) [9]) (gn 8))
    (sseq (sasg (tlc (irng1 (ac (tk (.int 2)) a0)) (gn 9) tyes (tif (tbl (to2 rdIx (tv 8) (tv 9))) (tcall sp__law_bad_pack (ac (tv 2) (ac (to2 rdIx (tv 4) (tv 9)) a0))) (to2 rdIx (tv 4) (tv 9))) [9]) (gn 10))
    (sseq (sasg (tif (tbl (to2 (rdIn false) (tk (.bl true)) (tv 8))) (tk (.int 1)) (tif (tbl (to2 rdLt (tv 5) (tk (.int 3)))) (tk (.int 2)) (tk (.int 0)))) (gn 11))
    (sif (tbl (to2 rdNe (tcall sp__law_kind_of (ac (tv 3) (ac (tv 10) a0))) (tv 11)))
      (sret (tk (.bl false)))
      snx)))))))))))))
    (sret (tk (.bl true))))
/-- what the second row has become -/
def RowsOf (c : Int) (t : Str) (ps : List Int) (r1 : D) : Prop := ∃ t' qs, r1 = rowD t' qs ∧ GoodRow t' qs ∧
  ((c < 3 ∧ sameEnds t t' ps qs = false) ∨ (¬ c < 3 ∧ sameEnds t t' ps qs = true ∧ ∃ a e m m', ps = psOf a e m ∧ qs = psOf a e m' ∧ SmallP a e m m'))
theorem three_ifs {t1 t2 t3 u : TDS} {Dn : DEnds} {σ : DSt} {M : MM} {c : Int} (P : MM → Prop) (hσ : σ[5]? = some (some (.int c))) (hP : ∀ M', P M' → u Dn σ M')
    (h0 : c = 0 → ∀ K : DSt → MM → Prop, (∀ M', P M' → K σ M') → t1 { Dn with nx := K } σ M) (h1 : c = 1 → ∀ K : DSt → MM → Prop, (∀ M', P M' → K σ M') → t2 { Dn with nx := K } σ M)
    (h2 : c = 2 → ∀ K : DSt → MM → Prop, (∀ M', P M' → K σ M') → t3 { Dn with nx := K } σ M) (h3 : c ≠ 0 → c ≠ 1 → c ≠ 2 → P M) :
    sseq (sif (tbl (to2 rdEq (tv 5) (tk (.int 0)))) t1 snx) (sseq (sif (tbl (to2 rdEq (tv 5) (tk (.int 1)))) t2 snx) (sseq (sif (tbl (to2 rdEq (tv 5) (tk (.int 2)))) t3 snx) u)) Dn σ M := by
  have key : ∀ (j : Int) (t : TDS) (D' : DEnds) (N : MM), (c = j → t D' σ N) → (c ≠ j → D'.nx σ N) → sif (tbl (to2 rdEq (tv 5) (tk (.int j)))) t snx D' σ N := fun j t D' N h1 h2 => by
    simp only [sif, tbl, to2, tv, tk, hσ, q_eq_i, snx]
    by_cases k : c = j
    · rw [decide_eq_true k]; exact h1 k
    · rw [decide_eq_false k]; exact h2 k
  have c2 : c ≠ 2 → ∀ N, P N → sseq (sif (tbl (to2 rdEq (tv 5) (tk (.int 2)))) t3 snx) u Dn σ N := fun n2 N hN => key 2 _ _ _ (fun k => absurd k n2) fun _ => hP N hN
  have c1 : c ≠ 1 → c ≠ 2 → ∀ N, P N → sseq (sif (tbl (to2 rdEq (tv 5) (tk (.int 1)))) t2 snx) (sseq (sif (tbl (to2 rdEq (tv 5) (tk (.int 2)))) t3 snx) u) Dn σ N := fun n1 n2 N hN => key 1 _ _ _ (fun k => absurd k n1) fun _ => c2 n2 N hN
  refine key 0 _ _ _ (fun k => h0 k _ fun M' hM => c1 (by omega) (by omega) M' hM) fun n0 => key 1 _ _ _ (fun k => h1 k _ fun M' hM => c2 (by omega) M' hM) fun n1 => key 2 _ _ _ (fun k => h2 k _ hP) fun n2 => hP M (h3 n0 n1 n2)
theorem anyV_keep {M M' : MM} {p : Addr} {n n' : Nat} {v : D} (hS : Spr M p n) (hS' : Spr M' p n') (k : ∀ q o, q ≠ p → M q = some o → M' q = some o) (h : AnyV isk M v) : AnyV isk M' v := by
  cases v with
  | ref a =>
    obtain ⟨x, y, w, e, _⟩ := hS
    obtain ⟨x', y', w', e', _⟩ := hS'
    by_cases ha : a = p
    · subst ha; exact .inl ⟨_, e'⟩
    · rcases h with ⟨xs, h⟩ | ⟨C, fs, h, c⟩
      · exact .inl ⟨xs, k a _ ha h⟩
      · exact .inr ⟨C, fs, k a _ ha h, c⟩
  | _ => exact h
theorem anyR_keep {M M' : MM} {p : Addr} {n n' : Nat} {v : D} (hS : Spr M p n) (hS' : Spr M' p n') (k : ∀ q o, q ≠ p → M q = some o → M' q = some o) (h : AnyRow isk M v) : AnyRow isk M' v :=
  ⟨anyV_keep hS hS' k h.hv, fun xs e x hx => anyV_keep hS hS' k (h.hx xs e x hx), fun xs e x hx ys e2 y hy => anyV_keep hS hS' k (h.hy xs e x hx ys e2 y hy)⟩
theorem psOf_good {a e : Int} {m m' : List Int} {t : Str} (ht : t = Str.ofString "new" ∨ t = Str.ofString "old") (S : SmallP a e m m') : GoodRow t (psOf a e m) := ⟨ht, by rw [ps_len]; have := S.l; omega, S.ps⟩
theorem head_last {a e : Int} {m : List Int} : (psOf a e m).head? = some a ∧ (psOf a e m).getLast? = some e := ⟨rfl, by show (a :: (m ++ [e])).getLast? = _; rw [← List.cons_append, List.getLast?_concat]⟩
theorem same_no {a e a' e' : Int} {m m' : List Int} {t t' : Str} (h : ¬ (t = t' ∧ a = a' ∧ e = e')) : sameEnds t t' (psOf a e m) (psOf a' e' m') = false := by
  unfold sameEnds
  rw [head_last.1, head_last.1, head_last.2, head_last.2]
  by_cases c1 : t = t'
  · by_cases c2 : a = a'
    · have c3 : e ≠ e' := fun c3 => h ⟨c1, c2, c3⟩
      rw [decide_eq_false (show ¬ some e = some e' from fun w => c3 (Option.some.inj w)), Bool.and_false, Bool.and_false]
    · rw [decide_eq_false (show ¬ some a = some a' from fun w => c2 (Option.some.inj w)), Bool.false_and, Bool.and_false]
  · rw [decide_eq_false c1, Bool.false_and]
theorem same_yes {a e : Int} {m m' : List Int} {t : Str} : sameEnds t t (psOf a e m) (psOf a e m') = true := by
  unfold sameEnds
  rw [head_last.1, head_last.1, head_last.2, head_last.2, decide_eq_true rfl, decide_eq_true rfl, decide_eq_true rfl]
  rfl
theorem cut_tail {a : Int} {r : List Int} : cutD ((a :: r).map D.int) (some 1) none = r.map D.int := by
  unfold cutD
  have e1 := HT.sIx_nat ((a :: r).map D.int).length 0 1
  rw [show ((1 : Nat) : Int) = 1 from rfl] at e1
  rw [HT.sIx_none, e1, List.map_cons, List.length_cons, List.length_map, Nat.min_eq_left (by omega), List.drop_succ_cons, List.drop_zero, List.take_of_length_le (by rw [List.length_map]; omega)]
theorem cut_init {a e : Int} {m : List Int} : cutD ((psOf a e m).map D.int) none (some (-1)) = (a :: m).map D.int := by
  unfold cutD
  have hl : ((psOf a e m).map D.int).length = m.length + 2 := by rw [List.length_map, ps_len]
  have e2 : HT.sIx (m.length + 2) (m.length + 2) (some (-1)) = m.length + 1 := by
    show (if (-1 : Int) < 0 then ((-1 : Int) + ((m.length + 2 : Nat) : Int)).toNat else min (-1 : Int).toNat (m.length + 2)) = _
    rw [if_pos (by decide)]; omega
  rw [hl, e2, HT.sIx_none, List.drop_zero, Nat.sub_zero]
  have e3 : (psOf a e m).map D.int = (a :: m).map D.int ++ [D.int e] := by simp
  rw [e3, show m.length + 1 = ((a :: m).map D.int).length from by simp, List.take_left]
theorem spr_list {M : MM} {p : Addr} {n : Nat} (h : Spr M p n) : ∃ xs, M p = some (.lst xs) := by
  obtain ⟨_, _, _, e, _⟩ := h; exact ⟨_, e⟩
theorem in2 {b0 b1 : Bool} : (flatD (.bl true) && [D.bl b0, D.bl b1].all flatD) = true ∧ (false ^^ inF (.bl true) [.bl b0, .bl b1]) = (b0 || b1) := by
  cases b0 <;> cases b1 <;> exact ⟨by decide +kernel, by decide +kernel⟩
/-- what is given and what is due -/
theorem out_of {c : Int} {t : Str} {ps : List Int} {r1 g0 g1 : D} {b0 b1 : Bool} {due : Int} (g : GoodRow t ps) (R : RowsOf c t ps r1) (h0 : b0 = false → g0 = rowD t ps) (h1 : b1 = false → g1 = r1) (k0 : b0 = true → rowOkB g0 = false) (k1 : b1 = true → rowOkB g1 = false)
    (hd : due = if (b0 || b1) = true then 1 else if c < 3 then 2 else 0) : Out g0 g1 due := by
  cases b0 with
  | true => exact .inl ⟨by rw [k0 rfl, Bool.false_and], by rw [hd]; rfl⟩
  | false =>
    cases b1 with
    | true => exact .inl ⟨by rw [k1 rfl, Bool.and_false], by rw [hd]; rfl⟩
    | false =>
      obtain ⟨t', qs, er, g', R⟩ := R
      refine .inr ⟨t, ps, t', qs, h0 rfl, (h1 rfl).trans er, g, g', ?_⟩
      rcases R with ⟨hc, hs⟩ | ⟨hc, hs, S⟩
      · exact .inl ⟨hs, by rw [hd]; simp [hc]⟩
      · exact .inr ⟨hs, by rw [hd]; simp [hc], S⟩
theorem rd_law : ∀ ds M Q E, sp_law ds M Q E → t_law (bend Q E) (startD ["script", "cell", "spring", "way", "rows", "change", "tie", "periods", "bad", "k", "given", "due"] ds) M := rdF1 fun v M Q E ⟨ns, e, hl, hb, q⟩ => by
  subst e
  unfold t_law
  have z : sizeLine = 16777216 := rfl
  refine seq_step fun K1 hK1 => ?_
  obtain ⟨c8, hc8, lc8, bc8⟩ : ∃ c8 : List Int, cutD (ns.map D.int) none (some 6) = c8.map D.int ∧ c8.length ≤ ns.length ∧ ∀ z ∈ c8, Builtin.Int.intBits z ≤ 1048576 := by
    refine ⟨ns.take 6, ?_, by rw [List.length_take]; omega, fun z hz => hb z (List.mem_of_mem_take hz)⟩
    unfold cutD
    have e1 := HT.sIx_nat (ns.map D.int).length (ns.map D.int).length 6
    rw [show ((6 : Nat) : Int) = 6 from rfl] at e1
    rw [HT.sIx_none, List.drop_zero, Nat.sub_zero, e1, List.map_take, List.length_map]
    rw [List.take_eq_take_iff]; simp
  have cp : CPow 10 18 := ⟨by decide, by decide, by decide⟩
  have ep : (10 : Int) ^ (18 : Int).toNat = 1000000000000000000 := by decide
  simp only [sfor, iseq, tsl, so_none, so_some, tv, tk, to2, to1, tbl, tch, tand, tor, tnot, vand, vor, vnot, tif, a0, ac, as_, dtup, dlst, tcb, tcall, sret, sretN, sif, snx, sdrop, sasg, gn, spar, snever, bend, startD, List.map_cons, List.map_nil, List.length_cons, List.length_nil, List.replicate, List.cons_append, List.nil_append, List.append_nil, List.getElem?_cons_zero, List.getElem?_cons_succ, List.set_cons_zero, List.set_cons_succ, Nat.reduceAdd, Nat.reduceSub, Nat.zero_add, tcallK, ro, List.getD_cons_zero, List.getD_cons_succ, true_and, wipeD, Bool.not_true, Bool.not_false, Bool.false_eq_true, if_true, if_false, q_add_i, q_add_s, q_add_l, q_add_t, q_sub, q_mul_i, q_mul_l, q_mul_s, q_div, q_mod, q_pow, q_lt, q_le, q_gt, q_ge, q_eq_i, q_eq_s, q_eq_b, q_ne_i, q_ne_s, q_ne_b, q_eq_l, q_eq_t, q_ne_l, q_ne_t, q_is, q_isnt, isN_int, isN_str, isN_lst, isN_tup, isN_ref, isN_bl, isN_non, q_neg, q_ix_l, q_ix_t, atD_s, at_1_0, at_2_0, at_2_1, at_3_0, at_3_1, at_3_2, at_4_0, at_4_1, at_4_2, at_4_3, q_len_l, q_len_t, q_len_s, q_abs, q_int_i, q_int_b, q_str, q_list_l, q_list_t, q_tuple_l, q_tuple_t, q_repr_l, q_repr_t, hc8, ep]
  refine ⟨cp, by decide, by rw [List.length_map]; omega, ?_⟩
  refine for_cnt (I := fun _ σ _ => ∃ x1 x2 x3 x4 x5 x6 x7 x8 x9 x10 x11, σ = [some (.lst (ns.map D.int)), x1, x2, x3, x4, x5, x6, x7, x8, x9, x10, x11]) 100 _ 0 _ M
    (fun d hd j σ M Dn hj ⟨x1, x2, x3, x4, x5, x6, x7, x8, x9, x10, x11, hσ⟩ hn => ?body) (by rw [List.length_cons, List.length_map]; omega) ⟨_, _, _, _, _, _, _, _, _, _, _, rfl⟩ (fun σ' M' hi => ?fin)
  case fin =>
    subst hK1
    exact q M'
  case body =>
    subst hσ
    have hz : ∃ c, d = .int c ∧ Builtin.Int.intBits c ≤ 1048576 := by
      rcases List.mem_cons.mp hd with e | e
      · exact ⟨_, e, by decide +kernel⟩
      · obtain ⟨c, hc, e⟩ := List.mem_map.mp e
        exact ⟨c, e.symm, bc8 c hc⟩
    obtain ⟨cell, ec, bc⟩ := hz
    subst ec
    refine seq_step fun K2 hK2 => ?_
    simp only [tv, tk, to2, to1, tbl, tch, tand, tor, tnot, vand, vor, vnot, tif, a0, ac, as_, dtup, dlst, tcb, tcall, sret, sretN, sif, snx, sdrop, sasg, gn, spar, snever, bend, startD, List.map_cons, List.map_nil, List.length_cons, List.length_nil, List.replicate, List.cons_append, List.nil_append, List.append_nil, List.getElem?_cons_zero, List.getElem?_cons_succ, List.set_cons_zero, List.set_cons_succ, Nat.reduceAdd, Nat.reduceSub, Nat.zero_add, tcallK, ro, List.getD_cons_zero, List.getD_cons_succ, true_and, wipeD, Bool.not_true, Bool.not_false, Bool.false_eq_true, if_true, if_false, q_add_i, q_add_s, q_add_l, q_add_t, q_sub, q_mul_i, q_mul_l, q_mul_s, q_div, q_mod, q_pow, q_lt, q_le, q_gt, q_ge, q_eq_i, q_eq_s, q_eq_b, q_ne_i, q_ne_s, q_ne_b, q_eq_l, q_eq_t, q_ne_l, q_ne_t, q_is, q_isnt, isN_int, isN_str, isN_lst, isN_tup, isN_ref, isN_bl, isN_non, q_neg, q_ix_l, q_ix_t, atD_s, at_1_0, at_2_0, at_2_1, at_3_0, at_3_1, at_3_2, at_4_0, at_4_1, at_4_2, at_4_3, q_len_l, q_len_t, q_len_s, q_abs, q_int_i, q_int_b, q_str, q_list_l, q_list_t, q_tuple_l, q_tuple_t, q_repr_l, q_repr_t]
    refine ⟨cell, rfl, bc, fun p M1 hp l1 S0 => ?_⟩
    simp only [tv, tk, to2, to1, tbl, tch, tand, tor, tnot, vand, vor, vnot, tif, a0, ac, as_, dtup, dlst, tcb, tcall, sret, sretN, sif, snx, sdrop, sasg, gn, spar, snever, bend, startD, List.map_cons, List.map_nil, List.length_cons, List.length_nil, List.replicate, List.cons_append, List.nil_append, List.append_nil, List.getElem?_cons_zero, List.getElem?_cons_succ, List.set_cons_zero, List.set_cons_succ, Nat.reduceAdd, Nat.reduceSub, Nat.zero_add, tcallK, ro, List.getD_cons_zero, List.getD_cons_succ, true_and, wipeD, Bool.not_true, Bool.not_false, Bool.false_eq_true, if_true, if_false, q_add_i, q_add_s, q_add_l, q_add_t, q_sub, q_mul_i, q_mul_l, q_mul_s, q_div, q_mod, q_pow, q_lt, q_le, q_gt, q_ge, q_eq_i, q_eq_s, q_eq_b, q_ne_i, q_ne_s, q_ne_b, q_eq_l, q_eq_t, q_ne_l, q_ne_t, q_is, q_isnt, isN_int, isN_str, isN_lst, isN_tup, isN_ref, isN_bl, isN_non, q_neg, q_ix_l, q_ix_t, atD_s, at_1_0, at_2_0, at_2_1, at_3_0, at_3_1, at_3_2, at_4_0, at_4_1, at_4_2, at_4_3, q_len_l, q_len_t, q_len_s, q_abs, q_int_i, q_int_b, q_str, q_list_l, q_list_t, q_tuple_l, q_tuple_t, q_repr_l, q_repr_t]
    subst hK2
    simp only [sfor, irng1, tv, tk, to2, to1, tbl, tch, tand, tor, tnot, vand, vor, vnot, tif, a0, ac, as_, dtup, dlst, tcb, tcall, sret, sretN, sif, snx, sdrop, sasg, gn, spar, snever, bend, startD, List.map_cons, List.map_nil, List.length_cons, List.length_nil, List.replicate, List.cons_append, List.nil_append, List.append_nil, List.getElem?_cons_zero, List.getElem?_cons_succ, List.set_cons_zero, List.set_cons_succ, Nat.reduceAdd, Nat.reduceSub, Nat.zero_add, tcallK, ro, List.getD_cons_zero, List.getD_cons_succ, true_and, wipeD, Bool.not_true, Bool.not_false, Bool.false_eq_true, if_true, if_false, q_add_i, q_add_s, q_add_l, q_add_t, q_sub, q_mul_i, q_mul_l, q_mul_s, q_div, q_mod, q_pow, q_lt, q_le, q_gt, q_ge, q_eq_i, q_eq_s, q_eq_b, q_ne_i, q_ne_s, q_ne_b, q_eq_l, q_eq_t, q_ne_l, q_ne_t, q_is, q_isnt, isN_int, isN_str, isN_lst, isN_tup, isN_ref, isN_bl, isN_non, q_neg, q_ix_l, q_ix_t, atD_s, at_1_0, at_2_0, at_2_1, at_3_0, at_3_1, at_3_2, at_4_0, at_4_1, at_4_2, at_4_3, q_len_l, q_len_t, q_len_s, q_abs, q_int_i, q_int_b, q_str, q_list_l, q_list_t, q_tuple_l, q_tuple_t, q_repr_l, q_repr_t]
    refine ⟨⟨by decide, by decide⟩, ?_⟩
    refine for_cnt (I := fun j σ N => Spr N p (30 * j) ∧ ∃ y3 y4 y5 y6 y7 y8 y9 y10 y11, σ = [some (.lst (ns.map D.int)), some (.int cell), some (.ref p), y3, y4, y5, y6, y7, y8, y9, y10, y11]) 6 _ 0 _ M1
      (fun d hd j σ N Dn hj ⟨hS, y3, y4, y5, y6, y7, y8, y9, y10, y11, hσ⟩ hnx => ?body2) (by rw [rgD_len]; decide) ⟨S0, _, _, _, _, _, _, _, _, _, rfl⟩ (fun σ' M' ⟨_, hi⟩ => ?fin2)
    case fin2 =>
      obtain ⟨y3, y4, y5, y6, y7, y8, y9, y10, y11, hσ⟩ := hi
      exact hn _ _ ⟨_, _, _, _, _, _, _, _, _, _, _, hσ⟩
    case body2 =>
      subst hσ
      obtain ⟨way, ew⟩ : ∃ way, d = .int way := by
        unfold rgD at hd
        obtain ⟨k, _, e⟩ := List.mem_map.mp hd
        exact ⟨_, e.symm⟩
      subst ew
      refine seq_step fun K2 hK2 => ?_
      simp only [tv, tk, to2, to1, tbl, tch, tand, tor, tnot, vand, vor, vnot, tif, a0, ac, as_, dtup, dlst, tcb, tcall, sret, sretN, sif, snx, sdrop, sasg, gn, spar, snever, bend, startD, List.map_cons, List.map_nil, List.length_cons, List.length_nil, List.replicate, List.cons_append, List.nil_append, List.append_nil, List.getElem?_cons_zero, List.getElem?_cons_succ, List.set_cons_zero, List.set_cons_succ, Nat.reduceAdd, Nat.reduceSub, Nat.zero_add, tcallK, ro, List.getD_cons_zero, List.getD_cons_succ, true_and, wipeD, Bool.not_true, Bool.not_false, Bool.false_eq_true, if_true, if_false, q_add_i, q_add_s, q_add_l, q_add_t, q_sub, q_mul_i, q_mul_l, q_mul_s, q_div, q_mod, q_pow, q_lt, q_le, q_gt, q_ge, q_eq_i, q_eq_s, q_eq_b, q_ne_i, q_ne_s, q_ne_b, q_eq_l, q_eq_t, q_ne_l, q_ne_t, q_is, q_isnt, isN_int, isN_str, isN_lst, isN_tup, isN_ref, isN_bl, isN_non, q_neg, q_ix_l, q_ix_t, atD_s, at_1_0, at_2_0, at_2_1, at_3_0, at_3_1, at_3_2, at_4_0, at_4_1, at_4_2, at_4_3, q_len_l, q_len_t, q_len_s, q_abs, q_int_i, q_int_b, q_str, q_list_l, q_list_t, q_tuple_l, q_tuple_t, q_repr_l, q_repr_t]
      refine ⟨p, 3, _, rfl, rfl, by decide, by decide, hS, by omega, fun md N1 v0 v1 S1 F1 => ?_⟩
      simp only [tv, tk, to2, to1, tbl, tch, tand, tor, tnot, vand, vor, vnot, tif, a0, ac, as_, dtup, dlst, tcb, tcall, sret, sretN, sif, snx, sdrop, sasg, gn, spar, snever, bend, startD, List.map_cons, List.map_nil, List.length_cons, List.length_nil, List.replicate, List.cons_append, List.nil_append, List.append_nil, List.getElem?_cons_zero, List.getElem?_cons_succ, List.set_cons_zero, List.set_cons_succ, Nat.reduceAdd, Nat.reduceSub, Nat.zero_add, tcallK, ro, List.getD_cons_zero, List.getD_cons_succ, true_and, wipeD, Bool.not_true, Bool.not_false, Bool.false_eq_true, if_true, if_false, q_add_i, q_add_s, q_add_l, q_add_t, q_sub, q_mul_i, q_mul_l, q_mul_s, q_div, q_mod, q_pow, q_lt, q_le, q_gt, q_ge, q_eq_i, q_eq_s, q_eq_b, q_ne_i, q_ne_s, q_ne_b, q_eq_l, q_eq_t, q_ne_l, q_ne_t, q_is, q_isnt, isN_int, isN_str, isN_lst, isN_tup, isN_ref, isN_bl, isN_non, q_neg, q_ix_l, q_ix_t, atD_s, at_1_0, at_2_0, at_2_1, at_3_0, at_3_1, at_3_2, at_4_0, at_4_1, at_4_2, at_4_3, q_len_l, q_len_t, q_len_s, q_abs, q_int_i, q_int_b, q_str, q_list_l, q_list_t, q_tuple_l, q_tuple_t, q_repr_l, q_repr_t]
      refine ⟨p, _, 3, md, rfl, rfl, rfl, by decide, by decide, v0, by omega, S1, by omega, fun tie a e m m' qa N2 ht S lk nq S2 h2 => ?_⟩
      subst hK2
      refine seq_step fun K3 hK3 => ?_
      simp only [tv, tk, to2, to1, tbl, tch, tand, tor, tnot, vand, vor, vnot, tif, a0, ac, as_, dtup, dlst, tcb, tcall, sret, sretN, sif, snx, sdrop, sasg, gn, spar, snever, bend, startD, List.map_cons, List.map_nil, List.length_cons, List.length_nil, List.replicate, List.cons_append, List.nil_append, List.append_nil, List.getElem?_cons_zero, List.getElem?_cons_succ, List.set_cons_zero, List.set_cons_succ, Nat.reduceAdd, Nat.reduceSub, Nat.zero_add, tcallK, ro, List.getD_cons_zero, List.getD_cons_succ, true_and, wipeD, Bool.not_true, Bool.not_false, Bool.false_eq_true, if_true, if_false, q_add_i, q_add_s, q_add_l, q_add_t, q_sub, q_mul_i, q_mul_l, q_mul_s, q_div, q_mod, q_pow, q_lt, q_le, q_gt, q_ge, q_eq_i, q_eq_s, q_eq_b, q_ne_i, q_ne_s, q_ne_b, q_eq_l, q_eq_t, q_ne_l, q_ne_t, q_is, q_isnt, isN_int, isN_str, isN_lst, isN_tup, isN_ref, isN_bl, isN_non, q_neg, q_ix_l, q_ix_t, atD_s, at_1_0, at_2_0, at_2_1, at_3_0, at_3_1, at_3_2, at_4_0, at_4_1, at_4_2, at_4_3, q_len_l, q_len_t, q_len_s, q_abs, q_int_i, q_int_b, q_str, q_list_l, q_list_t, q_tuple_l, q_tuple_t, q_repr_l, q_repr_t]
      refine ⟨p, 6, _, rfl, rfl, by decide, by decide, S2, by omega, fun c N3 c0 c1 S3 F3 => ?_⟩
      obtain ⟨P, hP⟩ : ∃ P, P = (psOf a e m').map D.int := ⟨_, rfl⟩
      obtain ⟨R0, hR0⟩ : ∃ R0, R0 = rowD tie (psOf a e m) := ⟨_, rfl⟩
      have h3 : N3 qa = some (.lst [R0, .tup [.str tie, .tup P]]) := by rw [hP, hR0]; exact (F3 qa nq).trans h2
      have lP : P.length ≤ 5 := by rw [hP, List.length_map, ps_len]; have := S.l'; omega
      try simp only [tv, tk, to2, to1, tbl, tch, tand, tor, tnot, vand, vor, vnot, tif, a0, ac, as_, dtup, dlst, tcb, tcall, sret, sretN, sif, snx, sdrop, sasg, gn, spar, snever, bend, startD, List.map_cons, List.map_nil, List.length_cons, List.length_nil, List.replicate, List.cons_append, List.nil_append, List.append_nil, List.getElem?_cons_zero, List.getElem?_cons_succ, List.set_cons_zero, List.set_cons_succ, Nat.reduceAdd, Nat.reduceSub, Nat.zero_add, tcallK, ro, List.getD_cons_zero, List.getD_cons_succ, true_and, wipeD, Bool.not_true, Bool.not_false, Bool.false_eq_true, if_true, if_false, q_add_i, q_add_s, q_add_l, q_add_t, q_sub, q_mul_i, q_mul_l, q_mul_s, q_div, q_mod, q_pow, q_lt, q_le, q_gt, q_ge, q_eq_i, q_eq_s, q_eq_b, q_ne_i, q_ne_s, q_ne_b, q_eq_l, q_eq_t, q_ne_l, q_ne_t, q_is, q_isnt, isN_int, isN_str, isN_lst, isN_tup, isN_ref, isN_bl, isN_non, q_neg, q_ix_l, q_ix_t, atD_s, at_1_0, at_2_0, at_2_1, at_3_0, at_3_1, at_3_2, at_4_0, at_4_1, at_4_2, at_4_3, q_len_l, q_len_t, q_len_s, q_abs, q_int_i, q_int_b, q_str, q_list_l, q_list_t, q_tuple_l, q_tuple_t, q_repr_l, q_repr_t]
      subst hK3
      refine seq_step fun K4 hK4 => ?_
      have at1 : ∀ x y : D, atI [x, y] 1 = some y := fun _ _ => rfl
      simp only [tv, tk, to2, to1, tbl, tch, tand, tor, tnot, vand, vor, vnot, tif, a0, ac, as_, dtup, dlst, tcb, tcall, sret, sretN, sif, snx, sdrop, sasg, gn, spar, snever, bend, startD, List.map_cons, List.map_nil, List.length_cons, List.length_nil, List.replicate, List.cons_append, List.nil_append, List.append_nil, List.getElem?_cons_zero, List.getElem?_cons_succ, List.set_cons_zero, List.set_cons_succ, Nat.reduceAdd, Nat.reduceSub, Nat.zero_add, tcallK, ro, List.getD_cons_zero, List.getD_cons_succ, true_and, wipeD, Bool.not_true, Bool.not_false, Bool.false_eq_true, if_true, if_false, q_add_i, q_add_s, q_add_l, q_add_t, q_sub, q_mul_i, q_mul_l, q_mul_s, q_div, q_mod, q_pow, q_lt, q_le, q_gt, q_ge, q_eq_i, q_eq_s, q_eq_b, q_ne_i, q_ne_s, q_ne_b, q_eq_l, q_eq_t, q_ne_l, q_ne_t, q_is, q_isnt, isN_int, isN_str, isN_lst, isN_tup, isN_ref, isN_bl, isN_non, q_neg, q_ix_l, q_ix_t, atD_s, at_1_0, at_2_0, at_2_1, at_3_0, at_3_1, at_3_2, at_4_0, at_4_1, at_4_2, at_4_3, q_len_l, q_len_t, q_len_s, q_abs, q_int_i, q_int_b, q_str, q_list_l, q_list_t, q_tuple_l, q_tuple_t, q_repr_l, q_repr_t, q_ix_r h3, at1, atD_s, gtup, gsc, gsn]
      subst hK4
      have G0 : GoodRow tie (psOf a e m) := psOf_good ht S
      have G1 : GoodRow tie (psOf a e m') := psOf_good ht S.symm
      have ix2 : ixN 2 1 = some 1 := rfl
      have sw : ∀ (r1 : D) (K : DSt → MM → Prop) (σ : DSt), RowsOf c tie (psOf a e m) r1 → (∀ N, (∃ r1, RowsOf c tie (psOf a e m) r1 ∧ Spr N p (30 * j + 23) ∧ N qa = some (.lst [R0, r1])) → K σ N) → K σ (mput N3 qa (.lst [R0, r1])) := fun r1 K σ R hK => hK _ ⟨r1, R, (S3.fr nq FrB.put).more (by omega), mput_same⟩
      refine three_ifs (c := c) (fun N => ∃ r1, RowsOf c tie (psOf a e m) r1 ∧ Spr N p (30 * j + 23) ∧ N qa = some (.lst [R0, r1])) rfl (fun N4 ⟨r1, R, S4, h4⟩ => ?after) (fun ec K hK => ?c0) (fun ec K hK => ?c1) (fun ec K hK => ?c2) fun n0 n1 n2 => ?c3
      case c3 => exact ⟨_, ⟨tie, _, by rw [hP]; rfl, G1, .inr ⟨by omega, same_yes, a, e, m, m', rfl, rfl, S⟩⟩, S3.more (by omega), h3⟩
      case c0 =>
        simp only [sseti, tv, tk, to2, to1, tbl, tch, tand, tor, tnot, vand, vor, vnot, tif, a0, ac, as_, dtup, dlst, tcb, tcall, sret, sretN, sif, snx, sdrop, sasg, gn, spar, snever, bend, startD, List.map_cons, List.map_nil, List.length_cons, List.length_nil, List.replicate, List.cons_append, List.nil_append, List.append_nil, List.getElem?_cons_zero, List.getElem?_cons_succ, List.set_cons_zero, List.set_cons_succ, Nat.reduceAdd, Nat.reduceSub, Nat.zero_add, tcallK, ro, List.getD_cons_zero, List.getD_cons_succ, true_and, wipeD, Bool.not_true, Bool.not_false, Bool.false_eq_true, if_true, if_false, q_add_i, q_add_s, q_add_l, q_add_t, q_sub, q_mul_i, q_mul_l, q_mul_s, q_div, q_mod, q_pow, q_lt, q_le, q_gt, q_ge, q_eq_i, q_eq_s, q_eq_b, q_ne_i, q_ne_s, q_ne_b, q_eq_l, q_eq_t, q_ne_l, q_ne_t, q_is, q_isnt, isN_int, isN_str, isN_lst, isN_tup, isN_ref, isN_bl, isN_non, q_neg, q_ix_l, q_ix_t, atD_s, at_1_0, at_2_0, at_2_1, at_3_0, at_3_1, at_3_2, at_4_0, at_4_1, at_4_2, at_4_3, q_len_l, q_len_t, q_len_s, q_abs, q_int_i, q_int_b, q_str, q_list_l, q_list_t, q_tuple_l, q_tuple_t, q_repr_l, q_repr_t, tdsel, h3, ix2]
        rcases ht with w | w
        · rw [if_pos w]
          refine ⟨by decide, sw _ _ _ ⟨Str.ofString "old", _, by rw [hP]; rfl, ⟨.inr rfl, G1.l, G1.p⟩, .inl ⟨by omega, same_no fun k => absurd (w.symm.trans k.1) (by decide)⟩⟩ hK⟩
        · rw [if_neg (fun k => absurd (w.symm.trans k) (by decide)), if_pos w]
          refine ⟨by decide, sw _ _ _ ⟨Str.ofString "new", _, by rw [hP]; rfl, ⟨.inl rfl, G1.l, G1.p⟩, .inl ⟨by omega, same_no fun k => absurd (w.symm.trans k.1) (by decide)⟩⟩ hK⟩
      case c1 =>
        have p1 : atI P 0 = some (D.int a) := by rw [hP]; exact at_head
        have p2 : cutD P (some 1) none = (m' ++ [e]).map D.int := by rw [hP]; exact cut_tail
        have l2 : ((m' ++ [e]).map D.int).length ≤ 4 := by rw [List.length_map, List.length_append, List.length_singleton]; have := S.l'; omega
        generalize hR : (m' ++ [e]).map D.int = R at p2 l2
        simp only [sseti, tv, tk, to2, to1, tbl, tch, tand, tor, tnot, vand, vor, vnot, tif, a0, ac, as_, dtup, dlst, tcb, tcall, sret, sretN, sif, snx, sdrop, sasg, gn, spar, snever, bend, startD, List.map_cons, List.map_nil, List.length_cons, List.length_nil, List.replicate, List.cons_append, List.nil_append, List.append_nil, List.getElem?_cons_zero, List.getElem?_cons_succ, List.set_cons_zero, List.set_cons_succ, Nat.reduceAdd, Nat.reduceSub, Nat.zero_add, tcallK, ro, List.getD_cons_zero, List.getD_cons_succ, true_and, wipeD, Bool.not_true, Bool.not_false, Bool.false_eq_true, if_true, if_false, q_add_i, q_add_s, q_add_l, q_add_t, q_sub, q_mul_i, q_mul_l, q_mul_s, q_div, q_mod, q_pow, q_lt, q_le, q_gt, q_ge, q_eq_i, q_eq_s, q_eq_b, q_ne_i, q_ne_s, q_ne_b, q_eq_l, q_eq_t, q_ne_l, q_ne_t, q_is, q_isnt, isN_int, isN_str, isN_lst, isN_tup, isN_ref, isN_bl, isN_non, q_neg, q_ix_l, q_ix_t, atD_s, at_1_0, at_2_0, at_2_1, at_3_0, at_3_1, at_3_2, at_4_0, at_4_1, at_4_2, at_4_3, q_len_l, q_len_t, q_len_s, q_abs, q_int_i, q_int_b, q_str, q_list_l, q_list_t, q_tuple_l, q_tuple_t, q_repr_l, q_repr_t, h3, ix2, p1, atD_s, tsl, so_some, so_none, p2]
        repeat (refine And.intro (by first | omega | decide) ?_)
        refine sw _ _ _ ⟨tie, psOf (a + 1) e m', by rw [← hR]; rfl, ⟨ht, by rw [ps_len]; have := S.l'; omega, fun x hx => ?_⟩, .inl ⟨by omega, same_no fun k => by have := k.2.1; omega⟩⟩ hK
        rcases List.mem_cons.mp hx with w | w
        · have := S.ha; omega
        · exact S.symm.ps x (List.mem_cons_of_mem _ w)
      case c2 =>
        have p1 : atI P (-1) = some (D.int e) := by rw [hP]; exact at_end
        have p2 : cutD P none (some (-1)) = (a :: m').map D.int := by rw [hP]; exact cut_init
        have l2 : ((a :: m').map D.int).length ≤ 4 := by rw [List.length_map, List.length_cons]; have := S.l'; omega
        generalize hR : (a :: m').map D.int = R at p2 l2
        simp only [sseti, tv, tk, to2, to1, tbl, tch, tand, tor, tnot, vand, vor, vnot, tif, a0, ac, as_, dtup, dlst, tcb, tcall, sret, sretN, sif, snx, sdrop, sasg, gn, spar, snever, bend, startD, List.map_cons, List.map_nil, List.length_cons, List.length_nil, List.replicate, List.cons_append, List.nil_append, List.append_nil, List.getElem?_cons_zero, List.getElem?_cons_succ, List.set_cons_zero, List.set_cons_succ, Nat.reduceAdd, Nat.reduceSub, Nat.zero_add, tcallK, ro, List.getD_cons_zero, List.getD_cons_succ, true_and, wipeD, Bool.not_true, Bool.not_false, Bool.false_eq_true, if_true, if_false, q_add_i, q_add_s, q_add_l, q_add_t, q_sub, q_mul_i, q_mul_l, q_mul_s, q_div, q_mod, q_pow, q_lt, q_le, q_gt, q_ge, q_eq_i, q_eq_s, q_eq_b, q_ne_i, q_ne_s, q_ne_b, q_eq_l, q_eq_t, q_ne_l, q_ne_t, q_is, q_isnt, isN_int, isN_str, isN_lst, isN_tup, isN_ref, isN_bl, isN_non, q_neg, q_ix_l, q_ix_t, atD_s, at_1_0, at_2_0, at_2_1, at_3_0, at_3_1, at_3_2, at_4_0, at_4_1, at_4_2, at_4_3, q_len_l, q_len_t, q_len_s, q_abs, q_int_i, q_int_b, q_str, q_list_l, q_list_t, q_tuple_l, q_tuple_t, q_repr_l, q_repr_t, h3, ix2, p1, atD_s, tsl, so_some, so_none, p2]
        repeat (refine And.intro (by first | omega | decide) ?_)
        refine sw _ _ _ ⟨tie, psOf a (e + 1) m', by rw [← hR]; unfold rowD; simp, ⟨ht, by rw [ps_len]; have := S.l'; omega, fun x hx => ?_⟩, .inl ⟨by omega, same_no fun k => by have := k.2.2; omega⟩⟩ hK
        rcases List.mem_cons.mp hx with w | w
        · have := S.ha; omega
        · rcases List.mem_append.mp w with w | w
          · exact S.hm' x w
          · rw [List.mem_singleton.mp w]; have := S.he; omega
      case after =>
        obtain ⟨t', qs, er, g', hR'⟩ := id R
        refine seq_step fun K5 hK5 => ?_
        simp only [tv, tk, to2, to1, tbl, tch, tand, tor, tnot, vand, vor, vnot, tif, a0, ac, as_, dtup, dlst, tcb, tcall, sret, sretN, sif, snx, sdrop, sasg, gn, spar, snever, bend, startD, List.map_cons, List.map_nil, List.length_cons, List.length_nil, List.replicate, List.cons_append, List.nil_append, List.append_nil, List.getElem?_cons_zero, List.getElem?_cons_succ, List.set_cons_zero, List.set_cons_succ, Nat.reduceAdd, Nat.reduceSub, Nat.zero_add, tcallK, ro, List.getD_cons_zero, List.getD_cons_succ, true_and, wipeD, Bool.not_true, Bool.not_false, Bool.false_eq_true, if_true, if_false, q_add_i, q_add_s, q_add_l, q_add_t, q_sub, q_mul_i, q_mul_l, q_mul_s, q_div, q_mod, q_pow, q_lt, q_le, q_gt, q_ge, q_eq_i, q_eq_s, q_eq_b, q_ne_i, q_ne_s, q_ne_b, q_eq_l, q_eq_t, q_ne_l, q_ne_t, q_is, q_isnt, isN_int, isN_str, isN_lst, isN_tup, isN_ref, isN_bl, isN_non, q_neg, q_ix_l, q_ix_t, atD_s, at_1_0, at_2_0, at_2_1, at_3_0, at_3_1, at_3_2, at_4_0, at_4_1, at_4_2, at_4_3, q_len_l, q_len_t, q_len_s, q_abs, q_int_i, q_int_b, q_str, q_list_l, q_list_t, q_tuple_l, q_tuple_t, q_repr_l, q_repr_t, tlc, irng1]
        refine ⟨⟨by decide, by decide⟩, ?_⟩
        refine compD_s 2 (Iv := fun j' N => Spr N p (30 * j + 23 + j') ∧ N qa = N4 qa) (P := fun y => ∃ b, y = D.bl b ∧ True) (rgD 0 2) 0 [] N4 (fun d _ j' N hj' ⟨S5, f5⟩ kq hkq => ?_) (by decide) (by decide) ⟨S4, rfl⟩ fun ys N5 hl5 hy ⟨S5, f5⟩ => ?_
        · simp only [tv, tk, to2, to1, tbl, tch, tand, tor, tnot, vand, vor, vnot, tif, a0, ac, as_, dtup, dlst, tcb, tcall, sret, sretN, sif, snx, sdrop, sasg, gn, spar, snever, bend, startD, List.map_cons, List.map_nil, List.length_cons, List.length_nil, List.replicate, List.cons_append, List.nil_append, List.append_nil, List.getElem?_cons_zero, List.getElem?_cons_succ, List.set_cons_zero, List.set_cons_succ, Nat.reduceAdd, Nat.reduceSub, Nat.zero_add, tcallK, ro, List.getD_cons_zero, List.getD_cons_succ, true_and, wipeD, Bool.not_true, Bool.not_false, Bool.false_eq_true, if_true, if_false, q_add_i, q_add_s, q_add_l, q_add_t, q_sub, q_mul_i, q_mul_l, q_mul_s, q_div, q_mod, q_pow, q_lt, q_le, q_gt, q_ge, q_eq_i, q_eq_s, q_eq_b, q_ne_i, q_ne_s, q_ne_b, q_eq_l, q_eq_t, q_ne_l, q_ne_t, q_is, q_isnt, isN_int, isN_str, isN_lst, isN_tup, isN_ref, isN_bl, isN_non, q_neg, q_ix_l, q_ix_t, atD_s, at_1_0, at_2_0, at_2_1, at_3_0, at_3_1, at_3_2, at_4_0, at_4_1, at_4_2, at_4_3, q_len_l, q_len_t, q_len_s, q_abs, q_int_i, q_int_b, q_str, q_list_l, q_list_t, q_tuple_l, q_tuple_t, q_repr_l, q_repr_t]
          refine ⟨p, 3, _, rfl, rfl, by decide, by decide, S5, by omega, fun v N6 v0 v1 S6 F6 => ?_⟩
          simp only [tv, tk, to2, to1, tbl, tch, tand, tor, tnot, vand, vor, vnot, tif, a0, ac, as_, dtup, dlst, tcb, tcall, sret, sretN, sif, snx, sdrop, sasg, gn, spar, snever, bend, startD, List.map_cons, List.map_nil, List.length_cons, List.length_nil, List.replicate, List.cons_append, List.nil_append, List.append_nil, List.getElem?_cons_zero, List.getElem?_cons_succ, List.set_cons_zero, List.set_cons_succ, Nat.reduceAdd, Nat.reduceSub, Nat.zero_add, tcallK, ro, List.getD_cons_zero, List.getD_cons_succ, true_and, wipeD, Bool.not_true, Bool.not_false, Bool.false_eq_true, if_true, if_false, q_add_i, q_add_s, q_add_l, q_add_t, q_sub, q_mul_i, q_mul_l, q_mul_s, q_div, q_mod, q_pow, q_lt, q_le, q_gt, q_ge, q_eq_i, q_eq_s, q_eq_b, q_ne_i, q_ne_s, q_ne_b, q_eq_l, q_eq_t, q_ne_l, q_ne_t, q_is, q_isnt, isN_int, isN_str, isN_lst, isN_tup, isN_ref, isN_bl, isN_non, q_neg, q_ix_l, q_ix_t, atD_s, at_1_0, at_2_0, at_2_1, at_3_0, at_3_1, at_3_2, at_4_0, at_4_1, at_4_2, at_4_3, q_len_l, q_len_t, q_len_s, q_abs, q_int_i, q_int_b, q_str, q_list_l, q_list_t, q_tuple_l, q_tuple_t, q_repr_l, q_repr_t]
          exact hkq _ _ ⟨_, rfl, trivial⟩ ⟨S6, (F6 qa nq).trans f5⟩
        obtain ⟨l, el, ll, _⟩ := of_each ys hy
        have l2 : l.length = 2 := by rw [ll, hl5]; rfl
        obtain ⟨b0, b1, rfl⟩ : ∃ b0 b1, l = [b0, b1] := by
          match l, l2 with
          | [x, y], _ => exact ⟨x, y, rfl⟩
        subst el
        subst hK5
        have h5 : N5 qa = some (.lst [R0, r1]) := f5.trans h4
        have rl2 : (rgD 0 2).length = 2 := by rw [rgD_len]; rfl
        rw [rl2] at S5
        refine seq_step fun K6 hK6 => ?_
        have rg : rgD 0 2 = [.int 0, .int 1] := by rfl
        have at0 : ∀ x y : D, atI [x, y] 0 = some x := fun _ _ => rfl
        have pick : ∀ (b : Bool) (r : D) (t' : Str) (qs : List Int) (N : MM) (n' : Nat) (kq : DK) (E : EK), r = rowD t' qs → GoodRow t' qs → Spr N p n' → n' ≤ 2000 → (∀ g N', (b = true → BadR N' g) → (b = false → g = r) → Spr N' p (n' + 2) → (∀ q o, q ≠ p → N q = some o → N' q = some o) → kq g N') →
            (if b = true then sp__law_bad_pack [.ref p, r] N kq E else kq r N) := fun b r t' qs N n' kq E er g hS hn hk => by
          cases b with
          | true => exact ⟨p, n', t', qs, rfl, er, g, hS, hn, fun d M' hB hS' hF => hk d M' (fun _ => hB) (fun w => by cases w) hS' hF⟩
          | false => exact hk r N (fun w => by cases w) (fun _ => rfl) (hS.more (by omega)) fun _ _ _ h => h
        simp only [tv, tk, to2, to1, tbl, tch, tand, tor, tnot, vand, vor, vnot, tif, a0, ac, as_, dtup, dlst, tcb, tcall, sret, sretN, sif, snx, sdrop, sasg, gn, spar, snever, bend, startD, List.map_cons, List.map_nil, List.length_cons, List.length_nil, List.replicate, List.cons_append, List.nil_append, List.append_nil, List.getElem?_cons_zero, List.getElem?_cons_succ, List.set_cons_zero, List.set_cons_succ, Nat.reduceAdd, Nat.reduceSub, Nat.zero_add, tcallK, ro, List.getD_cons_zero, List.getD_cons_succ, true_and, wipeD, Bool.not_true, Bool.not_false, Bool.false_eq_true, if_true, if_false, q_add_i, q_add_s, q_add_l, q_add_t, q_sub, q_mul_i, q_mul_l, q_mul_s, q_div, q_mod, q_pow, q_lt, q_le, q_gt, q_ge, q_eq_i, q_eq_s, q_eq_b, q_ne_i, q_ne_s, q_ne_b, q_eq_l, q_eq_t, q_ne_l, q_ne_t, q_is, q_isnt, isN_int, isN_str, isN_lst, isN_tup, isN_ref, isN_bl, isN_non, q_neg, q_ix_l, q_ix_t, atD_s, at_1_0, at_2_0, at_2_1, at_3_0, at_3_1, at_3_2, at_4_0, at_4_1, at_4_2, at_4_3, q_len_l, q_len_t, q_len_s, q_abs, q_int_i, q_int_b, q_str, q_list_l, q_list_t, q_tuple_l, q_tuple_t, q_repr_l, q_repr_t, tlc, irng1, rg]
        refine ⟨⟨by decide, by decide⟩, compD_step1 ?_⟩
        simp only [tv, tk, to2, to1, tbl, tch, tand, tor, tnot, vand, vor, vnot, tif, a0, ac, as_, dtup, dlst, tcb, tcall, sret, sretN, sif, snx, sdrop, sasg, gn, spar, snever, bend, startD, List.map_cons, List.map_nil, List.length_cons, List.length_nil, List.replicate, List.cons_append, List.nil_append, List.append_nil, List.getElem?_cons_zero, List.getElem?_cons_succ, List.set_cons_zero, List.set_cons_succ, Nat.reduceAdd, Nat.reduceSub, Nat.zero_add, tcallK, ro, List.getD_cons_zero, List.getD_cons_succ, true_and, wipeD, Bool.not_true, Bool.not_false, Bool.false_eq_true, if_true, if_false, q_add_i, q_add_s, q_add_l, q_add_t, q_sub, q_mul_i, q_mul_l, q_mul_s, q_div, q_mod, q_pow, q_lt, q_le, q_gt, q_ge, q_eq_i, q_eq_s, q_eq_b, q_ne_i, q_ne_s, q_ne_b, q_eq_l, q_eq_t, q_ne_l, q_ne_t, q_is, q_isnt, isN_int, isN_str, isN_lst, isN_tup, isN_ref, isN_bl, isN_non, q_neg, q_ix_l, q_ix_t, atD_s, at_1_0, at_2_0, at_2_1, at_3_0, at_3_1, at_3_2, at_4_0, at_4_1, at_4_2, at_4_3, q_len_l, q_len_t, q_len_s, q_abs, q_int_i, q_int_b, q_str, q_list_l, q_list_t, q_tuple_l, q_tuple_t, q_repr_l, q_repr_t, q_ix_r h5, at0, atD_s]
        refine pick b0 _ _ _ _ _ _ _ hR0 G0 S5 (by omega) fun g0 N6 B0 E0 S6 F6 => ?_
        have h6 : N6 qa = some (.lst [R0, r1]) := F6 _ _ nq h5
        refine ⟨by decide, compD_step1 ?_⟩
        simp only [tv, tk, to2, to1, tbl, tch, tand, tor, tnot, vand, vor, vnot, tif, a0, ac, as_, dtup, dlst, tcb, tcall, sret, sretN, sif, snx, sdrop, sasg, gn, spar, snever, bend, startD, List.map_cons, List.map_nil, List.length_cons, List.length_nil, List.replicate, List.cons_append, List.nil_append, List.append_nil, List.getElem?_cons_zero, List.getElem?_cons_succ, List.set_cons_zero, List.set_cons_succ, Nat.reduceAdd, Nat.reduceSub, Nat.zero_add, tcallK, ro, List.getD_cons_zero, List.getD_cons_succ, true_and, wipeD, Bool.not_true, Bool.not_false, Bool.false_eq_true, if_true, if_false, q_add_i, q_add_s, q_add_l, q_add_t, q_sub, q_mul_i, q_mul_l, q_mul_s, q_div, q_mod, q_pow, q_lt, q_le, q_gt, q_ge, q_eq_i, q_eq_s, q_eq_b, q_ne_i, q_ne_s, q_ne_b, q_eq_l, q_eq_t, q_ne_l, q_ne_t, q_is, q_isnt, isN_int, isN_str, isN_lst, isN_tup, isN_ref, isN_bl, isN_non, q_neg, q_ix_l, q_ix_t, atD_s, at_1_0, at_2_0, at_2_1, at_3_0, at_3_1, at_3_2, at_4_0, at_4_1, at_4_2, at_4_3, q_len_l, q_len_t, q_len_s, q_abs, q_int_i, q_int_b, q_str, q_list_l, q_list_t, q_tuple_l, q_tuple_t, q_repr_l, q_repr_t, q_ix_r h6, at1, atD_s]
        refine pick b1 _ _ _ _ _ _ _ er g' S6 (by omega) fun g1 N7 B1 E1 S7 F7 => ?_
        refine ⟨by decide, ?_⟩
        unfold compD
        simp only [tv, tk, to2, to1, tbl, tch, tand, tor, tnot, vand, vor, vnot, tif, a0, ac, as_, dtup, dlst, tcb, tcall, sret, sretN, sif, snx, sdrop, sasg, gn, spar, snever, bend, startD, List.map_cons, List.map_nil, List.length_cons, List.length_nil, List.replicate, List.cons_append, List.nil_append, List.append_nil, List.getElem?_cons_zero, List.getElem?_cons_succ, List.set_cons_zero, List.set_cons_succ, Nat.reduceAdd, Nat.reduceSub, Nat.zero_add, tcallK, ro, List.getD_cons_zero, List.getD_cons_succ, true_and, wipeD, Bool.not_true, Bool.not_false, Bool.false_eq_true, if_true, if_false, q_add_i, q_add_s, q_add_l, q_add_t, q_sub, q_mul_i, q_mul_l, q_mul_s, q_div, q_mod, q_pow, q_lt, q_le, q_gt, q_ge, q_eq_i, q_eq_s, q_eq_b, q_ne_i, q_ne_s, q_ne_b, q_eq_l, q_eq_t, q_ne_l, q_ne_t, q_is, q_isnt, isN_int, isN_str, isN_lst, isN_tup, isN_ref, isN_bl, isN_non, q_neg, q_ix_l, q_ix_t, atD_s, at_1_0, at_2_0, at_2_1, at_3_0, at_3_1, at_3_2, at_4_0, at_4_1, at_4_2, at_4_3, q_len_l, q_len_t, q_len_s, q_abs, q_int_i, q_int_b, q_str, q_list_l, q_list_t, q_tuple_l, q_tuple_t, q_repr_l, q_repr_t]
        subst hK6
        refine seq_step fun K7 hK7 => ?_
        have a0 : AnyRow isk N7 g0 := by
          cases b0 with
          | true => exact anyR_keep S6 S7 F7 (B0 rfl).1
          | false => rw [E0 rfl, hR0]; exact any_row
        have a1 : AnyRow isk N7 g1 := by
          cases b1 with
          | true => exact (B1 rfl).1
          | false => rw [E1 rfl, er]; exact any_row
        have qin : ∀ (M : MM) (Q : DK), rdIn false (.bl true) (.lst [.bl b0, .bl b1]) M Q = ((flatD (.bl true) && [D.bl b0, D.bl b1].all flatD) = true ∧ Q (.bl (false ^^ inF (.bl true) [.bl b0, .bl b1])) M) := fun _ _ => rfl
        have fin : ∀ due : Int, due = (if (b0 || b1) = true then 1 else if c < 3 then 2 else 0) → K7 [some (.lst (ns.map D.int)), some (.int cell), some (.ref p), some (.int way), some (.ref qa), some (.int c), some (.str tie), some (.tup P), some (.lst [.bl b0, .bl b1]), y9, some (.lst [g0, g1]), some (.int due)] N7 := fun due hdue => by
          subst hK7
          simp only [tv, tk, to2, to1, tbl, tch, tand, tor, tnot, vand, vor, vnot, tif, a0, ac, as_, dtup, dlst, tcb, tcall, sret, sretN, sif, snx, sdrop, sasg, gn, spar, snever, bend, startD, List.map_cons, List.map_nil, List.length_cons, List.length_nil, List.replicate, List.cons_append, List.nil_append, List.append_nil, List.getElem?_cons_zero, List.getElem?_cons_succ, List.set_cons_zero, List.set_cons_succ, Nat.reduceAdd, Nat.reduceSub, Nat.zero_add, tcallK, ro, List.getD_cons_zero, List.getD_cons_succ, true_and, wipeD, Bool.not_true, Bool.not_false, Bool.false_eq_true, if_true, if_false, q_add_i, q_add_s, q_add_l, q_add_t, q_sub, q_mul_i, q_mul_l, q_mul_s, q_div, q_mod, q_pow, q_lt, q_le, q_gt, q_ge, q_eq_i, q_eq_s, q_eq_b, q_ne_i, q_ne_s, q_ne_b, q_eq_l, q_eq_t, q_ne_l, q_ne_t, q_is, q_isnt, isN_int, isN_str, isN_lst, isN_tup, isN_ref, isN_bl, isN_non, q_neg, q_ix_l, q_ix_t, atD_s, at_1_0, at_2_0, at_2_1, at_3_0, at_3_1, at_3_2, at_4_0, at_4_1, at_4_2, at_4_3, q_len_l, q_len_t, q_len_s, q_abs, q_int_i, q_int_b, q_str, q_list_l, q_list_t, q_tuple_l, q_tuple_t, q_repr_l, q_repr_t]
          refine ⟨way, g0, g1, due, rfl, rfl, a0, a1, out_of G0 R (fun w => (E0 w).trans hR0) E1 (fun w => (B0 w).2) (fun w => (B1 w).2) hdue, fun N8 l8 => ?_⟩
          simp only [tv, tk, to2, to1, tbl, tch, tand, tor, tnot, vand, vor, vnot, tif, a0, ac, as_, dtup, dlst, tcb, tcall, sret, sretN, sif, snx, sdrop, sasg, gn, spar, snever, bend, startD, List.map_cons, List.map_nil, List.length_cons, List.length_nil, List.replicate, List.cons_append, List.nil_append, List.append_nil, List.getElem?_cons_zero, List.getElem?_cons_succ, List.set_cons_zero, List.set_cons_succ, Nat.reduceAdd, Nat.reduceSub, Nat.zero_add, tcallK, ro, List.getD_cons_zero, List.getD_cons_succ, true_and, wipeD, Bool.not_true, Bool.not_false, Bool.false_eq_true, if_true, if_false, q_add_i, q_add_s, q_add_l, q_add_t, q_sub, q_mul_i, q_mul_l, q_mul_s, q_div, q_mod, q_pow, q_lt, q_le, q_gt, q_ge, q_eq_i, q_eq_s, q_eq_b, q_ne_i, q_ne_s, q_ne_b, q_eq_l, q_eq_t, q_ne_l, q_ne_t, q_is, q_isnt, isN_int, isN_str, isN_lst, isN_tup, isN_ref, isN_bl, isN_non, q_neg, q_ix_l, q_ix_t, atD_s, at_1_0, at_2_0, at_2_1, at_3_0, at_3_1, at_3_2, at_4_0, at_4_1, at_4_2, at_4_3, q_len_l, q_len_t, q_len_s, q_abs, q_int_i, q_int_b, q_str, q_list_l, q_list_t, q_tuple_l, q_tuple_t, q_repr_l, q_repr_t, q_ne_i, decide_true]
          exact hnx _ _ ⟨(S7.mle l8).more (by omega), _, _, _, _, _, _, _, _, _, rfl⟩
        simp only [tv, tk, to2, to1, tbl, tch, tand, tor, tnot, vand, vor, vnot, tif, a0, ac, as_, dtup, dlst, tcb, tcall, sret, sretN, sif, snx, sdrop, sasg, gn, spar, snever, bend, startD, List.map_cons, List.map_nil, List.length_cons, List.length_nil, List.replicate, List.cons_append, List.nil_append, List.append_nil, List.getElem?_cons_zero, List.getElem?_cons_succ, List.set_cons_zero, List.set_cons_succ, Nat.reduceAdd, Nat.reduceSub, Nat.zero_add, tcallK, ro, List.getD_cons_zero, List.getD_cons_succ, true_and, wipeD, Bool.not_true, Bool.not_false, Bool.false_eq_true, if_true, if_false, q_add_i, q_add_s, q_add_l, q_add_t, q_sub, q_mul_i, q_mul_l, q_mul_s, q_div, q_mod, q_pow, q_lt, q_le, q_gt, q_ge, q_eq_i, q_eq_s, q_eq_b, q_ne_i, q_ne_s, q_ne_b, q_eq_l, q_eq_t, q_ne_l, q_ne_t, q_is, q_isnt, isN_int, isN_str, isN_lst, isN_tup, isN_ref, isN_bl, isN_non, q_neg, q_ix_l, q_ix_t, atD_s, at_1_0, at_2_0, at_2_1, at_3_0, at_3_1, at_3_2, at_4_0, at_4_1, at_4_2, at_4_3, q_len_l, q_len_t, q_len_s, q_abs, q_int_i, q_int_b, q_str, q_list_l, q_list_t, q_tuple_l, q_tuple_t, q_repr_l, q_repr_t, qin, in2.2]
        refine ⟨in2.1, ?_⟩
        cases hbb : (b0 || b1) with
        | true => exact fin 1 (by rw [hbb]; rfl)
        | false =>
          by_cases c3 : c < 3
          · simp only [decide_eq_true c3, Bool.false_eq_true, if_false, if_true]
            exact fin 2 (by rw [hbb, if_neg (by decide), if_pos c3])
          · simp only [decide_eq_false c3, Bool.false_eq_true, if_false]
            exact fin 0 (by rw [hbb, if_neg (by decide), if_neg c3])
end K41

namespace K41
open PySem PySem.Spec L2 DL
open TL
def prg : Program := (PySem.Challenge.rw_lastcopied_k41_errors_of_joins).prog
def top (i : Nat) : Stmt := PySem.Challenge.pw_lastcopied_k41_errors_of_joins.main.body.getD i (.Pass ⟨0, 0, 0, 0⟩)
abbrev st_is_number : Stmt := top 15
abbrev N_is_number : List Str := ["value"]
abbrev P_is_number : List Str := ["value"]
theorem sc_is_number : FnScope N_is_number P_is_number (defScope st_is_number) := ⟨rfl, rfl, rfl, by decide +kernel, rfl, by decide +kernel, by decide +kernel⟩
abbrev st_is_whole : Stmt := top 16
abbrev N_is_whole : List Str := ["value", "low", "high"]
abbrev P_is_whole : List Str := ["value", "low", "high"]
theorem sc_is_whole : FnScope N_is_whole P_is_whole (defScope st_is_whole) := ⟨rfl, rfl, rfl, by decide +kernel, rfl, by decide +kernel, by decide +kernel⟩
abbrev st_greatest_common : Stmt := top 17
abbrev N_greatest_common : List Str := ["one", "other"]
abbrev P_greatest_common : List Str := ["one", "other"]
theorem sc_greatest_common : FnScope N_greatest_common P_greatest_common (defScope st_greatest_common) := ⟨rfl, rfl, rfl, by decide +kernel, rfl, by decide +kernel, by decide +kernel⟩
abbrev st_least_common : Stmt := top 18
abbrev N_least_common : List Str := ["numbers", "found", "number"]
abbrev P_least_common : List Str := ["numbers"]
theorem sc_least_common : FnScope N_least_common P_least_common (defScope st_least_common) := ⟨rfl, rfl, rfl, by decide +kernel, rfl, by decide +kernel, by decide +kernel⟩
abbrev st_fits_row : Stmt := top 19
abbrev N_fits_row : List Str := ["value", "period"]
abbrev P_fits_row : List Str := ["value"]
theorem sc_fits_row : FnScope N_fits_row P_fits_row (defScope st_fits_row) := ⟨rfl, rfl, rfl, by decide +kernel, rfl, by decide +kernel, by decide +kernel⟩
abbrev st_need_row : Stmt := top 22
abbrev N_need_row : List Str := ["row"]
abbrev P_need_row : List Str := ["row"]
theorem sc_need_row : FnScope N_need_row P_need_row (defScope st_need_row) := ⟨rfl, rfl, rfl, by decide +kernel, rfl, by decide +kernel, by decide +kernel⟩
abbrev st_need_branches : Stmt := top 37
abbrev N_need_branches : List Str := ["one", "other"]
abbrev P_need_branches : List Str := ["one", "other"]
theorem sc_need_branches : FnScope N_need_branches P_need_branches (defScope st_need_branches) := ⟨rfl, rfl, rfl, by decide +kernel, rfl, by decide +kernel, by decide +kernel⟩
abbrev st_rounded_up : Stmt := top 38
abbrev N_rounded_up : List Str := ["number", "by"]
abbrev P_rounded_up : List Str := ["number", "by"]
theorem sc_rounded_up : FnScope N_rounded_up P_rounded_up (defScope st_rounded_up) := ⟨rfl, rfl, rfl, by decide +kernel, rfl, by decide +kernel, by decide +kernel⟩
abbrev st_arrival_by : Stmt := top 27
abbrev N_arrival_by : List Str := ["periods", "steps_apart", "moment", "at"]
abbrev P_arrival_by : List Str := ["periods", "steps_apart", "moment"]
theorem sc_arrival_by : FnScope N_arrival_by P_arrival_by (defScope st_arrival_by) := ⟨rfl, rfl, rfl, by decide +kernel, rfl, by decide +kernel, by decide +kernel⟩
abbrev st_ways_of : Stmt := top 39
abbrev N_ways_of : List Str := ["periods", "late", "middles", "found", "period", "way", "apart", "less"]
abbrev P_ways_of : List Str := ["periods", "late"]
theorem sc_ways_of : FnScope N_ways_of P_ways_of (defScope st_ways_of) := ⟨rfl, rfl, rfl, by decide +kernel, rfl, by decide +kernel, by decide +kernel⟩
abbrev st_is_apart : Stmt := top 40
abbrev N_is_apart : List Str := ["one", "other", "mine", "its", "moments", "at"]
abbrev P_is_apart : List Str := ["one", "other", "mine", "its"]
theorem sc_is_apart : FnScope N_is_apart P_is_apart (defScope st_is_apart) := ⟨rfl, rfl, rfl, by decide +kernel, rfl, by decide +kernel, by decide +kernel⟩
abbrev st_found_apart : Stmt := top 41
abbrev N_found_apart : List Str := ["one", "other", "late", "mine", "its"]
abbrev P_found_apart : List Str := ["one", "other"]
theorem sc_found_apart : FnScope N_found_apart P_found_apart (defScope st_found_apart) := ⟨rfl, rfl, rfl, by decide +kernel, rfl, by decide +kernel, by decide +kernel⟩
abbrev st_lowest : Stmt := top 42
abbrev N_lowest : List Str := ["top", "bottom", "common"]
abbrev P_lowest : List Str := ["top", "bottom"]
theorem sc_lowest : FnScope N_lowest P_lowest (defScope st_lowest) := ⟨rfl, rfl, rfl, by decide +kernel, rfl, by decide +kernel, by decide +kernel⟩
abbrev st_phases_by : Stmt := top 43
abbrev N_phases_by : List Str := ["tie", "late", "way", "whole", "rest", "parts", "found", "here", "at", "apart"]
abbrev P_phases_by : List Str := ["tie", "late", "way"]
theorem sc_phases_by : FnScope N_phases_by P_phases_by (defScope st_phases_by) := ⟨rfl, rfl, rfl, by decide +kernel, rfl, by decide +kernel, by decide +kernel⟩
abbrev st_differences : Stmt := top 44
abbrev N_differences : List Str := ["one", "other", "source", "low", "high"]
abbrev P_differences : List Str := ["one", "other"]
theorem sc_differences : FnScope N_differences P_differences (defScope st_differences) := ⟨rfl, rfl, rfl, by decide +kernel, rfl, by decide +kernel, by decide +kernel⟩
abbrev st_together : Stmt := top 45
abbrev N_together : List Str := ["one", "other"]
abbrev P_together : List Str := ["one", "other"]
theorem sc_together : FnScope N_together P_together (defScope st_together) := ⟨rfl, rfl, rfl, by decide +kernel, rfl, by decide +kernel, by decide +kernel⟩
abbrev st_apart_phases : Stmt := top 46
abbrev N_apart_phases : List Str := ["one", "other", "found", "late", "mine", "its"]
abbrev P_apart_phases : List Str := ["one", "other"]
theorem sc_apart_phases : FnScope N_apart_phases P_apart_phases (defScope st_apart_phases) := ⟨rfl, rfl, rfl, by decide +kernel, rfl, by decide +kernel, by decide +kernel⟩
abbrev st_Line___init__ : Stmt := (clsStmts (top 68)).getD 0 (.Pass ⟨0, 0, 0, 0⟩)
abbrev N_Line___init__ : List Str := ["self", "tie", "periods"]
abbrev P_Line___init__ : List Str := ["self", "tie", "periods"]
theorem sc_Line___init__ : FnScope N_Line___init__ P_Line___init__ (defScope st_Line___init__) := ⟨rfl, rfl, rfl, by decide +kernel, rfl, by decide +kernel, by decide +kernel⟩
abbrev st__law_spring : Stmt := top 70
abbrev N__law_spring : List Str := ["cell", "rest"]
abbrev P__law_spring : List Str := ["cell"]
theorem sc__law_spring : FnScope N__law_spring P__law_spring (defScope st__law_spring) := ⟨rfl, rfl, rfl, by decide +kernel, rfl, by decide +kernel, by decide +kernel⟩
abbrev st__law_take : Stmt := top 71
abbrev N__law_take : List Str := ["spring", "count", "digit", "mixed"]
abbrev P__law_take : List Str := ["spring", "count"]
theorem sc__law_take : FnScope N__law_take P__law_take (defScope st__law_take) := ⟨rfl, rfl, rfl, by decide +kernel, rfl, by decide +kernel, by decide +kernel⟩
abbrev st__law_bad_pack : Stmt := top 72
abbrev N__law_bad_pack : List Str := ["spring", "pack", "tie", "periods", "at", "bad", "found", "part"]
abbrev P__law_bad_pack : List Str := ["spring", "pack"]
theorem sc__law_bad_pack : FnScope N__law_bad_pack P__law_bad_pack (defScope st__law_bad_pack) := ⟨rfl, rfl, rfl, by decide +kernel, rfl, by decide +kernel, by decide +kernel⟩
abbrev st__law_branches : Stmt := top 73
abbrev N__law_branches : List Str := ["spring", "top", "middles", "tie", "ends", "k", "rows", "cut", "product", "count", "inside", "period"]
abbrev P__law_branches : List Str := ["spring", "top", "middles"]
theorem sc__law_branches : FnScope N__law_branches P__law_branches (defScope st__law_branches) := ⟨rfl, rfl, rfl, by decide +kernel, rfl, by decide +kernel, by decide +kernel⟩
abbrev st__law_ask : Stmt := top 74
abbrev N__law_ask : List Str := ["way", "a"]
abbrev P__law_ask : List Str := ["way", "a"]
theorem sc__law_ask : FnScope N__law_ask P__law_ask (defScope st__law_ask) := ⟨rfl, rfl, rfl, by decide +kernel, rfl, by decide +kernel, by decide +kernel⟩
abbrev st__law_kind_of : Stmt := top 75
abbrev N__law_kind_of : List Str := ["way", "a", "caught", "e", "flags", "others"]
abbrev P__law_kind_of : List Str := ["way", "a"]
theorem sc__law_kind_of : FnScope N__law_kind_of P__law_kind_of (defScope st__law_kind_of) := ⟨rfl, rfl, rfl, by decide +kernel, rfl, by decide +kernel, by decide +kernel⟩
abbrev st_law : Stmt := top 76
abbrev N_law : List Str := ["script", "cell", "spring", "way", "rows", "change", "tie", "periods", "bad", "k", "given", "due"]
abbrev P_law : List Str := ["script"]
theorem sc_law : FnScope N_law P_law (defScope st_law) := ⟨rfl, rfl, rfl, by decide +kernel, rfl, by decide +kernel, by decide +kernel⟩
def fa : List He.Fa := [.glo "is_number", .glo "is_whole", .glo "greatest_common", .glo "least_common", .glo "fits_row", .glo "need_row", .glo "need_branches", .glo "rounded_up", .glo "arrival_by", .glo "ways_of", .glo "is_apart", .glo "found_apart", .glo "lowest", .glo "phases_by", .glo "differences", .glo "together", .glo "apart_phases", .glo "_law_spring", .glo "_law_take", .glo "_law_bad_pack", .glo "_law_branches", .glo "_law_ask", .glo "_law_kind_of", .glo "law", .glo "CopyError", .glo "InvalidIndex", .glo "InvalidNumber", .glo "InvalidPhases", .glo "Line", .mkr "Line", .cls "Line", .glo "InvalidRow", .exc "InvalidRow", .glo "OtherEnds", .exc "OtherEnds", .free "ValueError", .free "abs", .free "all", .free "bool", .free "enumerate", .free "int", .free "isinstance", .free "len", .free "list", .free "range", .free "str", .free "sum", .free "tuple", .int "MOST_PERIOD" 60, .glo "TIES"]
def fn : List He.DefD := [⟨("is_number", none), "is_number", "is_number", defArgs st_is_number, defBody st_is_number, defScope st_is_number, [], []⟩,
  ⟨("is_whole", none), "is_whole", "is_whole", defArgs st_is_whole, defBody st_is_whole, defScope st_is_whole, [], []⟩,
  ⟨("greatest_common", none), "greatest_common", "greatest_common", defArgs st_greatest_common, defBody st_greatest_common, defScope st_greatest_common, [], []⟩,
  ⟨("least_common", none), "least_common", "least_common", defArgs st_least_common, defBody st_least_common, defScope st_least_common, [], []⟩,
  ⟨("fits_row", none), "fits_row", "fits_row", defArgs st_fits_row, defBody st_fits_row, defScope st_fits_row, [], []⟩,
  ⟨("need_row", none), "need_row", "need_row", defArgs st_need_row, defBody st_need_row, defScope st_need_row, [], []⟩,
  ⟨("need_branches", none), "need_branches", "need_branches", defArgs st_need_branches, defBody st_need_branches, defScope st_need_branches, [], []⟩,
  ⟨("rounded_up", none), "rounded_up", "rounded_up", defArgs st_rounded_up, defBody st_rounded_up, defScope st_rounded_up, [], []⟩,
  ⟨("arrival_by", none), "arrival_by", "arrival_by", defArgs st_arrival_by, defBody st_arrival_by, defScope st_arrival_by, [], []⟩,
  ⟨("ways_of", none), "ways_of", "ways_of", defArgs st_ways_of, defBody st_ways_of, defScope st_ways_of, [], []⟩,
  ⟨("is_apart", none), "is_apart", "is_apart", defArgs st_is_apart, defBody st_is_apart, defScope st_is_apart, [], []⟩,
  ⟨("found_apart", none), "found_apart", "found_apart", defArgs st_found_apart, defBody st_found_apart, defScope st_found_apart, [], []⟩,
  ⟨("lowest", none), "lowest", "lowest", defArgs st_lowest, defBody st_lowest, defScope st_lowest, [], []⟩,
  ⟨("phases_by", none), "phases_by", "phases_by", defArgs st_phases_by, defBody st_phases_by, defScope st_phases_by, [], []⟩,
  ⟨("differences", none), "differences", "differences", defArgs st_differences, defBody st_differences, defScope st_differences, [], []⟩,
  ⟨("together", none), "together", "together", defArgs st_together, defBody st_together, defScope st_together, [], []⟩,
  ⟨("apart_phases", none), "apart_phases", "apart_phases", defArgs st_apart_phases, defBody st_apart_phases, defScope st_apart_phases, [], []⟩,
  ⟨("_law_spring", none), "_law_spring", "_law_spring", defArgs st__law_spring, defBody st__law_spring, defScope st__law_spring, [], []⟩,
  ⟨("_law_take", none), "_law_take", "_law_take", defArgs st__law_take, defBody st__law_take, defScope st__law_take, [], []⟩,
  ⟨("_law_bad_pack", none), "_law_bad_pack", "_law_bad_pack", defArgs st__law_bad_pack, defBody st__law_bad_pack, defScope st__law_bad_pack, [], []⟩,
  ⟨("_law_branches", none), "_law_branches", "_law_branches", defArgs st__law_branches, defBody st__law_branches, defScope st__law_branches, [], []⟩,
  ⟨("_law_ask", none), "_law_ask", "_law_ask", defArgs st__law_ask, defBody st__law_ask, defScope st__law_ask, [], []⟩,
  ⟨("_law_kind_of", none), "_law_kind_of", "_law_kind_of", defArgs st__law_kind_of, defBody st__law_kind_of, defScope st__law_kind_of, [], []⟩,
  ⟨("law", none), "law", "law", defArgs st_law, defBody st_law, defScope st_law, [], []⟩]
def ex (K : PySem.W.Frag) : Bool := true && (takesB K "CopyError" cs_CopyError) && (isTabB K isTab ["InvalidRow", "OtherEnds"]) && (isTabMB K isk) && (fldB K fc_kept_row "kept_row") && (fB K (He.ma K (He.ga K "Line") "__init__") "Line.__init__") && (He.tupB K "TIES" ((["new", "old"] : List Str).map He.Dv.str))
def fc : FcT := [((fun K => He.ma K (He.ga K "Line") "__init__"), some ("__init__", "Line.__init__", defArgs st_Line___init__, .stmts (defBody st_Line___init__), defScope st_Line___init__, mainGlobals, [], builtinsNs))]
abbrev Txt (K : PySem.W.Frag) (mg : Str → Option Value) (base : Heap) : Prop := TxtM fa fn ex fc K mg base
theorem Txt.ex0 {K : PySem.W.Frag} {mg : Str → Option Value} {base : Heap} (T : Txt K mg base) : takesB K "CopyError" cs_CopyError = true := by
  have h := T.e
  exact (Bool.and_eq_true_iff.mp (Bool.and_eq_true_iff.mp (Bool.and_eq_true_iff.mp (Bool.and_eq_true_iff.mp (Bool.and_eq_true_iff.mp (Bool.and_eq_true_iff.mp h).1).1).1).1).1).2
theorem Txt.ex1 {K : PySem.W.Frag} {mg : Str → Option Value} {base : Heap} (T : Txt K mg base) : isTabB K isTab ["InvalidRow", "OtherEnds"] = true := by
  have h := T.e
  exact (Bool.and_eq_true_iff.mp (Bool.and_eq_true_iff.mp (Bool.and_eq_true_iff.mp (Bool.and_eq_true_iff.mp (Bool.and_eq_true_iff.mp h).1).1).1).1).2
theorem Txt.ex2 {K : PySem.W.Frag} {mg : Str → Option Value} {base : Heap} (T : Txt K mg base) : isTabMB K isk = true := by
  have h := T.e
  exact (Bool.and_eq_true_iff.mp (Bool.and_eq_true_iff.mp (Bool.and_eq_true_iff.mp (Bool.and_eq_true_iff.mp h).1).1).1).2
theorem Txt.ex3 {K : PySem.W.Frag} {mg : Str → Option Value} {base : Heap} (T : Txt K mg base) : fldB K fc_kept_row "kept_row" = true := by
  have h := T.e
  exact (Bool.and_eq_true_iff.mp (Bool.and_eq_true_iff.mp (Bool.and_eq_true_iff.mp h).1).1).2
theorem Txt.ex4 {K : PySem.W.Frag} {mg : Str → Option Value} {base : Heap} (T : Txt K mg base) : fB K (He.ma K (He.ga K "Line") "__init__") "Line.__init__" = true := by
  have h := T.e
  exact (Bool.and_eq_true_iff.mp (Bool.and_eq_true_iff.mp h).1).2
theorem Txt.ex5 {K : PySem.W.Frag} {mg : Str → Option Value} {base : Heap} (T : Txt K mg base) : He.tupB K "TIES" ((["new", "old"] : List Str).map He.Dv.str) = true := by
  have h := T.e
  exact (Bool.and_eq_true_iff.mp h).2
theorem Txt.g_is_number {K : PySem.W.Frag} {mg : Str → Option Value} {base : Heap} (T : Txt K mg base) : mg "is_number" = some (.ref (He.ga K "is_number")) := T.glo 0 _ rfl
theorem Txt.g_is_whole {K : PySem.W.Frag} {mg : Str → Option Value} {base : Heap} (T : Txt K mg base) : mg "is_whole" = some (.ref (He.ga K "is_whole")) := T.glo 1 _ rfl
theorem Txt.g_greatest_common {K : PySem.W.Frag} {mg : Str → Option Value} {base : Heap} (T : Txt K mg base) : mg "greatest_common" = some (.ref (He.ga K "greatest_common")) := T.glo 2 _ rfl
theorem Txt.g_least_common {K : PySem.W.Frag} {mg : Str → Option Value} {base : Heap} (T : Txt K mg base) : mg "least_common" = some (.ref (He.ga K "least_common")) := T.glo 3 _ rfl
theorem Txt.g_fits_row {K : PySem.W.Frag} {mg : Str → Option Value} {base : Heap} (T : Txt K mg base) : mg "fits_row" = some (.ref (He.ga K "fits_row")) := T.glo 4 _ rfl
theorem Txt.g_need_row {K : PySem.W.Frag} {mg : Str → Option Value} {base : Heap} (T : Txt K mg base) : mg "need_row" = some (.ref (He.ga K "need_row")) := T.glo 5 _ rfl
theorem Txt.g_need_branches {K : PySem.W.Frag} {mg : Str → Option Value} {base : Heap} (T : Txt K mg base) : mg "need_branches" = some (.ref (He.ga K "need_branches")) := T.glo 6 _ rfl
theorem Txt.g_rounded_up {K : PySem.W.Frag} {mg : Str → Option Value} {base : Heap} (T : Txt K mg base) : mg "rounded_up" = some (.ref (He.ga K "rounded_up")) := T.glo 7 _ rfl
theorem Txt.g_arrival_by {K : PySem.W.Frag} {mg : Str → Option Value} {base : Heap} (T : Txt K mg base) : mg "arrival_by" = some (.ref (He.ga K "arrival_by")) := T.glo 8 _ rfl
theorem Txt.g_ways_of {K : PySem.W.Frag} {mg : Str → Option Value} {base : Heap} (T : Txt K mg base) : mg "ways_of" = some (.ref (He.ga K "ways_of")) := T.glo 9 _ rfl
theorem Txt.g_is_apart {K : PySem.W.Frag} {mg : Str → Option Value} {base : Heap} (T : Txt K mg base) : mg "is_apart" = some (.ref (He.ga K "is_apart")) := T.glo 10 _ rfl
theorem Txt.g_found_apart {K : PySem.W.Frag} {mg : Str → Option Value} {base : Heap} (T : Txt K mg base) : mg "found_apart" = some (.ref (He.ga K "found_apart")) := T.glo 11 _ rfl
theorem Txt.g_lowest {K : PySem.W.Frag} {mg : Str → Option Value} {base : Heap} (T : Txt K mg base) : mg "lowest" = some (.ref (He.ga K "lowest")) := T.glo 12 _ rfl
theorem Txt.g_phases_by {K : PySem.W.Frag} {mg : Str → Option Value} {base : Heap} (T : Txt K mg base) : mg "phases_by" = some (.ref (He.ga K "phases_by")) := T.glo 13 _ rfl
theorem Txt.g_differences {K : PySem.W.Frag} {mg : Str → Option Value} {base : Heap} (T : Txt K mg base) : mg "differences" = some (.ref (He.ga K "differences")) := T.glo 14 _ rfl
theorem Txt.g_together {K : PySem.W.Frag} {mg : Str → Option Value} {base : Heap} (T : Txt K mg base) : mg "together" = some (.ref (He.ga K "together")) := T.glo 15 _ rfl
theorem Txt.g_apart_phases {K : PySem.W.Frag} {mg : Str → Option Value} {base : Heap} (T : Txt K mg base) : mg "apart_phases" = some (.ref (He.ga K "apart_phases")) := T.glo 16 _ rfl
theorem Txt.g__law_spring {K : PySem.W.Frag} {mg : Str → Option Value} {base : Heap} (T : Txt K mg base) : mg "_law_spring" = some (.ref (He.ga K "_law_spring")) := T.glo 17 _ rfl
theorem Txt.g__law_take {K : PySem.W.Frag} {mg : Str → Option Value} {base : Heap} (T : Txt K mg base) : mg "_law_take" = some (.ref (He.ga K "_law_take")) := T.glo 18 _ rfl
theorem Txt.g__law_bad_pack {K : PySem.W.Frag} {mg : Str → Option Value} {base : Heap} (T : Txt K mg base) : mg "_law_bad_pack" = some (.ref (He.ga K "_law_bad_pack")) := T.glo 19 _ rfl
theorem Txt.g__law_branches {K : PySem.W.Frag} {mg : Str → Option Value} {base : Heap} (T : Txt K mg base) : mg "_law_branches" = some (.ref (He.ga K "_law_branches")) := T.glo 20 _ rfl
theorem Txt.g__law_ask {K : PySem.W.Frag} {mg : Str → Option Value} {base : Heap} (T : Txt K mg base) : mg "_law_ask" = some (.ref (He.ga K "_law_ask")) := T.glo 21 _ rfl
theorem Txt.g__law_kind_of {K : PySem.W.Frag} {mg : Str → Option Value} {base : Heap} (T : Txt K mg base) : mg "_law_kind_of" = some (.ref (He.ga K "_law_kind_of")) := T.glo 22 _ rfl
theorem Txt.g_law {K : PySem.W.Frag} {mg : Str → Option Value} {base : Heap} (T : Txt K mg base) : mg "law" = some (.ref (He.ga K "law")) := T.glo 23 _ rfl
theorem Txt.g_CopyError {K : PySem.W.Frag} {mg : Str → Option Value} {base : Heap} (T : Txt K mg base) : mg "CopyError" = some (.ref (He.ga K "CopyError")) := T.glo 24 _ rfl
theorem Txt.g_InvalidIndex {K : PySem.W.Frag} {mg : Str → Option Value} {base : Heap} (T : Txt K mg base) : mg "InvalidIndex" = some (.ref (He.ga K "InvalidIndex")) := T.glo 25 _ rfl
theorem Txt.g_InvalidNumber {K : PySem.W.Frag} {mg : Str → Option Value} {base : Heap} (T : Txt K mg base) : mg "InvalidNumber" = some (.ref (He.ga K "InvalidNumber")) := T.glo 26 _ rfl
theorem Txt.g_InvalidPhases {K : PySem.W.Frag} {mg : Str → Option Value} {base : Heap} (T : Txt K mg base) : mg "InvalidPhases" = some (.ref (He.ga K "InvalidPhases")) := T.glo 27 _ rfl
theorem Txt.g_Line {K : PySem.W.Frag} {mg : Str → Option Value} {base : Heap} (T : Txt K mg base) : mg "Line" = some (.ref (He.ga K "Line")) := T.glo 28 _ rfl
theorem Txt.tk_CopyError {K : PySem.W.Frag} {mg : Str → Option Value} {base : Heap} (T : Txt K mg base) : takesB K "CopyError" cs_CopyError = true := T.ex0
theorem Txt.isTab_ {K : PySem.W.Frag} {mg : Str → Option Value} {base : Heap} (T : Txt K mg base) : isTabB K isTab ["InvalidRow", "OtherEnds"] = true := T.ex1
theorem Txt.isTabM_ {K : PySem.W.Frag} {mg : Str → Option Value} {base : Heap} (T : Txt K mg base) : isTabMB K isk = true := T.ex2
theorem Txt.fd_kept_row {K : PySem.W.Frag} {mg : Str → Option Value} {base : Heap} (T : Txt K mg base) : fldB K fc_kept_row "kept_row" = true := T.ex3
theorem Txt.f_Line___init__ {K : PySem.W.Frag} {mg : Str → Option Value} {base : Heap} (T : Txt K mg base) : FunK K "__init__" "Line.__init__" st_Line___init__ (He.ma K (He.ga K "Line") "__init__") := funK_at (T.fc_ 0 rfl) T.ex4
theorem Txt.mk_Line {K : PySem.W.Frag} {mg : Str → Option Value} {base : Heap} (T : Txt K mg base) : Mk K (He.ga K "Line") (He.ma K (He.ga K "Line") "__init__") := He.mkr_ok (T.c.fact 29 rfl)
theorem Txt.cl_Line {K : PySem.W.Frag} {mg : Str → Option Value} {base : Heap} (T : Txt K mg base) : Cls K (He.ga K "Line") := He.cls_ok (T.c.fact 30 rfl)
theorem Txt.g_InvalidRow {K : PySem.W.Frag} {mg : Str → Option Value} {base : Heap} (T : Txt K mg base) : mg "InvalidRow" = some (.ref (He.ga K "InvalidRow")) := T.glo 31 _ rfl
theorem Txt.x_InvalidRow {K : PySem.W.Frag} {mg : Str → Option Value} {base : Heap} (T : Txt K mg base) : (He.Fa.exc "InvalidRow").ok K = true := T.c.fact 32 rfl
theorem Txt.g_OtherEnds {K : PySem.W.Frag} {mg : Str → Option Value} {base : Heap} (T : Txt K mg base) : mg "OtherEnds" = some (.ref (He.ga K "OtherEnds")) := T.glo 33 _ rfl
theorem Txt.x_OtherEnds {K : PySem.W.Frag} {mg : Str → Option Value} {base : Heap} (T : Txt K mg base) : (He.Fa.exc "OtherEnds").ok K = true := T.c.fact 34 rfl
theorem Txt.b_ValueError {K : PySem.W.Frag} {mg : Str → Option Value} {base : Heap} (T : Txt K mg base) : mg "ValueError" = none := T.free 35 _ rfl
theorem Txt.b_abs {K : PySem.W.Frag} {mg : Str → Option Value} {base : Heap} (T : Txt K mg base) : mg "abs" = none := T.free 36 _ rfl
theorem Txt.b_all {K : PySem.W.Frag} {mg : Str → Option Value} {base : Heap} (T : Txt K mg base) : mg "all" = none := T.free 37 _ rfl
theorem Txt.b_bool {K : PySem.W.Frag} {mg : Str → Option Value} {base : Heap} (T : Txt K mg base) : mg "bool" = none := T.free 38 _ rfl
theorem Txt.b_enumerate {K : PySem.W.Frag} {mg : Str → Option Value} {base : Heap} (T : Txt K mg base) : mg "enumerate" = none := T.free 39 _ rfl
theorem Txt.b_int {K : PySem.W.Frag} {mg : Str → Option Value} {base : Heap} (T : Txt K mg base) : mg "int" = none := T.free 40 _ rfl
theorem Txt.b_isinstance {K : PySem.W.Frag} {mg : Str → Option Value} {base : Heap} (T : Txt K mg base) : mg "isinstance" = none := T.free 41 _ rfl
theorem Txt.b_len {K : PySem.W.Frag} {mg : Str → Option Value} {base : Heap} (T : Txt K mg base) : mg "len" = none := T.free 42 _ rfl
theorem Txt.b_list {K : PySem.W.Frag} {mg : Str → Option Value} {base : Heap} (T : Txt K mg base) : mg "list" = none := T.free 43 _ rfl
theorem Txt.b_range {K : PySem.W.Frag} {mg : Str → Option Value} {base : Heap} (T : Txt K mg base) : mg "range" = none := T.free 44 _ rfl
theorem Txt.b_str {K : PySem.W.Frag} {mg : Str → Option Value} {base : Heap} (T : Txt K mg base) : mg "str" = none := T.free 45 _ rfl
theorem Txt.b_sum {K : PySem.W.Frag} {mg : Str → Option Value} {base : Heap} (T : Txt K mg base) : mg "sum" = none := T.free 46 _ rfl
theorem Txt.b_tuple {K : PySem.W.Frag} {mg : Str → Option Value} {base : Heap} (T : Txt K mg base) : mg "tuple" = none := T.free 47 _ rfl
theorem Txt.c_MOST_PERIOD {K : PySem.W.Frag} {mg : Str → Option Value} {base : Heap} (T : Txt K mg base) {X : Cx} {W : WX} {pos : Pos} (hm : X.mg = mg := by rfl) (hg : Gl X "MOST_PERIOD" := by rfl) : DE X W (.Name "MOST_PERIOD" pos) c_MOST_PERIOD := d_gint (by rw [hm]; exact T.int 48 _ _ rfl) hg
theorem Txt.c_TIES {K : PySem.W.Frag} {mg : Str → Option Value} {base : Heap} (T : Txt K mg base) {X : Cx} {W : WX} {pos : Pos} (hk : X.K = K := by rfl) (hm : X.mg = mg := by rfl) (hg : Gl X "TIES" := by rfl) : DE X W (.Name "TIES" pos) c_TIES := d_gtxts (by rw [hk]; exact T.ex5) (by rw [hm, hk]; exact T.glo 49 _ rfl) hg
theorem Txt.f_is_number {K : PySem.W.Frag} {mg : Str → Option Value} {base : Heap} (T : Txt K mg base) : FunK K "is_number" "is_number" st_is_number (He.ga K "is_number") := T.fn_ 0 _ _ _ rfl
theorem bi_is_number {K : PySem.W.Frag} {mg : Str → Option Value} {base : Heap} (T : Txt K mg base) : Binds K (fdAt K (He.ga K "is_number")) P_is_number [] := T.f_is_number.binds fun _ _ _ _ _ _ us hl => match us, hl with | [_], _ => rfl
theorem Txt.f_is_whole {K : PySem.W.Frag} {mg : Str → Option Value} {base : Heap} (T : Txt K mg base) : FunK K "is_whole" "is_whole" st_is_whole (He.ga K "is_whole") := T.fn_ 1 _ _ _ rfl
theorem bi_is_whole {K : PySem.W.Frag} {mg : Str → Option Value} {base : Heap} (T : Txt K mg base) : Binds K (fdAt K (He.ga K "is_whole")) P_is_whole [] := T.f_is_whole.binds fun _ _ _ _ _ _ us hl => match us, hl with | [_, _, _], _ => rfl
theorem Txt.f_greatest_common {K : PySem.W.Frag} {mg : Str → Option Value} {base : Heap} (T : Txt K mg base) : FunK K "greatest_common" "greatest_common" st_greatest_common (He.ga K "greatest_common") := T.fn_ 2 _ _ _ rfl
theorem bi_greatest_common {K : PySem.W.Frag} {mg : Str → Option Value} {base : Heap} (T : Txt K mg base) : Binds K (fdAt K (He.ga K "greatest_common")) P_greatest_common [] := T.f_greatest_common.binds fun _ _ _ _ _ _ us hl => match us, hl with | [_, _], _ => rfl
theorem Txt.f_least_common {K : PySem.W.Frag} {mg : Str → Option Value} {base : Heap} (T : Txt K mg base) : FunK K "least_common" "least_common" st_least_common (He.ga K "least_common") := T.fn_ 3 _ _ _ rfl
theorem bi_least_common {K : PySem.W.Frag} {mg : Str → Option Value} {base : Heap} (T : Txt K mg base) : Binds K (fdAt K (He.ga K "least_common")) P_least_common [] := T.f_least_common.binds fun _ _ _ _ _ _ us hl => match us, hl with | [_], _ => rfl
theorem Txt.f_fits_row {K : PySem.W.Frag} {mg : Str → Option Value} {base : Heap} (T : Txt K mg base) : FunK K "fits_row" "fits_row" st_fits_row (He.ga K "fits_row") := T.fn_ 4 _ _ _ rfl
theorem bi_fits_row {K : PySem.W.Frag} {mg : Str → Option Value} {base : Heap} (T : Txt K mg base) : Binds K (fdAt K (He.ga K "fits_row")) P_fits_row [] := T.f_fits_row.binds fun _ _ _ _ _ _ us hl => match us, hl with | [_], _ => rfl
theorem Txt.f_need_row {K : PySem.W.Frag} {mg : Str → Option Value} {base : Heap} (T : Txt K mg base) : FunK K "need_row" "need_row" st_need_row (He.ga K "need_row") := T.fn_ 5 _ _ _ rfl
theorem bi_need_row {K : PySem.W.Frag} {mg : Str → Option Value} {base : Heap} (T : Txt K mg base) : Binds K (fdAt K (He.ga K "need_row")) P_need_row [] := T.f_need_row.binds fun _ _ _ _ _ _ us hl => match us, hl with | [_], _ => rfl
theorem Txt.f_need_branches {K : PySem.W.Frag} {mg : Str → Option Value} {base : Heap} (T : Txt K mg base) : FunK K "need_branches" "need_branches" st_need_branches (He.ga K "need_branches") := T.fn_ 6 _ _ _ rfl
theorem bi_need_branches {K : PySem.W.Frag} {mg : Str → Option Value} {base : Heap} (T : Txt K mg base) : Binds K (fdAt K (He.ga K "need_branches")) P_need_branches [] := T.f_need_branches.binds fun _ _ _ _ _ _ us hl => match us, hl with | [_, _], _ => rfl
theorem Txt.f_rounded_up {K : PySem.W.Frag} {mg : Str → Option Value} {base : Heap} (T : Txt K mg base) : FunK K "rounded_up" "rounded_up" st_rounded_up (He.ga K "rounded_up") := T.fn_ 7 _ _ _ rfl
theorem bi_rounded_up {K : PySem.W.Frag} {mg : Str → Option Value} {base : Heap} (T : Txt K mg base) : Binds K (fdAt K (He.ga K "rounded_up")) P_rounded_up [] := T.f_rounded_up.binds fun _ _ _ _ _ _ us hl => match us, hl with | [_, _], _ => rfl
theorem Txt.f_arrival_by {K : PySem.W.Frag} {mg : Str → Option Value} {base : Heap} (T : Txt K mg base) : FunK K "arrival_by" "arrival_by" st_arrival_by (He.ga K "arrival_by") := T.fn_ 8 _ _ _ rfl
theorem bi_arrival_by {K : PySem.W.Frag} {mg : Str → Option Value} {base : Heap} (T : Txt K mg base) : Binds K (fdAt K (He.ga K "arrival_by")) P_arrival_by [] := T.f_arrival_by.binds fun _ _ _ _ _ _ us hl => match us, hl with | [_, _, _], _ => rfl
theorem Txt.f_ways_of {K : PySem.W.Frag} {mg : Str → Option Value} {base : Heap} (T : Txt K mg base) : FunK K "ways_of" "ways_of" st_ways_of (He.ga K "ways_of") := T.fn_ 9 _ _ _ rfl
theorem bi_ways_of {K : PySem.W.Frag} {mg : Str → Option Value} {base : Heap} (T : Txt K mg base) : Binds K (fdAt K (He.ga K "ways_of")) P_ways_of [] := T.f_ways_of.binds fun _ _ _ _ _ _ us hl => match us, hl with | [_, _], _ => rfl
theorem Txt.f_is_apart {K : PySem.W.Frag} {mg : Str → Option Value} {base : Heap} (T : Txt K mg base) : FunK K "is_apart" "is_apart" st_is_apart (He.ga K "is_apart") := T.fn_ 10 _ _ _ rfl
theorem bi_is_apart {K : PySem.W.Frag} {mg : Str → Option Value} {base : Heap} (T : Txt K mg base) : Binds K (fdAt K (He.ga K "is_apart")) P_is_apart [] := T.f_is_apart.binds fun _ _ _ _ _ _ us hl => match us, hl with | [_, _, _, _], _ => rfl
theorem Txt.f_found_apart {K : PySem.W.Frag} {mg : Str → Option Value} {base : Heap} (T : Txt K mg base) : FunK K "found_apart" "found_apart" st_found_apart (He.ga K "found_apart") := T.fn_ 11 _ _ _ rfl
theorem bi_found_apart {K : PySem.W.Frag} {mg : Str → Option Value} {base : Heap} (T : Txt K mg base) : Binds K (fdAt K (He.ga K "found_apart")) P_found_apart [] := T.f_found_apart.binds fun _ _ _ _ _ _ us hl => match us, hl with | [_, _], _ => rfl
theorem Txt.f_lowest {K : PySem.W.Frag} {mg : Str → Option Value} {base : Heap} (T : Txt K mg base) : FunK K "lowest" "lowest" st_lowest (He.ga K "lowest") := T.fn_ 12 _ _ _ rfl
theorem bi_lowest {K : PySem.W.Frag} {mg : Str → Option Value} {base : Heap} (T : Txt K mg base) : Binds K (fdAt K (He.ga K "lowest")) P_lowest [] := T.f_lowest.binds fun _ _ _ _ _ _ us hl => match us, hl with | [_, _], _ => rfl
theorem Txt.f_phases_by {K : PySem.W.Frag} {mg : Str → Option Value} {base : Heap} (T : Txt K mg base) : FunK K "phases_by" "phases_by" st_phases_by (He.ga K "phases_by") := T.fn_ 13 _ _ _ rfl
theorem bi_phases_by {K : PySem.W.Frag} {mg : Str → Option Value} {base : Heap} (T : Txt K mg base) : Binds K (fdAt K (He.ga K "phases_by")) P_phases_by [] := T.f_phases_by.binds fun _ _ _ _ _ _ us hl => match us, hl with | [_, _, _], _ => rfl
theorem Txt.f_differences {K : PySem.W.Frag} {mg : Str → Option Value} {base : Heap} (T : Txt K mg base) : FunK K "differences" "differences" st_differences (He.ga K "differences") := T.fn_ 14 _ _ _ rfl
theorem bi_differences {K : PySem.W.Frag} {mg : Str → Option Value} {base : Heap} (T : Txt K mg base) : Binds K (fdAt K (He.ga K "differences")) P_differences [] := T.f_differences.binds fun _ _ _ _ _ _ us hl => match us, hl with | [_, _], _ => rfl
theorem Txt.f_together {K : PySem.W.Frag} {mg : Str → Option Value} {base : Heap} (T : Txt K mg base) : FunK K "together" "together" st_together (He.ga K "together") := T.fn_ 15 _ _ _ rfl
theorem bi_together {K : PySem.W.Frag} {mg : Str → Option Value} {base : Heap} (T : Txt K mg base) : Binds K (fdAt K (He.ga K "together")) P_together [] := T.f_together.binds fun _ _ _ _ _ _ us hl => match us, hl with | [_, _], _ => rfl
theorem Txt.f_apart_phases {K : PySem.W.Frag} {mg : Str → Option Value} {base : Heap} (T : Txt K mg base) : FunK K "apart_phases" "apart_phases" st_apart_phases (He.ga K "apart_phases") := T.fn_ 16 _ _ _ rfl
theorem bi_apart_phases {K : PySem.W.Frag} {mg : Str → Option Value} {base : Heap} (T : Txt K mg base) : Binds K (fdAt K (He.ga K "apart_phases")) P_apart_phases [] := T.f_apart_phases.binds fun _ _ _ _ _ _ us hl => match us, hl with | [_, _], _ => rfl
theorem Txt.f__law_spring {K : PySem.W.Frag} {mg : Str → Option Value} {base : Heap} (T : Txt K mg base) : FunK K "_law_spring" "_law_spring" st__law_spring (He.ga K "_law_spring") := T.fn_ 17 _ _ _ rfl
theorem bi__law_spring {K : PySem.W.Frag} {mg : Str → Option Value} {base : Heap} (T : Txt K mg base) : Binds K (fdAt K (He.ga K "_law_spring")) P__law_spring [] := T.f__law_spring.binds fun _ _ _ _ _ _ us hl => match us, hl with | [_], _ => rfl
theorem Txt.f__law_take {K : PySem.W.Frag} {mg : Str → Option Value} {base : Heap} (T : Txt K mg base) : FunK K "_law_take" "_law_take" st__law_take (He.ga K "_law_take") := T.fn_ 18 _ _ _ rfl
theorem bi__law_take {K : PySem.W.Frag} {mg : Str → Option Value} {base : Heap} (T : Txt K mg base) : Binds K (fdAt K (He.ga K "_law_take")) P__law_take [] := T.f__law_take.binds fun _ _ _ _ _ _ us hl => match us, hl with | [_, _], _ => rfl
theorem Txt.f__law_bad_pack {K : PySem.W.Frag} {mg : Str → Option Value} {base : Heap} (T : Txt K mg base) : FunK K "_law_bad_pack" "_law_bad_pack" st__law_bad_pack (He.ga K "_law_bad_pack") := T.fn_ 19 _ _ _ rfl
theorem bi__law_bad_pack {K : PySem.W.Frag} {mg : Str → Option Value} {base : Heap} (T : Txt K mg base) : Binds K (fdAt K (He.ga K "_law_bad_pack")) P__law_bad_pack [] := T.f__law_bad_pack.binds fun _ _ _ _ _ _ us hl => match us, hl with | [_, _], _ => rfl
theorem Txt.f__law_branches {K : PySem.W.Frag} {mg : Str → Option Value} {base : Heap} (T : Txt K mg base) : FunK K "_law_branches" "_law_branches" st__law_branches (He.ga K "_law_branches") := T.fn_ 20 _ _ _ rfl
theorem bi__law_branches {K : PySem.W.Frag} {mg : Str → Option Value} {base : Heap} (T : Txt K mg base) : Binds K (fdAt K (He.ga K "_law_branches")) P__law_branches [] := T.f__law_branches.binds fun _ _ _ _ _ _ us hl => match us, hl with | [_, _, _], _ => rfl
theorem Txt.f__law_ask {K : PySem.W.Frag} {mg : Str → Option Value} {base : Heap} (T : Txt K mg base) : FunK K "_law_ask" "_law_ask" st__law_ask (He.ga K "_law_ask") := T.fn_ 21 _ _ _ rfl
theorem bi__law_ask {K : PySem.W.Frag} {mg : Str → Option Value} {base : Heap} (T : Txt K mg base) : Binds K (fdAt K (He.ga K "_law_ask")) P__law_ask [] := T.f__law_ask.binds fun _ _ _ _ _ _ us hl => match us, hl with | [_, _], _ => rfl
theorem Txt.f__law_kind_of {K : PySem.W.Frag} {mg : Str → Option Value} {base : Heap} (T : Txt K mg base) : FunK K "_law_kind_of" "_law_kind_of" st__law_kind_of (He.ga K "_law_kind_of") := T.fn_ 22 _ _ _ rfl
theorem bi__law_kind_of {K : PySem.W.Frag} {mg : Str → Option Value} {base : Heap} (T : Txt K mg base) : Binds K (fdAt K (He.ga K "_law_kind_of")) P__law_kind_of [] := T.f__law_kind_of.binds fun _ _ _ _ _ _ us hl => match us, hl with | [_, _], _ => rfl
theorem Txt.f_law {K : PySem.W.Frag} {mg : Str → Option Value} {base : Heap} (T : Txt K mg base) : FunK K "law" "law" st_law (He.ga K "law") := T.fn_ 23 _ _ _ rfl
theorem bi_law {K : PySem.W.Frag} {mg : Str → Option Value} {base : Heap} (T : Txt K mg base) : Binds K (fdAt K (He.ga K "law")) P_law [] := T.f_law.binds fun _ _ _ _ _ _ us hl => match us, hl with | [_], _ => rfl
theorem kb_differences_0_other_one {K : PySem.W.Frag} {mg : Str → Option Value} {base : Heap} (T : Txt K mg base) : KB K (He.ga K "differences") P_differences 0 ["other", "one"] [1, 0] := T.f_differences.kb fun _ _ _ _ _ _ us ws hl hk => match us, ws, hl, hk with | [], [_, _], _, _ => rfl
theorem kb_together_0_other_one {K : PySem.W.Frag} {mg : Str → Option Value} {base : Heap} (T : Txt K mg base) : KB K (He.ga K "together") P_together 0 ["other", "one"] [1, 0] := T.f_together.kb fun _ _ _ _ _ _ us ws hl hk => match us, ws, hl, hk with | [], [_, _], _, _ => rfl
theorem kb_apart_phases_0_other_one {K : PySem.W.Frag} {mg : Str → Option Value} {base : Heap} (T : Txt K mg base) : KB K (He.ga K "apart_phases") P_apart_phases 0 ["other", "one"] [1, 0] := T.f_apart_phases.kb fun _ _ _ _ _ _ us ws hl hk => match us, ws, hl, hk with | [], [_, _], _, _ => rfl
section
variable {w : World} {K : PySem.W.Frag} {mg : Str → Option Value} {base : Heap}
theorem ok_is_number (T : Txt K mg base) : FnG prg w K mg base 1 (He.ga K "is_number") P_is_number sp_is_number :=
  fn_ok (k := 0) (t := t_is_number) T.f_is_number sc_is_number lnF1 (fun cdv A outer s H E hr =>
      (s_one (s_ret (d_and (d_callB (call_isi.or call_isiE) (od_isiM T.isTabM_) (by rfl) T.b_isinstance DL.boot_isinstance (d_cons (d_var 0) (d_cons (d_ty (by rfl) T.b_int DL.boot_int) d_nil))) (d_one (d_not (d_callB (call_isi.or call_isiE) (od_isiM T.isTabM_) (by rfl) T.b_isinstance DL.boot_isinstance (d_cons (d_var 0) (d_cons (d_ty (by rfl) T.b_bool DL.boot_bool) d_nil))))))))) rd_is_number
theorem ok_is_whole (T : Txt K mg base) : FnG prg w K mg base 2 (He.ga K "is_whole") P_is_whole sp_is_whole :=
  fn_ok (k := 1) (t := t_is_whole) T.f_is_whole sc_is_whole lnF3 (fun cdv A outer s H E hr =>
      (s_one (s_ret (d_and (d_call (ok_is_number T) (hr.mono (by decide)) tk_b (by rfl) T.g_is_number (T.f_is_number).F.kp (bi_is_number T) (d_cons (d_var 0) d_nil)) (d_one (d_ch op_le op_le od_le od_le (d_var 1) (d_var 0) (d_var 2))))))) rd_is_whole
theorem ok_greatest_common (T : Txt K mg base) : FnG prg w K mg base 1 (He.ga K "greatest_common") P_greatest_common sp_greatest_common :=
  fn_ok (k := 0) (t := t_greatest_common) T.f_greatest_common sc_greatest_common lnF2 (fun cdv A outer s H E hr =>
      (s_cons (s_while hp_b (t_cmp op_gt od_gt (d_var 1) d_int) (s_one (s_par (i := 0) (j := 1) rfl sc_greatest_common.nd rfl rfl (by decide) rfl rfl (d_cons (d_var 1) (d_cons (d_bin op_mod od_mod (d_var 0) (d_var 1)) d_nil)))))
      (s_one (s_ret (d_var 0))))) rd_greatest_common
theorem ok_least_common (T : Txt K mg base) : FnG prg w K mg base 2 (He.ga K "least_common") P_least_common sp_least_common :=
  fn_ok (k := 1) (t := t_least_common) T.f_least_common sc_least_common lnF1 (fun cdv A outer s H E hr =>
      (s_cons (s_set (i := 1) sc_least_common.nd rfl (by first | exact Or.inl rfl | exact Or.inr rfl) d_int)
      (s_cons (s_for [2] hp_b rfl (i_tup (d_var 0)) (g_name (i := 2) sc_least_common.nd rfl (by first | exact Or.inl rfl | exact Or.inr rfl))
        (s_one (s_set (i := 1) sc_least_common.nd rfl (by first | exact Or.inl rfl | exact Or.inr rfl) (d_bin o_mul od_mul (d_bin op_fdivW od_div (d_var 1) (d_call (ok_greatest_common T) (hr.mono (by decide)) tk_b (by rfl) T.g_greatest_common (T.f_greatest_common).F.kp (bi_greatest_common T) (d_cons (d_var 1) (d_cons (d_var 2) d_nil)))) (d_var 2)))))
      (s_one (s_ret (d_var 1)))))) rd_least_common
theorem ok_fits_row (T : Txt K mg base) : FnG prg w K mg base 3 (He.ga K "fits_row") P_fits_row sp_fits_row :=
  fn_ok (k := 2) (t := t_fits_row) T.f_fits_row sc_fits_row lnF1 (fun cdv A outer s H E hr =>
      (s_cons (s_if (t_w (w_or (t_not (t_val (d_callB (call_isi.or call_isiE) (od_isiM T.isTabM_) (by rfl) T.b_isinstance DL.boot_isinstance (d_cons (d_var 0) (d_cons (d_ty (by rfl) T.b_tuple DL.boot_tuple) d_nil))))) (w_or (t_cmp (o_ne hr.u) od_ne (d_callB c_len od_len (by rfl) T.b_len DL.boot_len (d_cons (d_var 0) d_nil)) d_int) (w_or (t_not (t_val (d_callB (call_isi.or call_isiE) (od_isiM T.isTabM_) (by rfl) T.b_isinstance DL.boot_isinstance (d_cons (d_ix (d_var 0) d_int) (d_cons (d_ty (by rfl) T.b_str DL.boot_str) d_nil))))) (w_or1 (t_cmp o_notIn od_notIn (d_ix (d_var 0) d_int) (T.c_TIES)))))))
        (s_one (s_ret d_bl))
        s_nil)
      (s_cons (s_if (t_w (w_or (t_not (t_val (d_callB (call_isi.or call_isiE) (od_isiM T.isTabM_) (by rfl) T.b_isinstance DL.boot_isinstance (d_cons (d_ix (d_var 0) d_int) (d_cons (d_ty (by rfl) T.b_tuple DL.boot_tuple) d_nil))))) (w_or1 (t_not (t_ch op_le op_le od_le od_le d_int (d_callB c_len od_len (by rfl) T.b_len DL.boot_len (d_cons (d_ix (d_var 0) d_int) d_nil)) d_int)))))
        (s_one (s_ret d_bl))
        s_nil)
      (s_one (s_ret (d_callB (cr_all rfl) od_all (by rfl) T.b_all DL.boot_all (d_cons (d_lc [("period", 1)] rfl sc_fits_row.nd (i_tup (d_ix (d_var 0) d_int)) (blkOk_by (own := [("period", 1)]) (N := N_fits_row) (sc := defScope st_fits_row) (by decide +kernel)) (fun _ _ _ _ _ => (g_name (i := 1) sc_fits_row.nd rfl (by first | exact Or.inl rfl | exact Or.inr rfl))) (fun _ _ _ _ _ => ts_nil) (fun _ _ _ _ _ => (d_call (ok_is_whole T) (hr.mono (by decide)) takes0 (by rfl) T.g_is_whole (T.f_is_whole).F.kp (bi_is_whole T) (d_cons (d_var 1) (d_cons d_int (d_cons (T.c_MOST_PERIOD) d_nil)))))) d_nil))))))) rd_fits_row
theorem ok_need_row (T : Txt K mg base) : FnG prg w K mg base 4 (He.ga K "need_row") P_need_row sp_need_row :=
  fn_ok (k := 3) (t := t_need_row) T.f_need_row sc_need_row lnF1 (fun cdv A outer s H E hr =>
      (s_one (s_if (t_not (t_val (d_call (ok_fits_row T) (hr.mono (by decide)) tk_b (by rfl) T.g_fits_row (T.f_fits_row).F.kp (bi_fits_row T) (d_cons (d_var 0) d_nil))))
        (s_one (s_raise rfl tk_b T.x_InvalidRow T.g_InvalidRow (by rfl)))
        s_nil))) rd_need_row
theorem ok_need_branches (T : Txt K mg base) : FnG prg w K mg base 5 (He.ga K "need_branches") P_need_branches sp_need_branches :=
  fn_ok (k := 4) (t := t_need_branches) T.f_need_branches sc_need_branches lnF2 (fun cdv A outer s H E hr =>
      (s_cons (s_expr (d_call (ok_need_row T) (hr.mono (by decide)) tk_b (by rfl) T.g_need_row (T.f_need_row).F.kp (bi_need_row T) (d_cons (d_var 0) d_nil)))
      (s_cons (s_expr (d_call (ok_need_row T) (hr.mono (by decide)) tk_b (by rfl) T.g_need_row (T.f_need_row).F.kp (bi_need_row T) (d_cons (d_var 1) d_nil)))
      (s_one (s_if (t_w (w_or (t_cmp (o_ne hr.u) od_ne (d_ix (d_var 0) d_int) (d_ix (d_var 1) d_int)) (w_or (t_cmp (o_ne hr.u) od_ne (d_ix (d_ix (d_var 0) d_int) d_int) (d_ix (d_ix (d_var 1) d_int) d_int)) (w_or1 (t_cmp (o_ne hr.u) od_ne (d_ix (d_ix (d_var 0) d_int) (d_un un_neg od_neg d_int)) (d_ix (d_ix (d_var 1) d_int) (d_un un_neg od_neg d_int)))))))
        (s_one (s_raise rfl tk_b T.x_OtherEnds T.g_OtherEnds (by rfl)))
        s_nil))))) rd_need_branches
theorem ok_rounded_up (T : Txt K mg base) : FnG prg w K mg base 1 (He.ga K "rounded_up") P_rounded_up sp_rounded_up :=
  fn_ok (k := 0) (t := t_rounded_up) T.f_rounded_up sc_rounded_up lnF2 (fun cdv A outer s H E hr =>
      (s_one (s_ret (d_un un_neg od_neg (d_bin op_fdivW od_div (d_un un_neg od_neg (d_var 0)) (d_var 1)))))) rd_rounded_up
theorem ok_arrival_by (T : Txt K mg base) : FnG prg w K mg base 1 (He.ga K "arrival_by") P_arrival_by sp_arrival_by :=
  fn_ok (k := 0) (t := t_arrival_by) T.f_arrival_by sc_arrival_by lnF3 (fun cdv A outer s H E hr =>
      (s_cons (s_for [3] hp_b rfl (i_rng3 (by rfl) T.b_range (d_cons (d_bin op_sub od_sub (d_callB c_len od_len (by rfl) T.b_len DL.boot_len (d_cons (d_var 0) d_nil)) d_int) (d_cons d_int (d_cons (d_un un_neg od_neg d_int) d_nil)))) (g_name (i := 3) sc_arrival_by.nd rfl (by first | exact Or.inl rfl | exact Or.inr rfl))
        (s_one (s_set (i := 2) sc_arrival_by.nd rfl (by first | exact Or.inl rfl | exact Or.inr rfl) (d_bin op_fdivW od_div (d_bin o_add od_add (d_ix (d_var 1) (d_bin op_sub od_sub (d_var 3) d_int)) (d_bin o_mul od_mul (d_var 2) (d_ix (d_var 0) (d_var 3)))) (d_ix (d_var 0) (d_bin op_sub od_sub (d_var 3) d_int))))))
      (s_one (s_ret (d_var 2))))) rd_arrival_by
theorem ok_ways_of (T : Txt K mg base) : FnG prg w K mg base 1 (He.ga K "ways_of") P_ways_of sp_ways_of :=
  fn_ok (k := 0) (t := t_ways_of) T.f_ways_of sc_ways_of lnF2 (fun cdv A outer s H E hr =>
      (s_cons (s_set (i := 2) sc_ways_of.nd rfl (by first | exact Or.inl rfl | exact Or.inr rfl) (d_sl (d_var 0) (p_some d_int) (p_some (d_un un_neg od_neg d_int))))
      (s_cons (s_set (i := 3) sc_ways_of.nd rfl (by first | exact Or.inl rfl | exact Or.inr rfl) (d_lst (d_cons (d_lst d_nil) d_nil)))
      (s_cons (s_for [4] hp_b rfl (i_tup (d_var 2)) (g_name (i := 4) sc_ways_of.nd rfl (by first | exact Or.inl rfl | exact Or.inr rfl))
        (s_one (s_setLc2 (i := 3) [("way", 5), ("apart", 6)] [6] rfl sc_ways_of.nd rfl rfl (sw_true rfl rfl rfl (by decide +kernel)) (i_lst (d_var 3)) (blkOk_by (own := [("way", 5), ("apart", 6)]) (N := N_ways_of) (sc := defScope st_ways_of) (by decide +kernel)) (by decide) (fun _ _ _ _ _ => (g_name (i := 5) sc_ways_of.nd rfl (by first | exact Or.inl rfl | exact Or.inr rfl))) (fun _ _ _ _ _ => ts_nil) (fun _ _ _ _ _ => (i_rng1 (by rfl) T.b_range (d_cons (d_var 4) d_nil))) (fun _ _ _ _ _ => (g_name (i := 6) sc_ways_of.nd rfl (by first | exact Or.inl rfl | exact Or.inr rfl))) (fun _ _ _ _ _ => ts_nil) (fun _ _ _ _ _ => (d_lst (d_star (d_var 5) (d_cons (d_var 6) d_nil)))))))
      (s_one (s_ret (d_lc2 [("way", 5), ("less", 7)] [7] rfl sc_ways_of.nd (i_lst (d_var 3)) (blkOk_by (own := [("way", 5), ("less", 7)]) (N := N_ways_of) (sc := defScope st_ways_of) (by decide +kernel)) (by decide) (fun _ _ _ _ _ => (g_name (i := 5) sc_ways_of.nd rfl (by first | exact Or.inl rfl | exact Or.inr rfl))) (fun _ _ _ _ _ => ts_nil) (fun _ _ _ _ _ => (i_rng1 (by rfl) T.b_range (d_cons (d_bin o_add od_add (d_callB c_len od_len (by rfl) T.b_len DL.boot_len (d_cons (d_var 2) d_nil)) d_int) d_nil))) (fun _ _ _ _ _ => (g_name (i := 7) sc_ways_of.nd rfl (by first | exact Or.inl rfl | exact Or.inr rfl))) (fun _ _ _ _ _ => ts_nil) (fun _ _ _ _ _ => (d_lst (d_star (d_var 5) (d_cons (d_bin op_sub od_sub (d_bin op_sub od_sub (d_var 1) (d_var 7)) (d_callB (cr_sumA rfl) od_sumA (by rfl) T.b_sum DL.boot_sum (d_cons (d_var 5) d_nil))) d_nil))))))))))) rd_ways_of
theorem ok_is_apart (T : Txt K mg base) : FnG prg w K mg base 3 (He.ga K "is_apart") P_is_apart sp_is_apart :=
  fn_ok (k := 2) (t := t_is_apart) T.f_is_apart sc_is_apart lnF4 (fun cdv A outer s H E hr =>
      (s_cons (s_set (i := 4) sc_is_apart.nd rfl (by first | exact Or.inl rfl | exact Or.inr rfl) (d_bin op_fdivW od_div (d_call (ok_least_common T) (hr.mono (by decide)) tk_b (by rfl) T.g_least_common (T.f_least_common).F.kp (bi_least_common T) (d_cons (d_bin o_add od_add (d_var 0) (d_var 1)) d_nil)) (d_ix (d_var 0) (d_un un_neg od_neg d_int))))
      (s_one (s_ret (d_callB (cr_all rfl) od_all (by rfl) T.b_all DL.boot_all (d_cons (d_lc [("at", 5)] rfl sc_is_apart.nd (i_rng1 (by rfl) T.b_range (d_cons (d_var 4) d_nil)) (blkOk_by (own := [("at", 5)]) (N := N_is_apart) (sc := defScope st_is_apart) (by decide +kernel)) (fun _ _ _ _ _ => (g_name (i := 5) sc_is_apart.nd rfl (by first | exact Or.inl rfl | exact Or.inr rfl))) (fun _ _ _ _ _ => ts_nil) (fun _ _ _ _ _ => (d_cmp (o_ne hr.u) od_ne (d_call (ok_arrival_by T) (hr.mono (by decide)) takes0 (by rfl) T.g_arrival_by (T.f_arrival_by).F.kp (bi_arrival_by T) (d_cons (d_var 0) (d_cons (d_var 2) (d_cons (d_var 5) d_nil)))) (d_call (ok_arrival_by T) (hr.mono (by decide)) takes0 (by rfl) T.g_arrival_by (T.f_arrival_by).F.kp (bi_arrival_by T) (d_cons (d_var 1) (d_cons (d_var 3) (d_cons (d_var 5) d_nil))))))) d_nil)))))) rd_is_apart
theorem ok_found_apart (T : Txt K mg base) : FnG prg w K mg base 4 (He.ga K "found_apart") P_found_apart sp_found_apart :=
  fn_ok (k := 3) (t := t_found_apart) T.f_found_apart sc_found_apart lnF2 (fun cdv A outer s H E hr =>
      (s_cons (s_for [2] hp_b rfl (i_rng1 (by rfl) T.b_range (d_cons (d_call (ok_greatest_common T) (hr.mono (by decide)) tk_b (by rfl) T.g_greatest_common (T.f_greatest_common).F.kp (bi_greatest_common T) (d_cons (d_ix (d_var 0) d_int) (d_cons (d_ix (d_var 0) (d_un un_neg od_neg d_int)) d_nil))) d_nil)) (g_name (i := 2) sc_found_apart.nd rfl (by first | exact Or.inl rfl | exact Or.inr rfl))
        (s_one (s_for [3] hp_b rfl (i_lst (d_call (ok_ways_of T) (hr.mono (by decide)) tk_b (by rfl) T.g_ways_of (T.f_ways_of).F.kp (bi_ways_of T) (d_cons (d_var 0) (d_cons (d_var 2) d_nil)))) (g_name (i := 3) sc_found_apart.nd rfl (by first | exact Or.inl rfl | exact Or.inr rfl))
        (s_one (s_for [4] hp_b rfl (i_lst (d_call (ok_ways_of T) (hr.mono (by decide)) tk_b (by rfl) T.g_ways_of (T.f_ways_of).F.kp (bi_ways_of T) (d_cons (d_var 1) (d_cons (d_var 2) d_nil)))) (g_name (i := 4) sc_found_apart.nd rfl (by first | exact Or.inl rfl | exact Or.inr rfl))
        (s_one (s_if (t_val (d_call (ok_is_apart T) (hr.mono (by decide)) tk_b (by rfl) T.g_is_apart (T.f_is_apart).F.kp (bi_is_apart T) (d_cons (d_var 0) (d_cons (d_var 1) (d_cons (d_var 3) (d_cons (d_var 4) d_nil))))))
        (s_one (s_ret (d_tup (d_cons (d_var 2) (d_cons (d_var 3) (d_cons (d_var 4) d_nil))))))
        s_nil)))))))
      (s_one (s_ret d_non)))) rd_found_apart
theorem ok_lowest (T : Txt K mg base) : FnG prg w K mg base 2 (He.ga K "lowest") P_lowest sp_lowest :=
  fn_ok (k := 1) (t := t_lowest) T.f_lowest sc_lowest lnF2 (fun cdv A outer s H E hr =>
      (s_cons (s_set (i := 2) sc_lowest.nd rfl (by first | exact Or.inl rfl | exact Or.inr rfl) (d_call (ok_greatest_common T) (hr.mono (by decide)) tk_b (by rfl) T.g_greatest_common (T.f_greatest_common).F.kp (bi_greatest_common T) (d_cons (d_callB call_abs od_abs (by rfl) T.b_abs DL.boot_abs (d_cons (d_var 0) d_nil)) (d_cons (d_var 1) d_nil))))
      (s_one (s_ret (d_tup (d_cons (d_bin op_fdivW od_div (d_var 0) (d_var 2)) (d_cons (d_bin op_fdivW od_div (d_var 1) (d_var 2)) d_nil))))))) rd_lowest
theorem ok_phases_by (T : Txt K mg base) : FnG prg w K mg base 3 (He.ga K "phases_by") P_phases_by sp_phases_by :=
  fn_ok (k := 2) (t := t_phases_by) T.f_phases_by sc_phases_by lnF3 (fun cdv A outer s H E hr =>
      (s_cons (s_set (i := 3) sc_phases_by.nd rfl (by first | exact Or.inl rfl | exact Or.inr rfl) (d_if (t_cmp (o_eq hr.u) od_eq (d_var 0) d_str) (d_var 1) (d_bin o_add od_add (d_var 1) d_int)))
      (s_cons (s_par (i := 4) (j := 5) rfl sc_phases_by.nd rfl rfl (by decide) rfl rfl (d_cons (d_bin op_sub od_sub (d_var 3) (d_callB (cr_sumA rfl) od_sumA (by rfl) T.b_sum DL.boot_sum (d_cons (d_var 2) d_nil))) (d_cons (d_callB c_len od_len (by rfl) T.b_len DL.boot_len (d_cons (d_var 2) d_nil)) d_nil)))
      (s_cons (s_par (i := 6) (j := 7) rfl sc_phases_by.nd rfl rfl (by decide) rfl rfl (d_cons (d_lstM (d_cons (d_tup (d_cons d_int (d_cons d_int d_nil))) d_nil)) (d_cons d_int d_nil)))
      (s_cons (s_for [8, 9] hp_b rfl (i_enum (by rfl) T.b_enumerate (d_cons (d_var 2) d_nil)) (g_tup rfl (gs_cons (g_name (i := 8) sc_phases_by.nd rfl (by first | exact Or.inl rfl | exact Or.inr rfl)) (gs_cons (g_name (i := 9) sc_phases_by.nd rfl (by first | exact Or.inl rfl | exact Or.inr rfl)) gs_nil)))
        (s_cons (s_set (i := 7) sc_phases_by.nd rfl (by first | exact Or.inl rfl | exact Or.inr rfl) (d_bin o_add od_add (d_var 7) (d_var 9)))
      (s_one (s_expr (d_app (d_var 6) (d_cons (d_call (ok_lowest T) (hr.mono (by decide)) tk_b (by rfl) T.g_lowest (T.f_lowest).F.kp (bi_lowest T) (d_cons (d_bin o_add od_add (d_bin o_mul od_mul (d_var 7) (d_var 5)) (d_bin o_mul od_mul (d_var 4) (d_bin o_add od_add (d_var 8) d_int))) (d_cons (d_var 5) d_nil))) d_nil))))))
      (s_one (s_ret (d_var 6)))))))) rd_phases_by
theorem ok_differences (T : Txt K mg base) : FnG prg w K mg base 6 (He.ga K "differences") P_differences sp_differences :=
  fn_ok (k := 5) (t := t_differences) T.f_differences sc_differences lnF2 (fun cdv A outer s H E hr =>
      (s_cons (s_expr (d_call (ok_need_branches T) (hr.mono (by decide)) tk_b (by rfl) T.g_need_branches (T.f_need_branches).F.kp (bi_need_branches T) (d_cons (d_var 0) (d_cons (d_var 1) d_nil))))
      (s_cons (s_set (i := 2) sc_differences.nd rfl (by first | exact Or.inl rfl | exact Or.inr rfl) (d_ix (d_ix (d_var 0) d_int) d_int))
      (s_cons (s_par (i := 3) (j := 4) rfl sc_differences.nd rfl rfl (by decide) rfl rfl (d_cons (d_call (ok_rounded_up T) (hr.mono (by decide)) tk_b (by rfl) T.g_rounded_up (T.f_rounded_up).F.kp (bi_rounded_up T) (d_cons (d_callB (cr_sumA rfl) od_sumA (by rfl) T.b_sum DL.boot_sum (d_cons (d_sl (d_ix (d_var 0) d_int) (p_some d_int) (p_some (d_un un_neg od_neg d_int))) d_nil)) (d_cons (d_var 2) d_nil))) (d_cons (d_call (ok_rounded_up T) (hr.mono (by decide)) tk_b (by rfl) T.g_rounded_up (T.f_rounded_up).F.kp (bi_rounded_up T) (d_cons (d_callB (cr_sumA rfl) od_sumA (by rfl) T.b_sum DL.boot_sum (d_cons (d_sl (d_ix (d_var 1) d_int) (p_some d_int) (p_some (d_un un_neg od_neg d_int))) d_nil)) (d_cons (d_var 2) d_nil))) d_nil)))
      (s_one (s_ret (d_lrng rfl (by rfl) T.b_range (by rfl) T.b_list DL.boot_list (d_cons (d_un un_neg od_neg (d_var 3)) (d_cons (d_bin o_add od_add (d_var 4) d_int) d_nil))))))))) rd_differences
theorem ok_together (T : Txt K mg base) : FnG prg w K mg base 6 (He.ga K "together") P_together sp_together :=
  fn_ok (k := 5) (t := t_together) T.f_together sc_together lnF2 (fun cdv A outer s H E hr =>
      (s_cons (s_expr (d_call (ok_need_branches T) (hr.mono (by decide)) tk_b (by rfl) T.g_need_branches (T.f_need_branches).F.kp (bi_need_branches T) (d_cons (d_var 0) (d_cons (d_var 1) d_nil))))
      (s_cons (s_if (t_w (w_and (t_cmp (o_eq hr.u) od_eq (d_callB c_len od_len (by rfl) T.b_len DL.boot_len (d_cons (d_ix (d_var 0) d_int) d_nil)) d_int) (w_and1 (t_cmp (o_eq hr.u) od_eq (d_callB c_len od_len (by rfl) T.b_len DL.boot_len (d_cons (d_ix (d_var 1) d_int) d_nil)) d_int))))
        (s_one (s_ret d_str))
        s_nil)
      (s_one (s_ret (d_if (t_cmp op_isN od_is (d_call (ok_found_apart T) (hr.mono (by decide)) tk_b (by rfl) T.g_found_apart (T.f_found_apart).F.kp (bi_found_apart T) (d_cons (d_ix (d_var 0) d_int) (d_cons (d_ix (d_var 1) d_int) d_nil))) d_non) d_str d_str)))))) rd_together
theorem ok_apart_phases (T : Txt K mg base) : FnG prg w K mg base 6 (He.ga K "apart_phases") P_apart_phases sp_apart_phases :=
  fn_ok (k := 5) (t := t_apart_phases) T.f_apart_phases sc_apart_phases lnF2 (fun cdv A outer s H E hr =>
      (s_cons (s_expr (d_call (ok_need_branches T) (hr.mono (by decide)) tk_b (by rfl) T.g_need_branches (T.f_need_branches).F.kp (bi_need_branches T) (d_cons (d_var 0) (d_cons (d_var 1) d_nil))))
      (s_cons (s_set (i := 2) sc_apart_phases.nd rfl (by first | exact Or.inl rfl | exact Or.inr rfl) (d_call (ok_found_apart T) (hr.mono (by decide)) tk_b (by rfl) T.g_found_apart (T.f_found_apart).F.kp (bi_found_apart T) (d_cons (d_ix (d_var 0) d_int) (d_cons (d_ix (d_var 1) d_int) d_nil))))
      (s_cons (s_if (t_cmp op_isN od_is (d_var 2) d_non)
        (s_one (s_ret d_non))
        s_nil)
      (s_cons (s_asg [3, 4, 5] (d_var 2) (g_tup rfl (gs_cons (g_name (i := 3) sc_apart_phases.nd rfl (by first | exact Or.inl rfl | exact Or.inr rfl)) (gs_cons (g_name (i := 4) sc_apart_phases.nd rfl (by first | exact Or.inl rfl | exact Or.inr rfl)) (gs_cons (g_name (i := 5) sc_apart_phases.nd rfl (by first | exact Or.inl rfl | exact Or.inr rfl)) gs_nil)))))
      (s_one (s_ret (d_tup (d_cons (d_call (ok_phases_by T) (hr.mono (by decide)) tk_b (by rfl) T.g_phases_by (T.f_phases_by).F.kp (bi_phases_by T) (d_cons (d_ix (d_var 0) d_int) (d_cons (d_var 3) (d_cons (d_var 4) d_nil)))) (d_cons (d_call (ok_phases_by T) (hr.mono (by decide)) tk_b (by rfl) T.g_phases_by (T.f_phases_by).F.kp (bi_phases_by T) (d_cons (d_ix (d_var 0) d_int) (d_cons (d_var 3) (d_cons (d_var 5) d_nil)))) d_nil)))))))))) rd_apart_phases
theorem ok_Line___init__ (T : Txt K mg base) : FnQ prg w K mg base 5 (He.ma K (He.ga K "Line") "__init__") [] (starSp 2 sp_Line___init__) :=
  fn_starG (ps := ["self", "tie"]) (pv := "periods") (k := 4) (t := t_Line___init__) T.f_Line___init__ sc_Line___init__ (fun _ _ _ _ _ _ us rest hl => match us, rest, hl with
    | [_, _], [], _ => rfl
    | [_, _], _ :: _, _ => rfl) (fun cdv A outer s H E hr =>
      (s_cons (s_expr (d_call (ok_need_row T) (hr.mono (by decide)) tk_b (by rfl) T.g_need_row (T.f_need_row).F.kp (bi_need_row T) (d_cons (d_tup (d_cons (d_var 1) (d_cons (d_var 2) d_nil))) d_nil)))
      (s_one (s_fld T.fd_kept_row (d_var 0) (d_tup (d_cons (d_var 1) (d_cons (d_callTy call_tuple_of od_tuple (by rfl) T.b_tuple DL.boot_tuple (d_cons (d_var 2) d_nil)) d_nil))))))) rd_Line___init__
theorem mkT_Line (T : Txt K mg base) : MkT prg w K mg base 5 "Line" [] mk_Line := ⟨_, T.mk_Line, ok_Line___init__ T⟩
theorem ok__law_spring (T : Txt K mg base) : FnG prg w K mg base 1 (He.ga K "_law_spring") P__law_spring sp__law_spring :=
  fn_ok (k := 0) (t := t__law_spring) T.f__law_spring sc__law_spring lnF1 (fun cdv A outer s H E hr =>
      (s_cons (s_set (i := 1) sc__law_spring.nd rfl (by first | exact Or.inl rfl | exact Or.inr rfl) (d_if (t_cmp op_ge od_ge (d_var 0) (d_bin op_pow od_pow d_int d_int)) (d_bin op_sub od_sub (d_var 0) (d_bin op_pow od_pow d_int d_int)) d_int))
      (s_one (s_ret (d_lstM (d_cons (d_var 1) (d_cons (d_bin op_mod od_mod (d_callTy c_int od_int (by rfl) T.b_int DL.boot_int (d_cons (d_bin o_add od_add (d_bin o_mul od_mul (d_var 0) d_int) d_int) d_nil)) d_int) (d_cons d_int d_nil)))))))) rd__law_spring
theorem ok__law_take (T : Txt K mg base) : FnG prg w K mg base 1 (He.ga K "_law_take") P__law_take sp__law_take :=
  fn_ok (k := 0) (t := t__law_take) T.f__law_take sc__law_take lnF2 (fun cdv A outer s H E hr =>
      (s_cons (s_if (t_cmp op_gt od_gt (d_ix (d_var 0) d_int) d_int)
        (s_cons (s_set (i := 2) sc__law_take.nd rfl (by first | exact Or.inl rfl | exact Or.inr rfl) (d_bin op_mod od_mod (d_callTy c_int od_int (by rfl) T.b_int DL.boot_int (d_cons (d_ix (d_var 0) d_int) d_nil)) (d_var 1)))
      (s_cons (s_seti tk_b (d_bin op_fdivW od_div (d_ix (d_var 0) d_int) (d_var 1)) (d_var 0) d_int)
      (s_one (s_ret (d_var 2)))))
        s_nil)
      (s_cons (s_seti tk_b (d_bin o_add od_add (d_ix (d_var 0) d_int) d_int) (d_var 0) d_int)
      (s_cons (s_set (i := 3) sc__law_take.nd rfl (by first | exact Or.inl rfl | exact Or.inr rfl) (d_bin op_mod od_mod (d_callTy c_int od_int (by rfl) T.b_int DL.boot_int (d_cons (d_bin o_add od_add (d_ix (d_var 0) d_int) (d_bin o_mul od_mul d_int (d_ix (d_var 0) d_int))) d_nil)) d_int))
      (s_cons (s_set (i := 3) sc__law_take.nd rfl (by first | exact Or.inl rfl | exact Or.inr rfl) (d_bin o_add od_add (d_bin o_add od_add (d_bin o_mul od_mul (d_var 3) (d_var 3)) (d_bin o_mul od_mul d_int (d_var 3))) (d_ix (d_var 0) d_int)))
      (s_cons (s_set (i := 3) sc__law_take.nd rfl (by first | exact Or.inl rfl | exact Or.inr rfl) (d_bin op_mod od_mod (d_callTy c_int od_int (by rfl) T.b_int DL.boot_int (d_cons (d_var 3) d_nil)) d_int))
      (s_cons (s_set (i := 3) sc__law_take.nd rfl (by first | exact Or.inl rfl | exact Or.inr rfl) (d_bin op_mod od_mod (d_callTy c_int od_int (by rfl) T.b_int DL.boot_int (d_cons (d_bin o_add od_add (d_bin op_pow od_pow (d_bin op_fdivW od_div (d_var 3) d_int) d_int) (d_var 3)) d_nil)) d_int))
      (s_one (s_ret (d_bin op_mod od_mod (d_callTy c_int od_int (by rfl) T.b_int DL.boot_int (d_cons (d_bin op_fdivW od_div (d_var 3) d_int) d_nil)) (d_var 1))))))))))) rd__law_take
theorem ok__law_bad_pack (T : Txt K mg base) : FnG prg w K mg base 7 (He.ga K "_law_bad_pack") P__law_bad_pack sp__law_bad_pack :=
  fn_ok (k := 6) (t := t__law_bad_pack) T.f__law_bad_pack sc__law_bad_pack lnF2 (fun cdv A outer s H E hr =>
      (s_cons (s_asg [2, 3] (d_var 1) (g_tup rfl (gs_cons (g_name (i := 2) sc__law_bad_pack.nd rfl (by first | exact Or.inl rfl | exact Or.inr rfl)) (gs_cons (g_name (i := 3) sc__law_bad_pack.nd rfl (by first | exact Or.inl rfl | exact Or.inr rfl)) gs_nil))))
      (s_cons (s_set (i := 4) sc__law_bad_pack.nd rfl (by first | exact Or.inl rfl | exact Or.inr rfl) (d_call (ok__law_take T) (hr.mono (by decide)) tk_b (by rfl) T.g__law_take (T.f__law_take).F.kp (bi__law_take T) (d_cons (d_var 0) (d_cons (d_callB c_len od_len (by rfl) T.b_len DL.boot_len (d_cons (d_var 3) d_nil)) d_nil))))
      (s_cons (s_set (i := 5) sc__law_bad_pack.nd rfl (by first | exact Or.inl rfl | exact Or.inr rfl) (d_lst (d_cons d_int (d_cons d_int (d_cons (d_un un_neg od_neg d_int) (d_cons d_bl (d_cons d_non (d_cons d_str (d_cons (d_tup (d_cons d_int d_nil)) (d_cons (d_bin op_pow od_pow d_int d_int) (d_cons (d_exc rfl T.x_OtherEnds T.g_OtherEnds (by rfl)) (d_cons d_bl d_nil))))))))))))
      (s_cons (s_set (i := 6) sc__law_bad_pack.nd rfl (by first | exact Or.inl rfl | exact Or.inr rfl) (d_lst (d_cons (d_callTy call_list_of od_list (by rfl) T.b_list DL.boot_list (d_cons (d_var 1) d_nil)) (d_cons (d_tup (d_cons (d_var 2) d_nil)) (d_cons (d_tup (d_cons (d_var 2) (d_cons (d_var 3) (d_cons d_int d_nil)))) (d_cons (d_tup (d_cons (d_var 3) (d_cons (d_var 2) d_nil))) (d_cons (d_tup (d_cons d_str (d_cons (d_var 3) d_nil))) (d_cons (d_tup (d_cons d_str (d_cons (d_var 3) d_nil))) (d_cons (d_tup (d_cons d_non (d_cons (d_var 3) d_nil))) d_nil)))))))))
      (s_cons (s_set (i := 6) sc__law_bad_pack.nd rfl (by first | exact Or.inl rfl | exact Or.inr rfl) (d_bin o_add od_add (d_var 6) (d_lst (d_cons (d_tup (d_cons d_int (d_cons (d_var 3) d_nil))) (d_cons (d_tup (d_cons (d_var 2) (d_cons (d_callTy call_list_of od_list (by rfl) T.b_list DL.boot_list (d_cons (d_var 3) d_nil)) d_nil))) (d_cons (d_tup (d_cons (d_var 2) (d_cons (d_sl (d_var 3) p_none (p_some d_int)) d_nil))) (d_cons (d_tup (d_cons (d_var 2) (d_cons (d_tup d_nil) d_nil))) (d_cons (d_tup (d_cons (d_var 2) (d_cons (d_bin op_repT od_mulT (d_tup (d_cons d_int d_nil)) d_int) d_nil))) (d_cons d_non d_nil)))))))))
      (s_cons (s_set (i := 6) sc__law_bad_pack.nd rfl (by first | exact Or.inl rfl | exact Or.inr rfl) (d_bin o_add od_add (d_var 6) (d_lst (d_cons d_str (d_cons d_int (d_cons (d_exc rfl T.x_OtherEnds T.g_OtherEnds (by rfl)) (d_cons (d_tup d_nil) (d_cons (d_tup (d_cons (d_var 2) (d_cons d_non d_nil))) (d_cons (d_tup (d_cons (d_tup (d_cons (d_var 2) (d_cons (d_var 3) d_nil))) d_nil)) (d_cons (d_tup (d_cons d_str (d_cons (d_var 3) d_nil))) d_nil))))))))))
      (s_cons (s_set (i := 6) sc__law_bad_pack.nd rfl (by first | exact Or.inl rfl | exact Or.inr rfl) (d_bin o_add od_add (d_var 6) (d_lst (d_cons (d_tup (d_cons (d_lst (d_cons (d_var 2) d_nil)) (d_cons (d_var 3) d_nil))) (d_cons (d_tup (d_cons (d_tup (d_cons (d_var 2) d_nil)) (d_cons (d_var 3) d_nil))) (d_cons (d_mk (mkT_Line T) (hr.mono (by decide)) tk_b (by rfl) T.g_Line (d_cons (d_var 2) (d_cons d_int (d_cons d_int d_nil)))) d_nil))))))
      (s_one (s_ret (d_ix (d_bin o_add od_add (d_var 6) (d_lc [("part", 7)] rfl sc__law_bad_pack.nd (i_lst (d_var 5)) (blkOk_by (own := [("part", 7)]) (N := N__law_bad_pack) (sc := defScope st__law_bad_pack) (by decide +kernel)) (fun _ _ _ _ _ => (g_name (i := 7) sc__law_bad_pack.nd rfl (by first | exact Or.inl rfl | exact Or.inr rfl))) (fun _ _ _ _ _ => ts_nil) (fun _ _ _ _ _ => (d_tup (d_cons (d_var 2) (d_cons (d_bin o_add od_add (d_bin o_add od_add (d_sl (d_var 3) p_none (p_some (d_var 4))) (d_tup (d_cons (d_var 7) d_nil))) (d_sl (d_var 3) (p_some (d_bin o_add od_add (d_var 4) d_int)) p_none)) d_nil)))))) (d_call (ok__law_take T) (hr.mono (by decide)) tk_b (by rfl) T.g__law_take (T.f__law_take).F.kp (bi__law_take T) (d_cons (d_var 0) (d_cons d_int d_nil)))))))))))))) rd__law_bad_pack
theorem ok__law_branches (T : Txt K mg base) : FnG prg w K mg base 2 (He.ga K "_law_branches") P__law_branches sp__law_branches :=
  fn_ok (k := 1) (t := t__law_branches) T.f__law_branches sc__law_branches lnF3 (fun cdv A outer s H E hr =>
      (s_cons (s_par (i := 3) (j := 4) rfl sc__law_branches.nd rfl rfl (by decide) rfl rfl (d_cons (d_ix (d_lst (d_cons d_str (d_cons d_str d_nil))) (d_call (ok__law_take T) (hr.mono (by decide)) tk_b (by rfl) T.g__law_take (T.f__law_take).F.kp (bi__law_take T) (d_cons (d_var 0) (d_cons d_int d_nil)))) (d_cons (d_lc [("k", 5)] rfl sc__law_branches.nd (i_rng1 (by rfl) T.b_range (d_cons d_int d_nil)) (blkOk_by (own := [("k", 5)]) (N := N__law_branches) (sc := defScope st__law_branches) (by decide +kernel)) (fun _ _ _ _ _ => (g_name (i := 5) sc__law_branches.nd rfl (by first | exact Or.inl rfl | exact Or.inr rfl))) (fun _ _ _ _ _ => ts_nil) (fun _ _ _ _ _ => (d_bin o_add od_add d_int (d_call (ok__law_take T) (hr.mono (by decide)) takes0 (by rfl) T.g__law_take (T.f__law_take).F.kp (bi__law_take T) (d_cons (d_var 0) (d_cons (d_var 1) d_nil)))))) d_nil)))
      (s_cons (s_par3 (i := 6) (j := 7) (l := 8) rfl sc__law_branches.nd rfl rfl rfl (by decide) (by decide) (by decide) rfl rfl rfl (d_cons (d_lstM d_nil) (d_cons (d_call (ok__law_take T) (hr.mono (by decide)) tk_b (by rfl) T.g__law_take (T.f__law_take).F.kp (bi__law_take T) (d_cons (d_var 0) (d_cons (d_bin o_add od_add (d_var 2) d_int) d_nil))) (d_cons (d_bin o_mul od_mul (d_ix (d_var 4) d_int) (d_ix (d_var 4) d_int)) d_nil))))
      (s_cons (s_if (t_cmp op_gt od_gt (d_var 8) d_int)
        (s_one (s_par (i := 4) (j := 8) rfl sc__law_branches.nd rfl rfl (by decide) rfl rfl (d_cons (d_lst (d_cons (d_ix (d_var 4) d_int) (d_cons d_int d_nil))) (d_cons (d_ix (d_var 4) d_int) d_nil))))
        s_nil)
      (s_cons (s_for [9] hp_b rfl (i_tup (d_tup (d_cons (d_var 7) (d_cons (d_bin op_sub od_sub (d_var 2) (d_var 7)) d_nil)))) (g_name (i := 9) sc__law_branches.nd rfl (by first | exact Or.inl rfl | exact Or.inr rfl))
        (s_cons (s_set (i := 10) sc__law_branches.nd rfl (by first | exact Or.inl rfl | exact Or.inr rfl) (d_lstM d_nil))
      (s_cons (s_for [5] hp_b rfl (i_rng1 (by rfl) T.b_range (d_cons (d_var 9) d_nil)) (g_name (i := 5) sc__law_branches.nd rfl (by first | exact Or.inl rfl | exact Or.inr rfl))
        (s_cons (s_set (i := 11) sc__law_branches.nd rfl (by first | exact Or.inl rfl | exact Or.inr rfl) (d_bin o_add od_add d_int (d_call (ok__law_take T) (hr.mono (by decide)) tk_b (by rfl) T.g__law_take (T.f__law_take).F.kp (bi__law_take T) (d_cons (d_var 0) (d_cons (d_var 1) d_nil)))))
      (s_cons (s_expr (d_app (d_var 10) (d_cons (d_if (t_cmp op_lt od_lt (d_bin o_mul od_mul (d_var 8) (d_var 11)) d_int) (d_var 11) d_int) d_nil)))
      (s_one (s_set (i := 8) sc__law_branches.nd rfl (by first | exact Or.inl rfl | exact Or.inr rfl) (d_bin o_mul od_mul (d_var 8) (d_ix (d_var 10) (d_un un_neg od_neg d_int))))))))
      (s_one (s_expr (d_app (d_var 6) (d_cons (d_tup (d_cons (d_var 3) (d_cons (d_callTy call_tuple_of od_tuple (by rfl) T.b_tuple DL.boot_tuple (d_cons (d_bin o_add od_addM (d_bin o_add od_addM (d_sl (d_var 4) p_none (p_some d_int)) (d_var 10)) (d_sl (d_var 4) (p_some d_int) p_none)) d_nil)) d_nil))) d_nil)))))))
      (s_one (s_ret (d_var 6)))))))) rd__law_branches
theorem ok__law_ask (T : Txt K mg base) : FnG prg w K mg base 7 (He.ga K "_law_ask") P__law_ask sp__law_ask :=
  fn_ok (k := 6) (t := t__law_ask) T.f__law_ask sc__law_ask lnF2 (fun cdv A outer s H E hr =>
      (s_one (s_if (t_cmp (o_eq hr.u) od_eq (d_var 0) d_int)
        (s_one (s_expr (d_call (ok_differences T) (hr.mono (by decide)) tk_b (by rfl) T.g_differences (T.f_differences).F.kp (bi_differences T) (d_cons (d_ix (d_var 1) d_int) (d_cons (d_ix (d_var 1) d_int) d_nil)))))
        (s_one (s_if (t_cmp (o_eq hr.u) od_eq (d_var 0) d_int)
        (s_one (s_expr (d_callK0 (ok_differences T) (hr.mono (by decide)) tk_b (by rfl) T.g_differences (T.f_differences).F.kp (kb_differences_0_other_one T) (by decide) (k_cons (d_ix (d_var 1) d_int) (k_cons (d_ix (d_var 1) d_int) k_nil)))))
        (s_one (s_if (t_cmp (o_eq hr.u) od_eq (d_var 0) d_int)
        (s_one (s_expr (d_call (ok_together T) (hr.mono (by decide)) tk_b (by rfl) T.g_together (T.f_together).F.kp (bi_together T) (d_cons (d_ix (d_var 1) d_int) (d_cons (d_ix (d_var 1) d_int) d_nil)))))
        (s_one (s_if (t_cmp (o_eq hr.u) od_eq (d_var 0) d_int)
        (s_one (s_expr (d_callK0 (ok_together T) (hr.mono (by decide)) tk_b (by rfl) T.g_together (T.f_together).F.kp (kb_together_0_other_one T) (by decide) (k_cons (d_ix (d_var 1) d_int) (k_cons (d_ix (d_var 1) d_int) k_nil)))))
        (s_one (s_if (t_cmp (o_eq hr.u) od_eq (d_var 0) d_int)
        (s_one (s_expr (d_call (ok_apart_phases T) (hr.mono (by decide)) tk_b (by rfl) T.g_apart_phases (T.f_apart_phases).F.kp (bi_apart_phases T) (d_cons (d_ix (d_var 1) d_int) (d_cons (d_ix (d_var 1) d_int) d_nil)))))
        (s_one (s_expr (d_callK0 (ok_apart_phases T) (hr.mono (by decide)) tk_b (by rfl) T.g_apart_phases (T.f_apart_phases).F.kp (kb_apart_phases_0_other_one T) (by decide) (k_cons (d_ix (d_var 1) d_int) (k_cons (d_ix (d_var 1) d_int) k_nil)))))))))))))))) rd__law_ask
theorem ok__law_kind_of (T : Txt K mg base) : FnG prg w K mg base 8 (He.ga K "_law_kind_of") P__law_kind_of sp__law_kind_of :=
  fn_ok (k := 7) (t := t__law_kind_of) T.f__law_kind_of sc__law_kind_of lnF2 (fun cdv A outer s H E hr =>
      (s_cons (s_set (i := 2) sc__law_kind_of.nd rfl (by first | exact Or.inl rfl | exact Or.inr rfl) d_non)
      (s_cons (s_tryK (i := 3) (j := 2) rfl rfl rfl sc__law_kind_of.nd rfl rfl (by decide) rfl rfl (by rfl) T.g_CopyError tk_b T.tk_CopyError (fun W' pn xe tk' hp' => (s_one (s_expr (d_call (ok__law_ask T) (hr.mono (by decide)) tk' (by rfl) T.g__law_ask (T.f__law_ask).F.kp (bi__law_ask T) (d_cons (d_var 0) (d_cons (d_var 1) d_nil)))))))
      (s_cons (s_if (t_cmp op_isN od_is (d_var 2) d_non)
        (s_one (s_ret d_int))
        s_nil)
      (s_cons (s_set (i := 4) sc__law_kind_of.nd rfl (by first | exact Or.inl rfl | exact Or.inr rfl) (d_lst (d_cons (d_callB (call_isi.or call_isiE) (od_isiM T.isTabM_) (by rfl) T.b_isinstance DL.boot_isinstance (d_cons (d_var 2) (d_cons (d_kls T.g_InvalidRow (by rfl)) d_nil))) (d_cons (d_callB (call_isi.or call_isiE) (od_isiM T.isTabM_) (by rfl) T.b_isinstance DL.boot_isinstance (d_cons (d_var 2) (d_cons (d_kls T.g_OtherEnds (by rfl)) d_nil))) d_nil))))
      (s_cons (s_set (i := 5) sc__law_kind_of.nd rfl (by first | exact Or.inl rfl | exact Or.inr rfl) (d_or (d_callB (call_isi.or call_isiE) (od_isiM T.isTabM_) (by rfl) T.b_isinstance DL.boot_isinstance (d_cons (d_var 2) (d_cons (d_kls T.g_InvalidPhases (by rfl)) d_nil))) (d_or (d_callB (call_isi.or call_isiE) (od_isiM T.isTabM_) (by rfl) T.b_isinstance DL.boot_isinstance (d_cons (d_var 2) (d_cons (d_kls T.g_InvalidIndex (by rfl)) d_nil))) (d_one (d_callB (call_isi.or call_isiE) (od_isiM T.isTabM_) (by rfl) T.b_isinstance DL.boot_isinstance (d_cons (d_var 2) (d_cons (d_kls T.g_InvalidNumber (by rfl)) d_nil)))))))
      (s_one (s_ret (d_if (t_w (w_or (t_val (d_var 5)) (w_or (t_not (t_val (d_callB (call_isi.or call_isiE) (od_isiM T.isTabM_) (by rfl) T.b_isinstance DL.boot_isinstance (d_cons (d_var 2) (d_cons (d_ty (by rfl) T.b_ValueError DL.boot_ValueError) d_nil))))) (w_or1 (t_cmp (o_ne hr.u) od_ne (d_lm PySem.F.slot_list_count PySem.F.type_list_count (mt_countD hr.u65) lm_cnt (d_var 4) (d_cons d_bl d_nil)) d_int))))) d_int (d_bin o_add od_add d_int (d_lm PySem.F.slot_list_index PySem.F.type_list_index (mt_indexD hr.u65) lm_idx (d_var 4) (d_cons d_bl d_nil)))))))))))) rd__law_kind_of
theorem ok_law (T : Txt K mg base) : FnG prg w K mg base 9 (He.ga K "law") P_law sp_law :=
  fn_ok (k := 8) (t := t_law) T.f_law sc_law lnF1 (fun cdv A outer s H E hr =>
      (s_cons (s_for [1] hp_b rfl (i_lst (d_bin o_add od_add (d_lst (d_cons (d_bin o_add od_add (d_bin op_pow od_pow d_int d_int) d_int) d_nil)) (d_sl (d_var 0) p_none (p_some d_int)))) (g_name (i := 1) sc_law.nd rfl (by first | exact Or.inl rfl | exact Or.inr rfl))
        (s_cons (s_set (i := 2) sc_law.nd rfl (by first | exact Or.inl rfl | exact Or.inr rfl) (d_call (ok__law_spring T) (hr.mono (by decide)) tk_b (by rfl) T.g__law_spring (T.f__law_spring).F.kp (bi__law_spring T) (d_cons (d_var 1) d_nil)))
      (s_one (s_for [3] hp_b rfl (i_rng1 (by rfl) T.b_range (d_cons d_int d_nil)) (g_name (i := 3) sc_law.nd rfl (by first | exact Or.inl rfl | exact Or.inr rfl))
        (s_cons (s_set (i := 4) sc_law.nd rfl (by first | exact Or.inl rfl | exact Or.inr rfl) (d_call (ok__law_branches T) (hr.mono (by decide)) tk_b (by rfl) T.g__law_branches (T.f__law_branches).F.kp (bi__law_branches T) (d_cons (d_var 2) (d_cons d_int (d_cons (d_call (ok__law_take T) (hr.mono (by decide)) tk_b (by rfl) T.g__law_take (T.f__law_take).F.kp (bi__law_take T) (d_cons (d_var 2) (d_cons d_int d_nil))) d_nil)))))
      (s_cons (s_set (i := 5) sc_law.nd rfl (by first | exact Or.inl rfl | exact Or.inr rfl) (d_call (ok__law_take T) (hr.mono (by decide)) tk_b (by rfl) T.g__law_take (T.f__law_take).F.kp (bi__law_take T) (d_cons (d_var 2) (d_cons d_int d_nil))))
      (s_cons (s_asg [6, 7] (d_ix (d_var 4) d_int) (g_tup rfl (gs_cons (g_name (i := 6) sc_law.nd rfl (by first | exact Or.inl rfl | exact Or.inr rfl)) (gs_cons (g_name (i := 7) sc_law.nd rfl (by first | exact Or.inl rfl | exact Or.inr rfl)) gs_nil))))
      (s_cons (s_if (t_cmp (o_eq hr.u) od_eq (d_var 5) d_int)
        (s_one (s_seti tk_b (d_tup (d_cons (d_dsel hr.u1 (d_var 6) (by decide)) (d_cons (d_var 7) d_nil))) (d_var 4) d_int))
        s_nil)
      (s_cons (s_if (t_cmp (o_eq hr.u) od_eq (d_var 5) d_int)
        (s_one (s_seti tk_b (d_tup (d_cons (d_var 6) (d_cons (d_bin o_add od_add (d_tup (d_cons (d_bin o_add od_add (d_ix (d_var 7) d_int) d_int) d_nil)) (d_sl (d_var 7) (p_some d_int) p_none)) d_nil))) (d_var 4) d_int))
        s_nil)
      (s_cons (s_if (t_cmp (o_eq hr.u) od_eq (d_var 5) d_int)
        (s_one (s_seti tk_b (d_tup (d_cons (d_var 6) (d_cons (d_bin o_add od_add (d_sl (d_var 7) p_none (p_some (d_un un_neg od_neg d_int))) (d_tup (d_cons (d_bin o_add od_add (d_ix (d_var 7) (d_un un_neg od_neg d_int)) d_int) d_nil))) d_nil))) (d_var 4) d_int))
        s_nil)
      (s_cons (s_set (i := 8) sc_law.nd rfl (by first | exact Or.inl rfl | exact Or.inr rfl) (d_lc [("k", 9)] rfl sc_law.nd (i_rng1 (by rfl) T.b_range (d_cons d_int d_nil)) (blkOk_by (own := [("k", 9)]) (N := N_law) (sc := defScope st_law) (by decide +kernel)) (fun _ _ _ _ _ => (g_name (i := 9) sc_law.nd rfl (by first | exact Or.inl rfl | exact Or.inr rfl))) (fun _ _ _ _ _ => ts_nil) (fun _ _ _ _ _ => (d_cmp (o_eq hr.u) od_eq (d_call (ok__law_take T) (hr.mono (by decide)) takes0 (by rfl) T.g__law_take (T.f__law_take).F.kp (bi__law_take T) (d_cons (d_var 2) (d_cons d_int d_nil))) d_int))))
      (s_cons (s_setLc (i := 10) [("k", 9)] rfl sc_law.nd rfl rfl (sw_true rfl rfl rfl (by decide +kernel)) (i_rng1 (by rfl) T.b_range (d_cons d_int d_nil)) (blkOk_by (own := [("k", 9)]) (N := N_law) (sc := defScope st_law) (by decide +kernel)) (fun _ _ _ _ _ => (g_name (i := 9) sc_law.nd rfl (by first | exact Or.inl rfl | exact Or.inr rfl))) (fun _ _ _ _ _ => ts_nil) (fun _ _ _ _ _ => (d_if (t_val (d_ix (d_var 8) (d_var 9))) (d_call (ok__law_bad_pack T) (hr.mono (by decide)) takes0 (by rfl) T.g__law_bad_pack (T.f__law_bad_pack).F.kp (bi__law_bad_pack T) (d_cons (d_var 2) (d_cons (d_ix (d_var 4) (d_var 9)) d_nil))) (d_ix (d_var 4) (d_var 9)))))
      (s_cons (s_set (i := 11) sc_law.nd rfl (by first | exact Or.inl rfl | exact Or.inr rfl) (d_if (t_cmp o_in od_in d_bl (d_var 8)) d_int (d_if (t_cmp op_lt od_lt (d_var 5) d_int) d_int d_int)))
      (s_one (s_if (t_cmp (o_ne hr.u) od_ne (d_call (ok__law_kind_of T) (hr.mono (by decide)) tk_b (by rfl) T.g__law_kind_of (T.f__law_kind_of).F.kp (bi__law_kind_of T) (d_cons (d_var 3) (d_cons (d_var 10) d_nil))) (d_var 11))
        (s_one (s_ret d_bl))
        s_nil)))))))))))))))
      (s_one (s_ret d_bl)))) rd_law
end
theorem law_in {zs : List Int} {M : MM} {Q : DK} {E : EK} (h1 : zs.length ≤ 63) (h2 : ∀ z ∈ zs, Builtin.Int.intBits z ≤ 1048576) (h3 : ∀ M', Q (.bl true) M') : sp_law [.lst (zs.map D.int)] M Q E := ⟨zs, rfl, h1, h2, h3⟩
theorem kb_law0 {K : PySem.W.Frag} {mg : Str → Option Value} {base : Heap} (T : Txt K mg base) : KB K (He.ga K "law") P_law 1 [] [0] := T.f_law.kb fun _ _ _ _ _ _ us ws hl hk => match us, ws, hl, hk with | [_], [], _, _ => rfl
theorem spl : ∀ ds M Q E, DL.spLaw ds M Q E → sp_law ds M Q E := by
  rintro ds M Q E ⟨zs, rfl, h1, h2, h3⟩
  exact law_in h1 h2 h3
abbrev R : PySem.W.OpenRow := PySem.W.OpenLaw.row PySem.Challenge.rw_lastcopied_k41_errors_of_joins
def names : List PySem.Str := ([PySem.Str.ofString "_wall", PySem.Str.ofString "__name__", PySem.Str.ofString "CopyError", PySem.Str.ofString "InvalidRow", PySem.Str.ofString "InvalidPhases", PySem.Str.ofString "InvalidTime", PySem.Str.ofString "InvalidNumber", PySem.Str.ofString "InvalidIndex", PySem.Str.ofString "InvalidPeriod", PySem.Str.ofString "InvalidLine", PySem.Str.ofString "OtherEnds", PySem.Str.ofString "InvalidText", PySem.Str.ofString "TIES", PySem.Str.ofString "MOST_PERIOD", PySem.Str.ofString "is_number", PySem.Str.ofString "is_whole", PySem.Str.ofString "greatest_common", PySem.Str.ofString "least_common", PySem.Str.ofString "fits_row", PySem.Str.ofString "fits_fraction", PySem.Str.ofString "fits_phases", PySem.Str.ofString "need_row", PySem.Str.ofString "need_phases", PySem.Str.ofString "need_time", PySem.Str.ofString "floor_between", PySem.Str.ofString "edges", PySem.Str.ofString "arrival_by", PySem.Str.ofString "round_of", PySem.Str.ofString "steps_by", PySem.Str.ofString "made_short"] : List PySem.Str) ++ ([PySem.Str.ofString "least_turn", PySem.Str.ofString "pattern_of", PySem.Str.ofString "whole_phases", PySem.Str.ofString "whole_pattern", PySem.Str.ofString "number_at", PySem.Str.ofString "need_branches", PySem.Str.ofString "rounded_up", PySem.Str.ofString "ways_of", PySem.Str.ofString "is_apart", PySem.Str.ofString "found_apart", PySem.Str.ofString "lowest", PySem.Str.ofString "phases_by", PySem.Str.ofString "differences", PySem.Str.ofString "together", PySem.Str.ofString "apart_phases", PySem.Str.ofString "found_patterns", PySem.Str.ofString "patterns_of", PySem.Str.ofString "rounded", PySem.Str.ofString "totals_of", PySem.Str.ofString "patterns", PySem.Str.ofString "patterns_patterns", PySem.Str.ofString "loses", PySem.Str.ofString "alike", PySem.Str.ofString "within", PySem.Str.ofString "MOST_DIGITS", PySem.Str.ofString "MOST_COPIERS", PySem.Str.ofString "whole_of", PySem.Str.ofString "read_row", PySem.Str.ofString "need_span", PySem.Str.ofString "need_copier"] : List PySem.Str) ++ ([PySem.Str.ofString "need_line", PySem.Str.ofString "row_behind", PySem.Str.ofString "Line", PySem.Str.ofString "_law_spring", PySem.Str.ofString "_law_take", PySem.Str.ofString "_law_bad_pack", PySem.Str.ofString "_law_branches", PySem.Str.ofString "_law_ask", PySem.Str.ofString "_law_kind_of"] : List PySem.Str)
theorem run (w : World) : HandSHeadRun.RunEq R (PySem.W.view R.prog [76]) (DL.hookM 5 fa fn ex fc) (DL.obM 5 fa fn ex fc) 6000 names w := by
  intro os
  kernel_rfl
end K41
open PySem PySem.W PySem.Calls PyProof.Rows
theorem PySem.Challenge.cw_lastcopied_k41_errors_of_joins_holds : PySem.Challenge.rw_lastcopied_k41_errors_of_joins.Holds := by
  w_on; o_law
  refine HandSHeadRun.head_any (r := OpenLaw.row PySem.Challenge.rw_lastcopied_k41_errors_of_joins) (q := view (OpenLaw.row PySem.Challenge.rw_lastcopied_k41_errors_of_joins).prog [76]) (H := DL.hookM 5 K41.fa K41.fn K41.ex K41.fc) (ob := DL.obM 5 K41.fa K41.fn K41.ex K41.fc) (M := 6000) (loose := K41.names) (d := HandSHeadRun.topDef (OpenLaw.row PySem.Challenge.rw_lastcopied_k41_errors_of_joins).prog 76) (kwd := []) (DL.obM_eq 5 K41.fa K41.fn K41.ex K41.fc)
    (by kernel_rfl) (fun s => by kernel_rfl) K41.run (by kernel_rfl) (by kernel_rfl) (by kernel_rfl) (by rfl) (by first | assumption | decide +kernel) (by decide +kernel) ⟨rfl, rfl, rfl, rfl, rfl, by decide +kernel⟩ ?hw ?hc
  case hw => w_witness2
  case hc =>
    refine DL.walk_g (l := PySem.Challenge.rw_lastcopied_k41_errors_of_joins) (k := 9) (x := "script") rfl (by kernel_rfl) ⟨⟨rfl, by decide, by decide⟩, rfl⟩ ?F
    intro w mg fa h Y G hmg0
    obtain ⟨K, KX, c, e, kf⟩ := Y
    have hmg : mg ("law" : PySem.Str) = some (.ref fa) := by
      have e : (HandSHeadRun.topDef (OpenLaw.row PySem.Challenge.rw_lastcopied_k41_errors_of_joins).prog 76).name = ("law" : PySem.Str) := by kernel_rfl
      rw [← e]
      exact hmg0
    have T0 : K41.Txt K mg h := ⟨KX, G, c, e, kf⟩
    have e1 := hmg.symm.trans T0.g_law
    cases e1
    exact ⟨K, KX, fun s u => K41.kb_law0 T0 s [u] [] rfl rfl, fun base X' G' => (K41.ok_law (w := w) ⟨X', G', c, e, kf⟩).imp K41.spl⟩

