import PyProof.Rows.All
import Wide.All
import OpenK.AllK
import Wide.FinOn
import PyProof.EqAt
import PyProof.EqKinds
import PyProof.TupleCall
import HandS.ForMost
import HandS.ForExc
import HandS.HeadHook2
import HandS.IsInst
import HandS.FStr
import HandS.Star
import HandS.Wide
import HandS.TupAny
import HandS.StrMore
import HandS.Style
import HandS.WideBits
import PyProof.StrBlock2
import PyProof.ListMulRoad
import PyProof.ListIndexOut
import HandS.RaiseMore
import PyProof.ReprRoads
import PyProof.ReprBulk
import HandS.EndBits
import HandS.HeadEnd
import HandS.Head0
import HandS.Head1
import HandS.Head2
import PySem.Challenge.RW_lastcopied_k60_rows_steps_and_phases_wri
import KE.KStateDown
set_option Elab.async false
set_option linter.all false
set_option maxRecDepth 100000
set_option maxHeartbeats 0
/-! The data layer, core: values as deep data, the heap split into what never changes and what may. -/
namespace DL
open PySem PySem.Spec L2

/-- deep data; ref: an object that is told by its address -/
inductive D where
  | non | bl (b : Bool) | int (i : Int) | str (x : Str) | ty (n : String) | ref (a : Addr)
  | lst (xs : List D) | tup (xs : List D)
abbrev DSt := List (Option D)

/-- a list, exactly: tracked, frozen, or the text's own -/
def LL (K : PySem.W.Frag) (H : Hp) (a : Addr) (xs : List V) : Prop :=
  H a = some (.lst xs) ∨ (∃ (its : Array Value) (n : Nat), H a = some (.frz { cls := .type "list", data := .seq its n } (.lst xs))) ∨
    ∃ (its : Array Value) (n : Nat), K.lookup a = some { cls := .type "list", data := .seq its n } ∧ its.size ≤ sizeLine ∧ Vals xs its.toList
theorem LL.sq {K : PySem.W.Frag} {H : Hp} {a : Addr} {xs : List V} (h : LL K H a xs) : SqL K H a xs := by
  rcases h with h | ⟨its, n, h⟩ | ⟨its, n, h, hz, r⟩
  · exact .inl (.inl h)
  · exact .inl (.inr ⟨_, h⟩)
  · exact .inr ⟨_, its, n, h, rfl, rfl, rfl, hz, r⟩
theorem LL.up {K : PySem.W.Frag} {H H' : Hp} {a : Addr} {xs : List V} (e : Same H H') (h : LL K H a xs) : LL K H' a xs := by
  rcases h with h | ⟨its, n, h⟩ | h
  · exact .inl (e _ _ h)
  · exact .inr (.inl ⟨its, n, e _ _ h⟩)
  · exact .inr (.inr h)
theorem LL.of {K : PySem.W.Frag} {H : Hp} {a : Addr} {xs : List V} (h : H a = some (.lst xs)) : LL K H a xs := .inl h
theorem ll_at {X : Cx} {pins : List (Addr × Obj)} {σ : L2.St} {H : Hp} {s : Shared} {a : Addr} {xs : List V} (I : Inv X pins σ H s) (h : LL X.K H a xs) :
    ∃ (its : List Value) (n : Nat), Vals xs its ∧ xs.length = its.length ∧ s.heap.get? a = some { cls := .type "list", data := .seq its.toArray n } ∧ xs.length ≤ sizeLine := by
  rcases h with h | ⟨its, n, h⟩ | ⟨its, n, h, hz, r⟩
  · obtain ⟨z, its, n, r, e⟩ := I.hok a _ h
    exact ⟨its, n, r, r.length, e, z⟩
  · obtain ⟨e, z, its2, n2, r, e2⟩ := I.hok a _ h
    exact ⟨its2, n2, r, r.length, e2, z⟩
  · refine ⟨its.toList, n, r, r.length, ?_, ?_⟩
    · rw [I.kIn a _ h, Array.toArray_toList]
    · rw [r.length, Array.length_toList]; exact hz
mutual
inductive Rep (K : PySem.W.Frag) (H : Hp) : V → D → Prop
  | non : Rep K H .non .non
  | bl (b : Bool) : Rep K H (.bl b) (.bl b)
  | int (i : Int) : Rep K H (.int i) (.int i)
  | str (x : Str) : Rep K H (.str x) (.str x)
  | ty (n : String) : Rep K H (.ty n) (.ty n)
  | ref (a : Addr) : Rep K H (.ref a) (.ref a)
  | lst {a : Addr} {xs : List V} {ds : List D} : LL K H a xs → RepL K H xs ds → Rep K H (.ref a) (.lst ds)
  | tup {a : Addr} {xs : List V} {ds : List D} : SqT K H a xs → RepL K H xs ds → Rep K H (.ref a) (.tup ds)
inductive RepL (K : PySem.W.Frag) (H : Hp) : List V → List D → Prop
  | nil : RepL K H [] []
  | cons {v : V} {vs : List V} {d : D} {ds : List D} : Rep K H v d → RepL K H vs ds → RepL K H (v :: vs) (d :: ds)
end

theorem same_t {K : PySem.W.Frag} {H H' : Hp} {a : Addr} {xs : List V} (e : Same H H') (h : SqT K H a xs) : SqT K H' a xs := by
  rcases h with (h | ⟨o, h⟩) | h
  · exact .inl (.inl (e _ _ h))
  · exact .inl (.inr ⟨o, e _ _ h⟩)
  · exact .inr h

section
variable {K : PySem.W.Frag} {H H' : Hp}
mutual
theorem Rep.mono (sm : Same H H') : ∀ (d : D) (v : V), Rep K H v d → Rep K H' v d
  | .non, _, .non => .non
  | .bl b, _, .bl _ => .bl b
  | .int i, _, .int _ => .int i
  | .str x, _, .str _ => .str x
  | .ty n, _, .ty _ => .ty n
  | .ref a, _, .ref _ => .ref a
  | .lst ds, _, .lst h r => .lst (h.up sm) (RepL.mono sm ds _ r)
  | .tup ds, _, .tup h r => .tup (same_t sm h) (RepL.mono sm ds _ r)
theorem RepL.mono (sm : Same H H') : ∀ (ds : List D) (vs : List V), RepL K H vs ds → RepL K H' vs ds
  | [], _, .nil => .nil
  | d :: ds, _, .cons h r => .cons (Rep.mono sm d _ h) (RepL.mono sm ds _ r)
end
theorem Rep.up (sm : Same H H') {d : D} {v : V} (h : Rep K H v d) : Rep K H' v d := Rep.mono sm d v h
theorem RepL.up (sm : Same H H') {ds : List D} {vs : List V} (h : RepL K H vs ds) : RepL K H' vs ds := RepL.mono sm ds vs h
theorem RepL.len : ∀ {vs : List V} {ds : List D}, RepL K H vs ds → vs.length = ds.length
  | _, _, .nil => rfl
  | _, _, .cons _ r => by rw [List.length_cons, List.length_cons, RepL.len r]
theorem RepL.get : ∀ {vs : List V} {ds : List D} {i : Nat} {d : D}, RepL K H vs ds → ds[i]? = some d → ∃ v, vs[i]? = some v ∧ Rep K H v d
  | _, _, _, _, .nil, e => by simp at e
  | _, _, 0, _, .cons h _, e => by simp at e; subst e; exact ⟨_, rfl, h⟩
  | _, _, i + 1, d, .cons _ r, e => by
    obtain ⟨v, h1, h2⟩ := RepL.get (i := i) (d := d) r (by simpa using e)
    exact ⟨v, by simpa using h1, h2⟩
theorem RepL.getV : ∀ {vs : List V} {ds : List D} {i : Nat} {v : V}, RepL K H vs ds → vs[i]? = some v → ∃ d, ds[i]? = some d ∧ Rep K H v d
  | _, _, _, _, .nil, e => by simp at e
  | _, _, 0, _, .cons h _, e => by simp at e; subst e; exact ⟨_, rfl, h⟩
  | _, _, i + 1, d, .cons _ r, e => by
    obtain ⟨v, h1, h2⟩ := RepL.getV (i := i) (v := d) r (by simpa using e)
    exact ⟨v, by simpa using h1, h2⟩
theorem RepL.app : ∀ {vs ws : List V} {ds es : List D}, RepL K H vs ds → RepL K H ws es → RepL K H (vs ++ ws) (ds ++ es)
  | _, _, _, _, .nil, s => s
  | _, _, _, _, .cons r t, s => .cons r (RepL.app t s)
theorem RepL.take : ∀ {vs : List V} {ds : List D} (n : Nat), RepL K H vs ds → RepL K H (vs.take n) (ds.take n)
  | _, _, 0, _ => .nil
  | _, _, _ + 1, .nil => .nil
  | _, _, n + 1, .cons r t => .cons r (RepL.take n t)
theorem RepL.drop : ∀ {vs : List V} {ds : List D} (n : Nat), RepL K H vs ds → RepL K H (vs.drop n) (ds.drop n)
  | _, _, 0, r => r
  | _, _, _ + 1, .nil => .nil
  | _, _, n + 1, .cons _ t => RepL.drop n t
theorem RepL.rev {vs : List V} {ds : List D} (h : RepL K H vs ds) : RepL K H vs.reverse ds.reverse := by
  induction vs generalizing ds with
  | nil => cases h; exact .nil
  | cons v vs ih =>
    cases h with
    | cons r t =>
      rw [List.reverse_cons, List.reverse_cons]
      exact (ih t).app (.cons r .nil)
theorem RepL.set : ∀ {vs : List V} {ds : List D} {v : V} {d : D} (i : Nat), RepL K H vs ds → Rep K H v d → RepL K H (vs.set i v) (ds.set i d)
  | _, _, _, _, _, .nil, _ => .nil
  | _, _, _, _, 0, .cons _ t, q => .cons q t
  | _, _, _, _, i + 1, .cons r t, q => .cons r (RepL.set i t q)
theorem RepL.dropLast {vs : List V} {ds : List D} (h : RepL K H vs ds) : RepL K H vs.dropLast ds.dropLast := by
  rw [List.dropLast_eq_take, List.dropLast_eq_take, h.len]
  exact h.take _
theorem RepL.rep {vs : List V} {ds : List D} (h : RepL K H vs ds) : ∀ k : Nat, RepL K H (List.replicate k vs).flatten (List.replicate k ds).flatten
  | 0 => .nil
  | k + 1 => by
    rw [List.replicate_succ, List.replicate_succ, List.flatten_cons, List.flatten_cons]
    exact h.app (RepL.rep h k)
/-- all ints -/
theorem RepL.ints : ∀ {vs : List V} {ns : List Int}, RepL K H vs (ns.map D.int) → vs = ns.map V.int
  | _, [], .nil => rfl
  | _, n :: ns, .cons (.int _) r => by
    rw [List.map_cons, RepL.ints (ns := ns) r]
theorem RepL.bls : ∀ {vs : List V} {ns : List Bool}, RepL K H vs (ns.map D.bl) → vs = ns.map V.bl
  | _, [], .nil => rfl
  | _, n :: ns, .cons (.bl _) r => by
    rw [List.map_cons, RepL.bls (ns := ns) r]
theorem RepL.txts : ∀ {vs : List V} {ns : List Str}, RepL K H vs (ns.map D.str) → vs = ns.map V.str
  | _, [], .nil => rfl
  | _, n :: ns, .cons (.str _) r => by
    rw [List.map_cons, RepL.txts (ns := ns) r]
theorem RepL.of_ints : ∀ (ns : List Int), RepL K H (ns.map V.int) (ns.map D.int)
  | [] => .nil
  | n :: ns => .cons (.int n) (RepL.of_ints ns)
theorem RepL.of_txts : ∀ (ns : List Str), RepL K H (ns.map V.str) (ns.map D.str)
  | [] => .nil
  | n :: ns => .cons (.str n) (RepL.of_txts ns)
end

/-! ### what may change -/
inductive MO where
  | lst (xs : List D)
  | ins (C : Str) (fs : List (Str × D))
  | dK (kvs : List (Key × D))
  | dT (kvs : List (List Key × D))
abbrev MM := Addr → Option MO
def mput (M : MM) (a : Addr) (o : MO) : MM := fun b => if b = a then some o else M b
def mdel (M : MM) (a : Addr) : MM := fun b => if b = a then none else M b
theorem mput_same {M : MM} {a : Addr} {o : MO} : mput M a o a = some o := if_pos rfl
theorem mput_ne {M : MM} {a b : Addr} {o : MO} (h : b ≠ a) : mput M a o b = M b := if_neg h
theorem mdel_same {M : MM} {a : Addr} : mdel M a a = none := if_pos rfl
theorem mdel_ne {M : MM} {a b : Addr} (h : b ≠ a) : mdel M a b = M b := if_neg h
theorem mput_mput {M : MM} {a : Addr} {o u : MO} : mput (mput M a o) a u = mput M a u := by
  funext b; unfold mput; split <;> rfl
theorem mdel_mput {M : MM} {a : Addr} {o : MO} (h : M a = none) : mdel (mput M a o) a = M := by
  funext b; unfold mdel mput; split
  · rename_i e; rw [e, h]
  · rfl
theorem mput_comm {M : MM} {a b : Addr} {o u : MO} (h : a ≠ b) : mput (mput M a o) b u = mput (mput M b u) a o := by
  funext c; unfold mput
  by_cases h1 : c = a
  · subst h1; rw [if_neg h, if_pos rfl, if_pos rfl]
  · rw [if_neg h1, if_neg h1]
theorem mm_ne {M : MM} {a b : Addr} {o : MO} (h : M a = some o) (h' : M b = none) : a ≠ b := by
  intro e; subst e; rw [h] at h'; cases h'

def PF (K : PySem.W.Frag) (H : Hp) {κ : Type} : List (κ × V) → List (κ × D) → Prop := Paired fun p q => p.1 = q.1 ∧ Rep K H p.2 q.2
theorem PF.up {K : PySem.W.Frag} {H H' : Hp} {κ : Type} (sm : Same H H') {l : List (κ × V)} {r : List (κ × D)} (h : PF K H l r) : PF K H' l r :=
  Paired.mapP h fun _ _ z => ⟨z.1, z.2.up sm⟩
/-- what stands at a place that may change -/
def MRep (K : PySem.W.Frag) (HI H : Hp) (a : Addr) : MO → Prop
  | .lst ds => ∃ xs, H a = some (.lst xs) ∧ RepL K HI xs ds
  | .ins C fs => ∃ dx vs, H a = some (.ins (He.ga K C) dx vs) ∧ PF K HI vs fs
  | .dK kvs => ∃ vs, H a = some (.dK vs) ∧ PF K HI vs kvs
  | .dT kvs => ∃ vs, H a = some (.dT vs) ∧ PF K HI vs kvs
theorem MRep.there {K : PySem.W.Frag} {HI H : Hp} {a : Addr} {o : MO} (h : MRep K HI H a o) : ∃ u, H a = some u := by
  cases o with
  | lst ds => obtain ⟨_, e, _⟩ := h; exact ⟨_, e⟩
  | ins C fs => obtain ⟨_, _, e, _⟩ := h; exact ⟨_, e⟩
  | dK kvs => obtain ⟨_, e, _⟩ := h; exact ⟨_, e⟩
  | dT kvs => obtain ⟨_, e, _⟩ := h; exact ⟨_, e⟩
theorem MRep.up {K : PySem.W.Frag} {HI HI' H H' : Hp} {a : Addr} {o : MO} (sm : Same HI HI') (e : H' a = H a) (h : MRep K HI H a o) : MRep K HI' H' a o := by
  cases o with
  | lst ds => obtain ⟨x, e1, r⟩ := h; exact ⟨x, e.trans e1, r.up sm⟩
  | ins C fs => obtain ⟨x, y, e1, r⟩ := h; exact ⟨x, y, e.trans e1, r.up sm⟩
  | dK kvs => obtain ⟨x, e1, r⟩ := h; exact ⟨x, e.trans e1, r.up sm⟩
  | dT kvs => obtain ⟨x, e1, r⟩ := h; exact ⟨x, e.trans e1, r.up sm⟩

/-- the heap: HI stands still, M may change -/
structure Ok (K : PySem.W.Frag) (HI : Hp) (M : MM) (H : Hp) : Prop where
  imm : ∀ a o, HI a = some o → H a = some o ∧ M a = none
  var : ∀ a o, M a = some o → MRep K HI H a o
section
variable {K : PySem.W.Frag} {HI HI' H H' : Hp} {M M' : MM} {a p : Addr}
theorem Ok.same (ok : Ok K HI M H) : Same HI H := fun b o e => (ok.imm b o e).1
theorem Ok.free (ok : Ok K HI M H) (h : H p = none) : HI p = none ∧ M p = none := by
  constructor
  · cases e : HI p with
    | none => rfl
    | some o => rw [(ok.imm p o e).1] at h; cases h
  · cases e : M p with
    | none => rfl
    | some o =>
      obtain ⟨u, q⟩ := (ok.var p o e).there
      rw [q] at h; cases h
theorem same_upd {o : HO} (h : H p = none) : Same H (upd H p o) := fun b u e => by rw [upd_ne (ne_of_none e h)]; exact e
/-- a new thing that will stand still -/
theorem Ok.newI {o : HO} (ok : Ok K HI M H) (h : H p = none) : Ok K (upd HI p o) M (upd H p o) ∧ Same HI (upd HI p o) := by
  obtain ⟨h1, h2⟩ := ok.free h
  have sm : Same HI (upd HI p o) := same_upd h1
  refine ⟨⟨fun b u e => ?_, fun b u e => ?_⟩, sm⟩
  · by_cases hb : b = p
    · subst hb; rw [upd_same] at e; cases e; exact ⟨upd_same, h2⟩
    · rw [upd_ne hb] at e; rw [upd_ne hb]; exact ok.imm b u e
  · have hb : b ≠ p := mm_ne e h2
    exact (ok.var b u e).up sm (upd_ne hb)
/-- a new thing that may change; or a change -/
theorem Ok.newM {o : HO} {m : MO} (ok : Ok K HI M H) (h : HI p = none) (r : MRep K HI (upd H p o) p m) : Ok K HI (mput M p m) (upd H p o) := by
  refine ⟨fun b u e => ?_, fun b u e => ?_⟩
  · have hb : b ≠ p := ne_of_none e h
    rw [upd_ne hb, mput_ne hb]; exact ok.imm b u e
  · by_cases hb : b = p
    · subst hb; rw [mput_same] at e; cases e; exact r
    · rw [mput_ne hb] at e
      exact (ok.var b u e).up (Same.refl _) (upd_ne hb)
/-- a new thing that isn't told -/
theorem Ok.newH {o : HO} (ok : Ok K HI M H) (h : H p = none) : Ok K HI M (upd H p o) := by
  obtain ⟨h1, h2⟩ := ok.free h
  refine ⟨fun b u e => ?_, fun b u e => ?_⟩
  · rw [upd_ne (ne_of_none e h1)]; exact ok.imm b u e
  · exact (ok.var b u e).up (Same.refl _) (upd_ne (mm_ne e h2))
theorem Ok.notI (ok : Ok K HI M H) {m : MO} (h : M p = some m) : HI p = none := by
  cases e : HI p with
  | none => rfl
  | some o => rw [(ok.imm p o e).2] at h; cases h
/-- less is told -/
def MLe (M M' : MM) : Prop := ∀ a o, M a = some o → M' a = some o
theorem MLe.refl (M : MM) : MLe M M := fun _ _ h => h
theorem Ok.less (ok : Ok K HI M' H) (l : MLe M M') : Ok K HI M H := by
  refine ⟨fun b u e => ?_, fun b u e => ok.var b u (l b u e)⟩
  obtain ⟨h1, h2⟩ := ok.imm b u e
  refine ⟨h1, ?_⟩
  cases q : M b with
  | none => rfl
  | some o => rw [l b o q] at h2; cases h2
theorem mle_del {p : Addr} : MLe (mdel M p) M := by
  intro b o e
  by_cases hb : b = p
  · subst hb; rw [mdel_same] at e; cases e
  · rw [mdel_ne hb] at e; exact e
theorem mle_put {p : Addr} {o : MO} (h : M p = none) : MLe M (mput M p o) := fun b u e => by rw [mput_ne (mm_ne e h)]; exact e
theorem mle_none {p : Addr} (l : MLe M M') (h : M' p = none) : M p = none := by
  cases q : M p with
  | none => rfl
  | some o => rw [l p o q] at h; cases h
end

/-! ### slots -/
def RO (K : PySem.W.Frag) (H : Hp) (v : Option V) (d : Option D) : Prop := match d with
  | none => True
  | some d => ∃ x, v = some x ∧ Rep K H x d
abbrev REnv (K : PySem.W.Frag) (H : Hp) : St → DSt → Prop := Paired (RO K H)
section
variable {K : PySem.W.Frag} {H H' : Hp}
theorem REnv.up (sm : Same H H') {σv : St} {σ : DSt} (h : REnv K H σv σ) : REnv K H' σv σ := Paired.mapP h fun _ b z => by
  cases b with
  | none => trivial
  | some d => obtain ⟨x, e, r⟩ := z; exact ⟨x, e, r.up sm⟩
theorem REnv.get : ∀ {σv : St} {σ : DSt} {i : Nat} {d : D}, REnv K H σv σ → σ[i]? = some (some d) → ∃ v, σv[i]? = some (some v) ∧ Rep K H v d
  | _, _, _, _, .nil, e => by simp at e
  | _, _, 0, _, .cons h _, e => by
    simp at e; subst e
    obtain ⟨x, e1, r⟩ := h
    exact ⟨x, by rw [e1]; rfl, r⟩
  | _, _, i + 1, d, .cons _ r, e => by
    obtain ⟨v, h1, h2⟩ := REnv.get (i := i) (d := d) r (by simpa using e)
    exact ⟨v, by simpa using h1, h2⟩
theorem REnv.set {v : V} {d : D} (q : Rep K H v d) : ∀ {σv : St} {σ : DSt} (i : Nat), REnv K H σv σ → REnv K H (σv.set i (some v)) (σ.set i (some d))
  | _, _, _, .nil => .nil
  | _, _, 0, .cons _ t => .cons ⟨v, rfl, q⟩ t
  | _, _, i + 1, .cons r t => .cons r (REnv.set q i t)
theorem REnv.drop1 : ∀ {σv : St} {σ : DSt} (i : Nat) (x : Option V), REnv K H σv σ → REnv K H (σv.set i x) (σ.set i none)
  | _, _, _, _, .nil => .nil
  | _, _, 0, _, .cons _ t => .cons trivial t
  | _, _, i + 1, x, .cons r t => .cons r (REnv.drop1 i x t)
/-- the block's own slots forgotten -/
def wipeD (σ : DSt) : List Nat → DSt
  | [] => σ
  | v :: vs => (wipeD σ vs).set v none
theorem REnv.wipe {σv : St} {σ : DSt} (h : REnv K H σv σ) : ∀ vs : List Nat, REnv K H (L2.wipe σv vs) (wipeD σ vs)
  | [] => h
  | v :: vs => REnv.drop1 v none (REnv.wipe h vs)
def startD (N : List Str) (ds : List D) : DSt := ds.map some ++ List.replicate (N.length - ds.length) none
theorem start_env {N : List Str} : ∀ {vs : List V} {ds : List D}, RepL K H vs ds → REnv K H (L2.start N vs) (startD N ds) := fun {vs ds} h => by
  unfold L2.start startD
  rw [h.len]
  have tail : ∀ n : Nat, REnv K H (List.replicate n none) (List.replicate n none) := fun n => by
    induction n with
    | zero => exact .nil
    | succ n ih => exact .cons trivial ih
  generalize N.length - ds.length = n
  induction vs generalizing ds with
  | nil => cases h; exact tail n
  | cons v vs ih =>
    cases h with
    | cons r t => exact .cons ⟨v, rfl, r⟩ (ih t)
end

/-! ### exceptions -/
structure XV where
  cls : Str
  fs : List (Str × D) := []
def XRep (K : PySem.W.Frag) (HI H : Hp) (c : Value) (d : Option Addr) (x : XV) : Prop := c = .ref (He.ga K x.cls) ∧ match d with
  | none => x.fs = []
  | some a => ∃ vs, H a = some (.xd vs) ∧ PF K HI vs x.fs

/-! ### the ends -/
abbrev DK := D → MM → Prop
abbrev EK := XV → MM → Prop
/-- a step: what stands still, stands; what isn't told to change isn't changed -/
structure Stp (HI : Hp) (M : MM) (H : Hp) (HI' : Hp) (M' : MM) (H' : Hp) : Prop where
  sm : Same HI HI'
  fr : ∀ a o, H a = some o → M a = none → H' a = some o ∧ M' a = none ∧ (HI a = none → HI' a = none)
theorem Stp.refl {HI : Hp} {M : MM} {H : Hp} : Stp HI M H HI M H := ⟨Same.refl _, fun _ _ h h' => ⟨h, h', fun z => z⟩⟩
theorem Stp.trans {HI HI1 HI2 : Hp} {M M1 M2 : MM} {H H1 H2 : Hp} (a : Stp HI M H HI1 M1 H1) (b : Stp HI1 M1 H1 HI2 M2 H2) : Stp HI M H HI2 M2 H2 :=
  ⟨a.sm.trans b.sm, fun x o h h' => let ⟨h1, h2, h3⟩ := a.fr x o h h'; let ⟨k1, k2, k3⟩ := b.fr x o h1 h2; ⟨k1, k2, fun z => k3 (h3 z)⟩⟩
theorem Stp.newI {HI : Hp} {M : MM} {H : Hp} {p : Addr} {o : HO} (hi : HI p = none) (h : H p = none) : Stp HI M H (upd HI p o) M (upd H p o) :=
  ⟨same_upd hi, fun a u e hm => ⟨by rw [upd_ne (ne_of_none e h)]; exact e, hm, fun z => by rw [upd_ne (ne_of_none e h)]; exact z⟩⟩
theorem Stp.newM {HI : Hp} {M : MM} {H : Hp} {p : Addr} {o : HO} {m : MO} (h : H p = none) : Stp HI M H HI (mput M p m) (upd H p o) :=
  ⟨Same.refl _, fun a u e hm => ⟨by rw [upd_ne (ne_of_none e h)]; exact e, by rw [mput_ne (ne_of_none e h)]; exact hm, fun z => z⟩⟩
theorem Stp.chg {HI : Hp} {M : MM} {H : Hp} {p : Addr} {o : HO} {m m' : MO} (h : M p = some m) : Stp HI M H HI (mput M p m') (upd H p o) := by
  refine ⟨Same.refl _, fun a u e hm => ?_⟩
  have ne : a ≠ p := fun z => by rw [z, h] at hm; cases hm
  exact ⟨by rw [upd_ne ne]; exact e, by rw [mput_ne ne]; exact hm, fun z => z⟩
theorem Stp.newH {HI : Hp} {M : MM} {H : Hp} {p : Addr} {o : HO} (h : H p = none) : Stp HI M H HI M (upd H p o) :=
  ⟨Same.refl _, fun a u e hm => ⟨by rw [upd_ne (ne_of_none e h)]; exact e, hm, fun z => z⟩⟩
theorem Stp.less {HI : Hp} {M M' : MM} {H : Hp} (l : MLe M' M) : Stp HI M H HI M' H := by
  refine ⟨Same.refl _, fun a u e hm => ⟨e, ?_, fun z => z⟩⟩
  cases q : M' a with
  | none => rfl
  | some o => rw [l a o q] at hm; cases hm
/-- a list that may change stands still from now on -/
theorem Ok.freeze {K : PySem.W.Frag} {HI H : Hp} {M : MM} {p : Addr} {ds : List D} (ok : Ok K HI M H) (h : M p = some (.lst ds)) : ∃ HI', Stp HI M H HI' (mdel M p) H ∧ Ok K HI' (mdel M p) H ∧ Rep K HI' (.ref p) (.lst ds) := by
  obtain ⟨xs, e, r⟩ := ok.var p _ h
  have hn := ok.notI h
  have sm : Same HI (upd HI p (.lst xs)) := same_upd hn
  refine ⟨upd HI p (.lst xs), ⟨sm, fun a u q hm => ⟨q, mle_none mle_del hm, fun z => ?_⟩⟩, ⟨fun b u q => ?_, fun b u q => ?_⟩, .lst (LL.of upd_same) (r.up sm)⟩
  · have ne : a ≠ p := fun z => by rw [z, h] at hm; cases hm
    rw [upd_ne ne]; exact z
  · by_cases hb : b = p
    · subst hb; rw [upd_same] at q; cases q; exact ⟨e, mdel_same⟩
    · rw [upd_ne hb] at q; rw [mdel_ne hb]; exact ok.imm b u q
  · exact (ok.var b u (mle_del b u q)).up sm rfl
/-- what isn't told is changed -/
theorem Ok.out {K : PySem.W.Frag} {HI H : Hp} {M : MM} {p : Addr} {o : HO} (ok : Ok K HI M H) (hi : HI p = none) (hm : M p = none) : Ok K HI M (upd H p o) := by
  refine ⟨fun b u e => ?_, fun b u e => ?_⟩
  · rw [upd_ne (ne_of_none e hi)]; exact ok.imm b u e
  · exact (ok.var b u e).up (Same.refl _) (upd_ne (mm_ne e hm))
def low (K : PySem.W.Frag) (HI : Hp) (M : MM) (H : Hp) (Q : DK) (v : V) (H' : Hp) : Prop := ∃ HI' M' d, Stp HI M H HI' M' H' ∧ Ok K HI' M' H' ∧ Rep K HI' v d ∧ Q d M'
def lowL (K : PySem.W.Frag) (HI : Hp) (M : MM) (H : Hp) (Q : List D → MM → Prop) (v : List V) (H' : Hp) : Prop := ∃ HI' M' d, Stp HI M H HI' M' H' ∧ Ok K HI' M' H' ∧ RepL K HI' v d ∧ Q d M'
def lowX (K : PySem.W.Frag) (HI : Hp) (M : MM) (H : Hp) (E : EK) (c : Value) (d : Option Addr) (H' : Hp) : Prop := ∃ HI' M' x, Stp HI M H HI' M' H' ∧ Ok K HI' M' H' ∧ XRep K HI' H' c d x ∧ E x M'
def lowB (K : PySem.W.Frag) (HI : Hp) (M : MM) (H : Hp) (Q : Bool → MM → Prop) (b : Bool) (H' : Hp) : Prop := ∃ HI' M', Stp HI M H HI' M' H' ∧ Ok K HI' M' H' ∧ Q b M'
section
variable {K : PySem.W.Frag} {HI HI' H H' H2 : Hp} {M M' : MM}
theorem low.of {Q : DK} {v : V} (sm : Stp HI M H HI' M' H') (h : low K HI' M' H' Q v H2) : low K HI M H Q v H2 := by
  obtain ⟨h1, m, d, a, b⟩ := h
  exact ⟨h1, m, d, sm.trans a, b⟩
theorem lowB.of {Q : Bool → MM → Prop} {v : Bool} (sm : Stp HI M H HI' M' H') (h : lowB K HI' M' H' Q v H2) : lowB K HI M H Q v H2 := by
  obtain ⟨h1, m, a, b⟩ := h
  exact ⟨h1, m, sm.trans a, b⟩
theorem lowX.of {Q : EK} {c : Value} {d : Option Addr} (sm : Stp HI M H HI' M' H') (h : lowX K HI' M' H' Q c d H2) : lowX K HI M H Q c d H2 := by
  obtain ⟨h1, m, x, a, b⟩ := h
  exact ⟨h1, m, x, sm.trans a, b⟩
end

abbrev TD := DSt → MM → DK → EK → Prop
abbrev TDT := DSt → MM → (Bool → MM → Prop) → EK → Prop
abbrev TDL := DSt → MM → (List D → MM → Prop) → EK → Prop
structure DEnds where
  nx : DSt → MM → Prop
  rt : DK
  bk : DSt → MM → Prop := fun _ _ => False
  ct : DSt → MM → Prop := fun _ _ => False
  ex : XV → DSt → MM → Prop := fun _ _ _ => False
abbrev TDS := DEnds → DSt → MM → Prop

/-- a wish at the slots -/
def WOk (K : PySem.W.Frag) (W : WX) (HI : Hp) (M : MM) (H : Hp) (σv : St) (E : EK) : Prop := ∀ c d H', lowX K HI M H E c d H' → W c d σv H'
theorem WOk.up {K : PySem.W.Frag} {W : WX} {HI HI' : Hp} {M M' : MM} {H H' : Hp} {σv : St} {E : EK} (h : WOk K W HI M H σv E) (sm : Stp HI M H HI' M' H') : WOk K W HI' M' H' σv E := fun c d H' q => h c d H' (q.of sm)

def upE (K : PySem.W.Frag) (W : WX) (t : TD) : TE := fun σv H Qv => ∃ HI σ M Q E, Ok K HI M H ∧ REnv K HI σv σ ∧ t σ M Q E ∧ (∀ v H', low K HI M H Q v H' → Qv v H') ∧ WOk K W HI M H σv E
def upT (K : PySem.W.Frag) (W : WX) (t : TDT) : TT := fun σv H Qv => ∃ HI σ M Q E, Ok K HI M H ∧ REnv K HI σv σ ∧ t σ M Q E ∧ (∀ v H', lowB K HI M H Q v H' → Qv v H') ∧ WOk K W HI M H σv E
def upL (K : PySem.W.Frag) (W : WX) (t : TDL) : TA := fun σv H Qv => ∃ HI σ M Q E, Ok K HI M H ∧ REnv K HI σv σ ∧ t σ M Q E ∧ (∀ v H', lowL K HI M H Q v H' → Qv v H') ∧ WOk K W HI M H σv E
/-- D is what is wanted, Dv its lifting -/
structure Ref (K : PySem.W.Frag) (W : WX) (HI : Hp) (M : MM) (H : Hp) (Dd : DEnds) (Dv : Ends) : Prop where
  nx : ∀ HI' σv' H' σ' M', Stp HI M H HI' M' H' → Ok K HI' M' H' → REnv K HI' σv' σ' → Dd.nx σ' M' → Dv.nx σv' H'
  rt : ∀ v H', low K HI M H Dd.rt v H' → Dv.rt v H'
  bk : ∀ HI' σv' H' σ' M', Stp HI M H HI' M' H' → Ok K HI' M' H' → REnv K HI' σv' σ' → Dd.bk σ' M' → Dv.bk σv' H'
  ct : ∀ HI' σv' H' σ' M', Stp HI M H HI' M' H' → Ok K HI' M' H' → REnv K HI' σv' σ' → Dd.ct σ' M' → Dv.ct σv' H'
  ex : ∀ HI' σv' H' σ' M', Stp HI M H HI' M' H' → REnv K HI' σv' σ' → WOk K W HI' M' H' σv' (fun x M => Dd.ex x σ' M)
theorem Ref.up {K : PySem.W.Frag} {W : WX} {HI HI' : Hp} {M M' : MM} {H H' : Hp} {Dd : DEnds} {Dv : Ends} (r : Ref K W HI M H Dd Dv) (sm : Stp HI M H HI' M' H') : Ref K W HI' M' H' Dd Dv :=
  ⟨fun h a b c d s => r.nx h a b c d (sm.trans s), fun v H' q => r.rt v H' (q.of sm), fun h a b c d s => r.bk h a b c d (sm.trans s), fun h a b c d s => r.ct h a b c d (sm.trans s), fun h a b c d s => r.ex h a b c d (sm.trans s)⟩
def upS (K : PySem.W.Frag) (W : WX) (t : TDS) : TS := fun Dv σv H => ∃ HI σ M Dd, Ok K HI M H ∧ REnv K HI σv σ ∧ t Dd σ M ∧ Ref K W HI M H Dd Dv

/-! ### the judgements -/
abbrev DE (X : Cx) (W : WX) (e : Expr) (t : TD) : Prop := PE X e (upE X.K W t)
abbrev DT (X : Cx) (W : WX) (e : Expr) (t : TDT) : Prop := PT X e (upT X.K W t)
abbrev DW (X : Cx) (W : WX) (e : Expr) (t : TDT) : Prop := PW X e (upT X.K W t)
abbrev DA (X : Cx) (W : WX) (es : List Expr) (t : TDL) : Prop := PA X es (upL X.K W t)
abbrev DS (X : Cx) (W : WX) (st : Stmt) (t : TDS) : Prop := PS X st (upS X.K W t)
abbrev DSs (X : Cx) (W : WX) (st : List Stmt) (t : TDS) : Prop := PSs X st (upS X.K W t)

theorem pe_imp {X : Cx} {e : Expr} {t t' : TE} (h : PE X e t) (k : ∀ σ H Q, t' σ H Q → t σ H Q) : PE X e t' := ⟨fun pins s σ H Q I q => h.run pins s σ H Q I (k σ H Q q)⟩
theorem pt_imp {X : Cx} {e : Expr} {t t' : TT} (h : PT X e t) (k : ∀ σ H Q, t' σ H Q → t σ H Q) : PT X e t' := ⟨fun pins s σ H Q I q => h.run pins s σ H Q I (k σ H Q q)⟩
theorem pw_imp {X : Cx} {e : Expr} {t t' : TT} (h : PW X e t) (k : ∀ σ H Q, t' σ H Q → t σ H Q) : PW X e t' := ⟨fun w pins s σ H Q I q => h.run w pins s σ H Q I (k σ H Q q)⟩
theorem pa_imp {X : Cx} {e : List Expr} {t t' : TA} (h : PA X e t) (k : ∀ σ H Q, t' σ H Q → t σ H Q) : PA X e t' := ⟨fun p pins s σ H Q I q => h.run p pins s σ H Q I (k σ H Q q)⟩
theorem ps_imp {X : Cx} {e : Stmt} {t t' : TS} (h : PS X e t) (k : ∀ σ H Q, t' Q σ H → t Q σ H) : PS X e t' := ⟨fun pins s σ H Q I q => h.run pins s σ H Q I (k σ H Q q)⟩
theorem pss_imp {X : Cx} {e : List Stmt} {t t' : TS} (h : PSs X e t) (k : ∀ σ H Q, t' Q σ H → t Q σ H) : PSs X e t' := ⟨fun pins s σ H Q I q => h.run pins s σ H Q I (k σ H Q q)⟩
end DL

/-! The data layer: expressions. -/
namespace DL
open PySem PySem.Spec L2

section
variable {K : PySem.W.Frag} {HI HI' H : Hp} {M : MM}
theorem low.mk {Q : DK} {v : V} {d : D} (ok : Ok K HI M H) (r : Rep K HI v d) (q : Q d M) : low K HI M H Q v H := ⟨HI, M, d, .refl, ok, r, q⟩
theorem lowB.mk {Q : Bool → MM → Prop} {b : Bool} (ok : Ok K HI M H) (q : Q b M) : lowB K HI M H Q b H := ⟨HI, M, .refl, ok, q⟩
theorem lowL.mk {Q : List D → MM → Prop} {v : List V} {d : List D} (ok : Ok K HI M H) (r : RepL K HI v d) (q : Q d M) : lowL K HI M H Q v H := ⟨HI, M, d, .refl, ok, r, q⟩
end

/-! ### names, constants -/
def tv (i : Nat) : TD := fun σ M Q _ => match σ[i]? with
  | some (some d) => Q d M
  | _ => False
def tk (d : D) : TD := fun _ M Q _ => Q d M
section
variable {X : Cx} {W : WX} {pos : Pos}
theorem d_var (i : Nat) {x : Str} (hN : X.N[i]? = some x := by rfl) (hv : Vis X.env.scope x := by first | exact Or.inl rfl | exact Or.inr (Or.inl rfl) | exact Or.inr (Or.inr rfl)) (hd : (x == ("__debug__" : Str)) = false := by decide)
    (hcd : (x == ("__classdict__" : Str)) = false := by decide) : DE X W (.Name x pos) (tv i) := pe_imp (pe_var hN hv hd hcd) fun σv H Qv h => by
  obtain ⟨HI, σ, M, Q, E, ok, re, h, k, _⟩ := h
  unfold tv at h
  split at h
  · rename_i d e
    obtain ⟨v, e1, r⟩ := re.get e
    exact ⟨v, e1, k v H (.mk ok r h)⟩
  · exact h.elim
theorem d_k {e : Expr} {v : V} {d : D} (h : PE X e (tC v)) (r : ∀ H, Rep X.K H v d) : DE X W e (tk d) := pe_imp h fun σv H Qv h => by
  obtain ⟨HI, σ, M, Q, E, ok, re, h, k, _⟩ := h
  exact k v H (.mk ok (r _) h)
theorem d_int {i j} : DE X W (.Constant (.int i) j pos) (tk (.int i)) := d_k pe_int fun _ => .int i
theorem d_bl {i j} : DE X W (.Constant (.bool i) j pos) (tk (.bl i)) := d_k pe_bl fun _ => .bl i
theorem d_non {j} : DE X W (.Constant .none j pos) (tk .non) := d_k pe_non fun _ => .non
theorem d_str {i j} : DE X W (.Constant (.str i) j pos) (tk (.str i)) := d_k pe_str fun _ => .str i
theorem d_glob {x : Str} {v : V} {d : D} {u : Value} (hg : Gl X x) (hm : X.mg x = some u) (r : RelV v u) (rep : ∀ H, Rep X.K H v d) (hd : (x == ("__debug__" : Str)) = false := by decide) : DE X W (.Name x pos) (tk d) := d_k (pe_glob hg hm r hd) rep
/-- int, str, .. as values -/
theorem d_ty {x : Str} {n : String} (hg : Gl X x) (hm : X.mg x = none) (hv : bootBuiltins x = some (.type n)) (hn : x ≠ "__name__" := by decide) (hd : (x == ("__debug__" : Str)) = false := by decide) : DE X W (.Name x pos) (tk (.ty n)) :=
  d_k (pe_bltn (v := .ty n) hg hm hv rfl hn hd) fun _ => .ty n
end

/-! ### operators -/
abbrev RD2 := D → D → MM → DK → Prop
def OpD (K : PySem.W.Frag) (r : R2) (rd : RD2) : Prop := ∀ HI M H x y dx dy Q Qv, Ok K HI M H → Rep K HI x dx → Rep K HI y dy → rd dx dy M Q → (∀ v H', low K HI M H Q v H' → Qv v H') → r x y H Qv
def to2 (rd : RD2) (ta tb : TD) : TD := fun σ M Q E => ta σ M (fun x M1 => tb σ M1 (fun y M2 => rd x y M2 Q) E) E
section
variable {X : Cx} {W : WX} {pos : Pos} {a b c : Expr} {ta tb' tc : TD}
theorem up2 {r : R2} {rd : RD2} (hr : OpD X.K r rd) : ∀ σv H Qv, upE X.K W (to2 rd ta tb') σv H Qv → tOp r (upE X.K W ta) (upE X.K W tb') σv H Qv := fun σv H Qv h => by
  obtain ⟨HI, σ, M, Q, E, ok, re, h, k, we⟩ := h
  refine ⟨HI, σ, M, _, E, ok, re, h, fun v H1 ⟨HI1, M1, d1, s1, ok1, r1, h1⟩ => ?_, we⟩
  refine ⟨HI1, σ, M1, _, E, ok1, re.up s1.sm, h1, fun v2 H2 ⟨HI2, M2, d2, s2, ok2, r2, h2⟩ => ?_, we.up s1⟩
  exact hr HI2 M2 H2 v v2 d1 d2 Q Qv ok2 (r1.up s2.sm) r2 h2 fun v' H' q => k v' H' (q.of (s1.trans s2))
theorem d_bin {op : Operator} {r : R2} {rd : RD2} (ho : OpR X (binaryOp op) r) (hr : OpD X.K r rd) (ha : DE X W a ta) (hb : DE X W b tb') : DE X W (.BinOp a op b pos) (to2 rd ta tb') := pe_imp (pe_op ho ha hb) (up2 hr)
theorem d_cmp {op : CmpOp} {r : R2} {rd : RD2} (ho : OpR X (compareOp op) r) (hr : OpD X.K r rd) (ha : DE X W a ta) (hb : DE X W b tb') (hm : behindInMarks op b = false := by first | exact nomark _ | rfl) : DE X W (.Compare a [op] [b] pos) (to2 rd ta tb') := pe_imp (pe_cmpR ho ha hb hm) (up2 hr)
/-- a bool, as a test -/
def tbl (t : TD) : TDT := fun σ M Q E => t σ M (fun x M1 => match x with
  | .bl c => Q c M1
  | _ => False) E
theorem upb {t : TD} : ∀ σv H (Qv : Bool → Hp → Prop), upT X.K W (tbl t) σv H Qv → tB (upE X.K W t) σv H Qv := fun σv H Qv h => by
  obtain ⟨HI, σ, M, Q, E, ok, re, h, k, we⟩ := h
  refine ⟨HI, σ, M, _, E, ok, re, h, fun v H1 ⟨HI1, M1, d1, s1, ok1, r1, h1⟩ => ?_, we⟩
  cases r1 with
  | bl c => exact ⟨c, rfl, k _ _ ⟨HI1, M1, s1, ok1, h1⟩⟩
  | _ => exact h1.elim
/-- a comparison, a call, a name as a test -/
theorem t_val {e : Expr} {t : TD} (h : DE X W e t) (he : ∀ whole, isTrue e X.env whole = (do let v ← whole; standAt e.pos; holding [v] (truthy v)) := by intro _; rfl) : DT X W e (tbl t) := pt_imp (pt_val h he) upb
theorem t_cmp {op : CmpOp} {r : R2} {rd : RD2} (ho : OpR X (compareOp op) r) (hr : OpD X.K r rd) (ha : DE X W a ta) (hb : DE X W b tb') (hm : behindInMarks op b = false := by first | exact nomark _ | rfl) : DT X W (.Compare a [op] [b] pos) (tbl (to2 rd ta tb')) :=
  pt_imp (pt_cmpR ho ha hb hm) fun σv H Qv h => by
    obtain ⟨HI, σ, M, Q, E, ok, re, h, k, we⟩ := h
    refine up2 hr σv H _ ⟨HI, σ, M, _, E, ok, re, h, fun v H1 ⟨HI1, M1, d1, s1, ok1, r1, h1⟩ => ?_, we⟩
    cases r1 with
    | bl c => exact ⟨c, rfl, k _ _ ⟨HI1, M1, s1, ok1, h1⟩⟩
    | _ => exact h1.elim
/-- a < b <= c -/
def tch (r1 r2 : RD2) (ta tb tc : TD) : TD := fun σ M Q E => ta σ M (fun x M1 => tb σ M1 (fun y M2 => r1 x y M2 (fun z M3 => match z with
  | .bl c => if c = true then tc σ M3 (fun u M4 => r2 y u M4 Q) E else Q (.bl false) M3
  | _ => False)) E) E
/-! and, or, not -/
def tand (t u : TDT) : TDT := fun σ M Q E => t σ M (fun c M1 => if c = true then u σ M1 Q E else Q false M1) E
def tor (t u : TDT) : TDT := fun σ M Q E => t σ M (fun c M1 => if c = true then Q true M1 else u σ M1 Q E) E
def tnot (t : TDT) : TDT := fun σ M Q E => t σ M (fun c M1 => Q (!c) M1) E
variable {rest : List Expr} {tA tB' : TDT}
theorem w_and1 (ha : DT X W a tA) : DW X W (.BoolOp .And [a] pos) tA := pw_imp (pw_and1 ha) fun _ _ _ h => h
theorem w_or1 (ha : DT X W a tA) : DW X W (.BoolOp .Or [a] pos) tA := pw_imp (pw_or1 ha) fun _ _ _ h => h
theorem w_and (ha : DT X W a tA) (hb : DW X W (.BoolOp .And (b :: rest) pos) tB') : DW X W (.BoolOp .And (a :: b :: rest) pos) (tand tA tB') := pw_imp (pw_and ha hb) fun σv H Qv h => by
  obtain ⟨HI, σ, M, Q, E, ok, re, h, k, we⟩ := h
  refine ⟨HI, σ, M, _, E, ok, re, h, fun c H1 ⟨HI1, M1, s1, ok1, h1⟩ => ?_, we⟩
  cases c with
  | true => exact ⟨HI1, σ, M1, Q, E, ok1, re.up s1.sm, h1, fun v H' ⟨h2, m2, s2, q⟩ => k v H' ⟨h2, m2, s1.trans s2, q⟩, we.up s1⟩
  | false => exact k _ _ ⟨HI1, M1, s1, ok1, h1⟩
theorem w_or (ha : DT X W a tA) (hb : DW X W (.BoolOp .Or (b :: rest) pos) tB') : DW X W (.BoolOp .Or (a :: b :: rest) pos) (tor tA tB') := pw_imp (pw_or ha hb) fun σv H Qv h => by
  obtain ⟨HI, σ, M, Q, E, ok, re, h, k, we⟩ := h
  refine ⟨HI, σ, M, _, E, ok, re, h, fun c H1 ⟨HI1, M1, s1, ok1, h1⟩ => ?_, we⟩
  cases c with
  | false => exact ⟨HI1, σ, M1, Q, E, ok1, re.up s1.sm, h1, fun v H' ⟨h2, m2, s2, q⟩ => k v H' ⟨h2, m2, s1.trans s2, q⟩, we.up s1⟩
  | true => exact k _ _ ⟨HI1, M1, s1, ok1, h1⟩
theorem t_w {e : Expr} (h : DW X W e tA) : DT X W e tA := PW.pt h
theorem t_not (ha : DT X W a tA) : DT X W (.UnaryOp .Not a pos) (tnot tA) := pt_imp (pt_not ha) fun σv H Qv h => by
  obtain ⟨HI, σ, M, Q, E, ok, re, h, k, we⟩ := h
  exact ⟨HI, σ, M, _, E, ok, re, h, fun c H1 ⟨HI1, M1, s1, ok1, h1⟩ => k _ _ ⟨HI1, M1, s1, ok1, h1⟩, we⟩
/-! .. as values -/
def vand (t u : TD) : TD := fun σ M Q E => t σ M (fun x M1 => match x with
  | .bl c => if c = true then u σ M1 Q E else Q (.bl false) M1
  | _ => False) E
def vor (t u : TD) : TD := fun σ M Q E => t σ M (fun x M1 => match x with
  | .bl c => if c = true then Q (.bl true) M1 else u σ M1 Q E
  | _ => False) E
def vnot (t : TD) : TD := fun σ M Q E => t σ M (fun x M1 => match x with
  | .bl c => Q (.bl (!c)) M1
  | _ => False) E
theorem d_one {op} {t : TD} (h : DE X W a t) : DE X W (.BoolOp op [a] pos) t := pe_one h
theorem d_and {u : TD} (ha : DE X W a ta) (hb : DE X W (.BoolOp .And (b :: rest) pos) u) : DE X W (.BoolOp .And (a :: b :: rest) pos) (vand ta u) := pe_imp (pe_and ha hb) fun σv H Qv h => by
  obtain ⟨HI, σ, M, Q, E, ok, re, h, k, we⟩ := h
  refine ⟨HI, σ, M, _, E, ok, re, h, fun v H1 ⟨HI1, M1, d1, s1, ok1, r1, h1⟩ => ?_, we⟩
  cases r1 with
  | bl c =>
    refine ⟨c, rfl, ?_⟩
    cases c with
    | true => exact ⟨HI1, σ, M1, Q, E, ok1, re.up s1.sm, h1, fun v H' q => k v H' (q.of s1), we.up s1⟩
    | false => exact k _ _ ⟨HI1, M1, _, s1, ok1, .bl _, h1⟩
  | _ => exact h1.elim
theorem d_or {u : TD} (ha : DE X W a ta) (hb : DE X W (.BoolOp .Or (b :: rest) pos) u) : DE X W (.BoolOp .Or (a :: b :: rest) pos) (vor ta u) := pe_imp (pe_or ha hb) fun σv H Qv h => by
  obtain ⟨HI, σ, M, Q, E, ok, re, h, k, we⟩ := h
  refine ⟨HI, σ, M, _, E, ok, re, h, fun v H1 ⟨HI1, M1, d1, s1, ok1, r1, h1⟩ => ?_, we⟩
  cases r1 with
  | bl c =>
    refine ⟨c, rfl, ?_⟩
    cases c with
    | false => exact ⟨HI1, σ, M1, Q, E, ok1, re.up s1.sm, h1, fun v H' q => k v H' (q.of s1), we.up s1⟩
    | true => exact k _ _ ⟨HI1, M1, _, s1, ok1, .bl _, h1⟩
  | _ => exact h1.elim
theorem d_not (ha : DE X W a ta) : DE X W (.UnaryOp .Not a pos) (vnot ta) := pe_imp (pe_not ha) fun σv H Qv h => by
  obtain ⟨HI, σ, M, Q, E, ok, re, h, k, we⟩ := h
  refine ⟨HI, σ, M, _, E, ok, re, h, fun v H1 ⟨HI1, M1, d1, s1, ok1, r1, h1⟩ => ?_, we⟩
  cases r1 with
  | bl c => exact ⟨c, rfl, k _ _ ⟨HI1, M1, _, s1, ok1, .bl _, h1⟩⟩
  | _ => exact h1.elim
/-- a if t else b -/
def tif (t : TDT) (ta tb : TD) : TD := fun σ M Q E => t σ M (fun c M1 => if c = true then ta σ M1 Q E else tb σ M1 Q E) E
theorem d_if (hc : DT X W c tA) (ha : DE X W a ta) (hb : DE X W b tb') : DE X W (.IfExp c a b pos) (tif tA ta tb') := pe_imp (pe_ifExp hc ha hb) fun σv H Qv h => by
  obtain ⟨HI, σ, M, Q, E, ok, re, h, k, we⟩ := h
  refine ⟨HI, σ, M, _, E, ok, re, h, fun c H1 ⟨HI1, M1, s1, ok1, h1⟩ => ?_, we⟩
  cases c with
  | true => exact ⟨HI1, σ, M1, Q, E, ok1, re.up s1.sm, h1, fun v H' q => k v H' (q.of s1), we.up s1⟩
  | false => exact ⟨HI1, σ, M1, Q, E, ok1, re.up s1.sm, h1, fun v H' q => k v H' (q.of s1), we.up s1⟩
theorem upch {r r' : R2} {rd rd' : RD2} (hr : OpD X.K r rd) (hr' : OpD X.K r' rd') : ∀ σv H Qv, upE X.K W (tch rd rd' ta tb' tc) σv H Qv → tChain r r' (upE X.K W ta) (upE X.K W tb') (upE X.K W tc) σv H Qv := fun σv H Qv h => by
  obtain ⟨HI, σ, M, Q, E, ok, re, h, k, we⟩ := h
  refine ⟨HI, σ, M, _, E, ok, re, h, fun v H1 ⟨HI1, M1, d1, s1, ok1, r1, h1⟩ => ?_, we⟩
  refine ⟨HI1, σ, M1, _, E, ok1, re.up s1.sm, h1, fun v2 H2 ⟨HI2, M2, d2, s2, ok2, r2, h2⟩ => ?_, we.up s1⟩
  refine hr HI2 M2 H2 v v2 d1 d2 _ _ ok2 (r1.up s2.sm) r2 h2 fun z H3 ⟨HI3, M3, d3, s3, ok3, r3, h3⟩ => ?_
  cases r3 with
  | bl c =>
    refine ⟨c, rfl, ?_⟩
    cases c with
    | true =>
      refine ⟨HI3, σ, M3, _, E, ok3, re.up ((s1.trans s2).trans s3).sm, h3, fun u H4 ⟨HI4, M4, d4, s4, ok4, r4, h4⟩ => ?_, we.up ((s1.trans s2).trans s3)⟩
      exact hr' HI4 M4 H4 v2 u d2 d4 Q Qv ok4 ((r2.up s3.sm).up s4.sm) r4 h4 fun v' H' q => k v' H' (q.of (((s1.trans s2).trans s3).trans s4))
    | false => exact k _ _ ⟨HI3, M3, _, (s1.trans s2).trans s3, ok3, .bl _, h3⟩
  | _ => exact h3.elim
theorem d_ch {op op' : CmpOp} {r r' : R2} {rd rd' : RD2} (ho : OpR X (compareOp op) r) (ho' : OpR X (compareOp op') r') (hr : OpD X.K r rd) (hr' : OpD X.K r' rd') (ha : DE X W a ta) (hb : DE X W b tb') (hc : DE X W c tc)
    (hm : lastMarks [op, op'] [b, c] = false := by with_unfolding_all rfl) : DE X W (.Compare a [op, op'] [b, c] pos) (tch rd rd' ta tb' tc) := pe_imp (pe_chain ho ho' ha hb hc hm) (upch hr hr')
theorem t_ch {op op' : CmpOp} {r r' : R2} {rd rd' : RD2} (ho : OpR X (compareOp op) r) (ho' : OpR X (compareOp op') r') (hr : OpD X.K r rd) (hr' : OpD X.K r' rd') (ha : DE X W a ta) (hb : DE X W b tb') (hc : DE X W c tc)
    (hm : lastMarks [op, op'] [b, c] = false := by with_unfolding_all rfl) : DT X W (.Compare a [op, op'] [b, c] pos) (tbl (tch rd rd' ta tb' tc)) := pt_imp (pt_chain ho ho' ha hb hc hm) fun σv H Qv h => by
  obtain ⟨HI, σ, M, Q, E, ok, re, h, k, we⟩ := h
  refine upch hr hr' σv H _ ⟨HI, σ, M, _, E, ok, re, h, fun v H1 ⟨HI1, M1, d1, s1, ok1, r1, h1⟩ => ?_, we⟩
  cases r1 with
  | bl c => exact ⟨c, rfl, k _ _ ⟨HI1, M1, s1, ok1, h1⟩⟩
  | _ => exact h1.elim
end
end DL

/-! The data layer: operators, comparisons, built-in calls. -/
namespace DL
open PySem PySem.Spec L2

/-! ### deep data as the library's -/
mutual
def D.py : D → PyData
  | .non => .none
  | .bl b => .bool b
  | .int i => .int i
  | .str x => .str x
  | .ty _ => .none
  | .ref _ => .none
  | .lst ds => .list (pyL ds)
  | .tup ds => .tuple (pyL ds)
def pyL : List D → List PyData
  | [] => []
  | d :: ds => d.py :: pyL ds
end
/-- of a depth, its texts sound -/
def D.nice : Nat → D → Bool
  | _, .non => true
  | _, .bl _ => true
  | _, .int _ => true
  | _, .str x => PyData.strOk x
  | n + 1, .lst ds => ds.all (D.nice n)
  | n + 1, .tup ds => ds.all (D.nice n)
  | _, _ => false
theorem nice_facts : ∀ (n : Nat) (d : D), d.nice n = true → PyData.canLay0 d.py = true ∧ d.py.depth ≤ n ∧ ∀ K H v, Rep K H v d → Dp K H v d.py := by
  intro n
  induction n with
  | zero =>
    intro d h
    cases d with
    | non => exact ⟨by simp [D.py, PyData.canLay0], by simp [D.py, PyData.depth], fun K H v r => by cases r; exact .non⟩
    | bl b => exact ⟨by simp [D.py, PyData.canLay0], by simp [D.py, PyData.depth], fun K H v r => by cases r; exact .bl _⟩
    | int b => exact ⟨by simp [D.py, PyData.canLay0], by simp [D.py, PyData.depth], fun K H v r => by cases r; exact .int _⟩
    | str b => exact ⟨by simp only [D.py, PyData.canLay0]; exact h, by simp [D.py, PyData.depth], fun K H v r => by cases r; exact .str _⟩
    | ty b => cases h
    | ref b => cases h
    | lst b => cases h
    | tup b => cases h
  | succ n ih =>
    have all : ∀ ds : List D, ds.all (D.nice n) = true → PyData.canLayAll0 (pyL ds) = true ∧ PyData.depthAll (pyL ds) ≤ n ∧ ∀ K H vs, RepL K H vs ds → DpAll K H vs (pyL ds) := by
      intro ds
      induction ds with
      | nil => intro _; exact ⟨by simp [pyL, PyData.canLayAll0], by simp [pyL, PyData.depthAll], fun K H vs r => by cases r; exact .nil⟩
      | cons d ds ih2 =>
        intro h
        simp only [List.all_cons, Bool.and_eq_true] at h
        obtain ⟨a1, a2, a3⟩ := ih d h.1
        obtain ⟨b1, b2, b3⟩ := ih2 h.2
        refine ⟨by simp only [pyL, PyData.canLayAll0, a1, b1, Bool.and_self], by simp only [pyL, PyData.depthAll]; omega, fun K H vs r => ?_⟩
        cases r with
        | cons r1 r2 => exact .cons (a3 _ _ _ r1) (b3 _ _ _ r2)
    intro d h
    cases d with
    | non => exact ⟨by simp [D.py, PyData.canLay0], by simp [D.py, PyData.depth], fun K H v r => by cases r; exact .non⟩
    | bl b => exact ⟨by simp [D.py, PyData.canLay0], by simp [D.py, PyData.depth], fun K H v r => by cases r; exact .bl _⟩
    | int b => exact ⟨by simp [D.py, PyData.canLay0], by simp [D.py, PyData.depth], fun K H v r => by cases r; exact .int _⟩
    | str b => exact ⟨by simp only [D.py, PyData.canLay0]; exact h, by simp [D.py, PyData.depth], fun K H v r => by cases r; exact .str _⟩
    | ty b => cases h
    | ref b => cases h
    | lst ds =>
      obtain ⟨b1, b2, b3⟩ := all ds h
      refine ⟨by simp only [D.py, PyData.canLay0]; exact b1, by simp only [D.py, PyData.depth]; omega, fun K H v r => ?_⟩
      cases r with
      | lst h1 h2 => exact .lst h1.sq (b3 _ _ _ h2)
    | tup ds =>
      obtain ⟨b1, b2, b3⟩ := all ds h
      refine ⟨by simp only [D.py, PyData.canLay0]; exact b1, by simp only [D.py, PyData.depth]; omega, fun K H v r => ?_⟩
      cases r with
      | tup h1 h2 => exact .tup h1 (b3 _ _ _ h2)
theorem nice_shaped {d : D} (h : d.nice 16 = true) : SeqAt.shaped d.py = true := by
  obtain ⟨a, b, _⟩ := nice_facts 16 d h
  unfold SeqAt.shaped
  rw [a, decide_eq_true (by omega : d.py.depth ≤ 64)]
  rfl
def eqvD (x y : D) : Bool := PyData.eqv x.py y.py
theorem eqvD_refl {d : D} (h : d.nice 16 = true) : eqvD d d = true := SeqAt.eqv_refl d.py (nice_facts 16 d h).1

/-! ### new things -/
section
variable {K : PySem.W.Frag} {HI H : Hp} {M : MM} {p : Addr} {Q : DK}
theorem low.lst {xs : List V} {ds : List D} (ok : Ok K HI M H) (r : RepL K HI xs ds) (h : H p = none) (q : Q (.lst ds) M) : low K HI M H Q (.ref p) (upd H p (.lst xs)) := by
  obtain ⟨ok', sm⟩ := ok.newI (o := .lst xs) h
  exact ⟨_, M, _, .newI (ok.free h).1 h, ok', .lst (.of upd_same) (r.up sm), q⟩
theorem low.tup {xs : List V} {ds : List D} (ok : Ok K HI M H) (r : RepL K HI xs ds) (h : H p = none) (q : Q (.tup ds) M) : low K HI M H Q (.ref p) (upd H p (.tup xs)) := by
  obtain ⟨ok', sm⟩ := ok.newI (o := .tup xs) h
  exact ⟨_, M, _, .newI (ok.free h).1 h, ok', .tup (.of upd_same) (r.up sm), q⟩
theorem low.lstM {xs : List V} {ds : List D} (ok : Ok K HI M H) (r : RepL K HI xs ds) (h : H p = none) (q : Q (.ref p) (mput M p (.lst ds))) : low K HI M H Q (.ref p) (upd H p (.lst xs)) :=
  ⟨HI, _, _, .newM h, ok.newM (m := .lst ds) (ok.free h).1 (show MRep K HI _ p (.lst ds) from ⟨_, upd_same, r⟩), .ref p, q⟩
end

/-! ### + - * // % ** -/
section
variable {X : Cx}
def rCatL (K : PySem.W.Frag) : R2 := fun x y H Q => ∃ l b xs zs, x = .ref l ∧ y = .ref b ∧ LL K H l xs ∧ LL K H b zs ∧ xs.length + zs.length ≤ sizeLine ∧ ∀ p, H p = none → Q (.ref p) (upd H p (.lst (xs ++ zs)))
theorem op_catL : OpR X (binaryOp .Add) (rCatL X.K) := by
  intro pins s σ H x y v u Q I rx ry h
  obtain ⟨l, b, xs, zs, rfl, rfl, hH, hB, hz, q⟩ := h
  cases rx
  cases ry
  obtain ⟨its, n, r, hl, e, _⟩ := ll_at I hH
  obtain ⟨its2, n2, r2, hl2, e2, _⟩ := ll_at I hB
  refine PySem.P.add_list e e2 ?_ (by rw [List.size_toArray, List.size_toArray]; omega)
  have ea : its.toArray ++ its2.toArray = (its ++ its2).toArray := by simp
  rw [ea]
  exact ⟨.ref _, _, I.lnew (t' := s.toks) (r.append r2) (by rw [List.length_append]; omega), rfl, q _ I.fresh⟩
def rdAdd : RD2 := fun x y M Q => match x, y with
  | .int i, .int j => Q (.int (i + j)) M
  | .str a, .str b => a.length + b.length ≤ sizeLine ∧ Q (.str (a ++ b)) M
  | .lst a, .lst b => a.length + b.length ≤ sizeLine ∧ Q (.lst (a ++ b)) M
  | .tup a, .tup b => a.length + b.length ≤ sizeLine ∧ Q (.tup (a ++ b)) M
  | _, _ => False
def rAddA (K : PySem.W.Frag) : R2 := fun x y H Q => rI0 (fun i j => .int (i + j)) x y H Q ∨ (∃ i j, x = .str i ∧ y = .str j ∧ i.length + j.length ≤ sizeLine ∧ Q (.str (i ++ j)) H) ∨ rCatA K x y H Q ∨ rCatL K x y H Q
theorem o_add : OpR X (binaryOp .Add) (rAddA X.K) := op_add.or (op_add_str.or (op_catA.or op_catL))
theorem od_add {K : PySem.W.Frag} : OpD K (rAddA K) rdAdd := by
  intro HI M H x y dx dy Q Qv ok rx ry h k
  cases rx with
  | int i =>
    cases ry with
    | int j => exact .inl ⟨i, j, rfl, rfl, k _ _ (.mk ok (.int _) h)⟩
    | _ => exact h.elim
  | str a =>
    cases ry with
    | str b => exact .inr (.inl ⟨a, b, rfl, rfl, h.1, k _ _ (.mk ok (.str _) h.2)⟩)
    | _ => exact h.elim
  | lst h1 r1 =>
    cases ry with
    | lst h2 r2 => exact .inr (.inr (.inr ⟨_, _, _, _, rfl, rfl, h1.up ok.same, h2.up ok.same, by rw [r1.len, r2.len]; exact h.1, fun p hp => k _ _ (.lst ok (r1.app r2) hp h.2)⟩))
    | _ => exact h.elim
  | tup h1 r1 =>
    cases ry with
    | tup h2 r2 =>
      refine .inr (.inr (.inl ⟨_, _, _, _, rfl, rfl, same_t ok.same h1, same_t ok.same h2, by rw [r1.len, r2.len]; exact h.1, fun e => ?_, fun _ e => ?_, fun _ _ p hp => k _ _ (.tup ok (r1.app r2) hp h.2)⟩))
      · subst e
        cases r1
        exact k _ _ (.mk ok (.tup h2 r2) h.2)
      · subst e
        cases r2
        refine k _ _ (.mk ok (.tup h1 r1) ?_)
        have q := h.2
        rw [List.append_nil] at q
        exact q
    | _ => exact h.elim
  | _ => exact h.elim
def rdI (C : Int → Int → Prop) (g : Int → Int → D) : RD2 := fun x y M Q => match x, y with
  | .int i, .int j => C i j ∧ Q (g i j) M
  | _, _ => False
theorem od_I {K : PySem.W.Frag} {C : Int → Int → Prop} {g : Int → Int → V} {gd : Int → Int → D} (hg : ∀ H i j, Rep K H (g i j) (gd i j)) : OpD K (rI C g) (rdI C gd) := by
  intro HI M H x y dx dy Q Qv ok rx ry h k
  cases rx with
  | int i =>
    cases ry with
    | int j => exact ⟨i, j, rfl, rfl, h.1, k _ _ (.mk ok (hg _ _ _) h.2)⟩
    | _ => exact h.elim
  | _ => exact h.elim
def rdI0 (g : Int → Int → D) : RD2 := fun x y M Q => match x, y with
  | .int i, .int j => Q (g i j) M
  | _, _ => False
theorem od_I0 {K : PySem.W.Frag} {g : Int → Int → V} {gd : Int → Int → D} (hg : ∀ H i j, Rep K H (g i j) (gd i j)) : OpD K (rI0 g) (rdI0 gd) := by
  intro HI M H x y dx dy Q Qv ok rx ry h k
  cases rx with
  | int i =>
    cases ry with
    | int j => exact ⟨i, j, rfl, rfl, k _ _ (.mk ok (hg _ _ _) h)⟩
    | _ => exact h.elim
  | _ => exact h.elim
abbrev rdSub : RD2 := rdI0 fun i j => .int (i - j)
theorem od_sub {K : PySem.W.Frag} : OpD K (rI0 fun i j => .int (i - j)) rdSub := od_I0 fun _ _ _ => .int _
abbrev rdDiv : RD2 := rdI CDivW fun i j => .int (i / j)
theorem od_div {K : PySem.W.Frag} : OpD K (rI CDivW fun i j => .int (i / j)) rdDiv := od_I fun _ _ _ => .int _
abbrev rdMod : RD2 := rdI (fun _ j => 0 < j) fun i j => .int (i % j)
theorem od_mod {K : PySem.W.Frag} : OpD K (rI (fun _ j => 0 < j) fun i j => .int (i % j)) rdMod := od_I fun _ _ _ => .int _
abbrev rdPow : RD2 := rdI CPow fun i j => .int (i ^ j.toNat)
theorem od_pow {K : PySem.W.Frag} : OpD K (rI CPow fun i j => .int (i ^ j.toNat)) rdPow := od_I fun _ _ _ => .int _
/-! * -/
def rRepL (K : PySem.W.Frag) : R2 := fun x y H Q => ∃ l k xs, x = .ref l ∧ y = .int k ∧ LL K H l xs ∧ -(2 ^ 63) ≤ k ∧ k < 2 ^ 63 ∧ xs.length * k.toNat ≤ sizeLine ∧
  ∀ p, H p = none → Q (.ref p) (upd H p (.lst (List.replicate k.toNat xs).flatten))
theorem op_repL : OpR X (binaryOp .Mult) (rRepL X.K) := by
  intro pins s σ H x y v u Q I rx ry h
  obtain ⟨l, k, xs, rfl, rfl, hH, h1, h2, hz, q⟩ := h
  cases rx
  obtain ⟨t, rfl⟩ := ry
  obtain ⟨its, n, r, hl, e, _⟩ := ll_at I hH
  have sz : its.toArray.size * k.toNat ≤ sizeLine := by rw [List.size_toArray, ← hl]; exact hz
  have c1 : ¬ its.toArray.size * k.toNat > (2 ^ 63 - 1) / 8 := by
    have big : (sizeLine : Nat) ≤ (2 ^ 63 - 1) / 8 := by decide
    omega
  have c2 : ¬ (!Builtin.List.listFitsIndex k) = true := by rw [fitsIndex_both h1 h2]; simp
  have c3 : ¬ Builtin.List.listTooLong (its.toArray.size * k.toNat) = true := by rw [notLongL sz]; simp
  have new : List.foldl (fun x1 x2 => x1 ++ x2) #[] (List.replicate (if its.toArray.isEmpty = true then 0 else k.toNat) its.toArray) = (List.replicate k.toNat its).flatten.toArray := by
    have g : ∀ m : Nat, List.foldl (fun x1 x2 => x1 ++ x2) #[] (List.replicate m its.toArray) = (List.replicate m its).flatten.toArray := fun m => by simpa using foldl_rep its m []
    rw [g]
    cases its with
    | nil => simp
    | cons a r' => rw [if_neg (by simp)]
  refine wpAny_binaryOp_repeat_ref (T := "list") (U := "int") (by decide) ⟨_, e, rfl⟩ (fun s' => typeIs_int s' k t) noFill_list_mul F.fills_int_mul F.slot_int_rmul repeat_list F.slot_int_index.lookup ?_
  refine call_meets F.slot_int_rmul (typeIs_int s k t) F.entry_int_rmul (F.args_int_rmul_2 _ _) (int___rmul___int_list k t l its.toArray n) ⟨e, rfl, ⟨_, e, rfl⟩, ?_⟩
  refine call_meets F.slot_list_mul ⟨_, e, rfl⟩ F.entry_list_mul (F.args_list_mul_2 _ _) (AutoListH.list___mul___list_int_3 l its.toArray n k t c2 c1 c3) ⟨e, ?_⟩
  rw [new]
  exact ⟨.ref _, _, I.lnew (t' := s.toks) (r.rep k.toNat) (by rw [PyProof.Rows.lm_len_rep_flat, Nat.mul_comm]; exact hz), rfl, q _ I.fresh⟩
theorem op_mulS : OpR X (binaryOp .Mult) (fun x y H Q => ∃ a k, x = .str a ∧ y = .int k ∧ MulOk a k ∧ Q (.str (Txt.mul a k)) H) := by
  intro pins s σ H x y v u Q I rx ry h
  obtain ⟨a, k, rfl, rfl, hc, q⟩ := h
  obtain ⟨t, rfl⟩ := rx
  obtain ⟨t', rfl⟩ := ry
  exact PySem.SB.mul hc fun t2 k2 => ⟨.str _, H, I.tok _, ⟨_, rfl⟩, q⟩
def rMulA (K : PySem.W.Frag) : R2 := fun x y H Q => rI CMulX (fun i j => .int (i * j)) x y H Q ∨ (∃ a k, x = .str a ∧ y = .int k ∧ MulOk a k ∧ Q (.str (Txt.mul a k)) H) ∨ rRepL K x y H Q
theorem o_mul : OpR X (binaryOp .Mult) (rMulA X.K) := op_mulX.or (op_mulS.or op_repL)
def rdMul : RD2 := fun x y M Q => match x, y with
  | .int i, .int j => CMulX i j ∧ Q (.int (i * j)) M
  | .str a, .int k => MulOk a k ∧ Q (.str (Txt.mul a k)) M
  | .lst a, .int k => -(2 ^ 63) ≤ k ∧ k < 2 ^ 63 ∧ a.length * k.toNat ≤ sizeLine ∧ Q (.lst (List.replicate k.toNat a).flatten) M
  | _, _ => False
theorem od_mul {K : PySem.W.Frag} : OpD K (rMulA K) rdMul := by
  intro HI M H x y dx dy Q Qv ok rx ry h k
  cases rx with
  | int i =>
    cases ry with
    | int j => exact .inl ⟨i, j, rfl, rfl, h.1, k _ _ (.mk ok (.int _) h.2)⟩
    | _ => exact h.elim
  | str a =>
    cases ry with
    | int b => exact .inr (.inl ⟨a, b, rfl, rfl, h.1, k _ _ (.mk ok (.str _) h.2)⟩)
    | _ => exact h.elim
  | lst h1 r1 =>
    cases ry with
    | int j => exact .inr (.inr ⟨_, _, _, rfl, rfl, h1.up ok.same, h.1, h.2.1, by rw [r1.len]; exact h.2.2.1, fun p hp => k _ _ (.lst ok (r1.rep _) hp h.2.2.2)⟩)
    | _ => exact h.elim
  | _ => exact h.elim
end

/-! ### comparisons -/
section
variable {X : Cx}
abbrev rdLt : RD2 := rdI0 fun i j => .bl (decide (i < j))
abbrev rdLe : RD2 := rdI0 fun i j => .bl (decide (i ≤ j))
abbrev rdGt : RD2 := rdI0 fun i j => .bl (decide (j < i))
abbrev rdGe : RD2 := rdI0 fun i j => .bl (decide (j ≤ i))
theorem od_lt {K : PySem.W.Frag} : OpD K (rI0 fun i j => .bl (decide (i < j))) rdLt := od_I0 fun _ _ _ => .bl _
theorem od_le {K : PySem.W.Frag} : OpD K (rI0 fun i j => .bl (decide (i ≤ j))) rdLe := od_I0 fun _ _ _ => .bl _
theorem od_gt {K : PySem.W.Frag} : OpD K (rI0 fun i j => .bl (decide (j < i))) rdGt := od_I0 fun _ _ _ => .bl _
theorem od_ge {K : PySem.W.Frag} : OpD K (rI0 fun i j => .bl (decide (j ≤ i))) rdGe := od_I0 fun _ _ _ => .bl _
/-- == of data -/
def eqS (x y : D) : Option Bool := match x, y with
  | .int i, .int j => some (decide (i = j))
  | .str i, .str j => some (decide (i = j))
  | .bl i, .bl j => some (decide (i = j))
  | .non, .non => some true
  | _, _ => none
def rdEq : RD2 := fun x y M Q => match eqS x y with
  | some b => Q (.bl b) M
  | none => (x.nice 16 && y.nice 16) = true ∧ Q (.bl (eqvD x y)) M
def rdNe : RD2 := fun x y M Q => match eqS x y with
  | some b => Q (.bl (!b)) M
  | none => (x.nice 16 && y.nice 16) = true ∧ Q (.bl (!eqvD x y)) M
theorem o_eq (hu : X.A.units + 64 < cLine) : OpR X (compareOp .Eq) (fun x y H Q => rEq x y H Q ∨ rEqD X.K x y H Q) := op_eq.or (op_eqD hu)
theorem o_ne (hu : X.A.units + 64 < cLine) : OpR X (compareOp .NotEq) (fun x y H Q => rNe x y H Q ∨ rNeD X.K x y H Q) := op_ne.or (op_neD hu)
theorem eqS_rep {K : PySem.W.Frag} {H : Hp} {x y : V} {dx dy : D} {b : Bool} (rx : Rep K H x dx) (ry : Rep K H y dy) (e : eqS dx dy = some b) : scal x y = true ∧ decide (x = y) = b := by
  cases rx <;> cases ry <;> simp only [eqS] at e <;> first
    | (cases e; exact ⟨rfl, by first | rfl | simp⟩)
    | cases e
theorem od_eq {K : PySem.W.Frag} : OpD K (fun x y H Q => rEq x y H Q ∨ rEqD K x y H Q) rdEq := by
  intro HI M H x y dx dy Q Qv ok rx ry h k
  unfold rdEq at h
  split at h
  · rename_i b e
    obtain ⟨h1, h2⟩ := eqS_rep rx ry e
    exact .inl ⟨h1, by rw [h2]; exact k _ _ (.mk ok (.bl _) h)⟩
  · obtain ⟨hn, q⟩ := h
    rw [Bool.and_eq_true] at hn
    exact .inr ⟨dx.py, dy.py, (nice_facts 16 dx hn.1).2.2 _ _ _ (rx.up ok.same), (nice_facts 16 dy hn.2).2.2 _ _ _ (ry.up ok.same), nice_shaped hn.1, nice_shaped hn.2, k _ _ (.mk ok (.bl _) q)⟩
theorem od_ne {K : PySem.W.Frag} : OpD K (fun x y H Q => rNe x y H Q ∨ rNeD K x y H Q) rdNe := by
  intro HI M H x y dx dy Q Qv ok rx ry h k
  unfold rdNe at h
  split at h
  · rename_i b e
    obtain ⟨h1, h2⟩ := eqS_rep rx ry e
    exact .inl ⟨h1, by rw [h2]; exact k _ _ (.mk ok (.bl _) h)⟩
  · obtain ⟨hn, q⟩ := h
    rw [Bool.and_eq_true] at hn
    exact .inr ⟨dx.py, dy.py, (nice_facts 16 dx hn.1).2.2 _ _ _ (rx.up ok.same), (nice_facts 16 dy hn.2).2.2 _ _ _ (ry.up ok.same), nice_shaped hn.1, nice_shaped hn.2, k _ _ (.mk ok (.bl _) q)⟩
/-- is None -/
def isN : D → Bool
  | .non => true
  | _ => false
def rdIs : RD2 := fun x y M Q => match y with
  | .non => Q (.bl (isN x)) M
  | _ => False
def rdIsNot : RD2 := fun x y M Q => match y with
  | .non => Q (.bl (!isN x)) M
  | _ => False
theorem isN_rep {K : PySem.W.Frag} {H : Hp} {x : V} {d : D} (r : Rep K H x d) : decide (x = .non) = isN d := by cases r <;> rfl
theorem od_is {K : PySem.W.Frag} : OpD K (fun x y H Q => y = .non ∧ Q (.bl (decide (x = .non))) H) rdIs := by
  intro HI M H x y dx dy Q Qv ok rx ry h k
  cases ry with
  | non => exact ⟨rfl, by rw [isN_rep rx]; exact k _ _ (.mk ok (.bl _) h)⟩
  | _ => exact h.elim
theorem od_isNot {K : PySem.W.Frag} : OpD K (fun x y H Q => y = .non ∧ Q (.bl (!decide (x = .non))) H) rdIsNot := by
  intro HI M H x y dx dy Q Qv ok rx ry h k
  cases ry with
  | non => exact ⟨rfl, by rw [isN_rep rx]; exact k _ _ (.mk ok (.bl _) h)⟩
  | _ => exact h.elim
/-- in: flat things in a list or a tuple; one sign in a text -/
def flatD : D → Bool
  | .non => true
  | .bl _ => true
  | .int _ => true
  | .str _ => true
  | _ => false
def eqF : D → D → Bool
  | .non, .non => true
  | .bl a, .bl b => a == b
  | .bl a, .int b => (if a then 1 else 0) == b
  | .int a, .bl b => a == (if b then 1 else 0)
  | .int a, .int b => a == b
  | .str a, .str b => a == b
  | _, _ => false
def inF (x : D) (ds : List D) : Bool := ds.any fun y => eqF y x
theorem flat_rep {K : PySem.W.Frag} {H : Hp} {x : V} {d : D} (r : Rep K H x d) (f : flatD d = true) : flatV x = true := by cases r <;> first | rfl | cases f
theorem flats_rep {K : PySem.W.Frag} {H : Hp} : ∀ {xs : List V} {ds : List D}, RepL K H xs ds → ds.all flatD = true → xs.all flatV = true
  | _, _, .nil, _ => rfl
  | _, _, .cons r t, f => by
    simp only [List.all_cons, Bool.and_eq_true] at f ⊢
    exact ⟨flat_rep r f.1, flats_rep t f.2⟩
theorem eqF_rep {K : PySem.W.Frag} {H : Hp} {x y : V} {dx dy : D} (rx : Rep K H x dx) (ry : Rep K H y dy) (f : flatD dx = true) (g : flatD dy = true) : eqV x y = eqF dx dy := by
  cases rx <;> cases ry <;> first | rfl | cases f | cases g
theorem inF_rep {K : PySem.W.Frag} {H : Hp} {x : V} {d : D} (rx : Rep K H x d) (f : flatD d = true) : ∀ {xs : List V} {ds : List D}, RepL K H xs ds → ds.all flatD = true → inV x xs = inF d ds
  | _, _, .nil, _ => rfl
  | _, _, .cons r t, g => by
    simp only [List.all_cons, Bool.and_eq_true] at g
    unfold inV inF
    rw [List.any_cons, List.any_cons, eqF_rep r rx g.1 f]
    exact congrArg _ (inF_rep rx f t g.2)
def rdIn (neg : Bool) : RD2 := fun x y M Q => match x, y with
  | .str a, .str z => a.cps.size = 1 ∧ Q (.bl (neg ^^ decide (a.cps.getD 0 0 ∈ z.cps.toList))) M
  | x, .lst ds => (flatD x && ds.all flatD) = true ∧ Q (.bl (neg ^^ inF x ds)) M
  | x, .tup ds => (flatD x && ds.all flatD) = true ∧ Q (.bl (neg ^^ inF x ds)) M
  | _, _ => False
theorem one_sign {a : Str} (h : a.cps.size = 1) : a = ⟨#[a.cps.getD 0 0]⟩ := by
  obtain ⟨c⟩ := a
  obtain ⟨l⟩ := c
  cases l with
  | nil => simp at h
  | cons x r =>
    cases r with
    | nil => simp
    | cons y r => simp at h
theorem o_in : OpR X (compareOp .In) (fun x y H Q => (∃ (c : Nat) (z : Str), x = .str ⟨#[c]⟩ ∧ y = .str z ∧ Q (.bl (decide (c ∈ z.cps.toList))) H) ∨ rIn X.K false x y H Q) := op_in_sign.or op_in_seq
theorem o_notIn : OpR X (compareOp .NotIn) (fun x y H Q => (∃ (c : Nat) (z : Str), x = .str ⟨#[c]⟩ ∧ y = .str z ∧ Q (.bl (!decide (c ∈ z.cps.toList))) H) ∨ rIn X.K true x y H Q) := op_notIn_sign.or op_notIn_seq
theorem rdIn_seq {K : PySem.W.Frag} {neg : Bool} {HI : Hp} {M : MM} {H : Hp} {x : V} {dx : D} {p : Addr} {xs : List V} {ds : List D} {Q : DK} {Qv : VK} (ok : Ok K HI M H) (rx : Rep K HI x dx) (hs : SqL K H p xs ∨ SqT K H p xs) (r : RepL K HI xs ds)
    (h : (flatD dx && ds.all flatD) = true ∧ Q (.bl (neg ^^ inF dx ds)) M) (k : ∀ v H', low K HI M H Q v H' → Qv v H') : rIn K neg x (.ref p) H Qv := by
  obtain ⟨h1, h2⟩ := h
  rw [Bool.and_eq_true] at h1
  refine ⟨p, xs, rfl, hs, flat_rep rx h1.1, flats_rep r h1.2, ?_⟩
  rw [inF_rep rx h1.1 r h1.2]
  cases neg with
  | true =>
    rw [if_pos rfl]
    rw [Bool.true_xor] at h2
    exact k _ _ (.mk ok (.bl _) h2)
  | false =>
    rw [if_neg (by decide)]
    rw [Bool.false_xor] at h2
    exact k _ _ (.mk ok (.bl _) h2)
theorem od_in {K : PySem.W.Frag} : OpD K (fun x y H Q => (∃ (c : Nat) (z : Str), x = .str ⟨#[c]⟩ ∧ y = .str z ∧ Q (.bl (decide (c ∈ z.cps.toList))) H) ∨ rIn K false x y H Q) (rdIn false) := by
  intro HI M H x y dx dy Q Qv ok rx ry h k
  cases ry with
  | str z =>
    cases rx with
    | str a =>
      have h2 := h.2
      rw [Bool.false_xor] at h2
      exact .inl ⟨a.cps.getD 0 0, z, congrArg V.str (one_sign h.1), rfl, k _ _ (.mk ok (.bl _) h2)⟩
    | _ => exact h.elim
  | lst h1 r1 => exact .inr (rdIn_seq ok rx (.inl (h1.up ok.same).sq) r1 (by cases rx <;> exact h) k)
  | tup h1 r1 => exact .inr (rdIn_seq ok rx (.inr (same_t ok.same h1)) r1 (by cases rx <;> exact h) k)
  | _ => cases rx <;> exact h.elim
theorem od_notIn {K : PySem.W.Frag} : OpD K (fun x y H Q => (∃ (c : Nat) (z : Str), x = .str ⟨#[c]⟩ ∧ y = .str z ∧ Q (.bl (!decide (c ∈ z.cps.toList))) H) ∨ rIn K true x y H Q) (rdIn true) := by
  intro HI M H x y dx dy Q Qv ok rx ry h k
  cases ry with
  | str z =>
    cases rx with
    | str a =>
      have h2 := h.2
      rw [Bool.true_xor] at h2
      exact .inl ⟨a.cps.getD 0 0, z, congrArg V.str (one_sign h.1), rfl, k _ _ (.mk ok (.bl _) h2)⟩
    | _ => exact h.elim
  | lst h1 r1 => exact .inr (rdIn_seq ok rx (.inl (h1.up ok.same).sq) r1 (by cases rx <;> exact h) k)
  | tup h1 r1 => exact .inr (rdIn_seq ok rx (.inr (same_t ok.same h1)) r1 (by cases rx <;> exact h) k)
  | _ => cases rx <;> exact h.elim

/-! ### -x -/
abbrev RD1 := D → MM → DK → Prop
def UnD (K : PySem.W.Frag) (r : V → Hp → VK → Prop) (rd : RD1) : Prop := ∀ HI M H x dx Q Qv, Ok K HI M H → Rep K HI x dx → rd dx M Q → (∀ v H', low K HI M H Q v H' → Qv v H') → r x H Qv
def to1 (rd : RD1) (ta : TD) : TD := fun σ M Q E => ta σ M (fun x M1 => rd x M1 Q) E
theorem d_un {W : WX} {pos : Pos} {a : Expr} {ta : TD} {op : UnaryOp} {r : V → Hp → VK → Prop} {rd : RD1} (ho : UnR X (unaryOp op) r) (hr : UnD X.K r rd) (ha : DE X W a ta) : DE X W (.UnaryOp op a pos) (to1 rd ta) := pe_imp (pe_un ho ha) fun σv H Qv h => by
  obtain ⟨HI, σ, M, Q, E, ok, re, h, k, we⟩ := h
  refine ⟨HI, σ, M, _, E, ok, re, h, fun v H1 ⟨HI1, M1, d1, s1, ok1, r1, h1⟩ => ?_, we⟩
  exact hr HI1 M1 H1 v d1 Q Qv ok1 r1 h1 fun v' H' q => k v' H' (q.of s1)
def rdNeg : RD1 := fun x M Q => match x with
  | .int i => Q (.int (-i)) M
  | _ => False
theorem od_neg {K : PySem.W.Frag} : UnD K (rU fun i => .int (-i)) rdNeg := by
  intro HI M H x dx Q Qv ok rx h k
  cases rx with
  | int i => exact ⟨i, rfl, k _ _ (.mk ok (.int _) h)⟩
  | _ => exact h.elim

/-! ### x[i] -/
def atD (x : Option D) (M : MM) (Q : DK) : Prop := match x with
  | some d => Q d M
  | none => False
def rdIx : RD2 := fun x y M Q => match x, y with
  | .lst ds, .int i => atD (atI ds i) M Q
  | .tup ds, .int i => atD (atI ds i) M Q
  | .str z, .int i => z.length ≤ sizeLine ∧ match atI z.cps.toList i with
    | some c => Q (.str ⟨#[c]⟩) M
    | none => False
  | .ref p, .int i => (match M p with
    | some (.lst ds) => atD (atI ds i) M Q
    | _ => False)
  | _, _ => False
theorem atI_rep {K : PySem.W.Frag} {H : Hp} {xs : List V} {ds : List D} (r : RepL K H xs ds) {i : Int} {d : D} (h : atI ds i = some d) : ∃ v, atI xs i = some v ∧ Rep K H v d := by
  unfold atI at h ⊢
  rw [r.len]
  cases e : ixN ds.length i with
  | none => rw [e] at h; cases h
  | some j =>
    rw [e] at h
    exact r.get h
theorem ix_at {K : PySem.W.Frag} {HI : Hp} {M : MM} {H : Hp} {xs : List V} {ds : List D} {i : Int} {Q : DK} {Qv : VK} (ok : Ok K HI M H) (r : RepL K HI xs ds) (h : atD (atI ds i) M Q) (k : ∀ v H', low K HI M H Q v H' → Qv v H') :
    ∃ v, atI xs i = some v ∧ Qv v H := by
  unfold atD at h
  split at h
  · rename_i d e
    obtain ⟨v, e1, r1⟩ := atI_rep r e
    exact ⟨v, e1, k _ _ (.mk ok r1 h)⟩
  · exact h.elim
theorem od_ix {K : PySem.W.Frag} : OpD K (rIx K) rdIx := by
  intro HI M H x y dx dy Q Qv ok rx ry h k
  cases ry with
  | int i =>
    cases rx with
    | lst h1 r1 =>
      obtain ⟨v, e, q⟩ := ix_at ok r1 h k
      exact .inl ⟨_, _, i, v, rfl, rfl, (h1.up ok.same).sq, e, q⟩
    | tup h1 r1 =>
      obtain ⟨v, e, q⟩ := ix_at ok r1 h k
      exact .inr (.inl ⟨_, _, i, v, rfl, rfl, same_t ok.same h1, e, q⟩)
    | str z =>
      obtain ⟨hz, h⟩ := h
      split at h
      · rename_i c e
        exact .inr (.inr ⟨z, i, c, rfl, rfl, hz, e, k _ _ (.mk ok (.str _) h)⟩)
      · exact h.elim
    | ref p =>
      simp only [rdIx] at h
      split at h
      · rename_i ds e
        obtain ⟨xs, hx, r1⟩ := ok.var p _ e
        obtain ⟨v, e1, q⟩ := ix_at ok r1 h k
        exact .inl ⟨p, xs, i, v, rfl, rfl, .of hx, e1, q⟩
      · exact h.elim
    | _ => exact h.elim
  | _ => cases rx <;> exact h.elim
theorem d_ix {W : WX} {pos : Pos} {a b : Expr} {ta tb' : TD} (ha : DE X W a ta) (hb : DE X W b tb') (hs : PlainIx b := by exact fun _ _ => rfl) : DE X W (.Subscript a b pos) (to2 rdIx ta tb') := pe_imp (pe_ix ix_seq ha hb hs) (up2 od_ix)

/-! ### x[i:j] -/
abbrev TDO := DSt → MM → (Option Int → MM → Prop) → EK → Prop
def upO (K : PySem.W.Frag) (W : WX) (t : TDO) : TO := fun σv H Qv => ∃ HI σ M Q E, Ok K HI M H ∧ REnv K HI σv σ ∧ t σ M Q E ∧ (∀ o H', (∃ HI' M', Stp HI M H HI' M' H' ∧ Ok K HI' M' H' ∧ Q o M') → Qv o H') ∧ WOk K W HI M H σv E
abbrev DO (X : Cx) (W : WX) (e : Option Expr) (t : TDO) : Prop := PO X e (upO X.K W t)
def so_none : TDO := fun _ M Q _ => Q none M
def so_some (t : TD) : TDO := fun σ M Q E => t σ M (fun x M1 => match x with
  | .int i => Q (some i) M1
  | _ => False) E
theorem p_none {W : WX} : DO X W none so_none := ⟨fun pins s σ H Q I h => by
  obtain ⟨HI, σ', M, Qd, E, ok, re, h, k, we⟩ := h
  exact po_none.run pins s σ H Q I (k _ _ ⟨HI, M, .refl, ok, h⟩)⟩
theorem p_some {W : WX} {e : Expr} {t : TD} (h : DE X W e t) : DO X W (some e) (so_some t) := ⟨fun pins s σ H Q I hh => by
  obtain ⟨HI, σ', M, Qd, E, ok, re, q, k, we⟩ := hh
  refine (po_some h).run pins s σ H Q I ⟨HI, σ', M, _, E, ok, re, q, fun v H1 ⟨HI1, M1, d1, s1, ok1, r1, h1⟩ => ?_, we⟩
  cases r1 with
  | int i => exact ⟨i, rfl, k _ _ ⟨HI1, M1, s1, ok1, h1⟩⟩
  | _ => exact h1.elim⟩
def cutD (xs : List D) (lo hi : Option Int) : List D := (xs.drop (HT.sIx xs.length 0 lo)).take (HT.sIx xs.length xs.length hi - HT.sIx xs.length 0 lo)
theorem cutD_rep {K : PySem.W.Frag} {H : Hp} {xs : List V} {ds : List D} (r : RepL K H xs ds) (lo hi : Option Int) : RepL K H (cutV xs lo hi) (cutD ds lo hi) := by
  unfold cutV cutD
  rw [r.len]
  exact (r.drop _).take _
def tsl (te : TD) (tl th : TDO) : TD := fun σ M Q E => te σ M (fun x M1 => tl σ M1 (fun lo M2 => th σ M2 (fun hi M3 => match x with
  | .lst ds => Q (.lst (cutD ds lo hi)) M3
  | .tup ds => Q (.tup (cutD ds lo hi)) M3
  | .str z => z.length ≤ sizeLine ∧ Q (.str (cutS z lo hi)) M3
  | .ref p => (match M3 p with
    | some (.lst ds) => Q (.lst (cutD ds lo hi)) M3
    | _ => False)
  | _ => False) E) E) E
theorem d_sl {W : WX} {pos p2 : Pos} {e : Expr} {lo hi : Option Expr} {te : TD} {tl th : TDO} (he : DE X W e te) (hl : DO X W lo tl) (hh : DO X W hi th) : DE X W (.Subscript e (.Slice lo hi none p2) pos) (tsl te tl th) :=
  pe_imp (pe_slice (sl_list.or (sl_tupA.or sl_str)) he hl hh) fun σv H Qv h => by
    obtain ⟨HI, σ, M, Q, E, ok, re, h, k, we⟩ := h
    refine ⟨HI, σ, M, _, E, ok, re, h, fun v H1 ⟨HI1, M1, d1, s1, ok1, r1, h1⟩ => ?_, we⟩
    refine ⟨HI1, σ, M1, _, E, ok1, re.up s1.sm, h1, fun o1 H2 ⟨HI2, M2, s2, ok2, h2⟩ => ?_, we.up s1⟩
    refine ⟨HI2, σ, M2, _, E, ok2, re.up (s1.trans s2).sm, h2, fun o2 H3 ⟨HI3, M3, s3, ok3, h3⟩ => ?_, we.up (s1.trans s2)⟩
    have sm := (s1.trans s2).trans s3
    cases r1.up (s2.trans s3).sm with
    | lst a r => exact .inl ⟨_, _, rfl, (a.up ok3.same).sq, fun p hp => k _ _ (low.of sm (.lst ok3 (cutD_rep r _ _) hp h3))⟩
    | @tup _ _ ds0 a r =>
      refine .inr (.inl ⟨_, _, rfl, same_t ok3.same a, fun hw => ?_, fun _ p hp => k _ _ (low.of sm (.tup ok3 (cutD_rep r _ _) hp h3))⟩)
      refine k _ _ (low.of sm (.mk ok3 (.tup a r) ?_))
      have e : cutD ds0 o1 o2 = ds0 := by
        unfold cutD
        rw [← r.len, hw.1, hw.2, List.drop_zero, Nat.sub_zero, r.len, List.take_length]
      have h4 : Q (.tup (cutD ds0 o1 o2)) M3 := h3
      rw [e] at h4
      exact h4
    | str z => exact .inr (.inr ⟨z, rfl, h3.1, k _ _ (low.of sm (.mk ok3 (.str _) h3.2))⟩)
    | ref p =>
      simp only at h3
      split at h3
      · rename_i ds e
        obtain ⟨xs, hx, r⟩ := ok3.var p _ e
        exact .inl ⟨p, xs, rfl, .of hx, fun p hp => k _ _ (low.of sm (.lst ok3 (cutD_rep r _ _) hp h3))⟩
      · exact h3.elim
    | _ => exact h3.elim
end
end DL

/-! The data layer: arguments, displays, built-in calls, methods. -/
namespace DL
open PySem PySem.Spec L2

section
variable {X : Cx} {W : WX} {pos : Pos} {e : Expr} {es : List Expr} {t : TD} {ts : TDL}
def a0 : TDL := fun _ M Q _ => Q [] M
def ac (t : TD) (ts : TDL) : TDL := fun σ M Q E => t σ M (fun x M1 => ts σ M1 (fun xs M2 => Q (x :: xs) M2) E) E
theorem d_nil : DA X W [] a0 := pa_imp pa_nil fun σv H Qv h => by
  obtain ⟨HI, σ, M, Q, E, ok, re, h, k, we⟩ := h
  exact k _ _ (.mk ok .nil h)
theorem d_cons (ha : DE X W e t) (hr : DA X W es ts) (hs : starEach (e :: es) X.env = (false, eval e X.env) :: starEach es X.env := by rfl) : DA X W (e :: es) (ac t ts) := pa_imp (pa_cons ha hr hs) fun σv H Qv h => by
  obtain ⟨HI, σ, M, Q, E, ok, re, h, k, we⟩ := h
  refine ⟨HI, σ, M, _, E, ok, re, h, fun v H1 ⟨HI1, M1, d1, s1, ok1, r1, h1⟩ => ?_, we⟩
  refine ⟨HI1, σ, M1, _, E, ok1, re.up s1.sm, h1, fun vs H2 ⟨HI2, M2, d2, s2, ok2, r2, h2⟩ => ?_, we.up s1⟩
  exact k _ _ ⟨HI2, M2, _, s1.trans s2, ok2, .cons (r1.up s2.sm) r2, h2⟩
/-- *e: a list or a tuple -/
def as_ (t : TD) (ts : TDL) : TDL := fun σ M Q E => t σ M (fun x M1 => match x with
  | .lst ds => ts σ M1 (fun xs M2 => Q (ds ++ xs) M2) E
  | .tup ds => ts σ M1 (fun xs M2 => Q (ds ++ xs) M2) E
  | _ => False) E
theorem d_star {p : Pos} (ha : DE X W e t) (hr : DA X W es ts) (hs : starEach (.Starred e p :: es) X.env = (true, eval e X.env) :: starEach es X.env := by rfl) : DA X W (.Starred e p :: es) (as_ t ts) := pa_imp (StX.pa_star ha hr hs) fun σv H Qv h => by
  obtain ⟨HI, σ, M, Q, E, ok, re, h, k, we⟩ := h
  refine ⟨HI, σ, M, _, E, ok, re, h, fun v H1 ⟨HI1, M1, d1, s1, ok1, r1, h1⟩ => ?_, we⟩
  cases r1 with
  | lst a r =>
    exact ⟨_, _, rfl, .inr (a.up ok1.same).sq, HI1, σ, M1, _, E, ok1, re.up s1.sm, h1, fun vs H2 ⟨HI2, M2, d2, s2, ok2, r2, h2⟩ => k _ _ ⟨HI2, M2, _, s1.trans s2, ok2, (r.up s2.sm).app r2, h2⟩, we.up s1⟩
  | tup a r =>
    exact ⟨_, _, rfl, .inl (same_t ok1.same a), HI1, σ, M1, _, E, ok1, re.up s1.sm, h1, fun vs H2 ⟨HI2, M2, d2, s2, ok2, r2, h2⟩ => k _ _ ⟨HI2, M2, _, s1.trans s2, ok2, (r.up s2.sm).app r2, h2⟩, we.up s1⟩
  | _ => exact h1.elim
/-- displays -/
def dtup (ts : TDL) : TD := fun σ M Q E => ts σ M (fun xs M1 => xs.length ≤ sizeLine ∧ Q (.tup xs) M1) E
def dlst (ts : TDL) : TD := fun σ M Q E => ts σ M (fun xs M1 => xs.length ≤ sizeLine ∧ Q (.lst xs) M1) E
/-- a list that will be changed -/
def dlstM (ts : TDL) : TD := fun σ M Q E => ts σ M (fun xs M1 => xs.length ≤ sizeLine ∧ ∀ p, M1 p = none → Q (.ref p) (mput M1 p (.lst xs))) E
theorem d_tup {c} (h : DA X W es ts) : DE X W (.Tuple es c pos) (dtup ts) := pe_imp (pe_tup h) fun σv H Qv h => by
  obtain ⟨HI, σ, M, Q, E, ok, re, h, k, we⟩ := h
  refine ⟨HI, σ, M, _, E, ok, re, h, fun v H1 ⟨HI1, M1, d1, s1, ok1, r1, h1⟩ => ?_, we⟩
  exact ⟨by rw [r1.len]; exact h1.1, fun p hp => k _ _ (low.of s1 (.tup ok1 r1 hp h1.2))⟩
theorem d_lst (h : DA X W es ts) : DE X W (.List es pos) (dlst ts) := pe_imp (pe_lst h) fun σv H Qv h => by
  obtain ⟨HI, σ, M, Q, E, ok, re, h, k, we⟩ := h
  refine ⟨HI, σ, M, _, E, ok, re, h, fun v H1 ⟨HI1, M1, d1, s1, ok1, r1, h1⟩ => ?_, we⟩
  exact ⟨by rw [r1.len]; exact h1.1, fun p hp => k _ _ (low.of s1 (.lst ok1 r1 hp h1.2))⟩
theorem d_lstM (h : DA X W es ts) : DE X W (.List es pos) (dlstM ts) := pe_imp (pe_lst h) fun σv H Qv h => by
  obtain ⟨HI, σ, M, Q, E, ok, re, h, k, we⟩ := h
  refine ⟨HI, σ, M, _, E, ok, re, h, fun v H1 ⟨HI1, M1, d1, s1, ok1, r1, h1⟩ => ?_, we⟩
  exact ⟨by rw [r1.len]; exact h1.1, fun p hp => k _ _ (low.of s1 (.lstM ok1 r1 hp (h1.2 p (ok1.free hp).2)))⟩
/-- a list that may change stands still from now on -/
def tfrz (t : TD) : TD := fun σ M Q E => t σ M (fun x M1 => match x with
  | .ref p => (match M1 p with
    | some (.lst ds) => Q (.lst ds) (mdel M1 p)
    | _ => False)
  | _ => False) E
theorem d_frz (h : DE X W e t) : DE X W e (tfrz t) := pe_imp h fun σv H Qv h => by
  obtain ⟨HI, σ, M, Q, E, ok, re, h, k, we⟩ := h
  refine ⟨HI, σ, M, _, E, ok, re, h, fun v H1 ⟨HI1, M1, d1, s1, ok1, r1, h1⟩ => ?_, we⟩
  cases r1 with
  | ref p =>
    simp only at h1
    split at h1
    · rename_i ds e
      obtain ⟨HI2, s2, ok2, r2⟩ := ok1.freeze e
      exact k _ _ ⟨HI2, _, _, s1.trans s2, ok2, r2, h1⟩
    · exact h1.elim
  | _ => exact h1.elim
end

/-! ### calls of built-ins -/
abbrev RDL := List D → MM → DK → Prop
def CrD (K : PySem.W.Frag) (r : List V → Hp → VK → Prop) (rd : RDL) : Prop := ∀ HI M H xs ds Q Qv, Ok K HI M H → RepL K HI xs ds → rd ds M Q → (∀ v H', low K HI M H Q v H' → Qv v H') → r xs H Qv
def tcb (rd : RDL) (ts : TDL) : TD := fun σ M Q E => ts σ M (fun xs M1 => rd xs M1 Q) E
section
variable {X : Cx} {W : WX} {pos p : Pos} {e : Expr} {es : List Expr} {ts : TDL} {r : List V → Hp → VK → Prop} {rd : RDL} {id T : String} {x : Str}
theorem upcb (hr : CrD X.K r rd) : ∀ σv H Qv, upE X.K W (tcb rd ts) σv H Qv → tCB r (upL X.K W ts) σv H Qv := fun σv H Qv h => by
  obtain ⟨HI, σ, M, Q, E, ok, re, h, k, we⟩ := h
  refine ⟨HI, σ, M, _, E, ok, re, h, fun v H1 ⟨HI1, M1, d1, s1, ok1, r1, h1⟩ => ?_, we⟩
  exact hr HI1 M1 H1 v d1 Q Qv ok1 r1 h1 fun v' H' q => k v' H' (q.of s1)
theorem d_callB (hc : CallR X (.builtin id) r) (hr : CrD X.K r rd) (hg : Gl X x) (hm : X.mg x = none) (hv : bootBuiltins x = some (.builtin id)) (ha : DA X W (e :: es) ts) (hn : x ≠ "__name__" := by decide) (hdb : (x == ("__debug__" : Str)) = false := by decide)
    (he : starEach (e :: es) X.env = (false, eval e X.env) :: starEach es X.env := by rfl) (hpl : (backTo pos (starEach es X.env)).any (·.1) = false := by rfl) : DE X W (.Call (.Name x p) (e :: es) [] pos) (tcb rd ts) :=
  pe_imp (pe_callB hc hg hm hv ha hn hdb he hpl) (upcb hr)
theorem d_callTy (hc : CallR X (.type T) r) (hr : CrD X.K r rd) (hg : Gl X x) (hm : X.mg x = none) (hv : bootBuiltins x = some (.type T)) (ha : DA X W (e :: es) ts) (hn : x ≠ "__name__" := by decide) (hdb : (x == ("__debug__" : Str)) = false := by decide)
    (he : starEach (e :: es) X.env = (false, eval e X.env) :: starEach es X.env := by rfl) (hpl : (backTo pos (starEach es X.env)).any (·.1) = false := by rfl) : DE X W (.Call (.Name x p) (e :: es) [] pos) (tcb rd ts) :=
  pe_imp (pe_callTy hc hg hm hv ha hn hdb he hpl) (upcb hr)

/-- len -/
def rdLen : RDL := fun ds M Q => match ds with
  | [.lst xs] => Q (.int xs.length) M
  | [.tup xs] => Q (.int xs.length) M
  | [.str z] => z.length ≤ sizeLine ∧ Q (.int z.length) M
  | [.ref p] => (match M p with
    | some (.lst xs) => Q (.int xs.length) M
    | _ => False)
  | _ => False
theorem od_len {K : PySem.W.Frag} : CrD K (fun xs H Q => (∃ p ys, xs = [.ref p] ∧ (SqL K H p ys ∨ SqT K H p ys) ∧ Q (.int ys.length) H) ∨ ∃ z, xs = [.str z] ∧ z.length ≤ sizeLine ∧ Q (.int z.length) H) rdLen := by
  intro HI M H xs ds Q Qv ok r h k
  cases r with
  | nil => exact h.elim
  | cons r rr =>
    cases rr with
    | cons _ _ => cases r <;> exact h.elim
    | nil =>
      cases r with
      | lst a r => exact .inl ⟨_, _, rfl, .inl (a.up ok.same).sq, k _ _ (.mk ok (.int _) (by rw [r.len]; exact h))⟩
      | tup a r => exact .inl ⟨_, _, rfl, .inr (same_t ok.same a), k _ _ (.mk ok (.int _) (by rw [r.len]; exact h))⟩
      | str z => exact .inr ⟨z, rfl, h.1, k _ _ (.mk ok (.int _) h.2)⟩
      | ref p =>
        simp only [rdLen] at h
        split at h
        · rename_i ds e
          obtain ⟨xs, hx, r⟩ := ok.var p _ e
          exact .inl ⟨p, xs, rfl, .inl (.of hx), k _ _ (.mk ok (.int _) (by rw [r.len]; exact h))⟩
        · exact h.elim
      | _ => exact h.elim
theorem c_len : CallR X (.builtin "len") (fun xs H Q => (∃ p ys, xs = [.ref p] ∧ (SqL X.K H p ys ∨ SqT X.K H p ys) ∧ Q (.int ys.length) H) ∨ ∃ z, xs = [.str z] ∧ z.length ≤ sizeLine ∧ Q (.int z.length) H) := call_len_seq.or call_len_str
/-- abs -/
def rdAbs : RDL := fun ds M Q => match ds with
  | [.int i] => Q (.int (if i < 0 then -i else i)) M
  | _ => False
theorem od_abs {K : PySem.W.Frag} : CrD K (fun xs H Q => ∃ i, xs = [.int i] ∧ Q (.int (if i < 0 then -i else i)) H) rdAbs := by
  intro HI M H xs ds Q Qv ok r h k
  cases r with
  | nil => exact h.elim
  | cons r rr =>
    cases rr with
    | cons _ _ => cases r <;> exact h.elim
    | nil =>
      cases r with
      | int i => exact ⟨i, rfl, k _ _ (.mk ok (.int _) h)⟩
      | _ => exact h.elim
/-- int(n), int(flag), int(text) -/
def rdInt : RDL := fun ds M Q => match ds with
  | [.int i] => Q (.int i) M
  | [.bl b] => Q (.int (if b then 1 else 0)) M
  | [.str a] => a.length ≤ 640 ∧ match PySem.intText? a with
    | some n => Q (.int n) M
    | none => False
  | _ => False
theorem c_int : CallR X (.type "int") (fun xs H Q => ((∃ i, xs = [.int i] ∧ Q (.int i) H) ∨ ∃ k, xs = [.bl k] ∧ Q (.int (if k then 1 else 0)) H) ∨ ∃ a n, xs = [.str a] ∧ PySem.intText? a = some n ∧ a.length ≤ 640 ∧ Q (.int n) H) := call_int1.or call_int_str
theorem od_int {K : PySem.W.Frag} : CrD K (fun xs H Q => ((∃ i, xs = [.int i] ∧ Q (.int i) H) ∨ ∃ k, xs = [.bl k] ∧ Q (.int (if k then 1 else 0)) H) ∨ ∃ a n, xs = [.str a] ∧ PySem.intText? a = some n ∧ a.length ≤ 640 ∧ Q (.int n) H) rdInt := by
  intro HI M H xs ds Q Qv ok r h k
  cases r with
  | nil => exact h.elim
  | cons r rr =>
    cases rr with
    | cons _ _ => cases r <;> exact h.elim
    | nil =>
      cases r with
      | int i => exact .inl (.inl ⟨i, rfl, k _ _ (.mk ok (.int _) h)⟩)
      | bl b => exact .inl (.inr ⟨b, rfl, k _ _ (.mk ok (.int _) h)⟩)
      | str a =>
        obtain ⟨hz, h⟩ := h
        split at h
        · rename_i n e
          exact .inr ⟨a, n, rfl, e, hz, k _ _ (.mk ok (.int _) h)⟩
        · exact h.elim
      | _ => exact h.elim
/-- str(n), str(text) -/
def rdStr : RDL := fun ds M Q => match ds with
  | [.int i] => i.natAbs.log2 < 1920 ∧ Q (.str (toString i)) M
  | _ => False
theorem od_strI {K : PySem.W.Frag} : CrD K (fun xs H Q => ∃ i, xs = [.int i] ∧ i.natAbs.log2 < 1920 ∧ Q (.str (toString i)) H) rdStr := by
  intro HI M H xs ds Q Qv ok r h k
  cases r with
  | nil => exact h.elim
  | cons r rr =>
    cases rr with
    | cons _ _ => cases r <;> exact h.elim
    | nil =>
      cases r with
      | int i => exact ⟨i, rfl, h.1, k _ _ (.mk ok (.str _) h.2)⟩
      | _ => exact h.elim
/-- list(x), tuple(x) -/
def rdList : RDL := fun ds M Q => match ds with
  | [.lst xs] => Q (.lst xs) M
  | [.tup xs] => Q (.lst xs) M
  | [.ref p] => (match M p with
    | some (.lst xs) => Q (.lst xs) M
    | _ => False)
  | _ => False
theorem od_list {K : PySem.W.Frag} : CrD K (fun xs H Q => ∃ p ys, xs = [.ref p] ∧ (SqL K H p ys ∨ SqT K H p ys) ∧ ∀ l, H l = none → Q (.ref l) (upd H l (.lst ys))) rdList := by
  intro HI M H xs ds Q Qv ok r h k
  cases r with
  | nil => exact h.elim
  | cons r rr =>
    cases rr with
    | cons _ _ => cases r <;> exact h.elim
    | nil =>
      cases r with
      | lst a r => exact ⟨_, _, rfl, .inl (a.up ok.same).sq, fun l hl => k _ _ (.lst ok r hl h)⟩
      | tup a r => exact ⟨_, _, rfl, .inr (same_t ok.same a), fun l hl => k _ _ (.lst ok r hl h)⟩
      | ref p =>
        simp only [rdList] at h
        split at h
        · rename_i ds e
          obtain ⟨xs, hx, r⟩ := ok.var p _ e
          exact ⟨p, xs, rfl, .inl (.of hx), fun l hl => k _ _ (.lst ok r hl h)⟩
        · exact h.elim
      | _ => exact h.elim
def rdTuple : RDL := fun ds M Q => match ds with
  | [.lst xs] => Q (.tup xs) M
  | [.tup xs] => Q (.tup xs) M
  | [.ref p] => (match M p with
    | some (.lst xs) => Q (.tup xs) M
    | _ => False)
  | _ => False
theorem od_tuple {K : PySem.W.Frag} : CrD K (fun xs H Q => ∃ p ys, xs = [.ref p] ∧ ((SqL K H p ys ∧ ∀ l, H l = none → Q (.ref l) (upd H l (.tup ys))) ∨ (SqT K H p ys ∧ Q (.ref p) H))) rdTuple := by
  intro HI M H xs ds Q Qv ok r h k
  cases r with
  | nil => exact h.elim
  | cons r rr =>
    cases rr with
    | cons _ _ => cases r <;> exact h.elim
    | nil =>
      cases r with
      | lst a r => exact ⟨_, _, rfl, .inl ⟨(a.up ok.same).sq, fun l hl => k _ _ (.tup ok r hl h)⟩⟩
      | tup a r => exact ⟨_, _, rfl, .inr ⟨same_t ok.same a, k _ _ (.mk ok (.tup a r) h)⟩⟩
      | ref p =>
        simp only [rdTuple] at h
        split at h
        · rename_i ds e
          obtain ⟨xs, hx, r⟩ := ok.var p _ e
          exact ⟨p, xs, rfl, .inl ⟨.of hx, fun l hl => k _ _ (.tup ok r hl h)⟩⟩
        · exact h.elim
      | _ => exact h.elim
/-- all, any of bools -/
def blsOf : List D → Option (List Bool)
  | [] => some []
  | .bl b :: r => (blsOf r).map (b :: ·)
  | _ :: _ => none
theorem blsOf_map : ∀ bs : List Bool, blsOf (bs.map D.bl) = some bs
  | [] => rfl
  | b :: bs => by rw [List.map_cons, blsOf, blsOf_map bs]; rfl
theorem blsOf_eq : ∀ {ds : List D} {bs : List Bool}, blsOf ds = some bs → ds = bs.map D.bl
  | [], bs, h => by cases h; rfl
  | d :: ds, bs, h => by
    cases d with
    | bl b =>
      unfold blsOf at h
      cases e : blsOf ds with
      | none => rw [e] at h; cases h
      | some r => rw [e] at h; cases h; rw [List.map_cons, blsOf_eq e]
    | _ => cases h
def rdAll : RDL := fun ds M Q => match ds with
  | [.lst xs] => (match blsOf xs with
    | some bs => Q (.bl (bs.all _root_.id)) M
    | none => False)
  | _ => False
def rdAny : RDL := fun ds M Q => match ds with
  | [.lst xs] => (match blsOf xs with
    | some bs => Q (.bl (bs.any _root_.id)) M
    | none => False)
  | _ => False
theorem od_all {K : PySem.W.Frag} : CrD K (rAll K) rdAll := by
  intro HI M H xs ds Q Qv ok r h k
  cases r with
  | nil => exact h.elim
  | cons r rr =>
    cases rr with
    | cons _ _ => cases r <;> exact h.elim
    | nil =>
      cases r with
      | lst a r =>
        simp only [rdAll] at h
        split at h
        · rename_i bs e
          rw [blsOf_eq e] at r
          have e2 := r.bls
          subst e2
          exact ⟨_, bs, rfl, (a.up ok.same).sq, k _ _ (.mk ok (.bl _) h)⟩
        · exact h.elim
      | _ => exact h.elim
theorem od_any {K : PySem.W.Frag} : CrD K (rAny K) rdAny := by
  intro HI M H xs ds Q Qv ok r h k
  cases r with
  | nil => exact h.elim
  | cons r rr =>
    cases rr with
    | cons _ _ => cases r <;> exact h.elim
    | nil =>
      cases r with
      | lst a r =>
        simp only [rdAny] at h
        split at h
        · rename_i bs e
          rw [blsOf_eq e] at r
          have e2 := r.bls
          subst e2
          exact ⟨_, bs, rfl, (a.up ok.same).sq, k _ _ (.mk ok (.bl _) h)⟩
        · exact h.elim
      | _ => exact h.elim
/-- isinstance(x, a built-in class) -/
def D.cls : D → Option String
  | .non => some "NoneType"
  | .bl _ => some "bool"
  | .int _ => some "int"
  | .str _ => some "str"
  | .lst _ => some "list"
  | .tup _ => some "tuple"
  | _ => none
theorem ty_rep {K : PySem.W.Frag} {H : Hp} {x : V} {d : D} {c : String} (r : Rep K H x d) (e : d.cls = some c) : TyX K H x (.type c) := by
  cases r with
  | non => cases e; exact .base .non
  | bl b => cases e; exact .base (.bl b)
  | int b => cases e; exact .base (.int b)
  | str b => cases e; exact .base (.str b)
  | ty b => cases e
  | ref b => cases e
  | lst a r =>
    cases e
    rcases a with a | ⟨its, n, a⟩ | ⟨its, n, a, _⟩
    · exact .base (.lst a)
    · exact .base (.frz a)
    · exact .kList a rfl
  | tup a r =>
    cases e
    rcases a with (a | ⟨o, a⟩) | ⟨o, its, n, a, c, _⟩
    · exact .base (.tup a)
    · exact .fTuple a
    · exact .kTuple a c
def isB (d : D) (n : String) : Option Bool := d.cls.bind fun c => kitB c n
def rdIsi : RDL := fun ds M Q => match ds with
  | [x, .ty n] => (match isB x n with
    | some b => Q (.bl b) M
    | none => False)
  | _ => False
theorem od_isi {K : PySem.W.Frag} : CrD K (rIsi K) rdIsi := by
  intro HI M H xs ds Q Qv ok r h k
  unfold rdIsi at h
  split at h
  · rename_i x n
    split at h
    · rename_i b e
      cases r with
      | cons r rr =>
        cases rr with
        | cons r2 rr =>
          cases rr
          cases r2
          unfold isB at e
          cases ec : x.cls with
          | none => rw [ec] at e; cases e
          | some c =>
            rw [ec] at e
            exact ⟨_, _, _, _, b, rfl, .ty n, ty_rep (r.up ok.same) ec, kit_ty e, k _ _ (.mk ok (.bl _) h)⟩
    · exact h.elim
  · exact h.elim
end

/-! ### repr -/
/-- what may be shown: of a depth, its numbers not too long -/
def D.shw : Nat → D → Bool
  | _, .non => true
  | _, .bl _ => true
  | _, .int i => decide (i.natAbs.log2 < 1920)
  | _, .str _ => true
  | n + 1, .lst ds => ds.all (D.shw n)
  | n + 1, .tup ds => ds.all (D.shw n)
  | _, _ => false
theorem shw_facts : ∀ (n : Nat) (d : D), d.shw n = true → PyData.showable d.py = true ∧ d.py.depth ≤ n ∧ PyData.hasDict d.py = false ∧ ∀ K H v, Rep K H v d → Dp K H v d.py := by
  intro n
  have base : ∀ (m : Nat) (d : D), (∀ ds, d ≠ .lst ds) → (∀ ds, d ≠ .tup ds) → d.shw m = true → PyData.showable d.py = true ∧ d.py.depth ≤ m ∧ PyData.hasDict d.py = false ∧ ∀ K H v, Rep K H v d → Dp K H v d.py := by
    intro m d n1 n2 h
    cases d with
    | non => exact ⟨by simp [D.py, PyData.showable], by simp [D.py, PyData.depth], by simp [D.py, PyData.hasDict], fun K H v r => by cases r; exact .non⟩
    | bl b => exact ⟨by simp [D.py, PyData.showable], by simp [D.py, PyData.depth], by simp [D.py, PyData.hasDict], fun K H v r => by cases r; exact .bl _⟩
    | int b => exact ⟨by simp only [D.py, PyData.showable]; cases m <;> exact h, by simp [D.py, PyData.depth], by simp [D.py, PyData.hasDict], fun K H v r => by cases r; exact .int _⟩
    | str b => exact ⟨by simp [D.py, PyData.showable], by simp [D.py, PyData.depth], by simp [D.py, PyData.hasDict], fun K H v r => by cases r; exact .str _⟩
    | ty b => cases m <;> cases h
    | ref b => cases m <;> cases h
    | lst b => exact absurd rfl (n1 b)
    | tup b => exact absurd rfl (n2 b)
  induction n with
  | zero =>
    intro d h
    refine base 0 d (fun ds e => ?_) (fun ds e => ?_) h
    · subst e; cases h
    · subst e; cases h
  | succ n ih =>
    have all : ∀ ds : List D, ds.all (D.shw n) = true → PyData.showableAll (pyL ds) = true ∧ PyData.depthAll (pyL ds) ≤ n ∧ PyData.hasDictAll (pyL ds) = false ∧ ∀ K H vs, RepL K H vs ds → DpAll K H vs (pyL ds) := by
      intro ds
      induction ds with
      | nil => intro _; exact ⟨by simp [pyL, PyData.showableAll], by simp [pyL, PyData.depthAll], by simp [pyL, PyData.hasDictAll], fun K H vs r => by cases r; exact .nil⟩
      | cons d ds ih2 =>
        intro h
        simp only [List.all_cons, Bool.and_eq_true] at h
        obtain ⟨a1, a2, a4, a3⟩ := ih d h.1
        obtain ⟨b1, b2, b4, b3⟩ := ih2 h.2
        refine ⟨by simp only [pyL, PyData.showableAll, a1, b1, Bool.and_self], by simp only [pyL, PyData.depthAll]; omega, by simp only [pyL, PyData.hasDictAll, a4, b4, Bool.or_self], fun K H vs r => ?_⟩
        cases r with
        | cons r1 r2 => exact .cons (a3 _ _ _ r1) (b3 _ _ _ r2)
    intro d h
    cases d with
    | lst ds =>
      obtain ⟨b1, b2, b4, b3⟩ := all ds h
      refine ⟨by simp only [D.py, PyData.showable]; exact b1, by simp only [D.py, PyData.depth]; omega, by simp only [D.py, PyData.hasDict]; exact b4, fun K H v r => ?_⟩
      cases r with
      | lst h1 h2 => exact .lst h1.sq (b3 _ _ _ h2)
    | tup ds =>
      obtain ⟨b1, b2, b4, b3⟩ := all ds h
      refine ⟨by simp only [D.py, PyData.showable]; exact b1, by simp only [D.py, PyData.depth]; omega, by simp only [D.py, PyData.hasDict]; exact b4, fun K H v r => ?_⟩
      cases r with
      | tup h1 h2 => exact .tup h1 (b3 _ _ _ h2)
    | _ => exact base _ _ (fun ds e => by cases e) (fun ds e => by cases e) h
def D.shown (d : D) : Str := d.py.shown
/-- data of two or more parts; an int; a text -/
def rdRepr : RDL := fun ds M Q => match ds with
  | [.int i] => i.natAbs.log2 < 1920 ∧ Q (.str (toString i)) M
  | [.lst xs] => (D.shw 16 (.lst xs) = true ∧ (D.lst xs).shown.length ≤ sizeLine) ∧ Q (.str (D.lst xs).shown) M
  | [.tup xs] => (D.shw 16 (.tup xs) = true ∧ (D.tup xs).shown.length ≤ sizeLine) ∧ Q (.str (D.tup xs).shown) M
  | _ => False
section
variable {X : Cx}
theorem c_repr (hg : X.A.guards = some []) (hu : X.A.units + 64 < cLine) : CallR X (.builtin "repr") (fun xs H Q => (∃ i, xs = [.int i] ∧ i.natAbs.log2 < 1920 ∧ Q (.str (toString i)) H) ∨
    ∃ a d, xs = [.ref a] ∧ Dp X.K H (.ref a) d ∧ d.showable = true ∧ d.depth ≤ 16 ∧ d.hasDict = false ∧ d.shown.length ≤ sizeLine ∧ Q (.str d.shown) H) := by
  refine CallR.or SkE.call_repr_int ?_
  intro pins s σ H xs us Q I r h
  obtain ⟨a, d, rfl, hd, h1, h2, h3, h4, q⟩ := h
  have e := r.ref1
  subst e
  obtain ⟨as, rd⟩ := Dp.reads I d _ _ hd rfl
  refine repr_of_reads' (h₀ := s.heap) rd h1 (PyData.noDict_hsm h3) hg (by omega) (fun _ _ q => q) (fun h' u tk k => ?_) h4
  exact ⟨.str _, H, I.kept (t' := tk) k, ⟨_, rfl⟩, q⟩
theorem od_repr {K : PySem.W.Frag} : CrD K (fun xs H Q => (∃ i, xs = [.int i] ∧ i.natAbs.log2 < 1920 ∧ Q (.str (toString i)) H) ∨
    ∃ a d, xs = [.ref a] ∧ Dp K H (.ref a) d ∧ d.showable = true ∧ d.depth ≤ 16 ∧ d.hasDict = false ∧ d.shown.length ≤ sizeLine ∧ Q (.str d.shown) H) rdRepr := by
  intro HI M H xs ds Q Qv ok r h k
  unfold rdRepr at h
  split at h
  · rename_i i
    cases r with
    | cons r rr =>
      cases rr
      cases r
      exact .inl ⟨i, rfl, h.1, k _ _ (.mk ok (.str _) h.2)⟩
  · rename_i ys
    obtain ⟨⟨h1, h2⟩, q⟩ := h
    obtain ⟨b1, b2, b4, b3⟩ := shw_facts 16 _ h1
    cases r with
    | cons r rr =>
      cases rr
      have z := b3 K H _ (r.up ok.same)
      cases r with
      | lst a r => exact .inr ⟨_, _, rfl, z, b1, b2, b4, h2, k _ _ (.mk ok (.str _) q)⟩
  · rename_i ys
    obtain ⟨⟨h1, h2⟩, q⟩ := h
    obtain ⟨b1, b2, b4, b3⟩ := shw_facts 16 _ h1
    cases r with
    | cons r rr =>
      cases rr
      have z := b3 K H _ (r.up ok.same)
      cases r with
      | tup a r => exact .inr ⟨_, _, rfl, z, b1, b2, b4, h2, k _ _ (.mk ok (.str _) q)⟩
  · exact h.elim
end

/-! ### methods of texts and lists -/
abbrev RDM := Str → List D → MM → DK → Prop
def MsD (K : PySem.W.Frag) (r : V → List V → Hp → VK → Prop) (rd : RDM) : Prop := ∀ HI M H a xs ds Q Qv, Ok K HI M H → RepL K HI xs ds → rd a ds M Q → (∀ v H', low K HI M H Q v H' → Qv v H') → r (.str a) xs H Qv
def tms (rd : RDM) (t : TD) (ts : TDL) : TD := fun σ M Q E => t σ M (fun x M1 => match x with
  | .str a => ts σ M1 (fun xs M2 => rd a xs M2 Q) E
  | _ => False) E
abbrev RDML := Addr → List D → List D → MM → DK → Prop
section
variable {X : Cx} {W : WX} {o e : Expr} {es : List Expr} {to : TD} {ts : TDL} {name : Str} {apos cpos : Pos} {T id : String} {r : V → List V → Hp → VK → Prop} {rd : RDM}
theorem d_ms (slot : Slot "str" name id) (hty : typeOf (.builtin id) = pure (.type "method_descriptor")) (hm : MtR X id r) (hr : MsD X.K r rd) (ho : DE X W o to) (ha : DA X W (e :: es) ts)
    (hbase : attributeBase o name X.env (eval o X.env) = eval o X.env := by rfl)
    (hfew : ((backTo cpos (starEach (e :: es) X.env)).all (fun x => !x.1) && (backToKw cpos (keywordEach [] X.env)).all (fun x => x.1.isSome)
      && decide ((e :: es).length + ([] : List Keyword).length + (if ([] : List Keyword).isEmpty then 0 else 1) < 30)) = true := by rfl)
    (hline : (apos.endLine == cpos.line) = true := by rfl) (hs : starEach (e :: es) X.env = (false, eval e X.env) :: starEach es X.env := by rfl) (hplain : (backTo cpos (starEach es X.env)).any (·.1) = false := by rfl) :
    DE X W (.Call (.Attribute o name apos) (e :: es) [] cpos) (tms rd to ts) := pe_imp (pe_bm PySem.F.plainAttrs_str slot hty hm ho ha hbase hfew hline hs hplain) fun σv H Qv h => by
  obtain ⟨HI, σ, M, Q, E, ok, re, h, k, we⟩ := h
  refine ⟨HI, σ, M, _, E, ok, re, h, fun v H1 ⟨HI1, M1, d1, s1, ok1, r1, h1⟩ => ?_, we⟩
  cases r1 with
  | str a =>
    refine ⟨rfl, HI1, σ, M1, _, E, ok1, re.up s1.sm, h1, fun vs H2 ⟨HI2, M2, d2, s2, ok2, r2, h2⟩ => ?_, we.up s1⟩
    exact hr HI2 M2 H2 a vs d2 Q Qv ok2 r2 h2 fun v' H' q => k v' H' (q.of (s1.trans s2))
  | _ => exact h1.elim
/-- one text in, a text, a bool or an int out -/
def rdS1 (C : Str → Str → Prop) (g : Str → Str → D) : RDM := fun a ds M Q => match ds with
  | [.str b] => C a b ∧ Q (g a b) M
  | _ => False
theorem ms_removeprefix {K : PySem.W.Frag} : MsD K (fun x xs H Q => ∃ a b, x = .str a ∧ xs = [.str b] ∧ a.length ≤ sizeLine ∧ Q (.str (Txt.removeprefix a b)) H) (rdS1 (fun a _ => a.length ≤ sizeLine) fun a b => .str (Txt.removeprefix a b)) := by
  intro HI M H a xs ds Q Qv ok r h k
  unfold rdS1 at h
  split at h
  · cases r with
    | cons r rr =>
      cases rr
      cases r
      exact ⟨a, _, rfl, rfl, h.1, k _ _ (.mk ok (.str _) h.2)⟩
  · exact h.elim
/-- split by a text -/
abbrev dstrs (l : List Str) : List D := l.map D.str
def rdSplit : RDM := fun a ds M Q => match ds with
  | [.str b] => ((b.length == 0) = false ∧ a.length + 2 ≤ sizeLine) ∧ Q (.lst (dstrs (Txt.split a b))) M
  | _ => False
theorem ms_split {K : PySem.W.Frag} : MsD K (fun x xs H Q => ∃ a b, x = .str a ∧ xs = [.str b] ∧ (b.length == 0) = false ∧ a.length + 2 ≤ sizeLine ∧ rNewStrs (Txt.split a b) H Q) rdSplit := by
  intro HI M H a xs ds Q Qv ok r h k
  unfold rdSplit at h
  split at h
  · cases r with
    | cons r rr =>
      cases rr
      cases r
      exact ⟨a, _, rfl, rfl, h.1.1, h.1.2, fun p hp => k _ _ (.lst ok (RepL.of_txts _) hp h.2)⟩
  · exact h.elim
def rdPart : RDM := fun a ds M Q => match ds with
  | [.str b] => ((b.length == 0) = false ∧ a.length ≤ sizeLine) ∧ Q (.tup [.str (Txt.partition a b).1, .str (Txt.partition a b).2.1, .str (Txt.partition a b).2.2]) M
  | _ => False
theorem ms_partition {K : PySem.W.Frag} : MsD K (fun x xs H Q => ∃ a b, x = .str a ∧ xs = [.str b] ∧ (b.length == 0) = false ∧ a.length ≤ sizeLine ∧
    ∀ p, H p = none → Q (.ref p) (upd H p (.tup [.str (Txt.partition a b).1, .str (Txt.partition a b).2.1, .str (Txt.partition a b).2.2]))) rdPart := by
  intro HI M H a xs ds Q Qv ok r h k
  unfold rdPart at h
  split at h
  · cases r with
    | cons r rr =>
      cases rr
      cases r
      exact ⟨a, _, rfl, rfl, h.1.1, h.1.2, fun p hp => k _ _ (.tup ok (.cons (.str _) (.cons (.str _) (.cons (.str _) .nil))) hp h.2)⟩
  · exact h.elim
/-- texts out of data -/
def strsOf : List D → Option (List Str)
  | [] => some []
  | .str b :: r => (strsOf r).map (b :: ·)
  | _ :: _ => none
theorem strsOf_map : ∀ bs : List Str, strsOf (bs.map D.str) = some bs
  | [] => rfl
  | b :: bs => by rw [List.map_cons, strsOf, strsOf_map bs]; rfl
theorem strsOf_eq : ∀ {ds : List D} {bs : List Str}, strsOf ds = some bs → ds = bs.map D.str
  | [], bs, h => by cases h; rfl
  | d :: ds, bs, h => by
    cases d with
    | str b =>
      unfold strsOf at h
      cases e : strsOf ds with
      | none => rw [e] at h; cases h
      | some r => rw [e] at h; cases h; rw [List.map_cons, strsOf_eq e]
    | _ => cases h
def rdJoin : RDM := fun a ds M Q => match ds with
  | [.lst xs] => (match strsOf xs with
    | some ys => (ys.map (·.length)).sum + ys.length * a.length ≤ 16777216 ∧ Q (.str (Txt.join a ys)) M
    | none => False)
  | _ => False
theorem ms_join {K : PySem.W.Frag} : MsD K (fun x xs H Q => ∃ a p, ∃ ys : List Str, x = .str a ∧ xs = [.ref p] ∧ (SqL K H p (ys.map V.str) ∨ SqT K H p (ys.map V.str)) ∧
    (ys.map (·.length)).sum + ys.length * a.length ≤ 16777216 ∧ Q (.str (Txt.join a ys)) H) rdJoin := by
  intro HI M H a xs ds Q Qv ok r h k
  unfold rdJoin at h
  split at h
  · split at h
    · rename_i ys e
      cases r with
      | cons r rr =>
        cases rr
        cases r with
        | lst al r =>
          rw [strsOf_eq e] at r
          have e2 := r.txts
          subst e2
          exact ⟨a, _, ys, rfl, rfl, .inl (al.up ok.same).sq, h.1, k _ _ (.mk ok (.str _) h.2)⟩
    · exact h.elim
  · exact h.elim
/-! lists that change -/
theorem same_updI {HI H : Hp} {p : Addr} {o : HO} (hn : HI p = none) (s : Same HI H) : Same HI (upd H p o) := fun b u e => by rw [upd_ne (ne_of_none e hn)]; exact s b u e
/-- xs.append(e), xs told by its address -/
def isL (M : MM) (p : Addr) : Prop := match M p with
  | some (.lst _) => True
  | _ => False
def tapp (t : TD) (ts : TDL) : TD := fun σ M Q E => t σ M (fun x M1 => match x with
  | .ref p => isL M1 p ∧ ts σ M1 (fun ys M2 => match ys, M2 p with
    | [y], some (.lst ds) => ds.length < sizeLine ∧ Q .non (mput M2 p (.lst (ds ++ [y])))
    | _, _ => False) E
  | _ => False) E
theorem d_app (ho : DE X W o to) (ha : DA X W (e :: es) ts)
    (hbase : attributeBase o "append" X.env (eval o X.env) = eval o X.env := by rfl)
    (hfew : ((backTo cpos (starEach (e :: es) X.env)).all (fun x => !x.1) && (backToKw cpos (keywordEach [] X.env)).all (fun x => x.1.isSome)
      && decide ((e :: es).length + ([] : List Keyword).length + (if ([] : List Keyword).isEmpty then 0 else 1) < 30)) = true := by rfl)
    (hline : (apos.endLine == cpos.line) = true := by rfl) (hs : starEach (e :: es) X.env = (false, eval e X.env) :: starEach es X.env := by rfl) (hplain : (backTo cpos (starEach es X.env)).any (·.1) = false := by rfl) :
    DE X W (.Call (.Attribute o "append" apos) (e :: es) [] cpos) (tapp to ts) := pe_imp (pe_bm PySem.F.plainAttrs_list PySem.F.slot_list_append PySem.F.type_list_append mt_append ho ha hbase hfew hline hs hplain) fun σv H Qv h => by
  obtain ⟨HI, σ, M, Q, E, ok, re, h, k, we⟩ := h
  refine ⟨HI, σ, M, _, E, ok, re, h, fun v H1 ⟨HI1, M1, d1, s1, ok1, r1, h1⟩ => ?_, we⟩
  cases r1 with
  | ref p =>
    obtain ⟨hp, h1⟩ := h1
    refine ⟨.inl ⟨rfl, ?_⟩, HI1, σ, M1, _, E, ok1, re.up s1.sm, h1, fun vs H2 ⟨HI2, M2, d2, s2, ok2, r2, h2⟩ => ?_, we.up s1⟩
    · unfold isL at hp
      split at hp
      · rename_i ds e
        obtain ⟨xs, hx, _⟩ := ok1.var p _ e
        exact ⟨xs, .of hx⟩
      · exact hp.elim
    · simp only at h2
      split at h2
      · rename_i y ds e
        obtain ⟨xs, hx, rx⟩ := ok2.var p _ e
        cases r2 with
        | cons ry rr =>
          cases rr
          refine ⟨p, xs, _, rfl, rfl, hx, by rw [rx.len]; exact h2.1, k _ _ ⟨HI2, _, _, (s1.trans s2).trans (.chg e), ?_, .non, h2.2⟩⟩
          exact ok2.newM (m := .lst (ds ++ [y])) (ok2.notI e) (show MRep X.K HI2 _ p (.lst (ds ++ [y])) from ⟨_, upd_same, rx.app (.cons ry .nil)⟩)
      · exact h2.elim
  | _ => exact h1.elim
end
end DL

/-! The data layer: statements, loops, comprehensions. -/
namespace DL
open PySem PySem.Spec L2

section
variable {X : Cx} {W : WX} {st : Stmt} {rest : List Stmt} {t u : TDS} {e : Expr} {te : TD} {pos : Pos}
def snx : TDS := fun D σ M => D.nx σ M
def sseq (t u : TDS) : TDS := fun D σ M => t { D with nx := u D } σ M
theorem s_nil : DSs X W [] snx := pss_imp pss_nil fun σv H Dv h => by
  obtain ⟨HI, σ, M, Dd, ok, re, h, r⟩ := h
  exact r.nx HI σv H σ M .refl ok re h
theorem s_cons (h1 : DS X W st t) (h2 : DSs X W rest u) : DSs X W (st :: rest) (sseq t u) := pss_imp (pss_cons h1 h2) fun σv H Dv h => by
  obtain ⟨HI, σ, M, Dd, ok, re, h, r⟩ := h
  exact ⟨HI, σ, M, _, ok, re, h, ⟨fun HI' σv' H' σ' M' s ok' re' q => ⟨HI', σ', M', Dd, ok', re', q, r.up s⟩, r.rt, r.bk, r.ct, r.ex⟩⟩
theorem s_one (h1 : DS X W st t) : DSs X W [st] t := pss_one h1
theorem s_pass : DS X W (.Pass pos) snx := ps_imp ps_pass fun σv H Dv h => by
  obtain ⟨HI, σ, M, Dd, ok, re, h, r⟩ := h
  exact r.nx HI σv H σ M .refl ok re h
theorem s_doc {x j pos'} : DS X W (.Expr (.Constant (.str x) j pos) pos') snx := ps_imp ps_doc fun σv H Dv h => by
  obtain ⟨HI, σ, M, Dd, ok, re, h, r⟩ := h
  exact r.nx HI σv H σ M .refl ok re h
def sdrop (te : TD) : TDS := fun D σ M => te σ M (fun _ M1 => D.nx σ M1) (fun x M1 => D.ex x σ M1)
theorem s_expr (he : DE X W e te) (hs : swapsWith e none pos.line X.env = pure false := by rfl) : DS X W (.Expr e pos) (sdrop te) := ps_imp (ps_expr he hs) fun σv H Dv h => by
  obtain ⟨HI, σ, M, Dd, ok, re, h, r⟩ := h
  exact ⟨HI, σ, M, _, _, ok, re, h, fun v H' ⟨HI1, M1, d1, s1, ok1, r1, h1⟩ => r.nx HI1 σv H' σ M1 s1 ok1 (re.up s1.sm) h1, r.ex HI σv H σ M .refl re⟩
def sret (te : TD) : TDS := fun D σ M => te σ M D.rt (fun x M1 => D.ex x σ M1)
theorem s_ret (he : DE X W e te) : DS X W (.Return (some e) pos) (sret te) := ps_imp (ps_ret he) fun σv H Dv h => by
  obtain ⟨HI, σ, M, Dd, ok, re, h, r⟩ := h
  exact ⟨HI, σ, M, _, _, ok, re, h, r.rt, r.ex HI σv H σ M .refl re⟩
def sretN : TDS := fun D _ M => D.rt .non M
theorem s_retN : DS X W (.Return none pos) sretN := ps_imp ps_retN fun σv H Dv h => by
  obtain ⟨HI, σ, M, Dd, ok, re, h, r⟩ := h
  exact r.rt _ _ (.mk ok .non h)
def sif (c : TDT) (t u : TDS) : TDS := fun D σ M => c σ M (fun b M1 => if b = true then t D σ M1 else u D σ M1) (fun x M1 => D.ex x σ M1)
theorem s_if {c : Expr} {a b : List Stmt} {tc : TDT} (hc : DT X W c tc) (ha : DSs X W a t) (hb : DSs X W b u) : DS X W (.If c a b pos) (sif tc t u) := ps_imp (ps_if hc ha hb) fun σv H Dv h => by
  obtain ⟨HI, σ, M, Dd, ok, re, h, r⟩ := h
  refine ⟨HI, σ, M, _, _, ok, re, h, fun c H1 ⟨HI1, M1, s1, ok1, h1⟩ => ?_, r.ex HI σv H σ M .refl re⟩
  cases c with
  | true => exact ⟨HI1, σ, M1, Dd, ok1, re.up s1.sm, h1, r.up s1⟩
  | false => exact ⟨HI1, σ, M1, Dd, ok1, re.up s1.sm, h1, r.up s1⟩
def snever : TDS := fun _ _ _ => False
theorem s_never : DS X W st snever := ps_imp ps_never fun σv H Dv h => by
  obtain ⟨HI, σ, M, Dd, ok, re, h, r⟩ := h
  exact h
theorem s_neverS {sts : List Stmt} : DSs X W sts snever := pss_imp pss_never fun σv H Dv h => by
  obtain ⟨HI, σ, M, Dd, ok, re, h, r⟩ := h
  exact h
def sbrk : TDS := fun D σ M => D.bk σ M
def sct : TDS := fun D σ M => D.ct σ M
theorem s_brk : DS X W (.Break pos) sbrk := ps_imp ps_break fun σv H Dv h => by
  obtain ⟨HI, σ, M, Dd, ok, re, h, r⟩ := h
  exact r.bk HI σv H σ M .refl ok re h
theorem s_ct : DS X W (.Continue pos) sct := ps_imp ps_continue fun σv H Dv h => by
  obtain ⟨HI, σ, M, Dd, ok, re, h, r⟩ := h
  exact r.ct HI σv H σ M .refl ok re h
/-- raise X('..'), X without an __init__ of its own -/
def sraise (x : Str) : TDS := fun D σ M => D.ex ⟨x, []⟩ σ M
theorem s_raise {x m : Str} {j : Nat} {p p2 cp : Pos} (hc : X.calm = true) (tk : Takes X W) (f : (He.Fa.exc x).ok X.K = true) (gC : X.mg x = some (.ref (He.ga X.K x))) (hg : Gl X x) (hdb : (x == ("__debug__" : Str)) = false := by decide) :
    DS X W (.Raise (some (.Call (.Name x p) [.Constant (.str m) j p2] [] cp)) none pos) (sraise x) := by
  obtain ⟨h1, h2, h3, h4⟩ := He.exc_ok f
  refine ps_imp (ps_raise hc tk (pmk_own PySem.F.excBase_ValueError h1 gC h2 (raises_own h3 h4) hg hdb)) fun σv H Dv h => ?_
  obtain ⟨HI, σ, M, Dd, ok, re, h, r⟩ := h
  exact r.ex HI σv H σ M .refl re _ _ _ ⟨HI, M, ⟨x, []⟩, .refl, ok, ⟨rfl, rfl⟩, h⟩
end

/-! ### targets -/
abbrev TDG := D → DSt → MM → (DSt → MM → Prop) → Prop
abbrev TDGs := List D → DSt → MM → (DSt → MM → Prop) → Prop
def upG (K : PySem.W.Frag) (vs : List Nat) (g : TDG) : TG := fun v σv H Qv => ∃ HI σ M d Q, Ok K HI M H ∧ REnv K HI σv σ ∧ Rep K HI v d ∧ g d σ M Q ∧
  ∀ HI' σv' H' σ' M', Stp HI M H HI' M' H' → Ok K HI' M' H' → REnv K HI' σv' σ' → L2.wipe σv' vs = L2.wipe σv vs → Q σ' M' → Qv σv' H'
def upGs (K : PySem.W.Frag) (vs : List Nat) (g : TDGs) : TGs := fun v σv H Qv => ∃ HI σ M d Q, Ok K HI M H ∧ REnv K HI σv σ ∧ RepL K HI v d ∧ g d σ M Q ∧
  ∀ HI' σv' H' σ' M', Stp HI M H HI' M' H' → Ok K HI' M' H' → REnv K HI' σv' σ' → L2.wipe σv' vs = L2.wipe σv vs → Q σ' M' → Qv σv' H'
abbrev DG (X : Cx) (vs : List Nat) (e : Expr) (g : TDG) : Prop := PG X e (upG X.K vs g)
abbrev DGs (X : Cx) (vs : List Nat) (e : List Expr) (g : TDGs) : Prop := PGs X e (upGs X.K vs g)
theorem wipe_out1 {σ : L2.St} {i : Nat} {x : Option V} : ∀ {vs : List Nat}, i ∈ vs → L2.wipe (σ.set i x) vs = L2.wipe σ vs
  | [], h => by cases h
  | v :: vs, h => by
    unfold L2.wipe
    by_cases hv : v = i
    · subst hv
      by_cases hm : v ∈ vs
      · rw [wipe_out1 hm]
      · have e : L2.wipe (σ.set v x) vs = (L2.wipe σ vs).set v x := wipe_set hm
        rw [e, List.set_set]
    · have hm : i ∈ vs := by
        rcases List.mem_cons.mp h with z | z
        · exact absurd z.symm hv
        · exact z
      rw [wipe_out1 hm]
where
  wipe_set {σ : L2.St} {i : Nat} {x : Option V} : ∀ {vs : List Nat}, i ∉ vs → L2.wipe (σ.set i x) vs = (L2.wipe σ vs).set i x
  | [], _ => rfl
  | v :: vs, h => by
    unfold L2.wipe
    rw [wipe_set (fun z => h (List.mem_cons_of_mem _ z)), List.set_comm _ _ (fun z => h (by rw [z]; exact List.mem_cons_self))]
theorem wipe_wipe {σ : L2.St} : ∀ (vs : List Nat), L2.wipe (L2.wipe σ vs) vs = L2.wipe σ vs := by
  have gen : ∀ (ws vs : List Nat), (∀ v ∈ ws, v ∈ vs) → L2.wipe (L2.wipe σ ws) vs = L2.wipe σ vs := by
    intro ws
    induction ws with
    | nil => intro vs _; rfl
    | cons w ws ih =>
      intro vs h
      show L2.wipe ((L2.wipe σ ws).set w none) vs = _
      rw [wipe_out1 (h w List.mem_cons_self)]
      exact ih vs fun v hv => h v (List.mem_cons_of_mem _ hv)
  exact fun vs => gen vs vs fun _ h => h
section
variable {X : Cx} {pos : Pos} {vs : List Nat}
def gn (i : Nat) : TDG := fun d σ M Q => Q (σ.set i (some d)) M
theorem g_name {i : Nat} {x : Str} (hN : X.N.Nodup) (hi : X.N[i]? = some x) (hx : Loc X.env.scope x) (hv : i ∈ vs := by decide) (hf : X.fn x = true ∨ X.env.scope.names.lookup x = some .local := by first | exact .inl rfl | exact .inr rfl | assumption) : DG X vs (.Name x pos) (gn i) :=
  ⟨fun pins s σ H v u Q I r h => by
    obtain ⟨HI, σd, M, d, Qd, ok, re, rp, h, k⟩ := h
    exact (pg_name hN hi hx hf).run pins s σ H v u Q I r (k HI _ H _ M .refl ok (re.set rp i) (wipe_out1 hv) h)⟩
def gsn : TDGs := fun ds σ M Q => match ds with
  | [] => Q σ M
  | _ => False
def gsc (g : TDG) (gs : TDGs) : TDGs := fun ds σ M Q => match ds with
  | d :: r => g d σ M (fun σ' M' => gs r σ' M' Q)
  | _ => False
theorem gs_nil : DGs X vs [] gsn := ⟨fun pins s σ H vs us Q I r h => by
  obtain ⟨HI, σd, M, d, Qd, ok, re, rp, h, k⟩ := h
  cases d with
  | nil =>
    cases rp
    exact pgs_nil.run pins s σ H [] us Q I r ⟨rfl, k HI σ H σd M .refl ok re rfl h⟩
  | cons _ _ => exact h.elim⟩
theorem gs_cons {e : Expr} {es : List Expr} {t : TDG} {u : TDGs} (h1 : DG X vs e t) (h2 : DGs X vs es u)
    (hs : (assignEach (e :: es) X.env).map (·.2) = assign e X.env :: (assignEach es X.env).map (·.2) := by rfl) : DGs X vs (e :: es) (gsc t u) := ⟨fun pins s σ H ws us Q I r h => by
  obtain ⟨HI, σd, M, d, Qd, ok, re, rp, h, k⟩ := h
  cases d with
  | nil => exact h.elim
  | cons d ds =>
    cases rp with
    | cons r1 r2 =>
      refine (pgs_cons h1 h2 hs).run pins s σ H _ us Q I r ⟨_, _, rfl, HI, σd, M, d, _, ok, re, r1, h, fun HI1 σv1 H1 σ1 M1 s1 ok1 re1 w1 q1 => ?_⟩
      exact ⟨HI1, σ1, M1, ds, Qd, ok1, re1, r2.up s1.sm, q1, fun HI2 σv2 H2 σ2 M2 s2 ok2 re2 w2 q2 => k HI2 σv2 H2 σ2 M2 (s1.trans s2) ok2 re2 (w2.trans w1) q2⟩⟩
def gtup (n : Nat) (gs : TDGs) : TDG := fun d σ M Q => match d with
  | .tup ds => ds.length = n ∧ gs ds σ M Q
  | _ => False
theorem g_tup {es : List Expr} {k : Nat} {t : TDGs} {n : Nat} (hc : X.calm = true) (h : DGs X vs es t) (hn : (assignEach es X.env).length = n := by rfl) (hst : (assignEach es X.env).findIdx? (·.1) = none := by rfl) : DG X vs (.Tuple es k pos) (gtup n t) :=
  ⟨fun pins s σ H v u Q I r hh => by
    obtain ⟨HI, σd, M, d, Qd, ok, re, rp, hh, kk⟩ := hh
    cases rp with
    | tup a rl => exact (pg_tup hc h hn hst).run pins s σ H _ u Q I r ⟨_, _, rfl, same_t ok.same a, by rw [rl.len]; exact hh.1, HI, σd, M, _, Qd, ok, re, rl, hh.2, kk⟩
    | _ => exact hh.elim⟩
end

section
variable {X : Cx} {W : WX} {pos : Pos} {vs : List Nat}
def sasg (te : TD) (g : TDG) : TDS := fun D σ M => te σ M (fun d M1 => g d σ M1 D.nx) (fun x M1 => D.ex x σ M1)
theorem upasg {te : TD} {g : TDG} : ∀ σv H Dv, upS X.K W (sasg te g) Dv σv H → tAsg (upE X.K W te) (upG X.K vs g) Dv σv H := fun σv H Dv h => by
  obtain ⟨HI, σ, M, Dd, ok, re, h, r⟩ := h
  refine ⟨HI, σ, M, _, _, ok, re, h, fun v H1 ⟨HI1, M1, d1, s1, ok1, r1, h1⟩ => ?_, r.ex HI σv H σ M .refl re⟩
  exact ⟨HI1, σ, M1, d1, _, ok1, re.up s1.sm, r1, h1, fun HI' σv' H' σ' M' s ok' re' _ q => r.nx HI' σv' H' σ' M' (s1.trans s) ok' re' q⟩
theorem s_asg {tg e : Expr} {te : TD} {g : TDG} (vs : List Nat) (he : DE X W e te) (hg : DG X vs tg g) (hs : swapsWithSole [tg] e pos.line X.env = pure false := by rfl) (hw : swappedStores [tg] e X.env = pure none := by rfl)
    (h1 : (assignEach [tg] X.env).map (·.2) = [assign tg X.env] := by rfl) : DS X W (.Assign [tg] e pos) (sasg te g) := ps_imp (ps_asg he hg hs hw h1) upasg
/-- name = e -/
theorem s_set {i : Nat} {x : Str} {e : Expr} {te : TD} {pos' : Pos} (hN : X.N.Nodup) (hi : X.N[i]? = some x) (hx : Loc X.env.scope x) (he : DE X W e te) (hs : swapsWith e (some (.Name x pos')) pos.line X.env = pure false := by rfl) (hf : X.fn x = true ∨ X.env.scope.names.lookup x = some .local := by first | exact .inl rfl | exact .inr rfl | assumption) :
    DS X W (.Assign [.Name x pos'] e pos) (sasg te (gn i)) := ps_imp (ps_set hN hi hx he hs hf) fun σv H Dv h => by
  obtain ⟨HI, σ, M, Dd, ok, re, h, r⟩ := h
  refine ⟨HI, σ, M, _, _, ok, re, h, fun v H1 ⟨HI1, M1, d1, s1, ok1, r1, h1⟩ => ?_, r.ex HI σv H σ M .refl re⟩
  exact r.nx HI1 _ H1 _ M1 s1 ok1 ((re.up s1.sm).set r1 i) h1
/-- a, b = x, y -/
def spar (i j : Nat) (ta : TDL) : TDS := fun D σ M => ta σ M (fun ds M1 => match ds with
  | [a, b] => D.nx ((σ.set i (some a)).set j (some b)) M1
  | _ => False) (fun x M1 => D.ex x σ M1)
theorem s_par {i j : Nat} {x y : Str} {a b : Expr} {ta : TDL} {px py pt : Pos} {kt k2 pt2} (hc : X.calm = true) (hN : X.N.Nodup) (hi : X.N[i]? = some x) (hj : X.N[j]? = some y) (hij : i ≠ j)
    (hx : X.env.scope.names.lookup x = some .local) (hy : X.env.scope.names.lookup y = some .local) (ha : DA X W [a, b] ta)
    (hw : swappedStores [.Tuple [.Name x px, .Name y py] kt pt] (.Tuple [a, b] k2 pt2) X.env = pure (some [x, y]) := by rfl)
    (hs : swapsWithSole [.Tuple [.Name x px, .Name y py] kt pt] (.Tuple [a, b] k2 pt2) pos.line X.env = pure false := by rfl) :
    DS X W (.Assign [.Tuple [.Name x px, .Name y py] kt pt] (.Tuple [a, b] k2 pt2) pos) (spar i j ta) := ps_imp (ps_par hc hN hi hj hij hx hy ha hw hs) fun σv H Dv h => by
  obtain ⟨HI, σ, M, Dd, ok, re, h, r⟩ := h
  refine ⟨HI, σ, M, _, _, ok, re, h, fun v H1 ⟨HI1, M1, d1, s1, ok1, r1, h1⟩ => ?_, r.ex HI σv H σ M .refl re⟩
  simp only at h1
  split at h1
  · cases r1 with
    | cons ra r1 =>
      cases r1 with
      | cons rb r1 =>
        cases r1
        exact ⟨_, _, rfl, r.nx HI1 _ H1 _ M1 s1 ok1 (((re.up s1.sm).set ra i).set rb j) h1⟩
  · exact h1.elim
/-- o[i] = e, o a list that may change -/
def sseti (te to ti : TD) : TDS := fun D σ M => te σ M (fun d M1 => to σ M1 (fun o M2 => ti σ M2 (fun i M3 => match o, i with
  | .ref p, .int k => (match M3 p with
    | some (.lst ds) => (match ixN ds.length k with
      | some j => D.nx σ (mput M3 p (.lst (ds.set j d)))
      | none => False)
    | _ => False)
  | _, _ => False) (fun x M1 => D.ex x σ M1)) (fun x M1 => D.ex x σ M1)) (fun x M1 => D.ex x σ M1)
theorem DE.nopin {e : Expr} {t : TE} (h : PE X e t) : PE X e t := h
theorem s_seti {o i e : Expr} {te to ti : TD} {ip : Pos} (tk : Takes X W) (he : DE X W e te) (ho : DE X W o to) (hi : DE X W i ti)
    (hs : swapsWithSole [.Subscript o i ip] e pos.line X.env = pure false := by rfl) (hw : swappedStores [.Subscript o i ip] e X.env = pure none := by rfl)
    (h1 : (assignEach [.Subscript o i ip] X.env).map (·.2) = [assign (.Subscript o i ip) X.env] := by rfl)
    (hb : ∀ v, assign (.Subscript o i ip) X.env v = (do
      let ov ← holding [v] (eval o X.env)
      let iv ← holding [v, ov] (eval i X.env)
      standAt ip
      holding [v, ov, iv] (setItem ov iv v)
      release [v, ov, iv] []) := by intro _; rfl) : DS X W (.Assign [.Subscript o i ip] e pos) (sseti te to ti) :=
  ps_imp (ps_asg he (pg_sub ho hi set_list hb) hs hw h1) fun σv H Dv h => by
    obtain ⟨HI, σ, M, Dd, ok, re, h, r⟩ := h
    refine ⟨HI, σ, M, _, _, ok, re, h, fun v H1 ⟨HI1, M1, d1, s1, ok1, r1, h1⟩ => ?_, r.ex HI σv H σ M .refl re⟩
    refine ⟨HI1, σ, M1, _, _, ok1, re.up s1.sm, h1, fun o2 H2 ⟨HI2, M2, d2, s2, ok2, r2, h2⟩ => ?_, r.ex HI1 σv H1 σ M1 s1 (re.up s1.sm)⟩
    refine ⟨HI2, σ, M2, _, _, ok2, re.up (s1.trans s2).sm, h2, fun i3 H3 ⟨HI3, M3, d3, s3, ok3, r3, h3⟩ => ?_, r.ex HI2 σv H2 σ M2 (s1.trans s2) (re.up (s1.trans s2).sm)⟩
    cases r2.up s3.sm with
    | ref p =>
     cases r3 with
     | int k =>
      simp only at h3
      split at h3
      · rename_i ds e
        split at h3
        · rename_i j ej
          obtain ⟨xs, hx, rx⟩ := ok3.var p _ e
          refine ⟨p, xs, k, j, rfl, rfl, hx, by rw [rx.len]; exact ej, ?_⟩
          refine r.nx HI3 σv _ σ _ (((s1.trans s2).trans s3).trans (.chg e)) ?_ (re.up ((s1.trans s2).trans s3).sm) h3
          exact ok3.newM (m := .lst (ds.set j d1)) (ok3.notI e) (show MRep X.K HI3 _ p (.lst (ds.set j d1)) from ⟨_, upd_same, rx.set j (r1.up (s2.trans s3).sm)⟩)
        · exact h3.elim
      · exact h3.elim
     | _ => exact h3.elim
    | _ => cases r3 <;> exact h3.elim
/-- name op= e -/
def saug (i : Nat) (te : TD) (rd : RD2) : TDS := fun D σ M => match σ[i]? with
  | some (some a) => te σ M (fun b M1 => rd a b M1 (fun d M2 => D.nx (σ.set i (some d)) M2)) (fun x M1 => D.ex x σ M1)
  | _ => False

/-! ### what a loop walks -/
/-- the items, each told in whatever heap stands then -/
def Walks (K : PySem.W.Frag) (HI0 : Hp) (J : It) (ds : List D) : Prop :=
  (∀ i d HI M H, ds[i]? = some d → Same HI0 HI → Ok K HI M H → J.go i H ∧ ∀ x H', J.yld i H x H' → ∃ HI', Stp HI M H HI' M H' ∧ Ok K HI' M H' ∧ Rep K HI' x d) ∧
    ∀ HI M H, Same HI0 HI → Ok K HI M H → J.stop ds.length H
abbrev TDI := DSt → MM → (List D → MM → Prop) → EK → Prop
def upI (K : PySem.W.Frag) (W : WX) (wi : TDI) : TI := fun σv H R => ∃ HI σ M Q E, Ok K HI M H ∧ REnv K HI σv σ ∧ wi σ M Q E ∧
  (∀ J H' HI' M' ds, Stp HI M H HI' M' H' → Ok K HI' M' H' → Walks K HI' J ds → Q ds M' → R J H') ∧ WOk K W HI M H σv E
abbrev DI (X : Cx) (W : WX) (tg e : Expr) (wi : TDI) : Prop := PI X tg e (upI X.K W wi)
def iseq (t : TD) : TDI := fun σ M Q E => t σ M (fun x M1 => match x with
  | .lst ds => Q ds M1
  | _ => False) E
theorem i_lst {tg e : Expr} {te : TD} (he : DE X W e te) : DI X W tg e (iseq te) := ⟨fun pins s σ H R I h => by
  obtain ⟨HI, σd, M, Q, E, ok, re, h, k, we⟩ := h
  refine (pi_list he).run pins s σ H R I ⟨HI, σd, M, _, E, ok, re, h, fun v H1 ⟨HI1, M1, d1, s1, ok1, r1, h1⟩ => ?_, we⟩
  cases r1 with
  | @lst a xs ds al rl =>
    refine ⟨a, rfl, ⟨xs, (al.up ok1.same).sq⟩, k _ _ HI1 M1 ds s1 ok1 ⟨fun i d HI2 M2 H2 hd sm ok2 => ?_, fun HI2 M2 H2 sm ok2 => ?_⟩ h1⟩
    · obtain ⟨v, hv, rv⟩ := rl.get hd
      have q := (al.up (sm.trans ok2.same)).sq
      refine ⟨⟨xs, v, q, hv⟩, fun x H' ⟨e1, e2⟩ => ?_⟩
      subst e1
      have e3 := e2 xs q
      rw [hv] at e3
      cases e3
      exact ⟨HI2, .refl, ok2, rv.up sm⟩
    · exact ⟨xs, (al.up (sm.trans ok2.same)).sq, by rw [rl.len]; exact Nat.le_refl _⟩
  | _ => exact h1.elim⟩
def itup (t : TD) : TDI := fun σ M Q E => t σ M (fun x M1 => match x with
  | .tup ds => Q ds M1
  | _ => False) E
theorem i_tup {tg e : Expr} {te : TD} (he : DE X W e te) : DI X W tg e (itup te) := ⟨fun pins s σ H R I h => by
  obtain ⟨HI, σd, M, Q, E, ok, re, h, k, we⟩ := h
  refine (pi_tup he).run pins s σ H R I ⟨HI, σd, M, _, E, ok, re, h, fun v H1 ⟨HI1, M1, d1, s1, ok1, r1, h1⟩ => ?_, we⟩
  cases r1 with
  | @tup a xs ds al rl =>
    refine ⟨a, rfl, ⟨xs, same_t ok1.same al⟩, k _ _ HI1 M1 ds s1 ok1 ⟨fun i d HI2 M2 H2 hd sm ok2 => ?_, fun HI2 M2 H2 sm ok2 => ?_⟩ h1⟩
    · obtain ⟨v, hv, rv⟩ := rl.get hd
      have q := same_t (sm.trans ok2.same) al
      refine ⟨⟨xs, v, q, hv⟩, fun x H' ⟨e1, e2⟩ => ?_⟩
      subst e1
      have e3 := e2 xs q
      rw [hv] at e3
      cases e3
      exact ⟨HI2, .refl, ok2, rv.up sm⟩
    · exact ⟨xs, same_t (sm.trans ok2.same) al, by rw [rl.len]; exact Nat.le_refl _⟩
  | _ => exact h1.elim⟩
/-- the signs of a text -/
def istr (t : TD) : TDI := fun σ M Q E => t σ M (fun x M1 => match x with
  | .str z => Q (z.cps.toList.map fun c => .str ⟨#[c]⟩) M1
  | _ => False) E
theorem i_str {tg e : Expr} {te : TD} (he : DE X W e te) : DI X W tg e (istr te) := ⟨fun pins s σ H R I h => by
  obtain ⟨HI, σd, M, Q, E, ok, re, h, k, we⟩ := h
  refine (pi_str he).run pins s σ H R I ⟨HI, σd, M, _, E, ok, re, h, fun v H1 ⟨HI1, M1, d1, s1, ok1, r1, h1⟩ => ?_, we⟩
  cases r1 with
  | str z =>
    refine ⟨z, rfl, k _ _ HI1 M1 _ s1 ok1 ⟨fun i d HI2 M2 H2 hd sm ok2 => ?_, fun HI2 M2 H2 sm ok2 => ?_⟩ h1⟩
    · rw [List.getElem?_map] at hd
      cases e : z.cps.toList[i]? with
      | none => rw [e] at hd; cases hd
      | some c =>
        rw [e] at hd
        cases hd
        refine ⟨?_, fun x H' ⟨e1, c2, e2, e3⟩ => ?_⟩
        · have z1 := (List.getElem?_eq_some_iff.mp e).1
          rw [Array.length_toList] at z1
          exact z1
        · subst e1 e3
          rw [Array.getElem?_toList] at e
          rw [e] at e2
          cases e2
          exact ⟨HI2, .refl, ok2, .str _⟩
    · show z.cps.size ≤ _
      simp
  | _ => exact h1.elim⟩
/-- range(n), range(a, b) -/
def rgD (a b : Int) : List D := (List.range (b - a).toNat).map fun (i : Nat) => D.int (a + (i : Int))
def irng1 (ts : TDL) : TDI := fun σ M Q E => ts σ M (fun xs M1 => match xs with
  | [.int j] => (-(2 ^ 62) ≤ j ∧ j < 2 ^ 62) ∧ Q (rgD 0 j) M1
  | _ => False) E
def irng2 (ts : TDL) : TDI := fun σ M Q E => ts σ M (fun xs M1 => match xs with
  | [.int i, .int j] => (-(2 ^ 62) ≤ i ∧ i < 2 ^ 62 ∧ -(2 ^ 62) ≤ j ∧ j < 2 ^ 62) ∧ Q (rgD i j) M1
  | _ => False) E
theorem walks_rng {K : PySem.W.Frag} {HI : Hp} (a b : Int) : Walks K HI (Itr a (b - a).toNat) (rgD a b) := by
  refine ⟨fun i d HI2 M2 H2 hd sm ok2 => ?_, fun HI2 M2 H2 sm ok2 => ?_⟩
  · unfold rgD at hd
    rw [List.getElem?_map] at hd
    cases e : (List.range (b - a).toNat)[i]? with
    | none => rw [e] at hd; cases hd
    | some j =>
      rw [e] at hd
      cases hd
      obtain ⟨h1, h2⟩ := List.getElem?_eq_some_iff.mp e
      rw [List.getElem_range] at h2
      subst h2
      rw [List.length_range] at h1
      refine ⟨h1, fun x H' ⟨e1, e2⟩ => ?_⟩
      subst e1 e2
      exact ⟨HI2, .refl, ok2, .int _⟩
  · show (b - a).toNat ≤ _
    unfold rgD
    rw [List.length_map, List.length_range]
    exact Nat.le_refl _
theorem walks_rng0 {K : PySem.W.Frag} {HI : Hp} (b : Int) : Walks K HI (Itr 0 b.toNat) (rgD 0 b) := by
  have q := walks_rng (K := K) (HI := HI) 0 b
  rw [Int.sub_zero] at q
  exact q
theorem i_rng1 {tg a : Expr} {ts : TDL} {p : Pos} (hg : Gl X "range") (hm : X.mg "range" = none) (ha : DA X W [a] ts) (hs : starEach [a] X.env = [(false, eval a X.env)] := by rfl) : DI X W tg (.Call (.Name "range" p) [a] [] pos) (irng1 ts) := ⟨fun pins s σ H R I h => by
  obtain ⟨HI, σd, M, Q, E, ok, re, h, k, we⟩ := h
  refine (pi_range1 hg hm ha hs).run pins s σ H R I ⟨HI, σd, M, _, E, ok, re, h, fun v H1 ⟨HI1, M1, d1, s1, ok1, r1, h1⟩ => ?_, we⟩
  simp only at h1
  split at h1
  · cases r1 with
    | cons r r1 =>
      cases r1
      cases r with
      | int =>
        exact ⟨_, rfl, h1.1.1, h1.1.2, k _ _ HI1 M1 _ s1 ok1 (walks_rng0 _) h1.2⟩
  · exact h1.elim⟩
theorem i_rng2 {tg a b : Expr} {ts : TDL} {p : Pos} (hg : Gl X "range") (hm : X.mg "range" = none) (ha : DA X W [a, b] ts) (hs : starEach [a, b] X.env = [(false, eval a X.env), (false, eval b X.env)] := by rfl) (hs2 : starEach [b] X.env = [(false, eval b X.env)] := by rfl) :
    DI X W tg (.Call (.Name "range" p) [a, b] [] pos) (irng2 ts) := ⟨fun pins s σ H R I h => by
  obtain ⟨HI, σd, M, Q, E, ok, re, h, k, we⟩ := h
  refine (pi_range2 hg hm ha hs hs2).run pins s σ H R I ⟨HI, σd, M, _, E, ok, re, h, fun v H1 ⟨HI1, M1, d1, s1, ok1, r1, h1⟩ => ?_, we⟩
  simp only at h1
  split at h1
  · cases r1 with
    | cons r r1 =>
      cases r1 with
      | cons r' r1 =>
        cases r1
        cases r with
        | int =>
          cases r' with
          | int => exact ⟨_, _, rfl, h1.1, k _ _ HI1 M1 _ s1 ok1 (walks_rng _ _) h1.2⟩
  · exact h1.elim⟩

/-! ### for -/
def forD (g : TDG) (tb : TDS) : List D → TDS
  | [], D, σ, M => D.nx σ M
  | d :: ds, D, σ, M => g d σ M (fun σ' M' => tb { D with nx := fun σ2 M2 => forD g tb ds D σ2 M2, ct := fun σ2 M2 => forD g tb ds D σ2 M2, bk := D.nx } σ' M')
def sfor (wi : TDI) (g : TDG) (tb : TDS) : TDS := fun D σ M => wi σ M (fun ds M1 => forD g tb ds D σ M1) (fun x M1 => D.ex x σ M1)
theorem s_for {tg iter : Expr} {body : List Stmt} {wi : TDI} {g : TDG} {tb : TDS} (vs : List Nat) (hp : PassesOwn (model X.prog X.w) X.A X.env X.xe) (hc : X.calm = true) (hi : DI X W tg iter wi) (hg : DG X vs tg g) (hb : DSs X W body tb)
    (hs : ∀ x, foldedSetIterable iter X.env x = pure x := by intro _; rfl) : DS X W (.For tg iter body [] pos) (sfor wi g tb) := ps_imp (ps_for hp hc hi hg hb hs) fun σv H Dv h => by
  obtain ⟨HI, σ, M, Dd, ok, re, h, r⟩ := h
  refine ⟨HI, σ, M, _, _, ok, re, h, fun J H1 HI1 M1 ds s1 ok1 wk h1 => ?_, r.ex HI σv H σ M .refl re⟩
  refine ⟨fun i m σv' H' => ∃ HI' σ' M', Stp HI1 M1 H1 HI' M' H' ∧ Ok X.K HI' M' H' ∧ REnv X.K HI' σv' σ' ∧ m = ds.length - i ∧ i ≤ ds.length ∧ forD g tb (ds.drop i) Dd σ' M', ⟨_, HI1, σ, M1, .refl, ok1, re.up s1.sm, rfl, Nat.zero_le _, h1⟩, ?_⟩
  rintro i m σv' H' ⟨HI', σ', M', s', ok', re', rfl, hle, hf⟩
  have r' := r.up (s1.trans s')
  by_cases hlt : i < ds.length
  · have hd : ds[i]? = some ds[i] := List.getElem?_eq_getElem hlt
    rw [List.drop_eq_getElem_cons hlt] at hf
    obtain ⟨hgo, hy⟩ := wk.1 i _ HI' M' H' hd s'.sm ok'
    refine .inr ⟨hgo, fun σv2 H2 => ∃ HI2 σ2 M2, Stp HI1 M1 H1 HI2 M2 H2 ∧ Ok X.K HI2 M2 H2 ∧ REnv X.K HI2 σv2 σ2 ∧ forD g tb (ds.drop (i + 1)) Dd σ2 M2, fun σv2 H2 ⟨HI2, σ2, M2, s2, ok2, re2, q⟩ => ⟨ds.length - (i + 1), by omega, HI2, σ2, M2, s2, ok2, re2, rfl, hlt, q⟩, fun x H2 y => ?_⟩
    obtain ⟨HI2, s2, ok2, rx⟩ := hy x H2 y
    refine ⟨HI2, σ', M', _, _, ok2, re'.up s2.sm, rx, hf, fun HI3 σv3 H3 σ3 M3 s3 ok3 re3 _ q3 => ?_⟩
    have s03 := (s'.trans s2).trans s3
    have r3 := r'.up (s2.trans s3)
    refine ⟨HI3, σ3, M3, _, ok3, re3, q3, ⟨fun HI4 σv4 H4 σ4 M4 s4 ok4 re4 q4 => ⟨HI4, σ4, M4, s03.trans s4, ok4, re4, q4⟩, r3.rt, r3.nx, fun HI4 σv4 H4 σ4 M4 s4 ok4 re4 q4 => ⟨HI4, σ4, M4, s03.trans s4, ok4, re4, q4⟩, r3.ex⟩⟩
  · have e : i = ds.length := by omega
    subst e
    rw [List.drop_length] at hf
    exact .inl ⟨wk.2 HI' M' H' s'.sm ok', r'.nx HI' σv' H' σ' M' .refl ok' re' hf⟩

/-! ### while -/
def whN (c : TDT) (tb : TDS) : Nat → TDS
  | 0, _, _, _ => False
  | n + 1, D, σ, M => c σ M (fun b M1 => if b = true then tb { D with nx := fun σ2 M2 => whN c tb n D σ2 M2, ct := fun σ2 M2 => whN c tb n D σ2 M2, bk := D.nx } σ M1 else D.nx σ M1) (fun x M1 => D.ex x σ M1)
def swh (c : TDT) (tb : TDS) : TDS := fun D σ M => ∃ n, whN c tb n D σ M
theorem s_while {c : Expr} {body : List Stmt} {tc : TDT} {tb : TDS} (hp : PassesOwn (model X.prog X.w) X.A X.env X.xe) (hc : DT X W c tc) (hb : DSs X W body tb) : DS X W (.While c body [] pos) (swh tc tb) := ps_imp (ps_while hp hc hb) fun σv H Dv h => by
  obtain ⟨HI, σ, M, Dd, ok, re, ⟨n0, h⟩, r⟩ := h
  refine ⟨fun m σv' H' => ∃ HI' σ' M', Stp HI M H HI' M' H' ∧ Ok X.K HI' M' H' ∧ REnv X.K HI' σv' σ' ∧ whN tc tb m Dd σ' M', ⟨n0, HI, σ, M, .refl, ok, re, h⟩, ?_⟩
  rintro m σv' H' ⟨HI', σ', M', s', ok', re', hf⟩
  cases m with
  | zero => exact hf.elim
  | succ m =>
    have r' := r.up s'
    refine ⟨HI', σ', M', _, _, ok', re', hf, fun b H1 ⟨HI1, M1, s1, ok1, h1⟩ => ?_, r'.ex HI' σv' H' σ' M' .refl re'⟩
    have r1 := r'.up s1
    cases b with
    | true =>
      refine ⟨fun σv2 H2 => ∃ HI2 σ2 M2, Stp HI M H HI2 M2 H2 ∧ Ok X.K HI2 M2 H2 ∧ REnv X.K HI2 σv2 σ2 ∧ whN tc tb m Dd σ2 M2, fun σv2 H2 q => ⟨m, Nat.lt_succ_self m, q⟩, HI1, σ', M1, _, ok1, re'.up s1.sm, h1, ?_⟩
      exact ⟨fun HI4 σv4 H4 σ4 M4 s4 ok4 re4 q4 => ⟨HI4, σ4, M4, (s'.trans s1).trans s4, ok4, re4, q4⟩, r1.rt, r1.nx, fun HI4 σv4 H4 σ4 M4 s4 ok4 re4 q4 => ⟨HI4, σ4, M4, (s'.trans s1).trans s4, ok4, re4, q4⟩, r1.ex⟩
    | false => exact r1.nx HI1 σv' H1 σ' M1 .refl ok1 (re'.up s1.sm) h1
end
end DL

/-! The data layer: comprehensions, f-strings, functions. -/
namespace DL
open PySem PySem.Spec L2

/-! ### comprehensions -/
abbrev W0 : WX := fun _ _ _ _ => False
def compD (g : TDG) (tt : TDT) (te : TD) (σ : DSt) : List D → List D → MM → (List D → MM → Prop) → Prop
  | [], acc, M, Q => Q acc M
  | d :: ds, acc, M, Q => g d σ M (fun σ2 M2 => tt σ2 M2 (fun b M3 => if b = true then te σ2 M3 (fun y M4 => acc.length < sizeLine ∧ compD g tt te σ ds (acc ++ [y]) M4 Q) (fun _ _ => False) else compD g tt te σ ds acc M3 Q) (fun _ _ => False))
def tlc (wi : TDI) (g : TDG) (tt : TDT) (te : TD) (vs : List Nat) : TD := fun σ M Q E => wi σ M (fun ds M1 => compD g tt te (wipeD σ vs) ds [] M1 (fun acc M2 => Q (.lst acc) M2)) E
def tyes : TDT := fun _ M Q _ => Q true M
abbrev DTs (X : Cx) (W : WX) (ifs : List Expr) (t : TDT) : Prop := PTs X ifs (upT X.K W t)
theorem ts_nil {X : Cx} {W : WX} : DTs X W [] tyes := ⟨fun pins s σ H Q I h => by
  obtain ⟨HI, σd, M, Qd, E, ok, re, h, k, we⟩ := h
  exact pts_nil.run pins s σ H Q I (k _ _ (.mk ok h))⟩
theorem ts_one {X : Cx} {W : WX} {c : Expr} {t : TDT} (h : DT X W c t) : DTs X W [c] t := pts_one h
section
variable {X : Cx} {W : WX}
theorem uplc {wi : TDI} {g : TDG} {tt : TDT} {te : TD} {vs : List Nat} : ∀ σv H Qv, upE X.K W (tlc wi g tt te vs) σv H Qv → tLc (upI X.K W wi) (upG X.K vs g) (upT X.K W0 tt) (upE X.K W0 te) vs σv H Qv := fun σv H Qv h => by
  obtain ⟨HI, σ, M, Q, E, ok, re, h, k, we⟩ := h
  refine ⟨HI, σ, M, _, E, ok, re, h, fun J H1 HI1 M1 ds s1 ok1 wk h1 => ?_, we⟩
  intro Da hD
  obtain ⟨hiD, hmD⟩ := ok1.free hD
  have reW : REnv X.K HI1 (L2.wipe σv vs) (wipeD σ vs) := (re.up s1.sm).wipe vs
  refine ⟨fun i m H' => ∃ HI' M' accV acc, Stp HI1 M1 H1 HI' M' H' ∧ Ok X.K HI' M' H' ∧ H' Da = some (.lst accV) ∧ HI' Da = none ∧ M' Da = none ∧ RepL X.K HI' accV acc ∧ m = ds.length - i ∧ i ≤ ds.length ∧
    compD g tt te (wipeD σ vs) (ds.drop i) acc M' (fun acc M2 => Q (.lst acc) M2), ⟨_, HI1, M1, [], [], .newH hD, ok1.newH hD, upd_same, hiD, hmD, .nil, rfl, Nat.zero_le _, h1⟩, ?_⟩
  rintro i m H' ⟨HI', M', accV, acc, s', ok', e1, e2, e3, ra, rfl, hle, hf⟩
  by_cases hlt : i < ds.length
  · have hd : ds[i]? = some ds[i] := List.getElem?_eq_getElem hlt
    rw [List.drop_eq_getElem_cons hlt] at hf
    obtain ⟨hgo, hy⟩ := wk.1 i _ HI' M' H' hd s'.sm ok'
    refine .inr ⟨hgo, fun H4 => ∃ HI4 M4 accV acc, Stp HI1 M1 H1 HI4 M4 H4 ∧ Ok X.K HI4 M4 H4 ∧ H4 Da = some (.lst accV) ∧ HI4 Da = none ∧ M4 Da = none ∧ RepL X.K HI4 accV acc ∧
      compD g tt te (wipeD σ vs) (ds.drop (i + 1)) acc M4 (fun acc M2 => Q (.lst acc) M2), fun H4 ⟨HI4, M4, aV, a, q1, q2, q3, q4, q5, q6, q7⟩ => ⟨ds.length - (i + 1), by omega, HI4, M4, aV, a, q1, q2, q3, q4, q5, q6, rfl, hlt, q7⟩, fun x H2 y => ?_⟩
    obtain ⟨HI2, s2, ok2, rx⟩ := hy x H2 y
    refine ⟨HI2, wipeD σ vs, M', _, _, ok2, reW.up (s'.trans s2).sm, rx, hf, fun HI3 σv3 H3 σ3 M3 s3 ok3 re3 w3 q3 => ?_⟩
    refine ⟨by rw [w3, wipe_wipe], ?_⟩
    refine ⟨HI3, σ3, M3, _, _, ok3, re3, q3, fun b H4 ⟨HI4, M4, s4, ok4, q4⟩ => ?_, fun c d H' ⟨_, _, _, _, _, _, z⟩ => z⟩
    have st := (s2.trans s3).trans s4
    obtain ⟨f1, f2, f3⟩ := st.fr Da _ e1 e3
    cases b with
    | true =>
      refine ⟨HI4, σ3, M4, _, _, ok4, re3.up s4.sm, q4, fun yv H5 ⟨HI5, M5, d5, s5, ok5, r5, q5⟩ => ?_, fun c d H' ⟨_, _, _, _, _, _, z⟩ => z⟩
      have st5 := st.trans s5
      obtain ⟨g1, g2, g3⟩ := st5.fr Da _ e1 e3
      refine ⟨accV, g1, by rw [ra.len]; exact q5.1, HI5, M5, accV ++ [yv], acc ++ [d5], ⟨(s'.trans st5).sm, fun a u ha hm => ?_⟩, ok5.out (g3 e2) g2, upd_same, g3 e2, g2, (ra.up st5.sm).app (.cons r5 .nil), q5.2⟩
      rw [upd_ne (ne_of_none ha hD)]
      exact (s'.trans st5).fr a u ha hm
    | false => exact ⟨HI4, M4, accV, acc, s'.trans st, ok4, f1, f3 e2, f2, ra.up st.sm, q4⟩
  · have e : i = ds.length := by omega
    subst e
    rw [List.drop_length] at hf
    refine .inl ⟨wk.2 HI' M' H' s'.sm ok', k _ _ ?_⟩
    have sm : Same HI' (upd HI' Da (.lst accV)) := same_upd e2
    refine ⟨upd HI' Da (.lst accV), M', .lst acc, s1.trans ⟨(s'.sm).trans sm, fun a u ha hm => ?_⟩, ⟨fun b u q => ?_, fun b u q => (ok'.var b u q).up sm rfl⟩, .lst (LL.of upd_same) (ra.up sm), hf⟩
    · obtain ⟨g1, g2, g3⟩ := s'.fr a u ha hm
      exact ⟨g1, g2, fun z => by rw [upd_ne (ne_of_none ha hD)]; exact g3 z⟩
    · by_cases hb : b = Da
      · subst hb; rw [upd_same] at q; cases q; exact ⟨e1, e3⟩
      · rw [upd_ne hb] at q; exact ok'.imm b u q
theorem d_lc {elt tg iter : Expr} {ifs : List Expr} {scope : Scope} (own : List (Str × Nat)) {pos : Pos} {wi : TDI} {g : TDG} {tt : TDT} {te : TD} (hc : X.calm = true) (hN : X.N.Nodup) (hi : DI X W tg iter wi) (ok : BlkOk X.N X.env.scope scope own)
    (hg : ∀ (s : Shared) (H : Hp) (C : Addr) (cl : List (Str × Addr)) (fp : List Addr), DG (X.blk s H scope (compEnvC scope cl C X.env) fp) (own.map (·.2)) tg g) (ht : ∀ (s : Shared) (H : Hp) (C : Addr) (cl : List (Str × Addr)) (fp : List Addr), DTs (X.blk s H scope (compEnvC scope cl C X.env) fp) W0 ifs tt)
    (he : ∀ (s : Shared) (H : Hp) (C : Addr) (cl : List (Str × Addr)) (fp : List Addr), DE (X.blk s H scope (compEnvC scope cl C X.env) fp) W0 elt te) (hs : ∀ x, foldedSetIterable iter X.env x = pure x := by intro _; rfl) :
    DE X W (.ListComp elt [⟨tg, iter, ifs, 0⟩] scope pos) (tlc wi g tt te (own.map (·.2))) := pe_imp (pe_lc hc hN hi ok hg ht he hs) uplc
/-- name = [..] -/
theorem s_setLc {i : Nat} {y : Str} {py : Pos} {elt tg iter : Expr} {ifs : List Expr} {scope : Scope} (own : List (Str × Nat)) {pos spos : Pos} {wi : TDI} {g : TDG} {tt : TDT} {te : TD} (hc : X.calm = true) (hN : X.N.Nodup) (hy : X.N[i]? = some y) (hyl : X.env.scope.names.lookup y = some .local)
    (hsw : swapsWith (.ListComp elt [⟨tg, iter, ifs, 0⟩] scope pos) (some (.Name y py)) spos.line X.env = pure true) (hi : DI X W tg iter wi) (ok : BlkOk X.N X.env.scope scope own)
    (hg : ∀ (s : Shared) (H : Hp) (C : Addr) (cl : List (Str × Addr)) (fp : List Addr), DG (X.blk s H scope (compEnvC scope cl C X.env) fp) (own.map (·.2)) tg g) (ht : ∀ (s : Shared) (H : Hp) (C : Addr) (cl : List (Str × Addr)) (fp : List Addr), DTs (X.blk s H scope (compEnvC scope cl C X.env) fp) W0 ifs tt)
    (he : ∀ (s : Shared) (H : Hp) (C : Addr) (cl : List (Str × Addr)) (fp : List Addr), DE (X.blk s H scope (compEnvC scope cl C X.env) fp) W0 elt te) (hs : ∀ x, foldedSetIterable iter X.env x = pure x := by intro _; rfl) :
    DS X W (.Assign [.Name y py] (.ListComp elt [⟨tg, iter, ifs, 0⟩] scope pos) spos) (sasg (tlc wi g tt te (own.map (·.2))) (gn i)) :=
  ps_imp (ps_setLc hc hN hy hyl hsw hi ok hg ht he hs) fun σv H Dv h => by
    obtain ⟨HI, σ, M, Dd, ok, re, h, r⟩ := h
    refine uplc σv H _ ⟨HI, σ, M, _, _, ok, re, h, fun v H1 ⟨HI1, M1, d1, s1, ok1, r1, h1⟩ => ?_, r.ex HI σv H σ M .refl re⟩
    exact r.nx HI1 _ H1 _ M1 s1 ok1 ((re.up s1.sm).set r1 i) h1
end

/-! ### f-strings -/
def tfmt (te : TD) : TD := fun σ M Q E => te σ M (fun x M1 => match x with
  | .str y => y.length ≤ sizeLine ∧ Q (.str y) M1
  | .int i => i.natAbs.log2 < 1920 ∧ Q (.str (toString i)) M1
  | _ => False) E
theorem d_fmt {X : Cx} {W : WX} {e : Expr} {te : TD} {pos : Pos} (he : DE X W e te) : DE X W (.FormattedValue e (-1) none pos) (tfmt te) := pe_imp (pe_fmt he) fun σv H Qv h => by
  obtain ⟨HI, σ, M, Q, E, ok, re, h, k, we⟩ := h
  refine ⟨HI, σ, M, _, E, ok, re, h, fun v H1 ⟨HI1, M1, d1, s1, ok1, r1, h1⟩ => ?_, we⟩
  cases r1 with
  | str y => exact .inl ⟨y, rfl, h1.1, k _ _ ⟨HI1, M1, _, s1, ok1, .str _, h1.2⟩⟩
  | int i => exact .inr ⟨i, rfl, h1.1, k _ _ ⟨HI1, M1, _, s1, ok1, .str _, h1.2⟩⟩
  | _ => exact h1.elim
/-- the parts -/
def tjs : List TD → Str → DSt → MM → (Str → MM → Prop) → EK → Prop
  | [], acc, _, M, Q, _ => Q acc M
  | t :: ts, acc, σ, M, Q, E => t σ M (fun x M1 => match x with
    | .str y => (acc ++ y).length ≤ sizeLine ∧ tjs ts (acc ++ y) σ M1 Q E
    | _ => False) E
def tjoined (ts : List TD) : TD := fun σ M Q E => tjs ts Str.empty σ M (fun y M1 => Q (.str y) M1) E
inductive DJ (X : Cx) (W : WX) : List Expr → List TD → Prop where
  | nil : DJ X W [] []
  | cons {e : Expr} {t : TD} {es : List Expr} {ts : List TD} (h : DE X W e t) (r : DJ X W es ts) : DJ X W (e :: es) (t :: ts)
theorem DJ.pj {X : Cx} {W : WX} {es : List Expr} {ts : List TD} (h : DJ X W es ts) : PJ X es (ts.map (upE X.K W)) := by
  induction h with
  | nil => exact .nil
  | cons h _ ih => exact .cons h ih
theorem upjs {K : PySem.W.Frag} {W : WX} {σv : L2.St} {HI0 : Hp} {M0 : MM} {H0 : Hp} {Qv : Str → Hp → Prop} : ∀ (ts : List TD) (acc : Str) (HI : Hp) (σ : DSt) (M : MM) (H : Hp) (Q : Str → MM → Prop) (E : EK), Ok K HI M H → REnv K HI σv σ → tjs ts acc σ M Q E →
    Stp HI0 M0 H0 HI M H → (∀ y HI' M' H', Stp HI0 M0 H0 HI' M' H' → Ok K HI' M' H' → Q y M' → Qv y H') → WOk K W HI0 M0 H0 σv E → tJs (ts.map (upE K W)) acc σv H Qv
  | [], acc, HI, σ, M, H, Q, E, ok, re, h, s, k, we => k acc HI M H s ok h
  | t :: ts, acc, HI, σ, M, H, Q, E, ok, re, h, s, k, we => by
    refine ⟨HI, σ, M, _, E, ok, re, h, fun v H1 ⟨HI1, M1, d1, s1, ok1, r1, h1⟩ => ?_, we.up s⟩
    cases r1 with
    | str y => exact ⟨y, rfl, h1.1, upjs ts (acc ++ y) HI1 σ M1 H1 Q E ok1 (re.up s1.sm) h1.2 (s.trans s1) k we⟩
    | _ => exact h1.elim
theorem d_joined {X : Cx} {W : WX} {v1 v2 : Expr} {rest : List Expr} {ts : List TD} {pos : Pos} (h : DJ X W (v1 :: v2 :: rest) ts) : DE X W (.JoinedStr (v1 :: v2 :: rest) pos) (tjoined ts) :=
  pe_imp (pe_joined h.pj) fun σv H Qv h => by
    obtain ⟨HI, σ, M, Q, E, ok, re, h, k, we⟩ := h
    exact upjs ts _ HI σ M H _ E ok re h .refl (fun y HI' M' H' s ok' q => k _ _ ⟨HI', M', _, s, ok', .str y, q⟩) we

/-! ### functions -/
/-- room, and no repr under way -/
structure Rm (k : Nat) (A : Around) : Prop where
  r : Room k A
  g : A.guards = some []
theorem Rm.mono {j k : Nat} {A : Around} (r : Rm k A) (h : j ≤ k) : Rm j A := ⟨r.r.mono h, r.g⟩
theorem Rm.deeper {k : Nat} {A : Around} (r : Rm (k + 1) A) (env : Env) : Rm k (A.deeper env) := ⟨r.r.deeper env, r.g⟩
theorem Rm.u {k : Nat} {A : Around} (r : Rm k A) : A.units + 64 < cLine := r.r.units
/-- the function object at f, as the text's part K has it -/
def fdAt (K : PySem.W.Frag) (f : Addr) : FuncData := match K.lookup f with
  | some ⟨_, _, .func fd, _⟩ => fd
  | _ => PySem.W.fnOf "" "" { posonlyargs := [], args := [], vararg := none, kwonlyargs := [], kw_defaults := [], kwarg := none, defaults := [] } [] { kind := .function, names := [], isGenerator := false, isCoroutine := false } .none .none .none .none none .none .none
/-- what a def promises, over data: the arguments, what may change, the wanted end, the wanted exception -/
abbrev SpD := List D → MM → DK → EK → Prop
def lift (K : PySem.W.Frag) (sp : SpD) : Sp := fun vs H Q E => ∃ HI M ds Qd Ed, Ok K HI M H ∧ RepL K HI vs ds ∧ sp ds M Qd Ed ∧ (∀ v H', low K HI M H Qd v H' → Q v H') ∧ ∀ c d H', lowX K HI M H Ed c d H' → E c d H'
structure FnG (P : Program) (w : World) (K : PySem.W.Frag) (mg : Str → Option Value) (base : Heap) (k : Nat) (f : Addr) (ps : List Str) (sp : SpD) : Prop where
  len : ∀ ds M Q E, sp ds M Q E → ds.length = ps.length
  run : ∀ (A : Around) (outer : List Env) (s : Shared) (H : Hp) (args : Args) (us : List Value) (vs : List V) (Q : VK) (E : XK), Rm k A → Env0 P w K mg base A outer s H → BindsTo s (fdAt K f) args (ps.zip us) → Vals vs us → lift K sp vs H Q E →
    codeAny (model P w) A (.call (.ref f) args) (CR (L2.CX P w) outer P w H s Q E) s
theorem lift_len {K : PySem.W.Frag} {sp : SpD} {n : Nat} (h : ∀ ds M Q E, sp ds M Q E → ds.length = n) {vs : List V} {H : Hp} {Q : VK} {E : XK} (q : lift K sp vs H Q E) : vs.length = n := by
  obtain ⟨HI, M, ds, Qd, Ed, _, r, q, _⟩ := q
  rw [r.len]
  exact h _ _ _ _ q
section
variable {P : Program} {w : World} {K : PySem.W.Frag} {mg : Str → Option Value} {base : Heap}
theorem FnG.mono {j k : Nat} {f : Addr} {ps : List Str} {sp : SpD} (F : FnG P w K mg base j f ps sp) (h : j ≤ k) : FnG P w K mg base k f ps sp := ⟨F.len, fun A outer s H args us vs Q E hr => F.run A outer s H args us vs Q E (hr.mono h)⟩
theorem FnG.imp {k : Nat} {f : Addr} {ps : List Str} {sp sp' : SpD} (F : FnG P w K mg base k f ps sp) (h : ∀ ds M Q E, sp' ds M Q E → sp ds M Q E) : FnG P w K mg base k f ps sp' :=
  ⟨fun ds M Q E q => F.len ds M Q E (h _ _ _ _ q), fun A outer s H args us vs Q E hr he hb hv ⟨HI, M, ds, Qd, Ed, ok, r, q, k⟩ => F.run A outer s H args us vs Q E hr he hb hv ⟨HI, M, ds, Qd, Ed, ok, r, h _ _ _ _ q, k⟩⟩
/-- a def as it stands -/
structure FunK (K : PySem.W.Frag) (x qual : Str) (st : Stmt) (f : Addr) : Prop where
  F : Fun K x qual st f (fdAt K f)
abbrev bcx (P : Program) (w : World) (K : PySem.W.Frag) (mg : Str → Option Value) (base : Heap) (N : List Str) (qual : Str) (st : Stmt) (f : Addr) (cdv : Value) (A : Around) (outer : List Env) (s : Shared) (H : Hp) (E : XK) : Cx :=
  cxOf (L2.CX P w) P w K mg base N qual (defScope st) f cdv A outer s H E
/-- the body's end -/
def bend (Q : DK) (E : EK) : DEnds := { nx := fun _ M => Q .non M, rt := Q, ex := fun x _ M => E x M }
theorem fn_ok {x qual : Str} {st : Stmt} {f : Addr} {N ps : List Str} {k : Nat} {sp : SpD} {t : TDS} (F : FunK K x qual st f) (S : FnScope N ps (defScope st)) (len : ∀ ds M Q E, sp ds M Q E → ds.length = ps.length)
    (hb : ∀ (cdv : Value) (A : Around) (outer : List Env) (s : Shared) (H : Hp) (E : XK), Rm k (A.deeper (PyProof.Rows.envOfC qual (defScope st) s.heap.objs.size f cdv)) →
      DSs (bcx P w K mg base N qual st f cdv A outer s H E) (fun c d _ H' => E c d H') (defBody st) t)
    (hq : ∀ ds M Q E, sp ds M Q E → t (bend Q E) (startD N ds) M) : FnG P w K mg base (k + 1) f ps sp := by
  refine ⟨len, fun A outer s H args us vs Q E hr e0 hbind r hsp => ?_⟩
  have hl := lift_len len hsp
  obtain ⟨oc, od, kV, doc, pm, an, cdv, ct, osl, efd, lk, hcd⟩ := F.F.ex
  have KX : K.In s.heap := e0.mod.kin.keeps fun b o e => (e0.bs b o e).1
  have lim : s.heap.NoLimit := e0.mod.nolimit.keeps fun b o e => (e0.bs b o e).1
  rw [efd] at hbind lk
  have kinds : ∀ y ∈ ps.zip us, (defScope st).names.lookup y.1 = some .local ∨ ((defScope st).names.lookup y.1 = some .cell ∧ ((cellsFrom (s.heap.objs.size + 1) (defScope st).names []).lookup y.1).isSome = true) := by
    rintro ⟨n, v⟩ hy
    rcases S.par n (List.of_mem_zip hy).1 with q | q
    · exact .inl q
    · exact .inr ⟨q, PySem.W.cellsFrom_some _ _ _ (.inl q)⟩
  refine codeAny_call_function hr.r.depth (KX _ _ lk) rfl S.co S.gen rfl (PySem.W.codeRec_of KX hcd) (hbind _ _ _ _ ?_)
  refine wpAny_newFunctionEnv_cells S.kind kinds fun env he s1 x => ?_
  subst he
  refine ⟨lim.keeps x.toInCall.keep, codeAny_func ?_⟩
  have I := inv_start (CX := L2.CX P w) (E := E) S hr.r.hd e0 hl r x
  obtain ⟨HI, M, ds, Qd, Ed, ok, rl, q, kq, ke⟩ := hsp
  have body := (hb cdv A outer s H E (hr.deeper _)).run [] s1 (L2.start N vs) H { nx := fun _ H' => Q .non H', rt := Q } I ⟨HI, startD N ds, M, bend Qd Ed, ok, start_env rl, hq _ _ _ _ q,
    ⟨fun HI' σv' H' σ' M' st' ok' _ z => kq _ _ ⟨HI', M', _, st', ok', .non, z⟩, kq, fun _ _ _ _ _ _ _ _ z => z, fun _ _ _ _ _ _ _ _ z => z, fun HI' σv' H' σ' M' st' _ c d H2 z => ke c d H2 (z.of st')⟩⟩
  refine wpAny_mono body (fun fl s' hs => ?_) fun e s' hs => hs
  cases fl with
  | ret u =>
    obtain ⟨v, σ', H', J, rv, q⟩ := hs
    exact ⟨v, H', J.os, J.bare, J.base, J.hok, rv, q⟩
  | next =>
    obtain ⟨σ', H', J, q⟩ := hs
    exact ⟨.non, H', J.os, J.bare, J.base, J.hok, rfl, q⟩
  | brk =>
    obtain ⟨_, _, _, q⟩ := hs
    exact q.elim
  | cont =>
    obtain ⟨_, _, _, q⟩ := hs
    exact q.elim
end

/-! ### calls of the text's own defs -/
def tcall (sp : SpD) (ts : TDL) : TD := fun σ M Q E => ts σ M (fun ds M1 => sp ds M1 Q E) E
section
variable {X : Cx} {W : WX} {k : Nat} {f : Addr} {ps : List Str} {sp : SpD} {x : Str} {p pos : Pos} {e : Expr} {es : List Expr} {ts : TDL}
/-- the callee runs -/
theorem run_g {pins : List (Addr × Obj)} {σ : L2.St} {H : Hp} {s : Shared} {Q : VK} {E : XK} {args : Args} {us : List Value} {vs : List V} (F : FnG X.prog X.w X.K X.mg X.base k f ps sp) (hr : Rm k X.A) (hb : BindsTo s (fdAt X.K f) args (ps.zip us)) (hx : ∀ e s', L2.CX X.prog X.w X.stack H s E e s' → X.xe e s')
    (I : Inv X pins σ H s) (r : Vals vs us) (h : lift X.K sp vs H Q E) : codeAny (model X.prog X.w) X.A (.call (.ref f) args) (fun r s' => match r with
      | .ok (.ret u) => EP X pins σ Q u s'
      | .ok _ => False
      | .error e => X.xe e s') s := by
  refine codeAny_mono (F.run X.A X.stack s H args us vs Q E hr I.env0 hb r h) fun r s' hq => ?_
  cases r with
  | error e => exact hx e s' hq
  | ok fl =>
    cases fl with
    | ret u => exact I.after hq
    | next => exact hq
    | brk => exact hq
    | cont => exact hq
theorem passW {H : Hp} {s : Shared} {pins : List (Addr × Obj)} {σ : L2.St} (tk : Takes X W) (I : Inv X pins σ H s) : ∀ e s', L2.CX X.prog X.w X.stack H s (fun c d H' => W c d σ H') e s' → X.xe e s' := fun e s' c => tk e s' (XE.of_call I (fun _ _ _ h => h) c)
theorem d_call (F : FnG X.prog X.w X.K X.mg X.base k f ps sp) (hr : Rm k X.A) (tk : Takes X W) (hg : Gl X x) (hm : X.mg x = some (.ref f)) (hk : PySem.W.keepIn X.K (.ref f) = true) (hb : Binds X.K (fdAt X.K f) ps [])
    (ha : DA X W (e :: es) ts) (hdb : (x == ("__debug__" : Str)) = false := by decide) (he : starEach (e :: es) X.env = (false, eval e X.env) :: starEach es X.env := by rfl) (hpl : (backTo pos (starEach es X.env)).any (·.1) = false := by rfl) :
    DE X W (.Call (.Name x p) (e :: es) [] pos) (tcall sp ts) := by
  refine ⟨fun pins s σ H Qv I h => ?_⟩
  obtain ⟨HI, σd, M, Q, E, ok, re, h, kq, we⟩ := h
  refine wpAny_Call_Name_kw (ld_glob I hg hm ?_ hdb)
  refine PySem.W.callWith_K (h₀ := X.base) I.ok.mod.kin hk (thn (ha.run pos pins s σ H (fun vs H1 => lift X.K sp vs H1 Qv fun c d H' => W c d σ H') I ⟨HI, σd, M, _, E, ok, re, h, fun v H1 ⟨HI1, M1, d1, s1, ok1, r1, h1⟩ => ?_, we⟩) fun us s1 ⟨vs, H1, I1, r, q⟩ => ⟨I1.kIn, ?_⟩) he hpl
  · exact ⟨HI1, M1, d1, Q, E, ok1, r1, h1, fun v' H' z => kq v' H' (z.of s1), fun c d H' z => we c d H' (z.of s1)⟩
  · have hl : us.length = ps.length := by rw [← r.length]; exact lift_len F.len q
    have b := hb s1 us I1.kIn (by rw [List.append_nil]; exact hl)
    rw [List.append_nil] at b
    exact wpAny_call (codeAny_mono (run_g F hr b (passW tk I1) I1 r q) fun r s' z => by
      cases r with
      | error e => exact z
      | ok fl => cases fl <;> exact z)
/-- f() -/
theorem d_call0 (F : FnG X.prog X.w X.K X.mg X.base k f ps sp) (hr : Rm k X.A) (tk : Takes X W) (hg : Gl X x) (hm : X.mg x = some (.ref f)) (hk : PySem.W.keepIn X.K (.ref f) = true) (hb : Binds X.K (fdAt X.K f) ps [])
    (hdb : (x == ("__debug__" : Str)) = false := by decide) : DE X W (.Call (.Name x p) [] [] pos) (tcall sp a0) := by
  refine ⟨fun pins s σ H Qv I h => ?_⟩
  obtain ⟨HI, σd, M, Q, E, ok, re, h, kq, we⟩ := h
  refine wpAny_Call_Name_kw (ld_glob I hg hm ?_ hdb)
  refine PySem.W.callWith_K0 I.kIn hk ?_
  have q : lift X.K sp [] H Qv fun c d H' => W c d σ H' := ⟨HI, M, [], Q, E, ok, .nil, h, kq, we⟩
  have b := hb s [] I.kIn (by rw [List.append_nil, ← lift_len F.len q]; rfl)
  rw [List.append_nil] at b
  exact wpAny_call (codeAny_mono (run_g F hr b (passW tk I) I .nil q) fun r s' z => by
    cases r with
    | error e => exact z
    | ok fl => cases fl <;> exact z)
/-- keywords -/
abbrev DKs (X : Cx) (W : WX) (kws : List Keyword) (t : TDL) : Prop := PK X kws (upL X.K W t)
theorem k_nil : DKs X W [] a0 := ⟨fun ps' pins s σ H Q I h => by
  obtain ⟨HI, σd, M, Qd, E, ok, re, h, k, we⟩ := h
  exact pk_nil.run ps' pins s σ H Q I (k _ _ (.mk ok .nil h))⟩
theorem k_cons {t : TD} {ts : TDL} {kws : List Keyword} {nm : Option Str} {kpos : Pos} (ha : DE X W e t) (hr : DKs X W kws ts) : DKs X W (⟨nm, e, kpos⟩ :: kws) (ac t ts) := ⟨fun ps' pins s σ H Q I h => by
  obtain ⟨HI, σd, M, Qd, E, ok, re, h, k, we⟩ := h
  refine (pk_cons ha hr).run ps' pins s σ H Q I ⟨HI, σd, M, _, E, ok, re, h, fun v H1 ⟨HI1, M1, d1, s1, ok1, r1, h1⟩ => ?_, we⟩
  refine ⟨HI1, σd, M1, _, E, ok1, re.up s1.sm, h1, fun vs H2 ⟨HI2, M2, d2, s2, ok2, r2, h2⟩ => ?_, we.up s1⟩
  exact k _ _ ⟨HI2, M2, _, s1.trans s2, ok2, .cons (r1.up s2.sm) r2, h2⟩⟩
/-- the arguments in the parameters' order -/
def ro {α : Type} (d : α) (ix : List Nat) (l : List α) : List α := ix.map fun i => l.getD i d
theorem ro_vals {vs : List V} {us : List Value} (r : Vals vs us) : ∀ (ix : List Nat), (∀ i ∈ ix, i < vs.length) → Vals (ro V.non ix vs) (ro Value.none ix us)
  | [], _ => .nil
  | i :: ix, h => by
    have hi := h i List.mem_cons_self
    obtain ⟨u, hu, ru⟩ := r.get (List.getElem?_eq_getElem hi)
    refine .cons ?_ (ro_vals r ix fun j hj => h j (List.mem_cons_of_mem _ hj))
    show RelV (vs.getD i V.non) (us.getD i Value.none)
    rw [List.getD_eq_getElem?_getD, List.getD_eq_getElem?_getD, hu, List.getElem?_eq_getElem hi]
    exact ru
theorem ro_rep {K : PySem.W.Frag} {H : Hp} {vs : List V} {ds : List D} (r : RepL K H vs ds) : ∀ (ix : List Nat), (∀ i ∈ ix, i < vs.length) → RepL K H (ro V.non ix vs) (ro D.non ix ds)
  | [], _ => .nil
  | i :: ix, h => by
    have hi := h i List.mem_cons_self
    obtain ⟨u, hu, ru⟩ := r.getV (List.getElem?_eq_getElem hi)
    refine .cons ?_ (ro_rep r ix fun j hj => h j (List.mem_cons_of_mem _ hj))
    show Rep K H (vs.getD i V.non) (ds.getD i D.non)
    rw [List.getD_eq_getElem?_getD, List.getD_eq_getElem?_getD, hu, List.getElem?_eq_getElem hi]
    exact ru
/-- how keywords bind: n positional ones, the names ks -/
def KB (K : PySem.W.Frag) (f : Addr) (ps : List Str) (n : Nat) (ks : List Str) (ix : List Nat) : Prop :=
  ∀ (s : Shared) (us ws : List Value), us.length = n → ws.length = ks.length → BindsTo s (fdAt K f) ⟨us, ks.zip ws⟩ (ps.zip (ro Value.none ix (us ++ ws)))
def tcallK (n m : Nat) (sp : SpD) (ix : List Nat) (ts tks : TDL) : TD := fun σ M Q E => ts σ M (fun ds M1 => tks σ M1 (fun zs M2 => ds.length = n ∧ zs.length = m ∧ sp (ro D.non ix (ds ++ zs)) M2 Q E) E) E
theorem d_callK0 {ks : List Str} {ix : List Nat} {kws : List Keyword} {tks : TDL} (F : FnG X.prog X.w X.K X.mg X.base k f ps sp) (hr : Rm k X.A) (tk : Takes X W) (hg : Gl X x) (hm : X.mg x = some (.ref f)) (hk : PySem.W.keepIn X.K (.ref f) = true) (hb : KB X.K f ps 0 ks ix)
    (hix : ∀ i ∈ ix, i < ks.length) (hkw : DKs X W kws tks) (hall : (backToKw pos (keywordEach kws X.env)).all (·.1.isSome) = true := by rfl) (hks : (backToKw pos (keywordEach kws X.env)).filterMap (·.1) = ks := by rfl) (hdb : (x == ("__debug__" : Str)) = false := by decide)
    (hpl : ((backTo pos (starEach [] X.env)).any (·.1) || (backToKw pos (keywordEach kws X.env)).any (·.1.isNone)) = false := by rfl) : DE X W (.Call (.Name x p) [] kws pos) (tcallK 0 ks.length sp ix a0 tks) := by
  refine ⟨fun pins s σ H Qv I h => ?_⟩
  obtain ⟨HI, σd, M, Q, E, ok, re, h, kq, we⟩ := h
  refine wpAny_Call_Name_kw (ld_glob I hg hm ?_ hdb)
  refine PySem.W.callWith_KW0 (h₀ := X.base) I.ok.mod.kin hk hall ?_ hpl
  refine thn (hkw.run pos pins s σ H (fun vs H1 => vs.length = ks.length ∧ lift X.K sp (ro V.non ix vs) H1 Qv fun c d H' => W c d σ H') I ⟨HI, σd, M, _, E, ok, re, h, fun v H1 ⟨HI1, M1, d1, s1, ok1, r1, _, l1, h1⟩ => ?_, we⟩) fun ws s2 ⟨zs, H2, I2, rz, l2, q2⟩ => ⟨I2.kIn, ?_⟩
  · have lv : v.length = ks.length := by rw [r1.len]; exact l1
    exact ⟨lv, HI1, M1, _, Q, E, ok1, ro_rep r1 ix fun i hi => by rw [lv]; exact hix i hi, h1, fun v' H' z => kq v' H' (z.of s1), fun c d H' z => we c d H' (z.of s1)⟩
  · rw [hks]
    have b := hb s2 [] ws rfl (by rw [← rz.length, l2])
    rw [List.nil_append] at b
    exact wpAny_call (codeAny_mono (run_g F hr b (passW tk I2) I2 (ro_vals rz ix fun i hi => by rw [l2]; exact hix i hi) q2) fun r s' z => by
      cases r with
      | error e => exact z
      | ok fl => cases fl <;> exact z)
theorem d_callK {n : Nat} {ks : List Str} {ix : List Nat} {kws : List Keyword} {tks : TDL} (F : FnG X.prog X.w X.K X.mg X.base k f ps sp) (hr : Rm k X.A) (tk : Takes X W) (hg : Gl X x) (hm : X.mg x = some (.ref f)) (hk : PySem.W.keepIn X.K (.ref f) = true) (hb : KB X.K f ps n ks ix)
    (hix : ∀ i ∈ ix, i < n + ks.length) (ha : DA X W (e :: es) ts) (hkw : DKs X W kws tks) (hall : (backToKw pos (keywordEach kws X.env)).all (·.1.isSome) = true := by rfl) (hks : (backToKw pos (keywordEach kws X.env)).filterMap (·.1) = ks := by rfl) (hdb : (x == ("__debug__" : Str)) = false := by decide)
    (he : starEach (e :: es) X.env = (false, eval e X.env) :: starEach es X.env := by rfl) (hpl : ((backTo pos (starEach (e :: es) X.env)).any (·.1) || (backToKw pos (keywordEach kws X.env)).any (·.1.isNone)) = false := by rfl) :
    DE X W (.Call (.Name x p) (e :: es) kws pos) (tcallK n ks.length sp ix ts tks) := by
  refine ⟨fun pins s σ H Qv I h => ?_⟩
  obtain ⟨HI, σd, M, Q, E, ok, re, h, kq, we⟩ := h
  refine wpAny_Call_Name_kw (ld_glob I hg hm ?_ hdb)
  refine PySem.W.callWith_KW (h₀ := X.base) I.ok.mod.kin hk hall (thn (ha.run pos pins s σ H (fun vs H1 => ∃ (HI1 : Hp) (M1 : MM) (ds : List D), Stp HI M H HI1 M1 H1 ∧ Ok X.K HI1 M1 H1 ∧ RepL X.K HI1 vs ds ∧ tks σd M1 (fun zs M2 => ds.length = n ∧ zs.length = ks.length ∧ sp (ro D.non ix (ds ++ zs)) M2 Q E) E) I
    ⟨HI, σd, M, _, E, ok, re, h, fun v H1 q => q, we⟩) fun us s1 ⟨vs, H1, I1, rv, HI1, M1, ds, st1, ok1, r1, h1⟩ => ?_) hpl he
  refine thn (hkw.run pos pins s1 σ H1 (fun zs H2 => vs.length = n ∧ zs.length = ks.length ∧ lift X.K sp (ro V.non ix (vs ++ zs)) H2 Qv fun c d H' => W c d σ H') I1 ⟨HI1, σd, M1, _, E, ok1, re.up st1.sm, h1, fun v H2 ⟨HI2, M2, d2, st2, ok2, r2, l1, l2, h2⟩ => ?_, we.up st1⟩) fun ws s2 ⟨zs, H2, I2, rz, l1, l2, q2⟩ => ⟨I2.kIn, ?_⟩
  · have lv : v.length = ks.length := by rw [r2.len]; exact l2
    have lw : vs.length = n := by rw [r1.len]; exact l1
    exact ⟨lw, lv, HI2, M2, _, Q, E, ok2, ro_rep ((r1.up st2.sm).app r2) ix fun i hi => by rw [List.length_append, lw, lv]; exact hix i hi, h2, fun v' H' z => kq v' H' (z.of (st1.trans st2)), fun c d H' z => we c d H' (z.of (st1.trans st2))⟩
  · rw [hks]
    have b := hb s2 us ws (by rw [← rv.length, l1]) (by rw [← rz.length, l2])
    exact wpAny_call (codeAny_mono (run_g F hr b (passW tk I2) I2 (ro_vals (rv.append rz) ix fun i hi => by rw [List.length_append, l1, l2]; exact hix i hi) q2) fun r s' z => by
      cases r with
      | error e => exact z
      | ok fl => cases fl <;> exact z)
end
section
variable {K : PySem.W.Frag} {x qual : Str} {st : Stmt} {f : Addr} {ps : List Str}
theorem FunK.binds (F : FunK K x qual st f) (h : ∀ (kV doc pm : Value) (an : Option Addr) (cdv ct : Value) (us : List Value), us.length = ps.length → bindArgs (PySem.W.fnOf x qual (defArgs st) (defBody st) (defScope st) .none kV doc pm an cdv ct) ⟨us, []⟩ = pure (ps.zip us)) : Binds K (fdAt K f) ps [] := F.F.binds h
theorem FunK.kb {n : Nat} {ks : List Str} {ix : List Nat} (F : FunK K x qual st f)
    (h : ∀ (kV doc pm : Value) (an : Option Addr) (cdv ct : Value) (us ws : List Value), us.length = n → ws.length = ks.length → bindArgs (PySem.W.fnOf x qual (defArgs st) (defBody st) (defScope st) .none kV doc pm an cdv ct) ⟨us, ks.zip ws⟩ = pure (ps.zip (ro Value.none ix (us ++ ws)))) : KB K f ps n ks ix := fun s us ws h1 h2 => by
  obtain ⟨oc, od, kV, doc, pm, an, cdv, ct, osl, e, lk, hcd⟩ := F.F.ex
  rw [e]
  exact .of_eq (h kV doc pm an cdv ct us ws h1 h2)
theorem funK_of {c : He.DefD} {fd : FuncData} (F : FunD K c.name c.qual c.params c.body c.scope (c.dvs K) (c.kws K) f fd) (hx : c.name = x) (hq : c.qual = qual) (hp : c.params = defArgs st) (hb : c.body = defBody st) (hs : c.scope = defScope st) (hd : c.dfl = []) (hk : PySem.W.keepIn K (.ref f) = true) : FunK K x qual st f := by
  obtain ⟨oc, od, dV, kV, doc, pm, an, cdv, ct, osl, rfl, lk, hcd, hD, hK⟩ := F.ex
  have hdv : c.dvs K = [] := by unfold He.DefD.dvs; rw [hd]; rfl
  have e0 : dV = .none := by
    rcases hD with ⟨_, e⟩ | ⟨e, _⟩
    · exact e
    · exact absurd hdv e
  subst e0
  rw [hx, hq, hp, hb, hs] at lk
  rw [hq] at hcd
  have e1 : fdAt K f = PySem.W.fnOf x qual (defArgs st) (defBody st) (defScope st) .none kV doc pm an cdv ct := by
    unfold fdAt
    rw [lk]
  exact ⟨⟨⟨oc, od, kV, doc, pm, an, cdv, ct, osl, e1, by rw [e1]; exact lk, hcd⟩, hk⟩⟩
end
end DL

/-! The data layer: the law's end. -/
namespace DL
open PySem PySem.Spec L2

/-- the law's promise: of a short list of ints, its numbers not too long, it gives True -/
def spLaw : SpD := fun ds M Q _ => ∃ ns : List Int, ds = [.lst (ns.map D.int)] ∧ ns.length ≤ 63 ∧ (∀ z ∈ ns, Builtin.Int.intBits z ≤ 1048576) ∧ ∀ M', Q (.bl true) M'
theorem law_g {P : Program} {w : World} {K : PySem.W.Frag} {mg mb : Str → Option Value} {k : Nat} {fa a : Addr} {x : Str} {s1 : Shared} {vs : List Value} {ns : List Int}
    (KX : K.In s1.heap) (hns : s1.heap.Ns mainGlobals mg) (hb : s1.heap.Ns builtinsNs mb) (hbb : ∀ x : Str, x ≠ "__name__" → mb x = bootBuiltins x) (hlim : s1.heap.NoLimit) (hg : s1.gens = #[])
    (ha : s1.heap.get? a = some { cls := .type "list", data := .seq vs.toArray }) (hi : PyProof.Rows.IntsAre vs ns) (hl : ns.length ≤ 63) (hbits : ∀ z ∈ ns, Builtin.Int.intBits z ≤ 1048576) (hr : Rm k callerA)
    (F : ∀ base : Heap, K.In base → base.Ns mainGlobals mg → FnG P w K mg base k fa [x] spLaw) (hbind : ∀ (s : Shared) (u : Value), BindsTo s (fdAt K fa) ⟨[u], []⟩ [(x, u)]) :
    codeAny (model P w) callerA (.call (.ref fa) ⟨[.ref a], []⟩) (fun r s' => r = .ok (.ret (.bool true)) ∧ OldK s1.heap s'.heap ∧ s'.os = s1.os ∧ PyProof.Rows.AllBare s'.gens) s1 := by
  have rv := vals_ints hi
  have szl : ns.length ≤ sizeLine := Nat.le_trans hl (by decide)
  obtain ⟨H, eH⟩ : ∃ H : Hp, H = fun b => if b = a ∧ K.lookup a = none then some (.frz { cls := .type "list", data := .seq vs.toArray } (.lst (ns.map V.int))) else none := ⟨_, rfl⟩
  have only : ∀ b o, H b = some o → b = a ∧ K.lookup a = none ∧ o = .frz { cls := .type "list", data := .seq vs.toArray } (.lst (ns.map V.int)) := fun b o e => by
    rw [eH] at e
    by_cases c : b = a ∧ K.lookup a = none
    · rw [show (fun b => if b = a ∧ K.lookup a = none then some (HO.frz { cls := .type "list", data := .seq vs.toArray } (.lst (ns.map V.int))) else none) b = some (.frz { cls := .type "list", data := .seq vs.toArray } (.lst (ns.map V.int))) from if_pos c] at e
      exact ⟨c.1, c.2, (Option.some.inj e).symm⟩
    · rw [show (fun b => if b = a ∧ K.lookup a = none then some (HO.frz { cls := .type "list", data := .seq vs.toArray } (.lst (ns.map V.int))) else none) b = none from if_neg c] at e
      cases e
  have there : LL K H a (ns.map V.int) := by
    cases hk : K.lookup a with
    | none => exact .inr (.inl ⟨vs.toArray, 0, by rw [eH]; exact if_pos ⟨rfl, hk⟩⟩)
    | some o =>
      have e := KX a o hk
      rw [ha] at e
      cases e
      exact .inr (.inr ⟨vs.toArray, 0, hk, by rw [List.size_toArray, hi.length]; exact szl, by simpa using rv⟩)
  have hok : HOk P w H s1.heap := fun b o e => by
    obtain ⟨rfl, _, rfl⟩ := only b o e
    exact ⟨ha, by rw [List.length_map]; exact szl, vs, 0, rv, ha⟩
  have nsH : ∀ {b : Addr} {m : Str → Option Value}, s1.heap.Ns b m → (hidT s1.heap H).Ns b m := fun {b m} ⟨o, es, ep, e, d, r⟩ => ⟨o, es, ep, hidT_get e (by
    cases q : H b with
    | none => rfl
    | some u =>
      obtain ⟨rfl, _, _⟩ := only b u q
      rw [ha] at e; cases e; cases d), d, r⟩
  have kH : K.In (hidT s1.heap H) := fun b o e => hidT_get (KX b o e) (by
    cases q : H b with
    | none => rfl
    | some u =>
      obtain ⟨rfl, z, _⟩ := only b u q
      rw [z] at e; cases e)
  have hM : Mod K mg (hidT s1.heap H) := ⟨kH, nsH hns, ⟨mb, nsH hb, hbb⟩, let ⟨mc, h1, h2⟩ := hlim; ⟨mc, nsH h1, h2⟩⟩
  have e0 : Env0 P w K mg (hidT s1.heap H) callerA [] s1 H := ⟨rfl, hM, fun b o e => of_hidT e, Nat.le_of_eq (hidT_size _ _), trivial, fun b hb => absurd (show b ∈ ([] : List Addr) from hb) (by simp), hok, .of_eq hg⟩
  have ok0 : Ok K H (fun _ => none) H := ⟨fun b o e => ⟨e, rfl⟩, fun b o e => by cases e⟩
  have sp0 : lift K spLaw [.ref a] H (fun v _ => v = .bl true) (fun _ _ _ => False) := by
    refine ⟨H, fun _ => none, [.lst (ns.map D.int)], fun d _ => d = .bl true, fun _ _ => False, ok0, .cons (.lst there (RepL.of_ints ns)) .nil, ⟨ns, rfl, hl, hbits, fun _ => rfl⟩, fun v H' ⟨_, _, d, _, _, r, e⟩ => ?_, fun c d H' ⟨_, _, _, _, _, _, z⟩ => z⟩
    subst e
    cases r
    rfl
  refine codeAny_mono ((F _ kH (nsH hns)).run callerA [] s1 H ⟨[.ref a], []⟩ [.ref a] [.ref a] _ _ hr e0 (hbind s1 (.ref a)) (.cons rfl .nil) sp0) fun r s' h => ?_
  cases r with
  | error e =>
    obtain ⟨_, _, _, _, _, _, _, _, _, _, _, _, z⟩ := h
    exact z.elim
  | ok fl =>
    cases fl with
    | next => exact False.elim h
    | brk => exact False.elim h
    | cont => exact False.elim h
    | ret u =>
      obtain ⟨v, H', os, bare, un, hok', r', q⟩ := h
      cases (show v = .bl true from q)
      cases (show u = Value.bool true from r')
      refine ⟨rfl, OldK.of_keep fun b o e => ?_, os, bare⟩
      cases q : H b with
      | none => exact un.keep b o e q (by intro z; exact absurd (show b ∈ ([] : List Addr) from z) (by simp)) (by simp)
      | some u =>
        obtain ⟨_, _, rfl⟩ := only b u q
        obtain ⟨e1, _⟩ := hok b _ q
        obtain ⟨e2, _⟩ := hok' b _ (un.frzs b _ _ q)
        rw [e] at e1; cases e1
        exact e2
theorem walk_g {l : PySem.W.OpenLaw} {k : Nat} {q : Program} {loose : List Str} {XP : (Str → Option Value) → Heap → Prop} {YP : World → Heap → Prop} {d : DefRec} {x : Str}
    (hn : l.most = some 63) (hdf : d.params.defaults = []) (hr : Rm k callerA)
    (F : ∀ (w : World) (mg : Str → Option Value) (fa : Addr) (h : Heap), YP w h → h.Ns mainGlobals mg → mg d.name = some (.ref fa) →
      ∃ K : PySem.W.Frag, K.In h ∧ (∀ (s : Shared) (u : Value), BindsTo s (fdAt K fa) ⟨[u], []⟩ [(x, u)]) ∧ ∀ base : Heap, K.In base → base.Ns mainGlobals mg → FnG l.prog w K mg base k fa [x] spLaw) :
    PySem.W.WalkO q loose XP YP l.row.toRowW d [] (fun f vs => PySem.call f vs) := by
  refine Att.attach_callB hn hdf fun w s0 s1 mg mb fa o pm cd doc a vs ns G Y ho hd hcd hmg hobj hints hlen hbits hg => ?_
  obtain ⟨K, KX, hb, hF⟩ := F w mg fa _ Y G.T.g hmg
  exact law_g KX G.T.g G.T.b G.T.builtins G.T.nolimit hg hobj hints hlen hbits hr hF hb
end DL
namespace DL
open PySem PySem.Spec L2
/-! ### the facts of a head: those of the library's hook, and one Bool more -/
def hookM (n : Nat) (fa : List He.Fa) (fn : List He.DefD) (ex : PySem.W.Frag → Bool) : PySem.W.Hook where
  α := He.AlD × Bool
  obs := fun s => (He.obsDG n fa fn s.heap.get?, ex (He.frG s.heap.get? (He.asD s.heap.get? n)))
  val := fun _ => (He.valD fn, true)
  says := fun _ h => ∃ K : PySem.W.Frag, K.In h ∧ He.SaysD fa fn K ∧ ex K = true
  of := fun _ _ e => ⟨_, He.frG_in, congrArg Prod.fst e, congrArg Prod.snd e⟩
  keeps := fun _ _ _ ⟨K, hK, c⟩ k => ⟨K, PySem.W.Frag.In.keeps hK k, c⟩
def obM (n : Nat) (fa : List He.Fa) (fn : List He.DefD) (ex : PySem.W.Frag → Bool) (s : PySem.W.SharedT) : He.AlD × Bool := (He.obsDG n fa fn (HandSHeadRun.getT s), ex (He.frG (HandSHeadRun.getT s) (He.asD (HandSHeadRun.getT s) n)))
theorem obM_eq (n : Nat) (fa : List He.Fa) (fn : List He.DefD) (ex : PySem.W.Frag → Bool) (s : PySem.W.SharedT) : obM n fa fn ex s = (hookM n fa fn ex).obs s.abs := by
  have e : HandSHeadRun.getT s = s.abs.heap.get? := funext fun a => HandSHeadRun.getT_eq s a
  unfold obM
  rw [e]
  rfl
/-- what the top has left: the text's part K of the base -/
structure TxtM (fa : List He.Fa) (fn : List He.DefD) (ex : PySem.W.Frag → Bool) (K : PySem.W.Frag) (mg : Str → Option Value) (base : Heap) : Prop where
  X : K.In base
  G : base.Ns mainGlobals mg
  c : He.SaysD fa fn K
  e : ex K = true
section
variable {fa : List He.Fa} {fn : List He.DefD} {ex : PySem.W.Frag → Bool} {K : PySem.W.Frag} {mg : Str → Option Value} {base : Heap}
theorem TxtM.glo (T : TxtM fa fn ex K mg base) (i : Nat) (x : Str) (h : fa[i]? = some (.glo x)) : mg x = some (.ref (He.ga K x)) := He.glo_ok T.X T.G (T.c.fact i h)
theorem TxtM.free (T : TxtM fa fn ex K mg base) (i : Nat) (x : Str) (h : fa[i]? = some (.free x)) : mg x = none := He.free_ok T.X T.G (T.c.fact i h)
theorem TxtM.int (T : TxtM fa fn ex K mg base) (i : Nat) (x : Str) (n : Int) (h : fa[i]? = some (.int x n)) : ∃ t, mg x = some (.int n t) := He.int_ok T.X T.G (T.c.fact i h)
theorem TxtM.fn_ (T : TxtM fa fn ex K mg base) (i : Nat) (x qual : Str) (st : Stmt) (h : fn[i]? = some ⟨(x, none), x, qual, defArgs st, defBody st, defScope st, [], []⟩) : FunK K x qual st (He.ga K x) := by
  obtain ⟨fd, F⟩ := T.c.def_ i h
  exact funK_of (c := ⟨(x, none), x, qual, defArgs st, defBody st, defScope st, [], []⟩) (F := F) rfl rfl rfl rfl rfl rfl F.kp
end
/-- a module's int -/
theorem d_gint {X : Cx} {W : WX} {pos : Pos} {x : Str} {n : Int} (h : ∃ t, X.mg x = some (.int n t)) (hg : Gl X x) (hd : (x == ("__debug__" : Str)) = false := by decide) : DE X W (.Name x pos) (tk (.int n)) := by
  obtain ⟨t, h⟩ := h
  exact d_glob hg h (v := .int n) ⟨t, rfl⟩ (fun _ => .int n) hd
/-- a module's tuple of texts -/
theorem d_gtxts {X : Cx} {W : WX} {pos : Pos} {x : Str} {ss : List Str} (h : He.tupB X.K x (ss.map He.Dv.str) = true) (hm : X.mg x = some (.ref (He.ga X.K x))) (hg : Gl X x) (hd : (x == ("__debug__" : Str)) = false := by decide) : DE X W (.Name x pos) (tk (.tup (ss.map D.str))) :=
  d_glob hg hm (v := .ref (He.ga X.K x)) rfl (fun H => .tup (He.tupB_ok h H) (by
    rw [List.map_map]
    exact RepL.of_txts ss)) hd
section
variable {P : Program} {w : World} {K : PySem.W.Frag} {mg : Str → Option Value} {base : Heap} {N : List Str} {qual : Str} {st : Stmt} {f : Addr} {cdv : Value} {A : Around} {outer : List Env} {s : Shared} {H : Hp} {E : XK}
theorem tk_b : Takes (bcx P w K mg base N qual st f cdv A outer s H E) (fun c d _ H' => E c d H') := takes_of rfl rfl rfl rfl
theorem hp_b : PassesOwn (model (bcx P w K mg base N qual st f cdv A outer s H E).prog (bcx P w K mg base N qual st f cdv A outer s H E).w) (bcx P w K mg base N qual st f cdv A outer s H E).A (bcx P w K mg base N qual st f cdv A outer s H E).env (bcx P w K mg base N qual st f cdv A outer s H E).xe := passes_of rfl
end
end DL

namespace DL
open PySem
theorem boot_len : bootBuiltins "len" = some (.builtin "len") := by decide +kernel
theorem boot_abs : bootBuiltins "abs" = some (.builtin "abs") := by decide +kernel
theorem boot_all : bootBuiltins "all" = some (.builtin "all") := by decide +kernel
theorem boot_any : bootBuiltins "any" = some (.builtin "any") := by decide +kernel
theorem boot_isinstance : bootBuiltins "isinstance" = some (.builtin "isinstance") := by decide +kernel
theorem boot_repr : bootBuiltins "repr" = some (.builtin "repr") := by decide +kernel
theorem boot_sorted : bootBuiltins "sorted" = some (.builtin "sorted") := by decide +kernel
theorem boot_sum : bootBuiltins "sum" = some (.builtin "sum") := by decide +kernel
theorem boot_min : bootBuiltins "min" = some (.builtin "min") := by decide +kernel
theorem boot_max : bootBuiltins "max" = some (.builtin "max") := by decide +kernel
theorem boot_int : bootBuiltins "int" = some (.type "int") := by decide +kernel
theorem boot_str : bootBuiltins "str" = some (.type "str") := by decide +kernel
theorem boot_bool : bootBuiltins "bool" = some (.type "bool") := by decide +kernel
theorem boot_list : bootBuiltins "list" = some (.type "list") := by decide +kernel
theorem boot_tuple : bootBuiltins "tuple" = some (.type "tuple") := by decide +kernel
theorem boot_dict : bootBuiltins "dict" = some (.type "dict") := by decide +kernel
theorem boot_set : bootBuiltins "set" = some (.type "set") := by decide +kernel
theorem boot_zip : bootBuiltins "zip" = some (.type "zip") := by decide +kernel
theorem boot_enumerate : bootBuiltins "enumerate" = some (.type "enumerate") := by decide +kernel
theorem boot_range : bootBuiltins "range" = some (.type "range") := by decide +kernel
end DL

/-! The data layer: repr of lists that may change, enumerate, forms of specs, comprehensions' laws. -/
namespace DL
open PySem PySem.Spec L2

/-! ### data as it is seen now -/
mutual
def see (M : MM) : D → D
  | .ref p => (match M p with
    | some (.lst xs) => .lst xs
    | _ => .ref p)
  | .lst ds => .lst (seeL M ds)
  | .tup ds => .tup (seeL M ds)
  | .non => .non
  | .bl b => .bl b
  | .int i => .int i
  | .str x => .str x
  | .ty n => .ty n
def seeL (M : MM) : List D → List D
  | [] => []
  | d :: ds => see M d :: seeL M ds
end
mutual
theorem see_rep {K : PySem.W.Frag} {HI H : Hp} {M : MM} (ok : Ok K HI M H) : ∀ (d : D) (v : V), Rep K HI v d → Rep K H v (see M d)
  | .ref p, v, r => by
    cases r
    unfold see
    split
    · rename_i xs e
      obtain ⟨us, hx, rx⟩ := ok.var p _ e
      exact .lst (.of hx) (rx.up ok.same)
    · exact .ref p
  | .lst ds, v, r => by
    cases r with
    | lst a r => exact .lst (a.up ok.same) (seeL_rep ok ds _ r)
  | .tup ds, v, r => by
    cases r with
    | tup a r => exact .tup (same_t ok.same a) (seeL_rep ok ds _ r)
  | .non, v, r => r.up ok.same
  | .bl b, v, r => r.up ok.same
  | .int b, v, r => r.up ok.same
  | .str b, v, r => r.up ok.same
  | .ty b, v, r => r.up ok.same
theorem seeL_rep {K : PySem.W.Frag} {HI H : Hp} {M : MM} (ok : Ok K HI M H) : ∀ (ds : List D) (vs : List V), RepL K HI vs ds → RepL K H vs (seeL M ds)
  | [], vs, r => by cases r; exact .nil
  | d :: ds, vs, r => by
    cases r with
    | cons r1 r2 => exact .cons (see_rep ok d _ r1) (seeL_rep ok ds _ r2)
end
def rdReprM : RDL := fun ds M Q => match ds with
  | [.int i] => i.natAbs.log2 < 1920 ∧ Q (.str (toString i)) M
  | [d] => (match see M d with
    | .lst xs => (D.shw 16 (.lst xs) = true ∧ (D.lst xs).shown.length ≤ sizeLine) ∧ Q (.str (D.lst xs).shown) M
    | .tup xs => (D.shw 16 (.tup xs) = true ∧ (D.tup xs).shown.length ≤ sizeLine) ∧ Q (.str (D.tup xs).shown) M
    | _ => False)
  | _ => False
theorem od_reprM {K : PySem.W.Frag} : CrD K (fun xs H Q => (∃ i, xs = [.int i] ∧ i.natAbs.log2 < 1920 ∧ Q (.str (toString i)) H) ∨
    ∃ a d, xs = [.ref a] ∧ Dp K H (.ref a) d ∧ d.showable = true ∧ d.depth ≤ 16 ∧ d.hasDict = false ∧ d.shown.length ≤ sizeLine ∧ Q (.str d.shown) H) rdReprM := by
  intro HI M H xs ds Q Qv ok r h k
  unfold rdReprM at h
  split at h
  · rename_i i
    cases r with
    | cons r rr =>
      cases rr
      cases r
      exact .inl ⟨i, rfl, h.1, k _ _ (.mk ok (.str _) h.2)⟩
  · rename_i d _
    cases r with
    | cons r rr =>
      cases rr
      have z0 := see_rep ok _ _ r
      split at h
      · rename_i ys e
        obtain ⟨⟨h1, h2⟩, q⟩ := h
        obtain ⟨b1, b2, b4, b3⟩ := shw_facts 16 _ h1
        rw [e] at z0
        have z := b3 K H _ z0
        cases z0 with
        | lst a r => exact .inr ⟨_, _, rfl, z, b1, b2, b4, h2, k _ _ (.mk ok (.str _) q)⟩
      · rename_i ys e
        obtain ⟨⟨h1, h2⟩, q⟩ := h
        obtain ⟨b1, b2, b4, b3⟩ := shw_facts 16 _ h1
        rw [e] at z0
        have z := b3 K H _ z0
        cases z0 with
        | tup a r => exact .inr ⟨_, _, rfl, z, b1, b2, b4, h2, k _ _ (.mk ok (.str _) q)⟩
      · exact h.elim
  · exact h.elim
theorem seeL_map {M : MM} {α : Type} (f : α → D) (hf : ∀ a, see M (f a) = f a) : ∀ l : List α, seeL M (l.map f) = l.map f
  | [] => by rw [List.map_nil, seeL]
  | a :: l => by rw [List.map_cons, seeL, hf a, seeL_map f hf l]

/-! ### enumerate -/
def enumD : Nat → List D → List D
  | _, [] => []
  | n, d :: ds => .tup [.int (n : Int), d] :: enumD (n + 1) ds
theorem enumD_len : ∀ (n : Nat) (ds : List D), (enumD n ds).length = ds.length
  | _, [] => rfl
  | n, d :: ds => by rw [enumD, List.length_cons, List.length_cons, enumD_len]
theorem enumD_get : ∀ (n : Nat) (ds : List D) (i : Nat) (e : D), (enumD n ds)[i]? = some e → ∃ d, ds[i]? = some d ∧ e = .tup [.int ((n + i : Nat) : Int), d]
  | _, [], _, _, h => by rw [enumD] at h; cases h
  | n, d :: ds, 0, e, h => by rw [enumD] at h; cases h; exact ⟨d, rfl, rfl⟩
  | n, d :: ds, i + 1, e, h => by
    rw [enumD, List.getElem?_cons_succ] at h
    obtain ⟨d', h1, h2⟩ := enumD_get (n + 1) ds i e h
    exact ⟨d', h1, by rw [h2, show n + 1 + i = n + (i + 1) from by omega]⟩
def ienum (t : TDL) : TDI := fun σ M Q E => t σ M (fun xs M1 => match xs with
  | [.lst ds] => Q (enumD 0 ds) M1
  | _ => False) E
theorem i_enum {X : Cx} {W : WX} {e : Expr} {ts : TDL} {p pos tpos : Pos} {elts : List Expr} {kk : Nat} (hg : Gl X "enumerate") (hm : X.mg "enumerate" = none) (ha : DA X W [e] ts) (hs : starEach [e] X.env = [(false, eval e X.env)] := by rfl) :
    DI X W (.Tuple elts kk tpos) (.Call (.Name "enumerate" p) [e] [] pos) (ienum ts) := ⟨fun pins s σ H R I h => by
  obtain ⟨HI, σd, M, Q, E, ok, re, h, k, we⟩ := h
  refine (pi_enum hg hm ha hs).run pins s σ H R I ⟨HI, σd, M, _, E, ok, re, h, fun v H1 ⟨HI1, M1, d1, s1, ok1, r1, h1⟩ => ?_, we⟩
  simp only at h1
  split at h1
  · rename_i ds
    cases r1 with
    | cons r1 rr =>
      cases rr
      cases r1 with
      | @lst a xs ds al rl =>
        refine ⟨a, xs, rfl, (al.up ok1.same).sq, k _ _ HI1 M1 _ s1 ok1 ⟨fun i d HI2 M2 H2 hd sm ok2 => ?_, fun HI2 M2 H2 sm ok2 => ?_⟩ h1⟩
        · obtain ⟨d', hd', e⟩ := enumD_get 0 ds i d hd
          obtain ⟨v, hv, rv⟩ := rl.get hd'
          have q := (al.up (sm.trans ok2.same)).sq
          refine ⟨⟨xs, v, q, hv⟩, fun x H' ⟨T, x', e1, e2, e3, e4⟩ => ?_⟩
          subst e1 e3 e
          have e5 := e4 xs q
          rw [hv] at e5
          cases e5
          obtain ⟨ok3, sm3⟩ := ok2.newI (o := .tup [.int ((i : Nat) : Int), v]) e2
          refine ⟨_, .newI (ok2.free e2).1 e2, ok3, .tup (.inl (.inl upd_same)) ?_⟩
          refine .cons ?_ (.cons ((rv.up sm).up sm3) .nil)
          rw [Nat.zero_add]
          exact .int _
        · exact ⟨xs, (al.up (sm.trans ok2.same)).sq, by rw [rl.len, enumD_len]; exact Nat.le_refl _⟩
  · exact h1.elim⟩

/-! ### forms of specs -/
def spF0 (f : MM → DK → EK → Prop) : SpD := fun ds M Q E => match ds with
  | [] => f M Q E
  | _ => False
def spF1 (f : D → MM → DK → EK → Prop) : SpD := fun ds M Q E => match ds with
  | [a] => f a M Q E
  | _ => False
def spF2 (f : D → D → MM → DK → EK → Prop) : SpD := fun ds M Q E => match ds with
  | [a, b] => f a b M Q E
  | _ => False
def spF3 (f : D → D → D → MM → DK → EK → Prop) : SpD := fun ds M Q E => match ds with
  | [a, b, c] => f a b c M Q E
  | _ => False
def spF4 (f : D → D → D → D → MM → DK → EK → Prop) : SpD := fun ds M Q E => match ds with
  | [a, b, c, d] => f a b c d M Q E
  | _ => False
theorem lnF0 {f : MM → DK → EK → Prop} : ∀ ds M Q E, spF0 f ds M Q E → ds.length = 0 := by
  intro ds M Q E h; unfold spF0 at h; split at h
  · rfl
  · exact h.elim
theorem lnF1 {f : D → MM → DK → EK → Prop} : ∀ ds M Q E, spF1 f ds M Q E → ds.length = 1 := by
  intro ds M Q E h; unfold spF1 at h; split at h
  · rfl
  · exact h.elim
theorem lnF2 {f : D → D → MM → DK → EK → Prop} : ∀ ds M Q E, spF2 f ds M Q E → ds.length = 2 := by
  intro ds M Q E h; unfold spF2 at h; split at h
  · rfl
  · exact h.elim
theorem lnF3 {f : D → D → D → MM → DK → EK → Prop} : ∀ ds M Q E, spF3 f ds M Q E → ds.length = 3 := by
  intro ds M Q E h; unfold spF3 at h; split at h
  · rfl
  · exact h.elim
theorem lnF4 {f : D → D → D → D → MM → DK → EK → Prop} : ∀ ds M Q E, spF4 f ds M Q E → ds.length = 4 := by
  intro ds M Q E h; unfold spF4 at h; split at h
  · rfl
  · exact h.elim
theorem rdF0 {f : MM → DK → EK → Prop} {t : TDS} {N : List Str} (h : ∀ M Q E, f M Q E → t (bend Q E) (startD N []) M) : ∀ ds M Q E, spF0 f ds M Q E → t (bend Q E) (startD N ds) M := by
  intro ds M Q E q; unfold spF0 at q; split at q
  · exact h _ _ _ q
  · exact q.elim
theorem rdF1 {f : D → MM → DK → EK → Prop} {t : TDS} {N : List Str} (h : ∀ a M Q E, f a M Q E → t (bend Q E) (startD N [a]) M) : ∀ ds M Q E, spF1 f ds M Q E → t (bend Q E) (startD N ds) M := by
  intro ds M Q E q; unfold spF1 at q; split at q
  · exact h _ _ _ _ q
  · exact q.elim
theorem rdF2 {f : D → D → MM → DK → EK → Prop} {t : TDS} {N : List Str} (h : ∀ a b M Q E, f a b M Q E → t (bend Q E) (startD N [a, b]) M) : ∀ ds M Q E, spF2 f ds M Q E → t (bend Q E) (startD N ds) M := by
  intro ds M Q E q; unfold spF2 at q; split at q
  · exact h _ _ _ _ _ q
  · exact q.elim
theorem rdF3 {f : D → D → D → MM → DK → EK → Prop} {t : TDS} {N : List Str} (h : ∀ a b c M Q E, f a b c M Q E → t (bend Q E) (startD N [a, b, c]) M) : ∀ ds M Q E, spF3 f ds M Q E → t (bend Q E) (startD N ds) M := by
  intro ds M Q E q; unfold spF3 at q; split at q
  · exact h _ _ _ _ _ _ q
  · exact q.elim
theorem rdF4 {f : D → D → D → D → MM → DK → EK → Prop} {t : TDS} {N : List Str} (h : ∀ a b c d M Q E, f a b c d M Q E → t (bend Q E) (startD N [a, b, c, d]) M) : ∀ ds M Q E, spF4 f ds M Q E → t (bend Q E) (startD N ds) M := by
  intro ds M Q E q; unfold spF4 at q; split at q
  · exact h _ _ _ _ _ _ _ q
  · exact q.elim

/-! ### laws of comprehensions -/
abbrev F0 : EK := fun _ _ => False
theorem compD_step1 {te : TD} {σ : DSt} {i : Nat} {d : D} {ds acc : List D} {M : MM} {Q : List D → MM → Prop} (h : te (σ.set i (some d)) M (fun y M4 => acc.length < sizeLine ∧ compD (gn i) tyes te σ ds (acc ++ [y]) M4 Q) F0) : compD (gn i) tyes te σ (d :: ds) acc M Q := by
  unfold compD
  exact h
/-- an element each, by what is there -/
theorem compD_n {te : TD} {σ : DSt} {i : Nat} {α : Type} {f : α → D} {r : α → D} {M : MM} {Q : List D → MM → Prop} :
    ∀ (l : List α) (acc : List D), (∀ a ∈ l, ∀ k : DK, k (r a) M → te (σ.set i (some (f a))) M k F0) → acc.length + l.length ≤ sizeLine → Q (acc ++ l.map r) M → compD (gn i) tyes te σ (l.map f) acc M Q
  | [], acc, _, _, q => by
    rw [List.map_nil, List.append_nil] at q
    exact q
  | a :: l, acc, h, hl, q => by
    rw [List.length_cons] at hl
    show compD (gn i) tyes te σ (f a :: l.map f) acc M Q
    refine compD_step1 ?_
    exact h a List.mem_cons_self _ ⟨by omega, compD_n l (acc ++ [r a]) (fun b hb => h b (List.mem_cons_of_mem _ hb)) (by rw [List.length_append, List.length_singleton]; omega) (by rw [List.append_assoc]; exact q)⟩
/-- those that pass a test -/
theorem compD_f {tt : TDT} {te : TD} {σ : DSt} {i : Nat} {α : Type} {f : α → D} {r : α → D} {b : α → Bool} {M : MM} {Q : List D → MM → Prop} :
    ∀ (l : List α) (acc : List D), (∀ a ∈ l, ∀ k : Bool → MM → Prop, k (b a) M → tt (σ.set i (some (f a))) M k F0) → (∀ a ∈ l, b a = true → ∀ k : DK, k (r a) M → te (σ.set i (some (f a))) M k F0) →
      acc.length + l.length ≤ sizeLine → Q (acc ++ (l.filter b).map r) M → compD (gn i) tt te σ (l.map f) acc M Q
  | [], acc, _, _, _, q => by
    rw [List.filter_nil, List.map_nil, List.append_nil] at q
    exact q
  | a :: l, acc, h1, h2, hl, q => by
    rw [List.length_cons] at hl
    show compD (gn i) tt te σ (f a :: l.map f) acc M Q
    unfold compD
    show tt (σ.set i (some (f a))) M _ _
    refine h1 a List.mem_cons_self _ ?_
    cases e : b a with
    | true =>
      rw [if_pos rfl]
      rw [List.filter_cons_of_pos e] at q
      exact h2 a List.mem_cons_self e _ ⟨by omega, compD_f l (acc ++ [r a]) (fun b hb => h1 b (List.mem_cons_of_mem _ hb)) (fun b hb => h2 b (List.mem_cons_of_mem _ hb)) (by rw [List.length_append, List.length_singleton]; omega) (by rw [List.append_assoc]; exact q)⟩
    | false =>
      rw [if_neg (by simp)]
      rw [List.filter_cons_of_neg (by simp [e])] at q
      exact compD_f l acc (fun b hb => h1 b (List.mem_cons_of_mem _ hb)) (fun b hb => h2 b (List.mem_cons_of_mem _ hb)) (by omega) q
/-- what may change meanwhile -/
theorem compD_s {te : TD} {σ : DSt} {i : Nat} {Iv : Nat → MM → Prop} {P : D → Prop} {Q : List D → MM → Prop} (N : Nat) :
    ∀ (ds : List D) (n : Nat) (acc : List D) (M : MM), (∀ d ∈ ds, ∀ n M, n < N → Iv n M → ∀ k : DK, (∀ y M', P y → Iv (n + 1) M' → k y M') → te (σ.set i (some d)) M k F0) → acc.length + ds.length ≤ sizeLine → n + ds.length ≤ N → Iv n M →
      (∀ ys M', ys.length = ds.length → (∀ y ∈ ys, P y) → Iv (n + ds.length) M' → Q (acc ++ ys) M') → compD (gn i) tyes te σ ds acc M Q
  | [], n, acc, M, _, _, _, hi, q => by
    have z := q [] M rfl (fun _ h => by cases h) hi
    rw [List.append_nil] at z
    exact z
  | d :: ds, n, acc, M, h, hl, hN, hi, q => by
    rw [List.length_cons] at hl hN
    refine compD_step1 ?_
    refine h d List.mem_cons_self n M (by omega) hi _ fun y M' hy hi' => ⟨by omega, ?_⟩
    refine compD_s N ds (n + 1) (acc ++ [y]) M' (fun b hb => h b (List.mem_cons_of_mem _ hb)) (by rw [List.length_append, List.length_singleton]; omega) (by omega) hi' fun ys M2 e1 e2 e3 => ?_
    rw [List.append_assoc]
    exact q (y :: ys) M2 (by rw [List.length_cons, List.length_cons, e1]) (fun z hz => by
      rcases List.mem_cons.mp hz with e | e
      · subst e; exact hy
      · exact e2 z e) (by rw [List.length_cons, show n + (ds.length + 1) = n + 1 + ds.length from by omega]; exact e3)
end DL

/-! The data layer: texts of whole numbers. -/
namespace DL
open PySem PySem.Spec L2
open TL
/-- the text of a whole number -/
abbrev numT (i : Int) : Str := Str.ofString (toString i)
def numZ (i : Int) : List Nat := if i < 0 then 45 :: numL i.natAbs else numL i.natAbs
theorem tl_numT (i : Int) : tl (numT i) = numZ i := by
  unfold numZ numT
  by_cases h : i < 0
  · rw [if_pos h, PyProof.Rows.toString_neg h, tl_ofString, String.toList_append, List.map_append, ← tl_ofString (toString (0 - i))]
    have e : (0 - i) = ((i.natAbs : Nat) : Int) := by omega
    rw [e, tl_num]
    rfl
  · rw [if_neg h]
    have e : i = ((i.natAbs : Nat) : Int) := by omega
    rw [show Str.ofString (toString i) = Str.ofString (toString ((i.natAbs : Nat) : Int)) from by rw [← e], tl_num]
theorem numZ_inj {i j : Int} (h : numZ i = numZ j) : i = j := by
  unfold numZ at h
  have no : ∀ n m : Nat, (45 :: numL n) ≠ numL m := fun n m e => numL_free (n := m) (s := 45) (by omega) (by rw [← e]; exact List.mem_cons_self)
  split at h <;> split at h
  · injection h with _ h
    have := numL_inj h
    omega
  · exact absurd h (no _ _)
  · exact absurd h.symm (no _ _)
  · have := numL_inj h
    omega
theorem numT_inj {i j : Int} (h : numT i = numT j) : i = j := numZ_inj (by rw [← tl_numT, ← tl_numT, h])
theorem numZ_signs {i : Int} {c : Nat} (h : c ∈ numZ i) : c = 45 ∨ (48 ≤ c ∧ c ≤ 57) := by
  unfold numZ at h
  split at h
  · rcases List.mem_cons.mp h with e | e
    · exact .inl e
    · exact .inr (numL_digits _ _ e)
  · exact .inr (numL_digits _ _ h)
theorem numZ_free {i : Int} {c : Nat} (h1 : c ≠ 45) (h2 : c < 48 ∨ 57 < c) : c ∉ numZ i := fun h => by
  rcases numZ_signs h with e | e <;> omega
theorem numZ_ne (i : Int) : numZ i ≠ [] := by
  unfold numZ
  split
  · exact List.cons_ne_nil _ _
  · exact numL_ne _
theorem numT_len {i : Int} {k : Nat} (hk : 0 < k) (h : i.natAbs < 10 ^ k) : (numT i).length ≤ k + 1 := by
  rw [len_tl, tl_numT]
  unfold numZ
  have := numL_len hk h
  split
  · rw [List.length_cons]; omega
  · omega
/-! ### a word that is a whole number of up to nine digits -/
def bodyL (l : List Nat) : List Nat := match l with
  | 45 :: r => r
  | _ => l
def dig (c : Nat) : Bool := decide (48 ≤ c) && decide (c ≤ 57)
def valL (l : List Nat) : Int := match l with
  | 45 :: r => -((NumText.digitsVal r : Nat) : Int)
  | _ => ((NumText.digitsVal l : Nat) : Int)
def wholeL (l : List Nat) : Option Int :=
  if bodyL l = [] ∨ 9 < (bodyL l).length ∨ (bodyL l).all dig = false then none else if numZ (valL l) = l then some (valL l) else none
def whole (w : Str) : Option Int := wholeL (tl w)
theorem bodyL_numZ (i : Int) : bodyL (numZ i) = numL i.natAbs := by
  unfold numZ
  split
  · rfl
  · unfold bodyL
    split
    · rename_i r e
      exact absurd (numL_free (n := i.natAbs) (s := 45) (by omega)) (by rw [e]; simp)
    · rfl
theorem valL_numZ (i : Int) : valL (numZ i) = i := by
  unfold numZ
  split
  · show -((NumText.digitsVal (numL i.natAbs) : Nat) : Int) = i
    rw [numL_val]; omega
  · unfold valL
    split
    · rename_i r e
      exact absurd (numL_free (n := i.natAbs) (s := 45) (by omega)) (by rw [e]; simp)
    · rw [numL_val]; omega
theorem dig_all {l : List Nat} : l.all dig = true ↔ NumText.AllDigits l := by
  unfold NumText.AllDigits
  rw [List.all_eq_true]
  constructor
  · intro h c hc
    have := h c hc
    unfold dig at this
    rw [Bool.and_eq_true, decide_eq_true_eq, decide_eq_true_eq] at this
    exact this
  · intro h c hc
    unfold dig
    rw [Bool.and_eq_true, decide_eq_true_eq, decide_eq_true_eq]
    exact h c hc
theorem whole_num {i : Int} (h : i.natAbs < 10 ^ 9) : whole (numT i) = some i := by
  unfold whole wholeL
  rw [tl_numT, bodyL_numZ, valL_numZ, if_pos rfl, if_neg]
  rintro (h1 | h1 | h1)
  · exact numL_ne _ h1
  · have := numL_len (by decide) h; omega
  · rw [dig_all.mpr (numL_digits _)] at h1
    cases h1
theorem whole_some {w : Str} {i : Int} (h : whole w = some i) : w = numT i ∧ i.natAbs < 10 ^ 9 := by
  unfold whole wholeL at h
  split at h
  · cases h
  · rename_i hn
    split at h
    · rename_i e
      injection h with h
      rw [h] at e
      refine ⟨ext_tl (by rw [tl_numT]; exact e.symm), ?_⟩
      have hl : (numL i.natAbs).length ≤ 9 := by
        rw [← bodyL_numZ, e]
        have : ¬ 9 < (bodyL (tl w)).length := fun z => hn (.inr (.inl z))
        omega
      have key : ∀ (k n : Nat), (numL n).length ≤ k → n < 10 ^ k := by
        intro k
        induction k with
        | zero => intro n h0; exact absurd (List.eq_nil_of_length_eq_zero (Nat.le_zero.mp h0)) (numL_ne n)
        | succ k ih =>
          intro n h0
          by_cases h10 : n < 10
          · calc n < 10 := h10
              _ ≤ 10 ^ (k + 1) := by rw [Nat.pow_succ]; have : 0 < 10 ^ k := Nat.pow_pos (by decide); omega
          · rw [numL_step (by omega), List.length_append, List.length_singleton] at h0
            have := ih (n / 10) (by omega)
            rw [Nat.pow_succ]
            omega
      exact key 9 _ hl
    · cases h
theorem removeprefix_minus (w : Str) : tl (Txt.removeprefix w (Str.ofString "-")) = bodyL (tl w) := by
  rw [PySem.StrLaws.removeprefix_eq]
  have e1 : (Str.ofString "-").length = 1 := rfl
  have e2 : (Str.ofString "-").cps.toList = [45] := by decide
  rw [PySem.StrLaws.subAt_eq, e1, e2, List.drop_zero]
  show tl _ = bodyL w.cps.toList
  have hl : w.length = w.cps.toList.length := len_tl w
  rw [hl]
  cases hw : w.cps.toList with
  | nil =>
    rw [if_neg (by simp)]
    exact hw
  | cons c r =>
    by_cases hc : c = 45
    · subst hc
      rw [if_pos (by simp)]
      show ((45 :: r).drop 1).take ((45 :: r).length - 1) = _
      rw [List.drop_one, List.tail_cons, List.length_cons, Nat.add_sub_cancel, List.take_length]
      rfl
    · rw [if_neg (by simp [hc])]
      show w.cps.toList = _
      rw [hw]
      unfold bodyL
      split
      · rename_i e
        injection e with e _
        exact absurd e hc
      · rfl
end DL

/-! The data layer: small facts for specs. -/
namespace DL
open PySem PySem.Spec L2
open TL
/-! isinstance of data -/
def dat (v : D) : Prop := ∃ c, v.cls = some c
def isNum : D → Bool
  | .int _ => true
  | _ => false
def isBool : D → Bool
  | .bl _ => true
  | _ => false
def isStr : D → Bool
  | .str _ => true
  | _ => false
def isLst : D → Bool
  | .lst _ => true
  | _ => false
def isTup : D → Bool
  | .tup _ => true
  | _ => false
theorem isi_int {v : D} (h : dat v) : isB v "int" = some (isNum v || isBool v) := by
  obtain ⟨c, h⟩ := h
  cases v <;> first | rfl | cases h
theorem isi_bool {v : D} (h : dat v) : isB v "bool" = some (isBool v) := by
  obtain ⟨c, h⟩ := h
  cases v <;> first | rfl | cases h
theorem isi_str {v : D} (h : dat v) : isB v "str" = some (isStr v) := by
  obtain ⟨c, h⟩ := h
  cases v <;> first | rfl | cases h
theorem isi_list {v : D} (h : dat v) : isB v "list" = some (isLst v) := by
  obtain ⟨c, h⟩ := h
  cases v <;> first | rfl | cases h
theorem isi_tuple {v : D} (h : dat v) : isB v "tuple" = some (isTup v) := by
  obtain ⟨c, h⟩ := h
  cases v <;> first | rfl | cases h
@[simp] theorem dat_int (i : Int) : dat (.int i) := ⟨_, rfl⟩
@[simp] theorem dat_str (i : Str) : dat (.str i) := ⟨_, rfl⟩
@[simp] theorem dat_bl (i : Bool) : dat (.bl i) := ⟨_, rfl⟩
@[simp] theorem dat_non : dat .non := ⟨_, rfl⟩
@[simp] theorem dat_lst (i : List D) : dat (.lst i) := ⟨_, rfl⟩
@[simp] theorem dat_tup (i : List D) : dat (.tup i) := ⟨_, rfl⟩
/-! lengths of what is shown -/
theorem pyL_map : ∀ ds : List D, PyData.shownAll (pyL ds) = ds.map D.shown
  | [] => by simp [pyL, PyData.shownAll]
  | d :: ds => by rw [pyL, PyData.shownAll, pyL_map ds]; rfl
theorem sum_le {B : Nat} : ∀ l : List Str, (∀ x ∈ l, x.length ≤ B) → (l.map (·.length)).sum ≤ l.length * B
  | [], _ => by simp
  | x :: l, h => by
    rw [List.map_cons, List.sum_cons, List.length_cons, Nat.succ_mul]
    have h1 := h x List.mem_cons_self
    have h2 := sum_le l fun y hy => h y (List.mem_cons_of_mem _ hy)
    omega
theorem shown_lst {ds : List D} {B : Nat} (h : ∀ d ∈ ds, d.shown.length ≤ B) : (D.lst ds).shown.length ≤ ds.length * B + 2 * ds.length + 3 := by
  have e : (D.lst ds).shown = listText (ds.map D.shown) := by
    show PyData.shown (.list (pyL ds)) = _
    rw [PyData.shown, pyL_map]
  rw [e]
  have q := listText_len_le (ds.map D.shown)
  have s := sum_le (B := B) (ds.map D.shown) (fun x hx => by
    obtain ⟨d, hd, rfl⟩ := List.mem_map.mp hx
    exact h d hd)
  rw [List.length_map] at q s
  omega
theorem join_len_le {sep : Str} : ∀ l : List Str, (Str.join sep l).length ≤ (l.map (·.length)).sum + l.length * sep.length
  | [] => Nat.zero_le _
  | [x] => by show x.length ≤ _; simp
  | x :: y :: l => by
    have ih := join_len_le (sep := sep) (y :: l)
    show (x ++ sep ++ Str.join sep (y :: l)).length ≤ _
    rw [strLen_append, strLen_append, List.map_cons, List.sum_cons, List.length_cons (as := y :: l), Nat.succ_mul]
    omega
theorem shown_tup {ds : List D} {B : Nat} (h : ∀ d ∈ ds, d.shown.length ≤ B) : (D.tup ds).shown.length ≤ ds.length * B + 2 * ds.length + 3 := by
  have e : (D.tup ds).shown = tupleText (ds.map D.shown) := by
    show PyData.shown (.tuple (pyL ds)) = _
    rw [PyData.shown, pyL_map]
  rw [e]
  have q := join_len_le (sep := Str.ofString ", ") (ds.map D.shown)
  have s := sum_le (B := B) (ds.map D.shown) (fun x hx => by
    obtain ⟨d, hd, rfl⟩ := List.mem_map.mp hx
    exact h d hd)
  rw [List.length_map] at q s
  have e2 : (Str.ofString ", ").length = 2 := rfl
  rw [e2] at q
  unfold tupleText
  rw [strLen_append, strLen_append]
  have h1 : ((Str.ofString "(" : Str)).length = 1 := rfl
  have h2 : (Str.ofString (if ((ds.map D.shown).length == 1) = true then ",)" else ")")).length ≤ 2 := by
    split <;> decide
  omega
theorem shown_int {i : Int} {k : Nat} (hk : 0 < k) (h : i.natAbs < 10 ^ k) : (D.int i).shown.length ≤ k + 1 := by
  show (PyData.shown (.int i)).length ≤ _
  rw [PyData.shown]
  exact numT_len hk h
theorem log2_10 {i : Int} {k : Nat} (h : i.natAbs < 10 ^ k) (hk : k ≤ 400) : i.natAbs.log2 < 1920 := by
  by_cases h0 : i.natAbs = 0
  · rw [h0]; decide
  · rw [Nat.log2_lt h0]
    calc i.natAbs < 10 ^ k := h
      _ ≤ 10 ^ 400 := Nat.pow_le_pow_right (by decide) hk
      _ < 2 ^ 1920 := by decide +kernel
theorem shw_int {n : Nat} {i : Int} {k : Nat} (h : i.natAbs < 10 ^ k) (hk : k ≤ 400) : (D.int i).shw n = true := by
  cases n <;> exact decide_eq_true (log2_10 h hk)
theorem shw_lst {n : Nat} {ds : List D} (h : ∀ d ∈ ds, d.shw n = true) : (D.lst ds).shw (n + 1) = true := List.all_eq_true.mpr h
theorem shw_tup {n : Nat} {ds : List D} (h : ∀ d ∈ ds, d.shw n = true) : (D.tup ds).shw (n + 1) = true := List.all_eq_true.mpr h
/-! texts put together -/
theorem join_tl {sep : Str} {l : List Str} {c : Nat} (h : c ∈ tl (Txt.join sep l)) : (∃ x ∈ l, c ∈ tl x) ∨ c ∈ tl sep := by
  rw [join_eq] at h
  induction l with
  | nil => cases h
  | cons x l ih =>
    cases l with
    | nil => exact .inl ⟨x, List.mem_cons_self, h⟩
    | cons y l =>
      have e : tl (Str.join sep (x :: y :: l)) = tl x ++ tl sep ++ tl (Str.join sep (y :: l)) := by
        show tl (x ++ sep ++ Str.join sep (y :: l)) = _
        rw [tl_append, tl_append]
      rw [e, List.mem_append, List.mem_append] at h
      rcases h with (h | h) | h
      · exact .inl ⟨x, List.mem_cons_self, h⟩
      · exact .inr h
      · rcases ih h with ⟨z, hz, hc⟩ | h
        · exact .inl ⟨z, List.mem_cons_of_mem _ hz, hc⟩
        · exact .inr h
theorem join_len {sep : Str} (l : List Str) : (Txt.join sep l).length ≤ (l.map (·.length)).sum + l.length * sep.length := by
  rw [join_eq]; exact join_len_le l
theorem strOk_tl {x : Str} (h : ∀ c ∈ tl x, c < 1114112) : PyData.strOk x = true := by
  unfold PyData.strOk
  rw [← Array.all_toList, List.all_eq_true]
  exact fun c hc => decide_eq_true (h c hc)
theorem nice_str {n : Nat} {x : Str} (h : ∀ c ∈ tl x, c < 1114112) : (D.str x).nice n = true := by
  cases n <;> exact strOk_tl h
theorem eqv_same {ds : List D} (h : ∀ x ∈ ds, D.nice 15 x = true) : (D.lst ds).nice 16 = true := by
  show ds.all (D.nice 15) = true
  exact List.all_eq_true.mpr h
end DL

/-! The data layer: readings at known data, one rule each; steps. -/
namespace DL
open PySem PySem.Spec L2
section
variable {M : MM} {Q : DK} {i j : Int} {a b : Str} {x y z u v : D} {xs ys : List D} {p : Addr} {c d : Bool}
theorem q_add_i : rdAdd (.int i) (.int j) M Q = Q (.int (i + j)) M := rfl
theorem q_add_s : rdAdd (.str a) (.str b) M Q = (a.length + b.length ≤ sizeLine ∧ Q (.str (a ++ b)) M) := rfl
theorem q_add_l : rdAdd (.lst xs) (.lst ys) M Q = (xs.length + ys.length ≤ sizeLine ∧ Q (.lst (xs ++ ys)) M) := rfl
theorem q_add_t : rdAdd (.tup xs) (.tup ys) M Q = (xs.length + ys.length ≤ sizeLine ∧ Q (.tup (xs ++ ys)) M) := rfl
theorem q_sub : rdSub (.int i) (.int j) M Q = Q (.int (i - j)) M := rfl
theorem q_mul_i : rdMul (.int i) (.int j) M Q = (CMulX i j ∧ Q (.int (i * j)) M) := rfl
theorem q_mul_l : rdMul (.lst xs) (.int j) M Q = (-(2 ^ 63) ≤ j ∧ j < 2 ^ 63 ∧ xs.length * j.toNat ≤ sizeLine ∧ Q (.lst (List.replicate j.toNat xs).flatten) M) := rfl
theorem q_mul_s : rdMul (.str a) (.int j) M Q = (MulOk a j ∧ Q (.str (Txt.mul a j)) M) := rfl
theorem q_div : rdDiv (.int i) (.int j) M Q = (CDivW i j ∧ Q (.int (i / j)) M) := rfl
theorem q_mod : rdMod (.int i) (.int j) M Q = (0 < j ∧ Q (.int (i % j)) M) := rfl
theorem q_pow : rdPow (.int i) (.int j) M Q = (CPow i j ∧ Q (.int (i ^ j.toNat)) M) := rfl
theorem q_lt : rdLt (.int i) (.int j) M Q = Q (.bl (decide (i < j))) M := rfl
theorem q_le : rdLe (.int i) (.int j) M Q = Q (.bl (decide (i ≤ j))) M := rfl
theorem q_gt : rdGt (.int i) (.int j) M Q = Q (.bl (decide (j < i))) M := rfl
theorem q_ge : rdGe (.int i) (.int j) M Q = Q (.bl (decide (j ≤ i))) M := rfl
theorem q_eq_i : rdEq (.int i) (.int j) M Q = Q (.bl (decide (i = j))) M := rfl
theorem q_eq_s : rdEq (.str a) (.str b) M Q = Q (.bl (decide (a = b))) M := rfl
theorem q_eq_b : rdEq (.bl c) (.bl d) M Q = Q (.bl (decide (c = d))) M := rfl
theorem q_ne_i : rdNe (.int i) (.int j) M Q = Q (.bl (!decide (i = j))) M := rfl
theorem q_ne_s : rdNe (.str a) (.str b) M Q = Q (.bl (!decide (a = b))) M := rfl
theorem q_ne_b : rdNe (.bl c) (.bl d) M Q = Q (.bl (!decide (c = d))) M := rfl
theorem q_eq_l : rdEq (.lst xs) (.lst ys) M Q = (((D.lst xs).nice 16 && (D.lst ys).nice 16) = true ∧ Q (.bl (eqvD (.lst xs) (.lst ys))) M) := rfl
theorem q_eq_t : rdEq (.tup xs) (.tup ys) M Q = (((D.tup xs).nice 16 && (D.tup ys).nice 16) = true ∧ Q (.bl (eqvD (.tup xs) (.tup ys))) M) := rfl
theorem q_ne_l : rdNe (.lst xs) (.lst ys) M Q = (((D.lst xs).nice 16 && (D.lst ys).nice 16) = true ∧ Q (.bl (!eqvD (.lst xs) (.lst ys))) M) := rfl
theorem q_ne_t : rdNe (.tup xs) (.tup ys) M Q = (((D.tup xs).nice 16 && (D.tup ys).nice 16) = true ∧ Q (.bl (!eqvD (.tup xs) (.tup ys))) M) := rfl
theorem q_is : rdIs x .non M Q = Q (.bl (isN x)) M := rfl
theorem q_isnt : rdIsNot x .non M Q = Q (.bl (!isN x)) M := rfl
theorem isN_int : isN (.int i) = false := rfl
theorem isN_str : isN (.str a) = false := rfl
theorem isN_lst : isN (.lst xs) = false := rfl
theorem isN_tup : isN (.tup xs) = false := rfl
theorem isN_ref : isN (.ref p) = false := rfl
theorem isN_bl : isN (.bl c) = false := rfl
theorem isN_non : isN .non = true := rfl
theorem q_neg : rdNeg (.int i) M Q = Q (.int (-i)) M := rfl
theorem q_ix_l : rdIx (.lst xs) (.int i) M Q = atD (atI xs i) M Q := rfl
theorem q_ix_t : rdIx (.tup xs) (.int i) M Q = atD (atI xs i) M Q := rfl
theorem q_ix_s {c : Nat} (h : atI a.cps.toList i = some c) : rdIx (.str a) (.int i) M Q = (a.length ≤ sizeLine ∧ Q (.str ⟨#[c]⟩) M) := by
  unfold rdIx
  simp only [h]
theorem q_ix_r (h : M p = some (.lst xs)) : rdIx (.ref p) (.int i) M Q = atD (atI xs i) M Q := by
  unfold rdIx
  simp only [h]
theorem atD_s : atD (some x) M Q = Q x M := rfl
theorem at_1_0 : atI [x] 0 = some x := rfl
theorem at_2_0 : atI [x, y] 0 = some x := rfl
theorem at_2_1 : atI [x, y] 1 = some y := rfl
theorem at_3_0 : atI [x, y, z] 0 = some x := rfl
theorem at_3_1 : atI [x, y, z] 1 = some y := rfl
theorem at_3_2 : atI [x, y, z] 2 = some z := rfl
theorem at_4_0 : atI [x, y, z, u] 0 = some x := rfl
theorem at_4_1 : atI [x, y, z, u] 1 = some y := rfl
theorem at_4_2 : atI [x, y, z, u] 2 = some z := rfl
theorem at_4_3 : atI [x, y, z, u] 3 = some u := rfl
theorem q_len_l : rdLen [.lst xs] M Q = Q (.int xs.length) M := rfl
theorem q_len_t : rdLen [.tup xs] M Q = Q (.int xs.length) M := rfl
theorem q_len_s : rdLen [.str a] M Q = (a.length ≤ sizeLine ∧ Q (.int a.length) M) := rfl
theorem q_len_r (h : M p = some (.lst xs)) : rdLen [.ref p] M Q = Q (.int xs.length) M := by
  unfold rdLen
  simp only [h]
theorem q_abs : rdAbs [.int i] M Q = Q (.int (if i < 0 then -i else i)) M := rfl
theorem q_int_i : rdInt [.int i] M Q = Q (.int i) M := rfl
theorem q_int_b : rdInt [.bl c] M Q = Q (.int (if c then 1 else 0)) M := rfl
theorem q_str : rdStr [.int i] M Q = (i.natAbs.log2 < 1920 ∧ Q (.str (Str.ofString (toString i))) M) := rfl
theorem q_list_l : rdList [.lst xs] M Q = Q (.lst xs) M := rfl
theorem q_list_t : rdList [.tup xs] M Q = Q (.lst xs) M := rfl
theorem q_tuple_l : rdTuple [.lst xs] M Q = Q (.tup xs) M := rfl
theorem q_tuple_t : rdTuple [.tup xs] M Q = Q (.tup xs) M := rfl
theorem q_tuple_r (h : M p = some (.lst xs)) : rdTuple [.ref p] M Q = Q (.tup xs) M := by
  unfold rdTuple
  simp only [h]
theorem q_repr_l : rdRepr [.lst xs] M Q = ((D.shw 16 (.lst xs) = true ∧ (D.lst xs).shown.length ≤ sizeLine) ∧ Q (.str (D.lst xs).shown) M) := rfl
theorem q_repr_t : rdRepr [.tup xs] M Q = ((D.shw 16 (.tup xs) = true ∧ (D.tup xs).shown.length ≤ sizeLine) ∧ Q (.str (D.tup xs).shown) M) := rfl
theorem q_reprM_l (h : see M x = .lst ys) : rdReprM [x] M Q = ((D.shw 16 (.lst ys) = true ∧ (D.lst ys).shown.length ≤ sizeLine) ∧ Q (.str (D.lst ys).shown) M) := by
  cases x with
  | int i => cases h
  | _ => unfold rdReprM; simp only [h]
theorem q_join {l : List Str} (h : strsOf xs = some l) : rdJoin a [.lst xs] M Q = ((l.map (·.length)).sum + l.length * a.length ≤ 16777216 ∧ Q (.str (Txt.join a l)) M) := by
  unfold rdJoin
  simp only [h]
theorem q_all {l : List Bool} (h : blsOf xs = some l) : rdAll [.lst xs] M Q = Q (.bl (l.all _root_.id)) M := by
  unfold rdAll
  simp only [h]
theorem q_any {l : List Bool} (h : blsOf xs = some l) : rdAny [.lst xs] M Q = Q (.bl (l.any _root_.id)) M := by
  unfold rdAny
  simp only [h]
theorem q_isi {n : String} {c : Bool} (h : isB x n = some c) : rdIsi [x, .ty n] M Q = Q (.bl c) M := by
  unfold rdIsi
  simp only [h]
end
/-! ### a step at a time -/
theorem seq_step {t u : TDS} {Dd : DEnds} {σ : DSt} {M : MM} (h : ∀ Kk : DSt → MM → Prop, Kk = u Dd → t { Dd with nx := Kk } σ M) : sseq t u Dd σ M := h _ rfl
/-- a test, what comes of it known -/
theorem if_step {c : TDT} {t u : TDS} {Dd : DEnds} {σ : DSt} {M : MM} {E : EK} (hE : E = fun x M1 => Dd.ex x σ M1) (b : Bool) {R : MM → Prop} (h : c σ M (fun x M1 => x = b ∧ R M1) E)
    (mono : ∀ (k k' : Bool → MM → Prop), (∀ x N, k x N → k' x N) → c σ M k E → c σ M k' E) (hr : ∀ M1, R M1 → (if b = true then t else u) Dd σ M1) : sif c t u Dd σ M := by
  subst hE
  refine mono _ _ (fun x N ⟨e, r⟩ => ?_) h
  subst e
  have q := hr N r
  cases x <;> exact q
end DL

namespace K60
open PySem PySem.Spec L2 DL
open TL
def c_TIES : TD := tk (.tup ((["new", "old"] : List Str).map D.str))
def c_MOST_PERIOD : TD := tk (.int 60)
def c_MOST_DIGITS : TD := tk (.int 9)
def c_MOST_COPIERS : TD := tk (.int 5)
def inR (l h : Int) : D → Bool
  | .int i => decide (l ≤ i) && decide (i ≤ h)
  | _ => false
def sp_is_number : SpD := spF1 fun v M Q _ => dat v ∧ Q (.bl (isNum v)) M
/-! def is_number(value): slots 0 value -/
def t_is_number : TDS :=
    (sret (vand (tcb rdIsi (ac (tv 0) (ac (tk (.ty "int")) a0))) (vnot (tcb rdIsi (ac (tv 0) (ac (tk (.ty "bool")) a0))))))
theorem rd_is_number : ∀ ds M Q E, sp_is_number ds M Q E → t_is_number (bend Q E) (startD ["value"] ds) M := rdF1 fun v M Q E ⟨h, q⟩ => by
  unfold t_is_number
  simp only [tv, tk, to2, to1, tbl, tch, tand, tor, tnot, vand, vor, vnot, tif, a0, ac, as_, dtup, dlst, tcb, tcall, sret, sretN, sseq, sif, snx, sdrop, sasg, gn, spar, snever, bend, rdLt, rdLe, rdGt, rdGe, rdSub, rdDiv, rdMod, rdPow, rdI0, rdI, startD, List.map_cons, List.map_nil, List.length_cons, List.length_nil, List.replicate, List.cons_append, List.nil_append, List.append_nil, List.getElem?_cons_zero, List.getElem?_cons_succ, List.set_cons_zero, List.set_cons_succ, Nat.reduceAdd, Nat.reduceSub, Nat.zero_add, tcallK, ro, List.getD_cons_zero, List.getD_cons_succ, true_and, rdIsi, isi_int h, isi_bool h]
  cases v <;> exact q
def sp_is_whole : SpD := spF3 fun v l h M Q _ => dat v ∧ ∃ a b, l = .int a ∧ h = .int b ∧ Q (.bl (inR a b v)) M
/-! def is_whole(value, low, high): slots 0 value, 1 low, 2 high -/
def t_is_whole : TDS :=
    (sret (vand (tcall sp_is_number (ac (tv 0) a0)) (tch rdLe rdLe (tv 1) (tv 0) (tv 2))))
theorem rd_is_whole : ∀ ds M Q E, sp_is_whole ds M Q E → t_is_whole (bend Q E) (startD ["value", "low", "high"] ds) M := rdF3 fun v l h M Q E ⟨hd, a, b, e1, e2, q⟩ => by
  subst e1 e2
  unfold t_is_whole
  simp only [tv, tk, to2, to1, tbl, tch, tand, tor, tnot, vand, vor, vnot, tif, a0, ac, as_, dtup, dlst, tcb, tcall, sret, sretN, sseq, sif, snx, sdrop, sasg, gn, spar, snever, bend, rdLt, rdLe, rdGt, rdGe, rdSub, rdDiv, rdMod, rdPow, rdI0, rdI, startD, List.map_cons, List.map_nil, List.length_cons, List.length_nil, List.replicate, List.cons_append, List.nil_append, List.append_nil, List.getElem?_cons_zero, List.getElem?_cons_succ, List.set_cons_zero, List.set_cons_succ, Nat.reduceAdd, Nat.reduceSub, Nat.zero_add, tcallK, ro, List.getD_cons_zero, List.getD_cons_succ, true_and]
  refine ⟨hd, ?_⟩
  cases v with
  | int i =>
    have q : Q (.bl (decide (a ≤ i) && decide (i ≤ b))) M := q
    simp only [tv, tk, to2, to1, tbl, tch, tand, tor, tnot, vand, vor, vnot, tif, a0, ac, as_, dtup, dlst, tcb, tcall, sret, sretN, sseq, sif, snx, sdrop, sasg, gn, spar, snever, bend, rdLt, rdLe, rdGt, rdGe, rdSub, rdDiv, rdMod, rdPow, rdI0, rdI, startD, List.map_cons, List.map_nil, List.length_cons, List.length_nil, List.replicate, List.cons_append, List.nil_append, List.append_nil, List.getElem?_cons_zero, List.getElem?_cons_succ, List.set_cons_zero, List.set_cons_succ, Nat.reduceAdd, Nat.reduceSub, Nat.zero_add, tcallK, ro, List.getD_cons_zero, List.getD_cons_succ, true_and, isNum, if_true]
    by_cases h1 : a ≤ i
    · rw [decide_eq_true h1, Bool.true_and] at q
      rw [decide_eq_true h1, if_pos rfl]; exact q
    · rw [decide_eq_false h1, Bool.false_and] at q
      rw [decide_eq_false h1, if_neg (by simp)]; exact q
  | _ => exact q
def sp_greatest_common : SpD := spF2 fun x y M Q _ => ∃ a b : Nat, x = .int (a : Int) ∧ y = .int (b : Int) ∧ Q (.int ((Nat.gcd a b : Nat) : Int)) M
/-! def greatest_common(one, other): slots 0 one, 1 other -/
def t_greatest_common : TDS :=
    (sseq (swh (tbl (to2 rdGt (tv 1) (tk (.int 0)))) (spar 0 1 (ac (tv 1) (ac (to2 rdMod (tv 0) (tv 1)) a0))))
    (sret (tv 0)))
theorem gcd_loop (Q : DK) (E : EK) (M : MM) (tc : TDT) (tb : TDS) (D0 : DEnds)
    (hc : ∀ a b : Nat, ∀ Q' E', Q' (decide (0 < b)) M → tc [some (.int (a : Int)), some (.int (b : Int))] M Q' E')
    (hb : ∀ a b : Nat, 0 < b → ∀ D : DEnds, D.nx [some (.int (b : Int)), some (.int ((a % b : Nat) : Int))] M → tb D [some (.int (a : Int)), some (.int (b : Int))] M) :
    ∀ (n a b : Nat), b < n → D0.nx [some (.int ((Nat.gcd a b : Nat) : Int)), some (.int 0)] M → whN tc tb n D0 [some (.int (a : Int)), some (.int (b : Int))] M
  | 0, _, _, h, _ => absurd h (Nat.not_lt_zero _)
  | n + 1, a, b, h, q => by
    unfold whN
    refine hc a b _ _ ?_
    by_cases hp : 0 < b
    · rw [decide_eq_true hp, if_pos rfl]
      refine hb a b hp _ ?_
      refine gcd_loop Q E M tc tb D0 hc hb n b (a % b) (by have := Nat.mod_lt a hp; omega) ?_
      rw [Nat.gcd_comm b, ← Nat.gcd_rec, Nat.gcd_comm]
      exact q
    · rw [decide_eq_false hp, if_neg (by simp)]
      have e : b = 0 := by omega
      subst e
      rw [Nat.gcd_zero_right] at q
      exact q
theorem rd_greatest_common : ∀ ds M Q E, sp_greatest_common ds M Q E → t_greatest_common (bend Q E) (startD ["one", "other"] ds) M := rdF2 fun x y M Q E ⟨a, b, e1, e2, q⟩ => by
  subst e1 e2
  unfold t_greatest_common
  simp only [sseq, swh]
  refine ⟨b + 1, gcd_loop Q E M _ _ _ (fun a b Q' E' q => ?_) (fun a b hb D q => ?_) (b + 1) a b (Nat.lt_succ_self b) ?_⟩
  · simp only [tv, tk, to2, to1, tbl, tch, tand, tor, tnot, vand, vor, vnot, tif, a0, ac, as_, dtup, dlst, tcb, tcall, sret, sretN, sseq, sif, snx, sdrop, sasg, gn, spar, snever, bend, rdLt, rdLe, rdGt, rdGe, rdSub, rdDiv, rdMod, rdPow, rdI0, rdI, startD, List.map_cons, List.map_nil, List.length_cons, List.length_nil, List.replicate, List.cons_append, List.nil_append, List.append_nil, List.getElem?_cons_zero, List.getElem?_cons_succ, List.set_cons_zero, List.set_cons_succ, Nat.reduceAdd, Nat.reduceSub, Nat.zero_add, tcallK, ro, List.getD_cons_zero, List.getD_cons_succ, true_and]
    have e : decide ((0 : Int) < (b : Int)) = decide (0 < b) := by simp
    rw [e]; exact q
  · simp only [tv, tk, to2, to1, tbl, tch, tand, tor, tnot, vand, vor, vnot, tif, a0, ac, as_, dtup, dlst, tcb, tcall, sret, sretN, sseq, sif, snx, sdrop, sasg, gn, spar, snever, bend, rdLt, rdLe, rdGt, rdGe, rdSub, rdDiv, rdMod, rdPow, rdI0, rdI, startD, List.map_cons, List.map_nil, List.length_cons, List.length_nil, List.replicate, List.cons_append, List.nil_append, List.append_nil, List.getElem?_cons_zero, List.getElem?_cons_succ, List.set_cons_zero, List.set_cons_succ, Nat.reduceAdd, Nat.reduceSub, Nat.zero_add, tcallK, ro, List.getD_cons_zero, List.getD_cons_succ, true_and]
    refine ⟨by omega, ?_⟩
    exact q
  · simp only [tv, tk, to2, to1, tbl, tch, tand, tor, tnot, vand, vor, vnot, tif, a0, ac, as_, dtup, dlst, tcb, tcall, sret, sretN, sseq, sif, snx, sdrop, sasg, gn, spar, snever, bend, rdLt, rdLe, rdGt, rdGe, rdSub, rdDiv, rdMod, rdPow, rdI0, rdI, startD, List.map_cons, List.map_nil, List.length_cons, List.length_nil, List.replicate, List.cons_append, List.nil_append, List.append_nil, List.getElem?_cons_zero, List.getElem?_cons_succ, List.set_cons_zero, List.set_cons_succ, Nat.reduceAdd, Nat.reduceSub, Nat.zero_add, tcallK, ro, List.getD_cons_zero, List.getD_cons_succ, true_and]
    exact q
/-! rows -/
def rowD (t : Str) (ps : List Int) : D := .tup [.str t, .tup (ps.map D.int)]
structure GoodRow (t : Str) (ps : List Int) : Prop where
  t : t = Str.ofString "new" ∨ t = Str.ofString "old"
  l : 2 ≤ ps.length ∧ ps.length ≤ 5
  p : ∀ p ∈ ps, 1 ≤ p ∧ p ≤ 60
theorem GoodRow.sz {t : Str} {ps : List Int} (g : GoodRow t ps) : ps.length ≤ sizeLine := Nat.le_trans g.l.2 (by decide)
theorem all_true {α : Type} (l : List α) : blsOf (l.map fun _ => D.bl true) = some (l.map fun _ => true) := by
  induction l with
  | nil => rfl
  | cons a l ih => rw [List.map_cons, blsOf, ih]; rfl
theorem all_true' {α : Type} (l : List α) : (l.map fun _ => true).all _root_.id = true := by
  induction l with
  | nil => rfl
  | cons a l ih => rw [List.map_cons, List.all_cons, ih]; rfl
theorem rdAll_true {α : Type} {l : List α} {M : MM} {Q : DK} (q : Q (.bl true) M) : rdAll [.lst (l.map fun _ => D.bl true)] M Q := by
  show (match blsOf (l.map fun _ => D.bl true) with
    | some bs => Q (.bl (bs.all _root_.id)) M
    | none => False)
  rw [all_true]
  show Q (.bl ((l.map fun _ => true).all _root_.id)) M
  rw [all_true']
  exact q
def sp_fits_row : SpD := spF1 fun v M Q _ => ∃ t ps, v = rowD t ps ∧ GoodRow t ps ∧ Q (.bl true) M
/-! def fits_row(value): slots 0 value, 1 period -/
def t_fits_row : TDS :=
    (sseq (sif (tor (tnot (tbl (tcb rdIsi (ac (tv 0) (ac (tk (.ty "tuple")) a0))))) (tor (tbl (to2 rdNe (tcb rdLen (ac (tv 0) a0)) (tk (.int 2)))) (tor (tnot (tbl (tcb rdIsi (ac (to2 rdIx (tv 0) (tk (.int 0))) (ac (tk (.ty "str")) a0))))) (tbl (to2 (rdIn true) (to2 rdIx (tv 0) (tk (.int 0))) c_TIES)))))
      (sret (tk (.bl false)))
      snx)
    (sseq (sif (tor (tnot (tbl (tcb rdIsi (ac (to2 rdIx (tv 0) (tk (.int 1))) (ac (tk (.ty "tuple")) a0))))) (tnot (tbl (tch rdLe rdLe (tk (.int 2)) (tcb rdLen (ac (to2 rdIx (tv 0) (tk (.int 1))) a0)) (tk (.int 5))))))
      (sret (tk (.bl false)))
      snx)
    (sret (tcb rdAll (ac (tlc (itup (to2 rdIx (tv 0) (tk (.int 1)))) (gn 1) tyes (tcall sp_is_whole (ac (tv 1) (ac (tk (.int 1)) (ac c_MOST_PERIOD a0)))) [1]) a0)))))
theorem rd_fits_row : ∀ ds M Q E, sp_fits_row ds M Q E → t_fits_row (bend Q E) (startD ["value", "period"] ds) M := rdF1 fun v M Q E ⟨t, ps, e, g, q⟩ => by
  subst e
  unfold t_fits_row rowD
  have ht : inF (.str t) [D.str (Str.ofString "new"), D.str (Str.ofString "old")] = true := by
    rcases g.t with h | h <;> subst h <;> decide
  have h0 : atI [D.str t, D.tup (ps.map D.int)] 0 = some (D.str t) := rfl
  have h1 : atI [D.str t, D.tup (ps.map D.int)] 1 = some (D.tup (ps.map D.int)) := rfl
  have e2 : eqS (.int ((2 : Nat) : Int)) (.int 2) = some true := rfl
  simp only [tv, tk, to2, to1, tbl, tch, tand, tor, tnot, vand, vor, vnot, tif, a0, ac, as_, dtup, dlst, tcb, tcall, sret, sretN, sseq, sif, snx, sdrop, sasg, gn, spar, snever, bend, rdLt, rdLe, rdGt, rdGe, rdSub, rdDiv, rdMod, rdPow, rdI0, rdI, startD, List.map_cons, List.map_nil, List.length_cons, List.length_nil, List.replicate, List.cons_append, List.nil_append, List.append_nil, List.getElem?_cons_zero, List.getElem?_cons_succ, List.set_cons_zero, List.set_cons_succ, Nat.reduceAdd, Nat.reduceSub, Nat.zero_add, tcallK, ro, List.getD_cons_zero, List.getD_cons_succ, true_and, rdIsi, isi_tuple (dat_tup _), isi_str (dat_str _), isTup, isStr, rdLen, rdNe, rdIx, rdIn, h0, h1, atD, c_TIES, c_MOST_PERIOD, e2, Bool.not_true, Bool.false_eq_true, if_false]
  refine ⟨rfl, ?_⟩
  rw [ht, List.length_map]
  simp only [Bool.bne_true, Bool.not_true, Bool.xor_true, Bool.false_eq_true, if_false]
  have l1 : decide ((2 : Int) ≤ (ps.length : Int)) = true := decide_eq_true (by have := g.l.1; omega)
  have l2 : decide ((ps.length : Int) ≤ 5) = true := decide_eq_true (by have := g.l.2; omega)
  rw [l1, l2]
  simp only [if_true, Bool.not_true, Bool.false_eq_true, if_false, tlc, itup, h1, atD, tv, tk, to2, to1, tbl, tch, tand, tor, tnot, vand, vor, vnot, tif, a0, ac, as_, dtup, dlst, tcb, tcall, sret, sretN, sseq, sif, snx, sdrop, sasg, gn, spar, snever, bend, rdLt, rdLe, rdGt, rdGe, rdSub, rdDiv, rdMod, rdPow, rdI0, rdI, startD, List.map_cons, List.map_nil, List.length_cons, List.length_nil, List.replicate, List.cons_append, List.nil_append, List.append_nil, List.getElem?_cons_zero, List.getElem?_cons_succ, List.set_cons_zero, List.set_cons_succ, Nat.reduceAdd, Nat.reduceSub, Nat.zero_add, tcallK, ro, List.getD_cons_zero, List.getD_cons_succ, true_and, rdIx]
  refine compD_n (f := D.int) (r := fun _ => D.bl true) ps [] (fun p hp k hk => ?_) (by rw [List.length_nil, Nat.zero_add]; exact g.sz) ?_
  · simp only [tv, tk, to2, to1, tbl, tch, tand, tor, tnot, vand, vor, vnot, tif, a0, ac, as_, dtup, dlst, tcb, tcall, sret, sretN, sseq, sif, snx, sdrop, sasg, gn, spar, snever, bend, rdLt, rdLe, rdGt, rdGe, rdSub, rdDiv, rdMod, rdPow, rdI0, rdI, startD, List.map_cons, List.map_nil, List.length_cons, List.length_nil, List.replicate, List.cons_append, List.nil_append, List.append_nil, List.getElem?_cons_zero, List.getElem?_cons_succ, List.set_cons_zero, List.set_cons_succ, Nat.reduceAdd, Nat.reduceSub, Nat.zero_add, tcallK, ro, List.getD_cons_zero, List.getD_cons_succ, true_and, wipeD]
    refine ⟨dat_int _, 1, 60, rfl, rfl, ?_⟩
    have := g.p p hp
    have e : inR 1 60 (D.int p) = true := by
      show (decide (1 ≤ p) && decide (p ≤ 60)) = true
      rw [decide_eq_true this.1, decide_eq_true this.2]; rfl
    rw [e]; exact hk
  · exact rdAll_true q
def sp_need_row : SpD := spF1 fun v M Q _ => ∃ t ps, v = rowD t ps ∧ GoodRow t ps ∧ Q .non M
/-! def need_row(row): slots 0 row -/
def t_need_row : TDS :=
    (sif (tnot (tbl (tcall sp_fits_row (ac (tv 0) a0))))
      snever
      snx)
theorem rd_need_row : ∀ ds M Q E, sp_need_row ds M Q E → t_need_row (bend Q E) (startD ["row"] ds) M := rdF1 fun v M Q E ⟨t, ps, e, g, q⟩ => by
  unfold t_need_row
  simp only [tv, tk, to2, to1, tbl, tch, tand, tor, tnot, vand, vor, vnot, tif, a0, ac, as_, dtup, dlst, tcb, tcall, sret, sretN, sseq, sif, snx, sdrop, sasg, gn, spar, snever, bend, rdLt, rdLe, rdGt, rdGe, rdSub, rdDiv, rdMod, rdPow, rdI0, rdI, startD, List.map_cons, List.map_nil, List.length_cons, List.length_nil, List.replicate, List.cons_append, List.nil_append, List.append_nil, List.getElem?_cons_zero, List.getElem?_cons_succ, List.set_cons_zero, List.set_cons_succ, Nat.reduceAdd, Nat.reduceSub, Nat.zero_add, tcallK, ro, List.getD_cons_zero, List.getD_cons_succ, true_and]
  refine ⟨t, ps, e, g, ?_⟩
  exact q
/-! fractions -/
structure GoodF (f : Int × Int) : Prop where
  pos : 0 < f.2
  red : Nat.gcd f.1.natAbs f.2.natAbs = 1
def fracD (f : Int × Int) : D := .tup [.int f.1, .int f.2]
def sp_fits_fraction : SpD := spF1 fun v M Q _ => ∃ f, v = fracD f ∧ GoodF f ∧ Q (.bl true) M
/-! def fits_fraction(value): slots 0 value -/
def t_fits_fraction : TDS :=
    (sseq (sif (tor (tnot (tbl (tcb rdIsi (ac (tv 0) (ac (tk (.ty "tuple")) a0))))) (tor (tbl (to2 rdNe (tcb rdLen (ac (tv 0) a0)) (tk (.int 2)))) (tor (tnot (tbl (tcall sp_is_number (ac (to2 rdIx (tv 0) (tk (.int 0))) a0)))) (tnot (tbl (tcall sp_is_number (ac (to2 rdIx (tv 0) (tk (.int 1))) a0)))))))
      (sret (tk (.bl false)))
      snx)
    (sret (vand (to2 rdGt (to2 rdIx (tv 0) (tk (.int 1))) (tk (.int 0))) (to2 rdEq (tcall sp_greatest_common (ac (tcb rdAbs (ac (to2 rdIx (tv 0) (tk (.int 0))) a0)) (ac (to2 rdIx (tv 0) (tk (.int 1))) a0))) (tk (.int 1))))))
theorem abs_nat (i : Int) : (if i < 0 then -i else i) = ((i.natAbs : Nat) : Int) := by split <;> omega
theorem rd_fits_fraction : ∀ ds M Q E, sp_fits_fraction ds M Q E → t_fits_fraction (bend Q E) (startD ["value"] ds) M := rdF1 fun v M Q E ⟨f, e, g, q⟩ => by
  subst e
  unfold t_fits_fraction fracD
  have h0 : atI [D.int f.1, D.int f.2] 0 = some (D.int f.1) := rfl
  have h1 : atI [D.int f.1, D.int f.2] 1 = some (D.int f.2) := rfl
  have e2 : eqS (.int ((2 : Nat) : Int)) (.int 2) = some true := rfl
  simp only [tv, tk, to2, to1, tbl, tch, tand, tor, tnot, vand, vor, vnot, tif, a0, ac, as_, dtup, dlst, tcb, tcall, sret, sretN, sseq, sif, snx, sdrop, sasg, gn, spar, snever, bend, rdLt, rdLe, rdGt, rdGe, rdSub, rdDiv, rdMod, rdPow, rdI0, rdI, startD, List.map_cons, List.map_nil, List.length_cons, List.length_nil, List.replicate, List.cons_append, List.nil_append, List.append_nil, List.getElem?_cons_zero, List.getElem?_cons_succ, List.set_cons_zero, List.set_cons_succ, Nat.reduceAdd, Nat.reduceSub, Nat.zero_add, tcallK, ro, List.getD_cons_zero, List.getD_cons_succ, true_and, rdIsi, isi_tuple (dat_tup _), isTup, rdLen, rdNe, rdEq, rdIx, h0, h1, atD, e2, rdAbs, abs_nat, Bool.not_true, Bool.false_eq_true, if_false]
  refine ⟨dat_int _, ?_⟩
  simp only [isNum, Bool.not_true, Bool.false_eq_true, if_false]
  refine ⟨dat_int _, ?_⟩
  simp only [isNum, Bool.not_true, Bool.false_eq_true, if_false, decide_eq_true g.pos, if_true]
  refine ⟨f.1.natAbs, f.2.natAbs, rfl, by have := g.pos; congr 1; omega, ?_⟩
  rw [g.red]
  exact q
def phD (fs : List (Int × Int)) : D := .lst (fs.map fracD)
def sp_fits_phases : SpD := spF2 fun r v M Q _ => ∃ t ps fs, r = rowD t ps ∧ v = phD fs ∧ fs.length = ps.length ∧ ps.length ≤ 5 ∧ (∀ f ∈ fs, GoodF f) ∧ Q (.bl true) M
/-! def fits_phases(row, value): slots 0 row, 1 value, 2 phase -/
def t_fits_phases : TDS :=
    (sseq (sif (tor (tnot (tbl (tcb rdIsi (ac (tv 1) (ac (tk (.ty "list")) a0))))) (tbl (to2 rdNe (tcb rdLen (ac (tv 1) a0)) (tcb rdLen (ac (to2 rdIx (tv 0) (tk (.int 1))) a0)))))
      (sret (tk (.bl false)))
      snx)
    (sret (tcb rdAll (ac (tlc (iseq (tv 1)) (gn 2) tyes (tcall sp_fits_fraction (ac (tv 2) a0)) [2]) a0))))
theorem rd_fits_phases : ∀ ds M Q E, sp_fits_phases ds M Q E → t_fits_phases (bend Q E) (startD ["row", "value", "phase"] ds) M := rdF2 fun r v M Q E ⟨t, ps, fs, e1, e2, hl, hz, g, q⟩ => by
  subst e1 e2
  unfold t_fits_phases rowD phD
  have h1 : atI [D.str t, D.tup (ps.map D.int)] 1 = some (D.tup (ps.map D.int)) := rfl
  have e2 : eqS (.int ((fs.length : Nat) : Int)) (.int ((ps.length : Nat) : Int)) = some true := by
    show some (decide _) = some true
    rw [hl]; simp
  simp only [tv, tk, to2, to1, tbl, tch, tand, tor, tnot, vand, vor, vnot, tif, a0, ac, as_, dtup, dlst, tcb, tcall, sret, sretN, sseq, sif, snx, sdrop, sasg, gn, spar, snever, bend, rdLt, rdLe, rdGt, rdGe, rdSub, rdDiv, rdMod, rdPow, rdI0, rdI, startD, List.map_cons, List.map_nil, List.length_cons, List.length_nil, List.replicate, List.cons_append, List.nil_append, List.append_nil, List.getElem?_cons_zero, List.getElem?_cons_succ, List.set_cons_zero, List.set_cons_succ, Nat.reduceAdd, Nat.reduceSub, Nat.zero_add, tcallK, ro, List.getD_cons_zero, List.getD_cons_succ, true_and, rdIsi, isi_list (dat_lst _), isLst, rdLen, rdNe, rdIx, h1, atD, List.length_map, e2, Bool.not_true, Bool.false_eq_true, if_false, tlc, iseq]
  refine compD_n (f := fracD) (r := fun _ => D.bl true) fs [] (fun p hp k hk => ?_) (by rw [List.length_nil, Nat.zero_add, hl]; exact Nat.le_trans hz (by decide)) ?_
  · simp only [tv, tk, to2, to1, tbl, tch, tand, tor, tnot, vand, vor, vnot, tif, a0, ac, as_, dtup, dlst, tcb, tcall, sret, sretN, sseq, sif, snx, sdrop, sasg, gn, spar, snever, bend, rdLt, rdLe, rdGt, rdGe, rdSub, rdDiv, rdMod, rdPow, rdI0, rdI, startD, List.map_cons, List.map_nil, List.length_cons, List.length_nil, List.replicate, List.cons_append, List.nil_append, List.append_nil, List.getElem?_cons_zero, List.getElem?_cons_succ, List.set_cons_zero, List.set_cons_succ, Nat.reduceAdd, Nat.reduceSub, Nat.zero_add, tcallK, ro, List.getD_cons_zero, List.getD_cons_succ, true_and, wipeD]
    exact ⟨p, rfl, g p hp, hk⟩
  · exact rdAll_true q
def sp_need_phases : SpD := spF2 fun r v M Q _ => ∃ t ps fs, r = rowD t ps ∧ v = phD fs ∧ fs.length = ps.length ∧ ps.length ≤ 5 ∧ (∀ f ∈ fs, GoodF f) ∧ Q .non M
/-! def need_phases(row, phases): slots 0 row, 1 phases -/
def t_need_phases : TDS :=
    (sif (tnot (tbl (tcall sp_fits_phases (ac (tv 0) (ac (tv 1) a0)))))
      snever
      snx)
theorem rd_need_phases : ∀ ds M Q E, sp_need_phases ds M Q E → t_need_phases (bend Q E) (startD ["row", "phases"] ds) M := rdF2 fun r v M Q E ⟨t, ps, fs, e1, e2, hl, hz, g, q⟩ => by
  unfold t_need_phases
  simp only [tv, tk, to2, to1, tbl, tch, tand, tor, tnot, vand, vor, vnot, tif, a0, ac, as_, dtup, dlst, tcb, tcall, sret, sretN, sseq, sif, snx, sdrop, sasg, gn, spar, snever, bend, rdLt, rdLe, rdGt, rdGe, rdSub, rdDiv, rdMod, rdPow, rdI0, rdI, startD, List.map_cons, List.map_nil, List.length_cons, List.length_nil, List.replicate, List.cons_append, List.nil_append, List.append_nil, List.getElem?_cons_zero, List.getElem?_cons_succ, List.set_cons_zero, List.set_cons_succ, Nat.reduceAdd, Nat.reduceSub, Nat.zero_add, tcallK, ro, List.getD_cons_zero, List.getD_cons_succ, true_and]
  refine ⟨t, ps, fs, e1, e2, hl, hz, g, ?_⟩
  exact q
/-! steps -/
def stD (ns : List Int) : D := .lst (ns.map D.int)
def sp_fits_stretch : SpD := spF1 fun v M Q _ => ∃ ns, v = stD ns ∧ ns.length ≤ 1000000 ∧ (∀ n ∈ ns, 0 ≤ n) ∧ Q (.bl true) M
/-! def fits_stretch(value): slots 0 value, 1 step -/
def t_fits_stretch : TDS :=
    (sret (vand (tcb rdIsi (ac (tv 0) (ac (tk (.ty "list")) a0))) (tcb rdAll (ac (tlc (iseq (tv 0)) (gn 1) tyes (vand (tcall sp_is_number (ac (tv 1) a0)) (to2 rdGe (tv 1) (tk (.int 0)))) [1]) a0))))
theorem rd_fits_stretch : ∀ ds M Q E, sp_fits_stretch ds M Q E → t_fits_stretch (bend Q E) (startD ["value", "step"] ds) M := rdF1 fun v M Q E ⟨ns, e, hl, g, q⟩ => by
  subst e
  unfold t_fits_stretch stD
  simp only [tv, tk, to2, to1, tbl, tch, tand, tor, tnot, vand, vor, vnot, tif, a0, ac, as_, dtup, dlst, tcb, tcall, sret, sretN, sseq, sif, snx, sdrop, sasg, gn, spar, snever, bend, rdLt, rdLe, rdGt, rdGe, rdSub, rdDiv, rdMod, rdPow, rdI0, rdI, startD, List.map_cons, List.map_nil, List.length_cons, List.length_nil, List.replicate, List.cons_append, List.nil_append, List.append_nil, List.getElem?_cons_zero, List.getElem?_cons_succ, List.set_cons_zero, List.set_cons_succ, Nat.reduceAdd, Nat.reduceSub, Nat.zero_add, tcallK, ro, List.getD_cons_zero, List.getD_cons_succ, true_and, rdIsi, isi_list (dat_lst _), isLst, if_true, tlc, iseq]
  refine compD_n (f := D.int) (r := fun _ => D.bl true) ns [] (fun p hp k hk => ?_) (by rw [List.length_nil, Nat.zero_add]; exact Nat.le_trans hl (by decide)) ?_
  · simp only [tv, tk, to2, to1, tbl, tch, tand, tor, tnot, vand, vor, vnot, tif, a0, ac, as_, dtup, dlst, tcb, tcall, sret, sretN, sseq, sif, snx, sdrop, sasg, gn, spar, snever, bend, rdLt, rdLe, rdGt, rdGe, rdSub, rdDiv, rdMod, rdPow, rdI0, rdI, startD, List.map_cons, List.map_nil, List.length_cons, List.length_nil, List.replicate, List.cons_append, List.nil_append, List.append_nil, List.getElem?_cons_zero, List.getElem?_cons_succ, List.set_cons_zero, List.set_cons_succ, Nat.reduceAdd, Nat.reduceSub, Nat.zero_add, tcallK, ro, List.getD_cons_zero, List.getD_cons_succ, true_and, wipeD]
    refine ⟨dat_int _, ?_⟩
    simp only [isNum, if_true, decide_eq_true (g p hp)]
    exact hk
  · exact rdAll_true q
def sp_need_stretch : SpD := spF1 fun v M Q _ => ∃ ns, v = stD ns ∧ ns.length ≤ 1000000 ∧ (∀ n ∈ ns, 0 ≤ n) ∧ Q .non M
/-! def need_stretch(stretch): slots 0 stretch -/
def t_need_stretch : TDS :=
    (sif (tnot (tbl (tcall sp_fits_stretch (ac (tv 0) a0))))
      snever
      snx)
theorem rd_need_stretch : ∀ ds M Q E, sp_need_stretch ds M Q E → t_need_stretch (bend Q E) (startD ["stretch"] ds) M := rdF1 fun v M Q E ⟨ns, e, hl, g, q⟩ => by
  unfold t_need_stretch
  simp only [tv, tk, to2, to1, tbl, tch, tand, tor, tnot, vand, vor, vnot, tif, a0, ac, as_, dtup, dlst, tcb, tcall, sret, sretN, sseq, sif, snx, sdrop, sasg, gn, spar, snever, bend, rdLt, rdLe, rdGt, rdGe, rdSub, rdDiv, rdMod, rdPow, rdI0, rdI, startD, List.map_cons, List.map_nil, List.length_cons, List.length_nil, List.replicate, List.cons_append, List.nil_append, List.append_nil, List.getElem?_cons_zero, List.getElem?_cons_succ, List.set_cons_zero, List.set_cons_succ, Nat.reduceAdd, Nat.reduceSub, Nat.zero_add, tcallK, ro, List.getD_cons_zero, List.getD_cons_succ, true_and]
  refine ⟨ns, e, hl, g, ?_⟩
  exact q
/-! words -/
def optD : Option Int → D
  | some i => .int i
  | none => .non
def sp_whole_of : SpD := spF1 fun v M Q _ => ∃ w, v = .str w ∧ w.length ≤ sizeLine ∧ Q (optD (whole w)) M
/-! def whole_of(word): slots 0 word, 1 digits, 2 sign -/
def t_whole_of : TDS :=
    (sseq (sasg (tms (rdS1 (fun a _ => a.length ≤ sizeLine) fun a b => .str (Txt.removeprefix a b)) (tv 0) (ac (tk (.str "-")) a0)) (gn 1))
    (sseq (sif (tor (tbl (to2 rdEq (tv 1) (tk (.str "")))) (tor (tbl (to2 rdGt (tcb rdLen (ac (tv 1) a0)) c_MOST_DIGITS)) (tnot (tbl (tcb rdAll (ac (tlc (istr (tv 1)) (gn 2) tyes (to2 (rdIn false) (tv 2) (tk (.str "0123456789"))) [2]) a0))))))
      (sret (tk .non))
      snx)
    (sret (tif (tbl (to2 rdEq (tcb rdStr (ac (tcb rdInt (ac (tv 0) a0)) a0)) (tv 0))) (tcb rdInt (ac (tv 0) a0)) (tk .non)))))
theorem dig_in (c : Nat) : decide (c ∈ (Str.ofString "0123456789").cps.toList) = dig c := by
  have e : (Str.ofString "0123456789").cps.toList = [48, 49, 50, 51, 52, 53, 54, 55, 56, 57] := by decide
  rw [e]
  unfold dig
  by_cases h : 48 ≤ c ∧ c ≤ 57
  · rw [decide_eq_true h.1, decide_eq_true h.2]
    refine decide_eq_true ?_
    simp only [List.mem_cons, List.mem_nil_iff, or_false]
    omega
  · have : (decide (48 ≤ c) && decide (c ≤ 57)) = false := by
      rw [Bool.and_eq_false_iff, decide_eq_false_iff_not, decide_eq_false_iff_not]
      omega
    rw [this]
    refine decide_eq_false ?_
    simp only [List.mem_cons, List.mem_nil_iff, or_false]
    omega
theorem blsOf_digs (l : List Nat) : blsOf (l.map fun c => D.bl (dig c)) = some (l.map dig) := by
  induction l with
  | nil => rfl
  | cons a l ih => rw [List.map_cons, blsOf, ih]; rfl
theorem eq_empty (w : Str) : decide (w = Str.ofString "") = decide (tl w = []) := by
  by_cases h : tl w = []
  · rw [decide_eq_true h, decide_eq_true]
    exact ext_tl h
  · rw [decide_eq_false h, decide_eq_false]
    intro e
    subst e
    exact h rfl
theorem rd_whole_of : ∀ ds M Q E, sp_whole_of ds M Q E → t_whole_of (bend Q E) (startD ["word", "digits", "sign"] ds) M := rdF1 fun v M Q E ⟨w, e, hz, q⟩ => by
  subst e
  unfold t_whole_of
  obtain ⟨d, hd⟩ : ∃ d, d = Txt.removeprefix w (Str.ofString "-") := ⟨_, rfl⟩
  have td : tl d = bodyL (tl w) := by rw [hd]; exact removeprefix_minus w
  have dz : d.length ≤ sizeLine := by
    rw [hd]; exact Nat.le_trans (PyProof.Rows.len_removeprefix _ _) hz
  have eqs : ∀ a b : Str, eqS (.str a) (.str b) = some (decide (a = b)) := fun _ _ => rfl
  simp only [tv, tk, to2, to1, tbl, tch, tand, tor, tnot, vand, vor, vnot, tif, a0, ac, as_, dtup, dlst, tcb, tcall, sret, sretN, sseq, sif, snx, sdrop, sasg, gn, spar, snever, bend, rdLt, rdLe, rdGt, rdGe, rdSub, rdDiv, rdMod, rdPow, rdI0, rdI, startD, List.map_cons, List.map_nil, List.length_cons, List.length_nil, List.replicate, List.cons_append, List.nil_append, List.append_nil, List.getElem?_cons_zero, List.getElem?_cons_succ, List.set_cons_zero, List.set_cons_succ, Nat.reduceAdd, Nat.reduceSub, Nat.zero_add, tcallK, ro, List.getD_cons_zero, List.getD_cons_succ, true_and, tms, rdS1, rdEq, eqs, rdLen, c_MOST_DIGITS, ← hd]
  refine ⟨hz, ?_⟩
  rw [eq_empty]
  by_cases h1 : tl d = []
  · rw [decide_eq_true h1]
    simp only [if_true]
    have : whole w = none := by unfold whole wholeL; rw [if_pos (.inl (td ▸ h1))]
    rw [this] at q; exact q
  rw [decide_eq_false h1, if_neg (by simp)]
  refine ⟨dz, ?_⟩
  by_cases h2 : 9 < d.length
  · rw [decide_eq_true (show (9 : Int) < (d.length : Int) by omega)]
    simp only [if_true]
    have : whole w = none := by unfold whole wholeL; rw [if_pos (.inr (.inl (by rw [← td, ← len_tl]; exact h2)))]
    rw [this] at q; exact q
  rw [decide_eq_false (show ¬ (9 : Int) < (d.length : Int) by omega), if_neg (by simp)]
  simp only [tlc, istr, tv, tk, to2, to1, tbl, tch, tand, tor, tnot, vand, vor, vnot, tif, a0, ac, as_, dtup, dlst, tcb, tcall, sret, sretN, sseq, sif, snx, sdrop, sasg, gn, spar, snever, bend, rdLt, rdLe, rdGt, rdGe, rdSub, rdDiv, rdMod, rdPow, rdI0, rdI, startD, List.map_cons, List.map_nil, List.length_cons, List.length_nil, List.replicate, List.cons_append, List.nil_append, List.append_nil, List.getElem?_cons_zero, List.getElem?_cons_succ, List.set_cons_zero, List.set_cons_succ, Nat.reduceAdd, Nat.reduceSub, Nat.zero_add, tcallK, ro, List.getD_cons_zero, List.getD_cons_succ, true_and]
  refine compD_n (f := fun c => D.str ⟨#[c]⟩) (r := fun c => D.bl (dig c)) d.cps.toList [] (fun c hc k hk => ?_) (by
    rw [List.length_nil, Nat.zero_add]; exact (len_tl d) ▸ dz) ?_
  · simp only [tv, tk, to2, to1, tbl, tch, tand, tor, tnot, vand, vor, vnot, tif, a0, ac, as_, dtup, dlst, tcb, tcall, sret, sretN, sseq, sif, snx, sdrop, sasg, gn, spar, snever, bend, rdLt, rdLe, rdGt, rdGe, rdSub, rdDiv, rdMod, rdPow, rdI0, rdI, startD, List.map_cons, List.map_nil, List.length_cons, List.length_nil, List.replicate, List.cons_append, List.nil_append, List.append_nil, List.getElem?_cons_zero, List.getElem?_cons_succ, List.set_cons_zero, List.set_cons_succ, Nat.reduceAdd, Nat.reduceSub, Nat.zero_add, tcallK, ro, List.getD_cons_zero, List.getD_cons_succ, true_and, wipeD, rdIn]
    refine ⟨rfl, ?_⟩
    show k (.bl (false ^^ decide (c ∈ (Str.ofString "0123456789").cps.toList))) M
    rw [dig_in, Bool.false_xor]
    exact hk
  rw [List.nil_append]
  show (match blsOf (d.cps.toList.map fun c => D.bl (dig c)) with
    | some bs => _
    | none => False)
  rw [blsOf_digs]
  show (if (!((d.cps.toList.map dig).all _root_.id)) = true then _ else _)
  have ea : (d.cps.toList.map dig).all _root_.id = (tl d).all dig := by
    rw [List.all_map]; rfl
  rw [ea]
  by_cases h3 : (tl d).all dig = true
  · rw [h3, if_neg (by simp)]
    have w640 : w.length ≤ 640 := by
      have : (tl w).length ≤ (bodyL (tl w)).length + 1 := by
        unfold bodyL; split
        · rename_i e; rw [e]; simp
        · omega
      have e1 := len_tl w
      have e2 := len_tl d
      rw [← td] at this
      omega
    have hnt : ¬ (bodyL (tl w) = [] ∨ 9 < (bodyL (tl w)).length ∨ (bodyL (tl w)).all dig = false) := by
      rw [← td]
      rintro (h | h | h)
      · exact h1 h
      · rw [← len_tl] at h; exact h2 h
      · rw [h3] at h; cases h
    have hi : intText? w = some (valL (tl w)) := by
      cases hw : tl w with
      | nil => rw [td, hw] at h1; exact absurd rfl h1
      | cons c r =>
        by_cases hc : c = 45
        · subst hc
          have hb : bodyL (tl w) = r := by rw [hw]; rfl
          rw [td, hb] at h1 h3
          exact PySem.intText_neg (x := w) hw (dig_all.mp h3) h1 (by omega)
        · have hb : bodyL (tl w) = tl w := by
            rw [hw]; unfold bodyL; split
            · rename_i e; injection e with e _; exact absurd e hc
            · rfl
          rw [td, hb] at h1 h3
          have hv : valL (c :: r) = ((NumText.digitsVal (c :: r) : Nat) : Int) := by
            unfold valL; split
            · rename_i e; injection e with e _; exact absurd e hc
            · rfl
          rw [hv, ← hw]
          exact PySem.intText_digits (x := w) (dig_all.mp h3) h1 (by omega)
    have hb9 : (valL (tl w)).natAbs < 10 ^ 9 := by
      have key : ∀ l : List Nat, NumText.AllDigits l → ∀ a : Nat, l.foldl (fun acc c => acc * 10 + (c - 48)) a < (a + 1) * 10 ^ l.length := by
        intro l
        induction l with
        | nil => intro _ a; simp
        | cons c l ih =>
          intro h a
          have hc := h.head
          have := ih h.tail (a * 10 + (c - 48))
          rw [List.foldl_cons, List.length_cons, Nat.pow_succ]
          calc _ < (a * 10 + (c - 48) + 1) * 10 ^ l.length := this
            _ ≤ ((a + 1) * 10) * 10 ^ l.length := Nat.mul_le_mul_right _ (by omega)
            _ = (a + 1) * (10 ^ l.length * 10) := by rw [Nat.mul_assoc, Nat.mul_comm 10]
      have bound : ∀ l : List Nat, NumText.AllDigits l → l.length ≤ 9 → NumText.digitsVal l < 10 ^ 9 := fun l h hl => by
        have := key l h 0
        rw [Nat.zero_add, Nat.one_mul] at this
        exact Nat.lt_of_lt_of_le this (Nat.pow_le_pow_right (by decide) hl)
      have hd9 : (tl d).length ≤ 9 := by rw [← len_tl]; omega
      rw [td] at h3 hd9
      generalize tl w = l at h3 hd9
      unfold valL
      split
      · have := bound _ (dig_all.mp h3) hd9
        show (-((NumText.digitsVal _ : Nat) : Int)).natAbs < _
        rw [Int.natAbs_neg]
        exact this
      · rename_i hn
        have hb : bodyL l = l := by
          unfold bodyL; split
          · exact absurd rfl (hn _)
          · rfl
        rw [hb] at h3 hd9
        exact bound _ (dig_all.mp h3) hd9
    have hwh : whole w = if numZ (valL (tl w)) = tl w then some (valL (tl w)) else none := by
      unfold whole wholeL; rw [if_neg hnt]
    have he : decide (numT (valL (tl w)) = w) = decide (numZ (valL (tl w)) = tl w) := by
      by_cases h : numZ (valL (tl w)) = tl w
      · rw [decide_eq_true h, decide_eq_true]
        exact ext_tl (by rw [tl_numT]; exact h)
      · rw [decide_eq_false h, decide_eq_false]
        intro e; exact h (by rw [← tl_numT, e])
    simp only [tv, tk, to2, to1, tbl, tch, tand, tor, tnot, vand, vor, vnot, tif, a0, ac, as_, dtup, dlst, tcb, tcall, sret, sretN, sseq, sif, snx, sdrop, sasg, gn, spar, snever, bend, rdLt, rdLe, rdGt, rdGe, rdSub, rdDiv, rdMod, rdPow, rdI0, rdI, startD, List.map_cons, List.map_nil, List.length_cons, List.length_nil, List.replicate, List.cons_append, List.nil_append, List.append_nil, List.getElem?_cons_zero, List.getElem?_cons_succ, List.set_cons_zero, List.set_cons_succ, Nat.reduceAdd, Nat.reduceSub, Nat.zero_add, tcallK, ro, List.getD_cons_zero, List.getD_cons_succ, true_and, rdInt, rdStr, hi, rdEq, eqs]
    refine ⟨w640, log2_10 hb9 (by decide), ?_⟩
    rw [he]
    rw [hwh] at q
    by_cases h : numZ (valL (tl w)) = tl w
    · rw [decide_eq_true h, if_pos rfl]
      rw [if_pos h] at q
      exact ⟨w640, q⟩
    · rw [decide_eq_false h, if_neg (by simp)]
      rw [if_neg h] at q
      exact q
  · have h3 : (tl d).all dig = false := by simpa using h3
    rw [h3, if_pos (by rfl)]
    have : whole w = none := by unfold whole wholeL; rw [if_pos (.inr (.inr (td ▸ h3)))]
    rw [this] at q; exact q
/-! fractions' words -/
def fracOf (w : Str) : Option (Int × Int) :=
  let p := Txt.partition w (Str.ofString "/")
  match whole p.1, (if p.2.1 = Str.ofString "/" then whole p.2.2 else some 1) with
  | some t, some b => if p.2.1 = Str.ofString "/" ∧ (b < 2 ∨ 1 < Nat.gcd t.natAbs b.natAbs) then none else some (t, b)
  | _, _ => none
def optF : Option (Int × Int) → D
  | some f => fracD f
  | none => .non
def sp_fraction_of : SpD := spF1 fun v M Q _ => ∃ w, v = .str w ∧ w.length ≤ sizeLine ∧ Q (optF (fracOf w)) M
/-! def fraction_of(word): slots 0 word, 1 before, 2 slash, 3 behind, 4 top, 5 bottom -/
def t_fraction_of : TDS :=
    (sseq (sasg (tms rdPart (tv 0) (ac (tk (.str "/")) a0)) (gtup 3 (gsc (gn 1) (gsc (gn 2) (gsc (gn 3) gsn)))))
    (sseq (spar 4 5 (ac (tcall sp_whole_of (ac (tv 1) a0)) (ac (tif (tbl (to2 rdEq (tv 2) (tk (.str "/")))) (tcall sp_whole_of (ac (tv 3) a0)) (tk (.int 1))) a0)))
    (sseq (sif (tor (tbl (to2 rdIs (tv 4) (tk .non))) (tbl (to2 rdIs (tv 5) (tk .non))))
      (sret (tk .non))
      snx)
    (sseq (sif (tand (tbl (to2 rdEq (tv 2) (tk (.str "/")))) (tor (tbl (to2 rdLt (tv 5) (tk (.int 2)))) (tbl (to2 rdGt (tcall sp_greatest_common (ac (tcb rdAbs (ac (tv 4) a0)) (ac (tv 5) a0))) (tk (.int 1))))))
      (sret (tk .non))
      snx)
    (sret (dtup (ac (tv 4) (ac (tv 5) a0))))))))
theorem part_len (w y : Str) (hy : tl y ≠ []) : (Txt.partition w y).1.length ≤ w.length ∧ (Txt.partition w y).2.2.length ≤ w.length := by
  unfold Txt.partition
  split
  · have e := len_tl w
    constructor
    · rw [len_tl (Builtin.Str.strSub _ _ _), tl_strSub]; simp only [List.length_take, List.length_drop]; omega
    · rw [len_tl (Builtin.Str.strSub _ _ _), tl_strSub]; simp only [List.length_take, List.length_drop]; omega
  · exact ⟨Nat.le_refl _, Nat.zero_le _⟩
theorem isN_opt (o : Option Int) : isN (optD o) = o.isNone := by cases o <;> rfl
theorem rd_fraction_of : ∀ ds M Q E, sp_fraction_of ds M Q E → t_fraction_of (bend Q E) (startD ["word", "before", "slash", "behind", "top", "bottom"] ds) M := rdF1 fun v M Q E ⟨w, e, hz, q⟩ => by
  subst e
  unfold t_fraction_of
  have hy : tl (Str.ofString "/") ≠ [] := by decide
  obtain ⟨l1, l2⟩ := part_len w (Str.ofString "/") hy
  unfold fracOf at q
  obtain ⟨p, hp⟩ : ∃ p, p = Txt.partition w (Str.ofString "/") := ⟨_, rfl⟩
  rw [← hp] at l1 l2
  simp only [← hp] at q
  have eqs : ∀ a b : Str, eqS (.str a) (.str b) = some (decide (a = b)) := fun _ _ => rfl
  simp only [tv, tk, to2, to1, tbl, tch, tand, tor, tnot, vand, vor, vnot, tif, a0, ac, as_, dtup, dlst, tcb, tcall, sret, sretN, sseq, sif, snx, sdrop, sasg, gn, spar, snever, bend, rdLt, rdLe, rdGt, rdGe, rdSub, rdDiv, rdMod, rdPow, rdI0, rdI, startD, List.map_cons, List.map_nil, List.length_cons, List.length_nil, List.replicate, List.cons_append, List.nil_append, List.append_nil, List.getElem?_cons_zero, List.getElem?_cons_succ, List.set_cons_zero, List.set_cons_succ, Nat.reduceAdd, Nat.reduceSub, Nat.zero_add, tcallK, ro, List.getD_cons_zero, List.getD_cons_succ, true_and, tms, rdPart, ← hp, gtup, gsc, gsn]
  refine ⟨⟨rfl, hz⟩, ?_⟩
  simp only [rdEq, eqs]
  refine ⟨p.1, rfl, Nat.le_trans l1 hz, ?_⟩
  obtain ⟨ot, hot⟩ : ∃ o, o = whole p.1 := ⟨_, rfl⟩
  rw [← hot]
  rw [← hot] at q
  by_cases hs : p.2.1 = Str.ofString "/"
  · rw [decide_eq_true hs]
    simp only [if_true]
    rw [if_pos hs] at q
    refine ⟨p.2.2, rfl, Nat.le_trans l2 hz, ?_⟩
    obtain ⟨ob, hob⟩ : ∃ o, o = whole p.2.2 := ⟨_, rfl⟩
    rw [← hob]
    rw [← hob] at q
    simp only [rdIs, isN_opt]
    cases ot with
    | none => exact q
    | some t =>
      cases ob with
      | none => exact q
      | some b =>
        simp only [Option.isNone, Bool.false_eq_true, if_false, optD, tv, tk, to2, to1, tbl, tch, tand, tor, tnot, vand, vor, vnot, tif, a0, ac, as_, dtup, dlst, tcb, tcall, sret, sretN, sseq, sif, snx, sdrop, sasg, gn, spar, snever, bend, rdLt, rdLe, rdGt, rdGe, rdSub, rdDiv, rdMod, rdPow, rdI0, rdI, startD, List.map_cons, List.map_nil, List.length_cons, List.length_nil, List.replicate, List.cons_append, List.nil_append, List.append_nil, List.getElem?_cons_zero, List.getElem?_cons_succ, List.set_cons_zero, List.set_cons_succ, Nat.reduceAdd, Nat.reduceSub, Nat.zero_add, tcallK, ro, List.getD_cons_zero, List.getD_cons_succ, true_and, rdAbs, abs_nat]
        simp only [hs, true_and] at q
        by_cases hb : b < 2
        · rw [decide_eq_true hb]
          simp only [if_true]
          rw [if_pos (.inl hb)] at q
          exact q
        · rw [decide_eq_false hb]
          simp only [Bool.false_eq_true, if_false]
          refine ⟨t.natAbs, b.natAbs, rfl, by congr 1; omega, ?_⟩
          dsimp only
          by_cases hg : 1 < Nat.gcd t.natAbs b.natAbs
          · rw [decide_eq_true (show (1 : Int) < ((Nat.gcd t.natAbs b.natAbs : Nat) : Int) by omega)]
            simp only [if_true]
            rw [if_pos (.inr hg)] at q
            exact q
          · rw [decide_eq_false (show ¬ (1 : Int) < ((Nat.gcd t.natAbs b.natAbs : Nat) : Int) by omega)]
            simp only [Bool.false_eq_true, if_false]
            rw [if_neg (by omega)] at q
            exact ⟨by decide, q⟩
  · rw [decide_eq_false hs]
    simp only [Bool.false_eq_true, if_false]
    simp only [if_neg hs] at q
    simp only [rdIs, isN_opt]
    cases ot with
    | none => exact q
    | some t =>
      simp only [Option.isNone, Bool.false_eq_true, if_false, optD, isN]
      simp only [hs, false_and, if_false] at q
      exact ⟨by decide, q⟩
def fracT (f : Int × Int) : Str := if f.2 = 1 then numT f.1 else numT f.1 ++ Str.ofString "/" ++ numT f.2
structure SmallF (f : Int × Int) : Prop where
  a : f.1.natAbs < 10 ^ 40
  b : f.2.natAbs < 10 ^ 40
def sp_fraction_text : SpD := spF1 fun v M Q _ => ∃ f, v = fracD f ∧ SmallF f ∧ Q (.str (fracT f)) M
/-! def fraction_text(value): slots 0 value -/
def t_fraction_text : TDS :=
    (sret (tif (tbl (to2 rdEq (to2 rdIx (tv 0) (tk (.int 1))) (tk (.int 1)))) (tcb rdStr (ac (to2 rdIx (tv 0) (tk (.int 0))) a0)) (tjoined ((tfmt (to2 rdIx (tv 0) (tk (.int 0)))) :: ((tk (.str "/")) :: ((tfmt (to2 rdIx (tv 0) (tk (.int 1)))) :: []))))))
theorem rd_fraction_text : ∀ ds M Q E, sp_fraction_text ds M Q E → t_fraction_text (bend Q E) (startD ["value"] ds) M := rdF1 fun v M Q E ⟨f, e, g, q⟩ => by
  subst e
  unfold t_fraction_text fracD
  have h0 : atI [D.int f.1, D.int f.2] 0 = some (D.int f.1) := rfl
  have h1 : atI [D.int f.1, D.int f.2] 1 = some (D.int f.2) := rfl
  have eqi : ∀ a b : Int, eqS (.int a) (.int b) = some (decide (a = b)) := fun _ _ => rfl
  simp only [tv, tk, to2, to1, tbl, tch, tand, tor, tnot, vand, vor, vnot, tif, a0, ac, as_, dtup, dlst, tcb, tcall, sret, sretN, sseq, sif, snx, sdrop, sasg, gn, spar, snever, bend, rdLt, rdLe, rdGt, rdGe, rdSub, rdDiv, rdMod, rdPow, rdI0, rdI, startD, List.map_cons, List.map_nil, List.length_cons, List.length_nil, List.replicate, List.cons_append, List.nil_append, List.append_nil, List.getElem?_cons_zero, List.getElem?_cons_succ, List.set_cons_zero, List.set_cons_succ, Nat.reduceAdd, Nat.reduceSub, Nat.zero_add, tcallK, ro, List.getD_cons_zero, List.getD_cons_succ, true_and, rdEq, rdIx, h0, h1, atD, eqi]
  unfold fracT at q
  have b1 : (Str.ofString (toString f.1)).length ≤ 41 := numT_len (by decide) g.a
  have b2 : (Str.ofString (toString f.2)).length ≤ 41 := numT_len (by decide) g.b
  by_cases h : f.2 = 1
  · rw [decide_eq_true h]
    rw [if_pos h] at q
    simp only [if_true, rdStr]
    exact ⟨log2_10 g.a (by decide), q⟩
  · rw [decide_eq_false h]
    rw [if_neg h] at q
    simp only [Bool.false_eq_true, if_false, tjoined, tjs, tfmt, tv, tk, to2, to1, tbl, tch, tand, tor, tnot, vand, vor, vnot, tif, a0, ac, as_, dtup, dlst, tcb, tcall, sret, sretN, sseq, sif, snx, sdrop, sasg, gn, spar, snever, bend, rdLt, rdLe, rdGt, rdGe, rdSub, rdDiv, rdMod, rdPow, rdI0, rdI, startD, List.map_cons, List.map_nil, List.length_cons, List.length_nil, List.replicate, List.cons_append, List.nil_append, List.append_nil, List.getElem?_cons_zero, List.getElem?_cons_succ, List.set_cons_zero, List.set_cons_succ, Nat.reduceAdd, Nat.reduceSub, Nat.zero_add, tcallK, ro, List.getD_cons_zero, List.getD_cons_succ, true_and, rdIx, h0, h1, atD, Str.empty_append]
    have bs : (Str.ofString "/").length = 1 := rfl
    have z : sizeLine = 16777216 := rfl
    refine ⟨log2_10 g.a (by decide), by omega, by rw [strLen_append]; omega, log2_10 g.b (by decide), by rw [strLen_append, strLen_append]; omega, q⟩
/-! texts -/
def rowT (t : Str) (ps : List Int) : Str := Txt.join (Str.ofString " ") (t :: ps.map numT)
theorem strsOf_nums {α : Type} (g : α → Str) : ∀ l : List α, strsOf (l.map fun a => D.str (g a)) = some (l.map g)
  | [] => rfl
  | a :: l => by rw [List.map_cons, strsOf, strsOf_nums g l]; rfl
def sp_write_row : SpD := spF1 fun v M Q _ => ∃ t ps, v = rowD t ps ∧ GoodRow t ps ∧ Q (.str (rowT t ps)) M
/-! def write_row(row): slots 0 row, 1 period -/
def t_write_row : TDS :=
    (sseq (sdrop (tcall sp_need_row (ac (tv 0) a0)))
    (sret (tms rdJoin (tk (.str " ")) (ac (dlst (ac (to2 rdIx (tv 0) (tk (.int 0))) (as_ (tlc (itup (to2 rdIx (tv 0) (tk (.int 1)))) (gn 1) tyes (tcb rdStr (ac (tv 1) a0)) [1]) a0))) a0))))
theorem rd_write_row : ∀ ds M Q E, sp_write_row ds M Q E → t_write_row (bend Q E) (startD ["row", "period"] ds) M := rdF1 fun v M Q E ⟨t, ps, e, g, q⟩ => by
  subst e
  unfold t_write_row
  simp only [tv, tk, to2, to1, tbl, tch, tand, tor, tnot, vand, vor, vnot, tif, a0, ac, as_, dtup, dlst, tcb, tcall, sret, sretN, sseq, sif, snx, sdrop, sasg, gn, spar, snever, bend, rdLt, rdLe, rdGt, rdGe, rdSub, rdDiv, rdMod, rdPow, rdI0, rdI, startD, List.map_cons, List.map_nil, List.length_cons, List.length_nil, List.replicate, List.cons_append, List.nil_append, List.append_nil, List.getElem?_cons_zero, List.getElem?_cons_succ, List.set_cons_zero, List.set_cons_succ, Nat.reduceAdd, Nat.reduceSub, Nat.zero_add, tcallK, ro, List.getD_cons_zero, List.getD_cons_succ, true_and]
  refine ⟨t, ps, rfl, g, ?_⟩
  have h0 : atI [D.str t, D.tup (ps.map D.int)] 0 = some (D.str t) := rfl
  have h1 : atI [D.str t, D.tup (ps.map D.int)] 1 = some (D.tup (ps.map D.int)) := rfl
  have small : ∀ p ∈ ps, p.natAbs < 10 ^ 2 := fun p hp => by have := g.p p hp; omega
  simp only [rowD, tms, tv, tk, to2, to1, tbl, tch, tand, tor, tnot, vand, vor, vnot, tif, a0, ac, as_, dtup, dlst, tcb, tcall, sret, sretN, sseq, sif, snx, sdrop, sasg, gn, spar, snever, bend, rdLt, rdLe, rdGt, rdGe, rdSub, rdDiv, rdMod, rdPow, rdI0, rdI, startD, List.map_cons, List.map_nil, List.length_cons, List.length_nil, List.replicate, List.cons_append, List.nil_append, List.append_nil, List.getElem?_cons_zero, List.getElem?_cons_succ, List.set_cons_zero, List.set_cons_succ, Nat.reduceAdd, Nat.reduceSub, Nat.zero_add, tcallK, ro, List.getD_cons_zero, List.getD_cons_succ, true_and, rdIx, h0, h1, atD, tlc, itup]
  refine compD_n (f := D.int) (r := fun i => D.str (numT i)) ps [] (fun p hp k hk => ?_) (by rw [List.length_nil, Nat.zero_add]; exact g.sz) ?_
  · simp only [tv, tk, to2, to1, tbl, tch, tand, tor, tnot, vand, vor, vnot, tif, a0, ac, as_, dtup, dlst, tcb, tcall, sret, sretN, sseq, sif, snx, sdrop, sasg, gn, spar, snever, bend, rdLt, rdLe, rdGt, rdGe, rdSub, rdDiv, rdMod, rdPow, rdI0, rdI, startD, List.map_cons, List.map_nil, List.length_cons, List.length_nil, List.replicate, List.cons_append, List.nil_append, List.append_nil, List.getElem?_cons_zero, List.getElem?_cons_succ, List.set_cons_zero, List.set_cons_succ, Nat.reduceAdd, Nat.reduceSub, Nat.zero_add, tcallK, ro, List.getD_cons_zero, List.getD_cons_succ, true_and, wipeD, rdStr]
    exact ⟨log2_10 (small p hp) (by decide), hk⟩
  · have z : sizeLine = 16777216 := rfl
    refine ⟨by rw [List.nil_append, List.length_map]; have := g.l.2; omega, ?_⟩
    rw [List.nil_append]
    show (match strsOf (D.str t :: ps.map fun i => D.str (numT i)) with
      | some ys => _
      | none => False)
    rw [strsOf, strsOf_nums]
    show ((t :: ps.map numT).map (·.length)).sum + (t :: ps.map numT).length * (Str.ofString " ").length ≤ 16777216 ∧ Q (.str (rowT t ps)) M
    refine ⟨?_, q⟩
    have lt : t.length = 3 := by rcases g.t with h | h <;> subst h <;> rfl
    have s := sum_le (B := 3) (ps.map numT) (fun x hx => by
      obtain ⟨p, hp, rfl⟩ := List.mem_map.mp hx
      exact numT_len (by decide) (small p hp))
    rw [List.length_map] at s
    have l1 : (Str.ofString " ").length = 1 := rfl
    rw [List.map_cons, List.sum_cons, List.length_cons, List.length_map, l1, lt]
    have := g.l.2
    omega
def stT (ns : List Int) : Str := Txt.join (Str.ofString " ") (ns.map numT)
def sp_write_steps : SpD := spF1 fun v M Q _ => ∃ ns, v = stD ns ∧ ns.length ≤ 1000 ∧ (∀ n ∈ ns, 0 ≤ n ∧ n.natAbs < 10 ^ 40) ∧ Q (.str (stT ns)) M
/-! def write_steps(stretch): slots 0 stretch, 1 step -/
def t_write_steps : TDS :=
    (sseq (sdrop (tcall sp_need_stretch (ac (tv 0) a0)))
    (sret (tms rdJoin (tk (.str " ")) (ac (tlc (iseq (tv 0)) (gn 1) tyes (tcb rdStr (ac (tv 1) a0)) [1]) a0))))
theorem nums_sum {ns : List Int} (h : ∀ n ∈ ns, n.natAbs < 10 ^ 40) (hl : ns.length ≤ 1000) : ((ns.map numT).map (·.length)).sum + (ns.map numT).length * (Str.ofString " ").length ≤ 16777216 := by
  have s := sum_le (B := 41) (ns.map numT) (fun x hx => by
    obtain ⟨p, hp, rfl⟩ := List.mem_map.mp hx
    exact numT_len (by decide) (h p hp))
  have l1 : (Str.ofString " ").length = 1 := rfl
  rw [List.length_map] at s
  rw [List.length_map, l1]
  omega
theorem rd_write_steps : ∀ ds M Q E, sp_write_steps ds M Q E → t_write_steps (bend Q E) (startD ["stretch", "step"] ds) M := rdF1 fun v M Q E ⟨ns, e, hl, g, q⟩ => by
  subst e
  unfold t_write_steps
  simp only [tv, tk, to2, to1, tbl, tch, tand, tor, tnot, vand, vor, vnot, tif, a0, ac, as_, dtup, dlst, tcb, tcall, sret, sretN, sseq, sif, snx, sdrop, sasg, gn, spar, snever, bend, rdLt, rdLe, rdGt, rdGe, rdSub, rdDiv, rdMod, rdPow, rdI0, rdI, startD, List.map_cons, List.map_nil, List.length_cons, List.length_nil, List.replicate, List.cons_append, List.nil_append, List.append_nil, List.getElem?_cons_zero, List.getElem?_cons_succ, List.set_cons_zero, List.set_cons_succ, Nat.reduceAdd, Nat.reduceSub, Nat.zero_add, tcallK, ro, List.getD_cons_zero, List.getD_cons_succ, true_and]
  refine ⟨ns, rfl, by omega, fun n hn => (g n hn).1, ?_⟩
  simp only [stD, tms, tv, tk, to2, to1, tbl, tch, tand, tor, tnot, vand, vor, vnot, tif, a0, ac, as_, dtup, dlst, tcb, tcall, sret, sretN, sseq, sif, snx, sdrop, sasg, gn, spar, snever, bend, rdLt, rdLe, rdGt, rdGe, rdSub, rdDiv, rdMod, rdPow, rdI0, rdI, startD, List.map_cons, List.map_nil, List.length_cons, List.length_nil, List.replicate, List.cons_append, List.nil_append, List.append_nil, List.getElem?_cons_zero, List.getElem?_cons_succ, List.set_cons_zero, List.set_cons_succ, Nat.reduceAdd, Nat.reduceSub, Nat.zero_add, tcallK, ro, List.getD_cons_zero, List.getD_cons_succ, true_and, tlc, iseq]
  refine compD_n (f := D.int) (r := fun i => D.str (numT i)) ns [] (fun p hp k hk => ?_) (by rw [List.length_nil, Nat.zero_add]; exact Nat.le_trans hl (by decide)) ?_
  · simp only [tv, tk, to2, to1, tbl, tch, tand, tor, tnot, vand, vor, vnot, tif, a0, ac, as_, dtup, dlst, tcb, tcall, sret, sretN, sseq, sif, snx, sdrop, sasg, gn, spar, snever, bend, rdLt, rdLe, rdGt, rdGe, rdSub, rdDiv, rdMod, rdPow, rdI0, rdI, startD, List.map_cons, List.map_nil, List.length_cons, List.length_nil, List.replicate, List.cons_append, List.nil_append, List.append_nil, List.getElem?_cons_zero, List.getElem?_cons_succ, List.set_cons_zero, List.set_cons_succ, Nat.reduceAdd, Nat.reduceSub, Nat.zero_add, tcallK, ro, List.getD_cons_zero, List.getD_cons_succ, true_and, wipeD, rdStr]
    exact ⟨log2_10 (g p hp).2 (by decide), hk⟩
  · rw [List.nil_append]
    show (match strsOf (ns.map fun i => D.str (numT i)) with
      | some ys => _
      | none => False)
    rw [strsOf_nums]
    exact ⟨nums_sum (fun n hn => (g n hn).2) hl, q⟩
def phT (fs : List (Int × Int)) : Str := Txt.join (Str.ofString " ") (fs.map fracT)
theorem fracT_len {f : Int × Int} (g : SmallF f) : (fracT f).length ≤ 83 := by
  have b1 := numT_len (by decide) g.a
  have b2 := numT_len (by decide) g.b
  unfold fracT
  split
  · omega
  · rw [strLen_append, strLen_append]
    have bs : (Str.ofString "/").length = 1 := rfl
    omega
theorem fracs_sum {fs : List (Int × Int)} (h : ∀ n ∈ fs, SmallF n) (hl : fs.length ≤ 1000) : ((fs.map fracT).map (·.length)).sum + (fs.map fracT).length * (Str.ofString " ").length ≤ 16777216 := by
  have s := sum_le (B := 83) (fs.map fracT) (fun x hx => by
    obtain ⟨p, hp, rfl⟩ := List.mem_map.mp hx
    exact fracT_len (h p hp))
  have l1 : (Str.ofString " ").length = 1 := rfl
  rw [List.length_map] at s
  rw [List.length_map, l1]
  omega
def sp_write_phases : SpD := spF2 fun r v M Q _ => ∃ t ps fs, r = rowD t ps ∧ v = phD fs ∧ GoodRow t ps ∧ fs.length = ps.length ∧ (∀ f ∈ fs, GoodF f ∧ SmallF f) ∧ Q (.str (phT fs)) M
/-! def write_phases(row, phases): slots 0 row, 1 phases, 2 phase -/
def t_write_phases : TDS :=
    (sseq (sdrop (tcall sp_need_row (ac (tv 0) a0)))
    (sseq (sdrop (tcall sp_need_phases (ac (tv 0) (ac (tv 1) a0))))
    (sret (tms rdJoin (tk (.str " ")) (ac (tlc (iseq (tv 1)) (gn 2) tyes (tcall sp_fraction_text (ac (tv 2) a0)) [2]) a0)))))
theorem rd_write_phases : ∀ ds M Q E, sp_write_phases ds M Q E → t_write_phases (bend Q E) (startD ["row", "phases", "phase"] ds) M := rdF2 fun r v M Q E ⟨t, ps, fs, e1, e2, gr, hl, g, q⟩ => by
  subst e1 e2
  unfold t_write_phases
  simp only [tv, tk, to2, to1, tbl, tch, tand, tor, tnot, vand, vor, vnot, tif, a0, ac, as_, dtup, dlst, tcb, tcall, sret, sretN, sseq, sif, snx, sdrop, sasg, gn, spar, snever, bend, rdLt, rdLe, rdGt, rdGe, rdSub, rdDiv, rdMod, rdPow, rdI0, rdI, startD, List.map_cons, List.map_nil, List.length_cons, List.length_nil, List.replicate, List.cons_append, List.nil_append, List.append_nil, List.getElem?_cons_zero, List.getElem?_cons_succ, List.set_cons_zero, List.set_cons_succ, Nat.reduceAdd, Nat.reduceSub, Nat.zero_add, tcallK, ro, List.getD_cons_zero, List.getD_cons_succ, true_and]
  refine ⟨t, ps, rfl, gr, t, ps, fs, rfl, rfl, hl, gr.l.2, fun f hf => (g f hf).1, ?_⟩
  simp only [phD, tms, tv, tk, to2, to1, tbl, tch, tand, tor, tnot, vand, vor, vnot, tif, a0, ac, as_, dtup, dlst, tcb, tcall, sret, sretN, sseq, sif, snx, sdrop, sasg, gn, spar, snever, bend, rdLt, rdLe, rdGt, rdGe, rdSub, rdDiv, rdMod, rdPow, rdI0, rdI, startD, List.map_cons, List.map_nil, List.length_cons, List.length_nil, List.replicate, List.cons_append, List.nil_append, List.append_nil, List.getElem?_cons_zero, List.getElem?_cons_succ, List.set_cons_zero, List.set_cons_succ, Nat.reduceAdd, Nat.reduceSub, Nat.zero_add, tcallK, ro, List.getD_cons_zero, List.getD_cons_succ, true_and, tlc, iseq]
  refine compD_n (f := fracD) (r := fun i => D.str (fracT i)) fs [] (fun p hp k hk => ?_) (by rw [List.length_nil, Nat.zero_add, hl]; exact gr.sz) ?_
  · simp only [tv, tk, to2, to1, tbl, tch, tand, tor, tnot, vand, vor, vnot, tif, a0, ac, as_, dtup, dlst, tcb, tcall, sret, sretN, sseq, sif, snx, sdrop, sasg, gn, spar, snever, bend, rdLt, rdLe, rdGt, rdGe, rdSub, rdDiv, rdMod, rdPow, rdI0, rdI, startD, List.map_cons, List.map_nil, List.length_cons, List.length_nil, List.replicate, List.cons_append, List.nil_append, List.append_nil, List.getElem?_cons_zero, List.getElem?_cons_succ, List.set_cons_zero, List.set_cons_succ, Nat.reduceAdd, Nat.reduceSub, Nat.zero_add, tcallK, ro, List.getD_cons_zero, List.getD_cons_succ, true_and, wipeD]
    exact ⟨p, rfl, (g p hp).2, hk⟩
  · rw [List.nil_append]
    show (match strsOf (fs.map fun i => D.str (fracT i)) with
      | some ys => _
      | none => False)
    rw [strsOf_nums]
    exact ⟨fracs_sum (fun n hn => (g n hn).2) (by have := gr.l.2; omega), q⟩
end K60

namespace K60
open PySem PySem.Spec L2 DL
open TL
/-! reading -/
theorem rgD_cons {a b : Int} (h : a < b) : rgD a b = .int a :: rgD (a + 1) b := by
  unfold rgD
  have e : (b - a).toNat = (b - (a + 1)).toNat + 1 := by omega
  rw [e, List.range_succ_eq_map, List.map_cons, List.map_map]
  congr 1
  · simp
  · refine List.map_congr_left fun i _ => ?_
    show D.int _ = D.int _
    congr 1
    show a + ((i + 1 : Nat) : Int) = a + 1 + (i : Int)
    omega
theorem rgD_nil {a b : Int} (h : b ≤ a) : rgD a b = [] := by
  unfold rgD
  have e : (b - a).toNat = 0 := by omega
  rw [e]; rfl
theorem sp_len : tl (Str.ofString " ") = [32] := by decide
theorem split_ws {ws : List Str} (hne : ws ≠ []) (h : ∀ w ∈ ws, (32 : Nat) ∉ tl w) : Txt.split (Txt.join (Str.ofString " ") ws) (Str.ofString " ") = ws := split_join (s := 32) (S := []) sp_len (by decide +kernel) hne h
theorem tie_free {t : Str} {ps : List Int} (g : GoodRow t ps) : (32 : Nat) ∉ tl t := by
  rcases g.t with h | h <;> subst h <;> decide
theorem num_free (i : Int) : (32 : Nat) ∉ tl (numT i) := by
  rw [tl_numT]; exact numZ_free (by decide) (by decide)
theorem rowT_len {t : Str} {ps : List Int} (g : GoodRow t ps) : (rowT t ps).length ≤ 100 := by
  have q := join_len (sep := Str.ofString " ") (t :: ps.map numT)
  have lt : t.length = 3 := by rcases g.t with h | h <;> subst h <;> rfl
  have s := sum_le (B := 3) (ps.map numT) (fun x hx => by
    obtain ⟨p, hp, rfl⟩ := List.mem_map.mp hx
    exact numT_len (by decide) (show p.natAbs < 10 ^ 2 by have := g.p p hp; omega))
  have l1 : (Str.ofString " ").length = 1 := rfl
  rw [List.length_map] at s
  rw [List.map_cons, List.sum_cons, List.length_cons, List.length_map, l1, lt] at q
  have := g.l.2
  unfold rowT
  omega
def sp_read_row : SpD := spF1 fun v M Q _ => ∃ t ps, v = .str (rowT t ps) ∧ GoodRow t ps ∧ ∀ M', MLe M M' → Q (rowD t ps) M'
/-! def read_row(text): slots 0 text, 1 words, 2 found, 3 at, 4 period -/
def t_read_row : TDS :=
    (sseq (sasg (tms rdSplit (tv 0) (ac (tk (.str " ")) a0)) (gn 1))
    (sseq (sif (tbl (to2 (rdIn true) (to2 rdIx (tv 1) (tk (.int 0))) c_TIES))
      snever
      snx)
    (sseq (sasg (dlstM a0) (gn 2))
    (sseq (sfor (irng2 (ac (tk (.int 1)) (ac (tcb rdLen (ac (tv 1) a0)) a0))) (gn 3)
      (sseq (sasg (tcall sp_whole_of (ac (to2 rdIx (tv 1) (tv 3)) a0)) (gn 4))
    (sseq (sif (tor (tbl (to2 rdGt (tv 3) c_MOST_COPIERS)) (tor (tbl (to2 rdIs (tv 4) (tk .non))) (tnot (tbl (tcall sp_is_whole (ac (tv 4) (ac (tk (.int 1)) (ac c_MOST_PERIOD a0))))))))
      snever
      snx)
    (sdrop (tapp (tv 2) (ac (tv 4) a0))))))
    (sseq (sif (tbl (to2 rdLt (tcb rdLen (ac (tv 2) a0)) (tk (.int 2))))
      snever
      snx)
    (sret (dtup (ac (to2 rdIx (tv 1) (tk (.int 0))) (ac (tcb rdTuple (ac (tv 2) a0)) a0)))))))))
theorem get_num (t : Str) (ps1 ps2 : List Int) (p : Int) : atI (D.str t :: (ps1 ++ p :: ps2).map fun i => D.str (numT i)) (1 + (ps1.length : Int)) = some (D.str (numT p)) := by
  have e : (1 + (ps1.length : Int)) = ((ps1.length + 1 : Nat) : Int) := by omega
  rw [e]
  refine atI_nat ?_
  rw [List.getElem?_cons_succ, List.getElem?_map, List.getElem?_append_right (Nat.le_refl _), Nat.sub_self]
  rfl
theorem read_row_loop {tb : TDS} {t : Str} {D0 : DEnds} {x : Str} {pf : Addr} {ps : List Int} {M0 : MM} (h0 : M0 pf = none)
    (hb : ∀ (Dn : DEnds) (ps1 ps2 : List Int) (p : Int) (o : Option D), ps = ps1 ++ p :: ps2 → Dn.nx [some (.str x), some (.lst (D.str t :: ps.map fun i => D.str (numT i))), some (.ref pf), some (.int (1 + (ps1.length : Int))), some (.int p)] (mput M0 pf (.lst ((ps1 ++ [p]).map D.int))) →
      tb Dn [some (.str x), some (.lst (D.str t :: ps.map fun i => D.str (numT i))), some (.ref pf), some (.int (1 + (ps1.length : Int))), o] (mput M0 pf (.lst (ps1.map D.int)))) :
    ∀ (ps2 ps1 : List Int) (o1 o2 : Option D), ps = ps1 ++ ps2 → (∀ o1 o2, D0.nx [some (.str x), some (.lst (D.str t :: ps.map fun i => D.str (numT i))), some (.ref pf), o1, o2] (mput M0 pf (.lst (ps.map D.int)))) →
      forD (gn 3) tb (rgD (1 + (ps1.length : Int)) (1 + (ps.length : Int))) D0 [some (.str x), some (.lst (D.str t :: ps.map fun i => D.str (numT i))), some (.ref pf), o1, o2] (mput M0 pf (.lst (ps1.map D.int)))
  | [], ps1, o1, o2, e, q => by
    rw [List.append_nil] at e
    subst e
    rw [rgD_nil (Int.le_refl _)]
    exact q o1 o2
  | p :: ps2, ps1, o1, o2, e, q => by
    have hl : ps.length = ps1.length + (ps2.length + 1) := by rw [e, List.length_append, List.length_cons]
    rw [rgD_cons (by omega)]
    refine hb _ ps1 ps2 p o2 e ?_
    have z := read_row_loop h0 hb ps2 (ps1 ++ [p]) (some (.int (1 + (ps1.length : Int)))) (some (.int p)) (by rw [e, List.append_assoc]; rfl) q
    rw [List.length_append, List.length_singleton] at z
    have e2 : (1 + ((ps1.length + 1 : Nat) : Int)) = 1 + (ps1.length : Int) + 1 := by omega
    rw [e2] at z
    exact z
theorem rd_read_row : ∀ ds M Q E, sp_read_row ds M Q E → t_read_row (bend Q E) (startD ["text", "words", "found", "at", "period"] ds) M := rdF1 fun v M Q E ⟨t, ps, e, g, q⟩ => by
  subst e
  unfold t_read_row
  have hsp : Txt.split (rowT t ps) (Str.ofString " ") = t :: ps.map numT := split_ws (List.cons_ne_nil _ _) fun w hw => by
    rcases List.mem_cons.mp hw with h | h
    · subst h; exact tie_free g
    · obtain ⟨p, _, rfl⟩ := List.mem_map.mp h
      exact num_free p
  have z : sizeLine = 16777216 := rfl
  have ht : inF (.str t) [D.str (Str.ofString "new"), D.str (Str.ofString "old")] = true := by
    rcases g.t with h | h <;> subst h <;> decide
  have h0 : atI (D.str t :: (ps.map fun i => D.str (numT i))) 0 = some (D.str t) := atI_nat (j := 0) rfl
  have em : dstrs (ps.map numT) = ps.map fun i => D.str (numT i) := by
    show (ps.map numT).map D.str = _
    rw [List.map_map]; rfl
  simp only [tv, tk, to2, to1, tbl, tch, tand, tor, tnot, vand, vor, vnot, tif, a0, ac, as_, dtup, dlst, tcb, tcall, sret, sretN, sseq, sif, snx, sdrop, sasg, gn, spar, snever, bend, rdLt, rdLe, rdGt, rdGe, rdSub, rdDiv, rdMod, rdPow, rdI0, rdI, startD, List.map_cons, List.map_nil, List.length_cons, List.length_nil, List.replicate, List.cons_append, List.nil_append, List.append_nil, List.getElem?_cons_zero, List.getElem?_cons_succ, List.set_cons_zero, List.set_cons_succ, Nat.reduceAdd, Nat.reduceSub, Nat.zero_add, tcallK, ro, List.getD_cons_zero, List.getD_cons_succ, true_and, tms, rdSplit, hsp, dstrs, em, rdIx, h0, atD, rdIn, c_TIES, dlstM, sfor, irng2, rdLen]
  refine ⟨⟨by decide, by have := rowT_len g; omega⟩, rfl, ?_⟩
  rw [ht]
  simp only [Bool.bne_true, Bool.not_true, Bool.xor_true, Bool.false_eq_true, if_false, List.length_map]
  refine ⟨Nat.zero_le _, fun pf hpf => ⟨by have := g.l.2; omega, ?_⟩⟩
  have e1 : ((ps.length + 1 : Nat) : Int) = 1 + (ps.length : Int) := by omega
  rw [e1]
  refine read_row_loop (t := t) hpf (fun Dn ps1 ps2 p o e hn => ?_) ps [] none none rfl (fun o1 o2 => ?_)
  · have hp := g.p p (by rw [e]; simp)
    have hl : ps1.length + (ps2.length + 1) ≤ 5 := by
      have := g.l.2
      rw [e, List.length_append, List.length_cons] at this; exact this
    have ew : whole (numT p) = some p := whole_num (by omega)
    have g1 := get_num t ps1 ps2 p
    rw [← e] at g1
    have ein : inR 1 60 (D.int p) = true := by
      show (decide (1 ≤ p) && decide (p ≤ 60)) = true
      rw [decide_eq_true hp.1, decide_eq_true hp.2]; rfl
    simp only [tv, tk, to2, to1, tbl, tch, tand, tor, tnot, vand, vor, vnot, tif, a0, ac, as_, dtup, dlst, tcb, tcall, sret, sretN, sseq, sif, snx, sdrop, sasg, gn, spar, snever, bend, rdLt, rdLe, rdGt, rdGe, rdSub, rdDiv, rdMod, rdPow, rdI0, rdI, startD, List.map_cons, List.map_nil, List.length_cons, List.length_nil, List.replicate, List.cons_append, List.nil_append, List.append_nil, List.getElem?_cons_zero, List.getElem?_cons_succ, List.set_cons_zero, List.set_cons_succ, Nat.reduceAdd, Nat.reduceSub, Nat.zero_add, tcallK, ro, List.getD_cons_zero, List.getD_cons_succ, true_and, rdIx, g1, atD]
    refine ⟨numT p, rfl, Nat.le_trans (numT_len (k := 2) (by decide) (by omega)) (by decide), ?_⟩
    rw [ew]
    simp only [optD, c_MOST_COPIERS, tv, tk, to2, to1, tbl, tch, tand, tor, tnot, vand, vor, vnot, tif, a0, ac, as_, dtup, dlst, tcb, tcall, sret, sretN, sseq, sif, snx, sdrop, sasg, gn, spar, snever, bend, rdLt, rdLe, rdGt, rdGe, rdSub, rdDiv, rdMod, rdPow, rdI0, rdI, startD, List.map_cons, List.map_nil, List.length_cons, List.length_nil, List.replicate, List.cons_append, List.nil_append, List.append_nil, List.getElem?_cons_zero, List.getElem?_cons_succ, List.set_cons_zero, List.set_cons_succ, Nat.reduceAdd, Nat.reduceSub, Nat.zero_add, tcallK, ro, List.getD_cons_zero, List.getD_cons_succ, true_and, rdIs, isN, c_MOST_PERIOD]
    rw [decide_eq_false (show ¬ (5 : Int) < 1 + (ps1.length : Int) by omega)]
    simp only [Bool.false_eq_true, if_false]
    refine ⟨dat_int _, 1, 60, rfl, rfl, ?_⟩
    rw [ein]
    simp only [Bool.not_true, Bool.false_eq_true, if_false, tapp, isL, mput_same, tv, tk, to2, to1, tbl, tch, tand, tor, tnot, vand, vor, vnot, tif, a0, ac, as_, dtup, dlst, tcb, tcall, sret, sretN, sseq, sif, snx, sdrop, sasg, gn, spar, snever, bend, rdLt, rdLe, rdGt, rdGe, rdSub, rdDiv, rdMod, rdPow, rdI0, rdI, startD, List.map_cons, List.map_nil, List.length_cons, List.length_nil, List.replicate, List.cons_append, List.nil_append, List.append_nil, List.getElem?_cons_zero, List.getElem?_cons_succ, List.set_cons_zero, List.set_cons_succ, Nat.reduceAdd, Nat.reduceSub, Nat.zero_add, tcallK, ro, List.getD_cons_zero, List.getD_cons_succ, true_and, true_and]
    refine ⟨by rw [List.length_map]; omega, ?_⟩
    rw [mput_mput]
    rw [List.map_append] at hn
    exact hn
  · simp only [tv, tk, to2, to1, tbl, tch, tand, tor, tnot, vand, vor, vnot, tif, a0, ac, as_, dtup, dlst, tcb, tcall, sret, sretN, sseq, sif, snx, sdrop, sasg, gn, spar, snever, bend, rdLt, rdLe, rdGt, rdGe, rdSub, rdDiv, rdMod, rdPow, rdI0, rdI, startD, List.map_cons, List.map_nil, List.length_cons, List.length_nil, List.replicate, List.cons_append, List.nil_append, List.append_nil, List.getElem?_cons_zero, List.getElem?_cons_succ, List.set_cons_zero, List.set_cons_succ, Nat.reduceAdd, Nat.reduceSub, Nat.zero_add, tcallK, ro, List.getD_cons_zero, List.getD_cons_succ, true_and, rdLen, mput_same, List.length_map, rdIx, h0, atD, rdTuple]
    rw [decide_eq_false (show ¬ ((ps.length : Nat) : Int) < 2 by have := g.l.1; omega)]
    simp only [Bool.false_eq_true, if_false]
    exact ⟨by decide, q _ (mle_put hpf)⟩
/-! steps read -/
def sp_read_steps : SpD := spF1 fun v M Q _ => ∃ ns, v = .str (stT ns) ∧ ns.length ≤ 1000 ∧ (∀ n ∈ ns, 0 ≤ n ∧ n.natAbs < 10 ^ 9) ∧ ∀ p, M p = none → Q (.ref p) (mput M p (.lst (ns.map D.int)))
/-! def read_steps(text): slots 0 text, 1 found, 2 words, 3 at, 4 word, 5 step -/
def t_read_steps : TDS :=
    (sseq (sasg (dlstM a0) (gn 1))
    (sseq (sasg (tif (tbl (to2 rdNe (tv 0) (tk (.str "")))) (tms rdSplit (tv 0) (ac (tk (.str " ")) a0)) (dlst a0)) (gn 2))
    (sseq (sfor (ienum (ac (tv 2) a0)) (gtup 2 (gsc (gn 3) (gsc (gn 4) gsn)))
      (sseq (sasg (tcall sp_whole_of (ac (tv 4) a0)) (gn 5))
    (sseq (sif (tor (tbl (to2 rdIs (tv 5) (tk .non))) (tbl (to2 rdLt (tv 5) (tk (.int 0)))))
      snever
      snx)
    (sdrop (tapp (tv 1) (ac (tv 5) a0))))))
    (sret (tv 1)))))
theorem steps_loop {tb : TDS} {D0 : DEnds} {x0 x1 x2 : Option D} {pf : Addr} {ns : List Int} {M0 : MM}
    (hb : ∀ (Dn : DEnds) (ps1 ps2 : List Int) (p : Int) (o : Option D), ns = ps1 ++ p :: ps2 → Dn.nx [x0, x1, x2, some (.int (ps1.length : Int)), some (.str (numT p)), some (D.int p)] (mput M0 pf (.lst ((ps1 ++ [p]).map D.int))) →
      tb Dn [x0, x1, x2, some (.int (ps1.length : Int)), some (.str (numT p)), o] (mput M0 pf (.lst (ps1.map D.int)))) :
    ∀ (ps2 ps1 : List Int) (o1 o2 o3 : Option D), ns = ps1 ++ ps2 → (∀ o1 o2 o3, D0.nx [x0, x1, x2, o1, o2, o3] (mput M0 pf (.lst (ns.map D.int)))) →
      forD (gtup 2 (gsc (gn 3) (gsc (gn 4) gsn))) tb (enumD ps1.length (ps2.map fun i => D.str (numT i))) D0 [x0, x1, x2, o1, o2, o3] (mput M0 pf (.lst (ps1.map D.int)))
  | [], ps1, o1, o2, o3, e, q => by
    rw [List.append_nil] at e
    subst e
    exact q o1 o2 o3
  | p :: ps2, ps1, o1, o2, o3, e, q => by
    refine ⟨rfl, hb _ ps1 ps2 p o3 e ?_⟩
    have z := steps_loop hb ps2 (ps1 ++ [p]) (some (.int (ps1.length : Int))) (some (.str (numT p))) (some (D.int p)) (by rw [e, List.append_assoc]; rfl) q
    rw [List.length_append, List.length_singleton] at z
    exact z

theorem join_bound {ws : List Str} {B : Nat} (h : ∀ w ∈ ws, w.length ≤ B) : (Txt.join (Str.ofString " ") ws).length ≤ ws.length * (B + 1) := by
  have q := join_len (sep := Str.ofString " ") ws
  have s := sum_le ws h
  have l1 : (Str.ofString " ").length = 1 := rfl
  rw [l1] at q
  rw [Nat.mul_add]
  omega
theorem join_ne {ws : List Str} (hne : ws ≠ []) (h : ∀ w ∈ ws, (32 : Nat) ∉ tl w) (h2 : ∀ w ∈ ws, tl w ≠ []) : Txt.join (Str.ofString " ") ws ≠ Str.ofString "" := fun e => by
  have z := split_ws hne h
  rw [e] at z
  have : Txt.split (Str.ofString "") (Str.ofString " ") = [Str.ofString ""] := by decide +kernel
  rw [this] at z
  exact h2 (Str.ofString "") (by rw [← z]; exact List.mem_cons_self) rfl
theorem rd_read_steps : ∀ ds M Q E, sp_read_steps ds M Q E → t_read_steps (bend Q E) (startD ["text", "found", "words", "at", "word", "step"] ds) M := rdF1 fun v M Q E ⟨ns, e, hl, g, q⟩ => by
  subst e
  unfold t_read_steps
  have z : sizeLine = 16777216 := rfl
  have eqs : ∀ a b : Str, eqS (.str a) (.str b) = some (decide (a = b)) := fun _ _ => rfl
  have free : ∀ w ∈ ns.map numT, (32 : Nat) ∉ tl w := fun w hw => by
    obtain ⟨p, _, rfl⟩ := List.mem_map.mp hw
    exact num_free p
  have len : ∀ w ∈ ns.map numT, w.length ≤ 10 := fun w hw => by
    obtain ⟨p, hp, rfl⟩ := List.mem_map.mp hw
    exact numT_len (by decide) (g p hp).2
  have em : dstrs (ns.map numT) = ns.map fun i => D.str (numT i) := by
    show (ns.map numT).map D.str = _
    rw [List.map_map]; rfl
  simp only [tv, tk, to2, to1, tbl, tch, tand, tor, tnot, vand, vor, vnot, tif, a0, ac, as_, dtup, dlst, tcb, tcall, sret, sretN, sseq, sif, snx, sdrop, sasg, gn, spar, snever, bend, rdLt, rdLe, rdGt, rdGe, rdSub, rdDiv, rdMod, rdPow, rdI0, rdI, startD, List.map_cons, List.map_nil, List.length_cons, List.length_nil, List.replicate, List.cons_append, List.nil_append, List.append_nil, List.getElem?_cons_zero, List.getElem?_cons_succ, List.set_cons_zero, List.set_cons_succ, Nat.reduceAdd, Nat.reduceSub, Nat.zero_add, tcallK, ro, List.getD_cons_zero, List.getD_cons_succ, true_and, dlstM, rdNe, eqs]
  refine ⟨Nat.zero_le _, fun pf hpf => ?_⟩
  have fin : forD (gtup 2 (gsc (gn 3) (gsc (gn 4) gsn))) (sseq (sasg (tcall sp_whole_of (ac (tv 4) a0)) (gn 5)) (sseq (sif (tor (tbl (to2 rdIs (tv 5) (tk .non))) (tbl (to2 rdLt (tv 5) (tk (.int 0))))) snever snx) (sdrop (tapp (tv 1) (ac (tv 5) a0))))) (enumD 0 (ns.map fun i => D.str (numT i)))
      { bend Q E with nx := sret (tv 1) (bend Q E) } [some (.str (stT ns)), some (.ref pf), some (.lst (ns.map fun i => D.str (numT i))), none, none, none] (mput M pf (.lst [])) := by
    refine steps_loop (ns := ns) (M0 := M) (fun Dn ps1 ps2 p o e hn => ?_) ns [] none none none rfl (fun o1 o2 o3 => ?_)
    · have hp := g p (by rw [e]; simp)
      have ew : whole (numT p) = some p := whole_num hp.2
      have hl1 : ps1.length < 1000 := by
        rw [e, List.length_append, List.length_cons] at hl; omega
      simp only [tv, tk, to2, to1, tbl, tch, tand, tor, tnot, vand, vor, vnot, tif, a0, ac, as_, dtup, dlst, tcb, tcall, sret, sretN, sseq, sif, snx, sdrop, sasg, gn, spar, snever, bend, rdLt, rdLe, rdGt, rdGe, rdSub, rdDiv, rdMod, rdPow, rdI0, rdI, startD, List.map_cons, List.map_nil, List.length_cons, List.length_nil, List.replicate, List.cons_append, List.nil_append, List.append_nil, List.getElem?_cons_zero, List.getElem?_cons_succ, List.set_cons_zero, List.set_cons_succ, Nat.reduceAdd, Nat.reduceSub, Nat.zero_add, tcallK, ro, List.getD_cons_zero, List.getD_cons_succ, true_and]
      refine ⟨numT p, rfl, Nat.le_trans (numT_len (k := 9) (by decide) hp.2) (by decide), ?_⟩
      rw [ew]
      simp only [optD, tv, tk, to2, to1, tbl, tch, tand, tor, tnot, vand, vor, vnot, tif, a0, ac, as_, dtup, dlst, tcb, tcall, sret, sretN, sseq, sif, snx, sdrop, sasg, gn, spar, snever, bend, rdLt, rdLe, rdGt, rdGe, rdSub, rdDiv, rdMod, rdPow, rdI0, rdI, startD, List.map_cons, List.map_nil, List.length_cons, List.length_nil, List.replicate, List.cons_append, List.nil_append, List.append_nil, List.getElem?_cons_zero, List.getElem?_cons_succ, List.set_cons_zero, List.set_cons_succ, Nat.reduceAdd, Nat.reduceSub, Nat.zero_add, tcallK, ro, List.getD_cons_zero, List.getD_cons_succ, true_and, rdIs, isN]
      rw [decide_eq_false (show ¬ p < 0 by omega)]
      simp only [Bool.false_eq_true, if_false, tapp, isL, mput_same, tv, tk, to2, to1, tbl, tch, tand, tor, tnot, vand, vor, vnot, tif, a0, ac, as_, dtup, dlst, tcb, tcall, sret, sretN, sseq, sif, snx, sdrop, sasg, gn, spar, snever, bend, rdLt, rdLe, rdGt, rdGe, rdSub, rdDiv, rdMod, rdPow, rdI0, rdI, startD, List.map_cons, List.map_nil, List.length_cons, List.length_nil, List.replicate, List.cons_append, List.nil_append, List.append_nil, List.getElem?_cons_zero, List.getElem?_cons_succ, List.set_cons_zero, List.set_cons_succ, Nat.reduceAdd, Nat.reduceSub, Nat.zero_add, tcallK, ro, List.getD_cons_zero, List.getD_cons_succ, true_and, true_and]
      refine ⟨by rw [List.length_map]; omega, ?_⟩
      rw [mput_mput]
      rw [List.map_append] at hn
      exact hn
    · simp only [tv, tk, to2, to1, tbl, tch, tand, tor, tnot, vand, vor, vnot, tif, a0, ac, as_, dtup, dlst, tcb, tcall, sret, sretN, sseq, sif, snx, sdrop, sasg, gn, spar, snever, bend, rdLt, rdLe, rdGt, rdGe, rdSub, rdDiv, rdMod, rdPow, rdI0, rdI, startD, List.map_cons, List.map_nil, List.length_cons, List.length_nil, List.replicate, List.cons_append, List.nil_append, List.append_nil, List.getElem?_cons_zero, List.getElem?_cons_succ, List.set_cons_zero, List.set_cons_succ, Nat.reduceAdd, Nat.reduceSub, Nat.zero_add, tcallK, ro, List.getD_cons_zero, List.getD_cons_succ, true_and]
      exact q pf hpf
  by_cases hne : ns = []
  · subst hne
    have e0 : decide (stT [] = Str.ofString "") = true := by decide +kernel
    rw [e0]
    simp only [Bool.not_true, Bool.false_eq_true, if_false, tv, tk, to2, to1, tbl, tch, tand, tor, tnot, vand, vor, vnot, tif, a0, ac, as_, dtup, dlst, tcb, tcall, sret, sretN, sseq, sif, snx, sdrop, sasg, gn, spar, snever, bend, rdLt, rdLe, rdGt, rdGe, rdSub, rdDiv, rdMod, rdPow, rdI0, rdI, startD, List.map_cons, List.map_nil, List.length_cons, List.length_nil, List.replicate, List.cons_append, List.nil_append, List.append_nil, List.getElem?_cons_zero, List.getElem?_cons_succ, List.set_cons_zero, List.set_cons_succ, Nat.reduceAdd, Nat.reduceSub, Nat.zero_add, tcallK, ro, List.getD_cons_zero, List.getD_cons_succ, true_and, sfor, ienum]
    exact ⟨Nat.zero_le _, fin⟩
  · have hne2 : ns.map numT ≠ [] := fun e => hne (List.map_eq_nil_iff.mp e)
    have e0 : decide (stT ns = Str.ofString "") = false := decide_eq_false (join_ne hne2 free fun w hw => by
      obtain ⟨p, _, rfl⟩ := List.mem_map.mp hw
      rw [tl_numT]; exact numZ_ne p)
    have hsp : Txt.split (stT ns) (Str.ofString " ") = ns.map numT := split_ws hne2 free
    rw [e0]
    simp only [Bool.not_false, if_true, tv, tk, to2, to1, tbl, tch, tand, tor, tnot, vand, vor, vnot, tif, a0, ac, as_, dtup, dlst, tcb, tcall, sret, sretN, sseq, sif, snx, sdrop, sasg, gn, spar, snever, bend, rdLt, rdLe, rdGt, rdGe, rdSub, rdDiv, rdMod, rdPow, rdI0, rdI, startD, List.map_cons, List.map_nil, List.length_cons, List.length_nil, List.replicate, List.cons_append, List.nil_append, List.append_nil, List.getElem?_cons_zero, List.getElem?_cons_succ, List.set_cons_zero, List.set_cons_succ, Nat.reduceAdd, Nat.reduceSub, Nat.zero_add, tcallK, ro, List.getD_cons_zero, List.getD_cons_succ, true_and, sfor, ienum, tms, rdSplit, hsp, em]
    refine ⟨⟨by decide, ?_⟩, fin⟩
    have := join_bound len
    rw [List.length_map] at this
    unfold stT
    omega
/-! phases read -/
def sp_read_phases : SpD := spF2 fun r v M Q _ => ∃ t ps fs, r = rowD t ps ∧ v = .str (phT fs) ∧ GoodRow t ps ∧ fs.length = ps.length ∧ (∀ f ∈ fs, GoodF f ∧ f.1.natAbs < 10 ^ 9 ∧ f.2.natAbs < 10 ^ 9) ∧ ∀ p, M p = none → Q (.ref p) (mput M p (.lst (fs.map fracD)))
/-! def read_phases(row, text): slots 0 row, 1 text, 2 found, 3 words, 4 at, 5 word, 6 phase -/
def t_read_phases : TDS :=
    (sseq (sdrop (tcall sp_need_row (ac (tv 0) a0)))
    (sseq (sasg (dlstM a0) (gn 2))
    (sseq (sasg (tms rdSplit (tv 1) (ac (tk (.str " ")) a0)) (gn 3))
    (sseq (sfor (ienum (ac (tv 3) a0)) (gtup 2 (gsc (gn 4) (gsc (gn 5) gsn)))
      (sseq (sasg (tcall sp_fraction_of (ac (tv 5) a0)) (gn 6))
    (sseq (sif (tor (tbl (to2 rdGe (tv 4) (tcb rdLen (ac (to2 rdIx (tv 0) (tk (.int 1))) a0)))) (tbl (to2 rdIs (tv 6) (tk .non))))
      snever
      snx)
    (sdrop (tapp (tv 2) (ac (tv 6) a0))))))
    (sseq (sif (tbl (to2 rdLt (tcb rdLen (ac (tv 2) a0)) (tcb rdLen (ac (to2 rdIx (tv 0) (tk (.int 1))) a0))))
      snever
      snx)
    (sret (tv 2)))))))
theorem phases_loop {tb : TDS} {D0 : DEnds} {x0 x1 x2 x3 : Option D} {pf : Addr} {ns : List (Int × Int)} {M0 : MM}
    (hb : ∀ (Dn : DEnds) (ps1 ps2 : List (Int × Int)) (p : (Int × Int)) (o : Option D), ns = ps1 ++ p :: ps2 → Dn.nx [x0, x1, x2, x3, some (.int (ps1.length : Int)), some (.str (fracT p)), some (fracD p)] (mput M0 pf (.lst ((ps1 ++ [p]).map fracD))) →
      tb Dn [x0, x1, x2, x3, some (.int (ps1.length : Int)), some (.str (fracT p)), o] (mput M0 pf (.lst (ps1.map fracD)))) :
    ∀ (ps2 ps1 : List (Int × Int)) (o1 o2 o3 : Option D), ns = ps1 ++ ps2 → (∀ o1 o2 o3, D0.nx [x0, x1, x2, x3, o1, o2, o3] (mput M0 pf (.lst (ns.map fracD)))) →
      forD (gtup 2 (gsc (gn 4) (gsc (gn 5) gsn))) tb (enumD ps1.length (ps2.map fun i => D.str (fracT i))) D0 [x0, x1, x2, x3, o1, o2, o3] (mput M0 pf (.lst (ps1.map fracD)))
  | [], ps1, o1, o2, o3, e, q => by
    rw [List.append_nil] at e
    subst e
    exact q o1 o2 o3
  | p :: ps2, ps1, o1, o2, o3, e, q => by
    refine ⟨rfl, hb _ ps1 ps2 p o3 e ?_⟩
    have z := phases_loop hb ps2 (ps1 ++ [p]) (some (.int (ps1.length : Int))) (some (.str (fracT p))) (some (fracD p)) (by rw [e, List.append_assoc]; rfl) q
    rw [List.length_append, List.length_singleton] at z
    exact z

theorem sl_len : tl (Str.ofString "/") = [47] := by decide
theorem num_free2 (i : Int) : (47 : Nat) ∉ tl (numT i) := by
  rw [tl_numT]; exact numZ_free (by decide) (by decide)
theorem fracT_free (f : Int × Int) : (32 : Nat) ∉ tl (fracT f) := by
  unfold fracT
  split
  · exact num_free _
  · rw [tl_append, tl_append, List.mem_append, List.mem_append, sl_len]
    rintro ((h | h) | h)
    · exact num_free _ h
    · revert h; decide
    · exact num_free _ h
theorem frac_of_text {f : Int × Int} (g : GoodF f) (h1 : f.1.natAbs < 10 ^ 9) (h2 : f.2.natAbs < 10 ^ 9) : fracOf (fracT f) = some f := by
  unfold fracOf fracT
  by_cases h : f.2 = 1
  · rw [if_pos h, partition_none (s := 47) (S := []) sl_len (num_free2 _)]
    dsimp only
    rw [whole_num h1]
    have e : ¬ Str.empty = Str.ofString "/" := by decide
    simp only [if_neg e, e, false_and, if_false]
    rw [← h]
  · rw [if_neg h, partition_app (s := 47) (S := []) sl_len (num_free2 _)]
    dsimp only
    rw [whole_num h1]
    simp only [if_true, true_and, whole_num h2]
    rw [if_neg]
    have := g.pos
    have := g.red
    omega
theorem rd_read_phases : ∀ ds M Q E, sp_read_phases ds M Q E → t_read_phases (bend Q E) (startD ["row", "text", "found", "words", "at", "word", "phase"] ds) M := rdF2 fun r v M Q E ⟨t, ps, fs, e1, e2, gr, hl, g, q⟩ => by
  subst e1 e2
  unfold t_read_phases
  have z : sizeLine = 16777216 := rfl
  have l5 := gr.l
  have hne2 : fs.map fracT ≠ [] := fun e => by
    have := List.map_eq_nil_iff.mp e
    rw [this] at hl
    exact absurd hl.symm (by have := gr.l.1; show ¬ ps.length = 0; omega)
  have free : ∀ w ∈ fs.map fracT, (32 : Nat) ∉ tl w := fun w hw => by
    obtain ⟨p, _, rfl⟩ := List.mem_map.mp hw
    exact fracT_free p
  have sm : ∀ f ∈ fs, SmallF f := fun f hf => by
    obtain ⟨_, a, b⟩ := g f hf
    exact ⟨Nat.lt_trans a (by decide), Nat.lt_trans b (by decide)⟩
  have len : ∀ w ∈ fs.map fracT, w.length ≤ 83 := fun w hw => by
    obtain ⟨p, hp, rfl⟩ := List.mem_map.mp hw
    exact fracT_len (sm p hp)
  have em : dstrs (fs.map fracT) = fs.map fun i => D.str (fracT i) := by
    show (fs.map fracT).map D.str = _
    rw [List.map_map]; rfl
  have hsp : Txt.split (phT fs) (Str.ofString " ") = fs.map fracT := split_ws hne2 free
  have h1 : atI [D.str t, D.tup (ps.map D.int)] 1 = some (D.tup (ps.map D.int)) := rfl
  simp only [tv, tk, to2, to1, tbl, tch, tand, tor, tnot, vand, vor, vnot, tif, a0, ac, as_, dtup, dlst, tcb, tcall, sret, sretN, sseq, sif, snx, sdrop, sasg, gn, spar, snever, bend, rdLt, rdLe, rdGt, rdGe, rdSub, rdDiv, rdMod, rdPow, rdI0, rdI, startD, List.map_cons, List.map_nil, List.length_cons, List.length_nil, List.replicate, List.cons_append, List.nil_append, List.append_nil, List.getElem?_cons_zero, List.getElem?_cons_succ, List.set_cons_zero, List.set_cons_succ, Nat.reduceAdd, Nat.reduceSub, Nat.zero_add, tcallK, ro, List.getD_cons_zero, List.getD_cons_succ, true_and, dlstM, sfor, ienum, tms, rdSplit, hsp, em]
  refine ⟨t, ps, rfl, gr, Nat.zero_le _, fun pf hpf => ⟨⟨by decide, ?_⟩, ?_⟩⟩
  · have := join_bound len
    rw [List.length_map] at this
    unfold phT
    omega
  · refine phases_loop (ns := fs) (M0 := M) (fun Dn ps1 ps2 p o e hn => ?_) fs [] none none none rfl (fun o1 o2 o3 => ?_)
    · obtain ⟨gp, a, b⟩ := g p (by rw [e]; simp)
      have hl1 : ps1.length + (ps2.length + 1) = ps.length := by
        rw [e, List.length_append, List.length_cons] at hl; exact hl
      simp only [tv, tk, to2, to1, tbl, tch, tand, tor, tnot, vand, vor, vnot, tif, a0, ac, as_, dtup, dlst, tcb, tcall, sret, sretN, sseq, sif, snx, sdrop, sasg, gn, spar, snever, bend, rdLt, rdLe, rdGt, rdGe, rdSub, rdDiv, rdMod, rdPow, rdI0, rdI, startD, List.map_cons, List.map_nil, List.length_cons, List.length_nil, List.replicate, List.cons_append, List.nil_append, List.append_nil, List.getElem?_cons_zero, List.getElem?_cons_succ, List.set_cons_zero, List.set_cons_succ, Nat.reduceAdd, Nat.reduceSub, Nat.zero_add, tcallK, ro, List.getD_cons_zero, List.getD_cons_succ, true_and]
      refine ⟨fracT p, rfl, Nat.le_trans (fracT_len (sm p (by rw [e]; simp))) (by decide), ?_⟩
      rw [frac_of_text gp a b]
      simp only [optF, tv, tk, to2, to1, tbl, tch, tand, tor, tnot, vand, vor, vnot, tif, a0, ac, as_, dtup, dlst, tcb, tcall, sret, sretN, sseq, sif, snx, sdrop, sasg, gn, spar, snever, bend, rdLt, rdLe, rdGt, rdGe, rdSub, rdDiv, rdMod, rdPow, rdI0, rdI, startD, List.map_cons, List.map_nil, List.length_cons, List.length_nil, List.replicate, List.cons_append, List.nil_append, List.append_nil, List.getElem?_cons_zero, List.getElem?_cons_succ, List.set_cons_zero, List.set_cons_succ, Nat.reduceAdd, Nat.reduceSub, Nat.zero_add, tcallK, ro, List.getD_cons_zero, List.getD_cons_succ, true_and, rowD, rdIx, h1, atD, rdLen, List.length_map, rdIs, isN, fracD]
      rw [decide_eq_false (show ¬ ((ps.length : Nat) : Int) ≤ (ps1.length : Int) by omega)]
      simp only [Bool.false_eq_true, if_false, tapp, isL, mput_same, tv, tk, to2, to1, tbl, tch, tand, tor, tnot, vand, vor, vnot, tif, a0, ac, as_, dtup, dlst, tcb, tcall, sret, sretN, sseq, sif, snx, sdrop, sasg, gn, spar, snever, bend, rdLt, rdLe, rdGt, rdGe, rdSub, rdDiv, rdMod, rdPow, rdI0, rdI, startD, List.map_cons, List.map_nil, List.length_cons, List.length_nil, List.replicate, List.cons_append, List.nil_append, List.append_nil, List.getElem?_cons_zero, List.getElem?_cons_succ, List.set_cons_zero, List.set_cons_succ, Nat.reduceAdd, Nat.reduceSub, Nat.zero_add, tcallK, ro, List.getD_cons_zero, List.getD_cons_succ, true_and, true_and]
      refine ⟨by rw [List.length_map]; omega, ?_⟩
      rw [mput_mput]
      rw [List.map_append] at hn
      exact hn
    · simp only [tv, tk, to2, to1, tbl, tch, tand, tor, tnot, vand, vor, vnot, tif, a0, ac, as_, dtup, dlst, tcb, tcall, sret, sretN, sseq, sif, snx, sdrop, sasg, gn, spar, snever, bend, rdLt, rdLe, rdGt, rdGe, rdSub, rdDiv, rdMod, rdPow, rdI0, rdI, startD, List.map_cons, List.map_nil, List.length_cons, List.length_nil, List.replicate, List.cons_append, List.nil_append, List.append_nil, List.getElem?_cons_zero, List.getElem?_cons_succ, List.set_cons_zero, List.set_cons_succ, Nat.reduceAdd, Nat.reduceSub, Nat.zero_add, tcallK, ro, List.getD_cons_zero, List.getD_cons_succ, true_and, rdLen, mput_same, List.length_map, rowD, rdIx, h1, atD]
      rw [decide_eq_false (show ¬ ((fs.length : Nat) : Int) < ((ps.length : Nat) : Int) by omega)]
      simp only [Bool.false_eq_true, if_false]
      exact q pf hpf
end K60

namespace K60
open PySem PySem.Spec L2 DL
open TL
/-! the law's draws -/
def Bag (M : MM) (p : Addr) (n : Nat) : Prop := ∃ a b c : Int, M p = some (.lst [.int a, .int b, .int c]) ∧ 0 ≤ a ∧ 0 ≤ b ∧ b < 2 ^ 60 ∧ 0 ≤ c ∧ c ≤ n
theorem Bag.mle {M M' : MM} {p : Addr} {n : Nat} (h : Bag M p n) (l : MLe M M') : Bag M' p n := by
  obtain ⟨a, b, c, e, r⟩ := h
  exact ⟨a, b, c, l _ _ e, r⟩
theorem Bag.more {M : MM} {p : Addr} {n m : Nat} (h : Bag M p n) (l : n ≤ m) : Bag M p m := by
  obtain ⟨a, b, c, e, r1, r2, r3, r4, r5⟩ := h
  exact ⟨a, b, c, e, r1, r2, r3, r4, by omega⟩
theorem cm {i j : Int} (a b : Nat) (h1 : i.natAbs < 2 ^ a) (h2 : j.natAbs < 2 ^ b) (h : a + b ≤ 1000) : CMulX i j ∧ (i * j).natAbs < 2 ^ (a + b) := by
  have e1 := PyProof.Rows.intBits_le h1
  have e2 := PyProof.Rows.intBits_le h2
  refine ⟨?_, ?_⟩
  · unfold CMulX
    omega
  · rw [Int.natAbs_mul, Nat.pow_add]
    exact Nat.mul_lt_mul'' h1 h2
def sp__law_bag : SpD := spF1 fun c M Q _ => ∃ z, c = .int z ∧ ∀ p M', Bag M' p 0 → Q (.ref p) M'
/-! def _law_bag(cell): slots 0 cell, 1 rest -/
def t__law_bag : TDS :=
    (sseq (sasg (tk (.int 0)) (gn 1))
    (sseq (sif (tbl (to2 rdGe (tv 0) (to2 rdPow (tk (.int 10)) (tk (.int 18)))))
      (sasg (to2 rdSub (tv 0) (to2 rdPow (tk (.int 10)) (tk (.int 18)))) (gn 1))
      snx)
    (sret (dlstM (ac (tv 1) (ac (to2 rdMod (tcb rdInt (ac (tv 0) a0)) (tk (.int 1000000000000000003))) (ac (tk (.int 0)) a0)))))))
theorem rd__law_bag : ∀ ds M Q E, sp__law_bag ds M Q E → t__law_bag (bend Q E) (startD ["cell", "rest"] ds) M := rdF1 fun v M Q E ⟨z, e, q⟩ => by
  subst e
  unfold t__law_bag
  have ep : (10 : Int) ^ (18 : Int).toNat = 1000000000000000000 := by decide
  have cp : CPow 10 18 := ⟨by decide, by decide, by decide⟩
  simp only [tv, tk, to2, to1, tbl, tch, tand, tor, tnot, vand, vor, vnot, tif, a0, ac, as_, dtup, dlst, tcb, tcall, sret, sretN, sseq, sif, snx, sdrop, sasg, gn, spar, snever, bend, rdLt, rdLe, rdGt, rdGe, rdSub, rdDiv, rdMod, rdPow, rdI0, rdI, startD, List.map_cons, List.map_nil, List.length_cons, List.length_nil, List.replicate, List.cons_append, List.nil_append, List.append_nil, List.getElem?_cons_zero, List.getElem?_cons_succ, List.set_cons_zero, List.set_cons_succ, Nat.reduceAdd, Nat.reduceSub, Nat.zero_add, tcallK, ro, List.getD_cons_zero, List.getD_cons_succ, true_and, rdInt, dlstM, ep]
  refine ⟨cp, ?_⟩
  have fin : ∀ r : Int, 0 ≤ r → ∀ p, Q (.ref p) (mput M p (.lst [.int r, .int (z % 1000000000000000003), .int 0])) := fun r hr p =>
    q p _ ⟨_, _, _, mput_same, hr, by omega, by omega, by omega, by omega⟩
  by_cases h : (1000000000000000000 : Int) ≤ z
  · rw [decide_eq_true h]
    simp only [if_true]
    exact ⟨cp, by decide, by decide, fun p _ => fin _ (by omega) p⟩
  · rw [decide_eq_false h]
    simp only [Bool.false_eq_true, if_false]
    exact ⟨by decide, by decide, fun p _ => fin _ (by omega) p⟩
def sp__law_draw : SpD := spF2 fun bag m M Q _ => ∃ p k n, bag = .ref p ∧ m = .int k ∧ 0 < k ∧ k < 2 ^ 64 ∧ Bag M p n ∧ n ≤ 1000000 ∧ ∀ v M', 0 ≤ v → v < k → Bag M' p (n + 1) → Q (.int v) M'
/-! def _law_draw(bag, many): slots 0 bag, 1 many, 2 digit, 3 turn, 4 mixed -/
def t__law_draw : TDS :=
    (sseq (sif (tbl (to2 rdGt (to2 rdIx (tv 0) (tk (.int 0))) (tk (.int 0))))
      (sseq (sasg (to2 rdMod (tcb rdInt (ac (to2 rdIx (tv 0) (tk (.int 0))) a0)) (tv 1)) (gn 2))
    (sseq (sseti (to2 rdDiv (to2 rdIx (tv 0) (tk (.int 0))) (tv 1)) (tv 0) (tk (.int 0)))
    (sret (tv 2))))
      snx)
    (sseq (sseti (to2 rdAdd (to2 rdIx (tv 0) (tk (.int 2))) (tk (.int 1))) (tv 0) (tk (.int 2)))
    (sseq (sasg (to2 rdIx (tv 0) (tk (.int 2))) (gn 3))
    (sseq (sasg (to2 rdAdd (to2 rdMul (to2 rdAdd (to2 rdIx (tv 0) (tk (.int 1))) (tk (.int 7))) (to2 rdAdd (to2 rdAdd (to2 rdMul (to2 rdMul (tk (.int 31)) (tv 3)) (tv 3)) (to2 rdMul (tk (.int 104729)) (tv 3))) (tk (.int 13)))) (to2 rdMul (tk (.int 17)) (tv 3))) (gn 4))
    (sseq (sasg (to2 rdDiv (to2 rdMod (tcb rdInt (ac (to2 rdAdd (to2 rdMul (tv 4) (tv 4)) (to2 rdMul (tk (.int 999983)) (tv 4))) a0)) (tk (.int 1000000000000000009))) (tk (.int 1009))) (gn 4))
    (sret (to2 rdMod (to2 rdDiv (to2 rdMod (tcb rdInt (ac (to2 rdAdd (to2 rdAdd (to2 rdMul (tv 4) (tv 4)) (to2 rdMul (tk (.int 65537)) (tv 4))) (tv 3)) a0)) (tk (.int 2147483629))) (tk (.int 16))) (tv 1))))))))
theorem rd__law_draw : ∀ ds M Q E, sp__law_draw ds M Q E → t__law_draw (bend Q E) (startD ["bag", "many", "digit", "turn", "mixed"] ds) M := rdF2 fun x y M Q E ⟨p, k, n, e1, e2, h0, hk, ⟨a, b, c, e, ha, hb, hb2, hc, hcn⟩, hn, q⟩ => by
  subst e1 e2
  unfold t__law_draw
  have i0 : ∀ x y z : D, atI [x, y, z] 0 = some x := fun _ _ _ => rfl
  have i1 : ∀ x y z : D, atI [x, y, z] 1 = some y := fun _ _ _ => rfl
  have i2 : ∀ x y z : D, atI [x, y, z] 2 = some z := fun _ _ _ => rfl
  have x0 : ixN 3 0 = some 0 := rfl
  have x2 : ixN 3 2 = some 2 := rfl
  have div : ∀ i : Int, CDivW i k := fun i => ⟨h0, by
    have : k.natAbs < 2 ^ 64 := by omega
    by_cases z : k.natAbs = 0
    · rw [z]; decide
    · have := (Nat.log2_lt z).mpr this; omega⟩
  by_cases hp : 0 < a
  · simp only [tv, tk, to2, to1, tbl, tch, tand, tor, tnot, vand, vor, vnot, tif, a0, ac, as_, dtup, dlst, tcb, tcall, sret, sretN, sseq, sif, snx, sdrop, sasg, gn, spar, snever, bend, rdLt, rdLe, rdGt, rdGe, rdSub, rdDiv, rdMod, rdPow, rdI0, rdI, startD, List.map_cons, List.map_nil, List.length_cons, List.length_nil, List.replicate, List.cons_append, List.nil_append, List.append_nil, List.getElem?_cons_zero, List.getElem?_cons_succ, List.set_cons_zero, List.set_cons_succ, Nat.reduceAdd, Nat.reduceSub, Nat.zero_add, tcallK, ro, List.getD_cons_zero, List.getD_cons_succ, true_and, rdIx, e, i0, atD]
    rw [decide_eq_true hp]
    simp only [if_true, sseti, rdIx, e, i0, i1, i2, atD, x0, x2, rdInt, tv, tk, to2, to1, tbl, tch, tand, tor, tnot, vand, vor, vnot, tif, a0, ac, as_, dtup, dlst, tcb, tcall, sret, sretN, sseq, sif, snx, sdrop, sasg, gn, spar, snever, bend, rdLt, rdLe, rdGt, rdGe, rdSub, rdDiv, rdMod, rdPow, rdI0, rdI, startD, List.map_cons, List.map_nil, List.length_cons, List.length_nil, List.replicate, List.cons_append, List.nil_append, List.append_nil, List.getElem?_cons_zero, List.getElem?_cons_succ, List.set_cons_zero, List.set_cons_succ, Nat.reduceAdd, Nat.reduceSub, Nat.zero_add, tcallK, ro, List.getD_cons_zero, List.getD_cons_succ, true_and]
    refine ⟨h0, div _, ?_⟩
    exact q _ _ (Int.emod_nonneg _ (by omega)) (Int.emod_lt_of_pos _ h0) ⟨_, _, _, mput_same, Int.ediv_nonneg ha (by omega), hb, hb2, hc, by omega⟩
  · simp only [tv, tk, to2, to1, tbl, tch, tand, tor, tnot, vand, vor, vnot, tif, a0, ac, as_, dtup, dlst, tcb, tcall, sret, sretN, sseq, sif, snx, sdrop, sasg, gn, spar, snever, bend, rdLt, rdLe, rdGt, rdGe, rdSub, rdDiv, rdMod, rdPow, rdI0, rdI, startD, List.map_cons, List.map_nil, List.length_cons, List.length_nil, List.replicate, List.cons_append, List.nil_append, List.append_nil, List.getElem?_cons_zero, List.getElem?_cons_succ, List.set_cons_zero, List.set_cons_succ, Nat.reduceAdd, Nat.reduceSub, Nat.zero_add, tcallK, ro, List.getD_cons_zero, List.getD_cons_succ, true_and, rdIx, e, i0, atD]
    rw [decide_eq_false hp]
    simp only [Bool.false_eq_true, if_false, sseti, rdIx, e, i0, i1, i2, atD, x0, x2, rdInt, rdAdd, rdMul, tv, tk, to2, to1, tbl, tch, tand, tor, tnot, vand, vor, vnot, tif, a0, ac, as_, dtup, dlst, tcb, tcall, sret, sretN, sseq, sif, snx, sdrop, sasg, gn, spar, snever, bend, rdLt, rdLe, rdGt, rdGe, rdSub, rdDiv, rdMod, rdPow, rdI0, rdI, startD, List.map_cons, List.map_nil, List.length_cons, List.length_nil, List.replicate, List.cons_append, List.nil_append, List.append_nil, List.getElem?_cons_zero, List.getElem?_cons_succ, List.set_cons_zero, List.set_cons_succ, Nat.reduceAdd, Nat.reduceSub, Nat.zero_add, tcallK, ro, List.getD_cons_zero, List.getD_cons_succ, true_and, mput_same]
    obtain ⟨t, ht⟩ : ∃ t, t = c + 1 := ⟨_, rfl⟩
    rw [← ht]
    have t21 : t.natAbs < 2 ^ 21 := by omega
    have b61 : (b + 7).natAbs < 2 ^ 61 := by omega
    obtain ⟨m1, z1⟩ := cm (i := 31) (j := t) 5 21 (by decide) t21 (by decide)
    obtain ⟨m2, z2⟩ := cm (i := 31 * t) (j := t) 26 21 z1 t21 (by decide)
    obtain ⟨m3, z3⟩ := cm (i := 104729) (j := t) 17 21 (by decide) t21 (by decide)
    obtain ⟨m4, z4⟩ := cm (i := 17) (j := t) 5 21 (by decide) t21 (by decide)
    have z5 : (31 * t * t + 104729 * t + 13).natAbs < 2 ^ 48 := by omega
    obtain ⟨m6, z6⟩ := cm (i := b + 7) (j := 31 * t * t + 104729 * t + 13) 61 48 b61 z5 (by decide)
    obtain ⟨x, hx⟩ : ∃ x, x = (b + 7) * (31 * t * t + 104729 * t + 13) + 17 * t := ⟨_, rfl⟩
    have z7 : x.natAbs < 2 ^ 110 := by rw [hx]; omega
    rw [← hx]
    obtain ⟨m8, z8⟩ := cm (i := x) (j := x) 110 110 z7 z7 (by decide)
    obtain ⟨m9, z9⟩ := cm (i := 999983) (j := x) 20 110 (by decide) z7 (by decide)
    obtain ⟨y, hy⟩ : ∃ y, y = (x * x + 999983 * x) % 1000000000000000009 / 1009 := ⟨_, rfl⟩
    have z10 : y.natAbs < 2 ^ 60 := by rw [hy]; omega
    rw [← hy]
    obtain ⟨m11, z11⟩ := cm (i := y) (j := y) 60 60 z10 z10 (by decide)
    obtain ⟨m12, z12⟩ := cm (i := 65537) (j := y) 17 60 (by decide) z10 (by decide)
    refine ⟨m1, m2, m3, m6, m4, m8, m9, by decide, ⟨by decide, by decide⟩, m11, m12, by decide, ⟨by decide, by decide⟩, h0, ?_⟩
    exact q _ _ (Int.emod_nonneg _ (by omega)) (Int.emod_lt_of_pos _ h0) ⟨_, _, _, mput_same, ha, hb, hb2, by omega, by omega⟩
def sp__law_common : SpD := spF2 fun x y M Q _ => ∃ a b : Nat, x = .int (a : Int) ∧ y = .int (b : Int) ∧ Q (.int ((Nat.gcd a b : Nat) : Int)) M
/-! def _law_common(first_here, second): slots 0 first_here, 1 second -/
def t__law_common : TDS :=
    (sseq (swh (tbl (to2 rdGt (tv 1) (tk (.int 0)))) (spar 0 1 (ac (tv 1) (ac (to2 rdMod (tcb rdInt (ac (tv 0) a0)) (tv 1)) a0))))
    (sret (tv 0)))
theorem rd__law_common : ∀ ds M Q E, sp__law_common ds M Q E → t__law_common (bend Q E) (startD ["first_here", "second"] ds) M := rdF2 fun x y M Q E ⟨a, b, e1, e2, q⟩ => by
  subst e1 e2
  unfold t__law_common
  simp only [sseq, swh]
  refine ⟨b + 1, gcd_loop Q E M _ _ _ (fun a b Q' E' q => ?_) (fun a b hb D q => ?_) (b + 1) a b (Nat.lt_succ_self b) ?_⟩
  · simp only [tv, tk, to2, to1, tbl, tch, tand, tor, tnot, vand, vor, vnot, tif, a0, ac, as_, dtup, dlst, tcb, tcall, sret, sretN, sseq, sif, snx, sdrop, sasg, gn, spar, snever, bend, rdLt, rdLe, rdGt, rdGe, rdSub, rdDiv, rdMod, rdPow, rdI0, rdI, startD, List.map_cons, List.map_nil, List.length_cons, List.length_nil, List.replicate, List.cons_append, List.nil_append, List.append_nil, List.getElem?_cons_zero, List.getElem?_cons_succ, List.set_cons_zero, List.set_cons_succ, Nat.reduceAdd, Nat.reduceSub, Nat.zero_add, tcallK, ro, List.getD_cons_zero, List.getD_cons_succ, true_and]
    have e : decide ((0 : Int) < (b : Int)) = decide (0 < b) := by simp
    rw [e]; exact q
  · simp only [tv, tk, to2, to1, tbl, tch, tand, tor, tnot, vand, vor, vnot, tif, a0, ac, as_, dtup, dlst, tcb, tcall, sret, sretN, sseq, sif, snx, sdrop, sasg, gn, spar, snever, bend, rdLt, rdLe, rdGt, rdGe, rdSub, rdDiv, rdMod, rdPow, rdI0, rdI, startD, List.map_cons, List.map_nil, List.length_cons, List.length_nil, List.replicate, List.cons_append, List.nil_append, List.append_nil, List.getElem?_cons_zero, List.getElem?_cons_succ, List.set_cons_zero, List.set_cons_succ, Nat.reduceAdd, Nat.reduceSub, Nat.zero_add, tcallK, ro, List.getD_cons_zero, List.getD_cons_succ, true_and, rdInt]
    refine ⟨by omega, ?_⟩
    exact q
  · simp only [tv, tk, to2, to1, tbl, tch, tand, tor, tnot, vand, vor, vnot, tif, a0, ac, as_, dtup, dlst, tcb, tcall, sret, sretN, sseq, sif, snx, sdrop, sasg, gn, spar, snever, bend, rdLt, rdLe, rdGt, rdGe, rdSub, rdDiv, rdMod, rdPow, rdI0, rdI, startD, List.map_cons, List.map_nil, List.length_cons, List.length_nil, List.replicate, List.cons_append, List.nil_append, List.append_nil, List.getElem?_cons_zero, List.getElem?_cons_succ, List.set_cons_zero, List.set_cons_succ, Nat.reduceAdd, Nat.reduceSub, Nat.zero_add, tcallK, ro, List.getD_cons_zero, List.getD_cons_succ, true_and]
    exact q
def sp__law_tie : SpD := spF1 fun bag M Q _ => ∃ p n, bag = .ref p ∧ Bag M p n ∧ n ≤ 1000000 ∧ ∀ t M', (t = Str.ofString "new" ∨ t = Str.ofString "old") → Bag M' p (n + 1) → Q (.str t) M'
/-! def _law_tie(bag): slots 0 bag -/
def t__law_tie : TDS :=
    (sret (to2 rdIx (dlst (ac (tk (.str "new")) (ac (tk (.str "old")) a0))) (tcall sp__law_draw (ac (tv 0) (ac (tk (.int 2)) a0)))))
theorem rd__law_tie : ∀ ds M Q E, sp__law_tie ds M Q E → t__law_tie (bend Q E) (startD ["bag"] ds) M := rdF1 fun x M Q E ⟨p, n, e1, hB, hn, q⟩ => by
  subst e1
  unfold t__law_tie
  simp only [tv, tk, to2, to1, tbl, tch, tand, tor, tnot, vand, vor, vnot, tif, a0, ac, as_, dtup, dlst, tcb, tcall, sret, sretN, sseq, sif, snx, sdrop, sasg, gn, spar, snever, bend, rdLt, rdLe, rdGt, rdGe, rdSub, rdDiv, rdMod, rdPow, rdI0, rdI, startD, List.map_cons, List.map_nil, List.length_cons, List.length_nil, List.replicate, List.cons_append, List.nil_append, List.append_nil, List.getElem?_cons_zero, List.getElem?_cons_succ, List.set_cons_zero, List.set_cons_succ, Nat.reduceAdd, Nat.reduceSub, Nat.zero_add, tcallK, ro, List.getD_cons_zero, List.getD_cons_succ, true_and]
  refine ⟨by decide, p, 2, n, rfl, rfl, by decide, by decide, hB, hn, fun v M' h0 h1 hB' => ?_⟩
  have : v = 0 ∨ v = 1 := by omega
  rcases this with h | h <;> subst h
  · exact q _ _ (.inl rfl) hB'
  · exact q _ _ (.inr rfl) hB'
theorem of_each {α : Type} {f : α → D} {R : α → Prop} : ∀ ys : List D, (∀ y ∈ ys, ∃ a, y = f a ∧ R a) → ∃ l : List α, ys = l.map f ∧ l.length = ys.length ∧ ∀ a ∈ l, R a
  | [], _ => ⟨[], rfl, rfl, fun _ h => by cases h⟩
  | y :: ys, h => by
    obtain ⟨a, e, r⟩ := h y List.mem_cons_self
    obtain ⟨l, e2, hl, rl⟩ := of_each ys fun z hz => h z (List.mem_cons_of_mem _ hz)
    refine ⟨a :: l, by rw [e, e2, List.map_cons], by rw [List.length_cons, List.length_cons, hl], fun b hb => ?_⟩
    rcases List.mem_cons.mp hb with z | z
    · subst z; exact r
    · exact rl b z
theorem rgD_len {a b : Int} : (rgD a b).length = (b - a).toNat := by unfold rgD; rw [List.length_map, List.length_range]
def sp__law_any_periods : SpD := spF1 fun bag M Q _ => ∃ p n, bag = .ref p ∧ Bag M p n ∧ n ≤ 100000 ∧ ∀ (ps : List Int) M', (2 ≤ ps.length ∧ ps.length ≤ 5) → (∀ i ∈ ps, 1 ≤ i ∧ i ≤ 60) → Bag M' p (n + 6) → Q (.tup (ps.map D.int)) M'
/-! def _law_any_periods(bag): slots 0 bag, 1 k -/
def t__law_any_periods : TDS :=
    (sret (tcb rdTuple (ac (tlc (irng1 (ac (to2 rdAdd (tk (.int 2)) (tcall sp__law_draw (ac (tv 0) (ac (tk (.int 4)) a0)))) a0)) (gn 1) tyes (to2 rdAdd (tk (.int 1)) (tcall sp__law_draw (ac (tv 0) (ac (tk (.int 60)) a0)))) [1]) a0)))
theorem rd__law_any_periods : ∀ ds M Q E, sp__law_any_periods ds M Q E → t__law_any_periods (bend Q E) (startD ["bag", "k"] ds) M := rdF1 fun x M Q E ⟨p, n, e1, hB, hn, q⟩ => by
  subst e1
  unfold t__law_any_periods
  simp only [tv, tk, to2, to1, tbl, tch, tand, tor, tnot, vand, vor, vnot, tif, a0, ac, as_, dtup, dlst, tcb, tcall, sret, sretN, sseq, sif, snx, sdrop, sasg, gn, spar, snever, bend, rdLt, rdLe, rdGt, rdGe, rdSub, rdDiv, rdMod, rdPow, rdI0, rdI, startD, List.map_cons, List.map_nil, List.length_cons, List.length_nil, List.replicate, List.cons_append, List.nil_append, List.append_nil, List.getElem?_cons_zero, List.getElem?_cons_succ, List.set_cons_zero, List.set_cons_succ, Nat.reduceAdd, Nat.reduceSub, Nat.zero_add, tcallK, ro, List.getD_cons_zero, List.getD_cons_succ, true_and, tlc, irng1]
  refine ⟨p, 4, n, rfl, rfl, by decide, by decide, hB, by omega, fun v M' h0 h1 hB' => ?_⟩
  simp only [rdAdd, wipeD]
  refine ⟨by omega, ?_⟩
  refine compD_s 5 (Iv := fun j N => Bag N p (n + 1 + j)) (P := fun y => ∃ i, y = D.int i ∧ 1 ≤ i ∧ i ≤ 60) (rgD 0 (2 + v)) 0 [] M' (fun d _ j N hj hB2 k hk => ?_) (by rw [rgD_len]; show 0 + _ ≤ 16777216; omega) (by rw [rgD_len]; omega) hB' ?_
  · simp only [tv, tk, to2, to1, tbl, tch, tand, tor, tnot, vand, vor, vnot, tif, a0, ac, as_, dtup, dlst, tcb, tcall, sret, sretN, sseq, sif, snx, sdrop, sasg, gn, spar, snever, bend, rdLt, rdLe, rdGt, rdGe, rdSub, rdDiv, rdMod, rdPow, rdI0, rdI, startD, List.map_cons, List.map_nil, List.length_cons, List.length_nil, List.replicate, List.cons_append, List.nil_append, List.append_nil, List.getElem?_cons_zero, List.getElem?_cons_succ, List.set_cons_zero, List.set_cons_succ, Nat.reduceAdd, Nat.reduceSub, Nat.zero_add, tcallK, ro, List.getD_cons_zero, List.getD_cons_succ, true_and, rdAdd]
    refine ⟨p, 60, n + 1 + j, rfl, rfl, by decide, by decide, hB2, by omega, fun v M' h0 h1 hB' => ?_⟩
    exact hk _ _ ⟨_, rfl, by omega, by omega⟩ hB'
  · intro ys N hl hy hB2
    rw [rgD_len] at hl
    obtain ⟨ps, e, hl2, hp⟩ := of_each ys hy
    subst e
    rw [List.nil_append]
    refine q ps N (by omega) hp (hB2.more ?_)
    rw [rgD_len]
    omega
end K60

namespace K60
open PySem PySem.Spec L2 DL
open TL
def sp__law_any_fraction : SpD := spF1 fun bag M Q _ => ∃ p n, bag = .ref p ∧ Bag M p n ∧ n ≤ 100000 ∧ ∀ f M', (GoodF f ∧ f.1.natAbs < 10 ^ 9 ∧ f.2.natAbs < 10 ^ 9) → Bag M' p (n + 6) → Q (fracD f) M'
/-! def _law_any_fraction(bag): slots 0 bag, 1 top, 2 bottom, 3 part -/
def t__law_any_fraction : TDS :=
    (sseq (sasg (to2 rdIx (dlst (ac (to2 rdSub (tcall sp__law_draw (ac (tv 0) (ac (tk (.int 19)) a0))) (tk (.int 9))) (ac (to2 rdAdd (to2 rdSub (tcall sp__law_draw (ac (tv 0) (ac (to2 rdSub (to2 rdMul (tk (.int 2)) (to2 rdPow (tk (.int 10)) (tk (.int 9)))) (tk (.int 1))) a0))) (to2 rdPow (tk (.int 10)) (tk (.int 9)))) (tk (.int 1))) a0))) (tcall sp__law_draw (ac (tv 0) (ac (tk (.int 2)) a0)))) (gn 1))
    (sseq (sasg (to2 rdIx (dlst (ac (tk (.int 1)) (ac (to2 rdAdd (tk (.int 1)) (tcall sp__law_draw (ac (tv 0) (ac (tk (.int 9)) a0)))) (ac (to2 rdAdd (tk (.int 1)) (tcall sp__law_draw (ac (tv 0) (ac (to2 rdSub (to2 rdPow (tk (.int 10)) (tk (.int 9))) (tk (.int 1))) a0)))) a0)))) (tcall sp__law_draw (ac (tv 0) (ac (tk (.int 3)) a0)))) (gn 2))
    (sseq (sasg (tcall sp__law_common (ac (tcb rdAbs (ac (tv 1) a0)) (ac (tv 2) a0))) (gn 3))
    (sret (dtup (ac (to2 rdDiv (tv 1) (tv 3)) (ac (to2 rdDiv (tv 2) (tv 3)) a0)))))))
theorem reduce {t b : Int} (hb : 0 < b) (h1 : t.natAbs < 10 ^ 9) (h2 : b < 10 ^ 9) : GoodF (t / ((Nat.gcd t.natAbs b.natAbs : Nat) : Int), b / ((Nat.gcd t.natAbs b.natAbs : Nat) : Int)) ∧
    (t / ((Nat.gcd t.natAbs b.natAbs : Nat) : Int)).natAbs < 10 ^ 9 ∧ (b / ((Nat.gcd t.natAbs b.natAbs : Nat) : Int)).natAbs < 10 ^ 9 := by
  obtain ⟨g, hg⟩ : ∃ g, g = Nat.gcd t.natAbs b.natAbs := ⟨_, rfl⟩
  have hb0 : 0 < b.natAbs := by omega
  have gp : 0 < g := by rw [hg]; exact Nat.gcd_pos_of_pos_right _ hb0
  obtain ⟨u, hu⟩ : (g : Int) ∣ t := Int.ofNat_dvd_left.mpr (by rw [hg]; exact Nat.gcd_dvd_left _ _)
  obtain ⟨v, hv⟩ : (g : Int) ∣ b := Int.ofNat_dvd_left.mpr (by rw [hg]; exact Nat.gcd_dvd_right _ _)
  have gi : (0 : Int) < (g : Int) := by omega
  rw [← hg]
  have e1 : t / (g : Int) = u := by rw [hu]; exact Int.mul_ediv_cancel_left _ (by omega)
  have e2 : b / (g : Int) = v := by rw [hv]; exact Int.mul_ediv_cancel_left _ (by omega)
  rw [e1, e2]
  have n1 : t.natAbs = g * u.natAbs := by rw [hu, Int.natAbs_mul]; rfl
  have n2 : b.natAbs = g * v.natAbs := by rw [hv, Int.natAbs_mul]; rfl
  have vp : 0 < v := by
    rcases Int.lt_trichotomy v 0 with h | h | h
    · rw [hv] at hb
      have := Int.mul_neg_of_pos_of_neg gi h
      omega
    · subst h; rw [hv] at hb; simp at hb
    · exact h
  refine ⟨⟨vp, ?_⟩, ?_, ?_⟩
  · rw [n1, n2, Nat.gcd_mul_left] at hg
    exact Nat.eq_of_mul_eq_mul_left gp (by rw [Nat.mul_one]; exact hg.symm)
  · have : u.natAbs ≤ t.natAbs := by rw [n1]; exact Nat.le_mul_of_pos_left _ gp
    omega
  · have : v.natAbs ≤ b.natAbs := by rw [n2]; exact Nat.le_mul_of_pos_left _ gp
    omega
theorem rd__law_any_fraction : ∀ ds M Q E, sp__law_any_fraction ds M Q E → t__law_any_fraction (bend Q E) (startD ["bag", "top", "bottom", "part"] ds) M := rdF1 fun x M Q E ⟨p, n, e1, hB, hn, q⟩ => by
  subst e1
  unfold t__law_any_fraction
  have ep : (10 : Int) ^ (9 : Int).toNat = 1000000000 := by decide
  have cp : CPow 10 9 := ⟨by decide, by decide, by decide⟩
  refine seq_step fun K1 hK1 => ?_
  simp only [tv, tk, to2, to1, tbl, tch, tand, tor, tnot, vand, vor, vnot, tif, a0, ac, as_, dtup, dlst, tcb, tcall, sret, sretN, sif, snx, sdrop, sasg, gn, spar, snever, bend, startD, List.map_cons, List.map_nil, List.length_cons, List.length_nil, List.replicate, List.cons_append, List.nil_append, List.append_nil, List.getElem?_cons_zero, List.getElem?_cons_succ, List.set_cons_zero, List.set_cons_succ, Nat.reduceAdd, Nat.reduceSub, Nat.zero_add, tcallK, ro, List.getD_cons_zero, List.getD_cons_succ, true_and, wipeD, Bool.not_true, Bool.not_false, Bool.false_eq_true, if_true, if_false, q_add_i, q_add_s, q_add_l, q_add_t, q_sub, q_mul_i, q_mul_l, q_mul_s, q_div, q_mod, q_pow, q_lt, q_le, q_gt, q_ge, q_eq_i, q_eq_s, q_eq_b, q_ne_i, q_ne_s, q_ne_b, q_eq_l, q_eq_t, q_ne_l, q_ne_t, q_is, q_isnt, isN_int, isN_str, isN_lst, isN_tup, isN_ref, isN_bl, isN_non, q_neg, q_ix_l, q_ix_t, atD_s, at_1_0, at_2_0, at_2_1, at_3_0, at_3_1, at_3_2, at_4_0, at_4_1, at_4_2, at_4_3, q_len_l, q_len_t, q_len_s, q_abs, q_int_i, q_int_b, q_str, q_list_l, q_list_t, q_tuple_l, q_tuple_t, q_repr_l, q_repr_t, ep]
  refine ⟨p, 19, n, rfl, rfl, by decide, by decide, hB, by omega, fun v1 M1 a1 b1 B1 => ?_⟩
  simp only [tv, tk, to2, to1, tbl, tch, tand, tor, tnot, vand, vor, vnot, tif, a0, ac, as_, dtup, dlst, tcb, tcall, sret, sretN, sif, snx, sdrop, sasg, gn, spar, snever, bend, startD, List.map_cons, List.map_nil, List.length_cons, List.length_nil, List.replicate, List.cons_append, List.nil_append, List.append_nil, List.getElem?_cons_zero, List.getElem?_cons_succ, List.set_cons_zero, List.set_cons_succ, Nat.reduceAdd, Nat.reduceSub, Nat.zero_add, tcallK, ro, List.getD_cons_zero, List.getD_cons_succ, true_and, wipeD, Bool.not_true, Bool.not_false, Bool.false_eq_true, if_true, if_false, q_add_i, q_add_s, q_add_l, q_add_t, q_sub, q_mul_i, q_mul_l, q_mul_s, q_div, q_mod, q_pow, q_lt, q_le, q_gt, q_ge, q_eq_i, q_eq_s, q_eq_b, q_ne_i, q_ne_s, q_ne_b, q_eq_l, q_eq_t, q_ne_l, q_ne_t, q_is, q_isnt, isN_int, isN_str, isN_lst, isN_tup, isN_ref, isN_bl, isN_non, q_neg, q_ix_l, q_ix_t, atD_s, at_1_0, at_2_0, at_2_1, at_3_0, at_3_1, at_3_2, at_4_0, at_4_1, at_4_2, at_4_3, q_len_l, q_len_t, q_len_s, q_abs, q_int_i, q_int_b, q_str, q_list_l, q_list_t, q_tuple_l, q_tuple_t, q_repr_l, q_repr_t, ep]
  refine ⟨cp, (cm 2 30 (by decide) (by decide) (by decide)).1, ?_⟩
  refine ⟨p, 1999999999, n + 1, rfl, rfl, by decide, by decide, B1, by omega, fun v2 M2 a2 b2 B2 => ?_⟩
  simp only [tv, tk, to2, to1, tbl, tch, tand, tor, tnot, vand, vor, vnot, tif, a0, ac, as_, dtup, dlst, tcb, tcall, sret, sretN, sif, snx, sdrop, sasg, gn, spar, snever, bend, startD, List.map_cons, List.map_nil, List.length_cons, List.length_nil, List.replicate, List.cons_append, List.nil_append, List.append_nil, List.getElem?_cons_zero, List.getElem?_cons_succ, List.set_cons_zero, List.set_cons_succ, Nat.reduceAdd, Nat.reduceSub, Nat.zero_add, tcallK, ro, List.getD_cons_zero, List.getD_cons_succ, true_and, wipeD, Bool.not_true, Bool.not_false, Bool.false_eq_true, if_true, if_false, q_add_i, q_add_s, q_add_l, q_add_t, q_sub, q_mul_i, q_mul_l, q_mul_s, q_div, q_mod, q_pow, q_lt, q_le, q_gt, q_ge, q_eq_i, q_eq_s, q_eq_b, q_ne_i, q_ne_s, q_ne_b, q_eq_l, q_eq_t, q_ne_l, q_ne_t, q_is, q_isnt, isN_int, isN_str, isN_lst, isN_tup, isN_ref, isN_bl, isN_non, q_neg, q_ix_l, q_ix_t, atD_s, at_1_0, at_2_0, at_2_1, at_3_0, at_3_1, at_3_2, at_4_0, at_4_1, at_4_2, at_4_3, q_len_l, q_len_t, q_len_s, q_abs, q_int_i, q_int_b, q_str, q_list_l, q_list_t, q_tuple_l, q_tuple_t, q_repr_l, q_repr_t, ep]
  refine ⟨cp, by decide, ?_⟩
  refine ⟨p, 2, n + 2, rfl, rfl, by decide, by decide, B2, by omega, fun v3 M3 a3 b3 B3 => ?_⟩
  have top : ∃ t : Int, t.natAbs < 10 ^ 9 ∧ atI [D.int (v1 - 9), D.int (v2 - 1000000000 + 1)] v3 = some (D.int t) := by
    have : v3 = 0 ∨ v3 = 1 := by omega
    rcases this with h | h <;> subst h
    · exact ⟨_, by omega, rfl⟩
    · exact ⟨_, by omega, rfl⟩
  obtain ⟨t, ht, et⟩ := top
  simp only [tv, tk, to2, to1, tbl, tch, tand, tor, tnot, vand, vor, vnot, tif, a0, ac, as_, dtup, dlst, tcb, tcall, sret, sretN, sif, snx, sdrop, sasg, gn, spar, snever, bend, startD, List.map_cons, List.map_nil, List.length_cons, List.length_nil, List.replicate, List.cons_append, List.nil_append, List.append_nil, List.getElem?_cons_zero, List.getElem?_cons_succ, List.set_cons_zero, List.set_cons_succ, Nat.reduceAdd, Nat.reduceSub, Nat.zero_add, tcallK, ro, List.getD_cons_zero, List.getD_cons_succ, true_and, wipeD, Bool.not_true, Bool.not_false, Bool.false_eq_true, if_true, if_false, q_add_i, q_add_s, q_add_l, q_add_t, q_sub, q_mul_i, q_mul_l, q_mul_s, q_div, q_mod, q_pow, q_lt, q_le, q_gt, q_ge, q_eq_i, q_eq_s, q_eq_b, q_ne_i, q_ne_s, q_ne_b, q_eq_l, q_eq_t, q_ne_l, q_ne_t, q_is, q_isnt, isN_int, isN_str, isN_lst, isN_tup, isN_ref, isN_bl, isN_non, q_neg, q_ix_l, q_ix_t, atD_s, at_1_0, at_2_0, at_2_1, at_3_0, at_3_1, at_3_2, at_4_0, at_4_1, at_4_2, at_4_3, q_len_l, q_len_t, q_len_s, q_abs, q_int_i, q_int_b, q_str, q_list_l, q_list_t, q_tuple_l, q_tuple_t, q_repr_l, q_repr_t, et]
  subst hK1
  refine seq_step fun K2 hK2 => ?_
  simp only [tv, tk, to2, to1, tbl, tch, tand, tor, tnot, vand, vor, vnot, tif, a0, ac, as_, dtup, dlst, tcb, tcall, sret, sretN, sif, snx, sdrop, sasg, gn, spar, snever, bend, startD, List.map_cons, List.map_nil, List.length_cons, List.length_nil, List.replicate, List.cons_append, List.nil_append, List.append_nil, List.getElem?_cons_zero, List.getElem?_cons_succ, List.set_cons_zero, List.set_cons_succ, Nat.reduceAdd, Nat.reduceSub, Nat.zero_add, tcallK, ro, List.getD_cons_zero, List.getD_cons_succ, true_and, wipeD, Bool.not_true, Bool.not_false, Bool.false_eq_true, if_true, if_false, q_add_i, q_add_s, q_add_l, q_add_t, q_sub, q_mul_i, q_mul_l, q_mul_s, q_div, q_mod, q_pow, q_lt, q_le, q_gt, q_ge, q_eq_i, q_eq_s, q_eq_b, q_ne_i, q_ne_s, q_ne_b, q_eq_l, q_eq_t, q_ne_l, q_ne_t, q_is, q_isnt, isN_int, isN_str, isN_lst, isN_tup, isN_ref, isN_bl, isN_non, q_neg, q_ix_l, q_ix_t, atD_s, at_1_0, at_2_0, at_2_1, at_3_0, at_3_1, at_3_2, at_4_0, at_4_1, at_4_2, at_4_3, q_len_l, q_len_t, q_len_s, q_abs, q_int_i, q_int_b, q_str, q_list_l, q_list_t, q_tuple_l, q_tuple_t, q_repr_l, q_repr_t, ep]
  refine ⟨p, 9, n + 3, rfl, rfl, by decide, by decide, B3, by omega, fun v4 M4 a4 b4 B4 => ?_⟩
  simp only [tv, tk, to2, to1, tbl, tch, tand, tor, tnot, vand, vor, vnot, tif, a0, ac, as_, dtup, dlst, tcb, tcall, sret, sretN, sif, snx, sdrop, sasg, gn, spar, snever, bend, startD, List.map_cons, List.map_nil, List.length_cons, List.length_nil, List.replicate, List.cons_append, List.nil_append, List.append_nil, List.getElem?_cons_zero, List.getElem?_cons_succ, List.set_cons_zero, List.set_cons_succ, Nat.reduceAdd, Nat.reduceSub, Nat.zero_add, tcallK, ro, List.getD_cons_zero, List.getD_cons_succ, true_and, wipeD, Bool.not_true, Bool.not_false, Bool.false_eq_true, if_true, if_false, q_add_i, q_add_s, q_add_l, q_add_t, q_sub, q_mul_i, q_mul_l, q_mul_s, q_div, q_mod, q_pow, q_lt, q_le, q_gt, q_ge, q_eq_i, q_eq_s, q_eq_b, q_ne_i, q_ne_s, q_ne_b, q_eq_l, q_eq_t, q_ne_l, q_ne_t, q_is, q_isnt, isN_int, isN_str, isN_lst, isN_tup, isN_ref, isN_bl, isN_non, q_neg, q_ix_l, q_ix_t, atD_s, at_1_0, at_2_0, at_2_1, at_3_0, at_3_1, at_3_2, at_4_0, at_4_1, at_4_2, at_4_3, q_len_l, q_len_t, q_len_s, q_abs, q_int_i, q_int_b, q_str, q_list_l, q_list_t, q_tuple_l, q_tuple_t, q_repr_l, q_repr_t, ep]
  refine ⟨cp, ?_⟩
  refine ⟨p, 999999999, n + 4, rfl, rfl, by decide, by decide, B4, by omega, fun v5 M5 a5 b5 B5 => ?_⟩
  simp only [tv, tk, to2, to1, tbl, tch, tand, tor, tnot, vand, vor, vnot, tif, a0, ac, as_, dtup, dlst, tcb, tcall, sret, sretN, sif, snx, sdrop, sasg, gn, spar, snever, bend, startD, List.map_cons, List.map_nil, List.length_cons, List.length_nil, List.replicate, List.cons_append, List.nil_append, List.append_nil, List.getElem?_cons_zero, List.getElem?_cons_succ, List.set_cons_zero, List.set_cons_succ, Nat.reduceAdd, Nat.reduceSub, Nat.zero_add, tcallK, ro, List.getD_cons_zero, List.getD_cons_succ, true_and, wipeD, Bool.not_true, Bool.not_false, Bool.false_eq_true, if_true, if_false, q_add_i, q_add_s, q_add_l, q_add_t, q_sub, q_mul_i, q_mul_l, q_mul_s, q_div, q_mod, q_pow, q_lt, q_le, q_gt, q_ge, q_eq_i, q_eq_s, q_eq_b, q_ne_i, q_ne_s, q_ne_b, q_eq_l, q_eq_t, q_ne_l, q_ne_t, q_is, q_isnt, isN_int, isN_str, isN_lst, isN_tup, isN_ref, isN_bl, isN_non, q_neg, q_ix_l, q_ix_t, atD_s, at_1_0, at_2_0, at_2_1, at_3_0, at_3_1, at_3_2, at_4_0, at_4_1, at_4_2, at_4_3, q_len_l, q_len_t, q_len_s, q_abs, q_int_i, q_int_b, q_str, q_list_l, q_list_t, q_tuple_l, q_tuple_t, q_repr_l, q_repr_t, ep]
  refine ⟨by decide, ?_⟩
  refine ⟨p, 3, n + 5, rfl, rfl, by decide, by decide, B5, by omega, fun v6 M6 a6 b6 B6 => ?_⟩
  have bot : ∃ b : Int, 0 < b ∧ b < 10 ^ 9 ∧ atI [D.int 1, D.int (1 + v4), D.int (1 + v5)] v6 = some (D.int b) := by
    have : v6 = 0 ∨ v6 = 1 ∨ v6 = 2 := by omega
    rcases this with h | h | h <;> subst h
    · exact ⟨_, by omega, by omega, rfl⟩
    · exact ⟨_, by omega, by omega, rfl⟩
    · exact ⟨_, by omega, by omega, rfl⟩
  obtain ⟨b, hb, hb9, eb⟩ := bot
  simp only [tv, tk, to2, to1, tbl, tch, tand, tor, tnot, vand, vor, vnot, tif, a0, ac, as_, dtup, dlst, tcb, tcall, sret, sretN, sif, snx, sdrop, sasg, gn, spar, snever, bend, startD, List.map_cons, List.map_nil, List.length_cons, List.length_nil, List.replicate, List.cons_append, List.nil_append, List.append_nil, List.getElem?_cons_zero, List.getElem?_cons_succ, List.set_cons_zero, List.set_cons_succ, Nat.reduceAdd, Nat.reduceSub, Nat.zero_add, tcallK, ro, List.getD_cons_zero, List.getD_cons_succ, true_and, wipeD, Bool.not_true, Bool.not_false, Bool.false_eq_true, if_true, if_false, q_add_i, q_add_s, q_add_l, q_add_t, q_sub, q_mul_i, q_mul_l, q_mul_s, q_div, q_mod, q_pow, q_lt, q_le, q_gt, q_ge, q_eq_i, q_eq_s, q_eq_b, q_ne_i, q_ne_s, q_ne_b, q_eq_l, q_eq_t, q_ne_l, q_ne_t, q_is, q_isnt, isN_int, isN_str, isN_lst, isN_tup, isN_ref, isN_bl, isN_non, q_neg, q_ix_l, q_ix_t, atD_s, at_1_0, at_2_0, at_2_1, at_3_0, at_3_1, at_3_2, at_4_0, at_4_1, at_4_2, at_4_3, q_len_l, q_len_t, q_len_s, q_abs, q_int_i, q_int_b, q_str, q_list_l, q_list_t, q_tuple_l, q_tuple_t, q_repr_l, q_repr_t, eb]
  subst hK2
  refine seq_step fun K3 hK3 => ?_
  simp only [tv, tk, to2, to1, tbl, tch, tand, tor, tnot, vand, vor, vnot, tif, a0, ac, as_, dtup, dlst, tcb, tcall, sret, sretN, sif, snx, sdrop, sasg, gn, spar, snever, bend, startD, List.map_cons, List.map_nil, List.length_cons, List.length_nil, List.replicate, List.cons_append, List.nil_append, List.append_nil, List.getElem?_cons_zero, List.getElem?_cons_succ, List.set_cons_zero, List.set_cons_succ, Nat.reduceAdd, Nat.reduceSub, Nat.zero_add, tcallK, ro, List.getD_cons_zero, List.getD_cons_succ, true_and, wipeD, Bool.not_true, Bool.not_false, Bool.false_eq_true, if_true, if_false, q_add_i, q_add_s, q_add_l, q_add_t, q_sub, q_mul_i, q_mul_l, q_mul_s, q_div, q_mod, q_pow, q_lt, q_le, q_gt, q_ge, q_eq_i, q_eq_s, q_eq_b, q_ne_i, q_ne_s, q_ne_b, q_eq_l, q_eq_t, q_ne_l, q_ne_t, q_is, q_isnt, isN_int, isN_str, isN_lst, isN_tup, isN_ref, isN_bl, isN_non, q_neg, q_ix_l, q_ix_t, atD_s, at_1_0, at_2_0, at_2_1, at_3_0, at_3_1, at_3_2, at_4_0, at_4_1, at_4_2, at_4_3, q_len_l, q_len_t, q_len_s, q_abs, q_int_i, q_int_b, q_str, q_list_l, q_list_t, q_tuple_l, q_tuple_t, q_repr_l, q_repr_t, abs_nat]
  refine ⟨t.natAbs, b.natAbs, rfl, by congr 1; omega, ?_⟩
  simp only [tv, tk, to2, to1, tbl, tch, tand, tor, tnot, vand, vor, vnot, tif, a0, ac, as_, dtup, dlst, tcb, tcall, sret, sretN, sif, snx, sdrop, sasg, gn, spar, snever, bend, startD, List.map_cons, List.map_nil, List.length_cons, List.length_nil, List.replicate, List.cons_append, List.nil_append, List.append_nil, List.getElem?_cons_zero, List.getElem?_cons_succ, List.set_cons_zero, List.set_cons_succ, Nat.reduceAdd, Nat.reduceSub, Nat.zero_add, tcallK, ro, List.getD_cons_zero, List.getD_cons_succ, true_and, wipeD, Bool.not_true, Bool.not_false, Bool.false_eq_true, if_true, if_false, q_add_i, q_add_s, q_add_l, q_add_t, q_sub, q_mul_i, q_mul_l, q_mul_s, q_div, q_mod, q_pow, q_lt, q_le, q_gt, q_ge, q_eq_i, q_eq_s, q_eq_b, q_ne_i, q_ne_s, q_ne_b, q_eq_l, q_eq_t, q_ne_l, q_ne_t, q_is, q_isnt, isN_int, isN_str, isN_lst, isN_tup, isN_ref, isN_bl, isN_non, q_neg, q_ix_l, q_ix_t, atD_s, at_1_0, at_2_0, at_2_1, at_3_0, at_3_1, at_3_2, at_4_0, at_4_1, at_4_2, at_4_3, q_len_l, q_len_t, q_len_s, q_abs, q_int_i, q_int_b, q_str, q_list_l, q_list_t, q_tuple_l, q_tuple_t, q_repr_l, q_repr_t]
  subst hK3
  simp only [tv, tk, to2, to1, tbl, tch, tand, tor, tnot, vand, vor, vnot, tif, a0, ac, as_, dtup, dlst, tcb, tcall, sret, sretN, sif, snx, sdrop, sasg, gn, spar, snever, bend, startD, List.map_cons, List.map_nil, List.length_cons, List.length_nil, List.replicate, List.cons_append, List.nil_append, List.append_nil, List.getElem?_cons_zero, List.getElem?_cons_succ, List.set_cons_zero, List.set_cons_succ, Nat.reduceAdd, Nat.reduceSub, Nat.zero_add, tcallK, ro, List.getD_cons_zero, List.getD_cons_succ, true_and, wipeD, Bool.not_true, Bool.not_false, Bool.false_eq_true, if_true, if_false, q_add_i, q_add_s, q_add_l, q_add_t, q_sub, q_mul_i, q_mul_l, q_mul_s, q_div, q_mod, q_pow, q_lt, q_le, q_gt, q_ge, q_eq_i, q_eq_s, q_eq_b, q_ne_i, q_ne_s, q_ne_b, q_eq_l, q_eq_t, q_ne_l, q_ne_t, q_is, q_isnt, isN_int, isN_str, isN_lst, isN_tup, isN_ref, isN_bl, isN_non, q_neg, q_ix_l, q_ix_t, atD_s, at_1_0, at_2_0, at_2_1, at_3_0, at_3_1, at_3_2, at_4_0, at_4_1, at_4_2, at_4_3, q_len_l, q_len_t, q_len_s, q_abs, q_int_i, q_int_b, q_str, q_list_l, q_list_t, q_tuple_l, q_tuple_t, q_repr_l, q_repr_t]
  have hb0 : 0 < b.natAbs := by omega
  have gp : 0 < Nat.gcd t.natAbs b.natAbs := Nat.gcd_pos_of_pos_right _ hb0
  have gle : Nat.gcd t.natAbs b.natAbs ≤ b.natAbs := Nat.gcd_le_right _ hb0
  have dv : ∀ i : Int, CDivW i ((Nat.gcd t.natAbs b.natAbs : Nat) : Int) := fun i => ⟨by omega, by
    rw [Int.natAbs_natCast]
    have := (Nat.log2_lt (n := Nat.gcd t.natAbs b.natAbs) (k := 40) (by omega)).mpr (by omega)
    omega⟩
  refine ⟨dv _, dv _, by decide, ?_⟩
  exact q _ _ (reduce hb ht hb9) B6
def sp__law_word : SpD := spF1 fun v M Q _ => ∃ f, v = fracD f ∧ SmallF f ∧ Q (.str (fracT f)) M
/-! def _law_word(pair): slots 0 pair -/
def t__law_word : TDS :=
    (sret (tif (tbl (to2 rdEq (to2 rdIx (tv 0) (tk (.int 1))) (tk (.int 1)))) (tcb rdStr (ac (to2 rdIx (tv 0) (tk (.int 0))) a0)) (to2 rdAdd (to2 rdAdd (tcb rdStr (ac (to2 rdIx (tv 0) (tk (.int 0))) a0)) (tk (.str "/"))) (tcb rdStr (ac (to2 rdIx (tv 0) (tk (.int 1))) a0)))))
theorem rd__law_word : ∀ ds M Q E, sp__law_word ds M Q E → t__law_word (bend Q E) (startD ["pair"] ds) M := rdF1 fun v M Q E ⟨f, e, g, q⟩ => by
  subst e
  unfold t__law_word fracD
  have h0 : atI [D.int f.1, D.int f.2] 0 = some (D.int f.1) := rfl
  have h1 : atI [D.int f.1, D.int f.2] 1 = some (D.int f.2) := rfl
  have eqi : ∀ a b : Int, eqS (.int a) (.int b) = some (decide (a = b)) := fun _ _ => rfl
  simp only [tv, tk, to2, to1, tbl, tch, tand, tor, tnot, vand, vor, vnot, tif, a0, ac, as_, dtup, dlst, tcb, tcall, sret, sretN, sseq, sif, snx, sdrop, sasg, gn, spar, snever, bend, rdLt, rdLe, rdGt, rdGe, rdSub, rdDiv, rdMod, rdPow, rdI0, rdI, startD, List.map_cons, List.map_nil, List.length_cons, List.length_nil, List.replicate, List.cons_append, List.nil_append, List.append_nil, List.getElem?_cons_zero, List.getElem?_cons_succ, List.set_cons_zero, List.set_cons_succ, Nat.reduceAdd, Nat.reduceSub, Nat.zero_add, tcallK, ro, List.getD_cons_zero, List.getD_cons_succ, true_and, rdEq, rdIx, h0, h1, atD, eqi]
  unfold fracT at q
  have b1 : (Str.ofString (toString f.1)).length ≤ 41 := numT_len (by decide) g.a
  have b2 : (Str.ofString (toString f.2)).length ≤ 41 := numT_len (by decide) g.b
  by_cases h : f.2 = 1
  · rw [decide_eq_true h]
    rw [if_pos h] at q
    simp only [if_true, rdStr]
    exact ⟨log2_10 g.a (by decide), q⟩
  · rw [decide_eq_false h]
    rw [if_neg h] at q
    simp only [Bool.false_eq_true, if_false, rdStr, rdAdd]
    have bs : (Str.ofString "/").length = 1 := rfl
    have z : sizeLine = 16777216 := rfl
    refine ⟨log2_10 g.a (by decide), by omega, log2_10 g.b (by decide), by rw [strLen_append]; omega, q⟩
/-! the law's parts -/
theorem num_code {i : Int} {c : Nat} (h : c ∈ tl (numT i)) : c < 1114112 := by
  rw [tl_numT] at h
  rcases numZ_signs h with e | e <;> omega
theorem join_code {ws : List Str} (h : ∀ w ∈ ws, ∀ c ∈ tl w, c < 1114112) : ∀ c ∈ tl (Txt.join (Str.ofString " ") ws), c < 1114112 := fun c hc => by
  rcases join_tl hc with ⟨w, hw, hc⟩ | hc
  · exact h w hw c hc
  · rw [sp_len] at hc
    rcases List.mem_singleton.mp hc
    decide
theorem tie_code {t : Str} {ps : List Int} (g : GoodRow t ps) {c : Nat} (h : c ∈ tl t) : c < 1114112 := by
  rcases g.t with e | e <;> subst e
  · have : ∀ c ∈ tl (Str.ofString "new"), c < 1114112 := by decide
    exact this c h
  · have : ∀ c ∈ tl (Str.ofString "old"), c < 1114112 := by decide
    exact this c h
theorem rowT_code {t : Str} {ps : List Int} (g : GoodRow t ps) : ∀ c ∈ tl (rowT t ps), c < 1114112 := join_code fun w hw c hc => by
  rcases List.mem_cons.mp hw with e | e
  · subst e; exact tie_code g hc
  · obtain ⟨p, _, rfl⟩ := List.mem_map.mp e
    exact num_code hc
theorem fracT_code {f : Int × Int} {c : Nat} (h : c ∈ tl (fracT f)) : c < 1114112 := by
  unfold fracT at h
  split at h
  · exact num_code h
  · rw [tl_append, tl_append, List.mem_append, List.mem_append, sl_len] at h
    rcases h with (h | h) | h
    · exact num_code h
    · rcases List.mem_singleton.mp h
      decide
    · exact num_code h
theorem nice2 {x : Str} (h : ∀ c ∈ tl x, c < 1114112) : D.nice 16 (.lst [.str x, .str x]) = true := eqv_same fun y hy => by
  rcases List.mem_cons.mp hy with e | e
  · subst e; exact nice_str h
  · rcases List.mem_singleton.mp e; exact nice_str h
theorem shw_row {n : Nat} {t : Str} {ps : List Int} (g : GoodRow t ps) : D.shw (n + 2) (rowD t ps) = true := shw_tup fun d hd => by
  rcases List.mem_cons.mp hd with e | e
  · subst e; rfl
  · rcases List.mem_singleton.mp e
    exact shw_tup fun d hd => by
      obtain ⟨p, hp, rfl⟩ := List.mem_map.mp hd
      exact shw_int (k := 2) (by have := g.p p hp; omega) (by decide)
theorem shown_row {t : Str} {ps : List Int} (g : GoodRow t ps) : (rowD t ps).shown.length ≤ 100 := by
  have h1 : (D.tup (ps.map D.int)).shown.length ≤ 30 := by
    have := shown_tup (ds := ps.map D.int) (B := 3) fun d hd => by
      obtain ⟨p, hp, rfl⟩ := List.mem_map.mp hd
      exact shown_int (k := 2) (by decide) (by have := g.p p hp; omega)
    rw [List.length_map] at this
    have := g.l.2
    omega
  have h2 : (D.str t).shown.length ≤ 30 := by
    rcases g.t with e | e <;> subst e <;> decide +kernel
  have := shown_tup (ds := [.str t, .tup (ps.map D.int)]) (B := 30) fun d hd => by
    rcases List.mem_cons.mp hd with e | e
    · subst e; exact h2
    · rcases List.mem_singleton.mp e; exact h1
  unfold rowD
  simp only [List.length_cons, List.length_nil] at this
  omega
theorem shw2 {n : Nat} {d : D} (h : D.shw n d = true) : D.shw (n + 1) (.lst [d, d]) = true := shw_lst fun x hx => by
  rcases List.mem_cons.mp hx with e | e
  · subst e; exact h
  · rcases List.mem_singleton.mp e; exact h
theorem shown2 {d : D} {B : Nat} (h : d.shown.length ≤ B) : (D.lst [d, d]).shown.length ≤ 2 * B + 7 := by
  have := shown_lst (ds := [d, d]) (B := B) fun x hx => by
    rcases List.mem_cons.mp hx with e | e
    · subst e; exact h
    · rcases List.mem_singleton.mp e; exact h
  simp only [List.length_cons, List.length_nil] at this
  omega
def sp__law_rows_right : SpD := spF1 fun v M Q _ => ∃ t ps, v = rowD t ps ∧ GoodRow t ps ∧ ∀ M', MLe M M' → Q (.bl true) M'
/-! def _law_rows_right(here): slots 0 here, 1 told, 2 span -/
def t__law_rows_right : TDS :=
    (sseq (sasg (tms rdJoin (tk (.str " ")) (ac (to2 rdAdd (dlst (ac (to2 rdIx (tv 0) (tk (.int 0))) a0)) (tlc (itup (to2 rdIx (tv 0) (tk (.int 1)))) (gn 2) tyes (tcb rdStr (ac (tv 2) a0)) [2])) a0)) (gn 1))
    (sseq (sif (tbl (to2 rdNe (dlst (ac (tcall sp_write_row (ac (tv 0) a0)) (ac (tcallK 0 1 sp_write_row [0] a0 (ac (tv 0) a0)) a0))) (dlst (ac (tv 1) (ac (tv 1) a0)))))
      (sret (tk (.bl false)))
      snx)
    (sret (to2 rdEq (tcb rdRepr (ac (dlst (ac (tcall sp_read_row (ac (tv 1) a0)) (ac (tcallK 0 1 sp_read_row [0] a0 (ac (tv 1) a0)) a0))) a0)) (tcb rdRepr (ac (dlst (ac (tv 0) (ac (tv 0) a0))) a0))))))
theorem rd__law_rows_right : ∀ ds M Q E, sp__law_rows_right ds M Q E → t__law_rows_right (bend Q E) (startD ["here", "told", "span"] ds) M := rdF1 fun v M Q E ⟨t, ps, e, g, q⟩ => by
  subst e
  unfold t__law_rows_right
  have z : sizeLine = 16777216 := rfl
  have small : ∀ p ∈ ps, p.natAbs < 10 ^ 2 := fun p hp => by have := g.p p hp; omega
  refine seq_step fun K1 hK1 => ?_
  simp only [rowD, tms, tlc, itup, tv, tk, to2, to1, tbl, tch, tand, tor, tnot, vand, vor, vnot, tif, a0, ac, as_, dtup, dlst, tcb, tcall, sret, sretN, sif, snx, sdrop, sasg, gn, spar, snever, bend, startD, List.map_cons, List.map_nil, List.length_cons, List.length_nil, List.replicate, List.cons_append, List.nil_append, List.append_nil, List.getElem?_cons_zero, List.getElem?_cons_succ, List.set_cons_zero, List.set_cons_succ, Nat.reduceAdd, Nat.reduceSub, Nat.zero_add, tcallK, ro, List.getD_cons_zero, List.getD_cons_succ, true_and, wipeD, Bool.not_true, Bool.not_false, Bool.false_eq_true, if_true, if_false, q_add_i, q_add_s, q_add_l, q_add_t, q_sub, q_mul_i, q_mul_l, q_mul_s, q_div, q_mod, q_pow, q_lt, q_le, q_gt, q_ge, q_eq_i, q_eq_s, q_eq_b, q_ne_i, q_ne_s, q_ne_b, q_eq_l, q_eq_t, q_ne_l, q_ne_t, q_is, q_isnt, isN_int, isN_str, isN_lst, isN_tup, isN_ref, isN_bl, isN_non, q_neg, q_ix_l, q_ix_t, atD_s, at_1_0, at_2_0, at_2_1, at_3_0, at_3_1, at_3_2, at_4_0, at_4_1, at_4_2, at_4_3, q_len_l, q_len_t, q_len_s, q_abs, q_int_i, q_int_b, q_str, q_list_l, q_list_t, q_tuple_l, q_tuple_t, q_repr_l, q_repr_t]
  refine ⟨by decide, ?_⟩
  refine compD_n (f := D.int) (r := fun i => D.str (numT i)) ps [] (fun p hp k hk => ?_) (by rw [List.length_nil, Nat.zero_add]; exact g.sz) ?_
  · simp only [tv, tk, to2, to1, tbl, tch, tand, tor, tnot, vand, vor, vnot, tif, a0, ac, as_, dtup, dlst, tcb, tcall, sret, sretN, sif, snx, sdrop, sasg, gn, spar, snever, bend, startD, List.map_cons, List.map_nil, List.length_cons, List.length_nil, List.replicate, List.cons_append, List.nil_append, List.append_nil, List.getElem?_cons_zero, List.getElem?_cons_succ, List.set_cons_zero, List.set_cons_succ, Nat.reduceAdd, Nat.reduceSub, Nat.zero_add, tcallK, ro, List.getD_cons_zero, List.getD_cons_succ, true_and, wipeD, Bool.not_true, Bool.not_false, Bool.false_eq_true, if_true, if_false, q_add_i, q_add_s, q_add_l, q_add_t, q_sub, q_mul_i, q_mul_l, q_mul_s, q_div, q_mod, q_pow, q_lt, q_le, q_gt, q_ge, q_eq_i, q_eq_s, q_eq_b, q_ne_i, q_ne_s, q_ne_b, q_eq_l, q_eq_t, q_ne_l, q_ne_t, q_is, q_isnt, isN_int, isN_str, isN_lst, isN_tup, isN_ref, isN_bl, isN_non, q_neg, q_ix_l, q_ix_t, atD_s, at_1_0, at_2_0, at_2_1, at_3_0, at_3_1, at_3_2, at_4_0, at_4_1, at_4_2, at_4_3, q_len_l, q_len_t, q_len_s, q_abs, q_int_i, q_int_b, q_str, q_list_l, q_list_t, q_tuple_l, q_tuple_t, q_repr_l, q_repr_t]
    exact ⟨log2_10 (small p hp) (by decide), hk⟩
  have l5 := g.l.2
  simp only [tv, tk, to2, to1, tbl, tch, tand, tor, tnot, vand, vor, vnot, tif, a0, ac, as_, dtup, dlst, tcb, tcall, sret, sretN, sif, snx, sdrop, sasg, gn, spar, snever, bend, startD, List.map_cons, List.map_nil, List.length_cons, List.length_nil, List.replicate, List.cons_append, List.nil_append, List.append_nil, List.getElem?_cons_zero, List.getElem?_cons_succ, List.set_cons_zero, List.set_cons_succ, Nat.reduceAdd, Nat.reduceSub, Nat.zero_add, tcallK, ro, List.getD_cons_zero, List.getD_cons_succ, true_and, wipeD, Bool.not_true, Bool.not_false, Bool.false_eq_true, if_true, if_false, q_add_i, q_add_s, q_add_l, q_add_t, q_sub, q_mul_i, q_mul_l, q_mul_s, q_div, q_mod, q_pow, q_lt, q_le, q_gt, q_ge, q_eq_i, q_eq_s, q_eq_b, q_ne_i, q_ne_s, q_ne_b, q_eq_l, q_eq_t, q_ne_l, q_ne_t, q_is, q_isnt, isN_int, isN_str, isN_lst, isN_tup, isN_ref, isN_bl, isN_non, q_neg, q_ix_l, q_ix_t, atD_s, at_1_0, at_2_0, at_2_1, at_3_0, at_3_1, at_3_2, at_4_0, at_4_1, at_4_2, at_4_3, q_len_l, q_len_t, q_len_s, q_abs, q_int_i, q_int_b, q_str, q_list_l, q_list_t, q_tuple_l, q_tuple_t, q_repr_l, q_repr_t]
  refine ⟨by rw [List.length_map]; omega, ?_⟩
  rw [q_join (l := t :: ps.map numT) (by rw [strsOf, strsOf_nums]; rfl)]
  refine ⟨?_, ?_⟩
  · have lt : t.length = 3 := by rcases g.t with h | h <;> subst h <;> rfl
    have s := sum_le (B := 3) (ps.map numT) (fun x hx => by
      obtain ⟨p, hp, rfl⟩ := List.mem_map.mp hx
      exact numT_len (by decide) (small p hp))
    rw [List.length_map] at s
    have l1 : (Str.ofString " ").length = 1 := rfl
    rw [List.map_cons, List.sum_cons, List.length_cons, List.length_map, l1, lt]
    omega
  rw [show Txt.join (Str.ofString " ") (t :: ps.map numT) = rowT t ps from rfl]
  subst hK1
  refine seq_step fun K2 hK2 => ?_
  simp only [tv, tk, to2, to1, tbl, tch, tand, tor, tnot, vand, vor, vnot, tif, a0, ac, as_, dtup, dlst, tcb, tcall, sret, sretN, sif, snx, sdrop, sasg, gn, spar, snever, bend, startD, List.map_cons, List.map_nil, List.length_cons, List.length_nil, List.replicate, List.cons_append, List.nil_append, List.append_nil, List.getElem?_cons_zero, List.getElem?_cons_succ, List.set_cons_zero, List.set_cons_succ, Nat.reduceAdd, Nat.reduceSub, Nat.zero_add, tcallK, ro, List.getD_cons_zero, List.getD_cons_succ, true_and, wipeD, Bool.not_true, Bool.not_false, Bool.false_eq_true, if_true, if_false, q_add_i, q_add_s, q_add_l, q_add_t, q_sub, q_mul_i, q_mul_l, q_mul_s, q_div, q_mod, q_pow, q_lt, q_le, q_gt, q_ge, q_eq_i, q_eq_s, q_eq_b, q_ne_i, q_ne_s, q_ne_b, q_eq_l, q_eq_t, q_ne_l, q_ne_t, q_is, q_isnt, isN_int, isN_str, isN_lst, isN_tup, isN_ref, isN_bl, isN_non, q_neg, q_ix_l, q_ix_t, atD_s, at_1_0, at_2_0, at_2_1, at_3_0, at_3_1, at_3_2, at_4_0, at_4_1, at_4_2, at_4_3, q_len_l, q_len_t, q_len_s, q_abs, q_int_i, q_int_b, q_str, q_list_l, q_list_t, q_tuple_l, q_tuple_t, q_repr_l, q_repr_t]
  refine ⟨t, ps, rfl, g, t, ps, rfl, g, by decide, by decide, ?_⟩
  have n2 := nice2 (rowT_code g)
  rw [n2, eqvD_refl n2]
  refine ⟨rfl, ?_⟩
  simp only [tv, tk, to2, to1, tbl, tch, tand, tor, tnot, vand, vor, vnot, tif, a0, ac, as_, dtup, dlst, tcb, tcall, sret, sretN, sif, snx, sdrop, sasg, gn, spar, snever, bend, startD, List.map_cons, List.map_nil, List.length_cons, List.length_nil, List.replicate, List.cons_append, List.nil_append, List.append_nil, List.getElem?_cons_zero, List.getElem?_cons_succ, List.set_cons_zero, List.set_cons_succ, Nat.reduceAdd, Nat.reduceSub, Nat.zero_add, tcallK, ro, List.getD_cons_zero, List.getD_cons_succ, true_and, wipeD, Bool.not_true, Bool.not_false, Bool.false_eq_true, if_true, if_false, q_add_i, q_add_s, q_add_l, q_add_t, q_sub, q_mul_i, q_mul_l, q_mul_s, q_div, q_mod, q_pow, q_lt, q_le, q_gt, q_ge, q_eq_i, q_eq_s, q_eq_b, q_ne_i, q_ne_s, q_ne_b, q_eq_l, q_eq_t, q_ne_l, q_ne_t, q_is, q_isnt, isN_int, isN_str, isN_lst, isN_tup, isN_ref, isN_bl, isN_non, q_neg, q_ix_l, q_ix_t, atD_s, at_1_0, at_2_0, at_2_1, at_3_0, at_3_1, at_3_2, at_4_0, at_4_1, at_4_2, at_4_3, q_len_l, q_len_t, q_len_s, q_abs, q_int_i, q_int_b, q_str, q_list_l, q_list_t, q_tuple_l, q_tuple_t, q_repr_l, q_repr_t]
  subst hK2
  simp only [tv, tk, to2, to1, tbl, tch, tand, tor, tnot, vand, vor, vnot, tif, a0, ac, as_, dtup, dlst, tcb, tcall, sret, sretN, sif, snx, sdrop, sasg, gn, spar, snever, bend, startD, List.map_cons, List.map_nil, List.length_cons, List.length_nil, List.replicate, List.cons_append, List.nil_append, List.append_nil, List.getElem?_cons_zero, List.getElem?_cons_succ, List.set_cons_zero, List.set_cons_succ, Nat.reduceAdd, Nat.reduceSub, Nat.zero_add, tcallK, ro, List.getD_cons_zero, List.getD_cons_succ, true_and, wipeD, Bool.not_true, Bool.not_false, Bool.false_eq_true, if_true, if_false, q_add_i, q_add_s, q_add_l, q_add_t, q_sub, q_mul_i, q_mul_l, q_mul_s, q_div, q_mod, q_pow, q_lt, q_le, q_gt, q_ge, q_eq_i, q_eq_s, q_eq_b, q_ne_i, q_ne_s, q_ne_b, q_eq_l, q_eq_t, q_ne_l, q_ne_t, q_is, q_isnt, isN_int, isN_str, isN_lst, isN_tup, isN_ref, isN_bl, isN_non, q_neg, q_ix_l, q_ix_t, atD_s, at_1_0, at_2_0, at_2_1, at_3_0, at_3_1, at_3_2, at_4_0, at_4_1, at_4_2, at_4_3, q_len_l, q_len_t, q_len_s, q_abs, q_int_i, q_int_b, q_str, q_list_l, q_list_t, q_tuple_l, q_tuple_t, q_repr_l, q_repr_t]
  refine ⟨t, ps, rfl, g, fun M1 l1 => ⟨t, ps, rfl, g, fun M2 l2 => ⟨by decide, ?_⟩⟩⟩
  have hs : (D.shw 16 (.lst [rowD t ps, rowD t ps]) = true ∧ (D.lst [rowD t ps, rowD t ps]).shown.length ≤ sizeLine) := ⟨shw2 (shw_row g), by have := shown2 (shown_row g); omega⟩
  refine ⟨hs, by decide, hs, ?_⟩
  simp only [rowD, decide_true]
  exact q _ fun a o h => l2 _ _ (l1 _ _ h)
/-! steps and phases, there and back -/
def sp__law_steps_right : SpD := spF1 fun v M Q _ => ∃ ns, v = stD ns ∧ ns.length ≤ 300 ∧ (∀ n ∈ ns, 0 ≤ n ∧ n.natAbs < 10 ^ 9) ∧ ∀ M', MLe M M' → Q (.bl true) M'
/-! def _law_steps_right(steps_here): slots 0 steps_here, 1 told, 2 kept, 3 step_here, 4 found -/
def t__law_steps_right : TDS :=
    (sseq (spar 1 2 (ac (tms rdJoin (tk (.str " ")) (ac (tlc (iseq (tv 0)) (gn 3) tyes (tcb rdStr (ac (tv 3) a0)) [3]) a0)) (ac (tcb rdReprM (ac (tv 0) a0)) a0)))
    (sseq (sif (tor (tbl (to2 rdNe (dlst (ac (tcall sp_write_steps (ac (tv 0) a0)) (ac (tcallK 0 1 sp_write_steps [0] a0 (ac (tv 0) a0)) a0))) (dlst (ac (tv 1) (ac (tv 1) a0))))) (tbl (to2 rdNe (tcb rdReprM (ac (tv 0) a0)) (tv 2))))
      (sret (tk (.bl false)))
      snx)
    (sseq (sasg (dlst (ac (tcall sp_read_steps (ac (tv 1) a0)) (ac (tcallK 0 1 sp_read_steps [0] a0 (ac (tv 1) a0)) a0))) (gn 4))
    (sseq (sif (tbl (to2 rdNe (tcb rdReprM (ac (tv 4) a0)) (tcb rdReprM (ac (dlst (ac (tv 0) (ac (tv 0) a0))) a0))))
      (sret (tk (.bl false)))
      snx)
    (sseq (sdrop (tapp (to2 rdIx (tv 4) (tk (.int 0))) (ac (tk (.int 0)) a0)))
    (sret (to2 rdEq (tcb rdReprM (ac (dlst (ac (to2 rdIx (tv 4) (tk (.int 1))) (ac (tcall sp_read_steps (ac (tv 1) a0)) a0))) a0)) (tcb rdReprM (ac (dlst (ac (tv 0) (ac (tv 0) a0))) a0)))))))))
theorem see_ints {M : MM} (ns : List Int) : see M (.lst (ns.map D.int)) = .lst (ns.map D.int) := by
  rw [see, seeL_map _ fun _ => by rw [see]]
theorem see_ref {M : MM} {p : Addr} {xs : List D} (h : M p = some (.lst xs)) : see M (.ref p) = .lst xs := by
  rw [see, h]
theorem see_two {M : MM} {x y u v : D} (h1 : see M x = u) (h2 : see M y = v) : see M (.lst [x, y]) = .lst [u, v] := by
  rw [see, seeL, seeL, seeL, h1, h2]
theorem shw_st {n : Nat} {ns : List Int} (g : ∀ n ∈ ns, 0 ≤ n ∧ n.natAbs < 10 ^ 9) : D.shw (n + 1) (stD ns) = true := shw_lst fun d hd => by
  obtain ⟨p, hp, rfl⟩ := List.mem_map.mp hd
  exact shw_int (g p hp).2 (by decide)
theorem shown_st {ns : List Int} (g : ∀ n ∈ ns, 0 ≤ n ∧ n.natAbs < 10 ^ 9) (hl : ns.length ≤ 300) : (stD ns).shown.length ≤ 4000 := by
  have := shown_lst (ds := ns.map D.int) (B := 10) fun d hd => by
    obtain ⟨p, hp, rfl⟩ := List.mem_map.mp hd
    exact shown_int (by decide) (g p hp).2
  rw [List.length_map] at this
  unfold stD
  omega
theorem stT_code {ns : List Int} : ∀ c ∈ tl (stT ns), c < 1114112 := join_code fun w hw c hc => by
  obtain ⟨p, _, rfl⟩ := List.mem_map.mp hw
  exact num_code hc
theorem see_of_mle {M M' : MM} {p : Addr} {xs : List D} (h : M p = some (.lst xs)) (l : MLe M M') : M' p = some (.lst xs) := l _ _ h
theorem rd__law_steps_right : ∀ ds M Q E, sp__law_steps_right ds M Q E → t__law_steps_right (bend Q E) (startD ["steps_here", "told", "kept", "step_here", "found"] ds) M := rdF1 fun v M Q E ⟨ns, e, hl, g, q⟩ => by
  subst e
  unfold t__law_steps_right
  have z : sizeLine = 16777216 := rfl
  have g40 : ∀ n ∈ ns, 0 ≤ n ∧ n.natAbs < 10 ^ 40 := fun n hn => ⟨(g n hn).1, Nat.lt_trans (g n hn).2 (by decide)⟩
  have s1 : D.shw 16 (stD ns) = true ∧ (stD ns).shown.length ≤ sizeLine := ⟨shw_st g, by have := shown_st g hl; omega⟩
  have s2 : D.shw 16 (.lst [stD ns, stD ns]) = true ∧ (D.lst [stD ns, stD ns]).shown.length ≤ sizeLine := ⟨shw2 (shw_st g), by have := shown2 (shown_st g hl); omega⟩
  have sn : ∀ N : MM, see N (stD ns) = .lst (ns.map D.int) := fun N => see_ints ns
  have n2 := nice2 (stT_code (ns := ns))
  refine seq_step fun K1 hK1 => ?_
  simp only [stD, tms, tlc, iseq, tv, tk, to2, to1, tbl, tch, tand, tor, tnot, vand, vor, vnot, tif, a0, ac, as_, dtup, dlst, tcb, tcall, sret, sretN, sif, snx, sdrop, sasg, gn, spar, snever, bend, startD, List.map_cons, List.map_nil, List.length_cons, List.length_nil, List.replicate, List.cons_append, List.nil_append, List.append_nil, List.getElem?_cons_zero, List.getElem?_cons_succ, List.set_cons_zero, List.set_cons_succ, Nat.reduceAdd, Nat.reduceSub, Nat.zero_add, tcallK, ro, List.getD_cons_zero, List.getD_cons_succ, true_and, wipeD, Bool.not_true, Bool.not_false, Bool.false_eq_true, if_true, if_false, q_add_i, q_add_s, q_add_l, q_add_t, q_sub, q_mul_i, q_mul_l, q_mul_s, q_div, q_mod, q_pow, q_lt, q_le, q_gt, q_ge, q_eq_i, q_eq_s, q_eq_b, q_ne_i, q_ne_s, q_ne_b, q_eq_l, q_eq_t, q_ne_l, q_ne_t, q_is, q_isnt, isN_int, isN_str, isN_lst, isN_tup, isN_ref, isN_bl, isN_non, q_neg, q_ix_l, q_ix_t, atD_s, at_1_0, at_2_0, at_2_1, at_3_0, at_3_1, at_3_2, at_4_0, at_4_1, at_4_2, at_4_3, q_len_l, q_len_t, q_len_s, q_abs, q_int_i, q_int_b, q_str, q_list_l, q_list_t, q_tuple_l, q_tuple_t, q_repr_l, q_repr_t]
  refine compD_n (f := D.int) (r := fun i => D.str (numT i)) ns [] (fun p hp k hk => ?_) (by rw [List.length_nil, Nat.zero_add]; omega) ?_
  · simp only [tv, tk, to2, to1, tbl, tch, tand, tor, tnot, vand, vor, vnot, tif, a0, ac, as_, dtup, dlst, tcb, tcall, sret, sretN, sif, snx, sdrop, sasg, gn, spar, snever, bend, startD, List.map_cons, List.map_nil, List.length_cons, List.length_nil, List.replicate, List.cons_append, List.nil_append, List.append_nil, List.getElem?_cons_zero, List.getElem?_cons_succ, List.set_cons_zero, List.set_cons_succ, Nat.reduceAdd, Nat.reduceSub, Nat.zero_add, tcallK, ro, List.getD_cons_zero, List.getD_cons_succ, true_and, wipeD, Bool.not_true, Bool.not_false, Bool.false_eq_true, if_true, if_false, q_add_i, q_add_s, q_add_l, q_add_t, q_sub, q_mul_i, q_mul_l, q_mul_s, q_div, q_mod, q_pow, q_lt, q_le, q_gt, q_ge, q_eq_i, q_eq_s, q_eq_b, q_ne_i, q_ne_s, q_ne_b, q_eq_l, q_eq_t, q_ne_l, q_ne_t, q_is, q_isnt, isN_int, isN_str, isN_lst, isN_tup, isN_ref, isN_bl, isN_non, q_neg, q_ix_l, q_ix_t, atD_s, at_1_0, at_2_0, at_2_1, at_3_0, at_3_1, at_3_2, at_4_0, at_4_1, at_4_2, at_4_3, q_len_l, q_len_t, q_len_s, q_abs, q_int_i, q_int_b, q_str, q_list_l, q_list_t, q_tuple_l, q_tuple_t, q_repr_l, q_repr_t]
    exact ⟨log2_10 (g p hp).2 (by decide), hk⟩
  simp only [tv, tk, to2, to1, tbl, tch, tand, tor, tnot, vand, vor, vnot, tif, a0, ac, as_, dtup, dlst, tcb, tcall, sret, sretN, sif, snx, sdrop, sasg, gn, spar, snever, bend, startD, List.map_cons, List.map_nil, List.length_cons, List.length_nil, List.replicate, List.cons_append, List.nil_append, List.append_nil, List.getElem?_cons_zero, List.getElem?_cons_succ, List.set_cons_zero, List.set_cons_succ, Nat.reduceAdd, Nat.reduceSub, Nat.zero_add, tcallK, ro, List.getD_cons_zero, List.getD_cons_succ, true_and, wipeD, Bool.not_true, Bool.not_false, Bool.false_eq_true, if_true, if_false, q_add_i, q_add_s, q_add_l, q_add_t, q_sub, q_mul_i, q_mul_l, q_mul_s, q_div, q_mod, q_pow, q_lt, q_le, q_gt, q_ge, q_eq_i, q_eq_s, q_eq_b, q_ne_i, q_ne_s, q_ne_b, q_eq_l, q_eq_t, q_ne_l, q_ne_t, q_is, q_isnt, isN_int, isN_str, isN_lst, isN_tup, isN_ref, isN_bl, isN_non, q_neg, q_ix_l, q_ix_t, atD_s, at_1_0, at_2_0, at_2_1, at_3_0, at_3_1, at_3_2, at_4_0, at_4_1, at_4_2, at_4_3, q_len_l, q_len_t, q_len_s, q_abs, q_int_i, q_int_b, q_str, q_list_l, q_list_t, q_tuple_l, q_tuple_t, q_repr_l, q_repr_t]
  rw [q_join (strsOf_nums _ _)]
  refine ⟨nums_sum (fun n hn => (g40 n hn).2) (by omega), ?_⟩
  rw [q_reprM_l (see_ints ns)]
  refine ⟨s1, ?_⟩
  rw [show Txt.join (Str.ofString " ") (ns.map numT) = stT ns from rfl]
  subst hK1
  refine seq_step fun K2 hK2 => ?_
  simp only [tv, tk, to2, to1, tbl, tch, tand, tor, tnot, vand, vor, vnot, tif, a0, ac, as_, dtup, dlst, tcb, tcall, sret, sretN, sif, snx, sdrop, sasg, gn, spar, snever, bend, startD, List.map_cons, List.map_nil, List.length_cons, List.length_nil, List.replicate, List.cons_append, List.nil_append, List.append_nil, List.getElem?_cons_zero, List.getElem?_cons_succ, List.set_cons_zero, List.set_cons_succ, Nat.reduceAdd, Nat.reduceSub, Nat.zero_add, tcallK, ro, List.getD_cons_zero, List.getD_cons_succ, true_and, wipeD, Bool.not_true, Bool.not_false, Bool.false_eq_true, if_true, if_false, q_add_i, q_add_s, q_add_l, q_add_t, q_sub, q_mul_i, q_mul_l, q_mul_s, q_div, q_mod, q_pow, q_lt, q_le, q_gt, q_ge, q_eq_i, q_eq_s, q_eq_b, q_ne_i, q_ne_s, q_ne_b, q_eq_l, q_eq_t, q_ne_l, q_ne_t, q_is, q_isnt, isN_int, isN_str, isN_lst, isN_tup, isN_ref, isN_bl, isN_non, q_neg, q_ix_l, q_ix_t, atD_s, at_1_0, at_2_0, at_2_1, at_3_0, at_3_1, at_3_2, at_4_0, at_4_1, at_4_2, at_4_3, q_len_l, q_len_t, q_len_s, q_abs, q_int_i, q_int_b, q_str, q_list_l, q_list_t, q_tuple_l, q_tuple_t, q_repr_l, q_repr_t]
  refine ⟨ns, rfl, by omega, g40, ns, rfl, by omega, g40, by decide, by decide, ?_⟩
  rw [n2, eqvD_refl n2]
  refine ⟨rfl, ?_⟩
  simp only [tv, tk, to2, to1, tbl, tch, tand, tor, tnot, vand, vor, vnot, tif, a0, ac, as_, dtup, dlst, tcb, tcall, sret, sretN, sif, snx, sdrop, sasg, gn, spar, snever, bend, startD, List.map_cons, List.map_nil, List.length_cons, List.length_nil, List.replicate, List.cons_append, List.nil_append, List.append_nil, List.getElem?_cons_zero, List.getElem?_cons_succ, List.set_cons_zero, List.set_cons_succ, Nat.reduceAdd, Nat.reduceSub, Nat.zero_add, tcallK, ro, List.getD_cons_zero, List.getD_cons_succ, true_and, wipeD, Bool.not_true, Bool.not_false, Bool.false_eq_true, if_true, if_false, q_add_i, q_add_s, q_add_l, q_add_t, q_sub, q_mul_i, q_mul_l, q_mul_s, q_div, q_mod, q_pow, q_lt, q_le, q_gt, q_ge, q_eq_i, q_eq_s, q_eq_b, q_ne_i, q_ne_s, q_ne_b, q_eq_l, q_eq_t, q_ne_l, q_ne_t, q_is, q_isnt, isN_int, isN_str, isN_lst, isN_tup, isN_ref, isN_bl, isN_non, q_neg, q_ix_l, q_ix_t, atD_s, at_1_0, at_2_0, at_2_1, at_3_0, at_3_1, at_3_2, at_4_0, at_4_1, at_4_2, at_4_3, q_len_l, q_len_t, q_len_s, q_abs, q_int_i, q_int_b, q_str, q_list_l, q_list_t, q_tuple_l, q_tuple_t, q_repr_l, q_repr_t]
  rw [q_reprM_l (see_ints ns)]
  refine ⟨s1, ?_⟩
  simp only [tv, tk, to2, to1, tbl, tch, tand, tor, tnot, vand, vor, vnot, tif, a0, ac, as_, dtup, dlst, tcb, tcall, sret, sretN, sif, snx, sdrop, sasg, gn, spar, snever, bend, startD, List.map_cons, List.map_nil, List.length_cons, List.length_nil, List.replicate, List.cons_append, List.nil_append, List.append_nil, List.getElem?_cons_zero, List.getElem?_cons_succ, List.set_cons_zero, List.set_cons_succ, Nat.reduceAdd, Nat.reduceSub, Nat.zero_add, tcallK, ro, List.getD_cons_zero, List.getD_cons_succ, true_and, wipeD, Bool.not_true, Bool.not_false, Bool.false_eq_true, if_true, if_false, q_add_i, q_add_s, q_add_l, q_add_t, q_sub, q_mul_i, q_mul_l, q_mul_s, q_div, q_mod, q_pow, q_lt, q_le, q_gt, q_ge, q_eq_i, q_eq_s, q_eq_b, q_ne_i, q_ne_s, q_ne_b, q_eq_l, q_eq_t, q_ne_l, q_ne_t, q_is, q_isnt, isN_int, isN_str, isN_lst, isN_tup, isN_ref, isN_bl, isN_non, q_neg, q_ix_l, q_ix_t, atD_s, at_1_0, at_2_0, at_2_1, at_3_0, at_3_1, at_3_2, at_4_0, at_4_1, at_4_2, at_4_3, q_len_l, q_len_t, q_len_s, q_abs, q_int_i, q_int_b, q_str, q_list_l, q_list_t, q_tuple_l, q_tuple_t, q_repr_l, q_repr_t, decide_true]
  subst hK2
  refine seq_step fun K3 hK3 => ?_
  simp only [tv, tk, to2, to1, tbl, tch, tand, tor, tnot, vand, vor, vnot, tif, a0, ac, as_, dtup, dlst, tcb, tcall, sret, sretN, sif, snx, sdrop, sasg, gn, spar, snever, bend, startD, List.map_cons, List.map_nil, List.length_cons, List.length_nil, List.replicate, List.cons_append, List.nil_append, List.append_nil, List.getElem?_cons_zero, List.getElem?_cons_succ, List.set_cons_zero, List.set_cons_succ, Nat.reduceAdd, Nat.reduceSub, Nat.zero_add, tcallK, ro, List.getD_cons_zero, List.getD_cons_succ, true_and, wipeD, Bool.not_true, Bool.not_false, Bool.false_eq_true, if_true, if_false, q_add_i, q_add_s, q_add_l, q_add_t, q_sub, q_mul_i, q_mul_l, q_mul_s, q_div, q_mod, q_pow, q_lt, q_le, q_gt, q_ge, q_eq_i, q_eq_s, q_eq_b, q_ne_i, q_ne_s, q_ne_b, q_eq_l, q_eq_t, q_ne_l, q_ne_t, q_is, q_isnt, isN_int, isN_str, isN_lst, isN_tup, isN_ref, isN_bl, isN_non, q_neg, q_ix_l, q_ix_t, atD_s, at_1_0, at_2_0, at_2_1, at_3_0, at_3_1, at_3_2, at_4_0, at_4_1, at_4_2, at_4_3, q_len_l, q_len_t, q_len_s, q_abs, q_int_i, q_int_b, q_str, q_list_l, q_list_t, q_tuple_l, q_tuple_t, q_repr_l, q_repr_t]
  refine ⟨ns, rfl, by omega, g, fun p1 f1 => ⟨ns, rfl, by omega, g, fun p2 f2 => ⟨by decide, ?_⟩⟩⟩
  have ne : p1 ≠ p2 := fun e => by
    subst e
    rw [mput_same] at f2
    cases f2
  obtain ⟨M2, hM2⟩ : ∃ M2, M2 = mput (mput M p1 (.lst (ns.map D.int))) p2 (.lst (ns.map D.int)) := ⟨_, rfl⟩
  have a1 : M2 p1 = some (.lst (ns.map D.int)) := by rw [hM2, mput_ne ne, mput_same]
  have a2 : M2 p2 = some (.lst (ns.map D.int)) := by rw [hM2, mput_same]
  have lM : MLe M M2 := by
    rw [hM2]
    exact fun a o h => mle_put f2 _ _ (mle_put f1 _ _ h)
  rw [← hM2]
  subst hK3
  refine seq_step fun K4 hK4 => ?_
  simp only [tv, tk, to2, to1, tbl, tch, tand, tor, tnot, vand, vor, vnot, tif, a0, ac, as_, dtup, dlst, tcb, tcall, sret, sretN, sif, snx, sdrop, sasg, gn, spar, snever, bend, startD, List.map_cons, List.map_nil, List.length_cons, List.length_nil, List.replicate, List.cons_append, List.nil_append, List.append_nil, List.getElem?_cons_zero, List.getElem?_cons_succ, List.set_cons_zero, List.set_cons_succ, Nat.reduceAdd, Nat.reduceSub, Nat.zero_add, tcallK, ro, List.getD_cons_zero, List.getD_cons_succ, true_and, wipeD, Bool.not_true, Bool.not_false, Bool.false_eq_true, if_true, if_false, q_add_i, q_add_s, q_add_l, q_add_t, q_sub, q_mul_i, q_mul_l, q_mul_s, q_div, q_mod, q_pow, q_lt, q_le, q_gt, q_ge, q_eq_i, q_eq_s, q_eq_b, q_ne_i, q_ne_s, q_ne_b, q_eq_l, q_eq_t, q_ne_l, q_ne_t, q_is, q_isnt, isN_int, isN_str, isN_lst, isN_tup, isN_ref, isN_bl, isN_non, q_neg, q_ix_l, q_ix_t, atD_s, at_1_0, at_2_0, at_2_1, at_3_0, at_3_1, at_3_2, at_4_0, at_4_1, at_4_2, at_4_3, q_len_l, q_len_t, q_len_s, q_abs, q_int_i, q_int_b, q_str, q_list_l, q_list_t, q_tuple_l, q_tuple_t, q_repr_l, q_repr_t]
  rw [q_reprM_l (see_two (see_ref a1) (see_ref a2))]
  refine ⟨s2, by decide, ?_⟩
  rw [q_reprM_l (see_two (see_ints ns) (see_ints ns))]
  refine ⟨s2, ?_⟩
  simp only [tv, tk, to2, to1, tbl, tch, tand, tor, tnot, vand, vor, vnot, tif, a0, ac, as_, dtup, dlst, tcb, tcall, sret, sretN, sif, snx, sdrop, sasg, gn, spar, snever, bend, startD, List.map_cons, List.map_nil, List.length_cons, List.length_nil, List.replicate, List.cons_append, List.nil_append, List.append_nil, List.getElem?_cons_zero, List.getElem?_cons_succ, List.set_cons_zero, List.set_cons_succ, Nat.reduceAdd, Nat.reduceSub, Nat.zero_add, tcallK, ro, List.getD_cons_zero, List.getD_cons_succ, true_and, wipeD, Bool.not_true, Bool.not_false, Bool.false_eq_true, if_true, if_false, q_add_i, q_add_s, q_add_l, q_add_t, q_sub, q_mul_i, q_mul_l, q_mul_s, q_div, q_mod, q_pow, q_lt, q_le, q_gt, q_ge, q_eq_i, q_eq_s, q_eq_b, q_ne_i, q_ne_s, q_ne_b, q_eq_l, q_eq_t, q_ne_l, q_ne_t, q_is, q_isnt, isN_int, isN_str, isN_lst, isN_tup, isN_ref, isN_bl, isN_non, q_neg, q_ix_l, q_ix_t, atD_s, at_1_0, at_2_0, at_2_1, at_3_0, at_3_1, at_3_2, at_4_0, at_4_1, at_4_2, at_4_3, q_len_l, q_len_t, q_len_s, q_abs, q_int_i, q_int_b, q_str, q_list_l, q_list_t, q_tuple_l, q_tuple_t, q_repr_l, q_repr_t, decide_true]
  subst hK4
  refine seq_step fun K5 hK5 => ?_
  simp only [tv, tk, to2, to1, tbl, tch, tand, tor, tnot, vand, vor, vnot, tif, a0, ac, as_, dtup, dlst, tcb, tcall, sret, sretN, sif, snx, sdrop, sasg, gn, spar, snever, bend, startD, List.map_cons, List.map_nil, List.length_cons, List.length_nil, List.replicate, List.cons_append, List.nil_append, List.append_nil, List.getElem?_cons_zero, List.getElem?_cons_succ, List.set_cons_zero, List.set_cons_succ, Nat.reduceAdd, Nat.reduceSub, Nat.zero_add, tcallK, ro, List.getD_cons_zero, List.getD_cons_succ, true_and, wipeD, Bool.not_true, Bool.not_false, Bool.false_eq_true, if_true, if_false, q_add_i, q_add_s, q_add_l, q_add_t, q_sub, q_mul_i, q_mul_l, q_mul_s, q_div, q_mod, q_pow, q_lt, q_le, q_gt, q_ge, q_eq_i, q_eq_s, q_eq_b, q_ne_i, q_ne_s, q_ne_b, q_eq_l, q_eq_t, q_ne_l, q_ne_t, q_is, q_isnt, isN_int, isN_str, isN_lst, isN_tup, isN_ref, isN_bl, isN_non, q_neg, q_ix_l, q_ix_t, atD_s, at_1_0, at_2_0, at_2_1, at_3_0, at_3_1, at_3_2, at_4_0, at_4_1, at_4_2, at_4_3, q_len_l, q_len_t, q_len_s, q_abs, q_int_i, q_int_b, q_str, q_list_l, q_list_t, q_tuple_l, q_tuple_t, q_repr_l, q_repr_t, tapp, isL, a1]
  refine ⟨by rw [List.length_map]; omega, ?_⟩
  obtain ⟨M3, hM3⟩ : ∃ M3, M3 = mput M2 p1 (.lst (ns.map D.int ++ [D.int 0])) := ⟨_, rfl⟩
  rw [← hM3]
  have b2 : M3 p2 = some (.lst (ns.map D.int)) := by rw [hM3, mput_ne (Ne.symm ne)]; exact a2
  subst hK5
  simp only [tv, tk, to2, to1, tbl, tch, tand, tor, tnot, vand, vor, vnot, tif, a0, ac, as_, dtup, dlst, tcb, tcall, sret, sretN, sif, snx, sdrop, sasg, gn, spar, snever, bend, startD, List.map_cons, List.map_nil, List.length_cons, List.length_nil, List.replicate, List.cons_append, List.nil_append, List.append_nil, List.getElem?_cons_zero, List.getElem?_cons_succ, List.set_cons_zero, List.set_cons_succ, Nat.reduceAdd, Nat.reduceSub, Nat.zero_add, tcallK, ro, List.getD_cons_zero, List.getD_cons_succ, true_and, wipeD, Bool.not_true, Bool.not_false, Bool.false_eq_true, if_true, if_false, q_add_i, q_add_s, q_add_l, q_add_t, q_sub, q_mul_i, q_mul_l, q_mul_s, q_div, q_mod, q_pow, q_lt, q_le, q_gt, q_ge, q_eq_i, q_eq_s, q_eq_b, q_ne_i, q_ne_s, q_ne_b, q_eq_l, q_eq_t, q_ne_l, q_ne_t, q_is, q_isnt, isN_int, isN_str, isN_lst, isN_tup, isN_ref, isN_bl, isN_non, q_neg, q_ix_l, q_ix_t, atD_s, at_1_0, at_2_0, at_2_1, at_3_0, at_3_1, at_3_2, at_4_0, at_4_1, at_4_2, at_4_3, q_len_l, q_len_t, q_len_s, q_abs, q_int_i, q_int_b, q_str, q_list_l, q_list_t, q_tuple_l, q_tuple_t, q_repr_l, q_repr_t]
  refine ⟨ns, rfl, by omega, g, fun p3 f3 => ⟨by decide, ?_⟩⟩
  have ne3 : p2 ≠ p3 := fun e => by
    subst e
    rw [b2] at f3
    cases f3
  rw [q_reprM_l (see_two (see_ref (by rw [mput_ne ne3]; exact b2)) (see_ref mput_same))]
  refine ⟨s2, by decide, ?_⟩
  rw [q_reprM_l (see_two (see_ints ns) (see_ints ns))]
  refine ⟨s2, ?_⟩
  rw [q_eq_s, decide_eq_true rfl]
  refine q _ fun a o h => ?_
  have h1 : a ≠ p1 := fun e => by subst e; rw [f1] at h; cases h
  rw [mle_put f3 _ _ (by rw [hM3, mput_ne h1]; exact lM _ _ h)]
def sp__law_phases_right : SpD := spF2 fun r v M Q _ => ∃ t ps fs, r = rowD t ps ∧ v = phD fs ∧ GoodRow t ps ∧ fs.length = ps.length ∧ (∀ f ∈ fs, GoodF f ∧ f.1.natAbs < 10 ^ 9 ∧ f.2.natAbs < 10 ^ 9) ∧ ∀ M', MLe M M' → Q (.bl true) M'
/-! def _law_phases_right(here, starts): slots 0 here, 1 starts, 2 told, 3 kept, 4 pair, 5 found -/
def t__law_phases_right : TDS :=
    (sseq (spar 2 3 (ac (tms rdJoin (tk (.str " ")) (ac (tlc (iseq (tv 1)) (gn 4) tyes (tcall sp__law_word (ac (tv 4) a0)) [4]) a0)) (ac (tcb rdReprM (ac (tv 1) a0)) a0)))
    (sseq (sif (tbl (to2 rdNe (dlst (ac (tcall sp_write_phases (ac (tv 0) (ac (tv 1) a0))) (ac (tcallK 0 2 sp_write_phases [1, 0] a0 (ac (tv 1) (ac (tv 0) a0))) a0))) (dlst (ac (tv 2) (ac (tv 2) a0)))))
      (sret (tk (.bl false)))
      snx)
    (sseq (sif (tbl (to2 rdNe (tcb rdReprM (ac (tv 1) a0)) (tv 3)))
      (sret (tk (.bl false)))
      snx)
    (sseq (sasg (dlst (ac (tcall sp_read_phases (ac (tv 0) (ac (tv 2) a0))) (ac (tcallK 0 2 sp_read_phases [1, 0] a0 (ac (tv 2) (ac (tv 0) a0))) a0))) (gn 5))
    (sseq (sif (tbl (to2 rdNe (tcb rdReprM (ac (tv 5) a0)) (tcb rdReprM (ac (dlst (ac (tv 1) (ac (tv 1) a0))) a0))))
      (sret (tk (.bl false)))
      snx)
    (sseq (sdrop (tapp (to2 rdIx (tv 5) (tk (.int 0))) (ac (dtup (ac (tk (.int 0)) (ac (tk (.int 1)) a0))) a0)))
    (sret (to2 rdEq (tcb rdReprM (ac (dlst (ac (to2 rdIx (tv 5) (tk (.int 1))) (ac (tcall sp_read_phases (ac (tv 0) (ac (tv 2) a0))) a0))) a0)) (tcb rdReprM (ac (dlst (ac (tv 1) (ac (tv 1) a0))) a0))))))))))
theorem see_frac {M : MM} (f : Int × Int) : see M (fracD f) = fracD f := by
  unfold fracD
  rw [see, seeL, seeL, seeL, see, see]
theorem see_ph {M : MM} (fs : List (Int × Int)) : see M (.lst (fs.map fracD)) = .lst (fs.map fracD) := by
  rw [see, seeL_map _ fun f => see_frac f]
theorem shw_ph {n : Nat} {fs : List (Int × Int)} (g : ∀ f ∈ fs, GoodF f ∧ f.1.natAbs < 10 ^ 9 ∧ f.2.natAbs < 10 ^ 9) : D.shw (n + 2) (phD fs) = true := shw_lst fun d hd => by
  obtain ⟨p, hp, rfl⟩ := List.mem_map.mp hd
  obtain ⟨_, a, b⟩ := g p hp
  exact shw_tup fun d hd => by
    rcases List.mem_cons.mp hd with e | e
    · subst e; exact shw_int a (by decide)
    · rcases List.mem_singleton.mp e; exact shw_int b (by decide)
theorem shown_ph {fs : List (Int × Int)} (g : ∀ f ∈ fs, GoodF f ∧ f.1.natAbs < 10 ^ 9 ∧ f.2.natAbs < 10 ^ 9) (hl : fs.length ≤ 5) : (phD fs).shown.length ≤ 4000 := by
  have := shown_lst (ds := fs.map fracD) (B := 40) fun d hd => by
    obtain ⟨p, hp, rfl⟩ := List.mem_map.mp hd
    obtain ⟨_, a, b⟩ := g p hp
    have := shown_tup (ds := [.int p.1, .int p.2]) (B := 10) fun d hd => by
      rcases List.mem_cons.mp hd with e | e
      · subst e; exact shown_int (by decide) a
      · rcases List.mem_singleton.mp e; exact shown_int (by decide) b
    simp only [List.length_cons, List.length_nil] at this
    unfold fracD
    omega
  rw [List.length_map] at this
  unfold phD
  omega
theorem phT_code {fs : List (Int × Int)} : ∀ c ∈ tl (phT fs), c < 1114112 := join_code fun w hw c hc => by
  obtain ⟨p, _, rfl⟩ := List.mem_map.mp hw
  exact fracT_code hc
theorem rd__law_phases_right : ∀ ds M Q E, sp__law_phases_right ds M Q E → t__law_phases_right (bend Q E) (startD ["here", "starts", "told", "kept", "pair", "found"] ds) M := rdF2 fun r v M Q E ⟨t, ps, fs, e1, e, gr, hlp, g, q⟩ => by
  subst e1 e
  unfold t__law_phases_right
  have z : sizeLine = 16777216 := rfl
  have hl : fs.length ≤ 5 := by rw [hlp]; exact gr.l.2
  have sm : ∀ f ∈ fs, SmallF f := fun f hf => by
    obtain ⟨_, a, b⟩ := g f hf
    exact ⟨Nat.lt_trans a (by decide), Nat.lt_trans b (by decide)⟩
  have gs : ∀ f ∈ fs, GoodF f ∧ SmallF f := fun f hf => ⟨(g f hf).1, sm f hf⟩
  have s1 : D.shw 16 (phD fs) = true ∧ (phD fs).shown.length ≤ sizeLine := ⟨shw_ph g, by have := shown_ph g hl; omega⟩
  have s2 : D.shw 16 (.lst [phD fs, phD fs]) = true ∧ (D.lst [phD fs, phD fs]).shown.length ≤ sizeLine := ⟨shw2 (shw_ph g), by have := shown2 (shown_ph g hl); omega⟩
  have n2 := nice2 (phT_code (fs := fs))
  refine seq_step fun K1 hK1 => ?_
  simp only [phD, tms, tlc, iseq, tv, tk, to2, to1, tbl, tch, tand, tor, tnot, vand, vor, vnot, tif, a0, ac, as_, dtup, dlst, tcb, tcall, sret, sretN, sif, snx, sdrop, sasg, gn, spar, snever, bend, startD, List.map_cons, List.map_nil, List.length_cons, List.length_nil, List.replicate, List.cons_append, List.nil_append, List.append_nil, List.getElem?_cons_zero, List.getElem?_cons_succ, List.set_cons_zero, List.set_cons_succ, Nat.reduceAdd, Nat.reduceSub, Nat.zero_add, tcallK, ro, List.getD_cons_zero, List.getD_cons_succ, true_and, wipeD, Bool.not_true, Bool.not_false, Bool.false_eq_true, if_true, if_false, q_add_i, q_add_s, q_add_l, q_add_t, q_sub, q_mul_i, q_mul_l, q_mul_s, q_div, q_mod, q_pow, q_lt, q_le, q_gt, q_ge, q_eq_i, q_eq_s, q_eq_b, q_ne_i, q_ne_s, q_ne_b, q_eq_l, q_eq_t, q_ne_l, q_ne_t, q_is, q_isnt, isN_int, isN_str, isN_lst, isN_tup, isN_ref, isN_bl, isN_non, q_neg, q_ix_l, q_ix_t, atD_s, at_1_0, at_2_0, at_2_1, at_3_0, at_3_1, at_3_2, at_4_0, at_4_1, at_4_2, at_4_3, q_len_l, q_len_t, q_len_s, q_abs, q_int_i, q_int_b, q_str, q_list_l, q_list_t, q_tuple_l, q_tuple_t, q_repr_l, q_repr_t]
  refine compD_n (f := fracD) (r := fun i => D.str (fracT i)) fs [] (fun p hp k hk => ?_) (by rw [List.length_nil, Nat.zero_add]; omega) ?_
  · simp only [tv, tk, to2, to1, tbl, tch, tand, tor, tnot, vand, vor, vnot, tif, a0, ac, as_, dtup, dlst, tcb, tcall, sret, sretN, sif, snx, sdrop, sasg, gn, spar, snever, bend, startD, List.map_cons, List.map_nil, List.length_cons, List.length_nil, List.replicate, List.cons_append, List.nil_append, List.append_nil, List.getElem?_cons_zero, List.getElem?_cons_succ, List.set_cons_zero, List.set_cons_succ, Nat.reduceAdd, Nat.reduceSub, Nat.zero_add, tcallK, ro, List.getD_cons_zero, List.getD_cons_succ, true_and, wipeD, Bool.not_true, Bool.not_false, Bool.false_eq_true, if_true, if_false, q_add_i, q_add_s, q_add_l, q_add_t, q_sub, q_mul_i, q_mul_l, q_mul_s, q_div, q_mod, q_pow, q_lt, q_le, q_gt, q_ge, q_eq_i, q_eq_s, q_eq_b, q_ne_i, q_ne_s, q_ne_b, q_eq_l, q_eq_t, q_ne_l, q_ne_t, q_is, q_isnt, isN_int, isN_str, isN_lst, isN_tup, isN_ref, isN_bl, isN_non, q_neg, q_ix_l, q_ix_t, atD_s, at_1_0, at_2_0, at_2_1, at_3_0, at_3_1, at_3_2, at_4_0, at_4_1, at_4_2, at_4_3, q_len_l, q_len_t, q_len_s, q_abs, q_int_i, q_int_b, q_str, q_list_l, q_list_t, q_tuple_l, q_tuple_t, q_repr_l, q_repr_t]
    exact ⟨p, rfl, sm p hp, hk⟩
  simp only [tv, tk, to2, to1, tbl, tch, tand, tor, tnot, vand, vor, vnot, tif, a0, ac, as_, dtup, dlst, tcb, tcall, sret, sretN, sif, snx, sdrop, sasg, gn, spar, snever, bend, startD, List.map_cons, List.map_nil, List.length_cons, List.length_nil, List.replicate, List.cons_append, List.nil_append, List.append_nil, List.getElem?_cons_zero, List.getElem?_cons_succ, List.set_cons_zero, List.set_cons_succ, Nat.reduceAdd, Nat.reduceSub, Nat.zero_add, tcallK, ro, List.getD_cons_zero, List.getD_cons_succ, true_and, wipeD, Bool.not_true, Bool.not_false, Bool.false_eq_true, if_true, if_false, q_add_i, q_add_s, q_add_l, q_add_t, q_sub, q_mul_i, q_mul_l, q_mul_s, q_div, q_mod, q_pow, q_lt, q_le, q_gt, q_ge, q_eq_i, q_eq_s, q_eq_b, q_ne_i, q_ne_s, q_ne_b, q_eq_l, q_eq_t, q_ne_l, q_ne_t, q_is, q_isnt, isN_int, isN_str, isN_lst, isN_tup, isN_ref, isN_bl, isN_non, q_neg, q_ix_l, q_ix_t, atD_s, at_1_0, at_2_0, at_2_1, at_3_0, at_3_1, at_3_2, at_4_0, at_4_1, at_4_2, at_4_3, q_len_l, q_len_t, q_len_s, q_abs, q_int_i, q_int_b, q_str, q_list_l, q_list_t, q_tuple_l, q_tuple_t, q_repr_l, q_repr_t]
  rw [q_join (strsOf_nums _ _)]
  refine ⟨fracs_sum sm (by omega), ?_⟩
  rw [q_reprM_l (see_ph fs)]
  refine ⟨s1, ?_⟩
  rw [show Txt.join (Str.ofString " ") (fs.map fracT) = phT fs from rfl]
  subst hK1
  refine seq_step fun K2 hK2 => ?_
  simp only [tv, tk, to2, to1, tbl, tch, tand, tor, tnot, vand, vor, vnot, tif, a0, ac, as_, dtup, dlst, tcb, tcall, sret, sretN, sif, snx, sdrop, sasg, gn, spar, snever, bend, startD, List.map_cons, List.map_nil, List.length_cons, List.length_nil, List.replicate, List.cons_append, List.nil_append, List.append_nil, List.getElem?_cons_zero, List.getElem?_cons_succ, List.set_cons_zero, List.set_cons_succ, Nat.reduceAdd, Nat.reduceSub, Nat.zero_add, tcallK, ro, List.getD_cons_zero, List.getD_cons_succ, true_and, wipeD, Bool.not_true, Bool.not_false, Bool.false_eq_true, if_true, if_false, q_add_i, q_add_s, q_add_l, q_add_t, q_sub, q_mul_i, q_mul_l, q_mul_s, q_div, q_mod, q_pow, q_lt, q_le, q_gt, q_ge, q_eq_i, q_eq_s, q_eq_b, q_ne_i, q_ne_s, q_ne_b, q_eq_l, q_eq_t, q_ne_l, q_ne_t, q_is, q_isnt, isN_int, isN_str, isN_lst, isN_tup, isN_ref, isN_bl, isN_non, q_neg, q_ix_l, q_ix_t, atD_s, at_1_0, at_2_0, at_2_1, at_3_0, at_3_1, at_3_2, at_4_0, at_4_1, at_4_2, at_4_3, q_len_l, q_len_t, q_len_s, q_abs, q_int_i, q_int_b, q_str, q_list_l, q_list_t, q_tuple_l, q_tuple_t, q_repr_l, q_repr_t]
  refine ⟨t, ps, fs, rfl, rfl, gr, hlp, gs, t, ps, fs, rfl, rfl, gr, hlp, gs, by decide, by decide, ?_⟩
  rw [n2, eqvD_refl n2]
  refine ⟨rfl, ?_⟩
  simp only [tv, tk, to2, to1, tbl, tch, tand, tor, tnot, vand, vor, vnot, tif, a0, ac, as_, dtup, dlst, tcb, tcall, sret, sretN, sif, snx, sdrop, sasg, gn, spar, snever, bend, startD, List.map_cons, List.map_nil, List.length_cons, List.length_nil, List.replicate, List.cons_append, List.nil_append, List.append_nil, List.getElem?_cons_zero, List.getElem?_cons_succ, List.set_cons_zero, List.set_cons_succ, Nat.reduceAdd, Nat.reduceSub, Nat.zero_add, tcallK, ro, List.getD_cons_zero, List.getD_cons_succ, true_and, wipeD, Bool.not_true, Bool.not_false, Bool.false_eq_true, if_true, if_false, q_add_i, q_add_s, q_add_l, q_add_t, q_sub, q_mul_i, q_mul_l, q_mul_s, q_div, q_mod, q_pow, q_lt, q_le, q_gt, q_ge, q_eq_i, q_eq_s, q_eq_b, q_ne_i, q_ne_s, q_ne_b, q_eq_l, q_eq_t, q_ne_l, q_ne_t, q_is, q_isnt, isN_int, isN_str, isN_lst, isN_tup, isN_ref, isN_bl, isN_non, q_neg, q_ix_l, q_ix_t, atD_s, at_1_0, at_2_0, at_2_1, at_3_0, at_3_1, at_3_2, at_4_0, at_4_1, at_4_2, at_4_3, q_len_l, q_len_t, q_len_s, q_abs, q_int_i, q_int_b, q_str, q_list_l, q_list_t, q_tuple_l, q_tuple_t, q_repr_l, q_repr_t]
  subst hK2
  refine seq_step fun K2b hK2b => ?_
  simp only [tv, tk, to2, to1, tbl, tch, tand, tor, tnot, vand, vor, vnot, tif, a0, ac, as_, dtup, dlst, tcb, tcall, sret, sretN, sif, snx, sdrop, sasg, gn, spar, snever, bend, startD, List.map_cons, List.map_nil, List.length_cons, List.length_nil, List.replicate, List.cons_append, List.nil_append, List.append_nil, List.getElem?_cons_zero, List.getElem?_cons_succ, List.set_cons_zero, List.set_cons_succ, Nat.reduceAdd, Nat.reduceSub, Nat.zero_add, tcallK, ro, List.getD_cons_zero, List.getD_cons_succ, true_and, wipeD, Bool.not_true, Bool.not_false, Bool.false_eq_true, if_true, if_false, q_add_i, q_add_s, q_add_l, q_add_t, q_sub, q_mul_i, q_mul_l, q_mul_s, q_div, q_mod, q_pow, q_lt, q_le, q_gt, q_ge, q_eq_i, q_eq_s, q_eq_b, q_ne_i, q_ne_s, q_ne_b, q_eq_l, q_eq_t, q_ne_l, q_ne_t, q_is, q_isnt, isN_int, isN_str, isN_lst, isN_tup, isN_ref, isN_bl, isN_non, q_neg, q_ix_l, q_ix_t, atD_s, at_1_0, at_2_0, at_2_1, at_3_0, at_3_1, at_3_2, at_4_0, at_4_1, at_4_2, at_4_3, q_len_l, q_len_t, q_len_s, q_abs, q_int_i, q_int_b, q_str, q_list_l, q_list_t, q_tuple_l, q_tuple_t, q_repr_l, q_repr_t]
  rw [q_reprM_l (see_ph fs)]
  refine ⟨s1, ?_⟩
  simp only [tv, tk, to2, to1, tbl, tch, tand, tor, tnot, vand, vor, vnot, tif, a0, ac, as_, dtup, dlst, tcb, tcall, sret, sretN, sif, snx, sdrop, sasg, gn, spar, snever, bend, startD, List.map_cons, List.map_nil, List.length_cons, List.length_nil, List.replicate, List.cons_append, List.nil_append, List.append_nil, List.getElem?_cons_zero, List.getElem?_cons_succ, List.set_cons_zero, List.set_cons_succ, Nat.reduceAdd, Nat.reduceSub, Nat.zero_add, tcallK, ro, List.getD_cons_zero, List.getD_cons_succ, true_and, wipeD, Bool.not_true, Bool.not_false, Bool.false_eq_true, if_true, if_false, q_add_i, q_add_s, q_add_l, q_add_t, q_sub, q_mul_i, q_mul_l, q_mul_s, q_div, q_mod, q_pow, q_lt, q_le, q_gt, q_ge, q_eq_i, q_eq_s, q_eq_b, q_ne_i, q_ne_s, q_ne_b, q_eq_l, q_eq_t, q_ne_l, q_ne_t, q_is, q_isnt, isN_int, isN_str, isN_lst, isN_tup, isN_ref, isN_bl, isN_non, q_neg, q_ix_l, q_ix_t, atD_s, at_1_0, at_2_0, at_2_1, at_3_0, at_3_1, at_3_2, at_4_0, at_4_1, at_4_2, at_4_3, q_len_l, q_len_t, q_len_s, q_abs, q_int_i, q_int_b, q_str, q_list_l, q_list_t, q_tuple_l, q_tuple_t, q_repr_l, q_repr_t, decide_true]
  subst hK2b
  refine seq_step fun K3 hK3 => ?_
  simp only [tv, tk, to2, to1, tbl, tch, tand, tor, tnot, vand, vor, vnot, tif, a0, ac, as_, dtup, dlst, tcb, tcall, sret, sretN, sif, snx, sdrop, sasg, gn, spar, snever, bend, startD, List.map_cons, List.map_nil, List.length_cons, List.length_nil, List.replicate, List.cons_append, List.nil_append, List.append_nil, List.getElem?_cons_zero, List.getElem?_cons_succ, List.set_cons_zero, List.set_cons_succ, Nat.reduceAdd, Nat.reduceSub, Nat.zero_add, tcallK, ro, List.getD_cons_zero, List.getD_cons_succ, true_and, wipeD, Bool.not_true, Bool.not_false, Bool.false_eq_true, if_true, if_false, q_add_i, q_add_s, q_add_l, q_add_t, q_sub, q_mul_i, q_mul_l, q_mul_s, q_div, q_mod, q_pow, q_lt, q_le, q_gt, q_ge, q_eq_i, q_eq_s, q_eq_b, q_ne_i, q_ne_s, q_ne_b, q_eq_l, q_eq_t, q_ne_l, q_ne_t, q_is, q_isnt, isN_int, isN_str, isN_lst, isN_tup, isN_ref, isN_bl, isN_non, q_neg, q_ix_l, q_ix_t, atD_s, at_1_0, at_2_0, at_2_1, at_3_0, at_3_1, at_3_2, at_4_0, at_4_1, at_4_2, at_4_3, q_len_l, q_len_t, q_len_s, q_abs, q_int_i, q_int_b, q_str, q_list_l, q_list_t, q_tuple_l, q_tuple_t, q_repr_l, q_repr_t]
  refine ⟨t, ps, fs, rfl, rfl, gr, hlp, g, fun p1 f1 => ⟨t, ps, fs, rfl, rfl, gr, hlp, g, fun p2 f2 => ⟨by decide, ?_⟩⟩⟩
  have ne : p1 ≠ p2 := fun e => by
    subst e
    rw [mput_same] at f2
    cases f2
  obtain ⟨M2, hM2⟩ : ∃ M2, M2 = mput (mput M p1 (.lst (fs.map fracD))) p2 (.lst (fs.map fracD)) := ⟨_, rfl⟩
  have a1 : M2 p1 = some (.lst (fs.map fracD)) := by rw [hM2, mput_ne ne, mput_same]
  have a2 : M2 p2 = some (.lst (fs.map fracD)) := by rw [hM2, mput_same]
  have lM : MLe M M2 := by
    rw [hM2]
    exact fun a o h => mle_put f2 _ _ (mle_put f1 _ _ h)
  rw [← hM2]
  subst hK3
  refine seq_step fun K4 hK4 => ?_
  simp only [tv, tk, to2, to1, tbl, tch, tand, tor, tnot, vand, vor, vnot, tif, a0, ac, as_, dtup, dlst, tcb, tcall, sret, sretN, sif, snx, sdrop, sasg, gn, spar, snever, bend, startD, List.map_cons, List.map_nil, List.length_cons, List.length_nil, List.replicate, List.cons_append, List.nil_append, List.append_nil, List.getElem?_cons_zero, List.getElem?_cons_succ, List.set_cons_zero, List.set_cons_succ, Nat.reduceAdd, Nat.reduceSub, Nat.zero_add, tcallK, ro, List.getD_cons_zero, List.getD_cons_succ, true_and, wipeD, Bool.not_true, Bool.not_false, Bool.false_eq_true, if_true, if_false, q_add_i, q_add_s, q_add_l, q_add_t, q_sub, q_mul_i, q_mul_l, q_mul_s, q_div, q_mod, q_pow, q_lt, q_le, q_gt, q_ge, q_eq_i, q_eq_s, q_eq_b, q_ne_i, q_ne_s, q_ne_b, q_eq_l, q_eq_t, q_ne_l, q_ne_t, q_is, q_isnt, isN_int, isN_str, isN_lst, isN_tup, isN_ref, isN_bl, isN_non, q_neg, q_ix_l, q_ix_t, atD_s, at_1_0, at_2_0, at_2_1, at_3_0, at_3_1, at_3_2, at_4_0, at_4_1, at_4_2, at_4_3, q_len_l, q_len_t, q_len_s, q_abs, q_int_i, q_int_b, q_str, q_list_l, q_list_t, q_tuple_l, q_tuple_t, q_repr_l, q_repr_t]
  rw [q_reprM_l (see_two (see_ref a1) (see_ref a2))]
  refine ⟨s2, by decide, ?_⟩
  rw [q_reprM_l (see_two (see_ph fs) (see_ph fs))]
  refine ⟨s2, ?_⟩
  simp only [tv, tk, to2, to1, tbl, tch, tand, tor, tnot, vand, vor, vnot, tif, a0, ac, as_, dtup, dlst, tcb, tcall, sret, sretN, sif, snx, sdrop, sasg, gn, spar, snever, bend, startD, List.map_cons, List.map_nil, List.length_cons, List.length_nil, List.replicate, List.cons_append, List.nil_append, List.append_nil, List.getElem?_cons_zero, List.getElem?_cons_succ, List.set_cons_zero, List.set_cons_succ, Nat.reduceAdd, Nat.reduceSub, Nat.zero_add, tcallK, ro, List.getD_cons_zero, List.getD_cons_succ, true_and, wipeD, Bool.not_true, Bool.not_false, Bool.false_eq_true, if_true, if_false, q_add_i, q_add_s, q_add_l, q_add_t, q_sub, q_mul_i, q_mul_l, q_mul_s, q_div, q_mod, q_pow, q_lt, q_le, q_gt, q_ge, q_eq_i, q_eq_s, q_eq_b, q_ne_i, q_ne_s, q_ne_b, q_eq_l, q_eq_t, q_ne_l, q_ne_t, q_is, q_isnt, isN_int, isN_str, isN_lst, isN_tup, isN_ref, isN_bl, isN_non, q_neg, q_ix_l, q_ix_t, atD_s, at_1_0, at_2_0, at_2_1, at_3_0, at_3_1, at_3_2, at_4_0, at_4_1, at_4_2, at_4_3, q_len_l, q_len_t, q_len_s, q_abs, q_int_i, q_int_b, q_str, q_list_l, q_list_t, q_tuple_l, q_tuple_t, q_repr_l, q_repr_t, decide_true]
  subst hK4
  refine seq_step fun K5 hK5 => ?_
  simp only [tv, tk, to2, to1, tbl, tch, tand, tor, tnot, vand, vor, vnot, tif, a0, ac, as_, dtup, dlst, tcb, tcall, sret, sretN, sif, snx, sdrop, sasg, gn, spar, snever, bend, startD, List.map_cons, List.map_nil, List.length_cons, List.length_nil, List.replicate, List.cons_append, List.nil_append, List.append_nil, List.getElem?_cons_zero, List.getElem?_cons_succ, List.set_cons_zero, List.set_cons_succ, Nat.reduceAdd, Nat.reduceSub, Nat.zero_add, tcallK, ro, List.getD_cons_zero, List.getD_cons_succ, true_and, wipeD, Bool.not_true, Bool.not_false, Bool.false_eq_true, if_true, if_false, q_add_i, q_add_s, q_add_l, q_add_t, q_sub, q_mul_i, q_mul_l, q_mul_s, q_div, q_mod, q_pow, q_lt, q_le, q_gt, q_ge, q_eq_i, q_eq_s, q_eq_b, q_ne_i, q_ne_s, q_ne_b, q_eq_l, q_eq_t, q_ne_l, q_ne_t, q_is, q_isnt, isN_int, isN_str, isN_lst, isN_tup, isN_ref, isN_bl, isN_non, q_neg, q_ix_l, q_ix_t, atD_s, at_1_0, at_2_0, at_2_1, at_3_0, at_3_1, at_3_2, at_4_0, at_4_1, at_4_2, at_4_3, q_len_l, q_len_t, q_len_s, q_abs, q_int_i, q_int_b, q_str, q_list_l, q_list_t, q_tuple_l, q_tuple_t, q_repr_l, q_repr_t, tapp, isL, a1]
  refine ⟨by decide, by rw [List.length_map]; omega, ?_⟩
  obtain ⟨M3, hM3⟩ : ∃ M3, M3 = mput M2 p1 (.lst (fs.map fracD ++ [.tup [.int 0, .int 1]])) := ⟨_, rfl⟩
  rw [← hM3]
  have b2 : M3 p2 = some (.lst (fs.map fracD)) := by rw [hM3, mput_ne (Ne.symm ne)]; exact a2
  subst hK5
  simp only [tv, tk, to2, to1, tbl, tch, tand, tor, tnot, vand, vor, vnot, tif, a0, ac, as_, dtup, dlst, tcb, tcall, sret, sretN, sif, snx, sdrop, sasg, gn, spar, snever, bend, startD, List.map_cons, List.map_nil, List.length_cons, List.length_nil, List.replicate, List.cons_append, List.nil_append, List.append_nil, List.getElem?_cons_zero, List.getElem?_cons_succ, List.set_cons_zero, List.set_cons_succ, Nat.reduceAdd, Nat.reduceSub, Nat.zero_add, tcallK, ro, List.getD_cons_zero, List.getD_cons_succ, true_and, wipeD, Bool.not_true, Bool.not_false, Bool.false_eq_true, if_true, if_false, q_add_i, q_add_s, q_add_l, q_add_t, q_sub, q_mul_i, q_mul_l, q_mul_s, q_div, q_mod, q_pow, q_lt, q_le, q_gt, q_ge, q_eq_i, q_eq_s, q_eq_b, q_ne_i, q_ne_s, q_ne_b, q_eq_l, q_eq_t, q_ne_l, q_ne_t, q_is, q_isnt, isN_int, isN_str, isN_lst, isN_tup, isN_ref, isN_bl, isN_non, q_neg, q_ix_l, q_ix_t, atD_s, at_1_0, at_2_0, at_2_1, at_3_0, at_3_1, at_3_2, at_4_0, at_4_1, at_4_2, at_4_3, q_len_l, q_len_t, q_len_s, q_abs, q_int_i, q_int_b, q_str, q_list_l, q_list_t, q_tuple_l, q_tuple_t, q_repr_l, q_repr_t]
  refine ⟨t, ps, fs, rfl, rfl, gr, hlp, g, fun p3 f3 => ⟨by decide, ?_⟩⟩
  have ne3 : p2 ≠ p3 := fun e => by
    subst e
    rw [b2] at f3
    cases f3
  rw [q_reprM_l (see_two (see_ref (by rw [mput_ne ne3]; exact b2)) (see_ref mput_same))]
  refine ⟨s2, by decide, ?_⟩
  rw [q_reprM_l (see_two (see_ph fs) (see_ph fs))]
  refine ⟨s2, ?_⟩
  rw [q_eq_s, decide_eq_true rfl]
  refine q _ fun a o h => ?_
  have h1 : a ≠ p1 := fun e => by subst e; rw [f1] at h; cases h
  rw [mle_put f3 _ _ (by rw [hM3, mput_ne h1]; exact lM _ _ h)]
end K60

namespace K60
open PySem PySem.Spec L2 DL
open TL
/-! the law -/
def sp_law : SpD := spF1 fun v M Q _ => ∃ ns : List Int, v = .lst (ns.map D.int) ∧ ns.length ≤ 63 ∧ ∀ M', Q (.bl true) M'
/-! def law(script): slots 0 script, 1 cell, 2 bag, 3 here, 4 count, 5 steps_here, 6 k, 7 span, 8 great, 9 pair, 10 bottom -/
def t_law : TDS :=
    (sseq (sfor (iseq (to2 rdAdd (dlst (ac (tk (.int 0)) a0)) (tsl (tv 0) so_none (so_some (tk (.int 12)))))) (gn 1)
      (sseq (sasg (tcall sp__law_bag (ac (tv 1) a0)) (gn 2))
    (sseq (sasg (dtup (ac (tcall sp__law_tie (ac (tv 2) a0)) (ac (tcall sp__law_any_periods (ac (tv 2) a0)) a0))) (gn 3))
    (sseq (sasg (to2 rdIx (dlst (ac (tcall sp__law_draw (ac (tv 2) (ac (tk (.int 9)) a0))) (ac (tcall sp__law_draw (ac (tv 2) (ac (tk (.int 301)) a0))) a0))) (tcall sp__law_draw (ac (tv 2) (ac (tk (.int 2)) a0)))) (gn 4))
    (sseq (sasg (tlc (irng1 (ac (tv 4) a0)) (gn 6) tyes (to2 rdIx (dlst (ac (tcall sp__law_draw (ac (tv 2) (ac (tk (.int 3)) a0))) (ac (tcall sp__law_draw (ac (tv 2) (ac (to2 rdPow (tk (.int 10)) (tk (.int 9))) a0))) a0))) (tcall sp__law_draw (ac (tv 2) (ac (tk (.int 2)) a0)))) [6]) (gn 5))
    (sseq (sif (tor (tnot (tbl (tcall sp__law_rows_right (ac (tv 3) a0)))) (tor (tnot (tbl (tcall sp__law_steps_right (ac (tv 5) a0)))) (tnot (tbl (tcall sp__law_steps_right (ac (dlst a0) a0))))))
      (sret (tk (.bl false)))
      snx)
    (sseq (sif (tnot (tbl (tcall sp__law_phases_right (ac (tv 3) (ac (tlc (itup (to2 rdIx (tv 3) (tk (.int 1)))) (gn 7) tyes (tcall sp__law_any_fraction (ac (tv 2) a0)) [7]) a0)))))
      (sret (tk (.bl false)))
      snx)
    (sseq (sasg (to2 rdAdd (dlst (ac (dtup (ac (to2 rdAdd (to2 rdPow (tk (.int 10)) (tk (.int 29))) (tcall sp__law_draw (ac (tv 2) (ac (to2 rdPow (tk (.int 10)) (tk (.int 9))) a0)))) (ac (tk (.int 1)) a0))) a0)) (tlc (irng1 (ac (to2 rdSub (tcb rdLen (ac (to2 rdIx (tv 3) (tk (.int 1))) a0)) (tk (.int 1))) a0)) (gn 6) tyes (dtup (ac (to2 rdSub (to2 rdSub (tk (.int 0)) (to2 rdPow (tk (.int 10)) (tk (.int 12)))) (tv 6)) (ac (tk (.int 1)) a0))) [6])) (gn 8))
    (sseq (sif (tbl (to2 rdNe (tcall sp_write_phases (ac (tv 3) (ac (tv 8) a0))) (tms rdJoin (tk (.str " ")) (ac (tlc (iseq (tv 8)) (gn 9) tyes (tcb rdStr (ac (to2 rdIx (tv 9) (tk (.int 0))) a0)) [9]) a0))))
      (sret (tk (.bl false)))
      snx)
    (sseq (sasg (to2 rdAdd (to2 rdPow (tk (.int 10)) (tk (.int 9))) (tcall sp__law_draw (ac (tv 2) (ac (to2 rdPow (tk (.int 10)) (tk (.int 9))) a0)))) (gn 10))
    (sseq (sasg (to2 rdAdd (dlst (ac (dtup (ac (tk (.int 1)) (ac (tv 10) a0))) (ac (dtup (ac (to2 rdSub (to2 rdSub (tk (.int 0)) (to2 rdMul (tv 10) (to2 rdPow (tk (.int 10)) (tk (.int 12))))) (tk (.int 1))) (ac (tv 10) a0))) a0))) (to2 rdMul (dlst (ac (dtup (ac (to2 rdAdd (to2 rdPow (tk (.int 10)) (tk (.int 30))) (tk (.int 1))) (ac (to2 rdPow (tk (.int 10)) (tk (.int 30))) a0))) a0)) (to2 rdSub (tcb rdLen (ac (to2 rdIx (tv 3) (tk (.int 1))) a0)) (tk (.int 2))))) (gn 8))
    (sseq (sif (tbl (to2 rdNe (tcall sp_write_phases (ac (tv 3) (ac (tv 8) a0))) (tms rdJoin (tk (.str " ")) (ac (tlc (iseq (tv 8)) (gn 9) tyes (to2 rdAdd (to2 rdAdd (tcb rdStr (ac (to2 rdIx (tv 9) (tk (.int 0))) a0)) (tk (.str "/"))) (tcb rdStr (ac (to2 rdIx (tv 9) (tk (.int 1))) a0))) [9]) a0))))
      (sret (tk (.bl false)))
      snx)
    (sseq (sif (tbl (to2 rdNe (tcall sp_write_steps (ac (dlst (ac (tv 10) (ac (to2 rdMul (tv 10) (to2 rdPow (tk (.int 10)) (tk (.int 20)))) a0))) a0)) (to2 rdAdd (to2 rdAdd (tcb rdStr (ac (tv 10) a0)) (tk (.str " "))) (tcb rdStr (ac (to2 rdMul (tv 10) (to2 rdPow (tk (.int 10)) (tk (.int 20)))) a0)))))
      (sret (tk (.bl false)))
      snx)
    (sif (tbl (to2 rdNe (tcall sp_write_steps (ac (dlst (ac (to2 rdPow (tk (.int 10)) (tk (.int 30))) (ac (tk (.int 0)) (ac (to2 rdPow (tk (.int 10)) (tk (.int 9))) a0)))) a0)) (to2 rdAdd (to2 rdAdd (tcb rdStr (ac (to2 rdPow (tk (.int 10)) (tk (.int 30))) a0)) (tk (.str " 0 "))) (tcb rdStr (ac (to2 rdPow (tk (.int 10)) (tk (.int 9))) a0)))))
      (sret (tk (.bl false)))
      snx))))))))))))))
    (sret (tk (.bl true))))
theorem for_inv {tb : TDS} {i : Nat} {I : DSt → Prop} {D0 : DEnds} : ∀ (ds : List D), (∀ d ∈ ds, ∀ (σ : DSt) (M : MM) (Dn : DEnds), I σ → Dn.rt = D0.rt → (∀ σ' M', I σ' → Dn.nx σ' M') → tb Dn (σ.set i (some d)) M) →
    ∀ (σ : DSt) (M : MM), I σ → (∀ σ' M', I σ' → D0.nx σ' M') → forD (gn i) tb ds D0 σ M
  | [], _, σ, M, hi, q => q σ M hi
  | d :: ds, h, σ, M, hi, q => h d List.mem_cons_self σ M _ hi rfl fun σ' M' hi' => for_inv ds (fun x hx => h x (List.mem_cons_of_mem _ hx)) σ' M' hi' q
theorem great1 {v : Int} {n : Nat} (h0 : 0 ≤ v) (h1 : v < 10 ^ 9) (hn : n ≤ 5) : ∀ f ∈ (10 ^ 29 + v, (1 : Int)) :: (List.range n).map (fun (k : Nat) => ((0 : Int) - 10 ^ 12 - (0 + (k : Int)), (1 : Int))), (GoodF f ∧ SmallF f) ∧ f.2 = 1 := fun f hf => by
  rcases List.mem_cons.mp hf with e | e
  · subst e
    exact ⟨⟨⟨by show (0 : Int) < 1; decide, Nat.gcd_one_right _⟩, ⟨by show (10 ^ 29 + v).natAbs < _; omega, by show (1 : Int).natAbs < 10 ^ 40; decide⟩⟩, rfl⟩
  · obtain ⟨k, hk, rfl⟩ := List.mem_map.mp e
    have hk := List.mem_range.mp hk
    exact ⟨⟨⟨by show (0 : Int) < 1; decide, Nat.gcd_one_right _⟩, ⟨by show ((0 : Int) - 10 ^ 12 - (0 + (k : Int))).natAbs < _; omega, by show (1 : Int).natAbs < 10 ^ 40; decide⟩⟩, rfl⟩
theorem great2 {b : Int} {n : Nat} (h0 : 10 ^ 9 ≤ b) (h1 : b < 2 * 10 ^ 9) : ∀ f ∈ [((1 : Int), b), (0 - b * 10 ^ 12 - 1, b)] ++ List.replicate n ((10 : Int) ^ 30 + 1, (10 : Int) ^ 30), (GoodF f ∧ SmallF f) ∧ f.2 ≠ 1 := fun f hf => by
  rcases List.mem_append.mp hf with e | e
  · rcases List.mem_cons.mp e with e | e
    · subst e
      exact ⟨⟨⟨by show 0 < b; omega, Nat.gcd_one_left _⟩, ⟨by show (1 : Int).natAbs < 10 ^ 40; decide, by show b.natAbs < _; omega⟩⟩, by show b ≠ 1; omega⟩
    · rcases List.mem_singleton.mp e
      refine ⟨⟨⟨by show 0 < b; omega, ?_⟩, ⟨by show (0 - b * 10 ^ 12 - 1).natAbs < _; omega, by show b.natAbs < _; omega⟩⟩, by show b ≠ 1; omega⟩
      show Nat.gcd (0 - b * 10 ^ 12 - 1).natAbs b.natAbs = 1
      have e1 : (0 - b * 10 ^ 12 - 1).natAbs = 1 + b.natAbs * 10 ^ 12 := by omega
      rw [e1, Nat.gcd_add_mul_left_left, Nat.gcd_one_left]
  · have e := List.eq_of_mem_replicate e
    subst e
    exact ⟨⟨⟨by decide, by decide +kernel⟩, ⟨by decide +kernel, by decide +kernel⟩⟩, by decide +kernel⟩
theorem fracT_one {f : Int × Int} (h : f.2 = 1) : fracT f = numT f.1 := by unfold fracT; rw [if_pos h]
theorem fracT_two {f : Int × Int} (h : f.2 ≠ 1) : fracT f = numT f.1 ++ Str.ofString "/" ++ numT f.2 := by unfold fracT; rw [if_neg h]
theorem rd_law : ∀ ds M Q E, sp_law ds M Q E → t_law (bend Q E) (startD ["script", "cell", "bag", "here", "count", "steps_here", "k", "span", "great", "pair", "bottom"] ds) M := rdF1 fun v M Q E ⟨ns, e, hl, q⟩ => by
  subst e
  unfold t_law
  have z : sizeLine = 16777216 := rfl
  have ep9 : (10 : Int) ^ (9 : Int).toNat = 10 ^ 9 := by decide
  have ep12 : (10 : Int) ^ (12 : Int).toNat = 10 ^ 12 := by decide
  have ep20 : (10 : Int) ^ (20 : Int).toNat = 10 ^ 20 := by decide
  have ep29 : (10 : Int) ^ (29 : Int).toNat = 10 ^ 29 := by decide
  have ep30 : (10 : Int) ^ (30 : Int).toNat = 10 ^ 30 := by decide
  have cp9 : CPow 10 9 := ⟨by decide, by decide, by decide⟩
  have cp12 : CPow 10 12 := ⟨by decide, by decide, by decide⟩
  have cp20 : CPow 10 20 := ⟨by decide, by decide, by decide⟩
  have cp29 : CPow 10 29 := ⟨by decide, by decide, by decide⟩
  have cp30 : CPow 10 30 := ⟨by decide, by decide, by decide⟩
  refine seq_step fun K0 hK0 => ?_
  simp only [sfor, iseq, tsl, so_none, so_some, tv, tk, to2, to1, tbl, tch, tand, tor, tnot, vand, vor, vnot, tif, a0, ac, as_, dtup, dlst, tcb, tcall, sret, sretN, sif, snx, sdrop, sasg, gn, spar, snever, bend, startD, List.map_cons, List.map_nil, List.length_cons, List.length_nil, List.replicate, List.cons_append, List.nil_append, List.append_nil, List.getElem?_cons_zero, List.getElem?_cons_succ, List.set_cons_zero, List.set_cons_succ, Nat.reduceAdd, Nat.reduceSub, Nat.zero_add, tcallK, ro, List.getD_cons_zero, List.getD_cons_succ, true_and, wipeD, Bool.not_true, Bool.not_false, Bool.false_eq_true, if_true, if_false, q_add_i, q_add_s, q_add_l, q_add_t, q_sub, q_mul_i, q_mul_l, q_mul_s, q_div, q_mod, q_pow, q_lt, q_le, q_gt, q_ge, q_eq_i, q_eq_s, q_eq_b, q_ne_i, q_ne_s, q_ne_b, q_eq_l, q_eq_t, q_ne_l, q_ne_t, q_is, q_isnt, isN_int, isN_str, isN_lst, isN_tup, isN_ref, isN_bl, isN_non, q_neg, q_ix_l, q_ix_t, atD_s, at_1_0, at_2_0, at_2_1, at_3_0, at_3_1, at_3_2, at_4_0, at_4_1, at_4_2, at_4_3, q_len_l, q_len_t, q_len_s, q_abs, q_int_i, q_int_b, q_str, q_list_l, q_list_t, q_tuple_l, q_tuple_t, q_repr_l, q_repr_t]
  have hcut : cutD (ns.map D.int) none (some 12) = (ns.take 12).map D.int := by
    unfold cutD
    rw [HT.sIx_none, List.drop_zero, Nat.sub_zero, List.map_take, show (some (12 : Int)) = some ((12 : Nat) : Int) from rfl, HT.sIx_nat, List.length_map]
    by_cases h : 12 ≤ ns.length
    · rw [Nat.min_eq_left h]
    · rw [Nat.min_eq_right (by omega), List.take_of_length_le (by rw [List.length_map]; omega), List.take_of_length_le (by rw [List.length_map]; omega)]
  rw [hcut]
  refine ⟨by decide, by rw [List.length_map, List.length_take]; omega, ?_⟩
  refine for_inv (I := fun σ => ∃ s x1 x2 x3 x4 x5 x6 x7 x8 x9 x10, σ = [s, x1, x2, x3, x4, x5, x6, x7, x8, x9, x10]) _ (fun d hd σ M Dn ⟨s, x1, x2, x3, x4, x5, x6, x7, x8, x9, x10, hσ⟩ hrt hn => ?body) _ M ⟨_, _, _, _, _, _, _, _, _, _, _, rfl⟩ (fun σ' M' hi => ?fin)
  case body =>
    subst hσ
    have hz : ∃ c, d = .int c := by
      rcases List.mem_cons.mp hd with e | e
      · exact ⟨0, e⟩
      · obtain ⟨c, _, rfl⟩ := List.mem_map.mp e
        exact ⟨c, rfl⟩
    obtain ⟨cell, rfl⟩ := hz
    clear hd hK0 hcut
    refine seq_step fun K1 hK1 => ?_
    simp only [tv, tk, to2, to1, tbl, tch, tand, tor, tnot, vand, vor, vnot, tif, a0, ac, as_, dtup, dlst, tcb, tcall, sret, sretN, sif, snx, sdrop, sasg, gn, spar, snever, bend, startD, List.map_cons, List.map_nil, List.length_cons, List.length_nil, List.replicate, List.cons_append, List.nil_append, List.append_nil, List.getElem?_cons_zero, List.getElem?_cons_succ, List.set_cons_zero, List.set_cons_succ, Nat.reduceAdd, Nat.reduceSub, Nat.zero_add, tcallK, ro, List.getD_cons_zero, List.getD_cons_succ, true_and, wipeD, Bool.not_true, Bool.not_false, Bool.false_eq_true, if_true, if_false, q_add_i, q_add_s, q_add_l, q_add_t, q_sub, q_mul_i, q_mul_l, q_mul_s, q_div, q_mod, q_pow, q_lt, q_le, q_gt, q_ge, q_eq_i, q_eq_s, q_eq_b, q_ne_i, q_ne_s, q_ne_b, q_eq_l, q_eq_t, q_ne_l, q_ne_t, q_is, q_isnt, isN_int, isN_str, isN_lst, isN_tup, isN_ref, isN_bl, isN_non, q_neg, q_ix_l, q_ix_t, atD_s, at_1_0, at_2_0, at_2_1, at_3_0, at_3_1, at_3_2, at_4_0, at_4_1, at_4_2, at_4_3, q_len_l, q_len_t, q_len_s, q_abs, q_int_i, q_int_b, q_str, q_list_l, q_list_t, q_tuple_l, q_tuple_t, q_repr_l, q_repr_t]
    refine ⟨cell, rfl, fun bg M1 B1 => ?_⟩
    subst hK1
    refine seq_step fun K2 hK2 => ?_
    simp only [tv, tk, to2, to1, tbl, tch, tand, tor, tnot, vand, vor, vnot, tif, a0, ac, as_, dtup, dlst, tcb, tcall, sret, sretN, sif, snx, sdrop, sasg, gn, spar, snever, bend, startD, List.map_cons, List.map_nil, List.length_cons, List.length_nil, List.replicate, List.cons_append, List.nil_append, List.append_nil, List.getElem?_cons_zero, List.getElem?_cons_succ, List.set_cons_zero, List.set_cons_succ, Nat.reduceAdd, Nat.reduceSub, Nat.zero_add, tcallK, ro, List.getD_cons_zero, List.getD_cons_succ, true_and, wipeD, Bool.not_true, Bool.not_false, Bool.false_eq_true, if_true, if_false, q_add_i, q_add_s, q_add_l, q_add_t, q_sub, q_mul_i, q_mul_l, q_mul_s, q_div, q_mod, q_pow, q_lt, q_le, q_gt, q_ge, q_eq_i, q_eq_s, q_eq_b, q_ne_i, q_ne_s, q_ne_b, q_eq_l, q_eq_t, q_ne_l, q_ne_t, q_is, q_isnt, isN_int, isN_str, isN_lst, isN_tup, isN_ref, isN_bl, isN_non, q_neg, q_ix_l, q_ix_t, atD_s, at_1_0, at_2_0, at_2_1, at_3_0, at_3_1, at_3_2, at_4_0, at_4_1, at_4_2, at_4_3, q_len_l, q_len_t, q_len_s, q_abs, q_int_i, q_int_b, q_str, q_list_l, q_list_t, q_tuple_l, q_tuple_t, q_repr_l, q_repr_t]
    refine ⟨bg, 0, rfl, B1, by decide, fun t M2 ht B2 => ⟨bg, 1, rfl, B2, by decide, fun ps M3 hps hpr B3 => ⟨by decide, ?_⟩⟩⟩
    have gr : GoodRow t ps := ⟨ht, hps, hpr⟩
    have here : D.tup [D.str t, D.tup (ps.map D.int)] = rowD t ps := rfl
    rw [here]
    subst hK2
    refine seq_step fun K3 hK3 => ?_
    simp only [tv, tk, to2, to1, tbl, tch, tand, tor, tnot, vand, vor, vnot, tif, a0, ac, as_, dtup, dlst, tcb, tcall, sret, sretN, sif, snx, sdrop, sasg, gn, spar, snever, bend, startD, List.map_cons, List.map_nil, List.length_cons, List.length_nil, List.replicate, List.cons_append, List.nil_append, List.append_nil, List.getElem?_cons_zero, List.getElem?_cons_succ, List.set_cons_zero, List.set_cons_succ, Nat.reduceAdd, Nat.reduceSub, Nat.zero_add, tcallK, ro, List.getD_cons_zero, List.getD_cons_succ, true_and, wipeD, Bool.not_true, Bool.not_false, Bool.false_eq_true, if_true, if_false, q_add_i, q_add_s, q_add_l, q_add_t, q_sub, q_mul_i, q_mul_l, q_mul_s, q_div, q_mod, q_pow, q_lt, q_le, q_gt, q_ge, q_eq_i, q_eq_s, q_eq_b, q_ne_i, q_ne_s, q_ne_b, q_eq_l, q_eq_t, q_ne_l, q_ne_t, q_is, q_isnt, isN_int, isN_str, isN_lst, isN_tup, isN_ref, isN_bl, isN_non, q_neg, q_ix_l, q_ix_t, atD_s, at_1_0, at_2_0, at_2_1, at_3_0, at_3_1, at_3_2, at_4_0, at_4_1, at_4_2, at_4_3, q_len_l, q_len_t, q_len_s, q_abs, q_int_i, q_int_b, q_str, q_list_l, q_list_t, q_tuple_l, q_tuple_t, q_repr_l, q_repr_t]
    refine ⟨bg, 9, 7, rfl, rfl, by decide, by decide, B3, by decide, fun v1 M4 a1 b1 B4 => ⟨bg, 301, 8, rfl, rfl, by decide, by decide, B4, by decide, fun v2 M5 a2 b2 B5 => ⟨by decide, bg, 2, 9, rfl, rfl, by decide, by decide, B5, by decide, fun v3 M6 a3 b3 B6 => ?_⟩⟩⟩
    have cnt : ∃ n : Nat, n ≤ 300 ∧ atI [D.int v1, D.int v2] v3 = some (D.int (n : Int)) := by
      have : v3 = 0 ∨ v3 = 1 := by omega
      rcases this with h | h <;> subst h
      · exact ⟨v1.toNat, by omega, by rw [show ((v1.toNat : Nat) : Int) = v1 from by omega]; rfl⟩
      · exact ⟨v2.toNat, by omega, by rw [show ((v2.toNat : Nat) : Int) = v2 from by omega]; rfl⟩
    obtain ⟨cn, hcn, ecn⟩ := cnt
    simp only [tv, tk, to2, to1, tbl, tch, tand, tor, tnot, vand, vor, vnot, tif, a0, ac, as_, dtup, dlst, tcb, tcall, sret, sretN, sif, snx, sdrop, sasg, gn, spar, snever, bend, startD, List.map_cons, List.map_nil, List.length_cons, List.length_nil, List.replicate, List.cons_append, List.nil_append, List.append_nil, List.getElem?_cons_zero, List.getElem?_cons_succ, List.set_cons_zero, List.set_cons_succ, Nat.reduceAdd, Nat.reduceSub, Nat.zero_add, tcallK, ro, List.getD_cons_zero, List.getD_cons_succ, true_and, wipeD, Bool.not_true, Bool.not_false, Bool.false_eq_true, if_true, if_false, q_add_i, q_add_s, q_add_l, q_add_t, q_sub, q_mul_i, q_mul_l, q_mul_s, q_div, q_mod, q_pow, q_lt, q_le, q_gt, q_ge, q_eq_i, q_eq_s, q_eq_b, q_ne_i, q_ne_s, q_ne_b, q_eq_l, q_eq_t, q_ne_l, q_ne_t, q_is, q_isnt, isN_int, isN_str, isN_lst, isN_tup, isN_ref, isN_bl, isN_non, q_neg, q_ix_l, q_ix_t, atD_s, at_1_0, at_2_0, at_2_1, at_3_0, at_3_1, at_3_2, at_4_0, at_4_1, at_4_2, at_4_3, q_len_l, q_len_t, q_len_s, q_abs, q_int_i, q_int_b, q_str, q_list_l, q_list_t, q_tuple_l, q_tuple_t, q_repr_l, q_repr_t, ecn]
    subst hK3
    refine seq_step fun K4 hK4 => ?_
    simp only [tv, tk, to2, to1, tbl, tch, tand, tor, tnot, vand, vor, vnot, tif, a0, ac, as_, dtup, dlst, tcb, tcall, sret, sretN, sif, snx, sdrop, sasg, gn, spar, snever, bend, startD, List.map_cons, List.map_nil, List.length_cons, List.length_nil, List.replicate, List.cons_append, List.nil_append, List.append_nil, List.getElem?_cons_zero, List.getElem?_cons_succ, List.set_cons_zero, List.set_cons_succ, Nat.reduceAdd, Nat.reduceSub, Nat.zero_add, tcallK, ro, List.getD_cons_zero, List.getD_cons_succ, true_and, wipeD, Bool.not_true, Bool.not_false, Bool.false_eq_true, if_true, if_false, q_add_i, q_add_s, q_add_l, q_add_t, q_sub, q_mul_i, q_mul_l, q_mul_s, q_div, q_mod, q_pow, q_lt, q_le, q_gt, q_ge, q_eq_i, q_eq_s, q_eq_b, q_ne_i, q_ne_s, q_ne_b, q_eq_l, q_eq_t, q_ne_l, q_ne_t, q_is, q_isnt, isN_int, isN_str, isN_lst, isN_tup, isN_ref, isN_bl, isN_non, q_neg, q_ix_l, q_ix_t, atD_s, at_1_0, at_2_0, at_2_1, at_3_0, at_3_1, at_3_2, at_4_0, at_4_1, at_4_2, at_4_3, q_len_l, q_len_t, q_len_s, q_abs, q_int_i, q_int_b, q_str, q_list_l, q_list_t, q_tuple_l, q_tuple_t, q_repr_l, q_repr_t, tlc, irng1, ep9]
    refine ⟨by omega, ?_⟩
    refine compD_s 300 (Iv := fun j N => Bag N bg (10 + 3 * j)) (P := fun y => ∃ i, y = D.int i ∧ (0 ≤ i ∧ i.natAbs < 10 ^ 9)) (rgD 0 (cn : Int)) 0 [] M6 (fun d _ j N hj hB k hk => ?_) (by rw [rgD_len]; show 0 + _ ≤ 16777216; omega) (by rw [rgD_len]; omega) B6 ?_
    · simp only [tv, tk, to2, to1, tbl, tch, tand, tor, tnot, vand, vor, vnot, tif, a0, ac, as_, dtup, dlst, tcb, tcall, sret, sretN, sif, snx, sdrop, sasg, gn, spar, snever, bend, startD, List.map_cons, List.map_nil, List.length_cons, List.length_nil, List.replicate, List.cons_append, List.nil_append, List.append_nil, List.getElem?_cons_zero, List.getElem?_cons_succ, List.set_cons_zero, List.set_cons_succ, Nat.reduceAdd, Nat.reduceSub, Nat.zero_add, tcallK, ro, List.getD_cons_zero, List.getD_cons_succ, true_and, wipeD, Bool.not_true, Bool.not_false, Bool.false_eq_true, if_true, if_false, q_add_i, q_add_s, q_add_l, q_add_t, q_sub, q_mul_i, q_mul_l, q_mul_s, q_div, q_mod, q_pow, q_lt, q_le, q_gt, q_ge, q_eq_i, q_eq_s, q_eq_b, q_ne_i, q_ne_s, q_ne_b, q_eq_l, q_eq_t, q_ne_l, q_ne_t, q_is, q_isnt, isN_int, isN_str, isN_lst, isN_tup, isN_ref, isN_bl, isN_non, q_neg, q_ix_l, q_ix_t, atD_s, at_1_0, at_2_0, at_2_1, at_3_0, at_3_1, at_3_2, at_4_0, at_4_1, at_4_2, at_4_3, q_len_l, q_len_t, q_len_s, q_abs, q_int_i, q_int_b, q_str, q_list_l, q_list_t, q_tuple_l, q_tuple_t, q_repr_l, q_repr_t, ep9]
      refine ⟨bg, 3, 10 + 3 * j, rfl, rfl, by decide, by decide, hB, by omega, fun w1 N1 c1 d1 C1 => ⟨cp9, bg, 10 ^ 9, 11 + 3 * j, rfl, rfl, by decide, by decide, C1.more (by omega), by omega, fun w2 N2 c2 d2 C2 => ⟨by decide, bg, 2, 12 + 3 * j, rfl, rfl, by decide, by decide, C2.more (by omega), by omega, fun w3 N3 c3 d3 C3 => ?_⟩⟩⟩
      have : w3 = 0 ∨ w3 = 1 := by omega
      rcases this with h | h <;> subst h
      · simp only [tv, tk, to2, to1, tbl, tch, tand, tor, tnot, vand, vor, vnot, tif, a0, ac, as_, dtup, dlst, tcb, tcall, sret, sretN, sif, snx, sdrop, sasg, gn, spar, snever, bend, startD, List.map_cons, List.map_nil, List.length_cons, List.length_nil, List.replicate, List.cons_append, List.nil_append, List.append_nil, List.getElem?_cons_zero, List.getElem?_cons_succ, List.set_cons_zero, List.set_cons_succ, Nat.reduceAdd, Nat.reduceSub, Nat.zero_add, tcallK, ro, List.getD_cons_zero, List.getD_cons_succ, true_and, wipeD, Bool.not_true, Bool.not_false, Bool.false_eq_true, if_true, if_false, q_add_i, q_add_s, q_add_l, q_add_t, q_sub, q_mul_i, q_mul_l, q_mul_s, q_div, q_mod, q_pow, q_lt, q_le, q_gt, q_ge, q_eq_i, q_eq_s, q_eq_b, q_ne_i, q_ne_s, q_ne_b, q_eq_l, q_eq_t, q_ne_l, q_ne_t, q_is, q_isnt, isN_int, isN_str, isN_lst, isN_tup, isN_ref, isN_bl, isN_non, q_neg, q_ix_l, q_ix_t, atD_s, at_1_0, at_2_0, at_2_1, at_3_0, at_3_1, at_3_2, at_4_0, at_4_1, at_4_2, at_4_3, q_len_l, q_len_t, q_len_s, q_abs, q_int_i, q_int_b, q_str, q_list_l, q_list_t, q_tuple_l, q_tuple_t, q_repr_l, q_repr_t]
        exact hk _ _ ⟨w1, rfl, c1, by omega⟩ (C3.more (by omega))
      · simp only [tv, tk, to2, to1, tbl, tch, tand, tor, tnot, vand, vor, vnot, tif, a0, ac, as_, dtup, dlst, tcb, tcall, sret, sretN, sif, snx, sdrop, sasg, gn, spar, snever, bend, startD, List.map_cons, List.map_nil, List.length_cons, List.length_nil, List.replicate, List.cons_append, List.nil_append, List.append_nil, List.getElem?_cons_zero, List.getElem?_cons_succ, List.set_cons_zero, List.set_cons_succ, Nat.reduceAdd, Nat.reduceSub, Nat.zero_add, tcallK, ro, List.getD_cons_zero, List.getD_cons_succ, true_and, wipeD, Bool.not_true, Bool.not_false, Bool.false_eq_true, if_true, if_false, q_add_i, q_add_s, q_add_l, q_add_t, q_sub, q_mul_i, q_mul_l, q_mul_s, q_div, q_mod, q_pow, q_lt, q_le, q_gt, q_ge, q_eq_i, q_eq_s, q_eq_b, q_ne_i, q_ne_s, q_ne_b, q_eq_l, q_eq_t, q_ne_l, q_ne_t, q_is, q_isnt, isN_int, isN_str, isN_lst, isN_tup, isN_ref, isN_bl, isN_non, q_neg, q_ix_l, q_ix_t, atD_s, at_1_0, at_2_0, at_2_1, at_3_0, at_3_1, at_3_2, at_4_0, at_4_1, at_4_2, at_4_3, q_len_l, q_len_t, q_len_s, q_abs, q_int_i, q_int_b, q_str, q_list_l, q_list_t, q_tuple_l, q_tuple_t, q_repr_l, q_repr_t]
        exact hk _ _ ⟨w2, rfl, c2, by omega⟩ (C3.more (by omega))
    intro ys M7 hyl hy B7
    rw [rgD_len] at hyl B7
    obtain ⟨st, est, hst, gst⟩ := of_each ys hy
    subst est
    rw [List.nil_append]
    have stl : st.length ≤ 300 := by omega
    have B7 : Bag M7 bg 1000 := B7.more (by omega)
    subst hK4
    refine seq_step fun K5 hK5 => ?_
    simp only [tv, tk, to2, to1, tbl, tch, tand, tor, tnot, vand, vor, vnot, tif, a0, ac, as_, dtup, dlst, tcb, tcall, sret, sretN, sif, snx, sdrop, sasg, gn, spar, snever, bend, startD, List.map_cons, List.map_nil, List.length_cons, List.length_nil, List.replicate, List.cons_append, List.nil_append, List.append_nil, List.getElem?_cons_zero, List.getElem?_cons_succ, List.set_cons_zero, List.set_cons_succ, Nat.reduceAdd, Nat.reduceSub, Nat.zero_add, tcallK, ro, List.getD_cons_zero, List.getD_cons_succ, true_and, wipeD, Bool.not_true, Bool.not_false, Bool.false_eq_true, if_true, if_false, q_add_i, q_add_s, q_add_l, q_add_t, q_sub, q_mul_i, q_mul_l, q_mul_s, q_div, q_mod, q_pow, q_lt, q_le, q_gt, q_ge, q_eq_i, q_eq_s, q_eq_b, q_ne_i, q_ne_s, q_ne_b, q_eq_l, q_eq_t, q_ne_l, q_ne_t, q_is, q_isnt, isN_int, isN_str, isN_lst, isN_tup, isN_ref, isN_bl, isN_non, q_neg, q_ix_l, q_ix_t, atD_s, at_1_0, at_2_0, at_2_1, at_3_0, at_3_1, at_3_2, at_4_0, at_4_1, at_4_2, at_4_3, q_len_l, q_len_t, q_len_s, q_abs, q_int_i, q_int_b, q_str, q_list_l, q_list_t, q_tuple_l, q_tuple_t, q_repr_l, q_repr_t]
    refine ⟨t, ps, rfl, gr, fun M8 l8 => ?_⟩
    simp only [tv, tk, to2, to1, tbl, tch, tand, tor, tnot, vand, vor, vnot, tif, a0, ac, as_, dtup, dlst, tcb, tcall, sret, sretN, sif, snx, sdrop, sasg, gn, spar, snever, bend, startD, List.map_cons, List.map_nil, List.length_cons, List.length_nil, List.replicate, List.cons_append, List.nil_append, List.append_nil, List.getElem?_cons_zero, List.getElem?_cons_succ, List.set_cons_zero, List.set_cons_succ, Nat.reduceAdd, Nat.reduceSub, Nat.zero_add, tcallK, ro, List.getD_cons_zero, List.getD_cons_succ, true_and, wipeD, Bool.not_true, Bool.not_false, Bool.false_eq_true, if_true, if_false, q_add_i, q_add_s, q_add_l, q_add_t, q_sub, q_mul_i, q_mul_l, q_mul_s, q_div, q_mod, q_pow, q_lt, q_le, q_gt, q_ge, q_eq_i, q_eq_s, q_eq_b, q_ne_i, q_ne_s, q_ne_b, q_eq_l, q_eq_t, q_ne_l, q_ne_t, q_is, q_isnt, isN_int, isN_str, isN_lst, isN_tup, isN_ref, isN_bl, isN_non, q_neg, q_ix_l, q_ix_t, atD_s, at_1_0, at_2_0, at_2_1, at_3_0, at_3_1, at_3_2, at_4_0, at_4_1, at_4_2, at_4_3, q_len_l, q_len_t, q_len_s, q_abs, q_int_i, q_int_b, q_str, q_list_l, q_list_t, q_tuple_l, q_tuple_t, q_repr_l, q_repr_t]
    refine ⟨st, rfl, stl, gst, fun M9 l9 => ?_⟩
    simp only [tv, tk, to2, to1, tbl, tch, tand, tor, tnot, vand, vor, vnot, tif, a0, ac, as_, dtup, dlst, tcb, tcall, sret, sretN, sif, snx, sdrop, sasg, gn, spar, snever, bend, startD, List.map_cons, List.map_nil, List.length_cons, List.length_nil, List.replicate, List.cons_append, List.nil_append, List.append_nil, List.getElem?_cons_zero, List.getElem?_cons_succ, List.set_cons_zero, List.set_cons_succ, Nat.reduceAdd, Nat.reduceSub, Nat.zero_add, tcallK, ro, List.getD_cons_zero, List.getD_cons_succ, true_and, wipeD, Bool.not_true, Bool.not_false, Bool.false_eq_true, if_true, if_false, q_add_i, q_add_s, q_add_l, q_add_t, q_sub, q_mul_i, q_mul_l, q_mul_s, q_div, q_mod, q_pow, q_lt, q_le, q_gt, q_ge, q_eq_i, q_eq_s, q_eq_b, q_ne_i, q_ne_s, q_ne_b, q_eq_l, q_eq_t, q_ne_l, q_ne_t, q_is, q_isnt, isN_int, isN_str, isN_lst, isN_tup, isN_ref, isN_bl, isN_non, q_neg, q_ix_l, q_ix_t, atD_s, at_1_0, at_2_0, at_2_1, at_3_0, at_3_1, at_3_2, at_4_0, at_4_1, at_4_2, at_4_3, q_len_l, q_len_t, q_len_s, q_abs, q_int_i, q_int_b, q_str, q_list_l, q_list_t, q_tuple_l, q_tuple_t, q_repr_l, q_repr_t]
    refine ⟨by decide, [], rfl, by decide, (fun n hn => by cases hn), fun M10 l10 => ?_⟩
    simp only [tv, tk, to2, to1, tbl, tch, tand, tor, tnot, vand, vor, vnot, tif, a0, ac, as_, dtup, dlst, tcb, tcall, sret, sretN, sif, snx, sdrop, sasg, gn, spar, snever, bend, startD, List.map_cons, List.map_nil, List.length_cons, List.length_nil, List.replicate, List.cons_append, List.nil_append, List.append_nil, List.getElem?_cons_zero, List.getElem?_cons_succ, List.set_cons_zero, List.set_cons_succ, Nat.reduceAdd, Nat.reduceSub, Nat.zero_add, tcallK, ro, List.getD_cons_zero, List.getD_cons_succ, true_and, wipeD, Bool.not_true, Bool.not_false, Bool.false_eq_true, if_true, if_false, q_add_i, q_add_s, q_add_l, q_add_t, q_sub, q_mul_i, q_mul_l, q_mul_s, q_div, q_mod, q_pow, q_lt, q_le, q_gt, q_ge, q_eq_i, q_eq_s, q_eq_b, q_ne_i, q_ne_s, q_ne_b, q_eq_l, q_eq_t, q_ne_l, q_ne_t, q_is, q_isnt, isN_int, isN_str, isN_lst, isN_tup, isN_ref, isN_bl, isN_non, q_neg, q_ix_l, q_ix_t, atD_s, at_1_0, at_2_0, at_2_1, at_3_0, at_3_1, at_3_2, at_4_0, at_4_1, at_4_2, at_4_3, q_len_l, q_len_t, q_len_s, q_abs, q_int_i, q_int_b, q_str, q_list_l, q_list_t, q_tuple_l, q_tuple_t, q_repr_l, q_repr_t]
    have B10 : Bag M10 bg 1000 := ((B7.mle l8).mle l9).mle l10
    clear B7 l8 l9 l10 gst
    subst hK5
    refine seq_step fun K6 hK6 => ?_
    simp only [tv, tk, to2, to1, tbl, tch, tand, tor, tnot, vand, vor, vnot, tif, a0, ac, as_, dtup, dlst, tcb, tcall, sret, sretN, sif, snx, sdrop, sasg, gn, spar, snever, bend, startD, List.map_cons, List.map_nil, List.length_cons, List.length_nil, List.replicate, List.cons_append, List.nil_append, List.append_nil, List.getElem?_cons_zero, List.getElem?_cons_succ, List.set_cons_zero, List.set_cons_succ, Nat.reduceAdd, Nat.reduceSub, Nat.zero_add, tcallK, ro, List.getD_cons_zero, List.getD_cons_succ, true_and, wipeD, Bool.not_true, Bool.not_false, Bool.false_eq_true, if_true, if_false, q_add_i, q_add_s, q_add_l, q_add_t, q_sub, q_mul_i, q_mul_l, q_mul_s, q_div, q_mod, q_pow, q_lt, q_le, q_gt, q_ge, q_eq_i, q_eq_s, q_eq_b, q_ne_i, q_ne_s, q_ne_b, q_eq_l, q_eq_t, q_ne_l, q_ne_t, q_is, q_isnt, isN_int, isN_str, isN_lst, isN_tup, isN_ref, isN_bl, isN_non, q_neg, q_ix_l, q_ix_t, atD_s, at_1_0, at_2_0, at_2_1, at_3_0, at_3_1, at_3_2, at_4_0, at_4_1, at_4_2, at_4_3, q_len_l, q_len_t, q_len_s, q_abs, q_int_i, q_int_b, q_str, q_list_l, q_list_t, q_tuple_l, q_tuple_t, q_repr_l, q_repr_t, tlc, itup, rowD]
    refine compD_s 5 (Iv := fun j N => Bag N bg (1000 + 6 * j)) (P := fun y => ∃ f, y = fracD f ∧ (GoodF f ∧ f.1.natAbs < 10 ^ 9 ∧ f.2.natAbs < 10 ^ 9)) (ps.map D.int) 0 [] M10 (fun d _ j N hj hB k hk => ?_) (by rw [List.length_map]; show 0 + _ ≤ 16777216; omega) (by rw [List.length_map]; omega) B10 ?_
    · simp only [tv, tk, to2, to1, tbl, tch, tand, tor, tnot, vand, vor, vnot, tif, a0, ac, as_, dtup, dlst, tcb, tcall, sret, sretN, sif, snx, sdrop, sasg, gn, spar, snever, bend, startD, List.map_cons, List.map_nil, List.length_cons, List.length_nil, List.replicate, List.cons_append, List.nil_append, List.append_nil, List.getElem?_cons_zero, List.getElem?_cons_succ, List.set_cons_zero, List.set_cons_succ, Nat.reduceAdd, Nat.reduceSub, Nat.zero_add, tcallK, ro, List.getD_cons_zero, List.getD_cons_succ, true_and, wipeD, Bool.not_true, Bool.not_false, Bool.false_eq_true, if_true, if_false, q_add_i, q_add_s, q_add_l, q_add_t, q_sub, q_mul_i, q_mul_l, q_mul_s, q_div, q_mod, q_pow, q_lt, q_le, q_gt, q_ge, q_eq_i, q_eq_s, q_eq_b, q_ne_i, q_ne_s, q_ne_b, q_eq_l, q_eq_t, q_ne_l, q_ne_t, q_is, q_isnt, isN_int, isN_str, isN_lst, isN_tup, isN_ref, isN_bl, isN_non, q_neg, q_ix_l, q_ix_t, atD_s, at_1_0, at_2_0, at_2_1, at_3_0, at_3_1, at_3_2, at_4_0, at_4_1, at_4_2, at_4_3, q_len_l, q_len_t, q_len_s, q_abs, q_int_i, q_int_b, q_str, q_list_l, q_list_t, q_tuple_l, q_tuple_t, q_repr_l, q_repr_t]
      exact ⟨bg, 1000 + 6 * j, rfl, hB, by omega, fun f N1 gf C1 => hk _ _ ⟨f, rfl, gf⟩ (C1.more (by omega))⟩
    intro ys M11 hyl hy B11
    rw [List.length_map] at hyl B11
    obtain ⟨fs, efs, hfs, gfs⟩ := of_each ys hy
    subst efs
    simp only [tv, tk, to2, to1, tbl, tch, tand, tor, tnot, vand, vor, vnot, tif, a0, ac, as_, dtup, dlst, tcb, tcall, sret, sretN, sif, snx, sdrop, sasg, gn, spar, snever, bend, startD, List.map_cons, List.map_nil, List.length_cons, List.length_nil, List.replicate, List.cons_append, List.nil_append, List.append_nil, List.getElem?_cons_zero, List.getElem?_cons_succ, List.set_cons_zero, List.set_cons_succ, Nat.reduceAdd, Nat.reduceSub, Nat.zero_add, tcallK, ro, List.getD_cons_zero, List.getD_cons_succ, true_and, wipeD, Bool.not_true, Bool.not_false, Bool.false_eq_true, if_true, if_false, q_add_i, q_add_s, q_add_l, q_add_t, q_sub, q_mul_i, q_mul_l, q_mul_s, q_div, q_mod, q_pow, q_lt, q_le, q_gt, q_ge, q_eq_i, q_eq_s, q_eq_b, q_ne_i, q_ne_s, q_ne_b, q_eq_l, q_eq_t, q_ne_l, q_ne_t, q_is, q_isnt, isN_int, isN_str, isN_lst, isN_tup, isN_ref, isN_bl, isN_non, q_neg, q_ix_l, q_ix_t, atD_s, at_1_0, at_2_0, at_2_1, at_3_0, at_3_1, at_3_2, at_4_0, at_4_1, at_4_2, at_4_3, q_len_l, q_len_t, q_len_s, q_abs, q_int_i, q_int_b, q_str, q_list_l, q_list_t, q_tuple_l, q_tuple_t, q_repr_l, q_repr_t]
    have B11 : Bag M11 bg 2000 := B11.more (by omega)
    refine ⟨t, ps, fs, rfl, rfl, gr, by omega, gfs, fun M12 l12 => ?_⟩
    simp only [tv, tk, to2, to1, tbl, tch, tand, tor, tnot, vand, vor, vnot, tif, a0, ac, as_, dtup, dlst, tcb, tcall, sret, sretN, sif, snx, sdrop, sasg, gn, spar, snever, bend, startD, List.map_cons, List.map_nil, List.length_cons, List.length_nil, List.replicate, List.cons_append, List.nil_append, List.append_nil, List.getElem?_cons_zero, List.getElem?_cons_succ, List.set_cons_zero, List.set_cons_succ, Nat.reduceAdd, Nat.reduceSub, Nat.zero_add, tcallK, ro, List.getD_cons_zero, List.getD_cons_succ, true_and, wipeD, Bool.not_true, Bool.not_false, Bool.false_eq_true, if_true, if_false, q_add_i, q_add_s, q_add_l, q_add_t, q_sub, q_mul_i, q_mul_l, q_mul_s, q_div, q_mod, q_pow, q_lt, q_le, q_gt, q_ge, q_eq_i, q_eq_s, q_eq_b, q_ne_i, q_ne_s, q_ne_b, q_eq_l, q_eq_t, q_ne_l, q_ne_t, q_is, q_isnt, isN_int, isN_str, isN_lst, isN_tup, isN_ref, isN_bl, isN_non, q_neg, q_ix_l, q_ix_t, atD_s, at_1_0, at_2_0, at_2_1, at_3_0, at_3_1, at_3_2, at_4_0, at_4_1, at_4_2, at_4_3, q_len_l, q_len_t, q_len_s, q_abs, q_int_i, q_int_b, q_str, q_list_l, q_list_t, q_tuple_l, q_tuple_t, q_repr_l, q_repr_t]
    have B12 : Bag M12 bg 2000 := B11.mle l12
    subst hK6
    refine seq_step fun K7 hK7 => ?_
    simp only [tv, tk, to2, to1, tbl, tch, tand, tor, tnot, vand, vor, vnot, tif, a0, ac, as_, dtup, dlst, tcb, tcall, sret, sretN, sif, snx, sdrop, sasg, gn, spar, snever, bend, startD, List.map_cons, List.map_nil, List.length_cons, List.length_nil, List.replicate, List.cons_append, List.nil_append, List.append_nil, List.getElem?_cons_zero, List.getElem?_cons_succ, List.set_cons_zero, List.set_cons_succ, Nat.reduceAdd, Nat.reduceSub, Nat.zero_add, tcallK, ro, List.getD_cons_zero, List.getD_cons_succ, true_and, wipeD, Bool.not_true, Bool.not_false, Bool.false_eq_true, if_true, if_false, q_add_i, q_add_s, q_add_l, q_add_t, q_sub, q_mul_i, q_mul_l, q_mul_s, q_div, q_mod, q_pow, q_lt, q_le, q_gt, q_ge, q_eq_i, q_eq_s, q_eq_b, q_ne_i, q_ne_s, q_ne_b, q_eq_l, q_eq_t, q_ne_l, q_ne_t, q_is, q_isnt, isN_int, isN_str, isN_lst, isN_tup, isN_ref, isN_bl, isN_non, q_neg, q_ix_l, q_ix_t, atD_s, at_1_0, at_2_0, at_2_1, at_3_0, at_3_1, at_3_2, at_4_0, at_4_1, at_4_2, at_4_3, q_len_l, q_len_t, q_len_s, q_abs, q_int_i, q_int_b, q_str, q_list_l, q_list_t, q_tuple_l, q_tuple_t, q_repr_l, q_repr_t, ep29, ep9]
    refine ⟨cp29, cp9, bg, 10 ^ 9, 2000, rfl, rfl, by decide, by decide, B12, by decide, fun w M13 w0 w1 B13 => ?_⟩
    simp only [tv, tk, to2, to1, tbl, tch, tand, tor, tnot, vand, vor, vnot, tif, a0, ac, as_, dtup, dlst, tcb, tcall, sret, sretN, sif, snx, sdrop, sasg, gn, spar, snever, bend, startD, List.map_cons, List.map_nil, List.length_cons, List.length_nil, List.replicate, List.cons_append, List.nil_append, List.append_nil, List.getElem?_cons_zero, List.getElem?_cons_succ, List.set_cons_zero, List.set_cons_succ, Nat.reduceAdd, Nat.reduceSub, Nat.zero_add, tcallK, ro, List.getD_cons_zero, List.getD_cons_succ, true_and, wipeD, Bool.not_true, Bool.not_false, Bool.false_eq_true, if_true, if_false, q_add_i, q_add_s, q_add_l, q_add_t, q_sub, q_mul_i, q_mul_l, q_mul_s, q_div, q_mod, q_pow, q_lt, q_le, q_gt, q_ge, q_eq_i, q_eq_s, q_eq_b, q_ne_i, q_ne_s, q_ne_b, q_eq_l, q_eq_t, q_ne_l, q_ne_t, q_is, q_isnt, isN_int, isN_str, isN_lst, isN_tup, isN_ref, isN_bl, isN_non, q_neg, q_ix_l, q_ix_t, atD_s, at_1_0, at_2_0, at_2_1, at_3_0, at_3_1, at_3_2, at_4_0, at_4_1, at_4_2, at_4_3, q_len_l, q_len_t, q_len_s, q_abs, q_int_i, q_int_b, q_str, q_list_l, q_list_t, q_tuple_l, q_tuple_t, q_repr_l, q_repr_t, tlc, irng1, List.length_map]
    refine ⟨by decide, by decide, by omega, ?_⟩
    unfold rgD
    refine compD_n (f := fun (k : Nat) => D.int (0 + (k : Int))) (r := fun (k : Nat) => fracD ((0 : Int) - 10 ^ 12 - (0 + (k : Int)), (1 : Int))) (List.range ((ps.length : Int) - 1 - 0).toNat) [] (fun p hp k hk => ?_) (by rw [List.length_range]; show 0 + _ ≤ 16777216; omega) ?_
    · simp only [tv, tk, to2, to1, tbl, tch, tand, tor, tnot, vand, vor, vnot, tif, a0, ac, as_, dtup, dlst, tcb, tcall, sret, sretN, sif, snx, sdrop, sasg, gn, spar, snever, bend, startD, List.map_cons, List.map_nil, List.length_cons, List.length_nil, List.replicate, List.cons_append, List.nil_append, List.append_nil, List.getElem?_cons_zero, List.getElem?_cons_succ, List.set_cons_zero, List.set_cons_succ, Nat.reduceAdd, Nat.reduceSub, Nat.zero_add, tcallK, ro, List.getD_cons_zero, List.getD_cons_succ, true_and, wipeD, Bool.not_true, Bool.not_false, Bool.false_eq_true, if_true, if_false, q_add_i, q_add_s, q_add_l, q_add_t, q_sub, q_mul_i, q_mul_l, q_mul_s, q_div, q_mod, q_pow, q_lt, q_le, q_gt, q_ge, q_eq_i, q_eq_s, q_eq_b, q_ne_i, q_ne_s, q_ne_b, q_eq_l, q_eq_t, q_ne_l, q_ne_t, q_is, q_isnt, isN_int, isN_str, isN_lst, isN_tup, isN_ref, isN_bl, isN_non, q_neg, q_ix_l, q_ix_t, atD_s, at_1_0, at_2_0, at_2_1, at_3_0, at_3_1, at_3_2, at_4_0, at_4_1, at_4_2, at_4_3, q_len_l, q_len_t, q_len_s, q_abs, q_int_i, q_int_b, q_str, q_list_l, q_list_t, q_tuple_l, q_tuple_t, q_repr_l, q_repr_t, ep12]
      exact ⟨cp12, by decide, hk⟩
    simp only [tv, tk, to2, to1, tbl, tch, tand, tor, tnot, vand, vor, vnot, tif, a0, ac, as_, dtup, dlst, tcb, tcall, sret, sretN, sif, snx, sdrop, sasg, gn, spar, snever, bend, startD, List.map_cons, List.map_nil, List.length_cons, List.length_nil, List.replicate, List.cons_append, List.nil_append, List.append_nil, List.getElem?_cons_zero, List.getElem?_cons_succ, List.set_cons_zero, List.set_cons_succ, Nat.reduceAdd, Nat.reduceSub, Nat.zero_add, tcallK, ro, List.getD_cons_zero, List.getD_cons_succ, true_and, wipeD, Bool.not_true, Bool.not_false, Bool.false_eq_true, if_true, if_false, q_add_i, q_add_s, q_add_l, q_add_t, q_sub, q_mul_i, q_mul_l, q_mul_s, q_div, q_mod, q_pow, q_lt, q_le, q_gt, q_ge, q_eq_i, q_eq_s, q_eq_b, q_ne_i, q_ne_s, q_ne_b, q_eq_l, q_eq_t, q_ne_l, q_ne_t, q_is, q_isnt, isN_int, isN_str, isN_lst, isN_tup, isN_ref, isN_bl, isN_non, q_neg, q_ix_l, q_ix_t, atD_s, at_1_0, at_2_0, at_2_1, at_3_0, at_3_1, at_3_2, at_4_0, at_4_1, at_4_2, at_4_3, q_len_l, q_len_t, q_len_s, q_abs, q_int_i, q_int_b, q_str, q_list_l, q_list_t, q_tuple_l, q_tuple_t, q_repr_l, q_repr_t]
    refine ⟨by rw [List.length_map, List.length_range]; omega, ?_⟩
    obtain ⟨gn1, hgn1⟩ : ∃ n, n = ((ps.length : Int) - 1 - 0).toNat := ⟨_, rfl⟩
    rw [← hgn1]
    obtain ⟨g1, hg1⟩ : ∃ g, g = (10 ^ 29 + w, (1 : Int)) :: (List.range gn1).map (fun (k : Nat) => ((0 : Int) - 10 ^ 12 - (0 + (k : Int)), (1 : Int))) := ⟨_, rfl⟩
    have eg1 : D.tup [D.int (10 ^ 29 + w), D.int 1] :: (List.range gn1).map (fun (k : Nat) => fracD ((0 : Int) - 10 ^ 12 - (0 + (k : Int)), (1 : Int))) = g1.map fracD := by
      rw [hg1, List.map_cons, List.map_map]; rfl
    have good1 : ∀ f ∈ g1, (GoodF f ∧ SmallF f) ∧ f.2 = 1 := by rw [hg1]; exact great1 w0 w1 (by omega)
    have len1 : g1.length = ps.length := by rw [hg1, List.length_cons, List.length_map, List.length_range]; omega
    rw [eg1]
    clear eg1 hg1
    subst hK7
    refine seq_step fun K8 hK8 => ?_
    simp only [tv, tk, to2, to1, tbl, tch, tand, tor, tnot, vand, vor, vnot, tif, a0, ac, as_, dtup, dlst, tcb, tcall, sret, sretN, sif, snx, sdrop, sasg, gn, spar, snever, bend, startD, List.map_cons, List.map_nil, List.length_cons, List.length_nil, List.replicate, List.cons_append, List.nil_append, List.append_nil, List.getElem?_cons_zero, List.getElem?_cons_succ, List.set_cons_zero, List.set_cons_succ, Nat.reduceAdd, Nat.reduceSub, Nat.zero_add, tcallK, ro, List.getD_cons_zero, List.getD_cons_succ, true_and, wipeD, Bool.not_true, Bool.not_false, Bool.false_eq_true, if_true, if_false, q_add_i, q_add_s, q_add_l, q_add_t, q_sub, q_mul_i, q_mul_l, q_mul_s, q_div, q_mod, q_pow, q_lt, q_le, q_gt, q_ge, q_eq_i, q_eq_s, q_eq_b, q_ne_i, q_ne_s, q_ne_b, q_eq_l, q_eq_t, q_ne_l, q_ne_t, q_is, q_isnt, isN_int, isN_str, isN_lst, isN_tup, isN_ref, isN_bl, isN_non, q_neg, q_ix_l, q_ix_t, atD_s, at_1_0, at_2_0, at_2_1, at_3_0, at_3_1, at_3_2, at_4_0, at_4_1, at_4_2, at_4_3, q_len_l, q_len_t, q_len_s, q_abs, q_int_i, q_int_b, q_str, q_list_l, q_list_t, q_tuple_l, q_tuple_t, q_repr_l, q_repr_t]
    refine ⟨t, ps, g1, rfl, rfl, gr, len1, fun f hf => (good1 f hf).1, ?_⟩
    simp only [tv, tk, to2, to1, tbl, tch, tand, tor, tnot, vand, vor, vnot, tif, a0, ac, as_, dtup, dlst, tcb, tcall, sret, sretN, sif, snx, sdrop, sasg, gn, spar, snever, bend, startD, List.map_cons, List.map_nil, List.length_cons, List.length_nil, List.replicate, List.cons_append, List.nil_append, List.append_nil, List.getElem?_cons_zero, List.getElem?_cons_succ, List.set_cons_zero, List.set_cons_succ, Nat.reduceAdd, Nat.reduceSub, Nat.zero_add, tcallK, ro, List.getD_cons_zero, List.getD_cons_succ, true_and, wipeD, Bool.not_true, Bool.not_false, Bool.false_eq_true, if_true, if_false, q_add_i, q_add_s, q_add_l, q_add_t, q_sub, q_mul_i, q_mul_l, q_mul_s, q_div, q_mod, q_pow, q_lt, q_le, q_gt, q_ge, q_eq_i, q_eq_s, q_eq_b, q_ne_i, q_ne_s, q_ne_b, q_eq_l, q_eq_t, q_ne_l, q_ne_t, q_is, q_isnt, isN_int, isN_str, isN_lst, isN_tup, isN_ref, isN_bl, isN_non, q_neg, q_ix_l, q_ix_t, atD_s, at_1_0, at_2_0, at_2_1, at_3_0, at_3_1, at_3_2, at_4_0, at_4_1, at_4_2, at_4_3, q_len_l, q_len_t, q_len_s, q_abs, q_int_i, q_int_b, q_str, q_list_l, q_list_t, q_tuple_l, q_tuple_t, q_repr_l, q_repr_t, tms, tlc, iseq]
    refine compD_n (f := fracD) (r := fun f => D.str (numT f.1)) g1 [] (fun f hf k hk => ?_) (by rw [List.length_nil, Nat.zero_add]; omega) ?_
    · simp only [fracD, tv, tk, to2, to1, tbl, tch, tand, tor, tnot, vand, vor, vnot, tif, a0, ac, as_, dtup, dlst, tcb, tcall, sret, sretN, sif, snx, sdrop, sasg, gn, spar, snever, bend, startD, List.map_cons, List.map_nil, List.length_cons, List.length_nil, List.replicate, List.cons_append, List.nil_append, List.append_nil, List.getElem?_cons_zero, List.getElem?_cons_succ, List.set_cons_zero, List.set_cons_succ, Nat.reduceAdd, Nat.reduceSub, Nat.zero_add, tcallK, ro, List.getD_cons_zero, List.getD_cons_succ, true_and, wipeD, Bool.not_true, Bool.not_false, Bool.false_eq_true, if_true, if_false, q_add_i, q_add_s, q_add_l, q_add_t, q_sub, q_mul_i, q_mul_l, q_mul_s, q_div, q_mod, q_pow, q_lt, q_le, q_gt, q_ge, q_eq_i, q_eq_s, q_eq_b, q_ne_i, q_ne_s, q_ne_b, q_eq_l, q_eq_t, q_ne_l, q_ne_t, q_is, q_isnt, isN_int, isN_str, isN_lst, isN_tup, isN_ref, isN_bl, isN_non, q_neg, q_ix_l, q_ix_t, atD_s, at_1_0, at_2_0, at_2_1, at_3_0, at_3_1, at_3_2, at_4_0, at_4_1, at_4_2, at_4_3, q_len_l, q_len_t, q_len_s, q_abs, q_int_i, q_int_b, q_str, q_list_l, q_list_t, q_tuple_l, q_tuple_t, q_repr_l, q_repr_t]
      exact ⟨log2_10 (good1 f hf).1.2.a (by decide), hk⟩
    simp only [tv, tk, to2, to1, tbl, tch, tand, tor, tnot, vand, vor, vnot, tif, a0, ac, as_, dtup, dlst, tcb, tcall, sret, sretN, sif, snx, sdrop, sasg, gn, spar, snever, bend, startD, List.map_cons, List.map_nil, List.length_cons, List.length_nil, List.replicate, List.cons_append, List.nil_append, List.append_nil, List.getElem?_cons_zero, List.getElem?_cons_succ, List.set_cons_zero, List.set_cons_succ, Nat.reduceAdd, Nat.reduceSub, Nat.zero_add, tcallK, ro, List.getD_cons_zero, List.getD_cons_succ, true_and, wipeD, Bool.not_true, Bool.not_false, Bool.false_eq_true, if_true, if_false, q_add_i, q_add_s, q_add_l, q_add_t, q_sub, q_mul_i, q_mul_l, q_mul_s, q_div, q_mod, q_pow, q_lt, q_le, q_gt, q_ge, q_eq_i, q_eq_s, q_eq_b, q_ne_i, q_ne_s, q_ne_b, q_eq_l, q_eq_t, q_ne_l, q_ne_t, q_is, q_isnt, isN_int, isN_str, isN_lst, isN_tup, isN_ref, isN_bl, isN_non, q_neg, q_ix_l, q_ix_t, atD_s, at_1_0, at_2_0, at_2_1, at_3_0, at_3_1, at_3_2, at_4_0, at_4_1, at_4_2, at_4_3, q_len_l, q_len_t, q_len_s, q_abs, q_int_i, q_int_b, q_str, q_list_l, q_list_t, q_tuple_l, q_tuple_t, q_repr_l, q_repr_t]
    rw [q_join (strsOf_nums _ _)]
    have em1 : g1.map (fun f => numT f.1) = g1.map fracT := List.map_congr_left fun f hf => (fracT_one (good1 f hf).2).symm
    rw [em1]
    refine ⟨fracs_sum (fun f hf => (good1 f hf).1.2) (by omega), ?_⟩
    rw [show Txt.join (Str.ofString " ") (g1.map fracT) = phT g1 from rfl]
    simp only [tv, tk, to2, to1, tbl, tch, tand, tor, tnot, vand, vor, vnot, tif, a0, ac, as_, dtup, dlst, tcb, tcall, sret, sretN, sif, snx, sdrop, sasg, gn, spar, snever, bend, startD, List.map_cons, List.map_nil, List.length_cons, List.length_nil, List.replicate, List.cons_append, List.nil_append, List.append_nil, List.getElem?_cons_zero, List.getElem?_cons_succ, List.set_cons_zero, List.set_cons_succ, Nat.reduceAdd, Nat.reduceSub, Nat.zero_add, tcallK, ro, List.getD_cons_zero, List.getD_cons_succ, true_and, wipeD, Bool.not_true, Bool.not_false, Bool.false_eq_true, if_true, if_false, q_add_i, q_add_s, q_add_l, q_add_t, q_sub, q_mul_i, q_mul_l, q_mul_s, q_div, q_mod, q_pow, q_lt, q_le, q_gt, q_ge, q_eq_i, q_eq_s, q_eq_b, q_ne_i, q_ne_s, q_ne_b, q_eq_l, q_eq_t, q_ne_l, q_ne_t, q_is, q_isnt, isN_int, isN_str, isN_lst, isN_tup, isN_ref, isN_bl, isN_non, q_neg, q_ix_l, q_ix_t, atD_s, at_1_0, at_2_0, at_2_1, at_3_0, at_3_1, at_3_2, at_4_0, at_4_1, at_4_2, at_4_3, q_len_l, q_len_t, q_len_s, q_abs, q_int_i, q_int_b, q_str, q_list_l, q_list_t, q_tuple_l, q_tuple_t, q_repr_l, q_repr_t, decide_true]
    clear em1 good1 len1
    subst hK8
    refine seq_step fun K9 hK9 => ?_
    simp only [tv, tk, to2, to1, tbl, tch, tand, tor, tnot, vand, vor, vnot, tif, a0, ac, as_, dtup, dlst, tcb, tcall, sret, sretN, sif, snx, sdrop, sasg, gn, spar, snever, bend, startD, List.map_cons, List.map_nil, List.length_cons, List.length_nil, List.replicate, List.cons_append, List.nil_append, List.append_nil, List.getElem?_cons_zero, List.getElem?_cons_succ, List.set_cons_zero, List.set_cons_succ, Nat.reduceAdd, Nat.reduceSub, Nat.zero_add, tcallK, ro, List.getD_cons_zero, List.getD_cons_succ, true_and, wipeD, Bool.not_true, Bool.not_false, Bool.false_eq_true, if_true, if_false, q_add_i, q_add_s, q_add_l, q_add_t, q_sub, q_mul_i, q_mul_l, q_mul_s, q_div, q_mod, q_pow, q_lt, q_le, q_gt, q_ge, q_eq_i, q_eq_s, q_eq_b, q_ne_i, q_ne_s, q_ne_b, q_eq_l, q_eq_t, q_ne_l, q_ne_t, q_is, q_isnt, isN_int, isN_str, isN_lst, isN_tup, isN_ref, isN_bl, isN_non, q_neg, q_ix_l, q_ix_t, atD_s, at_1_0, at_2_0, at_2_1, at_3_0, at_3_1, at_3_2, at_4_0, at_4_1, at_4_2, at_4_3, q_len_l, q_len_t, q_len_s, q_abs, q_int_i, q_int_b, q_str, q_list_l, q_list_t, q_tuple_l, q_tuple_t, q_repr_l, q_repr_t, ep9]
    refine ⟨cp9, cp9, bg, 10 ^ 9, 2001, rfl, rfl, by decide, by decide, B13, by decide, fun u M14 u0 u1 B14 => ?_⟩
    simp only [tv, tk, to2, to1, tbl, tch, tand, tor, tnot, vand, vor, vnot, tif, a0, ac, as_, dtup, dlst, tcb, tcall, sret, sretN, sif, snx, sdrop, sasg, gn, spar, snever, bend, startD, List.map_cons, List.map_nil, List.length_cons, List.length_nil, List.replicate, List.cons_append, List.nil_append, List.append_nil, List.getElem?_cons_zero, List.getElem?_cons_succ, List.set_cons_zero, List.set_cons_succ, Nat.reduceAdd, Nat.reduceSub, Nat.zero_add, tcallK, ro, List.getD_cons_zero, List.getD_cons_succ, true_and, wipeD, Bool.not_true, Bool.not_false, Bool.false_eq_true, if_true, if_false, q_add_i, q_add_s, q_add_l, q_add_t, q_sub, q_mul_i, q_mul_l, q_mul_s, q_div, q_mod, q_pow, q_lt, q_le, q_gt, q_ge, q_eq_i, q_eq_s, q_eq_b, q_ne_i, q_ne_s, q_ne_b, q_eq_l, q_eq_t, q_ne_l, q_ne_t, q_is, q_isnt, isN_int, isN_str, isN_lst, isN_tup, isN_ref, isN_bl, isN_non, q_neg, q_ix_l, q_ix_t, atD_s, at_1_0, at_2_0, at_2_1, at_3_0, at_3_1, at_3_2, at_4_0, at_4_1, at_4_2, at_4_3, q_len_l, q_len_t, q_len_s, q_abs, q_int_i, q_int_b, q_str, q_list_l, q_list_t, q_tuple_l, q_tuple_t, q_repr_l, q_repr_t]
    obtain ⟨b, hb⟩ : ∃ b, b = (10 : Int) ^ 9 + u := ⟨_, rfl⟩
    have hb0 : (10 : Int) ^ 9 ≤ b := by omega
    have hb1 : b < 2 * 10 ^ 9 := by omega
    rw [← hb]
    clear hb
    have cmb : CMulX b (10 ^ 12) := (cm 31 40 (by omega) (by decide) (by decide)).1
    have cmb2 : CMulX b (10 ^ 20) := (cm 31 67 (by omega) (by decide) (by decide)).1
    subst hK9
    refine seq_step fun K10 hK10 => ?_
    simp only [tv, tk, to2, to1, tbl, tch, tand, tor, tnot, vand, vor, vnot, tif, a0, ac, as_, dtup, dlst, tcb, tcall, sret, sretN, sif, snx, sdrop, sasg, gn, spar, snever, bend, startD, List.map_cons, List.map_nil, List.length_cons, List.length_nil, List.replicate, List.cons_append, List.nil_append, List.append_nil, List.getElem?_cons_zero, List.getElem?_cons_succ, List.set_cons_zero, List.set_cons_succ, Nat.reduceAdd, Nat.reduceSub, Nat.zero_add, tcallK, ro, List.getD_cons_zero, List.getD_cons_succ, true_and, wipeD, Bool.not_true, Bool.not_false, Bool.false_eq_true, if_true, if_false, q_add_i, q_add_s, q_add_l, q_add_t, q_sub, q_mul_i, q_mul_l, q_mul_s, q_div, q_mod, q_pow, q_lt, q_le, q_gt, q_ge, q_eq_i, q_eq_s, q_eq_b, q_ne_i, q_ne_s, q_ne_b, q_eq_l, q_eq_t, q_ne_l, q_ne_t, q_is, q_isnt, isN_int, isN_str, isN_lst, isN_tup, isN_ref, isN_bl, isN_non, q_neg, q_ix_l, q_ix_t, atD_s, at_1_0, at_2_0, at_2_1, at_3_0, at_3_1, at_3_2, at_4_0, at_4_1, at_4_2, at_4_3, q_len_l, q_len_t, q_len_s, q_abs, q_int_i, q_int_b, q_str, q_list_l, q_list_t, q_tuple_l, q_tuple_t, q_repr_l, q_repr_t, ep12, ep30, List.length_map]
    refine ⟨by decide, cp12, cmb, by decide, by decide, cp30, cp30, by decide, by decide, by omega, by omega, by omega, ?_⟩
    obtain ⟨gn2, hgn2⟩ : ∃ n, n = ((ps.length : Int) - 2).toNat := ⟨_, rfl⟩
    rw [← hgn2]
    obtain ⟨g2, hg2⟩ : ∃ g, g = [((1 : Int), b), (0 - b * 10 ^ 12 - 1, b)] ++ List.replicate gn2 ((10 : Int) ^ 30 + 1, (10 : Int) ^ 30) := ⟨_, rfl⟩
    have flat : ∀ (n : Nat) (x : D), (List.replicate n [x]).flatten = List.replicate n x := fun n x => by
      induction n with
      | zero => rfl
      | succ n ih => rw [List.replicate_succ, List.flatten_cons, ih, List.replicate_succ]; rfl
    rw [flat]
    have eg2 : D.tup [D.int 1, D.int b] :: D.tup [D.int (0 - b * 10 ^ 12 - 1), D.int b] :: List.replicate gn2 (D.tup [D.int (10 ^ 30 + 1), D.int (10 ^ 30)]) = g2.map fracD := by
      rw [hg2, List.map_append, List.map_replicate]; rfl
    have good2 : ∀ f ∈ g2, (GoodF f ∧ SmallF f) ∧ f.2 ≠ 1 := by rw [hg2]; exact great2 hb0 hb1
    have len2 : g2.length = ps.length := by rw [hg2, List.length_append, List.length_replicate]; show 2 + gn2 = _; omega
    rw [eg2]
    refine ⟨by rw [List.length_replicate]; omega, ?_⟩
    clear eg2 hg2
    subst hK10
    refine seq_step fun K11 hK11 => ?_
    simp only [tv, tk, to2, to1, tbl, tch, tand, tor, tnot, vand, vor, vnot, tif, a0, ac, as_, dtup, dlst, tcb, tcall, sret, sretN, sif, snx, sdrop, sasg, gn, spar, snever, bend, startD, List.map_cons, List.map_nil, List.length_cons, List.length_nil, List.replicate, List.cons_append, List.nil_append, List.append_nil, List.getElem?_cons_zero, List.getElem?_cons_succ, List.set_cons_zero, List.set_cons_succ, Nat.reduceAdd, Nat.reduceSub, Nat.zero_add, tcallK, ro, List.getD_cons_zero, List.getD_cons_succ, true_and, wipeD, Bool.not_true, Bool.not_false, Bool.false_eq_true, if_true, if_false, q_add_i, q_add_s, q_add_l, q_add_t, q_sub, q_mul_i, q_mul_l, q_mul_s, q_div, q_mod, q_pow, q_lt, q_le, q_gt, q_ge, q_eq_i, q_eq_s, q_eq_b, q_ne_i, q_ne_s, q_ne_b, q_eq_l, q_eq_t, q_ne_l, q_ne_t, q_is, q_isnt, isN_int, isN_str, isN_lst, isN_tup, isN_ref, isN_bl, isN_non, q_neg, q_ix_l, q_ix_t, atD_s, at_1_0, at_2_0, at_2_1, at_3_0, at_3_1, at_3_2, at_4_0, at_4_1, at_4_2, at_4_3, q_len_l, q_len_t, q_len_s, q_abs, q_int_i, q_int_b, q_str, q_list_l, q_list_t, q_tuple_l, q_tuple_t, q_repr_l, q_repr_t]
    refine ⟨t, ps, g2, rfl, rfl, gr, len2, fun f hf => (good2 f hf).1, ?_⟩
    simp only [tv, tk, to2, to1, tbl, tch, tand, tor, tnot, vand, vor, vnot, tif, a0, ac, as_, dtup, dlst, tcb, tcall, sret, sretN, sif, snx, sdrop, sasg, gn, spar, snever, bend, startD, List.map_cons, List.map_nil, List.length_cons, List.length_nil, List.replicate, List.cons_append, List.nil_append, List.append_nil, List.getElem?_cons_zero, List.getElem?_cons_succ, List.set_cons_zero, List.set_cons_succ, Nat.reduceAdd, Nat.reduceSub, Nat.zero_add, tcallK, ro, List.getD_cons_zero, List.getD_cons_succ, true_and, wipeD, Bool.not_true, Bool.not_false, Bool.false_eq_true, if_true, if_false, q_add_i, q_add_s, q_add_l, q_add_t, q_sub, q_mul_i, q_mul_l, q_mul_s, q_div, q_mod, q_pow, q_lt, q_le, q_gt, q_ge, q_eq_i, q_eq_s, q_eq_b, q_ne_i, q_ne_s, q_ne_b, q_eq_l, q_eq_t, q_ne_l, q_ne_t, q_is, q_isnt, isN_int, isN_str, isN_lst, isN_tup, isN_ref, isN_bl, isN_non, q_neg, q_ix_l, q_ix_t, atD_s, at_1_0, at_2_0, at_2_1, at_3_0, at_3_1, at_3_2, at_4_0, at_4_1, at_4_2, at_4_3, q_len_l, q_len_t, q_len_s, q_abs, q_int_i, q_int_b, q_str, q_list_l, q_list_t, q_tuple_l, q_tuple_t, q_repr_l, q_repr_t, tms, tlc, iseq]
    refine compD_n (f := fracD) (r := fun f => D.str (numT f.1 ++ Str.ofString "/" ++ numT f.2)) g2 [] (fun f hf k hk => ?_) (by rw [List.length_nil, Nat.zero_add]; omega) ?_
    · simp only [fracD, tv, tk, to2, to1, tbl, tch, tand, tor, tnot, vand, vor, vnot, tif, a0, ac, as_, dtup, dlst, tcb, tcall, sret, sretN, sif, snx, sdrop, sasg, gn, spar, snever, bend, startD, List.map_cons, List.map_nil, List.length_cons, List.length_nil, List.replicate, List.cons_append, List.nil_append, List.append_nil, List.getElem?_cons_zero, List.getElem?_cons_succ, List.set_cons_zero, List.set_cons_succ, Nat.reduceAdd, Nat.reduceSub, Nat.zero_add, tcallK, ro, List.getD_cons_zero, List.getD_cons_succ, true_and, wipeD, Bool.not_true, Bool.not_false, Bool.false_eq_true, if_true, if_false, q_add_i, q_add_s, q_add_l, q_add_t, q_sub, q_mul_i, q_mul_l, q_mul_s, q_div, q_mod, q_pow, q_lt, q_le, q_gt, q_ge, q_eq_i, q_eq_s, q_eq_b, q_ne_i, q_ne_s, q_ne_b, q_eq_l, q_eq_t, q_ne_l, q_ne_t, q_is, q_isnt, isN_int, isN_str, isN_lst, isN_tup, isN_ref, isN_bl, isN_non, q_neg, q_ix_l, q_ix_t, atD_s, at_1_0, at_2_0, at_2_1, at_3_0, at_3_1, at_3_2, at_4_0, at_4_1, at_4_2, at_4_3, q_len_l, q_len_t, q_len_s, q_abs, q_int_i, q_int_b, q_str, q_list_l, q_list_t, q_tuple_l, q_tuple_t, q_repr_l, q_repr_t]
      have b1 : (Str.ofString (toString f.1)).length ≤ 41 := numT_len (by decide) (good2 f hf).1.2.a
      have b2 : (Str.ofString (toString f.2)).length ≤ 41 := numT_len (by decide) (good2 f hf).1.2.b
      have bs : (Str.ofString "/").length = 1 := rfl
      exact ⟨log2_10 (good2 f hf).1.2.a (by decide), by omega, log2_10 (good2 f hf).1.2.b (by decide), by rw [strLen_append]; omega, hk⟩
    simp only [tv, tk, to2, to1, tbl, tch, tand, tor, tnot, vand, vor, vnot, tif, a0, ac, as_, dtup, dlst, tcb, tcall, sret, sretN, sif, snx, sdrop, sasg, gn, spar, snever, bend, startD, List.map_cons, List.map_nil, List.length_cons, List.length_nil, List.replicate, List.cons_append, List.nil_append, List.append_nil, List.getElem?_cons_zero, List.getElem?_cons_succ, List.set_cons_zero, List.set_cons_succ, Nat.reduceAdd, Nat.reduceSub, Nat.zero_add, tcallK, ro, List.getD_cons_zero, List.getD_cons_succ, true_and, wipeD, Bool.not_true, Bool.not_false, Bool.false_eq_true, if_true, if_false, q_add_i, q_add_s, q_add_l, q_add_t, q_sub, q_mul_i, q_mul_l, q_mul_s, q_div, q_mod, q_pow, q_lt, q_le, q_gt, q_ge, q_eq_i, q_eq_s, q_eq_b, q_ne_i, q_ne_s, q_ne_b, q_eq_l, q_eq_t, q_ne_l, q_ne_t, q_is, q_isnt, isN_int, isN_str, isN_lst, isN_tup, isN_ref, isN_bl, isN_non, q_neg, q_ix_l, q_ix_t, atD_s, at_1_0, at_2_0, at_2_1, at_3_0, at_3_1, at_3_2, at_4_0, at_4_1, at_4_2, at_4_3, q_len_l, q_len_t, q_len_s, q_abs, q_int_i, q_int_b, q_str, q_list_l, q_list_t, q_tuple_l, q_tuple_t, q_repr_l, q_repr_t]
    rw [q_join (strsOf_nums _ _)]
    have em2 : g2.map (fun f => numT f.1 ++ Str.ofString "/" ++ numT f.2) = g2.map fracT := List.map_congr_left fun f hf => (fracT_two (good2 f hf).2).symm
    rw [em2]
    refine ⟨fracs_sum (fun f hf => (good2 f hf).1.2) (by omega), ?_⟩
    rw [show Txt.join (Str.ofString " ") (g2.map fracT) = phT g2 from rfl]
    simp only [tv, tk, to2, to1, tbl, tch, tand, tor, tnot, vand, vor, vnot, tif, a0, ac, as_, dtup, dlst, tcb, tcall, sret, sretN, sif, snx, sdrop, sasg, gn, spar, snever, bend, startD, List.map_cons, List.map_nil, List.length_cons, List.length_nil, List.replicate, List.cons_append, List.nil_append, List.append_nil, List.getElem?_cons_zero, List.getElem?_cons_succ, List.set_cons_zero, List.set_cons_succ, Nat.reduceAdd, Nat.reduceSub, Nat.zero_add, tcallK, ro, List.getD_cons_zero, List.getD_cons_succ, true_and, wipeD, Bool.not_true, Bool.not_false, Bool.false_eq_true, if_true, if_false, q_add_i, q_add_s, q_add_l, q_add_t, q_sub, q_mul_i, q_mul_l, q_mul_s, q_div, q_mod, q_pow, q_lt, q_le, q_gt, q_ge, q_eq_i, q_eq_s, q_eq_b, q_ne_i, q_ne_s, q_ne_b, q_eq_l, q_eq_t, q_ne_l, q_ne_t, q_is, q_isnt, isN_int, isN_str, isN_lst, isN_tup, isN_ref, isN_bl, isN_non, q_neg, q_ix_l, q_ix_t, atD_s, at_1_0, at_2_0, at_2_1, at_3_0, at_3_1, at_3_2, at_4_0, at_4_1, at_4_2, at_4_3, q_len_l, q_len_t, q_len_s, q_abs, q_int_i, q_int_b, q_str, q_list_l, q_list_t, q_tuple_l, q_tuple_t, q_repr_l, q_repr_t, decide_true]
    clear em2 good2 len2
    subst hK11
    refine seq_step fun K12 hK12 => ?_
    have ejoin2 : ∀ x y : Int, stT [x, y] = numT x ++ Str.ofString " " ++ numT y := fun x y => by
      unfold stT
      rw [TL.join_eq]
      rfl
    have sb : b.natAbs < 10 ^ 40 ∧ (b * 10 ^ 20).natAbs < 10 ^ 40 := by omega
    have lb : (Str.ofString (toString b)).length ≤ 41 := numT_len (by decide) sb.1
    have lb2 : (Str.ofString (toString (b * 10 ^ 20))).length ≤ 41 := numT_len (by decide) sb.2
    have ls : (Str.ofString " ").length = 1 := rfl
    simp only [tv, tk, to2, to1, tbl, tch, tand, tor, tnot, vand, vor, vnot, tif, a0, ac, as_, dtup, dlst, tcb, tcall, sret, sretN, sif, snx, sdrop, sasg, gn, spar, snever, bend, startD, List.map_cons, List.map_nil, List.length_cons, List.length_nil, List.replicate, List.cons_append, List.nil_append, List.append_nil, List.getElem?_cons_zero, List.getElem?_cons_succ, List.set_cons_zero, List.set_cons_succ, Nat.reduceAdd, Nat.reduceSub, Nat.zero_add, tcallK, ro, List.getD_cons_zero, List.getD_cons_succ, true_and, wipeD, Bool.not_true, Bool.not_false, Bool.false_eq_true, if_true, if_false, q_add_i, q_add_s, q_add_l, q_add_t, q_sub, q_mul_i, q_mul_l, q_mul_s, q_div, q_mod, q_pow, q_lt, q_le, q_gt, q_ge, q_eq_i, q_eq_s, q_eq_b, q_ne_i, q_ne_s, q_ne_b, q_eq_l, q_eq_t, q_ne_l, q_ne_t, q_is, q_isnt, isN_int, isN_str, isN_lst, isN_tup, isN_ref, isN_bl, isN_non, q_neg, q_ix_l, q_ix_t, atD_s, at_1_0, at_2_0, at_2_1, at_3_0, at_3_1, at_3_2, at_4_0, at_4_1, at_4_2, at_4_3, q_len_l, q_len_t, q_len_s, q_abs, q_int_i, q_int_b, q_str, q_list_l, q_list_t, q_tuple_l, q_tuple_t, q_repr_l, q_repr_t, ep20]
    refine ⟨cp20, cmb2, by decide, [b, b * 10 ^ 20], rfl, (by show 2 ≤ 1000; decide), (fun n hn => ?_), ?_⟩
    · rcases List.mem_cons.mp hn with e | e
      · subst e; exact ⟨by omega, sb.1⟩
      · rcases List.mem_singleton.mp e; exact ⟨by omega, sb.2⟩
    rw [ejoin2]
    simp only [tv, tk, to2, to1, tbl, tch, tand, tor, tnot, vand, vor, vnot, tif, a0, ac, as_, dtup, dlst, tcb, tcall, sret, sretN, sif, snx, sdrop, sasg, gn, spar, snever, bend, startD, List.map_cons, List.map_nil, List.length_cons, List.length_nil, List.replicate, List.cons_append, List.nil_append, List.append_nil, List.getElem?_cons_zero, List.getElem?_cons_succ, List.set_cons_zero, List.set_cons_succ, Nat.reduceAdd, Nat.reduceSub, Nat.zero_add, tcallK, ro, List.getD_cons_zero, List.getD_cons_succ, true_and, wipeD, Bool.not_true, Bool.not_false, Bool.false_eq_true, if_true, if_false, q_add_i, q_add_s, q_add_l, q_add_t, q_sub, q_mul_i, q_mul_l, q_mul_s, q_div, q_mod, q_pow, q_lt, q_le, q_gt, q_ge, q_eq_i, q_eq_s, q_eq_b, q_ne_i, q_ne_s, q_ne_b, q_eq_l, q_eq_t, q_ne_l, q_ne_t, q_is, q_isnt, isN_int, isN_str, isN_lst, isN_tup, isN_ref, isN_bl, isN_non, q_neg, q_ix_l, q_ix_t, atD_s, at_1_0, at_2_0, at_2_1, at_3_0, at_3_1, at_3_2, at_4_0, at_4_1, at_4_2, at_4_3, q_len_l, q_len_t, q_len_s, q_abs, q_int_i, q_int_b, q_str, q_list_l, q_list_t, q_tuple_l, q_tuple_t, q_repr_l, q_repr_t]
    refine ⟨log2_10 sb.1 (by decide), by omega, cp20, cmb2, log2_10 sb.2 (by decide), by rw [strLen_append]; omega, ?_⟩
    simp only [tv, tk, to2, to1, tbl, tch, tand, tor, tnot, vand, vor, vnot, tif, a0, ac, as_, dtup, dlst, tcb, tcall, sret, sretN, sif, snx, sdrop, sasg, gn, spar, snever, bend, startD, List.map_cons, List.map_nil, List.length_cons, List.length_nil, List.replicate, List.cons_append, List.nil_append, List.append_nil, List.getElem?_cons_zero, List.getElem?_cons_succ, List.set_cons_zero, List.set_cons_succ, Nat.reduceAdd, Nat.reduceSub, Nat.zero_add, tcallK, ro, List.getD_cons_zero, List.getD_cons_succ, true_and, wipeD, Bool.not_true, Bool.not_false, Bool.false_eq_true, if_true, if_false, q_add_i, q_add_s, q_add_l, q_add_t, q_sub, q_mul_i, q_mul_l, q_mul_s, q_div, q_mod, q_pow, q_lt, q_le, q_gt, q_ge, q_eq_i, q_eq_s, q_eq_b, q_ne_i, q_ne_s, q_ne_b, q_eq_l, q_eq_t, q_ne_l, q_ne_t, q_is, q_isnt, isN_int, isN_str, isN_lst, isN_tup, isN_ref, isN_bl, isN_non, q_neg, q_ix_l, q_ix_t, atD_s, at_1_0, at_2_0, at_2_1, at_3_0, at_3_1, at_3_2, at_4_0, at_4_1, at_4_2, at_4_3, q_len_l, q_len_t, q_len_s, q_abs, q_int_i, q_int_b, q_str, q_list_l, q_list_t, q_tuple_l, q_tuple_t, q_repr_l, q_repr_t, ep20, decide_true]
    clear sb lb lb2 cmb cmb2
    subst hK12
    simp only [tv, tk, to2, to1, tbl, tch, tand, tor, tnot, vand, vor, vnot, tif, a0, ac, as_, dtup, dlst, tcb, tcall, sret, sretN, sif, snx, sdrop, sasg, gn, spar, snever, bend, startD, List.map_cons, List.map_nil, List.length_cons, List.length_nil, List.replicate, List.cons_append, List.nil_append, List.append_nil, List.getElem?_cons_zero, List.getElem?_cons_succ, List.set_cons_zero, List.set_cons_succ, Nat.reduceAdd, Nat.reduceSub, Nat.zero_add, tcallK, ro, List.getD_cons_zero, List.getD_cons_succ, true_and, wipeD, Bool.not_true, Bool.not_false, Bool.false_eq_true, if_true, if_false, q_add_i, q_add_s, q_add_l, q_add_t, q_sub, q_mul_i, q_mul_l, q_mul_s, q_div, q_mod, q_pow, q_lt, q_le, q_gt, q_ge, q_eq_i, q_eq_s, q_eq_b, q_ne_i, q_ne_s, q_ne_b, q_eq_l, q_eq_t, q_ne_l, q_ne_t, q_is, q_isnt, isN_int, isN_str, isN_lst, isN_tup, isN_ref, isN_bl, isN_non, q_neg, q_ix_l, q_ix_t, atD_s, at_1_0, at_2_0, at_2_1, at_3_0, at_3_1, at_3_2, at_4_0, at_4_1, at_4_2, at_4_3, q_len_l, q_len_t, q_len_s, q_abs, q_int_i, q_int_b, q_str, q_list_l, q_list_t, q_tuple_l, q_tuple_t, q_repr_l, q_repr_t, ep30, ep9]
    refine ⟨cp30, cp9, by decide, [10 ^ 30, 0, 10 ^ 9], rfl, by decide, (by decide +kernel), ?_⟩
    simp only [tv, tk, to2, to1, tbl, tch, tand, tor, tnot, vand, vor, vnot, tif, a0, ac, as_, dtup, dlst, tcb, tcall, sret, sretN, sif, snx, sdrop, sasg, gn, spar, snever, bend, startD, List.map_cons, List.map_nil, List.length_cons, List.length_nil, List.replicate, List.cons_append, List.nil_append, List.append_nil, List.getElem?_cons_zero, List.getElem?_cons_succ, List.set_cons_zero, List.set_cons_succ, Nat.reduceAdd, Nat.reduceSub, Nat.zero_add, tcallK, ro, List.getD_cons_zero, List.getD_cons_succ, true_and, wipeD, Bool.not_true, Bool.not_false, Bool.false_eq_true, if_true, if_false, q_add_i, q_add_s, q_add_l, q_add_t, q_sub, q_mul_i, q_mul_l, q_mul_s, q_div, q_mod, q_pow, q_lt, q_le, q_gt, q_ge, q_eq_i, q_eq_s, q_eq_b, q_ne_i, q_ne_s, q_ne_b, q_eq_l, q_eq_t, q_ne_l, q_ne_t, q_is, q_isnt, isN_int, isN_str, isN_lst, isN_tup, isN_ref, isN_bl, isN_non, q_neg, q_ix_l, q_ix_t, atD_s, at_1_0, at_2_0, at_2_1, at_3_0, at_3_1, at_3_2, at_4_0, at_4_1, at_4_2, at_4_3, q_len_l, q_len_t, q_len_s, q_abs, q_int_i, q_int_b, q_str, q_list_l, q_list_t, q_tuple_l, q_tuple_t, q_repr_l, q_repr_t, ep30, ep9]
    refine ⟨cp30, by decide +kernel, by decide +kernel, cp9, by decide +kernel, by decide +kernel, ?_⟩
    have e3 : decide (stT [10 ^ 30, 0, 10 ^ 9] = Str.ofString (toString ((10 : Int) ^ 30)) ++ Str.ofString " 0 " ++ Str.ofString (toString ((10 : Int) ^ 9))) = true := by decide +kernel
    rw [e3]
    simp only [tv, tk, to2, to1, tbl, tch, tand, tor, tnot, vand, vor, vnot, tif, a0, ac, as_, dtup, dlst, tcb, tcall, sret, sretN, sif, snx, sdrop, sasg, gn, spar, snever, bend, startD, List.map_cons, List.map_nil, List.length_cons, List.length_nil, List.replicate, List.cons_append, List.nil_append, List.append_nil, List.getElem?_cons_zero, List.getElem?_cons_succ, List.set_cons_zero, List.set_cons_succ, Nat.reduceAdd, Nat.reduceSub, Nat.zero_add, tcallK, ro, List.getD_cons_zero, List.getD_cons_succ, true_and, wipeD, Bool.not_true, Bool.not_false, Bool.false_eq_true, if_true, if_false, q_add_i, q_add_s, q_add_l, q_add_t, q_sub, q_mul_i, q_mul_l, q_mul_s, q_div, q_mod, q_pow, q_lt, q_le, q_gt, q_ge, q_eq_i, q_eq_s, q_eq_b, q_ne_i, q_ne_s, q_ne_b, q_eq_l, q_eq_t, q_ne_l, q_ne_t, q_is, q_isnt, isN_int, isN_str, isN_lst, isN_tup, isN_ref, isN_bl, isN_non, q_neg, q_ix_l, q_ix_t, atD_s, at_1_0, at_2_0, at_2_1, at_3_0, at_3_1, at_3_2, at_4_0, at_4_1, at_4_2, at_4_3, q_len_l, q_len_t, q_len_s, q_abs, q_int_i, q_int_b, q_str, q_list_l, q_list_t, q_tuple_l, q_tuple_t, q_repr_l, q_repr_t]
    exact hn _ _ ⟨_, _, _, _, _, _, _, _, _, _, _, rfl⟩
  case fin =>
    subst hK0
    simp only [tv, tk, to2, to1, tbl, tch, tand, tor, tnot, vand, vor, vnot, tif, a0, ac, as_, dtup, dlst, tcb, tcall, sret, sretN, sif, snx, sdrop, sasg, gn, spar, snever, bend, startD, List.map_cons, List.map_nil, List.length_cons, List.length_nil, List.replicate, List.cons_append, List.nil_append, List.append_nil, List.getElem?_cons_zero, List.getElem?_cons_succ, List.set_cons_zero, List.set_cons_succ, Nat.reduceAdd, Nat.reduceSub, Nat.zero_add, tcallK, ro, List.getD_cons_zero, List.getD_cons_succ, true_and, wipeD, Bool.not_true, Bool.not_false, Bool.false_eq_true, if_true, if_false, q_add_i, q_add_s, q_add_l, q_add_t, q_sub, q_mul_i, q_mul_l, q_mul_s, q_div, q_mod, q_pow, q_lt, q_le, q_gt, q_ge, q_eq_i, q_eq_s, q_eq_b, q_ne_i, q_ne_s, q_ne_b, q_eq_l, q_eq_t, q_ne_l, q_ne_t, q_is, q_isnt, isN_int, isN_str, isN_lst, isN_tup, isN_ref, isN_bl, isN_non, q_neg, q_ix_l, q_ix_t, atD_s, at_1_0, at_2_0, at_2_1, at_3_0, at_3_1, at_3_2, at_4_0, at_4_1, at_4_2, at_4_3, q_len_l, q_len_t, q_len_s, q_abs, q_int_i, q_int_b, q_str, q_list_l, q_list_t, q_tuple_l, q_tuple_t, q_repr_l, q_repr_t]
    exact q M'
end K60

namespace K60
open PySem PySem.Spec L2 DL
open TL
def top (i : Nat) : Stmt := PySem.Challenge.pw_lastcopied_k60_rows_steps_and_phases_wri.main.body.getD i (.Pass ⟨0, 0, 0, 0⟩)
abbrev st_is_number : Stmt := top 9
abbrev N_is_number : List Str := ["value"]
abbrev P_is_number : List Str := ["value"]
theorem sc_is_number : FnScope N_is_number P_is_number (defScope st_is_number) := ⟨rfl, rfl, rfl, by decide +kernel, rfl, by decide +kernel, by decide +kernel⟩
abbrev st_is_whole : Stmt := top 10
abbrev N_is_whole : List Str := ["value", "low", "high"]
abbrev P_is_whole : List Str := ["value", "low", "high"]
theorem sc_is_whole : FnScope N_is_whole P_is_whole (defScope st_is_whole) := ⟨rfl, rfl, rfl, by decide +kernel, rfl, by decide +kernel, by decide +kernel⟩
abbrev st_greatest_common : Stmt := top 11
abbrev N_greatest_common : List Str := ["one", "other"]
abbrev P_greatest_common : List Str := ["one", "other"]
theorem sc_greatest_common : FnScope N_greatest_common P_greatest_common (defScope st_greatest_common) := ⟨rfl, rfl, rfl, by decide +kernel, rfl, by decide +kernel, by decide +kernel⟩
abbrev st_fits_row : Stmt := top 12
abbrev N_fits_row : List Str := ["value", "period"]
abbrev P_fits_row : List Str := ["value"]
theorem sc_fits_row : FnScope N_fits_row P_fits_row (defScope st_fits_row) := ⟨rfl, rfl, rfl, by decide +kernel, rfl, by decide +kernel, by decide +kernel⟩
abbrev st_need_row : Stmt := top 15
abbrev N_need_row : List Str := ["row"]
abbrev P_need_row : List Str := ["row"]
theorem sc_need_row : FnScope N_need_row P_need_row (defScope st_need_row) := ⟨rfl, rfl, rfl, by decide +kernel, rfl, by decide +kernel, by decide +kernel⟩
abbrev st_fits_fraction : Stmt := top 13
abbrev N_fits_fraction : List Str := ["value"]
abbrev P_fits_fraction : List Str := ["value"]
theorem sc_fits_fraction : FnScope N_fits_fraction P_fits_fraction (defScope st_fits_fraction) := ⟨rfl, rfl, rfl, by decide +kernel, rfl, by decide +kernel, by decide +kernel⟩
abbrev st_fits_phases : Stmt := top 14
abbrev N_fits_phases : List Str := ["row", "value", "phase"]
abbrev P_fits_phases : List Str := ["row", "value"]
theorem sc_fits_phases : FnScope N_fits_phases P_fits_phases (defScope st_fits_phases) := ⟨rfl, rfl, rfl, by decide +kernel, rfl, by decide +kernel, by decide +kernel⟩
abbrev st_need_phases : Stmt := top 16
abbrev N_need_phases : List Str := ["row", "phases"]
abbrev P_need_phases : List Str := ["row", "phases"]
theorem sc_need_phases : FnScope N_need_phases P_need_phases (defScope st_need_phases) := ⟨rfl, rfl, rfl, by decide +kernel, rfl, by decide +kernel, by decide +kernel⟩
abbrev st_fits_stretch : Stmt := top 18
abbrev N_fits_stretch : List Str := ["value", "step"]
abbrev P_fits_stretch : List Str := ["value"]
theorem sc_fits_stretch : FnScope N_fits_stretch P_fits_stretch (defScope st_fits_stretch) := ⟨rfl, rfl, rfl, by decide +kernel, rfl, by decide +kernel, by decide +kernel⟩
abbrev st_need_stretch : Stmt := top 19
abbrev N_need_stretch : List Str := ["stretch"]
abbrev P_need_stretch : List Str := ["stretch"]
theorem sc_need_stretch : FnScope N_need_stretch P_need_stretch (defScope st_need_stretch) := ⟨rfl, rfl, rfl, by decide +kernel, rfl, by decide +kernel, by decide +kernel⟩
abbrev st_whole_of : Stmt := top 23
abbrev N_whole_of : List Str := ["word", "digits", "sign"]
abbrev P_whole_of : List Str := ["word"]
theorem sc_whole_of : FnScope N_whole_of P_whole_of (defScope st_whole_of) := ⟨rfl, rfl, rfl, by decide +kernel, rfl, by decide +kernel, by decide +kernel⟩
abbrev st_fraction_of : Stmt := top 24
abbrev N_fraction_of : List Str := ["word", "before", "slash", "behind", "top", "bottom"]
abbrev P_fraction_of : List Str := ["word"]
theorem sc_fraction_of : FnScope N_fraction_of P_fraction_of (defScope st_fraction_of) := ⟨rfl, rfl, rfl, by decide +kernel, rfl, by decide +kernel, by decide +kernel⟩
abbrev st_fraction_text : Stmt := top 25
abbrev N_fraction_text : List Str := ["value"]
abbrev P_fraction_text : List Str := ["value"]
theorem sc_fraction_text : FnScope N_fraction_text P_fraction_text (defScope st_fraction_text) := ⟨rfl, rfl, rfl, by decide +kernel, rfl, by decide +kernel, by decide +kernel⟩
abbrev st_write_row : Stmt := top 26
abbrev N_write_row : List Str := ["row", "period"]
abbrev P_write_row : List Str := ["row"]
theorem sc_write_row : FnScope N_write_row P_write_row (defScope st_write_row) := ⟨rfl, rfl, rfl, by decide +kernel, rfl, by decide +kernel, by decide +kernel⟩
abbrev st_write_steps : Stmt := top 28
abbrev N_write_steps : List Str := ["stretch", "step"]
abbrev P_write_steps : List Str := ["stretch"]
theorem sc_write_steps : FnScope N_write_steps P_write_steps (defScope st_write_steps) := ⟨rfl, rfl, rfl, by decide +kernel, rfl, by decide +kernel, by decide +kernel⟩
abbrev st_write_phases : Stmt := top 30
abbrev N_write_phases : List Str := ["row", "phases", "phase"]
abbrev P_write_phases : List Str := ["row", "phases"]
theorem sc_write_phases : FnScope N_write_phases P_write_phases (defScope st_write_phases) := ⟨rfl, rfl, rfl, by decide +kernel, rfl, by decide +kernel, by decide +kernel⟩
abbrev st_read_row : Stmt := top 27
abbrev N_read_row : List Str := ["text", "words", "found", "at", "period"]
abbrev P_read_row : List Str := ["text"]
theorem sc_read_row : FnScope N_read_row P_read_row (defScope st_read_row) := ⟨rfl, rfl, rfl, by decide +kernel, rfl, by decide +kernel, by decide +kernel⟩
abbrev st_read_steps : Stmt := top 29
abbrev N_read_steps : List Str := ["text", "found", "words", "at", "word", "step"]
abbrev P_read_steps : List Str := ["text"]
theorem sc_read_steps : FnScope N_read_steps P_read_steps (defScope st_read_steps) := ⟨rfl, rfl, rfl, by decide +kernel, rfl, by decide +kernel, by decide +kernel⟩
abbrev st_read_phases : Stmt := top 31
abbrev N_read_phases : List Str := ["row", "text", "found", "words", "at", "word", "phase"]
abbrev P_read_phases : List Str := ["row", "text"]
theorem sc_read_phases : FnScope N_read_phases P_read_phases (defScope st_read_phases) := ⟨rfl, rfl, rfl, by decide +kernel, rfl, by decide +kernel, by decide +kernel⟩
abbrev st__law_bag : Stmt := top 33
abbrev N__law_bag : List Str := ["cell", "rest"]
abbrev P__law_bag : List Str := ["cell"]
theorem sc__law_bag : FnScope N__law_bag P__law_bag (defScope st__law_bag) := ⟨rfl, rfl, rfl, by decide +kernel, rfl, by decide +kernel, by decide +kernel⟩
abbrev st__law_draw : Stmt := top 34
abbrev N__law_draw : List Str := ["bag", "many", "digit", "turn", "mixed"]
abbrev P__law_draw : List Str := ["bag", "many"]
theorem sc__law_draw : FnScope N__law_draw P__law_draw (defScope st__law_draw) := ⟨rfl, rfl, rfl, by decide +kernel, rfl, by decide +kernel, by decide +kernel⟩
abbrev st__law_common : Stmt := top 35
abbrev N__law_common : List Str := ["first_here", "second"]
abbrev P__law_common : List Str := ["first_here", "second"]
theorem sc__law_common : FnScope N__law_common P__law_common (defScope st__law_common) := ⟨rfl, rfl, rfl, by decide +kernel, rfl, by decide +kernel, by decide +kernel⟩
abbrev st__law_tie : Stmt := top 36
abbrev N__law_tie : List Str := ["bag"]
abbrev P__law_tie : List Str := ["bag"]
theorem sc__law_tie : FnScope N__law_tie P__law_tie (defScope st__law_tie) := ⟨rfl, rfl, rfl, by decide +kernel, rfl, by decide +kernel, by decide +kernel⟩
abbrev st__law_any_periods : Stmt := top 37
abbrev N__law_any_periods : List Str := ["bag", "k"]
abbrev P__law_any_periods : List Str := ["bag"]
theorem sc__law_any_periods : FnScope N__law_any_periods P__law_any_periods (defScope st__law_any_periods) := ⟨rfl, rfl, rfl, by decide +kernel, rfl, by decide +kernel, by decide +kernel⟩
abbrev st__law_any_fraction : Stmt := top 38
abbrev N__law_any_fraction : List Str := ["bag", "top", "bottom", "part"]
abbrev P__law_any_fraction : List Str := ["bag"]
theorem sc__law_any_fraction : FnScope N__law_any_fraction P__law_any_fraction (defScope st__law_any_fraction) := ⟨rfl, rfl, rfl, by decide +kernel, rfl, by decide +kernel, by decide +kernel⟩
abbrev st__law_word : Stmt := top 39
abbrev N__law_word : List Str := ["pair"]
abbrev P__law_word : List Str := ["pair"]
theorem sc__law_word : FnScope N__law_word P__law_word (defScope st__law_word) := ⟨rfl, rfl, rfl, by decide +kernel, rfl, by decide +kernel, by decide +kernel⟩
abbrev st__law_rows_right : Stmt := top 40
abbrev N__law_rows_right : List Str := ["here", "told", "span"]
abbrev P__law_rows_right : List Str := ["here"]
theorem sc__law_rows_right : FnScope N__law_rows_right P__law_rows_right (defScope st__law_rows_right) := ⟨rfl, rfl, rfl, by decide +kernel, rfl, by decide +kernel, by decide +kernel⟩
abbrev st__law_steps_right : Stmt := top 41
abbrev N__law_steps_right : List Str := ["steps_here", "told", "kept", "step_here", "found"]
abbrev P__law_steps_right : List Str := ["steps_here"]
theorem sc__law_steps_right : FnScope N__law_steps_right P__law_steps_right (defScope st__law_steps_right) := ⟨rfl, rfl, rfl, by decide +kernel, rfl, by decide +kernel, by decide +kernel⟩
abbrev st__law_phases_right : Stmt := top 42
abbrev N__law_phases_right : List Str := ["here", "starts", "told", "kept", "pair", "found"]
abbrev P__law_phases_right : List Str := ["here", "starts"]
theorem sc__law_phases_right : FnScope N__law_phases_right P__law_phases_right (defScope st__law_phases_right) := ⟨rfl, rfl, rfl, by decide +kernel, rfl, by decide +kernel, by decide +kernel⟩
abbrev st_law : Stmt := top 43
abbrev N_law : List Str := ["script", "cell", "bag", "here", "count", "steps_here", "k", "span", "great", "pair", "bottom"]
abbrev P_law : List Str := ["script"]
theorem sc_law : FnScope N_law P_law (defScope st_law) := ⟨rfl, rfl, rfl, by decide +kernel, rfl, by decide +kernel, by decide +kernel⟩
def fa : List He.Fa := [.glo "is_number", .glo "is_whole", .glo "greatest_common", .glo "fits_row", .glo "need_row", .glo "fits_fraction", .glo "fits_phases", .glo "need_phases", .glo "fits_stretch", .glo "need_stretch", .glo "whole_of", .glo "fraction_of", .glo "fraction_text", .glo "write_row", .glo "write_steps", .glo "write_phases", .glo "read_row", .glo "read_steps", .glo "read_phases", .glo "_law_bag", .glo "_law_draw", .glo "_law_common", .glo "_law_tie", .glo "_law_any_periods", .glo "_law_any_fraction", .glo "_law_word", .glo "_law_rows_right", .glo "_law_steps_right", .glo "_law_phases_right", .glo "law", .free "abs", .free "all", .free "bool", .free "enumerate", .free "int", .free "isinstance", .free "len", .free "list", .free "range", .free "repr", .free "str", .free "tuple", .int "MOST_COPIERS" 5, .int "MOST_DIGITS" 9, .int "MOST_PERIOD" 60, .glo "TIES"]
def fn : List He.DefD := [⟨("is_number", none), "is_number", "is_number", defArgs st_is_number, defBody st_is_number, defScope st_is_number, [], []⟩,
  ⟨("is_whole", none), "is_whole", "is_whole", defArgs st_is_whole, defBody st_is_whole, defScope st_is_whole, [], []⟩,
  ⟨("greatest_common", none), "greatest_common", "greatest_common", defArgs st_greatest_common, defBody st_greatest_common, defScope st_greatest_common, [], []⟩,
  ⟨("fits_row", none), "fits_row", "fits_row", defArgs st_fits_row, defBody st_fits_row, defScope st_fits_row, [], []⟩,
  ⟨("need_row", none), "need_row", "need_row", defArgs st_need_row, defBody st_need_row, defScope st_need_row, [], []⟩,
  ⟨("fits_fraction", none), "fits_fraction", "fits_fraction", defArgs st_fits_fraction, defBody st_fits_fraction, defScope st_fits_fraction, [], []⟩,
  ⟨("fits_phases", none), "fits_phases", "fits_phases", defArgs st_fits_phases, defBody st_fits_phases, defScope st_fits_phases, [], []⟩,
  ⟨("need_phases", none), "need_phases", "need_phases", defArgs st_need_phases, defBody st_need_phases, defScope st_need_phases, [], []⟩,
  ⟨("fits_stretch", none), "fits_stretch", "fits_stretch", defArgs st_fits_stretch, defBody st_fits_stretch, defScope st_fits_stretch, [], []⟩,
  ⟨("need_stretch", none), "need_stretch", "need_stretch", defArgs st_need_stretch, defBody st_need_stretch, defScope st_need_stretch, [], []⟩,
  ⟨("whole_of", none), "whole_of", "whole_of", defArgs st_whole_of, defBody st_whole_of, defScope st_whole_of, [], []⟩,
  ⟨("fraction_of", none), "fraction_of", "fraction_of", defArgs st_fraction_of, defBody st_fraction_of, defScope st_fraction_of, [], []⟩,
  ⟨("fraction_text", none), "fraction_text", "fraction_text", defArgs st_fraction_text, defBody st_fraction_text, defScope st_fraction_text, [], []⟩,
  ⟨("write_row", none), "write_row", "write_row", defArgs st_write_row, defBody st_write_row, defScope st_write_row, [], []⟩,
  ⟨("write_steps", none), "write_steps", "write_steps", defArgs st_write_steps, defBody st_write_steps, defScope st_write_steps, [], []⟩,
  ⟨("write_phases", none), "write_phases", "write_phases", defArgs st_write_phases, defBody st_write_phases, defScope st_write_phases, [], []⟩,
  ⟨("read_row", none), "read_row", "read_row", defArgs st_read_row, defBody st_read_row, defScope st_read_row, [], []⟩,
  ⟨("read_steps", none), "read_steps", "read_steps", defArgs st_read_steps, defBody st_read_steps, defScope st_read_steps, [], []⟩,
  ⟨("read_phases", none), "read_phases", "read_phases", defArgs st_read_phases, defBody st_read_phases, defScope st_read_phases, [], []⟩,
  ⟨("_law_bag", none), "_law_bag", "_law_bag", defArgs st__law_bag, defBody st__law_bag, defScope st__law_bag, [], []⟩,
  ⟨("_law_draw", none), "_law_draw", "_law_draw", defArgs st__law_draw, defBody st__law_draw, defScope st__law_draw, [], []⟩,
  ⟨("_law_common", none), "_law_common", "_law_common", defArgs st__law_common, defBody st__law_common, defScope st__law_common, [], []⟩,
  ⟨("_law_tie", none), "_law_tie", "_law_tie", defArgs st__law_tie, defBody st__law_tie, defScope st__law_tie, [], []⟩,
  ⟨("_law_any_periods", none), "_law_any_periods", "_law_any_periods", defArgs st__law_any_periods, defBody st__law_any_periods, defScope st__law_any_periods, [], []⟩,
  ⟨("_law_any_fraction", none), "_law_any_fraction", "_law_any_fraction", defArgs st__law_any_fraction, defBody st__law_any_fraction, defScope st__law_any_fraction, [], []⟩,
  ⟨("_law_word", none), "_law_word", "_law_word", defArgs st__law_word, defBody st__law_word, defScope st__law_word, [], []⟩,
  ⟨("_law_rows_right", none), "_law_rows_right", "_law_rows_right", defArgs st__law_rows_right, defBody st__law_rows_right, defScope st__law_rows_right, [], []⟩,
  ⟨("_law_steps_right", none), "_law_steps_right", "_law_steps_right", defArgs st__law_steps_right, defBody st__law_steps_right, defScope st__law_steps_right, [], []⟩,
  ⟨("_law_phases_right", none), "_law_phases_right", "_law_phases_right", defArgs st__law_phases_right, defBody st__law_phases_right, defScope st__law_phases_right, [], []⟩,
  ⟨("law", none), "law", "law", defArgs st_law, defBody st_law, defScope st_law, [], []⟩]
def ex (K : PySem.W.Frag) : Bool := true && (He.tupB K "TIES" ((["new", "old"] : List Str).map He.Dv.str))
abbrev Txt (K : PySem.W.Frag) (mg : Str → Option Value) (base : Heap) : Prop := TxtM fa fn ex K mg base
theorem Txt.ex0 {K : PySem.W.Frag} {mg : Str → Option Value} {base : Heap} (T : Txt K mg base) : He.tupB K "TIES" ((["new", "old"] : List Str).map He.Dv.str) = true := by
  have h := T.e
  exact (Bool.and_eq_true_iff.mp h).2
theorem Txt.g_is_number {K : PySem.W.Frag} {mg : Str → Option Value} {base : Heap} (T : Txt K mg base) : mg "is_number" = some (.ref (He.ga K "is_number")) := T.glo 0 _ rfl
theorem Txt.g_is_whole {K : PySem.W.Frag} {mg : Str → Option Value} {base : Heap} (T : Txt K mg base) : mg "is_whole" = some (.ref (He.ga K "is_whole")) := T.glo 1 _ rfl
theorem Txt.g_greatest_common {K : PySem.W.Frag} {mg : Str → Option Value} {base : Heap} (T : Txt K mg base) : mg "greatest_common" = some (.ref (He.ga K "greatest_common")) := T.glo 2 _ rfl
theorem Txt.g_fits_row {K : PySem.W.Frag} {mg : Str → Option Value} {base : Heap} (T : Txt K mg base) : mg "fits_row" = some (.ref (He.ga K "fits_row")) := T.glo 3 _ rfl
theorem Txt.g_need_row {K : PySem.W.Frag} {mg : Str → Option Value} {base : Heap} (T : Txt K mg base) : mg "need_row" = some (.ref (He.ga K "need_row")) := T.glo 4 _ rfl
theorem Txt.g_fits_fraction {K : PySem.W.Frag} {mg : Str → Option Value} {base : Heap} (T : Txt K mg base) : mg "fits_fraction" = some (.ref (He.ga K "fits_fraction")) := T.glo 5 _ rfl
theorem Txt.g_fits_phases {K : PySem.W.Frag} {mg : Str → Option Value} {base : Heap} (T : Txt K mg base) : mg "fits_phases" = some (.ref (He.ga K "fits_phases")) := T.glo 6 _ rfl
theorem Txt.g_need_phases {K : PySem.W.Frag} {mg : Str → Option Value} {base : Heap} (T : Txt K mg base) : mg "need_phases" = some (.ref (He.ga K "need_phases")) := T.glo 7 _ rfl
theorem Txt.g_fits_stretch {K : PySem.W.Frag} {mg : Str → Option Value} {base : Heap} (T : Txt K mg base) : mg "fits_stretch" = some (.ref (He.ga K "fits_stretch")) := T.glo 8 _ rfl
theorem Txt.g_need_stretch {K : PySem.W.Frag} {mg : Str → Option Value} {base : Heap} (T : Txt K mg base) : mg "need_stretch" = some (.ref (He.ga K "need_stretch")) := T.glo 9 _ rfl
theorem Txt.g_whole_of {K : PySem.W.Frag} {mg : Str → Option Value} {base : Heap} (T : Txt K mg base) : mg "whole_of" = some (.ref (He.ga K "whole_of")) := T.glo 10 _ rfl
theorem Txt.g_fraction_of {K : PySem.W.Frag} {mg : Str → Option Value} {base : Heap} (T : Txt K mg base) : mg "fraction_of" = some (.ref (He.ga K "fraction_of")) := T.glo 11 _ rfl
theorem Txt.g_fraction_text {K : PySem.W.Frag} {mg : Str → Option Value} {base : Heap} (T : Txt K mg base) : mg "fraction_text" = some (.ref (He.ga K "fraction_text")) := T.glo 12 _ rfl
theorem Txt.g_write_row {K : PySem.W.Frag} {mg : Str → Option Value} {base : Heap} (T : Txt K mg base) : mg "write_row" = some (.ref (He.ga K "write_row")) := T.glo 13 _ rfl
theorem Txt.g_write_steps {K : PySem.W.Frag} {mg : Str → Option Value} {base : Heap} (T : Txt K mg base) : mg "write_steps" = some (.ref (He.ga K "write_steps")) := T.glo 14 _ rfl
theorem Txt.g_write_phases {K : PySem.W.Frag} {mg : Str → Option Value} {base : Heap} (T : Txt K mg base) : mg "write_phases" = some (.ref (He.ga K "write_phases")) := T.glo 15 _ rfl
theorem Txt.g_read_row {K : PySem.W.Frag} {mg : Str → Option Value} {base : Heap} (T : Txt K mg base) : mg "read_row" = some (.ref (He.ga K "read_row")) := T.glo 16 _ rfl
theorem Txt.g_read_steps {K : PySem.W.Frag} {mg : Str → Option Value} {base : Heap} (T : Txt K mg base) : mg "read_steps" = some (.ref (He.ga K "read_steps")) := T.glo 17 _ rfl
theorem Txt.g_read_phases {K : PySem.W.Frag} {mg : Str → Option Value} {base : Heap} (T : Txt K mg base) : mg "read_phases" = some (.ref (He.ga K "read_phases")) := T.glo 18 _ rfl
theorem Txt.g__law_bag {K : PySem.W.Frag} {mg : Str → Option Value} {base : Heap} (T : Txt K mg base) : mg "_law_bag" = some (.ref (He.ga K "_law_bag")) := T.glo 19 _ rfl
theorem Txt.g__law_draw {K : PySem.W.Frag} {mg : Str → Option Value} {base : Heap} (T : Txt K mg base) : mg "_law_draw" = some (.ref (He.ga K "_law_draw")) := T.glo 20 _ rfl
theorem Txt.g__law_common {K : PySem.W.Frag} {mg : Str → Option Value} {base : Heap} (T : Txt K mg base) : mg "_law_common" = some (.ref (He.ga K "_law_common")) := T.glo 21 _ rfl
theorem Txt.g__law_tie {K : PySem.W.Frag} {mg : Str → Option Value} {base : Heap} (T : Txt K mg base) : mg "_law_tie" = some (.ref (He.ga K "_law_tie")) := T.glo 22 _ rfl
theorem Txt.g__law_any_periods {K : PySem.W.Frag} {mg : Str → Option Value} {base : Heap} (T : Txt K mg base) : mg "_law_any_periods" = some (.ref (He.ga K "_law_any_periods")) := T.glo 23 _ rfl
theorem Txt.g__law_any_fraction {K : PySem.W.Frag} {mg : Str → Option Value} {base : Heap} (T : Txt K mg base) : mg "_law_any_fraction" = some (.ref (He.ga K "_law_any_fraction")) := T.glo 24 _ rfl
theorem Txt.g__law_word {K : PySem.W.Frag} {mg : Str → Option Value} {base : Heap} (T : Txt K mg base) : mg "_law_word" = some (.ref (He.ga K "_law_word")) := T.glo 25 _ rfl
theorem Txt.g__law_rows_right {K : PySem.W.Frag} {mg : Str → Option Value} {base : Heap} (T : Txt K mg base) : mg "_law_rows_right" = some (.ref (He.ga K "_law_rows_right")) := T.glo 26 _ rfl
theorem Txt.g__law_steps_right {K : PySem.W.Frag} {mg : Str → Option Value} {base : Heap} (T : Txt K mg base) : mg "_law_steps_right" = some (.ref (He.ga K "_law_steps_right")) := T.glo 27 _ rfl
theorem Txt.g__law_phases_right {K : PySem.W.Frag} {mg : Str → Option Value} {base : Heap} (T : Txt K mg base) : mg "_law_phases_right" = some (.ref (He.ga K "_law_phases_right")) := T.glo 28 _ rfl
theorem Txt.g_law {K : PySem.W.Frag} {mg : Str → Option Value} {base : Heap} (T : Txt K mg base) : mg "law" = some (.ref (He.ga K "law")) := T.glo 29 _ rfl
theorem Txt.b_abs {K : PySem.W.Frag} {mg : Str → Option Value} {base : Heap} (T : Txt K mg base) : mg "abs" = none := T.free 30 _ rfl
theorem Txt.b_all {K : PySem.W.Frag} {mg : Str → Option Value} {base : Heap} (T : Txt K mg base) : mg "all" = none := T.free 31 _ rfl
theorem Txt.b_bool {K : PySem.W.Frag} {mg : Str → Option Value} {base : Heap} (T : Txt K mg base) : mg "bool" = none := T.free 32 _ rfl
theorem Txt.b_enumerate {K : PySem.W.Frag} {mg : Str → Option Value} {base : Heap} (T : Txt K mg base) : mg "enumerate" = none := T.free 33 _ rfl
theorem Txt.b_int {K : PySem.W.Frag} {mg : Str → Option Value} {base : Heap} (T : Txt K mg base) : mg "int" = none := T.free 34 _ rfl
theorem Txt.b_isinstance {K : PySem.W.Frag} {mg : Str → Option Value} {base : Heap} (T : Txt K mg base) : mg "isinstance" = none := T.free 35 _ rfl
theorem Txt.b_len {K : PySem.W.Frag} {mg : Str → Option Value} {base : Heap} (T : Txt K mg base) : mg "len" = none := T.free 36 _ rfl
theorem Txt.b_list {K : PySem.W.Frag} {mg : Str → Option Value} {base : Heap} (T : Txt K mg base) : mg "list" = none := T.free 37 _ rfl
theorem Txt.b_range {K : PySem.W.Frag} {mg : Str → Option Value} {base : Heap} (T : Txt K mg base) : mg "range" = none := T.free 38 _ rfl
theorem Txt.b_repr {K : PySem.W.Frag} {mg : Str → Option Value} {base : Heap} (T : Txt K mg base) : mg "repr" = none := T.free 39 _ rfl
theorem Txt.b_str {K : PySem.W.Frag} {mg : Str → Option Value} {base : Heap} (T : Txt K mg base) : mg "str" = none := T.free 40 _ rfl
theorem Txt.b_tuple {K : PySem.W.Frag} {mg : Str → Option Value} {base : Heap} (T : Txt K mg base) : mg "tuple" = none := T.free 41 _ rfl
theorem Txt.c_MOST_COPIERS {K : PySem.W.Frag} {mg : Str → Option Value} {base : Heap} (T : Txt K mg base) {X : Cx} {W : WX} {pos : Pos} (hm : X.mg = mg := by rfl) (hg : Gl X "MOST_COPIERS" := by rfl) : DE X W (.Name "MOST_COPIERS" pos) c_MOST_COPIERS := d_gint (by rw [hm]; exact T.int 42 _ _ rfl) hg
theorem Txt.c_MOST_DIGITS {K : PySem.W.Frag} {mg : Str → Option Value} {base : Heap} (T : Txt K mg base) {X : Cx} {W : WX} {pos : Pos} (hm : X.mg = mg := by rfl) (hg : Gl X "MOST_DIGITS" := by rfl) : DE X W (.Name "MOST_DIGITS" pos) c_MOST_DIGITS := d_gint (by rw [hm]; exact T.int 43 _ _ rfl) hg
theorem Txt.c_MOST_PERIOD {K : PySem.W.Frag} {mg : Str → Option Value} {base : Heap} (T : Txt K mg base) {X : Cx} {W : WX} {pos : Pos} (hm : X.mg = mg := by rfl) (hg : Gl X "MOST_PERIOD" := by rfl) : DE X W (.Name "MOST_PERIOD" pos) c_MOST_PERIOD := d_gint (by rw [hm]; exact T.int 44 _ _ rfl) hg
theorem Txt.c_TIES {K : PySem.W.Frag} {mg : Str → Option Value} {base : Heap} (T : Txt K mg base) {X : Cx} {W : WX} {pos : Pos} (hk : X.K = K := by rfl) (hm : X.mg = mg := by rfl) (hg : Gl X "TIES" := by rfl) : DE X W (.Name "TIES" pos) c_TIES := d_gtxts (by rw [hk]; exact T.ex0) (by rw [hm, hk]; exact T.glo 45 _ rfl) hg
theorem Txt.f_is_number {K : PySem.W.Frag} {mg : Str → Option Value} {base : Heap} (T : Txt K mg base) : FunK K "is_number" "is_number" st_is_number (He.ga K "is_number") := T.fn_ 0 _ _ _ rfl
theorem bi_is_number {K : PySem.W.Frag} {mg : Str → Option Value} {base : Heap} (T : Txt K mg base) : Binds K (fdAt K (He.ga K "is_number")) P_is_number [] := T.f_is_number.binds fun _ _ _ _ _ _ us hl => match us, hl with | [_], _ => rfl
theorem Txt.f_is_whole {K : PySem.W.Frag} {mg : Str → Option Value} {base : Heap} (T : Txt K mg base) : FunK K "is_whole" "is_whole" st_is_whole (He.ga K "is_whole") := T.fn_ 1 _ _ _ rfl
theorem bi_is_whole {K : PySem.W.Frag} {mg : Str → Option Value} {base : Heap} (T : Txt K mg base) : Binds K (fdAt K (He.ga K "is_whole")) P_is_whole [] := T.f_is_whole.binds fun _ _ _ _ _ _ us hl => match us, hl with | [_, _, _], _ => rfl
theorem Txt.f_greatest_common {K : PySem.W.Frag} {mg : Str → Option Value} {base : Heap} (T : Txt K mg base) : FunK K "greatest_common" "greatest_common" st_greatest_common (He.ga K "greatest_common") := T.fn_ 2 _ _ _ rfl
theorem bi_greatest_common {K : PySem.W.Frag} {mg : Str → Option Value} {base : Heap} (T : Txt K mg base) : Binds K (fdAt K (He.ga K "greatest_common")) P_greatest_common [] := T.f_greatest_common.binds fun _ _ _ _ _ _ us hl => match us, hl with | [_, _], _ => rfl
theorem Txt.f_fits_row {K : PySem.W.Frag} {mg : Str → Option Value} {base : Heap} (T : Txt K mg base) : FunK K "fits_row" "fits_row" st_fits_row (He.ga K "fits_row") := T.fn_ 3 _ _ _ rfl
theorem bi_fits_row {K : PySem.W.Frag} {mg : Str → Option Value} {base : Heap} (T : Txt K mg base) : Binds K (fdAt K (He.ga K "fits_row")) P_fits_row [] := T.f_fits_row.binds fun _ _ _ _ _ _ us hl => match us, hl with | [_], _ => rfl
theorem Txt.f_need_row {K : PySem.W.Frag} {mg : Str → Option Value} {base : Heap} (T : Txt K mg base) : FunK K "need_row" "need_row" st_need_row (He.ga K "need_row") := T.fn_ 4 _ _ _ rfl
theorem bi_need_row {K : PySem.W.Frag} {mg : Str → Option Value} {base : Heap} (T : Txt K mg base) : Binds K (fdAt K (He.ga K "need_row")) P_need_row [] := T.f_need_row.binds fun _ _ _ _ _ _ us hl => match us, hl with | [_], _ => rfl
theorem Txt.f_fits_fraction {K : PySem.W.Frag} {mg : Str → Option Value} {base : Heap} (T : Txt K mg base) : FunK K "fits_fraction" "fits_fraction" st_fits_fraction (He.ga K "fits_fraction") := T.fn_ 5 _ _ _ rfl
theorem bi_fits_fraction {K : PySem.W.Frag} {mg : Str → Option Value} {base : Heap} (T : Txt K mg base) : Binds K (fdAt K (He.ga K "fits_fraction")) P_fits_fraction [] := T.f_fits_fraction.binds fun _ _ _ _ _ _ us hl => match us, hl with | [_], _ => rfl
theorem Txt.f_fits_phases {K : PySem.W.Frag} {mg : Str → Option Value} {base : Heap} (T : Txt K mg base) : FunK K "fits_phases" "fits_phases" st_fits_phases (He.ga K "fits_phases") := T.fn_ 6 _ _ _ rfl
theorem bi_fits_phases {K : PySem.W.Frag} {mg : Str → Option Value} {base : Heap} (T : Txt K mg base) : Binds K (fdAt K (He.ga K "fits_phases")) P_fits_phases [] := T.f_fits_phases.binds fun _ _ _ _ _ _ us hl => match us, hl with | [_, _], _ => rfl
theorem Txt.f_need_phases {K : PySem.W.Frag} {mg : Str → Option Value} {base : Heap} (T : Txt K mg base) : FunK K "need_phases" "need_phases" st_need_phases (He.ga K "need_phases") := T.fn_ 7 _ _ _ rfl
theorem bi_need_phases {K : PySem.W.Frag} {mg : Str → Option Value} {base : Heap} (T : Txt K mg base) : Binds K (fdAt K (He.ga K "need_phases")) P_need_phases [] := T.f_need_phases.binds fun _ _ _ _ _ _ us hl => match us, hl with | [_, _], _ => rfl
theorem Txt.f_fits_stretch {K : PySem.W.Frag} {mg : Str → Option Value} {base : Heap} (T : Txt K mg base) : FunK K "fits_stretch" "fits_stretch" st_fits_stretch (He.ga K "fits_stretch") := T.fn_ 8 _ _ _ rfl
theorem bi_fits_stretch {K : PySem.W.Frag} {mg : Str → Option Value} {base : Heap} (T : Txt K mg base) : Binds K (fdAt K (He.ga K "fits_stretch")) P_fits_stretch [] := T.f_fits_stretch.binds fun _ _ _ _ _ _ us hl => match us, hl with | [_], _ => rfl
theorem Txt.f_need_stretch {K : PySem.W.Frag} {mg : Str → Option Value} {base : Heap} (T : Txt K mg base) : FunK K "need_stretch" "need_stretch" st_need_stretch (He.ga K "need_stretch") := T.fn_ 9 _ _ _ rfl
theorem bi_need_stretch {K : PySem.W.Frag} {mg : Str → Option Value} {base : Heap} (T : Txt K mg base) : Binds K (fdAt K (He.ga K "need_stretch")) P_need_stretch [] := T.f_need_stretch.binds fun _ _ _ _ _ _ us hl => match us, hl with | [_], _ => rfl
theorem Txt.f_whole_of {K : PySem.W.Frag} {mg : Str → Option Value} {base : Heap} (T : Txt K mg base) : FunK K "whole_of" "whole_of" st_whole_of (He.ga K "whole_of") := T.fn_ 10 _ _ _ rfl
theorem bi_whole_of {K : PySem.W.Frag} {mg : Str → Option Value} {base : Heap} (T : Txt K mg base) : Binds K (fdAt K (He.ga K "whole_of")) P_whole_of [] := T.f_whole_of.binds fun _ _ _ _ _ _ us hl => match us, hl with | [_], _ => rfl
theorem Txt.f_fraction_of {K : PySem.W.Frag} {mg : Str → Option Value} {base : Heap} (T : Txt K mg base) : FunK K "fraction_of" "fraction_of" st_fraction_of (He.ga K "fraction_of") := T.fn_ 11 _ _ _ rfl
theorem bi_fraction_of {K : PySem.W.Frag} {mg : Str → Option Value} {base : Heap} (T : Txt K mg base) : Binds K (fdAt K (He.ga K "fraction_of")) P_fraction_of [] := T.f_fraction_of.binds fun _ _ _ _ _ _ us hl => match us, hl with | [_], _ => rfl
theorem Txt.f_fraction_text {K : PySem.W.Frag} {mg : Str → Option Value} {base : Heap} (T : Txt K mg base) : FunK K "fraction_text" "fraction_text" st_fraction_text (He.ga K "fraction_text") := T.fn_ 12 _ _ _ rfl
theorem bi_fraction_text {K : PySem.W.Frag} {mg : Str → Option Value} {base : Heap} (T : Txt K mg base) : Binds K (fdAt K (He.ga K "fraction_text")) P_fraction_text [] := T.f_fraction_text.binds fun _ _ _ _ _ _ us hl => match us, hl with | [_], _ => rfl
theorem Txt.f_write_row {K : PySem.W.Frag} {mg : Str → Option Value} {base : Heap} (T : Txt K mg base) : FunK K "write_row" "write_row" st_write_row (He.ga K "write_row") := T.fn_ 13 _ _ _ rfl
theorem bi_write_row {K : PySem.W.Frag} {mg : Str → Option Value} {base : Heap} (T : Txt K mg base) : Binds K (fdAt K (He.ga K "write_row")) P_write_row [] := T.f_write_row.binds fun _ _ _ _ _ _ us hl => match us, hl with | [_], _ => rfl
theorem Txt.f_write_steps {K : PySem.W.Frag} {mg : Str → Option Value} {base : Heap} (T : Txt K mg base) : FunK K "write_steps" "write_steps" st_write_steps (He.ga K "write_steps") := T.fn_ 14 _ _ _ rfl
theorem bi_write_steps {K : PySem.W.Frag} {mg : Str → Option Value} {base : Heap} (T : Txt K mg base) : Binds K (fdAt K (He.ga K "write_steps")) P_write_steps [] := T.f_write_steps.binds fun _ _ _ _ _ _ us hl => match us, hl with | [_], _ => rfl
theorem Txt.f_write_phases {K : PySem.W.Frag} {mg : Str → Option Value} {base : Heap} (T : Txt K mg base) : FunK K "write_phases" "write_phases" st_write_phases (He.ga K "write_phases") := T.fn_ 15 _ _ _ rfl
theorem bi_write_phases {K : PySem.W.Frag} {mg : Str → Option Value} {base : Heap} (T : Txt K mg base) : Binds K (fdAt K (He.ga K "write_phases")) P_write_phases [] := T.f_write_phases.binds fun _ _ _ _ _ _ us hl => match us, hl with | [_, _], _ => rfl
theorem Txt.f_read_row {K : PySem.W.Frag} {mg : Str → Option Value} {base : Heap} (T : Txt K mg base) : FunK K "read_row" "read_row" st_read_row (He.ga K "read_row") := T.fn_ 16 _ _ _ rfl
theorem bi_read_row {K : PySem.W.Frag} {mg : Str → Option Value} {base : Heap} (T : Txt K mg base) : Binds K (fdAt K (He.ga K "read_row")) P_read_row [] := T.f_read_row.binds fun _ _ _ _ _ _ us hl => match us, hl with | [_], _ => rfl
theorem Txt.f_read_steps {K : PySem.W.Frag} {mg : Str → Option Value} {base : Heap} (T : Txt K mg base) : FunK K "read_steps" "read_steps" st_read_steps (He.ga K "read_steps") := T.fn_ 17 _ _ _ rfl
theorem bi_read_steps {K : PySem.W.Frag} {mg : Str → Option Value} {base : Heap} (T : Txt K mg base) : Binds K (fdAt K (He.ga K "read_steps")) P_read_steps [] := T.f_read_steps.binds fun _ _ _ _ _ _ us hl => match us, hl with | [_], _ => rfl
theorem Txt.f_read_phases {K : PySem.W.Frag} {mg : Str → Option Value} {base : Heap} (T : Txt K mg base) : FunK K "read_phases" "read_phases" st_read_phases (He.ga K "read_phases") := T.fn_ 18 _ _ _ rfl
theorem bi_read_phases {K : PySem.W.Frag} {mg : Str → Option Value} {base : Heap} (T : Txt K mg base) : Binds K (fdAt K (He.ga K "read_phases")) P_read_phases [] := T.f_read_phases.binds fun _ _ _ _ _ _ us hl => match us, hl with | [_, _], _ => rfl
theorem Txt.f__law_bag {K : PySem.W.Frag} {mg : Str → Option Value} {base : Heap} (T : Txt K mg base) : FunK K "_law_bag" "_law_bag" st__law_bag (He.ga K "_law_bag") := T.fn_ 19 _ _ _ rfl
theorem bi__law_bag {K : PySem.W.Frag} {mg : Str → Option Value} {base : Heap} (T : Txt K mg base) : Binds K (fdAt K (He.ga K "_law_bag")) P__law_bag [] := T.f__law_bag.binds fun _ _ _ _ _ _ us hl => match us, hl with | [_], _ => rfl
theorem Txt.f__law_draw {K : PySem.W.Frag} {mg : Str → Option Value} {base : Heap} (T : Txt K mg base) : FunK K "_law_draw" "_law_draw" st__law_draw (He.ga K "_law_draw") := T.fn_ 20 _ _ _ rfl
theorem bi__law_draw {K : PySem.W.Frag} {mg : Str → Option Value} {base : Heap} (T : Txt K mg base) : Binds K (fdAt K (He.ga K "_law_draw")) P__law_draw [] := T.f__law_draw.binds fun _ _ _ _ _ _ us hl => match us, hl with | [_, _], _ => rfl
theorem Txt.f__law_common {K : PySem.W.Frag} {mg : Str → Option Value} {base : Heap} (T : Txt K mg base) : FunK K "_law_common" "_law_common" st__law_common (He.ga K "_law_common") := T.fn_ 21 _ _ _ rfl
theorem bi__law_common {K : PySem.W.Frag} {mg : Str → Option Value} {base : Heap} (T : Txt K mg base) : Binds K (fdAt K (He.ga K "_law_common")) P__law_common [] := T.f__law_common.binds fun _ _ _ _ _ _ us hl => match us, hl with | [_, _], _ => rfl
theorem Txt.f__law_tie {K : PySem.W.Frag} {mg : Str → Option Value} {base : Heap} (T : Txt K mg base) : FunK K "_law_tie" "_law_tie" st__law_tie (He.ga K "_law_tie") := T.fn_ 22 _ _ _ rfl
theorem bi__law_tie {K : PySem.W.Frag} {mg : Str → Option Value} {base : Heap} (T : Txt K mg base) : Binds K (fdAt K (He.ga K "_law_tie")) P__law_tie [] := T.f__law_tie.binds fun _ _ _ _ _ _ us hl => match us, hl with | [_], _ => rfl
theorem Txt.f__law_any_periods {K : PySem.W.Frag} {mg : Str → Option Value} {base : Heap} (T : Txt K mg base) : FunK K "_law_any_periods" "_law_any_periods" st__law_any_periods (He.ga K "_law_any_periods") := T.fn_ 23 _ _ _ rfl
theorem bi__law_any_periods {K : PySem.W.Frag} {mg : Str → Option Value} {base : Heap} (T : Txt K mg base) : Binds K (fdAt K (He.ga K "_law_any_periods")) P__law_any_periods [] := T.f__law_any_periods.binds fun _ _ _ _ _ _ us hl => match us, hl with | [_], _ => rfl
theorem Txt.f__law_any_fraction {K : PySem.W.Frag} {mg : Str → Option Value} {base : Heap} (T : Txt K mg base) : FunK K "_law_any_fraction" "_law_any_fraction" st__law_any_fraction (He.ga K "_law_any_fraction") := T.fn_ 24 _ _ _ rfl
theorem bi__law_any_fraction {K : PySem.W.Frag} {mg : Str → Option Value} {base : Heap} (T : Txt K mg base) : Binds K (fdAt K (He.ga K "_law_any_fraction")) P__law_any_fraction [] := T.f__law_any_fraction.binds fun _ _ _ _ _ _ us hl => match us, hl with | [_], _ => rfl
theorem Txt.f__law_word {K : PySem.W.Frag} {mg : Str → Option Value} {base : Heap} (T : Txt K mg base) : FunK K "_law_word" "_law_word" st__law_word (He.ga K "_law_word") := T.fn_ 25 _ _ _ rfl
theorem bi__law_word {K : PySem.W.Frag} {mg : Str → Option Value} {base : Heap} (T : Txt K mg base) : Binds K (fdAt K (He.ga K "_law_word")) P__law_word [] := T.f__law_word.binds fun _ _ _ _ _ _ us hl => match us, hl with | [_], _ => rfl
theorem Txt.f__law_rows_right {K : PySem.W.Frag} {mg : Str → Option Value} {base : Heap} (T : Txt K mg base) : FunK K "_law_rows_right" "_law_rows_right" st__law_rows_right (He.ga K "_law_rows_right") := T.fn_ 26 _ _ _ rfl
theorem bi__law_rows_right {K : PySem.W.Frag} {mg : Str → Option Value} {base : Heap} (T : Txt K mg base) : Binds K (fdAt K (He.ga K "_law_rows_right")) P__law_rows_right [] := T.f__law_rows_right.binds fun _ _ _ _ _ _ us hl => match us, hl with | [_], _ => rfl
theorem Txt.f__law_steps_right {K : PySem.W.Frag} {mg : Str → Option Value} {base : Heap} (T : Txt K mg base) : FunK K "_law_steps_right" "_law_steps_right" st__law_steps_right (He.ga K "_law_steps_right") := T.fn_ 27 _ _ _ rfl
theorem bi__law_steps_right {K : PySem.W.Frag} {mg : Str → Option Value} {base : Heap} (T : Txt K mg base) : Binds K (fdAt K (He.ga K "_law_steps_right")) P__law_steps_right [] := T.f__law_steps_right.binds fun _ _ _ _ _ _ us hl => match us, hl with | [_], _ => rfl
theorem Txt.f__law_phases_right {K : PySem.W.Frag} {mg : Str → Option Value} {base : Heap} (T : Txt K mg base) : FunK K "_law_phases_right" "_law_phases_right" st__law_phases_right (He.ga K "_law_phases_right") := T.fn_ 28 _ _ _ rfl
theorem bi__law_phases_right {K : PySem.W.Frag} {mg : Str → Option Value} {base : Heap} (T : Txt K mg base) : Binds K (fdAt K (He.ga K "_law_phases_right")) P__law_phases_right [] := T.f__law_phases_right.binds fun _ _ _ _ _ _ us hl => match us, hl with | [_, _], _ => rfl
theorem Txt.f_law {K : PySem.W.Frag} {mg : Str → Option Value} {base : Heap} (T : Txt K mg base) : FunK K "law" "law" st_law (He.ga K "law") := T.fn_ 29 _ _ _ rfl
theorem bi_law {K : PySem.W.Frag} {mg : Str → Option Value} {base : Heap} (T : Txt K mg base) : Binds K (fdAt K (He.ga K "law")) P_law [] := T.f_law.binds fun _ _ _ _ _ _ us hl => match us, hl with | [_], _ => rfl
theorem kb_write_row_0_row {K : PySem.W.Frag} {mg : Str → Option Value} {base : Heap} (T : Txt K mg base) : KB K (He.ga K "write_row") P_write_row 0 ["row"] [0] := T.f_write_row.kb fun _ _ _ _ _ _ us ws hl hk => match us, ws, hl, hk with | [], [_], _, _ => rfl
theorem kb_read_row_0_text {K : PySem.W.Frag} {mg : Str → Option Value} {base : Heap} (T : Txt K mg base) : KB K (He.ga K "read_row") P_read_row 0 ["text"] [0] := T.f_read_row.kb fun _ _ _ _ _ _ us ws hl hk => match us, ws, hl, hk with | [], [_], _, _ => rfl
theorem kb_write_steps_0_stretch {K : PySem.W.Frag} {mg : Str → Option Value} {base : Heap} (T : Txt K mg base) : KB K (He.ga K "write_steps") P_write_steps 0 ["stretch"] [0] := T.f_write_steps.kb fun _ _ _ _ _ _ us ws hl hk => match us, ws, hl, hk with | [], [_], _, _ => rfl
theorem kb_read_steps_0_text {K : PySem.W.Frag} {mg : Str → Option Value} {base : Heap} (T : Txt K mg base) : KB K (He.ga K "read_steps") P_read_steps 0 ["text"] [0] := T.f_read_steps.kb fun _ _ _ _ _ _ us ws hl hk => match us, ws, hl, hk with | [], [_], _, _ => rfl
theorem kb_write_phases_0_phases_row {K : PySem.W.Frag} {mg : Str → Option Value} {base : Heap} (T : Txt K mg base) : KB K (He.ga K "write_phases") P_write_phases 0 ["phases", "row"] [1, 0] := T.f_write_phases.kb fun _ _ _ _ _ _ us ws hl hk => match us, ws, hl, hk with | [], [_, _], _, _ => rfl
theorem kb_read_phases_0_text_row {K : PySem.W.Frag} {mg : Str → Option Value} {base : Heap} (T : Txt K mg base) : KB K (He.ga K "read_phases") P_read_phases 0 ["text", "row"] [1, 0] := T.f_read_phases.kb fun _ _ _ _ _ _ us ws hl hk => match us, ws, hl, hk with | [], [_, _], _, _ => rfl
section
variable {P : Program} {w : World} {K : PySem.W.Frag} {mg : Str → Option Value} {base : Heap}
theorem ok_is_number (T : Txt K mg base) : FnG P w K mg base 1 (He.ga K "is_number") P_is_number sp_is_number :=
  fn_ok (k := 0) (t := t_is_number) T.f_is_number sc_is_number lnF1 (fun cdv A outer s H E hr =>
      (s_one (s_ret (d_and (d_callB call_isi od_isi (by rfl) T.b_isinstance DL.boot_isinstance (d_cons (d_var 0) (d_cons (d_ty (by rfl) T.b_int DL.boot_int) d_nil))) (d_one (d_not (d_callB call_isi od_isi (by rfl) T.b_isinstance DL.boot_isinstance (d_cons (d_var 0) (d_cons (d_ty (by rfl) T.b_bool DL.boot_bool) d_nil))))))))) rd_is_number
theorem ok_is_whole (T : Txt K mg base) : FnG P w K mg base 2 (He.ga K "is_whole") P_is_whole sp_is_whole :=
  fn_ok (k := 1) (t := t_is_whole) T.f_is_whole sc_is_whole lnF3 (fun cdv A outer s H E hr =>
      (s_one (s_ret (d_and (d_call (ok_is_number T) (hr.mono (by decide)) tk_b (by rfl) T.g_is_number (T.f_is_number).F.kp (bi_is_number T) (d_cons (d_var 0) d_nil)) (d_one (d_ch op_le op_le od_le od_le (d_var 1) (d_var 0) (d_var 2))))))) rd_is_whole
theorem ok_greatest_common (T : Txt K mg base) : FnG P w K mg base 1 (He.ga K "greatest_common") P_greatest_common sp_greatest_common :=
  fn_ok (k := 0) (t := t_greatest_common) T.f_greatest_common sc_greatest_common lnF2 (fun cdv A outer s H E hr =>
      (s_cons (s_while hp_b (t_cmp op_gt od_gt (d_var 1) d_int) (s_one (s_par (i := 0) (j := 1) rfl sc_greatest_common.nd rfl rfl (by decide) rfl rfl (d_cons (d_var 1) (d_cons (d_bin op_mod od_mod (d_var 0) (d_var 1)) d_nil)))))
      (s_one (s_ret (d_var 0))))) rd_greatest_common
theorem ok_fits_row (T : Txt K mg base) : FnG P w K mg base 3 (He.ga K "fits_row") P_fits_row sp_fits_row :=
  fn_ok (k := 2) (t := t_fits_row) T.f_fits_row sc_fits_row lnF1 (fun cdv A outer s H E hr =>
      (s_cons (s_if (t_w (w_or (t_not (t_val (d_callB call_isi od_isi (by rfl) T.b_isinstance DL.boot_isinstance (d_cons (d_var 0) (d_cons (d_ty (by rfl) T.b_tuple DL.boot_tuple) d_nil))))) (w_or (t_cmp (o_ne hr.u) od_ne (d_callB c_len od_len (by rfl) T.b_len DL.boot_len (d_cons (d_var 0) d_nil)) d_int) (w_or (t_not (t_val (d_callB call_isi od_isi (by rfl) T.b_isinstance DL.boot_isinstance (d_cons (d_ix (d_var 0) d_int) (d_cons (d_ty (by rfl) T.b_str DL.boot_str) d_nil))))) (w_or1 (t_cmp o_notIn od_notIn (d_ix (d_var 0) d_int) (T.c_TIES)))))))
        (s_one (s_ret d_bl))
        s_nil)
      (s_cons (s_if (t_w (w_or (t_not (t_val (d_callB call_isi od_isi (by rfl) T.b_isinstance DL.boot_isinstance (d_cons (d_ix (d_var 0) d_int) (d_cons (d_ty (by rfl) T.b_tuple DL.boot_tuple) d_nil))))) (w_or1 (t_not (t_ch op_le op_le od_le od_le d_int (d_callB c_len od_len (by rfl) T.b_len DL.boot_len (d_cons (d_ix (d_var 0) d_int) d_nil)) d_int)))))
        (s_one (s_ret d_bl))
        s_nil)
      (s_one (s_ret (d_callB (cr_all rfl) od_all (by rfl) T.b_all DL.boot_all (d_cons (d_lc [("period", 1)] rfl sc_fits_row.nd (i_tup (d_ix (d_var 0) d_int)) (blkOk_by (own := [("period", 1)]) (N := N_fits_row) (sc := defScope st_fits_row) (by decide +kernel)) (fun _ _ _ _ _ => (g_name (i := 1) sc_fits_row.nd rfl (by first | exact Or.inl rfl | exact Or.inr rfl))) (fun _ _ _ _ _ => ts_nil) (fun _ _ _ _ _ => (d_call (ok_is_whole T) (hr.mono (by decide)) takes0 (by rfl) T.g_is_whole (T.f_is_whole).F.kp (bi_is_whole T) (d_cons (d_var 1) (d_cons d_int (d_cons (T.c_MOST_PERIOD) d_nil)))))) d_nil))))))) rd_fits_row
theorem ok_need_row (T : Txt K mg base) : FnG P w K mg base 4 (He.ga K "need_row") P_need_row sp_need_row :=
  fn_ok (k := 3) (t := t_need_row) T.f_need_row sc_need_row lnF1 (fun cdv A outer s H E hr =>
      (s_one (s_if (t_not (t_val (d_call (ok_fits_row T) (hr.mono (by decide)) tk_b (by rfl) T.g_fits_row (T.f_fits_row).F.kp (bi_fits_row T) (d_cons (d_var 0) d_nil))))
        (s_one s_never)
        s_nil))) rd_need_row
theorem ok_fits_fraction (T : Txt K mg base) : FnG P w K mg base 2 (He.ga K "fits_fraction") P_fits_fraction sp_fits_fraction :=
  fn_ok (k := 1) (t := t_fits_fraction) T.f_fits_fraction sc_fits_fraction lnF1 (fun cdv A outer s H E hr =>
      (s_cons (s_if (t_w (w_or (t_not (t_val (d_callB call_isi od_isi (by rfl) T.b_isinstance DL.boot_isinstance (d_cons (d_var 0) (d_cons (d_ty (by rfl) T.b_tuple DL.boot_tuple) d_nil))))) (w_or (t_cmp (o_ne hr.u) od_ne (d_callB c_len od_len (by rfl) T.b_len DL.boot_len (d_cons (d_var 0) d_nil)) d_int) (w_or (t_not (t_val (d_call (ok_is_number T) (hr.mono (by decide)) tk_b (by rfl) T.g_is_number (T.f_is_number).F.kp (bi_is_number T) (d_cons (d_ix (d_var 0) d_int) d_nil)))) (w_or1 (t_not (t_val (d_call (ok_is_number T) (hr.mono (by decide)) tk_b (by rfl) T.g_is_number (T.f_is_number).F.kp (bi_is_number T) (d_cons (d_ix (d_var 0) d_int) d_nil)))))))))
        (s_one (s_ret d_bl))
        s_nil)
      (s_one (s_ret (d_and (d_cmp op_gt od_gt (d_ix (d_var 0) d_int) d_int) (d_one (d_cmp (o_eq hr.u) od_eq (d_call (ok_greatest_common T) (hr.mono (by decide)) tk_b (by rfl) T.g_greatest_common (T.f_greatest_common).F.kp (bi_greatest_common T) (d_cons (d_callB call_abs od_abs (by rfl) T.b_abs DL.boot_abs (d_cons (d_ix (d_var 0) d_int) d_nil)) (d_cons (d_ix (d_var 0) d_int) d_nil))) d_int))))))) rd_fits_fraction
theorem ok_fits_phases (T : Txt K mg base) : FnG P w K mg base 3 (He.ga K "fits_phases") P_fits_phases sp_fits_phases :=
  fn_ok (k := 2) (t := t_fits_phases) T.f_fits_phases sc_fits_phases lnF2 (fun cdv A outer s H E hr =>
      (s_cons (s_if (t_w (w_or (t_not (t_val (d_callB call_isi od_isi (by rfl) T.b_isinstance DL.boot_isinstance (d_cons (d_var 1) (d_cons (d_ty (by rfl) T.b_list DL.boot_list) d_nil))))) (w_or1 (t_cmp (o_ne hr.u) od_ne (d_callB c_len od_len (by rfl) T.b_len DL.boot_len (d_cons (d_var 1) d_nil)) (d_callB c_len od_len (by rfl) T.b_len DL.boot_len (d_cons (d_ix (d_var 0) d_int) d_nil))))))
        (s_one (s_ret d_bl))
        s_nil)
      (s_one (s_ret (d_callB (cr_all rfl) od_all (by rfl) T.b_all DL.boot_all (d_cons (d_lc [("phase", 2)] rfl sc_fits_phases.nd (i_lst (d_var 1)) (blkOk_by (own := [("phase", 2)]) (N := N_fits_phases) (sc := defScope st_fits_phases) (by decide +kernel)) (fun _ _ _ _ _ => (g_name (i := 2) sc_fits_phases.nd rfl (by first | exact Or.inl rfl | exact Or.inr rfl))) (fun _ _ _ _ _ => ts_nil) (fun _ _ _ _ _ => (d_call (ok_fits_fraction T) (hr.mono (by decide)) takes0 (by rfl) T.g_fits_fraction (T.f_fits_fraction).F.kp (bi_fits_fraction T) (d_cons (d_var 2) d_nil)))) d_nil)))))) rd_fits_phases
theorem ok_need_phases (T : Txt K mg base) : FnG P w K mg base 4 (He.ga K "need_phases") P_need_phases sp_need_phases :=
  fn_ok (k := 3) (t := t_need_phases) T.f_need_phases sc_need_phases lnF2 (fun cdv A outer s H E hr =>
      (s_one (s_if (t_not (t_val (d_call (ok_fits_phases T) (hr.mono (by decide)) tk_b (by rfl) T.g_fits_phases (T.f_fits_phases).F.kp (bi_fits_phases T) (d_cons (d_var 0) (d_cons (d_var 1) d_nil)))))
        (s_one s_never)
        s_nil))) rd_need_phases
theorem ok_fits_stretch (T : Txt K mg base) : FnG P w K mg base 2 (He.ga K "fits_stretch") P_fits_stretch sp_fits_stretch :=
  fn_ok (k := 1) (t := t_fits_stretch) T.f_fits_stretch sc_fits_stretch lnF1 (fun cdv A outer s H E hr =>
      (s_one (s_ret (d_and (d_callB call_isi od_isi (by rfl) T.b_isinstance DL.boot_isinstance (d_cons (d_var 0) (d_cons (d_ty (by rfl) T.b_list DL.boot_list) d_nil))) (d_one (d_callB (cr_all rfl) od_all (by rfl) T.b_all DL.boot_all (d_cons (d_lc [("step", 1)] rfl sc_fits_stretch.nd (i_lst (d_var 0)) (blkOk_by (own := [("step", 1)]) (N := N_fits_stretch) (sc := defScope st_fits_stretch) (by decide +kernel)) (fun _ _ _ _ _ => (g_name (i := 1) sc_fits_stretch.nd rfl (by first | exact Or.inl rfl | exact Or.inr rfl))) (fun _ _ _ _ _ => ts_nil) (fun _ _ _ _ _ => (d_and (d_call (ok_is_number T) (hr.mono (by decide)) takes0 (by rfl) T.g_is_number (T.f_is_number).F.kp (bi_is_number T) (d_cons (d_var 1) d_nil)) (d_one (d_cmp op_ge od_ge (d_var 1) d_int))))) d_nil))))))) rd_fits_stretch
theorem ok_need_stretch (T : Txt K mg base) : FnG P w K mg base 3 (He.ga K "need_stretch") P_need_stretch sp_need_stretch :=
  fn_ok (k := 2) (t := t_need_stretch) T.f_need_stretch sc_need_stretch lnF1 (fun cdv A outer s H E hr =>
      (s_one (s_if (t_not (t_val (d_call (ok_fits_stretch T) (hr.mono (by decide)) tk_b (by rfl) T.g_fits_stretch (T.f_fits_stretch).F.kp (bi_fits_stretch T) (d_cons (d_var 0) d_nil))))
        (s_one s_never)
        s_nil))) rd_need_stretch
theorem ok_whole_of (T : Txt K mg base) : FnG P w K mg base 1 (He.ga K "whole_of") P_whole_of sp_whole_of :=
  fn_ok (k := 0) (t := t_whole_of) T.f_whole_of sc_whole_of lnF1 (fun cdv A outer s H E hr =>
      (s_cons (s_set (i := 1) sc_whole_of.nd rfl (by first | exact Or.inl rfl | exact Or.inr rfl) (d_ms PySem.F.slot_str_removeprefix PySem.F.type_str_removeprefix mt_removeprefix ms_removeprefix (d_var 0) (d_cons d_str d_nil)))
      (s_cons (s_if (t_w (w_or (t_cmp (o_eq hr.u) od_eq (d_var 1) d_str) (w_or (t_cmp op_gt od_gt (d_callB c_len od_len (by rfl) T.b_len DL.boot_len (d_cons (d_var 1) d_nil)) (T.c_MOST_DIGITS)) (w_or1 (t_not (t_val (d_callB (cr_all rfl) od_all (by rfl) T.b_all DL.boot_all (d_cons (d_lc [("sign", 2)] rfl sc_whole_of.nd (i_str (d_var 1)) (blkOk_by (own := [("sign", 2)]) (N := N_whole_of) (sc := defScope st_whole_of) (by decide +kernel)) (fun _ _ _ _ _ => (g_name (i := 2) sc_whole_of.nd rfl (by first | exact Or.inl rfl | exact Or.inr rfl))) (fun _ _ _ _ _ => ts_nil) (fun _ _ _ _ _ => (d_cmp o_in od_in (d_var 2) d_str))) d_nil))))))))
        (s_one (s_ret d_non))
        s_nil)
      (s_one (s_ret (d_if (t_cmp (o_eq hr.u) od_eq (d_callTy call_str_int od_strI (by rfl) T.b_str DL.boot_str (d_cons (d_callTy c_int od_int (by rfl) T.b_int DL.boot_int (d_cons (d_var 0) d_nil)) d_nil)) (d_var 0)) (d_callTy c_int od_int (by rfl) T.b_int DL.boot_int (d_cons (d_var 0) d_nil)) d_non)))))) rd_whole_of
theorem ok_fraction_of (T : Txt K mg base) : FnG P w K mg base 2 (He.ga K "fraction_of") P_fraction_of sp_fraction_of :=
  fn_ok (k := 1) (t := t_fraction_of) T.f_fraction_of sc_fraction_of lnF1 (fun cdv A outer s H E hr =>
      (s_cons (s_asg [1, 2, 3] (d_ms PySem.F.slot_str_partition PySem.F.type_str_partition mt_partition ms_partition (d_var 0) (d_cons d_str d_nil)) (g_tup rfl (gs_cons (g_name (i := 1) sc_fraction_of.nd rfl (by first | exact Or.inl rfl | exact Or.inr rfl)) (gs_cons (g_name (i := 2) sc_fraction_of.nd rfl (by first | exact Or.inl rfl | exact Or.inr rfl)) (gs_cons (g_name (i := 3) sc_fraction_of.nd rfl (by first | exact Or.inl rfl | exact Or.inr rfl)) gs_nil)))))
      (s_cons (s_par (i := 4) (j := 5) rfl sc_fraction_of.nd rfl rfl (by decide) rfl rfl (d_cons (d_call (ok_whole_of T) (hr.mono (by decide)) tk_b (by rfl) T.g_whole_of (T.f_whole_of).F.kp (bi_whole_of T) (d_cons (d_var 1) d_nil)) (d_cons (d_if (t_cmp (o_eq hr.u) od_eq (d_var 2) d_str) (d_call (ok_whole_of T) (hr.mono (by decide)) tk_b (by rfl) T.g_whole_of (T.f_whole_of).F.kp (bi_whole_of T) (d_cons (d_var 3) d_nil)) d_int) d_nil)))
      (s_cons (s_if (t_w (w_or (t_cmp op_isN od_is (d_var 4) d_non) (w_or1 (t_cmp op_isN od_is (d_var 5) d_non))))
        (s_one (s_ret d_non))
        s_nil)
      (s_cons (s_if (t_w (w_and (t_cmp (o_eq hr.u) od_eq (d_var 2) d_str) (w_and1 (t_w (w_or (t_cmp op_lt od_lt (d_var 5) d_int) (w_or1 (t_cmp op_gt od_gt (d_call (ok_greatest_common T) (hr.mono (by decide)) tk_b (by rfl) T.g_greatest_common (T.f_greatest_common).F.kp (bi_greatest_common T) (d_cons (d_callB call_abs od_abs (by rfl) T.b_abs DL.boot_abs (d_cons (d_var 4) d_nil)) (d_cons (d_var 5) d_nil))) d_int)))))))
        (s_one (s_ret d_non))
        s_nil)
      (s_one (s_ret (d_tup (d_cons (d_var 4) (d_cons (d_var 5) d_nil)))))))))) rd_fraction_of
theorem ok_fraction_text (T : Txt K mg base) : FnG P w K mg base 1 (He.ga K "fraction_text") P_fraction_text sp_fraction_text :=
  fn_ok (k := 0) (t := t_fraction_text) T.f_fraction_text sc_fraction_text lnF1 (fun cdv A outer s H E hr =>
      (s_one (s_ret (d_if (t_cmp (o_eq hr.u) od_eq (d_ix (d_var 0) d_int) d_int) (d_callTy call_str_int od_strI (by rfl) T.b_str DL.boot_str (d_cons (d_ix (d_var 0) d_int) d_nil)) (d_joined (DJ.cons (d_fmt (d_ix (d_var 0) d_int)) (DJ.cons d_str (DJ.cons (d_fmt (d_ix (d_var 0) d_int)) DJ.nil)))))))) rd_fraction_text
theorem ok_write_row (T : Txt K mg base) : FnG P w K mg base 5 (He.ga K "write_row") P_write_row sp_write_row :=
  fn_ok (k := 4) (t := t_write_row) T.f_write_row sc_write_row lnF1 (fun cdv A outer s H E hr =>
      (s_cons (s_expr (d_call (ok_need_row T) (hr.mono (by decide)) tk_b (by rfl) T.g_need_row (T.f_need_row).F.kp (bi_need_row T) (d_cons (d_var 0) d_nil)))
      (s_one (s_ret (d_ms PySem.F.slot_str_join PySem.F.type_str_join mt_join ms_join d_str (d_cons (d_lst (d_cons (d_ix (d_var 0) d_int) (d_star (d_lc [("period", 1)] rfl sc_write_row.nd (i_tup (d_ix (d_var 0) d_int)) (blkOk_by (own := [("period", 1)]) (N := N_write_row) (sc := defScope st_write_row) (by decide +kernel)) (fun _ _ _ _ _ => (g_name (i := 1) sc_write_row.nd rfl (by first | exact Or.inl rfl | exact Or.inr rfl))) (fun _ _ _ _ _ => ts_nil) (fun _ _ _ _ _ => (d_callTy call_str_int od_strI (by rfl) T.b_str DL.boot_str (d_cons (d_var 1) d_nil)))) d_nil))) d_nil)))))) rd_write_row
theorem ok_write_steps (T : Txt K mg base) : FnG P w K mg base 4 (He.ga K "write_steps") P_write_steps sp_write_steps :=
  fn_ok (k := 3) (t := t_write_steps) T.f_write_steps sc_write_steps lnF1 (fun cdv A outer s H E hr =>
      (s_cons (s_expr (d_call (ok_need_stretch T) (hr.mono (by decide)) tk_b (by rfl) T.g_need_stretch (T.f_need_stretch).F.kp (bi_need_stretch T) (d_cons (d_var 0) d_nil)))
      (s_one (s_ret (d_ms PySem.F.slot_str_join PySem.F.type_str_join mt_join ms_join d_str (d_cons (d_lc [("step", 1)] rfl sc_write_steps.nd (i_lst (d_var 0)) (blkOk_by (own := [("step", 1)]) (N := N_write_steps) (sc := defScope st_write_steps) (by decide +kernel)) (fun _ _ _ _ _ => (g_name (i := 1) sc_write_steps.nd rfl (by first | exact Or.inl rfl | exact Or.inr rfl))) (fun _ _ _ _ _ => ts_nil) (fun _ _ _ _ _ => (d_callTy call_str_int od_strI (by rfl) T.b_str DL.boot_str (d_cons (d_var 1) d_nil)))) d_nil)))))) rd_write_steps
theorem ok_write_phases (T : Txt K mg base) : FnG P w K mg base 5 (He.ga K "write_phases") P_write_phases sp_write_phases :=
  fn_ok (k := 4) (t := t_write_phases) T.f_write_phases sc_write_phases lnF2 (fun cdv A outer s H E hr =>
      (s_cons (s_expr (d_call (ok_need_row T) (hr.mono (by decide)) tk_b (by rfl) T.g_need_row (T.f_need_row).F.kp (bi_need_row T) (d_cons (d_var 0) d_nil)))
      (s_cons (s_expr (d_call (ok_need_phases T) (hr.mono (by decide)) tk_b (by rfl) T.g_need_phases (T.f_need_phases).F.kp (bi_need_phases T) (d_cons (d_var 0) (d_cons (d_var 1) d_nil))))
      (s_one (s_ret (d_ms PySem.F.slot_str_join PySem.F.type_str_join mt_join ms_join d_str (d_cons (d_lc [("phase", 2)] rfl sc_write_phases.nd (i_lst (d_var 1)) (blkOk_by (own := [("phase", 2)]) (N := N_write_phases) (sc := defScope st_write_phases) (by decide +kernel)) (fun _ _ _ _ _ => (g_name (i := 2) sc_write_phases.nd rfl (by first | exact Or.inl rfl | exact Or.inr rfl))) (fun _ _ _ _ _ => ts_nil) (fun _ _ _ _ _ => (d_call (ok_fraction_text T) (hr.mono (by decide)) takes0 (by rfl) T.g_fraction_text (T.f_fraction_text).F.kp (bi_fraction_text T) (d_cons (d_var 2) d_nil)))) d_nil))))))) rd_write_phases
theorem ok_read_row (T : Txt K mg base) : FnG P w K mg base 3 (He.ga K "read_row") P_read_row sp_read_row :=
  fn_ok (k := 2) (t := t_read_row) T.f_read_row sc_read_row lnF1 (fun cdv A outer s H E hr =>
      (s_cons (s_set (i := 1) sc_read_row.nd rfl (by first | exact Or.inl rfl | exact Or.inr rfl) (d_ms PySem.F.slot_str_split PySem.F.type_str_split mt_split ms_split (d_var 0) (d_cons d_str d_nil)))
      (s_cons (s_if (t_cmp o_notIn od_notIn (d_ix (d_var 1) d_int) (T.c_TIES))
        (s_one s_never)
        s_nil)
      (s_cons (s_set (i := 2) sc_read_row.nd rfl (by first | exact Or.inl rfl | exact Or.inr rfl) (d_lstM d_nil))
      (s_cons (s_for [3] hp_b rfl (i_rng2 (by rfl) T.b_range (d_cons d_int (d_cons (d_callB c_len od_len (by rfl) T.b_len DL.boot_len (d_cons (d_var 1) d_nil)) d_nil))) (g_name (i := 3) sc_read_row.nd rfl (by first | exact Or.inl rfl | exact Or.inr rfl))
        (s_cons (s_set (i := 4) sc_read_row.nd rfl (by first | exact Or.inl rfl | exact Or.inr rfl) (d_call (ok_whole_of T) (hr.mono (by decide)) tk_b (by rfl) T.g_whole_of (T.f_whole_of).F.kp (bi_whole_of T) (d_cons (d_ix (d_var 1) (d_var 3)) d_nil)))
      (s_cons (s_if (t_w (w_or (t_cmp op_gt od_gt (d_var 3) (T.c_MOST_COPIERS)) (w_or (t_cmp op_isN od_is (d_var 4) d_non) (w_or1 (t_not (t_val (d_call (ok_is_whole T) (hr.mono (by decide)) tk_b (by rfl) T.g_is_whole (T.f_is_whole).F.kp (bi_is_whole T) (d_cons (d_var 4) (d_cons d_int (d_cons (T.c_MOST_PERIOD) d_nil))))))))))
        (s_one s_never)
        s_nil)
      (s_one (s_expr (d_app (d_var 2) (d_cons (d_var 4) d_nil)))))))
      (s_cons (s_if (t_cmp op_lt od_lt (d_callB c_len od_len (by rfl) T.b_len DL.boot_len (d_cons (d_var 2) d_nil)) d_int)
        (s_one s_never)
        s_nil)
      (s_one (s_ret (d_tup (d_cons (d_ix (d_var 1) d_int) (d_cons (d_callTy call_tuple_of od_tuple (by rfl) T.b_tuple DL.boot_tuple (d_cons (d_var 2) d_nil)) d_nil))))))))))) rd_read_row
theorem ok_read_steps (T : Txt K mg base) : FnG P w K mg base 2 (He.ga K "read_steps") P_read_steps sp_read_steps :=
  fn_ok (k := 1) (t := t_read_steps) T.f_read_steps sc_read_steps lnF1 (fun cdv A outer s H E hr =>
      (s_cons (s_set (i := 1) sc_read_steps.nd rfl (by first | exact Or.inl rfl | exact Or.inr rfl) (d_lstM d_nil))
      (s_cons (s_set (i := 2) sc_read_steps.nd rfl (by first | exact Or.inl rfl | exact Or.inr rfl) (d_if (t_cmp (o_ne hr.u) od_ne (d_var 0) d_str) (d_ms PySem.F.slot_str_split PySem.F.type_str_split mt_split ms_split (d_var 0) (d_cons d_str d_nil)) (d_lst d_nil)))
      (s_cons (s_for [3, 4] hp_b rfl (i_enum (by rfl) T.b_enumerate (d_cons (d_var 2) d_nil)) (g_tup rfl (gs_cons (g_name (i := 3) sc_read_steps.nd rfl (by first | exact Or.inl rfl | exact Or.inr rfl)) (gs_cons (g_name (i := 4) sc_read_steps.nd rfl (by first | exact Or.inl rfl | exact Or.inr rfl)) gs_nil)))
        (s_cons (s_set (i := 5) sc_read_steps.nd rfl (by first | exact Or.inl rfl | exact Or.inr rfl) (d_call (ok_whole_of T) (hr.mono (by decide)) tk_b (by rfl) T.g_whole_of (T.f_whole_of).F.kp (bi_whole_of T) (d_cons (d_var 4) d_nil)))
      (s_cons (s_if (t_w (w_or (t_cmp op_isN od_is (d_var 5) d_non) (w_or1 (t_cmp op_lt od_lt (d_var 5) d_int))))
        (s_one s_never)
        s_nil)
      (s_one (s_expr (d_app (d_var 1) (d_cons (d_var 5) d_nil)))))))
      (s_one (s_ret (d_var 1))))))) rd_read_steps
theorem ok_read_phases (T : Txt K mg base) : FnG P w K mg base 5 (He.ga K "read_phases") P_read_phases sp_read_phases :=
  fn_ok (k := 4) (t := t_read_phases) T.f_read_phases sc_read_phases lnF2 (fun cdv A outer s H E hr =>
      (s_cons (s_expr (d_call (ok_need_row T) (hr.mono (by decide)) tk_b (by rfl) T.g_need_row (T.f_need_row).F.kp (bi_need_row T) (d_cons (d_var 0) d_nil)))
      (s_cons (s_set (i := 2) sc_read_phases.nd rfl (by first | exact Or.inl rfl | exact Or.inr rfl) (d_lstM d_nil))
      (s_cons (s_set (i := 3) sc_read_phases.nd rfl (by first | exact Or.inl rfl | exact Or.inr rfl) (d_ms PySem.F.slot_str_split PySem.F.type_str_split mt_split ms_split (d_var 1) (d_cons d_str d_nil)))
      (s_cons (s_for [4, 5] hp_b rfl (i_enum (by rfl) T.b_enumerate (d_cons (d_var 3) d_nil)) (g_tup rfl (gs_cons (g_name (i := 4) sc_read_phases.nd rfl (by first | exact Or.inl rfl | exact Or.inr rfl)) (gs_cons (g_name (i := 5) sc_read_phases.nd rfl (by first | exact Or.inl rfl | exact Or.inr rfl)) gs_nil)))
        (s_cons (s_set (i := 6) sc_read_phases.nd rfl (by first | exact Or.inl rfl | exact Or.inr rfl) (d_call (ok_fraction_of T) (hr.mono (by decide)) tk_b (by rfl) T.g_fraction_of (T.f_fraction_of).F.kp (bi_fraction_of T) (d_cons (d_var 5) d_nil)))
      (s_cons (s_if (t_w (w_or (t_cmp op_ge od_ge (d_var 4) (d_callB c_len od_len (by rfl) T.b_len DL.boot_len (d_cons (d_ix (d_var 0) d_int) d_nil))) (w_or1 (t_cmp op_isN od_is (d_var 6) d_non))))
        (s_one s_never)
        s_nil)
      (s_one (s_expr (d_app (d_var 2) (d_cons (d_var 6) d_nil)))))))
      (s_cons (s_if (t_cmp op_lt od_lt (d_callB c_len od_len (by rfl) T.b_len DL.boot_len (d_cons (d_var 2) d_nil)) (d_callB c_len od_len (by rfl) T.b_len DL.boot_len (d_cons (d_ix (d_var 0) d_int) d_nil)))
        (s_one s_never)
        s_nil)
      (s_one (s_ret (d_var 2))))))))) rd_read_phases
theorem ok__law_bag (T : Txt K mg base) : FnG P w K mg base 1 (He.ga K "_law_bag") P__law_bag sp__law_bag :=
  fn_ok (k := 0) (t := t__law_bag) T.f__law_bag sc__law_bag lnF1 (fun cdv A outer s H E hr =>
      (s_cons (s_set (i := 1) sc__law_bag.nd rfl (by first | exact Or.inl rfl | exact Or.inr rfl) d_int)
      (s_cons (s_if (t_cmp op_ge od_ge (d_var 0) (d_bin op_pow od_pow d_int d_int))
        (s_one (s_set (i := 1) sc__law_bag.nd rfl (by first | exact Or.inl rfl | exact Or.inr rfl) (d_bin op_sub od_sub (d_var 0) (d_bin op_pow od_pow d_int d_int))))
        s_nil)
      (s_one (s_ret (d_lstM (d_cons (d_var 1) (d_cons (d_bin op_mod od_mod (d_callTy c_int od_int (by rfl) T.b_int DL.boot_int (d_cons (d_var 0) d_nil)) d_int) (d_cons d_int d_nil))))))))) rd__law_bag
theorem ok__law_draw (T : Txt K mg base) : FnG P w K mg base 1 (He.ga K "_law_draw") P__law_draw sp__law_draw :=
  fn_ok (k := 0) (t := t__law_draw) T.f__law_draw sc__law_draw lnF2 (fun cdv A outer s H E hr =>
      (s_cons (s_if (t_cmp op_gt od_gt (d_ix (d_var 0) d_int) d_int)
        (s_cons (s_set (i := 2) sc__law_draw.nd rfl (by first | exact Or.inl rfl | exact Or.inr rfl) (d_bin op_mod od_mod (d_callTy c_int od_int (by rfl) T.b_int DL.boot_int (d_cons (d_ix (d_var 0) d_int) d_nil)) (d_var 1)))
      (s_cons (s_seti tk_b (d_bin op_fdivW od_div (d_ix (d_var 0) d_int) (d_var 1)) (d_var 0) d_int)
      (s_one (s_ret (d_var 2)))))
        s_nil)
      (s_cons (s_seti tk_b (d_bin o_add od_add (d_ix (d_var 0) d_int) d_int) (d_var 0) d_int)
      (s_cons (s_set (i := 3) sc__law_draw.nd rfl (by first | exact Or.inl rfl | exact Or.inr rfl) (d_ix (d_var 0) d_int))
      (s_cons (s_set (i := 4) sc__law_draw.nd rfl (by first | exact Or.inl rfl | exact Or.inr rfl) (d_bin o_add od_add (d_bin o_mul od_mul (d_bin o_add od_add (d_ix (d_var 0) d_int) d_int) (d_bin o_add od_add (d_bin o_add od_add (d_bin o_mul od_mul (d_bin o_mul od_mul d_int (d_var 3)) (d_var 3)) (d_bin o_mul od_mul d_int (d_var 3))) d_int)) (d_bin o_mul od_mul d_int (d_var 3))))
      (s_cons (s_set (i := 4) sc__law_draw.nd rfl (by first | exact Or.inl rfl | exact Or.inr rfl) (d_bin op_fdivW od_div (d_bin op_mod od_mod (d_callTy c_int od_int (by rfl) T.b_int DL.boot_int (d_cons (d_bin o_add od_add (d_bin o_mul od_mul (d_var 4) (d_var 4)) (d_bin o_mul od_mul d_int (d_var 4))) d_nil)) d_int) d_int))
      (s_one (s_ret (d_bin op_mod od_mod (d_bin op_fdivW od_div (d_bin op_mod od_mod (d_callTy c_int od_int (by rfl) T.b_int DL.boot_int (d_cons (d_bin o_add od_add (d_bin o_add od_add (d_bin o_mul od_mul (d_var 4) (d_var 4)) (d_bin o_mul od_mul d_int (d_var 4))) (d_var 3)) d_nil)) d_int) d_int) (d_var 1)))))))))) rd__law_draw
theorem ok__law_common (T : Txt K mg base) : FnG P w K mg base 1 (He.ga K "_law_common") P__law_common sp__law_common :=
  fn_ok (k := 0) (t := t__law_common) T.f__law_common sc__law_common lnF2 (fun cdv A outer s H E hr =>
      (s_cons (s_while hp_b (t_cmp op_gt od_gt (d_var 1) d_int) (s_one (s_par (i := 0) (j := 1) rfl sc__law_common.nd rfl rfl (by decide) rfl rfl (d_cons (d_var 1) (d_cons (d_bin op_mod od_mod (d_callTy c_int od_int (by rfl) T.b_int DL.boot_int (d_cons (d_var 0) d_nil)) (d_var 1)) d_nil)))))
      (s_one (s_ret (d_var 0))))) rd__law_common
theorem ok__law_tie (T : Txt K mg base) : FnG P w K mg base 2 (He.ga K "_law_tie") P__law_tie sp__law_tie :=
  fn_ok (k := 1) (t := t__law_tie) T.f__law_tie sc__law_tie lnF1 (fun cdv A outer s H E hr =>
      (s_one (s_ret (d_ix (d_lst (d_cons d_str (d_cons d_str d_nil))) (d_call (ok__law_draw T) (hr.mono (by decide)) tk_b (by rfl) T.g__law_draw (T.f__law_draw).F.kp (bi__law_draw T) (d_cons (d_var 0) (d_cons d_int d_nil))))))) rd__law_tie
theorem ok__law_any_periods (T : Txt K mg base) : FnG P w K mg base 2 (He.ga K "_law_any_periods") P__law_any_periods sp__law_any_periods :=
  fn_ok (k := 1) (t := t__law_any_periods) T.f__law_any_periods sc__law_any_periods lnF1 (fun cdv A outer s H E hr =>
      (s_one (s_ret (d_callTy call_tuple_of od_tuple (by rfl) T.b_tuple DL.boot_tuple (d_cons (d_lc [("k", 1)] rfl sc__law_any_periods.nd (i_rng1 (by rfl) T.b_range (d_cons (d_bin o_add od_add d_int (d_call (ok__law_draw T) (hr.mono (by decide)) tk_b (by rfl) T.g__law_draw (T.f__law_draw).F.kp (bi__law_draw T) (d_cons (d_var 0) (d_cons d_int d_nil)))) d_nil)) (blkOk_by (own := [("k", 1)]) (N := N__law_any_periods) (sc := defScope st__law_any_periods) (by decide +kernel)) (fun _ _ _ _ _ => (g_name (i := 1) sc__law_any_periods.nd rfl (by first | exact Or.inl rfl | exact Or.inr rfl))) (fun _ _ _ _ _ => ts_nil) (fun _ _ _ _ _ => (d_bin o_add od_add d_int (d_call (ok__law_draw T) (hr.mono (by decide)) takes0 (by rfl) T.g__law_draw (T.f__law_draw).F.kp (bi__law_draw T) (d_cons (d_var 0) (d_cons d_int d_nil)))))) d_nil))))) rd__law_any_periods
theorem ok__law_any_fraction (T : Txt K mg base) : FnG P w K mg base 2 (He.ga K "_law_any_fraction") P__law_any_fraction sp__law_any_fraction :=
  fn_ok (k := 1) (t := t__law_any_fraction) T.f__law_any_fraction sc__law_any_fraction lnF1 (fun cdv A outer s H E hr =>
      (s_cons (s_set (i := 1) sc__law_any_fraction.nd rfl (by first | exact Or.inl rfl | exact Or.inr rfl) (d_ix (d_lst (d_cons (d_bin op_sub od_sub (d_call (ok__law_draw T) (hr.mono (by decide)) tk_b (by rfl) T.g__law_draw (T.f__law_draw).F.kp (bi__law_draw T) (d_cons (d_var 0) (d_cons d_int d_nil))) d_int) (d_cons (d_bin o_add od_add (d_bin op_sub od_sub (d_call (ok__law_draw T) (hr.mono (by decide)) tk_b (by rfl) T.g__law_draw (T.f__law_draw).F.kp (bi__law_draw T) (d_cons (d_var 0) (d_cons (d_bin op_sub od_sub (d_bin o_mul od_mul d_int (d_bin op_pow od_pow d_int d_int)) d_int) d_nil))) (d_bin op_pow od_pow d_int d_int)) d_int) d_nil))) (d_call (ok__law_draw T) (hr.mono (by decide)) tk_b (by rfl) T.g__law_draw (T.f__law_draw).F.kp (bi__law_draw T) (d_cons (d_var 0) (d_cons d_int d_nil)))))
      (s_cons (s_set (i := 2) sc__law_any_fraction.nd rfl (by first | exact Or.inl rfl | exact Or.inr rfl) (d_ix (d_lst (d_cons d_int (d_cons (d_bin o_add od_add d_int (d_call (ok__law_draw T) (hr.mono (by decide)) tk_b (by rfl) T.g__law_draw (T.f__law_draw).F.kp (bi__law_draw T) (d_cons (d_var 0) (d_cons d_int d_nil)))) (d_cons (d_bin o_add od_add d_int (d_call (ok__law_draw T) (hr.mono (by decide)) tk_b (by rfl) T.g__law_draw (T.f__law_draw).F.kp (bi__law_draw T) (d_cons (d_var 0) (d_cons (d_bin op_sub od_sub (d_bin op_pow od_pow d_int d_int) d_int) d_nil)))) d_nil)))) (d_call (ok__law_draw T) (hr.mono (by decide)) tk_b (by rfl) T.g__law_draw (T.f__law_draw).F.kp (bi__law_draw T) (d_cons (d_var 0) (d_cons d_int d_nil)))))
      (s_cons (s_set (i := 3) sc__law_any_fraction.nd rfl (by first | exact Or.inl rfl | exact Or.inr rfl) (d_call (ok__law_common T) (hr.mono (by decide)) tk_b (by rfl) T.g__law_common (T.f__law_common).F.kp (bi__law_common T) (d_cons (d_callB call_abs od_abs (by rfl) T.b_abs DL.boot_abs (d_cons (d_var 1) d_nil)) (d_cons (d_var 2) d_nil))))
      (s_one (s_ret (d_tup (d_cons (d_bin op_fdivW od_div (d_var 1) (d_var 3)) (d_cons (d_bin op_fdivW od_div (d_var 2) (d_var 3)) d_nil))))))))) rd__law_any_fraction
theorem ok__law_word (T : Txt K mg base) : FnG P w K mg base 1 (He.ga K "_law_word") P__law_word sp__law_word :=
  fn_ok (k := 0) (t := t__law_word) T.f__law_word sc__law_word lnF1 (fun cdv A outer s H E hr =>
      (s_one (s_ret (d_if (t_cmp (o_eq hr.u) od_eq (d_ix (d_var 0) d_int) d_int) (d_callTy call_str_int od_strI (by rfl) T.b_str DL.boot_str (d_cons (d_ix (d_var 0) d_int) d_nil)) (d_bin o_add od_add (d_bin o_add od_add (d_callTy call_str_int od_strI (by rfl) T.b_str DL.boot_str (d_cons (d_ix (d_var 0) d_int) d_nil)) d_str) (d_callTy call_str_int od_strI (by rfl) T.b_str DL.boot_str (d_cons (d_ix (d_var 0) d_int) d_nil))))))) rd__law_word
theorem ok__law_rows_right (T : Txt K mg base) : FnG P w K mg base 6 (He.ga K "_law_rows_right") P__law_rows_right sp__law_rows_right :=
  fn_ok (k := 5) (t := t__law_rows_right) T.f__law_rows_right sc__law_rows_right lnF1 (fun cdv A outer s H E hr =>
      (s_cons (s_set (i := 1) sc__law_rows_right.nd rfl (by first | exact Or.inl rfl | exact Or.inr rfl) (d_ms PySem.F.slot_str_join PySem.F.type_str_join mt_join ms_join d_str (d_cons (d_bin o_add od_add (d_lst (d_cons (d_ix (d_var 0) d_int) d_nil)) (d_lc [("span", 2)] rfl sc__law_rows_right.nd (i_tup (d_ix (d_var 0) d_int)) (blkOk_by (own := [("span", 2)]) (N := N__law_rows_right) (sc := defScope st__law_rows_right) (by decide +kernel)) (fun _ _ _ _ _ => (g_name (i := 2) sc__law_rows_right.nd rfl (by first | exact Or.inl rfl | exact Or.inr rfl))) (fun _ _ _ _ _ => ts_nil) (fun _ _ _ _ _ => (d_callTy call_str_int od_strI (by rfl) T.b_str DL.boot_str (d_cons (d_var 2) d_nil))))) d_nil)))
      (s_cons (s_if (t_cmp (o_ne hr.u) od_ne (d_lst (d_cons (d_call (ok_write_row T) (hr.mono (by decide)) tk_b (by rfl) T.g_write_row (T.f_write_row).F.kp (bi_write_row T) (d_cons (d_var 0) d_nil)) (d_cons (d_callK0 (ok_write_row T) (hr.mono (by decide)) tk_b (by rfl) T.g_write_row (T.f_write_row).F.kp (kb_write_row_0_row T) (by decide) (k_cons (d_var 0) k_nil)) d_nil))) (d_lst (d_cons (d_var 1) (d_cons (d_var 1) d_nil))))
        (s_one (s_ret d_bl))
        s_nil)
      (s_one (s_ret (d_cmp (o_eq hr.u) od_eq (d_callB (c_repr hr.g hr.u) od_repr (by rfl) T.b_repr DL.boot_repr (d_cons (d_lst (d_cons (d_call (ok_read_row T) (hr.mono (by decide)) tk_b (by rfl) T.g_read_row (T.f_read_row).F.kp (bi_read_row T) (d_cons (d_var 1) d_nil)) (d_cons (d_callK0 (ok_read_row T) (hr.mono (by decide)) tk_b (by rfl) T.g_read_row (T.f_read_row).F.kp (kb_read_row_0_text T) (by decide) (k_cons (d_var 1) k_nil)) d_nil))) d_nil)) (d_callB (c_repr hr.g hr.u) od_repr (by rfl) T.b_repr DL.boot_repr (d_cons (d_lst (d_cons (d_var 0) (d_cons (d_var 0) d_nil))) d_nil)))))))) rd__law_rows_right
theorem ok__law_steps_right (T : Txt K mg base) : FnG P w K mg base 5 (He.ga K "_law_steps_right") P__law_steps_right sp__law_steps_right :=
  fn_ok (k := 4) (t := t__law_steps_right) T.f__law_steps_right sc__law_steps_right lnF1 (fun cdv A outer s H E hr =>
      (s_cons (s_par (i := 1) (j := 2) rfl sc__law_steps_right.nd rfl rfl (by decide) rfl rfl (d_cons (d_ms PySem.F.slot_str_join PySem.F.type_str_join mt_join ms_join d_str (d_cons (d_lc [("step_here", 3)] rfl sc__law_steps_right.nd (i_lst (d_var 0)) (blkOk_by (own := [("step_here", 3)]) (N := N__law_steps_right) (sc := defScope st__law_steps_right) (by decide +kernel)) (fun _ _ _ _ _ => (g_name (i := 3) sc__law_steps_right.nd rfl (by first | exact Or.inl rfl | exact Or.inr rfl))) (fun _ _ _ _ _ => ts_nil) (fun _ _ _ _ _ => (d_callTy call_str_int od_strI (by rfl) T.b_str DL.boot_str (d_cons (d_var 3) d_nil)))) d_nil)) (d_cons (d_callB (c_repr hr.g hr.u) od_reprM (by rfl) T.b_repr DL.boot_repr (d_cons (d_var 0) d_nil)) d_nil)))
      (s_cons (s_if (t_w (w_or (t_cmp (o_ne hr.u) od_ne (d_lst (d_cons (d_call (ok_write_steps T) (hr.mono (by decide)) tk_b (by rfl) T.g_write_steps (T.f_write_steps).F.kp (bi_write_steps T) (d_cons (d_var 0) d_nil)) (d_cons (d_callK0 (ok_write_steps T) (hr.mono (by decide)) tk_b (by rfl) T.g_write_steps (T.f_write_steps).F.kp (kb_write_steps_0_stretch T) (by decide) (k_cons (d_var 0) k_nil)) d_nil))) (d_lst (d_cons (d_var 1) (d_cons (d_var 1) d_nil)))) (w_or1 (t_cmp (o_ne hr.u) od_ne (d_callB (c_repr hr.g hr.u) od_reprM (by rfl) T.b_repr DL.boot_repr (d_cons (d_var 0) d_nil)) (d_var 2)))))
        (s_one (s_ret d_bl))
        s_nil)
      (s_cons (s_set (i := 4) sc__law_steps_right.nd rfl (by first | exact Or.inl rfl | exact Or.inr rfl) (d_lst (d_cons (d_call (ok_read_steps T) (hr.mono (by decide)) tk_b (by rfl) T.g_read_steps (T.f_read_steps).F.kp (bi_read_steps T) (d_cons (d_var 1) d_nil)) (d_cons (d_callK0 (ok_read_steps T) (hr.mono (by decide)) tk_b (by rfl) T.g_read_steps (T.f_read_steps).F.kp (kb_read_steps_0_text T) (by decide) (k_cons (d_var 1) k_nil)) d_nil))))
      (s_cons (s_if (t_cmp (o_ne hr.u) od_ne (d_callB (c_repr hr.g hr.u) od_reprM (by rfl) T.b_repr DL.boot_repr (d_cons (d_var 4) d_nil)) (d_callB (c_repr hr.g hr.u) od_reprM (by rfl) T.b_repr DL.boot_repr (d_cons (d_lst (d_cons (d_var 0) (d_cons (d_var 0) d_nil))) d_nil)))
        (s_one (s_ret d_bl))
        s_nil)
      (s_cons (s_expr (d_app (d_ix (d_var 4) d_int) (d_cons d_int d_nil)))
      (s_one (s_ret (d_cmp (o_eq hr.u) od_eq (d_callB (c_repr hr.g hr.u) od_reprM (by rfl) T.b_repr DL.boot_repr (d_cons (d_lst (d_cons (d_ix (d_var 4) d_int) (d_cons (d_call (ok_read_steps T) (hr.mono (by decide)) tk_b (by rfl) T.g_read_steps (T.f_read_steps).F.kp (bi_read_steps T) (d_cons (d_var 1) d_nil)) d_nil))) d_nil)) (d_callB (c_repr hr.g hr.u) od_reprM (by rfl) T.b_repr DL.boot_repr (d_cons (d_lst (d_cons (d_var 0) (d_cons (d_var 0) d_nil))) d_nil))))))))))) rd__law_steps_right
theorem ok__law_phases_right (T : Txt K mg base) : FnG P w K mg base 6 (He.ga K "_law_phases_right") P__law_phases_right sp__law_phases_right :=
  fn_ok (k := 5) (t := t__law_phases_right) T.f__law_phases_right sc__law_phases_right lnF2 (fun cdv A outer s H E hr =>
      (s_cons (s_par (i := 2) (j := 3) rfl sc__law_phases_right.nd rfl rfl (by decide) rfl rfl (d_cons (d_ms PySem.F.slot_str_join PySem.F.type_str_join mt_join ms_join d_str (d_cons (d_lc [("pair", 4)] rfl sc__law_phases_right.nd (i_lst (d_var 1)) (blkOk_by (own := [("pair", 4)]) (N := N__law_phases_right) (sc := defScope st__law_phases_right) (by decide +kernel)) (fun _ _ _ _ _ => (g_name (i := 4) sc__law_phases_right.nd rfl (by first | exact Or.inl rfl | exact Or.inr rfl))) (fun _ _ _ _ _ => ts_nil) (fun _ _ _ _ _ => (d_call (ok__law_word T) (hr.mono (by decide)) takes0 (by rfl) T.g__law_word (T.f__law_word).F.kp (bi__law_word T) (d_cons (d_var 4) d_nil)))) d_nil)) (d_cons (d_callB (c_repr hr.g hr.u) od_reprM (by rfl) T.b_repr DL.boot_repr (d_cons (d_var 1) d_nil)) d_nil)))
      (s_cons (s_if (t_cmp (o_ne hr.u) od_ne (d_lst (d_cons (d_call (ok_write_phases T) (hr.mono (by decide)) tk_b (by rfl) T.g_write_phases (T.f_write_phases).F.kp (bi_write_phases T) (d_cons (d_var 0) (d_cons (d_var 1) d_nil))) (d_cons (d_callK0 (ok_write_phases T) (hr.mono (by decide)) tk_b (by rfl) T.g_write_phases (T.f_write_phases).F.kp (kb_write_phases_0_phases_row T) (by decide) (k_cons (d_var 1) (k_cons (d_var 0) k_nil))) d_nil))) (d_lst (d_cons (d_var 2) (d_cons (d_var 2) d_nil))))
        (s_one (s_ret d_bl))
        s_nil)
      (s_cons (s_if (t_cmp (o_ne hr.u) od_ne (d_callB (c_repr hr.g hr.u) od_reprM (by rfl) T.b_repr DL.boot_repr (d_cons (d_var 1) d_nil)) (d_var 3))
        (s_one (s_ret d_bl))
        s_nil)
      (s_cons (s_set (i := 5) sc__law_phases_right.nd rfl (by first | exact Or.inl rfl | exact Or.inr rfl) (d_lst (d_cons (d_call (ok_read_phases T) (hr.mono (by decide)) tk_b (by rfl) T.g_read_phases (T.f_read_phases).F.kp (bi_read_phases T) (d_cons (d_var 0) (d_cons (d_var 2) d_nil))) (d_cons (d_callK0 (ok_read_phases T) (hr.mono (by decide)) tk_b (by rfl) T.g_read_phases (T.f_read_phases).F.kp (kb_read_phases_0_text_row T) (by decide) (k_cons (d_var 2) (k_cons (d_var 0) k_nil))) d_nil))))
      (s_cons (s_if (t_cmp (o_ne hr.u) od_ne (d_callB (c_repr hr.g hr.u) od_reprM (by rfl) T.b_repr DL.boot_repr (d_cons (d_var 5) d_nil)) (d_callB (c_repr hr.g hr.u) od_reprM (by rfl) T.b_repr DL.boot_repr (d_cons (d_lst (d_cons (d_var 1) (d_cons (d_var 1) d_nil))) d_nil)))
        (s_one (s_ret d_bl))
        s_nil)
      (s_cons (s_expr (d_app (d_ix (d_var 5) d_int) (d_cons (d_tup (d_cons d_int (d_cons d_int d_nil))) d_nil)))
      (s_one (s_ret (d_cmp (o_eq hr.u) od_eq (d_callB (c_repr hr.g hr.u) od_reprM (by rfl) T.b_repr DL.boot_repr (d_cons (d_lst (d_cons (d_ix (d_var 5) d_int) (d_cons (d_call (ok_read_phases T) (hr.mono (by decide)) tk_b (by rfl) T.g_read_phases (T.f_read_phases).F.kp (bi_read_phases T) (d_cons (d_var 0) (d_cons (d_var 2) d_nil))) d_nil))) d_nil)) (d_callB (c_repr hr.g hr.u) od_reprM (by rfl) T.b_repr DL.boot_repr (d_cons (d_lst (d_cons (d_var 1) (d_cons (d_var 1) d_nil))) d_nil)))))))))))) rd__law_phases_right
theorem ok_law (T : Txt K mg base) : FnG P w K mg base 7 (He.ga K "law") P_law sp_law :=
  fn_ok (k := 6) (t := t_law) T.f_law sc_law lnF1 (fun cdv A outer s H E hr =>
      (s_cons (s_for [1] hp_b rfl (i_lst (d_bin o_add od_add (d_lst (d_cons d_int d_nil)) (d_sl (d_var 0) p_none (p_some d_int)))) (g_name (i := 1) sc_law.nd rfl (by first | exact Or.inl rfl | exact Or.inr rfl))
        (s_cons (s_set (i := 2) sc_law.nd rfl (by first | exact Or.inl rfl | exact Or.inr rfl) (d_call (ok__law_bag T) (hr.mono (by decide)) tk_b (by rfl) T.g__law_bag (T.f__law_bag).F.kp (bi__law_bag T) (d_cons (d_var 1) d_nil)))
      (s_cons (s_set (i := 3) sc_law.nd rfl (by first | exact Or.inl rfl | exact Or.inr rfl) (d_tup (d_cons (d_call (ok__law_tie T) (hr.mono (by decide)) tk_b (by rfl) T.g__law_tie (T.f__law_tie).F.kp (bi__law_tie T) (d_cons (d_var 2) d_nil)) (d_cons (d_call (ok__law_any_periods T) (hr.mono (by decide)) tk_b (by rfl) T.g__law_any_periods (T.f__law_any_periods).F.kp (bi__law_any_periods T) (d_cons (d_var 2) d_nil)) d_nil))))
      (s_cons (s_set (i := 4) sc_law.nd rfl (by first | exact Or.inl rfl | exact Or.inr rfl) (d_ix (d_lst (d_cons (d_call (ok__law_draw T) (hr.mono (by decide)) tk_b (by rfl) T.g__law_draw (T.f__law_draw).F.kp (bi__law_draw T) (d_cons (d_var 2) (d_cons d_int d_nil))) (d_cons (d_call (ok__law_draw T) (hr.mono (by decide)) tk_b (by rfl) T.g__law_draw (T.f__law_draw).F.kp (bi__law_draw T) (d_cons (d_var 2) (d_cons d_int d_nil))) d_nil))) (d_call (ok__law_draw T) (hr.mono (by decide)) tk_b (by rfl) T.g__law_draw (T.f__law_draw).F.kp (bi__law_draw T) (d_cons (d_var 2) (d_cons d_int d_nil)))))
      (s_cons (s_setLc (i := 5) [("k", 6)] rfl sc_law.nd rfl rfl (sw_true rfl rfl rfl (by decide +kernel)) (i_rng1 (by rfl) T.b_range (d_cons (d_var 4) d_nil)) (blkOk_by (own := [("k", 6)]) (N := N_law) (sc := defScope st_law) (by decide +kernel)) (fun _ _ _ _ _ => (g_name (i := 6) sc_law.nd rfl (by first | exact Or.inl rfl | exact Or.inr rfl))) (fun _ _ _ _ _ => ts_nil) (fun _ _ _ _ _ => (d_ix (d_lst (d_cons (d_call (ok__law_draw T) (hr.mono (by decide)) takes0 (by rfl) T.g__law_draw (T.f__law_draw).F.kp (bi__law_draw T) (d_cons (d_var 2) (d_cons d_int d_nil))) (d_cons (d_call (ok__law_draw T) (hr.mono (by decide)) takes0 (by rfl) T.g__law_draw (T.f__law_draw).F.kp (bi__law_draw T) (d_cons (d_var 2) (d_cons (d_bin op_pow od_pow d_int d_int) d_nil))) d_nil))) (d_call (ok__law_draw T) (hr.mono (by decide)) takes0 (by rfl) T.g__law_draw (T.f__law_draw).F.kp (bi__law_draw T) (d_cons (d_var 2) (d_cons d_int d_nil))))))
      (s_cons (s_if (t_w (w_or (t_not (t_val (d_call (ok__law_rows_right T) (hr.mono (by decide)) tk_b (by rfl) T.g__law_rows_right (T.f__law_rows_right).F.kp (bi__law_rows_right T) (d_cons (d_var 3) d_nil)))) (w_or (t_not (t_val (d_call (ok__law_steps_right T) (hr.mono (by decide)) tk_b (by rfl) T.g__law_steps_right (T.f__law_steps_right).F.kp (bi__law_steps_right T) (d_cons (d_var 5) d_nil)))) (w_or1 (t_not (t_val (d_call (ok__law_steps_right T) (hr.mono (by decide)) tk_b (by rfl) T.g__law_steps_right (T.f__law_steps_right).F.kp (bi__law_steps_right T) (d_cons (d_lst d_nil) d_nil))))))))
        (s_one (s_ret d_bl))
        s_nil)
      (s_cons (s_if (t_not (t_val (d_call (ok__law_phases_right T) (hr.mono (by decide)) tk_b (by rfl) T.g__law_phases_right (T.f__law_phases_right).F.kp (bi__law_phases_right T) (d_cons (d_var 3) (d_cons (d_lc [("span", 7)] rfl sc_law.nd (i_tup (d_ix (d_var 3) d_int)) (blkOk_by (own := [("span", 7)]) (N := N_law) (sc := defScope st_law) (by decide +kernel)) (fun _ _ _ _ _ => (g_name (i := 7) sc_law.nd rfl (by first | exact Or.inl rfl | exact Or.inr rfl))) (fun _ _ _ _ _ => ts_nil) (fun _ _ _ _ _ => (d_call (ok__law_any_fraction T) (hr.mono (by decide)) takes0 (by rfl) T.g__law_any_fraction (T.f__law_any_fraction).F.kp (bi__law_any_fraction T) (d_cons (d_var 2) d_nil)))) d_nil)))))
        (s_one (s_ret d_bl))
        s_nil)
      (s_cons (s_set (i := 8) sc_law.nd rfl (by first | exact Or.inl rfl | exact Or.inr rfl) (d_bin o_add od_add (d_lst (d_cons (d_tup (d_cons (d_bin o_add od_add (d_bin op_pow od_pow d_int d_int) (d_call (ok__law_draw T) (hr.mono (by decide)) tk_b (by rfl) T.g__law_draw (T.f__law_draw).F.kp (bi__law_draw T) (d_cons (d_var 2) (d_cons (d_bin op_pow od_pow d_int d_int) d_nil)))) (d_cons d_int d_nil))) d_nil)) (d_lc [("k", 6)] rfl sc_law.nd (i_rng1 (by rfl) T.b_range (d_cons (d_bin op_sub od_sub (d_callB c_len od_len (by rfl) T.b_len DL.boot_len (d_cons (d_ix (d_var 3) d_int) d_nil)) d_int) d_nil)) (blkOk_by (own := [("k", 6)]) (N := N_law) (sc := defScope st_law) (by decide +kernel)) (fun _ _ _ _ _ => (g_name (i := 6) sc_law.nd rfl (by first | exact Or.inl rfl | exact Or.inr rfl))) (fun _ _ _ _ _ => ts_nil) (fun _ _ _ _ _ => (d_tup (d_cons (d_bin op_sub od_sub (d_bin op_sub od_sub d_int (d_bin op_pow od_pow d_int d_int)) (d_var 6)) (d_cons d_int d_nil)))))))
      (s_cons (s_if (t_cmp (o_ne hr.u) od_ne (d_call (ok_write_phases T) (hr.mono (by decide)) tk_b (by rfl) T.g_write_phases (T.f_write_phases).F.kp (bi_write_phases T) (d_cons (d_var 3) (d_cons (d_var 8) d_nil))) (d_ms PySem.F.slot_str_join PySem.F.type_str_join mt_join ms_join d_str (d_cons (d_lc [("pair", 9)] rfl sc_law.nd (i_lst (d_var 8)) (blkOk_by (own := [("pair", 9)]) (N := N_law) (sc := defScope st_law) (by decide +kernel)) (fun _ _ _ _ _ => (g_name (i := 9) sc_law.nd rfl (by first | exact Or.inl rfl | exact Or.inr rfl))) (fun _ _ _ _ _ => ts_nil) (fun _ _ _ _ _ => (d_callTy call_str_int od_strI (by rfl) T.b_str DL.boot_str (d_cons (d_ix (d_var 9) d_int) d_nil)))) d_nil)))
        (s_one (s_ret d_bl))
        s_nil)
      (s_cons (s_set (i := 10) sc_law.nd rfl (by first | exact Or.inl rfl | exact Or.inr rfl) (d_bin o_add od_add (d_bin op_pow od_pow d_int d_int) (d_call (ok__law_draw T) (hr.mono (by decide)) tk_b (by rfl) T.g__law_draw (T.f__law_draw).F.kp (bi__law_draw T) (d_cons (d_var 2) (d_cons (d_bin op_pow od_pow d_int d_int) d_nil)))))
      (s_cons (s_set (i := 8) sc_law.nd rfl (by first | exact Or.inl rfl | exact Or.inr rfl) (d_bin o_add od_add (d_lst (d_cons (d_tup (d_cons d_int (d_cons (d_var 10) d_nil))) (d_cons (d_tup (d_cons (d_bin op_sub od_sub (d_bin op_sub od_sub d_int (d_bin o_mul od_mul (d_var 10) (d_bin op_pow od_pow d_int d_int))) d_int) (d_cons (d_var 10) d_nil))) d_nil))) (d_bin o_mul od_mul (d_lst (d_cons (d_tup (d_cons (d_bin o_add od_add (d_bin op_pow od_pow d_int d_int) d_int) (d_cons (d_bin op_pow od_pow d_int d_int) d_nil))) d_nil)) (d_bin op_sub od_sub (d_callB c_len od_len (by rfl) T.b_len DL.boot_len (d_cons (d_ix (d_var 3) d_int) d_nil)) d_int))))
      (s_cons (s_if (t_cmp (o_ne hr.u) od_ne (d_call (ok_write_phases T) (hr.mono (by decide)) tk_b (by rfl) T.g_write_phases (T.f_write_phases).F.kp (bi_write_phases T) (d_cons (d_var 3) (d_cons (d_var 8) d_nil))) (d_ms PySem.F.slot_str_join PySem.F.type_str_join mt_join ms_join d_str (d_cons (d_lc [("pair", 9)] rfl sc_law.nd (i_lst (d_var 8)) (blkOk_by (own := [("pair", 9)]) (N := N_law) (sc := defScope st_law) (by decide +kernel)) (fun _ _ _ _ _ => (g_name (i := 9) sc_law.nd rfl (by first | exact Or.inl rfl | exact Or.inr rfl))) (fun _ _ _ _ _ => ts_nil) (fun _ _ _ _ _ => (d_bin o_add od_add (d_bin o_add od_add (d_callTy call_str_int od_strI (by rfl) T.b_str DL.boot_str (d_cons (d_ix (d_var 9) d_int) d_nil)) d_str) (d_callTy call_str_int od_strI (by rfl) T.b_str DL.boot_str (d_cons (d_ix (d_var 9) d_int) d_nil))))) d_nil)))
        (s_one (s_ret d_bl))
        s_nil)
      (s_cons (s_if (t_cmp (o_ne hr.u) od_ne (d_call (ok_write_steps T) (hr.mono (by decide)) tk_b (by rfl) T.g_write_steps (T.f_write_steps).F.kp (bi_write_steps T) (d_cons (d_lst (d_cons (d_var 10) (d_cons (d_bin o_mul od_mul (d_var 10) (d_bin op_pow od_pow d_int d_int)) d_nil))) d_nil)) (d_bin o_add od_add (d_bin o_add od_add (d_callTy call_str_int od_strI (by rfl) T.b_str DL.boot_str (d_cons (d_var 10) d_nil)) d_str) (d_callTy call_str_int od_strI (by rfl) T.b_str DL.boot_str (d_cons (d_bin o_mul od_mul (d_var 10) (d_bin op_pow od_pow d_int d_int)) d_nil))))
        (s_one (s_ret d_bl))
        s_nil)
      (s_one (s_if (t_cmp (o_ne hr.u) od_ne (d_call (ok_write_steps T) (hr.mono (by decide)) tk_b (by rfl) T.g_write_steps (T.f_write_steps).F.kp (bi_write_steps T) (d_cons (d_lst (d_cons (d_bin op_pow od_pow d_int d_int) (d_cons d_int (d_cons (d_bin op_pow od_pow d_int d_int) d_nil)))) d_nil)) (d_bin o_add od_add (d_bin o_add od_add (d_callTy call_str_int od_strI (by rfl) T.b_str DL.boot_str (d_cons (d_bin op_pow od_pow d_int d_int) d_nil)) d_str) (d_callTy call_str_int od_strI (by rfl) T.b_str DL.boot_str (d_cons (d_bin op_pow od_pow d_int d_int) d_nil))))
        (s_one (s_ret d_bl))
        s_nil)))))))))))))))
      (s_one (s_ret d_bl)))) rd_law
end
theorem law_in {zs : List Int} {M : MM} {Q : DK} {E : EK} (h1 : zs.length ≤ 63) (h2 : ∀ z ∈ zs, Builtin.Int.intBits z ≤ 1048576) (h3 : ∀ M', Q (.bl true) M') : sp_law [.lst (zs.map D.int)] M Q E := ⟨zs, rfl, h1, h3⟩
theorem kb_law0 {K : PySem.W.Frag} {mg : Str → Option Value} {base : Heap} (T : Txt K mg base) : KB K (He.ga K "law") P_law 1 [] [0] := T.f_law.kb fun _ _ _ _ _ _ us ws hl hk => match us, ws, hl, hk with | [_], [], _, _ => rfl
theorem spl : ∀ ds M Q E, DL.spLaw ds M Q E → sp_law ds M Q E := by
  rintro ds M Q E ⟨zs, rfl, h1, h2, h3⟩
  exact law_in h1 h2 h3
abbrev R : PySem.W.OpenRow := PySem.W.OpenLaw.row PySem.Challenge.rw_lastcopied_k60_rows_steps_and_phases_wri
def names : List PySem.Str := ([PySem.Str.ofString "__name__", PySem.Str.ofString "CopyError", PySem.Str.ofString "InvalidRow", PySem.Str.ofString "InvalidPhases", PySem.Str.ofString "InvalidStretch", PySem.Str.ofString "InvalidText", PySem.Str.ofString "TIES", PySem.Str.ofString "MOST_PERIOD", PySem.Str.ofString "is_number", PySem.Str.ofString "is_whole", PySem.Str.ofString "greatest_common", PySem.Str.ofString "fits_row", PySem.Str.ofString "fits_fraction", PySem.Str.ofString "fits_phases", PySem.Str.ofString "need_row", PySem.Str.ofString "need_phases", PySem.Str.ofString "fits_stretch", PySem.Str.ofString "need_stretch", PySem.Str.ofString "MOST_DIGITS", PySem.Str.ofString "MOST_COPIERS", PySem.Str.ofString "whole_of", PySem.Str.ofString "fraction_of", PySem.Str.ofString "fraction_text", PySem.Str.ofString "write_row", PySem.Str.ofString "read_row", PySem.Str.ofString "write_steps", PySem.Str.ofString "read_steps", PySem.Str.ofString "write_phases", PySem.Str.ofString "read_phases", PySem.Str.ofString "_law_bag"] : List PySem.Str) ++ ([PySem.Str.ofString "_law_draw", PySem.Str.ofString "_law_common", PySem.Str.ofString "_law_tie", PySem.Str.ofString "_law_any_periods", PySem.Str.ofString "_law_any_fraction", PySem.Str.ofString "_law_word", PySem.Str.ofString "_law_rows_right", PySem.Str.ofString "_law_steps_right", PySem.Str.ofString "_law_phases_right"] : List PySem.Str)
theorem run (w : World) : HandSHeadRun.RunEq R (PySem.W.view R.prog [43]) (DL.hookM 4 fa fn ex) (DL.obM 4 fa fn ex) 6000 names w := by
  intro os
  kernel_rfl
end K60
open PySem PySem.W PySem.Calls PyProof.Rows
theorem PySem.Challenge.cw_lastcopied_k60_rows_steps_and_phases_wri_holds : PySem.Challenge.rw_lastcopied_k60_rows_steps_and_phases_wri.Holds := by
  w_on; o_law
  refine HandSHeadRun.head_any (r := OpenLaw.row PySem.Challenge.rw_lastcopied_k60_rows_steps_and_phases_wri) (q := view (OpenLaw.row PySem.Challenge.rw_lastcopied_k60_rows_steps_and_phases_wri).prog [43]) (H := DL.hookM 4 K60.fa K60.fn K60.ex) (ob := DL.obM 4 K60.fa K60.fn K60.ex) (M := 6000) (loose := K60.names) (d := HandSHeadRun.topDef (OpenLaw.row PySem.Challenge.rw_lastcopied_k60_rows_steps_and_phases_wri).prog 43) (kwd := []) (DL.obM_eq 4 K60.fa K60.fn K60.ex)
    (by kernel_rfl) (fun s => by kernel_rfl) K60.run (by kernel_rfl) (by kernel_rfl) (by kernel_rfl) (by rfl) (by first | assumption | decide +kernel) (by decide +kernel) ⟨rfl, rfl, rfl, rfl, rfl, by decide +kernel⟩ ?hw ?hc
  case hw => w_witness2
  case hc =>
    refine DL.walk_g (l := PySem.Challenge.rw_lastcopied_k60_rows_steps_and_phases_wri) (k := 7) (x := "script") rfl (by kernel_rfl) ⟨⟨rfl, by decide, by decide⟩, rfl⟩ ?F
    intro w mg fa h Y G hmg0
    obtain ⟨K, KX, c, e⟩ := Y
    have hmg : mg ("law" : PySem.Str) = some (.ref fa) := by
      have e : (HandSHeadRun.topDef (OpenLaw.row PySem.Challenge.rw_lastcopied_k60_rows_steps_and_phases_wri).prog 43).name = ("law" : PySem.Str) := by kernel_rfl
      rw [← e]
      exact hmg0
    have T0 : K60.Txt K mg h := ⟨KX, G, c, e⟩
    have e1 := hmg.symm.trans T0.g_law
    cases e1
    exact ⟨K, KX, fun s u => K60.kb_law0 T0 s [u] [] rfl rfl, fun base X' G' => (K60.ok_law (P := (PySem.Challenge.rw_lastcopied_k60_rows_steps_and_phases_wri).prog) (w := w) ⟨X', G', c, e⟩).imp K60.spl⟩

