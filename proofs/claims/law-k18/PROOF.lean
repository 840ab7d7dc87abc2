import PyProof.Rows.All
import Wide.All
import OpenK.AllK
import Wide.FinOn
import HandS.ForMost
import HandS.Flow
import HandS.Deep
import HandS.IsInst
import HandS.Style
import HandS.TupAny
import HandS.Zip
import KE.KeyNested
import KE.GoesNew
import HandS.Wide
import HandS.StrMore
import HandS.StrSplit
import HandS.More
import PyProof.NeData
import PyProof.Rows.SortStr
import KE.KDictDisplayH
import HandS.TupSets
import HandS.SetFor
import HandS.SetIn
import KE.KDictWalk
import HandS.HeadHook3
import HandS.EndBits
import HandS.Codes
import KE.KRevSl
import PyProof.Rows.StrRev
import HandS.SortInts
import HandS.Strs
import HandS.Conv
import HandS.Replace
import PySem.Challenge.RW_passrules_k18_whole_cores
set_option Elab.async false
set_option linter.all false
set_option maxRecDepth 100000
/-! The D layer: immutable data as trees (tuples have no address), mutable objects in a partial heap M; over HandS. -/
namespace DL
open PySem PySem.Spec PyProof.Rows L2

inductive D where
  | non | bl (b : Bool) | int (i : Int) | str (x : Str) | ref (a : Addr) | ty (n : String) | tup (xs : List D)
  /-- a list that nobody writes (the script) -/
  | fl (xs : List D)

/-- a frozen list, or one of the module's -/
def SqF (K : PySem.W.Frag) (H : Hp) (a : Addr) (xs : List V) : Prop :=
  (∃ o, H a = some (.frz o (.lst xs))) ∨ ∃ (o : Obj) (its : Array Value) (n : Nat), K.lookup a = some o ∧ o.cls = .type "list" ∧ o.dict = none ∧ o.data = .seq its n ∧ its.size ≤ sizeLine ∧ Vals xs its.toList
theorem SqF.sqL {K : PySem.W.Frag} {H : Hp} {a : Addr} {xs : List V} (h : SqF K H a xs) : SqL K H a xs := by
  rcases h with h | h
  · exact .inl (.inr h)
  · exact .inr h
mutual
def Rp (K : PySem.W.Frag) (H : Hp) : D → V → Prop
  | .non, v => v = .non
  | .bl b, v => v = .bl b
  | .int i, v => v = .int i
  | .str x, v => v = .str x
  | .ref a, v => v = .ref a
  | .ty n, v => v = .ty n
  | .tup ds, v => ∃ a vs, v = .ref a ∧ SqT K H a vs ∧ Rps K H ds vs
  | .fl ds, v => ∃ a vs, v = .ref a ∧ SqF K H a vs ∧ Rps K H ds vs
def Rps (K : PySem.W.Frag) (H : Hp) : List D → List V → Prop
  | [], vs => vs = []
  | d :: ds, vs => ∃ v r, vs = v :: r ∧ Rp K H d v ∧ Rps K H ds r
end

/-- tuples and frozen lists stay -/
def Keep (H H' : Hp) : Prop := (∀ a xs, Rd H a (.tup xs) → Rd H' a (.tup xs)) ∧ ∀ a o xs, H a = some (.frz o (.lst xs)) → H' a = some (.frz o (.lst xs))
theorem Keep.refl (H : Hp) : Keep H H := ⟨fun _ _ h => h, fun _ _ _ h => h⟩
theorem Keep.trans {H H1 H2 : Hp} (a : Keep H H1) (b : Keep H1 H2) : Keep H H2 := ⟨fun c xs h => b.1 c xs (a.1 c xs h), fun c o xs h => b.2 c o xs (a.2 c o xs h)⟩
theorem Keep.sqT {K : PySem.W.Frag} {H H' : Hp} (k : Keep H H') {a : Addr} {xs : List V} (h : SqT K H a xs) : SqT K H' a xs := by
  rcases h with h | h
  · exact .inl (k.1 _ _ h)
  · exact .inr h
theorem Keep.sqF {K : PySem.W.Frag} {H H' : Hp} (k : Keep H H') {a : Addr} {xs : List V} (h : SqF K H a xs) : SqF K H' a xs := by
  rcases h with ⟨o, h⟩ | h
  · exact .inl ⟨o, k.2 _ _ _ h⟩
  · exact .inr h
theorem keep_new {H : Hp} {p : Addr} {o : HO} (h : H p = none) : Keep H (upd H p o) := ⟨fun a xs q => by
  have ne : a ≠ p := fun e => by
    subst e
    rcases q with q | ⟨u, q⟩ <;> rw [h] at q <;> cases q
  rcases q with q | ⟨u, q⟩
  · exact .inl (by rw [upd_ne ne]; exact q)
  · exact .inr ⟨u, by rw [upd_ne ne]; exact q⟩, fun a u xs q => by rw [upd_ne (fun e => by subst e; rw [h] at q; cases q)]; exact q⟩

section
variable {K : PySem.W.Frag} {H H' : Hp}
mutual
theorem Rp.keep (k : Keep H H') : ∀ {d : D} {v : V}, Rp K H d v → Rp K H' d v
  | .non, _, h => by unfold Rp at h ⊢; exact h
  | .bl _, _, h => by unfold Rp at h ⊢; exact h
  | .int _, _, h => by unfold Rp at h ⊢; exact h
  | .str _, _, h => by unfold Rp at h ⊢; exact h
  | .ref _, _, h => by unfold Rp at h ⊢; exact h
  | .ty _, _, h => by unfold Rp at h ⊢; exact h
  | .tup ds, v, h => by
    unfold Rp at h ⊢
    obtain ⟨a, vs, e, t, r⟩ := h
    exact ⟨a, vs, e, k.sqT t, Rps.keep k r⟩
  | .fl ds, v, h => by
    unfold Rp at h ⊢
    obtain ⟨a, vs, e, t, r⟩ := h
    exact ⟨a, vs, e, k.sqF t, Rps.keep k r⟩
theorem Rps.keep (k : Keep H H') : ∀ {ds : List D} {vs : List V}, Rps K H ds vs → Rps K H' ds vs
  | [], _, h => by unfold Rps at h ⊢; exact h
  | d :: ds, vs, h => by
    unfold Rps at h ⊢
    obtain ⟨v, r, e, h1, h2⟩ := h
    exact ⟨v, r, e, Rp.keep k h1, Rps.keep k h2⟩
end
theorem Rps.nil : Rps K H [] [] := by unfold Rps; rfl
theorem Rps.cons {d : D} {ds : List D} {v : V} {vs : List V} (h : Rp K H d v) (t : Rps K H ds vs) : Rps K H (d :: ds) (v :: vs) := by unfold Rps; exact ⟨v, vs, rfl, h, t⟩
theorem Rps.nil_of {vs : List V} (h : Rps K H [] vs) : vs = [] := by unfold Rps at h; exact h
theorem Rps.cons_of {d : D} {ds : List D} {vs : List V} (h : Rps K H (d :: ds) vs) : ∃ v r, vs = v :: r ∧ Rp K H d v ∧ Rps K H ds r := by unfold Rps at h; exact h
theorem Rps.len : ∀ {ds : List D} {vs : List V}, Rps K H ds vs → ds.length = vs.length
  | [], _, h => by rw [h.nil_of]; rfl
  | d :: ds, vs, h => by
    obtain ⟨v, r, rfl, _, t⟩ := h.cons_of
    simp [t.len]
theorem Rps.get : ∀ {ds : List D} {vs : List V} {i : Nat} {d : D}, Rps K H ds vs → ds[i]? = some d → ∃ v, vs[i]? = some v ∧ Rp K H d v
  | [], _, _, _, _, e => by simp at e
  | d :: ds, vs, 0, x, h, e => by
    obtain ⟨v, r, rfl, h1, t⟩ := h.cons_of
    simp at e; subst e
    exact ⟨v, rfl, h1⟩
  | d :: ds, vs, i + 1, x, h, e => by
    obtain ⟨v, r, rfl, h1, t⟩ := h.cons_of
    obtain ⟨u, e1, q⟩ := Rps.get (i := i) t (by simpa using e)
    exact ⟨u, by simpa using e1, q⟩
theorem Rps.append : ∀ {ds es : List D} {vs us : List V}, Rps K H ds vs → Rps K H es us → Rps K H (ds ++ es) (vs ++ us)
  | [], _, _, _, h, q => by rw [h.nil_of]; exact q
  | d :: ds, es, vs, us, h, q => by
    obtain ⟨v, r, rfl, h1, t⟩ := h.cons_of
    exact .cons h1 (t.append q)
theorem Rps.set : ∀ {ds : List D} {vs : List V} {i : Nat} {d : D} {v : V}, Rps K H ds vs → Rp K H d v → Rps K H (ds.set i d) (vs.set i v)
  | [], _, _, _, _, h, _ => by rw [h.nil_of]; exact .nil
  | d :: ds, vs, 0, x, v, h, q => by
    obtain ⟨w, r, rfl, h1, t⟩ := h.cons_of
    exact .cons q t
  | d :: ds, vs, i + 1, x, v, h, q => by
    obtain ⟨w, r, rfl, h1, t⟩ := h.cons_of
    exact .cons h1 (t.set q)
theorem Rps.take : ∀ {ds : List D} {vs : List V} (n : Nat), Rps K H ds vs → Rps K H (ds.take n) (vs.take n)
  | _, _, 0, _ => by simpa using Rps.nil
  | [], _, n + 1, h => by rw [h.nil_of]; exact .nil
  | d :: ds, vs, n + 1, h => by
    obtain ⟨w, r, rfl, h1, t⟩ := h.cons_of
    exact .cons h1 (t.take n)
theorem Rps.drop : ∀ {ds : List D} {vs : List V} (n : Nat), Rps K H ds vs → Rps K H (ds.drop n) (vs.drop n)
  | _, _, 0, h => h
  | [], _, n + 1, h => by rw [h.nil_of]; exact .nil
  | d :: ds, vs, n + 1, h => by
    obtain ⟨w, r, rfl, h1, t⟩ := h.cons_of
    exact t.drop n
theorem Rps.reverse : ∀ {ds : List D} {vs : List V}, Rps K H ds vs → Rps K H ds.reverse vs.reverse
  | [], _, h => by rw [h.nil_of]; exact .nil
  | d :: ds, vs, h => by
    obtain ⟨w, r, rfl, h1, t⟩ := h.cons_of
    rw [List.reverse_cons, List.reverse_cons]
    exact t.reverse.append (.cons h1 .nil)
end

/-! ### mutable objects -/
inductive DO where
  | lst (xs : List D)
  /-- a dict with texts as keys, with tuples as keys -/
  | dS (kvs : List (Str × D)) | dT (kvs : List (NestedKey × D))
  | ins (C : Addr) (fs : List (Str × D))
abbrev DM := Addr → Option DO
def updM (M : DM) (a : Addr) (o : DO) : DM := fun b => if b = a then some o else M b
@[simp] theorem updM_same {M : DM} {a : Addr} {o : DO} : updM M a o a = some o := by unfold updM; rw [if_pos rfl]
theorem updM_ne {M : DM} {a b : Addr} {o : DO} (h : b ≠ a) : updM M a o b = M b := by unfold updM; rw [if_neg h]
@[simp] theorem updM_updM {M : DM} {a : Addr} {o u : DO} : updM (updM M a o) a u = updM M a u := by
  funext b; unfold updM; split <;> rfl
theorem updM_comm {M : DM} {a b : Addr} {o u : DO} (h : a ≠ b) : updM (updM M a o) b u = updM (updM M b u) a o := by
  funext c; unfold updM
  by_cases h1 : c = b
  · by_cases h2 : c = a
    · exact absurd (h2.symm.trans h1) h
    · rw [if_pos h1, if_neg h2, if_pos h1]
  · by_cases h2 : c = a
    · rw [if_neg h1, if_pos h2, if_pos h2]
    · rw [if_neg h1, if_neg h2, if_neg h2, if_neg h1]
theorem updM_eta {M : DM} {a : Addr} {o : DO} (h : M a = some o) : updM M a o = M := by
  funext b; unfold updM; split
  · rename_i e; rw [e, h]
  · rfl

/-- key and value of a dict with texts as keys -/
def RkS (K : PySem.W.Frag) (H : Hp) : List (Str × D) → List (Key × V) → Prop
  | [], q => q = []
  | (k, d) :: r, q => ∃ v t, q = (.inr k, v) :: t ∧ Rp K H d v ∧ RkS K H r t
def Rfs (K : PySem.W.Frag) (H : Hp) : List (Str × D) → List (Str × V) → Prop
  | [], q => q = []
  | (k, d) :: r, q => ∃ v t, q = (k, v) :: t ∧ Rp K H d v ∧ Rfs K H r t
theorem RkS.keep {K : PySem.W.Frag} {H H' : Hp} (k : Keep H H') : ∀ {x : List (Str × D)} {q : List (Key × V)}, RkS K H x q → RkS K H' x q
  | [], _, h => h
  | (n, d) :: r, q, ⟨v, t, e, h, h2⟩ => ⟨v, t, e, h.keep k, RkS.keep k h2⟩
theorem Rfs.keep {K : PySem.W.Frag} {H H' : Hp} (k : Keep H H') : ∀ {x : List (Str × D)} {q : List (Str × V)}, Rfs K H x q → Rfs K H' x q
  | [], _, h => h
  | (n, d) :: r, q, ⟨v, t, e, h, h2⟩ => ⟨v, t, e, h.keep k, Rfs.keep k h2⟩

mutual
def keyD : NestedKey → D
  | .none => .non
  | .num i => .int i
  | .text x => .str x
  | .tup ks => .tup (keysD ks)
def keysD : List NestedKey → List D
  | [] => []
  | k :: ks => keyD k :: keysD ks
end
/-- the raw dict with tuples as keys: each key, its address, the value -/
def DRaw (w : World) (a : Addr) (es : List (NestedKey × Addr × V)) (h : Heap) : Prop :=
  (a == sysModules) = false ∧ ∃ o ds ep, h.get? a = some o ∧ o.ExactDict ∧ o.data = .dict ds ep ∧
    Paired (fun (p : NestedKey × Addr × V) (q : DictEntry) => q.hash = p.1.hash w ∧ q.key = .ref p.2.1 ∧ RelV p.2.2 q.val) es ds.toList
/-- the keys and values of a dict with tuples as keys -/
def RkT (K : PySem.W.Frag) (H : Hp) : List (NestedKey × D) → List (NestedKey × Addr × V) → Prop
  | [], q => q = []
  | (k, d) :: r, q => ∃ a v t, q = (k, a, v) :: t ∧ Rp K H (keyD k) (.ref a) ∧ k.depth ≤ 8 ∧ Rp K H d v ∧ RkT K H r t
theorem RkT.keep {K : PySem.W.Frag} {H H' : Hp} (k : Keep H H') : ∀ {x : List (NestedKey × D)} {q : List (NestedKey × Addr × V)}, RkT K H x q → RkT K H' x q
  | [], _, h => h
  | (n, d) :: r, q, ⟨a, v, t, e, h, z, h1, h2⟩ => ⟨a, v, t, e, h.keep k, z, h1.keep k, RkT.keep k h2⟩

def OkM (w : World) (K : PySem.W.Frag) (H : Hp) (a : Addr) : DO → Prop
  | .lst ds => ∃ vs, H a = some (.lst vs) ∧ Rps K H ds vs
  | .dS kvs => ∃ q, H a = some (.dK q) ∧ RkS K H kvs q
  | .dT kvs => ∃ es φ, H a = some (.ext φ) ∧ (∀ h, φ h ↔ DRaw w a es h) ∧ RkT K H kvs es ∧ (kvs.map (·.1)).Nodup ∧ kvs.length ≤ sizeLine
  | .ins C fs => ∃ dx q, H a = some (.ins C dx q) ∧ Rfs K H fs q
def RM (w : World) (K : PySem.W.Frag) (H : Hp) (M : DM) : Prop := ∀ a o, M a = some o → OkM w K H a o

section
variable {w : World} {K : PySem.W.Frag} {H H' : Hp} {M M' : DM} {a b : Addr} {o : DO}
theorem OkM.move (k : Keep H H') (e : H' a = H a) (h : OkM w K H a o) : OkM w K H' a o := by
  cases o with
  | lst ds => obtain ⟨vs, h1, h2⟩ := h; exact ⟨vs, e.trans h1, h2.keep k⟩
  | dS kvs => obtain ⟨q, h1, h2⟩ := h; exact ⟨q, e.trans h1, h2.keep k⟩
  | dT kvs => obtain ⟨q, φ, h1, h2, h3, h4⟩ := h; exact ⟨q, φ, e.trans h1, h2, h3.keep k, h4⟩
  | ins C fs => obtain ⟨dx, q, h1, h2⟩ := h; exact ⟨dx, q, e.trans h1, h2.keep k⟩
theorem OkM.has (h : OkM w K H a o) : ∃ u, H a = some u ∧ (∀ xs, u ≠ .tup xs) ∧ (∀ b x, u ≠ .frz b x) ∧ ∀ x, u ≠ .own x := by
  cases o with
  | lst ds => obtain ⟨vs, h1, h2⟩ := h; exact ⟨_, h1, (fun _ z => by cases z), (fun _ _ z => by cases z), (fun _ z => by cases z)⟩
  | dS kvs => obtain ⟨q, h1, h2⟩ := h; exact ⟨_, h1, (fun _ z => by cases z), (fun _ _ z => by cases z), (fun _ z => by cases z)⟩
  | dT kvs => obtain ⟨q, φ, h1, h2, h3⟩ := h; exact ⟨_, h1, (fun _ z => by cases z), (fun _ _ z => by cases z), (fun _ z => by cases z)⟩
  | ins C fs => obtain ⟨dx, q, h1, h2⟩ := h; exact ⟨_, h1, (fun _ z => by cases z), (fun _ _ z => by cases z), (fun _ z => by cases z)⟩
theorem RM.fresh (r : RM w K H M) (h : H a = none) : M a = none := by
  cases e : M a with
  | none => rfl
  | some o =>
    obtain ⟨u, q, _⟩ := (r a o e).has
    rw [h] at q; cases q
/-- what M does not know stays as it is -/
def Fr (H : Hp) (M : DM) (H' : Hp) (M' : DM) : Prop := ∀ a o, H a = some o → M a = none → H' a = some o ∧ M' a = none
theorem Fr.refl : Fr H M H M := fun _ _ h1 h2 => ⟨h1, h2⟩
theorem Fr.trans {H1 H2 : Hp} {M1 M2 : DM} (f : Fr H M H1 M1) (g : Fr H1 M1 H2 M2) : Fr H M H2 M2 := fun a o h1 h2 =>
  let ⟨e1, e2⟩ := f a o h1 h2
  g a o e1 e2
theorem Fr.keep (r : RM w K H M) (f : Fr H M H' M') : Keep H H' := ⟨fun a xs q => by
  have n : M a = none := by
    cases e : M a with
    | none => rfl
    | some o =>
      obtain ⟨u, q1, q2, q3, _⟩ := (r a o e).has
      rcases q with q | ⟨y, q⟩
      · rw [q1] at q; cases q; exact absurd rfl (q2 xs)
      · rw [q1] at q; cases q; exact absurd rfl (q3 y _)
  rcases q with q | ⟨y, q⟩
  · exact .inl (f a _ q n).1
  · exact .inr ⟨y, (f a _ q n).1⟩, fun a y xs q => by
  have n : M a = none := by
    cases e : M a with
    | none => rfl
    | some o =>
      obtain ⟨u, q1, q2, q3, _⟩ := (r a o e).has
      rw [q1] at q; cases q; exact absurd rfl (q3 y _)
  exact (f a _ q n).1⟩
/-- M'' knows less than M' -/
def Le (M M' : DM) : Prop := ∀ a o, M a = some o → M' a = some o
theorem Le.refl (M : DM) : Le M M := fun _ _ h => h
theorem Le.trans {M M1 M2 : DM} (h : Le M M1) (h' : Le M1 M2) : Le M M2 := fun a o e => h' a o (h a o e)
theorem Le.new {p : Addr} {o : DO} (h : M p = none) : Le M (updM M p o) := fun a u e => by
  rw [updM_ne (fun z => by rw [z, h] at e; cases e)]; exact e
theorem Le.mono {p : Addr} {o : DO} (h : Le M M') : Le (updM M p o) (updM M' p o) := fun a u e => by
  unfold updM at e ⊢
  split
  · rename_i z; rw [if_pos z] at e; exact e
  · rename_i z; rw [if_neg z] at e; exact h a u e
theorem Le.drop_of {p : Addr} {o : DO} (h : Le M M') (n : M p = none) : Le M (updM M' p o) := fun a u e => by
  rw [updM_ne (fun z => by rw [z, n] at e; cases e)]; exact h a u e
theorem Le.rm (h : Le M M') (r : RM w K H M') : RM w K H M := fun a o e => r a o (h a o e)
theorem Le.free (h : Le M M') (e : M' a = none) : M a = none := by
  cases q : M a with
  | none => rfl
  | some o => rw [h a o q] at e; cases e
theorem Fr.le {M'' : DM} (f : Fr H M H' M') (h : Le M'' M') : Fr H M H' M'' := fun a o h1 h2 =>
  ⟨(f a o h1 h2).1, h.free (f a o h1 h2).2⟩
/-- a new object that M knows -/
theorem RM.new {u : HO} (r : RM w K H M) (h : H a = none) (n : OkM w K (upd H a u) a o) : RM w K (upd H a u) (updM M a o) := fun b x e => by
  by_cases hb : b = a
  · subst hb; rw [updM_same] at e; cases e; exact n
  · rw [updM_ne hb] at e
    exact (r b x e).move (keep_new h) (upd_ne hb)
/-- a new object that M does not know -/
theorem RM.hid {u : HO} (r : RM w K H M) (h : H a = none) : RM w K (upd H a u) M := fun b x e =>
  (r b x e).move (keep_new h) (upd_ne (fun z => by rw [z, r.fresh h] at e; cases e))
theorem Fr.new {u : HO} (h : H a = none) : Fr H M (upd H a u) (updM M a o) := fun b x h1 h2 => by
  have ne : b ≠ a := fun z => by rw [z, h] at h1; cases h1
  exact ⟨by rw [upd_ne ne]; exact h1, by rw [updM_ne ne]; exact h2⟩
theorem Fr.hid {u : HO} (h : H a = none) : Fr H M (upd H a u) M := fun b x h1 h2 => by
  have ne : b ≠ a := fun z => by rw [z, h] at h1; cases h1
  exact ⟨by rw [upd_ne ne]; exact h1, h2⟩
/-- an object of M's is written -/
theorem keep_write {u v : HO} (h : H a = some v) (ht : ∀ xs, v ≠ .tup xs) (hf : ∀ b x, v ≠ .frz b x) : Keep H (upd H a u) := ⟨fun b xs q => by
  have ne : b ≠ a := fun z => by
    subst z
    rcases q with q | ⟨y, q⟩ <;> rw [h] at q <;> cases q
    · exact ht _ rfl
    · exact hf _ _ rfl
  rcases q with q | ⟨y, q⟩
  · exact .inl (by rw [upd_ne ne]; exact q)
  · exact .inr ⟨y, by rw [upd_ne ne]; exact q⟩, fun b y xs q => by rw [upd_ne (fun z => by subst z; rw [h] at q; cases q; exact hf _ _ rfl)]; exact q⟩
theorem RM.write {u : HO} {o' : DO} (r : RM w K H M) (e : M a = some o') (n : Keep H (upd H a u) → OkM w K (upd H a u) a o) : RM w K (upd H a u) (updM M a o) := by
  obtain ⟨v, h1, h2, h3, _⟩ := (r a o' e).has
  have k : Keep H (upd H a u) := keep_write h1 h2 h3
  intro b x q
  by_cases hb : b = a
  · subst hb; rw [updM_same] at q; cases q; exact n k
  · rw [updM_ne hb] at q
    exact (r b x q).move k (upd_ne hb)
theorem Fr.write {u : HO} {o' : DO} (e : M a = some o') : Fr H M (upd H a u) (updM M a o) := fun b x h1 h2 => by
  have ne : b ≠ a := fun z => by rw [z, e] at h2; cases h2
  exact ⟨by rw [upd_ne ne]; exact h1, by rw [updM_ne ne]; exact h2⟩
end

/-! ### slots -/
abbrev DSt := List (Option D)
def RSt (K : PySem.W.Frag) (H : Hp) (ds : DSt) (σ : L2.St) : Prop := ds.length = σ.length ∧ ∀ (i : Nat) (d : D), ds[i]? = some (some d) → ∃ v, σ[i]? = some (some v) ∧ Rp K H d v
theorem RSt.keep {K : PySem.W.Frag} {H H' : Hp} {ds : DSt} {σ : L2.St} (k : Keep H H') (r : RSt K H ds σ) : RSt K H' ds σ := ⟨r.1, fun i d e => by
  obtain ⟨v, h1, h2⟩ := r.2 i d e
  exact ⟨v, h1, h2.keep k⟩⟩
theorem RSt.set {K : PySem.W.Frag} {H : Hp} {ds : DSt} {σ : L2.St} {i : Nat} {d : D} {v : V} (r : RSt K H ds σ) (h : Rp K H d v) : RSt K H (ds.set i (some d)) (σ.set i (some v)) := ⟨by simp [r.1], fun j x e => by
  by_cases hj : i = j
  · subst hj
    by_cases hl : i < ds.length
    · rw [List.getElem?_set_self hl] at e
      cases e
      exact ⟨v, List.getElem?_set_self (by rw [← r.1]; exact hl), h⟩
    · rw [List.getElem?_eq_none (by rw [List.length_set]; omega)] at e
      cases e
  · rw [List.getElem?_set_ne hj] at e
    obtain ⟨u, h1, h2⟩ := r.2 j x e
    exact ⟨u, by rw [List.getElem?_set_ne hj]; exact h1, h2⟩⟩

/-! ### judgements -/
abbrev DE := DSt → DM → (D → DM → Prop) → Prop
abbrev DT := DSt → DM → (Bool → DM → Prop) → Prop
abbrev DA := DSt → DM → (List D → DM → Prop) → Prop
structure DEnds where
  nx : DSt → DM → Prop
  rt : D → DM → Prop
  bk : DSt → DM → Prop
  ct : DSt → DM → Prop
abbrev DS := DEnds → DSt → DM → Prop
abbrev DG := D → DSt → DM → (DSt → DM → Prop) → Prop

section
variable (w : World) (K : PySem.W.Frag)
def lft (t : DE) : TE := fun σ H Q => ∃ ds M R, RSt K H ds σ ∧ RM w K H M ∧ t ds M R ∧ ∀ v H' d M', Fr H M H' M' → Rp K H' d v → RM w K H' M' → R d M' → Q v H'
def lftT (t : DT) : TT := fun σ H Q => ∃ ds M R, RSt K H ds σ ∧ RM w K H M ∧ t ds M R ∧ ∀ b H' M', Fr H M H' M' → RM w K H' M' → R b M' → Q b H'
def lftA (t : DA) : TA := fun σ H Q => ∃ ds M R, RSt K H ds σ ∧ RM w K H M ∧ t ds M R ∧ ∀ vs H' es M', Fr H M H' M' → Rps K H' es vs → RM w K H' M' → R es M' → Q vs H'
def Go (H : Hp) (M : DM) (R : DSt → DM → Prop) (Q : L2.St → Hp → Prop) : Prop := ∀ σ' H' ds' M', Fr H M H' M' → RSt K H' ds' σ' → RM w K H' M' → R ds' M' → Q σ' H'
def lftS (t : DS) : TS := fun D σ H => ∃ ds M E, RSt K H ds σ ∧ RM w K H M ∧ t E ds M ∧ Go w K H M E.nx D.nx ∧ Go w K H M E.bk D.bk ∧ Go w K H M E.ct D.ct ∧
  ∀ v H' d M', Fr H M H' M' → Rp K H' d v → RM w K H' M' → E.rt d M' → D.rt v H'
def lftG (g : DG) : TG := fun v σ H Q => ∃ d ds M R, Rp K H d v ∧ RSt K H ds σ ∧ RM w K H M ∧ g d ds M R ∧ ∀ σ' H' ds' M', Fr H M H' M' → RSt K H' ds' σ' → RM w K H' M' → R ds' M' → Q σ' H'
end
def EX (X : Cx) (e : Expr) (t : DE) : Prop := PE X e (lft X.w X.K t)
def TX (X : Cx) (e : Expr) (t : DT) : Prop := PT X e (lftT X.w X.K t)
def WX (X : Cx) (e : Expr) (t : DT) : Prop := PW X e (lftT X.w X.K t)
def AX (X : Cx) (es : List Expr) (t : DA) : Prop := PA X es (lftA X.w X.K t)
def SX (X : Cx) (s : Stmt) (t : DS) : Prop := PS X s (lftS X.w X.K t)
def SXs (X : Cx) (s : List Stmt) (t : DS) : Prop := PSs X s (lftS X.w X.K t)
def GX (X : Cx) (e : Expr) (g : DG) : Prop := PG X e (lftG X.w X.K g)

theorem _root_.L2.PE.imp {X : Cx} {e : Expr} {t t' : TE} (h : PE X e t) (i : ∀ σ H Q, t' σ H Q → t σ H Q) : PE X e t' := ⟨fun p s σ H Q I q => h.run p s σ H Q I (i _ _ _ q)⟩
theorem _root_.L2.PT.imp {X : Cx} {e : Expr} {t t' : TT} (h : PT X e t) (i : ∀ σ H Q, t' σ H Q → t σ H Q) : PT X e t' := ⟨fun p s σ H Q I q => h.run p s σ H Q I (i _ _ _ q)⟩
theorem _root_.L2.PW.imp {X : Cx} {e : Expr} {t t' : TT} (h : PW X e t) (i : ∀ σ H Q, t' σ H Q → t σ H Q) : PW X e t' := ⟨fun wh p s σ H Q I q => h.run wh p s σ H Q I (i _ _ _ q)⟩
theorem _root_.L2.PA.imp {X : Cx} {e : List Expr} {t t' : TA} (h : PA X e t) (i : ∀ σ H Q, t' σ H Q → t σ H Q) : PA X e t' := ⟨fun po p s σ H Q I q => h.run po p s σ H Q I (i _ _ _ q)⟩
theorem _root_.L2.PS.imp {X : Cx} {e : Stmt} {t t' : TS} (h : PS X e t) (i : ∀ D σ H, t' D σ H → t D σ H) : PS X e t' := ⟨fun p s σ H Q I q => h.run p s σ H Q I (i _ _ _ q)⟩
theorem _root_.L2.PSs.imp {X : Cx} {e : List Stmt} {t t' : TS} (h : PSs X e t) (i : ∀ D σ H, t' D σ H → t D σ H) : PSs X e t' := ⟨fun p s σ H Q I q => h.run p s σ H Q I (i _ _ _ q)⟩
theorem _root_.L2.PG.imp {X : Cx} {e : Expr} {t t' : TG} (h : PG X e t) (i : ∀ v σ H Q, t' v σ H Q → t v σ H Q) : PG X e t' := ⟨fun p s σ H x u Q I r q => h.run p s σ H x u Q I r (i _ _ _ _ q)⟩

section
variable {X : Cx} {pos : Pos}
/-! ### names and constants -/
def getS : DSt → Nat → Option D
  | [], _ => none
  | x :: _, 0 => x
  | _ :: r, n + 1 => getS r n
@[simp ↓] theorem getS_z {x : Option D} {r : DSt} : getS (x :: r) 0 = x := rfl
@[simp ↓] theorem getS_s {x : Option D} {r : DSt} {n : Nat} : getS (x :: r) (n + 1) = getS r n := rfl
theorem getS_eq : ∀ (ds : DSt) (i : Nat) (d : D), getS ds i = some d → ds[i]? = some (some d)
  | [], _, _, h => by cases h
  | x :: _, 0, d, h => by simpa [getS] using h
  | _ :: r, n + 1, d, h => by simpa using getS_eq r n d h
def dVarK (o : Option D) (M : DM) (Q : D → DM → Prop) : Prop := match o with
  | some d => Q d M
  | none => False
@[simp ↓] theorem dVarK_some {d : D} {M : DM} {Q : D → DM → Prop} : dVarK (some d) M Q = Q d M := rfl
def dVar (i : Nat) : DE := fun ds M Q => dVarK (getS ds i) M Q
def dC (d : D) : DE := fun _ M Q => Q d M
@[simp ↓] theorem dVar_eq {i : Nat} {ds : DSt} {M : DM} {Q : D → DM → Prop} : dVar i ds M Q = dVarK (getS ds i) M Q := rfl
@[simp ↓] theorem dC_eq {d : D} {ds : DSt} {M : DM} {Q : D → DM → Prop} : dC d ds M Q = Q d M := rfl
theorem ev (i : Nat) {x : Str} (hN : X.N[i]? = some x := by rfl) (hv : Vis X.env.scope x := by first | exact Or.inl rfl | exact Or.inr (Or.inl rfl) | exact Or.inr (Or.inr rfl)) (hd : (x == ("__debug__" : Str)) = false := by decide)
    (hcd : (x == ("__classdict__" : Str)) = false := by decide) : EX X (.Name x pos) (dVar i) := by
  refine (pe_var hN hv hd hcd).imp fun σ H Q ⟨ds, M, R, hs, hm, t, k⟩ => ?_
  have t : dVarK (getS ds i) M R := t
  cases e : getS ds i with
  | none => rw [e] at t; exact t.elim
  | some d =>
    rw [e] at t
    obtain ⟨v, h1, h2⟩ := hs.2 i d (getS_eq _ _ _ e)
    exact ⟨v, h1, k v H d M .refl h2 hm t⟩
theorem lftC {d : D} {v : V} {σ : L2.St} {H : Hp} {Q : VK} {w : World} {K : PySem.W.Frag} (hr : Rp K H d v) (h : lft w K (dC d) σ H Q) : tC v σ H Q := by
  obtain ⟨ds, M, R, hs, hm, t, k⟩ := h
  exact k v H d M .refl hr hm t
theorem e_int {i : Int} {j : Nat} {pos : Pos} : EX X (.Constant (.int i) j pos) (dC (.int i)) := pe_int.imp fun _ _ _ h => lftC (by unfold Rp; rfl) h
theorem e_bl {i : Bool} {j : Nat} {pos : Pos} : EX X (.Constant (.bool i) j pos) (dC (.bl i)) := pe_bl.imp fun _ _ _ h => lftC (by unfold Rp; rfl) h
theorem e_non {j : Nat} {pos : Pos} : EX X (.Constant .none j pos) (dC .non) := pe_non.imp fun _ _ _ h => lftC (by unfold Rp; rfl) h
theorem e_str {x : Str} {j : Nat} {pos : Pos} : EX X (.Constant (.str x) j pos) (dC (.str x)) := pe_str.imp fun _ _ _ h => lftC (by unfold Rp; rfl) h
/-- a module's name: an int, a text, a def, a class, .. -/
theorem e_glob {x : Str} {d : D} {v : V} {u : Value} {pos : Pos} (hg : Gl X x) (hm : X.mg x = some u) (r : RelV v u) (hr : ∀ H, Rp X.K H d v) (hd : (x == ("__debug__" : Str)) = false := by decide) : EX X (.Name x pos) (dC d) :=
  (pe_glob hg hm r hd).imp fun _ H _ h => lftC (hr H) h
theorem e_bltn {x : Str} {d : D} {v : V} {u : Value} {pos : Pos} (hg : Gl X x) (hm : X.mg x = none) (hv : bootBuiltins x = some u) (r : RelV v u) (hr : ∀ H, Rp X.K H d v) (hn : x ≠ "__name__" := by decide) (hd : (x == ("__debug__" : Str)) = false := by decide) : EX X (.Name x pos) (dC d) :=
  (pe_bltn hg hm hv r hn hd).imp fun _ H _ h => lftC (hr H) h
end
end DL

set_option Elab.async false
set_option linter.all false
set_option maxRecDepth 100000
namespace DL
open PySem PySem.Spec PyProof.Rows L2
section
variable {X : Cx} {pos : Pos} {a b c e o : Expr} {ta tb tc : DE} {st : Stmt} {es : List Expr} {rest : List Stmt}

/-! ### operators -/
abbrev R2D := D → D → DM → (D → DM → Prop) → Prop
def lft2 (w : World) (K : PySem.W.Frag) (r : R2D) : R2 := fun x y H Q => ∃ dx dy M R, Rp K H dx x ∧ Rp K H dy y ∧ RM w K H M ∧ r dx dy M R ∧ ∀ v H' d M', Fr H M H' M' → Rp K H' d v → RM w K H' M' → R d M' → Q v H'
def OD (X : Cx) (f : Value → Value → Sem Value) (r : R2D) : Prop := OpR X f (lft2 X.w X.K r)
def dOp (r : R2D) (ta tb : DE) : DE := fun ds M Q => ta ds M fun x M1 => tb ds M1 fun y M2 => r x y M2 Q
@[simp ↓] theorem dOp_eq {r : R2D} {ta tb : DE} {ds : DSt} {M : DM} {Q : D → DM → Prop} : dOp r ta tb ds M Q = ta ds M fun x M1 => tb ds M1 fun y M2 => r x y M2 Q := rfl
theorem bin_imp {w : World} {K : PySem.W.Frag} {r : R2D} {ta tb : DE} {σ : L2.St} {H : Hp} {Q : VK} (h : lft w K (dOp r ta tb) σ H Q) : tOp (lft2 w K r) (lft w K ta) (lft w K tb) σ H Q := by
  obtain ⟨ds, M, R, hs, hm, t, k⟩ := h
  refine ⟨ds, M, _, hs, hm, t, fun x H1 dx M1 f1 r1 m1 t1 => ⟨ds, M1, _, hs.keep (f1.keep hm), m1, t1, fun y H2 dy M2 f2 r2 m2 t2 => ⟨dx, dy, M2, R, r1.keep (f2.keep m1), r2, m2, t2, fun v H' d M' f3 r3 m3 q => k v H' d M' ((f1.trans f2).trans f3) r3 m3 q⟩⟩⟩
theorem e_op {op : Operator} {r : R2D} (ho : OD X (binaryOp op) r) (ha : EX X a ta) (hb : EX X b tb) : EX X (.BinOp a op b pos) (dOp r ta tb) :=
  (pe_op ho ha hb).imp fun _ _ _ h => bin_imp h
theorem e_cmp {op : CmpOp} {r : R2D} (ho : OD X (compareOp op) r) (ha : EX X a ta) (hb : EX X b tb) (hm : behindInMarks op b = false) : EX X (.Compare a [op] [b] pos) (dOp r ta tb) :=
  (pe_cmpR ho ha hb hm).imp fun _ _ _ h => bin_imp h
/-- the truth of a bool -/
def blK (d : D) (k : Bool → Prop) : Prop := match d with
  | .bl b => k b
  | _ => False
@[simp ↓] theorem blK_bl {b : Bool} {k : Bool → Prop} : blK (.bl b) k = k b := rfl
theorem blK_of {d : D} {k : Bool → Prop} (h : blK d k) : ∃ b, d = .bl b ∧ k b := by
  cases d <;> first | exact ⟨_, rfl, h⟩ | exact h.elim
theorem Rp.bl_of {K : PySem.W.Frag} {H : Hp} {b : Bool} {v : V} (h : Rp K H (.bl b) v) : v = .bl b := by unfold Rp at h; exact h
theorem Rp.int_of {K : PySem.W.Frag} {H : Hp} {b : Int} {v : V} (h : Rp K H (.int b) v) : v = .int b := by unfold Rp at h; exact h
theorem Rp.str_of {K : PySem.W.Frag} {H : Hp} {b : Str} {v : V} (h : Rp K H (.str b) v) : v = .str b := by unfold Rp at h; exact h
theorem Rp.ref_of {K : PySem.W.Frag} {H : Hp} {b : Addr} {v : V} (h : Rp K H (.ref b) v) : v = .ref b := by unfold Rp at h; exact h
theorem Rp.non_of {K : PySem.W.Frag} {H : Hp} {v : V} (h : Rp K H .non v) : v = .non := by unfold Rp at h; exact h
theorem Rp.fl_of {K : PySem.W.Frag} {H : Hp} {v : V} {ds : List D} (h : Rp K H (.fl ds) v) : ∃ a vs, v = .ref a ∧ SqF K H a vs ∧ Rps K H ds vs := by unfold Rp at h; exact h
theorem Rp.ty_of {K : PySem.W.Frag} {H : Hp} {v : V} {n : String} (h : Rp K H (.ty n) v) : v = .ty n := by unfold Rp at h; exact h
theorem Rp.tup_of {K : PySem.W.Frag} {H : Hp} {ds : List D} {v : V} (h : Rp K H (.tup ds) v) : ∃ a vs, v = .ref a ∧ SqT K H a vs ∧ Rps K H ds vs := by unfold Rp at h; exact h
theorem Rp.bl {K : PySem.W.Frag} {H : Hp} {b : Bool} : Rp K H (.bl b) (.bl b) := by unfold Rp; rfl
theorem Rp.int {K : PySem.W.Frag} {H : Hp} {b : Int} : Rp K H (.int b) (.int b) := by unfold Rp; rfl
theorem Rp.str {K : PySem.W.Frag} {H : Hp} {b : Str} : Rp K H (.str b) (.str b) := by unfold Rp; rfl
theorem Rp.ref {K : PySem.W.Frag} {H : Hp} {b : Addr} : Rp K H (.ref b) (.ref b) := by unfold Rp; rfl
theorem Rp.non {K : PySem.W.Frag} {H : Hp} : Rp K H .non .non := by unfold Rp; rfl
theorem Rp.ty {K : PySem.W.Frag} {H : Hp} {n : String} : Rp K H (.ty n) (.ty n) := by unfold Rp; rfl
theorem Rp.tup {K : PySem.W.Frag} {H : Hp} {ds : List D} {a : Addr} {vs : List V} (t : SqT K H a vs) (r : Rps K H ds vs) : Rp K H (.tup ds) (.ref a) := by unfold Rp; exact ⟨a, vs, rfl, t, r⟩

def dTest (t : DE) : DT := fun ds M Q => t ds M fun d M1 => blK d fun b => Q b M1
@[simp ↓] theorem dTest_eq {t : DE} {ds : DSt} {M : DM} {Q : Bool → DM → Prop} : dTest t ds M Q = t ds M fun d M1 => blK d fun b => Q b M1 := rfl
theorem test_imp {w : World} {K : PySem.W.Frag} {t : DE} {u : TE} (i : ∀ σ H Q, lft w K t σ H Q → u σ H Q) {σ : L2.St} {H : Hp} {Q : Bool → Hp → Prop} (h : lftT w K (dTest t) σ H Q) : tTest u σ H Q := by
  obtain ⟨ds, M, R, hs, hm, t, k⟩ := h
  refine i _ _ _ ⟨ds, M, _, hs, hm, t, fun v H' d M' f r m q => ?_⟩
  obtain ⟨c, rfl, q⟩ := blK_of q
  exact ⟨c, r.bl_of, k c H' M' f m q⟩
theorem t_cmp {op : CmpOp} {r : R2D} (ho : OD X (compareOp op) r) (ha : EX X a ta) (hb : EX X b tb) (hm : behindInMarks op b = false) : TX X (.Compare a [op] [b] pos) (dTest (dOp r ta tb)) :=
  (pt_cmpR ho ha hb hm).imp fun _ _ _ h => test_imp (fun _ _ _ h => bin_imp h) h
/-- a op b op' c -/
def dChain (r r' : R2D) (ta tb tc : DE) : DE := fun ds M Q => ta ds M fun x M1 => tb ds M1 fun y M2 => r x y M2 fun z M3 => blK z fun k => if k = true then tc ds M3 fun u M4 => r' y u M4 Q else Q (.bl false) M3
@[simp ↓] theorem dChain_eq {r r' : R2D} {ta tb tc : DE} {ds : DSt} {M : DM} {Q : D → DM → Prop} : dChain r r' ta tb tc ds M Q = ta ds M fun x M1 => tb ds M1 fun y M2 => r x y M2 fun z M3 => blK z fun k => if k = true then tc ds M3 fun u M4 => r' y u M4 Q else Q (.bl false) M3 := rfl
theorem chain_imp {w : World} {K : PySem.W.Frag} {r r' : R2D} {ta tb tc : DE} {σ : L2.St} {H : Hp} {Q : VK} (h : lft w K (dChain r r' ta tb tc) σ H Q) : tChain (lft2 w K r) (lft2 w K r') (lft w K ta) (lft w K tb) (lft w K tc) σ H Q := by
  obtain ⟨ds, M, R, hs, hm, t, k⟩ := h
  refine ⟨ds, M, _, hs, hm, t, fun x H1 dx M1 f1 r1 m1 t1 => ⟨ds, M1, _, hs.keep (f1.keep hm), m1, t1, fun y H2 dy M2 f2 r2 m2 t2 => ⟨dx, dy, M2, _, r1.keep (f2.keep m1), r2, m2, t2, fun v H3 d M3 f3 r3 m3 q => ?_⟩⟩⟩
  obtain ⟨kb, rfl, qq⟩ := blK_of q
  refine ⟨kb, r3.bl_of, ?_⟩
  have f13 := (f1.trans f2).trans f3
  split
  · rename_i e
    rw [if_pos e] at qq
    exact ⟨ds, M3, _, hs.keep (f13.keep hm), m3, qq, fun u H4 du M4 f4 r4 m4 q4 => ⟨dy, du, M4, R, r2.keep ((f3.trans f4).keep m2), r4, m4, q4, fun v H' d M' f5 r5 m5 q5 => k v H' d M' ((f13.trans f4).trans f5) r5 m5 q5⟩⟩
  · rename_i e
    rw [if_neg e] at qq
    exact k _ _ _ _ f13 Rp.bl m3 qq
theorem e_chain {op op' : CmpOp} {r r' : R2D} (ho : OD X (compareOp op) r) (ho' : OD X (compareOp op') r') (ha : EX X a ta) (hb : EX X b tb) (hc : EX X c tc) (hm : lastMarks [op, op'] [b, c] = false := by with_unfolding_all rfl) :
    EX X (.Compare a [op, op'] [b, c] pos) (dChain r r' ta tb tc) := (pe_chain ho ho' ha hb hc hm).imp fun _ _ _ h => chain_imp h
theorem t_chain {op op' : CmpOp} {r r' : R2D} (ho : OD X (compareOp op) r) (ho' : OD X (compareOp op') r') (ha : EX X a ta) (hb : EX X b tb) (hc : EX X c tc) (hm : lastMarks [op, op'] [b, c] = false := by with_unfolding_all rfl) :
    TX X (.Compare a [op, op'] [b, c] pos) (dTest (dChain r r' ta tb tc)) := (pt_chain ho ho' ha hb hc hm).imp fun _ _ _ h => test_imp (fun _ _ _ h => chain_imp h) h
/-- one-place operators -/
def lft1 (w : World) (K : PySem.W.Frag) (r : D → DM → (D → DM → Prop) → Prop) : V → Hp → VK → Prop := fun x H Q => ∃ dx M R, Rp K H dx x ∧ RM w K H M ∧ r dx M R ∧ ∀ v H' d M', Fr H M H' M' → Rp K H' d v → RM w K H' M' → R d M' → Q v H'
def UD (X : Cx) (f : Value → Sem Value) (r : D → DM → (D → DM → Prop) → Prop) : Prop := UnR X f (lft1 X.w X.K r)
def dUn (r : D → DM → (D → DM → Prop) → Prop) (ta : DE) : DE := fun ds M Q => ta ds M fun x M1 => r x M1 Q
@[simp ↓] theorem dUn_eq {r : D → DM → (D → DM → Prop) → Prop} {ta : DE} {ds : DSt} {M : DM} {Q : D → DM → Prop} : dUn r ta ds M Q = ta ds M fun x M1 => r x M1 Q := rfl
theorem e_un {op : UnaryOp} {r : D → DM → (D → DM → Prop) → Prop} (ho : UD X (unaryOp op) r) (ha : EX X a ta) : EX X (.UnaryOp op a pos) (dUn r ta) :=
  (pe_un ho ha).imp fun σ H Q ⟨ds, M, R, hs, hm, t, k⟩ => ⟨ds, M, _, hs, hm, t, fun x H1 dx M1 f1 r1 m1 t1 => ⟨dx, M1, R, r1, m1, t1, fun v H' d M' f3 r3 m3 q => k v H' d M' (f1.trans f3) r3 m3 q⟩⟩

/-! ### and, or, not, if -/
variable {sa sb : DT}
def dAnd (s t : DT) : DT := fun ds M Q => s ds M fun k M1 => if k = true then t ds M1 Q else Q false M1
def dOr (s t : DT) : DT := fun ds M Q => s ds M fun k M1 => if k = true then Q true M1 else t ds M1 Q
def dNot (s : DT) : DT := fun ds M Q => s ds M fun k M1 => Q (!k) M1
@[simp ↓] theorem dAnd_eq {s t : DT} {ds : DSt} {M : DM} {Q : Bool → DM → Prop} : dAnd s t ds M Q = s ds M fun k M1 => if k = true then t ds M1 Q else Q false M1 := rfl
@[simp ↓] theorem dOr_eq {s t : DT} {ds : DSt} {M : DM} {Q : Bool → DM → Prop} : dOr s t ds M Q = s ds M fun k M1 => if k = true then Q true M1 else t ds M1 Q := rfl
@[simp ↓] theorem dNot_eq {s : DT} {ds : DSt} {M : DM} {Q : Bool → DM → Prop} : dNot s ds M Q = s ds M fun k M1 => Q (!k) M1 := rfl
theorem TX.wx (h : WX X e sa) : TX X e sa := PW.pt h
theorem w_and1 (h : TX X a sa) : WX X (.BoolOp .And [a] pos) sa := pw_and1 h
theorem w_or1 (h : TX X a sa) : WX X (.BoolOp .Or [a] pos) sa := pw_or1 h
theorem w_and (h : TX X a sa) (h' : WX X (.BoolOp .And (b :: es) pos) sb) : WX X (.BoolOp .And (a :: b :: es) pos) (dAnd sa sb) :=
  (pw_and h h').imp fun σ H Q ⟨ds, M, R, hs, hm, t, k⟩ => ⟨ds, M, _, hs, hm, t, fun x H1 M1 f1 m1 q => by
    dsimp only
    split
    · rename_i e
      rw [if_pos e] at q
      exact ⟨ds, M1, R, hs.keep (f1.keep hm), m1, q, fun y H2 M2 f2 m2 q2 => k y H2 M2 (f1.trans f2) m2 q2⟩
    · rename_i e
      rw [if_neg e] at q
      exact k _ _ _ f1 m1 q⟩
theorem w_or (h : TX X a sa) (h' : WX X (.BoolOp .Or (b :: es) pos) sb) : WX X (.BoolOp .Or (a :: b :: es) pos) (dOr sa sb) :=
  (pw_or h h').imp fun σ H Q ⟨ds, M, R, hs, hm, t, k⟩ => ⟨ds, M, _, hs, hm, t, fun x H1 M1 f1 m1 q => by
    dsimp only
    split
    · rename_i e
      rw [if_pos e] at q
      exact k _ _ _ f1 m1 q
    · rename_i e
      rw [if_neg e] at q
      exact ⟨ds, M1, R, hs.keep (f1.keep hm), m1, q, fun y H2 M2 f2 m2 q2 => k y H2 M2 (f1.trans f2) m2 q2⟩⟩
theorem t_not (h : TX X a sa) : TX X (.UnaryOp .Not a pos) (dNot sa) :=
  (pt_not h).imp fun σ H Q ⟨ds, M, R, hs, hm, t, k⟩ => ⟨ds, M, _, hs, hm, t, fun x H1 M1 f1 m1 q => k _ _ _ f1 m1 q⟩
def dAndV (s t : DE) : DE := fun ds M Q => s ds M fun d M1 => blK d fun k => if k = true then t ds M1 Q else Q (.bl false) M1
def dOrV (s t : DE) : DE := fun ds M Q => s ds M fun d M1 => blK d fun k => if k = true then Q (.bl true) M1 else t ds M1 Q
def dNotV (s : DE) : DE := fun ds M Q => s ds M fun d M1 => blK d fun k => Q (.bl (!k)) M1
@[simp ↓] theorem dAndV_eq {s t : DE} {ds : DSt} {M : DM} {Q : D → DM → Prop} : dAndV s t ds M Q = s ds M fun d M1 => blK d fun k => if k = true then t ds M1 Q else Q (.bl false) M1 := rfl
@[simp ↓] theorem dOrV_eq {s t : DE} {ds : DSt} {M : DM} {Q : D → DM → Prop} : dOrV s t ds M Q = s ds M fun d M1 => blK d fun k => if k = true then Q (.bl true) M1 else t ds M1 Q := rfl
@[simp ↓] theorem dNotV_eq {s : DE} {ds : DSt} {M : DM} {Q : D → DM → Prop} : dNotV s ds M Q = s ds M fun d M1 => blK d fun k => Q (.bl (!k)) M1 := rfl
theorem e_one {op} {t : DE} (h : EX X a t) : EX X (.BoolOp op [a] pos) t := pe_one h
theorem e_and (h : EX X a ta) (h' : EX X (.BoolOp .And (b :: es) pos) tb) : EX X (.BoolOp .And (a :: b :: es) pos) (dAndV ta tb) :=
  (pe_and h h').imp fun σ H Q ⟨ds, M, R, hs, hm, t, k⟩ => ⟨ds, M, _, hs, hm, t, fun x H1 d M1 f1 r1 m1 q0 => by
    obtain ⟨kb, rfl, q⟩ := blK_of q0
    refine ⟨kb, r1.bl_of, ?_⟩
    split
    · rename_i e
      rw [if_pos e] at q
      exact ⟨ds, M1, R, hs.keep (f1.keep hm), m1, q, fun v H' d M' f3 r3 m3 q => k v H' d M' (f1.trans f3) r3 m3 q⟩
    · rename_i e
      rw [if_neg e] at q
      exact k _ _ _ _ f1 Rp.bl m1 q⟩
theorem e_or (h : EX X a ta) (h' : EX X (.BoolOp .Or (b :: es) pos) tb) : EX X (.BoolOp .Or (a :: b :: es) pos) (dOrV ta tb) :=
  (pe_or h h').imp fun σ H Q ⟨ds, M, R, hs, hm, t, k⟩ => ⟨ds, M, _, hs, hm, t, fun x H1 d M1 f1 r1 m1 q0 => by
    obtain ⟨kb, rfl, q⟩ := blK_of q0
    refine ⟨kb, r1.bl_of, ?_⟩
    split
    · rename_i e
      rw [if_pos e] at q
      exact k _ _ _ _ f1 Rp.bl m1 q
    · rename_i e
      rw [if_neg e] at q
      exact ⟨ds, M1, R, hs.keep (f1.keep hm), m1, q, fun v H' d M' f3 r3 m3 q => k v H' d M' (f1.trans f3) r3 m3 q⟩⟩
theorem e_not (h : EX X a ta) : EX X (.UnaryOp .Not a pos) (dNotV ta) :=
  (pe_not h).imp fun σ H Q ⟨ds, M, R, hs, hm, t, k⟩ => ⟨ds, M, _, hs, hm, t, fun x H1 d M1 f1 r1 m1 q => by
    obtain ⟨kb, rfl, q⟩ := blK_of q
    exact ⟨kb, r1.bl_of, k _ _ _ _ f1 Rp.bl m1 q⟩⟩
def dIf (s : DT) (t u : DE) : DE := fun ds M Q => s ds M fun k M1 => if k = true then t ds M1 Q else u ds M1 Q
@[simp ↓] theorem dIf_eq {s : DT} {t u : DE} {ds : DSt} {M : DM} {Q : D → DM → Prop} : dIf s t u ds M Q = s ds M fun k M1 => if k = true then t ds M1 Q else u ds M1 Q := rfl
theorem e_if (h : TX X c sa) (ha : EX X a ta) (hb : EX X b tb) : EX X (.IfExp c a b pos) (dIf sa ta tb) :=
  (pe_ifExp h ha hb).imp fun σ H Q ⟨ds, M, R, hs, hm, t, k⟩ => ⟨ds, M, _, hs, hm, t, fun x H1 M1 f1 m1 q => by
    dsimp only
    split <;> rename_i e
    · rw [if_pos e] at q
      exact ⟨ds, M1, R, hs.keep (f1.keep hm), m1, q, fun v H' d M' f3 r3 m3 q => k v H' d M' (f1.trans f3) r3 m3 q⟩
    · rw [if_neg e] at q
      exact ⟨ds, M1, R, hs.keep (f1.keep hm), m1, q, fun v H' d M' f3 r3 m3 q => k v H' d M' (f1.trans f3) r3 m3 q⟩⟩
/-- a value's truth -/
def truK (d : D) (M : DM) (k : Bool → Prop) : Prop := match d with
  | .non => k false
  | .bl b => k b
  | .int i => k (i != 0)
  | .str x => x.length ≤ sizeLine ∧ k ((x.length : Int) != 0)
  | .tup ds => k (!ds.isEmpty)
  | .fl ds => k (!ds.isEmpty)
  | .ref p => match M p with
    | some (.lst ds) => k (!ds.isEmpty)
    | some (.dS kvs) => k (!kvs.isEmpty)
    | _ => False
  | _ => False
@[simp ↓] theorem truK_non {M : DM} {k : Bool → Prop} : truK .non M k = k false := rfl
@[simp ↓] theorem truK_bl {M : DM} {k : Bool → Prop} {b : Bool} : truK (.bl b) M k = k b := rfl
@[simp ↓] theorem truK_int {M : DM} {k : Bool → Prop} {b : Int} : truK (.int b) M k = k (b != 0) := rfl
@[simp ↓] theorem truK_str {M : DM} {k : Bool → Prop} {b : Str} : truK (.str b) M k = (b.length ≤ sizeLine ∧ k ((b.length : Int) != 0)) := rfl
@[simp ↓] theorem truK_fl {M : DM} {k : Bool → Prop} {b : List D} : truK (.fl b) M k = k (!b.isEmpty) := rfl
@[simp ↓] theorem truK_tup {M : DM} {k : Bool → Prop} {b : List D} : truK (.tup b) M k = k (!b.isEmpty) := rfl
theorem Rps.empty {K : PySem.W.Frag} {H : Hp} {ds : List D} {vs : List V} (h : Rps K H ds vs) : vs.isEmpty = ds.isEmpty := by
  have := h.len
  cases ds <;> cases vs <;> simp_all
theorem RkS.empty {K : PySem.W.Frag} {H : Hp} : ∀ {x : List (Str × D)} {q : List (Key × V)}, RkS K H x q → q.isEmpty = x.isEmpty
  | [], _, h => by cases h; rfl
  | (n, d) :: r, q, ⟨v, t, e, h, h2⟩ => by rw [e]; rfl
theorem truK_of {w : World} {K : PySem.W.Frag} {H : Hp} {d : D} {v : V} {M : DM} {k : Bool → Prop} (r : Rp K H d v) (m : RM w K H M) (h : truK d M k) : ∃ b, TruV K v H b ∧ k b := by
  cases d with
  | non => cases r.non_of; exact ⟨false, rfl, h⟩
  | bl b => cases r.bl_of; exact ⟨b, rfl, h⟩
  | int i => cases r.int_of; exact ⟨_, rfl, h⟩
  | str x => cases r.str_of; exact ⟨_, ⟨h.1, rfl⟩, h.2⟩
  | ty n => exact h.elim
  | tup ds =>
    obtain ⟨a, vs, rfl, t, rs⟩ := r.tup_of
    exact ⟨_, .inr (.inl ⟨vs, t, rfl⟩), by rw [rs.empty]; exact h⟩
  | fl ds =>
    obtain ⟨a, vs, rfl, t, rs⟩ := r.fl_of
    exact ⟨_, .inl ⟨vs, t.sqL, rfl⟩, by rw [rs.empty]; exact h⟩
  | ref p =>
    cases r.ref_of
    unfold truK at h
    dsimp only at h
    cases e : M p with
    | none => rw [e] at h; exact h.elim
    | some o =>
      rw [e] at h
      have q := m p o e
      cases o with
      | lst ds => obtain ⟨vs, h1, h2⟩ := q; exact ⟨_, .inl ⟨vs, SqL.of h1, rfl⟩, by rw [h2.empty]; exact h⟩
      | dS kvs => obtain ⟨q, h1, h2⟩ := q; exact ⟨_, .inr (.inr ⟨q, h1, rfl⟩), by rw [h2.empty]; exact h⟩
      | dT kvs => exact h.elim
      | ins C fs => exact h.elim
def dTru (t : DE) : DT := fun ds M Q => t ds M fun d M1 => truK d M1 fun b => Q b M1
@[simp ↓] theorem dTru_eq {t : DE} {ds : DSt} {M : DM} {Q : Bool → DM → Prop} : dTru t ds M Q = t ds M fun d M1 => truK d M1 fun b => Q b M1 := rfl
theorem t_tru (ha : EX X a ta) (he : ∀ whole, isTrue a X.env whole = (do let v ← whole; standAt a.pos; holding [v] (truthy v)) := by intro _; rfl) : TX X a (dTru ta) :=
  (pt_truth ha he).imp fun σ H Q ⟨ds, M, R, hs, hm, t, k⟩ => ⟨ds, M, _, hs, hm, t, fun x H1 d M1 f1 r1 m1 q => by
    obtain ⟨b, h1, h2⟩ := truK_of r1 m1 q
    exact ⟨b, h1, k _ _ _ f1 m1 h2⟩⟩

/-! ### blocks -/
variable {t u : DS}
def dNext : DS := fun E ds M => E.nx ds M
def dSeq (t u : DS) : DS := fun E ds M => t { E with nx := u E } ds M
def dBreak : DS := fun E ds M => E.bk ds M
def dCont : DS := fun E ds M => E.ct ds M
def dDrop (t : DE) : DS := fun E ds M => t ds M fun _ M1 => E.nx ds M1
def dRet (t : DE) : DS := fun E ds M => t ds M E.rt
def dRetN : DS := fun E _ M => E.rt .non M
def dIfS (s : DT) (t u : DS) : DS := fun E ds M => s ds M fun k M1 => if k = true then t E ds M1 else u E ds M1
def dNever : DS := fun _ _ _ => False
@[simp ↓] theorem dNext_eq {E : DEnds} {ds : DSt} {M : DM} : dNext E ds M = E.nx ds M := rfl
@[simp ↓] theorem dSeq_eq {E : DEnds} {ds : DSt} {M : DM} : dSeq t u E ds M = t { E with nx := u E } ds M := rfl
@[simp ↓] theorem dBreak_eq {E : DEnds} {ds : DSt} {M : DM} : dBreak E ds M = E.bk ds M := rfl
@[simp ↓] theorem dCont_eq {E : DEnds} {ds : DSt} {M : DM} : dCont E ds M = E.ct ds M := rfl
@[simp ↓] theorem dDrop_eq {E : DEnds} {ds : DSt} {M : DM} : dDrop ta E ds M = ta ds M fun _ M1 => E.nx ds M1 := rfl
@[simp ↓] theorem dRet_eq {E : DEnds} {ds : DSt} {M : DM} : dRet ta E ds M = ta ds M E.rt := rfl
@[simp ↓] theorem dRetN_eq {E : DEnds} {ds : DSt} {M : DM} : dRetN E ds M = E.rt .non M := rfl
@[simp ↓] theorem dIfS_eq {E : DEnds} {ds : DSt} {M : DM} : dIfS sa t u E ds M = sa ds M fun k M1 => if k = true then t E ds M1 else u E ds M1 := rfl
@[simp ↓] theorem dNever_eq {E : DEnds} {ds : DSt} {M : DM} : dNever E ds M = False := rfl
theorem ss_nil : SXs X [] dNext := pss_nil.imp fun D σ H ⟨ds, M, E, hs, hm, t, g, _⟩ => g σ H ds M .refl hs hm t
theorem Go.tr {w : World} {K : PySem.W.Frag} {H H1 : Hp} {M M1 : DM} {R : DSt → DM → Prop} {Q : L2.St → Hp → Prop} (g : Go w K H M R Q) (f : Fr H M H1 M1) : Go w K H1 M1 R Q := fun σ' H' ds' M' f' => g σ' H' ds' M' (f.trans f')
theorem ss_cons (h1 : SX X st t) (h2 : SXs X rest u) : SXs X (st :: rest) (dSeq t u) :=
  (pss_cons h1 h2).imp fun D σ H ⟨ds, M, E, hs, hm, t, g1, g2, g3, g4⟩ => ⟨ds, M, _, hs, hm, t, fun σ1 H1 ds1 M1 f1 s1 m1 q => ⟨ds1, M1, E, s1, m1, q, g1.tr f1, g2.tr f1, g3.tr f1, fun v H' d M' f' => g4 v H' d M' (f1.trans f')⟩, g2, g3, g4⟩
theorem ss_one (h1 : SX X st t) : SXs X [st] t := pss_one h1
theorem s_pass : SX X (.Pass pos) dNext := ps_pass.imp fun D σ H ⟨ds, M, E, hs, hm, t, g, _⟩ => g σ H ds M .refl hs hm t
theorem s_break : SX X (.Break pos) dBreak := ps_break.imp fun D σ H ⟨ds, M, E, hs, hm, t, _, g, _⟩ => g σ H ds M .refl hs hm t
theorem s_cont : SX X (.Continue pos) dCont := ps_continue.imp fun D σ H ⟨ds, M, E, hs, hm, t, _, _, g, _⟩ => g σ H ds M .refl hs hm t
theorem s_expr (he : EX X e ta) (hs : swapsWith e none pos.line X.env = pure false := by rfl) : SX X (.Expr e pos) (dDrop ta) :=
  (ps_expr he hs).imp fun D σ H ⟨ds, M, E, hs, hm, t, g, _⟩ => ⟨ds, M, _, hs, hm, t, fun v H' d M' f r m q => g σ H' ds M' f (hs.keep (f.keep hm)) m q⟩
theorem s_ret (he : EX X e ta) : SX X (.Return (some e) pos) (dRet ta) :=
  (ps_ret he).imp fun D σ H ⟨ds, M, E, hs, hm, t, _, _, _, g⟩ => ⟨ds, M, _, hs, hm, t, g⟩
theorem s_retN : SX X (.Return none pos) dRetN := ps_retN.imp fun D σ H ⟨ds, M, E, hs, hm, t, _, _, _, g⟩ => g _ _ _ _ .refl Rp.non hm t
theorem s_if {p q : List Stmt} (hc : TX X c sa) (h1 : SXs X p t) (h2 : SXs X q u) : SX X (.If c p q pos) (dIfS sa t u) :=
  (ps_if hc h1 h2).imp fun D σ H ⟨ds, M, E, hs, hm, t, g1, g2, g3, g4⟩ => ⟨ds, M, _, hs, hm, t, fun x H1 M1 f1 m1 q => by
    dsimp only
    split <;> rename_i e
    · rw [if_pos e] at q
      exact ⟨ds, M1, E, hs.keep (f1.keep hm), m1, q, g1.tr f1, g2.tr f1, g3.tr f1, fun v H' d M' f' => g4 v H' d M' (f1.trans f')⟩
    · rw [if_neg e] at q
      exact ⟨ds, M1, E, hs.keep (f1.keep hm), m1, q, g1.tr f1, g2.tr f1, g3.tr f1, fun v H' d M' f' => g4 v H' d M' (f1.trans f')⟩⟩
theorem s_never : SX X st dNever := ps_never.imp fun D σ H ⟨ds, M, E, hs, hm, t, _⟩ => t.elim
theorem ss_never : SXs X rest dNever := pss_never.imp fun D σ H ⟨ds, M, E, hs, hm, t, _⟩ => t.elim

/-! ### targets, assignments -/
def dgName (i : Nat) : DG := fun d ds M Q => Q (ds.set i (some d)) M
@[simp ↓] theorem dgName_eq {i : Nat} {d : D} {ds : DSt} {M : DM} {Q : DSt → DM → Prop} : dgName i d ds M Q = Q (ds.set i (some d)) M := rfl
theorem g_name {i : Nat} {x : Str} (hN : X.N.Nodup) (hi : X.N[i]? = some x) (hx : Loc X.env.scope x) (hf : X.fn x = true ∨ X.env.scope.names.lookup x = some .local := by first | exact .inl rfl | exact .inr rfl | assumption) : GX X (.Name x pos) (dgName i) :=
  (pg_name hN hi hx hf).imp fun v σ H Q ⟨d, ds, M, R, hr, hs, hm, t, k⟩ => k _ H _ M .refl (hs.set hr) hm t
abbrev DGs := List D → DSt → DM → (DSt → DM → Prop) → Prop
def lftGs (w : World) (K : PySem.W.Frag) (g : DGs) : TGs := fun vs σ H Q => ∃ es ds M R, Rps K H es vs ∧ RSt K H ds σ ∧ RM w K H M ∧ g es ds M R ∧ ∀ σ' H' ds' M', Fr H M H' M' → RSt K H' ds' σ' → RM w K H' M' → R ds' M' → Q σ' H'
theorem _root_.L2.PGs.imp {X : Cx} {e : List Expr} {t t' : TGs} (h : PGs X e t) (i : ∀ v σ H Q, t' v σ H Q → t v σ H Q) : PGs X e t' := ⟨fun p s σ H x u Q I r q => h.run p s σ H x u Q I r (i _ _ _ _ q)⟩
def GXs (X : Cx) (es : List Expr) (g : DGs) : Prop := PGs X es (lftGs X.w X.K g)
def dgNil : DGs := fun es ds M Q => match es with
  | [] => Q ds M
  | _ => False
def dgCons (g : DG) (r : DGs) : DGs := fun es ds M Q => match es with
  | d :: t => g d ds M fun ds1 M1 => r t ds1 M1 Q
  | [] => False
@[simp ↓] theorem dgNil_eq {ds : DSt} {M : DM} {Q : DSt → DM → Prop} : dgNil [] ds M Q = Q ds M := rfl
@[simp ↓] theorem dgCons_eq {g : DG} {r : DGs} {d : D} {es : List D} {ds : DSt} {M : DM} {Q : DSt → DM → Prop} : dgCons g r (d :: es) ds M Q = g d ds M fun ds1 M1 => r es ds1 M1 Q := rfl
theorem gs_nil : GXs X [] dgNil := pgs_nil.imp fun v σ H Q ⟨es, ds, M, R, hr, hs, hm, t, k⟩ => by
  cases es with
  | nil => exact ⟨hr.nil_of, k _ _ _ _ .refl hs hm t⟩
  | cons _ _ => exact t.elim
theorem gs_cons {g : DG} {r : DGs} (h1 : GX X e g) (h2 : GXs X es r) (hs : (assignEach (e :: es) X.env).map (·.2) = assign e X.env :: (assignEach es X.env).map (·.2) := by rfl) : GXs X (e :: es) (dgCons g r) := (pgs_cons h1 h2 hs).imp fun v σ H Q ⟨ts, ds, M, R, hr, hs, hm, t, k⟩ => by
  cases ts with
  | nil => exact t.elim
  | cons d ts =>
    obtain ⟨x, y, rfl, q1, q2⟩ := hr.cons_of
    exact ⟨x, y, rfl, d, ds, M, _, q1, hs, hm, t, fun σ1 H1 ds1 M1 f1 s1 m1 q => ⟨ts, ds1, M1, R, q2.keep (f1.keep hm), s1, m1, q, fun σ2 H2 ds2 M2 f2 => k σ2 H2 ds2 M2 (f1.trans f2)⟩⟩
def tupK (d : D) (n : Nat) (k : List D → Prop) : Prop := match d with
  | .tup es => es.length = n ∧ k es
  | _ => False
@[simp ↓] theorem tupK_tup {es : List D} {n : Nat} {k : List D → Prop} : tupK (.tup es) n k = (es.length = n ∧ k es) := rfl
def dgTup (n : Nat) (r : DGs) : DG := fun d ds M Q => tupK d n fun es => r es ds M Q
@[simp ↓] theorem dgTup_eq {r : DGs} {d : D} {n : Nat} {ds : DSt} {M : DM} {Q : DSt → DM → Prop} : dgTup n r d ds M Q = tupK d n fun es => r es ds M Q := rfl
theorem g_tup {k : Nat} {r : DGs} {n : Nat} (hc : X.calm = true) (h : GXs X es r) (hl : (assignEach es X.env).length = n := by rfl) (hst : (assignEach es X.env).findIdx? (·.1) = none := by rfl) : GX X (.Tuple es k pos) (dgTup n r) :=
  (pg_tup hc h hl hst).imp fun v σ H Q ⟨d, ds, M, R, hr, hs, hm, t, k⟩ => by
    cases d with
    | tup ts =>
      obtain ⟨a, vs, rfl, q1, q2⟩ := hr.tup_of
      exact ⟨a, vs, rfl, q1, by rw [← q2.len]; exact t.1, ts, ds, M, R, q2, hs, hm, t.2, k⟩
    | _ => exact t.elim
def dAsg (t : DE) (g : DG) : DS := fun E ds M => t ds M fun d M1 => g d ds M1 E.nx
@[simp ↓] theorem dAsg_eq {g : DG} {E : DEnds} {ds : DSt} {M : DM} : dAsg ta g E ds M = ta ds M fun d M1 => g d ds M1 E.nx := rfl
theorem s_asg {g : DG} (he : EX X e ta) (hg : GX X o g) (hs : swapsWithSole [o] e pos.line X.env = pure false := by rfl) (hw : swappedStores [o] e X.env = pure none := by rfl) (h1 : (assignEach [o] X.env).map (·.2) = [assign o X.env] := by rfl) : SX X (.Assign [o] e pos) (dAsg ta g) :=
  (ps_asg he hg hs hw h1).imp fun D σ H ⟨ds, M, E, hs, hm, t, g1, _⟩ => ⟨ds, M, _, hs, hm, t, fun v H1 d M1 f1 r1 m1 q => ⟨d, ds, M1, E.nx, r1, hs.keep (f1.keep hm), m1, q, fun σ2 H2 ds2 M2 f2 => g1 σ2 H2 ds2 M2 (f1.trans f2)⟩⟩
def dSet (i : Nat) (t : DE) : DS := fun E ds M => t ds M fun d M1 => E.nx (ds.set i (some d)) M1
@[simp ↓] theorem dSet_eq {i : Nat} {E : DEnds} {ds : DSt} {M : DM} : dSet i ta E ds M = ta ds M fun d M1 => E.nx (ds.set i (some d)) M1 := rfl
theorem s_set {i : Nat} {x : Str} {pos' : Pos} (hN : X.N.Nodup) (hi : X.N[i]? = some x) (hx : Loc X.env.scope x) (he : EX X e ta) (hs : swapsWith e (some (.Name x pos')) pos.line X.env = pure false := by rfl) (hf : X.fn x = true ∨ X.env.scope.names.lookup x = some .local := by first | exact .inl rfl | exact .inr rfl | assumption) :
    SX X (.Assign [.Name x pos'] e pos) (dSet i ta) :=
  (ps_set hN hi hx he hs hf).imp fun D σ H ⟨ds, M, E, hs, hm, t, g1, _⟩ => ⟨ds, M, _, hs, hm, t, fun v H1 d M1 f1 r1 m1 q => g1 _ _ _ _ f1 ((hs.keep (f1.keep hm)).set r1) m1 q⟩
/-! ### arguments, displays -/
variable {da : DA}
def daNil : DA := fun _ M Q => Q [] M
def daCons (t : DE) (r : DA) : DA := fun ds M Q => t ds M fun x M1 => r ds M1 fun xs M2 => Q (x :: xs) M2
@[simp ↓] theorem daNil_eq {ds : DSt} {M : DM} {Q : List D → DM → Prop} : daNil ds M Q = Q [] M := rfl
@[simp ↓] theorem daCons_eq {ds : DSt} {M : DM} {Q : List D → DM → Prop} : daCons ta da ds M Q = ta ds M fun x M1 => da ds M1 fun xs M2 => Q (x :: xs) M2 := rfl
theorem a_nil : AX X [] daNil := pa_nil.imp fun σ H Q ⟨ds, M, R, hs, hm, t, k⟩ => k _ _ _ _ .refl .nil hm t
theorem a_cons (ha : EX X e ta) (hr : AX X es da) (hs : starEach (e :: es) X.env = (false, eval e X.env) :: starEach es X.env := by rfl) : AX X (e :: es) (daCons ta da) :=
  (pa_cons ha hr hs).imp fun σ H Q ⟨ds, M, R, hs, hm, t, k⟩ => ⟨ds, M, _, hs, hm, t, fun x H1 d M1 f1 r1 m1 q => ⟨ds, M1, _, hs.keep (f1.keep hm), m1, q, fun xs H2 es M2 f2 r2 m2 q2 => k _ _ _ _ (f1.trans f2) (.cons (r1.keep (f2.keep m1)) r2) m2 q2⟩⟩
def dTup (r : DA) : DE := fun ds M Q => r ds M fun xs M1 => xs.length ≤ sizeLine ∧ Q (.tup xs) M1
def dLst (r : DA) : DE := fun ds M Q => r ds M fun xs M1 => xs.length ≤ sizeLine ∧ ∀ p, M1 p = none → Q (.ref p) (updM M1 p (.lst xs))
@[simp ↓] theorem dTup_eq {ds : DSt} {M : DM} {Q : D → DM → Prop} : dTup da ds M Q = da ds M fun xs M1 => xs.length ≤ sizeLine ∧ Q (.tup xs) M1 := rfl
@[simp ↓] theorem dLst_eq {ds : DSt} {M : DM} {Q : D → DM → Prop} : dLst da ds M Q = da ds M fun xs M1 => xs.length ≤ sizeLine ∧ ∀ p, M1 p = none → Q (.ref p) (updM M1 p (.lst xs)) := rfl
theorem e_tup {x1} (h : AX X es da) : EX X (.Tuple es x1 pos) (dTup da) :=
  (pe_tup h).imp fun σ H Q ⟨ds, M, R, hs, hm, t, k⟩ => ⟨ds, M, _, hs, hm, t, fun xs H1 es M1 f1 r1 m1 q => ⟨by rw [← r1.len]; exact q.1, fun p hp => k _ _ _ _ (f1.trans (Fr.hid hp)) (Rp.tup (SqT.of upd_same) (r1.keep (keep_new hp))) (m1.hid hp) q.2⟩⟩
theorem e_lst (h : AX X es da) : EX X (.List es pos) (dLst da) :=
  (pe_lst h).imp fun σ H Q ⟨ds, M, R, hs, hm, t, k⟩ => ⟨ds, M, _, hs, hm, t, fun xs H1 es M1 f1 r1 m1 q => ⟨by rw [← r1.len]; exact q.1, fun p hp => k _ _ _ _ (f1.trans (Fr.new hp)) Rp.ref (m1.new (o := .lst es) hp ⟨xs, upd_same, r1.keep (keep_new hp)⟩) (q.2 p (m1.fresh hp))⟩⟩
end
end DL

set_option Elab.async false
set_option linter.all false
set_option maxRecDepth 100000
namespace DL
open PySem PySem.Spec PyProof.Rows L2
/-! ### what is walked -/
abbrev DI := DSt → DM → (List D → (DM → Prop) → DM → Prop) → Prop
def ItOk (w : World) (K : PySem.W.Frag) (H0 : Hp) (chk : DM → Prop) (J : It) (xs : List D) : Prop := ∀ (i : Nat) (H : Hp) (M : DM), Keep H0 H → RM w K H M → chk M → (i = xs.length → J.stop i H) ∧
  ∀ d, xs[i]? = some d → J.go i H ∧ ∀ x H', J.yld i H x H' → Fr H M H' M ∧ RM w K H' M ∧ Rp K H' d x
def lftI (w : World) (K : PySem.W.Frag) (u : DI) : TI := fun σ H R => ∃ ds M S, RSt K H ds σ ∧ RM w K H M ∧ u ds M S ∧ ∀ J H' xs chk M', Fr H M H' M' → RM w K H' M' → ItOk w K H' chk J xs → S xs chk M' → R J H'
def IX (X : Cx) (tg iter : Expr) (u : DI) : Prop := PI X tg iter (lftI X.w X.K u)
theorem _root_.L2.PI.imp {X : Cx} {tg e : Expr} {t t' : TI} (h : PI X tg e t) (i : ∀ σ H Q, t' σ H Q → t σ H Q) : PI X tg e t' := ⟨fun p s σ H Q I q => h.run p s σ H Q I (i _ _ _ q)⟩

/-- a for's turns over the items that are left -/
def forW (chk : DM → Prop) (g : DG) (tb : DS) (E : DEnds) : List D → DSt → DM → Prop
  | [], ds, M => chk M ∧ E.nx ds M
  | x :: xs, ds, M => chk M ∧ g x ds M fun ds1 M1 => tb { nx := forW chk g tb E xs, ct := forW chk g tb E xs, bk := E.nx, rt := E.rt } ds1 M1
theorem forW_nil {chk : DM → Prop} {g : DG} {tb : DS} {E : DEnds} {ds : DSt} {M : DM} : forW chk g tb E [] ds M = (chk M ∧ E.nx ds M) := rfl
theorem forW_cons {chk : DM → Prop} {g : DG} {tb : DS} {E : DEnds} {x : D} {xs : List D} {ds : DSt} {M : DM} : forW chk g tb E (x :: xs) ds M = (chk M ∧ g x ds M fun ds1 M1 => tb { nx := forW chk g tb E xs, ct := forW chk g tb E xs, bk := E.nx, rt := E.rt } ds1 M1) := rfl
def dFor (u : DI) (g : DG) (tb : DS) : DS := fun E ds M => u ds M fun xs chk M1 => forW chk g tb E xs ds M1
@[simp ↓] theorem dFor_eq {u : DI} {g : DG} {tb : DS} {E : DEnds} {ds : DSt} {M : DM} : dFor u g tb E ds M = u ds M fun xs chk M1 => forW chk g tb E xs ds M1 := rfl
theorem drop_cons {α : Type} {xs : List α} {i : Nat} (h : i < xs.length) : xs.drop i = xs[i] :: xs.drop (i + 1) := List.drop_eq_getElem_cons h

section
variable {X : Cx} {pos : Pos} {tg iter c e : Expr} {body : List Stmt} {u : DI} {g : DG} {tb : DS} {sa : DT} {te : DE}
theorem s_for (hp : PassesOwn (model X.prog X.w) X.A X.env X.xe) (hc : X.calm = true) (hi : IX X tg iter u) (hg : GX X tg g) (hb : SXs X body tb) (hs : ∀ x, foldedSetIterable iter X.env x = pure x := by intro _; rfl) : SX X (.For tg iter body [] pos) (dFor u g tb) := by
  refine (ps_for hp hc hi hg hb hs).imp fun D σ H ⟨ds, M, E, hs, hm, t, g1, g2, g3, g4⟩ => ⟨ds, M, _, hs, hm, t, fun J H1 xs chk M1 f1 m1 ok q => ?_⟩
  refine ⟨fun i m σ' H' => m = xs.length - i ∧ i ≤ xs.length ∧ ∃ ds' M', Fr H M H' M' ∧ Keep H1 H' ∧ RSt X.K H' ds' σ' ∧ RM X.w X.K H' M' ∧ forW chk g tb E (xs.drop i) ds' M', ⟨xs.length, by simp, Nat.zero_le _, ds, M1, f1, .refl _, hs.keep (f1.keep hm), m1, q⟩, ?_⟩
  rintro i m σ' H' ⟨rfl, hi, ds', M', f, k, s', m', q⟩
  by_cases hlt : i < xs.length
  · rw [drop_cons hlt] at q
    obtain ⟨q0, q⟩ := q
    obtain ⟨_, it⟩ := ok i H' M' k m' q0
    obtain ⟨go, yld⟩ := it xs[i] (List.getElem?_eq_getElem hlt)
    refine .inr ⟨go, fun σ2 H2 => ∃ ds2 M2, Fr H M H2 M2 ∧ Keep H1 H2 ∧ RSt X.K H2 ds2 σ2 ∧ RM X.w X.K H2 M2 ∧ forW chk g tb E (xs.drop (i + 1)) ds2 M2, fun σ2 H2 n => ⟨xs.length - (i + 1), by omega, rfl, hlt, n⟩, fun x H2 y => ?_⟩
    obtain ⟨f2, m2, r2⟩ := yld x H2 y
    have k2 : Keep H' H2 := f2.keep m'
    refine ⟨xs[i], ds', M', _, r2, s'.keep k2, m2, q, fun σ3 H3 ds3 M3 f3 s3 m3 q3 => ?_⟩
    have f13 := (f.trans f2).trans f3
    have k3 : Keep H1 H3 := (k.trans k2).trans (f3.keep m2)
    have go2 : ∀ {σ4 : L2.St} {H4 : Hp} {ds4 : DSt} {M4 : DM}, Fr H3 M3 H4 M4 → RSt X.K H4 ds4 σ4 → RM X.w X.K H4 M4 → forW chk g tb E (xs.drop (i + 1)) ds4 M4 →
        ∃ ds2 M2, Fr H M H4 M2 ∧ Keep H1 H4 ∧ RSt X.K H4 ds2 σ4 ∧ RM X.w X.K H4 M2 ∧ forW chk g tb E (xs.drop (i + 1)) ds2 M2 := fun f4 s4 m4 q4 => ⟨_, _, f13.trans f4, k3.trans (f4.keep m3), s4, m4, q4⟩
    exact ⟨ds3, M3, _, s3, m3, q3, fun σ4 H4 ds4 M4 f4 s4 m4 q4 => go2 f4 s4 m4 q4, fun σ4 H4 ds4 M4 f4 => g1 σ4 H4 ds4 M4 (f13.trans f4), fun σ4 H4 ds4 M4 f4 s4 m4 q4 => go2 f4 s4 m4 q4, fun v H4 d M4 f4 => g4 v H4 d M4 (f13.trans f4)⟩
  · have e : i = xs.length := by omega
    subst e
    rw [List.drop_length] at q
    obtain ⟨q0, q⟩ := q
    exact .inl ⟨(ok _ H' M' k m' q0).1 rfl, g1 _ _ _ _ f s' m' q⟩

/-! ### while -/
def whW (c : DT) (tb : DS) (E : DEnds) : Nat → DSt → DM → Prop
  | 0, _, _ => False
  | n + 1, ds, M => c ds M fun b M1 => if b = true then tb { nx := whW c tb E n, ct := whW c tb E n, bk := E.nx, rt := E.rt } ds M1 else E.nx ds M1
theorem whW_s {c : DT} {tb : DS} {E : DEnds} {n : Nat} {ds : DSt} {M : DM} : whW c tb E (n + 1) ds M = c ds M fun b M1 => if b = true then tb { nx := whW c tb E n, ct := whW c tb E n, bk := E.nx, rt := E.rt } ds M1 else E.nx ds M1 := rfl
def dWhile (c : DT) (tb : DS) : DS := fun E ds M => ∃ n, whW c tb E n ds M
@[simp ↓] theorem dWhile_eq {c : DT} {tb : DS} {E : DEnds} {ds : DSt} {M : DM} : dWhile c tb E ds M = ∃ n, whW c tb E n ds M := rfl
theorem s_while (hp : PassesOwn (model X.prog X.w) X.A X.env X.xe) (hc : TX X c sa) (hb : SXs X body tb) : SX X (.While c body [] pos) (dWhile sa tb) := by
  refine (ps_while hp hc hb).imp fun D σ H ⟨ds, M, E, hs, hm, ⟨n, t⟩, g1, g2, g3, g4⟩ => ?_
  refine ⟨fun m σ' H' => ∃ ds' M', Fr H M H' M' ∧ RSt X.K H' ds' σ' ∧ RM X.w X.K H' M' ∧ whW sa tb E m ds' M', ⟨n, ds, M, .refl, hs, hm, t⟩, ?_⟩
  rintro m σ' H' ⟨ds', M', f, s', m', q⟩
  cases m with
  | zero => exact q.elim
  | succ m =>
    refine ⟨ds', M', _, s', m', q, fun b H2 M2 f2 m2 q2 => ?_⟩
    dsimp only
    have f12 := f.trans f2
    have s2 := s'.keep (f2.keep m')
    split
    · rename_i e
      rw [if_pos e] at q2
      refine ⟨fun σ4 H4 => ∃ ds4 M4, Fr H M H4 M4 ∧ RSt X.K H4 ds4 σ4 ∧ RM X.w X.K H4 M4 ∧ whW sa tb E m ds4 M4, fun σ4 H4 n => ⟨m, Nat.lt_succ_self _, n⟩, ds', M2, _, s2, m2, q2, ?_, fun σ4 H4 ds4 M4 f4 => g1 σ4 H4 ds4 M4 (f12.trans f4), ?_, fun v H4 d M4 f4 => g4 v H4 d M4 (f12.trans f4)⟩
      · exact fun σ4 H4 ds4 M4 f4 s4 m4 q4 => ⟨_, _, f12.trans f4, s4, m4, q4⟩
      · exact fun σ4 H4 ds4 M4 f4 s4 m4 q4 => ⟨_, _, f12.trans f4, s4, m4, q4⟩
    · rename_i e
      rw [if_neg e] at q2
      exact g1 _ _ _ _ f12 s2 m2 q2

/-! ### comprehensions -/
def wipeD (ds : DSt) : List Nat → DSt
  | [] => ds
  | v :: vs => (wipeD ds vs).set v none
@[simp ↓] theorem wipeD_nil {ds : DSt} : wipeD ds [] = ds := rfl
@[simp ↓] theorem wipeD_cons {ds : DSt} {v : Nat} {vs : List Nat} : wipeD ds (v :: vs) = (wipeD ds vs).set v none := rfl
theorem RSt.setN {K : PySem.W.Frag} {H : Hp} {ds : DSt} {σ : L2.St} {i : Nat} {o : Option V} (r : RSt K H ds σ) : RSt K H (ds.set i none) (σ.set i o) := ⟨by simp [r.1], fun j x e => by
  by_cases hj : i = j
  · subst hj
    by_cases hl : i < ds.length
    · rw [List.getElem?_set_self hl] at e
      cases e
    · rw [List.getElem?_eq_none (by rw [List.length_set]; omega)] at e
      cases e
  · rw [List.getElem?_set_ne hj] at e
    obtain ⟨u, h1, h2⟩ := r.2 j x e
    exact ⟨u, by rw [List.getElem?_set_ne hj]; exact h1, h2⟩⟩
theorem RSt.wipe {K : PySem.W.Frag} {H : Hp} {ds : DSt} {σ : L2.St} (r : RSt K H ds σ) : ∀ vs : List Nat, RSt K H (wipeD ds vs) (wipe σ vs)
  | [] => r
  | v :: vs => (RSt.wipe r vs).setN
/-- a comprehension's turns over the items that are left; acc: what is made so far -/
def lcW (chk : DM → Prop) (g : DG) (tt : DT) (te : DE) (ds : DSt) : List D → List D → DM → (List D → DM → Prop) → Prop
  | [], acc, M, Q => chk M ∧ Q acc M
  | x :: xs, acc, M, Q => chk M ∧ g x ds M fun ds1 M1 => tt ds1 M1 fun b M2 => if b = true then te ds1 M2 fun y M3 => lcW chk g tt te ds xs (acc ++ [y]) M3 Q else lcW chk g tt te ds xs acc M2 Q
def dLc (u : DI) (g : DG) (tt : DT) (te : DE) (vs : List Nat) : DE := fun ds M Q => u ds M fun xs chk M1 => xs.length ≤ sizeLine ∧ lcW chk g tt te (wipeD ds vs) xs [] M1 fun acc M2 => ∀ p, M2 p = none → Q (.ref p) (updM M2 p (.lst acc))
@[simp ↓] theorem dLc_eq {u : DI} {g : DG} {tt : DT} {te : DE} {vs : List Nat} {ds : DSt} {M : DM} {Q : D → DM → Prop} : dLc u g tt te vs ds M Q = u ds M fun xs chk M1 => xs.length ≤ sizeLine ∧ lcW chk g tt te (wipeD ds vs) xs [] M1 fun acc M2 => ∀ p, M2 p = none → Q (.ref p) (updM M2 p (.lst acc)) := rfl
def dYes : DT := fun _ M Q => Q true M
@[simp ↓] theorem dYes_eq {ds : DSt} {M : DM} {Q : Bool → DM → Prop} : dYes ds M Q = Q true M := rfl
def IfX (X : Cx) (ifs : List Expr) (t : DT) : Prop := PTs X ifs (lftT X.w X.K t)
theorem ifs_nil : IfX X [] dYes := ⟨fun p s σ H Q I h => pts_nil.run p s σ H Q I (by
  obtain ⟨ds, M, R, hs, hm, t, k⟩ := h
  exact k _ _ _ .refl hm t)⟩
theorem ifs_one (h : TX X c sa) : IfX X [c] sa := pts_one h
theorem wipe_set {σ : L2.St} {i : Nat} {o : Option V} : ∀ {vs : List Nat}, i ∈ vs → wipe (σ.set i o) vs = wipe σ vs
  | v :: vs, h => by
    unfold wipe
    by_cases hv : i ∈ vs
    · rw [wipe_set hv]
    · have e : i = v := by
        rcases List.mem_cons.mp h with e | e
        · exact e
        · exact absurd e hv
      subst e
      have : ∀ vs : List Nat, i ∉ vs → wipe (σ.set i o) vs = (wipe σ vs).set i o := by
        intro vs
        induction vs with
        | nil => intro _; rfl
        | cons z zs ih =>
          intro hz
          unfold wipe
          rw [ih fun q => hz (List.mem_cons_of_mem _ q), List.set_comm _ _ (fun q => hz (by rw [q]; exact List.mem_cons_self))]
      rw [this vs hv, List.set_set]
theorem wipe_wipe {σ : L2.St} : ∀ {vs us : List Nat}, (∀ v ∈ vs, v ∈ us) → wipe (wipe σ vs) us = wipe σ us
  | [], _, _ => rfl
  | v :: vs, us, h => by
    show wipe ((wipe σ vs).set v none) us = _
    rw [wipe_set (h v List.mem_cons_self)]
    exact wipe_wipe fun z hz => h z (List.mem_cons_of_mem _ hz)
/-- a target that changes slots of vs alone -/
def GOwn (w : World) (K : PySem.W.Frag) (g : TG) (dg : DG) (vs : List Nat) : Prop := ∀ (v : V) (σ : L2.St) (H : Hp) (d : D) (ds : DSt) (M : DM) (R : DSt → DM → Prop) (Q : L2.St → Hp → Prop), Rp K H d v → RSt K H ds σ → RM w K H M → dg d ds M R →
  (∀ σ' H' ds' M', wipe σ' vs = wipe σ vs → Fr H M H' M' → RSt K H' ds' σ' → RM w K H' M' → R ds' M' → Q σ' H') → g v σ H Q
theorem own_name {w : World} {K : PySem.W.Frag} {i : Nat} {vs : List Nat} (h : i ∈ vs) : GOwn w K (gName i) (dgName i) vs := fun v σ H d ds M R Q hr hs hm t k => k _ _ _ _ (wipe_set h) .refl (hs.set hr) hm t
def GsOwn (w : World) (K : PySem.W.Frag) (g : TGs) (dg : DGs) (vs : List Nat) : Prop := ∀ (us : List V) (σ : L2.St) (H : Hp) (es : List D) (ds : DSt) (M : DM) (R : DSt → DM → Prop) (Q : L2.St → Hp → Prop), Rps K H es us → RSt K H ds σ → RM w K H M → dg es ds M R →
  (∀ σ' H' ds' M', wipe σ' vs = wipe σ vs → Fr H M H' M' → RSt K H' ds' σ' → RM w K H' M' → R ds' M' → Q σ' H') → g us σ H Q
theorem owns_nil {w : World} {K : PySem.W.Frag} {vs : List Nat} : GsOwn w K gNil dgNil vs := fun us σ H es ds M R Q hr hs hm t k => by
  cases es with
  | nil => exact ⟨hr.nil_of, k _ _ _ _ rfl .refl hs hm t⟩
  | cons _ _ => exact t.elim
theorem owns_cons {w : World} {K : PySem.W.Frag} {vs : List Nat} {g : TG} {dg : DG} {r : TGs} {dr : DGs} (h1 : GOwn w K g dg vs) (h2 : GsOwn w K r dr vs) : GsOwn w K (gCons g r) (dgCons dg dr) vs := fun us σ H es ds M R Q hr hs hm t k => by
  cases es with
  | nil => exact t.elim
  | cons d es =>
    obtain ⟨x, y, rfl, q1, q2⟩ := hr.cons_of
    refine ⟨x, y, rfl, h1 x σ H d ds M _ _ q1 hs hm t fun σ1 H1 ds1 M1 e1 f1 s1 m1 q => h2 y σ1 H1 es ds1 M1 R Q (q2.keep (f1.keep hm)) s1 m1 q fun σ2 H2 ds2 M2 e2 f2 => k σ2 H2 ds2 M2 (e2.trans e1) (f1.trans f2)⟩
theorem own_tup {w : World} {K : PySem.W.Frag} {vs : List Nat} {n : Nat} {r : TGs} {dr : DGs} (h : GsOwn w K r dr vs) : GOwn w K (gTup K n r) (dgTup n dr) vs := fun v σ H d ds M R Q hr hs hm t k => by
  cases d with
  | tup ts =>
    obtain ⟨a, us, rfl, q1, q2⟩ := hr.tup_of
    exact ⟨a, us, rfl, q1, by rw [← q2.len]; exact t.1, h us σ H ts ds M R Q q2 hs hm t.2 k⟩
  | _ => exact t.elim
section
variable {elt : Expr} {ifs : List Expr} {scope : Scope} {own : List (Str × Nat)} {dg : DG} {g : TG} {tt : DT}
theorem lc_imp {w : World} {K : PySem.W.Frag} {vs : List Nat} (ho : GOwn w K g dg vs) {σ : L2.St} {H : Hp} {Q : VK} (h : lft w K (dLc u dg tt te vs) σ H Q) : tLc (lftI w K u) g (lftT w K tt) (lft w K te) vs σ H Q := by
  obtain ⟨ds, M, R, hs, hm, t, k⟩ := h
  refine ⟨ds, M, _, hs, hm, t, fun J H1 xs chk M1 f1 m1 ok q Dn hD => ?_⟩
  obtain ⟨hlen, q⟩ := q
  have k1 : Keep H H1 := f1.keep hm
  refine ⟨fun i m H' => m = xs.length - i ∧ i ≤ xs.length ∧ ∃ (acc : List D) (vacc : List V) (M' : DM), acc.length ≤ i ∧ H' Dn = some (.lst vacc) ∧ M' Dn = none ∧ Rps K H' acc vacc ∧ (∀ a o, a ≠ Dn → H1 a = some o → M1 a = none → H' a = some o ∧ M' a = none) ∧ Keep H1 H' ∧ RM w K H' M' ∧
      lcW chk dg tt te (wipeD ds vs) (xs.drop i) acc M' fun acc M2 => ∀ p, M2 p = none → R (.ref p) (updM M2 p (.lst acc)),
    ⟨xs.length, by simp, Nat.zero_le _, [], [], M1, Nat.le_refl _, upd_same, m1.fresh hD, .nil, fun a o ne e n => ⟨by rw [upd_ne ne]; exact e, n⟩, keep_new hD, m1.hid hD, q⟩, ?_⟩
  rintro i m H' ⟨rfl, hi, acc, vacc, M', hacc, hDn, hMn, racc, fr, k', m', q⟩
  by_cases hlt : i < xs.length
  · rw [drop_cons hlt] at q
    obtain ⟨q0, q⟩ := q
    obtain ⟨_, it⟩ := ok i H' M' k' m' q0
    obtain ⟨go, yld⟩ := it xs[i] (List.getElem?_eq_getElem hlt)
    refine .inr ⟨go, fun H2 => ∃ (acc : List D) (vacc : List V) (M' : DM), acc.length ≤ i + 1 ∧ H2 Dn = some (.lst vacc) ∧ M' Dn = none ∧ Rps K H2 acc vacc ∧ (∀ a o, a ≠ Dn → H1 a = some o → M1 a = none → H2 a = some o ∧ M' a = none) ∧ Keep H1 H2 ∧ RM w K H2 M' ∧
      lcW chk dg tt te (wipeD ds vs) (xs.drop (i + 1)) acc M' fun acc M2 => ∀ p, M2 p = none → R (.ref p) (updM M2 p (.lst acc)), fun H2 n => ⟨xs.length - (i + 1), by omega, rfl, hlt, n⟩, fun x H2 y => ?_⟩
    obtain ⟨f2, m2, r2⟩ := yld x H2 y
    have k2 : Keep H' H2 := f2.keep m'
    have hs2 : RSt K H2 (wipeD ds vs) (wipe σ vs) := ((hs.keep k1).keep (k'.trans k2)).wipe vs
    refine ho x (wipe σ vs) H2 xs[i] (wipeD ds vs) M' _ _ r2 hs2 m2 q fun σ3 H3 ds3 M3 e3 f3 s3 m3 q3 => ?_
    refine ⟨e3.trans (wipe_wipe fun _ h => h), ds3, M3, _, s3, m3, q3, fun b H4 M4 f4 m4 q4 => ?_⟩
    have f24 : Fr H' M' H4 M4 := (f2.trans f3).trans f4
    dsimp only
    split
    · rename_i eb
      rw [if_pos eb] at q4
      refine ⟨ds3, M4, _, s3.keep (f4.keep m3), m4, q4, fun v H5 d M5 f5 r5 m5 q5 => ?_⟩
      have f25 : Fr H' M' H5 M5 := f24.trans f5
      obtain ⟨h5, n5⟩ := f25 Dn _ hDn hMn
      have k5 : Keep H5 (upd H5 Dn (.lst (vacc ++ [v]))) := keep_write h5 (fun _ z => by cases z) (fun _ _ z => by cases z)
      have hl : vacc.length = acc.length := racc.len.symm
      refine ⟨vacc, h5, by omega, acc ++ [d], vacc ++ [v], M5, by rw [List.length_append]; simp; omega, upd_same, n5, ((racc.keep (f25.keep m')).append (.cons r5 .nil)).keep k5, fun a o ne e n => ?_, (k'.trans (f25.keep m')).trans k5, fun b o e => ?_, q5⟩
      · obtain ⟨e1, n1⟩ := fr a o ne e n
        obtain ⟨e2, n2⟩ := f25 a o e1 n1
        exact ⟨by rw [upd_ne ne]; exact e2, n2⟩
      · exact (m5 b o e).move k5 (upd_ne fun z => by rw [z, n5] at e; cases e)
    · rename_i eb
      rw [if_neg eb] at q4
      obtain ⟨h4, n4⟩ := f24 Dn _ hDn hMn
      refine ⟨acc, vacc, M4, by omega, h4, n4, racc.keep (f24.keep m'), fun a o ne e n => ?_, k'.trans (f24.keep m'), m4, q4⟩
      obtain ⟨e1, n1⟩ := fr a o ne e n
      exact f24 a o e1 n1
  · have e : i = xs.length := by omega
    subst e
    rw [List.drop_length] at q
    obtain ⟨q0, q⟩ := q
    refine .inl ⟨(ok _ H' M' k' m' q0).1 rfl, ?_⟩
    have ff : Fr H1 M1 H' (updM M' Dn (.lst acc)) := fun a o e n => by
      have ne : a ≠ Dn := fun z => by rw [z, hD] at e; cases e
      obtain ⟨e1, n1⟩ := fr a o ne e n
      exact ⟨e1, by rw [updM_ne ne]; exact n1⟩
    refine k _ H' _ _ (f1.trans ff) Rp.ref (fun b o e => ?_) (q Dn hMn)
    by_cases hb : b = Dn
    · subst hb
      rw [updM_same] at e
      cases e
      exact ⟨vacc, hDn, racc⟩
    · rw [updM_ne hb] at e
      exact m' b o e
theorem e_lc {pos : Pos} (hc : X.calm = true) (hN : X.N.Nodup) (hi : IX X tg iter u) (ok : BlkOk X.N X.env.scope scope own) (ho : GOwn X.w X.K g dg (own.map (·.2)))
    (hg : ∀ (s : Shared) (H : Hp) (C : Addr) (cl : List (Str × Addr)) (fp : List Addr), PG (X.blk s H scope (compEnvC scope cl C X.env) fp) tg g) (ht : ∀ (s : Shared) (H : Hp) (C : Addr) (cl : List (Str × Addr)) (fp : List Addr), IfX (X.blk s H scope (compEnvC scope cl C X.env) fp) ifs tt)
    (he : ∀ (s : Shared) (H : Hp) (C : Addr) (cl : List (Str × Addr)) (fp : List Addr), EX (X.blk s H scope (compEnvC scope cl C X.env) fp) elt te) (hs : ∀ x, foldedSetIterable iter X.env x = pure x := by intro _; rfl) :
    EX X (.ListComp elt [⟨tg, iter, ifs, 0⟩] scope pos) (dLc u dg tt te (own.map (·.2))) :=
  (pe_lc (tt := lftT X.w X.K tt) (te := lft X.w X.K te) hc hN hi ok hg ht he hs).imp fun σ H Q h => lc_imp ho h
end
end
end DL

set_option Elab.async false
set_option linter.all false
set_option maxRecDepth 100000
namespace DL
open PySem PySem.Spec PyProof.Rows L2
/-! ### what a def promises -/
abbrev DSp := List D → DM → (D → DM → Prop) → Prop
def lsp (w : World) (K : PySem.W.Frag) (sp : DSp) : Sp := fun vs H Q _ => ∃ ds M R, Rps K H ds vs ∧ RM w K H M ∧ sp ds M R ∧ ∀ v H' d M', Fr H M H' M' → Rp K H' d v → RM w K H' M' → R d M' → Q v H'
/-- behind the body what was made on the way is forgotten -/
def Dn (R : D → DM → Prop) (d : D) (M : DM) : Prop := ∃ M', Le M' M ∧ R d M'
theorem Dn.mk {R : D → DM → Prop} {d : D} {M : DM} (h : R d M) : Dn R d M := ⟨M, Le.refl M, h⟩
def topE (R : D → DM → Prop) : DEnds := { nx := fun _ M => Dn R .non M, rt := fun d M => Dn R d M, bk := fun _ _ => False, ct := fun _ _ => False }
def startD : Nat → List D → DSt
  | 0, _ => []
  | n + 1, [] => none :: startD n []
  | n + 1, d :: ds => some d :: startD n ds
theorem start_nil : ∀ n, startD n [] = List.replicate n none
  | 0 => rfl
  | n + 1 => by unfold startD; rw [start_nil n]; rfl
theorem start_ok {K : PySem.W.Frag} {H : Hp} : ∀ {n : Nat} {ds : List D} {vs : List V}, Rps K H ds vs → vs.length ≤ n → RSt K H (startD n ds) (vs.map some ++ List.replicate (n - vs.length) none)
  | 0, [], vs, h, hl => by rw [h.nil_of]; exact ⟨rfl, fun i d e => by simp [startD] at e⟩
  | 0, d :: ds, vs, h, hl => by
    obtain ⟨v, r, rfl, _, _⟩ := h.cons_of
    simp at hl
  | n + 1, [], vs, h, hl => by
    rw [h.nil_of, start_nil]
    refine ⟨by simp, fun i d e => ?_⟩
    rw [List.getElem?_replicate] at e
    split at e <;> cases e
  | n + 1, d :: ds, vs, h, hl => by
    obtain ⟨v, r, rfl, h1, h2⟩ := h.cons_of
    have ih := start_ok (n := n) h2 (by simpa using hl)
    refine ⟨?_, fun i x e => ?_⟩
    · have := ih.1
      simp [startD] at this ⊢
      omega
    · cases i with
      | zero =>
        simp [startD] at e
        subst e
        exact ⟨v, by simp, h1⟩
      | succ i =>
        obtain ⟨u, e1, e2⟩ := ih.2 i x (by simpa [startD] using e)
        refine ⟨u, ?_, e2⟩
        have en : n + 1 - (v :: r).length = n - r.length := by simp
        rw [en]
        simpa using e1
section
variable {P : Program} {w : World} {K : PySem.W.Frag} {mg : Str → Option Value} {base : Heap}
theorem okD {x qual : Str} {st : Stmt} {f : Addr} {fd : FuncData} {N ps : List Str} {k n : Nat} {sp : DSp} (F : Fun K x qual st f fd) (S : FnScope N ps (defScope st)) (hn : N.length = n) (len : ∀ ds M R, sp ds M R → ds.length = ps.length)
    (hbody : ∀ (cdv : Value) (A : Around) (outer : List Env) (s : Shared) (H : Hp) (E : XK), Room k (A.deeper (envOfC qual (defScope st) s.heap.objs.size f cdv)) →
      ∃ t, SXs (cxOf CX0 P w K mg base N qual (defScope st) f cdv A outer s H E).nox (defBody st) t ∧ ∀ ds M R, sp ds M R → t (topE R) (startD n ds) M) : FnOk P w K mg base CX0 (k + 1) f fd ps (lsp w K sp) := by
  refine F.ok S (fun vs H Q E ⟨ds, M, R, h1, _, h3, _⟩ => by rw [← h1.len]; exact len _ _ _ h3) fun cdv A outer s H vs Q E hr ⟨ds, M, R, h1, h2, h3, h4⟩ => ?_
  obtain ⟨t, ht, hq⟩ := hbody cdv A outer s H E hr
  refine ⟨_, ht, startD n ds, M, topE R, ?_, h2, hq ds M R h3, fun σ' H' ds' M' f' s' m' ⟨M2, l, q⟩ => ?_, fun σ' H' ds' M' f' s' m' q => q, fun σ' H' ds' M' f' s' m' q => q, fun v H' d M' f' r m' ⟨M2, l, q⟩ => ?_⟩
  · subst hn
    have hl : vs.length ≤ N.length := by
      rw [← h1.len, len _ _ _ h3]
      have := congrArg List.length S.pre
      rw [List.length_take] at this
      omega
    exact start_ok h1 hl
  · exact h4 _ H' _ M2 (f'.le l) Rp.non (l.rm m') q
  · exact h4 _ H' _ M2 (f'.le l) r (l.rm m') q
end

/-! ### calls -/
section
variable {X : Cx} {CX : CXT} {k : Nat} {f C : Addr} {fd : FuncData} {ps : List Str} {sp : DSp} {E : XK} {x m : Str} {p pos apos : Pos} {e o : Expr} {es : List Expr} {ta tb : DE} {t : DA}
def dCall (sp : DSp) (t : DA) : DE := fun ds M Q => t ds M fun es M1 => sp es M1 Q
@[simp ↓] theorem dCall_eq {ds : DSt} {M : DM} {Q : D → DM → Prop} : dCall sp t ds M Q = t ds M fun es M1 => sp es M1 Q := rfl
theorem call_imp {w : World} {K : PySem.W.Frag} {σ : L2.St} {H : Hp} {Q : VK} {E : XK} (h : lft w K (dCall sp t) σ H Q) : tCall (lsp w K sp) [] E (lftA w K t) σ H Q := by
  obtain ⟨ds, M, R, hs, hm, t, k⟩ := h
  refine ⟨ds, M, _, hs, hm, t, fun vs H1 es M1 f1 r1 m1 q => ⟨es, M1, R, by rw [List.append_nil]; exact r1, m1, q, fun v H' d M' f2 => k v H' d M' (f1.trans f2)⟩⟩
theorem e_call (F : FnOk X.prog X.w X.K X.mg X.base CX k f fd ps (lsp X.w X.K sp)) (hr : Room k X.A) (hg : Gl X x) (hm : X.mg x = some (.ref f)) (hk : PySem.W.keepIn X.K (.ref f) = true) (hb : Binds X.K fd ps []) (hx : Passes CX X E)
    (ha : AX X (e :: es) t) (hdb : (x == ("__debug__" : Str)) = false := by decide) (he : starEach (e :: es) X.env = (false, eval e X.env) :: starEach es X.env := by rfl) (hpl : (backTo pos (starEach es X.env)).any (·.1) = false := by rfl) :
    EX X (.Call (.Name x p) (e :: es) [] pos) (dCall sp t) := (pe_call F hr hg hm hk hb .nil hx ha hdb he hpl).imp fun _ _ _ h => call_imp h
theorem e_call0 (F : FnOk X.prog X.w X.K X.mg X.base CX k f fd ps (lsp X.w X.K sp)) (hr : Room k X.A) (hg : Gl X x) (hm : X.mg x = some (.ref f)) (hk : PySem.W.keepIn X.K (.ref f) = true) (hb : Binds X.K fd ps []) (hx : Passes CX X E)
    (hdb : (x == ("__debug__" : Str)) = false := by decide) :
    EX X (.Call (.Name x p) [] [] pos) (dCall sp daNil) := (pe_call0 F hr hg hm hk hb .nil hx hdb).imp fun _ _ _ ⟨ds, M, R, hs, hm, t, k⟩ => ⟨[], M, R, .nil, hm, t, k⟩

/-! ### instances -/
def refK (d : D) (k : Addr → Prop) : Prop := match d with
  | .ref a => k a
  | _ => False
@[simp ↓] theorem refK_ref {a : Addr} {k : Addr → Prop} : refK (.ref a) k = k a := rfl
theorem refK_of {d : D} {k : Addr → Prop} (h : refK d k) : ∃ a, d = .ref a ∧ k a := by
  cases d <;> first | exact ⟨_, rfl, h⟩ | exact h.elim
def insK (o : Option DO) (k : Addr → List (Str × D) → Prop) : Prop := match o with
  | some (.ins C fs) => k C fs
  | _ => False
@[simp ↓] theorem insK_ins {C : Addr} {fs : List (Str × D)} {k : Addr → List (Str × D) → Prop} : insK (some (.ins C fs)) k = k C fs := rfl
theorem insK_of {o : Option DO} {k : Addr → List (Str × D) → Prop} (h : insK o k) : ∃ C fs, o = some (.ins C fs) ∧ k C fs := by
  unfold insK at h
  split at h
  · exact ⟨_, _, rfl, h⟩
  · exact h.elim
def optK {α : Type} (o : Option α) (k : α → Prop) : Prop := match o with
  | some d => k d
  | none => False
@[simp ↓] theorem optK_some {α : Type} {d : α} {k : α → Prop} : optK (some d) k = k d := rfl
theorem optK_of {α : Type} {o : Option α} {k : α → Prop} (h : optK o k) : ∃ d, o = some d ∧ k d := by
  cases o with
  | none => exact h.elim
  | some d => exact ⟨d, rfl, h⟩
def putD (f : Str) (v : D) : List (Str × D) → List (Str × D)
  | [] => [(f, v)]
  | (g, u) :: r => if g = f then (g, v) :: r else (g, u) :: putD f v r
theorem Rfs.look {K : PySem.W.Frag} {H : Hp} {f : Str} : ∀ {fs : List (Str × D)} {q : List (Str × V)}, Rfs K H fs q → (∀ d, fs.lookup f = some d → ∃ v, q.lookup f = some v ∧ Rp K H d v) ∧ (fs.lookup f = none → q.lookup f = none)
  | [], q, h => by cases h; exact ⟨fun d e => by simp at e, fun _ => rfl⟩
  | (g, u) :: r, q, ⟨v, t, e, h1, h2⟩ => by
    subst e
    obtain ⟨i1, i2⟩ := Rfs.look (f := f) h2
    by_cases hg : (f == g) = true
    · refine ⟨fun d e => ?_, fun e => ?_⟩
      · rw [List.lookup_cons, hg] at e
        cases e
        exact ⟨v, by rw [List.lookup_cons, hg], h1⟩
      · rw [List.lookup_cons, hg] at e
        cases e
    · have hg : (f == g) = false := by simpa using hg
      refine ⟨fun d e => ?_, fun e => ?_⟩
      · rw [List.lookup_cons, hg] at e
        obtain ⟨z, e1, e2⟩ := i1 d e
        exact ⟨z, by rw [List.lookup_cons, hg]; exact e1, e2⟩
      · rw [List.lookup_cons, hg] at e
        rw [List.lookup_cons, hg]
        exact i2 e
theorem Rfs.put {K : PySem.W.Frag} {H : Hp} {f : Str} {d : D} {v : V} (hr : Rp K H d v) : ∀ {fs : List (Str × D)} {q : List (Str × V)}, Rfs K H fs q → Rfs K H (putD f d fs) (putF f v q)
  | [], q, h => by cases h; exact ⟨v, [], rfl, hr, rfl⟩
  | (g, u) :: r, q, ⟨z, t, e, h1, h2⟩ => by
    subst e
    unfold putD putF
    by_cases hg : g = f
    · rw [if_pos hg, if_pos hg]
      exact ⟨v, t, rfl, hr, h2⟩
    · rw [if_neg hg, if_neg hg]
      exact ⟨z, _, rfl, h1, Rfs.put hr h2⟩
theorem Rfs.len {K : PySem.W.Frag} {H : Hp} : ∀ {fs : List (Str × D)} {q : List (Str × V)}, Rfs K H fs q → fs.length = q.length
  | [], q, h => by cases h; rfl
  | (g, u) :: r, q, ⟨z, t, e, h1, h2⟩ => by subst e; simp [Rfs.len h2]
/-- o.f of an instance of C -/
def dFld (C : Addr) (f : Str) (t : DE) : DE := fun ds M Q => t ds M fun x M1 => refK x fun a => insK (M1 a) fun C' fs => C' = C ∧ optK (fs.lookup f) fun d => Q d M1
@[simp ↓] theorem dFld_eq {f : Str} {ds : DSt} {M : DM} {Q : D → DM → Prop} : dFld C f ta ds M Q = ta ds M fun x M1 => refK x fun a => insK (M1 a) fun C' fs => C' = C ∧ optK (fs.lookup f) fun d => Q d M1 := rfl
theorem e_fld {f : Str} (he : EX X e ta) (c : Cls X.K C) (n : NoAttr X.K C f) (hb : attributeBase e f X.env (eval e X.env) = eval e X.env := by rfl) : EX X (.Attribute e f pos) (dFld C f ta) :=
  (pe_fld he hb).imp fun σ H Q ⟨ds, M, R, hs, hm, t, k⟩ => ⟨ds, M, _, hs, hm, t, fun v H1 d M1 f1 r1 m1 q => by
    obtain ⟨a, rfl, qa⟩ := refK_of q
    obtain ⟨C', fs, e1, rfl, qb⟩ := insK_of qa
    obtain ⟨z, e2, qc⟩ := optK_of qb
    obtain ⟨dx, fv, h1, h2⟩ := m1 a _ e1
    obtain ⟨y, e3, r3⟩ := (h2.look (f := f)).1 z e2
    exact ⟨a, C', dx, fv, y, r1.ref_of, h1, c, n, e3, k _ _ _ _ f1 r3 m1 qc⟩⟩
def dPutF (C : Addr) (f : Str) (ta tv : DE) : DS := fun E ds M => tv ds M fun y M1 => ta ds M1 fun x M2 => refK x fun a => insK (M2 a) fun C' fs => C' = C ∧ fs.length < 1000 ∧ E.nx ds (updM M2 a (.ins C (putD f y fs)))
@[simp ↓] theorem dPutF_eq {f : Str} {E : DEnds} {ds : DSt} {M : DM} : dPutF C f ta tb E ds M = tb ds M fun y M1 => ta ds M1 fun x M2 => refK x fun a => insK (M2 a) fun C' fs => C' = C ∧ fs.length < 1000 ∧ E.nx ds (updM M2 a (.ins C (putD f y fs))) := rfl
theorem s_fld {f : Str} {value : Expr} {pos' : Pos} (ha : EX X o ta) (hv : EX X value tb) (c : Cls X.K C) (n : NoAttr X.K C f) (hs : swapsWith value (some (.Attribute o f pos')) pos.line X.env = pure false := by rfl) : SX X (.Assign [.Attribute o f pos'] value pos) (dPutF C f ta tb) :=
  (ps_fld ha hv hs).imp fun D σ H ⟨ds, M, E, hs, hm, t, g1, _⟩ => ⟨ds, M, _, hs, hm, t, fun v H1 d M1 f1 r1 m1 q => ⟨ds, M1, _, hs.keep (f1.keep hm), m1, q, fun v2 H2 d2 M2 f2 r2 m2 q2 => by
    obtain ⟨a, rfl, q2⟩ := refK_of q2
    obtain ⟨C', fs, e1, rfl, hlen, q2⟩ := insK_of q2
    obtain ⟨dx, fv, h1, h2⟩ := m2 a _ e1
    have f12 := f1.trans f2
    refine ⟨a, C', dx, fv, r2.ref_of, h1, c, n, by rw [← h2.len]; exact hlen, ?_⟩
    have kw : Keep H2 (upd H2 a (.ins C' dx (putF f v fv))) := keep_write h1 (fun _ z => by cases z) (fun _ _ z => by cases z)
    exact g1 _ _ _ _ (f12.trans (Fr.write e1)) ((hs.keep (f12.keep hm)).keep kw) (m2.write (o := .ins C' (putD f d fs)) e1 fun kw => ⟨dx, _, upd_same, (Rfs.put (r1.keep (f2.keep m1)) h2).keep kw⟩) q2⟩⟩
/-- o.m(..) -/
def dMeth (C : Addr) (m : Str) (sp : DSp) (ta : DE) (t : DA) : DE := fun ds M Q => ta ds M fun x M1 => refK x fun a => insK (M1 a) fun C' fs => C' = C ∧ fs.lookup m = none ∧ t ds M1 fun es M2 => sp (x :: es) M2 Q
@[simp ↓] theorem dMeth_eq {ds : DSt} {M : DM} {Q : D → DM → Prop} : dMeth C m sp ta t ds M Q = ta ds M fun x M1 => refK x fun a => insK (M1 a) fun C' fs => C' = C ∧ fs.lookup m = none ∧ t ds M1 fun es M2 => sp (x :: es) M2 Q := rfl
theorem meth_imp {w : World} {K : PySem.W.Frag} {σ : L2.St} {H : Hp} {Q : VK} {E : XK} (h : lft w K (dMeth C m sp ta t) σ H Q) : tMeth C m (lsp w K sp) [] E (lft w K ta) (lftA w K t) σ H Q := by
  obtain ⟨ds, M, R, hs, hm, t, k⟩ := h
  refine ⟨ds, M, _, hs, hm, t, fun v H1 d M1 f1 r1 m1 q => ?_⟩
  obtain ⟨a, rfl, q⟩ := refK_of q
  obtain ⟨C', fs, e1, rfl, hl, q⟩ := insK_of q
  obtain ⟨dx, fv, h1, h2⟩ := m1 a _ e1
  refine ⟨a, dx, fv, r1.ref_of, h1, (h2.look (f := m)).2 hl, ds, M1, _, hs.keep (f1.keep hm), m1, q, fun vs H2 es M2 f2 r2 m2 q2 => ⟨_, M2, R, ?_, m2, q2, fun v' H' d' M' f3 => k v' H' d' M' ((f1.trans f2).trans f3)⟩⟩
  rw [List.append_nil]
  exact .cons (r1.keep (f2.keep m1)) r2
theorem e_meth {pl : Sem Bool} (he : EX X o ta) (c : Cls X.K C) (hm : Meth X.K C m f) (F : FnOk X.prog X.w X.K X.mg X.base CX k f fd ps (lsp X.w X.K sp)) (hr : Room k X.A) (hb : Binds X.K fd ps []) (hx : Passes CX X E) (ha : AX X (e :: es) t)
    (hst : starEach (e :: es) X.env = (false, eval e X.env) :: starEach es X.env := by rfl) (hpl : (backTo pos (starEach es X.env)).any (·.1) = false := by rfl)
    (ht : eval (.Call (.Attribute o m apos) (e :: es) [] pos) X.env = (do
      let ov ← eval o X.env
      standAt apos.atName
      let (f, first) ← holding [ov] (getMethod ov m pl)
      callWith pos f first (backTo pos (starEach (e :: es) X.env)) (backToKw pos (keywordEach [] X.env))) := by rfl) :
    EX X (.Call (.Attribute o m apos) (e :: es) [] pos) (dMeth C m sp ta t) := (pe_meth (pl := pl) he c hm F hr hb .nil hx ha hst hpl ht).imp fun _ _ _ h => meth_imp h
theorem e_meth0 {pl : Sem Bool} (he : EX X o ta) (c : Cls X.K C) (hm : Meth X.K C m f) (F : FnOk X.prog X.w X.K X.mg X.base CX k f fd ps (lsp X.w X.K sp)) (hr : Room k X.A) (hb : Binds X.K fd ps []) (hx : Passes CX X E)
    (ht : eval (.Call (.Attribute o m apos) [] [] pos) X.env = (do
      let ov ← eval o X.env
      standAt apos.atName
      let (f, first) ← holding [ov] (getMethod ov m pl)
      callWith pos f first (backTo pos (starEach [] X.env)) (backToKw pos (keywordEach [] X.env))) := by rfl) :
    EX X (.Call (.Attribute o m apos) [] [] pos) (dMeth C m sp ta daNil) := (pe_meth0 (pl := pl) he c hm F hr hb .nil hx ht).imp fun σ H Q ⟨ds, M, R, hs, hm, t, k⟩ => ⟨ds, M, _, hs, hm, t, fun v H1 d M1 f1 r1 m1 q => by
    obtain ⟨a, rfl, q⟩ := refK_of q
    obtain ⟨C', fs, e1, rfl, hl, q⟩ := insK_of q
    obtain ⟨dx, fv, h1, h2⟩ := m1 a _ e1
    exact ⟨a, dx, fv, r1.ref_of, h1, (h2.look (f := m)).2 hl, _, M1, R, .cons r1 .nil, m1, q, fun v' H' d' M' f3 => k v' H' d' M' (f1.trans f3)⟩⟩
/-- C(..) -/
def dMake (C : Addr) (sp : DSp) (t : DA) : DE := fun ds M Q => t ds M fun es M1 => ∀ x, M1 x = none → sp (.ref x :: es) (updM M1 x (.ins C [])) fun d M2 => d = .non ∧ Q (.ref x) M2
@[simp ↓] theorem dMake_eq {ds : DSt} {M : DM} {Q : D → DM → Prop} : dMake C sp t ds M Q = t ds M fun es M1 => ∀ x, M1 x = none → sp (.ref x :: es) (updM M1 x (.ins C [])) fun d M2 => d = .non ∧ Q (.ref x) M2 := rfl
theorem make_imp {w : World} {K : PySem.W.Frag} {σ : L2.St} {H : Hp} {Q : VK} {E : XK} (h : lft w K (dMake C sp t) σ H Q) : tMake C (lsp w K sp) [] E (lftA w K t) σ H Q := by
  obtain ⟨ds, M, R, hs, hm, t, k⟩ := h
  refine ⟨ds, M, _, hs, hm, t, fun vs H1 es M1 f1 r1 m1 q x dx hx hdx hne => ?_⟩
  have hx' : (upd H1 dx (.own x)) x = none := by rw [upd_ne (Ne.symm hne)]; exact hx
  have f2 : Fr H1 M1 (upd (upd H1 dx (.own x)) x (.ins C dx [])) (updM M1 x (.ins C [])) := (Fr.hid hdx).trans (Fr.new hx')
  have kk : Keep H1 (upd (upd H1 dx (.own x)) x (.ins C dx [])) := (keep_new hdx).trans (keep_new hx')
  refine ⟨_, _, _, ?_, (m1.hid hdx).new (o := .ins C []) hx' ⟨dx, [], upd_same, rfl⟩, q x (m1.fresh hx), fun v H' d M' f3 r3 m3 q3 => ?_⟩
  · rw [List.append_nil]
    exact .cons Rp.ref (r1.keep kk)
  · obtain ⟨rfl, q3⟩ := q3
    exact ⟨r3.non_of, k _ _ _ _ ((f1.trans f2).trans f3) Rp.ref m3 q3⟩
theorem e_make (MK : Mk X.K C f) (F : FnOk X.prog X.w X.K X.mg X.base CX k f fd ps (lsp X.w X.K sp)) (hr : Room (k + 1) X.A) (hg : Gl X x) (hm : X.mg x = some (.ref C)) (hb : Binds X.K fd ps []) (hx : Passes CX X E)
    (ha : AX X (e :: es) t) (hdb : (x == ("__debug__" : Str)) = false := by decide) (he : starEach (e :: es) X.env = (false, eval e X.env) :: starEach es X.env := by rfl) (hpl : (backTo pos (starEach es X.env)).any (·.1) = false := by rfl) :
    EX X (.Call (.Name x p) (e :: es) [] pos) (dMake C sp t) := (pe_make MK F hr hg hm hb .nil hx ha hdb he hpl).imp fun _ _ _ h => make_imp h

/-! ### a, b = x, y -/
def dPar (i j : Nat) (t : DA) : DS := fun E ds M => t ds M fun es M1 => match es with
  | [a, b] => E.nx ((ds.set i (some a)).set j (some b)) M1
  | _ => False
@[simp ↓] theorem dPar_eq {i j : Nat} {E : DEnds} {ds : DSt} {M : DM} : dPar i j (daCons ta (daCons tb daNil)) E ds M = ta ds M fun a M1 => tb ds M1 fun b M2 => E.nx ((ds.set i (some a)).set j (some b)) M2 := rfl
theorem s_par {i j : Nat} {x y : Str} {a b : Expr} {ta : DA} {px py pt : Pos} {kt k2 pt2} (hc : X.calm = true) (hN : X.N.Nodup) (hi : X.N[i]? = some x) (hj : X.N[j]? = some y) (hij : i ≠ j)
    (hx : X.env.scope.names.lookup x = some .local) (hy : X.env.scope.names.lookup y = some .local) (ha : AX X [a, b] ta)
    (hw : swappedStores [.Tuple [.Name x px, .Name y py] kt pt] (.Tuple [a, b] k2 pt2) X.env = pure (some [x, y]))
    (hs : swapsWithSole [.Tuple [.Name x px, .Name y py] kt pt] (.Tuple [a, b] k2 pt2) pos.line X.env = pure false := by rfl) :
    SX X (.Assign [.Tuple [.Name x px, .Name y py] kt pt] (.Tuple [a, b] k2 pt2) pos) (dPar i j ta) := (ps_par hc hN hi hj hij hx hy ha hw hs).imp fun D σ H ⟨ds, M, E, hs, hm, t, g1, _⟩ => ⟨ds, M, _, hs, hm, t, fun vs H1 es M1 f1 r1 m1 q => by
    split at q
    · obtain ⟨v, r, rfl, q1, q2⟩ := r1.cons_of
      obtain ⟨u, r', rfl, q3, q4⟩ := q2.cons_of
      cases q4.nil_of
      exact ⟨v, u, rfl, g1 _ _ _ _ f1 (((hs.keep (f1.keep hm)).set q1).set q3) m1 q⟩
    · exact q.elim⟩
def dPar3 (i j l : Nat) (t : DA) : DS := fun E ds M => t ds M fun es M1 => match es with
  | [a, b, c] => E.nx (((ds.set i (some a)).set j (some b)).set l (some c)) M1
  | _ => False
@[simp ↓] theorem dPar3_eq {i j l : Nat} {tc : DE} {E : DEnds} {ds : DSt} {M : DM} : dPar3 i j l (daCons ta (daCons tb (daCons tc daNil))) E ds M = ta ds M fun a M1 => tb ds M1 fun b M2 => tc ds M2 fun c M3 => E.nx (((ds.set i (some a)).set j (some b)).set l (some c)) M3 := rfl
theorem s_par3 {i j l : Nat} {x y z : Str} {a b c : Expr} {ta : DA} {px py pz pt : Pos} {kt k2 pt2} (hc : X.calm = true) (hN : X.N.Nodup) (hi : X.N[i]? = some x) (hj : X.N[j]? = some y) (hl : X.N[l]? = some z) (hij : i ≠ j) (hil : i ≠ l) (hjl : j ≠ l)
    (hx : X.env.scope.names.lookup x = some .local) (hy : X.env.scope.names.lookup y = some .local) (hz : X.env.scope.names.lookup z = some .local) (ha : AX X [a, b, c] ta)
    (hw : swappedStores [.Tuple [.Name x px, .Name y py, .Name z pz] kt pt] (.Tuple [a, b, c] k2 pt2) X.env = pure (some [x, y, z]))
    (hs : swapsWithSole [.Tuple [.Name x px, .Name y py, .Name z pz] kt pt] (.Tuple [a, b, c] k2 pt2) pos.line X.env = pure false := by rfl) :
    SX X (.Assign [.Tuple [.Name x px, .Name y py, .Name z pz] kt pt] (.Tuple [a, b, c] k2 pt2) pos) (dPar3 i j l ta) := (ps_par3 hc hN hi hj hl hij hil hjl hx hy hz ha hw hs).imp fun D σ H ⟨ds, M, E, hs, hm, t, g1, _⟩ => ⟨ds, M, _, hs, hm, t, fun vs H1 es M1 f1 r1 m1 q => by
    split at q
    · obtain ⟨v, r, rfl, q1, q2⟩ := r1.cons_of
      obtain ⟨u, r', rfl, q3, q4⟩ := q2.cons_of
      obtain ⟨u2, r2', rfl, q5, q6⟩ := q4.cons_of
      cases q6.nil_of
      exact ⟨v, u, u2, rfl, g1 _ _ _ _ f1 ((((hs.keep (f1.keep hm)).set q1).set q3).set q5) m1 q⟩
    · exact q.elim⟩
/-- y = [..] in one go -/
theorem s_setLc {i : Nat} {y : Str} {py : Pos} {elt tg iter : Expr} {ifs : List Expr} {scope : Scope} {own : List (Str × Nat)} {pos spos : Pos} {u : DI} {g : TG} {dg : DG} {tt : DT} {te : DE} (hc : X.calm = true) (hN : X.N.Nodup) (hy : X.N[i]? = some y) (hyl : X.env.scope.names.lookup y = some .local)
    (hsw : swapsWith (.ListComp elt [⟨tg, iter, ifs, 0⟩] scope pos) (some (.Name y py)) spos.line X.env = pure true) (hi : IX X tg iter u) (ok : BlkOk X.N X.env.scope scope own) (ho : GOwn X.w X.K g dg (own.map (·.2)))
    (hg : ∀ (s : Shared) (H : Hp) (C : Addr) (cl : List (Str × Addr)) (fp : List Addr), PG (X.blk s H scope (compEnvC scope cl C X.env) fp) tg g) (ht : ∀ (s : Shared) (H : Hp) (C : Addr) (cl : List (Str × Addr)) (fp : List Addr), IfX (X.blk s H scope (compEnvC scope cl C X.env) fp) ifs tt)
    (he : ∀ (s : Shared) (H : Hp) (C : Addr) (cl : List (Str × Addr)) (fp : List Addr), EX (X.blk s H scope (compEnvC scope cl C X.env) fp) elt te) (hs : ∀ x, foldedSetIterable iter X.env x = pure x := by intro _; rfl) :
    SX X (.Assign [.Name y py] (.ListComp elt [⟨tg, iter, ifs, 0⟩] scope pos) spos) (dSet i (dLc u dg tt te (own.map (·.2)))) := by
  refine (ps_setLc (tt := lftT X.w X.K tt) (te := lft X.w X.K te) hc hN hy hyl hsw hi ok hg ht he hs).imp fun D σ H ⟨ds, M, E, hs, hm, t, g1, _⟩ => ?_
  exact lc_imp ho ⟨ds, M, _, hs, hm, t, fun v H1 d M1 f1 r1 m1 q => g1 _ _ _ _ f1 ((hs.keep (f1.keep hm)).set r1) m1 q⟩
end
end DL

set_option Elab.async false
set_option linter.all false
set_option maxRecDepth 100000
namespace DL
open PySem PySem.Spec PyProof.Rows L2
/-! ### iterators over tuples, lists, texts: alone, numbered, in pairs -/
inductive SrcK where
  | tup (a : Addr) | lst (a : Addr) | str (z : Str) (t : Tok)
namespace SrcK
def st : SrcK → Addr → Nat → Heap → Prop
  | .tup a, it, i, h => h.IsTupleIter it a i
  | .lst a, it, i, h => h.IsListIter it a i
  | .str z t, it, i, h => h.IsStrIter it (strIterType z) z t i
def has (K : PySem.W.Frag) (H : Hp) : SrcK → List V → Prop
  | .tup a, vs => SqT K H a vs
  | .lst a, vs => SqL K H a vs
  | .str z _, vs => vs = z.cps.toList.map fun c => .str ⟨#[c]⟩
def val : SrcK → Value
  | .tup a => .ref a
  | .lst a => .ref a
  | .str z t => .str z t
def ob : SrcK → Obj
  | .tup a => { cls := .type "tuple_iterator", data := .fields #[.ref a, .int 0 0] }
  | .lst a => { cls := .type "list_iterator", data := .fields #[.ref a, .int 0 0] }
  | .str z t => { cls := .type (strIterType z), data := .fields #[.str z t, .int 0 0] }
def src : SrcK → List Addr
  | .tup a => [a]
  | .lst a => [a]
  | .str _ _ => []
end SrcK
theorem draws_mono {prog : Program} {w : World} {A : Around} {it : Addr} {fp : List Addr} {n : Nat} {P P' : Nat → Value → Prop} {St : Nat → Heap → Prop} (d : Draws prog w A it fp n P St) (h : ∀ i v, P i v → P' i v) : Draws prog w A it fp n P' St where
  live := d.live
  frame := d.frame
  item := fun i s Q E hi st hQ => d.item i s Q E hi st fun x h' tk p => hQ x h' tk (h _ _ p)
  done := d.done
section
variable {X : Cx} {pins : List (Addr × Obj)} {σ : L2.St} {H : Hp} {s : Shared} {vs ws : List V}
structure SrcOk (X : Cx) (k : SrcK) (vs : List V) (Hh : Heap → Prop) (s : Shared) : Prop where
  beg : Begins k.val k.ob Hh
  at_ : Hh s.heap
  dr : ∀ (A : Around) (it : Addr), A.handled = none → (∀ a ∈ k.src, a ≠ it) → Draws X.prog X.w A it (it :: k.src) vs.length (fun i u => ∃ v, vs[i]? = some v ∧ RelV v u) (fun i h => k.st it i h ∧ Hh h)
  lt : ∀ a ∈ k.src, a < s.heap.objs.size
theorem Inv.src (I : Inv X pins σ H s) (k : SrcK) (h : k.has X.K H vs) : ∃ Hh, SrcOk X k vs Hh s := by
  cases k with
  | tup a =>
    obtain ⟨its, rv, p, _⟩ := I.tuple h
    have ht : s.heap.IsTuple a its.toArray := p
    refine ⟨fun h => h.IsTuple a its.toArray, begins_tuple a _, ht, fun A it hh hne => ?_, fun b hb => ?_⟩
    · have hl := rv.length
      rw [show vs.length = its.toArray.size by simp [hl]]
      refine draws_mono (Draws.tuple hh it a (hne a (by simp [SrcK.src])) its.toArray) fun i v e => ?_
      have hi : i < its.length := by
        have := (Array.getElem?_eq_some_iff.mp e).1
        simpa using this
      obtain ⟨x, hx⟩ : ∃ x, vs[i]? = some x := ⟨vs[i]'(by omega), List.getElem?_eq_getElem (by omega)⟩
      obtain ⟨u, hu, ru⟩ := rv.get hx
      have : u = v := by
        have e' : its[i]? = some v := by simpa using e
        rw [hu] at e'
        exact Option.some.inj e'
      exact ⟨x, hx, this ▸ ru⟩
    · have e : b = a := by simpa [SrcK.src] using hb
      subst e
      obtain ⟨o, ho, _⟩ := ht
      exact Heap.lt_size ho
  | lst a =>
    obtain ⟨its, rv, p, _⟩ := I.list h
    refine ⟨fun h => h.IsList a its.toArray, begins_list a _, p.isList, fun A it hh hne => ?_, fun b hb => ?_⟩
    · have hl := rv.length
      rw [show vs.length = its.toArray.size by simp [hl]]
      refine draws_mono (Draws.list hh it a (hne a (by simp [SrcK.src])) its.toArray) fun i v e => ?_
      have hi : i < its.length := by
        have := (Array.getElem?_eq_some_iff.mp e).1
        simpa using this
      obtain ⟨x, hx⟩ : ∃ x, vs[i]? = some x := ⟨vs[i]'(by omega), List.getElem?_eq_getElem (by omega)⟩
      obtain ⟨u, hu, ru⟩ := rv.get hx
      have : u = v := by
        have e' : its[i]? = some v := by simpa using e
        rw [hu] at e'
        exact Option.some.inj e'
      exact ⟨x, hx, this ▸ ru⟩
    · have e : b = a := by simpa [SrcK.src] using hb
      subst e
      obtain ⟨o, ho, _⟩ := p.isList
      exact Heap.lt_size ho
  | str z t =>
    have h : vs = z.cps.toList.map fun c => V.str ⟨#[c]⟩ := h
    subst h
    refine ⟨fun _ => True, begins_text z t, trivial, fun A it hh hne => ?_, fun b hb => by simp [SrcK.src] at hb⟩
    rw [show (z.cps.toList.map fun c => V.str ⟨#[c]⟩).length = z.cps.size by simp]
    have d := Draws.text (prog := X.prog) (w := X.w) (A := A) hh it z t
    refine ⟨fun i h st => d.live i h st.1, fun i h h' st hk => ⟨d.frame i h h' st.1 hk, trivial⟩, fun i s Q E hi st hQ => d.item i s Q E hi st.1 fun x h' tk p st' sb => hQ x h' tk ?_ ⟨st', trivial⟩ sb, fun s Q E st hE => d.done s Q E st.1 hE⟩
    obtain ⟨c, u, e, rfl⟩ := p
    exact ⟨.str ⟨#[c]⟩, by rw [List.getElem?_map]; simp [e], u, rfl⟩
theorem SrcK.st_at {k : SrcK} {it : Addr} {i : Nat} {h h' : Heap} (st : k.st it i h) (e : ∀ o, h.get? it = some o → h'.get? it = some o) : k.st it i h' := by
  cases k <;> exact let ⟨o, ho, r⟩ := st; ⟨o, e o ho, r⟩
theorem SrcK.st_obj {k : SrcK} {it : Addr} {i : Nat} {h : Heap} (st : k.st it i h) : ∃ o, h.get? it = some o ∧ ∀ v, o.data ≠ .cell v := by
  cases k <;> exact let ⟨o, ho, _, hd⟩ := st; ⟨o, ho, fun v q => by rw [hd] at q; cases q⟩
theorem SrcK.st0 {k : SrcK} {it : Addr} {h : Heap} (e : h.get? it = some k.ob) : k.st it 0 h := by
  cases k <;> exact ⟨_, e, rfl, rfl⟩
theorem SrcK.inj (I : Inv X pins σ H s) {k : SrcK} (h : k.has X.K H vs) (h' : k.has X.K H ws) : vs = ws := by
  cases k with
  | tup a => exact I.tuple_inj h h'
  | lst a => exact I.list_inj h h'
  | str z t => exact Eq.trans h (Eq.symm h')

/-! #### enumerate -/
def ItE (K : PySem.W.Frag) (k : SrcK) : It :=
  ⟨fun i H => ∃ vs, k.has K H vs ∧ i < vs.length, fun i H v H' => ∃ T x, v = .ref T ∧ H T = none ∧ H' = upd H T (.tup [.int (i : Nat), x]) ∧ ∀ vs, k.has K H vs → vs[i]? = some x, fun i H => ∃ vs, k.has K H vs ∧ i = vs.length⟩
theorem turn_enumK {P : Program} {w : World} {K : PySem.W.Frag} {elts : List Expr} {kk : Nat} {tpos : Pos} (k : SrcK) (e it : Addr) (hs : ∀ a ∈ k.src, a ≠ e ∧ a ≠ it) (hne : e ≠ it) :
    Turn P w K (.Tuple elts kk tpos) (ItE K k) [e, it] e (fun i h => (∃ old, IsEnum h e it (0 + ((i : Nat) : Int)) old) ∧ k.st it i h) where
  mem := by simp
  obj := fun i h st b hb => by
    obtain ⟨⟨old, he⟩, si⟩ := st
    have e' : b = e ∨ b = it := by simpa using hb
    rcases e' with z | z
    · rw [z]; exact ⟨_, he, fun v q => nomatch q⟩
    · rw [z]; exact SrcK.st_obj si
  keep := fun i h h' st kp => let ⟨⟨old, he⟩, si⟩ := st; ⟨⟨old, kp e (by simp) _ he⟩, SrcK.st_at si fun o q => kp it (by simp) o q⟩
  item := by
    intro X hP hw hK hc i pins s σ H E I hf st hg
    subst hP hw hK
    obtain ⟨he, si⟩ := st
    obtain ⟨vs, hv, hi⟩ := hg
    obtain ⟨Hh, ok⟩ := Inv.src I k hv
    have D := ok.dr X.A.in1 it (I.ok.hd hc) fun a ha => (hs a ha).2
    have G := GoesN.enumFrom (elts := elts) (x1 := kk) (pos := tpos) 0 D e hne (fun hm => by
      rcases List.mem_cons.mp hm with z | z
      · exact hne z
      · exact (hs e z).1 rfl) (by simp)
    refine thn (G.goes i s (fun v s2 => ∃ x H', Inv X pins σ H' s2 ∧ RelV x v ∧ (ItE X.K k).yld i H x H' ∧ ((∃ old, IsEnum s2.heap e it (0 + (((i + 1 : Nat)) : Int)) old) ∧ k.st it (i + 1) s2.heap) ∧ ∀ b ∈ [e, it], H' b = none) E hi ⟨he, si, ok.at_⟩ fun v h' tk hy st' fr htk => ?_) fun r s1 ⟨v, hr, q⟩ => ⟨v, hr, thn q fun _ s2 q => q⟩
    obtain ⟨T, t, u, rfl, hT, ⟨x, hx, rx⟩, ho⟩ := hy
    have fr' : ∀ b o, b ∉ [e, it] → s.heap.get? b = some o → h'.get? b = some o := fun b o hb q => fr b o hb q
    have e0 : (0 + (i : Int)) = (i : Int) := by omega
    rw [e0] at ho
    have new : ObjOk X.prog X.w (upd H T (.tup [.int (i : Nat), x])) h' T (.tup [.int (i : Nat), x]) :=
      ⟨by show 2 ≤ sizeLine; decide, [.int i t, u], .cons ⟨_, rfl⟩ (.cons rx .nil), ho⟩
    have I1 := I.turnedNew (t' := tk) (ch := [e, it]) fr' hf hT new
    refine ⟨.ref T, _, I1, rfl, ⟨T, x, rfl, I.hok.fresh hT, rfl, fun us hu => by rw [SrcK.inj I hu hv]; exact hx⟩, ⟨st'.1, st'.2.1⟩, fun b hb => ?_⟩
    have hb' : b < s.heap.objs.size := by
      obtain ⟨⟨old, he⟩, _⟩ : (∃ old, IsEnum s.heap e it (0 + ((i : Nat) : Int)) old) ∧ True := ⟨he, trivial⟩
      obtain ⟨oi, hoi, _⟩ := SrcK.st_obj si
      have e' : b = e ∨ b = it := by simpa using hb
      rcases e' with z | z
      · rw [z]; exact Heap.lt_size he
      · rw [z]; exact Heap.lt_size hoi
    rw [upd_ne (Nat.ne_of_lt (Nat.lt_of_lt_of_le hb' hT))]
    exact (hf b hb).1
  done := by
    intro X hP hw hK hc i pins s σ H E I hf st hg
    subst hP hw hK
    obtain ⟨he, si⟩ := st
    obtain ⟨vs, hv, hi⟩ := hg
    obtain ⟨Hh, ok⟩ := Inv.src I k hv
    have D := ok.dr X.A.in1 it (I.ok.hd hc) fun a ha => (hs a ha).2
    have hei : e ∉ it :: k.src := fun hm => by
      rcases List.mem_cons.mp hm with z | z
      · exact hne z
      · exact (hs e z).1 rfl
    have G := GoesN.enumFrom (elts := elts) (x1 := kk) (pos := tpos) 0 D e hne hei (by simp)
    subst hi
    refine G.stops s (fun s1 => Inv X pins σ H s1) E ⟨he, si, ok.at_⟩ fun h' tk fr htk => ?_
    exact I.turnedL (t' := tk) (ch := [e, it]) (fun b o hb q => fr b o hb q) hf
  self := fun A i s Q E st h => let ⟨⟨_, he⟩, _⟩ := st; wpAny_pyIter_enum he h
theorem meets_enum1 {v : Value} {o : Obj} {H : Heap → Prop} (B : Begins v o H) :
    Meets (Builtin.«enumerate.__new__» ⟨[.type "enumerate", v], []⟩) (fun _ R s => H s.heap ∧
      R (.ok (.ret (.ref (s.heap.push o).objs.size))) { s with heap := (s.heap.push o).push { cls := .type "enumerate", data := .fields #[.none, .bool false, .ref s.heap.objs.size, rawInt 0, .none, .none] } }) :=
  .of_wp fun prog w A R s h => by
    obtain ⟨hp, g, d, tk, os⟩ := s; obtain ⟨h1, h⟩ := h
    have hsub := sub_enumerate
    have q1 : ∀ {A' : Around} {E : Value → Shared → Prop} {Q : Value → Shared → Prop}, Q (.ref hp.objs.size) ⟨hp.push o, g, d, tk, os⟩ → wpAny (model prog w) A' (pyIter v) Q E ⟨hp, g, d, tk, os⟩ :=
      fun q => B.iter prog w _ _ ⟨hp, g, d, tk, os⟩ _ h1 q
    wp_walk using q1
    refine wpAny_stack_any fun st => wpAny_pure ?_
    split
    · rename_i c _ _ _ _ _
      cases (c == Value.type "enumerate")
      · wp_walk using q1
        exact ⟨_, rfl, h⟩
      · wp_walk using q1
        exact ⟨_, rfl, h⟩
    · wp_walk using q1
      exact ⟨_, rfl, h⟩
theorem enum1_begins {A : Around} {E : Value → Shared → Prop} {prog : Program} {w : World} {v : Value} {o : Obj} {Hh : Heap → Prop} {Q : Value → Shared → Prop} (B : Begins v o Hh) (h1 : Hh s.heap)
    (h : ∀ h', IsEnum h' (s.heap.objs.size + 1) s.heap.objs.size 0 .none → h'.get? s.heap.objs.size = some o → h'.objs.size = s.heap.objs.size + 2 →
      (∀ b o, s.heap.get? b = some o → h'.get? b = some o) → Q (.ref (s.heap.objs.size + 1)) { s with heap := h' }) :
    wpAny (model prog w) A (call (.type "enumerate") [v]) Q E s := by
  refine callType_new F.called_enumerate (by decide) (F.typeCall_enumerate_1 _) (F.newCall_enumerate_1 _) (fun obj => F.args_object_init_2 obj _) F.entry_enumerate_new
    (meets_enum1 B) ⟨h1, ?_⟩
  have hz : (s.heap.push o).objs.size = s.heap.objs.size + 1 := Heap.size_push ..
  show _ ∧ _
  rw [hz]
  have he : IsEnum ((s.heap.push o).push { cls := .type "enumerate", data := .fields #[.none, .bool false, .ref s.heap.objs.size, rawInt 0, .none, .none] }) (s.heap.objs.size + 1) s.heap.objs.size 0 .none := by
    have := Heap.get?_push_size (s.heap.push o) (o := { cls := .type "enumerate", data := .fields #[.none, .bool false, .ref s.heap.objs.size, rawInt 0, .none, .none] }) rfl
    rw [hz] at this; exact this
  refine ⟨⟨_, he, rfl⟩, h _ he (Heap.get?_push_of_some _ (Heap.get?_push_size _ B.free)) (by rw [Heap.size_push, hz]) fun b o x => Heap.get?_push_of_some _ (Heap.get?_push_of_some _ x)⟩

/-! #### zip -/
def ItZ (K : PySem.W.Frag) (k l : SrcK) : It :=
  ⟨fun i H => ∃ vs ws, k.has K H vs ∧ l.has K H ws ∧ i < vs.length ∧ i < ws.length,
   fun i H v H' => ∃ T x y, v = .ref T ∧ H T = none ∧ H' = upd H T (.tup [x, y]) ∧ (∀ vs, k.has K H vs → vs[i]? = some x) ∧ ∀ ws, l.has K H ws → ws[i]? = some y,
   fun i H => ∃ vs ws, k.has K H vs ∧ l.has K H ws ∧ i = min vs.length ws.length⟩
theorem turn_zipK {P : Program} {w : World} {K : PySem.W.Frag} {elts : List Expr} {kk : Nat} {tpos : Pos} (k l : SrcK) (z TI TO i1 i2 : Addr) (S : ZipSep2 z TI TO i1 i2 (i1 :: k.src) (i2 :: l.src)) (hs1 : ∀ a ∈ k.src, a ≠ i1) (hs2 : ∀ a ∈ l.src, a ≠ i2) :
    Turn P w K (.Tuple elts kk tpos) (ItZ K k l) [z, TI, TO, i1, i2] z (fun i h => IsZip h z TI TO .none ∧ IsTupOf2 h TI (.ref i1) (.ref i2) ∧ (∃ x y, IsTupOf2 h TO x y) ∧ k.st i1 i h ∧ l.st i2 i h) where
  mem := by simp
  obj := fun i h st c hc => by
    obtain ⟨hz, hTI, ⟨x, y, hTO⟩, h1, h2⟩ := st
    have e' : c = z ∨ c = TI ∨ c = TO ∨ c = i1 ∨ c = i2 := by simpa using hc
    rcases e' with q | q | q | q | q
    · rw [q]; exact ⟨_, hz, fun v q => nomatch q⟩
    · rw [q]; exact ⟨_, hTI, fun v q => nomatch q⟩
    · rw [q]; exact ⟨_, hTO, fun v q => nomatch q⟩
    · rw [q]; exact SrcK.st_obj h1
    · rw [q]; exact SrcK.st_obj h2
  keep := fun i h h' st kp => by
    obtain ⟨hz, hTI, ⟨x, y, hTO⟩, h1, h2⟩ := st
    exact ⟨kp z (by simp) _ hz, kp TI (by simp) _ hTI, ⟨x, y, kp TO (by simp) _ hTO⟩, SrcK.st_at h1 fun o q => kp i1 (by simp) o q, SrcK.st_at h2 fun o q => kp i2 (by simp) o q⟩
  item := by
    intro X hP hw hK hc i pins s σ H E I hf st hg
    subst hP hw hK
    obtain ⟨hz, hTI, ⟨x0, y0, hTO⟩, h1, h2⟩ := id st
    obtain ⟨vs, ws, hv, hw', hi, hj⟩ := hg
    obtain ⟨Hh1, ok1⟩ := Inv.src I k hv
    obtain ⟨Hh2, ok2⟩ := Inv.src I l hw'
    have D1 := ok1.dr X.A.in1 i1 (I.ok.hd hc) hs1
    have D2 := ok2.dr X.A.in1 i2 (I.ok.hd hc) hs2
    have G := GoesN.zip2 (elts := elts) (x1 := kk) (pos := tpos) S D1 D2
    have sz : ∀ b ∈ [z, TI, TO, i1, i2], b < s.heap.objs.size := fun c hcm => by
      obtain ⟨oi, hoi, _⟩ := SrcK.st_obj h1
      obtain ⟨oj, hoj, _⟩ := SrcK.st_obj h2
      have e' : c = z ∨ c = TI ∨ c = TO ∨ c = i1 ∨ c = i2 := by simpa using hcm
      rcases e' with q | q | q | q | q
      · rw [q]; exact Heap.lt_size hz
      · rw [q]; exact Heap.lt_size hTI
      · rw [q]; exact Heap.lt_size hTO
      · rw [q]; exact Heap.lt_size hoi
      · rw [q]; exact Heap.lt_size hoj
    refine thn (G.goes i s (fun v s2 => ∃ x H', Inv X pins σ H' s2 ∧ RelV x v ∧ (ItZ X.K k l).yld i H x H' ∧ (IsZip s2.heap z TI TO .none ∧ IsTupOf2 s2.heap TI (.ref i1) (.ref i2) ∧ (∃ x y, IsTupOf2 s2.heap TO x y) ∧ k.st i1 (i + 1) s2.heap ∧ l.st i2 (i + 1) s2.heap) ∧ ∀ b ∈ [z, TI, TO, i1, i2], H' b = none) E (by omega) ⟨hz, hTI, ⟨x0, y0, hTO⟩, ⟨h1, ok1.at_⟩, h2, ok2.at_⟩ fun v h' tk hy st' fr htk => ?_) fun r s1 ⟨v, hr, q⟩ => ⟨v, hr, thn q fun _ s2 q => q⟩
    obtain ⟨T, u1, u2, rfl, hT, ⟨x, hx, rx⟩, ⟨y, hyy, ry⟩, ho⟩ := hy
    have fr' : ∀ b o, b ∉ [z, TI, TO, i1, i2] → s.heap.get? b = some o → h'.get? b = some o := fun b o hb q => fr b o (fun hm => hb (by
      have e' : b = z ∨ b = TO ∨ b = i1 ∨ b = i2 := by simpa using hm
      rcases e' with q | q | q | q <;> rw [q] <;> simp)) q
    have new : ObjOk X.prog X.w (upd H T (.tup [x, y])) h' T (.tup [x, y]) :=
      ⟨by show 2 ≤ sizeLine; decide, [u1, u2], .cons rx (.cons ry .nil), ho⟩
    have I1 := I.turnedNew (t' := tk) (ch := [z, TI, TO, i1, i2]) fr' hf hT new
    refine ⟨.ref T, _, I1, rfl, ⟨T, x, y, rfl, I.hok.fresh hT, rfl, fun us hu => by rw [SrcK.inj I hu hv]; exact hx, fun us hu => by rw [SrcK.inj I hu hw']; exact hyy⟩, ⟨st'.1, st'.2.1, st'.2.2.1, st'.2.2.2.1.1, st'.2.2.2.2.1⟩, fun b hb => ?_⟩
    rw [upd_ne (Nat.ne_of_lt (Nat.lt_of_lt_of_le (sz b hb) hT))]
    exact (hf b hb).1
  done := by
    intro X hP hw hK hc i pins s σ H E I hf st hg
    subst hP hw hK
    obtain ⟨hz, hTI, ⟨x0, y0, hTO⟩, h1, h2⟩ := id st
    obtain ⟨vs, ws, hv, hw', hi⟩ := hg
    obtain ⟨Hh1, ok1⟩ := Inv.src I k hv
    obtain ⟨Hh2, ok2⟩ := Inv.src I l hw'
    have D1 := ok1.dr X.A.in1 i1 (I.ok.hd hc) hs1
    have D2 := ok2.dr X.A.in1 i2 (I.ok.hd hc) hs2
    have G := GoesN.zip2 (elts := elts) (x1 := kk) (pos := tpos) S D1 D2
    subst hi
    refine G.stops s (fun s1 => Inv X pins σ H s1) E ⟨hz, hTI, ⟨x0, y0, hTO⟩, ⟨h1, ok1.at_⟩, h2, ok2.at_⟩ fun h' tk fr htk => ?_
    exact I.turnedL (t' := tk) (ch := [z, TI, TO, i1, i2]) (fun b o hb q => fr b o (fun hm => hb (by
      have e' : b = z ∨ b = TO ∨ b = i1 ∨ b = i2 := by simpa using hm
      rcases e' with q | q | q | q <;> rw [q] <;> simp)) q) hf
  self := fun A i s Q E st h => wpAny_pyIter_zip st.1 h

/-! #### at the D layer -/
def chars (x : Str) : List D := x.cps.toList.map fun c => .str ⟨#[c]⟩
/-- the items of what is walked -/
def itK (d : D) (M : DM) (k : List D → (DM → Prop) → Prop) : Prop := match d with
  | .tup ds => k ds fun _ => True
  | .str x => k (chars x) fun _ => True
  | .fl ds => k ds fun _ => True
  | .ref a => match M a with
    | some (.lst ds) => k ds fun M' => M' a = some (.lst ds)
    | _ => False
  | _ => False
@[simp ↓] theorem itK_tup {ds : List D} {M : DM} {k : List D → (DM → Prop) → Prop} : itK (.tup ds) M k = k ds fun _ => True := rfl
@[simp ↓] theorem itK_str {x : Str} {M : DM} {k : List D → (DM → Prop) → Prop} : itK (.str x) M k = k (chars x) fun _ => True := rfl
theorem itK_lst {a : Addr} {ds : List D} {M : DM} {k : List D → (DM → Prop) → Prop} (h : M a = some (.lst ds)) : itK (.ref a) M k = k ds fun M' => M' a = some (.lst ds) := by simp [itK, h]
@[simp ↓] theorem itK_fl {ds : List D} {M : DM} {k : List D → (DM → Prop) → Prop} : itK (.fl ds) M k = k ds fun _ => True := rfl
/-- from what the D layer says to a source -/
theorem itK_src {w : World} {K : PySem.W.Frag} {d : D} {v : V} {u : Value} {M : DM} {k : List D → (DM → Prop) → Prop} (hr : Rp K H d v) (ru : RelV v u) (hm : RM w K H M) (h : itK d M k) :
    ∃ (q : SrcK) (xs : List D) (chk : DM → Prop), k xs chk ∧ chk M ∧ u = q.val ∧ (∀ H' M', Keep H H' → RM w K H' M' → chk M' → ∃ vs, q.has K H' vs ∧ Rps K H' xs vs) := by
  cases d with
  | tup ds =>
    obtain ⟨a, vs, rfl, t, rs⟩ := hr.tup_of
    exact ⟨.tup a, ds, _, h, trivial, ru, fun H' M' kp _ _ => ⟨vs, kp.sqT t, rs.keep kp⟩⟩
  | str x =>
    cases hr.str_of
    obtain ⟨t, rfl⟩ := ru
    refine ⟨.str x t, chars x, _, h, trivial, rfl, fun H' M' kp _ _ => ⟨_, rfl, ?_⟩⟩
    unfold chars
    generalize x.cps.toList = l
    induction l with
    | nil => exact .nil
    | cons c r ih => exact .cons Rp.str ih
  | fl ds =>
    obtain ⟨a, vs, rfl, t, rs⟩ := hr.fl_of
    exact ⟨.lst a, ds, _, h, trivial, ru, fun H' M' kp _ _ => ⟨vs, (kp.sqF t).sqL, rs.keep kp⟩⟩
  | ref a =>
    cases hr.ref_of
    unfold itK at h
    dsimp only at h
    cases e : M a with
    | none => rw [e] at h; exact h.elim
    | some o =>
      rw [e] at h
      cases o with
      | lst ds => exact ⟨.lst a, ds, _, h, e, ru, fun H' M' kp m c => by
          obtain ⟨vs, h1, h2⟩ := m a _ c
          exact ⟨vs, SqL.of h1, h2⟩⟩
      | _ => exact h.elim
  | _ => exact h.elim
/-- a source alone -/
def ItA (K : PySem.W.Frag) (k : SrcK) : It :=
  ⟨fun i H => ∃ vs, k.has K H vs ∧ i < vs.length, fun i H v H' => H' = H ∧ ∀ vs, k.has K H vs → vs[i]? = some v, fun i H => ∃ vs, k.has K H vs ∧ i = vs.length⟩
theorem turn_imp {P : Program} {w : World} {K : PySem.W.Frag} {tg : Expr} {J J' : It} {fp : List Addr} {it : Addr} {tn : Nat → Heap → Prop} (T : Turn P w K tg J fp it tn) (h1 : ∀ i H, J'.go i H → J.go i H) (h2 : ∀ i H x H', J'.go i H → J.yld i H x H' → J'.yld i H x H') (h3 : ∀ i H, J'.stop i H → J.stop i H) : Turn P w K tg J' fp it tn where
  mem := T.mem
  obj := T.obj
  keep := T.keep
  item := fun X a b c d i pins s σ H E I hf st g => thn (T.item X a b c d i pins s σ H E I hf st (h1 i H g)) fun r s1 ⟨u, e, q⟩ => ⟨u, e, thn q fun _ s2 ⟨x, H', q1, q2, q3, q4⟩ => ⟨x, H', q1, q2, h2 _ _ _ _ g q3, q4⟩⟩
  done := fun X a b c d i pins s σ H E I hf st g => T.done X a b c d i pins s σ H E I hf st (h3 i H g)
  self := T.self
theorem itA_ok {w : World} {K : PySem.W.Frag} {xs : List D} {chk : DM → Prop} {q : SrcK} (hp : ∀ H' M', Keep H H' → RM w K H' M' → chk M' → ∃ vs, q.has K H' vs ∧ Rps K H' xs vs) : ItOk w K H chk (ItA K q) xs := fun i H' M' kp m c => by
  obtain ⟨vs, h1, h2⟩ := hp H' M' kp m c
  refine ⟨fun e => ⟨vs, h1, by rw [← h2.len]; exact e⟩, fun d e => ?_⟩
  obtain ⟨x, e2, r2⟩ := h2.get e
  refine ⟨⟨vs, h1, (List.getElem?_eq_some_iff.mp e2).1⟩, fun y H2 ⟨eq, hy⟩ => ?_⟩
  subst eq
  have := (hy vs h1).symm.trans e2
  cases this
  exact ⟨.refl, m, r2⟩
def diAny (t : DE) : DI := fun ds M S => t ds M fun d M1 => itK d M1 fun xs chk => S xs chk M1
@[simp ↓] theorem diAny_eq {t : DE} {ds : DSt} {M : DM} {S : List D → (DM → Prop) → DM → Prop} : diAny t ds M S = t ds M fun d M1 => itK d M1 fun xs chk => S xs chk M1 := rfl
theorem i_any {tg e : Expr} {t : DE} (he : EX X e t) : IX X tg e (diAny t) := by
  refine ⟨fun pins s σ H R I ⟨ds, M, S, hs, hm, t, k⟩ => ?_⟩
  refine thn (he.run pins s σ H (fun v H1 => ∃ d M1, Fr H M H1 M1 ∧ Rp X.K H1 d v ∧ RM X.w X.K H1 M1 ∧ itK d M1 fun xs chk => S xs chk M1) I ⟨ds, M, _, hs, hm, t, fun v H' d M' f r m q => ⟨d, M', f, r, m, q⟩⟩) fun u s1 ⟨v, H1, I1, rv, d, M1, f1, r1, m1, q⟩ => ?_
  obtain ⟨sk, xs, chk, q, c, rfl, hp⟩ := itK_src r1 rv m1 q
  have fin := k (ItA X.K sk) H1 xs chk M1 f1 m1 (itA_ok hp) q
  obtain ⟨vs, h1, _⟩ := hp H1 M1 (.refl _) m1 c
  cases sk with
  | tup a =>
    obtain ⟨its, rv', p, _⟩ := I1.tuple h1
    refine wpAny_pyIter_tuple (show s1.heap.IsTuple a its.toArray from p) (pi_one (tk := s1.toks) I1 _ (turn_imp (J' := ItA X.K (.tup a)) (turn_tuple a _) (fun i H ⟨vs, h, l⟩ => ⟨vs, vs[i], h, List.getElem?_eq_getElem l⟩) (fun i H x H' _ q => q) (fun i H ⟨vs, h, l⟩ => ⟨vs, h, by omega⟩)) ⟨_, Heap.get?_push_size _ rfl, rfl, rfl⟩ fin)
  | lst a =>
    obtain ⟨its, rv', p, _⟩ := I1.list h1
    refine wpAny_pyIter_list p.isList (pi_one (tk := s1.toks) I1 _ (turn_imp (J' := ItA X.K (.lst a)) (turn_list a _) (fun i H ⟨vs, h, l⟩ => ⟨vs, vs[i], h, List.getElem?_eq_getElem l⟩) (fun i H x H' _ q => q) (fun i H ⟨vs, h, l⟩ => ⟨vs, h, by omega⟩)) ⟨_, Heap.get?_push_size _ rfl, rfl, rfl⟩ fin)
  | str z t =>
    have T : ∀ ty, (ty = "str_ascii_iterator" ∨ ty = "str_iterator") → Turn X.prog X.w X.K tg (ItA X.K (.str z t)) [s1.heap.objs.size] s1.heap.objs.size (fun i h => h.IsStrIter s1.heap.objs.size ty z t i) := fun ty hty => turn_imp (turn_str _ z t ty hty)
      (fun i H ⟨vs, h, l⟩ => by
        have h : vs = z.cps.toList.map fun c => V.str ⟨#[c]⟩ := h
        subst h
        simpa [Its] using l)
      (fun i H x H' _ ⟨e, c, ec, ex⟩ => ⟨e, fun vs h => by
        have h : vs = z.cps.toList.map fun c => V.str ⟨#[c]⟩ := h
        subst h ex
        rw [List.getElem?_map]
        simp [ec]⟩)
      (fun i H ⟨vs, h, l⟩ => by
        have h : vs = z.cps.toList.map fun c => V.str ⟨#[c]⟩ := h
        subst h
        simp at l
        show z.cps.size ≤ i
        omega)
    show wpAny _ _ (pyIter (.str z t)) _ _ _
    cases ha : z.cps.all (· < 128)
    · exact wpAny_pyIter_wide ha (pi_one (tk := s1.toks) I1 _ (T _ (.inr rfl)) ⟨_, Heap.get?_push_size _ rfl, rfl, rfl⟩ fin)
    · exact wpAny_pyIter_ascii ha (pi_one (tk := s1.toks) I1 _ (T _ (.inl rfl)) ⟨_, Heap.get?_push_size _ rfl, rfl, rfl⟩ fin)

/-! #### range -/
def intsD (lo : Int) : Nat → List D
  | 0 => []
  | n + 1 => .int lo :: intsD (lo + 1) n
theorem intsD_len (lo : Int) : ∀ n, (intsD lo n).length = n
  | 0 => rfl
  | n + 1 => by simp [intsD, intsD_len (lo + 1) n]
theorem intsD_get (n : Nat) : ∀ (lo : Int) (i : Nat) (d : D), (intsD lo n)[i]? = some d → i < n ∧ d = .int (lo + i) := by
  induction n with
  | zero => intro lo i d h; simp [intsD] at h
  | succ n ih =>
    intro lo i d h
    cases i with
    | zero => simp [intsD] at h; exact ⟨by omega, by rw [← h]; simp⟩
    | succ i =>
      obtain ⟨h1, h2⟩ := ih (lo + 1) i d (by simpa [intsD] using h)
      exact ⟨by omega, by rw [h2]; congr 1; omega⟩
theorem range_ok {w : World} {K : PySem.W.Frag} {H : Hp} {lo : Int} {n : Nat} : ItOk w K H (fun _ => True) (Itr lo n) (intsD lo n) := fun i H' M' kp m c => by
  refine ⟨fun e => by rw [intsD_len] at e; show n ≤ i; omega, fun d e => ?_⟩
  obtain ⟨h1, rfl⟩ := intsD_get n lo i d e
  refine ⟨h1, fun x H2 ⟨e1, e2⟩ => ?_⟩
  subst e1 e2
  exact ⟨.refl, m, Rp.int⟩
def intK (d : D) (k : Int → Prop) : Prop := match d with
  | .int i => k i
  | _ => False
@[simp ↓] theorem intK_int {i : Int} {k : Int → Prop} : intK (.int i) k = k i := rfl
theorem intK_of {d : D} {k : Int → Prop} (h : intK d k) : ∃ i, d = .int i ∧ k i := by
  cases d <;> first | exact ⟨_, rfl, h⟩ | exact h.elim
def diRng1 (t : DE) : DI := fun ds M S => t ds M fun d M1 => intK d fun j => (-(2 ^ 62) ≤ j ∧ j < 2 ^ 62) ∧ S (intsD 0 j.toNat) (fun _ => True) M1
def diRng2 (t u : DE) : DI := fun ds M S => t ds M fun c M1 => u ds M1 fun d M2 => intK c fun i => intK d fun j => (-(2 ^ 62) ≤ i ∧ i < 2 ^ 62 ∧ -(2 ^ 62) ≤ j ∧ j < 2 ^ 62) ∧ S (intsD i (j - i).toNat) (fun _ => True) M2
@[simp ↓] theorem diRng1_eq {t : DE} {ds : DSt} {M : DM} {S : List D → (DM → Prop) → DM → Prop} : diRng1 t ds M S = t ds M fun d M1 => intK d fun j => (-(2 ^ 62) ≤ j ∧ j < 2 ^ 62) ∧ S (intsD 0 j.toNat) (fun _ => True) M1 := rfl
@[simp ↓] theorem diRng2_eq {t u : DE} {ds : DSt} {M : DM} {S : List D → (DM → Prop) → DM → Prop} : diRng2 t u ds M S = t ds M fun c M1 => u ds M1 fun d M2 => intK c fun i => intK d fun j => (-(2 ^ 62) ≤ i ∧ i < 2 ^ 62 ∧ -(2 ^ 62) ≤ j ∧ j < 2 ^ 62) ∧ S (intsD i (j - i).toNat) (fun _ => True) M2 := rfl
theorem i_range1 {tg a : Expr} {t : DE} {p pos : Pos} (hg : Gl X "range") (hm : X.mg "range" = none) (ha : EX X a t) (hs : starEach [a] X.env = [(false, eval a X.env)] := by rfl) : IX X tg (.Call (.Name "range" p) [a] [] pos) (diRng1 t) :=
  (pi_range1 hg hm (pa_cons ha pa_nil (by rw [hs]; rfl)) hs).imp fun σ H R ⟨ds, M, S, hs, hm, t, k⟩ => ⟨ds, M, _, hs, hm, t, fun v H1 d M1 f1 r1 m1 q => by
    obtain ⟨j, rfl, ⟨h1, h2⟩, q⟩ := intK_of q
    cases r1.int_of
    exact ⟨j, rfl, h1, h2, k _ _ _ _ _ f1 m1 range_ok q⟩⟩
theorem i_range2 {tg a b : Expr} {t u : DE} {p pos : Pos} (hg : Gl X "range") (hm : X.mg "range" = none) (ha : EX X a t) (hb : EX X b u) (hs : starEach [a, b] X.env = [(false, eval a X.env), (false, eval b X.env)] := by rfl) (hs2 : starEach [b] X.env = [(false, eval b X.env)] := by rfl) :
    IX X tg (.Call (.Name "range" p) [a, b] [] pos) (diRng2 t u) :=
  (pi_range2 hg hm (pa_cons ha (pa_cons hb pa_nil (by rw [hs2]; rfl)) (by rw [hs, hs2])) hs hs2).imp fun σ H R ⟨ds, M, S, hs, hm, t, k⟩ => ⟨ds, M, _, hs, hm, t, fun v H1 c M1 f1 r1 m1 q => ⟨ds, M1, _, hs.keep (f1.keep hm), m1, q, fun v2 H2 d M2 f2 r2 m2 q2 => by
    obtain ⟨i, rfl, q3⟩ := intK_of q2
    obtain ⟨j, rfl, h, q4⟩ := intK_of q3
    cases r1.int_of
    cases r2.int_of
    exact ⟨i, j, rfl, h, k _ _ _ _ _ (f1.trans f2) m2 range_ok q4⟩⟩⟩

/-! #### enumerate, zip -/
def numD : Nat → List D → List D
  | _, [] => []
  | i, d :: ds => .tup [.int i, d] :: numD (i + 1) ds
theorem numD_get : ∀ (ds : List D) (j i : Nat) (d : D), (numD j ds)[i]? = some d → ∃ x, ds[i]? = some x ∧ d = .tup [.int ((j + i : Nat) : Int), x]
  | [], _, _, _, h => by simp [numD] at h
  | x :: r, j, 0, d, h => by simp [numD] at h; exact ⟨x, rfl, by rw [← h]; rfl⟩
  | x :: r, j, i + 1, d, h => by
    obtain ⟨y, h1, h2⟩ := numD_get r (j + 1) i d (by simpa [numD] using h)
    refine ⟨y, by simpa using h1, ?_⟩
    rw [h2, show j + 1 + i = j + (i + 1) by omega]
theorem numD_len : ∀ (ds : List D) (j : Nat), (numD j ds).length = ds.length
  | [], _ => rfl
  | _ :: r, j => by simp [numD, numD_len r (j + 1)]
def zipD : List D → List D → List D
  | x :: r, y :: t => .tup [x, y] :: zipD r t
  | _, _ => []
theorem zipD_get : ∀ (ds es : List D) (i : Nat) (d : D), (zipD ds es)[i]? = some d → ∃ x y, ds[i]? = some x ∧ es[i]? = some y ∧ d = .tup [x, y]
  | [], _, _, _, h => by simp [zipD] at h
  | _ :: _, [], _, _, h => by simp [zipD] at h
  | x :: r, y :: t, 0, d, h => by simp [zipD] at h; exact ⟨x, y, rfl, rfl, h.symm⟩
  | x :: r, y :: t, i + 1, d, h => by
    obtain ⟨a, b, h1, h2, h3⟩ := zipD_get r t i d (by simpa [zipD] using h)
    exact ⟨a, b, by simpa using h1, by simpa using h2, h3⟩
theorem zipD_len : ∀ (ds es : List D), (zipD ds es).length = min ds.length es.length
  | [], _ => by simp [zipD]
  | _ :: _, [] => by simp [zipD]
  | _ :: r, _ :: t => by simp only [zipD, List.length_cons, zipD_len r t]; omega
def diEnum (t : DE) : DI := fun ds M S => t ds M fun d M1 => itK d M1 fun xs chk => S (numD 0 xs) chk M1
@[simp ↓] theorem diEnum_eq {t : DE} {ds : DSt} {M : DM} {S : List D → (DM → Prop) → DM → Prop} : diEnum t ds M S = t ds M fun d M1 => itK d M1 fun xs chk => S (numD 0 xs) chk M1 := rfl
theorem i_enum {e : Expr} {t : DE} {p pos tpos : Pos} {elts : List Expr} {kk : Nat} (hg : Gl X "enumerate") (hm : X.mg "enumerate" = none) (he : EX X e t) (hs : starEach [e] X.env = [(false, eval e X.env)] := by rfl) :
    IX X (.Tuple elts kk tpos) (.Call (.Name "enumerate" p) [e] [] pos) (diEnum t) := by
  refine ⟨fun pins s σ H R I ⟨ds, M, S, hst, hm', t, k⟩ => ?_⟩
  refine Call_ (ld_blt I hg hm boot_enumerate (PyProof.Rows.callWith_type1 (thn ((pa_cons he pa_nil (by rw [hs]; rfl)).run pos pins s σ H (fun vs H1 => ∃ v d M1, vs = [v] ∧ Fr H M H1 M1 ∧ Rp X.K H1 d v ∧ RM X.w X.K H1 M1 ∧ itK d M1 fun xs chk => S (numD 0 xs) chk M1) I
    ⟨ds, M, _, hst, hm', t, fun v H' d M' f r m q => ⟨v, d, M', rfl, f, r, m, q⟩⟩) fun us s1 ⟨vs, H1, I1, rv, v, d, M1, ev, f1, r1, m1, q⟩ => ?_) hs rfl))
  subst ev
  cases rv with
  | cons ru rr =>
    cases rr
    obtain ⟨sk, xs, chk, q, c, eu, hp⟩ := itK_src r1 ru m1 q
    subst eu
    obtain ⟨vs, h1, r2⟩ := hp H1 M1 (.refl _) m1 c
    obtain ⟨Hh, ok⟩ := Inv.src I1 sk h1
    refine enum1_begins ok.beg ok.at_ fun h' he hit hsz hk => wpAny_pyIter_enum he ?_
    have I2 : Inv X pins σ H1 { s1 with heap := h' } := I1.kept (t' := s1.toks) hk
    have sep : ∀ a ∈ sk.src, a ≠ s1.heap.objs.size + 1 ∧ a ≠ s1.heap.objs.size := fun a ha => by
      have h : a < s1.heap.objs.size := ok.lt a ha
      exact ⟨Nat.ne_of_lt (Nat.lt_succ_of_lt h), Nat.ne_of_lt h⟩
    refine ⟨s1.heap.objs.size + 1, [s1.heap.objs.size + 1, s1.heap.objs.size], _, _, H1, rfl, I2, turn_enumK sk (s1.heap.objs.size + 1) s1.heap.objs.size sep (Nat.succ_ne_self _), ⟨⟨.none, he⟩, SrcK.st0 hit⟩, fun b hb => ?_, k _ H1 (numD 0 xs) chk M1 f1 m1 (fun i H' M' kp m c => ?_) q⟩
    · have e' : b = s1.heap.objs.size + 1 ∨ b = s1.heap.objs.size := by simpa using hb
      have hle : s1.heap.objs.size ≤ b := by
        rcases e' with z | z
        · rw [z]; exact Nat.le_add_right _ _
        · rw [z]; exact Nat.le_refl _
      exact I1.fpOk hle (I1.hok.fresh hle)
    · obtain ⟨vs, h1, h2⟩ := hp H' M' kp m c
      refine ⟨fun e => ⟨vs, h1, by rw [← h2.len, ← numD_len xs 0]; exact e⟩, fun d e => ?_⟩
      obtain ⟨y, e1, rfl⟩ := numD_get xs 0 i d e
      obtain ⟨x, e2, r2⟩ := h2.get e1
      refine ⟨⟨vs, h1, (List.getElem?_eq_some_iff.mp e2).1⟩, fun z H2 ⟨T, x', ez, nT, eH, hx⟩ => ?_⟩
      subst ez eH
      have := (hx vs h1).symm.trans e2
      cases this
      rw [Nat.zero_add]
      exact ⟨Fr.hid nT, m.hid nT, Rp.tup (SqT.of upd_same) (.cons Rp.int (.cons (r2.keep (keep_new nT)) .nil))⟩
def diZip (t u : DE) : DI := fun ds M S => t ds M fun c M1 => u ds M1 fun d M2 => itK c M2 fun xs chk => itK d M2 fun ys chk' => S (zipD xs ys) (fun M' => chk M' ∧ chk' M') M2
@[simp ↓] theorem diZip_eq {t u : DE} {ds : DSt} {M : DM} {S : List D → (DM → Prop) → DM → Prop} : diZip t u ds M S = t ds M fun c M1 => u ds M1 fun d M2 => itK c M2 fun xs chk => itK d M2 fun ys chk' => S (zipD xs ys) (fun M' => chk M' ∧ chk' M') M2 := rfl
theorem i_zip {e e2 : Expr} {t u : DE} {p pos tpos : Pos} {elts : List Expr} {kk : Nat} (hg : Gl X "zip") (hm : X.mg "zip" = none) (he : EX X e t) (he2 : EX X e2 u)
    (hs : starEach [e, e2] X.env = (false, eval e X.env) :: starEach [e2] X.env := by rfl) (hpl : (backTo pos (starEach [e2] X.env)).any (·.1) = false := by rfl) (hs2 : starEach [e2] X.env = (false, eval e2 X.env) :: starEach [] X.env := by rfl) :
    IX X (.Tuple elts kk tpos) (.Call (.Name "zip" p) [e, e2] [] pos) (diZip t u) := by
  refine ⟨fun pins s σ H R I ⟨ds, M, S, hst, hm', t, k⟩ => ?_⟩
  refine Call_ (ld_blt I hg hm PyProof.Rows.boot_zip (PyProof.Rows.callWith_type1 (thn ((pa_cons he (pa_cons he2 pa_nil hs2) hs).run pos pins s σ H (fun vs H2 => ∃ v v2 d d2 M2, vs = [v, v2] ∧ Fr H M H2 M2 ∧ Rp X.K H2 d v ∧ Rp X.K H2 d2 v2 ∧ RM X.w X.K H2 M2 ∧ itK d M2 fun xs chk => itK d2 M2 fun ys chk' => S (zipD xs ys) (fun M' => chk M' ∧ chk' M') M2) I
    ⟨ds, M, _, hst, hm', t, fun v H1 d M1 f r m q => ⟨ds, M1, _, hst.keep (f.keep hm'), m, q, fun v2 H2 d2 M2 f2 r2 m2 q2 => ⟨v, v2, d, d2, M2, rfl, f.trans f2, r.keep (f2.keep m), r2, m2, q2⟩⟩⟩) fun us s1 ⟨vs, H1, I1, rv, v, v2, d, d2, M1, ev, f1, r1, r2, m1, q⟩ => ?_) hs hpl))
  subst ev
  cases rv with
  | cons ru rr =>
    cases rr with
    | cons ru2 rr =>
      cases rr
      obtain ⟨sk, xs, chk, q, c, eu, hp⟩ := itK_src r1 ru m1 q
      obtain ⟨sl, ys, chk', q, c', eu2, hp'⟩ := itK_src r2 ru2 m1 q
      subst eu eu2
      obtain ⟨vs, h1, q1⟩ := hp H1 M1 (.refl _) m1 c
      obtain ⟨ws, h2, q2⟩ := hp' H1 M1 (.refl _) m1 c'
      obtain ⟨Hh, ok⟩ := Inv.src I1 sk h1
      obtain ⟨Hh', ok'⟩ := Inv.src I1 sl h2
      refine zip_begins2 ok.beg ok'.beg ok.at_ ok'.at_ fun h' hz hTI hTO hi1 hi2 hsz hk => wpAny_pyIter_zip hz ?_
      have I2 : Inv X pins σ H1 { s1 with heap := h' } := I1.kept (t' := s1.toks) hk
      generalize hn : s1.heap.objs.size = n at *
      have lt1 : ∀ a ∈ sk.src, a < n := fun a ha => by rw [← hn]; exact ok.lt a ha
      have lt2 : ∀ a ∈ sl.src, a < n := fun a ha => by rw [← hn]; exact ok'.lt a ha
      have ne : ∀ {a b : Nat}, a < b → (a : Addr) ≠ b := fun h => Nat.ne_of_lt h
      have ne' : ∀ {a b : Nat}, b < a → (a : Addr) ≠ b := fun h => Nat.ne_of_gt h
      have no1 : ∀ j : Nat, n ≤ j → (j : Addr) ∉ sk.src := fun j hj hm => absurd (Nat.lt_of_lt_of_le (lt1 j hm) hj) (Nat.lt_irrefl _)
      have no2 : ∀ j : Nat, n ≤ j → (j : Addr) ∉ sl.src := fun j hj hm => absurd (Nat.lt_of_lt_of_le (lt2 j hm) hj) (Nat.lt_irrefl _)
      have S2 : ZipSep2 (n + 4) (n + 2) (n + 3) n (n + 1) (n :: sk.src) ((n + 1) :: sl.src) := by
        have nn1 : ∀ (j i : Nat), i ≠ j → n ≤ j → (j : Addr) ∉ (i : Addr) :: sk.src := fun j i h1 h2 hm => (List.mem_cons.mp hm).elim (fun z => h1 z.symm) (no1 j h2)
        have nn2 : ∀ (j i : Nat), i ≠ j → n ≤ j → (j : Addr) ∉ (i : Addr) :: sl.src := fun j i h1 h2 hm => (List.mem_cons.mp hm).elim (fun z => h1 z.symm) (no2 j h2)
        exact ⟨ne (by omega), ne (by omega), ne (by omega), ne' (by omega), List.mem_cons_self, nn1 (n + 4) n (by omega) (by omega), nn1 (n + 3) n (by omega) (by omega), ne' (by omega), List.mem_cons_self, nn2 (n + 4) (n + 1) (by omega) (by omega), nn2 (n + 3) (n + 1) (by omega) (by omega), nn2 n (n + 1) (by omega) (by omega), nn1 (n + 1) n (by omega) (by omega)⟩
      refine ⟨n + 4, [n + 4, n + 2, n + 3, n, n + 1], _, _, H1, rfl, I2, turn_zipK sk sl (n + 4) (n + 2) (n + 3) n (n + 1) S2 (fun a ha => ne (lt1 a ha)) (fun a ha => ne (Nat.lt_succ_of_lt (lt2 a ha))), ⟨hz, hTI, ⟨_, _, hTO⟩, SrcK.st0 hi1, SrcK.st0 hi2⟩, fun b hb => ?_, k _ H1 (zipD xs ys) _ M1 f1 m1 (fun i H' M' kp m c => ?_) q⟩
      · have hle : n ≤ b := by
          have e' : b = n + 4 ∨ b = n + 2 ∨ b = n + 3 ∨ b = n ∨ b = n + 1 := by simpa using hb
          rcases e' with z | z | z | z | z
          · rw [z]; exact Nat.le_add_right _ _
          · rw [z]; exact Nat.le_add_right _ _
          · rw [z]; exact Nat.le_add_right _ _
          · rw [z]; exact Nat.le_refl _
          · rw [z]; exact Nat.le_add_right _ _
        exact I1.fpOk (by rw [hn]; exact hle) (I1.hok.fresh (by rw [hn]; exact hle))
      · obtain ⟨vs, h1, q1⟩ := hp H' M' kp m c.1
        obtain ⟨ws, h2, q2⟩ := hp' H' M' kp m c.2
        refine ⟨fun e => ⟨vs, ws, h1, h2, by rw [← q1.len, ← q2.len, ← zipD_len]; exact e⟩, fun d e => ?_⟩
        obtain ⟨y, y2, e1, e2, rfl⟩ := zipD_get xs ys i d e
        obtain ⟨x, e3, r3⟩ := q1.get e1
        obtain ⟨x2, e4, r4⟩ := q2.get e2
        refine ⟨⟨vs, ws, h1, h2, (List.getElem?_eq_some_iff.mp e3).1, (List.getElem?_eq_some_iff.mp e4).1⟩, fun z H2 ⟨T, x', x2', ez, nT, eH, hx, hx2⟩ => ?_⟩
        subst ez eH
        have e5 := (hx vs h1).symm.trans e3
        have e6 := (hx2 ws h2).symm.trans e4
        cases e5
        cases e6
        exact ⟨Fr.hid nT, m.hid nT, Rp.tup (SqT.of upd_same) (.cons (r3.keep (keep_new nT)) (.cons (r4.keep (keep_new nT)) .nil))⟩
end
end DL

set_option Elab.async false
set_option linter.all false
set_option maxRecDepth 100000
namespace DL
open PySem PySem.Spec PyProof.Rows L2
/-! ### data as keys -/
mutual
def nk : D → NestedKey
  | .non => .none
  | .bl b => .num (if b = true then 1 else 0)
  | .int i => .num i
  | .str x => .text x
  | .ref _ => .none
  | .ty _ => .none
  | .fl _ => .none
  | .tup ds => .tup (nks ds)
def nks : List D → List NestedKey
  | [] => []
  | d :: ds => nk d :: nks ds
end
mutual
/-- no reference in it -/
def plain : D → Bool
  | .ref _ => false
  | .ty _ => false
  | .fl _ => false
  | .tup ds => plains ds
  | _ => true
def plains : List D → Bool
  | [] => true
  | d :: ds => plain d && plains ds
end
@[simp] theorem nk_non : nk .non = .none := by unfold nk; rfl
@[simp] theorem nk_bl {b : Bool} : nk (.bl b) = .num (if b = true then 1 else 0) := by unfold nk; rfl
@[simp] theorem nk_int {i : Int} : nk (.int i) = .num i := by unfold nk; rfl
@[simp] theorem nk_str {x : Str} : nk (.str x) = .text x := by unfold nk; rfl
@[simp] theorem nk_tup {ds : List D} : nk (.tup ds) = .tup (nks ds) := by unfold nk; rfl
@[simp] theorem nks_nil : nks [] = [] := by unfold nks; rfl
@[simp] theorem nks_cons {d : D} {ds : List D} : nks (d :: ds) = nk d :: nks ds := by rw [nks]
@[simp] theorem plain_fl {ds : List D} : plain (.fl ds) = false := by unfold plain; rfl
@[simp] theorem plain_non : plain .non = true := by unfold plain; rfl
@[simp] theorem plain_bl {b : Bool} : plain (.bl b) = true := by unfold plain; rfl
@[simp] theorem plain_int {i : Int} : plain (.int i) = true := by unfold plain; rfl
@[simp] theorem plain_str {x : Str} : plain (.str x) = true := by unfold plain; rfl
@[simp] theorem plain_ref {x : Addr} : plain (.ref x) = false := by unfold plain; rfl
@[simp] theorem plain_ty {x : String} : plain (.ty x) = false := by unfold plain; rfl
@[simp] theorem plain_tup {ds : List D} : plain (.tup ds) = plains ds := by unfold plain; rfl
@[simp] theorem plains_nil : plains [] = true := by unfold plains; rfl
@[simp] theorem plains_cons {d : D} {ds : List D} : plains (d :: ds) = (plain d && plains ds) := by rw [plains]
theorem plains_all : ∀ ds : List D, plains ds = ds.all plain
  | [] => by simp
  | d :: ds => by simp [plains_all ds]
theorem nks_map : ∀ ds : List D, nks ds = ds.map nk
  | [] => by simp
  | d :: ds => by simp [nks_map ds]
mutual
theorem plain_key : ∀ k : NestedKey, plain (keyD k) = true
  | .none => by unfold keyD; simp
  | .num _ => by unfold keyD; simp
  | .text _ => by unfold keyD; simp
  | .tup ks => by unfold keyD; simp [plain_keys ks]
theorem plain_keys : ∀ ks : List NestedKey, plains (keysD ks) = true
  | [] => by unfold keysD; simp
  | k :: ks => by unfold keysD; simp [plain_key k, plain_keys ks]
end
mutual
theorem nk_key : ∀ k : NestedKey, nk (keyD k) = k
  | .none => by unfold keyD; simp
  | .num _ => by unfold keyD; simp
  | .text _ => by unfold keyD; simp
  | .tup ks => by unfold keyD; simp [nk_keys ks]
theorem nk_keys : ∀ ks : List NestedKey, nks (keysD ks) = ks
  | [] => by unfold keysD; simp
  | k :: ks => by unfold keysD; simp [nk_key k, nk_keys ks]
end

section
variable {X : Cx} {pins : List (Addr × Obj)} {σ : L2.St} {H : Hp} {s : Shared}
mutual
theorem nested_of (I : Inv X pins σ H s) : ∀ (d : D) {v : V} {u : Value}, plain d = true → Rp X.K H d v → RelV v u → NestedIs s.heap (nk d) u
  | .non, _, _, _, r, ru => by cases r.non_of; cases ru; rw [nk_non]; exact .none
  | .bl b, _, _, _, r, ru => by cases r.bl_of; cases ru; rw [nk_bl]; exact .bool rfl
  | .int i, _, _, _, r, ru => by cases r.int_of; obtain ⟨t, rfl⟩ := ru; rw [nk_int]; exact .int i t
  | .str x, _, _, _, r, ru => by cases r.str_of; obtain ⟨t, rfl⟩ := ru; rw [nk_str]; exact .text x t
  | .ref _, _, _, p, _, _ => by simp at p
  | .ty _, _, _, p, _, _ => by simp at p
  | .fl _, _, _, p, _, _ => by simp at p
  | .tup ds, _, _, p, r, ru => by
    obtain ⟨a, vs, rfl, t, rs⟩ := r.tup_of
    obtain ⟨its, rv, ⟨o, ho, hc, n, hd⟩, _⟩ := I.tuple t
    cases ru
    rw [nk_tup]
    exact .tup ho hc hd (nesteds_of I ds (by simpa using p) rs rv)
theorem nesteds_of (I : Inv X pins σ H s) : ∀ (ds : List D) {vs : List V} {us : List Value}, plains ds = true → Rps X.K H ds vs → Vals vs us → NestedAll s.heap (nks ds) us
  | [], _, _, _, r, rv => by cases r.nil_of; cases rv; rw [nks_nil]; exact .nil
  | d :: ds, _, _, p, r, rv => by
    obtain ⟨v, r', rfl, h1, h2⟩ := r.cons_of
    have p' : plain d = true ∧ plains ds = true := by simpa using p
    cases rv with
    | cons q1 q2 =>
      rw [nks_cons]
      exact .cons (nested_of I d p'.1 h1 q1) (nesteds_of I ds p'.2 h2 q2)
end
end

/-! ### == by rich comparison -/
open SeqAt in
theorem rcAt_key (x y : NestedKey) (A : Around) (s : Shared) (a b : Value) (ha : NestedIs s.heap x a) (hb : NestedIs s.heap y b) (hu : A.units + x.depth < cLine) : RcAt A s a b (decide (x = y)) := by
  have hu0 : A.units < cLine := by omega
  rw [NestedKey.decide_eq]
  cases ha with
  | none =>
    cases hb with
    | none => exact RcAt.none_none
    | bool e => exact RcAt.none_bool _
    | int j t => exact RcAt.none_int j t
    | text z t => exact RcAt.none_str z t
    | tup h1 h2 h3 h4 => exact RcAt.none_tuple ⟨_, h1, h2, _, h3⟩ hu0
  | @bool bb i ei =>
    cases hb with
    | none => exact RcAt.bool_none _
    | @bool b2 j ej =>
      have : NestedKey.beq (.num i) (.num j) = (bb == b2) := by
        subst ei ej
        cases bb <;> cases b2 <;> rfl
      rw [this]
      exact RcAt.bool_bool bb b2
    | int j t =>
      have : NestedKey.beq (.num i) (.num j) = ((if bb then 1 else 0) == j) := by
        subst ei
        rfl
      rw [this]
      exact RcAt.bool_int bb j t
    | text z t => exact RcAt.bool_str bb z t
    | tup h1 h2 h3 h4 => exact RcAt.bool_tuple bb ⟨_, h1, h2, _, h3⟩ hu0
  | int i t =>
    cases hb with
    | none => exact RcAt.int_none i t
    | @bool b2 j ej =>
      have : NestedKey.beq (.num i) (.num j) = (i == (if b2 then 1 else 0)) := by
        subst ej
        rfl
      rw [this]
      exact RcAt.int_bool i t b2
    | int j u => exact RcAt.int_int i t j u
    | text z u => exact RcAt.int_str i t z u
    | tup h1 h2 h3 h4 => exact RcAt.int_tuple i t ⟨_, h1, h2, _, h3⟩ hu0
  | text z t =>
    cases hb with
    | none => exact RcAt.str_none z t
    | bool e => exact RcAt.str_bool z t _
    | int j u => exact RcAt.str_int z t j u
    | text z2 u => exact RcAt.str_str z t z2 u
    | tup h1 h2 h3 h4 => exact RcAt.str_tuple z t ⟨_, h1, h2, _, h3⟩ hu0
  | @tup l o vs n ks h1 h2 h3 h4 =>
    have hl : s.heap.IsTuple l vs := ⟨_, h1, h2, _, h3⟩
    cases hb with
    | none => exact RcAt.tuple_none hl hu0
    | bool e => exact RcAt.tuple_bool _ hl hu0
    | int j t => exact RcAt.tuple_int j t hl hu0
    | text z t => exact RcAt.tuple_str z t hl hu0
    | @tup l' o' vs' n' ks' g1 g2 g3 g4 =>
      have hl' : s.heap.IsTuple l' vs' := ⟨_, g1, g2, _, g3⟩
      have e1 : vs.size = ks.length := by simpa using NestedAll.length _ _ h4
      have e2 : vs'.size = ks'.length := by simpa using NestedAll.length _ _ g4
      show RcAt A s (.ref l) (.ref l') (NestedKey.beqAll ks ks')
      rw [← beqAll_eq ks ks', ← e1, ← e2]
      refine RcAt.tuples hl hl' hu0 fun j j1 j2 => ?_
      have hd : A.in1.units + min (NestedKey.depthAll ks) (NestedKey.depthAll ks') < cLine := by
        have : (NestedKey.tup ks).depth = NestedKey.depthAll ks + 1 := by rw [NestedKey.depth]
        rw [this] at hu
        show A.units + 1 + _ < cLine
        omega
      have := eqAt_keys ks ks' A.in1 s vs.toList vs'.toList h4 g4 hd j (by simpa using j1) (by simpa using j2)
      simpa using this
end DL

set_option Elab.async false
set_option linter.all false
set_option maxRecDepth 100000
namespace DL
open PySem PySem.Spec PyProof.Rows L2
/-! ### operators by the kinds of their operands -/
def lstK (o : Option DO) (k : List D → Prop) : Prop := match o with
  | some (.lst xs) => k xs
  | _ => False
@[simp ↓] theorem lstK_lst {xs : List D} {k : List D → Prop} : lstK (some (.lst xs)) k = k xs := rfl
theorem lstK_of {o : Option DO} {k : List D → Prop} (h : lstK o k) : ∃ xs, o = some (.lst xs) ∧ k xs := by
  unfold lstK at h
  split at h
  · exact ⟨_, rfl, h⟩
  · exact h.elim
/-- a list that is read -/
def rdK (o : Option DO) (k : List D → Prop) : Prop := match o with
  | some (.lst xs) => k xs
  | _ => False
@[simp ↓] theorem rdK_lst {xs : List D} {k : List D → Prop} : rdK (some (.lst xs)) k = k xs := rfl
theorem rdK_of {w : World} {K : PySem.W.Frag} {H : Hp} {M : DM} {a : Addr} {k : List D → Prop} (hm : RM w K H M) (h : rdK (M a) k) : ∃ xs vs, SqL K H a vs ∧ Rps K H xs vs ∧ k xs := by
  unfold rdK at h
  split at h
  · rename_i xs e
    obtain ⟨vs, h1, h2⟩ := hm a _ e
    exact ⟨xs, vs, SqL.of h1, h2, h⟩
  · exact h.elim
section
variable {X : Cx}
theorem Fin {w : World} {K : PySem.W.Frag} {H : Hp} {M : DM} {R : D → DM → Prop} {Q : VK} {v : V} {d : D} (k : ∀ v H' d M', Fr H M H' M' → Rp K H' d v → RM w K H' M' → R d M' → Q v H') (hm : RM w K H M) (r : Rp K H d v) (q : R d M) : Q v H := k _ _ _ _ .refl r hm q

def addD (d e : D) (M : DM) (Q : D → DM → Prop) : Prop := match d, e with
  | .int i, .int j => Q (.int (i + j)) M
  | .str x, .str y => x.length + y.length ≤ sizeLine ∧ Q (.str (x ++ y)) M
  | .tup a, .tup b => a.length + b.length ≤ sizeLine ∧ Q (.tup (a ++ b)) M
  | .ref a, .ref b => lstK (M a) fun xs => lstK (M b) fun ys => xs.length + ys.length ≤ sizeLine ∧ ∀ p, M p = none → Q (.ref p) (updM M p (.lst (xs ++ ys)))
  | _, _ => False
@[simp ↓] theorem addD_int {i j : Int} {M : DM} {Q : D → DM → Prop} : addD (.int i) (.int j) M Q = Q (.int (i + j)) M := rfl
@[simp ↓] theorem addD_str {i j : Str} {M : DM} {Q : D → DM → Prop} : addD (.str i) (.str j) M Q = (i.length + j.length ≤ sizeLine ∧ Q (.str (i ++ j)) M) := rfl
@[simp ↓] theorem addD_tup {i j : List D} {M : DM} {Q : D → DM → Prop} : addD (.tup i) (.tup j) M Q = (i.length + j.length ≤ sizeLine ∧ Q (.tup (i ++ j)) M) := rfl
@[simp ↓] theorem addD_ref {a b : Addr} {M : DM} {Q : D → DM → Prop} : addD (.ref a) (.ref b) M Q = lstK (M a) fun xs => lstK (M b) fun ys => xs.length + ys.length ≤ sizeLine ∧ ∀ p, M p = none → Q (.ref p) (updM M p (.lst (xs ++ ys))) := rfl
theorem o_add : OD X (binaryOp .Add) addD := by
  intro pins s σ H x y v u Q I rx ry ⟨dx, dy, M, R, hx, hy, hm, t, k⟩
  unfold addD at t
  split at t
  · cases hx.int_of; cases hy.int_of
    exact op_add pins s σ H _ _ v u Q I rx ry ⟨_, _, rfl, rfl, Fin k hm Rp.int t⟩
  · cases hx.str_of; cases hy.str_of
    exact op_add_str pins s σ H _ _ v u Q I rx ry ⟨_, _, rfl, rfl, t.1, Fin k hm Rp.str t.2⟩
  · obtain ⟨a, vs, rfl, ta, ra⟩ := hx.tup_of
    obtain ⟨b, ws, rfl, tb, rb⟩ := hy.tup_of
    refine op_catA pins s σ H _ _ v u Q I rx ry ⟨_, _, vs, ws, rfl, rfl, ta, tb, by rw [← ra.len, ← rb.len]; exact t.1, fun e => ?_, fun e e2 => ?_, fun e e2 p hp => ?_⟩
    · subst e
      have e1 := ra.len
      rename_i ad bd
      have : ad = [] := List.eq_nil_of_length_eq_zero (by simpa using e1)
      subst this
      exact Fin k hm (Rp.tup tb rb) t.2
    · subst e2
      have e1 := rb.len
      rename_i ad bd
      have : bd = [] := List.eq_nil_of_length_eq_zero (by simpa using e1)
      subst this
      exact Fin k hm (Rp.tup ta (by rw [List.append_nil]; exact ra)) t.2
    · exact k _ _ _ _ (Fr.hid hp) (Rp.tup (SqT.of upd_same) ((ra.append rb).keep (keep_new hp))) (hm.hid hp) t.2
  · cases hx.ref_of; cases hy.ref_of
    obtain ⟨xs, e1, t1⟩ := lstK_of t
    obtain ⟨ys, e2, hl, t2⟩ := lstK_of t1
    obtain ⟨vs, h1, r1⟩ := hm _ _ e1
    obtain ⟨ws, h2, r2⟩ := hm _ _ e2
    exact op_cat pins s σ H _ _ v u Q I rx ry ⟨_, _, vs, ws, rfl, rfl, h1, h2, by rw [← r1.len, ← r2.len]; exact hl, fun p hp => k _ _ _ _ (Fr.new hp) Rp.ref (hm.new (o := .lst (xs ++ ys)) hp ⟨_, upd_same, (r1.append r2).keep (keep_new hp)⟩) (t2 p (hm.fresh hp))⟩
  · exact t.elim
/-- two ints, under a condition -/
def intsK (C : Int → Int → Prop) (g : Int → Int → D) (d e : D) (M : DM) (Q : D → DM → Prop) : Prop := match d, e with
  | .int i, .int j => C i j ∧ Q (g i j) M
  | _, _ => False
@[simp ↓] theorem intsK_int {C : Int → Int → Prop} {g : Int → Int → D} {i j : Int} {M : DM} {Q : D → DM → Prop} : intsK C g (.int i) (.int j) M Q = (C i j ∧ Q (g i j) M) := rfl
theorem o_ints {f : Value → Value → Sem Value} {C : Int → Int → Prop} {g : Int → Int → D} {gv : Int → Int → V} (h : OpR X f (rI C gv)) (hg : ∀ i j K H, Rp K H (g i j) (gv i j)) : OD X f (intsK C g) := by
  intro pins s σ H x y v u Q I rx ry ⟨dx, dy, M, R, hx, hy, hm, t, k⟩
  unfold intsK at t
  split at t
  · cases hx.int_of; cases hy.int_of
    exact h pins s σ H _ _ v u Q I rx ry ⟨_, _, rfl, rfl, t.1, Fin k hm (hg _ _ _ _) t.2⟩
  · exact t.elim
def intsK0 (g : Int → Int → D) (d e : D) (M : DM) (Q : D → DM → Prop) : Prop := match d, e with
  | .int i, .int j => Q (g i j) M
  | _, _ => False
@[simp ↓] theorem intsK0_int {g : Int → Int → D} {i j : Int} {M : DM} {Q : D → DM → Prop} : intsK0 g (.int i) (.int j) M Q = Q (g i j) M := rfl
theorem o_ints0 {f : Value → Value → Sem Value} {g : Int → Int → D} {gv : Int → Int → V} (h : OpR X f (rI0 gv)) (hg : ∀ i j K H, Rp K H (g i j) (gv i j)) : OD X f (intsK0 g) := by
  intro pins s σ H x y v u Q I rx ry ⟨dx, dy, M, R, hx, hy, hm, t, k⟩
  unfold intsK0 at t
  split at t
  · cases hx.int_of; cases hy.int_of
    exact h pins s σ H _ _ v u Q I rx ry ⟨_, _, rfl, rfl, Fin k hm (hg _ _ _ _) t⟩
  · exact t.elim
abbrev subD : R2D := intsK0 fun i j => .int (i - j)
abbrev modD : R2D := intsK (fun _ j => 0 < j) fun i j => .int (i % j)
abbrev fdivD : R2D := intsK CDivW fun i j => .int (i / j)
abbrev powD : R2D := intsK CPow fun i j => .int (i ^ j.toNat)
abbrev ltD : R2D := intsK0 fun i j => .bl (decide (i < j))
abbrev leD : R2D := intsK0 fun i j => .bl (decide (i ≤ j))
abbrev gtD : R2D := intsK0 fun i j => .bl (decide (j < i))
abbrev geD : R2D := intsK0 fun i j => .bl (decide (j ≤ i))
theorem o_sub : OD X (binaryOp .Sub) subD := o_ints0 op_sub fun _ _ _ _ => Rp.int
theorem o_mod : OD X (binaryOp .Mod) modD := o_ints op_mod fun _ _ _ _ => Rp.int
theorem o_fdiv : OD X (binaryOp .FloorDiv) fdivD := o_ints op_fdivW fun _ _ _ _ => Rp.int
theorem o_pow : OD X (binaryOp .Pow) powD := o_ints op_pow fun _ _ _ _ => Rp.int
theorem o_lt : OD X (compareOp .Lt) ltD := o_ints0 op_lt fun _ _ _ _ => Rp.bl
theorem o_le : OD X (compareOp .LtE) leD := o_ints0 op_le fun _ _ _ _ => Rp.bl
theorem o_gt : OD X (compareOp .Gt) gtD := o_ints0 op_gt fun _ _ _ _ => Rp.bl
theorem o_ge : OD X (compareOp .GtE) geD := o_ints0 op_ge fun _ _ _ _ => Rp.bl
/-- products -/
def mulD (d e : D) (M : DM) (Q : D → DM → Prop) : Prop := match d, e with
  | .int i, .int j => (CMul i j ∨ CMulW i j) ∧ Q (.int (i * j)) M
  | .str x, .int n => (0 ≤ n ∧ n ≤ 1000 ∧ x.length ≤ 1000) ∧ Q (.str (Txt.mul x n)) M
  | .ref a, .int n => lstK (M a) fun xs => (0 ≤ n ∧ n ≤ 1000 ∧ xs.length ≤ 1000) ∧ ∀ p, M p = none → Q (.ref p) (updM M p (.lst (List.replicate n.toNat xs).flatten))
  | _, _ => False
@[simp ↓] theorem mulD_int {i j : Int} {M : DM} {Q : D → DM → Prop} : mulD (.int i) (.int j) M Q = ((CMul i j ∨ CMulW i j) ∧ Q (.int (i * j)) M) := rfl
@[simp ↓] theorem mulD_str {x : Str} {n : Int} {M : DM} {Q : D → DM → Prop} : mulD (.str x) (.int n) M Q = ((0 ≤ n ∧ n ≤ 1000 ∧ x.length ≤ 1000) ∧ Q (.str (Txt.mul x n)) M) := rfl
@[simp ↓] theorem mulD_ref {a : Addr} {n : Int} {M : DM} {Q : D → DM → Prop} : mulD (.ref a) (.int n) M Q = lstK (M a) fun xs => (0 ≤ n ∧ n ≤ 1000 ∧ xs.length ≤ 1000) ∧ ∀ p, M p = none → Q (.ref p) (updM M p (.lst (List.replicate n.toNat xs).flatten)) := rfl
theorem Rps.rep {K : PySem.W.Frag} {H : Hp} {xs : List D} {vs : List V} (r : Rps K H xs vs) : ∀ n, Rps K H (List.replicate n xs).flatten (List.replicate n vs).flatten
  | 0 => .nil
  | n + 1 => by rw [List.replicate_succ, List.replicate_succ, List.flatten_cons, List.flatten_cons]; exact r.append (Rps.rep r n)
theorem mulOk_small {x : Str} {n : Int} (h0 : 0 ≤ n) (h1 : n ≤ 1000) (hx : x.length ≤ 1000) : MulOk x n := by
  have hn : n.toNat ≤ 1000 := by omega
  have hm : x.length * n.toNat ≤ 1000 * 1000 := Nat.mul_le_mul hx hn
  refine ⟨by simp; omega, fun hn1 _ => ?_, fun _ _ => ?_⟩
  · intro z
    have h3 : (2 ^ 63 - 1 : Int) / 1000 ≤ (2 ^ 63 - 1) / n := by
      apply Int.le_ediv_of_mul_le (by omega)
      have : ((2 ^ 63 - 1 : Int) / 1000) * n ≤ ((2 ^ 63 - 1 : Int) / 1000) * 1000 := Int.mul_le_mul_of_nonneg_left h1 (by decide)
      refine Int.le_trans this (by decide)
    have h4 : (1000 : Int) ≤ (2 ^ 63 - 1) / 1000 := by decide
    omega
  · have : ¬ (x.length * n.toNat > sizeLine) := by
      rw [sizeLine_eq]
      omega
    simpa [Builtin.Str.tooLong] using this
theorem o_mul : OD X (binaryOp .Mult) mulD := by
  intro pins s σ H x y v u Q I rx ry ⟨dx, dy, M, R, hx, hy, hm, t, k⟩
  unfold mulD at t
  split at t
  · cases hx.int_of; cases hy.int_of
    rcases t.1 with c | c
    · exact op_mul pins s σ H _ _ v u Q I rx ry ⟨_, _, rfl, rfl, c, Fin k hm Rp.int t.2⟩
    · exact op_mulW pins s σ H _ _ v u Q I rx ry ⟨_, _, rfl, rfl, c, Fin k hm Rp.int t.2⟩
  · cases hx.str_of; cases hy.int_of
    obtain ⟨tx, rfl⟩ := rx
    obtain ⟨ty, rfl⟩ := ry
    obtain ⟨⟨h0, h1, h2⟩, t⟩ := t
    exact SB.mul (mulOk_small h0 h1 h2) fun t' kk => ⟨.str _, H, I.tok _, ⟨_, rfl⟩, Fin k hm Rp.str t⟩
  · cases hx.ref_of; cases hy.int_of
    obtain ⟨xs, e1, ⟨h0, h1, h2⟩, t2⟩ := lstK_of t
    obtain ⟨vs, h3, r1⟩ := hm _ _ e1
    refine op_rep pins s σ H _ _ v u Q I rx ry ⟨_, _, vs, rfl, rfl, h3, by omega, by omega, ?_, fun p hp => k _ _ _ _ (Fr.new hp) Rp.ref (hm.new (o := .lst _) hp ⟨_, upd_same, (r1.rep _).keep (keep_new hp)⟩) (t2 p (hm.fresh hp))⟩
    have hl := r1.len
    refine Nat.le_trans (Nat.mul_le_mul (show vs.length ≤ 1000 by omega) (Int.toNat_le.mpr h1)) (by decide)
  · exact t.elim

/-! ### == and != -/
def eqD (d e : D) (M : DM) (Q : D → DM → Prop) : Prop := match d, e with
  | .int i, .int j => Q (.bl (decide (i = j))) M
  | .str i, .str j => Q (.bl (decide (i = j))) M
  | .bl i, .bl j => Q (.bl (decide (i = j))) M
  | .ref a, .ref b => rdK (M a) fun xs => rdK (M b) fun ys => plains xs = true ∧ plains ys = true ∧ NestedKey.depthAll (nks xs) ≤ 30 ∧ Q (.bl (decide (nks xs = nks ys))) M
  | .fl xs, .ref b => rdK (M b) fun ys => plains xs = true ∧ plains ys = true ∧ NestedKey.depthAll (nks xs) ≤ 30 ∧ Q (.bl (decide (nks xs = nks ys))) M
  | d, e => plain d = true ∧ plain e = true ∧ (nk d).depth ≤ 30 ∧ Q (.bl (decide (nk d = nk e))) M
@[simp ↓] theorem eqD_fl {xs : List D} {b : Addr} {M : DM} {Q : D → DM → Prop} : eqD (.fl xs) (.ref b) M Q = rdK (M b) fun ys => plains xs = true ∧ plains ys = true ∧ NestedKey.depthAll (nks xs) ≤ 30 ∧ Q (.bl (decide (nks xs = nks ys))) M := rfl
@[simp ↓] theorem eqD_int {i j : Int} {M : DM} {Q : D → DM → Prop} : eqD (.int i) (.int j) M Q = Q (.bl (decide (i = j))) M := rfl
@[simp ↓] theorem eqD_str {i j : Str} {M : DM} {Q : D → DM → Prop} : eqD (.str i) (.str j) M Q = Q (.bl (decide (i = j))) M := rfl
@[simp ↓] theorem eqD_bl {i j : Bool} {M : DM} {Q : D → DM → Prop} : eqD (.bl i) (.bl j) M Q = Q (.bl (decide (i = j))) M := rfl
@[simp ↓] theorem eqD_tup {i j : List D} {M : DM} {Q : D → DM → Prop} : eqD (.tup i) (.tup j) M Q = (plain (.tup i) = true ∧ plain (.tup j) = true ∧ (nk (.tup i)).depth ≤ 30 ∧ Q (.bl (decide (nk (.tup i) = nk (.tup j)))) M) := rfl
@[simp ↓] theorem eqD_ref {a b : Addr} {M : DM} {Q : D → DM → Prop} : eqD (.ref a) (.ref b) M Q = rdK (M a) fun xs => rdK (M b) fun ys => plains xs = true ∧ plains ys = true ∧ NestedKey.depthAll (nks xs) ≤ 30 ∧ Q (.bl (decide (nks xs = nks ys))) M := rfl
open SeqAt in
theorem keys_beq (xs ys : List NestedKey) : decide (xs = ys) = NestedKey.beqAll xs ys := by
  have := NestedKey.decide_eq (.tup xs) (.tup ys)
  simp only [NestedKey.tup.injEq] at this
  exact this
open SeqAt in
theorem rc_lists {A : Around} {s : Shared} {a b : Addr} {xs ys : List NestedKey} {vs ws : Array Value} (h1 : s.heap.IsList a vs) (h2 : s.heap.IsList b ws) (g1 : NestedAll s.heap xs vs.toList) (g2 : NestedAll s.heap ys ws.toList) (hu : A.units + 1 + NestedKey.depthAll xs < cLine) :
    RcAt A s (.ref a) (.ref b) (decide (xs = ys)) := by
  have e1 : vs.size = xs.length := by simpa using NestedAll.length _ _ g1
  have e2 : ws.size = ys.length := by simpa using NestedAll.length _ _ g2
  by_cases hl : vs.size = ws.size
  · rw [keys_beq, ← beqAll_eq xs ys]
    have e3 : (xs.length == ys.length) = true := by simp; omega
    rw [e3, Bool.and_true, show min xs.length ys.length = vs.size by omega]
    refine RcAt.lists h1 h2 hl (by omega) fun j j1 j2 => ?_
    have hd : A.in1.units + min (NestedKey.depthAll xs) (NestedKey.depthAll ys) < cLine := by
      show A.units + 1 + _ < cLine
      omega
    have := eqAt_keys xs ys A.in1 s vs.toList ws.toList g1 g2 hd j (by simpa using j1) (by simpa using j2)
    simpa using this
  · have : decide (xs = ys) = false := decide_eq_false fun e => hl (by rw [e1, e2, e])
    rw [this]
    exact RcAt.lists_lengths h1 h2 (by simpa using hl) (by omega)
theorem eq_plain {pins : List (Addr × Obj)} {s : Shared} {σ : L2.St} {H : Hp} {x y : V} {v u : Value} {Q : VK} {d e : D} (hu : X.A.units + 64 < cLine) (I : Inv X pins σ H s) (rx : RelV x v) (ry : RelV y u) (hx : Rp X.K H d x) (hy : Rp X.K H e y) (p1 : plain d = true) (p2 : plain e = true) (hd : (nk d).depth ≤ 30) (q : Q (.bl (decide (nk d = nk e))) H) :
    wpAny (model X.prog X.w) X.A (compareOp .Eq v u) (L2.EP X pins σ Q) X.xe s :=
  rcAt_key _ _ X.A s v u (nested_of I d p1 hx rx) (nested_of I e p2 hy ry) (by omega) X.prog X.w X.xe _ ⟨.bl _, H, I, rfl, q⟩
theorem o_eq (hu : X.A.units + 64 < cLine) : OD X (compareOp .Eq) eqD := by
  intro pins s σ H x y v u Q I rx ry ⟨dx, dy, M, R, hx, hy, hm, t, k⟩
  unfold eqD at t
  split at t
  · cases hx.int_of; cases hy.int_of
    exact op_eq pins s σ H _ _ v u Q I rx ry ⟨rfl, by simp only [V.int.injEq]; exact Fin k hm Rp.bl t⟩
  · cases hx.str_of; cases hy.str_of
    exact op_eq pins s σ H _ _ v u Q I rx ry ⟨rfl, by simp only [V.str.injEq]; exact Fin k hm Rp.bl t⟩
  · cases hx.bl_of; cases hy.bl_of
    exact op_eq pins s σ H _ _ v u Q I rx ry ⟨rfl, by simp only [V.bl.injEq]; exact Fin k hm Rp.bl t⟩
  · cases hx.ref_of; cases hy.ref_of
    obtain ⟨xs, vs, s1, r1, t1⟩ := rdK_of hm t
    obtain ⟨ys, ws, s2, r2, p1, p2, hd, t2⟩ := rdK_of hm t1
    obtain ⟨its, rv, pl, _⟩ := I.list s1
    obtain ⟨its2, rv2, pl2, _⟩ := I.list s2
    cases rx; cases ry
    exact rc_lists (A := X.A) pl.isList pl2.isList (nesteds_of I xs p1 r1 rv) (nesteds_of I ys p2 r2 rv2) (by omega) X.prog X.w X.xe _ ⟨.bl _, H, I, rfl, Fin k hm Rp.bl t2⟩
  · obtain ⟨a, vs, rfl, s1, r1⟩ := hx.fl_of
    cases hy.ref_of
    obtain ⟨ys, ws, s2, r2, p1, p2, hd, t2⟩ := rdK_of hm t
    obtain ⟨its, rv, pl, _⟩ := I.list s1.sqL
    obtain ⟨its2, rv2, pl2, _⟩ := I.list s2
    cases rx; cases ry
    exact rc_lists (A := X.A) pl.isList pl2.isList (nesteds_of I _ p1 r1 rv) (nesteds_of I ys p2 r2 rv2) (by omega) X.prog X.w X.xe _ ⟨.bl _, H, I, rfl, Fin k hm Rp.bl t2⟩
  · exact eq_plain hu I rx ry hx hy t.1 t.2.1 t.2.2.1 (Fin k hm Rp.bl t.2.2.2)
/-- is, is not of None, of bools -/
def isD (d e : D) (M : DM) (Q : D → DM → Prop) : Prop := match d, e with
  | .bl i, .bl j => Q (.bl (decide (i = j))) M
  | .non, .non => Q (.bl true) M
  | .bl _, .non => Q (.bl false) M
  | .int _, .non => Q (.bl false) M
  | .str _, .non => Q (.bl false) M
  | .tup _, .non => Q (.bl false) M
  | .ref _, .non => Q (.bl false) M
  | _, _ => False
def isnD (d e : D) (M : DM) (Q : D → DM → Prop) : Prop := isD d e M fun r M' => blK r fun b => Q (.bl (!b)) M'
@[simp ↓] theorem isD_bl {i j : Bool} {M : DM} {Q : D → DM → Prop} : isD (.bl i) (.bl j) M Q = Q (.bl (decide (i = j))) M := rfl
@[simp ↓] theorem isD_nn {M : DM} {Q : D → DM → Prop} : isD .non .non M Q = Q (.bl true) M := rfl
@[simp ↓] theorem isD_bn {i : Bool} {M : DM} {Q : D → DM → Prop} : isD (.bl i) .non M Q = Q (.bl false) M := rfl
@[simp ↓] theorem isD_in {i : Int} {M : DM} {Q : D → DM → Prop} : isD (.int i) .non M Q = Q (.bl false) M := rfl
@[simp ↓] theorem isD_sn {i : Str} {M : DM} {Q : D → DM → Prop} : isD (.str i) .non M Q = Q (.bl false) M := rfl
@[simp ↓] theorem isD_tn {i : List D} {M : DM} {Q : D → DM → Prop} : isD (.tup i) .non M Q = Q (.bl false) M := rfl
@[simp ↓] theorem isD_rn {i : Addr} {M : DM} {Q : D → DM → Prop} : isD (.ref i) .non M Q = Q (.bl false) M := rfl
@[simp ↓] theorem isnD_eq {d e : D} {M : DM} {Q : D → DM → Prop} : isnD d e M Q = isD d e M fun r M' => blK r fun b => Q (.bl (!b)) M' := rfl
theorem o_is : OD X (compareOp .Is) isD := by
  intro pins s σ H x y v u Q I rx ry ⟨dx, dy, M, R, hx, hy, hm, t, k⟩
  unfold isD at t
  split at t
  · cases hx.bl_of; cases hy.bl_of
    exact op_isBl pins s σ H _ _ v u Q I rx ry ⟨_, _, rfl, rfl, Fin k hm Rp.bl t⟩
  · cases hx.non_of; cases hy.non_of
    exact op_isN pins s σ H _ _ v u Q I rx ry ⟨rfl, Fin k hm Rp.bl t⟩
  · cases hx.bl_of; cases hy.non_of
    exact op_isN pins s σ H _ _ v u Q I rx ry ⟨rfl, Fin k hm Rp.bl t⟩
  · cases hx.int_of; cases hy.non_of
    exact op_isN pins s σ H _ _ v u Q I rx ry ⟨rfl, Fin k hm Rp.bl t⟩
  · cases hx.str_of; cases hy.non_of
    exact op_isN pins s σ H _ _ v u Q I rx ry ⟨rfl, Fin k hm Rp.bl t⟩
  · obtain ⟨a, vs, rfl, _⟩ := hx.tup_of; cases hy.non_of
    exact op_isN pins s σ H _ _ v u Q I rx ry ⟨rfl, Fin k hm Rp.bl t⟩
  · cases hx.ref_of; cases hy.non_of
    exact op_isN pins s σ H _ _ v u Q I rx ry ⟨rfl, Fin k hm Rp.bl t⟩
  · exact t.elim
theorem o_isn : OD X (compareOp .IsNot) isnD := by
  intro pins s σ H x y v u Q I rx ry ⟨dx, dy, M, R, hx, hy, hm, t, k⟩
  unfold isnD isD at t
  split at t
  · cases hx.bl_of; cases hy.bl_of
    exact op_notBl pins s σ H _ _ v u Q I rx ry ⟨_, _, rfl, rfl, Fin k hm Rp.bl t⟩
  · cases hx.non_of; cases hy.non_of
    exact op_notN pins s σ H _ _ v u Q I rx ry ⟨rfl, Fin k hm Rp.bl t⟩
  · cases hx.bl_of; cases hy.non_of
    exact op_notN pins s σ H _ _ v u Q I rx ry ⟨rfl, Fin k hm Rp.bl t⟩
  · cases hx.int_of; cases hy.non_of
    exact op_notN pins s σ H _ _ v u Q I rx ry ⟨rfl, Fin k hm Rp.bl t⟩
  · cases hx.str_of; cases hy.non_of
    exact op_notN pins s σ H _ _ v u Q I rx ry ⟨rfl, Fin k hm Rp.bl t⟩
  · obtain ⟨a, vs, rfl, _⟩ := hx.tup_of; cases hy.non_of
    exact op_notN pins s σ H _ _ v u Q I rx ry ⟨rfl, Fin k hm Rp.bl t⟩
  · cases hx.ref_of; cases hy.non_of
    exact op_notN pins s σ H _ _ v u Q I rx ry ⟨rfl, Fin k hm Rp.bl t⟩
  · exact t.elim
end
end DL

set_option Elab.async false
set_option linter.all false
set_option maxRecDepth 100000
namespace DL
open PySem PySem.Spec PyProof.Rows L2
/-! ### dicts -/
section
variable {κ : Type} [DecidableEq κ]
def getA : List (κ × D) → κ → Option D
  | [], _ => none
  | (j, d) :: r, k => if j = k then some d else getA r k
def hasA (kvs : List (κ × D)) (k : κ) : Bool := (getA kvs k).isSome
def mapA (k : κ) (d : D) : List (κ × D) → List (κ × D)
  | [] => []
  | (j, e) :: r => (if j = k then (j, d) else (j, e)) :: mapA k d r
def putA (kvs : List (κ × D)) (k : κ) (d : D) : List (κ × D) := if (getA kvs k).isSome then mapA k d kvs else kvs ++ [(k, d)]
theorem getA_map (k : κ) (d : D) (j : κ) : ∀ kvs : List (κ × D), getA (mapA k d kvs) j = if j = k then (getA kvs j).map fun _ => d else getA kvs j
  | [] => by unfold mapA; unfold getA; split <;> rfl
  | (i, e) :: r => by
    unfold mapA getA
    rw [getA_map k d j r]
    by_cases h1 : i = k
    · rw [if_pos h1]
      by_cases h2 : i = j
      · subst h1 h2; simp
      · rw [if_neg h2, if_neg h2]
    · rw [if_neg h1]
      by_cases h2 : i = j
      · subst h2; simp [h1]
      · rw [if_neg h2, if_neg h2]
theorem getA_snoc (k : κ) (d : D) (j : κ) : ∀ kvs : List (κ × D), getA (kvs ++ [(k, d)]) j = (getA kvs j).or (if k = j then some d else none)
  | [] => by simp [getA]
  | (i, e) :: r => by
    rw [List.cons_append]
    unfold getA
    split
    · rfl
    · exact getA_snoc k d j r
theorem getA_put (kvs : List (κ × D)) (k j : κ) (d : D) : getA (putA kvs k d) j = if j = k then some d else getA kvs j := by
  unfold putA
  split
  · rename_i h
    rw [getA_map]
    by_cases e : j = k
    · subst e
      rw [if_pos rfl, if_pos rfl]
      cases q : getA kvs j with
      | none => rw [q] at h; simp at h
      | some x => rfl
    · rw [if_neg e, if_neg e]
  · rename_i h
    rw [getA_snoc]
    by_cases e : j = k
    · subst e
      cases q : getA kvs j with
      | none => simp
      | some x => rw [q] at h; simp at h
    · rw [if_neg e]
      cases q : getA kvs j with
      | none => simp [Ne.symm e]
      | some x => rfl
theorem mapA_keys (k : κ) (d : D) : ∀ kvs : List (κ × D), (mapA k d kvs).map (·.1) = kvs.map (·.1)
  | [] => rfl
  | (i, e) :: r => by
    unfold mapA
    rw [List.map_cons, List.map_cons, mapA_keys k d r]
    split <;> rfl
theorem getA_mem (k : κ) : ∀ kvs : List (κ × D), (getA kvs k).isSome = true ↔ k ∈ kvs.map (·.1)
  | [] => by simp [getA]
  | (i, e) :: r => by
    unfold getA
    by_cases h : i = k
    · simp [h]
    · rw [if_neg h, getA_mem k r]
      simp [Ne.symm h]
theorem putA_nodup {kvs : List (κ × D)} (n : (kvs.map (·.1)).Nodup) (k : κ) (d : D) : ((putA kvs k d).map (·.1)).Nodup := by
  unfold putA
  split
  · rw [mapA_keys]; exact n
  · rename_i h
    have : k ∉ kvs.map (·.1) := fun q => h ((getA_mem k kvs).mpr q)
    rw [List.map_append, List.nodup_append]
    refine ⟨n, by simp, fun a ha b hb => ?_⟩
    have : b = k := by simpa using hb
    subst this
    intro e
    subst e
    contradiction
theorem mapA_len (k : κ) (d : D) : ∀ kvs : List (κ × D), (mapA k d kvs).length = kvs.length
  | [] => rfl
  | (i, e) :: r => by unfold mapA; simp [mapA_len k d r]
theorem putA_len (kvs : List (κ × D)) (k : κ) (d : D) : (putA kvs k d).length ≤ kvs.length + 1 := by
  unfold putA
  split
  · rw [mapA_len]; omega
  · simp
end

/-! #### texts as keys -/
section
variable {K : PySem.W.Frag} {H : Hp}
theorem RkS.get {k : Str} : ∀ {x : List (Str × D)} {q : List (Key × V)}, RkS K H x q → (∀ d, getA x k = some d → ∃ v, valV q (.inr k) = some v ∧ Rp K H d v) ∧ (getA x k = none → valV q (.inr k) = none)
  | [], q, h => by cases h; exact ⟨fun d e => by simp [getA] at e, fun _ => rfl⟩
  | (j, e) :: r, q, ⟨v, t, eq, h1, h2⟩ => by
    subst eq
    obtain ⟨i1, i2⟩ := RkS.get (k := k) h2
    unfold getA
    by_cases hj : j = k
    · subst hj
      rw [if_pos rfl, valV_pos rfl]
      refine ⟨fun d e => ?_, fun e => by cases e⟩
      cases e
      exact ⟨v, rfl, h1⟩
    · rw [if_neg hj, valV_neg (fun z => hj (Sum.inr.inj z))]
      exact ⟨i1, i2⟩
theorem RkS.has {k : Str} {x : List (Str × D)} {q : List (Key × V)} (h : RkS K H x q) : (valV q (.inr k)).isSome = (getA x k).isSome := by
  obtain ⟨h1, h2⟩ := h.get (k := k)
  cases e : getA x k with
  | none => rw [h2 e]; rfl
  | some d => obtain ⟨v, e2, _⟩ := h1 d e; rw [e2]; rfl
theorem RkS.map {k : Str} {d : D} {v : V} (hr : Rp K H d v) : ∀ {x : List (Str × D)} {q : List (Key × V)}, RkS K H x q → RkS K H (mapA k d x) (q.map fun kv => if kv.1 = Sum.inr k then (kv.1, v) else kv)
  | [], q, h => by cases h; rfl
  | (j, e) :: r, q, ⟨u, t, eq, h1, h2⟩ => by
    subst eq
    unfold mapA
    rw [List.map_cons]
    by_cases hj : j = k
    · subst hj
      rw [if_pos rfl, if_pos rfl]
      exact ⟨v, _, rfl, hr, RkS.map hr h2⟩
    · rw [if_neg hj, if_neg (fun z => hj (Sum.inr.inj z))]
      exact ⟨u, _, rfl, h1, RkS.map hr h2⟩
theorem RkS.snoc {k : Str} {d : D} {v : V} (hr : Rp K H d v) : ∀ {x : List (Str × D)} {q : List (Key × V)}, RkS K H x q → RkS K H (x ++ [(k, d)]) (q ++ [(.inr k, v)])
  | [], q, h => by cases h; exact ⟨v, [], rfl, hr, rfl⟩
  | (j, e) :: r, q, ⟨u, t, eq, h1, h2⟩ => by subst eq; exact ⟨u, _, rfl, h1, RkS.snoc hr h2⟩
theorem RkS.put {k : Str} {d : D} {v : V} (hr : Rp K H d v) {x : List (Str × D)} {q : List (Key × V)} (h : RkS K H x q) : RkS K H (putA x k d) (putK q (.inr k) v) := by
  unfold putA putK
  rw [valV_any, h.has]
  split
  · exact RkS.map hr h
  · exact RkS.snoc hr h
theorem RkS.len : ∀ {x : List (Str × D)} {q : List (Key × V)}, RkS K H x q → x.length = q.length
  | [], q, h => by cases h; rfl
  | (j, e) :: r, q, ⟨u, t, eq, h1, h2⟩ => by subst eq; simp [RkS.len h2]
end

/-! #### tuples as keys -/
/-- the entries, with values -/
def RX (K : PySem.W.Frag) (H : Hp) : List (NestedKey × D) → List (NestedKey × Addr × Value) → Prop
  | [], q => q = []
  | (k, d) :: r, q => ∃ a v u t, q = (k, a, u) :: t ∧ Rp K H (keyD k) (.ref a) ∧ k.depth ≤ 8 ∧ Rp K H d v ∧ RelV v u ∧ RX K H r t
section
variable {K : PySem.W.Frag} {H : Hp}
theorem RX.get {k : NestedKey} : ∀ {x : List (NestedKey × D)} {q : List (NestedKey × Addr × Value)}, RX K H x q → (∀ d, getA x k = some d → ∃ a v u, atKey q k = some (a, u) ∧ Rp K H d v ∧ RelV v u) ∧ (getA x k = none → atKey q k = none)
  | [], q, h => by cases h; exact ⟨fun d e => by simp [getA] at e, fun _ => rfl⟩
  | (j, e) :: r, q, ⟨a, v, u, t, eq, h1, h2, h3, h4, h5⟩ => by
    subst eq
    obtain ⟨i1, i2⟩ := RX.get (k := k) h5
    unfold getA
    by_cases hj : j = k
    · subst hj
      rw [if_pos rfl]
      refine ⟨fun d e => ?_, fun e => by cases e⟩
      cases e
      exact ⟨a, v, u, by simp [atKey], h3, h4⟩
    · rw [if_neg hj]
      have : atKey ((j, a, u) :: t) k = atKey t k := by simp [atKey, List.find?_cons, hj]
      rw [this]
      exact ⟨i1, i2⟩
theorem RX.has {k : NestedKey} {x : List (NestedKey × D)} {q : List (NestedKey × Addr × Value)} (h : RX K H x q) : (atKey q k).isSome = (getA x k).isSome := by
  obtain ⟨h1, h2⟩ := h.get (k := k)
  cases e : getA x k with
  | none => rw [h2 e]; rfl
  | some d => obtain ⟨a, v, u, e2, _⟩ := h1 d e; rw [e2]; rfl
theorem RX.keys : ∀ {x : List (NestedKey × D)} {q : List (NestedKey × Addr × Value)}, RX K H x q → q.map (·.1) = x.map (·.1)
  | [], q, h => by cases h; rfl
  | (j, e) :: r, q, ⟨a, v, u, t, eq, h1, h2, h3, h4, h5⟩ => by subst eq; simp [RX.keys h5]
theorem RX.map {k : NestedKey} {d : D} {v : V} {u : Value} (hr : Rp K H d v) (ru : RelV v u) : ∀ {x : List (NestedKey × D)} {q : List (NestedKey × Addr × Value)}, RX K H x q → RX K H (mapA k d x) (q.map (putAt k u))
  | [], q, h => by cases h; rfl
  | (j, e) :: r, q, ⟨a, v', u', t, eq, h1, h2, h3, h4, h5⟩ => by
    subst eq
    unfold mapA
    rw [List.map_cons]
    by_cases hj : j = k
    · subst hj
      rw [if_pos rfl, show putAt j u (j, a, u') = (j, a, u) by simp [putAt]]
      exact ⟨a, v, u, _, rfl, h1, h2, hr, ru, RX.map hr ru h5⟩
    · rw [if_neg hj, show putAt k u (j, a, u') = (j, a, u') by simp [putAt, hj]]
      exact ⟨a, v', u', _, rfl, h1, h2, h3, h4, RX.map hr ru h5⟩
theorem RX.snoc {k : NestedKey} {b : Addr} {d : D} {v : V} {u : Value} (hk : Rp K H (keyD k) (.ref b)) (hd : k.depth ≤ 8) (hr : Rp K H d v) (ru : RelV v u) : ∀ {x : List (NestedKey × D)} {q : List (NestedKey × Addr × Value)}, RX K H x q → RX K H (x ++ [(k, d)]) (q ++ [(k, b, u)])
  | [], q, h => by cases h; exact ⟨b, v, u, [], rfl, hk, hd, hr, ru, rfl⟩
  | (j, e) :: r, q, ⟨a, v', u', t, eq, h1, h2, h3, h4, h5⟩ => by subst eq; exact ⟨a, v', u', _, rfl, h1, h2, h3, h4, RX.snoc hk hd hr ru h5⟩
theorem RX.put {k : NestedKey} {b : Addr} {d : D} {v : V} {u : Value} (hk : Rp K H (keyD k) (.ref b)) (hd : k.depth ≤ 8) (hr : Rp K H d v) (ru : RelV v u) {x : List (NestedKey × D)} {q : List (NestedKey × Addr × Value)} (h : RX K H x q) : RX K H (putA x k d) (storedH q k b u) := by
  unfold putA storedH
  rw [h.has]
  split
  · exact RX.map hr ru h
  · exact RX.snoc hk hd hr ru h
/-- back to V -/
theorem RX.close {w : World} {P : Program} : ∀ {x : List (NestedKey × D)} {q : List (NestedKey × Addr × Value)}, RX K H x q → ∃ es, RkT K H x es ∧ Paired (fun (p : NestedKey × Addr × V) (e : DictEntry) => e.hash = p.1.hash w ∧ e.key = .ref p.2.1 ∧ RelV p.2.2 e.val) es (q.map (entryOfKey (nestedKind P w)))
  | [], q, h => by cases h; exact ⟨[], rfl, .nil⟩
  | (j, e) :: r, q, ⟨a, v, u, t, eq, h1, h2, h3, h4, h5⟩ => by
    subst eq
    obtain ⟨es, i1, i2⟩ := RX.close (w := w) (P := P) h5
    exact ⟨(j, a, v) :: es, ⟨a, v, es, rfl, h1, h2, h3, i1⟩, .cons ⟨rfl, rfl, h4⟩ i2⟩
theorem RX.open_ {w : World} {P : Program} : ∀ {x : List (NestedKey × D)} {es : List (NestedKey × Addr × V)} {ds : List DictEntry}, RkT K H x es → Paired (fun (p : NestedKey × Addr × V) (e : DictEntry) => e.hash = p.1.hash w ∧ e.key = .ref p.2.1 ∧ RelV p.2.2 e.val) es ds →
    ∃ q, RX K H x q ∧ ds = q.map (entryOfKey (nestedKind P w))
  | [], es, ds, h, p => by cases h; cases p; exact ⟨[], rfl, rfl⟩
  | (j, e) :: r, es, ds, ⟨a, v, t, eq, h1, h2, h3, h4⟩, p => by
    subst eq
    cases p with
    | @cons _ de _ dr hq pr =>
      obtain ⟨q, i1, i2⟩ := RX.open_ (w := w) (P := P) h4 pr
      refine ⟨(j, a, de.val) :: q, ⟨a, v, de.val, q, rfl, h1, h2, h3, hq.2.2, i1⟩, ?_⟩
      rw [List.map_cons, ← i2]
      obtain ⟨hh, kk, vv⟩ := de
      obtain ⟨q1, q2, q3⟩ := hq
      simp only at q1 q2
      subst q1 q2
      rfl
end
section
variable {X : Cx} {pins : List (Addr × Obj)} {σ : L2.St} {H : Hp} {s : Shared} {M : DM} {a : Addr}
theorem RX.is (I : Inv X pins σ H s) : ∀ {x : List (NestedKey × D)} {q : List (NestedKey × Addr × Value)}, RX X.K H x q → ∀ y ∈ q, (nestedKind X.prog X.w).is s.heap y.1 y.2.1
  | [], q, h => by cases h; intro y hy; simp at hy
  | (j, e) :: r, q, ⟨a, v, u, t, eq, h1, h2, h3, h4, h5⟩ => by
    subst eq
    intro y hy
    rcases List.mem_cons.mp hy with z | z
    · subst z
      have := nested_of I (keyD j) (plain_key j) h1 (u := .ref a) rfl
      rw [nk_key] at this
      exact ⟨this, h2⟩
    · exact RX.is I h5 y z
theorem dT_open (I : Inv X pins σ H s) (hm : RM X.w X.K H M) {kvs : List (NestedKey × D)} (e : M a = some (.dT kvs)) :
    ∃ q, s.heap.DictOfH (nestedKind X.prog X.w) a q ∧ RX X.K H kvs q ∧ (a == sysModules) = false ∧ (kvs.map (·.1)).Nodup ∧ kvs.length ≤ sizeLine ∧ ∃ φ, H a = some (.ext φ) := by
  obtain ⟨es, φ, h1, h2, h3, h4, h5⟩ := hm a _ e
  obtain ⟨p, _, _⟩ := I.hok a _ h1
  obtain ⟨hs, o, ds, ep, ho, hx, hd, hp⟩ := (h2 s.heap).mp p
  obtain ⟨q, i1, i2⟩ := RX.open_ (P := X.prog) (w := X.w) h3 hp
  exact ⟨q, ⟨o, ds, ep, ho, hx, hd, i2, RX.is I i1, by rw [i1.keys]; exact h4⟩, i1, hs, h4, h5, φ, h1⟩
/-- what a raw dict's description is -/
def exT (w : World) (a : Addr) (es : List (NestedKey × Addr × V)) : HO := .ext fun h => DRaw w a es h
theorem exT_ok {P : Program} {w : World} {H : Hp} {h : Heap} {a : Addr} {es : List (NestedKey × Addr × V)} (d : DRaw w a es h) : ObjOk P w H h a (exT w a es) := by
  refine ⟨d, ?_, fun h1 h2 p k => ?_⟩
  · obtain ⟨_, o, _, _, ho, _⟩ := d
    exact ⟨o, ho⟩
  · obtain ⟨hs, o, ds, ep, ho, r⟩ := p
    exact ⟨hs, o, ds, ep, k o ho, r⟩
/-- {} with tuples as keys to come -/
def dNewT : DE := fun _ M Q => ∀ p, M p = none → Q (.ref p) (updM M p (.dT []))
def dNewS : DE := fun _ M Q => ∀ p, M p = none → Q (.ref p) (updM M p (.dS []))
@[simp ↓] theorem dNewT_eq {ds : DSt} {M : DM} {Q : D → DM → Prop} : dNewT ds M Q = ∀ p, M p = none → Q (.ref p) (updM M p (.dT [])) := rfl
@[simp ↓] theorem dNewS_eq {ds : DSt} {M : DM} {Q : D → DM → Prop} : dNewS ds M Q = ∀ p, M p = none → Q (.ref p) (updM M p (.dS [])) := rfl
theorem e_newS {pos : Pos} : EX X (.Dict [] [] pos) dNewS := pe_dnewK.imp fun σ H Q ⟨ds, M, R, hs, hm, t, k⟩ p hp =>
  k _ _ _ _ (Fr.new hp) Rp.ref (hm.new (o := .dS []) hp ⟨[], upd_same, rfl⟩) (t p (hm.fresh hp))
theorem e_newT {pos : Pos} : EX X (.Dict [] [] pos) dNewT := ⟨fun pins s σ H Q I ⟨ds, M, R, hs, hm, t, k⟩ => by
  have hp : H s.heap.objs.size = none := I.hok.fresh (Nat.le_refl _)
  have raw : DRaw X.w s.heap.objs.size [] (s.heap.push { cls := .type "dict", data := .dict #[] }) :=
    ⟨beq_false_of_ne (Nat.ne_of_gt I.big), _, #[], 0, Heap.get?_push_size _ rfl, ⟨rfl, rfl, rfl⟩, rfl, .nil⟩
  refine wpAny_Dict_empty ⟨.ref s.heap.objs.size, _, I.laid (a := s.heap.objs.size) (o := exT X.w s.heap.objs.size []) (t' := s.toks) (fun _ _ q => Heap.get?_push_of_some _ q) (Nat.le_refl _) (exT_ok raw), rfl, ?_⟩
  exact k _ _ _ _ (Fr.new hp) Rp.ref (hm.new (o := .dT []) hp ⟨[], _, upd_same, fun _ => Iff.rfl, rfl, List.nodup_nil, Nat.zero_le _⟩) (t _ (hm.fresh hp))⟩
end
end DL

set_option Elab.async false
set_option linter.all false
set_option maxRecDepth 100000
namespace DL
open PySem PySem.Spec PyProof.Rows L2
/-! ### o[i] -/
def dSK (o : Option DO) (k : List (Str × D) → Prop) : Prop := match o with
  | some (.dS kvs) => k kvs
  | _ => False
def dTK (o : Option DO) (k : List (NestedKey × D) → Prop) : Prop := match o with
  | some (.dT kvs) => k kvs
  | _ => False
@[simp ↓] theorem dSK_dS {kvs : List (Str × D)} {k : List (Str × D) → Prop} : dSK (some (.dS kvs)) k = k kvs := rfl
@[simp ↓] theorem dTK_dT {kvs : List (NestedKey × D)} {k : List (NestedKey × D) → Prop} : dTK (some (.dT kvs)) k = k kvs := rfl
theorem dSK_of {o : Option DO} {k : List (Str × D) → Prop} (h : dSK o k) : ∃ xs, o = some (.dS xs) ∧ k xs := by
  unfold dSK at h
  split at h
  · exact ⟨_, rfl, h⟩
  · exact h.elim
theorem dTK_of {o : Option DO} {k : List (NestedKey × D) → Prop} (h : dTK o k) : ∃ xs, o = some (.dT xs) ∧ k xs := by
  unfold dTK at h
  split at h
  · exact ⟨_, rfl, h⟩
  · exact h.elim
/-- a key that a dict of tuples may have -/
def keyOk (ks : List D) : Prop := plains ks = true ∧ (nk (.tup ks)).depth ≤ 8
def getD (d i : D) (M : DM) (Q : D → DM → Prop) : Prop := match d, i with
  | .tup ds, .int i => optK (atI ds i) fun d => Q d M
  | .str x, .int i => x.length ≤ sizeLine ∧ optK (atI x.cps.toList i) fun c => Q (.str ⟨#[c]⟩) M
  | .ref a, .int i => rdK (M a) fun ds => optK (atI ds i) fun d => Q d M
  | .fl ds, .int i => optK (atI ds i) fun d => Q d M
  | .ref a, .str k => dSK (M a) fun kvs => optK (getA kvs k) fun d => Q d M
  | .ref a, .tup ks => dTK (M a) fun kvs => keyOk ks ∧ optK (getA kvs (nk (.tup ks))) fun d => Q d M
  | _, _ => False
@[simp ↓] theorem getD_ti {ds : List D} {i : Int} {M : DM} {Q : D → DM → Prop} : getD (.tup ds) (.int i) M Q = optK (atI ds i) fun d => Q d M := rfl
@[simp ↓] theorem getD_si {x : Str} {i : Int} {M : DM} {Q : D → DM → Prop} : getD (.str x) (.int i) M Q = (x.length ≤ sizeLine ∧ optK (atI x.cps.toList i) fun c => Q (.str ⟨#[c]⟩) M) := rfl
@[simp ↓] theorem getD_fi {ds : List D} {i : Int} {M : DM} {Q : D → DM → Prop} : getD (.fl ds) (.int i) M Q = optK (atI ds i) fun d => Q d M := rfl
@[simp ↓] theorem getD_ri {a : Addr} {i : Int} {M : DM} {Q : D → DM → Prop} : getD (.ref a) (.int i) M Q = rdK (M a) fun ds => optK (atI ds i) fun d => Q d M := rfl
@[simp ↓] theorem getD_rs {a : Addr} {k : Str} {M : DM} {Q : D → DM → Prop} : getD (.ref a) (.str k) M Q = dSK (M a) fun kvs => optK (getA kvs k) fun d => Q d M := rfl
@[simp ↓] theorem getD_rt {a : Addr} {ks : List D} {M : DM} {Q : D → DM → Prop} : getD (.ref a) (.tup ks) M Q = dTK (M a) fun kvs => keyOk ks ∧ optK (getA kvs (nk (.tup ks))) fun d => Q d M := rfl
theorem Rps.atI {K : PySem.W.Frag} {H : Hp} {ds : List D} {vs : List V} {i : Int} {d : D} (r : Rps K H ds vs) (e : L2.atI ds i = some d) : ∃ v, L2.atI vs i = some v ∧ Rp K H d v := by
  unfold L2.atI at e ⊢
  rw [← r.len]
  cases q : ixN ds.length i with
  | none => rw [q] at e; cases e
  | some j => rw [q] at e; exact r.get e
section
variable {X : Cx} {pins : List (Addr × Obj)} {σ : L2.St} {H : Hp} {s : Shared} {M : DM}
theorem key_is (I : Inv X pins σ H s) {ks : List D} {b : Addr} (h : keyOk ks) (r : Rp X.K H (.tup ks) (.ref b)) : (nestedKind X.prog X.w).is s.heap (nk (.tup ks)) b :=
  ⟨nested_of I (.tup ks) (by simpa using h.1) r (u := .ref b) rfl, h.2⟩
theorem room_nk {A : Around} {prog : Program} {w : World} (hu : A.units + 64 < cLine) : (nestedKind prog w).room A.in1 := by
  show A.units + 1 + 8 < cLine
  omega
theorem get_dict (hu : X.A.units + 64 < cLine) (I : Inv X pins σ H s) {dx di : D} {x y : V} {v u : Value} {R : D → DM → Prop} {Q : VK} (rx : RelV x v) (ry : RelV y u) (hx : Rp X.K H dx x) (hy : Rp X.K H di y) (hm : RM X.w X.K H M) (h : getD dx di M R)
    (k : ∀ v H' d M', Fr H M H' M' → Rp X.K H' d v → RM X.w X.K H' M' → R d M' → Q v H') (hd : ∃ a, dx = .ref a ∧ ∀ i, di ≠ .int i) :
    s.TypeIs v "dict" ∧ wpAny (model X.prog X.w) X.A (getItem v u) (L2.EP X pins σ Q) X.xe s := by
  obtain ⟨a, rfl, ni⟩ := hd
  cases hx.ref_of
  cases rx
  cases di with
  | str z =>
    have h : dSK (M a) fun kvs => optK (getA kvs z) fun d => R d M := h
    obtain ⟨kvs, e, h2⟩ := dSK_of h
    obtain ⟨d, e2, q⟩ := optK_of h2
    obtain ⟨vs, h3, r3⟩ := hm a _ e
    obtain ⟨w', e4, r4⟩ := (r3.get (k := z)).1 d e2
    cases hy.str_of
    have g : DGet H a (kV (.inr z)) (some w') := by rw [← e4]; exact DGet.k h3
    exact ⟨dict_typeIs I g, d_getItem (y := .str z) (by omega) I g ry fun wv s' I' rw' => ⟨w', H, I', rw', k _ _ _ _ .refl r4 hm q⟩⟩
  | tup ks =>
    have h : dTK (M a) fun kvs => keyOk ks ∧ optK (getA kvs (nk (.tup ks))) fun d => R d M := h
    obtain ⟨kvs, e, hk, h2⟩ := dTK_of h
    obtain ⟨d, e2, q⟩ := optK_of h2
    obtain ⟨qs, dd, rx, hs, _⟩ := dT_open I hm e
    obtain ⟨b, w', uv, e3, r4, ru⟩ := (rx.get (k := nk (.tup ks))).1 d e2
    obtain ⟨b', vs, rfl, _⟩ := hy.tup_of
    cases ry
    exact ⟨dd.typeIs, wpAny_getItem_heap (room_nk hu) (key_is I hk hy) dd e3 ⟨w', H, I.tok _, ru, k _ _ _ _ .refl r4 hm q⟩⟩
  | int i => exact absurd rfl (ni i)
  | _ => exact h.elim
theorem ix_get (hu : X.A.units + 64 < cLine) : IxR X (lft2 X.w X.K getD) := by
  intro value slice pins s σ H x y v u Q I rx ry ⟨dx, di, M, R, hx, hy, hm, t, k⟩ hs
  by_cases hd : ∃ a, dx = .ref a ∧ ∀ i, di ≠ .int i
  · obtain ⟨h1, h2⟩ := get_dict hu I rx ry hx hy hm t k hd
    exact tail_any h1 PySem.F.slot_dict_getitem.lookup h2 hs
  · unfold getD at t
    split at t
    · obtain ⟨a, vs, rfl, ta, ra⟩ := hx.tup_of
      cases hy.int_of
      obtain ⟨d, e, q⟩ := optK_of t
      obtain ⟨w', e2, r2⟩ := ra.atI e
      exact ix_tup value slice pins s σ H _ _ v u Q I rx ry ⟨a, vs, _, w', rfl, rfl, ta, e2, k _ _ _ _ .refl r2 hm q⟩ hs
    · cases hx.str_of
      cases hy.int_of
      obtain ⟨hl, t⟩ := t
      obtain ⟨c, e, q⟩ := optK_of t
      exact ix_str value slice pins s σ H _ _ v u Q I rx ry ⟨_, _, c, rfl, rfl, hl, e, k _ _ _ _ .refl Rp.str hm q⟩ hs
    · cases hx.ref_of
      cases hy.int_of
      obtain ⟨ds, vs, h1, ra, t2⟩ := rdK_of hm t
      obtain ⟨d, e, q⟩ := optK_of t2
      obtain ⟨w', e2, r2⟩ := ra.atI e
      exact ix_list value slice pins s σ H _ _ v u Q I rx ry ⟨_, vs, _, w', rfl, rfl, h1, e2, k _ _ _ _ .refl r2 hm q⟩ hs
    · obtain ⟨a, vs, rfl, ta, ra⟩ := hx.fl_of
      cases hy.int_of
      obtain ⟨d, e, q⟩ := optK_of t
      obtain ⟨w', e2, r2⟩ := ra.atI e
      exact ix_list value slice pins s σ H _ _ v u Q I rx ry ⟨_, vs, _, w', rfl, rfl, ta.sqL, e2, k _ _ _ _ .refl r2 hm q⟩ hs
    · exact absurd ⟨_, rfl, fun i e => by cases e⟩ hd
    · exact absurd ⟨_, rfl, fun i e => by cases e⟩ hd
    · exact t.elim
theorem e_ix {a b : Expr} {ta tb : DE} {pos : Pos} (hu : X.A.units + 64 < cLine) (ha : EX X a ta) (hb : EX X b tb) (hs : PlainIx b := by exact fun _ _ => rfl) : EX X (.Subscript a b pos) (dOp getD ta tb) :=
  (pe_ix (ix_get hu) ha hb hs).imp fun _ _ _ h => bin_imp h
theorem g_lst {a : Addr} {vs : List V} {i : Int} {tk : Tok} {w' : V} {Q : Value → Shared → Prop} (I : Inv X pins σ H s) (hq : SqL X.K H a vs) (e2 : L2.atI vs i = some w') (fin : ∀ wv, RelV w' wv → Q wv s) : wpAny (model X.prog X.w) X.A (getItem (.ref a) (.int i tk)) Q X.xe s := by
  have hn := line63
  obtain ⟨its, r, pl, hz⟩ := I.list hq
  obtain ⟨j, h1, h2, h3, h4, h5⟩ := atI_get e2
  obtain ⟨wv, ew, rw'⟩ := r.get h2
  have hl := r.length
  have fin := fin wv rw'
  by_cases h0 : 0 ≤ i
  · have hj : i.toNat = j := by
      rw [seqIndex_of h0 h5] at h1
      exact Option.some.inj h1
    exact wpAny_getItem_list pl.isList h0 (by omega) (by rw [hj]; simpa using ew) fin
  · have hj : (i + (its.toArray.size : Int)).toNat = j := by
      rw [seqIndex_neg (by omega) h4] at h1
      rw [List.size_toArray, ← hl]
      exact Option.some.inj h1
    exact wpAny_getItem_list_neg pl.isList (by omega) (by rw [List.size_toArray] <;> omega) (by omega) (by rw [hj]; simpa using ew) fin
theorem g_get (hu : X.A.units + 64 < cLine) : PGet X (lft2 X.w X.K getD) := by
  intro pins s σ H x y v u Q I rx ry ⟨dx, di, M, R, hx, hy, hm, t, k⟩
  by_cases hd : ∃ a, dx = .ref a ∧ ∀ i, di ≠ .int i
  · exact (get_dict hu I rx ry hx hy hm t k hd).2
  · unfold getD at t
    have hn := line63
    split at t
    · obtain ⟨a, vs, rfl, ta, ra⟩ := hx.tup_of
      cases hy.int_of
      obtain ⟨d, e, q⟩ := optK_of t
      obtain ⟨w', e2, r2⟩ := ra.atI e
      cases rx
      obtain ⟨tk, rfl⟩ := ry
      obtain ⟨its, r, pl, hz⟩ := I.tuple ta
      obtain ⟨j, h1, h2, h3, h4, h5⟩ := atI_get e2
      obtain ⟨wv, ew, rw'⟩ := r.get h2
      have hl := r.length
      exact getItem_tuple (j := j) pl (by omega) (by omega) (by rw [List.size_toArray, ← hl]; exact h1) (by simpa using ew) ⟨w', H, I, rw', k _ _ _ _ .refl r2 hm q⟩
    · cases hx.str_of
      cases hy.int_of
      obtain ⟨hl, t⟩ := t
      obtain ⟨c, e, q⟩ := optK_of t
      obtain ⟨tx, rfl⟩ := rx
      obtain ⟨tk, rfl⟩ := ry
      obtain ⟨j, h1, h2, h3, h4, h5⟩ := atI_get e
      have hl2 : ∀ z : Str, z.cps.toList.length = z.length := fun z => by simp [Str.length]
      rw [hl2] at h1 h4 h5
      exact getItem_str (c := c) (by
        rw [Bool.or_eq_false_iff]
        exact ⟨decide_eq_false (by omega), decide_eq_false (by omega)⟩) (by rw [h1]; simpa using h2) ⟨.str ⟨#[c]⟩, H, I.tok _, ⟨_, rfl⟩, k _ _ _ _ .refl Rp.str hm q⟩
    · cases hx.ref_of
      cases hy.int_of
      obtain ⟨ds, vs, hq, ra, t2⟩ := rdK_of hm t
      obtain ⟨d, e, q⟩ := optK_of t2
      obtain ⟨w', e2, r2⟩ := ra.atI e
      cases rx
      obtain ⟨tk, rfl⟩ := ry
      exact g_lst I hq e2 fun wv rw' => ⟨w', H, I, rw', k _ _ _ _ .refl r2 hm q⟩
    · obtain ⟨a, vs, rfl, ta, ra⟩ := hx.fl_of
      cases hy.int_of
      obtain ⟨d, e, q⟩ := optK_of t
      obtain ⟨w', e2, r2⟩ := ra.atI e
      cases rx
      obtain ⟨tk, rfl⟩ := ry
      exact g_lst I ta.sqL e2 fun wv rw' => ⟨w', H, I, rw', k _ _ _ _ .refl r2 hm q⟩
    · exact absurd ⟨_, rfl, fun i e => by cases e⟩ hd
    · exact absurd ⟨_, rfl, fun i e => by cases e⟩ hd
    · exact t.elim

/-! ### o[i] = v -/
def setD (d i v : D) (M : DM) (Q : DM → Prop) : Prop := match d, i with
  | .ref a, .int i => lstK (M a) fun ds => optK (ixN ds.length i) fun j => Q (updM M a (.lst (ds.set j v)))
  | .ref a, .str k => dSK (M a) fun kvs => kvs.length < sizeLine ∧ Q (updM M a (.dS (putA kvs k v)))
  | .ref a, .tup ks => dTK (M a) fun kvs => keyOk ks ∧ keyD (nk (.tup ks)) = .tup ks ∧ kvs.length < sizeLine ∧ Q (updM M a (.dT (putA kvs (nk (.tup ks)) v)))
  | _, _ => False
@[simp ↓] theorem setD_ri {a : Addr} {i : Int} {v : D} {M : DM} {Q : DM → Prop} : setD (.ref a) (.int i) v M Q = lstK (M a) fun ds => optK (ixN ds.length i) fun j => Q (updM M a (.lst (ds.set j v))) := rfl
@[simp ↓] theorem setD_rs {a : Addr} {k : Str} {v : D} {M : DM} {Q : DM → Prop} : setD (.ref a) (.str k) v M Q = dSK (M a) fun kvs => kvs.length < sizeLine ∧ Q (updM M a (.dS (putA kvs k v))) := rfl
@[simp ↓] theorem setD_rt {a : Addr} {ks : List D} {v : D} {M : DM} {Q : DM → Prop} : setD (.ref a) (.tup ks) v M Q = dTK (M a) fun kvs => keyOk ks ∧ keyD (nk (.tup ks)) = .tup ks ∧ kvs.length < sizeLine ∧ Q (updM M a (.dT (putA kvs (nk (.tup ks)) v))) := rfl
def lftSt (w : World) (K : PySem.W.Frag) : TSet := fun o i v H Q => ∃ do_ di dv M R, Rp K H do_ o ∧ Rp K H di i ∧ Rp K H dv v ∧ RM w K H M ∧ setD do_ di dv M R ∧ ∀ H' M', Fr H M H' M' → RM w K H' M' → R M' → Q H'
theorem p_set (hu : X.A.units + 64 < cLine) : PSet X (lftSt X.w X.K) := by
  intro pins s σ H o i v ov iv u Q I ro ri rv ⟨dd, di, dv, M, R, ho, hi, hv, hm, t, k⟩
  unfold setD at t
  split at t
  · cases ho.ref_of
    cases hi.int_of
    obtain ⟨ds, e, t1⟩ := lstK_of t
    obtain ⟨j, e2, q⟩ := optK_of t1
    obtain ⟨vs, h1, r1⟩ := hm _ _ e
    refine set_list pins s σ H _ _ v ov iv u Q I ro ri rv ⟨_, vs, _, j, rfl, rfl, h1, by rw [← r1.len]; exact e2, ?_⟩
    exact k _ _ (Fr.write e) (hm.write (o := .lst _) e fun kw => ⟨_, upd_same, (r1.set hv).keep kw⟩) q
  · cases ho.ref_of
    cases hi.str_of
    rename_i a z
    obtain ⟨kvs, e, hl, q⟩ := dSK_of t
    obtain ⟨vs, h1, r1⟩ := hm _ _ e
    cases ro
    have g : DPut H a (kV (.inr z)) v (upd H a (.dK (putK vs (.inr z) v))) := DPut.k h1 (by rw [← r1.len]; exact hl)
    exact d_setItem (y := .str z) (by omega) I g ri rv fun s' I' => ⟨_, I', k _ _ (Fr.write e) (hm.write (o := .dS _) e fun kw => ⟨_, upd_same, (RkS.put hv r1).keep kw⟩) q⟩
  · cases ho.ref_of
    rename_i a ks
    obtain ⟨kvs, e, hk, hkd, hl, q⟩ := dTK_of t
    obtain ⟨qs, dd, rx, hs, hnd, hlen, φ, hφ⟩ := dT_open I hm e
    obtain ⟨b, ws, rfl, _⟩ := hi.tup_of
    cases ro
    cases ri
    have hz : qs.length ≤ sizeLine := by
      have := congrArg List.length rx.keys
      simp at this
      omega
    refine wpAny_setItem_heap (hsz := hz) (room_nk hu) (key_is I hk hi) dd fun h' dd' sb => ?_
    obtain ⟨o', es', ep', ho', hx', hd', he', _, _⟩ := dd'
    have rx' := RX.put (k := nk (.tup ks)) (b := b) (by rw [hkd]; exact hi) hk.2 hv rv rx
    obtain ⟨es2, rk, pr⟩ := RX.close (w := X.w) (P := X.prog) rx'
    have raw : DRaw X.w a es2 h' := ⟨hs, o', es', ep', ho', hx', hd', by rw [he']; exact pr⟩
    have I' := d_write (t' := s.toks + (nestedKind X.prog X.w).draws (nk (.tup ks))) I (show Mut (H a) by rw [hφ]; trivial) sb ⟨o', ho'⟩ (exT_ok (H := upd H a (exT X.w a es2)) raw)
    have kw : Keep H (upd H a (exT X.w a es2)) := keep_write hφ (fun _ z => by cases z) (fun _ _ z => by cases z)
    refine ⟨_, I', k _ _ (Fr.write e) (hm.write (o := .dT _) e fun kw => ⟨es2, _, upd_same, fun _ => Iff.rfl, rk.keep kw, putA_nodup hnd _ _, ?_⟩) q⟩
    have := putA_len kvs (nk (.tup ks)) dv
    omega
  · exact t.elim
def dgSub (to ti : DE) : DG := fun v ds M Q => to ds M fun o M1 => ti ds M1 fun i M2 => setD o i v M2 fun M3 => Q ds M3
@[simp ↓] theorem dgSub_eq {to ti : DE} {v : D} {ds : DSt} {M : DM} {Q : DSt → DM → Prop} : dgSub to ti v ds M Q = to ds M fun o M1 => ti ds M1 fun i M2 => setD o i v M2 fun M3 => Q ds M3 := rfl
theorem g_sub {o i : Expr} {to ti : DE} {pos : Pos} (hu : X.A.units + 64 < cLine) (ho : EX X o to) (hi : EX X i ti) (pg : PG X (.Subscript o i pos) (gSub (lft X.w X.K to) (lft X.w X.K ti) (lftSt X.w X.K)) := by exact pg_sub ‹_› ‹_› (p_set ‹_›)) : GX X (.Subscript o i pos) (dgSub to ti) :=
  pg.imp fun v σ H Q ⟨d, ds, M, R, hr, hs, hm, t, k⟩ => ⟨ds, M, _, hs, hm, t, fun x H1 dx M1 f1 r1 m1 q => ⟨ds, M1, _, hs.keep (f1.keep hm), m1, q, fun y H2 dy M2 f2 r2 m2 q2 => ⟨dx, dy, d, M2, _, r1.keep (f2.keep m1), r2, hr.keep ((f1.trans f2).keep hm), m2, q2, fun H3 M3 f3 m3 q3 => k _ _ _ _ ((f1.trans f2).trans f3) (hs.keep (((f1.trans f2).trans f3).keep hm)) m3 q3⟩⟩⟩
end
end DL

set_option Elab.async false
set_option linter.all false
set_option maxRecDepth 100000
namespace DL
open PySem PySem.Spec PyProof.Rows L2
/-! ### in, not in -/
def strIn (x y : Str) : Bool := !(Builtin.Str.occurrences y x 0 y.length 1).isEmpty
def memD (x : D) (ds : List D) : Bool := (nks ds).any fun k => decide (k = nk x)
def inSeq (x : D) (ds : List D) (k : Bool → Prop) : Prop := plain x = true ∧ plains ds = true ∧ (nk x).depth ≤ 30 ∧ k (memD x ds)
def inO (o : Option DO) (x : D) (k : Bool → Prop) : Prop := match o, x with
  | some (.lst ds), x => inSeq x ds k
  | some (.dS kvs), .str z => k (getA kvs z).isSome
  | some (.dT kvs), .tup ks => keyOk ks ∧ k (getA kvs (nk (.tup ks))).isSome
  | _, _ => False
@[simp ↓] theorem inO_lst {ds : List D} {x : D} {k : Bool → Prop} : inO (some (.lst ds)) x k = inSeq x ds k := rfl
@[simp ↓] theorem inO_dS {kvs : List (Str × D)} {z : Str} {k : Bool → Prop} : inO (some (.dS kvs)) (.str z) k = k (getA kvs z).isSome := rfl
@[simp ↓] theorem inO_dT {kvs : List (NestedKey × D)} {ks : List D} {k : Bool → Prop} : inO (some (.dT kvs)) (.tup ks) k = (keyOk ks ∧ k (getA kvs (nk (.tup ks))).isSome) := rfl
@[simp ↓] theorem inSeq_eq {ds : List D} {x : D} {k : Bool → Prop} : inSeq x ds k = (plain x = true ∧ plains ds = true ∧ (nk x).depth ≤ 30 ∧ k (memD x ds)) := rfl
def inK (x c : D) (M : DM) (k : Bool → Prop) : Prop := match c, x with
  | .str y, .str x => k (strIn x y)
  | .tup ds, x => inSeq x ds k
  | .fl ds, x => inSeq x ds k
  | .ref a, x => inO (M a) x k
  | _, _ => False
@[simp ↓] theorem inK_str {x y : Str} {M : DM} {k : Bool → Prop} : inK (.str x) (.str y) M k = k (strIn x y) := rfl
@[simp ↓] theorem inK_tup {x : D} {ds : List D} {M : DM} {k : Bool → Prop} : inK x (.tup ds) M k = inSeq x ds k := by cases x <;> rfl
@[simp ↓] theorem inK_ref {x : D} {a : Addr} {M : DM} {k : Bool → Prop} : inK x (.ref a) M k = inO (M a) x k := by cases x <;> rfl
def inD (x c : D) (M : DM) (Q : D → DM → Prop) : Prop := inK x c M fun b => Q (.bl b) M
def ninD (x c : D) (M : DM) (Q : D → DM → Prop) : Prop := inK x c M fun b => Q (.bl (!b)) M
@[simp ↓] theorem inD_eq {x c : D} {M : DM} {Q : D → DM → Prop} : inD x c M Q = inK x c M fun b => Q (.bl b) M := rfl
@[simp ↓] theorem ninD_eq {x c : D} {M : DM} {Q : D → DM → Prop} : ninD x c M Q = inK x c M fun b => Q (.bl (!b)) M := rfl
section
variable {X : Cx}
open SeqAt Classical in
theorem mem_at {s : Shared} {A : Around} {x : NestedKey} {xv : Value} (hx : NestedIs s.heap x xv) (hu : A.units + 1 + x.depth < cLine) : ∀ {ks : List NestedKey} {vs : List Value}, NestedAll s.heap ks vs →
    (∀ y ∈ vs, EqAt A.in1 s y xv (decide (NestedIs s.heap x y))) ∧ (vs.any fun y => decide (NestedIs s.heap x y)) = ks.any fun k => decide (k = x)
  | [], _, h => by cases h; exact ⟨fun y hy => by simp at hy, rfl⟩
  | k :: ks, _, h => by
    cases h with
    | cons h1 h2 =>
      obtain ⟨i1, i2⟩ := mem_at hx hu h2
      have e : ∀ {y : Value}, NestedIs s.heap k y → decide (NestedIs s.heap x y) = decide (k = x) := fun {y} hy => by
        by_cases q : k = x
        · subst q; simp [hy]
        · rw [decide_eq_false q]
          exact decide_eq_false fun z => q (NestedIs.inj _ _ _ hy z)
      refine ⟨fun y hy => ?_, by rw [List.any_cons, List.any_cons, i2, e h1]⟩
      rcases List.mem_cons.mp hy with z | z
      · subst z
        rw [e h1, NestedKey.decide_eq]
        refine eqAt_key k x A.in1 s _ _ h1 hx ?_
        show A.units + 1 + _ < cLine
        omega
      · exact i1 y z
theorem in_core (neg : Bool) {op : CmpOp} (hop : op = if neg then .NotIn else .In) (hu : X.A.units + 64 < cLine) {pins : List (Addr × Obj)} {s : Shared} {σ : L2.St} {H : Hp} {x y : V} {v u : Value} {Q : VK} {dx dy : D} {M : DM} {kk : Bool → Prop} (I : Inv X pins σ H s) (rx : RelV x v) (ry : RelV y u) (hx : Rp X.K H dx x) (hy : Rp X.K H dy y) (hm : RM X.w X.K H M) (t : inK dx dy M kk)
    (fin : ∀ b s', Inv X pins σ H s' → kk b → L2.EP X pins σ Q (.bool (if neg then !b else b)) s') : wpAny (model X.prog X.w) X.A (compareOp op v u) (L2.EP X pins σ Q) X.xe s := by
  have seqL : ∀ {a : Addr} {ds : List D} {vs : List V}, y = .ref a → SqL X.K H a vs → Rps X.K H ds vs → inSeq dx ds kk → wpAny (model X.prog X.w) X.A (compareOp op v u) (L2.EP X pins σ Q) X.xe s := by
    intro a ds vs ey hs hr ⟨p1, p2, p3, q⟩
    subst ey
    cases ry
    obtain ⟨its, rv, pl, _⟩ := I.list hs
    obtain ⟨m1, m2⟩ := mem_at (A := X.A) (nested_of I dx p1 hx rx) (by omega) (nesteds_of I ds p2 hr rv)
    subst hop
    cases neg
    · exact SeqAt.in_listAt _ pl.isList (fun y hy => m1 y (by simpa using hy)) (by
        have : (its.toArray.any fun y => @decide (NestedIs s.heap (nk dx) y) (Classical.propDecidable _)) = memD dx ds := by
          rw [List.any_toArray]; exact m2
        rw [this]; exact fin _ s I q)
    · exact SeqAt.notIn_listAt _ pl.isList (fun y hy => m1 y (by simpa using hy)) (by
        have : (its.toArray.any fun y => @decide (NestedIs s.heap (nk dx) y) (Classical.propDecidable _)) = memD dx ds := by
          rw [List.any_toArray]; exact m2
        rw [this]; exact fin _ s I q)
  unfold inK at t
  split at t
  · cases hx.str_of; cases hy.str_of
    subst hop
    cases neg
    · exact thn (op_in_str pins s σ H _ _ v u (fun r H' => ∃ b, r = .bl b ∧ H' = H ∧ kk b) I rx ry ⟨_, _, rfl, rfl, _, rfl, rfl, t⟩) fun r s' ⟨r', H', I', rr, b, e1, e2, q⟩ => by
        subst e1 e2; cases rr; exact fin b s' I' q
    · refine thn (op_notin_str pins s σ H _ _ v u (fun r H' => ∃ b, r = .bl (!b) ∧ H' = H ∧ kk b) I rx ry ⟨_, _, rfl, rfl, _, rfl, rfl, t⟩) fun r s' ⟨r', H', I', rr, b, e1, e2, q⟩ => by
        subst e1 e2; cases rr; exact fin b s' I' q
  · obtain ⟨a, vs, rfl, ta, ra⟩ := hy.tup_of
    obtain ⟨p1, p2, p3, q⟩ := t
    cases ry
    obtain ⟨its, rv, pl, _⟩ := I.tuple ta
    rename_i ds _
    obtain ⟨m1, m2⟩ := mem_at (A := X.A) (nested_of I dx p1 hx rx) (by omega) (nesteds_of I ds p2 ra rv)
    have ht : s.heap.IsTuple a its.toArray := pl
    have e : (its.toArray.any fun y => @decide (NestedIs s.heap (nk dx) y) (Classical.propDecidable _)) = memD dx ds := by
      rw [List.any_toArray]; exact m2
    subst hop
    cases neg
    · exact SeqAt.in_tupleAt _ ht (fun y hy => m1 y (by simpa using hy)) (by rw [e]; exact fin _ s I q)
    · exact SeqAt.notIn_tupleAt _ ht (fun y hy => m1 y (by simpa using hy)) (by rw [e]; exact fin _ s I q)
  · obtain ⟨a, vs, rfl, ta, ra⟩ := hy.fl_of
    exact seqL rfl ta.sqL ra t
  · cases hy.ref_of
    rename_i a
    unfold inO at t
    split at t
    · rename_i ds e
      obtain ⟨vs, h1, h2⟩ := hm a _ e
      exact seqL rfl (SqL.of h1) h2 t
    · rename_i kvs z e
      obtain ⟨vs, h1, h2⟩ := hm a _ e
      cases hx.str_of
      cases ry
      have g : DGet H a (kV (.inr z)) (valV vs (.inr z)) := DGet.k h1
      subst hop
      cases neg
      · exact d_in (y := .str z) (by omega) I g rx fun s' I' => by rw [h2.has]; exact fin _ s' I' t
      · exact d_notIn (y := .str z) (by omega) I g rx fun s' I' => by rw [h2.has]; exact fin _ s' I' t
    · rename_i kvs ks e
      obtain ⟨qs, dd, rxx, hs, _⟩ := dT_open I hm e
      obtain ⟨b, ws, rfl, _⟩ := hx.tup_of
      cases rx
      cases ry
      subst hop
      cases neg
      · exact wpAny_in_heap (room_nk hu) (key_is I t.1 hx) hs dd (by rw [rxx.has]; exact fin _ _ (I.tok _) t.2)
      · exact wpAny_notIn_heap (room_nk hu) (key_is I t.1 hx) hs dd (by rw [rxx.has]; exact fin _ _ (I.tok _) t.2)
    · exact t.elim
  · exact t.elim
theorem o_in (hu : X.A.units + 64 < cLine) : OD X (compareOp .In) inD := fun pins s σ H x y v u Q I rx ry ⟨dx, dy, M, R, hx, hy, hm, t, k⟩ =>
  in_core false rfl hu I rx ry hx hy hm t fun b s' I' q => ⟨.bl b, H, I', rfl, Fin k hm Rp.bl q⟩
theorem o_nin (hu : X.A.units + 64 < cLine) : OD X (compareOp .NotIn) ninD := fun pins s σ H x y v u Q I rx ry ⟨dx, dy, M, R, hx, hy, hm, t, k⟩ =>
  in_core true rfl hu I rx ry hx hy hm t fun b s' I' q => ⟨.bl (!b), H, I', rfl, Fin k hm Rp.bl q⟩

/-! ### slices -/
abbrev DPt := DSt → DM → (Option Int → DM → Prop) → Prop
def lftP (w : World) (K : PySem.W.Frag) (t : DPt) : TO := fun σ H Q => ∃ ds M R, RSt K H ds σ ∧ RM w K H M ∧ t ds M R ∧ ∀ o H' M', Fr H M H' M' → RM w K H' M' → R o M' → Q o H'
def PtX (X : Cx) (e : Option Expr) (t : DPt) : Prop := PO X e (lftP X.w X.K t)
def dPart (t : DE) : DPt := fun ds M Q => t ds M fun d M1 => intK d fun i => Q (some i) M1
def dNoPart : DPt := fun _ M Q => Q none M
@[simp ↓] theorem dPart_eq {t : DE} {ds : DSt} {M : DM} {Q : Option Int → DM → Prop} : dPart t ds M Q = t ds M fun d M1 => intK d fun i => Q (some i) M1 := rfl
@[simp ↓] theorem dNoPart_eq {ds : DSt} {M : DM} {Q : Option Int → DM → Prop} : dNoPart ds M Q = Q none M := rfl
theorem pt_some {e : Expr} {t : DE} (h : EX X e t) : PtX X (some e) (dPart t) := ⟨fun p s σ H Q I ⟨ds, M, R, hs, hm, t, k⟩ => (po_some h).run p s σ H Q I ⟨ds, M, _, hs, hm, t, fun v H1 d M1 f1 r1 m1 q => by
  obtain ⟨i, rfl, q⟩ := intK_of q
  exact ⟨i, r1.int_of, k _ _ _ f1 m1 q⟩⟩⟩
theorem pt_none : PtX X none dNoPart := ⟨fun p s σ H Q I ⟨ds, M, R, hs, hm, t, k⟩ => po_none.run p s σ H Q I (k _ _ _ .refl hm t)⟩
def cutD (xs : List D) (lo hi : Option Int) : List D := (xs.drop (HT.sIx xs.length 0 lo)).take (HT.sIx xs.length xs.length hi - HT.sIx xs.length 0 lo)
theorem Rps.cut {K : PySem.W.Frag} {H : Hp} {xs : List D} {vs : List V} (r : Rps K H xs vs) (lo hi : Option Int) : Rps K H (cutD xs lo hi) (cutV vs lo hi) := by
  unfold cutD cutV
  rw [r.len]
  exact (r.drop _).take _
def slD (d : D) (lo hi : Option Int) (M : DM) (Q : D → DM → Prop) : Prop := match d with
  | .str x => x.length ≤ sizeLine ∧ Q (.str (cutS x lo hi)) M
  | .tup ds => Q (.tup (cutD ds lo hi)) M
  | .ref a => rdK (M a) fun ds => ∀ p, M p = none → Q (.ref p) (updM M p (.lst (cutD ds lo hi)))
  | _ => False
@[simp ↓] theorem slD_str {x : Str} {lo hi : Option Int} {M : DM} {Q : D → DM → Prop} : slD (.str x) lo hi M Q = (x.length ≤ sizeLine ∧ Q (.str (cutS x lo hi)) M) := rfl
@[simp ↓] theorem slD_tup {x : List D} {lo hi : Option Int} {M : DM} {Q : D → DM → Prop} : slD (.tup x) lo hi M Q = Q (.tup (cutD x lo hi)) M := rfl
@[simp ↓] theorem slD_ref {a : Addr} {lo hi : Option Int} {M : DM} {Q : D → DM → Prop} : slD (.ref a) lo hi M Q = rdK (M a) fun ds => ∀ p, M p = none → Q (.ref p) (updM M p (.lst (cutD ds lo hi))) := rfl
def lftSl (w : World) (K : PySem.W.Frag) : V → Option Int → Option Int → Hp → VK → Prop := fun x lo hi H Q => ∃ d M R, Rp K H d x ∧ RM w K H M ∧ slD d lo hi M R ∧ ∀ v H' d M', Fr H M H' M' → Rp K H' d v → RM w K H' M' → R d M' → Q v H'
theorem sl_all : L2.SlR X (lftSl X.w X.K) := by
  intro pins s σ H x v vl vu lo hi sl Q I rx h1 h2 h3 ⟨d, M, R, hr, hm, t, k⟩
  unfold slD at t
  split at t
  · cases hr.str_of
    exact sl_str pins s σ H _ v vl vu lo hi sl Q I rx h1 h2 h3 ⟨_, rfl, t.1, Fin k hm Rp.str t.2⟩
  · obtain ⟨a, vs, rfl, ta, ra⟩ := hr.tup_of
    refine sl_tupA pins s σ H _ v vl vu lo hi sl Q I rx h1 h2 h3 ⟨a, vs, rfl, ta, fun e => ?_, fun _ p hp => k _ _ _ _ (Fr.hid hp) (Rp.tup (SqT.of upd_same) ((ra.cut lo hi).keep (keep_new hp))) (hm.hid hp) t⟩
    have : ∀ z : List D, Rps X.K H z vs → cutD z lo hi = z := fun z rz => by
      unfold cutD
      rw [rz.len, e.1, e.2, ← rz.len]
      simp
    rw [this _ ra] at t
    exact Fin k hm (Rp.tup ta ra) t
  · cases hr.ref_of
    obtain ⟨ds, vs, h4, r4, t2⟩ := rdK_of hm t
    exact sl_list pins s σ H _ v vl vu lo hi sl Q I rx h1 h2 h3 ⟨_, vs, rfl, h4, fun p hp => k _ _ _ _ (Fr.new hp) Rp.ref (hm.new (o := .lst _) hp ⟨_, upd_same, (r4.cut lo hi).keep (keep_new hp)⟩) (t2 p (hm.fresh hp))⟩
  · exact t.elim
def dSl (t : DE) (l h : DPt) : DE := fun ds M Q => t ds M fun d M1 => l ds M1 fun lo M2 => h ds M2 fun hi M3 => slD d lo hi M3 Q
@[simp ↓] theorem dSl_eq {t : DE} {l h : DPt} {ds : DSt} {M : DM} {Q : D → DM → Prop} : dSl t l h ds M Q = t ds M fun d M1 => l ds M1 fun lo M2 => h ds M2 fun hi M3 => slD d lo hi M3 Q := rfl
theorem e_sl {e : Expr} {lo hi : Option Expr} {t : DE} {l h : DPt} {pos p2 : Pos} (he : EX X e t) (hl : PtX X lo l) (hh : PtX X hi h) : EX X (.Subscript e (.Slice lo hi none p2) pos) (dSl t l h) :=
  (pe_slice sl_all he hl hh).imp fun σ H Q ⟨ds, M, R, hs, hm, t, k⟩ => ⟨ds, M, _, hs, hm, t, fun x H1 d M1 f1 r1 m1 q => ⟨ds, M1, _, hs.keep (f1.keep hm), m1, q, fun o H2 M2 f2 m2 q2 => ⟨ds, M2, _, hs.keep ((f1.trans f2).keep hm), m2, q2, fun o' H3 M3 f3 m3 q3 =>
    ⟨d, M3, R, r1.keep ((f2.trans f3).keep m1), m3, q3, fun v H' d M' f4 => k v H' d M' (((f1.trans f2).trans f3).trans f4)⟩⟩⟩⟩
end
end DL

set_option Elab.async false
set_option linter.all false
set_option maxRecDepth 100000
namespace DL
open PySem PySem.Spec PyProof.Rows L2
/-! ### built-ins by name -/
abbrev CLD := List D → DM → (D → DM → Prop) → Prop
def lftCl (w : World) (K : PySem.W.Frag) (r : CLD) : List V → Hp → VK → Prop := fun xs H Q => ∃ es M R, Rps K H es xs ∧ RM w K H M ∧ r es M R ∧ ∀ v H' d M', Fr H M H' M' → Rp K H' d v → RM w K H' M' → R d M' → Q v H'
def CD (X : Cx) (f : Value) (r : CLD) : Prop := CallR X f (lftCl X.w X.K r)
def dCB (r : CLD) (t : DA) : DE := fun ds M Q => t ds M fun es M1 => r es M1 Q
@[simp ↓] theorem dCB_eq {r : CLD} {t : DA} {ds : DSt} {M : DM} {Q : D → DM → Prop} : dCB r t ds M Q = t ds M fun es M1 => r es M1 Q := rfl
section
variable {X : Cx} {x : Str} {e : Expr} {es : List Expr} {t : DA} {r : CLD} {p pos : Pos}
theorem cb_imp {w : World} {K : PySem.W.Frag} {σ : L2.St} {H : Hp} {Q : VK} (h : lft w K (dCB r t) σ H Q) : tCB (lftCl w K r) (lftA w K t) σ H Q := by
  obtain ⟨ds, M, R, hs, hm, t, k⟩ := h
  exact ⟨ds, M, _, hs, hm, t, fun vs H1 es M1 f1 r1 m1 q => ⟨es, M1, R, r1, m1, q, fun v H' d M' f2 => k v H' d M' (f1.trans f2)⟩⟩
theorem e_cb {id : String} (hc : CD X (.builtin id) r) (hg : Gl X x) (hm : X.mg x = none) (hv : bootBuiltins x = some (.builtin id)) (ha : AX X (e :: es) t) (hn : x ≠ "__name__" := by decide) (hdb : (x == ("__debug__" : Str)) = false := by decide)
    (he : starEach (e :: es) X.env = (false, eval e X.env) :: starEach es X.env := by rfl) (hpl : (backTo pos (starEach es X.env)).any (·.1) = false := by rfl) : EX X (.Call (.Name x p) (e :: es) [] pos) (dCB r t) :=
  (pe_callB hc hg hm hv ha hn hdb he hpl).imp fun _ _ _ h => cb_imp h
theorem e_ct {T : String} (hc : CD X (.type T) r) (hg : Gl X x) (hm : X.mg x = none) (hv : bootBuiltins x = some (.type T)) (ha : AX X (e :: es) t) (hn : x ≠ "__name__" := by decide) (hdb : (x == ("__debug__" : Str)) = false := by decide)
    (he : starEach (e :: es) X.env = (false, eval e X.env) :: starEach es X.env := by rfl) (hpl : (backTo pos (starEach es X.env)).any (·.1) = false := by rfl) : EX X (.Call (.Name x p) (e :: es) [] pos) (dCB r t) :=
  (pe_callTy hc hg hm hv ha hn hdb he hpl).imp fun _ _ _ h => cb_imp h
def lenK (d : D) (M : DM) (k : Nat → Prop) : Prop := match d with
  | .str x => x.length ≤ sizeLine ∧ k x.length
  | .tup ds => k ds.length
  | .fl ds => k ds.length
  | .ref a => match M a with
    | some (.lst ds) => k ds.length
    | some (.dS kvs) => k kvs.length
    | _ => False
  | _ => False
@[simp ↓] theorem lenK_str {x : Str} {M : DM} {k : Nat → Prop} : lenK (.str x) M k = (x.length ≤ sizeLine ∧ k x.length) := rfl
@[simp ↓] theorem lenK_tup {x : List D} {M : DM} {k : Nat → Prop} : lenK (.tup x) M k = k x.length := rfl
theorem lenK_lst {a : Addr} {ds : List D} {M : DM} {k : Nat → Prop} (h : M a = some (.lst ds)) : lenK (.ref a) M k = k ds.length := by simp [lenK, h]
@[simp ↓] theorem lenK_fl {x : List D} {M : DM} {k : Nat → Prop} : lenK (.fl x) M k = k x.length := rfl
def arg1 (es : List D) (k : D → Prop) : Prop := match es with
  | [d] => k d
  | _ => False
def arg2 (es : List D) (k : D → D → Prop) : Prop := match es with
  | [d, e] => k d e
  | _ => False
@[simp ↓] theorem arg1_eq {d : D} {k : D → Prop} : arg1 [d] k = k d := rfl
@[simp ↓] theorem arg2_eq {d e : D} {k : D → D → Prop} : arg2 [d, e] k = k d e := rfl
theorem arg1_of {es : List D} {k : D → Prop} (h : arg1 es k) : ∃ d, es = [d] ∧ k d := by
  unfold arg1 at h
  split at h
  · exact ⟨_, rfl, h⟩
  · exact h.elim
theorem arg2_of {es : List D} {k : D → D → Prop} (h : arg2 es k) : ∃ d e, es = [d, e] ∧ k d e := by
  unfold arg2 at h
  split at h
  · exact ⟨_, _, rfl, h⟩
  · exact h.elim
theorem Rps.one {K : PySem.W.Frag} {H : Hp} {d : D} {vs : List V} (r : Rps K H [d] vs) : ∃ v, vs = [v] ∧ Rp K H d v := by
  obtain ⟨v, t, rfl, h1, h2⟩ := r.cons_of
  cases h2.nil_of
  exact ⟨v, rfl, h1⟩
theorem Rps.two {K : PySem.W.Frag} {H : Hp} {d e : D} {vs : List V} (r : Rps K H [d, e] vs) : ∃ v u, vs = [v, u] ∧ Rp K H d v ∧ Rp K H e u := by
  obtain ⟨v, t, rfl, h1, h2⟩ := r.cons_of
  obtain ⟨u, rfl, h3⟩ := h2.one
  exact ⟨v, u, rfl, h1, h3⟩
def lenB : CLD := fun es M Q => arg1 es fun d => lenK d M fun n => Q (.int n) M
@[simp ↓] theorem lenB_eq {es : List D} {M : DM} {Q : D → DM → Prop} : lenB es M Q = arg1 es fun d => lenK d M fun n => Q (.int n) M := rfl
theorem c_len : CD X (.builtin "len") lenB := by
  intro pins s σ H xs us Q I r ⟨es, M, R, hr, hm, t, k⟩
  obtain ⟨d, rfl, t⟩ := arg1_of t
  obtain ⟨v, rfl, r1⟩ := hr.one
  change lenK d M (fun n => R (.int n) M) at t
  unfold lenK at t
  split at t
  · cases r1.str_of
    exact call_len pins s σ H _ us Q I r ⟨_, _, rfl, ⟨t.1, rfl⟩, Fin k hm Rp.int t.2⟩
  · obtain ⟨a, vs, rfl, ta, ra⟩ := r1.tup_of
    exact call_len pins s σ H _ us Q I r ⟨_, _, rfl, .inr ⟨vs, ta, rfl⟩, by rw [← ra.len]; exact Fin k hm Rp.int t⟩
  · obtain ⟨a, vs, rfl, ta, ra⟩ := r1.fl_of
    exact call_len pins s σ H _ us Q I r ⟨_, _, rfl, .inl ⟨vs, ta.sqL, rfl⟩, by rw [← ra.len]; exact Fin k hm Rp.int t⟩
  · cases r1.ref_of
    split at t
    · rename_i e
      obtain ⟨vs, h1, h2⟩ := hm _ _ e
      exact call_len pins s σ H _ us Q I r ⟨_, _, rfl, .inl ⟨vs, SqL.of h1, rfl⟩, by rw [← h2.len]; exact Fin k hm Rp.int t⟩
    · rename_i e
      obtain ⟨vs, h1, h2⟩ := hm _ _ e
      exact call_lenD pins s σ H _ us Q I r ⟨_, vs, rfl, h1, by rw [← h2.len]; exact Fin k hm Rp.int t⟩
    · exact t.elim
  · exact t.elim
/-! #### all, any, sum -/
def isBl : D → Bool
  | .bl _ => true
  | _ => false
def truB : D → Bool
  | .bl b => b
  | _ => false
@[simp] theorem isBl_bl {b : Bool} : isBl (.bl b) = true := rfl
@[simp] theorem truB_bl {b : Bool} : truB (.bl b) = b := rfl
theorem bools_of {K : PySem.W.Frag} {H : Hp} : ∀ {ds : List D} {vs : List V}, Rps K H ds vs → ds.all isBl = true → vs = (ds.map truB).map V.bl
  | [], _, r, _ => by rw [r.nil_of]; rfl
  | d :: ds, _, r, h => by
    obtain ⟨v, t, rfl, h1, h2⟩ := r.cons_of
    have h' : isBl d = true ∧ ds.all isBl = true := by simpa using h
    cases d with
    | bl b =>
      cases h1.bl_of
      rw [bools_of h2 h'.2]
      rfl
    | _ => exact absurd h'.1 (by simp [isBl])
def refB (f : List D → (D → Prop) → Prop) : CLD := fun es M Q => arg1 es fun d => refK d fun a => rdK (M a) fun ds => f ds fun d => Q d M
@[simp ↓] theorem refB_eq {f : List D → (D → Prop) → Prop} {es : List D} {M : DM} {Q : D → DM → Prop} : refB f es M Q = arg1 es fun d => refK d fun a => rdK (M a) fun ds => f ds fun d => Q d M := rfl
def allB : CLD := refB fun ds k => ds.all isBl = true ∧ k (.bl (ds.all truB))
def anyB : CLD := refB fun ds k => ds.all isBl = true ∧ k (.bl (ds.any truB))
@[simp ↓] theorem allB_eq {es : List D} {M : DM} {Q : D → DM → Prop} : allB es M Q = refB (fun ds k => ds.all isBl = true ∧ k (.bl (ds.all truB))) es M Q := rfl
@[simp ↓] theorem anyB_eq {es : List D} {M : DM} {Q : D → DM → Prop} : anyB es M Q = refB (fun ds k => ds.all isBl = true ∧ k (.bl (ds.any truB))) es M Q := rfl
theorem refB_of {w : World} {K : PySem.W.Frag} {H : Hp} {M : DM} {f : List D → (D → Prop) → Prop} {es : List D} {vs : List V} {R : D → DM → Prop} (hm : RM w K H M) (hr : Rps K H es vs) (t : refB f es M R) : ∃ a ds us, vs = [.ref a] ∧ SqL K H a us ∧ Rps K H ds us ∧ f ds fun d => R d M := by
  obtain ⟨d, rfl, t⟩ := arg1_of t
  obtain ⟨a, rfl, t⟩ := refK_of t
  obtain ⟨v, rfl, r1⟩ := hr.one
  cases r1.ref_of
  obtain ⟨ds, us, h1, h2, q⟩ := rdK_of hm t
  exact ⟨a, ds, us, rfl, h1, h2, q⟩
theorem c_all (hc : X.calm = true) : CD X (.builtin "all") allB := by
  intro pins s σ H xs us Q I r ⟨es, M, R, hr, hm, t, k⟩
  obtain ⟨a, ds, ws, rfl, h1, h2, hb, q⟩ := refB_of hm hr t
  have e := bools_of h2 hb
  subst e
  refine cr_all hc pins s σ H _ us Q I r ⟨a, ds.map truB, rfl, h1, ?_⟩
  rw [List.all_map]
  exact Fin k hm Rp.bl q
theorem c_any (hc : X.calm = true) : CD X (.builtin "any") anyB := by
  intro pins s σ H xs us Q I r ⟨es, M, R, hr, hm, t, k⟩
  obtain ⟨a, ds, ws, rfl, h1, h2, hb, q⟩ := refB_of hm hr t
  have e := bools_of h2 hb
  subst e
  refine cr_any hc pins s σ H _ us Q I r ⟨a, ds.map truB, rfl, h1, ?_⟩
  rw [List.any_map]
  exact Fin k hm Rp.bl q
def isI : D → Bool
  | .int _ => true
  | _ => false
def intV : D → Int
  | .int i => i
  | _ => 0
theorem ints_of {K : PySem.W.Frag} {H : Hp} : ∀ {ds : List D} {vs : List V}, Rps K H ds vs → ds.all isI = true → vs = (ds.map intV).map V.int
  | [], _, r, _ => by rw [r.nil_of]; rfl
  | d :: ds, _, r, h => by
    obtain ⟨v, t, rfl, h1, h2⟩ := r.cons_of
    have h' : isI d = true ∧ ds.all isI = true := by simpa using h
    cases d with
    | int b =>
      cases h1.int_of
      rw [ints_of h2 h'.2]
      rfl
    | _ => exact absurd h'.1 (by simp [isI])
def sumB : CLD := refB fun ds k => ds.all isI = true ∧ k (.int (ds.map intV).sum)
@[simp ↓] theorem sumB_eq {es : List D} {M : DM} {Q : D → DM → Prop} : sumB es M Q = refB (fun ds k => ds.all isI = true ∧ k (.int (ds.map intV).sum)) es M Q := rfl
theorem c_sum (hc : X.calm = true) : CD X (.builtin "sum") sumB := by
  intro pins s σ H xs us Q I r ⟨es, M, R, hr, hm, t, k⟩
  obtain ⟨a, ds, ws, rfl, h1, h2, hb, q⟩ := refB_of hm hr t
  have e := ints_of h2 hb
  subst e
  exact cr_sum hc pins s σ H _ us Q I r ⟨a, ds.map intV, rfl, h1, Fin k hm Rp.int q⟩
/-! #### min, max of two -/
def minB : CLD := fun es M Q => arg2 es fun d e => intK d fun i => intK e fun j => Q (.int (if j < i then j else i)) M
def maxB : CLD := fun es M Q => arg2 es fun d e => intK d fun i => intK e fun j => Q (.int (if j > i then j else i)) M
@[simp ↓] theorem minB_eq {es : List D} {M : DM} {Q : D → DM → Prop} : minB es M Q = arg2 es fun d e => intK d fun i => intK e fun j => Q (.int (if j < i then j else i)) M := rfl
@[simp ↓] theorem maxB_eq {es : List D} {M : DM} {Q : D → DM → Prop} : maxB es M Q = arg2 es fun d e => intK d fun i => intK e fun j => Q (.int (if j > i then j else i)) M := rfl
theorem c_min (hc : X.calm = true) : CD X (.builtin "min") minB := by
  intro pins s σ H xs us Q I r ⟨es, M, R, hr, hm, t, k⟩
  obtain ⟨d, e, rfl, t⟩ := arg2_of t
  obtain ⟨i, rfl, t⟩ := intK_of t
  obtain ⟨j, rfl, t⟩ := intK_of t
  obtain ⟨v, u, rfl, r1, r2⟩ := hr.two
  cases r1.int_of; cases r2.int_of
  exact call_min2 hc pins s σ H _ us Q I r ⟨i, j, rfl, Fin k hm Rp.int t⟩
theorem c_max (hc : X.calm = true) : CD X (.builtin "max") maxB := by
  intro pins s σ H xs us Q I r ⟨es, M, R, hr, hm, t, k⟩
  obtain ⟨d, e, rfl, t⟩ := arg2_of t
  obtain ⟨i, rfl, t⟩ := intK_of t
  obtain ⟨j, rfl, t⟩ := intK_of t
  obtain ⟨v, u, rfl, r1, r2⟩ := hr.two
  cases r1.int_of; cases r2.int_of
  exact call_max2 hc pins s σ H _ us Q I r ⟨i, j, rfl, Fin k hm Rp.int t⟩
/-! #### tuple, list -/
def seqK (d : D) (M : DM) (k : List D → Prop) : Prop := match d with
  | .tup ds => k ds
  | .fl ds => k ds
  | .ref a => rdK (M a) k
  | _ => False
@[simp ↓] theorem seqK_tup {ds : List D} {M : DM} {k : List D → Prop} : seqK (.tup ds) M k = k ds := rfl
@[simp ↓] theorem seqK_ref {a : Addr} {M : DM} {k : List D → Prop} : seqK (.ref a) M k = rdK (M a) k := rfl
theorem seqK_of {w : World} {K : PySem.W.Frag} {H : Hp} {M : DM} {d : D} {v : V} {k : List D → Prop} (hm : RM w K H M) (hr : Rp K H d v) (t : seqK d M k) : ∃ a ds us, v = .ref a ∧ (SqL K H a us ∨ SqT K H a us) ∧ Rps K H ds us ∧ k ds := by
  unfold seqK at t
  split at t
  · obtain ⟨a, vs, rfl, ta, ra⟩ := hr.tup_of
    exact ⟨a, _, vs, rfl, .inr ta, ra, t⟩
  · obtain ⟨a, vs, rfl, ta, ra⟩ := hr.fl_of
    exact ⟨a, _, vs, rfl, .inl ta.sqL, ra, t⟩
  · cases hr.ref_of
    obtain ⟨ds, us, h1, h2, q⟩ := rdK_of hm t
    exact ⟨_, ds, us, rfl, .inl h1, h2, q⟩
  · exact t.elim
def tupB : CLD := fun es M Q => arg1 es fun d => seqK d M fun ds => Q (.tup ds) M
def listB : CLD := fun es M Q => arg1 es fun d => seqK d M fun ds => ∀ p, M p = none → Q (.ref p) (updM M p (.lst ds))
@[simp ↓] theorem tupB_eq {es : List D} {M : DM} {Q : D → DM → Prop} : tupB es M Q = arg1 es fun d => seqK d M fun ds => Q (.tup ds) M := rfl
@[simp ↓] theorem listB_eq {es : List D} {M : DM} {Q : D → DM → Prop} : listB es M Q = arg1 es fun d => seqK d M fun ds => ∀ p, M p = none → Q (.ref p) (updM M p (.lst ds)) := rfl
theorem c_tuple : CD X (.type "tuple") tupB := by
  intro pins s σ H xs us Q I r ⟨es, M, R, hr, hm, t, k⟩
  obtain ⟨d, rfl, t⟩ := arg1_of t
  obtain ⟨v, rfl, r1⟩ := hr.one
  obtain ⟨a, ds, ws, rfl, h1 | h1, h2, q⟩ := seqK_of hm r1 t
  · exact call_tuple_of pins s σ H _ us Q I r ⟨a, ws, rfl, .inl ⟨h1, fun l hl => k _ _ _ _ (Fr.hid hl) (Rp.tup (SqT.of upd_same) (h2.keep (keep_new hl))) (hm.hid hl) q⟩⟩
  · exact call_tuple_of pins s σ H _ us Q I r ⟨a, ws, rfl, .inr ⟨h1, Fin k hm (Rp.tup h1 h2) q⟩⟩
theorem c_list : CD X (.type "list") listB := by
  intro pins s σ H xs us Q I r ⟨es, M, R, hr, hm, t, k⟩
  obtain ⟨d, rfl, t⟩ := arg1_of t
  obtain ⟨v, rfl, r1⟩ := hr.one
  obtain ⟨a, ds, ws, rfl, h1, h2, q⟩ := seqK_of hm r1 t
  exact call_list_of pins s σ H _ us Q I r ⟨a, ws, rfl, h1, fun l hl => k _ _ _ _ (Fr.new hl) Rp.ref (hm.new (o := .lst ds) hl ⟨ws, upd_same, h2.keep (keep_new hl)⟩) (q l (hm.fresh hl))⟩
/-! #### isinstance -/
def tyN (d : D) (M : DM) (k : String → Prop) : Prop := match d with
  | .non => k "NoneType"
  | .bl _ => k "bool"
  | .int _ => k "int"
  | .str _ => k "str"
  | .tup _ => k "tuple"
  | .ref a => match M a with
    | some (.lst _) => k "list"
    | _ => False
  | _ => False
@[simp ↓] theorem tyN_non {M : DM} {k : String → Prop} : tyN .non M k = k "NoneType" := rfl
@[simp ↓] theorem tyN_bl {b : Bool} {M : DM} {k : String → Prop} : tyN (.bl b) M k = k "bool" := rfl
@[simp ↓] theorem tyN_int {b : Int} {M : DM} {k : String → Prop} : tyN (.int b) M k = k "int" := rfl
@[simp ↓] theorem tyN_str {b : Str} {M : DM} {k : String → Prop} : tyN (.str b) M k = k "str" := rfl
@[simp ↓] theorem tyN_tup {b : List D} {M : DM} {k : String → Prop} : tyN (.tup b) M k = k "tuple" := rfl
theorem tyN_lst {a : Addr} {ds : List D} {M : DM} {k : String → Prop} (h : M a = some (.lst ds)) : tyN (.ref a) M k = k "list" := by simp [tyN, h]
theorem tyN_of {w : World} {K : PySem.W.Frag} {H : Hp} {M : DM} {d : D} {v : V} {k : String → Prop} (hm : RM w K H M) (hr : Rp K H d v) (t : tyN d M k) : ∃ T, TyX K H v (.type T) ∧ k T := by
  unfold tyN at t
  split at t
  · cases hr.non_of; exact ⟨_, .base .non, t⟩
  · cases hr.bl_of; exact ⟨_, .base (.bl _), t⟩
  · cases hr.int_of; exact ⟨_, .base (.int _), t⟩
  · cases hr.str_of; exact ⟨_, .base (.str _), t⟩
  · obtain ⟨a, vs, rfl, ta, ra⟩ := hr.tup_of
    refine ⟨_, ?_, t⟩
    rcases ta with (h | ⟨o, h⟩) | ⟨o, its, n, h1, h2, _⟩
    · exact .base (.tup h)
    · exact .fTuple h
    · exact .kTuple h1 h2
  · cases hr.ref_of
    split at t
    · rename_i e
      obtain ⟨vs, h1, h2⟩ := hm _ _ e
      exact ⟨_, .base (.lst h1), t⟩
    · exact t.elim
  · exact t.elim
def isiB (T : String) : CLD := fun es M Q => arg2 es fun d c => match c with
  | .ty T' => T' = T ∧ tyN d M fun t => optK (kitB t T) fun b => Q (.bl b) M
  | _ => False
theorem isiB_eq {T : String} {d : D} {M : DM} {Q : D → DM → Prop} : isiB T [d, .ty T] M Q = (T = T ∧ tyN d M fun t => optK (kitB t T) fun b => Q (.bl b) M) := rfl
theorem c_isi {T : String} : CD X (.builtin "isinstance") (isiB T) := by
  intro pins s σ H xs us Q I r ⟨es, M, R, hr, hm, t, k⟩
  obtain ⟨d, c, rfl, t⟩ := arg2_of t
  obtain ⟨v, u, rfl, r1, r2⟩ := hr.two
  cases c with
  | ty T' =>
    obtain ⟨rfl, t⟩ := t
    obtain ⟨tn, ht, t⟩ := tyN_of hm r1 t
    obtain ⟨b, hb, q⟩ := optK_of t
    cases r2.ty_of
    exact call_isi pins s σ H _ us Q I r ⟨_, _, _, _, b, rfl, .ty _, ht, kit_ty hb, Fin k hm Rp.bl q⟩
  | _ => exact t.elim
end
end DL

set_option Elab.async false
set_option linter.all false
set_option maxRecDepth 100000
namespace DL
open PySem PySem.Spec PyProof.Rows L2
/-! ### methods of built-in types -/
abbrev MLD := D → List D → DM → (D → DM → Prop) → Prop
def lftM (w : World) (K : PySem.W.Frag) (r : MLD) : V → List V → Hp → VK → Prop := fun x xs H Q => ∃ d es M R, Rp K H d x ∧ Rps K H es xs ∧ RM w K H M ∧ r d es M R ∧ ∀ v H' d M', Fr H M H' M' → Rp K H' d v → RM w K H' M' → R d M' → Q v H'
def MD (X : Cx) (id : String) (r : MLD) : Prop := L2.MtR X id (lftM X.w X.K r)
def tyK (T : String) (d : D) (M : DM) : Prop := match d with
  | .str _ => T = "str"
  | .ref a => match M a with
    | some (.lst _) => T = "list"
    | some (.dS _) => T = "dict"
    | _ => False
  | _ => False
@[simp ↓] theorem tyK_str {x : Str} {T : String} {M : DM} : tyK T (.str x) M = (T = "str") := rfl
theorem tyK_lst {a : Addr} {ds : List D} {T : String} {M : DM} (h : M a = some (.lst ds)) : tyK T (.ref a) M = (T = "list") := by simp [tyK, h]
theorem tyK_dS {a : Addr} {ds : List (Str × D)} {T : String} {M : DM} (h : M a = some (.dS ds)) : tyK T (.ref a) M = (T = "dict") := by simp [tyK, h]
theorem tyK_V {w : World} {K : PySem.W.Frag} {H : Hp} {M : DM} {d : D} {v : V} {T : String} (hm : RM w K H M) (hr : Rp K H d v) (h : tyK T d M) : tyV K T v H := by
  unfold tyK at h
  split at h
  · cases hr.str_of; exact h
  · cases hr.ref_of
    split at h
    · rename_i e
      obtain ⟨vs, h1, _⟩ := hm _ _ e
      exact .inl ⟨h, vs, SqL.of h1⟩
    · rename_i e
      obtain ⟨vs, h1, _⟩ := hm _ _ e
      exact .inr (.inr (.inl ⟨h, .inl ⟨vs, h1⟩⟩))
    · exact h.elim
  · exact h.elim
def dBM (T : String) (r : MLD) (to : DE) (t : DA) : DE := fun ds M Q => to ds M fun x M1 => tyK T x M1 ∧ t ds M1 fun es M2 => r x es M2 Q
def dBM0 (T : String) (r : MLD) (to : DE) : DE := fun ds M Q => to ds M fun x M1 => tyK T x M1 ∧ r x [] M1 Q
@[simp ↓] theorem dBM_eq {T : String} {r : MLD} {to : DE} {t : DA} {ds : DSt} {M : DM} {Q : D → DM → Prop} : dBM T r to t ds M Q = to ds M fun x M1 => tyK T x M1 ∧ t ds M1 fun es M2 => r x es M2 Q := rfl
@[simp ↓] theorem dBM0_eq {T : String} {r : MLD} {to : DE} {ds : DSt} {M : DM} {Q : D → DM → Prop} : dBM0 T r to ds M Q = to ds M fun x M1 => tyK T x M1 ∧ r x [] M1 Q := rfl
section
variable {X : Cx}
theorem e_bm {T : String} {name : Str} {id : String} {o e : Expr} {es : List Expr} {apos cpos : Pos} {to : DE} {t : DA} {r : MLD} (pa : PlainAttrs T) (slot : Slot T name id) (hty : typeOf (.builtin id) = pure (.type "method_descriptor")) (hm : MD X id r) (ho : EX X o to) (ha : AX X (e :: es) t)
    (hbase : attributeBase o name X.env (eval o X.env) = eval o X.env := by rfl)
    (hfew : ((backTo cpos (starEach (e :: es) X.env)).all (fun x => !x.1) && (backToKw cpos (keywordEach [] X.env)).all (fun x => x.1.isSome)
      && decide ((e :: es).length + ([] : List Keyword).length + (if ([] : List Keyword).isEmpty then 0 else 1) < 30)) = true := by rfl)
    (hline : (apos.endLine == cpos.line) = true := by rfl) (hs : starEach (e :: es) X.env = (false, eval e X.env) :: starEach es X.env := by rfl) (hplain : (backTo cpos (starEach es X.env)).any (·.1) = false := by rfl) :
    EX X (.Call (.Attribute o name apos) (e :: es) [] cpos) (dBM T r to t) :=
  (pe_bm pa slot hty hm ho ha hbase hfew hline hs hplain).imp fun σ H Q ⟨ds, M, R, hs, hm, t, k⟩ => ⟨ds, M, _, hs, hm, t, fun v H1 d M1 f1 r1 m1 q => ⟨tyK_V m1 r1 q.1, ds, M1, _, hs.keep (f1.keep hm), m1, q.2, fun xs H2 es M2 f2 r2 m2 q2 => ⟨d, es, M2, R, r1.keep (f2.keep m1), r2, m2, q2, fun v H' d M' f3 => k v H' d M' ((f1.trans f2).trans f3)⟩⟩⟩
theorem e_bm0 {T : String} {name : Str} {id : String} {o : Expr} {apos cpos : Pos} {to : DE} {r : MLD} (pa : PlainAttrs T) (slot : Slot T name id) (hty : typeOf (.builtin id) = pure (.type "method_descriptor")) (hm : MD X id r) (ho : EX X o to)
    (hbase : attributeBase o name X.env (eval o X.env) = eval o X.env := by rfl) (hline : (apos.endLine == cpos.line) = true := by rfl) : EX X (.Call (.Attribute o name apos) [] [] cpos) (dBM0 T r to) :=
  (pe_bm0 pa slot hty hm ho hbase hline).imp fun σ H Q ⟨ds, M, R, hs, hm, t, k⟩ => ⟨ds, M, _, hs, hm, t, fun v H1 d M1 f1 r1 m1 q => ⟨tyK_V m1 r1 q.1, d, [], M1, R, r1, .nil, m1, q.2, fun v H' d M' f3 => k v H' d M' (f1.trans f3)⟩⟩
/-! #### lists -/
def appM : MLD := fun x es M Q => refK x fun a => arg1 es fun d => lstK (M a) fun xs => xs.length < sizeLine ∧ Q .non (updM M a (.lst (xs ++ [d])))
def extM : MLD := fun x es M Q => refK x fun a => arg1 es fun d => refK d fun b => lstK (M a) fun xs => lstK (M b) fun ys => xs.length + ys.length ≤ sizeLine ∧ Q .non (updM M a (.lst (xs ++ ys)))
def popM : MLD := fun x es M Q => refK x fun a => es = [] ∧ lstK (M a) fun xs => optK xs[xs.length - 1]? fun d => Q d (updM M a (.lst xs.dropLast))
@[simp ↓] theorem appM_eq {x : D} {es : List D} {M : DM} {Q : D → DM → Prop} : appM x es M Q = refK x fun a => arg1 es fun d => lstK (M a) fun xs => xs.length < sizeLine ∧ Q .non (updM M a (.lst (xs ++ [d]))) := rfl
@[simp ↓] theorem extM_eq {x : D} {es : List D} {M : DM} {Q : D → DM → Prop} : extM x es M Q = refK x fun a => arg1 es fun d => refK d fun b => lstK (M a) fun xs => lstK (M b) fun ys => xs.length + ys.length ≤ sizeLine ∧ Q .non (updM M a (.lst (xs ++ ys))) := rfl
@[simp ↓] theorem popM_eq {x : D} {es : List D} {M : DM} {Q : D → DM → Prop} : popM x es M Q = refK x fun a => es = [] ∧ lstK (M a) fun xs => optK xs[xs.length - 1]? fun d => Q d (updM M a (.lst xs.dropLast)) := rfl
theorem m_append : MD X "list.append" appM := by
  intro pins s σ H x xs v us Q I rx rs ⟨d, es, M, R, hx, he, hm, t, k⟩
  obtain ⟨a, rfl, t1⟩ := refK_of t
  obtain ⟨e, rfl, t2⟩ := arg1_of t1
  obtain ⟨ys, e1, hl, q⟩ := lstK_of t2
  obtain ⟨u, rfl, r1⟩ := he.one
  cases hx.ref_of
  obtain ⟨vs, h1, h2⟩ := hm _ _ e1
  exact mt_append pins s σ H _ _ v us Q I rx rs ⟨_, vs, u, rfl, rfl, h1, by rw [← h2.len]; exact hl, k _ _ _ _ (Fr.write e1) Rp.non (hm.write (o := .lst _) e1 fun kw => ⟨_, upd_same, (h2.append (.cons r1 .nil)).keep kw⟩) q⟩
theorem m_extend : MD X "list.extend" extM := by
  intro pins s σ H x xs v us Q I rx rs ⟨d, es, M, R, hx, he, hm, t, k⟩
  obtain ⟨a, rfl, t1⟩ := refK_of t
  obtain ⟨e, rfl, t2⟩ := arg1_of t1
  obtain ⟨b, rfl, t3⟩ := refK_of t2
  obtain ⟨ys, e1, t4⟩ := lstK_of t3
  obtain ⟨zs, e2, hl, q⟩ := lstK_of t4
  obtain ⟨u, rfl, r1⟩ := he.one
  cases hx.ref_of
  cases r1.ref_of
  obtain ⟨vs, h1, h2⟩ := hm _ _ e1
  obtain ⟨ws, h3, h4⟩ := hm _ _ e2
  exact mt_extend pins s σ H _ _ v us Q I rx rs ⟨_, _, vs, ws, rfl, rfl, h1, h3, by rw [← h2.len, ← h4.len]; exact hl, k _ _ _ _ (Fr.write e1) Rp.non (hm.write (o := .lst _) e1 fun kw => ⟨_, upd_same, (h2.append h4).keep kw⟩) q⟩
theorem Rps.dropLast {K : PySem.W.Frag} {H : Hp} : ∀ {ds : List D} {vs : List V}, Rps K H ds vs → Rps K H ds.dropLast vs.dropLast
  | [], _, r => by rw [r.nil_of]; exact .nil
  | [d], _, r => by obtain ⟨v, rfl, _⟩ := r.one; exact .nil
  | d :: e :: ds, _, r => by
    obtain ⟨v, t, rfl, h1, h2⟩ := r.cons_of
    obtain ⟨u, t', rfl, h3, h4⟩ := h2.cons_of
    exact .cons h1 (Rps.dropLast (.cons h3 h4))
theorem m_pop : MD X "list.pop" popM := by
  intro pins s σ H x xs v us Q I rx rs ⟨d, es, M, R, hx, he, hm, t, k⟩
  obtain ⟨a, rfl, rfl, t1⟩ := refK_of t
  obtain ⟨ys, e1, t2⟩ := lstK_of t1
  obtain ⟨z, e2, q⟩ := optK_of t2
  cases he.nil_of
  cases hx.ref_of
  obtain ⟨vs, h1, h2⟩ := hm _ _ e1
  obtain ⟨u, h3, h4⟩ := h2.get e2
  rw [h2.len] at h3
  have kw : Keep H (upd H a (.lst vs.dropLast)) := keep_write h1 (fun _ z => by cases z) (fun _ _ z => by cases z)
  exact mt_pop pins s σ H _ _ v us Q I rx rs ⟨_, vs, u, rfl, rfl, h1, h3, k _ _ _ _ (Fr.write e1) (h4.keep kw) (hm.write (o := .lst _) e1 fun kw => ⟨_, upd_same, h2.dropLast.keep kw⟩) q⟩
/-! #### texts -/
def strsOf : List D → Option (List Str)
  | [] => some []
  | .str x :: r => (strsOf r).map (x :: ·)
  | _ :: _ => none
theorem strsOf_map : ∀ xs : List Str, strsOf (xs.map D.str) = some xs
  | [] => rfl
  | x :: r => by simp [strsOf, strsOf_map r]
theorem strsOf_some : ∀ {ds : List D} {xs : List Str}, strsOf ds = some xs → ds = xs.map D.str
  | [], _, h => by cases h; rfl
  | .str x :: r, ys, h => by
    simp only [strsOf, Option.map_eq_some_iff] at h
    obtain ⟨xs, h1, rfl⟩ := h
    rw [strsOf_some h1]
    rfl
theorem Rps.strs {K : PySem.W.Frag} {H : Hp} : ∀ {xs : List Str} {vs : List V}, Rps K H (xs.map D.str) vs → vs = xs.map V.str
  | [], _, r => by rw [r.nil_of]; rfl
  | x :: xs, _, r => by
    obtain ⟨v, t, rfl, h1, h2⟩ := r.cons_of
    cases h1.str_of
    rw [Rps.strs h2]
    rfl
theorem Rps.of_strs {K : PySem.W.Frag} {H : Hp} : ∀ xs : List Str, Rps K H (xs.map D.str) (xs.map V.str)
  | [] => .nil
  | x :: xs => .cons Rp.str (Rps.of_strs xs)
def strK (d : D) (k : Str → Prop) : Prop := match d with
  | .str x => k x
  | _ => False
@[simp ↓] theorem strK_str {x : Str} {k : Str → Prop} : strK (.str x) k = k x := rfl
theorem strK_of {d : D} {k : Str → Prop} (h : strK d k) : ∃ x, d = .str x ∧ k x := by
  cases d <;> first | exact ⟨_, rfl, h⟩ | exact h.elim
def joinM : MLD := fun x es M Q => strK x fun a => arg1 es fun d => seqK d M fun ds => optK (strsOf ds) fun ys => ((ys.map (·.length)).sum + ys.length * a.length ≤ 16777216) ∧ Q (.str (Txt.join a ys)) M
@[simp ↓] theorem joinM_eq {x : D} {es : List D} {M : DM} {Q : D → DM → Prop} : joinM x es M Q = strK x fun a => arg1 es fun d => seqK d M fun ds => optK (strsOf ds) fun ys => ((ys.map (·.length)).sum + ys.length * a.length ≤ 16777216) ∧ Q (.str (Txt.join a ys)) M := rfl
theorem m_join : MD X "str.join" joinM := by
  intro pins s σ H x xs v us Q I rx rs ⟨d, es, M, R, hx, he, hm, t, k⟩
  obtain ⟨a, rfl, t1⟩ := strK_of t
  obtain ⟨e, rfl, t2⟩ := arg1_of t1
  obtain ⟨u, rfl, r1⟩ := he.one
  cases hx.str_of
  obtain ⟨b, ds, ws, rfl, h1, h2, t3⟩ := seqK_of hm r1 t2
  obtain ⟨ys, e2, hl, q⟩ := optK_of t3
  have := strsOf_some e2
  subst this
  cases h2.strs
  exact mt_join pins s σ H _ _ v us Q I rx rs ⟨a, b, ys, rfl, rfl, h1, hl, Fin k hm Rp.str q⟩
def str2M (f : Str → Str → D) : MLD := fun x es M Q => strK x fun a => arg1 es fun d => strK d fun b => Q (f a b) M
@[simp ↓] theorem str2M_eq {f : Str → Str → D} {x : D} {es : List D} {M : DM} {Q : D → DM → Prop} : str2M f x es M Q = strK x fun a => arg1 es fun d => strK d fun b => Q (f a b) M := rfl
theorem m_startswith : MD X "str.startswith" (str2M fun a b => .bl (Txt.startswith a b)) := by
  intro pins s σ H x xs v us Q I rx rs ⟨d, es, M, R, hx, he, hm, t, k⟩
  obtain ⟨a, rfl, t1⟩ := strK_of t
  obtain ⟨e, rfl, t2⟩ := arg1_of t1
  obtain ⟨b, rfl, t3⟩ := strK_of t2
  obtain ⟨u, rfl, r1⟩ := he.one
  cases hx.str_of; cases r1.str_of
  exact mt_startswith pins s σ H _ _ v us Q I rx rs ⟨a, b, rfl, rfl, Fin k hm Rp.bl t3⟩
theorem m_endswith : MD X "str.endswith" (str2M fun a b => .bl (Txt.endswith a b)) := by
  intro pins s σ H x xs v us Q I rx rs ⟨d, es, M, R, hx, he, hm, t, k⟩
  obtain ⟨a, rfl, t1⟩ := strK_of t
  obtain ⟨e, rfl, t2⟩ := arg1_of t1
  obtain ⟨b, rfl, t3⟩ := strK_of t2
  obtain ⟨u, rfl, r1⟩ := he.one
  cases hx.str_of; cases r1.str_of
  exact mt_endswith pins s σ H _ _ v us Q I rx rs ⟨a, b, rfl, rfl, Fin k hm Rp.bl t3⟩
/-! #### d.get(k), d.get(k, x) of a dict with texts as keys -/
def getM : MLD := fun x es M Q => refK x fun a => match es with
  | [.str k] => dSK (M a) fun kvs => Q ((getA kvs k).getD .non) M
  | [.str k, d] => dSK (M a) fun kvs => Q ((getA kvs k).getD d) M
  | _ => False
@[simp ↓] theorem getM_1 {a : Addr} {k : Str} {M : DM} {Q : D → DM → Prop} : getM (.ref a) [.str k] M Q = dSK (M a) fun kvs => Q ((getA kvs k).getD .non) M := rfl
@[simp ↓] theorem getM_2 {a : Addr} {k : Str} {d : D} {M : DM} {Q : D → DM → Prop} : getM (.ref a) [.str k, d] M Q = dSK (M a) fun kvs => Q ((getA kvs k).getD d) M := rfl
theorem RkS.getD {K : PySem.W.Frag} {H : Hp} {k : Str} {d : D} {v : V} {x : List (Str × D)} {q : List (Key × V)} (h : RkS K H x q) (hd : Rp K H d v) : Rp K H ((getA x k).getD d) ((valV q (.inr k)).getD v) := by
  obtain ⟨h1, h2⟩ := h.get (k := k)
  cases e : getA x k with
  | none => rw [h2 e]; exact hd
  | some z => obtain ⟨u, e2, r⟩ := h1 z e; rw [e2]; exact r
theorem m_get (hu : X.A.units + 64 < cLine) : MD X "dict.get" getM := by
  intro pins s σ H x xs v us Q I rx rs ⟨d, es, M, R, hx, he, hm, t, k⟩
  obtain ⟨a, rfl, t1⟩ := refK_of t
  cases hx.ref_of
  cases rx
  split at t1
  · rename_i z
    obtain ⟨kvs, e, q⟩ := dSK_of t1
    obtain ⟨vs, h1, h2⟩ := hm a _ e
    obtain ⟨u, rfl, r1⟩ := he.one
    cases r1.str_of
    obtain ⟨uu, rfl, ru⟩ := vals1 rs
    have g : DGet H a (kV (.inr z)) (valV vs (.inr z)) := DGet.k h1
    exact d_get1 (y := .str z) (by omega) I g ru fun w' s' I' rw' => ⟨_, H, I', rw', k _ _ _ _ .refl (h2.getD Rp.non) hm q⟩
  · rename_i z dd
    obtain ⟨kvs, e, q⟩ := dSK_of t1
    obtain ⟨vs, h1, h2⟩ := hm a _ e
    obtain ⟨u, u2, rfl, r1, r2⟩ := he.two
    cases r1.str_of
    obtain ⟨uu, uw, rfl, ru, rw2⟩ := vals2 rs
    have g : DGet H a (kV (.inr z)) (valV vs (.inr z)) := DGet.k h1
    exact d_get2 (y := .str z) (by omega) I g ru rw2 fun w' s' I' rw' => ⟨_, H, I', rw', k _ _ _ _ .refl (h2.getD r2) hm q⟩
  · exact t1.elim
end
end DL

set_option Elab.async false
set_option linter.all false
set_option maxRecDepth 100000
namespace DL
open PySem PySem.Spec PyProof.Rows L2
/-! ### != -/
open SeqAt in
theorem rcNe_key (x y : NestedKey) (A : Around) (s : Shared) (a b : Value) (ha : NestedIs s.heap x a) (hb : NestedIs s.heap y b) (hu : A.units + x.depth < cLine) : RcNeAt A s a b (!decide (x = y)) := by
  have hu0 : A.units < cLine := by omega
  rw [NestedKey.decide_eq]
  cases ha with
  | none =>
    cases hb with
    | none => exact RcNeAt.none_none
    | bool e => exact RcNeAt.none_bool _
    | int j t => exact RcNeAt.none_int j t
    | text z t => exact RcNeAt.none_str z t
    | tup h1 h2 h3 h4 => exact RcNeAt.none_tuple ⟨_, h1, h2, _, h3⟩ hu0
  | @bool bb i ei =>
    cases hb with
    | none => exact RcNeAt.bool_none _
    | @bool b2 j ej =>
      have : NestedKey.beq (.num i) (.num j) = (bb == b2) := by
        subst ei ej
        cases bb <;> cases b2 <;> rfl
      rw [this]
      exact RcNeAt.bool_bool bb b2
    | int j t =>
      have : NestedKey.beq (.num i) (.num j) = ((if bb then 1 else 0) == j) := by
        subst ei
        rfl
      rw [this]
      exact RcNeAt.bool_int bb j t
    | text z t => exact RcNeAt.bool_str bb z t
    | tup h1 h2 h3 h4 => exact RcNeAt.bool_tuple bb ⟨_, h1, h2, _, h3⟩ hu0
  | int i t =>
    cases hb with
    | none => exact RcNeAt.int_none i t
    | @bool b2 j ej =>
      have : NestedKey.beq (.num i) (.num j) = (i == (if b2 then 1 else 0)) := by
        subst ej
        rfl
      rw [this]
      exact RcNeAt.int_bool i t b2
    | int j u => exact RcNeAt.int_int i t j u
    | text z u => exact RcNeAt.int_str i t z u
    | tup h1 h2 h3 h4 => exact RcNeAt.int_tuple i t ⟨_, h1, h2, _, h3⟩ hu0
  | text z t =>
    cases hb with
    | none => exact RcNeAt.str_none z t
    | bool e => exact RcNeAt.str_bool z t _
    | int j u => exact RcNeAt.str_int z t j u
    | text z2 u => exact RcNeAt.str_str z t z2 u
    | tup h1 h2 h3 h4 => exact RcNeAt.str_tuple z t ⟨_, h1, h2, _, h3⟩ hu0
  | @tup l o vs n ks h1 h2 h3 h4 =>
    have hl : s.heap.IsTuple l vs := ⟨_, h1, h2, _, h3⟩
    cases hb with
    | none => exact RcNeAt.tuple_none hl hu0
    | bool e => exact RcNeAt.tuple_bool _ hl hu0
    | int j t => exact RcNeAt.tuple_int j t hl hu0
    | text z t => exact RcNeAt.tuple_str z t hl hu0
    | @tup l' o' vs' n' ks' g1 g2 g3 g4 =>
      have hl' : s.heap.IsTuple l' vs' := ⟨_, g1, g2, _, g3⟩
      have e1 : vs.size = ks.length := by simpa using NestedAll.length _ _ h4
      have e2 : vs'.size = ks'.length := by simpa using NestedAll.length _ _ g4
      show RcNeAt A s (.ref l) (.ref l') (!NestedKey.beqAll ks ks')
      rw [← beqAll_eq ks ks', ← e1, ← e2]
      refine RcNeAt.tuples hl hl' hu0 fun j j1 j2 => ?_
      have hd : A.in1.units + min (NestedKey.depthAll ks) (NestedKey.depthAll ks') < cLine := by
        have : (NestedKey.tup ks).depth = NestedKey.depthAll ks + 1 := by rw [NestedKey.depth]
        rw [this] at hu
        show A.units + 1 + _ < cLine
        omega
      have := eqAt_keys ks ks' A.in1 s vs.toList vs'.toList h4 g4 hd j (by simpa using j1) (by simpa using j2)
      simpa using this
open SeqAt in
theorem rcNe_lists {A : Around} {s : Shared} {a b : Addr} {xs ys : List NestedKey} {vs ws : Array Value} (h1 : s.heap.IsList a vs) (h2 : s.heap.IsList b ws) (g1 : NestedAll s.heap xs vs.toList) (g2 : NestedAll s.heap ys ws.toList) (hu : A.units + 1 + NestedKey.depthAll xs < cLine) :
    RcNeAt A s (.ref a) (.ref b) (!decide (xs = ys)) := by
  have e1 : vs.size = xs.length := by simpa using NestedAll.length _ _ g1
  have e2 : ws.size = ys.length := by simpa using NestedAll.length _ _ g2
  by_cases hl : vs.size = ws.size
  · rw [keys_beq, ← beqAll_eq xs ys]
    have e3 : (xs.length == ys.length) = true := by simp; omega
    rw [e3, Bool.and_true, show min xs.length ys.length = vs.size by omega]
    refine RcNeAt.lists h1 h2 hl (by omega) fun j j1 j2 => ?_
    have hd : A.in1.units + min (NestedKey.depthAll xs) (NestedKey.depthAll ys) < cLine := by
      show A.units + 1 + _ < cLine
      omega
    have := eqAt_keys xs ys A.in1 s vs.toList ws.toList g1 g2 hd j (by simpa using j1) (by simpa using j2)
    simpa using this
  · have : decide (xs = ys) = false := decide_eq_false fun e => hl (by rw [e1, e2, e])
    rw [this]
    exact RcNeAt.lists_lengths h1 h2 (by simpa using hl) (by omega)
section
variable {X : Cx}
def neD (d e : D) (M : DM) (Q : D → DM → Prop) : Prop := eqD d e M fun r M' => blK r fun b => Q (.bl (!b)) M'
@[simp ↓] theorem neD_eq {d e : D} {M : DM} {Q : D → DM → Prop} : neD d e M Q = eqD d e M fun r M' => blK r fun b => Q (.bl (!b)) M' := rfl
theorem o_ne (hu : X.A.units + 64 < cLine) : OD X (compareOp .NotEq) neD := by
  intro pins s σ H x y v u Q I rx ry ⟨dx, dy, M, R, hx, hy, hm, t, k⟩
  unfold neD eqD at t
  split at t
  · cases hx.int_of; cases hy.int_of
    exact op_ne pins s σ H _ _ v u Q I rx ry ⟨rfl, by simp only [V.int.injEq]; exact Fin k hm Rp.bl t⟩
  · cases hx.str_of; cases hy.str_of
    exact op_ne pins s σ H _ _ v u Q I rx ry ⟨rfl, by simp only [V.str.injEq]; exact Fin k hm Rp.bl t⟩
  · cases hx.bl_of; cases hy.bl_of
    exact op_ne pins s σ H _ _ v u Q I rx ry ⟨rfl, by simp only [V.bl.injEq]; exact Fin k hm Rp.bl t⟩
  · cases hx.ref_of; cases hy.ref_of
    obtain ⟨xs, vs, s1, r1, t1⟩ := rdK_of hm t
    obtain ⟨ys, ws, s2, r2, p1, p2, hd, t2⟩ := rdK_of hm t1
    obtain ⟨its, rv, pl, _⟩ := I.list s1
    obtain ⟨its2, rv2, pl2, _⟩ := I.list s2
    cases rx; cases ry
    exact rcNe_lists (A := X.A) pl.isList pl2.isList (nesteds_of I xs p1 r1 rv) (nesteds_of I ys p2 r2 rv2) (by omega) X.prog X.w X.xe _ ⟨.bl _, H, I, rfl, Fin k hm Rp.bl t2⟩
  · obtain ⟨a, vs, rfl, s1, r1⟩ := hx.fl_of
    cases hy.ref_of
    obtain ⟨ys, ws, s2, r2, p1, p2, hd, t2⟩ := rdK_of hm t
    obtain ⟨its, rv, pl, _⟩ := I.list s1.sqL
    obtain ⟨its2, rv2, pl2, _⟩ := I.list s2
    cases rx; cases ry
    exact rcNe_lists (A := X.A) pl.isList pl2.isList (nesteds_of I _ p1 r1 rv) (nesteds_of I ys p2 r2 rv2) (by omega) X.prog X.w X.xe _ ⟨.bl _, H, I, rfl, Fin k hm Rp.bl t2⟩
  · exact rcNe_key _ _ X.A s v u (nested_of I _ t.1 hx rx) (nested_of I _ t.2.1 hy ry) (by omega) X.prog X.w X.xe _ ⟨.bl _, H, I, rfl, Fin k hm Rp.bl t.2.2.2⟩
theorem u_neg : UD X (unaryOp .USub) fun d M Q => intK d fun i => Q (.int (-i)) M := by
  intro pins s σ H x v Q I rx ⟨dx, M, R, hx, hm, t, k⟩
  obtain ⟨i, rfl, t⟩ := intK_of t
  cases hx.int_of
  exact un_neg pins s σ H _ v Q I rx ⟨i, rfl, Fin k hm Rp.int t⟩

/-! ### op= -/
def iaddD (d e : D) (M : DM) (Q : D → DM → Prop) : Prop := match d, e with
  | .int i, .int j => Q (.int (i + j)) M
  | .str x, .str y => x.length + y.length ≤ sizeLine ∧ Q (.str (x ++ y)) M
  | _, _ => False
@[simp ↓] theorem iaddD_int {i j : Int} {M : DM} {Q : D → DM → Prop} : iaddD (.int i) (.int j) M Q = Q (.int (i + j)) M := rfl
@[simp ↓] theorem iaddD_str {i j : Str} {M : DM} {Q : D → DM → Prop} : iaddD (.str i) (.str j) M Q = (i.length + j.length ≤ sizeLine ∧ Q (.str (i ++ j)) M) := rfl
theorem i_add : PIp X .Add (lft2 X.w X.K iaddD) := by
  intro pins s σ H x y v u Q I rx ry ⟨dx, dy, M, R, hx, hy, hm, t, k⟩
  unfold iaddD at t
  split at t
  · cases hx.int_of; cases hy.int_of
    exact iop_add pins s σ H _ _ v u Q I rx ry ⟨_, _, rfl, rfl, Fin k hm Rp.int t⟩
  · cases hx.str_of; cases hy.str_of
    exact iop_add_str pins s σ H _ _ v u Q I rx ry ⟨_, _, rfl, rfl, t.1, Fin k hm Rp.str t.2⟩
  · exact t.elim
theorem i_sub : PIp X .Sub (lft2 X.w X.K subD) := by
  intro pins s σ H x y v u Q I rx ry ⟨dx, dy, M, R, hx, hy, hm, t, k⟩
  unfold subD intsK0 at t
  split at t
  · cases hx.int_of; cases hy.int_of
    exact iop_sub pins s σ H _ _ v u Q I rx ry ⟨_, _, rfl, rfl, Fin k hm Rp.int t⟩
  · exact t.elim
def dAug (i : Nat) (t : DE) (r : R2D) : DS := fun E ds M => dVarK (getS ds i) M fun x M0 => t ds M0 fun y M1 => r x y M1 fun z M2 => E.nx (ds.set i (some z)) M2
@[simp ↓] theorem dAug_eq {i : Nat} {t : DE} {r : R2D} {E : DEnds} {ds : DSt} {M : DM} : dAug i t r E ds M = dVarK (getS ds i) M fun x M0 => t ds M0 fun y M1 => r x y M1 fun z M2 => E.nx (ds.set i (some z)) M2 := rfl
theorem s_aug {i : Nat} {x : Str} {e : Expr} {t : DE} {op : Operator} {r : R2D} {pos pos' : Pos} (hN : X.N.Nodup) (hi : X.N[i]? = some x) (hx : Loc X.env.scope x) (he : EX X e t) (ho : PIp X op (lft2 X.w X.K r)) (hf : X.fn x = true ∨ X.env.scope.names.lookup x = some .local := by first | exact .inl rfl | exact .inr rfl | assumption) :
    SX X (.AugAssign (.Name x pos') op e pos) (dAug i t r) :=
  (ps_aug hN hi hx he ho hf).imp fun D σ H ⟨ds, M, E, hs, hm, t, g1, _⟩ => by
    change dVarK (getS ds i) M _ at t
    cases e : getS ds i with
    | none => rw [e] at t; exact t.elim
    | some d =>
      rw [e] at t
      obtain ⟨v, h1, h2⟩ := hs.2 i d (getS_eq _ _ _ e)
      exact ⟨v, h1, ds, M, _, hs, hm, t, fun u H1 dy M1 f1 r1 m1 q => ⟨d, dy, M1, _, h2.keep (f1.keep hm), r1, m1, q, fun z H2 dz M2 f2 r2 m2 q2 => g1 _ _ _ _ (f1.trans f2) ((hs.keep ((f1.trans f2).keep hm)).set r2) m2 q2⟩⟩
def dAugS (to ti te : DE) (r : R2D) : DS := fun E ds M => to ds M fun o M1 => ti ds M1 fun i M2 => getD o i M2 fun x M3 => te ds M3 fun y M4 => r x y M4 fun z M5 => setD o i z M5 fun M6 => E.nx ds M6
@[simp ↓] theorem dAugS_eq {to ti te : DE} {r : R2D} {E : DEnds} {ds : DSt} {M : DM} : dAugS to ti te r E ds M = to ds M fun o M1 => ti ds M1 fun i M2 => getD o i M2 fun x M3 => te ds M3 fun y M4 => r x y M4 fun z M5 => setD o i z M5 fun M6 => E.nx ds M6 := rfl
theorem s_augS {o i e : Expr} {to ti te : DE} {op : Operator} {r : R2D} {tpos pos : Pos} (hu : X.A.units + 64 < cLine) (ho : EX X o to) (hi : EX X i ti) (he : EX X e te) (hp : PIp X op (lft2 X.w X.K r))
    (ha : ∀ ov iv new, augStore i ov iv new = (do holding [new, ov, iv] (setItem ov iv new); release [new, ov, iv] []; pure .next) := by intros; rfl) : SX X (.AugAssign (.Subscript o i tpos) op e pos) (dAugS to ti te r) :=
  (ps_augS ho hi (g_get hu) he hp (p_set hu) ha).imp fun D σ H ⟨ds, M, E, hs, hm, t, g1, _⟩ => ⟨ds, M, _, hs, hm, t, fun x1 H1 d1 M1 f1 r1 m1 q1 => ⟨ds, M1, _, hs.keep (f1.keep hm), m1, q1, fun x2 H2 d2 M2 f2 r2 m2 q2 =>
    ⟨d1, d2, M2, _, r1.keep (f2.keep m1), r2, m2, q2, fun x3 H3 d3 M3 f3 r3 m3 q3 => ⟨ds, M3, _, hs.keep (((f1.trans f2).trans f3).keep hm), m3, q3, fun x4 H4 d4 M4 f4 r4 m4 q4 =>
      ⟨d3, d4, M4, _, r3.keep (f4.keep m3), r4, m4, q4, fun x5 H5 d5 M5 f5 r5 m5 q5 => ⟨d1, d2, d5, M5, _, r1.keep ((((f2.trans f3).trans f4).trans f5).keep m1), r2.keep (((f3.trans f4).trans f5).keep m2), r5, m5, q5, fun H6 M6 f6 m6 q6 =>
        g1 _ _ _ _ (((((f1.trans f2).trans f3).trans f4).trans f5).trans f6) (hs.keep ((((((f1.trans f2).trans f3).trans f4).trans f5).trans f6).keep hm)) m6 q6⟩⟩⟩⟩⟩⟩
end
end DL

set_option Elab.async false
set_option linter.all false
set_option maxRecDepth 100000
namespace DL
open PySem PySem.Spec PyProof.Rows L2
/-- what stands in the module's dict at a key -/
def EntOk (K : PySem.W.Frag) (a : Addr) (e : Str × Option D) : Prop := match e.2 with
  | some d => ∃ u v, PySem.W.nsIn K a e.1 = some (some u) ∧ RelV v u ∧ ∀ H, Rp K H d v
  | none => PySem.W.nsIn K a e.1 = some none
structure KDD (K : PySem.W.Frag) (w : World) (a : Addr) (tab : List (Str × Option D)) : Prop where
  kd : ∃ es n, KDict K w a es n
  ent : ∀ e ∈ tab, EntOk K a e
def dKGet (tab : List (Str × Option D)) (t u : DE) : DE := fun ds M Q => t ds M fun x M1 => u ds M1 fun y M2 => strK x fun z => optK (tab.lookup z) fun o => Q (o.getD y) M2
@[simp ↓] theorem dKGet_eq {tab : List (Str × Option D)} {t u : DE} {ds : DSt} {M : DM} {Q : D → DM → Prop} : dKGet tab t u ds M Q = t ds M fun x M1 => u ds M1 fun y M2 => strK x fun z => optK (tab.lookup z) fun o => Q (o.getD y) M2 := rfl
theorem lookup_mem {α : Type} : ∀ {l : List (Str × α)} {z : Str} {o : α}, l.lookup z = some o → (z, o) ∈ l
  | [], z, o, h => by simp at h
  | (k, v) :: l, z, o, h => by
    rw [List.lookup_cons] at h
    cases e : z == k with
    | true =>
      rw [e] at h
      have := eq_of_beq e
      subst this
      cases h
      exact List.mem_cons_self
    | false =>
      rw [e] at h
      exact List.mem_cons_of_mem _ (lookup_mem h)
section
variable {X : Cx} {x : Str} {p p2 p3 : Pos} {e e2 : Expr} {t u : DE}
theorem e_kget {tab : List (Str × Option D)} {a : Addr} (kd : KDD X.K X.w a tab) (hg : Gl X x) (hm : X.mg x = some (.ref a)) (he : EX X e t) (he2 : EX X e2 u) (hd : (x == ("__debug__" : Str)) = false := by decide)
    (hbase : attributeBase (.Name x p) "get" X.env (eval (.Name x p) X.env) = eval (.Name x p) X.env := by rfl)
    (hfew : ((backTo p3 (starEach [e, e2] X.env)).all (fun x => !x.1) && (backToKw p3 (keywordEach [] X.env)).all (fun x => x.1.isSome)
      && decide (([e, e2] : List Expr).length + ([] : List Keyword).length + (if ([] : List Keyword).isEmpty then 0 else 1) < 30)) = true := by rfl)
    (hline : (p2.endLine == p3.line) = true := by rfl) (htr : backTo p3 (starEach [e, e2] X.env) = [(false, eval e X.env), (false, eval e2 X.env)] := by rfl) :
    EX X (.Call (.Attribute (.Name x p) "get" p2) [e, e2] [] p3) (dKGet tab t u) := by
  refine ⟨fun pins s σ H Q I ⟨ds, M, R, hs, hmm, tt, k⟩ => ?_⟩
  obtain ⟨es, n, D⟩ := kd.kd
  have ho : PE X (.Name x p) (fun σ H Q => Q (.ref a) H) := (pe_glob hg hm (v := .ref a) rfl hd).imp fun _ _ _ h => h
  refine wpAny_Call_method hbase hfew hline PySem.F.plainAttrs_dict PySem.F.slot_dict_get PySem.F.type_dict_get (thn (ho.run pins s σ H (fun v H1 => v = .ref a ∧ H1 = H) I ⟨rfl, rfl⟩) fun v s1 ⟨y, H1, I1, rx, hy, hH⟩ => ?_)
  subst hy hH
  obtain rfl : v = Value.ref a := rx
  have hmap := PySem.W.mapOf_K (prog := X.prog) (w := X.w) I1.kIn D.at_ D.lit
  have hob := I1.kIn _ _ D.at_
  refine ⟨hmap.typeIs, fun b e => ⟨_, by cases e; exact hob, rfl⟩, ?_⟩
  rw [htr]
  refine Calls.callWith_builtin rfl (Calls.evalArgs_plain (Calls.spliced_cons (thn (he.run pins s1 σ H1 (fun v H2 => ∃ d M1, Fr H1 M H2 M1 ∧ Rp X.K H2 d v ∧ RM X.w X.K H2 M1 ∧ (u ds M1 fun y M2 => strK d fun z => optK (tab.lookup z) fun o => R (o.getD y) M2)) I1 ⟨ds, M, _, hs, hmm, tt, fun v H' d M' f r m q => ⟨d, M', f, r, m, q⟩⟩) fun iv s2 ⟨y, H2, I2, ry, d, M1, f1, r1, m1, q1⟩ =>
    Calls.spliced_cons (thn (he2.run pins s2 σ H2 (fun v H3 => ∃ d2 M2, Fr H2 M1 H3 M2 ∧ Rp X.K H3 d2 v ∧ RM X.w X.K H3 M2 ∧ strK d fun z => optK (tab.lookup z) fun o => R (o.getD d2) M2) I2 ⟨ds, M1, _, hs.keep (f1.keep hmm), m1, q1, fun v H' d M' f r m q => ⟨d, M', f, r, m, q⟩⟩) fun fv s3 ⟨y2, H3, I3, rz, d2, M2, f2, r2, m2, q2⟩ => Calls.spliced_nil ?_))))
  obtain ⟨z, rfl, q2⟩ := strK_of q2
  obtain ⟨o, ho2, q2⟩ := optK_of q2
  cases r1.str_of
  obtain ⟨tk, rfl⟩ := ry
  have hmap3 := PySem.W.mapOf_K (prog := X.prog) (w := X.w) I3.kIn D.at_ D.lit
  refine call_meetsIn PySem.F.slot_dict_get hmap3.typeIs PySem.F.entry_dict_get (PySem.F.args_dict_get_3 _ _ _) (meets_dict_get_default (strKind X.prog X.w) a (strKind_is X.prog X.w z tk) D.low fv) ⟨_, hmap3, ?_⟩
  have ent := kd.ent _ (lookup_mem ho2)
  cases o with
  | none =>
    have e : PySem.W.nsIn X.K a z = some none := ent
    rw [PySem.W.find_K D.at_ e]
    exact ⟨y2, H3, I3.tok _, rz, k _ _ _ _ (f1.trans f2) r2 m2 q2⟩
  | some d' =>
    obtain ⟨u0, v0, e, rv, rp⟩ := ent
    rw [PySem.W.find_K D.at_ e]
    exact ⟨v0, H3, I3.tok _, rv, k _ _ _ _ (f1.trans f2) (rp H3) m2 q2⟩
end
end DL

set_option Elab.async false
set_option linter.all false
set_option maxRecDepth 100000
namespace DL
open PySem PySem.Spec PyProof.Rows L2
/-! ### the order of texts -/
def leT (a b : Str) : Prop := a.cps.toList ≤ b.cps.toList
def strLt (a b : Str) : Bool := decide (a.cps.toList < b.cps.toList)
def insT (x : Str) : List Str → List Str
  | [] => [x]
  | y :: r => if strLt y x then y :: insT x r else x :: y :: r
theorem leT_trans {a b c : Str} (h : leT a b) (h' : leT b c) : leT a c := List.le_trans h h'
theorem leT_anti {a b : Str} (h : leT a b) (h' : leT b a) : a = b := by
  have := List.le_antisymm h h'
  cases a; cases b
  simpa using this
theorem leT_of {a b : Str} (h : ltCps b.cps.toList a.cps.toList = false) : leT a b := by
  rw [ltCps_eq] at h
  exact of_decide_eq_false h
theorem leT_lt {a b : Str} (h : strLt a b = true) : leT a b := List.le_of_lt (of_decide_eq_true h)
theorem leT_nlt {a b : Str} (h : ¬ strLt a b = true) : leT b a := fun z => h (decide_eq_true z)
theorem pw_of : ∀ (p : Str) (l : List Str), risingS p l = true → (p :: l).Pairwise leT
  | p, [], _ => by simp
  | p, x :: r, h => by
    simp only [risingS, Bool.and_eq_true, Bool.not_eq_true'] at h
    have ih := pw_of x r h.2
    have hpx := leT_of h.1
    refine List.pairwise_cons.mpr ⟨fun y hy => ?_, ih⟩
    rcases List.mem_cons.mp hy with rfl | hy
    · exact hpx
    · exact leT_trans hpx ((List.pairwise_cons.mp ih).1 y hy)
theorem pw_sorted : ∀ {l : List Str}, sortedS l = true → l.Pairwise leT
  | [], _ => List.Pairwise.nil
  | x :: r, h => pw_of x r h
theorem insT_perm (x : Str) : ∀ l : List Str, (insT x l).Perm (x :: l)
  | [] => .refl _
  | y :: r => by
    unfold insT
    split
    · exact ((insT_perm x r).cons y).trans (.swap x y r)
    · exact .refl _
theorem foldr_insT_perm : ∀ l : List Str, (l.foldr insT []).Perm l
  | [] => .refl _
  | x :: l => (insT_perm x _).trans ((foldr_insT_perm l).cons x)
theorem insT_pw (x : Str) : ∀ {l : List Str}, l.Pairwise leT → (insT x l).Pairwise leT
  | [], _ => by simp [insT]
  | y :: r, h => by
    have hh := List.pairwise_cons.mp h
    unfold insT
    by_cases c : strLt y x = true
    · rw [if_pos c]
      refine List.pairwise_cons.mpr ⟨fun z hz => ?_, insT_pw x hh.2⟩
      rcases List.mem_cons.mp ((insT_perm x r).mem_iff.mp hz) with rfl | hz
      · exact leT_lt c
      · exact hh.1 z hz
    · rw [if_neg c]
      refine List.pairwise_cons.mpr ⟨fun z hz => ?_, h⟩
      have hxy := leT_nlt c
      rcases List.mem_cons.mp hz with rfl | hz
      · exact hxy
      · exact leT_trans hxy (hh.1 z hz)
theorem foldr_insT_pw : ∀ l : List Str, (l.foldr insT []).Pairwise leT
  | [] => List.Pairwise.nil
  | x :: l => insT_pw x (foldr_insT_pw l)
theorem sorted_uniq {zs ys : List Str} (p : zs.Perm ys) (h : sortedS zs = true) : zs = ys.foldr insT [] :=
  List.Perm.eq_of_pairwise (fun a b _ _ h1 h2 => leT_anti h1 h2) (pw_sorted h) (foldr_insT_pw ys) (p.trans (foldr_insT_perm ys).symm)
/-! ### sorted(tuple) -/
section
variable {P : Program} {w : World} {A : Around} {E : Value → Shared → Prop} {s : Shared}
theorem collect_tup {l : Addr} {vs : List Value} {Q : List Value → Shared → Prop} (hl : s.heap.IsTuple l vs.toArray)
    (h : Q vs { s with heap := (s.heap.push (seqObj "list" #[] 0)).update s.heap.objs.size (Obj.mapSeq (· ++ vs.toArray)) }) (hsz : vs.length ≤ sizeLine) :
    wpAny (model P w) A (collect (.ref l)) Q E s := by
  obtain ⟨o, ho, hc, n, hd⟩ := id hl
  unfold collect
  refine wpAny_bind (wpAny_runValue (codeAny_builtin entry_proto_collect' ?_))
  show wpAny _ _ (do again (.builtin "list.__iadd__" ⟨[← newList [], .ref l], []⟩)) _ _ s
  refine wpAny_bind (wpAny_newList (wpAny_pure ⟨Code.quiet_builtin _ (by decide +kernel), codeAny_builtin entry_list_iadd' ?_⟩))
  show wpAny _ _ (Builtin.List.listExtendWith (.ref s.heap.objs.size) (.ref l) (.ref s.heap.objs.size)) _ _ { s with heap := s.heap.push (seqObj "list" #[] 0) }
  unfold Builtin.List.listExtendWith
  have ho' : (s.heap.push (seqObj "list" #[] 0)).get? l = some o := Heap.get?_push_of_some _ ho
  refine wpAny_bind (wpAny_typeOf (T := "tuple") ⟨o, ho', hc⟩ ?_)
  have ht : (Value.type "tuple" == Value.type "tuple") = true := by rfl
  rw [if_pos (by rw [ht]; simp)]
  refine wpAny_bind (listItems_at ho' hd ?_)
  refine wpAny_bind (listItems_at (xs := #[]) (n := 0) (Heap.get?_push_size _ rfl) rfl ?_)
  rw [if_neg (by simp)]
  refine wpAny_bind (listUpdate_at (xs := #[]) (n := 0) (Heap.get?_push_size _ rfl) rfl ?_ (Nat.zero_le _) (by show (#[] ++ vs.toArray).size ≤ sizeLine + 1; simp only [Array.size_append, List.size_toArray, List.length_nil]; omega))
  refine wpAny_pure ?_
  show wpAny (model P w) A (do
      let o ← load s.heap.objs.size
      match o.data with
      | .seq xs _ => pure xs.toList
      | _ => unsupported "internal:collect") Q E { s with heap := (s.heap.push (seqObj "list" #[] 0)).update s.heap.objs.size (Obj.mapSeq (· ++ vs.toArray)) }
  refine wpAny_bind (wpAny_load (get?_update_seq (Heap.get?_push_size _ rfl) _) ?_)
  show wpAny _ _ (pure ((#[] : Array Value) ++ vs.toArray).toList) Q E _
  rw [show ((#[] : Array Value) ++ vs.toArray).toList = vs by simp]
  exact wpAny_pure h
theorem sorted_tupS {l : Addr} {vs : List Value} {ss : List Str} {Q : Value → Shared → Prop} (hl : s.heap.IsTuple l vs.toArray) (hS : StrsAre vs ss) (h64 : vs.length < 64)
    (h : ∀ (out : Array Value) (ss' : List Str), StrsAre out.toList ss' → ss'.Perm ss → sortedS ss' = true → Q (.ref (s.heap.objs.size + 1)) { s with heap := sortedAll s.heap vs out }) :
    wpAny (model P w) A (call (.builtin "sorted") [.ref l]) Q E s := by
  refine Calls.call_function_entry kind_sorted plain_sorted entry_sorted (args_sorted1 _) ?_
  unfold Builtin.«sorted»
  refine wpAny_bind (m := checkCount "sorted" 1 1 _) (wpAny_pure ?_)
  refine wpAny_bind (collect_tup hl ?_ (by rw [sizeLine_eq]; omega))
  refine wpAny_bind (wpAny_newList ?_ (by rw [sizeLine_eq]; omega))
  have hsz : ((s.heap.push (seqObj "list" #[] 0)).update s.heap.objs.size (Obj.mapSeq (· ++ vs.toArray))).objs.size = s.heap.objs.size + 1 := by
    rw [Heap.size_update, size_push']
  have hoL : (((s.heap.push (seqObj "list" #[] 0)).update s.heap.objs.size (Obj.mapSeq (· ++ vs.toArray))).push (seqObj "list" vs.toArray 0)).get? (s.heap.objs.size + 1) = some (seqObj "list" vs.toArray 0) := by
    rw [← hsz]; exact Heap.get?_push_size _ rfl
  show wpAny _ _ _ _ _ { s with heap := ((s.heap.push (seqObj "list" #[] 0)).update s.heap.objs.size (Obj.mapSeq (· ++ vs.toArray))).push (seqObj "list" vs.toArray 0) }
  rw [hsz]
  refine wpAny_bind (wpAny_holding (wpAny_call_entry slot_list_sort ⟨_, hoL, rfl⟩ entry_list_sort (list_sort_treeK strKind_oneLt hoL hS.keysOf (fun v₁ v₂ rest e => keyKind_strs (by rw [← e]; exact hS)) h64 fun st' a1 a2 => ⟨_, rfl, ?_⟩) (args_list_sort _)))
  obtain ⟨ss', h1, h2, h3⟩ := sorted_out_str hS a1 a2
  exact wpAny_pure ⟨_, rfl, h _ ss' h1 h2 h3⟩
end
section
variable {X : Cx} {p p2 p3 p4 : Pos} {e : Expr} {t : DE}
def sortB : CLD := fun es M Q => arg1 es fun d => match d with
  | .tup ds => optK (strsOf ds) fun ys => ys.length < 64 ∧ ∀ p, M p = none → Q (.ref p) (updM M p (.lst ((ys.foldr insT []).map .str)))
  | _ => False
theorem strsOf_is : ∀ {ds : List D} {ys : List Str}, strsOf ds = some ys → ds = ys.map D.str
  | [], ys, h => by simp [strsOf] at h; subst h; rfl
  | .str x :: r, ys, h => by
    simp [strsOf] at h
    obtain ⟨y, h1, rfl⟩ := h
    rw [strsOf_is h1]; rfl
  | .non :: _, _, h | .bl _ :: _, _, h | .int _ :: _, _, h | .ref _ :: _, _, h | .ty _ :: _, _, h | .tup _ :: _, _, h | .fl _ :: _, _, h => by simp [strsOf] at h
theorem rps_strs {K : PySem.W.Frag} {H : Hp} : ∀ {ys : List Str} {vs : List V}, Rps K H (ys.map D.str) vs → vs = ys.map V.str
  | [], vs, h => h.nil_of
  | y :: ys, vs, h => by
    obtain ⟨v, r, rfl, h1, h2⟩ := h.cons_of
    rw [rps_strs h2, h1.str_of]; rfl
theorem strs_rps {K : PySem.W.Frag} {H : Hp} : ∀ (ys : List Str), Rps K H (ys.map D.str) (ys.map V.str)
  | [] => .nil
  | y :: ys => .cons Rp.str (strs_rps ys)
theorem c_sortT : CD X (.builtin "sorted") sortB := by
  intro pins s σ H xs us Q I r ⟨es, M, R, hr, hm, t, k⟩
  obtain ⟨d, rfl, t⟩ := arg1_of t
  obtain ⟨v, rfl, r1⟩ := hr.one
  cases d with
  | tup ds =>
    obtain ⟨ys, hy, h64, q⟩ := optK_of t
    obtain ⟨a, vs, rfl, ta, ra⟩ := r1.tup_of
    rw [strsOf_is hy] at ra
    have ev := rps_strs ra
    subst ev
    obtain ⟨its, rv, hl, _⟩ := I.tuple ta
    rw [Vals.ref1 r]
    have hlen0 := rv.length
    rw [List.length_map] at hlen0
    refine sorted_tupS (l := a) (vs := its) hl rv.strs (by rw [← hlen0]; exact h64) fun out zs h1 h2 h3 => ?_
    have ez := sorted_uniq h2 h3
    obtain ⟨ep, he'⟩ := PyProof.Rows.sortedAll_at s.heap its out
    have hlen : (zs.map V.str).length ≤ sizeLine := by rw [List.length_map, h2.length_eq]; exact small64 h64
    have hn : H (s.heap.objs.size + 1) = none := I.hok.fresh (Nat.le_succ _)
    refine ⟨.ref _, upd H (s.heap.objs.size + 1) (.lst (zs.map V.str)), I.laid (t' := s.toks) (fun _ _ => PyProof.Rows.sortedAll_old) (Nat.le_succ _) ⟨hlen, out.toList, ep, vals_of_strs h1, he'⟩, rfl, ?_⟩
    refine k _ _ _ _ (Fr.new hn) Rp.ref (hm.new (o := .lst ((ys.foldr insT []).map .str)) hn ⟨_, upd_same, ?_⟩) (q _ (hm.fresh hn))
    rw [ez]
    exact strs_rps _
  | _ => exact t.elim
def dSortT (t : DE) : DE := dCB tupB (daCons (dCB sortB (daCons t daNil)) daNil)
@[simp ↓] theorem dSortT_eq {ds : DSt} {M : DM} {Q : D → DM → Prop} : dSortT t ds M Q = t ds M fun d M1 => sortB [d] M1 fun x M2 => tupB [x] M2 Q := rfl
theorem e_sortt (hg : Gl X "tuple") (hm : X.mg "tuple" = none) (hg2 : Gl X "sorted") (hm2 : X.mg "sorted" = none) (he : EX X e t)
    (hs1 : starEach [e] X.env = (false, eval e X.env) :: starEach [] X.env := by rfl) (hs2 : starEach [.Call (.Name "sorted" p2) [e] [] p3] X.env = (false, eval (.Call (.Name "sorted" p2) [e] [] p3) X.env) :: starEach [] X.env := by rfl) :
    EX X (.Call (.Name "tuple" p) [.Call (.Name "sorted" p2) [e] [] p3] [] p4) (dSortT t) :=
  e_ct (T := "tuple") c_tuple hg hm rfl (a_cons (e_cb c_sortT hg2 hm2 rfl (a_cons he a_nil hs1) (he := hs1)) a_nil hs2) (he := hs2)
end
end DL

set_option Elab.async false
set_option linter.all false
set_option maxRecDepth 100000
namespace DL
open PySem PySem.Spec PyProof.Rows L2
section
variable {X : Cx} {x : Str} {pos p p2 p3 p4 : Pos} {e e2 : Expr} {t u : DE}
theorem e_gint {i : Int} (hg : Gl X x) (hm : ∃ t, X.mg x = some (.int i t)) (hd : (x == ("__debug__" : Str)) = false := by decide) : EX X (.Name x pos) (dC (.int i)) := by
  obtain ⟨t, hm⟩ := hm
  exact e_glob (v := .int i) hg hm ⟨t, rfl⟩ (fun _ => Rp.int) hd
theorem e_gstr {z : Str} (hg : Gl X x) (hm : ∃ t, X.mg x = some (.str z t)) (hd : (x == ("__debug__" : Str)) = false := by decide) : EX X (.Name x pos) (dC (.str z)) := by
  obtain ⟨t, hm⟩ := hm
  exact e_glob (v := .str z) hg hm ⟨t, rfl⟩ (fun _ => Rp.str) hd
theorem e_ty {n : String} (hg : Gl X x) (hm : X.mg x = none) (hv : bootBuiltins x = some (.type n)) (hn : x ≠ "__name__" := by decide) (hd : (x == ("__debug__" : Str)) = false := by decide) : EX X (.Name x pos) (dC (.ty n)) :=
  e_bltn (v := .ty n) hg hm hv rfl (fun _ => by unfold Rp; rfl) hn hd
def negD (d : D) (M : DM) (Q : D → DM → Prop) : Prop := intK d fun i => Q (.int (-i)) M
@[simp ↓] theorem negD_int {i : Int} {M : DM} {Q : D → DM → Prop} : negD (.int i) M Q = Q (.int (-i)) M := rfl
/-- the members met, each once -/
def nub : List NestedKey → List NestedKey
  | [] => []
  | k :: ks => if k ∈ nub ks then nub ks else k :: nub ks
def lenSetK (xs : List D) (k : Nat → Prop) : Prop := plains xs = true ∧ (nub (nks xs)).length ≤ 64 ∧ ((∀ x ∈ xs, ∃ z, x = .str z) ∨ (xs.length < 64 ∧ ∀ x ∈ xs, (∃ ts, x = .tup ts) ∧ (nk x).depth ≤ 8)) ∧ k (nub (nks xs)).length
theorem nub_le : ∀ l : List NestedKey, (nub l).length ≤ l.length
  | [] => Nat.le_refl _
  | k :: l => by
    have := nub_le l
    unfold nub
    split <;> simp <;> omega
theorem nks_length : ∀ l : List D, (nks l).length = l.length
  | [] => rfl
  | d :: l => by simp [nks, nks_length l]
def dLenSet (t : DE) : DE := fun ds M Q => t ds M fun d M1 => itK d M1 fun xs _ => lenSetK xs fun n => Q (.int n) M1
@[simp ↓] theorem dLenSet_eq {ds : DSt} {M : DM} {Q : D → DM → Prop} : dLenSet t ds M Q = t ds M fun d M1 => itK d M1 fun xs _ => lenSetK xs fun n => Q (.int n) M1 := rfl
end
end DL

set_option Elab.async false
set_option linter.all false
set_option maxRecDepth 100000
namespace DL
open PySem PySem.Spec PyProof.Rows L2
/-! ### {k: v} with a tuple as key -/
def tkK (d : D) (k : List D → Prop) : Prop := match d with
  | .tup ks => k ks
  | _ => False
@[simp ↓] theorem tkK_tup {ks : List D} {k : List D → Prop} : tkK (.tup ks) k = k ks := rfl
theorem tkK_of {d : D} {k : List D → Prop} (h : tkK d k) : ∃ ks, d = .tup ks ∧ k ks := by
  cases d <;> first | exact ⟨_, rfl, h⟩ | exact h.elim
def dDispT (tk tv : DE) : DE := fun ds M Q => tk ds M fun x M1 => tv ds M1 fun v M2 => tkK x fun ks => keyOk ks ∧ keyD (nk (.tup ks)) = .tup ks ∧ ∀ p, M2 p = none → Q (.ref p) (updM M2 p (.dT [(nk (.tup ks), v)]))
@[simp ↓] theorem dDispT_eq {tk tv : DE} {ds : DSt} {M : DM} {Q : D → DM → Prop} : dDispT tk tv ds M Q = tk ds M fun x M1 => tv ds M1 fun v M2 => tkK x fun ks => keyOk ks ∧ keyD (nk (.tup ks)) = .tup ks ∧ ∀ p, M2 p = none → Q (.ref p) (updM M2 p (.dT [(nk (.tup ks), v)])) := rfl
section
variable {X : Cx} {k v : Expr} {tk tv : DE} {pos : Pos}
theorem e_dispT (hu : X.A.units + 64 < cLine) (hk : EX X k tk) (hv : EX X v tv) : EX X (.Dict [some k] [v] pos) (dDispT tk tv) := ⟨fun pins s σ H Q I ⟨ds, M, R, hs, hm, t, kk⟩ => by
  have hp : H s.heap.objs.size = none := I.hok.fresh (Nat.le_refl _)
  have raw : DRaw X.w s.heap.objs.size [] (s.heap.push { cls := .type "dict", data := .dict #[] }) :=
    ⟨beq_false_of_ne (Nat.ne_of_gt I.big), _, #[], 0, Heap.get?_push_size _ rfl, ⟨rfl, rfl, rfl⟩, rfl, .nil⟩
  have I0 := I.laid (a := s.heap.objs.size) (o := exT X.w s.heap.objs.size []) (t' := s.toks) (h' := s.heap.push { cls := .type "dict", data := .dict #[] }) (fun _ _ q => Heap.get?_push_of_some _ q) (Nat.le_refl _) (exT_ok raw)
  have f0 : Fr H M (upd H s.heap.objs.size (exT X.w s.heap.objs.size [])) M := Fr.hid hp
  have m0 := hm.hid (u := exT X.w s.heap.objs.size []) hp
  have hM0 := hm.fresh hp
  have hd0 : (upd H s.heap.objs.size (exT X.w s.heap.objs.size [])) s.heap.objs.size = some (exT X.w s.heap.objs.size []) := upd_same
  rw [arm_eval_Dict, zip_pairTrees [some k] [v] X.env pos rfl rfl, dictDisplay_pairs (pairTrees [some k] [v] X.env pos) (by simp [pairTrees]) (by simp [pairTrees])]
  refine wpAny_bind (wpAny_standAt (wpAny_bind ?_))
  refine wpAny_subDictH (knd := nestedKind X.prog X.w) (by show X.A.units + 8 < cLine; omega) (by simp [pairTrees]) ?_
  refine pairTrees_cons_walk (thn (hk.run pins _ σ _ (fun x H1 => ∃ dx M1, Fr H M H1 M1 ∧ Fr (upd H s.heap.objs.size (exT X.w s.heap.objs.size [])) M H1 M1 ∧ Rp X.K H1 dx x ∧ RM X.w X.K H1 M1 ∧ tv ds M1 fun v M2 => tkK dx fun ks => keyOk ks ∧ keyD (nk (.tup ks)) = .tup ks ∧ ∀ p, M2 p = none → R (.ref p) (updM M2 p (.dT [(nk (.tup ks), v)])))
    I0 ⟨ds, M, _, hs.keep (f0.keep hm), m0, t, fun x H1 dx M1 f1 r1 m1 q1 => ⟨dx, M1, f0.trans f1, f1, r1, m1, q1⟩⟩) fun u s1 ⟨x, H1, I1, rx, dx, M1, fa, fb, r1, m1, q1⟩ => ?_)
  refine thn (hv.run pins s1 σ H1 (fun y H2 => ∃ dy M2, Fr H1 M1 H2 M2 ∧ Rp X.K H2 dy y ∧ RM X.w X.K H2 M2 ∧ tkK dx fun ks => keyOk ks ∧ keyD (nk (.tup ks)) = .tup ks ∧ ∀ p, M2 p = none → R (.ref p) (updM M2 p (.dT [(nk (.tup ks), dy)])))
    I1 ⟨ds, M1, _, hs.keep (fa.keep hm), m1, q1, fun y H2 dy M2 f2 r2 m2 q2 => ⟨dy, M2, f2, r2, m2, q2⟩⟩) fun u2 s2 ⟨y, H2, I2, ry, dy, M2, f2, r2, m2, q2⟩ => pairTrees_nil_walk ?_
  obtain ⟨ks, rfl, hko, hkd, q⟩ := tkK_of q2
  obtain ⟨b, ws, rfl, tb⟩ := r1.tup_of
  obtain ⟨e2, hM2⟩ := (fb.trans f2) _ _ hd0 hM0
  obtain ⟨hsys, o, des, ep, ho, hx, hdat, hpr⟩ := (I2.hok _ _ e2).1
  have dd : s2.heap.DictOfH (nestedKind X.prog X.w) s.heap.objs.size [] := by
    cases des with
    | mk l =>
      cases hpr
      exact ⟨o, _, ep, ho, hx, hdat, rfl, by simp, List.nodup_nil⟩
  have r1' := r1.keep (f2.keep m1)
  cases rx
  refine ⟨[(nk (.tup ks), b, u2)], ⟨rfl, rfl, key_is I2 hko r1', trivial⟩, dd, fun h' tk hdd hsb => ?_⟩
  obtain ⟨o', es', ep', ho', hx', hd', he', _, _⟩ := hdd
  have rx' : RX X.K H2 [(nk (.tup ks), dy)] [(nk (.tup ks), b, u2)] := ⟨b, y, u2, [], rfl, by rw [hkd]; exact r1', hko.2, r2, ry, rfl⟩
  obtain ⟨es2, rk, pr⟩ := RX.close (w := X.w) (P := X.prog) rx'
  have raw' : DRaw X.w s.heap.objs.size es2 h' := ⟨hsys, o', es', ep', ho', hx', hd', by rw [he']; exact pr⟩
  have I3 := d_write (t' := tk) I2 (show Mut (H2 s.heap.objs.size) by rw [e2]; trivial) hsb ⟨o', ho'⟩ (exT_ok (H := upd H2 s.heap.objs.size (exT X.w s.heap.objs.size es2)) raw')
  have kw : Keep H2 (upd H2 s.heap.objs.size (exT X.w s.heap.objs.size es2)) := keep_write e2 (fun _ z => by cases z) (fun _ _ z => by cases z)
  have hpm : M2 s.heap.objs.size = none := hM2
  refine wpAny_pure ⟨.ref s.heap.objs.size, _, I3, rfl, kk _ _ (.ref s.heap.objs.size) (updM M2 s.heap.objs.size (.dT [(nk (.tup ks), dy)])) (fun b z h1 h2 => ?_) Rp.ref (fun b z h => ?_) (q _ hpm)⟩
  · have ne : b ≠ s.heap.objs.size := fun e => by rw [e, hp] at h1; cases h1
    obtain ⟨a1, a2⟩ := (fa.trans f2) b z h1 h2
    exact ⟨by rw [upd_ne ne]; exact a1, by rw [updM_ne ne]; exact a2⟩
  · by_cases hb : b = s.heap.objs.size
    · subst hb
      rw [updM_same] at h
      cases h
      exact ⟨es2, _, upd_same, fun _ => Iff.rfl, rk.keep kw, by simp, by rw [sizeLine_eq]; simp⟩
    · rw [updM_ne hb] at h
      exact (m2 b z h).move kw (upd_ne hb)⟩
end
end DL

set_option Elab.async false
set_option linter.all false
set_option maxRecDepth 100000
namespace DL
open PySem PySem.Spec PyProof.Rows L2 SeqAt
/-! sets of nested tuples, by L2's tables -/
def KeyAt (h : Heap) (p : Addr × NestedKey) : Prop := NestedIs h p.2 (.ref p.1) ∧ p.2.depth ≤ 8
def rowN (w : World) (p : Addr × NestedKey) : Int × Value := (p.2.hash w, .ref p.1)
section
variable {P : Program} {w : World} {A : Around} {E : Value → Shared → Prop} {s : Shared}
mutual
theorem cls_key : ∀ (k : NestedKey) (v : Value) (n : Nat) (A : Around) (s : Shared) (Q : Bool → Shared → Prop), NestedIs s.heap k v → k.depth ≤ n → Q false s → wpAny (model P w) A (ofAClassStatement n v) Q E s
  | .none, _, n, A, s, Q, x, _, h => by cases x; cases n <;> exact wpAny_pure h
  | .num _, _, n, A, s, Q, x, _, h => by cases x <;> cases n <;> exact wpAny_pure h
  | .text _, _, n, A, s, Q, x, _, h => by cases x; cases n <;> exact wpAny_pure h
  | .tup ks, _, n, A, s, Q, x, hn, h => by
    cases x with
    | tup ho hc hd hk =>
      simp only [NestedKey.depth] at hn
      cases n with
      | zero => omega
      | succ n =>
        unfold ofAClassStatement
        refine wpAny_bind (wpAny_typeOf (T := "tuple") ⟨_, ho, hc⟩ ?_)
        dsimp only
        have e : (("tuple" : String) == "tuple") = true := by decide
        simp only [e, if_true, Bool.not_true, Bool.false_eq_true, if_false]
        try refine wpAny_bind (wpAny_pure ?_)
        try simp only [Bool.not_true, Bool.false_eq_true, if_false]
        refine wpAny_bind (wpAny_seqItems ho hd ?_)
        dsimp only
        refine wpAny_bind ?_
        rw [← Array.forIn_toList]
        refine wpAny_forIn_list _ (fun rest r s' => r.1 = none ∧ s' = s ∧ ∀ v ∈ rest, ∃ k, k.depth ≤ n ∧ NestedIs s.heap k v ∧ ∀ (A : Around) (Q : Bool → Shared → Prop), Q false s → wpAny (model P w) A (ofAClassStatement n v) Q E s) _ ?_ ?_ _ _ ⟨rfl, rfl, cls_keys ks _ n s hk (by omega)⟩
        · rintro v rest r s' ⟨hr, rfl, hall⟩
          obtain ⟨k, _, _, hv⟩ := hall v List.mem_cons_self
          refine wpAny_bind (hv _ _ ?_)
          simp only [Bool.false_eq_true, if_false]
          exact wpAny_pure ⟨rfl, rfl, fun u hu => hall u (List.mem_cons_of_mem _ hu)⟩
        · rintro ⟨r1, r2⟩ s' ⟨hr, rfl, _⟩
          simp only at hr
          subst hr
          exact wpAny_pure h
theorem cls_keys : ∀ (ks : List NestedKey) (vs : List Value) (n : Nat) (s : Shared), NestedAll s.heap ks vs → NestedKey.depthAll ks ≤ n → ∀ v ∈ vs, ∃ k, k.depth ≤ n ∧ NestedIs s.heap k v ∧ ∀ (A : Around) (Q : Bool → Shared → Prop), Q false s → wpAny (model P w) A (ofAClassStatement n v) Q E s
  | [], _, n, s, x, _, v, hv => by cases x; cases hv
  | k :: ks, _, n, s, x, hn, v, hv => by
    cases x with
    | cons x1 x2 =>
      simp only [NestedKey.depthAll] at hn
      rcases List.mem_cons.mp hv with e | hv
      · subst e; exact ⟨k, by omega, x1, fun A Q q => cls_key k _ n A s Q x1 (by omega) q⟩
      · exact cls_keys ks _ n s x2 (by omega) v hv
end
/-- whether the hash goes by value: something, and nothing moves -/
theorem hb_any : ∀ (n : Nat) (k : NestedKey) (v : Value) (A : Around) (s : Shared) (Q : Bool → Shared → Prop), NestedIs s.heap k v → (∀ b, Q b s) → wpAny (model P w) A (hashByValue n v) Q E s
  | n, .none, _, A, s, Q, x, h => by cases x; cases n <;> exact wpAny_pure (h _)
  | n, .num _, _, A, s, Q, x, h => by cases x <;> cases n <;> exact wpAny_pure (h _)
  | n, .text _, _, A, s, Q, x, h => by cases x; cases n <;> exact wpAny_pure (h _)
  | 0, .tup ks, _, A, s, Q, x, h => by cases x; exact wpAny_pure (h _)
  | n + 1, .tup ks, _, A, s, Q, x, h => by
    cases x with
    | tup ho hc hd hk =>
      unfold hashByValue
      refine wpAny_bind (wpAny_specialOf (T := "tuple") ⟨_, ho, hc⟩ F.slot_tuple_hash.lookup ?_)
      refine wpAny_bind (wpAny_seqItems ho hd ?_)
      refine wpAny_bind ?_
      show wpAny _ _ (forIn _ _ _) _ _ s
      rw [← Array.forIn_toList]
      have all : ∀ (ks : List NestedKey) (vs : List Value), NestedAll s.heap ks vs → ∀ v ∈ vs, ∃ k, NestedIs s.heap k v := by
        intro ks
        induction ks with
        | nil => intro vs x v hv; cases x; cases hv
        | cons k ks ih =>
          intro vs x v hv
          cases x with
          | cons x1 x2 =>
            rcases List.mem_cons.mp hv with e | hv
            · subst e; exact ⟨k, x1⟩
            · exact ih _ x2 v hv
      refine wpAny_forIn_list _ (fun rest r s' => (r.1 = none ∨ ∃ b, r.1 = some b) ∧ s' = s ∧ ∀ v ∈ rest, ∃ k, NestedIs s.heap k v) _ ?_ ?_ _ _ ⟨.inl rfl, rfl, all ks _ hk⟩
      · rintro v rest r s' ⟨hr, rfl, hall⟩
        obtain ⟨k, hv⟩ := hall v List.mem_cons_self
        refine wpAny_bind (hb_any n k v _ s' _ hv fun b => ?_)
        cases b
        · simp only [Bool.not_false, if_true]
          exact wpAny_pure (wpAny_pure (h _))
        · simp only [Bool.not_true, Bool.false_eq_true, if_false]
          exact wpAny_pure ⟨.inl rfl, rfl, fun u hu => hall u (List.mem_cons_of_mem _ hu)⟩
      · rintro ⟨r1, r2⟩ s' ⟨hr, rfl, _⟩
        simp only at hr
        rcases hr with hr | ⟨b, hr⟩ <;> subst hr <;> exact wpAny_pure (h _)
/-- a search among keys shows nothing -/
theorem seen_key {x : Addr × NestedKey} {Q : Bool → Shared → Prop} (hx : KeyAt s.heap x) {ys : List Value} (hy : ∀ y ∈ ys, ∃ p, y = Value.ref p.1 ∧ KeyAt s.heap p) (h : Q false s) : wpAny (model P w) A (searchCouldBeSeen (.ref x.1) ys) Q E s := by
  unfold searchCouldBeSeen
  refine wpAny_bind (wpAny_forIn_list _ (fun rest r s' => r.1 = none ∧ s' = s ∧ ∀ y ∈ rest, ∃ p, y = Value.ref p.1 ∧ KeyAt s.heap p) _ ?_ ?_ _ _ ⟨rfl, rfl, hy⟩)
  · rintro v rest r s' ⟨hr, rfl, hall⟩
    obtain ⟨p, rfl, hp⟩ := hall v List.mem_cons_self
    have nxt : ∀ y ∈ rest, ∃ p, y = Value.ref p.1 ∧ KeyAt s'.heap p := fun u hu => hall u (List.mem_cons_of_mem _ hu)
    dsimp only
    by_cases hv : (x.1 == p.1 || (carriedByValue (.ref x.1) && carriedByValue (.ref p.1))) = true
    · exact wp_if_pos hv (wpAny_pure ⟨rfl, rfl, nxt⟩)
    · refine wp_if_neg hv (wpAny_bind (quiet_key _ _ 8 s' hx.1 hx.2 _ _ _ ?_))
      simp only [Bool.not_true, Bool.false_eq_true, if_false]
      refine wpAny_bind (quiet_key _ _ 8 s' hp.1 hp.2 _ _ _ ?_)
      simp only [Bool.not_true, Bool.false_eq_true, if_false]
      refine wpAny_bind (cls_key _ _ 8 _ s' _ hx.1 hx.2 ?_)
      simp only [Bool.false_eq_true, if_false]
      refine wpAny_bind (cls_key _ _ 8 _ s' _ hp.1 hp.2 ?_)
      simp only [Bool.false_eq_true, if_false]
      exact wpAny_pure ⟨rfl, rfl, nxt⟩
  · rintro ⟨r1, r2⟩ s' ⟨hr, rfl, _⟩
    simp only at hr
    subst hr
    exact wpAny_pure h
/-- the set: its rows stand in a table that finds them -/
structure ST (w : World) (h : Heap) (a : Addr) (L : List (Addr × NestedKey)) (es : Array (Int × Value)) (ep : Nat) (t : SetTable) : Prop where
  ob : ∃ o, h.get? a = some o ∧ o.ExactSet ∧ o.data = .set es ep t
  rows : es.toList = L.map (rowN w)
  tab : TabOk t (L.map fun p => p.2.hash w)
  nd : (L.map (·.2)).Nodup
  key : ∀ p ∈ L, KeyAt h p
  room : L.length * 5 < t.mask * 3
  few : L.length < 64
variable {a : Addr} {L : List (Addr × NestedKey)} {es : Array (Int × Value)} {ep : Nat} {t : SetTable}
theorem ST.size {h : Heap} (R : ST w h a L es ep t) : es.size = L.length := by
  have := congrArg List.length R.rows
  simpa using this
theorem ST.fits {h : Heap} (R : ST w h a L es ep t) : t.fits es.size = true := by
  have h1 := R.tab.sz
  rw [List.length_map] at h1
  have h2 := R.size
  have h3 := R.room
  unfold SetTable.fits SetTable.fill
  rw [R.tab.dm, Bool.and_eq_true, beq_iff_eq, decide_eq_true_eq]
  show t.place.size = es.size ∧ t.place.size + 0 ≤ t.mask
  omega
theorem ST.entry {h : Heap} (R : ST w h a L es ep t) {i : Nat} {p : Addr × NestedKey} (e : L[i]? = some p) : es[i]? = some (rowN w p) := by
  rw [← Array.getElem?_toList, R.rows, List.getElem?_map, e]
  rfl
/-- the way of a key through the table -/
abbrev wy (w : World) (t : SetTable) (k : NestedKey) (c : Nat) : Nat := way t.mask (k.hash w) c
abbrev at0 (w : World) (t : SetTable) (k : NestedKey) (c : Nat) : SetTable.Probe := nth t.mask (runAt t.mask (SetTable.bits (k.hash w) % (t.mask + 1)) (SetTable.bits (k.hash w))) c
theorem at0_dummy (k : NestedKey) (c : Nat) : (at0 w t k c).dummy = none := by
  have : ∀ (n : Nat) (p : SetTable.Probe), p.dummy = none → (nth t.mask p n).dummy = none := by
    intro n
    induction n with
    | zero => exact fun p h => h
    | succ n ih => exact fun p h => ih (adv t.mask p) (by unfold adv; split <;> exact h)
  exact this c _ rfl
theorem at0_add (k : NestedKey) (c q : Nat) : nth t.mask (at0 w t k c) q = at0 w t k (c + q) := (nth_add t.mask c _ q).symm
theorem search_go (R : ST w s.heap a L es ep t) {x : Addr × NestedKey} (hx : KeyAt s.heap x) (hu : A.units + 8 < cLine) {K : Nat} (hKf : K < 10 * SetTable.turns t.mask)
    (hK : wy w t x.2 K ∉ t.place.toList) (hKb : ∀ c, c < K → wy w t x.2 c ∈ t.place.toList) {Q : SetFound → Shared → Prop}
    (hin : x.2 ∈ L.map (·.2) → Q (.there none) s) (hout : x.2 ∉ L.map (·.2) → Q (.free (wy w t x.2 K) false) s) :
    ∀ (f c : Nat) (stand : Option SetTable.Probe), stand.getD (t.probeStart (x.2.hash w)) = at0 w t x.2 c → c ≤ K → K - c < f →
      (∀ (i : Nat) p, L[i]? = some p → p.2 = x.2 → ∃ c', c ≤ c' ∧ c' < K ∧ t.place.toList[i]? = some (wy w t x.2 c')) →
      wpAny (model P w) A (setSearchFrom a (.ref x.1) (x.2.hash w) true f stand) Q E s
  | 0, c, stand, _, _, hf, _ => absurd hf (Nat.not_lt_zero _)
  | f + 1, c, stand, hst, hc, hf, hre => by
    obtain ⟨o, ho, hex, hd⟩ := R.ob
    rw [setSearchFrom_succ]
    refine wpAny_bind (wpAny_setState_of ho hd R.fits ?_)
    dsimp only
    refine wp_if_neg (by unfold SetTable.gaveWay; rw [mask_odd R.tab.mok]; decide) ?_
    try refine wpAny_bind (wpAny_pure ?_)
    have ej : ∀ q, (nth t.mask (at0 w t x.2 c) q).j = wy w t x.2 (c + q) := fun q => congrArg SetTable.Probe.j (at0_add x.2 c q)
    have hashAt : ∀ (i : Nat) p, L[i]? = some p → (es[i]?.map (·.1)).getD 0 = p.2.hash w := fun i p hp => by rw [R.entry hp]; rfl
    have spec := go_spec t R.tab.ris R.tab.dm (fun i => (es[i]?.map (·.1)).getD 0) (x.2.hash w) (10 * SetTable.turns t.mask) (K - c) _ (at0_dummy x.2 c) (by omega)
      (fun q hq => by rw [ej]; exact hKb (c + q) (by omega)) (by rw [ej, show c + (K - c) = K by omega]; exact hK)
    rcases spec with ⟨q, i, hq, hi, hh, hno, hpr⟩ | ⟨hno, hpr⟩
    · rw [hst]
      have hpr' : t.probe (fun i => (es[i]?.map (·.1)).getD 0) (x.2.hash w) (at0 w t x.2 c) = some (.candidate (wy w t x.2 (c + q)) i (at0 w t x.2 (c + (q + 1)))) := by
        rw [← ej, ← at0_add]
        exact hpr
      rw [hpr']
      dsimp only
      rw [ej] at hi
      have hil : i < L.length := by
        have h1 : i < t.place.toList.length := (List.getElem?_eq_some_iff.mp hi).1
        have h2 := R.tab.sz
        rw [List.length_map] at h2
        rw [Array.length_toList] at h1
        omega
      obtain ⟨p, hp⟩ : ∃ p, L[i]? = some p := ⟨_, List.getElem?_eq_getElem hil⟩
      have hmem := List.mem_of_getElem? hp
      have hpk := R.key p hmem
      have cont : wpAny (model P w) A (searchRest a (.ref x.1) (x.2.hash w) true f es t (wy w t x.2 (c + q)) i (at0 w t x.2 (c + (q + 1)))) Q E s := by
        unfold searchRest
        rw [R.entry hp]
        dsimp only [rowN]
        refine wpAny_bind (wpAny_holding ((nestedKind P w).eqBool (x := p.2) (y := x.2) hu hpk hx ?_))
        refine wpAny_bind (wpAny_setState_of ho hd R.fits ?_)
        dsimp only
        by_cases hkk : p.2 = x.2
        · refine wp_if_pos (by simp [hkk]) (wpAny_pure (hin (List.mem_map.mpr ⟨p, hmem, hkk⟩)))
        · refine wp_if_neg (by simp [hkk]) ?_
          try refine wpAny_bind (wpAny_pure ?_)
          rw [sameMem]
          dsimp only
          have hsl : t.slot (wy w t x.2 (c + q)) = .live i := slot_live R.tab.ris hi
          simp only [if_true, hsl, R.entry hp, rowN]
          refine wpAny_bind (wpAny_isSame_ref_self (wpAny_bind (wpAny_pure ?_)))
          simp only [if_true]
          refine wp_if_neg (by simp [hkk]) ?_
          refine search_go R hx hu hKf hK hKb hin hout f (c + (q + 1)) _ rfl (by omega) (by omega) fun i0 p0 h0 hk0 => ?_
          obtain ⟨c', a1, a2, a3⟩ := hre i0 p0 h0 hk0
          refine ⟨c', ?_, a2, a3⟩
          have n1 : ¬ c' < c + q := fun z => hno (c' - c) i0 (by omega) (by rw [ej, show c + (c' - c) = c' by omega]; exact a3) ((hashAt i0 p0 h0).trans (congrArg (NestedKey.hash w) hk0))
          have n2 : c' ≠ c + q := fun z => by
            rw [z] at a3
            have s0 := slot_live R.tab.ris a3
            rw [hsl] at s0
            injection s0 with s0
            rw [← s0, hp] at h0
            exact hkk ((congrArg Prod.snd (Option.some.inj h0)).trans hk0)
          omega
      by_cases hl : t.led = true
      · refine wp_if_neg (by simp [hl]) ?_
        try refine wpAny_bind (wpAny_pure ?_)
        exact cont
      · refine wp_if_pos (by simp [hl]) (wpAny_bind (seen_key hx (fun y hy => ?_) ?_))
        · obtain ⟨e, he, rfl⟩ := List.mem_map.mp hy
          have he1 : e ∈ es ∧ e.1 = x.2.hash w := by simpa using he
          have he2 : e ∈ es.toList := by simpa using he1.1
          rw [R.rows] at he2
          obtain ⟨p2, hp2, rfl⟩ := List.mem_map.mp he2
          exact ⟨p2, rfl, R.key p2 hp2⟩
        · refine wp_if_neg (by decide) ?_
          try refine wpAny_bind (wpAny_pure ?_)
          exact cont
    · rw [hst]
      have hpr' : t.probe (fun i => (es[i]?.map (·.1)).getD 0) (x.2.hash w) (at0 w t x.2 c) = some (.empty (wy w t x.2 K) none) := by
        have e2 : wy w t x.2 K = (nth t.mask (at0 w t x.2 c) (K - c)).j := by rw [ej, show c + (K - c) = K by omega]
        rw [e2]
        exact hpr
      rw [hpr']
      dsimp only
      refine wpAny_pure (hout fun hm => ?_)
      obtain ⟨p0, h0, hk0⟩ := List.mem_map.mp hm
      obtain ⟨i0, hi0, e0⟩ := List.getElem_of_mem h0
      have h00 : L[i0]? = some p0 := by rw [List.getElem?_eq_getElem hi0, e0]
      obtain ⟨c', a1, a2, a3⟩ := hre i0 p0 h00 hk0
      exact hno (c' - c) i0 (by omega) (by rw [ej, show c + (c' - c) = c' by omega]; exact a3) ((hashAt i0 p0 h00).trans (congrArg (NestedKey.hash w) hk0))
theorem search_add (R : ST w s.heap a L es ep t) {x : Addr × NestedKey} (hx : KeyAt s.heap x) (hu : A.units + 8 < cLine) {Q : SetFound → Shared → Prop}
    (hin : x.2 ∈ L.map (·.2) → Q (.there none) s)
    (hout : ∀ K, x.2 ∉ L.map (·.2) → wy w t x.2 K ∉ t.place.toList → (∀ c, c < K → wy w t x.2 c ∈ t.place.toList) → Q (.free (wy w t x.2 K) false) s) :
    wpAny (model P w) A (setSearch a (.ref x.1) (x.2.hash w) true) Q E s := by
  have hroom := R.room
  obtain ⟨K, hKf, hK, hKb⟩ := R.tab.first (by rw [List.length_map]; omega) (x.2.hash w)
  have hbig : K < 100000 := by
    have : 10 * SetTable.turns t.mask ≤ 1420 := by
      unfold SetTable.turns
      rcases R.tab.mok with e | e | e <;> omega
    omega
  unfold setSearch
  refine search_go R hx hu hKf hK hKb hin (fun hn => hout K hn hK hKb) 100000 0 none rfl (Nat.zero_le _) (by omega) fun i p hp hk => ?_
  have hi : (L.map fun p => p.2.hash w)[i]? = some (x.2.hash w) := by rw [List.getElem?_map, hp, ← hk]; rfl
  have hil : i < t.place.toList.length := by
    have h1 : i < L.length := (List.getElem?_eq_some_iff.mp hp).1
    have h2 := R.tab.sz
    rw [List.length_map] at h2
    rw [Array.length_toList]
    omega
  have hj := List.getElem?_eq_getElem hil
  obtain ⟨c, hc, e⟩ := R.tab.before hK hi hj
  exact ⟨c, Nat.zero_le _, hc, by rw [hj]; exact congrArg some e.symm⟩
theorem KeyAt.but {h h' : Heap} {p : Addr × NestedKey} {o : Obj} (hp : KeyAt h p) (ho : h.get? a = some o) (hd : o.data = .set es ep t) (hs : Heap.SameBut a h h') : KeyAt h' p :=
  ⟨NestedIs.at (fun b ob vs n hb hc => by
    refine (hs.2 b fun e => ?_).trans hb
    subst e
    rw [ho] at hb
    cases hb
    rw [hd] at hc
    cases hc) _ _ hp.1, hp.2⟩
theorem KeyAt.keep {h h' : Heap} {p : Addr × NestedKey} (hp : KeyAt h p) (k : ∀ b o, h.get? b = some o → h'.get? b = some o) : KeyAt h' p :=
  ⟨NestedIs.at (fun b ob vs n hb _ => k b ob hb) _ _ hp.1, hp.2⟩
theorem range_all {α : Type} (L : List α) : (List.range L.length).filterMap (fun i => L[i]?) = L := by
  have h1 : (List.range L.length).map (fun i => L[i]?) = L.map some := by
    apply List.ext_getElem?
    intro i
    rw [List.getElem?_map, List.getElem?_map]
    by_cases h : i < L.length
    · rw [List.getElem?_range h]; simp [List.getElem?_eq_getElem h]
    · rw [List.getElem?_eq_none (by simpa using h), List.getElem?_eq_none (by omega)]; rfl
  have h2 : (List.range L.length).filterMap (fun i => L[i]?) = ((List.range L.length).map (fun i => L[i]?)).filterMap id := by
    rw [List.filterMap_map]; rfl
  rw [h2, h1, List.filterMap_map]
  simp
theorem rows_order (hr : es.toList = L.map (rowN w)) {order : Array Nat} (hp : order.toList.Perm (List.range L.length)) :
    ∃ L2 : List (Addr × NestedKey), (order.filterMap (es[·]?)).toList = L2.map (rowN w) ∧ L2.Perm L ∧ (L2.map fun p => p.2.hash w) = order.toList.map fun i => (es.map (·.1)).getD i 0 := by
  have ent : ∀ i, es[i]? = (L[i]?).map (rowN w) := fun i => by rw [← Array.getElem?_toList, hr, List.getElem?_map]
  refine ⟨order.toList.filterMap fun i => L[i]?, ?_, ?_, ?_⟩
  · rw [Array.toList_filterMap, List.map_filterMap]
    congr 1
    funext i
    exact ent i
  · have := hp.filterMap fun i => L[i]?
    rwa [range_all] at this
  · have all : ∀ l : List Nat, (∀ i ∈ l, i < L.length) → (l.filterMap fun i => L[i]?).map (fun p => p.2.hash w) = l.map fun i => (es.map (·.1)).getD i 0 := by
      intro l
      induction l with
      | nil => intro _; rfl
      | cons i l ih =>
        intro h
        have hi := h i List.mem_cons_self
        rw [List.filterMap_cons_some (List.getElem?_eq_getElem hi), List.map_cons, List.map_cons, ih fun j hj => h j (List.mem_cons_of_mem _ hj)]
        congr 1
        have e5 : (es.map (·.1))[i]? = some ((L[i]).2.hash w) := by
          rw [Array.getElem?_map, ent i, List.getElem?_eq_getElem hi]; rfl
        simp [Array.getD_eq_getD_getElem?, e5]
    exact all _ fun i hi => List.mem_range.mp (hp.mem_iff.mp hi)
theorem relay_n {o : Obj} (ho : s.heap.get? a = some o) (hex : o.ExactSet) (hd : o.data = .set es ep t) (hrows : es.toList = L.map (rowN w)) (hsz : t.place.size = es.size) (hdm : t.dummies = #[]) (hfl : es.size ≤ t.mask)
    (nd : (L.map (·.2)).Nodup) (key : ∀ p ∈ L, KeyAt s.heap p) (few : L.length < 64) {wanted M : Nat} (hw : SetTable.sizeAbove wanted - 1 = M) (hM : MaskOk M) (hw2 : SetTable.sizeAbove wanted ≤ 128) (hn : L.length * 5 < M * 3) {Q : Unit → Shared → Prop}
    (hQ : ∀ h' L' es' ep' t', Heap.SameBut a s.heap h' → ST w h' a L' es' ep' t' → L'.Perm L → Q () { s with heap := h' }) : wpAny (model P w) A (setRelay a wanted) Q E s := by
  have hsl : es.size = L.length := by simpa using congrArg List.length hrows
  have hfits : t.fits es.size = true := by
    unfold SetTable.fits SetTable.fill
    rw [hdm, Bool.and_eq_true, beq_iff_eq, decide_eq_true_eq]
    show t.place.size = es.size ∧ t.place.size + 0 ≤ t.mask
    omega
  obtain ⟨t', order, e, hp, T, em, _, _, _⟩ := relaid_ok t (hs := es.map (·.1)) (wanted := wanted) hw hM (by rw [Array.size_map, hsl]; omega)
  rw [Array.size_map, hsl] at hp
  obtain ⟨L2, r1, r2, r3⟩ := rows_order hrows hp
  rw [← r3] at T
  have hs2 : (order.filterMap (es[·]?)).size = es.size := by
    have h := congrArg List.length r1
    rw [Array.length_toList, List.length_map, r2.length_eq] at h
    rw [h, hsl]
  rw [setRelay_eq]
  refine wpAny_bind (wpAny_setState_of ho hd hfits ?_)
  dsimp only
  refine wp_if_neg (by rw [sizeLine_eq]; omega) ?_
  try refine wpAny_bind (wpAny_pure ?_)
  rw [e]
  dsimp only
  refine wpAny_bind ?_
  refine wp_if_neg (by rw [hs2]; simp) ?_
  try refine wpAny_bind (wpAny_pure ?_)
  refine wpAny_pure ?_
  dsimp only
  refine wpAny_storeSet_of ho hd ?_ (by rw [hs2, hsl, sizeLine_eq]; omega)
  have sb : Heap.SameBut a s.heap (s.heap.update a (Obj.putSet (order.filterMap (es[·]?)) t')) := Heap.SameBut.update ..
  exact hQ _ L2 _ (ep + 1) t' sb ⟨⟨_, store_at ho hd, ⟨hex.1, hex.2.1, hex.2.2⟩, rfl⟩, r1, T, (r2.map (·.2)).nodup_iff.mpr nd, fun p hpm => (key p (r2.mem_iff.mp hpm)).but ho hd sb, by rw [r2.length_eq, em]; exact hn, by rw [r2.length_eq]; exact few⟩ r2
theorem TabOk.plain {hs : List Int} (T : TabOk t hs) (b : Bool) : TabOk { t with plain := b } hs := ⟨T.ris, T.dm, T.sz, T.mok, T.bd, T.reach⟩
theorem add_n (R : ST w s.heap a L es ep t) {x : Addr × NestedKey} (hx : KeyAt s.heap x) (hu : A.units + 8 < cLine) (hfew : L.length + 1 < 64) {Q : Bool → Shared → Prop}
    (hQ : ∀ b h' L' es' ep' t', Heap.SameBut a s.heap h' → ST w h' a L' es' ep' t' → (x.2 ∈ L.map (·.2) → L' = L) → (x.2 ∉ L.map (·.2) → L'.Perm (x :: L)) → Q b { s with heap := h' }) :
    wpAny (model P w) A (setAddHashed a (.ref x.1) (x.2.hash w)) Q E s := by
  obtain ⟨o, ho, hex, hd⟩ := R.ob
  have hsl := R.size
  have hroom := R.room
  unfold setAddHashed
  refine wpAny_holding ?_
  rw [show (100000 : Nat) = 99999 + 1 from rfl, setAddHashedIn_succ]
  refine wpAny_bind (wpAny_setState_of ho hd R.fits ?_)
  dsimp only
  refine wp_if_neg (by simp [byScan, Value.scannable]) ?_
  try refine wpAny_bind (wpAny_pure ?_)
  refine wpAny_bind (search_add R hx hu (fun hm => ?_) fun K hm hK hb => ?_)
  · dsimp only
    exact wpAny_pure (hQ false s.heap L es ep t (Heap.SameBut.refl a s.heap) R (fun _ => rfl) fun z => absurd hm z)
  · dsimp only
    refine wpAny_bind (wpAny_setState_of ho hd R.fits ?_)
    dsimp only
    obtain ⟨q1, q2, q3, q4, _, _, _, _, q9⟩ := R.tab.put hK hb
    generalize hpt : t.put (way t.mask (x.2.hash w) K) = pt at q1 q3 q4 q9 ⊢
    obtain ⟨t1, p⟩ := pt
    dsimp only at q1 q3 q4 q9 ⊢
    subst q1
    have hin : (SetTable.insertAt es (SetTable.below t.place (way t.mask (x.2.hash w) K)) (x.2.hash w, Value.ref x.1)).toList = (L.take (SetTable.below t.place (way t.mask (x.2.hash w) K)) ++ x :: L.drop (SetTable.below t.place (way t.mask (x.2.hash w) K))).map (rowN w) := by
      rw [SetTable.toList_insertAt, R.rows, List.map_append, List.map_cons, List.map_take, List.map_drop]; rfl
    generalize hpp : SetTable.below t.place (way t.mask (x.2.hash w) K) = p at q2 q3 hin ⊢
    have pm := put_perm L p x
    have hlen : (L.take p ++ x :: L.drop p).length = L.length + 1 := pm.length_eq
    have hhs : (L.take p ++ x :: L.drop p).map (fun p => p.2.hash w) = (L.map fun p => p.2.hash w).take p ++ x.2.hash w :: (L.map fun p => p.2.hash w).drop p := by
      rw [List.map_append, List.map_cons, List.map_take, List.map_drop]
    rw [← hhs] at q3
    have nd1 : ((L.take p ++ x :: L.drop p).map (·.2)).Nodup := by
      refine (pm.map (·.2)).nodup_iff.mpr ?_
      rw [List.map_cons]
      exact List.nodup_cons.mpr ⟨hm, R.nd⟩
    have hes : (SetTable.insertAt es p (x.2.hash w, Value.ref x.1)).size = L.length + 1 := by
      have h := congrArg List.length hin
      rw [Array.length_toList, List.length_map, hlen] at h
      exact h
    generalize SetTable.insertAt es p (x.2.hash w, Value.ref x.1) = es1 at hin hes ⊢
    generalize L.take p ++ x :: L.drop p = L1 at pm hlen q3 nd1 hin
    -- whatever is said of the hash, the table stays good
    have tail : ∀ t2 : SetTable, TabOk t2 (L1.map fun p => p.2.hash w) → t2.mask = t.mask → t2.fill = L.length + 1 →
        wpAny (model P w) A (do
          storeSet a es1 t2
          if !false && t2.tooFull then setRelay a (SetTable.grown (es.size + 1))
          return true) Q E s := by
      intro t2 T2 m2 f2
      refine wpAny_bind (wpAny_storeSet_of ho hd ?_ (by rw [hes, sizeLine_eq]; omega))
      have sb : Heap.SameBut a s.heap (s.heap.update a (Obj.putSet es1 t2)) := Heap.SameBut.update ..
      have ho1 := store_at (es' := es1) (t' := t2) ho hd
      generalize s.heap.update a (Obj.putSet es1 t2) = h1 at sb ho1 ⊢
      have key1 : ∀ p ∈ L1, KeyAt h1 p := fun p hp => by
        rcases List.mem_cons.mp (pm.mem_iff.mp hp) with e | hp
        · rw [e]; exact hx.but ho hd sb
        · exact (R.key p hp).but ho hd sb
      by_cases hf : t2.tooFull = true
      · first
          | (refine wpAny_bind ?_; refine wp_if_pos (by simp [hf]) ?_)
          | (refine wp_if_pos (by simp [hf]) ?_; refine wpAny_bind ?_)
        have hfull : (L.length + 1) * 5 ≥ t2.mask * 3 := by
          have h := hf
          unfold SetTable.tooFull at h
          rw [decide_eq_true_eq, f2] at h
          exact h
        rw [hsl]
        have hsz1 : t2.place.size = es1.size := by
          have h := T2.sz
          rw [List.length_map, hlen] at h
          rw [h, hes]
        have cases2 : (t.mask = 7 ∧ L.length = 4) ∨ (t.mask = 31 ∧ L.length = 18) := by
          rcases R.tab.mok with e | e | e
          · left; rw [m2, e] at hfull; rw [e] at hroom; exact ⟨e, by omega⟩
          · right; rw [m2, e] at hfull; rw [e] at hroom; exact ⟨e, by omega⟩
          · exfalso; rw [m2, e] at hfull; omega
        have go : ∀ M, SetTable.sizeAbove (SetTable.grown (L.length + 1)) - 1 = M → MaskOk M → SetTable.sizeAbove (SetTable.grown (L.length + 1)) ≤ 128 → (L.length + 1) * 5 < M * 3 →
            wpAny (model P w) A (setRelay a (SetTable.grown (L.length + 1))) (fun _ s' => wpAny (model P w) A (pure true) Q E s') E { s with heap := h1 } := fun M h1' h2' h3' h4' => by
          refine relay_n (s := { s with heap := h1 }) ho1 ⟨hex.1, hex.2.1, hex.2.2⟩ rfl hin hsz1 T2.dm (by rw [hes, m2]; rcases cases2 with ⟨e, e2⟩ | ⟨e, e2⟩ <;> omega) nd1 key1 (by rw [hlen]; exact hfew) h1' h2' h3' (by rw [hlen]; exact h4') ?_
          intro h2 L2 es2 ep2 t3 sb2 R2 pm2
          exact wpAny_pure (hQ true h2 L2 es2 ep2 t3 (sb.trans sb2) R2 (fun z => absurd z hm) fun _ => pm2.trans pm)
        rcases cases2 with ⟨_, e2⟩ | ⟨_, e2⟩
        · exact go 31 (by rw [e2, size_20]) (.inr (.inl rfl)) (by rw [e2, size_20]; decide) (by omega)
        · exact go 127 (by rw [e2, size_76]) (.inr (.inr rfl)) (by rw [e2, size_76]; decide) (by omega)
      · first
          | refine wp_if_neg (by simp [hf]) ?_
          | (refine wpAny_bind ?_; refine wp_if_neg (by simp [hf]) ?_; refine wpAny_pure ?_)
        refine wpAny_pure (hQ true h1 L1 es1 (ep + 1) t2 sb ⟨⟨_, ho1, ⟨hex.1, hex.2.1, hex.2.2⟩, rfl⟩, hin, T2, nd1, key1, ?_, by rw [hlen]; exact hfew⟩ (fun z => absurd z hm) fun _ => pm)
        have h := hf
        unfold SetTable.tooFull at h
        rw [decide_eq_true_eq, f2] at h
        rw [hlen]
        omega
    have f1 : t1.fill = L.length + 1 := by rw [q9, List.length_map]
    by_cases hp1 : t1.plain = true
    · have fin : ∀ byV : Bool, wpAny (model P w) A (do
          storeSet a es1 (if byV = true then t1 else { t1 with plain := false })
          if !false && (if byV = true then t1 else { t1 with plain := false }).tooFull then setRelay a (SetTable.grown (es.size + 1))
          return true) Q E s := fun byV => by
        cases byV
        · exact tail _ (TabOk.plain q3 false) q4 f1
        · exact tail _ q3 q4 f1
      refine wp_if_pos hp1 ?_
      exact wpAny_bind (hb_any 8 _ _ _ _ _ hx.1 fun b => fin b)
    · refine wp_if_neg hp1 ?_
      exact tail t1 q3 q4 f1
end
end DL

set_option Elab.async false
set_option linter.all false
set_option maxRecDepth 100000
namespace DL
open PySem PySem.Spec PyProof.Rows L2 SeqAt
section
variable {P : Program} {w : World} {A : Around} {E : Value → Shared → Prop} {s : Shared}
theorem set_loop {I S : Addr} {fp wr : List Addr} {G : Array GenState → Array GenState → Prop} {n : Nat} {Pv : Nat → Value → Prop} {St : Nat → Shared → Prop} {R : Result → Shared → Prop} (W : WalksS P w A.in1 I fp wr G n Pv St) (hSf : S ∉ fp) (J : Nat → Heap → Prop)
    (hJ : ∀ i h h', J i h → (∀ b o, b ∉ wr → h.get? b = some o → h'.get? b = some o) → J i h')
    (hadd : ∀ i v (s : Shared) (Q : Bool → Shared → Prop) (E : Value → Shared → Prop), i < n → Pv i v → J i s.heap → (∀ b h' tk, s.toks ≤ tk → Heap.SameBut S s.heap h' → J (i + 1) h' → Q b { s with heap := h', toks := tk }) → wpAny (model P w) A.in1 (setAdd S v) Q E s) :
    ∀ (k i : Nat) (s : Shared), n - i = k → i ≤ n → St i s → J i s.heap → (∀ s', Moved (S :: wr) G s s' → J n s'.heap → R (.ok (.ret .none)) s') →
      codeAny (model P w) A (.builtin "set.update.loop" ⟨[.ref S, .ref I], []⟩) R s := by
  have hSw : S ∉ wr := fun h => hSf (W.sub _ h)
  have hsub : ∀ b ∈ wr, b ∈ S :: wr := fun b hb => List.mem_cons_of_mem _ hb
  intro k
  induction k with
  | zero =>
    intro i s hk hi hst hS hR
    have hin : i = n := by omega
    subst hin
    refine codeAny_builtin F.entry_set_update_loop ?_
    rw [Around.under_plainId F.plain_set_update_loop _]
    show wpAny _ A.in1 (pyNext (.ref I) >>= _) _ _ s
    refine wpAny_bind (W.done s _ _ hst fun s' hm => ?_)
    exact wpAny_pure (hR s' (hm.mono hsub) (hJ i _ _ hS hm.heap))
  | succ k ih =>
    intro i s hk hi hst hS hR
    have hlt : i < n := by omega
    refine codeAny_builtin F.entry_set_update_loop ?_
    rw [Around.under_plainId F.plain_set_update_loop _]
    show wpAny _ A.in1 (pyNext (.ref I) >>= _) _ _ s
    refine wpAny_bind (W.item i s _ _ hlt hst fun v s' hP hst' hm => ?_)
    refine wpAny_bind (wpAny_holding (hadd i v s' _ _ hlt hP (hJ i _ _ hS hm.heap) fun b h' tk htk hsb hS2 => ?_))
    refine wpAny_pure ⟨plainId_quiet F.plain_set_update_loop _, ih (i + 1) _ (by omega) hlt (W.frame _ s' _ _ hst' htk fun b hb o e => ?_) hS2 fun s'' hm'' hS'' => ?_⟩
    · rw [hsb.2 b (fun h : b = S => hSf (by rw [← h]; exact hb))]; exact e
    · refine hR s'' (Moved.trans W.gtrans ((hm.mono hsub).then_heap htk fun b o hb e => ?_) hm'') hS''
      rw [hsb.2 b (fun h : b = S => hb (by rw [h]; exact List.mem_cons_self))]; exact e
/-- what set() makes -/
def newSet0 (w : World) : Obj := { cls := .type "set", dict := none, data := .set #[] 0 (.fresh 0 0 (!w.params.followText "set-order")) }
set_option maxHeartbeats 3200000 in
theorem call_set_any {v : Value} {T : String} {n : Nat} {src : List Addr} {Pv : Nat → Value → Prop} {Q : Value → Shared → Prop} (hh : A.handled = none)
    (h1 : isSubtype (.type T) (.type "set") = pure false) (h2 : isSubtype (.type T) (.type "frozenset") = pure false) (hne : (Value.type T == Value.type "dict") = false)
    (hT : ∀ s1 : Shared, (∀ b o, s.heap.get? b = some o → s1.heap.get? b = some o) → s1.TypeIs v T) (hsrc : ∀ b ∈ src, b < s.heap.objs.size)
    (hit : ∀ (s1 : Shared) (A' : Around) (E' : Value → Shared → Prop) (Q : Value → Shared → Prop), (∀ b o, s.heap.get? b = some o → s1.heap.get? b = some o) → s.heap.objs.size ≤ s1.heap.objs.size →
      (∀ (ob : Obj) (St : Nat → Heap → Prop), (∀ A'' : Around, A''.handled = none → Walks P w A'' s1.heap.objs.size (s1.heap.objs.size :: src) [s1.heap.objs.size] n Pv St) → St 0 (s1.heap.push ob) → Q (.ref s1.heap.objs.size) { s1 with heap := s1.heap.push ob }) →
      wpAny (model P w) A' (pyIter v) Q E' s1)
    (J : Nat → Heap → Prop) (hJ : ∀ i h h', J i h → (∀ b o, b ≠ s.heap.objs.size + 1 → h.get? b = some o → h'.get? b = some o) → J i h')
    (hadd : ∀ i v (s1 : Shared) (A' : Around) (Q : Bool → Shared → Prop) (E : Value → Shared → Prop), A'.units ≤ A.units + 8 → i < n → Pv i v → J i s1.heap → (∀ b h' tk, s1.toks ≤ tk → Heap.SameBut s.heap.objs.size s1.heap h' → J (i + 1) h' → Q b { s1 with heap := h', toks := tk }) → wpAny (model P w) A' (setAdd s.heap.objs.size v) Q E s1)
    (h0 : ∀ h', h'.get? s.heap.objs.size = some (newSet0 w) → (∀ b o, s.heap.get? b = some o → h'.get? b = some o) → J 0 h')
    (h : ∀ (h' : Heap) (tk : Nat), J n h' → (∀ b o, s.heap.get? b = some o → h'.get? b = some o) → Q (.ref s.heap.objs.size) { s with heap := h', toks := tk }) :
    wpAny (model P w) A (call (.type "set") [v]) Q E s := by
  obtain ⟨c, tl, hmro⟩ := F.called_set.mro
  have hmade := F.called_set.made
  have hsub := F.called_set.sub
  refine wpAny_call (codeAny_of_tree ?_)
  show wpAny _ _ (callAny (.type "set") _) _ _ _
  refine wpAny_pure ⟨Code.quiet_builtin _ (by decide +kernel), codeAny_builtin F.entry_type_call ?_⟩
  rw [Around.under_plain (weight_type_call_type "set" [v] []) rfl]
  have g1 := F.called_set.notType
  have g2 := F.called_set.canCreate
  have hct := F.typeCall_set_1 v
  repeat (any_goals (first | assumption | wp_step))
  refine codeAny_mono (code_set_led1 v (E := E) (Q₁ := fun obj s₁ => obj = .ref s.heap.objs.size ∧ s₁ = { s with heap := s.heap.push (newSet0 w) }) ⟨rfl, rfl⟩) fun r s₁ hr => ?_
  cases r with
  | error e => exact hr
  | ok fl =>
    cases fl with
    | ret obj =>
      obtain ⟨rfl, rfl⟩ := hr
      have hS : (s.heap.push (newSet0 w)).get? s.heap.objs.size = some (newSet0 w) := Heap.get?_push_size _ rfl
      have hTs : Shared.TypeIs { s with heap := s.heap.push (newSet0 w) } (.ref s.heap.objs.size) "set" := ⟨_, hS, rfl⟩
      have hli := F.called_set.init.lookup
      have hbi := F.called_set.init.bind (.ref s.heap.objs.size)
      repeat (any_goals (first | assumption | wp_step))
      refine codeAny_mono (codeAny_call_builtin (R := wants (fun r s₂ => r = .none ∧ ∃ h' tk, s₂ = { s with heap := h', toks := tk } ∧ J n h' ∧ (∀ b o, s.heap.get? b = some o → h'.get? b = some o)) E) F.called_set.init.plain F.entry_set_init (check_set_init_1 hTs ?_)) fun r₂ s₂ hr₂ => ?_
      · have hTv := hT { s with heap := s.heap.push (newSet0 w) } fun b o e => Heap.get?_push_of_some _ e
        unfold Builtin.«set.__init__» noKeywords Builtin.Frozenset.updateFrom
        unfold newSet0 at *
        generalize hPI : pyIter = PI
        wp_walk
        subst hPI
        generalize ({ cls := .type "set", dict := none, data := .set #[] 0 (.fresh 0 0 (!w.params.followText "set-order")) } : Obj) = nb at *
        have hz : ∀ ob : Obj, (s.heap.push ob).objs.size = s.heap.objs.size + 1 := fun ob => Heap.size_push ..
        refine hit { s with heap := s.heap.push nb } _ _ _ (fun b o e => Heap.get?_push_of_some _ e) (by show _ ≤ (s.heap.push nb).objs.size; rw [hz]; omega) fun ob St W St0 => ?_
        refine wpAny_bind (wpAny_runValue ?_)
        have hh3 : A.in1.in1.in1.handled = none := by simp [hh]
        have W3 := (W A.in1.in1.in1 hh3).toS
        have keep2 : ∀ b o, s.heap.get? b = some o → ((s.heap.push nb).push ob).get? b = some o := fun b o e => Heap.get?_push_of_some _ (Heap.get?_push_of_some _ e)
        refine set_loop (S := s.heap.objs.size) W3 ?fp J ?st ?ad (n - 0) 0 _ (by omega) (Nat.zero_le _) St0 (h0 _ (Heap.get?_push_of_some _ hS) keep2) ?fin
        case fp =>
          intro hm
          rcases List.mem_cons.mp hm with e | e
          · have e : s.heap.objs.size = (s.heap.push nb).objs.size := e
            rw [hz] at e
            omega
          · exact absurd (hsrc _ e) (Nat.lt_irrefl _)
        case st =>
          intro i h1 h2 hj hk
          refine hJ i h1 h2 hj fun b o hb e => hk b o (fun z => ?_) e
          have z : b = (s.heap.push nb).objs.size := by simpa using z
          rw [hz] at z
          exact hb z
        case ad =>
          intro i v2 s2 Q2 E2 hi hp hj hq
          exact hadd i v2 s2 _ Q2 E2 (by simp [Around.in1_units]) hi hp hj hq
        case fin =>
          intro s' hm hj
          obtain ⟨h', g', d', tk', os'⟩ := s'
          have eg : g' = s.gens := hm.gens
          have ed : d' = s.drawn := hm.drawn
          have eo : os' = s.os := hm.os
          subst eg; subst ed; subst eo
          refine wpAny_pure ?_
          refine wpAny_pure ⟨rfl, h', tk', rfl, hj, fun b o e => ?_⟩
          have hb0 : b < s.heap.objs.size := Heap.lt_size e
          refine hm.heap b o (fun z => ?_) (keep2 b o e)
          rcases List.mem_cons.mp z with z | z
          · exact absurd z (Nat.ne_of_lt hb0)
          · have z : b = (s.heap.push nb).objs.size := by simpa using z
            rw [hz] at z
            exact absurd z (Nat.ne_of_lt (Nat.lt_succ_of_lt hb0))
      · cases r₂ with
        | error e => exact hr₂
        | ok fl₂ =>
          cases fl₂ with
          | ret r =>
            obtain ⟨rfl, h', tk, rfl, hS', hk'⟩ := hr₂
            repeat (any_goals (first | assumption | wp_step))
            exact h _ _ hS' hk'
          | _ => exact hr₂.elim
    | _ => exact hr.elim
end
end DL

set_option Elab.async false
set_option linter.all false
set_option maxRecDepth 100000
namespace DL
open PySem PySem.Spec PyProof.Rows L2 SeqAt
/-! len(set(xs)) -/
def Dist {α : Type} (l : List α) (m : Nat) : Prop := ∃ d : List α, d.Nodup ∧ (∀ x, x ∈ d ↔ x ∈ l) ∧ d.length = m
theorem nd_len {α : Type} [DecidableEq α] : ∀ {l m : List α}, l.Nodup → (∀ x ∈ l, x ∈ m) → l.length ≤ m.length
  | [], m, _, _ => Nat.zero_le _
  | x :: l, m, h, s => by
    have hx := List.nodup_cons.mp h
    have : l.length ≤ (m.erase x).length := nd_len hx.2 fun y hy => by
      have hne : y ≠ x := fun e => hx.1 (e ▸ hy)
      exact (List.mem_erase_of_ne hne).mpr (s y (List.mem_cons_of_mem _ hy))
    have e := List.length_erase_of_mem (s x List.mem_cons_self)
    have : 0 < m.length := List.length_pos_of_mem (s x List.mem_cons_self)
    simp; omega
theorem Dist.uniq {α : Type} [DecidableEq α] {l : List α} {m n : Nat} (h : Dist l m) (h' : Dist l n) : m = n := by
  obtain ⟨d, a, b, rfl⟩ := h
  obtain ⟨e, a', b', rfl⟩ := h'
  exact Nat.le_antisymm (nd_len a fun x hx => (b' x).mpr ((b x).mp hx)) (nd_len a' fun x hx => (b x).mpr ((b' x).mp hx))
theorem Dist.nil {α : Type} : Dist ([] : List α) 0 := ⟨[], List.nodup_nil, by simp, rfl⟩
theorem Dist.le {α : Type} [DecidableEq α] {l : List α} {m : Nat} (h : Dist l m) : m ≤ l.length := by
  obtain ⟨d, a, b, rfl⟩ := h
  exact nd_len a fun x hx => (b x).mp hx
theorem Dist.snoc {α : Type} [DecidableEq α] {l : List α} {m : Nat} {x : α} (h : Dist l m) : Dist (l ++ [x]) (if x ∈ l then m else m + 1) := by
  obtain ⟨d, a, b, rfl⟩ := h
  by_cases hx : x ∈ l
  · rw [if_pos hx]
    exact ⟨d, a, fun y => by rw [b y]; simp; intro e; rw [e]; exact hx, rfl⟩
  · rw [if_neg hx]
    exact ⟨x :: d, List.nodup_cons.mpr ⟨fun z => hx ((b x).mp z), a⟩, fun y => by simp [b y]; exact Or.comm, rfl⟩
theorem nub_in {x : NestedKey} : ∀ {l : List NestedKey}, x ∈ nub l ↔ x ∈ l
  | [] => by simp [nub]
  | y :: l => by
    unfold nub
    by_cases h : y ∈ nub l
    · rw [if_pos h, nub_in]
      simp
      intro e
      rw [e]
      exact nub_in.mp h
    · rw [if_neg h]
      simp [nub_in]
theorem nub_nodup : ∀ l : List NestedKey, (nub l).Nodup
  | [] => List.nodup_nil
  | y :: l => by
    unfold nub
    by_cases h : y ∈ nub l
    · rw [if_pos h]; exact nub_nodup l
    · rw [if_neg h]; exact List.nodup_cons.mpr ⟨h, nub_nodup l⟩
theorem Dist.ofNub (l : List NestedKey) : Dist l (nub l).length := ⟨_, nub_nodup l, fun _ => nub_in, rfl⟩
/-- a set of m members at p -/
def SetSz (m : Nat) (p : Addr) (h : Heap) : Prop := ∃ o es ep t, h.get? p = some o ∧ o.ExactSet ∧ o.data = .set es ep t ∧ t.fits es.size = true ∧ es.size = m ∧ m < 4000
def SetN (p : Addr) (m : Nat) : HO := .ext fun h => SetSz m p h
section
variable {X : Cx}
theorem setN_new {H : Hp} {P : Program} {w : World} {h : Heap} {p : Addr} {m : Nat} (R : SetSz m p h) : ObjOk P w H h p (SetN p m) := by
  have ⟨o, _, _, _, ho, _⟩ := R
  exact ⟨R, ⟨o, ho⟩, fun h1 h2 q k => let ⟨o, es, ep, t, ho, r⟩ := q; ⟨o, es, ep, t, k o ho, r⟩⟩
/-- what set() walks over -/
theorem src_set {pins : List (Addr × Obj)} {σ : L2.St} {H : Hp} {s : Shared} {vs : List V} (I : Inv X pins σ H s) (q : SrcK) (h : q.has X.K H vs) : ∃ (T : String) (src : List Addr), isSubtype (.type T) (.type "set") = pure false ∧ isSubtype (.type T) (.type "frozenset") = pure false ∧ (Value.type T == Value.type "dict") = false ∧
    (∀ s1 : Shared, (∀ b o, s.heap.get? b = some o → s1.heap.get? b = some o) → s1.TypeIs q.val T) ∧ (∀ b ∈ src, b < s.heap.objs.size) ∧
    (∀ (s1 : Shared) (A' : Around) (E' : Value → Shared → Prop) (Q : Value → Shared → Prop), (∀ b o, s.heap.get? b = some o → s1.heap.get? b = some o) → s.heap.objs.size ≤ s1.heap.objs.size →
      (∀ (ob : Obj) (St : Nat → Heap → Prop), (∀ A'' : Around, A''.handled = none → Walks X.prog X.w A'' s1.heap.objs.size (s1.heap.objs.size :: src) [s1.heap.objs.size] vs.length (fun i u => ∃ v, vs[i]? = some v ∧ RelV v u) St) → St 0 (s1.heap.push ob) → Q (.ref s1.heap.objs.size) { s1 with heap := s1.heap.push ob }) →
      wpAny (model X.prog X.w) A' (pyIter q.val) Q E' s1) := by
  cases q with
  | tup a =>
    obtain ⟨its, rv, p, _⟩ := I.tuple h
    have ht : s.heap.IsTuple a its.toArray := p
    have hl := rv.length
    obtain ⟨o, ho, hc, n, hd⟩ := id ht
    refine ⟨"tuple", [a], F.sub_tuple_set, F.sub_tuple_frozenset, by decide, fun s1 k => ⟨o, k _ _ ho, hc⟩, fun b hb => ?_, fun s1 A' E' Q k hz hq => ?_⟩
    · have : b = a := by simpa using hb
      subst this; exact Heap.lt_size ho
    · have h1 : s1.heap.IsTuple a its.toArray := ⟨o, k _ _ ho, hc, n, hd⟩
      refine wpAny_pyIter_tuple h1 (hq _ (fun i h => h.IsTupleIter s1.heap.objs.size a i ∧ h.IsTuple a its.toArray) (fun A'' hA => ?_) ⟨⟨_, Heap.get?_push_size _ rfl, rfl, rfl⟩, h1.push _⟩)
      have W := Walks.tuple (prog := X.prog) (w := X.w) hA s1.heap.objs.size a (Nat.ne_of_lt (Nat.lt_of_lt_of_le (Heap.lt_size ho) hz)) its.toArray
      rw [show vs.length = its.toArray.size by simp [hl]]
      exact W.mono_item fun i v hi e => by
        obtain ⟨x, hx⟩ : ∃ x, vs[i]? = some x := ⟨vs[i]'(by simp at hi; omega), List.getElem?_eq_getElem (by simp at hi; omega)⟩
        obtain ⟨u, hu, ru⟩ := rv.get hx
        have e' : its[i]? = some v := by simpa using e
        rw [hu] at e'
        cases e'
        exact ⟨x, hx, ru⟩
  | lst a =>
    obtain ⟨its, rv, p, _⟩ := I.list h
    have ht : s.heap.IsList a its.toArray := p.isList
    have hl := rv.length
    obtain ⟨o, ho, hc, n, hd⟩ := id ht
    refine ⟨"list", [a], F.sub_list_set, F.sub_list_frozenset, by decide, fun s1 k => ⟨o, k _ _ ho, hc⟩, fun b hb => ?_, fun s1 A' E' Q k hz hq => ?_⟩
    · have : b = a := by simpa using hb
      subst this; exact Heap.lt_size ho
    · have h1 : s1.heap.IsList a its.toArray := ⟨o, k _ _ ho, hc, n, hd⟩
      refine wpAny_pyIter_list h1 (hq _ (fun i h => h.IsListIter s1.heap.objs.size a i ∧ h.IsList a its.toArray) (fun A'' hA => ?_) ⟨⟨_, Heap.get?_push_size _ rfl, rfl, rfl⟩, h1.push _⟩)
      have W := Walks.list (prog := X.prog) (w := X.w) hA s1.heap.objs.size a (Nat.ne_of_lt (Nat.lt_of_lt_of_le (Heap.lt_size ho) hz)) its.toArray
      rw [show vs.length = its.toArray.size by simp [hl]]
      exact W.mono_item fun i v hi e => by
        obtain ⟨x, hx⟩ : ∃ x, vs[i]? = some x := ⟨vs[i]'(by simp at hi; omega), List.getElem?_eq_getElem (by simp at hi; omega)⟩
        obtain ⟨u, hu, ru⟩ := rv.get hx
        have e' : its[i]? = some v := by simpa using e
        rw [hu] at e'
        cases e'
        exact ⟨x, hx, ru⟩
  | str z t =>
    have h : vs = z.cps.toList.map fun c => V.str ⟨#[c]⟩ := h
    subst h
    refine ⟨"str", [], F.sub_str_set, F.sub_str_frozenset, by decide, fun s1 k => rfl, fun b hb => (by simp at hb), fun s1 A' E' Q k hz hq => ?_⟩
    refine wpAny_pyIter_str fun ob St W st0 => hq ob St (fun A'' hA => ?_) st0
    rw [show (z.cps.toList.map fun c => V.str ⟨#[c]⟩).length = z.cps.size by simp]
    exact (W A'' hA).mono_item fun i v hi e => by
      obtain ⟨c, u, e1, rfl⟩ := e
      exact ⟨.str ⟨#[c]⟩, by rw [List.getElem?_map]; simp [e1], u, rfl⟩
variable {pins : List (Addr × Obj)} {σ : L2.St} {H : Hp} {s : Shared} {M : DM}
theorem strs_vs {K : PySem.W.Frag} {H : Hp} : ∀ {ds : List D} {vs : List V}, Rps K H ds vs → (∀ x ∈ ds, ∃ z, x = .str z) → ∃ zs : List Str, vs = zs.map V.str ∧ nks ds = zs.map NestedKey.text
  | [], vs, h, _ => ⟨[], h.nil_of, rfl⟩
  | d :: ds, vs, h, a => by
    obtain ⟨v, r, rfl, h1, h2⟩ := h.cons_of
    obtain ⟨z, rfl⟩ := a d List.mem_cons_self
    obtain ⟨zs, e1, e2⟩ := strs_vs h2 fun x hx => a x (List.mem_cons_of_mem _ hx)
    exact ⟨z :: zs, by rw [e1, h1.str_of]; rfl, by simp [nks, nk, e2]⟩
theorem tups_vs (I : Inv X pins σ H s) : ∀ {ds : List D} {vs : List V}, plains ds = true → Rps X.K H ds vs → (∀ x ∈ ds, (∃ ts, x = .tup ts) ∧ (nk x).depth ≤ 8) → ∃ ks : List (Addr × NestedKey), vs = ks.map (fun p => V.ref p.1) ∧ nks ds = ks.map (·.2) ∧ ∀ p ∈ ks, KeyAt s.heap p
  | [], vs, _, h, _ => ⟨[], h.nil_of, rfl, by simp⟩
  | d :: ds, vs, pl, h, a => by
    obtain ⟨v, r, rfl, h1, h2⟩ := h.cons_of
    obtain ⟨⟨ts, rfl⟩, hd⟩ := a d List.mem_cons_self
    have pl : plain (.tup ts) = true ∧ plains ds = true := by simpa [plains] using pl
    obtain ⟨ks, e1, e2, e3⟩ := tups_vs I pl.2 h2 fun x hx => a x (List.mem_cons_of_mem _ hx)
    obtain ⟨b, us, rfl, _⟩ := h1.tup_of
    refine ⟨(b, nk (.tup ts)) :: ks, by rw [e1]; rfl, by simp [nks, e2], fun p hp => ?_⟩
    rcases List.mem_cons.mp hp with rfl | hp
    · exact ⟨nested_of I (.tup ts) pl.1 h1 (u := .ref b) rfl, hd⟩
    · exact e3 p hp
theorem Dist.text {zs : List Str} {m : Nat} (h : Dist zs m) : m = (nub (zs.map NestedKey.text)).length := by
  obtain ⟨d, a, b, rfl⟩ := h
  have : Dist (zs.map NestedKey.text) d.length := ⟨d.map NestedKey.text, List.Pairwise.map _ (fun x y hne e => hne (by simpa using e)) a, fun x => by simp [b], by simp⟩
  exact this.uniq (Dist.ofNub _)
theorem Dist.le_all {zs : List Str} {i k : Nat} (h : Dist (zs.take i) k) : k ≤ (nub (zs.map NestedKey.text)).length := by
  rw [h.text]
  refine nd_len (nub_nodup _) fun x hx => nub_in.mpr ?_
  have := nub_in.mp hx
  obtain ⟨y, hy, e⟩ := List.mem_map.mp this
  exact List.mem_map.mpr ⟨y, List.mem_of_mem_take hy, e⟩
def rSetN (K : PySem.W.Frag) (w : World) : List V → Hp → VK → Prop := fun xs H Q => ∃ (v : V) (d : D) (M : DM) (m : Nat), xs = [v] ∧ Rp K H d v ∧ RM w K H M ∧ (itK d M fun ds _ => lenSetK ds fun n => n = m) ∧ ∀ p, H p = none → Q (.ref p) (upd H p (SetN p m))
theorem cr_setN (hc : X.calm = true) (hu : X.A.units + 64 < cLine) : CallR X (.type "set") (rSetN X.K X.w) := by
  intro pins s σ H xs us Q I r ⟨v, d, M, m, ex, hr, hm, t, q⟩
  subst ex
  obtain ⟨u, rfl, ru⟩ := vals1 r
  obtain ⟨sk, ds, chk, ⟨pl, hnb, kinds, em⟩, c, eu, hp⟩ := itK_src hr ru hm t
  obtain ⟨vs, hv, rs⟩ := hp H M (Keep.refl H) hm c
  subst eu
  obtain ⟨T, src, h1, h2, hne, hT, hsrc, hit⟩ := src_set I sk hv
  have hlen := rs.len
  have hn : H s.heap.objs.size = none := I.hok.fresh (Nat.le_refl _)
  have fin : ∀ (h' : Heap) (tk : Nat), SetSz m s.heap.objs.size h' → (∀ b o, s.heap.get? b = some o → h'.get? b = some o) → L2.EP X pins σ Q (.ref s.heap.objs.size) { s with heap := h', toks := tk } := fun h' tk R k =>
    ⟨.ref s.heap.objs.size, upd H s.heap.objs.size (SetN s.heap.objs.size m), I.laid (t' := tk) k (Nat.le_refl _) (setN_new R), rfl, q _ hn⟩
  rcases kinds with ks | ⟨h64, ks⟩
  · obtain ⟨zs, ev, en⟩ := strs_vs rs ks
    refine call_set_any (P := X.prog) (w := X.w) (I.ok.hd hc) h1 h2 hne hT hsrc hit (fun i h => ∃ k, h.SetOf (strKind X.prog X.w) s.heap.objs.size (fun x => decide (x ∈ zs.take i)) k ∧ Dist (zs.take i) k) ?st ?ad ?z fun h' tk ⟨k, hS, hD⟩ kp => fin h' tk ?_ kp
    case st =>
      rintro i h h' ⟨k, ⟨o, es, ep, tb, ho, rest⟩, hD⟩ hk
      exact ⟨k, ⟨o, es, ep, tb, hk _ o (Nat.ne_of_lt (Nat.lt_succ_self _)) ho, rest⟩, hD⟩
    case ad =>
      rintro i v2 s1 A' Q2 E2 _ hi ⟨x, hx, rx⟩ ⟨k, hS, hD⟩ hq
      rw [ev, List.getElem?_map] at hx
      cases hz' : zs[i]? with
      | none => rw [hz'] at hx; cases hx
      | some z =>
        rw [hz'] at hx
        cases hx
        obtain ⟨tk, rfl⟩ := rx
        have hk64 : k ≤ 64 := by have := hD.le_all; rw [← en] at this; omega
        have et : zs.take (i + 1) = zs.take i ++ [z] := by rw [List.take_succ, hz']; rfl
        unfold setAdd
        refine wpAny_holding (wpAny_bind ((strKind X.prog X.w).pyHash (k := z) (strKind_is _ _ _ _) ?_))
        refine wpAny_setAddHashed_of (knd := strKind X.prog X.w) (s := { s1 with toks := s1.toks + 1 }) (strKind_is _ _ _ _) rfl hS (by unfold scanBound; omega) fun h' sb hS' => ?_
        refine hq _ h' _ (Nat.le_succ _) sb ⟨if z ∈ zs.take i then k else k + 1, SetOf_congr hS' (fun y => ?_) ?_, ?_⟩
        · rw [et]; simp
        · by_cases hm' : z ∈ zs.take i
          · simp [hm']
          · simp [hm']
        · rw [et]
          exact hD.snoc
    case z =>
      intro h' ho _
      exact ⟨0, SetOf_congr ((setObjOf_fresh (knd := strKind X.prog X.w) (!X.w.params.followText "set-order")).setOf ho (by decide)) (fun x => by simp) rfl, by simpa using Dist.nil⟩
    · obtain ⟨o, es, ep, tb, ho, hex, hd, _, _, hb, hf, hs⟩ := hS
      have hfull : zs.take vs.length = zs := List.take_of_length_le (by have := congrArg List.length ev; simp at this; omega)
      rw [hfull] at hD
      have : k = m := by rw [← em, en]; exact hD.text
      refine ⟨o, es, ep, tb, ho, hex, hd, hf, by rw [hs, this], ?_⟩
      have em' : (nub (nks ds)).length = m := em
      omega
  · obtain ⟨kk, ev, en, hk⟩ := tups_vs I pl rs ks
    have hz : kk.length < 64 := by have := congrArg List.length ev; simp at this; omega
    have old : ∀ {b : Addr} {o : Obj}, s.heap.get? b = some o → b ≠ s.heap.objs.size ∧ b ≠ s.heap.objs.size + 1 := fun e => ⟨Nat.ne_of_lt (Heap.lt_size e), Nat.ne_of_lt (Nat.lt_succ_of_lt (Heap.lt_size e))⟩
    refine call_set_any (P := X.prog) (w := X.w) (I.ok.hd hc) h1 h2 hne hT hsrc hit (fun i h => (∃ L es ep t, ST X.w h s.heap.objs.size L es ep t ∧ (∀ x, x ∈ L.map (·.2) ↔ x ∈ (kk.take i).map (·.2)) ∧ L.length ≤ i ∧ ∀ p ∈ L, p ∈ kk) ∧ ∀ b o, s.heap.get? b = some o → h.get? b = some o) ?st ?ad ?z fun h' tk ⟨⟨L, es, ep, t, R, hmem, _, _⟩, _⟩ kp => fin h' tk ?_ kp
    case st =>
      rintro i h h' ⟨⟨L, es, ep, t, R, hmem, hle, hsub⟩, hold⟩ hk2
      have hold' : ∀ b o, s.heap.get? b = some o → h'.get? b = some o := fun b o e => hk2 b o (old e).2 (hold b o e)
      obtain ⟨o, ho, r⟩ := R.ob
      exact ⟨⟨L, es, ep, t, ⟨⟨o, hk2 _ o (Nat.ne_of_lt (Nat.lt_succ_self _)) ho, r⟩, R.rows, R.tab, R.nd, fun p hp => (hk p (hsub p hp)).keep hold', R.room, R.few⟩, hmem, hle, hsub⟩, hold'⟩
    case ad =>
      rintro i v2 s1 A' Q2 E2 hA hi ⟨x, hx, rx⟩ ⟨⟨L, es, ep, t, R, hmem, hle, hsub⟩, hold⟩ hq
      rw [ev, List.getElem?_map] at hx
      cases hz' : kk[i]? with
      | none => rw [hz'] at hx; cases hx
      | some p =>
        rw [hz'] at hx
        cases hx
        cases rx
        have hik : i < kk.length := (List.getElem?_eq_some_iff.mp hz').1
        have et : kk.take (i + 1) = kk.take i ++ [p] := by rw [List.take_succ, hz']; rfl
        have hpk : KeyAt s1.heap p := (hk p (List.mem_of_getElem? hz')).keep hold
        unfold setAdd
        refine wpAny_holding (wpAny_bind ((nestedKind X.prog X.w).pyHash (k := p.2) (by show A'.units + 8 < cLine; omega) hpk ?_))
        refine add_n (s := { s1 with toks := s1.toks + _ }) R hpk (by omega) (by omega) fun b h' L' es' ep' t' sb R' c1 c2 => ?_
        refine hq b h' _ (Nat.le_add_right _ _) sb ⟨⟨L', es', ep', t', R', ?_, ?_, ?_⟩, fun b o e => (sb.2 b (old e).1).trans (hold b o e)⟩
        · intro y
          rw [et, List.map_append, List.mem_append]
          by_cases c : p.2 ∈ L.map (·.2)
          · rw [c1 c, hmem y]
            constructor
            · exact .inl
            · rintro (h | h)
              · exact h
              · have : y = p.2 := by simpa using h
                rw [this]; exact (hmem _).mp c
          · rw [((c2 c).map (·.2)).mem_iff, List.map_cons, List.mem_cons, hmem y]
            simp
            exact Or.comm
        · by_cases c : p.2 ∈ L.map (·.2)
          · rw [c1 c]; omega
          · rw [(c2 c).length_eq, List.length_cons]; omega
        · intro y hy
          by_cases c : p.2 ∈ L.map (·.2)
          · rw [c1 c] at hy; exact hsub y hy
          · rcases List.mem_cons.mp ((c2 c).mem_iff.mp hy) with e | e
            · rw [e]; exact List.mem_of_getElem? hz'
            · exact hsub y e
    case z =>
      intro h' ho hold
      exact ⟨⟨[], #[], 0, _, ⟨⟨_, ho, ⟨rfl, rfl, rfl⟩, rfl⟩, rfl, ⟨List.Pairwise.nil, rfl, rfl, .inl rfl, fun x hx => (by cases hx), fun i h j hi => (by simp at hi)⟩, List.nodup_nil, fun p hp => (by cases hp), (by show 0 * 5 < 7 * 3; decide), (by show 0 < 64; decide)⟩, fun x => by simp, Nat.zero_le _, fun p hp => (by cases hp)⟩, hold⟩
    · have hfull : kk.take vs.length = kk := List.take_of_length_le (by have := congrArg List.length ev; simp at this; omega)
      rw [hfull] at hmem
      have hD : Dist (kk.map (·.2)) L.length := ⟨L.map (·.2), R.nd, hmem, by simp⟩
      have : L.length = m := by rw [← em, en]; exact hD.uniq (Dist.ofNub _)
      obtain ⟨o, ho, hex, hd⟩ := R.ob
      exact ⟨o, es, ep, t, ho, hex, hd, R.fits, by rw [R.size, this], by have := R.few; omega⟩
/-- len of such a set -/
def rLenN : List V → Hp → VK → Prop := fun xs H Q => ∃ (p : Addr) (m : Nat), xs = [.ref p] ∧ H p = some (SetN p m) ∧ Q (.int m) H
theorem cr_lenN : CallR X (.builtin "len") rLenN := by
  intro pins s σ H xs us Q I r ⟨p, m, ex, hp, q⟩
  subst ex
  rw [Vals.ref1 r]
  obtain ⟨o, es, ep, t, ho, hex, hd, hf, hm, hb⟩ : SetSz m p s.heap := (I.hok p _ hp).1
  refine call_len_set ho hex hd hf (by omega) ⟨.int m, H, (I.tok _).tok _, ⟨_, by rw [hm]⟩, q⟩
theorem itK_len {d : D} {M : DM} {k : Nat → Prop} (h : itK d M fun xs _ => lenSetK xs k) : ∃ m, (itK d M fun xs _ => lenSetK xs fun n => n = m) ∧ k m := by
  have one : ∀ xs, lenSetK xs k → ∃ m, (lenSetK xs fun n => n = m) ∧ k m := fun xs h => ⟨_, ⟨h.1, h.2.1, h.2.2.1, rfl⟩, h.2.2.2⟩
  cases d with
  | tup ds => exact one ds h
  | str x => exact one _ h
  | fl ds => exact one ds h
  | ref a =>
    unfold itK at h ⊢
    dsimp only at h ⊢
    cases e : M a with
    | none => rw [e] at h; exact h.elim
    | some o =>
      rw [e] at h
      cases o with
      | lst ds => exact one ds h
      | _ => exact h.elim
  | _ => exact h.elim
variable {p p2 p3 p4 : Pos} {e : Expr} {t : DE}
theorem e_lenset (hc : X.calm = true) (hu : X.A.units + 64 < cLine) (hg : Gl X "len") (hm : X.mg "len" = none) (hg2 : Gl X "set") (hm2 : X.mg "set" = none) (he : EX X e t)
    (hs1 : starEach [e] X.env = (false, eval e X.env) :: starEach [] X.env := by rfl) (hs2 : starEach [.Call (.Name "set" p2) [e] [] p3] X.env = (false, eval (.Call (.Name "set" p2) [e] [] p3) X.env) :: starEach [] X.env := by rfl) :
    EX X (.Call (.Name "len" p) [.Call (.Name "set" p2) [e] [] p3] [] p4) (dLenSet t) := by
  have a1 := pe_callTy (X := X) (x := "set") (T := "set") (p := p2) (pos := p3) (cr_setN hc hu) hg2 hm2 rfl (pa_cons he pa_nil hs1) (he := hs1)
  have a2 := pe_callB (X := X) (x := "len") (id := "len") (p := p) (pos := p4) cr_lenN hg hm rfl (pa_cons a1 pa_nil hs2) (he := hs2)
  refine a2.imp fun σ H Q ⟨ds, M, R, hs, hmm, tt, k⟩ => ?_
  refine ⟨ds, M, fun d M1 => itK d M1 fun xs _ => lenSetK xs fun n => R (.int n) M1, hs, hmm, tt, fun v H1 d M1 f1 r1 m1 q1 => ?_⟩
  obtain ⟨m, it, hR⟩ := itK_len q1
  exact ⟨v, d, M1, m, rfl, r1, m1, it, fun p hp => ⟨p, m, rfl, upd_same, k _ _ (.int m) M1 (f1.trans (Fr.hid hp)) Rp.int (m1.hid hp) hR⟩⟩
end
end DL

set_option Elab.async false
set_option linter.all false
set_option maxRecDepth 100000
namespace DL
open PySem PySem.Spec PyProof.Rows L2
abbrev S (l : List Nat) : Str := ⟨l.toArray⟩
abbrev sg (c : Nat) : Str := S [c]
theorem S_of (x : Str) : ∃ a, x = S a := ⟨x.cps.toList, (SX.S_tl x).symm⟩
theorem S_inj {a b : List Nat} : S a = S b ↔ a = b := ⟨SX.S_inj, fun h => by rw [h]⟩
@[simp] theorem S_eq {a b : List Nat} : (S a = S b) = (a = b) := propext S_inj
theorem sg_eq {a b : Nat} : (sg a = sg b) = (a = b) := by simp [sg]
@[simp] theorem S_len (a : List Nat) : (S a).length = a.length := SX.S_len a
@[simp] theorem S_cat (a b : List Nat) : S a ++ S b = S (a ++ b) := SX.S_cat a b
@[simp] theorem S_cps (a : List Nat) : (S a).cps.toList = a := by simp
theorem chars_S (a : List Nat) : chars (S a) = a.map fun c => .str (sg c) := by simp [chars, sg]
@[simp] theorem strIn_one (a : List Nat) (c : Nat) : strIn (sg c) (S a) = decide (c ∈ a) := SX.in_one a c
theorem strIn_iff (a b : List Nat) : strIn (S b) (S a) = true ↔ ∃ i, i + b.length ≤ a.length ∧ (a.drop i).take b.length = b := by
  unfold strIn
  rw [StrLaws.found_iff]
  simp [StrLaws.subAt_eq]
theorem starts_S (a b : List Nat) : Txt.startswith (S a) (S b) = decide (a.take b.length = b) := by
  unfold Txt.startswith
  rw [StrLaws.subAt_eq]
  simp
  by_cases h : List.take b.length a = b
  · have : b.length ≤ a.length := by
      have := congrArg List.length h
      simp at this
      omega
    simp [h, this]
  · simp [h]
theorem ends_S (a b : List Nat) : Txt.endswith (S a) (S b) = decide (b.length ≤ a.length ∧ a.drop (a.length - b.length) = b) := by
  unfold Txt.endswith
  rw [StrLaws.subAt_eq]
  simp only [S_len, S_cps, Nat.zero_add]
  by_cases h : b.length ≤ a.length
  · have : (List.drop (a.length - b.length) a).take b.length = List.drop (a.length - b.length) a := List.take_of_length_le (by simp; omega)
    simp [h, this]
    by_cases e : List.drop (a.length - b.length) a = b <;> simp [e]
  · simp [h]
theorem cut_S (a : List Nat) (lo hi : Nat) : cutS (S a) (some lo) (some hi) = S ((a.take hi).drop lo) := by
  unfold cutS
  simp only [S_len, S_cps, HT.sIx_nat]
  refine S_inj.mpr ?_
  apply List.ext_getElem?
  intro i
  simp only [List.getElem?_drop, List.getElem?_take]
  by_cases h3 : lo + i < a.length
  · have e1 : min lo a.length = lo := by omega
    rw [e1]
    by_cases h2 : lo + i < hi
    · have : i < min hi a.length - lo := by omega
      simp [h2, this]
    · have : ¬ i < min hi a.length - lo := by omega
      simp [h2, this]
  · have : ¬ i < min hi a.length - min lo a.length := by omega
    rw [if_neg this, List.getElem?_eq_none (show a.length ≤ lo + i by omega)]
    simp
theorem cut_from (a : List Nat) (lo : Nat) : cutS (S a) (some lo) none = S (a.drop lo) := by
  unfold cutS
  simp only [S_len, S_cps, HT.sIx_nat, HT.sIx_none]
  refine S_inj.mpr ?_
  rw [List.take_of_length_le (by simp)]
  by_cases h : lo ≤ a.length
  · rw [Nat.min_eq_left h]
  · rw [Nat.min_eq_right (by omega)]; simp; omega
theorem cut_to (a : List Nat) (hi : Nat) : cutS (S a) none (some hi) = S (a.take hi) := by
  unfold cutS
  simp only [S_len, S_cps, HT.sIx_nat, HT.sIx_none]
  refine S_inj.mpr ?_
  by_cases h : hi ≤ a.length
  · simp [Nat.min_eq_left h]
  · rw [Nat.min_eq_right (by omega)]; simp [List.take_of_length_le (show a.length ≤ hi by omega)]
theorem join_nil (ys : List (List Nat)) : Txt.join (S []) (ys.map S) = S ys.flatten := by
  rw [SX.join_S]
  apply congrArg
  induction ys with
  | nil => rfl
  | cons x r ih =>
    cases r with
    | nil => simp [TL.joinL]
    | cons y r => simp [TL.joinL] at ih ⊢; exact ih
theorem ofString_S (s : String) : Str.ofString s = S (s.toList.map Char.toNat) := Str.ofString_eq_toList s
theorem ofString_inj {a b : String} : (Str.ofString a = Str.ofString b) = (a = b) := by
  rw [ofString_S, ofString_S, S_eq]
  apply propext
  constructor
  · intro h
    apply String.ext
    have inj : ∀ (l m : List Char), l.map Char.toNat = m.map Char.toNat → l = m := by
      intro l
      induction l with
      | nil => intro m h; cases m with
        | nil => rfl
        | cons _ _ => simp at h
      | cons x r ih => intro m h; cases m with
        | nil => simp at h
        | cons y t =>
          simp at h
          rw [ih t h.2, Char.toNat_inj.mp h.1]
    exact inj _ _ h
  · rintro rfl; rfl
end DL

set_option Elab.async false
set_option linter.all false
set_option maxRecDepth 100000
namespace DL
open PySem PySem.Spec PyProof.Rows L2
def K_LOWER : Str := Str.ofString "abcdefghijklmnopqrstuvwxyz"
def K_SIGNS : Str := Str.ofString "abcdefghijklmnopqrstuvwxyzABCDEFGHIJKLMNOPQRSTUVWXYZ0123456789!#+-?_"
def KT_STARTS : List (Str × Option D) := [((Str.ofString "size"), some (.int 0)), ((Str.ofString "least"), some (.int 0)), ((Str.ofString "most"), some (.int 0)), ((Str.ofString "kinds"), some (.tup [])), ((Str.ofString "run"), some (.tup [.str (Str.ofString ""), .int 0])), ((Str.ofString "row"), some (.tup [.str (Str.ofString ""), .int 0])), ((Str.ofString "not"), none), ((Str.ofString "first"), none), ((Str.ofString "last"), none)]
def R__law_draw : DS :=
    (dSeq (dIfS (dTest (dOp gtD (dOp getD (dVar 1) (dC (.int 1))) (dC (.int 0)))) (dSeq (dSet 3 (dOp modD (dOp getD (dVar 1) (dC (.int 1))) (dVar 2)))
    (dSeq (dAsg (dOp fdivD (dOp getD (dVar 1) (dC (.int 1))) (dVar 2)) (dgSub (dVar 1) (dC (.int 1))))
    (dRet (dVar 3)))) dNext)
    (dSeq (dSet 4 (dOp getD (dVar 1) (dC (.int 0))))
    (dSeq (dAugS (dVar 1) (dC (.int 0)) (dC (.int 1)) iaddD)
    (dSeq (dIfS (dTest (dOp eqD (dVar 0) (dLst daNil))) (dRet (dOp modD (dVar 4) (dVar 2))) dNext)
    (dSeq (dIfS (dAnd (dTest (dOp ltD (dVar 4) (dCB lenB (daCons (dVar 0) daNil)))) (dTest (dOp geD (dOp getD (dVar 0) (dVar 4)) (dOp powD (dC (.int 10)) (dC (.int 18)))))) (dSeq (dAsg (dOp modD (dOp fdivD (dOp getD (dVar 0) (dVar 4)) (dVar 2)) (dOp mulD (dOp powD (dC (.int 10)) (dC (.int 60))) (dOp powD (dC (.int 10)) (dC (.int 60))))) (dgSub (dVar 1) (dC (.int 1))))
    (dRet (dOp modD (dOp getD (dVar 0) (dVar 4)) (dVar 2)))) dNext)
    (dSeq (dSet 5 (dOp modD (dOp addD (dOp addD (dOp mulD (dOp getD (dVar 0) (dOp modD (dVar 4) (dCB lenB (daCons (dVar 0) daNil)))) (dC (.int 1103515245))) (dOp mulD (dC (.int 7919)) (dVar 4))) (dC (.int 12345))) (dC (.int 2147483647))))
    (dRet (dOp modD (dOp modD (dOp modD (dOp powD (dVar 5) (dC (.int 5))) (dC (.int 2147483647))) (dC (.int 999983))) (dVar 2)))))))))
def R__law_pick (sp__law_draw : DSp) : DS :=
    (dRet (dOp getD (dVar 2) (dCall sp__law_draw (daCons (dVar 0) (daCons (dVar 1) (daCons (dCB lenB (daCons (dVar 2) daNil)) daNil))))))
def R__law_rule (sp__law_pick : DSp) (sp__law_draw : DSp) : DS :=
    (dSeq (dAsg (dTup (daCons (dOp getD (dCall sp__law_pick (daCons (dVar 0) (daCons (dVar 1) (daCons (dVar 2) daNil)))) (dC (.int 0))) (daCons (dBM "str" joinM (dC (.str (Str.ofString ""))) (daCons (dLc (diAny (dVar 2)) (dgTup 2 (dgCons (dgName 3) (dgCons (dgName 4) dgNil))) dYes (dVar 4) [3, 4]) daNil)) daNil))) (dgTup 2 (dgCons (dgName 5) (dgCons (dgName 6) dgNil))))
    (dSeq (dPar 7 8 (daCons (dCall sp__law_draw (daCons (dVar 0) (daCons (dVar 1) (daCons (dC (.int 10)) daNil)))) (daCons (dOp addD (dC (.int 1)) (dCall sp__law_draw (daCons (dVar 0) (daCons (dVar 1) (daCons (dC (.int 3)) daNil))))) daNil)))
    (dSeq (dIfS (dTest (dOp ltD (dVar 7) (dC (.int 2)))) (dSeq (dSet 9 (dCall sp__law_draw (daCons (dVar 0) (daCons (dVar 1) (daCons (dC (.int 4)) daNil)))))
    (dRet (dTup (daCons (dC (.str (Str.ofString "size"))) (daCons (dVar 9) (daCons (dCall sp__law_pick (daCons (dVar 0) (daCons (dVar 1) (daCons (dLst (daCons (dC .non) (daCons (dOp addD (dVar 9) (dVar 8)) (daCons (dOp addD (dVar 9) (dC (.int 1))) (daCons (dVar 9) daNil))))) daNil)))) daNil)))))) dNext)
    (dSeq (dIfS (dTest (dOp ltD (dVar 7) (dC (.int 4)))) (dRet (dTup (daCons (dOp getD (dLst (daCons (dC (.str (Str.ofString "least"))) (daCons (dC (.str (Str.ofString "most"))) daNil))) (dOp subD (dVar 7) (dC (.int 2)))) (daCons (dVar 5) (daCons (dVar 8) daNil))))) dNext)
    (dSeq (dIfS (dTest (dOp ltD (dVar 7) (dC (.int 7)))) (dRet (dTup (daCons (dOp getD (dLst (daCons (dC (.str (Str.ofString "kinds"))) (daCons (dC (.str (Str.ofString "run"))) (daCons (dC (.str (Str.ofString "row"))) daNil)))) (dOp subD (dVar 7) (dC (.int 4)))) (daCons (dIf (dTest (dOp gtD (dVar 7) (dC (.int 4)))) (dVar 8) (dCB minB (daCons (dVar 8) (daCons (dCB lenB (daCons (dVar 2) daNil)) daNil)))) daNil)))) dNext)
    (dSeq (dIfS (dTest (dOp eqD (dVar 7) (dC (.int 7)))) (dRet (dTup (daCons (dC (.str (Str.ofString "not"))) (daCons (dBM "str" joinM (dC (.str (Str.ofString ""))) (daCons (dLc (diRng1 (dVar 8)) (dgName 10) dYes (dCall sp__law_pick (daCons (dVar 0) (daCons (dVar 1) (daCons (dVar 6) daNil)))) [10]) daNil)) daNil)))) dNext)
    (dRet (dTup (daCons (dOp getD (dLst (daCons (dC (.str (Str.ofString "first"))) (daCons (dC (.str (Str.ofString "last"))) daNil))) (dOp subD (dVar 7) (dC (.int 8)))) (daCons (dVar 5) daNil))))))))))
def R__law_policy (sp__law_draw : DSp) (sp__law_rule : DSp) : DS :=
    (dSeq (dSet 4 (dLst daNil))
    (dSeq (dFor (diRng1 (dCall sp__law_draw (daCons (dVar 0) (daCons (dVar 1) (daCons (dOp addD (dVar 3) (dC (.int 1))) daNil))))) (dgName 5) (dSeq (dSet 6 (dCall sp__law_rule (daCons (dVar 0) (daCons (dVar 1) (daCons (dVar 2) daNil)))))
    (dIfS (dTest (dOp ninD (dVar 6) (dVar 4))) (dDrop (dBM "list" appM (dVar 4) (daCons (dVar 6) daNil))) dNext)))
    (dRet (dTup (daCons (dVar 2) (daCons (dCB tupB (daCons (dVar 4) daNil)) daNil))))))
def R__law_classes (sp__law_pick : DSp) : DS :=
    (dSeq (dSet 2 (dLst (daCons (dTup (daCons (dTup (daCons (dC (.str (Str.ofString "low"))) (daCons (dC (.str (Str.ofString "ab"))) daNil))) (daCons (dTup (daCons (dC (.str (Str.ofString "dig"))) (daCons (dC (.str (Str.ofString "01"))) daNil))) daNil))) (daCons (dTup (daCons (dTup (daCons (dC (.str (Str.ofString "low"))) (daCons (dC (.str (Str.ofString "abc"))) daNil))) (daCons (dTup (daCons (dC (.str (Str.ofString "dig"))) (daCons (dC (.str (Str.ofString "0"))) daNil))) daNil))) (daCons (dTup (daCons (dTup (daCons (dC (.str (Str.ofString "x"))) (daCons (dC (.str (Str.ofString "abcd"))) daNil))) daNil)) daNil)))))
    (dRet (dCall sp__law_pick (daCons (dVar 0) (daCons (dVar 1) (daCons (dOp addD (dVar 2) (dLst (daCons (dTup (daCons (dTup (daCons (dC (.str (Str.ofString "up"))) (daCons (dC (.str (Str.ofString "A"))) daNil))) (daCons (dTup (daCons (dC (.str (Str.ofString "low"))) (daCons (dC (.str (Str.ofString "a"))) daNil))) (daCons (dTup (daCons (dC (.str (Str.ofString "dig"))) (daCons (dC (.str (Str.ofString "1"))) daNil))) daNil)))) (daCons (dTup (daCons (dTup (daCons (dC (.str (Str.ofString "m"))) (daCons (dC (.str (Str.ofString "!"))) daNil))) (daCons (dTup (daCons (dC (.str (Str.ofString "low"))) (daCons (dC (.str (Str.ofString "ba"))) daNil))) daNil))) daNil)))) daNil))))))
def R_is_over : DS :=
    (dRet (dAndV (dCB (isiB "str") (daCons (dVar 0) (daCons (dC (.ty "str")) daNil))) (dAndV (dChain leD leD (dVar 2) (dCB lenB (daCons (dVar 0) daNil)) (dVar 3)) (dCB allB (daCons (dLc (diAny (dVar 0)) (dgName 4) dYes (dOp inD (dVar 4) (dVar 1)) [4]) daNil)))))
def R_are_classes (sp_is_over : DSp) : DS :=
    (dSeq (dIfS (dOr (dNot (dTru (dCB (isiB "tuple") (daCons (dVar 0) (daCons (dC (.ty "tuple")) daNil))))) (dNot (dTest (dChain leD leD (dC (.int 1)) (dCB lenB (daCons (dVar 0) daNil)) (dC (.int 4)))))) (dRet (dC (.bl false))) dNext)
    (dSeq (dIfS (dNot (dTru (dCB allB (daCons (dLc (diAny (dVar 0)) (dgName 1) dYes (dAndV (dCB (isiB "tuple") (daCons (dVar 1) (daCons (dC (.ty "tuple")) daNil))) (dOp eqD (dCB lenB (daCons (dVar 1) daNil)) (dC (.int 2)))) [1]) daNil)))) (dRet (dC (.bl false))) dNext)
    (dSeq (dIfS (dNot (dTru (dCB allB (daCons (dLc (diAny (dVar 0)) (dgName 1) dYes (dAndV (dCall sp_is_over (daCons (dOp getD (dVar 1) (dC (.int 0))) (daCons (dC (.str K_LOWER)) (daCons (dC (.int 1)) (daCons (dC (.int 6)) daNil))))) (dCall sp_is_over (daCons (dOp getD (dVar 1) (dC (.int 1))) (daCons (dC (.str K_SIGNS)) (daCons (dC (.int 1)) (daCons (dC (.int 6)) daNil)))))) [1]) daNil)))) (dRet (dC (.bl false))) dNext)
    (dSeq (dPar 2 3 (daCons (dLc (diAny (dVar 0)) (dgName 1) dYes (dOp getD (dVar 1) (dC (.int 0))) [1]) (daCons (dBM "str" joinM (dC (.str (Str.ofString ""))) (daCons (dLc (diAny (dVar 0)) (dgName 1) dYes (dOp getD (dVar 1) (dC (.int 1))) [1]) daNil)) daNil)))
    (dRet (dAndV (dOp eqD (dCB lenB (daCons (dVar 2) daNil)) (dLenSet (dVar 2))) (dOp eqD (dCB lenB (daCons (dVar 3) daNil)) (dLenSet (dVar 3)))))))))
def R_is_count : DS :=
    (dRet (dAndV (dCB (isiB "int") (daCons (dVar 0) (daCons (dC (.ty "int")) daNil))) (dAndV (dNotV (dCB (isiB "bool") (daCons (dVar 0) (daCons (dC (.ty "bool")) daNil)))) (dChain leD leD (dVar 1) (dVar 0) (dVar 2)))))
def R_is_name : DS :=
    (dRet (dAndV (dCB (isiB "str") (daCons (dVar 0) (daCons (dC (.ty "str")) daNil))) (dOp inD (dVar 0) (dVar 1))))
def R_is_rule (sp_is_count : DSp) (sp_is_name : DSp) (sp_is_over : DSp) : DS :=
    (dSeq (dIfS (dOr (dNot (dTru (dCB (isiB "tuple") (daCons (dVar 0) (daCons (dC (.ty "tuple")) daNil))))) (dOr (dNot (dTru (dVar 0))) (dNot (dTru (dCB (isiB "str") (daCons (dOp getD (dVar 0) (dC (.int 0))) (daCons (dC (.ty "str")) daNil))))))) (dRet (dC (.bl false))) dNext)
    (dSeq (dPar 3 4 (daCons (dOp getD (dVar 0) (dC (.int 0))) (daCons (dSl (dVar 0) (dPart (dC (.int 1))) dNoPart) daNil)))
    (dSeq (dIfS (dTest (dOp eqD (dVar 3) (dC (.str (Str.ofString "size"))))) (dSeq (dIfS (dOr (dTest (dOp neD (dCB lenB (daCons (dVar 4) daNil)) (dC (.int 2)))) (dNot (dTru (dCall sp_is_count (daCons (dOp getD (dVar 4) (dC (.int 0))) (daCons (dC (.int 0)) (daCons (dC (.int 12)) daNil))))))) (dRet (dC (.bl false))) dNext)
    (dRet (dOrV (dOp isD (dOp getD (dVar 4) (dC (.int 1))) (dC .non)) (dCall sp_is_count (daCons (dOp getD (dVar 4) (dC (.int 1))) (daCons (dOp getD (dVar 4) (dC (.int 0))) (daCons (dC (.int 12)) daNil))))))) dNext)
    (dSeq (dIfS (dTest (dOp inD (dVar 3) (dTup (daCons (dC (.str (Str.ofString "least"))) (daCons (dC (.str (Str.ofString "most"))) daNil))))) (dRet (dAndV (dOp eqD (dCB lenB (daCons (dVar 4) daNil)) (dC (.int 2))) (dAndV (dCall sp_is_name (daCons (dOp getD (dVar 4) (dC (.int 0))) (daCons (dVar 1) daNil))) (dCall sp_is_count (daCons (dOp getD (dVar 4) (dC (.int 1))) (daCons (dIf (dTest (dOp eqD (dVar 3) (dC (.str (Str.ofString "least"))))) (dC (.int 1)) (dC (.int 0))) (daCons (dC (.int 4)) daNil))))))) dNext)
    (dSeq (dIfS (dTest (dOp inD (dVar 3) (dTup (daCons (dC (.str (Str.ofString "kinds"))) (daCons (dC (.str (Str.ofString "run"))) (daCons (dC (.str (Str.ofString "row"))) daNil)))))) (dRet (dAndV (dOp eqD (dCB lenB (daCons (dVar 4) daNil)) (dC (.int 1))) (dCall sp_is_count (daCons (dOp getD (dVar 4) (dC (.int 0))) (daCons (dC (.int 1)) (daCons (dC (.int 4)) daNil)))))) dNext)
    (dSeq (dIfS (dTest (dOp eqD (dVar 3) (dC (.str (Str.ofString "not"))))) (dRet (dAndV (dOp eqD (dCB lenB (daCons (dVar 4) daNil)) (dC (.int 1))) (dCall sp_is_over (daCons (dOp getD (dVar 4) (dC (.int 0))) (daCons (dVar 2) (daCons (dC (.int 1)) (daCons (dC (.int 5)) daNil))))))) dNext)
    (dRet (dAndV (dOp inD (dVar 3) (dTup (daCons (dC (.str (Str.ofString "first"))) (daCons (dC (.str (Str.ofString "last"))) daNil)))) (dAndV (dOp eqD (dCB lenB (daCons (dVar 4) daNil)) (dC (.int 1))) (dCall sp_is_name (daCons (dOp getD (dVar 4) (dC (.int 0))) (daCons (dVar 1) daNil))))))))))))
def R_signs_of : DS :=
    (dRet (dBM "str" joinM (dC (.str (Str.ofString ""))) (daCons (dLc (diAny (dOp getD (dVar 0) (dC (.int 0)))) (dgName 1) dYes (dOp getD (dVar 1) (dC (.int 1))) [1]) daNil)))
def R_is_policy (sp_are_classes : DSp) (sp_is_rule : DSp) (sp_signs_of : DSp) : DS :=
    (dSeq (dIfS (dOr (dNot (dTru (dCB (isiB "tuple") (daCons (dVar 0) (daCons (dC (.ty "tuple")) daNil))))) (dOr (dTest (dOp neD (dCB lenB (daCons (dVar 0) daNil)) (dC (.int 2)))) (dNot (dTru (dCall sp_are_classes (daCons (dOp getD (dVar 0) (dC (.int 0))) daNil)))))) (dRet (dC (.bl false))) dNext)
    (dSeq (dAsg (dTup (daCons (dLc (diAny (dOp getD (dVar 0) (dC (.int 0)))) (dgName 1) dYes (dOp getD (dVar 1) (dC (.int 0))) [1]) (daCons (dOp getD (dVar 0) (dC (.int 1))) daNil))) (dgTup 2 (dgCons (dgName 2) (dgCons (dgName 3) dgNil))))
    (dSeq (dIfS (dOr (dNot (dTru (dCB (isiB "tuple") (daCons (dVar 3) (daCons (dC (.ty "tuple")) daNil))))) (dTest (dOp gtD (dCB lenB (daCons (dVar 3) daNil)) (dC (.int 6))))) (dRet (dC (.bl false))) dNext)
    (dSeq (dIfS (dNot (dTru (dCB allB (daCons (dLc (diAny (dVar 3)) (dgName 4) dYes (dCall sp_is_rule (daCons (dVar 4) (daCons (dVar 2) (daCons (dCall sp_signs_of (daCons (dVar 0) daNil)) daNil)))) [4]) daNil)))) (dRet (dC (.bl false))) dNext)
    (dRet (dOp eqD (dCB lenB (daCons (dVar 3) daNil)) (dLenSet (dVar 3))))))))
def R_need_policy (sp_is_policy : DSp) : DS :=
    (dIfS (dNot (dTru (dCall sp_is_policy (daCons (dVar 0) daNil)))) dNever dNext)
def R_characters (sp_need_policy : DSp) (sp_signs_of : DSp) : DS :=
    (dSeq (dDrop (dCall sp_need_policy (daCons (dVar 0) daNil)))
    (dRet (dCall sp_signs_of (daCons (dVar 0) daNil))))
def R__law_keeps : DS :=
    (dSeq (dAsg (dTup (daCons (dOp getD (dVar 1) (dC (.int 0))) (daCons dNewS daNil))) (dgTup 2 (dgCons (dgName 3) (dgCons (dgName 4) dgNil))))
    (dSeq (dFor (diAny (dVar 0)) (dgTup 2 (dgCons (dgName 5) (dgCons (dgName 6) dgNil))) (dFor (diAny (dVar 6)) (dgName 7) (dAsg (dVar 5) (dgSub (dVar 4) (dVar 7)))))
    (dSeq (dIfS (dTest (dOp eqD (dVar 3) (dC (.str (Str.ofString "size"))))) (dRet (dAndV (dOp leD (dOp getD (dVar 1) (dC (.int 1))) (dCB lenB (daCons (dVar 2) daNil))) (dOrV (dOp isD (dOp getD (dVar 1) (dC (.int 2))) (dC .non)) (dOp leD (dCB lenB (daCons (dVar 2) daNil)) (dOp getD (dVar 1) (dC (.int 2))))))) dNext)
    (dSeq (dIfS (dTest (dOp inD (dVar 3) (dTup (daCons (dC (.str (Str.ofString "least"))) (daCons (dC (.str (Str.ofString "most"))) daNil))))) (dSeq (dSet 8 (dCB lenB (daCons (dLc (diAny (dVar 2)) (dgName 7) (dTest (dOp eqD (dOp getD (dVar 4) (dVar 7)) (dOp getD (dVar 1) (dC (.int 1))))) (dVar 7) [7]) daNil)))
    (dRet (dIf (dTest (dOp eqD (dVar 3) (dC (.str (Str.ofString "least"))))) (dOp geD (dVar 8) (dOp getD (dVar 1) (dC (.int 2)))) (dOp leD (dVar 8) (dOp getD (dVar 1) (dC (.int 2))))))) dNext)
    (dSeq (dIfS (dTest (dOp eqD (dVar 3) (dC (.str (Str.ofString "kinds"))))) (dRet (dOp geD (dLenSet (dLc (diAny (dVar 2)) (dgName 7) dYes (dOp getD (dVar 4) (dVar 7)) [7])) (dOp getD (dVar 1) (dC (.int 1))))) dNext)
    (dSeq (dIfS (dTest (dOp inD (dVar 3) (dTup (daCons (dC (.str (Str.ofString "first"))) (daCons (dC (.str (Str.ofString "last"))) daNil))))) (dRet (dAndV (dOp neD (dVar 2) (dC (.str (Str.ofString "")))) (dOp eqD (dOp getD (dVar 4) (dIf (dTest (dOp eqD (dVar 3) (dC (.str (Str.ofString "first"))))) (dOp getD (dVar 2) (dC (.int 0))) (dOp getD (dVar 2) (dUn negD (dC (.int 1)))))) (dOp getD (dVar 1) (dC (.int 1)))))) dNext)
    (dSeq (dIfS (dTest (dOp eqD (dVar 3) (dC (.str (Str.ofString "not"))))) (dRet (dOp ninD (dOp getD (dVar 1) (dC (.int 1))) (dVar 2))) dNext)
    (dSeq (dFor (diRng1 (dOp subD (dCB lenB (daCons (dVar 2) daNil)) (dOp getD (dVar 1) (dC (.int 1))))) (dgName 9) (dSeq (dSet 10 (dSl (dVar 2) (dPart (dVar 9)) (dPart (dOp addD (dOp addD (dVar 9) (dOp getD (dVar 1) (dC (.int 1)))) (dC (.int 1))))))
    (dSeq (dIfS (dAnd (dTest (dOp eqD (dVar 3) (dC (.str (Str.ofString "run"))))) (dTest (dOp eqD (dLenSet (dVar 10)) (dC (.int 1))))) (dRet (dC (.bl false))) dNext)
    (dIfS (dAnd (dTest (dOp eqD (dVar 3) (dC (.str (Str.ofString "row"))))) (dTru (dCB anyB (daCons (dLc (diAny (dVar 0)) (dgTup 2 (dgCons (dgName 5) (dgCons (dgName 6) dgNil))) dYes (dOp inD (dVar 10) (dVar 6)) [5, 6]) daNil)))) (dRet (dC (.bl false))) dNext))))
    (dRet (dC (.bl true)))))))))))
def R_need_string (sp_is_over : DSp) (sp_signs_of : DSp) : DS :=
    (dIfS (dNot (dTru (dCall sp_is_over (daCons (dVar 1) (daCons (dCall sp_signs_of (daCons (dVar 0) daNil)) (daCons (dC (.int 0)) (daCons (dC (.int 20)) daNil))))))) dNever dNext)
def R_Machine___init__ (C_Machine : Addr) (sp_signs_of : DSp) : DS :=
    (dSeq (dPutF C_Machine (Str.ofString "rules") (dVar 0) (dOp getD (dVar 1) (dC (.int 1))))
    (dSeq (dPutF C_Machine (Str.ofString "signs") (dVar 0) (dCall sp_signs_of (daCons (dVar 1) daNil)))
    (dSeq (dPutF C_Machine (Str.ofString "names") (dVar 0) dNewS)
    (dSeq (dPutF C_Machine (Str.ofString "followers") (dVar 0) dNewS)
    (dSeq (dFor (diAny (dOp getD (dVar 1) (dC (.int 0)))) (dgTup 2 (dgCons (dgName 2) (dgCons (dgName 3) dgNil))) (dSeq (dFor (diAny (dVar 3)) (dgName 4) (dAsg (dVar 2) (dgSub (dFld C_Machine (Str.ofString "names") (dVar 0)) (dVar 4))))
    (dFor (diZip (dVar 3) (dSl (dVar 3) (dPart (dC (.int 1))) dNoPart)) (dgTup 2 (dgCons (dgName 4) (dgCons (dgName 5) dgNil))) (dAsg (dVar 5) (dgSub (dFld C_Machine (Str.ofString "followers") (dVar 0)) (dVar 4))))))
    (dSeq (dPutF C_Machine (Str.ofString "start") (dVar 0) (dCB tupB (daCons (dLc (diAny (dFld C_Machine (Str.ofString "rules") (dVar 0))) (dgName 6) dYes (dKGet KT_STARTS (dOp getD (dVar 6) (dC (.int 0))) (dC (.str (Str.ofString "")))) [6]) daNil)))
    (dPutF C_Machine (Str.ofString "known") (dVar 0) dNewT)))))))
def R_Machine_keeps : DS :=
    (dSeq (dSet 3 (dOp getD (dVar 1) (dC (.int 0))))
    (dSeq (dIfS (dTest (dOp eqD (dVar 3) (dC (.str (Str.ofString "size"))))) (dRet (dOp geD (dVar 2) (dOp getD (dVar 1) (dC (.int 1))))) dNext)
    (dSeq (dIfS (dTest (dOp eqD (dVar 3) (dC (.str (Str.ofString "least"))))) (dRet (dOp geD (dVar 2) (dOp getD (dVar 1) (dC (.int 2))))) dNext)
    (dSeq (dIfS (dTest (dOp eqD (dVar 3) (dC (.str (Str.ofString "kinds"))))) (dRet (dOp geD (dCB lenB (daCons (dVar 2) daNil)) (dOp getD (dVar 1) (dC (.int 1))))) dNext)
    (dSeq (dIfS (dTest (dOp inD (dVar 3) (dTup (daCons (dC (.str (Str.ofString "first"))) (daCons (dC (.str (Str.ofString "last"))) daNil))))) (dRet (dOp eqD (dVar 2) (dOp getD (dVar 1) (dC (.int 1))))) dNext)
    (dRet (dC (.bl true))))))))
def R_Machine_fine (C_Machine : Addr) (sp_Machine_keeps : DSp) : DS :=
    (dRet (dAndV (dOp isnD (dVar 1) (dC .non)) (dCB allB (daCons (dLc (diZip (dFld C_Machine (Str.ofString "rules") (dVar 0)) (dVar 1)) (dgTup 2 (dgCons (dgName 2) (dgCons (dgName 3) dgNil))) dYes (dMeth C_Machine (Str.ofString "keeps") sp_Machine_keeps (dVar 0) (daCons (dVar 2) (daCons (dVar 3) daNil))) [2, 3]) daNil))))
def R_Machine_counted : DS :=
    (dSeq (dIfS (dTest (dOp leD (dVar 1) (dVar 2))) (dRet (dVar 1)) dNext)
    (dRet (dIf (dTru (dVar 3)) (dC .non) (dVar 2))))
def R_Machine_unmatched : DS :=
    (dSeq (dIfS (dTru (dBM "str" (str2M fun a b => .bl (Txt.endswith a b)) (dVar 2) (daCons (dVar 1) daNil))) (dRet (dC .non)) dNext)
    (dSeq (dWhile (dNot (dTru (dBM "str" (str2M fun a b => .bl (Txt.startswith a b)) (dVar 1) (daCons (dVar 2) daNil)))) (dSet 2 (dSl (dVar 2) (dPart (dC (.int 1))) dNoPart)))
    (dRet (dVar 2))))
def R_Machine_moved (C_Machine : Addr) (sp_Machine_counted : DSp) (sp_Machine_unmatched : DSp) : DS :=
    (dSeq (dPar 4 5 (daCons (dOp getD (dVar 1) (dC (.int 0))) (daCons (dOp getD (dFld C_Machine (Str.ofString "names") (dVar 0)) (dVar 3)) daNil)))
    (dSeq (dIfS (dTest (dOp eqD (dVar 4) (dC (.str (Str.ofString "size"))))) (dRet (dMeth C_Machine (Str.ofString "counted") sp_Machine_counted (dVar 0) (daCons (dOp addD (dVar 2) (dC (.int 1))) (daCons (dIf (dTest (dOp isD (dOp getD (dVar 1) (dC (.int 2))) (dC .non))) (dOp getD (dVar 1) (dC (.int 1))) (dOp getD (dVar 1) (dC (.int 2)))) (daCons (dOp isnD (dOp getD (dVar 1) (dC (.int 2))) (dC .non)) daNil))))) dNext)
    (dSeq (dIfS (dTest (dOp inD (dVar 4) (dTup (daCons (dC (.str (Str.ofString "least"))) (daCons (dC (.str (Str.ofString "most"))) daNil))))) (dRet (dMeth C_Machine (Str.ofString "counted") sp_Machine_counted (dVar 0) (daCons (dOp addD (dVar 2) (dIf (dTest (dOp eqD (dVar 5) (dOp getD (dVar 1) (dC (.int 1))))) (dC (.int 1)) (dC (.int 0)))) (daCons (dOp getD (dVar 1) (dC (.int 2))) (daCons (dOp eqD (dVar 4) (dC (.str (Str.ofString "most")))) daNil))))) dNext)
    (dSeq (dIfS (dTest (dOp eqD (dVar 4) (dC (.str (Str.ofString "kinds"))))) (dRet (dIf (dTest (dOp inD (dVar 5) (dVar 2))) (dVar 2) (dSortT (dOp addD (dVar 2) (dTup (daCons (dVar 5) daNil)))))) dNext)
    (dSeq (dIfS (dTest (dOp eqD (dVar 4) (dC (.str (Str.ofString "run"))))) (dSeq (dSet 6 (dIf (dTest (dOp eqD (dOp getD (dVar 2) (dC (.int 0))) (dVar 3))) (dOp addD (dOp getD (dVar 2) (dC (.int 1))) (dC (.int 1))) (dC (.int 1))))
    (dRet (dIf (dTest (dOp leD (dVar 6) (dOp getD (dVar 1) (dC (.int 1))))) (dTup (daCons (dVar 3) (daCons (dVar 6) daNil))) (dC .non)))) dNext)
    (dSeq (dIfS (dTest (dOp eqD (dVar 4) (dC (.str (Str.ofString "row"))))) (dSeq (dSet 6 (dIf (dAnd (dTest (dOp neD (dOp getD (dVar 2) (dC (.int 0))) (dC (.str (Str.ofString ""))))) (dTest (dOp eqD (dBM "dict" getM (dFld C_Machine (Str.ofString "followers") (dVar 0)) (daCons (dOp getD (dVar 2) (dC (.int 0))) daNil)) (dVar 3)))) (dOp addD (dOp getD (dVar 2) (dC (.int 1))) (dC (.int 1))) (dC (.int 1))))
    (dRet (dIf (dTest (dOp leD (dVar 6) (dOp getD (dVar 1) (dC (.int 1))))) (dTup (daCons (dVar 3) (daCons (dVar 6) daNil))) (dC .non)))) dNext)
    (dSeq (dIfS (dTest (dOp eqD (dVar 4) (dC (.str (Str.ofString "not"))))) (dRet (dMeth C_Machine (Str.ofString "unmatched") sp_Machine_unmatched (dVar 0) (daCons (dOp getD (dVar 1) (dC (.int 1))) (daCons (dOp addD (dVar 2) (dVar 3)) daNil)))) dNext)
    (dSeq (dIfS (dTest (dOp eqD (dVar 4) (dC (.str (Str.ofString "first"))))) (dRet (dIf (dTest (dOp neD (dVar 2) (dC (.str (Str.ofString ""))))) (dVar 2) (dIf (dTest (dOp eqD (dVar 5) (dOp getD (dVar 1) (dC (.int 1))))) (dVar 5) (dC .non)))) dNext)
    (dRet (dVar 5))))))))))
def R_Machine_step (C_Machine : Addr) (sp_Machine_moved : DSp) : DS :=
    (dSeq (dIfS (dTest (dOp isD (dVar 1) (dC .non))) (dRet (dC .non)) dNext)
    (dSeq (dIfS (dTest (dOp ninD (dTup (daCons (dVar 1) (daCons (dVar 2) daNil))) (dFld C_Machine (Str.ofString "known") (dVar 0)))) (dSeq (dSet 5 (dLc (diZip (dFld C_Machine (Str.ofString "rules") (dVar 0)) (dVar 1)) (dgTup 2 (dgCons (dgName 3) (dgCons (dgName 4) dgNil))) dYes (dMeth C_Machine (Str.ofString "moved") sp_Machine_moved (dVar 0) (daCons (dVar 3) (daCons (dVar 4) (daCons (dVar 2) daNil)))) [3, 4]))
    (dAsg (dIf (dTest (dOp inD (dC .non) (dVar 5))) (dC .non) (dCB tupB (daCons (dVar 5) daNil))) (dgSub (dFld C_Machine (Str.ofString "known") (dVar 0)) (dTup (daCons (dVar 1) (daCons (dVar 2) daNil)))))) dNext)
    (dRet (dOp getD (dFld C_Machine (Str.ofString "known") (dVar 0)) (dTup (daCons (dVar 1) (daCons (dVar 2) daNil)))))))
def R_Machine_after (C_Machine : Addr) (sp_Machine_step : DSp) : DS :=
    (dSeq (dSet 2 (dFld C_Machine (Str.ofString "start") (dVar 0)))
    (dSeq (dFor (diAny (dVar 1)) (dgName 3) (dSet 2 (dMeth C_Machine (Str.ofString "step") sp_Machine_step (dVar 0) (daCons (dVar 2) (daCons (dVar 3) daNil)))))
    (dRet (dVar 2))))
def R_broken (C_Machine : Addr) (sp_need_policy : DSp) (sp_need_string : DSp) (sp_Machine___init__ : DSp) (sp_Machine_fine : DSp) (sp_Machine_after : DSp) : DS :=
    (dSeq (dDrop (dCall sp_need_policy (daCons (dVar 0) daNil)))
    (dSeq (dDrop (dCall sp_need_string (daCons (dVar 0) (daCons (dVar 1) daNil))))
    (dSeq (dSet 2 (dLst daNil))
    (dSeq (dFor (diEnum (dOp getD (dVar 0) (dC (.int 1)))) (dgTup 2 (dgCons (dgName 3) (dgCons (dgName 4) dgNil))) (dSeq (dSet 5 (dMake C_Machine sp_Machine___init__ (daCons (dTup (daCons (dOp getD (dVar 0) (dC (.int 0))) (daCons (dTup (daCons (dVar 4) daNil)) daNil))) daNil)))
    (dIfS (dNot (dTru (dMeth C_Machine (Str.ofString "fine") sp_Machine_fine (dVar 5) (daCons (dMeth C_Machine (Str.ofString "after") sp_Machine_after (dVar 5) (daCons (dVar 1) daNil)) daNil)))) (dDrop (dBM "list" appM (dVar 2) (daCons (dVar 3) daNil))) dNext)))
    (dRet (dVar 2))))))
def R_allows (sp_broken : DSp) : DS :=
    (dRet (dOp eqD (dCall sp_broken (daCons (dVar 0) (daCons (dVar 1) daNil))) (dLst daNil)))
end DL

set_option Elab.async false
set_option linter.all false
set_option maxRecDepth 100000
namespace DL
open PySem PySem.Spec PyProof.Rows L2
/-- lists built without a change -/
theorem lcW_pure {chk : DM → Prop} {g : DG} {tt : DT} {te : DE} {ds : DSt} {M : DM} {Q : List D → DM → Prop} (f : D → Option D) (hc : chk M) : ∀ (xs acc : List D),
    (∀ x ∈ xs, ∀ (A : D → DM → Prop) (B : DM → Prop), (match f x with | some d => A d M | none => B M) → g x ds M fun ds1 M1 => tt ds1 M1 fun b M2 => if b = true then te ds1 M2 A else B M2) →
    Q (acc ++ xs.filterMap f) M → lcW chk g tt te ds xs acc M Q
  | [], acc, _, q => ⟨hc, by simpa using q⟩
  | x :: xs, acc, h, q => by
    refine ⟨hc, h x List.mem_cons_self (fun y M3 => lcW chk g tt te ds xs (acc ++ [y]) M3 Q) (fun M2 => lcW chk g tt te ds xs acc M2 Q) ?_⟩
    have ih := lcW_pure (g := g) (tt := tt) (te := te) (ds := ds) f hc (Q := Q) xs
    have h' := fun x hx => h x (List.mem_cons_of_mem _ hx)
    rw [List.filterMap_cons] at q
    cases e : f x with
    | none => rw [e] at q; exact ih acc h' q
    | some d => rw [e] at q; exact ih (acc ++ [d]) h' (by simpa using q)
theorem lcW_map {chk : DM → Prop} {g : DG} {te : DE} {ds : DSt} {M : DM} {Q : List D → DM → Prop} (f : D → D) (hc : chk M) (xs acc : List D)
    (h : ∀ x ∈ xs, ∀ (A : D → DM → Prop), A (f x) M → g x ds M fun ds1 M1 => te ds1 M1 A) (q : Q (acc ++ xs.map f) M) : lcW chk g dYes te ds xs acc M Q :=
  lcW_pure (fun x => some (f x)) hc xs acc (fun x hx A B a => by simpa using h x hx A a) (by simpa using q)
def cntB (d : D) (lo hi : Int) : Bool := match d with
  | .int i => decide (lo ≤ i) && decide (i ≤ hi)
  | _ => false
def imm : D → Bool
  | .ref _ => false
  | .ty _ => false
  | .fl _ => false
  | _ => true
def isT (T : String) (d : D) : Bool := match d with
  | .bl _ => T == "bool" || T == "int"
  | .int _ => T == "int"
  | .str _ => T == "str"
  | .tup _ => T == "tuple"
  | _ => false
theorem isi_int {d : D} {M : DM} {Q : D → DM → Prop} (h : imm d = true) : isiB "int" [d, .ty "int"] M Q = Q (.bl (isT "int" d)) M := by
  cases d <;> first | (cases h; done) | exact propext ⟨fun x => x.2, fun x => ⟨rfl, x⟩⟩
theorem isi_bool {d : D} {M : DM} {Q : D → DM → Prop} (h : imm d = true) : isiB "bool" [d, .ty "bool"] M Q = Q (.bl (isT "bool" d)) M := by
  cases d <;> first | (cases h; done) | exact propext ⟨fun x => x.2, fun x => ⟨rfl, x⟩⟩
theorem isi_str {d : D} {M : DM} {Q : D → DM → Prop} (h : imm d = true) : isiB "str" [d, .ty "str"] M Q = Q (.bl (isT "str" d)) M := by
  cases d <;> first | (cases h; done) | exact propext ⟨fun x => x.2, fun x => ⟨rfl, x⟩⟩
theorem isi_tuple {d : D} {M : DM} {Q : D → DM → Prop} (h : imm d = true) : isiB "tuple" [d, .ty "tuple"] M Q = Q (.bl (isT "tuple" d)) M := by
  cases d <;> first | (cases h; done) | exact propext ⟨fun x => x.2, fun x => ⟨rfl, x⟩⟩
theorem Dn.of {R : D → DM → Prop} {d : D} {M M' : DM} (l : Le M M') (h : R d M) : Dn R d M' := ⟨M, l, h⟩
def sp_is_count : DSp := fun ds M R => ∃ d lo hi, ds = [d, .int lo, .int hi] ∧ imm d = true ∧ R (.bl (cntB d lo hi)) M
theorem l_is_count : ∀ ds M R, sp_is_count ds M R → R_is_count (topE R) (startD 3 ds) M := by
  rintro _ M R ⟨d, lo, hi, rfl, ho, q⟩
  simp [R_is_count, startD, topE, getS, isi_int ho, isi_bool ho]
  cases d with
  | int i =>
    simp [isT]
    by_cases h : lo ≤ i
    · simp [cntB, h] at q ⊢
      exact Dn.mk q
    · simp [cntB, h] at q ⊢
      exact Dn.mk q
  | _ => first | (cases ho; done) | (simp [isT, cntB] at q ⊢; exact Dn.mk q)
def overB (d : D) (signs : Str) (lo hi : Int) : Bool := match d with
  | .str x => decide (lo ≤ x.length) && decide ((x.length : Int) ≤ hi) && x.cps.toList.all fun c => strIn ⟨#[c]⟩ signs
  | _ => false
def sp_is_over : DSp := fun ds M R => ∃ d signs lo hi, ds = [d, .str signs, .int lo, .int hi] ∧ imm d = true ∧ (∀ x, d = .str x → x.length ≤ sizeLine) ∧ R (.bl (overB d signs lo hi)) M
theorem l_is_over : ∀ ds M R, sp_is_over ds M R → R_is_over (topE R) (startD 5 ds) M := by
  rintro _ M R ⟨d, signs, lo, hi, rfl, ho, hs, q⟩
  simp [R_is_over, startD, topE, getS, isi_str ho]
  cases d with
  | str x =>
    have hx := hs x rfl
    simp [isT]
    refine ⟨hx, ?_⟩
    by_cases h1 : lo ≤ x.length
    · by_cases h2 : (x.length : Int) ≤ hi
      · simp only [h1, h2, ↓reduceIte]
        refine ⟨by simpa [chars, Str.length] using hx, lcW_map (fun d => match d with | .str c => .bl (strIn c signs) | _ => .non) trivial _ _ (fun d hd A a => ?_) fun p hp => ?_⟩
        · obtain ⟨c, hc, rfl⟩ := List.mem_map.mp hd
          simpa [getS] using a
        · simp only [chars, List.nil_append, List.map_map]
          refine ⟨by simp, .of (Le.new hp) ?_⟩
          simp [overB, h1, h2] at q
          simpa [List.all_map, Function.comp_def] using q
      · simp [overB, h1, h2] at q ⊢
        exact Dn.mk q
    · simp [overB, h1] at q ⊢
      exact Dn.mk q
  | _ => first | (cases ho; done) | (simp [isT, overB] at q ⊢; exact Dn.mk q)
/-! ### the data -/
abbrev Tx := List Nat
abbrev Cls := List (Tx × Tx)
inductive Ru where
  | size (lo : Int) (hi : Option Int) | least (n : Tx) (k : Int) | most (n : Tx) (k : Int) | kinds (k : Int) | run (k : Int) | row (k : Int) | nt (t : Tx) | first (n : Tx) | last (n : Tx)
  deriving DecidableEq
abbrev w_ (s : String) : D := .str (Str.ofString s)
def oiD : Option Int → D
  | none => .non
  | some i => .int i
def rD : Ru → D
  | .size lo hi => .tup [w_ "size", .int lo, oiD hi]
  | .least n k => .tup [w_ "least", .str (S n), .int k]
  | .most n k => .tup [w_ "most", .str (S n), .int k]
  | .kinds k => .tup [w_ "kinds", .int k]
  | .run k => .tup [w_ "run", .int k]
  | .row k => .tup [w_ "row", .int k]
  | .nt t => .tup [w_ "not", .str (S t)]
  | .first n => .tup [w_ "first", .str (S n)]
  | .last n => .tup [w_ "last", .str (S n)]
def pairD (p : Tx × Tx) : D := .tup [.str (S p.1), .str (S p.2)]
def cD (cs : Cls) : D := .tup (cs.map pairD)
def pD (cs : Cls) (rs : List Ru) : D := .tup [cD cs, .tup (rs.map rD)]
def sgs (cs : Cls) : Tx := (cs.map (·.2)).flatten
def nms (cs : Cls) : List Tx := cs.map (·.1)
/-- classes as the document asks -/
structure ClsOk (cs : Cls) : Prop where
  lo : 1 ≤ cs.length
  hi : cs.length ≤ 4
  nm : ∀ p ∈ cs, 1 ≤ p.1.length ∧ p.1.length ≤ 6 ∧ ∀ c ∈ p.1, strIn (sg c) K_LOWER = true
  sn : ∀ p ∈ cs, 1 ≤ p.2.length ∧ p.2.length ≤ 6 ∧ ∀ c ∈ p.2, strIn (sg c) K_SIGNS = true
  ndn : (nms cs).Nodup
  nds : (sgs cs).Nodup
def inC (i lo hi : Int) : Prop := lo ≤ i ∧ i ≤ hi
def RuOk (cs : Cls) : Ru → Prop
  | .size lo hi => inC lo 0 12 ∧ ∀ h, hi = some h → inC h lo 12
  | .least n k => n ∈ nms cs ∧ inC k 1 4
  | .most n k => n ∈ nms cs ∧ inC k 0 4
  | .kinds k => inC k 1 4
  | .run k => inC k 1 4
  | .row k => inC k 1 4
  | .nt t => 1 ≤ t.length ∧ t.length ≤ 5 ∧ ∀ c ∈ t, c ∈ sgs cs
  | .first n => n ∈ nms cs
  | .last n => n ∈ nms cs
structure PolOk (cs : Cls) (rs : List Ru) : Prop where
  c : ClsOk cs
  few : rs.length ≤ 6
  r : ∀ r ∈ rs, RuOk cs r
  nd : rs.Nodup
theorem sgs_len {cs : Cls} (h : ClsOk cs) : (sgs cs).length ≤ 24 := by
  have : ∀ (l : Cls), (∀ p ∈ l, p.2.length ≤ 6) → (sgs l).length ≤ 6 * l.length := by
    intro l
    induction l with
    | nil => intro _; simp [sgs]
    | cons p r ih =>
      intro h
      have h1 := h p List.mem_cons_self
      have h2 := ih fun q hq => h q (List.mem_cons_of_mem _ hq)
      simp [sgs] at h2 ⊢
      omega
  have h1 := this cs fun p hp => (h.sn p hp).2.1
  have := h.hi
  omega
def txs (l : List Tx) : List D := l.map fun n => .str (S n)
def sp_is_name : DSp := fun ds M R => ∃ (d : D) (a : Addr) (ns : List Tx), ds = [d, .ref a] ∧ imm d = true ∧ M a = some (.lst (txs ns)) ∧ R (.bl (match d with | .str x => decide (x.cps.toList ∈ ns) | _ => false)) M
theorem plains_str {α : Type} (f : α → Str) : ∀ l : List α, plains (l.map fun n => .str (f n)) = true
  | [] => rfl
  | x :: l => by simp [plains, plain, plains_str f l]
theorem memD_strs (x : Tx) (l : List Tx) : memD (.str (S x)) (txs l) = decide (x ∈ l) := by
  unfold memD txs
  rw [nks_map, List.any_map]
  simp only [nk, Function.comp_def, NestedKey.text.injEq, S_eq]
  rw [Bool.eq_iff_iff]
  simp
theorem l_is_name : ∀ ds M R, sp_is_name ds M R → R_is_name (topE R) (startD 2 ds) M := by
  rintro _ M R ⟨d, a, ns, rfl, ho, ha, q⟩
  simp [R_is_name, startD, topE, getS, isi_str ho]
  cases d with
  | str x =>
    obtain ⟨x, rfl⟩ := S_of x
    simp [isT, ha, plain, nk, memD_strs]
    exact ⟨plains_str _ _, by simp [NestedKey.depth], .mk (by simpa using q)⟩
  | _ => first | (cases ho; done) | (simp [isT] at q ⊢; exact Dn.mk q)
def sp_signs_of : DSp := fun ds M R => ∃ (cs : Cls) (d : D), ds = [.tup [cD cs, d]] ∧ cs.length ≤ 1000 ∧ (sgs cs).length ≤ 16777216 ∧ R (.str (S (sgs cs))) M
theorem strsOf_S (l : List Tx) : strsOf (txs l) = some (l.map S) := by
  have := strsOf_map (l.map S)
  rwa [List.map_map] at this
theorem atI0 {α : Type} (x : α) (r : List α) : atI (x :: r) 0 = some x := atI_nat (j := 0) rfl
theorem atI1 {α : Type} (x y : α) (r : List α) : atI (x :: y :: r) 1 = some y := atI_nat (j := 1) rfl
theorem atI2 {α : Type} (x y z : α) (r : List α) : atI (x :: y :: z :: r) 2 = some z := atI_nat (j := 2) rfl
theorem S_nil : Str.ofString "" = S [] := by rw [ofString_S]; rfl
theorem sum_len (cs : Cls) : ((cs.map (·.2)).map (·.length)).sum = (sgs cs).length := by simp [sgs, List.length_flatten]
@[simp] theorem szl0 : (0 ≤ sizeLine) = True := by rw [sizeLine_eq]; decide
@[simp] theorem szl1 : (1 ≤ sizeLine) = True := by rw [sizeLine_eq]; decide
@[simp] theorem szl2 : (2 ≤ sizeLine) = True := by rw [sizeLine_eq]; decide
@[simp] theorem szl3 : (3 ≤ sizeLine) = True := by rw [sizeLine_eq]; decide
@[simp] theorem szl4 : (4 ≤ sizeLine) = True := by rw [sizeLine_eq]; decide
@[simp] theorem szl5 : (5 ≤ sizeLine) = True := by rw [sizeLine_eq]; decide
@[simp] theorem szl6 : (6 ≤ sizeLine) = True := by rw [sizeLine_eq]; decide
@[simp] theorem szl7 : (7 ≤ sizeLine) = True := by rw [sizeLine_eq]; decide
@[simp] theorem szl8 : (8 ≤ sizeLine) = True := by rw [sizeLine_eq]; decide
@[simp] theorem szl9 : (9 ≤ sizeLine) = True := by rw [sizeLine_eq]; decide
theorem small1000 {n : Nat} (h : n ≤ 1000) : n ≤ sizeLine := by rw [sizeLine_eq]; omega
theorem l_signs_of : ∀ ds M R, sp_signs_of ds M R → R_signs_of (topE R) (startD 2 ds) M := by
  rintro _ M R ⟨cs, d, rfl, hc, hl, q⟩
  simp [R_signs_of, startD, topE, getS, atI0, cD]
  refine ⟨small1000 hc, lcW_map (fun d => match d with | .tup [_, b] => b | _ => .non) trivial _ _ (fun d hd A a => ?_) fun p hp => ?_⟩
  · obtain ⟨c, hc, rfl⟩ := List.mem_map.mp hd
    simpa [getS, pairD, atI1] using a
  · have e : List.map (fun d : D => match d with | .tup [_, b] => b | _ => D.non) (List.map pairD cs) = txs (cs.map (·.2)) := by
      simp [txs, pairD, Function.comp_def]
    rw [List.nil_append, e]
    simp only [strsOf_S, S_nil, optK_some, join_nil]
    refine ⟨?_, .of (Le.new hp) q⟩
    have := sum_len cs
    simp [Function.comp_def] at this ⊢
    omega
theorem nub_nd : ∀ {l : List NestedKey}, l.Nodup → nub l = l
  | [], _ => rfl
  | k :: l, h => by
    have := List.nodup_cons.mp h
    unfold nub
    rw [nub_nd this.2, if_neg this.1]
theorem nd_map {α β : Type} {f : α → β} (hf : ∀ x y, f x = f y → x = y) : ∀ {l : List α}, l.Nodup → (l.map f).Nodup
  | [], _ => List.nodup_nil
  | x :: l, h => by
    have := List.nodup_cons.mp h
    refine List.nodup_cons.mpr ⟨fun hm => ?_, nd_map hf this.2⟩
    obtain ⟨y, hy, e⟩ := List.mem_map.mp hm
    exact this.1 (hf _ _ e ▸ hy)
theorem lenSet_txs {l : List Tx} {k : Nat → Prop} (hl : l.length < 64) (nd : l.Nodup) (h : k l.length) : lenSetK (txs l) k := by
  refine ⟨plains_str _ _, by have := nub_le (nks (txs l)); rw [nks_length] at this; simp [txs] at this ⊢; omega, .inl fun x hx => ?_, ?_⟩
  · obtain ⟨z, _, rfl⟩ := List.mem_map.mp hx
    exact ⟨_, rfl⟩
  · rw [nks_map, nub_nd]
    · simpa [txs] using h
    · unfold txs
      rw [List.map_map]
      refine nd_map (fun x y e => ?_) nd
      simpa [nk] using e
theorem chars_txs (a : Tx) : chars (S a) = txs (a.map fun c => [c]) := by simp [chars_S, txs, sg]
theorem lenSet_chars {a : Tx} {k : Nat → Prop} (hl : a.length < 64) (nd : a.Nodup) (h : k a.length) : lenSetK (chars (S a)) k := by
  rw [chars_txs]
  exact lenSet_txs (by simpa using hl) (nd_map (fun x y e => by simpa using e) nd) (by simpa using h)
def sp_are_classes : DSp := fun ds M R => ∃ cs : Cls, ds = [cD cs] ∧ ClsOk cs ∧ R (.bl true) M
theorem over_ok {x : Tx} {g : Str} {lo hi : Int} (h1 : lo ≤ x.length) (h2 : (x.length : Int) ≤ hi) (h : ∀ c ∈ x, strIn (sg c) g = true) : overB (.str (S x)) g lo hi = true := by
  simp [overB, h1, h2]
  exact h
theorem l_are_classes : ∀ ds M R, sp_are_classes ds M R → R_are_classes sp_is_over (topE R) (startD 4 ds) M := by
  rintro _ M R ⟨cs, rfl, ok, q⟩
  have h4 := ok.hi
  have h1 := ok.lo
  have hz : cs.length ≤ sizeLine := small1000 (by omega)
  have h1' : (1 : Int) ≤ cs.length := by omega
  have h4' : ¬ (4 : Int) < cs.length := by omega
  simp [R_are_classes, startD, topE, getS, cD, isi_tuple (d := D.tup (cs.map pairD)) rfl, isT, h1', h4']
  refine ⟨hz, lcW_map (fun _ => .bl true) trivial _ _ (fun d hd A a => ?_) fun p hp => ?_⟩
  · obtain ⟨c, hc, rfl⟩ := List.mem_map.mp hd
    simp [getS, pairD, isi_tuple (d := D.tup _) rfl, isT]
    simpa using a
  simp only [List.map_const', List.nil_append]
  refine ⟨by simp [List.mem_replicate], ?_⟩
  rw [if_neg (by simp [List.mem_replicate])]
  refine ⟨hz, lcW_map (fun _ => .bl true) trivial _ _ (fun d hd A a => ?_) fun p2 hp2 => ?_⟩
  · obtain ⟨c, hc, rfl⟩ := List.mem_map.mp hd
    obtain ⟨n1, n2, n3⟩ := ok.nm c hc
    obtain ⟨s1, s2, s3⟩ := ok.sn c hc
    simp [getS, pairD, atI0, atI1]
    refine ⟨_, _, _, _, rfl, rfl, fun x e => ?_, ?_⟩
    · cases e; exact small1000 (by simp; omega)
    · rw [over_ok (by omega) (by omega) n3]
      simp
      refine ⟨_, _, _, _, rfl, rfl, fun x e => ?_, ?_⟩
      · cases e; exact small1000 (by simp; omega)
      · rw [over_ok (by omega) (by omega) s3]
        simpa using a
  simp only [List.map_const', List.nil_append]
  refine ⟨by simp [List.mem_replicate], ?_⟩
  rw [if_neg (by simp [List.mem_replicate])]
  refine ⟨hz, lcW_map (fun d => match d with | .tup [a, _] => a | _ => .non) trivial _ _ (fun d hd A a => ?_) fun p3 hp3 => ?_⟩
  · obtain ⟨c, hc, rfl⟩ := List.mem_map.mp hd
    simpa [getS, pairD, atI0] using a
  have e3 : List.map (fun d : D => match d with | .tup [a, _] => a | _ => D.non) (List.map pairD cs) = txs (nms cs) := by
    simp [txs, pairD, Function.comp_def, nms]
  rw [List.nil_append, e3]
  refine ⟨hz, lcW_map (fun d => match d with | .tup [_, b] => b | _ => .non) trivial _ _ (fun d hd A a => ?_) fun p4 hp4 => ?_⟩
  · obtain ⟨c, hc, rfl⟩ := List.mem_map.mp hd
    simpa [getS, pairD, atI1] using a
  have e4 : List.map (fun d : D => match d with | .tup [_, b] => b | _ => D.non) (List.map pairD cs) = txs (cs.map (·.2)) := by
    simp [txs, pairD, Function.comp_def]
  rw [List.nil_append, e4]
  have hs := sgs_len ok
  have hsum := sum_len cs
  simp only [strsOf_S, S_nil, optK_some, join_nil]
  simp [Function.comp_def] at hsum
  have n34 : p3 ≠ p4 := fun e => by rw [← e, updM_same] at hp4; cases hp4
  have m3 : ∀ (N : DM) (o : DO), updM (updM N p3 (.lst (txs (nms cs)))) p4 o p3 = some (.lst (txs (nms cs))) := fun N o => by rw [updM_ne n34, updM_same]
  refine ⟨by simp [Function.comp_def]; omega, ?_⟩
  rw [lenK_lst (m3 _ _), itK_lst (m3 _ _)]
  have hn : (nms cs).length = cs.length := by simp [nms]
  refine lenSet_txs (by omega) ok.ndn ?_
  rw [show ((txs (nms cs)).length : Int) = ((nms cs).length : Int) by simp [txs], if_pos rfl]
  refine ⟨small1000 (by show (S (sgs cs)).length ≤ _; simp; omega), lenSet_chars (by show (sgs cs).length < 64; omega) ok.nds ?_⟩
  refine .of ((((Le.new hp).trans (Le.new hp2)).trans (Le.new hp3)).trans (Le.new hp4)) ?_
  have : ((S (cs.map (·.2)).flatten).length : Int) = ((cs.map (·.2)).flatten.length : Int) := by rw [S_len]
  rw [this, decide_eq_true rfl]
  exact q
def sp_is_rule : DSp := fun ds M R => ∃ (cs : Cls) (r : Ru) (a : Addr), ds = [rD r, .ref a, .str (S (sgs cs))] ∧ ClsOk cs ∧ M a = some (.lst (txs (nms cs))) ∧ RuOk cs r ∧ R (.bl true) M
theorem cutD1 (x : D) (r : List D) : cutD (x :: r) (some 1) none = r := by
  unfold cutD
  have : HT.sIx (x :: r).length 0 (some 1) = 1 := by
    have := HT.sIx_nat (x :: r).length 0 1
    simp at this
    simpa using this
  rw [this, HT.sIx_none]
  simp
theorem l_is_rule : ∀ ds M R, sp_is_rule ds M R → R_is_rule sp_is_count sp_is_name sp_is_over (topE R) (startD 5 ds) M := by
  rintro _ M R ⟨cs, r, a, rfl, ok, ha, hr, q⟩
  have cnt : ∀ {i lo hi : Int} {Q : D → DM → Prop}, inC i lo hi → Q (.bl true) M → sp_is_count [.int i, .int lo, .int hi] M Q := fun {i lo hi Q} h q => ⟨_, _, _, rfl, rfl, by simpa [cntB, h.1, h.2] using q⟩
  have nam : ∀ {n : Tx} {Q : D → DM → Prop}, n ∈ nms cs → Q (.bl true) M → sp_is_name [.str (S n), .ref a] M Q := fun {n Q} h q => ⟨_, _, _, rfl, rfl, ha, by simpa [h] using q⟩
  cases r with
  | size lo hi =>
    simp -implicitDefEqProofs [R_is_rule, startD, topE, getS, rD, isi_tuple (d := D.tup _) rfl, isT, atI0, atI1, isi_str (d := D.str _) rfl, ofString_inj, cutD1]
    refine cnt hr.1 ?_
    cases hi with
    | none => simp [oiD]; exact Dn.mk q
    | some h => simp [oiD]; exact cnt (hr.2 h rfl) (Dn.mk q)
  | least n k =>
    simp -implicitDefEqProofs [R_is_rule, startD, topE, getS, rD, isi_tuple (d := D.tup _) rfl, isT, atI0, atI1, isi_str (d := D.str _) rfl, ofString_inj, cutD1, memD, plain, plains, nk, nks, NestedKey.depth]
    exact nam hr.1 (cnt hr.2 (Dn.mk q))
  | most n k =>
    simp -implicitDefEqProofs [R_is_rule, startD, topE, getS, rD, isi_tuple (d := D.tup _) rfl, isT, atI0, atI1, isi_str (d := D.str _) rfl, ofString_inj, cutD1, memD, plain, plains, nk, nks, NestedKey.depth]
    exact nam hr.1 (cnt hr.2 (Dn.mk q))
  | kinds k =>
    simp -implicitDefEqProofs [R_is_rule, startD, topE, getS, rD, isi_tuple (d := D.tup _) rfl, isT, atI0, atI1, isi_str (d := D.str _) rfl, ofString_inj, cutD1, memD, plain, plains, nk, nks, NestedKey.depth]
    exact cnt hr (Dn.mk q)
  | run k =>
    simp -implicitDefEqProofs [R_is_rule, startD, topE, getS, rD, isi_tuple (d := D.tup _) rfl, isT, atI0, atI1, isi_str (d := D.str _) rfl, ofString_inj, cutD1, memD, plain, plains, nk, nks, NestedKey.depth]
    exact cnt hr (Dn.mk q)
  | row k =>
    simp -implicitDefEqProofs [R_is_rule, startD, topE, getS, rD, isi_tuple (d := D.tup _) rfl, isT, atI0, atI1, isi_str (d := D.str _) rfl, ofString_inj, cutD1, memD, plain, plains, nk, nks, NestedKey.depth]
    exact cnt hr (Dn.mk q)
  | nt t =>
    simp -implicitDefEqProofs [R_is_rule, startD, topE, getS, rD, isi_tuple (d := D.tup _) rfl, isT, atI0, atI1, isi_str (d := D.str _) rfl, ofString_inj, cutD1, memD, plain, plains, nk, nks, NestedKey.depth]
    refine ⟨_, _, _, _, rfl, rfl, fun x e => ?_, ?_⟩
    · cases e; exact small1000 (by have := hr.2.1; simp; omega)
    · rw [over_ok (by have := hr.1; omega) (by have := hr.2.1; omega) fun c hc => by simpa using hr.2.2 c hc]
      exact Dn.mk q
  | first n =>
    simp -implicitDefEqProofs [R_is_rule, startD, topE, getS, rD, isi_tuple (d := D.tup _) rfl, isT, atI0, atI1, isi_str (d := D.str _) rfl, ofString_inj, cutD1, memD, plain, plains, nk, nks, NestedKey.depth]
    exact nam hr (Dn.mk q)
  | last n =>
    simp -implicitDefEqProofs [R_is_rule, startD, topE, getS, rD, isi_tuple (d := D.tup _) rfl, isT, atI0, atI1, isi_str (d := D.str _) rfl, ofString_inj, cutD1, memD, plain, plains, nk, nks, NestedKey.depth]
    exact nam hr (Dn.mk q)
def sp_is_policy : DSp := fun ds M R => ∃ (cs : Cls) (rs : List Ru), ds = [pD cs rs] ∧ PolOk cs rs ∧ R (.bl true) M
theorem rD_plain (r : Ru) : plain (rD r) = true := by
  cases r <;> first | rfl | (rename_i lo hi; cases hi <;> rfl)
theorem rD_tup (r : Ru) : ∃ ts, rD r = .tup ts := by cases r <;> exact ⟨_, rfl⟩
theorem rD_depth (r : Ru) : (nk (rD r)).depth ≤ 8 := by
  cases r <;> first | (show 1 ≤ 8; decide) | (rename_i lo hi; cases hi <;> (show 1 ≤ 8; decide))
theorem rD_inj {r r' : Ru} (h : nk (rD r) = nk (rD r')) : r = r' := by
  cases r <;> cases r' <;> simp -implicitDefEqProofs [rD, nk, nks, ofString_inj] at h ⊢
  all_goals first | exact h | skip
  rename_i a b c d
  obtain ⟨rfl, h⟩ := h
  cases b <;> cases d <;> simp [oiD, nk] at h ⊢
  exact h
theorem plains_rs : ∀ rs : List Ru, plains (rs.map rD) = true
  | [] => rfl
  | r :: rs => by simp [plains, rD_plain r, plains_rs rs]
theorem l_is_policy : ∀ ds M R, sp_is_policy ds M R → R_is_policy sp_are_classes sp_is_rule sp_signs_of (topE R) (startD 5 ds) M := by
  rintro _ M R ⟨cs, rs, rfl, ok, q⟩
  have hz : cs.length ≤ sizeLine := small1000 (by have := ok.c.hi; omega)
  have h6 := ok.few
  have h6' : ¬ (6 : Int) < rs.length := by omega
  simp -implicitDefEqProofs [R_is_policy, startD, topE, getS, pD, isi_tuple (d := D.tup _) rfl, isT, atI0, atI1]
  refine ⟨cs, rfl, ok.c, ?_⟩
  simp -implicitDefEqProofs [h6']
  simp -implicitDefEqProofs only [cD, itK_tup, List.length_map]
  refine ⟨hz, lcW_map (fun d => match d with | .tup [a, _] => a | _ => .non) trivial _ _ (fun d hd A a => ?_) fun p hp => ?_⟩
  · obtain ⟨c, hc, rfl⟩ := List.mem_map.mp hd
    simpa [getS, pairD, atI0] using a
  have e3 : List.map (fun d : D => match d with | .tup [a, _] => a | _ => D.non) (List.map pairD cs) = txs (nms cs) := by
    simp [txs, pairD, Function.comp_def, nms]
  rw [List.nil_append, e3]
  have hs := sgs_len ok.c
  refine ⟨small1000 (by omega), lcW_map (fun _ => .bl true) trivial _ _ (fun d hd A a => ?_) fun p2 hp2 => ?_⟩
  · obtain ⟨r, hr, rfl⟩ := List.mem_map.mp hd
    simp -implicitDefEqProofs [getS]
    refine ⟨cs, .tup (rs.map rD), rfl, by have := ok.c.hi; omega, by omega, cs, r, p, rfl, ok.c, by rw [updM_same], ok.r r hr, ?_⟩
    exact a
  simp only [List.map_const', List.nil_append]
  refine ⟨by simp [List.mem_replicate], ?_⟩
  rw [if_neg (by simp [List.mem_replicate])]
  have hnd : ((rs.map rD).map nk).Nodup := by
    rw [List.map_map]
    exact nd_map (fun x y e => rD_inj e) ok.nd
  refine ⟨plains_rs _, by have := nub_le (nks (rs.map rD)); rw [nks_length] at this; simp at this ⊢; omega, .inr ⟨by simp; omega, fun x hx => ?_⟩, ?_⟩
  · obtain ⟨r, hr, rfl⟩ := List.mem_map.mp hx
    exact ⟨rD_tup r, rD_depth r⟩
  · rw [nks_map, nub_nd hnd]
    refine .of ((Le.new hp).trans (Le.new hp2)) ?_
    simpa using q
def sp_need_policy : DSp := fun ds M R => ∃ (cs : Cls) (rs : List Ru), ds = [pD cs rs] ∧ PolOk cs rs ∧ R .non M
theorem l_need_policy : ∀ ds M R, sp_need_policy ds M R → R_need_policy sp_is_policy (topE R) (startD 1 ds) M := by
  rintro _ M R ⟨cs, rs, rfl, ok, q⟩
  simp -implicitDefEqProofs [R_need_policy, startD, topE, getS]
  exact ⟨cs, rs, rfl, ok, by simp; exact Dn.mk q⟩
def sp_need_string : DSp := fun ds M R => ∃ (cs : Cls) (rs : List Ru) (t : Tx), ds = [pD cs rs, .str (S t)] ∧ ClsOk cs ∧ t.length ≤ 20 ∧ (∀ c ∈ t, c ∈ sgs cs) ∧ R .non M
theorem l_need_string : ∀ ds M R, sp_need_string ds M R → R_need_string sp_is_over sp_signs_of (topE R) (startD 2 ds) M := by
  rintro _ M R ⟨cs, rs, t, rfl, ok, ht, hc, q⟩
  have hs := sgs_len ok
  simp -implicitDefEqProofs [R_need_string, startD, topE, getS]
  refine ⟨cs, .tup (rs.map rD), rfl, by have := ok.hi; omega, by omega, ?_⟩
  refine ⟨_, _, _, _, rfl, rfl, fun x e => ?_, ?_⟩
  · cases e; exact small1000 (by simp; omega)
  · rw [over_ok (by omega) (by omega) fun c h => by simpa using hc c h]
    simp
    exact Dn.mk q
def sp_characters : DSp := fun ds M R => ∃ (cs : Cls) (rs : List Ru), ds = [pD cs rs] ∧ PolOk cs rs ∧ R (.str (S (sgs cs))) M
theorem l_characters : ∀ ds M R, sp_characters ds M R → R_characters sp_need_policy sp_signs_of (topE R) (startD 1 ds) M := by
  rintro _ M R ⟨cs, rs, rfl, ok, q⟩
  have hs := sgs_len ok.c
  simp -implicitDefEqProofs [R_characters, startD, topE, getS]
  exact ⟨cs, rs, rfl, ok, cs, .tup (rs.map rD), rfl, by have := ok.c.hi; omega, by omega, Dn.mk q⟩
end DL

set_option Elab.async false
set_option linter.all false
set_option maxRecDepth 100000
namespace DL
open PySem PySem.Spec PyProof.Rows L2
inductive One where
  | i (n : Int) | t (ns : List Tx) | p (s : Tx) (n : Int) | s (x : Tx)
  deriving DecidableEq
def oD : One → D
  | .i n => .int n
  | .t ns => .tup (txs ns)
  | .p x n => .tup [.str (S x), .int n]
  | .s x => .str (S x)
def oneD : Option One → D
  | none => .non
  | some o => oD o
def cnt (many most : Int) (b : Bool) : Option One := if many ≤ most then some (.i many) else if b then none else some (.i most)
def sp_Machine_counted : DSp := fun ds M R => ∃ d many most b, ds = [d, .int many, .int most, .bl b] ∧ R (oneD (cnt many most b)) M
theorem l_counted : ∀ ds M R, sp_Machine_counted ds M R → R_Machine_counted (topE R) (startD 4 ds) M := by
  rintro _ M R ⟨d, many, most, b, rfl, q⟩
  simp -implicitDefEqProofs [R_Machine_counted, startD, topE, getS]
  by_cases h : many ≤ most
  · simp [cnt, h, oneD, oD] at q ⊢
    exact Dn.mk q
  · cases b <;> simp [cnt, h, oneD, oD] at q ⊢ <;> exact Dn.mk q
/-- the longest end of e that begins t -/
def trim (t : Tx) : Tx → Tx
  | [] => []
  | c :: r => if t.take (c :: r).length = c :: r then c :: r else trim t r
theorem trim_le (t : Tx) : ∀ e, (trim t e).length ≤ e.length
  | [] => Nat.le_refl _
  | c :: r => by
    unfold trim
    split
    · exact Nat.le_refl _
    · have := trim_le t r
      simp; omega
def endsB (e t : Tx) : Bool := decide (t.length ≤ e.length ∧ e.drop (e.length - t.length) = t)
def um (t e : Tx) : Option One := if endsB e t then none else some (.s (trim t e))
def sp_Machine_unmatched : DSp := fun ds M R => ∃ d t e, ds = [d, .str (S t), .str (S e)] ∧ e.length ≤ 1000 ∧ R (oneD (um t e)) M
theorem l_unmatched : ∀ ds M R, sp_Machine_unmatched ds M R → R_Machine_unmatched (topE R) (startD 3 ds) M := by
  rintro _ M R ⟨d, t, e, rfl, he, q⟩
  simp -implicitDefEqProofs [R_Machine_unmatched, startD, topE, getS, str2M, arg1, ends_S]
  by_cases h : endsB e t = true
  · have h' := of_decide_eq_true h
    simp [um, h, oneD] at q
    rw [if_pos h']
    exact Dn.mk q
  · have h' : ¬ (t.length ≤ e.length ∧ e.drop (e.length - t.length) = t) := fun x => h (decide_eq_true x)
    simp [um, h, oneD, oD] at q
    rw [if_neg h']
    have : ∀ (e : Tx), e.length ≤ 1000 → R (.str (S (trim t e))) M → ∃ n, whW (dNot (dTru (dBM "str" (str2M fun a b => .bl (Txt.startswith a b)) (dVar 1) (daCons (dVar 2) daNil)))) (dSet 2 (dSl (dVar 2) (dPart (dC (.int 1))) dNoPart)) { nx := fun ds M1 => dRet (dVar 2) (topE R) ds M1, rt := fun d M => Dn R d M, bk := fun _ _ => False, ct := fun _ _ => False } n [some d, some (.str (S t)), some (.str (S e))] M := by
      intro e
      induction e with
      | nil =>
        intro _ q
        refine ⟨1, ?_⟩
        rw [whW_s]
        simp -implicitDefEqProofs [topE, getS, str2M, arg1, starts_S]
        exact Dn.mk q
      | cons c r ih =>
        intro he q
        unfold trim at q
        by_cases h : t.take (c :: r).length = c :: r
        · refine ⟨1, ?_⟩
          rw [if_pos h] at q
          rw [whW_s]
          simp -implicitDefEqProofs [topE, getS, str2M, arg1, starts_S]
          simp at h
          rw [if_pos h]
          exact Dn.mk q
        · rw [if_neg h] at q
          obtain ⟨n, hn⟩ := ih (by simp at he; omega) q
          refine ⟨n + 1, ?_⟩
          rw [whW_s]
          simp -implicitDefEqProofs [topE, getS, str2M, arg1, starts_S]
          simp at h
          rw [if_neg h]
          have := cut_from (c :: r) 1
          simp at this
          refine ⟨small1000 (by simpa using he), ?_⟩
          rw [this]
          simpa [topE] using hn
    exact this e he q
def kp : Ru → One → Bool
  | .size lo _, .i n => decide (lo ≤ n)
  | .least _ k, .i n => decide (k ≤ n)
  | .kinds k, .t ns => decide (k ≤ ns.length)
  | .first nm, .s x => decide (x = nm)
  | .last nm, .s x => decide (x = nm)
  | _, _ => true
/-- the kind of state that a rule has -/
def OneOk (cs : Cls) : Ru → One → Prop
  | .size _ _, .i _ => True
  | .least _ _, .i _ => True
  | .most _ _, .i _ => True
  | .kinds _, .t ns => ns.length ≤ cs.length ∧ ns.Nodup ∧ ∀ n ∈ ns, n ∈ nms cs
  | .run _, .p s _ => s = [] ∨ ∃ c ∈ sgs cs, s = [c]
  | .row _, .p s _ => s = [] ∨ ∃ c ∈ sgs cs, s = [c]
  | .nt _, .s x => x.length ≤ 5
  | .first _, .s x => x = [] ∨ x ∈ nms cs
  | .last _, .s x => x = [] ∨ x ∈ nms cs
  | _, _ => False
def sp_Machine_keeps : DSp := fun ds M R => ∃ d cs r o, ds = [d, rD r, oD o] ∧ OneOk cs r o ∧ R (.bl (kp r o)) M
theorem l_keeps : ∀ ds M R, sp_Machine_keeps ds M R → R_Machine_keeps (topE R) (startD 4 ds) M := by
  rintro _ M R ⟨d, cs, r, o, rfl, ok, q⟩
  cases r <;> cases o <;> simp only [OneOk] at ok <;> simp -implicitDefEqProofs [R_Machine_keeps, startD, topE, getS, rD, oD, atI0, atI1, atI2, ofString_inj, memD, plain, plains, nk, nks, NestedKey.depth, txs] <;> simp [kp] at q <;> exact Dn.mk q
def ownT (cs : Cls) (c : Nat) : Tx := match cs.find? fun p => decide (c ∈ p.2) with
  | some p => p.1
  | none => []
/-- the sign behind c in c's class -/
def behind : Tx → Nat → Option Nat
  | a :: b :: r, c => if a = c then some b else behind (b :: r) c
  | _, _ => none
def fol (cs : Cls) (c : Nat) : Option Nat := match cs.find? fun p => decide (c ∈ p.2) with
  | some p => behind p.2 c
  | none => none
def srt (l : List Tx) : List Tx := ((l.map S).foldr insT []).map fun x => x.cps.toList
def mv (cs : Cls) : Ru → One → Nat → Option One
  | .size lo hi, .i n, _ => cnt (n + 1) (hi.getD lo) hi.isSome
  | .least nm k, .i n, c => cnt (n + if ownT cs c = nm then 1 else 0) k false
  | .most nm k, .i n, c => cnt (n + if ownT cs c = nm then 1 else 0) k true
  | .kinds _, .t ns, c => some (.t (if ownT cs c ∈ ns then ns else srt (ns ++ [ownT cs c])))
  | .run k, .p s n, c => let m := if s = [c] then n + 1 else 1; if m ≤ k then some (.p [c] m) else none
  | .row k, .p s n, c => let m := if s.head?.bind (fol cs) = some c then n + 1 else 1; if m ≤ k then some (.p [c] m) else none
  | .nt t, .s x, c => um t (x ++ [c])
  | .first nm, .s x, c => if x ≠ [] then some (.s x) else if ownT cs c = nm then some (.s (ownT cs c)) else none
  | .last _, .s _, c => some (.s (ownT cs c))
  | _, _, _ => none
def NamesOk (cs : Cls) (nd : List (Str × D)) : Prop := ∀ c ∈ sgs cs, getA nd (sg c) = some (.str (S (ownT cs c)))
def FolOk (cs : Cls) (fd : List (Str × D)) : Prop := ∀ c ∈ sgs cs, getA fd (sg c) = (fol cs c).map fun b => .str (sg b)
def mflds (rs : List Ru) (cs : Cls) (n f : Addr) (st : D) (k : Addr) : List (Str × D) :=
  [(Str.ofString "rules", .tup (rs.map rD)), (Str.ofString "signs", .str (S (sgs cs))), (Str.ofString "names", .ref n), (Str.ofString "followers", .ref f), (Str.ofString "start", st), (Str.ofString "known", .ref k)]
def start1 : Ru → One
  | .size _ _ => .i 0
  | .least _ _ => .i 0
  | .most _ _ => .i 0
  | .kinds _ => .t []
  | .run _ => .p [] 0
  | .row _ => .p [] 0
  | _ => .s []
structure Mach (C p : Addr) (cs : Cls) (rs : List Ru) (k : Addr) (M : DM) : Prop where
  ex : ∃ n f nd fd, M p = some (.ins C (mflds rs cs n f (.tup (rs.map fun r => oD (start1 r))) k)) ∧ M n = some (.dS nd) ∧ M f = some (.dS fd) ∧ NamesOk cs nd ∧ FolOk cs fd
theorem Mach.le {C p : Addr} {cs : Cls} {rs : List Ru} {k : Addr} {M M' : DM} (m : Mach C p cs rs k M) (l : Le M M') : Mach C p cs rs k M' := by
  obtain ⟨n, f, nd, fd, h1, h2, h3, h4, h5⟩ := m.ex
  exact ⟨n, f, nd, fd, l _ _ h1, l _ _ h2, l _ _ h3, h4, h5⟩
def sp_Machine_moved (C : Addr) : DSp := fun ds M R => ∃ p cs rs k r o c, ds = [.ref p, rD r, oD o, .str (sg c)] ∧ ClsOk cs ∧ Mach C p cs rs k M ∧ OneOk cs r o ∧ c ∈ sgs cs ∧ R (oneD (mv cs r o c)) M
theorem lk_names {rs cs n f st k} : List.lookup (Str.ofString "names") (mflds rs cs n f st k) = some (.ref n) := by simp [mflds, List.lookup, ofString_inj, beq_iff_eq, BEq.beq]
theorem lk_fol {rs cs n f st k} : List.lookup (Str.ofString "followers") (mflds rs cs n f st k) = some (.ref f) := by simp [mflds, List.lookup, ofString_inj, BEq.beq]
theorem lk_rules {rs cs n f st k} : List.lookup (Str.ofString "rules") (mflds rs cs n f st k) = some (.tup (rs.map rD)) := by simp [mflds, List.lookup, ofString_inj, BEq.beq]
theorem lk_start {rs cs n f st k} : List.lookup (Str.ofString "start") (mflds rs cs n f st k) = some st := by simp [mflds, List.lookup, ofString_inj, BEq.beq]
theorem lk_known {rs cs n f st k} : List.lookup (Str.ofString "known") (mflds rs cs n f st k) = some (.ref k) := by simp [mflds, List.lookup, ofString_inj, BEq.beq]
theorem lk_counted {rs cs n f st k} : (List.lookup (Str.ofString "counted") (mflds rs cs n f st k) = none) = True := by simp [mflds, ofString_inj]
theorem lk_unmatched {rs cs n f st k} : (List.lookup (Str.ofString "unmatched") (mflds rs cs n f st k) = none) = True := by simp [mflds, ofString_inj]
theorem lk_moved {rs cs n f st k} : (List.lookup (Str.ofString "moved") (mflds rs cs n f st k) = none) = True := by simp [mflds, ofString_inj]
theorem lk_step {rs cs n f st k} : (List.lookup (Str.ofString "step") (mflds rs cs n f st k) = none) = True := by simp [mflds, ofString_inj]
theorem lk_fine {rs cs n f st k} : (List.lookup (Str.ofString "fine") (mflds rs cs n f st k) = none) = True := by simp [mflds, ofString_inj]
theorem lk_after {rs cs n f st k} : (List.lookup (Str.ofString "after") (mflds rs cs n f st k) = none) = True := by simp [mflds, ofString_inj]
theorem lk_keeps_ {rs cs n f st k} : (List.lookup (Str.ofString "keeps") (mflds rs cs n f st k) = none) = True := by simp [mflds, ofString_inj]
theorem mem_nks_txs (x : Tx) (l : List Tx) : (NestedKey.text (S x) ∈ nks (txs l)) = (x ∈ l) := by
  rw [nks_map]
  unfold txs
  simp [nk]
theorem txs_app (l m : List Tx) : txs l ++ txs m = txs (l ++ m) := by simp [txs]
theorem srt_txs (l : List Tx) : ((l.map S).foldr insT []).map D.str = txs (srt l) := by
  simp [txs, srt, Function.comp_def, SX.S_tl]
theorem l_moved (C : Addr) : ∀ ds M R, sp_Machine_moved C ds M R → R_Machine_moved C sp_Machine_counted sp_Machine_unmatched (topE R) (startD 7 ds) M := by
  rintro _ M R ⟨p, cs, rs, k, r, o, c, rfl, ok, m, oo, hc, q⟩
  obtain ⟨n, f, nd, fd, h1, h2, h3, h4, h5⟩ := m.ex
  have h4 := h4 c hc
  have h5' := fun c' => h5 c'
  cases r <;> cases o <;> simp only [OneOk] at oo <;> simp -implicitDefEqProofs [R_Machine_moved, startD, topE, getS, rD, oD, atI0, atI1, atI2, ofString_inj, memD, plain, plains, nk, nks, NestedKey.depth, h1, h2, h3, h4, lk_names, lk_fol, lk_counted, lk_unmatched, mem_nks_txs, S_nil, -List.lookup_eq_none_iff, -oD]
  case size.i lo hi i =>
    cases hi with
    | none => simp [oiD]; exact ⟨_, _, _, _, rfl, Dn.mk (by simpa [mv] using q)⟩
    | some h => simp [oiD]; exact ⟨_, _, _, _, rfl, Dn.mk (by simpa [mv] using q)⟩
  case least.i nm l i =>
    by_cases h : ownT cs c = nm
    · rw [if_pos h]; exact ⟨_, _, _, _, rfl, Dn.mk (by simpa [mv, h] using q)⟩
    · rw [if_neg h]; exact ⟨_, _, _, _, rfl, Dn.mk (by simpa [mv, h] using q)⟩
  case most.i nm l i =>
    by_cases h : ownT cs c = nm
    · rw [if_pos h]; exact ⟨_, _, _, _, rfl, Dn.mk (by simpa [mv, h] using q)⟩
    · rw [if_neg h]; exact ⟨_, _, _, _, rfl, Dn.mk (by simpa [mv, h] using q)⟩
  case kinds.t l ns =>
    refine ⟨plains_str _ _, ?_⟩
    by_cases h : ownT cs c ∈ ns
    · rw [if_pos h]; exact Dn.mk (by simpa [mv, h, oneD, oD] using q)
    · rw [if_neg h]
      have hz := ok.hi
      have h8 := oo.1
      have e : txs ns ++ [D.str (S (ownT cs c))] = txs (ns ++ [ownT cs c]) := txs_app ns [ownT cs c]
      simp -implicitDefEqProofs only [sortB, arg1_eq]
      rw [e, strsOf_S]
      simp -implicitDefEqProofs only [optK_some, srt_txs]
      refine ⟨small1000 (by simp [txs]; omega), by simp; omega, fun p' hp' => ?_⟩
      simp -implicitDefEqProofs
      exact Dn.of (Le.new hp') (by simpa [mv, h, oneD, oD] using q)
  case run.p l x i =>
    by_cases h : x = [c]
    · rw [if_pos h]
      by_cases h' : i + 1 ≤ l
      · rw [if_pos h']; exact Dn.mk (by simpa [mv, h, h', oneD, oD] using q)
      · rw [if_neg h']; exact Dn.mk (by simpa [mv, h, h', oneD, oD] using q)
    · rw [if_neg h]
      by_cases h' : 1 ≤ l
      · rw [if_pos h']; exact Dn.mk (by simpa [mv, h, h', oneD, oD] using q)
      · rw [if_neg h']; exact Dn.mk (by simpa [mv, h, h', oneD, oD] using q)
  case row.p l x i =>
    have hb : ∀ (b : Bool), b = decide (x.head?.bind (fol cs) = some c) → (if b = true then if i + 1 ≤ l then Dn R (D.tup [D.str (sg c), D.int (i + 1)]) M else Dn R D.non M else if 1 ≤ l then Dn R (D.tup [D.str (sg c), D.int 1]) M else Dn R D.non M) := by
      rintro b rfl
      by_cases h : x.head?.bind (fol cs) = some c
      · by_cases h' : i + 1 ≤ l
        · simp [h, h']; exact Dn.mk (by simpa [mv, h, h', oneD, oD] using q)
        · simp [h, h']; exact Dn.mk (by simpa [mv, h, h', oneD, oD] using q)
      · by_cases h' : 1 ≤ l
        · simp [h, h']; exact Dn.mk (by simpa [mv, h, h', oneD, oD] using q)
        · simp [h, h']; exact Dn.mk (by simpa [mv, h, h', oneD, oD] using q)
    by_cases hx : x = []
    · rw [if_pos hx]
      subst hx
      have := hb false (by simp)
      simpa using this
    · rw [if_neg hx]
      obtain ⟨c', hc', rfl⟩ := oo.resolve_left hx
      have e := h5 c' hc'
      refine ⟨tyK_dS h3 ▸ rfl, ?_⟩
      have e' : getA fd (S [c']) = _ := e
      rw [e']
      cases hf : fol cs c' with
      | none =>
        simp -implicitDefEqProofs [eqD, plain, nk, NestedKey.depth]
        have := hb false (by simp [hf])
        simpa using this
      | some b =>
        simp -implicitDefEqProofs
        have := hb (decide (b = c)) (by simp [hf])
        by_cases hbc : b = c <;> simpa [hbc] using this
  case nt.s t x =>
    refine ⟨small1000 (by omega), _, _, _, rfl, by simp; omega, Dn.mk (by simpa [mv] using q)⟩
  case first.s nm x =>
    by_cases hx : x = []
    · rw [if_pos hx]
      by_cases h : ownT cs c = nm
      · rw [if_pos h]; exact Dn.mk (by simpa [mv, h, hx, oneD, oD] using q)
      · rw [if_neg h]; exact Dn.mk (by simpa [mv, h, hx, oneD, oD] using q)
    · rw [if_neg hx]; exact Dn.mk (by simpa [mv, hx, oneD, oD] using q)
  case last.s nm x => exact Dn.mk (by simpa [mv, oneD, oD] using q)
end DL

set_option Elab.async false
set_option linter.all false
set_option maxRecDepth 100000
namespace DL
open PySem PySem.Spec PyProof.Rows L2
theorem srt_perm (l : List Tx) : (srt l).Perm l := by
  unfold srt
  have h := (foldr_insT_perm (l.map S)).map fun x => x.cps.toList
  rw [List.map_map] at h
  have e : ((fun x : Str => x.cps.toList) ∘ S) = fun x => x := by funext x; simp
  rwa [e, List.map_id'] at h
theorem nodup_len {α : Type} [DecidableEq α] : ∀ {l m : List α}, l.Nodup → (∀ x ∈ l, x ∈ m) → l.length ≤ m.length
  | [], m, _, _ => Nat.zero_le _
  | x :: l, m, h, s => by
    have hx := List.nodup_cons.mp h
    have : l.length ≤ (m.erase x).length := nodup_len hx.2 fun y hy => by
      have hne : y ≠ x := fun e => hx.1 (e ▸ hy)
      exact (List.mem_erase_of_ne hne).mpr (s y (List.mem_cons_of_mem _ hy))
    have e := List.length_erase_of_mem (s x List.mem_cons_self)
    have : 0 < m.length := List.length_pos_of_mem (s x List.mem_cons_self)
    simp; omega
theorem own_mem {cs : Cls} {c : Nat} (h : c ∈ sgs cs) : ownT cs c ∈ nms cs := by
  unfold ownT
  cases e : cs.find? fun p => decide (c ∈ p.2) with
  | some p => exact List.mem_map.mpr ⟨p, List.mem_of_find?_eq_some e, rfl⟩
  | none =>
    obtain ⟨l, hl, hc⟩ := List.mem_flatten.mp h
    obtain ⟨p, hp, rfl⟩ := List.mem_map.mp hl
    have := List.find?_eq_none.mp e p hp
    simp [hc] at this
theorem trim_take (t : Tx) : ∀ e, trim t e = t.take (trim t e).length
  | [] => by simp [trim]
  | c :: r => by
    unfold trim
    split
    · rename_i h; exact h.symm
    · exact trim_take t r
theorem start_ok1 {cs : Cls} (r : Ru) : OneOk cs r (start1 r) := by
  cases r <;> simp [start1, OneOk]
theorem cnt_i {a b : Int} {c : Bool} {o : One} (h : cnt a b c = some o) : ∃ i, o = .i i := by
  unfold cnt at h
  split at h
  · exact ⟨_, (Option.some.inj h).symm⟩
  · split at h
    · cases h
    · exact ⟨_, (Option.some.inj h).symm⟩
theorem ite_p {m k : Int} {c : Nat} {o : One} (h : (if m ≤ k then some (One.p [c] m) else none) = some o) : ∃ m, o = .p [c] m := by
  split at h
  · exact ⟨_, (Option.some.inj h).symm⟩
  · cases h
theorem mv_ok {cs : Cls} {r : Ru} {o o' : One} {c : Nat} (hr : RuOk cs r) (ho : OneOk cs r o) (hc : c ∈ sgs cs) (h : mv cs r o c = some o') : OneOk cs r o' := by
  cases r <;> cases o <;> simp only [OneOk] at ho <;> simp only [mv] at h
  case size.i lo hi i => obtain ⟨j, rfl⟩ := cnt_i h; trivial
  case least.i => obtain ⟨j, rfl⟩ := cnt_i h; trivial
  case most.i => obtain ⟨j, rfl⟩ := cnt_i h; trivial
  case kinds.t k ns =>
    cases h
    by_cases hm : ownT cs c ∈ ns
    · rw [if_pos hm]; exact ho
    · rw [if_neg hm]
      have p := srt_perm (ns ++ [ownT cs c])
      have nd : (srt (ns ++ [ownT cs c])).Nodup := p.nodup_iff.mpr (List.nodup_append.mpr ⟨ho.2.1, by simp, fun a ha b hb e => hm (by simp at hb; rw [← hb, ← e]; exact ha)⟩)
      have sub : ∀ n ∈ srt (ns ++ [ownT cs c]), n ∈ nms cs := fun n hn => by
        have := p.mem_iff.mp hn
        simp at this
        rcases this with h | h
        · exact ho.2.2 n h
        · rw [h]; exact own_mem hc
      exact ⟨by have := nodup_len nd sub; simpa [nms] using this, nd, sub⟩
  case run.p k x i => obtain ⟨j, rfl⟩ := ite_p h; exact .inr ⟨c, hc, rfl⟩
  case row.p k x i => obtain ⟨j, rfl⟩ := ite_p h; exact .inr ⟨c, hc, rfl⟩
  case nt.s t x =>
    unfold um at h
    split at h
    · cases h
    · cases h
      have e := congrArg List.length (trim_take t (x ++ [c]))
      rw [List.length_take] at e
      have := hr.2.1
      show (trim t (x ++ [c])).length ≤ 5
      omega
  case first.s nm x =>
    split at h
    · cases h; exact ho
    · split at h
      · cases h; exact .inr (own_mem hc)
      · cases h
  case last.s nm x => cases h; exact .inr (own_mem hc)
/-- the state of a machine: none, or one state a rule -/
abbrev St1 := Option (List One)
def stD : St1 → D
  | none => .non
  | some os => .tup (os.map oD)
def mvs (cs : Cls) : List Ru → List One → Nat → List (Option One)
  | r :: rs, o :: os, c => mv cs r o c :: mvs cs rs os c
  | _, _, _ => []
def allSome : List (Option One) → St1
  | [] => some []
  | none :: _ => none
  | some o :: r => (allSome r).map (o :: ·)
def stp (cs : Cls) (rs : List Ru) (st : St1) (c : Nat) : St1 := st.bind fun os => allSome (mvs cs rs os c)
def OsOk (cs : Cls) : List Ru → List One → Prop
  | [], [] => True
  | r :: rs, o :: os => OneOk cs r o ∧ OsOk cs rs os
  | _, _ => False
def StOk (cs : Cls) (rs : List Ru) : St1 → Prop
  | none => True
  | some os => OsOk cs rs os
theorem mvs_ok {cs : Cls} {c : Nat} (hc : c ∈ sgs cs) : ∀ {rs : List Ru} {os : List One}, (∀ r ∈ rs, RuOk cs r) → OsOk cs rs os → StOk cs rs (allSome (mvs cs rs os c))
  | [], [], _, _ => by simp [mvs, allSome, StOk, OsOk]
  | r :: rs, o :: os, hr, ho => by
    have ih := mvs_ok hc (rs := rs) (os := os) (fun x hx => hr x (List.mem_cons_of_mem _ hx)) ho.2
    simp only [mvs]
    cases e : mv cs r o c with
    | none => simp [allSome, StOk]
    | some o' =>
      simp only [allSome]
      cases e2 : allSome (mvs cs rs os c) with
      | none => simp [StOk]
      | some os' =>
        rw [e2] at ih
        exact ⟨mv_ok (hr r List.mem_cons_self) ho.1 hc e, ih⟩
theorem stp_ok {cs : Cls} {c : Nat} (hc : c ∈ sgs cs) {rs : List Ru} {st : St1} (hr : ∀ r ∈ rs, RuOk cs r) (h : StOk cs rs st) : StOk cs rs (stp cs rs st c) := by
  cases st with
  | none => trivial
  | some os => exact mvs_ok hc hr h
theorem OsOk.len {cs : Cls} : ∀ {rs : List Ru} {os : List One}, OsOk cs rs os → os.length = rs.length
  | [], [], _ => rfl
  | _ :: _, _ :: _, h => by simp [OsOk.len h.2]
theorem starts_ok {cs : Cls} : ∀ rs : List Ru, OsOk cs rs (rs.map start1)
  | [] => trivial
  | r :: rs => ⟨start_ok1 r, starts_ok rs⟩
theorem oD_plain : ∀ o : One, plain (oD o) = true
  | .i _ => rfl
  | .t ns => by simp [oD, plain]; exact plains_str _ _
  | .p _ _ => rfl
  | .s _ => rfl
theorem plains_os : ∀ os : List One, plains (os.map oD) = true
  | [] => rfl
  | o :: os => by simp [plains, oD_plain o, plains_os os]
theorem nks_txs (l : List Tx) : nks (txs l) = l.map fun x => NestedKey.text (S x) := by
  rw [nks_map, txs, List.map_map]
  simp [Function.comp_def, nk]
theorem map_text_inj : ∀ {l m : List Tx}, l.map (fun x => NestedKey.text (S x)) = m.map (fun x => NestedKey.text (S x)) → l = m
  | [], [], _ => rfl
  | [], _ :: _, h => by simp at h
  | _ :: _, [], h => by simp at h
  | x :: l, y :: m, h => by
    simp at h
    rw [h.1, map_text_inj (l := l) (m := m) (by simpa using h.2)]
theorem oD_inj {a b : One} (h : nk (oD a) = nk (oD b)) : a = b := by
  cases a <;> cases b <;> simp [oD, nk, nks, nks_txs] at h ⊢
  case i.i => exact h
  case t.t => exact map_text_inj (by simpa using h)
  case t.p l x n =>
    match l, h with
    | [], h => simp at h
    | [_], h => simp at h
    | [_, _], h => simp at h
    | _ :: _ :: _ :: _, h => simp at h
  case p.t x n l =>
    match l, h with
    | [], h => simp at h
    | [_], h => simp at h
    | [_, _], h => simp at h
    | _ :: _ :: _ :: _, h => simp at h
  case p.p => exact h
  case s.s => exact h
theorem os_inj : ∀ {a b : List One}, nks (a.map oD) = nks (b.map oD) → a = b
  | [], [], _ => rfl
  | [], _ :: _, h => by simp at h
  | _ :: _, [], h => by simp at h
  | x :: l, y :: m, h => by
    simp at h
    rw [oD_inj h.1, os_inj (a := l) (b := m) h.2]
/-- what a machine has met -/
def keyS (os : List One) (c : Nat) : NestedKey := nk (.tup [.tup (os.map oD), .str (sg c)])
theorem keyS_inj {os os' : List One} {c c' : Nat} (h : keyS os c = keyS os' c') : os = os' ∧ c = c' := by
  simp [keyS, nk, nks] at h
  exact ⟨os_inj h.1, by simpa [sg] using h.2⟩
def runS (cs : Cls) (rs : List Ru) (t : Tx) : St1 := t.foldl (stp cs rs) (some (rs.map start1))
/-- a state that some text leads to -/
def Rch (cs : Cls) (rs : List Ru) (os : List One) : Prop := ∃ t : Tx, (∀ c ∈ t, c ∈ sgs cs) ∧ runS cs rs t = some os
def StR (cs : Cls) (rs : List Ru) (st : St1) : Prop := ∀ os, st = some os → Rch cs rs os
def Few (cs : Cls) (rs : List Ru) : Prop := ∀ l : List (List One × Nat), l.Nodup → (∀ x ∈ l, Rch cs rs x.1 ∧ x.2 ∈ sgs cs) → l.length ≤ sizeLine
theorem StR.start {cs : Cls} {rs : List Ru} : StR cs rs (some (rs.map start1)) := fun os e => ⟨[], by simp, by simpa [runS] using e⟩
theorem StR.step {cs : Cls} {rs : List Ru} {st : St1} {c : Nat} (h : StR cs rs st) (hc : c ∈ sgs cs) : StR cs rs (stp cs rs st c) := fun os e => by
  cases st with
  | none => cases e
  | some os0 =>
    obtain ⟨t, h1, h2⟩ := h os0 rfl
    refine ⟨t ++ [c], fun x hx => ?_, ?_⟩
    · rcases List.mem_append.mp hx with a | a
      · exact h1 x a
      · simp at a; rw [a]; exact hc
    · unfold runS at h2 ⊢
      rw [List.foldl_append, h2]
      exact e
theorem StR.run {cs : Cls} {rs : List Ru} : ∀ {t : Tx} {st : St1}, StR cs rs st → (∀ c ∈ t, c ∈ sgs cs) → StR cs rs (t.foldl (stp cs rs) st)
  | [], st, h, _ => h
  | c :: t, st, h, hc => StR.run (t := t) (h.step (hc c List.mem_cons_self)) fun x hx => hc x (List.mem_cons_of_mem _ hx)
theorem run_ok {cs : Cls} {rs : List Ru} (hr : ∀ r ∈ rs, RuOk cs r) : ∀ (t : Tx) (st : St1), (∀ c ∈ t, c ∈ sgs cs) → StOk cs rs st → StOk cs rs (t.foldl (stp cs rs) st)
  | [], st, _, h => h
  | c :: t, st, hc, h => run_ok hr t _ (fun x hx => hc x (List.mem_cons_of_mem _ hx)) (stp_ok (hc c List.mem_cons_self) hr h)
theorem StR.ok {cs : Cls} {rs : List Ru} {st : St1} (hr : ∀ r ∈ rs, RuOk cs r) (h : StR cs rs st) : StOk cs rs st := by
  cases st with
  | none => trivial
  | some os =>
    obtain ⟨t, h1, h2⟩ := h os rfl
    rw [← h2]
    exact run_ok hr t _ h1 (starts_ok rs)
structure KnOk (cs : Cls) (rs : List Ru) (kn : List (NestedKey × D)) : Prop where
  val : ∀ os c d, getA kn (keyS os c) = some d → d = stD (stp cs rs (some os) c)
  nd : (kn.map (·.1)).Nodup
  ks : ∀ k ∈ kn.map (·.1), ∃ os c, k = keyS os c ∧ Rch cs rs os ∧ c ∈ sgs cs
theorem KnOk.nil {cs : Cls} {rs : List Ru} : KnOk cs rs [] := ⟨fun os c d e => by simp [getA] at e, List.nodup_nil, by simp⟩
theorem putA_keys {kvs : List (NestedKey × D)} {k : NestedKey} {d : D} : ∀ x ∈ (putA kvs k d).map (·.1), x = k ∨ x ∈ kvs.map (·.1) := fun x hx => by
  unfold putA at hx
  split at hx
  · rw [mapA_keys] at hx; exact .inr hx
  · rw [List.map_append] at hx
    rcases List.mem_append.mp hx with a | a
    · exact .inr a
    · simp at a; exact .inl a
theorem KnOk.put {cs : Cls} {rs : List Ru} {kn : List (NestedKey × D)} (h : KnOk cs rs kn) {os : List One} {c : Nat} (ho : Rch cs rs os) (hc : c ∈ sgs cs) : KnOk cs rs (putA kn (keyS os c) (stD (stp cs rs (some os) c))) := by
  refine ⟨fun os' c' d e => ?_, putA_nodup h.nd _ _, fun k hk => ?_⟩
  · rw [getA_put] at e
    by_cases hk : keyS os' c' = keyS os c
    · rw [if_pos hk] at e
      obtain ⟨rfl, rfl⟩ := keyS_inj hk
      exact (Option.some.inj e).symm
    · rw [if_neg hk] at e
      exact h.val os' c' d e
  · rcases putA_keys k hk with e | e
    · exact ⟨os, c, e, ho, hc⟩
    · exact h.ks k e
theorem keys_list {cs : Cls} {rs : List Ru} : ∀ ks : List NestedKey, (∀ k ∈ ks, ∃ os c, k = keyS os c ∧ Rch cs rs os ∧ c ∈ sgs cs) → ∃ l : List (List One × Nat), l.map (fun x => keyS x.1 x.2) = ks ∧ ∀ x ∈ l, Rch cs rs x.1 ∧ x.2 ∈ sgs cs
  | [], _ => ⟨[], rfl, by simp⟩
  | k :: ks, h => by
    obtain ⟨l, h1, h2⟩ := keys_list ks fun x hx => h x (List.mem_cons_of_mem _ hx)
    obtain ⟨os, c, e, a, b⟩ := h k List.mem_cons_self
    refine ⟨(os, c) :: l, by simp [h1, e], fun x hx => ?_⟩
    rcases List.mem_cons.mp hx with rfl | hx
    · exact ⟨a, b⟩
    · exact h2 x hx
theorem nodup_of_map {α β : Type} {f : α → β} : ∀ {l : List α}, (l.map f).Nodup → l.Nodup
  | [], _ => List.nodup_nil
  | x :: l, h => by
    rw [List.map_cons, List.nodup_cons] at h
    exact List.nodup_cons.mpr ⟨fun hx => h.1 (List.mem_map.mpr ⟨x, hx, rfl⟩), nodup_of_map h.2⟩
theorem KnOk.room {cs : Cls} {rs : List Ru} {kn : List (NestedKey × D)} (h : KnOk cs rs kn) (fw : Few cs rs) {os : List One} {c : Nat} (ho : Rch cs rs os) (hc : c ∈ sgs cs) (e : getA kn (keyS os c) = none) : kn.length < sizeLine := by
  obtain ⟨l, h1, h2⟩ := keys_list (cs := cs) (rs := rs) (keyS os c :: kn.map (·.1)) fun k hk => by
    rcases List.mem_cons.mp hk with rfl | hk
    · exact ⟨os, c, rfl, ho, hc⟩
    · exact h.ks k hk
  have nd : (keyS os c :: kn.map (·.1)).Nodup := List.nodup_cons.mpr ⟨fun hm => (by
    have := (getA_mem (keyS os c) kn).mpr hm
    rw [e] at this
    simp at this), h.nd⟩
  have := fw l (nodup_of_map (h1 ▸ nd)) h2
  have e2 := congrArg List.length h1
  simp at e2
  omega
theorem depth_oD (o : One) : (nk (oD o)).depth ≤ 1 := by
  cases o with
  | t l =>
    simp only [oD, nk, nks_txs, NestedKey.depth]
    have : ∀ l : List Tx, NestedKey.depthAll (l.map fun x => NestedKey.text (S x)) = 0 := by
      intro l
      induction l with
      | nil => rfl
      | cons x l ih => simp only [List.map_cons, NestedKey.depthAll, NestedKey.depth, ih]; rfl
    rw [this]
    exact Nat.le_refl _
  | _ => simp [oD, nk, nks, NestedKey.depth, NestedKey.depthAll]
theorem depth_os : ∀ os : List One, NestedKey.depthAll (nks (os.map oD)) ≤ 1
  | [] => by simp [nks, NestedKey.depthAll]
  | o :: os => by
    have h1 := depth_oD o
    have h2 := depth_os os
    simp only [List.map_cons, nks, NestedKey.depthAll]
    omega
theorem key_txs (l : List Tx) : keysD (nks (txs l)) = txs l := by
  induction l with
  | nil => rfl
  | cons x l ih => simp only [txs, List.map_cons, nks, nk, keysD, keyD] at ih ⊢; rw [ih]
theorem key_oD (o : One) : keyD (nk (oD o)) = oD o := by
  cases o with
  | t l => simp only [oD, nk, keyD, key_txs]
  | _ => rfl
theorem key_os (os : List One) : keysD (nks (os.map oD)) = os.map oD := by
  induction os with
  | nil => rfl
  | cons o os ih => simp only [List.map_cons, nks, keysD, key_oD, ih]
end DL

set_option Elab.async false
set_option linter.all false
set_option maxRecDepth 100000
namespace DL
open PySem PySem.Spec PyProof.Rows L2
theorem ne_of {M : DM} {a b : Addr} {o u : DO} (h : M a = some o) (h' : M b = some u) (n : o ≠ u) : a ≠ b := fun e => by
  rw [e, h'] at h
  exact n (Option.some.inj h).symm
theorem ne_free {M : DM} {a b : Addr} {o : DO} (h : M a = some o) (h' : M b = none) : a ≠ b := fun e => by rw [e, h'] at h; cases h
theorem Mach.upd {C p k : Addr} {cs : Cls} {rs : List Ru} {M : DM} {kn kn' : List (NestedKey × D)} (m : Mach C p cs rs k M) (hk : M k = some (.dT kn)) : Mach C p cs rs k (updM M k (.dT kn')) := by
  obtain ⟨n, f, nd, fd, h1, h2, h3, h4, h5⟩ := m.ex
  exact ⟨n, f, nd, fd, by rw [updM_ne (ne_of h1 hk (by intro h; cases h))]; exact h1, by rw [updM_ne (ne_of h2 hk (by intro h; cases h))]; exact h2, by rw [updM_ne (ne_of h3 hk (by intro h; cases h))]; exact h3, h4, h5⟩
theorem all_none (l : List (Option One)) : (allSome l = none) ↔ none ∈ l := by
  induction l with
  | nil => simp [allSome]
  | cons x l ih =>
    cases x with
    | none => simp [allSome]
    | some o => simp [allSome, ih]
theorem all_some {l : List (Option One)} {os : List One} (h : allSome l = some os) : l = os.map some := by
  induction l generalizing os with
  | nil => simp [allSome] at h; subst h; rfl
  | cons x l ih =>
    cases x with
    | none => simp [allSome] at h
    | some o =>
      simp [allSome] at h
      obtain ⟨os', h1, rfl⟩ := h
      simp [ih h1]
theorem nk_one_none (o : Option One) : (nk (oneD o) = .none) ↔ o = none := by
  cases o with
  | none => simp [oneD, nk]
  | some o => cases o <;> simp [oneD, oD, nk]
theorem oneD_plain (o : Option One) : plain (oneD o) = true := by
  cases o with
  | none => rfl
  | some o => exact oD_plain o
theorem plains_one : ∀ l : List (Option One), plains (l.map oneD) = true
  | [] => rfl
  | o :: os => by simp [plains, oneD_plain o, plains_one os]
theorem mem_none (l : List (Option One)) : memD .non (l.map oneD) = true ↔ none ∈ l := by
  unfold memD
  rw [nks_map, List.map_map, List.any_map]
  simp [nk]
  constructor
  · rintro ⟨x, hx, e⟩; rw [(nk_one_none x).mp (of_decide_eq_true e)] at hx; exact hx
  · intro h; exact ⟨none, h, decide_eq_true ((nk_one_none none).mpr rfl)⟩
theorem zip_mem {cs : Cls} : ∀ {rs : List Ru} {os : List One}, OsOk cs rs os → ∀ d ∈ zipD (rs.map rD) (os.map oD), ∃ r o, d = .tup [rD r, oD o] ∧ OneOk cs r o ∧ r ∈ rs
  | [], [], _, d, h => by simp [zipD] at h
  | r :: rs, o :: os, ok, d, h => by
    simp [zipD] at h
    rcases h with rfl | h
    · exact ⟨r, o, rfl, ok.1, List.mem_cons_self⟩
    · obtain ⟨r', o', e, h1, h2⟩ := zip_mem ok.2 d h
      exact ⟨r', o', e, h1, List.mem_cons_of_mem _ h2⟩
/-- a comprehension over the rules and the states -/
theorem lcW_zip {cs : Cls} {g : DG} {te : DE} {ds : DSt} {M : DM} {chk : DM → Prop} {Q : List D → DM → Prop} (F : Ru → One → D) (hc : chk M) : ∀ {rs : List Ru} {os : List One} (acc : List D), OsOk cs rs os →
    (∀ r o, OneOk cs r o → ∀ (A : D → DM → Prop), A (F r o) M → g (.tup [rD r, oD o]) ds M fun ds1 M1 => te ds1 M1 A) → Q (acc ++ List.zipWith F rs os) M → lcW chk g dYes te ds (zipD (rs.map rD) (os.map oD)) acc M Q
  | [], [], acc, _, _, q => ⟨hc, by simpa using q⟩
  | r :: rs, o :: os, acc, ok, h, q => by
    refine ⟨hc, h r o ok.1 _ ?_⟩
    exact lcW_zip F hc (acc ++ [F r o]) ok.2 h (by simpa using q)
theorem mvs_zip (cs : Cls) (c : Nat) : ∀ (rs : List Ru) (os : List One), (mvs cs rs os c).map oneD = List.zipWith (fun r o => oneD (mv cs r o c)) rs os
  | [], _ => by simp [mvs]
  | _ :: _, [] => by simp [mvs]
  | r :: rs, o :: os => by simp [mvs, mvs_zip cs c rs os]
/-- a machine at p whose rules are rs; what it knows of steps lies at k -/
structure MK (C p : Addr) (cs : Cls) (rs : List Ru) (k : Addr) (M : DM) : Prop where
  m : Mach C p cs rs k M
  kn : ∃ kn, M k = some (.dT kn) ∧ KnOk cs rs kn
  c : ClsOk cs
  r : ∀ r ∈ rs, RuOk cs r
  len : rs.length ≤ 1000
  few : Few cs rs
def Off (k : Addr) (M M' : DM) : Prop := ∀ b, b ≠ k → M' b = M b
theorem Off.refl (k : Addr) (M : DM) : Off k M M := fun _ _ => rfl
theorem Off.trans {k : Addr} {M M1 M2 : DM} (a : Off k M M1) (b : Off k M1 M2) : Off k M M2 := fun x h => (b x h).trans (a x h)
theorem Off.upd {k : Addr} {M : DM} {o : DO} : Off k M (updM M k o) := fun b h => updM_ne h
/-- N knows all that M knows, but for k -/
def Kp (k : Addr) (M N : DM) : Prop := ∀ b o, b ≠ k → M b = some o → N b = some o
theorem Kp.refl (k : Addr) (M : DM) : Kp k M M := fun _ _ _ h => h
theorem Kp.trans {k : Addr} {M M1 M2 : DM} (a : Kp k M M1) (b : Kp k M1 M2) : Kp k M M2 := fun x o h e => b x o h (a x o h e)
theorem Kp.off {k : Addr} {M N N' : DM} (a : Kp k M N) (b : Off k N N') : Kp k M N' := fun x o h e => (b x h).trans (a x o h e)
theorem Kp.new {k p : Addr} {M N : DM} {o : DO} (a : Kp k M N) (h : N p = none) : Kp k M (updM N p o) := fun x u hx e => by
  rw [updM_ne (ne_free (a x u hx e) h)]; exact a x u hx e
/-- what M does not know may change -/
theorem Kp.put {k p : Addr} {M N : DM} {o : DO} (a : Kp k M N) (h : M p = none) : Kp k M (updM N p o) := fun x u hx e => by
  rw [updM_ne (ne_free e h)]; exact a x u hx e
theorem Off.kp {k : Addr} {M N : DM} (a : Off k M N) : Kp k M N := fun x o h e => (a x h).trans e
theorem MK.upd {C p k : Addr} {cs : Cls} {rs : List Ru} {M : DM} {kn : List (NestedKey × D)} (m : MK C p cs rs k M) (hk : KnOk cs rs kn) : MK C p cs rs k (updM M k (.dT kn)) := by
  obtain ⟨kn0, h0, _⟩ := m.kn
  exact ⟨m.m.upd h0, ⟨kn, updM_same, hk⟩, m.c, m.r, m.len, m.few⟩
theorem MK.new {C p k a : Addr} {cs : Cls} {rs : List Ru} {M : DM} {o : DO} (m : MK C p cs rs k M) (h : M a = none) : MK C p cs rs k (updM M a o) := by
  obtain ⟨kn, hk, ok⟩ := m.kn
  exact ⟨m.m.le (Le.new h), ⟨kn, Le.new h _ _ hk, ok⟩, m.c, m.r, m.len, m.few⟩
/-- the machine does not know of an object that is no part of it -/
theorem Mach.parts {C p k : Addr} {cs : Cls} {rs : List Ru} {M : DM} (m : Mach C p cs rs k M) {a : Addr} {l : DO} (ha : M a = some l) (hl : (∀ C fs, l ≠ .ins C fs) ∧ ∀ d, l ≠ .dS d) {N : DM} (h : ∀ b, b ≠ a → N b = M b) : Mach C p cs rs k N := by
  obtain ⟨n, f, nd, fd, h1, h2, h3, h4, h5⟩ := m.ex
  exact ⟨n, f, nd, fd, by rw [h p (ne_of h1 ha (Ne.symm (hl.1 _ _)))]; exact h1, by rw [h n (ne_of h2 ha (Ne.symm (hl.2 _)))]; exact h2, by rw [h f (ne_of h3 ha (Ne.symm (hl.2 _)))]; exact h3, h4, h5⟩
theorem MK.put {C p k a : Addr} {cs : Cls} {rs : List Ru} {M : DM} {l o : DO} (m : MK C p cs rs k M) (ha : M a = some l) (hk : a ≠ k) (hl : (∀ C fs, l ≠ .ins C fs) ∧ ∀ d, l ≠ .dS d) : MK C p cs rs k (updM M a o) := by
  obtain ⟨kn, h1, ok⟩ := m.kn
  exact ⟨m.m.parts ha hl fun b hb => updM_ne hb, ⟨kn, by rw [updM_ne (Ne.symm hk)]; exact h1, ok⟩, m.c, m.r, m.len, m.few⟩
theorem MK.kp {C p k : Addr} {cs : Cls} {rs : List Ru} {M N : DM} (m : MK C p cs rs k M) (h : Kp k M N) (kn : ∃ kn, N k = some (.dT kn) ∧ KnOk cs rs kn) : MK C p cs rs k N := by
  obtain ⟨kn0, h0, _⟩ := m.kn
  obtain ⟨n, f, nd, fd, h1, h2, h3, h4, h5⟩ := m.m.ex
  exact ⟨⟨n, f, nd, fd, h _ _ (ne_of h1 h0 (by intro z; cases z)) h1, h _ _ (ne_of h2 h0 (by intro z; cases z)) h2, h _ _ (ne_of h3 h0 (by intro z; cases z)) h3, h4, h5⟩, kn, m.c, m.r, m.len, m.few⟩
/-- behind a def: what was made is forgotten, what the machine learnt is not -/
theorem MK.dn {C p k : Addr} {cs : Cls} {rs : List Ru} {M N : DM} {R : D → DM → Prop} {d : D} (m : MK C p cs rs k M) (h : Kp k M N) (n : MK C p cs rs k N) (q : ∀ M', Off k M M' → MK C p cs rs k M' → R d M') : Dn R d N := by
  obtain ⟨kn, hk, ok⟩ := n.kn
  refine ⟨updM M k (.dT kn), fun a o e => ?_, q _ Off.upd (m.upd ok)⟩
  by_cases ha : a = k
  · subst ha; rw [updM_same] at e; cases e; exact hk
  · rw [updM_ne ha] at e; exact h a o ha e
def sp_Machine_step (C : Addr) : DSp := fun ds M R => ∃ p cs rs k st c, ds = [.ref p, stD st, .str (sg c)] ∧ MK C p cs rs k M ∧ StR cs rs st ∧ c ∈ sgs cs ∧
  ∀ M', Off k M M' → MK C p cs rs k M' → R (stD (stp cs rs st c)) M'
theorem l_step (C : Addr) : ∀ ds M R, sp_Machine_step C ds M R → R_Machine_step C (sp_Machine_moved C) (topE R) (startD 6 ds) M := by
  rintro _ M R ⟨p, cs, rs, k, st, c, rfl, mk, hstr, hc, q⟩
  obtain ⟨kn, hk, hkn⟩ := mk.kn
  have m := mk.m
  have ok := mk.c
  have hr := mk.r
  have hz := mk.len
  have hst := hstr.ok hr
  obtain ⟨n, f, nd, fd, h1, h2, h3, h4, h5⟩ := m.ex
  cases st with
  | none =>
    simp -implicitDefEqProofs [R_Machine_step, startD, topE, getS, stD]
    exact Dn.mk (q M (Off.refl k M) mk)
  | some os =>
    have hrch := hstr os rfl
    have ko : keyOk [D.tup (os.map oD), D.str (sg c)] := ⟨by simp [plains, plain, plains_os], by
      have := depth_os os
      simp only [nk, nks, NestedKey.depth, NestedKey.depthAll]
      omega⟩
    have kk : keyD (nk (.tup [D.tup (os.map oD), D.str (sg c)])) = .tup [D.tup (os.map oD), D.str (sg c)] := by
      simp only [nk, nks, keyD, keysD, key_os]
    have hp1 := h1
    have kS : nk (.tup [D.tup (os.map oD), D.str (sg c)]) = keyS os c := rfl
    simp -implicitDefEqProofs [R_Machine_step, startD, topE, getS, stD, h1, hk, lk_known, lk_rules, -nk_tup, ko, kk, kS, -List.lookup_eq_none_iff]
    cases e : getA kn (keyS os c) with
    | some d =>
      simp
      have hd := hkn.val os c d e
      subst hd
      exact Dn.mk (q M (Off.refl k M) mk)
    | none =>
      have hlen : kn.length < sizeLine := hkn.room mk.few hrch hc e
      simp -implicitDefEqProofs only [Option.isSome_none, Bool.false_eq_true, ↓reduceIte]
      have hos : OsOk cs rs os := hst
      refine ⟨by rw [zipD_len]; exact small1000 (by simp; omega), lcW_zip (fun r o => oneD (mv cs r o c)) trivial [] hos (fun r o h1 A a => ?_) ?_⟩
      · simp -implicitDefEqProofs only [dgTup_eq, tupK, List.length_cons, List.length_nil, dgCons_eq, dgName_eq, dgNil_eq, List.set_cons_succ, List.set_cons_zero, dMeth_eq, dVar_eq, getS, dVarK, refK_ref, hp1, insK_ins, lk_moved, true_and, daCons_eq, daNil_eq]
        exact ⟨p, cs, rs, k, r, o, c, rfl, ok, m, h1, hc, a⟩
      · rw [List.nil_append, ← mvs_zip]
        intro x hx
        have hpx : p ≠ x := ne_free h1 hx
        have hkx : k ≠ x := ne_free hk hx
        have hpk : p ≠ k := ne_of h1 hk (by intro h; cases h)
        refine ⟨plains_one _, by simp [NestedKey.depth], ?_⟩
        have fin : ∀ d, d = stD (stp cs rs (some os) c) → (insK (updM M x (DO.lst ((mvs cs rs os c).map oneD)) p) fun C' fs => C' = C ∧ optK (List.lookup (Str.ofString "known") fs) fun d' =>
            setD d' (D.tup [D.tup (List.map oD os), D.str (sg c)]) d (updM M x (DO.lst ((mvs cs rs os c).map oneD))) fun M3 => insK (M3 p) fun C' fs => C' = C ∧ optK (List.lookup (Str.ofString "known") fs) fun d' =>
              getD d' (D.tup [D.tup (List.map oD os), D.str (sg c)]) M3 fun d M => Dn R d M) := by
          rintro d rfl
          rw [updM_ne hpx, h1]
          simp -implicitDefEqProofs only [insK_ins, lk_known, optK_some, setD_rt, true_and, kS]
          rw [updM_ne hkx, hk]
          simp -implicitDefEqProofs only [dTK_dT, kk, kS]
          refine ⟨ko, by rw [← kS]; exact kk, hlen, ?_⟩
          rw [updM_ne hpk, updM_ne hpx, h1]
          simp -implicitDefEqProofs only [insK_ins, lk_known, optK_some, getD_rt, true_and, kS, updM_same, dTK_dT]
          refine ⟨ko, ?_⟩
          rw [getA_put, if_pos rfl]
          exact .of (Le.mono (Le.new hx)) (q _ Off.upd (mk.upd (hkn.put hrch hc)))
        by_cases hm : none ∈ mvs cs rs os c
        · rw [if_pos ((mem_none _).mpr hm)]
          exact fin _ (by simp [stp, (all_none _).mpr hm, stD])
        · rw [if_neg (fun z => hm ((mem_none _).mp z))]
          cases e2 : allSome (mvs cs rs os c) with
          | none => exact absurd ((all_none _).mp e2) hm
          | some os' =>
            refine fin _ ?_
            rw [all_some e2]
            simp [stp, e2, stD, Function.comp_def, oneD]
/-- whether a state may end -/
def kps : List Ru → List One → Bool
  | r :: rs, o :: os => kp r o && kps rs os
  | _, _ => true
def fineB (rs : List Ru) : St1 → Bool
  | none => false
  | some os => kps rs os
theorem kps_zip : ∀ (rs : List Ru) (os : List One), (List.zipWith (fun r o => D.bl (kp r o)) rs os).all truB = kps rs os
  | [], _ => by simp [kps]
  | _ :: _, [] => by simp [kps]
  | r :: rs, o :: os => by simp [kps, kps_zip rs os]
theorem zip_bl : ∀ (rs : List Ru) (os : List One), (List.zipWith (fun r o => D.bl (kp r o)) rs os).all isBl = true
  | [], _ => by simp
  | _ :: _, [] => by simp
  | r :: rs, o :: os => by simp only [List.zipWith_cons_cons, List.all_cons, isBl_bl, zip_bl rs os, Bool.and_self]
def sp_Machine_fine (C : Addr) : DSp := fun ds M R => ∃ p cs rs k st, ds = [.ref p, stD st] ∧ MK C p cs rs k M ∧ StR cs rs st ∧ R (.bl (fineB rs st)) M
theorem l_fine (C : Addr) : ∀ ds M R, sp_Machine_fine C ds M R → R_Machine_fine C sp_Machine_keeps (topE R) (startD 4 ds) M := by
  rintro _ M R ⟨p, cs, rs, k, st, rfl, mk, hstr, q⟩
  have m := mk.m
  have hz := mk.len
  have hst := hstr.ok mk.r
  obtain ⟨n, f, nd, fd, h1, h2, h3, h4, h5⟩ := m.ex
  cases st with
  | none =>
    simp -implicitDefEqProofs [R_Machine_fine, startD, topE, getS, stD]
    exact Dn.mk q
  | some os =>
    have hos : OsOk cs rs os := hst
    simp -implicitDefEqProofs [R_Machine_fine, startD, topE, getS, stD, h1, lk_rules, -List.all_eq_true]
    refine ⟨by rw [zipD_len]; exact small1000 (by simp; omega), lcW_zip (fun r o => .bl (kp r o)) trivial [] hos (fun r o h A a => ?_) fun x hx => ?_⟩
    · simp -implicitDefEqProofs only [dgTup_eq, tupK, List.length_cons, List.length_nil, dgCons_eq, dgName_eq, dgNil_eq, List.set_cons_succ, List.set_cons_zero, dMeth_eq, dVar_eq, getS, dVarK, refK_ref, h1, insK_ins, lk_keeps_, true_and, daCons_eq, daNil_eq]
      exact ⟨.ref p, cs, r, o, rfl, h, a⟩
    · rw [List.nil_append]
      refine ⟨zip_bl _ _, .of (Le.new hx) ?_⟩
      rw [kps_zip]
      exact q
def sp_Machine_after (C : Addr) : DSp := fun ds M R => ∃ p cs rs k t, ds = [.ref p, .str (S t)] ∧ MK C p cs rs k M ∧ (∀ c ∈ t, c ∈ sgs cs) ∧
  ∀ M', Off k M M' → MK C p cs rs k M' → R (stD (runS cs rs t)) M'
theorem l_after (C : Addr) : ∀ ds M R, sp_Machine_after C ds M R → R_Machine_after C (sp_Machine_step C) (topE R) (startD 4 ds) M := by
  rintro _ M R ⟨p, cs, rs, k, t, rfl, mk, hc, q⟩
  obtain ⟨n, f, nd, fd, h1, h2, h3, h4, h5⟩ := mk.m.ex
  simp -implicitDefEqProofs [R_Machine_after, startD, topE, getS, h1, lk_start, chars_S]
  have e0 : D.tup (rs.map fun r => oD (start1 r)) = stD (some (rs.map start1)) := by simp [stD, Function.comp_def]
  rw [e0]
  have main : ∀ (t : Tx) (st : St1) (x : Option D) (S0 : D) (N : DM), MK C p cs rs k N → StR cs rs st → (∀ c ∈ t, c ∈ sgs cs) →
      (∀ N', Off k N N' → MK C p cs rs k N' → R (stD (t.foldl (stp cs rs) st)) N') →
      forW (fun _ => True) (dgName 3) (dSet 2 (dMeth C (Str.ofString "step") (sp_Machine_step C) (dVar 0) (daCons (dVar 2) (daCons (dVar 3) daNil))))
        { nx := fun ds M => dRet (dVar 2) (topE R) ds M, rt := fun d M => Dn R d M, bk := fun _ _ => False, ct := fun _ _ => False } (t.map fun c => .str (sg c)) [some (.ref p), some S0, some (stD st), x] N := by
    intro t
    induction t with
    | nil =>
      intro st x S0 N mk hst hc q
      rw [List.map_nil, forW_nil]
      refine ⟨trivial, ?_⟩
      simp -implicitDefEqProofs [getS, topE]
      exact Dn.mk (q N (Off.refl k N) mk)
    | cons c t ih =>
      intro st x S0 N mk hst hc q
      obtain ⟨n, f, nd, fd, h1, h2, h3, h4, h5⟩ := mk.m.ex
      rw [List.map_cons, forW_cons]
      refine ⟨trivial, ?_⟩
      simp -implicitDefEqProofs [getS, h1, lk_step, -List.lookup_eq_none_iff]
      have hcm := hc c List.mem_cons_self
      refine ⟨p, cs, rs, k, st, c, rfl, mk, hst, hcm, fun N' o' m' => ?_⟩
      exact ih (stp cs rs st c) _ S0 _ m' (hst.step hcm) (fun y hy => hc y (List.mem_cons_of_mem _ hy)) fun N2 o2 m2 => q N2 (o'.trans o2) m2
  exact main t (some (rs.map start1)) none (.str (S t)) M mk StR.start hc q
end DL

set_option Elab.async false
set_option linter.all false
set_option maxRecDepth 100000
namespace DL
open PySem PySem.Spec PyProof.Rows L2
/-! ### few states: by the product over the rules -/
def lup (nm : List Tx) : Nat → List (List Tx)
  | 0 => [[]]
  | n + 1 => [] :: (lup nm n).flatMap fun l => nm.map (· :: l)
theorem lup_mem {nm : List Tx} : ∀ {n : Nat} {l : List Tx}, l.length ≤ n → (∀ x ∈ l, x ∈ nm) → l ∈ lup nm n
  | 0, l, h, _ => by simp [lup]; exact List.length_eq_zero_iff.mp (by omega)
  | n + 1, [], _, _ => by simp [lup]
  | n + 1, x :: l, h, hm => by
    refine List.mem_cons_of_mem _ (List.mem_flatMap.mpr ⟨l, lup_mem (by simpa using h) fun y hy => hm y (List.mem_cons_of_mem _ hy), ?_⟩)
    exact List.mem_map.mpr ⟨x, hm x List.mem_cons_self, rfl⟩
theorem lup_len {nm : List Tx} (h : nm.length ≤ 4) : (lup nm 4).length ≤ 341 := by
  have f : ∀ (n : Nat), (lup nm (n + 1)).length = 1 + (lup nm n).length * nm.length := fun n => by
    simp only [lup, List.length_cons, List.length_flatMap, List.length_map]
    have : ∀ l : List (List Tx), (l.map fun _ => nm.length).sum = l.length * nm.length := by
      intro l
      induction l with
      | nil => simp
      | cons x l ih => simp [ih, Nat.add_mul]; omega
    rw [this]; omega
  have g : ∀ a b : Nat, a ≤ b → 1 + a * nm.length ≤ 1 + b * 4 := fun a b hab => Nat.add_le_add_left (Nat.mul_le_mul hab h) 1
  rw [f 3]
  refine Nat.le_trans (g _ 85 ?_) (by decide)
  rw [f 2]
  refine Nat.le_trans (g _ 21 ?_) (by decide)
  rw [f 1]
  refine Nat.le_trans (g _ 5 ?_) (by decide)
  rw [f 0]
  exact Nat.le_trans (g _ 1 (by simp [lup])) (by decide)
def intsU (n : Nat) : List One := (List.range (n + 1)).map fun (i : Nat) => .i (i : Int)
def runU (cs : Cls) : List One := ([] :: (sgs cs).map fun c => [c]).flatMap fun s => (List.range 5).map fun (i : Nat) => .p s (i : Int)
def univ (cs : Cls) : Ru → List One
  | .size _ _ => intsU 12
  | .least _ _ => intsU 4
  | .most _ _ => intsU 4
  | .kinds _ => (lup (nms cs) 4).map .t
  | .run _ => runU cs
  | .row _ => runU cs
  | .nt t => (List.range 6).map fun i => .s (t.take i)
  | .first _ => .s [] :: (nms cs).map .s
  | .last _ => .s [] :: (nms cs).map .s
theorem intsU_mem {n : Nat} {i : Int} (h0 : 0 ≤ i) (h1 : i ≤ n) : One.i i ∈ intsU n := List.mem_map.mpr ⟨i.toNat, List.mem_range.mpr (by omega), by rw [Int.toNat_of_nonneg h0]⟩
theorem intsU_of {n : Nat} {o : One} (h : o ∈ intsU n) : ∃ i, o = .i i ∧ 0 ≤ i ∧ i ≤ n := by
  obtain ⟨j, hj, rfl⟩ := List.mem_map.mp h
  have := List.mem_range.mp hj
  exact ⟨j, rfl, by omega, by omega⟩
theorem runU_mem {cs : Cls} {s : Tx} {i : Int} (hs : s = [] ∨ ∃ c ∈ sgs cs, s = [c]) (h0 : 0 ≤ i) (h1 : i ≤ 4) : One.p s i ∈ runU cs := by
  refine List.mem_flatMap.mpr ⟨s, ?_, List.mem_map.mpr ⟨i.toNat, List.mem_range.mpr (by omega), by rw [Int.toNat_of_nonneg h0]⟩⟩
  rcases hs with rfl | ⟨c, hc, rfl⟩
  · exact List.mem_cons_self
  · exact List.mem_cons_of_mem _ (List.mem_map.mpr ⟨c, hc, rfl⟩)
theorem runU_of {cs : Cls} {o : One} (h : o ∈ runU cs) : ∃ s i, o = .p s i ∧ 0 ≤ i ∧ i ≤ 4 := by
  obtain ⟨s, hs, h⟩ := List.mem_flatMap.mp h
  obtain ⟨j, hj, rfl⟩ := List.mem_map.mp h
  have := List.mem_range.mp hj
  exact ⟨s, j, rfl, by omega, by omega⟩
theorem start_univ {cs : Cls} (r : Ru) : start1 r ∈ univ cs r := by
  cases r with
  | size lo hi => exact intsU_mem (by omega) (by omega)
  | least n k => exact intsU_mem (by omega) (by omega)
  | most n k => exact intsU_mem (by omega) (by omega)
  | kinds k => exact List.mem_map.mpr ⟨[], lup_mem (by simp) (by simp), rfl⟩
  | run k => exact runU_mem (.inl rfl) (by omega) (by omega)
  | row k => exact runU_mem (.inl rfl) (by omega) (by omega)
  | nt t => exact List.mem_map.mpr ⟨0, by decide, by simp [start1]⟩
  | first n => exact List.mem_cons_self
  | last n => exact List.mem_cons_self
theorem cnt_in {a b : Int} {c : Bool} {o : One} (h0 : 0 ≤ a) (h1 : 0 ≤ b) (h : cnt a b c = some o) : ∃ i, o = .i i ∧ 0 ≤ i ∧ i ≤ b := by
  unfold cnt at h
  split at h
  · exact ⟨_, (Option.some.inj h).symm, h0, by assumption⟩
  · split at h
    · cases h
    · exact ⟨_, (Option.some.inj h).symm, h1, by omega⟩
theorem mv_univ {cs : Cls} {r : Ru} {o o' : One} {c : Nat} (ok : ClsOk cs) (hr : RuOk cs r) (hok : OneOk cs r o) (ho : o ∈ univ cs r) (hc : c ∈ sgs cs) (h : mv cs r o c = some o') : o' ∈ univ cs r := by
  have hok' := mv_ok hr hok hc h
  cases r with
  | size lo hi =>
    obtain ⟨i, rfl, i0, i1⟩ := intsU_of ho
    simp only [mv] at h
    obtain ⟨⟨l0, l1⟩, hh⟩ := hr
    have hb : 0 ≤ hi.getD lo ∧ hi.getD lo ≤ 12 := by
      cases hi with
      | none => exact ⟨l0, l1⟩
      | some v => have := hh v rfl; exact ⟨Int.le_trans l0 this.1, this.2⟩
    obtain ⟨j, rfl, j0, j1⟩ := cnt_in (by omega) hb.1 h
    exact intsU_mem j0 (by omega)
  | least n k =>
    obtain ⟨i, rfl, i0, i1⟩ := intsU_of ho
    simp only [mv] at h
    obtain ⟨_, k0, k1⟩ := hr
    obtain ⟨j, rfl, j0, j1⟩ := cnt_in (by split <;> omega) (by omega) h
    exact intsU_mem j0 (by omega)
  | most n k =>
    obtain ⟨i, rfl, i0, i1⟩ := intsU_of ho
    simp only [mv] at h
    obtain ⟨_, k0, k1⟩ := hr
    obtain ⟨j, rfl, j0, j1⟩ := cnt_in (by split <;> omega) (by omega) h
    exact intsU_mem j0 (by omega)
  | kinds k =>
    cases o' with
    | t ns =>
      have h4 := ok.hi
      exact List.mem_map.mpr ⟨ns, lup_mem (by have := hok'.1; omega) hok'.2.2, rfl⟩
    | _ => exact hok'.elim
  | run k =>
    obtain ⟨s, i, rfl, i0, i1⟩ := runU_of ho
    simp only [mv] at h
    obtain ⟨k0, k1⟩ := hr
    have e : ∃ m, o' = .p [c] m ∧ 0 ≤ m ∧ m ≤ k := by
      generalize hm : (if s = [c] then i + 1 else 1) = m at h
      have m0 : 0 ≤ m := by rw [← hm]; split <;> omega
      split at h
      · exact ⟨m, (Option.some.inj h).symm, m0, by assumption⟩
      · cases h
    obtain ⟨m, rfl, m0, m1⟩ := e
    exact runU_mem (.inr ⟨c, hc, rfl⟩) m0 (by omega)
  | row k =>
    obtain ⟨s, i, rfl, i0, i1⟩ := runU_of ho
    simp only [mv] at h
    obtain ⟨k0, k1⟩ := hr
    have e : ∃ m, o' = .p [c] m ∧ 0 ≤ m ∧ m ≤ k := by
      generalize hm : (if s.head?.bind (fol cs) = some c then i + 1 else 1) = m at h
      have m0 : 0 ≤ m := by rw [← hm]; split <;> omega
      split at h
      · exact ⟨m, (Option.some.inj h).symm, m0, by assumption⟩
      · cases h
    obtain ⟨m, rfl, m0, m1⟩ := e
    exact runU_mem (.inr ⟨c, hc, rfl⟩) m0 (by omega)
  | nt t =>
    cases o with
    | s x =>
      simp only [mv, um] at h
      split at h
      · cases h
      · cases h
        have e := trim_take t (x ++ [c])
        have el := congrArg List.length e
        rw [List.length_take] at el
        obtain ⟨_, t5, _⟩ := hr
        exact List.mem_map.mpr ⟨(trim t (x ++ [c])).length, List.mem_range.mpr (by omega), by rw [← e]⟩
    | _ => exact hok.elim
  | first n =>
    cases o' with
    | s x =>
      rcases hok' with rfl | hx
      · exact List.mem_cons_self
      · exact List.mem_cons_of_mem _ (List.mem_map.mpr ⟨x, hx, rfl⟩)
    | _ => exact hok'.elim
  | last n =>
    cases o' with
    | s x =>
      rcases hok' with rfl | hx
      · exact List.mem_cons_self
      · exact List.mem_cons_of_mem _ (List.mem_map.mpr ⟨x, hx, rfl⟩)
    | _ => exact hok'.elim
def prodL {α : Type} : List (List α) → List (List α)
  | [] => [[]]
  | l :: ls => l.flatMap fun x => (prodL ls).map (x :: ·)
theorem prodL_len {α : Type} : ∀ ls : List (List α), (prodL ls).length = (ls.map (·.length)).prod
  | [] => rfl
  | l :: ls => by
    have ih := prodL_len ls
    simp only [prodL, List.length_flatMap, List.length_map, List.map_cons, List.prod_cons]
    rw [← ih]
    induction l with
    | nil => simp
    | cons x l ih2 => simp [ih2, Nat.add_mul]; omega
def OsU (cs : Cls) : List Ru → List One → Prop
  | [], [] => True
  | r :: rs, o :: os => o ∈ univ cs r ∧ OsU cs rs os
  | _, _ => False
theorem OsU.mem {cs : Cls} : ∀ {rs : List Ru} {os : List One}, OsU cs rs os → os ∈ prodL (rs.map (univ cs))
  | [], [], _ => by simp [prodL]
  | r :: rs, o :: os, h => List.mem_flatMap.mpr ⟨o, h.1, List.mem_map.mpr ⟨os, OsU.mem h.2, rfl⟩⟩
theorem starts_univ {cs : Cls} : ∀ rs : List Ru, OsU cs rs (rs.map start1)
  | [] => trivial
  | r :: rs => ⟨start_univ r, starts_univ rs⟩
theorem mvs_univ {cs : Cls} {c : Nat} (ok : ClsOk cs) (hc : c ∈ sgs cs) : ∀ {rs : List Ru} {os os' : List One}, (∀ r ∈ rs, RuOk cs r) → OsOk cs rs os → OsU cs rs os → allSome (mvs cs rs os c) = some os' → OsU cs rs os'
  | [], [], os', _, _, _, h => by simp [mvs, allSome] at h; subst h; trivial
  | r :: rs, o :: os, os', hr, hk, hu, h => by
    simp only [mvs] at h
    cases e : mv cs r o c with
    | none => rw [e] at h; simp [allSome] at h
    | some o' =>
      rw [e] at h
      simp only [allSome] at h
      cases e2 : allSome (mvs cs rs os c) with
      | none => rw [e2] at h; simp at h
      | some os2 =>
        rw [e2] at h
        simp at h
        subst h
        exact ⟨mv_univ ok (hr r List.mem_cons_self) hk.1 hu.1 hc e, mvs_univ ok hc (fun x hx => hr x (List.mem_cons_of_mem _ hx)) hk.2 hu.2 e2⟩
theorem run_univ {cs : Cls} {rs : List Ru} (ok : ClsOk cs) (hr : ∀ r ∈ rs, RuOk cs r) : ∀ (t : Tx) (st : St1), (∀ c ∈ t, c ∈ sgs cs) → StOk cs rs st → (∀ os, st = some os → OsU cs rs os) → ∀ os, t.foldl (stp cs rs) st = some os → OsU cs rs os
  | [], st, _, _, h => h
  | c :: t, st, hc, hk, h => by
    have hc1 := hc c List.mem_cons_self
    refine run_univ ok hr t (stp cs rs st c) (fun x hx => hc x (List.mem_cons_of_mem _ hx)) (stp_ok hc1 hr hk) fun os e => ?_
    cases st with
    | none => cases e
    | some os0 => exact mvs_univ ok hc1 hr hk (h os0 rfl) e
theorem Rch.univ {cs : Cls} {rs : List Ru} {os : List One} (ok : ClsOk cs) (hr : ∀ r ∈ rs, RuOk cs r) (h : Rch cs rs os) : os ∈ prodL (rs.map (univ cs)) := by
  obtain ⟨t, h1, h2⟩ := h
  exact (run_univ ok hr t (some (rs.map start1)) h1 (show StOk cs rs (some (rs.map start1)) from starts_ok rs) (fun os e => by cases e; exact starts_univ rs) os h2).mem
def wts (cs : Cls) (rs : List Ru) : Nat := (rs.map fun r => (univ cs r).length).prod
theorem Few.ofProd {cs : Cls} {rs : List Ru} (ok : ClsOk cs) (hr : ∀ r ∈ rs, RuOk cs r) (h : wts cs rs * (sgs cs).length ≤ 16777216) : Few cs rs := fun l nd hl => by
  have := nodup_len nd (m := (prodL (rs.map (univ cs))).flatMap fun os => (sgs cs).map fun c => (os, c)) fun x hx => by
    obtain ⟨h1, h2⟩ := hl x hx
    exact List.mem_flatMap.mpr ⟨x.1, h1.univ ok hr, List.mem_map.mpr ⟨x.2, h2, rfl⟩⟩
  have e : ((prodL (rs.map (univ cs))).flatMap fun os => (sgs cs).map fun c => (os, c)).length = wts cs rs * (sgs cs).length := by
    rw [List.length_flatMap]
    simp only [List.length_map]
    have : ∀ m : List (List One), (m.map fun _ => (sgs cs).length).sum = m.length * (sgs cs).length := by
      intro m
      induction m with
      | nil => simp
      | cons x l ih => simp [ih, Nat.add_mul]; omega
    rw [this, prodL_len, List.map_map]
    rfl
  rw [e] at this
  rw [sizeLine_eq]; omega
theorem runU_len {cs : Cls} (ok : ClsOk cs) : (runU cs).length ≤ 125 := by
  have hs := sgs_len ok
  unfold runU
  rw [List.length_flatMap]
  simp only [List.length_map, List.length_range]
  have : ∀ m : List Tx, (m.map fun _ => 5).sum = m.length * 5 := by
    intro m
    induction m with
    | nil => simp
    | cons x l ih => simp [ih, Nat.add_mul]; omega
  rw [this]; simp; omega
theorem univ_len {cs : Cls} (ok : ClsOk cs) (r : Ru) : (univ cs r).length ≤ 341 := by
  have h4 : (nms cs).length ≤ 4 := by have := ok.hi; simpa [nms] using this
  have hl := lup_len h4
  have hr := runU_len ok
  cases r <;> simp [univ, intsU] <;> omega
theorem few1 {cs : Cls} {r : Ru} (ok : ClsOk cs) (hr : RuOk cs r) : Few cs [r] := by
  refine Few.ofProd ok (fun x hx => by simp at hx; rw [hx]; exact hr) ?_
  have h1 := univ_len ok r
  have h2 := sgs_len ok
  have e : wts cs [r] = (univ cs r).length := by simp [wts]
  rw [e]
  exact Nat.le_trans (Nat.mul_le_mul h1 h2) (by decide)
end DL

set_option Elab.async false
set_option linter.all false
set_option maxRecDepth 100000
namespace DL
open PySem PySem.Spec PyProof.Rows L2
def putAll (L : List (Str × D)) (nd : List (Str × D)) : List (Str × D) := L.foldl (fun nd e => putA nd e.1 e.2) nd
theorem putAll_app (L M : List (Str × D)) (nd : List (Str × D)) : putAll (L ++ M) nd = putAll M (putAll L nd) := by simp [putAll]
theorem putAll_len : ∀ (L nd : List (Str × D)), (putAll L nd).length ≤ nd.length + L.length
  | [], nd => by simp [putAll]
  | e :: L, nd => by
    have h1 := putAll_len L (putA nd e.1 e.2)
    have h2 := putA_len nd e.1 e.2
    simp only [putAll, List.foldl_cons, List.length_cons] at h1 ⊢
    omega
theorem getA_not {L : List (Str × D)} {k : Str} (h : k ∉ L.map (·.1)) : getA L k = none := by
  have := getA_mem k L
  cases e : getA L k with
  | none => rfl
  | some d => rw [e] at this; exact absurd (this.mp rfl) h
theorem getA_app (L M : List (Str × D)) (k : Str) : getA (L ++ M) k = (getA L k).or (getA M k) := by
  induction L with
  | nil => simp [getA]
  | cons e L ih =>
    obtain ⟨j, d⟩ := e
    simp only [List.cons_append, getA]
    split
    · simp
    · exact ih
/-- a dict written from a list without a key twice reads as the list -/
theorem getA_putAll : ∀ {L : List (Str × D)} (nd : List (Str × D)), (L.map (·.1)).Nodup → ∀ k, getA (putAll L nd) k = (getA L k).or (getA nd k)
  | [], nd, _, k => by simp [putAll, getA]
  | (j, d) :: L, nd, h, k => by
    have hh := List.nodup_cons.mp h
    have ih := getA_putAll (L := L) (putA nd j d) hh.2 k
    simp only [putAll, List.foldl_cons] at ih ⊢
    rw [ih, getA_put]
    simp only [getA]
    by_cases e : j = k
    · subst e
      rw [getA_not hh.1]
      simp
    · have e' : ¬ k = j := fun h => e h.symm
      rw [if_neg e', if_neg e]
def nl1 (p : Tx × Tx) : List (Str × D) := p.2.map fun c => (sg c, .str (S p.1))
def adj : Tx → List (Nat × Nat)
  | a :: b :: r => (a, b) :: adj (b :: r)
  | _ => []
def fl1 (p : Tx × Tx) : List (Str × D) := (adj p.2).map fun e => (sg e.1, .str (sg e.2))
def NL (cs : Cls) : List (Str × D) := (cs.map nl1).flatten
def FL (cs : Cls) : List (Str × D) := (cs.map fl1).flatten
theorem NL_keys (cs : Cls) : (NL cs).map (·.1) = (sgs cs).map sg := by
  induction cs with
  | nil => rfl
  | cons p r ih =>
    simp only [NL, sgs, List.map_cons, List.flatten_cons, List.map_append] at ih ⊢
    rw [ih]
    simp [nl1, Function.comp_def]
theorem adj_sub : ∀ l : Tx, ((adj l).map (·.1)).Sublist l
  | [] => by simp [adj]
  | [a] => by simp [adj]
  | a :: b :: r => by simp only [adj, List.map_cons]; exact (adj_sub (b :: r)).cons₂ a
theorem adj_len (l : Tx) : (adj l).length ≤ l.length := by
  have := (adj_sub l).length_le
  simpa using this
theorem FL_keys (cs : Cls) : ((FL cs).map (·.1)).Sublist ((sgs cs).map sg) := by
  induction cs with
  | nil => exact .refl _
  | cons p r ih =>
    simp only [FL, sgs, List.map_cons, List.flatten_cons, List.map_append] at ih ⊢
    refine List.Sublist.append ?_ ih
    have := (adj_sub p.2).map sg
    simpa [fl1, Function.comp_def] using this
theorem sg_inj {a b : Nat} (h : sg a = sg b) : a = b := by simpa [sg] using h
theorem get_nl1 (p : Tx × Tx) (c : Nat) : getA (nl1 p) (sg c) = if c ∈ p.2 then some (.str (S p.1)) else none := by
  obtain ⟨n, s⟩ := p
  unfold nl1
  induction s with
  | nil => simp [getA]
  | cons a s ih =>
    simp only [List.map_cons, getA]
    by_cases e : a = c
    · subst e; simp
    · have : ¬ sg a = sg c := fun h => e (sg_inj h)
      rw [if_neg this, ih]
      have e' : ¬ c = a := fun h => e h.symm
      simp [e']
theorem names_ok {cs : Cls} (ok : ClsOk cs) : NamesOk cs (putAll (NL cs) []) := by
  intro c hc
  have nd : ((NL cs).map (·.1)).Nodup := by rw [NL_keys]; exact nd_map (fun x y h => sg_inj h) ok.nds
  rw [getA_putAll [] nd]
  have : ∀ l : Cls, c ∈ sgs l → getA (NL l) (sg c) = some (.str (S (ownT l c))) := by
    intro l
    induction l with
    | nil => intro h; simp [sgs] at h
    | cons p r ih =>
      intro h
      simp only [NL, List.map_cons, List.flatten_cons] at ih ⊢
      rw [getA_app, get_nl1]
      unfold ownT
      rw [List.find?_cons]
      by_cases hp : c ∈ p.2
      · simp [hp]
      · have hr : c ∈ sgs r := by
          simp [sgs] at h ⊢
          exact h.resolve_left hp
        simp [hp]
        exact ih hr
  rw [this cs hc]
  simp
theorem get_fl1 : ∀ (s : Tx) (n : Tx) (c : Nat), getA (fl1 (n, s)) (sg c) = (behind s c).map fun b => .str (sg b)
  | [], n, c => by simp [fl1, adj, getA, behind]
  | [a], n, c => by simp [fl1, adj, getA, behind]
  | a :: b :: r, n, c => by
    have ih := get_fl1 (b :: r) n c
    simp only [fl1, adj, List.map_cons, getA, behind] at ih ⊢
    by_cases e : a = c
    · subst e; simp
    · have : ¬ sg a = sg c := fun h => e (sg_inj h)
      rw [if_neg this, if_neg e, ih]
theorem fol_ok {cs : Cls} (ok : ClsOk cs) : FolOk cs (putAll (FL cs) []) := by
  intro c hc
  have nd : ((FL cs).map (·.1)).Nodup := (FL_keys cs).nodup (nd_map (fun x y h => sg_inj h) ok.nds)
  rw [getA_putAll [] nd]
  have none_of : ∀ l : Cls, c ∉ sgs l → getA (FL l) (sg c) = none := fun l h => getA_not fun hm => by
    have := (FL_keys l).subset hm
    obtain ⟨x, hx, e⟩ := List.mem_map.mp this
    exact h (sg_inj e ▸ hx)
  have : ∀ l : Cls, (sgs l).Nodup → c ∈ sgs l → getA (FL l) (sg c) = (fol l c).map fun b => .str (sg b) := by
    intro l
    induction l with
    | nil => intro _ h; simp [sgs] at h
    | cons p r ih =>
      intro nd h
      have hn : (p.2 ++ sgs r).Nodup := by simpa [sgs] using nd
      obtain ⟨n1, n2, n3⟩ := List.nodup_append.mp hn
      have e : FL (p :: r) = fl1 p ++ FL r := by simp [FL]
      rw [e, getA_app]
      have e1 := get_fl1 p.2 p.1 c
      rw [show fl1 (p.1, p.2) = fl1 p from rfl] at e1
      rw [e1]
      unfold fol
      rw [List.find?_cons]
      by_cases hp : c ∈ p.2
      · rw [none_of r fun h => n3 c hp c h rfl]
        simp [hp]
      · have hr : c ∈ sgs r := by
          simp [sgs] at h ⊢
          exact h.resolve_left hp
        have hb : behind p.2 c = none := by
          have : getA (fl1 p) (sg c) = none := getA_not fun hm => by
            obtain ⟨x, hx, e⟩ := List.mem_map.mp hm
            obtain ⟨y, hy, rfl⟩ := List.mem_map.mp hx
            exact hp (sg_inj e ▸ (adj_sub p.2).subset (List.mem_map.mpr ⟨y, hy, rfl⟩))
          rw [e1] at this
          simpa using this
        rw [hb]
        simp [hp]
        exact ih n2 hr
  rw [this cs ok.nds hc]
  simp [getA]
theorem NL_len {cs : Cls} : (NL cs).length = (sgs cs).length := by
  have := congrArg List.length (NL_keys cs)
  simpa using this
theorem FL_len {cs : Cls} : (FL cs).length ≤ (sgs cs).length := by
  have := (FL_keys cs).length_le
  simpa using this
def sp_Machine___init__ (C : Addr) : DSp := fun ds M R => ∃ p cs rs, ds = [.ref p, pD cs rs] ∧ M p = some (.ins C []) ∧ ClsOk cs ∧ rs.length ≤ 1000 ∧
  ∀ M' k, (∀ a o, M a = some o → a ≠ p → M' a = some o) → Mach C p cs rs k M' → M' k = some (.dT []) → M k = none → R .non M'
theorem upd_n {B : DM} {n f : Addr} {x y z : DO} (h : n ≠ f) : updM (updM (updM B n x) f y) n z = updM (updM B n z) f y := by
  rw [updM_comm h.symm, updM_updM]
theorem zip_adj (s : Tx) : zipD (chars (S s)) (chars (S (s.drop 1))) = (adj s).map fun e => .tup [.str (sg e.1), .str (sg e.2)] := by
  rw [chars_S, chars_S]
  match s with
  | [] => rfl
  | [a] => rfl
  | a :: b :: r =>
    have ih := zip_adj (b :: r)
    rw [chars_S, chars_S] at ih
    simp only [List.drop_succ_cons, List.drop_zero, List.map_cons, zipD, adj] at ih ⊢
    rw [← ih]
section
variable {C p n f : Addr} {fs : List (Str × D)} {B : DM}
structure Lay (C p n f : Addr) (fs : List (Str × D)) (B : DM) : Prop where
  hp : B p = some (.ins C fs)
  ln : fs.lookup (Str.ofString "names") = some (.ref n)
  lf : fs.lookup (Str.ofString "followers") = some (.ref f)
  pn : p ≠ n
  pf : p ≠ f
  nf : n ≠ f
theorem loop1 (L : Lay C p n f fs B) {E : DEnds} {d1 d3 x5 x6 : Option D} {fd : List (Str × D)} {nm : Tx} : ∀ (s : Tx) (nd : List (Str × D)) (x4 : Option D), nd.length + s.length < sizeLine →
    (∀ x4', E.nx [some (.ref p), d1, some (.str (S nm)), d3, x4', x5, x6] (updM (updM B n (.dS (putAll (s.map fun c => (sg c, .str (S nm))) nd))) f (.dS fd))) →
    forW (fun _ => True) (dgName 4) (dAsg (dVar 2) (dgSub (dFld C (Str.ofString "names") (dVar 0)) (dVar 4))) E (s.map fun c => .str (sg c)) [some (.ref p), d1, some (.str (S nm)), d3, x4, x5, x6] (updM (updM B n (.dS nd)) f (.dS fd))
  | [], nd, x4, _, h => by
    rw [List.map_nil, forW_nil]
    exact ⟨trivial, h x4⟩
  | c :: s, nd, x4, hl, h => by
    rw [List.map_cons, forW_cons]
    refine ⟨trivial, ?_⟩
    have e1 : updM (updM B n (.dS nd)) f (.dS fd) p = some (.ins C fs) := by rw [updM_ne L.pf, updM_ne L.pn, L.hp]
    have e2 : updM (updM B n (.dS nd)) f (.dS fd) n = some (.dS nd) := by rw [updM_ne L.nf, updM_same]
    simp -implicitDefEqProofs [getS, dgSub, e1, e2, L.ln]
    simp at hl
    refine ⟨by omega, ?_⟩
    rw [upd_n L.nf]
    have := putA_len nd (sg c) (.str (S nm))
    exact loop1 L s _ _ (by omega) fun x4' => h x4'
theorem loop2 (L : Lay C p n f fs B) {E : DEnds} {d1 d2 d3 x6 : Option D} {nd : List (Str × D)} : ∀ (s : List (Nat × Nat)) (fd : List (Str × D)) (x4 x5 : Option D), fd.length + s.length < sizeLine →
    (∀ x4' x5', E.nx [some (.ref p), d1, d2, d3, x4', x5', x6] (updM (updM B n (.dS nd)) f (.dS (putAll (s.map fun e => (sg e.1, .str (sg e.2))) fd)))) →
    forW (fun _ => True) (dgTup 2 (dgCons (dgName 4) (dgCons (dgName 5) dgNil))) (dAsg (dVar 5) (dgSub (dFld C (Str.ofString "followers") (dVar 0)) (dVar 4))) E (s.map fun e => .tup [.str (sg e.1), .str (sg e.2)]) [some (.ref p), d1, d2, d3, x4, x5, x6] (updM (updM B n (.dS nd)) f (.dS fd))
  | [], fd, x4, x5, _, h => by
    rw [List.map_nil, forW_nil]
    exact ⟨trivial, h x4 x5⟩
  | e :: s, fd, x4, x5, hl, h => by
    rw [List.map_cons, forW_cons]
    refine ⟨trivial, ?_⟩
    have e1 : updM (updM B n (.dS nd)) f (.dS fd) p = some (.ins C fs) := by rw [updM_ne L.pf, updM_ne L.pn, L.hp]
    simp -implicitDefEqProofs [getS, dgSub, e1, L.lf]
    simp at hl
    refine ⟨by omega, ?_⟩
    have := putA_len fd (sg e.1) (.str (sg e.2))
    exact loop2 L s _ _ _ (by omega) fun x4' x5' => h x4' x5'
theorem loop0 (L : Lay C p n f fs B) {E : DEnds} {d1 x6 : Option D} : ∀ (cs : Cls) (nd fd : List (Str × D)) (x2 x3 x4 x5 : Option D), (∀ q ∈ cs, q.2.length ≤ 1000) → nd.length + (NL cs).length < sizeLine → fd.length + (FL cs).length < sizeLine →
    (∀ x2' x3' x4' x5', E.nx [some (.ref p), d1, x2', x3', x4', x5', x6] (updM (updM B n (.dS (putAll (NL cs) nd))) f (.dS (putAll (FL cs) fd)))) →
    forW (fun _ => True) (dgTup 2 (dgCons (dgName 2) (dgCons (dgName 3) dgNil)))
      (dSeq (dFor (diAny (dVar 3)) (dgName 4) (dAsg (dVar 2) (dgSub (dFld C (Str.ofString "names") (dVar 0)) (dVar 4))))
        (dFor (diZip (dVar 3) (dSl (dVar 3) (dPart (dC (.int 1))) dNoPart)) (dgTup 2 (dgCons (dgName 4) (dgCons (dgName 5) dgNil))) (dAsg (dVar 5) (dgSub (dFld C (Str.ofString "followers") (dVar 0)) (dVar 4)))))
      E (cs.map pairD) [some (.ref p), d1, x2, x3, x4, x5, x6] (updM (updM B n (.dS nd)) f (.dS fd))
  | [], nd, fd, x2, x3, x4, x5, _, _, _, h => by
    rw [List.map_nil, forW_nil]
    exact ⟨trivial, h x2 x3 x4 x5⟩
  | q :: cs, nd, fd, x2, x3, x4, x5, h6, h7, h8, h => by
    rw [List.map_cons, forW_cons]
    refine ⟨trivial, ?_⟩
    have eN : NL (q :: cs) = nl1 q ++ NL cs := by simp [NL]
    have eF : FL (q :: cs) = fl1 q ++ FL cs := by simp [FL]
    rw [eN, List.length_append] at h7
    rw [eF, List.length_append] at h8
    have hq := h6 q List.mem_cons_self
    simp -implicitDefEqProofs [getS, pairD]
    rw [chars_S]
    have l1 : (nl1 q).length = q.2.length := by simp [nl1]
    have l2 : (fl1 q).length = (adj q.2).length := by simp [fl1]
    refine loop1 L q.2 nd x4 (by omega) fun x4' => ?_
    have ec := cut_from q.2 1
    simp at ec
    simp -implicitDefEqProofs [getS]
    refine ⟨small1000 hq, ?_⟩
    rw [ec]
    have hz := zip_adj q.2
    rw [List.drop_one] at hz
    rw [hz]
    have a1 := putAll_len (nl1 q) nd
    have a2 := putAll_len (fl1 q) fd
    refine loop2 L (adj q.2) fd x4' x5 (by omega) fun x4'' x5'' => ?_
    refine loop0 L cs _ _ _ _ _ _ (fun r hr => h6 r (List.mem_cons_of_mem _ hr)) (by show (putAll (nl1 q) nd).length + _ < _; omega) (by show (putAll (fl1 q) fd).length + _ < _; omega) fun a b c d => ?_
    have := h a b c d
    rw [eN, eF, putAll_app, putAll_app] at this
    exact this
end
theorem mem_norm {M : DM} {p n f : Addr} {A A' A'' x y : DO} (pn : p ≠ n) (pf : p ≠ f) : updM (updM (updM (updM (updM M p A) n x) p A') f y) p A'' = updM (updM (updM M p A'') n x) f y := by
  rw [updM_comm (a := f) (b := p) pf.symm, updM_updM, updM_comm (a := n) (b := p) pn.symm, updM_updM]
def startD1 (d : D) : D := match d with
  | .tup (.str w :: _) => ((KT_STARTS.lookup w).getD none).getD (.str (Str.ofString ""))
  | _ => .non
theorem startD1_ok (r : Ru) : startD1 (rD r) = oD (start1 r) := by
  cases r <;> simp [startD1, rD, KT_STARTS, List.lookup, ofString_inj, BEq.beq, oD, start1, S_nil, txs]
theorem free_of {M : DM} {p a : Addr} {o : DO} (h : updM M p o a = none) : a ≠ p ∧ M a = none := by
  have ne : a ≠ p := fun e => by rw [e, updM_same] at h; cases h
  rw [updM_ne ne] at h
  exact ⟨ne, h⟩
theorem l_init (C : Addr) : ∀ ds M R, sp_Machine___init__ C ds M R → R_Machine___init__ C sp_signs_of (topE R) (startD 7 ds) M := by
  rintro _ M R ⟨p, cs, rs, rfl, hp, ok, hz, q⟩
  have hs := sgs_len ok
  have hcl : cs.length ≤ 1000 := by have := ok.hi; omega
  simp -implicitDefEqProofs [R_Machine___init__, startD, topE, getS, pD, atI0, atI1, hp, putD, ofString_inj]
  refine ⟨cs, .tup (rs.map rD), rfl, hcl, by omega, ?_⟩
  simp -implicitDefEqProofs [putD, ofString_inj]
  intro n hn
  have pn : p ≠ n := fun e => by rw [← e, updM_same] at hn; cases hn
  rw [updM_ne pn, updM_same]
  simp -implicitDefEqProofs [putD, ofString_inj]
  intro f hf
  have pf : p ≠ f := fun e => by rw [← e, updM_same] at hf; cases hf
  have nf : n ≠ f := fun e => by rw [← e, updM_ne pn.symm, updM_same] at hf; cases hf
  rw [updM_ne pf, updM_same]
  simp -implicitDefEqProofs [putD, ofString_inj]
  rw [mem_norm pn pf]
  have hn0 := (free_of hn).2
  have hf0 := (free_of (free_of (free_of hf).2).2).2
  generalize hfs : [(Str.ofString "rules", D.tup (List.map rD rs)), (Str.ofString "signs", D.str (S (sgs cs))), (Str.ofString "names", D.ref n), (Str.ofString "followers", D.ref f)] = fs
  have L : Lay C p n f fs (updM M p (.ins C fs)) := ⟨updM_same, by rw [← hfs]; simp [List.lookup, ofString_inj, BEq.beq], by rw [← hfs]; simp [List.lookup, ofString_inj, BEq.beq], pn, pf, nf⟩
  simp -implicitDefEqProofs only [cD, itK_tup]
  have hsz : 1000 ≤ sizeLine := small1000 (Nat.le_refl _)
  have hNL : (NL cs).length = (sgs cs).length := NL_len
  have hFL := FL_len (cs := cs)
  refine loop0 L cs [] [] none none none none (fun r hr => by have := (ok.sn r hr).2.1; omega) (by simp; omega) (by simp; omega) fun x2 x3 x4 x5 => ?_
  have e1 : updM (updM (updM M p (.ins C fs)) n (.dS (putAll (NL cs) []))) f (.dS (putAll (FL cs) [])) p = some (.ins C fs) := by rw [updM_ne pf, updM_ne pn, updM_same]
  have er : fs.lookup (Str.ofString "rules") = some (.tup (rs.map rD)) := by rw [← hfs]; simp [List.lookup, ofString_inj, BEq.beq]
  simp -implicitDefEqProofs [getS, e1, er]
  refine ⟨small1000 hz, lcW_map startD1 trivial _ _ (fun d hd A a => ?_) fun x hx => ?_⟩
  · obtain ⟨r, hr, rfl⟩ := List.mem_map.mp hd
    have : ∃ w ts, rD r = .tup (.str w :: ts) ∧ (KT_STARTS.lookup w).isSome = true := by
      cases r <;> exact ⟨_, _, rfl, by simp [KT_STARTS, List.lookup, ofString_inj, BEq.beq]⟩
    obtain ⟨w, ts, e, ho⟩ := this
    obtain ⟨o, ho⟩ := Option.isSome_iff_exists.mp ho
    rw [e] at a ⊢
    simpa [getS, atI0, startD1, ho] using a
  · have est : List.map startD1 (List.map rD rs) = rs.map fun r => oD (start1 r) := by
      rw [List.map_map]
      exact List.map_congr_left fun r _ => startD1_ok r
    rw [List.nil_append, est]
    have px : p ≠ x := ne_free e1 hx
    rw [updM_ne px, e1]
    simp -implicitDefEqProofs
    have l4 : fs.length = 4 := by rw [← hfs]; rfl
    refine ⟨by omega, fun k hk => ?_⟩
    obtain ⟨kp, hk⟩ := free_of hk
    obtain ⟨kx, hk⟩ := free_of hk
    obtain ⟨kf, hk⟩ := free_of hk
    obtain ⟨kn, hk⟩ := free_of hk
    obtain ⟨_, hk⟩ := free_of hk
    obtain ⟨xf, hx'⟩ := free_of hx
    obtain ⟨xn, hx'⟩ := free_of hx'
    obtain ⟨xp, hx'⟩ := free_of hx'
    rw [updM_ne kp.symm, updM_same]
    simp -implicitDefEqProofs
    refine ⟨?_, Dn.mk (q _ k (fun a o ha hp' => ?_) ⟨n, f, putAll (NL cs) [], putAll (FL cs) [], ?_, ?_, ?_, names_ok ok, fol_ok ok⟩ ?_ hk)⟩
    · rw [← hfs]
      simp [putD, ofString_inj]
    · rw [updM_ne hp', updM_ne (ne_free ha hk), updM_ne hp', updM_ne (ne_free ha hx'), updM_ne (ne_free ha hf0), updM_ne (ne_free ha hn0), updM_ne hp']
      exact ha
    · rw [updM_same, ← hfs]
      simp [putD, ofString_inj, mflds]
    · rw [updM_ne pn.symm, updM_ne kn.symm, updM_ne pn.symm, updM_ne xn.symm, updM_ne nf, updM_same]
    · rw [updM_ne pf.symm, updM_ne kf.symm, updM_ne pf.symm, updM_ne xf.symm, updM_same]
    · rw [updM_ne kp, updM_same]
end DL

set_option Elab.async false
set_option linter.all false
set_option maxRecDepth 100000
namespace DL
open PySem PySem.Spec PyProof.Rows L2
theorem init_to {C p : Addr} {cs : Cls} {rs : List Ru} {M : DM} {R : D → DM → Prop} (hp : M p = some (.ins C [])) (ok : ClsOk cs) (hr : ∀ r ∈ rs, RuOk cs r) (hl : rs.length ≤ 1000) (fw : Few cs rs)
    (q : ∀ M' k, (∀ a o, M a = some o → a ≠ p → M' a = some o) → MK C p cs rs k M' → M k = none → R .non M') : sp_Machine___init__ C [.ref p, pD cs rs] M R :=
  ⟨p, cs, rs, rfl, hp, ok, hl, fun M' k h1 m hk h0 => q M' k h1 ⟨m, ⟨[], hk, KnOk.nil⟩, ok, hr, hl, fw⟩ h0⟩
/-- a new machine -/
theorem mk_to {C x : Addr} {cs : Cls} {rs : List Ru} {N : DM} {Q : DM → Prop} (hx : N x = none) (ok : ClsOk cs) (hr : ∀ r ∈ rs, RuOk cs r) (hl : rs.length ≤ 1000) (fw : Few cs rs)
    (q : ∀ M' k, Le N M' → MK C x cs rs k M' → N k = none → Q M') : sp_Machine___init__ C [.ref x, pD cs rs] (updM N x (.ins C [])) fun d M2 => d = .non ∧ Q M2 :=
  init_to updM_same ok hr hl fw fun M' k h1 m h0 => ⟨rfl, q M' k (fun a o e => h1 a o (by rw [updM_ne (ne_free e hx)]; exact e) (ne_free e hx)) m (free_of h0).2⟩
/-- one rule kept by a text, as the machine says -/
def okM (cs : Cls) (t : Tx) (r : Ru) : Bool := fineB [r] (runS cs [r] t)
def bk (cs : Cls) (t : Tx) : Nat → List Ru → List D
  | _, [] => []
  | i, r :: rs => if okM cs t r then bk cs t (i + 1) rs else .int i :: bk cs t (i + 1) rs
theorem bk_len (cs : Cls) (t : Tx) : ∀ (rs : List Ru) (i : Nat), (bk cs t i rs).length ≤ rs.length
  | [], _ => Nat.le_refl _
  | r :: rs, i => by
    have := bk_len cs t rs (i + 1)
    unfold bk
    split <;> simp <;> omega
def sp_broken : DSp := fun ds M R => ∃ cs rs t, ds = [pD cs rs, .str (S t)] ∧ PolOk cs rs ∧ t.length ≤ 20 ∧ (∀ c ∈ t, c ∈ sgs cs) ∧ ∀ a, M a = none → R (.ref a) (updM M a (.lst (bk cs t 0 rs)))
theorem l_broken (C : Addr) : ∀ ds M R, sp_broken ds M R → R_broken C sp_need_policy sp_need_string (sp_Machine___init__ C) (sp_Machine_fine C) (sp_Machine_after C) (topE R) (startD 6 ds) M := by
  rintro _ M R ⟨cs, rs, t, rfl, ok, ht, hc, q⟩
  simp -implicitDefEqProofs [R_broken, startD, topE, getS]
  refine ⟨cs, rs, rfl, ok, cs, rs, t, rfl, ok.c, ht, hc, fun a ha => ?_⟩
  have h6 := ok.few
  simp -implicitDefEqProofs [pD, atI1]
  have main : ∀ (l : List Ru) (i : Nat) (found : List D) (x3 x4 x5 : Option D) (N : DM), (∀ r ∈ l, RuOk cs r) → (∀ b o, M b = some o → N b = some o) → N a = some (.lst found) → found.length + l.length ≤ 1000 →
      (∀ N', (∀ b o, M b = some o → N' b = some o) → N' a = some (.lst (found ++ bk cs t i l)) → Dn R (.ref a) N') →
      forW (fun _ => True) (dgTup 2 (dgCons (dgName 3) (dgCons (dgName 4) dgNil)))
        (dSeq (dSet 5 (dMake C (sp_Machine___init__ C) (daCons (dTup (daCons (dOp getD (dVar 0) (dC (.int 0))) (daCons (dTup (daCons (dVar 4) daNil)) daNil))) daNil)))
          (dIfS (dNot (dTru (dMeth C (Str.ofString "fine") (sp_Machine_fine C) (dVar 5) (daCons (dMeth C (Str.ofString "after") (sp_Machine_after C) (dVar 5) (daCons (dVar 1) daNil)) daNil)))) (dDrop (dBM "list" appM (dVar 2) (daCons (dVar 3) daNil))) dNext))
        { nx := fun ds M => dRet (dVar 2) (topE R) ds M, rt := fun d M => Dn R d M, bk := fun _ _ => False, ct := fun _ _ => False }
        (numD i (l.map rD)) [some (.tup [cD cs, .tup (rs.map rD)]), some (.str (S t)), some (.ref a), x3, x4, x5] N := by
    intro l
    induction l with
    | nil =>
      intro i found x3 x4 x5 N hl hN hf hz fin
      simp only [List.map_nil, numD]
      rw [forW_nil]
      refine ⟨trivial, ?_⟩
      simp -implicitDefEqProofs [getS, topE]
      exact fin N hN (by simpa [bk] using hf)
    | cons r l ih =>
      intro i found x3 x4 x5 N hl hN hf hz fin
      simp only [List.map_cons, numD]
      rw [forW_cons]
      refine ⟨trivial, ?_⟩
      simp -implicitDefEqProofs [getS, atI0, -List.lookup_eq_none_iff]
      intro x hx
      have hr := hl r List.mem_cons_self
      simp at hz
      refine mk_to (rs := [r]) hx ok.c (fun r' h' => by simp at h'; subst h'; exact hr) (by simp) (few1 ok.c hr) fun M' k fr' mk hk0 => ?_
      obtain ⟨n, f, nd, fd, h1, h2, h3, h4, h5⟩ := mk.m.ex
      simp -implicitDefEqProofs [getS, h1, lk_fine, lk_after, -List.lookup_eq_none_iff]
      refine ⟨x, cs, [r], k, t, rfl, mk, hc, fun M2 o2 mk2 => ?_⟩
      refine ⟨x, cs, [r], k, runS cs [r] t, rfl, mk2, StR.run StR.start hc, ?_⟩
      simp -implicitDefEqProofs
      have hkn : ∀ b o, N b = some o → M2 b = some o := fun b o e => (o2 b (ne_free e hk0)).trans (fr' b o e)
      have ha' : M2 a = some (.lst found) := hkn a _ hf
      by_cases hb : okM cs t r = true
      · have hb' : fineB [r] (runS cs [r] t) = true := hb
        rw [if_pos hb']
        refine ih (i + 1) found _ _ _ _ (fun r' h' => hl r' (List.mem_cons_of_mem _ h')) (fun b o e => hkn b o (hN b o e)) ha' (by omega) fun N' h1 h2 => fin N' h1 ?_
        rw [h2]
        simp [bk, hb]
      · have hb' : ¬ fineB [r] (runS cs [r] t) = true := hb
        rw [if_neg hb']
        simp -implicitDefEqProofs [getS, appM, arg1, tyK_lst ha', ha']
        refine ⟨by rw [sizeLine_eq]; omega, ?_⟩
        refine ih (i + 1) (found ++ [.int i]) _ _ _ _ (fun r' h' => hl r' (List.mem_cons_of_mem _ h')) (fun b o e => by rw [updM_ne (ne_free e ha)]; exact hkn b o (hN b o e)) (by rw [updM_same]) (by simp; omega) fun N' h1 h2 => fin N' h1 ?_
        rw [h2]
        simp [bk, hb]
  have := main rs 0 [] none none none _ ok.r (fun b o e => by rw [updM_ne (ne_free e ha)]; exact e) updM_same (by simp; omega) fun N' h1 h2 => ⟨_, fun b o e => ?_, q a ha⟩
  · exact this
  · by_cases hb : b = a
    · subst hb
      rw [updM_same] at e
      cases e
      simpa using h2
    · rw [updM_ne hb] at e
      exact h1 b o e
end DL

set_option Elab.async false
set_option linter.all false
set_option maxRecDepth 100000
namespace DL
open PySem PySem.Spec PyProof.Rows L2
def sp_allows : DSp := fun ds M R => ∃ cs rs t, ds = [pD cs rs, .str (S t)] ∧ PolOk cs rs ∧ t.length ≤ 20 ∧ (∀ c ∈ t, c ∈ sgs cs) ∧ R (.bl (bk cs t 0 rs).isEmpty) M
theorem bk_plain (cs : Cls) (t : Tx) : ∀ (rs : List Ru) (i : Nat), plains (bk cs t i rs) = true ∧ NestedKey.depthAll (nks (bk cs t i rs)) ≤ 30
  | [], i => ⟨rfl, by simp [bk, nks, NestedKey.depthAll]⟩
  | r :: rs, i => by
    have ih := bk_plain cs t rs (i + 1)
    unfold bk
    split
    · exact ih
    · exact ⟨by simp [plains, plain, ih.1], by simp only [nks, nk, NestedKey.depthAll, NestedKey.depth]; have := ih.2; omega⟩
theorem l_allows : ∀ ds M R, sp_allows ds M R → R_allows sp_broken (topE R) (startD 2 ds) M := by
  rintro _ M R ⟨cs, rs, t, rfl, ok, ht, hc, q⟩
  simp -implicitDefEqProofs [R_allows, startD, topE, getS]
  refine ⟨cs, rs, t, rfl, ok, ht, hc, fun a ha => ?_⟩
  intro b hb
  have nab : a ≠ b := fun e => by rw [← e, updM_same] at hb; cases hb
  have hb0 := (free_of hb).2
  rw [eqD_ref, updM_ne nab, updM_same, updM_same]
  obtain ⟨p1, p2⟩ := bk_plain cs t rs 0
  simp -implicitDefEqProofs [p1, p2, plains]
  refine .of ((Le.new ha).trans (Le.new hb)) ?_
  have e : decide (nks (bk cs t 0 rs) = []) = (bk cs t 0 rs).isEmpty := by cases bk cs t 0 rs <;> simp [nks]
  first | rw [e]; exact q | (simp at e ⊢; rw [← e] at q; simpa using q)
def town (pos left : Int) : DO := .lst [.int pos, .int left]
def intL (ns : List Int) : List D := ns.map .int
theorem ints_plain : ∀ ns : List Int, plains (intL ns) = true ∧ NestedKey.depthAll (nks (intL ns)) ≤ 30
  | [] => ⟨rfl, by simp [intL, nks, NestedKey.depthAll]⟩
  | n :: ns => by
    have ih := ints_plain ns
    exact ⟨by simp only [intL, List.map_cons, plains, plain] at ih ⊢; simp [ih.1], by simp only [intL, List.map_cons, nks, nk, NestedKey.depthAll, NestedKey.depth] at ih ⊢; have := ih.2; omega⟩
/-- any draw: what is asked is answered with some number in range -/
def sp__law_draw : DSp := fun ds M R => ∃ (t : Addr) (ns : List Int) (pos left many : Int), ds = [.fl (intL ns), .ref t, .int many] ∧ ns.length ≤ 63 ∧ M t = some (town pos left) ∧ 0 ≤ pos ∧ 0 < many ∧ many < 1000000000000 ∧
  ∀ v pos' left' : Int, 0 ≤ v → v < many → 0 ≤ pos' → R (.int v) (updM M t (town pos' left'))
theorem ix0 : ixN 2 0 = some 0 := by decide
theorem ix1 : ixN 2 1 = some 1 := by decide
theorem at_int {ns : List Int} {i : Int} (h0 : 0 ≤ i) (h1 : i < ns.length) : ∃ z, atI (intL ns) i = some (.int z) := by
  obtain ⟨j, rfl⟩ : ∃ j : Nat, i = j := ⟨i.toNat, by omega⟩
  have hj : j < ns.length := by omega
  exact ⟨ns[j], atI_nat (by simp [intL, List.getElem?_eq_getElem hj])⟩
theorem div_ok {i many : Int} (h : 0 < many) (h2 : many < 1000000000000) : CDivW i many := by
  refine ⟨h, ?_⟩
  have : many.natAbs < 2 ^ 9000 := by
    have : many.natAbs < 2 ^ 40 := by omega
    exact Nat.lt_trans this (Nat.pow_lt_pow_right (by decide) (by decide))
  exact (Nat.log2_lt (by omega)).mpr this
theorem pow18 : CPow 10 18 := ⟨by decide, by decide, by decide⟩
theorem pow60 : CPow 10 60 := ⟨by decide, by decide, by decide⟩
theorem mulBig : CMulW 1000000000000000000000000000000000000000000000000000000000000 1000000000000000000000000000000000000000000000000000000000000 := by
  have h : (1000000000000000000000000000000000000000000000000000000000000 : Int).natAbs.log2 < 200 := (Nat.log2_lt (by decide)).mpr (by decide)
  unfold CMulW
  omega
theorem l_draw : ∀ ds M R, sp__law_draw ds M R → R__law_draw (topE R) (startD 6 ds) M := by
  rintro _ M R ⟨t, ns, pos, left, many, rfl, hn, ht, hp, hm, hm2, q⟩
  have vin : ∀ x : Int, 0 ≤ x % many ∧ x % many < many := fun x => ⟨Int.emod_nonneg _ (by omega), Int.emod_lt_of_pos _ hm⟩
  obtain ⟨q1, q2⟩ := ints_plain ns
  have hL : (intL ns).length = ns.length := by simp [intL]
  simp -implicitDefEqProofs [R__law_draw, startD, topE, getS, ht, town, atI0, atI1, ix0, ix1, dgSub, q1, q2, hL]
  by_cases hl : 0 < left
  · rw [if_pos hl]
    exact ⟨hm, div_ok hm hm2, Dn.mk (q _ _ _ (vin left).1 (vin left).2 hp)⟩
  rw [if_neg hl]
  intro p hx
  obtain ⟨pt, hp0⟩ := free_of hx
  have lt : ∀ o u, Le (updM M t o) (updM (updM M t o) p u) := fun o u => Le.new (by rw [updM_ne pt]; exact hp0)
  by_cases hnil : nks (intL ns) = []
  · rw [if_pos hnil]
    exact ⟨hm, .of (lt _ _) (q _ (pos + 1) left (vin pos).1 (vin pos).2 (by omega))⟩
  rw [if_neg hnil]
  have hlen : 0 < ns.length := by
    cases ns with
    | nil => exact absurd rfl hnil
    | cons _ _ => simp
  have mixed : ∀ N : DM, (∀ v, 0 ≤ v → v < many → Dn R (.int v) N) → 0 < ns.length ∧ optK (atI (intL ns) (pos % (ns.length : Int))) fun d => mulD d (.int 1103515245) N fun x M1 =>
      (CMul 7919 pos ∨ CMulW 7919 pos) ∧ addD x (.int (7919 * pos)) M1 fun x M1 => addD x (.int 12345) M1 fun x M1 => modD x (.int 2147483647) M1 fun x M1 => powD x (.int 5) M1 fun x M1 => modD x (.int 2147483647) M1 fun x M1 => modD x (.int 999983) M1 fun x M1 => modD x (.int many) M1 fun d M => Dn R d M := by
    intro N fin
    obtain ⟨z, hz⟩ := at_int (ns := ns) (i := pos % ns.length) (Int.emod_nonneg _ (by omega)) (Int.emod_lt_of_pos _ (by omega))
    simp -implicitDefEqProofs [hz, hlen]
    have m1 := Int.emod_nonneg (z * 1103515245 + 7919 * pos + 12345) (show (2147483647 : Int) ≠ 0 by decide)
    have m2 := Int.emod_lt_of_pos (z * 1103515245 + 7919 * pos + 12345) (show (0 : Int) < 2147483647 by decide)
    exact ⟨.inl (.inr ⟨by decide, by decide⟩), .inl (.inl ⟨by decide, by decide⟩), ⟨by decide, by decide, by omega⟩, hm, fin _ (vin _).1 (vin _).2⟩
  have mx := mixed _ fun v h1 h2 => Dn.of (lt (.lst [.int (pos + 1), .int left]) (.lst [])) (q v (pos + 1) left h1 h2 (by omega))
  by_cases hpl : pos < ns.length
  · rw [if_pos hpl]
    obtain ⟨z, hz⟩ := at_int hp hpl
    simp -implicitDefEqProofs [hz, pow18]
    by_cases hbig : 1000000000000000000 ≤ z
    · rw [if_pos hbig]
      simp -implicitDefEqProofs [pow60, div_ok hm hm2, mulBig]
      rw [updM_ne pt.symm, updM_same]
      simp -implicitDefEqProofs [ix1, hz, hm]
      refine .of ?_ (q (z % many) (pos + 1) (z / many % 1000000000000000000000000000000000000000000000000000000000000000000000000000000000000000000000000000000000000000000000000) (vin _).1 (vin _).2 (by omega))
      rw [updM_comm (a := p) (b := t) pt, updM_updM]
      exact Le.new (by rw [updM_ne pt]; exact hp0)
    · rw [if_neg hbig]
      exact mx
  · rw [if_neg hpl]
    exact mx
end DL

set_option Elab.async false
set_option linter.all false
set_option maxRecDepth 100000
namespace DL
open PySem PySem.Spec PyProof.Rows L2
/-- the town as it stands -/
structure Tn (t : Addr) (ns : List Int) (M : DM) : Prop where
  hn : ns.length ≤ 63
  ht : ∃ pos left, M t = some (town pos left) ∧ 0 ≤ pos
/-- the same but for the town -/
def Tu (t : Addr) (M M' : DM) : Prop := ∃ pos left, 0 ≤ pos ∧ M' = updM M t (town pos left)
theorem Tn.upd {t : Addr} {ns : List Int} {M M' : DM} (T : Tn t ns M) (u : Tu t M M') : Tn t ns M' := by
  obtain ⟨pos, left, h, rfl⟩ := u
  exact ⟨T.hn, pos, left, updM_same, h⟩
theorem Tu.trans {t : Addr} {M M1 M2 : DM} (a : Tu t M M1) (b : Tu t M1 M2) : Tu t M M2 := by
  obtain ⟨p, l, h, rfl⟩ := a
  obtain ⟨p2, l2, h2, rfl⟩ := b
  exact ⟨p2, l2, h2, by rw [updM_updM]⟩
theorem Tn.refl {t : Addr} {ns : List Int} {M : DM} (T : Tn t ns M) : Tu t M M := by
  obtain ⟨pos, left, h, h0⟩ := T.ht
  exact ⟨pos, left, h0, (updM_eta h).symm⟩
/-- what is laid in the bigger memory is there after the town moved -/
theorem Tn.le {t : Addr} {ns : List Int} {M M' : DM} (T : Tn t ns M) (l : Le M M') : Tn t ns M' := by
  obtain ⟨pos, left, h, h0⟩ := T.ht
  exact ⟨T.hn, pos, left, l _ _ h, h0⟩
/-- a smaller memory whose town moved, below the bigger one -/
theorem Tu.down {t : Addr} {M N N' : DM} (l : Le M N) (u : Tu t N N') : ∃ M', Tu t M M' ∧ Le M' N' := by
  obtain ⟨p, q, h, rfl⟩ := u
  exact ⟨_, ⟨p, q, h, rfl⟩, Le.mono l⟩
/-- a promise of the law's draws: ask M says what may come -/
def sp__law_draw' : DSp := fun ds M R => ∃ (t : Addr) (ns : List Int) (many : Int), ds = [.fl (intL ns), .ref t, .int many] ∧ Tn t ns M ∧ 0 < many ∧ many < 1000000000000 ∧ ∀ (v : Int) M', 0 ≤ v → v < many → Tu t M M' → R (.int v) M'
theorem l_draw' : ∀ ds M R, sp__law_draw' ds M R → R__law_draw (topE R) (startD 6 ds) M := by
  rintro _ M R ⟨t, ns, many, rfl, T, h1, h2, q⟩
  obtain ⟨pos, left, h, h0⟩ := T.ht
  exact l_draw _ M R ⟨t, ns, pos, left, many, rfl, T.hn, h, h0, h1, h2, fun v p l a b c => q v _ a b ⟨p, l, c, rfl⟩⟩
def pickI (M : DM) (t : Addr) : D → List D → Prop
  | .tup ds, l => l = ds
  | .str x, l => l = chars x
  | .ref b, l => b ≠ t ∧ M b = some (.lst l)
  | _, _ => False
def sp__law_pick : DSp := fun ds M R => ∃ (t : Addr) (ns : List Int) (d : D) (items : List D), ds = [.fl (intL ns), .ref t, d] ∧ Tn t ns M ∧ pickI M t d items ∧ 0 < items.length ∧ items.length < 1000 ∧ ∀ x ∈ items, ∀ M', Tu t M M' → R x M'
theorem at_nn {α : Type} {l : List α} {v : Int} (h0 : 0 ≤ v) (h1 : v < l.length) : ∃ x, x ∈ l ∧ atI l v = some x := by
  obtain ⟨j, rfl⟩ : ∃ j : Nat, v = j := ⟨v.toNat, by omega⟩
  have hj : j < l.length := by omega
  exact ⟨l[j], List.getElem_mem hj, atI_nat (List.getElem?_eq_getElem hj)⟩
theorem l_pick : ∀ ds M R, sp__law_pick ds M R → R__law_pick sp__law_draw' (topE R) (startD 3 ds) M := by
  rintro _ M R ⟨t, ns, d, items, rfl, T, hi, h0, hm, q⟩
  have hsz : items.length ≤ sizeLine := small1000 (by omega)
  cases d with
  | tup ds =>
    have hi : items = ds := hi
    subst hi
    simp -implicitDefEqProofs [R__law_pick, startD, topE, getS]
    refine ⟨t, ns, _, rfl, T, by omega, by omega, fun v M' a b u => ?_⟩
    obtain ⟨x, hx, e⟩ := at_nn a b
    simp [e]
    exact Dn.mk (q x hx M' u)
  | str x =>
    have hi : items = chars x := hi
    subst hi
    have hl : (chars x).length = x.length := by simp [chars, Str.length]
    rw [hl] at h0 hm hsz
    simp -implicitDefEqProofs [R__law_pick, startD, topE, getS]
    refine ⟨hsz, t, ns, _, rfl, T, by omega, by omega, fun v M' a b u => ?_⟩
    have hl2 : x.cps.toList.length = x.length := by simp [Str.length]
    obtain ⟨c, hx, e⟩ := at_nn (l := x.cps.toList) a (by omega)
    simp [e]
    exact ⟨hsz, Dn.mk (q _ (List.mem_map.mpr ⟨c, hx, rfl⟩) M' u)⟩
  | ref b =>
    obtain ⟨hbt, hb⟩ : b ≠ t ∧ M b = some (.lst items) := hi
    simp -implicitDefEqProofs [R__law_pick, startD, topE, getS, lenK_lst hb]
    refine ⟨t, ns, _, rfl, T, by omega, by omega, fun v M' a c u => ?_⟩
    obtain ⟨x, hx, e⟩ := at_nn a c
    have hb' : M' b = some (.lst items) := by
      obtain ⟨p, l, _, rfl⟩ := u
      rw [updM_ne hbt, hb]
    simp [e, hb']
    exact Dn.mk (q x hx M' u)
  | _ => exact hi.elim
/-- the law's classes -/
def tx (s : String) : Tx := s.toList.map Char.toNat
theorem w_tx (s : String) : w_ s = .str (S (tx s)) := by rw [w_, ofString_S]; rfl
def five : List Cls := [[(tx "low", tx "ab"), (tx "dig", tx "01")], [(tx "low", tx "abc"), (tx "dig", tx "0")], [(tx "x", tx "abcd")], [(tx "up", tx "A"), (tx "low", tx "a"), (tx "dig", tx "1")], [(tx "m", tx "!"), (tx "low", tx "ba")]]
def sp__law_classes : DSp := fun ds M R => ∃ (t : Addr) (ns : List Int), ds = [.fl (intL ns), .ref t] ∧ Tn t ns M ∧ ∀ cs ∈ five, ∀ M', Tu t M M' → R (cD cs) M'
theorem l_classes : ∀ ds M R, sp__law_classes ds M R → R__law_classes sp__law_pick (topE R) (startD 3 ds) M := by
  rintro _ M R ⟨t, ns, rfl, T, q⟩
  simp -implicitDefEqProofs [R__law_classes, startD, topE, getS]
  intro a ha b hb
  have nab : a ≠ b := fun e => by rw [← e, updM_same] at hb; cases hb
  rw [updM_ne nab, updM_same]
  simp -implicitDefEqProofs
  intro c hc
  have l3 : ∀ o, Le M (updM _ c o) := fun o => ((Le.new ha).trans (Le.new hb)).trans (Le.new hc)
  obtain ⟨pos, left, ht, _⟩ := T.ht
  refine ⟨t, ns, _, _, rfl, T.le (l3 _), ⟨fun e => ?_, updM_same⟩, by simp, by simp, fun x hx M' u => ?_⟩
  · subst e; exact absurd ((Le.trans (Le.new ha) (Le.new hb)) _ _ ht) (by rw [hc]; simp)
  · obtain ⟨M1, u1, l1⟩ := u.down (l3 _)
    refine .of l1 ?_
    have : ∃ cs ∈ five, x = cD cs := by
      simp at hx
      rcases hx with rfl | rfl | rfl | rfl | rfl
      · exact ⟨five[0], by simp [five], by simp [five, cD, pairD, ← w_tx]⟩
      · exact ⟨five[1], by simp [five], by simp [five, cD, pairD, ← w_tx]⟩
      · exact ⟨five[2], by simp [five], by simp [five, cD, pairD, ← w_tx]⟩
      · exact ⟨five[3], by simp [five], by simp [five, cD, pairD, ← w_tx]⟩
      · exact ⟨five[4], by simp [five], by simp [five, cD, pairD, ← w_tx]⟩
    obtain ⟨cs, hcs, rfl⟩ := this
    exact q cs hcs M1 u1
end DL

set_option Elab.async false
set_option linter.all false
set_option maxRecDepth 100000
namespace DL
open PySem PySem.Spec PyProof.Rows L2
/-- N: the town moved, and something new -/
def Gw (t : Addr) (M N : DM) : Prop := ∃ M', Tu t M M' ∧ Le M' N
theorem Gw.refl {t : Addr} {ns : List Int} {M : DM} (T : Tn t ns M) : Gw t M M := ⟨M, T.refl, Le.refl M⟩
theorem Gw.tu {t : Addr} {M N N' : DM} (g : Gw t M N) (u : Tu t N N') : Gw t M N' := by
  obtain ⟨M', a, b⟩ := g
  obtain ⟨M2, u2, l2⟩ := u.down b
  exact ⟨M2, a.trans u2, l2⟩
theorem Gw.le {t : Addr} {M N N' : DM} (g : Gw t M N) (l : Le N N') : Gw t M N' := by
  obtain ⟨M', a, b⟩ := g
  exact ⟨M', a, b.trans l⟩
theorem Gw.new {t p : Addr} {M N : DM} {o : DO} (g : Gw t M N) (h : N p = none) : Gw t M (updM N p o) := g.le (Le.new h)
theorem Gw.tn {t : Addr} {ns : List Int} {M N : DM} (T : Tn t ns M) (g : Gw t M N) : Tn t ns N := by
  obtain ⟨M', a, b⟩ := g
  exact (T.upd a).le b
theorem Gw.dn {t : Addr} {M N : DM} {R : D → DM → Prop} {d : D} (g : Gw t M N) (h : ∀ M', Tu t M M' → R d M') : Dn R d N := by
  obtain ⟨M', a, b⟩ := g
  exact ⟨M', b, h M' a⟩
/-- what M knows but for the town -/
theorem Gw.keep {t a : Addr} {M N : DM} {o : DO} (g : Gw t M N) (h : M a = some o) (n : a ≠ t) : N a = some o := by
  obtain ⟨M', ⟨p, l, _, rfl⟩, b⟩ := g
  exact b _ _ (by rw [updM_ne n]; exact h)
/-- rules as the laws draw them -/
def Small (cs : Cls) : Ru → Prop
  | .size lo hi => lo ≤ 3 ∧ ∀ h, hi = some h → h ≤ 6
  | .least _ k => k ≤ 3
  | .most _ k => 1 ≤ k ∧ k ≤ 3
  | .kinds k => k ≤ 3 ∧ k ≤ cs.length
  | .run k => k ≤ 3
  | .row k => k ≤ 3
  | .nt t => t.length ≤ 3
  | _ => True
def sp__law_rule : DSp := fun ds M R => ∃ (t : Addr) (ns : List Int) (cs : Cls), ds = [.fl (intL ns), .ref t, cD cs] ∧ Tn t ns M ∧ ClsOk cs ∧ ∀ r, RuOk cs r → Small cs r → ∀ M', Tu t M M' → R (rD r) M'
theorem lc_sgs {cs : Cls} {N : DM} {Q : List D → DM → Prop} {i j : Nat} {d0 : DSt} (hg : ∀ (p : Tx × Tx) (A : D → DM → Prop), A (.str (S p.2)) N → dgTup 2 (dgCons (dgName i) (dgCons (dgName j) dgNil)) (pairD p) d0 N fun ds1 M1 => dVar j ds1 M1 A)
    (h : Q (txs (cs.map (·.2))) N) : lcW (fun _ => True) (dgTup 2 (dgCons (dgName i) (dgCons (dgName j) dgNil))) dYes (dVar j) d0 (cs.map pairD) [] N Q := by
  refine lcW_map (fun d => match d with | .tup [_, b] => b | _ => .non) trivial _ _ (fun d hd A a => ?_) ?_
  · obtain ⟨c, hc, rfl⟩ := List.mem_map.mp hd
    exact hg c A a
  · have e : List.map (fun d : D => match d with | .tup [_, b] => b | _ => D.non) (List.map pairD cs) = txs (cs.map (·.2)) := by
      simp [txs, pairD, Function.comp_def]
    rw [List.nil_append, e]
    exact h
theorem join_sz {cs : Cls} (h : (sgs cs).length ≤ 16777216) : (((cs.map (·.2)).map S).map fun x : Str => x.length).sum + ((cs.map (·.2)).map S).length * (S []).length ≤ 16777216 := by
  have := sum_len cs
  simp [Function.comp_def] at this ⊢
  omega
theorem draw_to {t : Addr} {ns : List Int} {M N : DM} {many : Int} {Q : D → DM → Prop} (T : Tn t ns M) (g : Gw t M N) (h1 : 0 < many) (h2 : many < 1000000000000) (h : ∀ (v : Int) N', 0 ≤ v → v < many → Gw t M N' → Q (.int v) N') : sp__law_draw' [.fl (intL ns), .ref t, .int many] N Q :=
  ⟨t, ns, many, rfl, g.tn T, h1, h2, fun v M' a b u => h v M' a b (g.tu u)⟩
theorem pick_to {t : Addr} {ns : List Int} {M N : DM} {d : D} {items : List D} {Q : D → DM → Prop} (T : Tn t ns M) (g : Gw t M N) (hi : pickI N t d items) (h0 : 0 < items.length) (h1 : items.length < 1000) (h : ∀ x ∈ items, ∀ N', Gw t M N' → Q x N') : sp__law_pick [.fl (intL ns), .ref t, d] N Q :=
  ⟨t, ns, d, items, rfl, g.tn T, hi, h0, h1, fun x hx M' u => h x hx M' (g.tu u)⟩
theorem new_ne {t p : Addr} {ns : List Int} {M N : DM} (T : Tn t ns M) (g : Gw t M N) (h : N p = none) : p ≠ t := fun e => by
  obtain ⟨pos, left, ht, _⟩ := (g.tn T).ht
  rw [e, ht] at h
  cases h
/-- signs drawn one after the other -/
def ch1 (w : Tx) : List D := w.map fun c => .str (sg c)
theorem lc_draws {t : Addr} {ns : List Int} {M : DM} {sgn : Tx} {g : DG} {te : DE} {d0 : DSt} {Q : List D → DM → Prop} (T : Tn t ns M) (h0 : 0 < sgn.length) (h1 : sgn.length < 1000)
    (hg : ∀ (x : D) (N : DM) (A : D → DM → Prop), sp__law_pick [.fl (intL ns), .ref t, .str (S sgn)] N A → g x d0 N fun ds1 M1 => te ds1 M1 A) : ∀ (xs : List D) (w : Tx) (N : DM), Gw t M N → (∀ c ∈ w, c ∈ sgn) →
    (∀ w' N', w'.length = w.length + xs.length → (∀ c ∈ w', c ∈ sgn) → Gw t M N' → Q (ch1 w') N') → lcW (fun _ => True) g dYes te d0 xs (ch1 w) N Q
  | [], w, N, gw, hw, fin => ⟨trivial, fin w N (by simp) hw gw⟩
  | x :: xs, w, N, gw, hw, fin => by
    refine ⟨trivial, hg x N _ (pick_to T gw rfl (by simpa [chars_S] using h0) (by simpa [chars_S] using h1) fun y hy N' g' => ?_)⟩
    rw [chars_S] at hy
    obtain ⟨c, hc, rfl⟩ := List.mem_map.mp hy
    have e : ch1 w ++ [D.str (sg c)] = ch1 (w ++ [c]) := by simp [ch1]
    show lcW _ g dYes te d0 xs (ch1 w ++ [D.str (sg c)]) N' Q
    rw [e]
    refine lc_draws T h0 h1 hg xs (w ++ [c]) N' g' (fun z hz => ?_) fun w' N2 hl hm g2 => fin w' N2 (by simp at hl ⊢; omega) hm g2
    simp at hz
    rcases hz with h | h
    · exact hw z h
    · rw [h]; exact hc
theorem ch1_txs (w : Tx) : ch1 w = txs (w.map fun c => [c]) := by simp [ch1, txs, sg]
theorem flat1 : ∀ w : Tx, (w.map fun c => [c]).flatten = w
  | [] => rfl
  | c :: w => by simp [flat1 w]
theorem join1_sz {w : Tx} (h : w.length ≤ 1000) : (((w.map fun c => [c]).map S).map fun x : Str => x.length).sum + ((w.map fun c => [c]).map S).length * (S []).length ≤ 16777216 := by
  have : ∀ w : Tx, (((w.map fun c => [c]).map S).map fun x : Str => x.length).sum = w.length := by
    intro w
    induction w with
    | nil => rfl
    | cons c w ih => simp [Function.comp_def] at ih ⊢; omega
  rw [this]
  simp
  omega
theorem sgs_pos {cs : Cls} (ok : ClsOk cs) : 0 < (sgs cs).length := by
  cases cs with
  | nil => have := ok.lo; simp at this
  | cons p r =>
    have := (ok.sn p List.mem_cons_self).1
    simp [sgs]
    omega
theorem nm_mem {cs : Cls} {p : Tx × Tx} (h : p ∈ cs) : p.1 ∈ nms cs := List.mem_map.mpr ⟨p, h, rfl⟩
theorem l_rule : ∀ ds M R, sp__law_rule ds M R → R__law_rule sp__law_pick sp__law_draw' (topE R) (startD 11 ds) M := by
  rintro _ M R ⟨t, ns, cs, rfl, T, ok, q⟩
  have hs := sgs_len ok
  have h4 := ok.hi
  have h1 := ok.lo
  simp -implicitDefEqProofs [R__law_rule, startD, topE, getS]
  refine ⟨t, ns, cD cs, cs.map pairD, rfl, T, rfl, by simp; omega, by simp; omega, fun x hx M1 u1 => ?_⟩
  obtain ⟨p, hp, rfl⟩ := List.mem_map.mp hx
  simp -implicitDefEqProofs [pairD, atI0, cD]
  refine ⟨small1000 (by omega), lc_sgs (fun p' A a => ?_) fun p1 hp1 => ?_⟩
  · simpa -implicitDefEqProofs [getS, pairD] using a
  simp only [strsOf_S, S_nil, optK_some, join_nil]
  refine ⟨join_sz (by omega), ?_⟩
  refine draw_to T (((Gw.refl T).tu u1).new hp1) (by decide) (by decide) fun what N3 w0 w1 g3 => draw_to T g3 (by decide) (by decide) fun nu N4 n0 n1 g4 => ?_
  simp -implicitDefEqProofs
  by_cases c1 : what < 2
  · rw [if_pos c1]
    refine draw_to T g4 (by decide) (by decide) fun lo N5 l0 l1 g5 => ?_
    simp -implicitDefEqProofs
    intro p6 h6
    refine pick_to T (g5.new h6) ⟨new_ne T g5 h6, updM_same⟩ (by simp) (by simp) fun x hx N7 g7 => ?_
    simp at hx
    rcases hx with rfl | rfl | rfl | rfl
    · exact g7.dn (q (.size lo none) ⟨⟨by omega, by omega⟩, fun h e => by cases e⟩ ⟨by omega, fun h e => by cases e⟩)
    · exact g7.dn (q (.size lo (some (lo + (1 + nu)))) ⟨⟨by omega, by omega⟩, fun h e => by cases e; exact ⟨by omega, by omega⟩⟩ ⟨by omega, fun h e => by cases e; omega⟩)
    · exact g7.dn (q (.size lo (some (lo + 1))) ⟨⟨by omega, by omega⟩, fun h e => by cases e; exact ⟨by omega, by omega⟩⟩ ⟨by omega, fun h e => by cases e; omega⟩)
    · exact g7.dn (q (.size lo (some lo)) ⟨⟨by omega, by omega⟩, fun h e => by cases e; exact ⟨by omega, by omega⟩⟩ ⟨by omega, fun h e => by cases e; omega⟩)
  rw [if_neg c1]
  by_cases c2 : what < 4
  · rw [if_pos c2]
    intro p5 h5
    have : what = 2 ∨ what = 3 := by omega
    rcases this with rfl | rfl
    · simp -implicitDefEqProofs [atI0]
      exact (g4.new h5).dn (q (.least p.1 (1 + nu)) ⟨nm_mem hp, by omega, by omega⟩ (by show 1 + nu ≤ 3; omega))
    · simp -implicitDefEqProofs [atI1]
      exact (g4.new h5).dn (q (.most p.1 (1 + nu)) ⟨nm_mem hp, by omega, by omega⟩ ⟨by omega, by omega⟩)
  rw [if_neg c2]
  by_cases c3 : what < 7
  · rw [if_pos c3]
    intro p5 h5
    have : what = 4 ∨ what = 5 ∨ what = 6 := by omega
    rcases this with rfl | rfl | rfl
    · simp -implicitDefEqProofs [atI0]
      refine (g4.new h5).dn (q (.kinds _) ⟨?_, ?_⟩ ⟨?_, ?_⟩)
      · split <;> omega
      · split <;> omega
      · split <;> omega
      · split <;> omega
    · simp -implicitDefEqProofs [atI1]
      exact (g4.new h5).dn (q (.run (1 + nu)) ⟨by omega, by omega⟩ (by show 1 + nu ≤ 3; omega))
    · simp -implicitDefEqProofs [atI2]
      exact (g4.new h5).dn (q (.row (1 + nu)) ⟨by omega, by omega⟩ (by show 1 + nu ≤ 3; omega))
  rw [if_neg c3]
  by_cases c4 : what = 7
  · rw [if_pos c4]
    refine ⟨⟨by omega, by omega⟩, small1000 (by rw [intsD_len]; omega), ?_⟩
    have hpos := sgs_pos ok
    refine lc_draws (sgn := sgs cs) (w := []) T hpos (by omega) (fun x N A a => ?_) _ _ g4 (by simp) fun w N5 hl hm g5 => ?_
    · simp -implicitDefEqProofs [getS]
      exact a
    intro p6 h6
    rw [ch1_txs]
    simp only [strsOf_S, S_nil, optK_some, join_nil, flat1]
    rw [intsD_len] at hl
    simp at hl
    refine ⟨by have := join1_sz (w := w) (by omega); simp at this ⊢; exact this, ?_⟩
    exact (g5.new h6).dn (q (.nt w) ⟨by omega, by omega, hm⟩ (by show w.length ≤ 3; omega))
  · rw [if_neg c4]
    intro p5 h5
    have : what = 8 ∨ what = 9 := by omega
    rcases this with rfl | rfl
    · simp -implicitDefEqProofs [atI0]
      exact (g4.new h5).dn (q (.first p.1) (nm_mem hp) trivial)
    · simp -implicitDefEqProofs [atI1]
      exact (g4.new h5).dn (q (.last p.1) (nm_mem hp) trivial)
end DL

set_option Elab.async false
set_option linter.all false
set_option maxRecDepth 100000
namespace DL
open PySem PySem.Spec PyProof.Rows L2
theorem Gw.put {t a : Addr} {M N : DM} {o : DO} (g : Gw t M N) (h : M a = none) (n : a ≠ t) : Gw t M (updM N a o) := by
  obtain ⟨M', ⟨p, l, h0, rfl⟩, b⟩ := g
  refine ⟨_, ⟨p, l, h0, rfl⟩, fun c u e => ?_⟩
  have : c ≠ a := fun e' => by
    subst e'
    rw [updM_ne n, h] at e
    cases e
  rw [updM_ne this]
  exact b c u e
theorem mem_rs (r : Ru) (rs : List Ru) : memD (rD r) (rs.map rD) = true ↔ r ∈ rs := by
  unfold memD
  rw [nks_map, List.map_map, List.any_map]
  simp only [List.any_eq_true, Function.comp]
  constructor
  · rintro ⟨x, hx, e⟩
    rwa [← rD_inj (of_decide_eq_true e)]
  · intro h
    exact ⟨r, h, decide_eq_true rfl⟩
/-- policies as the laws draw them -/
structure PolD (cs : Cls) (rs : List Ru) (most : Nat) : Prop where
  p : PolOk cs rs
  sm : ∀ r ∈ rs, Small cs r
  le : rs.length ≤ most
def sp__law_policy : DSp := fun ds M R => ∃ (t : Addr) (ns : List Int) (cs : Cls) (most : Int), ds = [.fl (intL ns), .ref t, cD cs, .int most] ∧ Tn t ns M ∧ ClsOk cs ∧ 0 ≤ most ∧ most ≤ 6 ∧ ∀ rs, PolD cs rs most.toNat → ∀ M', Tu t M M' → R (pD cs rs) M'
theorem l_policy : ∀ ds M R, sp__law_policy ds M R → R__law_policy sp__law_draw' sp__law_rule (topE R) (startD 7 ds) M := by
  rintro _ M R ⟨t, ns, cs, most, rfl, T, ok, h0, h6, q⟩
  simp -implicitDefEqProofs [R__law_policy, startD, topE, getS]
  intro a ha
  have hat : a ≠ t := new_ne T (Gw.refl T) ha
  have g0 : Gw t M (updM M a (.lst [])) := (Gw.refl T).new ha
  refine ⟨t, ns, _, rfl, g0.tn T, by omega, by omega, fun n N n0 n1 u => ?_⟩
  have g := g0.tu u
  have hN : N a = some (.lst (List.map rD [])) := by
    obtain ⟨p, l, _, rfl⟩ := u
    rw [updM_ne hat, updM_same]
    rfl
  simp -implicitDefEqProofs
  refine ⟨by omega, ?_⟩
  have main : ∀ (E : DEnds), (∀ (rs : List Ru) (x5 x6 : Option D) (N : DM), Gw t M N → N a = some (.lst (rs.map rD)) → rs.length ≤ most.toNat → (∀ r ∈ rs, RuOk cs r ∧ Small cs r) → rs.Nodup → E.nx [some (.fl (intL ns)), some (.ref t), some (cD cs), some (.int most), some (.ref a), x5, x6] N) → ∀ (xs : List D) (rs : List Ru) (x5 x6 : Option D) (N : DM), Gw t M N → N a = some (.lst (rs.map rD)) → rs.length + xs.length ≤ most.toNat → (∀ r ∈ rs, RuOk cs r ∧ Small cs r) → rs.Nodup →
      forW (fun _ => True) (dgName 5) (dSeq (dSet 6 (dCall sp__law_rule (daCons (dVar 0) (daCons (dVar 1) (daCons (dVar 2) daNil))))) (dIfS (dTest (dOp ninD (dVar 6) (dVar 4))) (dDrop (dBM "list" appM (dVar 4) (daCons (dVar 6) daNil))) dNext))
        E xs [some (.fl (intL ns)), some (.ref t), some (cD cs), some (.int most), some (.ref a), x5, x6] N := by
    intro E fin xs
    induction xs with
    | nil =>
      intro rs x5 x6 N g hN hl hr nd
      rw [forW_nil]
      refine ⟨trivial, ?_⟩
      exact fin rs x5 x6 N g hN (by simpa using hl) hr nd
    | cons x xs ih =>
      intro rs x5 x6 N g hN hl hr nd
      rw [forW_cons]
      refine ⟨trivial, ?_⟩
      simp -implicitDefEqProofs [getS]
      refine ⟨t, ns, cs, rfl, g.tn T, ok, fun r hr1 hr2 N' u => ?_⟩
      have hr' := And.intro hr1 hr2
      have g' := g.tu u
      have hN' : N' a = some (.lst (rs.map rD)) := by
        obtain ⟨p, l, _, rfl⟩ := u
        rw [updM_ne hat]; exact hN
      simp at hl
      simp -implicitDefEqProofs [getS, hN', rD_plain, plains_rs]
      refine ⟨by have := rD_depth r; omega, ?_⟩
      by_cases hm : r ∈ rs
      · rw [(mem_rs r rs).mpr hm]
        simp -implicitDefEqProofs
        exact ih rs _ _ N' g' hN' (by omega) hr nd
      · have e : memD (rD r) (rs.map rD) = false := by
          cases h : memD (rD r) (rs.map rD) with
          | false => rfl
          | true => exact absurd ((mem_rs r rs).mp h) hm
        rw [e]
        simp -implicitDefEqProofs [getS, appM, arg1, tyK_lst hN', hN']
        refine ⟨by rw [sizeLine_eq]; omega, ?_⟩
        have := ih (rs ++ [r]) (some x) (some (rD r)) (updM N' a (.lst (rs.map rD ++ [rD r]))) (g'.put ha hat) (by simp) (by simp; omega) (fun y hy => by
          simp at hy
          rcases hy with h | h
          · exact hr y h
          · rw [h]; exact hr') (List.nodup_append.mpr ⟨nd, by simp, fun y hy z hz e => hm (by simp at hz; rw [← hz, ← e]; exact hy)⟩)
        exact this
  refine main _ (fun rs x5 x6 N g hN hl hr nd => ?_) _ [] none none N g hN (by rw [intsD_len]; simp; omega) (by simp) List.nodup_nil
  simp -implicitDefEqProofs [getS, hN, tupB, arg1, seqK]
  exact g.dn (q rs ⟨⟨ok, by omega, fun r h => (hr r h).1, nd⟩, fun r h => (hr r h).2, hl⟩)
end DL

set_option Elab.async false
set_option linter.all false
set_option maxRecDepth 100000
namespace DL
open PySem PySem.Spec PyProof.Rows L2
def nubA {α : Type} [DecidableEq α] : List α → List α
  | [] => []
  | k :: ks => if k ∈ nubA ks then nubA ks else k :: nubA ks
theorem nub_map {α : Type} [DecidableEq α] {f : α → NestedKey} (hf : ∀ x y, f x = f y → x = y) : ∀ l : List α, nub (l.map f) = (nubA l).map f
  | [] => rfl
  | x :: l => by
    simp only [List.map_cons, nub, nubA, nub_map hf l]
    have e : (f x ∈ (nubA l).map f) ↔ x ∈ nubA l := by
      constructor
      · intro h
        obtain ⟨y, hy, e⟩ := List.mem_map.mp h
        rwa [← hf _ _ e]
      · intro h
        exact List.mem_map.mpr ⟨x, h, rfl⟩
    by_cases h : x ∈ nubA l
    · rw [if_pos (e.mpr h), if_pos h]
    · rw [if_neg (fun z => h (e.mp z)), if_neg h]
      rfl
theorem nubA_le {α : Type} [DecidableEq α] : ∀ l : List α, (nubA l).length ≤ l.length
  | [] => Nat.le_refl _
  | k :: l => by
    have := nubA_le l
    unfold nubA
    split <;> simp <;> omega
theorem nubA_in {α : Type} [DecidableEq α] {x : α} : ∀ {l : List α}, x ∈ nubA l → x ∈ l
  | [], h => by simp [nubA] at h
  | y :: l, h => by
    unfold nubA at h
    split at h
    · exact List.mem_cons_of_mem _ (nubA_in h)
    · rcases List.mem_cons.mp h with rfl | h
      · exact List.mem_cons_self
      · exact List.mem_cons_of_mem _ (nubA_in h)
theorem nubA_nodup {α : Type} [DecidableEq α] : ∀ l : List α, (nubA l).Nodup
  | [] => List.nodup_nil
  | y :: l => by
    unfold nubA
    split
    · exact nubA_nodup l
    · rename_i h; exact List.nodup_cons.mpr ⟨h, nubA_nodup l⟩
theorem nub_own {cs : Cls} {t : Tx} (ok : ClsOk cs) (hc : ∀ c ∈ t, c ∈ sgs cs) : (nubA (t.map (ownT cs))).length ≤ 4 := by
  have h := nodup_len (nubA_nodup (t.map (ownT cs))) (m := nms cs) fun x hx => by
    obtain ⟨c, hct, rfl⟩ := List.mem_map.mp (nubA_in hx)
    exact own_mem (hc c hct)
  have := ok.hi
  simp [nms] at h
  omega
theorem lenSet_any {l : List Tx} {k : Nat → Prop} (hl : (nubA l).length ≤ 64) (h : k (nubA l).length) : lenSetK (txs l) k := by
  refine ⟨plains_str _ _, by rw [nks_txs, nub_map (fun x y e => by simpa using e)]; simpa using hl, .inl fun x hx => ?_, ?_⟩
  · obtain ⟨z, _, rfl⟩ := List.mem_map.mp hx
    exact ⟨_, rfl⟩
  · rw [nks_txs, nub_map (fun x y e => by simpa using e)]
    simpa using h
theorem nub_one : ∀ w : Tx, (nubA (w.map fun c => [c])).length = (nubA w).length := by
  have : ∀ w : Tx, nubA (w.map fun c => [c]) = (nubA w).map fun c => [c] := by
    intro w
    induction w with
    | nil => rfl
    | cons c w ih =>
      simp only [List.map_cons, nubA, ih]
      by_cases h : c ∈ nubA w
      · rw [if_pos (by simpa using h), if_pos h]
      · rw [if_neg (by simpa using h), if_neg h]
        rfl
  intro w
  rw [this]
  simp
theorem lcW_on {α : Type} {chk : DM → Prop} {g : DG} {tt : DT} {te : DE} {ds : DSt} {M : DM} {Q : List D → DM → Prop} (F : α → D) (f : α → Option D) (hc : chk M) : ∀ (l : List α) (acc : List D),
    (∀ x ∈ l, ∀ (A : D → DM → Prop) (B : DM → Prop), (match f x with | some d => A d M | none => B M) → g (F x) ds M fun ds1 M1 => tt ds1 M1 fun b M2 => if b = true then te ds1 M2 A else B M2) →
    Q (acc ++ l.filterMap f) M → lcW chk g tt te ds (l.map F) acc M Q
  | [], acc, _, q => ⟨hc, by simpa using q⟩
  | x :: xs, acc, h, q => by
    refine ⟨hc, h x List.mem_cons_self (fun y M3 => lcW chk g tt te ds (xs.map F) (acc ++ [y]) M3 Q) (fun M2 => lcW chk g tt te ds (xs.map F) acc M2 Q) ?_⟩
    have ih := lcW_on (g := g) (tt := tt) (te := te) (ds := ds) F f hc (Q := Q) xs
    have h' := fun x hx => h x (List.mem_cons_of_mem _ hx)
    rw [List.filterMap_cons] at q
    cases e : f x with
    | none => rw [e] at q; exact ih acc h' q
    | some d => rw [e] at q; exact ih (acc ++ [d]) h' (by simpa using q)
theorem cnt_len (cs : Cls) (n : Tx) (t : Tx) : (t.filterMap fun c => if ownT cs c = n then some (D.str (sg c)) else none).length = (t.filter fun c => decide (ownT cs c = n)).length := by
  induction t with
  | nil => rfl
  | cons c t ih =>
    simp only [List.filterMap_cons, List.filter_cons]
    by_cases h : ownT cs c = n
    · simp [h, ih]
    · simp [h, ih]
def part (t : Tx) (i k : Nat) : Tx := (t.take (i + k + 1)).drop i
def kpL (cs : Cls) : Ru → Tx → Bool
  | .size lo hi, t => decide (lo ≤ (t.length : Int)) && (match hi with | none => true | some h => decide ((t.length : Int) ≤ h))
  | .least n k, t => decide (k ≤ ((t.filter fun c => decide (ownT cs c = n)).length : Int))
  | .most n k, t => decide (((t.filter fun c => decide (ownT cs c = n)).length : Int) ≤ k)
  | .kinds k, t => decide (k ≤ ((nubA (t.map (ownT cs))).length : Int))
  | .first n, t => match t.head? with | none => false | some c => decide (ownT cs c = n)
  | .last n, t => match t.getLast? with | none => false | some c => decide (ownT cs c = n)
  | .nt w, t => !strIn (S w) (S t)
  | .run k, t => (List.range (t.length - k.toNat)).all fun i => decide ((nubA (part t i k.toNat)).length ≠ 1)
  | .row k, t => (List.range (t.length - k.toNat)).all fun i => !(cs.any fun p => strIn (S (part t i k.toNat)) (S p.2))
section
variable {a : Addr} {M : DM}
theorem loopL1 {E : DEnds} {d0 d1 d2 d3 d6 d8 d9 d10 : Option D} {nm : Tx} : ∀ (s : Tx) (nd : List (Str × D)) (x7 : Option D), nd.length + s.length < sizeLine →
    (∀ x7', E.nx [d0, d1, d2, d3, some (.ref a), some (.str (S nm)), d6, x7', d8, d9, d10] (updM M a (.dS (putAll (s.map fun c => (sg c, .str (S nm))) nd)))) →
    forW (fun _ => True) (dgName 7) (dAsg (dVar 5) (dgSub (dVar 4) (dVar 7))) E (s.map fun c => .str (sg c)) [d0, d1, d2, d3, some (.ref a), some (.str (S nm)), d6, x7, d8, d9, d10] (updM M a (.dS nd))
  | [], nd, x7, _, h => by
    rw [List.map_nil, forW_nil]
    exact ⟨trivial, h x7⟩
  | c :: s, nd, x7, hl, h => by
    rw [List.map_cons, forW_cons]
    refine ⟨trivial, ?_⟩
    simp -implicitDefEqProofs [getS, dgSub]
    simp at hl
    refine ⟨by omega, ?_⟩
    have := putA_len nd (sg c) (.str (S nm))
    exact loopL1 s _ _ (by omega) fun x' => h x'
theorem loopL0 {E : DEnds} {d0 d1 d2 d3 d8 d9 d10 : Option D} : ∀ (cs : Cls) (nd : List (Str × D)) (x5 x6 x7 : Option D), nd.length + (NL cs).length < sizeLine →
    (∀ x5' x6' x7', E.nx [d0, d1, d2, d3, some (.ref a), x5', x6', x7', d8, d9, d10] (updM M a (.dS (putAll (NL cs) nd)))) →
    forW (fun _ => True) (dgTup 2 (dgCons (dgName 5) (dgCons (dgName 6) dgNil))) (dFor (diAny (dVar 6)) (dgName 7) (dAsg (dVar 5) (dgSub (dVar 4) (dVar 7)))) E (cs.map pairD) [d0, d1, d2, d3, some (.ref a), x5, x6, x7, d8, d9, d10] (updM M a (.dS nd))
  | [], nd, x5, x6, x7, _, h => by
    rw [List.map_nil, forW_nil]
    exact ⟨trivial, h x5 x6 x7⟩
  | q :: cs, nd, x5, x6, x7, h7, h => by
    rw [List.map_cons, forW_cons]
    refine ⟨trivial, ?_⟩
    have eN : NL (q :: cs) = nl1 q ++ NL cs := by simp [NL]
    rw [eN, List.length_append] at h7
    simp -implicitDefEqProofs [getS, pairD]
    rw [chars_S]
    have l1 : (nl1 q).length = q.2.length := by simp [nl1]
    have a1 := putAll_len (nl1 q) nd
    refine loopL1 q.2 nd x7 (by omega) fun x7' => ?_
    refine loopL0 cs _ _ _ _ (by show (putAll (nl1 q) nd).length + _ < _; omega) fun b c d => ?_
    have := h b c d
    rw [eN, putAll_app] at this
    exact this
end
def sp__law_keeps : DSp := fun ds M R => ∃ (cs : Cls) (r : Ru) (t : Tx), ds = [cD cs, rD r, .str (S t)] ∧ ClsOk cs ∧ RuOk cs r ∧ t.length ≤ 16777216 ∧ (∀ c ∈ t, c ∈ sgs cs) ∧ R (.bl (kpL cs r t)) M
theorem l_keepsL : ∀ ds M R, sp__law_keeps ds M R → R__law_keeps (topE R) (startD 11 ds) M := by
  rintro _ M R ⟨cs, r, t, rfl, ok, hr, ht, hc, q⟩
  have hs := sgs_len ok
  have hN : (NL cs).length = (sgs cs).length := NL_len
  have hnm := names_ok ok
  have hsz : t.length ≤ sizeLine := by rw [sizeLine_eq]; exact ht
  have word : ∃ w ts, rD r = .tup (.str w :: ts) := by cases r <;> exact ⟨_, _, rfl⟩
  obtain ⟨w, ts, hw⟩ := word
  simp -implicitDefEqProofs [R__law_keeps, startD, topE, getS]
  rw [hw]
  simp -implicitDefEqProofs only [getD_ti, atI0, optK_some]
  intro a ha
  simp -implicitDefEqProofs [cD]
  refine loopL0 cs [] _ _ _ (by rw [sizeLine_eq]; simp; omega) fun x5 x6 x7 => ?_
  rw [← hw]
  generalize hnd : putAll (NL cs) [] = nd at hnm ⊢
  have hD : ∀ c ∈ t, getA nd (S [c]) = some (.str (S (ownT cs c))) := fun c h => hnm c (hc c h)
  have fin : ∀ b, b = kpL cs r t → Dn R (.bl b) (updM M a (.dS nd)) := fun b e => .of (Le.new ha) (e ▸ q)
  have hcd : D.tup (List.map pairD cs) = cD cs := rfl
  cases r <;> (simp only [rD] at hw; injection hw with hw; injection hw with hw1 hw2; injection hw1 with hw1; subst hw1)
  case size lo hi =>
    simp -implicitDefEqProofs [getS, rD, atI0, atI1, atI2, ofString_inj]
    refine ⟨hsz, ?_⟩
    by_cases h : lo ≤ t.length
    · rw [if_pos h]
      cases hi with
      | none => simp -implicitDefEqProofs [oiD]; exact fin _ (by simp [kpL, h])
      | some hi => simp -implicitDefEqProofs [oiD]; exact ⟨hsz, fin _ (by simp [kpL, h])⟩
    · rw [if_neg h]; exact fin _ (by simp [kpL, h])
  case least n k =>
    simp -implicitDefEqProofs [getS, rD, atI0, atI1, atI2, ofString_inj, memD, plain, plains, nk, nks, NestedKey.depth, chars_S]
    refine ⟨hsz, lcW_on (fun c => D.str (sg c)) (fun c => if ownT cs c = n then some (.str (sg c)) else none) trivial _ _ (fun c hd A B h => ?_) fun p hp => ?_⟩
    · simp -implicitDefEqProofs [getS, hD c hd, atI1]
      by_cases e : ownT cs c = n
      · simpa [e] using h
      · simpa [e] using h
    · rw [List.nil_append, lenK_lst updM_same, cnt_len]
      exact Dn.of ((Le.new ha).trans (Le.new hp)) q
  case most n k =>
    simp -implicitDefEqProofs [getS, rD, atI0, atI1, atI2, ofString_inj, memD, plain, plains, nk, nks, NestedKey.depth, chars_S, S_nil]
    refine ⟨hsz, lcW_on (fun c => D.str (sg c)) (fun c => if ownT cs c = n then some (.str (sg c)) else none) trivial _ _ (fun c hd A B h => ?_) fun p hp => ?_⟩
    · simp -implicitDefEqProofs [getS, hD c hd, atI1]
      by_cases e : ownT cs c = n
      · simpa [e] using h
      · simpa [e] using h
    · rw [List.nil_append, lenK_lst updM_same, cnt_len]
      exact Dn.of ((Le.new ha).trans (Le.new hp)) q
  case kinds k =>
    simp -implicitDefEqProofs [getS, rD, atI0, atI1, atI2, ofString_inj, memD, plain, plains, nk, nks, NestedKey.depth, chars_S, S_nil]
    refine ⟨hsz, lcW_on (fun c => D.str (sg c)) (fun c => some (.str (S (ownT cs c)))) trivial _ _ (fun c hd A B h => ?_) fun p hp => ?_⟩
    · simp -implicitDefEqProofs [getS, hD c hd, atI1]
      exact h
    · have e : t.filterMap (fun c => some (D.str (S (ownT cs c)))) = txs (t.map (ownT cs)) := by simp [txs, Function.comp_def]
      rw [List.nil_append, e, itK_lst updM_same]
      exact lenSet_any (by have := nub_own ok hc; omega) (Dn.of ((Le.new ha).trans (Le.new hp)) q)
  case first n =>
    simp -implicitDefEqProofs [getS, rD, atI0, atI1, atI2, ofString_inj, memD, plain, plains, nk, nks, NestedKey.depth, chars_S, S_nil]
    cases t with
    | nil => simp; exact fin _ rfl
    | cons c r =>
      simp -implicitDefEqProofs [atI0, hD c List.mem_cons_self]
      exact ⟨hsz, fin _ rfl⟩
  case last n =>
    simp -implicitDefEqProofs [getS, rD, atI0, atI1, atI2, ofString_inj, memD, plain, plains, nk, nks, NestedKey.depth, chars_S, S_nil]
    by_cases e : t = []
    · subst e; simp; exact fin _ rfl
    · have e2 : atI t (-1) = t.getLast? := by
        have hl : 0 < t.length := List.length_pos_iff.mpr e
        have : ixN t.length (-1) = some (t.length - 1) := by
          unfold ixN
          rw [if_neg (by decide), if_pos (by omega)]
          exact congrArg some (by omega)
        unfold atI
        rw [this]
        simp [List.getLast?_eq_getElem?]
      rw [if_neg e, e2]
      cases h : t.getLast? with
      | none => exact absurd (List.getLast?_eq_none_iff.mp h) e
      | some c =>
        have hm : c ∈ t := List.mem_of_getLast? h
        simp -implicitDefEqProofs [hD c hm]
        exact ⟨hsz, fin _ (by simp [kpL, h])⟩
  case nt w =>
    simp -implicitDefEqProofs [getS, rD, atI0, atI1, atI2, ofString_inj, memD, plain, plains, nk, nks, NestedKey.depth, chars_S]
    exact fin _ (by simp [kpL])
  case run k =>
    simp -implicitDefEqProofs [getS, rD, atI0, atI1, atI2, ofString_inj, memD, plain, plains, nk, nks, NestedKey.depth, chars_S, S_nil]
    obtain ⟨k0, k1⟩ : inC k 1 4 := hr
    obtain ⟨j, rfl⟩ : ∃ j : Nat, k = j := ⟨k.toNat, by omega⟩
    refine ⟨hsz, ⟨by omega, by omega⟩, ?_⟩
    have main : ∀ (E : DEnds) (n i : Nat) (x9 x10 : Option D) (N : DM), i + n = t.length - j → ((List.range' i n).all (fun i => decide ((nubA (part t i j)).length ≠ 1)) = true → ∀ x9 x10, E.nx [some (D.tup (List.map pairD cs)), some (D.tup [w_ "run", D.int j]), some (D.str (S t)), some (D.str (Str.ofString "run")), some (D.ref a), x5, x6, x7, none, x9, x10] N) →
        ((List.range' i n).all (fun i => decide ((nubA (part t i j)).length ≠ 1)) = false → E.rt (.bl false) N) →
        forW (fun _ => True) (dgName 9) (dSeq (dSet 10 (dSl (dVar 2) (dPart (dVar 9)) (dPart (dOp addD (dOp addD (dVar 9) (dOp getD (dVar 1) (dC (D.int 1)))) (dC (D.int 1))))))
          (dSeq (dIfS (dAnd (dTest (dOp eqD (dVar 3) (dC (D.str (Str.ofString "run"))))) (dTest (dOp eqD (dLenSet (dVar 10)) (dC (D.int 1))))) (dRet (dC (D.bl false))) dNext)
            (dIfS (dAnd (dTest (dOp eqD (dVar 3) (dC (D.str (Str.ofString "row"))))) (dTru (dCB anyB (daCons (dLc (diAny (dVar 0)) (dgTup 2 (dgCons (dgName 5) (dgCons (dgName 6) dgNil))) dYes (dOp inD (dVar 10) (dVar 6)) [5, 6]) daNil)))) (dRet (dC (D.bl false))) dNext))) E (intsD i n)
          [some (D.tup (List.map pairD cs)), some (D.tup [w_ "run", D.int j]), some (D.str (S t)), some (D.str (Str.ofString "run")), some (D.ref a), x5, x6, x7, none, x9, x10] N := by
      intro E n
      induction n with
      | zero =>
        intro i x9 x10 N hi h1 h2
        simp only [intsD]
        rw [forW_nil]
        exact ⟨trivial, h1 rfl x9 x10⟩
      | succ n ih =>
        intro i x9 x10 N hi h1 h2
        simp only [intsD]
        rw [forW_cons]
        refine ⟨trivial, ?_⟩
        have ec : cutS (S t) (some (i : Int)) (some ((i : Int) + (j : Int) + 1)) = S (part t i j) := by
          have := cut_S t i (i + j + 1)
          push_cast at this
          exact this
        simp -implicitDefEqProofs [getS, atI1, ofString_inj, ec]
        refine ⟨hsz, ?_⟩
        rw [chars_txs]
        have hpl : (part t i j).length ≤ j + 1 := by simp [part]; omega
        refine lenSet_any (by have := nubA_le ((part t i j).map fun c => [c]); simp at this; omega) ?_
        rw [nub_one]
        rw [List.range'_succ, List.all_cons] at h1 h2
        by_cases e : (nubA (part t i j)).length = 1
        · rw [if_pos (by rw [e]; rfl)]
          exact h2 (by simp [e])
        · rw [if_neg (by omega)]
          have := ih (i + 1) (some (D.int i)) (some (D.str (S (part t i j)))) N (by omega) (fun h => h1 (by simp [e]; simpa using h)) (fun h => h2 (by simp [e]; simpa using h))
          simpa using this
    have hn : ((t.length : Int) - (j : Int)).toNat = t.length - j := by omega
    rw [hn]
    have := main { nx := dRet (dC (D.bl true)) (topE R), rt := fun d M => Dn R d M, bk := fun _ _ => False, ct := fun _ _ => False } (t.length - j) 0 none none (updM M a (.dS nd)) (by omega) (fun h x9 x10 => ?_) (fun h => ?_)
    · exact this
    · exact fin _ (by simp only [kpL, Int.toNat_natCast, List.range_eq_range', h])
    · exact fin _ (by simp only [kpL, Int.toNat_natCast, List.range_eq_range', h])
  case row k =>
    simp -implicitDefEqProofs [getS, rD, atI0, atI1, atI2, ofString_inj, memD, plain, plains, nk, nks, NestedKey.depth, chars_S, S_nil]
    obtain ⟨k0, k1⟩ : inC k 1 4 := hr
    obtain ⟨j, rfl⟩ : ∃ j : Nat, k = j := ⟨k.toNat, by omega⟩
    refine ⟨hsz, ⟨by omega, by omega⟩, ?_⟩
    have main : ∀ (E : DEnds) (n i : Nat) (x9 x10 : Option D) (N : DM), i + n = t.length - j → Le (updM M a (.dS nd)) N → ((List.range' i n).all (fun i => !(cs.any fun p => strIn (S (part t i j)) (S p.2))) = true → ∀ x9 x10 N, Le (updM M a (.dS nd)) N → E.nx [some (D.tup (List.map pairD cs)), some (D.tup [w_ "row", D.int j]), some (D.str (S t)), some (D.str (Str.ofString "row")), some (D.ref a), x5, x6, x7, none, x9, x10] N) →
        ((List.range' i n).all (fun i => !(cs.any fun p => strIn (S (part t i j)) (S p.2))) = false → ∀ N, Le (updM M a (.dS nd)) N → E.rt (.bl false) N) →
        forW (fun _ => True) (dgName 9) (dSeq (dSet 10 (dSl (dVar 2) (dPart (dVar 9)) (dPart (dOp addD (dOp addD (dVar 9) (dOp getD (dVar 1) (dC (D.int 1)))) (dC (D.int 1))))))
          (dSeq (dIfS (dAnd (dTest (dOp eqD (dVar 3) (dC (D.str (Str.ofString "run"))))) (dTest (dOp eqD (dLenSet (dVar 10)) (dC (D.int 1))))) (dRet (dC (D.bl false))) dNext)
            (dIfS (dAnd (dTest (dOp eqD (dVar 3) (dC (D.str (Str.ofString "row"))))) (dTru (dCB anyB (daCons (dLc (diAny (dVar 0)) (dgTup 2 (dgCons (dgName 5) (dgCons (dgName 6) dgNil))) dYes (dOp inD (dVar 10) (dVar 6)) [5, 6]) daNil)))) (dRet (dC (D.bl false))) dNext))) E (intsD i n)
          [some (D.tup (List.map pairD cs)), some (D.tup [w_ "row", D.int j]), some (D.str (S t)), some (D.str (Str.ofString "row")), some (D.ref a), x5, x6, x7, none, x9, x10] N := by
      intro E n
      induction n with
      | zero =>
        intro i x9 x10 N hi hle h1 h2
        simp only [intsD]
        rw [forW_nil]
        exact ⟨trivial, h1 rfl x9 x10 N hle⟩
      | succ n ih =>
        intro i x9 x10 N hi hle h1 h2
        simp only [intsD]
        rw [forW_cons]
        refine ⟨trivial, ?_⟩
        have ec : cutS (S t) (some (i : Int)) (some ((i : Int) + (j : Int) + 1)) = S (part t i j) := by
          have := cut_S t i (i + j + 1)
          push_cast at this
          exact this
        simp -implicitDefEqProofs [getS, atI1, ofString_inj, ec, -List.any_eq_true]
        refine ⟨hsz, small1000 (by have := ok.hi; omega), lcW_on pairD (fun p => some (.bl (strIn (S (part t i j)) (S p.2)))) trivial _ _ (fun p hp A B h => ?_) fun p hp => ?_⟩
        · simp -implicitDefEqProofs [getS, pairD]
          exact h
        · have e1 : cs.filterMap (fun p => some (D.bl (strIn (S (part t i j)) (S p.2)))) = cs.map fun p => D.bl (strIn (S (part t i j)) (S p.2)) := by simp
          rw [List.nil_append, e1]
          refine ⟨fun x hx => by obtain ⟨p, _, rfl⟩ := List.mem_map.mp hx; rfl, ?_⟩
          have e2 : (cs.map fun p => D.bl (strIn (S (part t i j)) (S p.2))).any truB = cs.any fun p => strIn (S (part t i j)) (S p.2) := by
            rw [List.any_map]; rfl
          rw [e2]
          rw [List.range'_succ, List.all_cons] at h1 h2
          have hle' := hle.trans (Le.new (o := .lst (cs.map fun p => D.bl (strIn (S (part t i j)) (S p.2)))) hp)
          by_cases e : (cs.any fun p => strIn (S (part t i j)) (S p.2)) = true
          · rw [if_pos e]
            exact h2 (by rw [e]; rfl) _ hle'
          · rw [if_neg e]
            have e : (cs.any fun p => strIn (S (part t i j)) (S p.2)) = false := by simpa using e
            have := ih (i + 1) (some (D.int i)) (some (D.str (S (part t i j)))) _ (by omega) hle' (fun h => h1 (by rw [e, h]; rfl)) (fun h => h2 (by rw [e, h]; rfl))
            simpa using this
    have hn : ((t.length : Int) - (j : Int)).toNat = t.length - j := by omega
    rw [hn]
    have fin2 : ∀ b, b = kpL cs (.row j) t → ∀ N, Le (updM M a (.dS nd)) N → Dn R (.bl b) N := fun b e N l => Dn.of ((Le.new ha).trans l) (e ▸ q)
    have := main { nx := dRet (dC (D.bl true)) (topE R), rt := fun d M => Dn R d M, bk := fun _ _ => False, ct := fun _ _ => False } (t.length - j) 0 none none (updM M a (.dS nd)) (by omega) (Le.refl _) (fun h x9 x10 N l => ?_) (fun h N l => ?_)
    · exact this
    · exact fin2 _ (by simp only [kpL, Int.toNat_natCast, List.range_eq_range', h]) N l
    · exact fin2 _ (by simp only [kpL, Int.toNat_natCast, List.range_eq_range', h]) N l
end DL

set_option Elab.async false
set_option linter.all false
set_option maxRecDepth 100000
namespace DL
open PySem PySem.Spec PyProof.Rows L2
def run1 (cs : Cls) (r : Ru) (o : Option One) (t : Tx) : Option One := t.foldl (fun s c => s.bind fun o => mv cs r o c) o
theorem run1_none (cs : Cls) (r : Ru) : ∀ t, run1 cs r none t = none
  | [] => rfl
  | c :: t => run1_none cs r t
theorem run1_cons (cs : Cls) (r : Ru) (o : One) (c : Nat) (t : Tx) : run1 cs r (some o) (c :: t) = run1 cs r (mv cs r o c) t := rfl
theorem runS_one (cs : Cls) (r : Ru) : ∀ (t : Tx) (o : Option One), t.foldl (stp cs [r]) (o.map fun o => [o]) = (run1 cs r o t).map fun o => [o]
  | [], o => rfl
  | c :: t, none => by
    rw [run1_none]
    have := runS_one cs r t none
    rw [run1_none] at this
    exact this
  | c :: t, some o => by
    rw [run1_cons]
    have := runS_one cs r t (mv cs r o c)
    rw [← this]
    show t.foldl (stp cs [r]) (stp cs [r] (some [o]) c) = _
    congr 1
    simp only [stp, Option.bind, mvs]
    cases mv cs r o c <;> rfl
theorem okM_eq (cs : Cls) (r : Ru) (t : Tx) : okM cs t r = match run1 cs r (some (start1 r)) t with
    | none => false
    | some o => kp r o := by
  have := runS_one cs r t (some (start1 r))
  unfold okM runS
  show fineB [r] (t.foldl (stp cs [r]) (some [start1 r])) = _
  rw [show (some [start1 r] : St1) = (some (start1 r)).map fun o => [o] from rfl, this]
  cases run1 cs r (some (start1 r)) t with
  | none => rfl
  | some o => simp [fineB, kps]
theorem size_none (cs : Cls) (lo : Int) : ∀ (t : Tx) (n : Int), n ≤ lo → run1 cs (.size lo none) (some (.i n)) t = some (.i (if n + t.length ≤ lo then n + t.length else lo))
  | [], n, h => by simp [run1, h]
  | c :: t, n, h => by
    rw [run1_cons]
    simp only [mv, cnt, Option.getD, Option.isSome]
    by_cases h1 : n + 1 ≤ lo
    · rw [if_pos h1, size_none cs lo t _ h1]
      have e : n + 1 + (t.length : Int) = n + ((c :: t).length : Int) := by simp; omega
      rw [e]
    · rw [if_neg h1]
      simp only [Bool.false_eq_true, ↓reduceIte]
      rw [size_none cs lo t lo (Int.le_refl _)]
      congr 2
      simp only [List.length_cons]
      split <;> split <;> push_cast at * <;> omega
theorem size_some (cs : Cls) (lo hi : Int) : ∀ (t : Tx) (n : Int), n ≤ hi → run1 cs (.size lo (some hi)) (some (.i n)) t = if n + t.length ≤ hi then some (.i (n + t.length)) else none
  | [], n, h => by simp [run1, h]
  | c :: t, n, h => by
    rw [run1_cons]
    simp only [mv, cnt, Option.getD, Option.isSome]
    have e : n + 1 + (t.length : Int) = n + ((c :: t).length : Int) := by simp; omega
    by_cases h1 : n + 1 ≤ hi
    · rw [if_pos h1, size_some cs lo hi t _ h1, e]
    · rw [if_neg h1]
      simp only [↓reduceIte]
      rw [run1_none, if_neg (by simp; omega)]
def cn (cs : Cls) (n : Tx) (t : Tx) : Int := ((t.filter fun c => decide (ownT cs c = n)).length : Int)
theorem cn_cons (cs : Cls) (n : Tx) (c : Nat) (t : Tx) : cn cs n (c :: t) = (if ownT cs c = n then 1 else 0) + cn cs n t := by
  unfold cn
  rw [List.filter_cons]
  by_cases h : ownT cs c = n
  · simp [h]; omega
  · simp [h]
theorem cn_pos (cs : Cls) (n : Tx) (t : Tx) : 0 ≤ cn cs n t := by unfold cn; omega
theorem least_run (cs : Cls) (nm : Tx) (k : Int) : ∀ (t : Tx) (n : Int), n ≤ k → run1 cs (.least nm k) (some (.i n)) t = some (.i (if n + cn cs nm t ≤ k then n + cn cs nm t else k))
  | [], n, h => by simp [run1, cn, h]
  | c :: t, n, h => by
    rw [run1_cons, cn_cons]
    simp only [mv, cnt]
    have hp := cn_pos cs nm t
    generalize (if ownT cs c = nm then (1 : Int) else 0) = d
    by_cases h1 : n + d ≤ k
    · rw [if_pos h1, least_run cs nm k t _ h1, Int.add_assoc]
    · rw [if_neg h1]
      simp only [Bool.false_eq_true, ↓reduceIte]
      rw [least_run cs nm k t k (Int.le_refl _), if_neg (show ¬ n + (d + cn cs nm t) ≤ k by omega)]
      congr 2
      split <;> omega
theorem most_run (cs : Cls) (nm : Tx) (k : Int) : ∀ (t : Tx) (n : Int), n ≤ k → run1 cs (.most nm k) (some (.i n)) t = if n + cn cs nm t ≤ k then some (.i (n + cn cs nm t)) else none
  | [], n, h => by simp [run1, cn, h]
  | c :: t, n, h => by
    rw [run1_cons, cn_cons]
    simp only [mv, cnt]
    have hp := cn_pos cs nm t
    generalize (if ownT cs c = nm then (1 : Int) else 0) = d
    by_cases h1 : n + d ≤ k
    · rw [if_pos h1, most_run cs nm k t _ h1, Int.add_assoc]
    · rw [if_neg h1]
      simp only [↓reduceIte]
      rw [run1_none, if_neg (by omega)]
theorem nubA_mem {α : Type} [DecidableEq α] {x : α} : ∀ {l : List α}, x ∈ nubA l ↔ x ∈ l
  | [] => by simp [nubA]
  | y :: l => by
    unfold nubA
    by_cases h : y ∈ nubA l
    · rw [if_pos h, nubA_mem]
      simp
      intro e
      rw [e]
      exact nubA_mem.mp h
    · rw [if_neg h]
      simp [nubA_mem]
theorem nubA_nd {α : Type} [DecidableEq α] : ∀ l : List α, (nubA l).Nodup
  | [] => List.nodup_nil
  | y :: l => by
    unfold nubA
    by_cases h : y ∈ nubA l
    · rw [if_pos h]; exact nubA_nd l
    · rw [if_neg h]; exact List.nodup_cons.mpr ⟨h, nubA_nd l⟩
theorem kinds_run (cs : Cls) (k : Int) : ∀ (t : Tx) (ns : List Tx), ns.Nodup → ∃ ms, run1 cs (.kinds k) (some (.t ns)) t = some (.t ms) ∧ ms.Nodup ∧ ∀ x, x ∈ ms ↔ x ∈ ns ∨ x ∈ t.map (ownT cs)
  | [], ns, h => ⟨ns, rfl, h, fun x => by simp⟩
  | c :: t, ns, h => by
    rw [run1_cons]
    simp only [mv]
    by_cases hm : ownT cs c ∈ ns
    · rw [if_pos hm]
      obtain ⟨ms, h1, h2, h3⟩ := kinds_run cs k t ns h
      refine ⟨ms, h1, h2, fun x => ?_⟩
      rw [h3, List.map_cons, List.mem_cons]
      constructor
      · rintro (a | a)
        · exact .inl a
        · exact .inr (.inr a)
      · rintro (a | a | a)
        · exact .inl a
        · exact .inl (a ▸ hm)
        · exact .inr a
    · rw [if_neg hm]
      have p := srt_perm (ns ++ [ownT cs c])
      have nd : (srt (ns ++ [ownT cs c])).Nodup := p.nodup_iff.mpr (List.nodup_append.mpr ⟨h, by simp, fun a ha b hb e => hm (by simp at hb; rw [← hb, ← e]; exact ha)⟩)
      obtain ⟨ms, h1, h2, h3⟩ := kinds_run cs k t _ nd
      refine ⟨ms, h1, h2, fun x => ?_⟩
      rw [h3, p.mem_iff, List.map_cons, List.mem_cons, List.mem_append, List.mem_singleton, or_assoc]
theorem kinds_len (cs : Cls) (k : Int) (t : Tx) : ∃ ms, run1 cs (.kinds k) (some (.t [])) t = some (.t ms) ∧ ms.length = (nubA (t.map (ownT cs))).length := by
  obtain ⟨ms, h1, h2, h3⟩ := kinds_run cs k t [] List.nodup_nil
  refine ⟨ms, h1, Nat.le_antisymm (nodup_len h2 fun x hx => ?_) (nodup_len (nubA_nd _) fun x hx => ?_)⟩
  · have := (h3 x).mp hx
    simp only [List.not_mem_nil, false_or] at this
    exact nubA_mem.mpr this
  · exact (h3 x).mpr (.inr (nubA_mem.mp hx))
theorem first_stay (cs : Cls) (n : Tx) (x : Tx) (hx : x ≠ []) : ∀ t, run1 cs (.first n) (some (.s x)) t = some (.s x)
  | [] => rfl
  | c :: t => by
    rw [run1_cons]
    simp only [mv]
    rw [if_pos hx]
    exact first_stay cs n x hx t
theorem last_run (cs : Cls) (n : Tx) : ∀ (t : Tx) (x : Tx), run1 cs (.last n) (some (.s x)) t = some (.s (match t.getLast? with | none => x | some c => ownT cs c))
  | [], x => rfl
  | [c], x => rfl
  | c :: d :: t, x => by
    rw [run1_cons]
    simp only [mv]
    rw [last_run cs n (d :: t) (ownT cs c)]
    rw [List.getLast?_cons_cons]
    cases h : (d :: t).getLast? with
    | none => simp at h
    | some e => rfl
end DL

set_option Elab.async false
set_option linter.all false
set_option maxRecDepth 100000
namespace DL
open PySem PySem.Spec PyProof.Rows L2
/-! ### the rule 'not' -/
def Pre (t e : Tx) : Prop := t.take e.length = e
theorem trim_suf (t : Tx) : ∀ e, trim t e <:+ e
  | [] => by simp [trim]
  | c :: r => by
    unfold trim
    split
    · exact List.suffix_refl _
    · exact (trim_suf t r).trans (List.suffix_cons c r)
theorem trim_pre (t : Tx) : ∀ e, Pre t (trim t e)
  | [] => by simp [trim, Pre]
  | c :: r => by
    unfold trim
    split
    · rename_i h; exact h
    · exact trim_pre t r
theorem trim_max (t : Tx) : ∀ (e s : Tx), s <:+ e → Pre t s → s <:+ trim t e
  | [], s, h, _ => by simpa [trim] using h
  | c :: r, s, h, p => by
    unfold trim
    split
    · exact h
    · rename_i hn
      rcases List.suffix_cons_iff.mp h with e | h'
      · subst e; exact absurd p hn
      · exact trim_max t r s h' p
theorem suf_anti {a b : Tx} (h : a <:+ b) (h' : b <:+ a) : a = b := h.eq_of_length (Nat.le_antisymm h.length_le h'.length_le)
theorem pre_init {t s : Tx} {c : Nat} (h : Pre t (s ++ [c])) : Pre t s := by
  unfold Pre at h ⊢
  have := congrArg (List.take s.length) h
  rw [List.take_take, List.take_left] at this
  rwa [Nat.min_eq_left (by simp)] at this
theorem suf_snoc {s u : Tx} {c : Nat} (h : s <:+ u ++ [c]) (hs : s ≠ []) : ∃ s', s = s' ++ [c] ∧ s' <:+ u := by
  obtain ⟨p, hp⟩ := h
  rcases List.eq_nil_or_concat s with rfl | ⟨s', d, rfl⟩
  · exact absurd rfl hs
  · rw [List.concat_eq_append, ← List.append_assoc] at hp
    obtain ⟨h1, h2⟩ := List.append_inj' hp rfl
    have : d = c := by simpa using h2
    subst this
    exact ⟨s', by rw [List.concat_eq_append], p, h1⟩
/-- what ends u ++ [c] and begins t also ends trim u ++ [c] -/
theorem suf_trim {t s u : Tx} {c : Nat} (h : s <:+ u ++ [c]) (p : Pre t s) : s <:+ trim t u ++ [c] := by
  by_cases hs : s = []
  · subst hs; exact List.nil_suffix
  · obtain ⟨s', rfl, h'⟩ := suf_snoc h hs
    obtain ⟨q, hq⟩ := trim_max t u s' h' (pre_init p)
    exact ⟨q, by rw [← List.append_assoc, hq]⟩
theorem snoc_suf {t u : Tx} {c : Nat} : trim t u ++ [c] <:+ u ++ [c] := by
  obtain ⟨q, hq⟩ := trim_suf t u
  exact ⟨q, by rw [← List.append_assoc, hq]⟩
theorem trim_snoc (t u : Tx) (c : Nat) : trim t (u ++ [c]) = trim t (trim t u ++ [c]) :=
  suf_anti (trim_max _ _ _ (suf_trim (trim_suf _ _) (trim_pre _ _)) (trim_pre _ _)) (trim_max _ _ _ ((trim_suf _ _).trans snoc_suf) (trim_pre _ _))
theorem ends_iff (e t : Tx) : endsB e t = true ↔ t <:+ e := by
  unfold endsB
  rw [decide_eq_true_eq]
  constructor
  · rintro ⟨h1, h2⟩
    rw [← h2]
    exact List.drop_suffix _ _
  · rintro ⟨p, rfl⟩
    refine ⟨by simp, ?_⟩
    simp
theorem pre_self (t : Tx) : Pre t t := by unfold Pre; simp
theorem ends_trim (t u : Tx) (c : Nat) : endsB (u ++ [c]) t = endsB (trim t u ++ [c]) t := by
  rw [Bool.eq_iff_iff, ends_iff, ends_iff]
  exact ⟨fun h => suf_trim h (pre_self t), fun h => h.trans snoc_suf⟩
theorem inf_snoc {t u : Tx} {c : Nat} : t <:+: u ++ [c] ↔ t <:+: u ∨ t <:+ u ++ [c] := by
  constructor
  · rintro ⟨a, b, h⟩
    rcases List.eq_nil_or_concat b with rfl | ⟨b', d, rfl⟩
    · exact .inr ⟨a, by simpa using h⟩
    · rw [List.concat_eq_append, ← List.append_assoc] at h
      obtain ⟨h1, _⟩ := List.append_inj' h rfl
      exact .inl ⟨a, b', h1⟩
  · rintro (h | h)
    · exact h.trans (List.prefix_append u [c]).isInfix
    · exact h.isInfix
theorem nt_run (cs : Cls) (t : Tx) : ∀ (v u : Tx), ¬ t <:+: u → ((run1 cs (.nt t) (some (.s (trim t u))) v).isSome = true ↔ ¬ t <:+: u ++ v)
  | [], u, h => by simp [run1, h]
  | c :: v, u, h => by
    rw [run1_cons]
    simp only [mv, um, ← ends_trim, ← trim_snoc]
    have e : u ++ c :: v = (u ++ [c]) ++ v := by simp
    rw [e]
    by_cases hb : endsB (u ++ [c]) t = true
    · rw [if_pos hb, run1_none]
      have : t <:+: u ++ [c] ++ v := ((ends_iff _ _).mp hb).isInfix.trans (List.prefix_append _ v).isInfix
      exact ⟨fun z => (by cases z), fun z => absurd this z⟩
    · rw [if_neg hb]
      have h' : ¬ t <:+: u ++ [c] := fun z => by
        rcases inf_snoc.mp z with z | z
        · exact h z
        · exact hb ((ends_iff _ _).mpr z)
      exact nt_run cs t v (u ++ [c]) h'
theorem strIn_inf (a b : Tx) : strIn (S b) (S a) = true ↔ b <:+: a := by
  rw [strIn_iff]
  constructor
  · rintro ⟨i, _, h⟩
    exact ⟨a.take i, (a.drop i).drop b.length, by
      have : a.take i ++ ((a.drop i).take b.length ++ (a.drop i).drop b.length) = a := by rw [List.take_append_drop, List.take_append_drop]
      rw [h] at this
      rw [List.append_assoc]; exact this⟩
  · rintro ⟨p, q, rfl⟩
    refine ⟨p.length, by simp, ?_⟩
    rw [List.append_assoc, List.drop_left, List.take_left]
theorem nt_state (cs : Cls) (t : Tx) : ∀ (v : Tx) (x : Tx) (o : One), run1 cs (.nt t) (some (.s x)) v = some o → ∃ y, o = .s y
  | [], x, o, h => ⟨x, (Option.some.inj h).symm⟩
  | c :: v, x, o, h => by
    rw [run1_cons] at h
    simp only [mv, um] at h
    split at h
    · rw [run1_none] at h; cases h
    · exact nt_state cs t v _ o h
/-! ### chains: 'run' and 'row' -/
def chn (rel : Nat → Nat → Bool) : Tx → Bool
  | a :: b :: r => rel a b && chn rel (b :: r)
  | _ => true
theorem chn_app (rel : Nat → Nat → Bool) : ∀ (x y : Tx), chn rel (x ++ y) = (chn rel x && chn rel y && (match x.getLast?, y.head? with | some a, some b => rel a b | _, _ => true))
  | [], y => by simp [chn]
  | [a], [] => by simp [chn]
  | [a], b :: y => by simp [chn, Bool.and_comm]
  | a :: b :: x, y => by
    have := chn_app rel (b :: x) y
    simp only [List.cons_append] at this ⊢
    simp only [chn]
    rw [this, List.getLast?_cons_cons]
    simp only [Bool.and_assoc]
def runC (rel : Nat → Nat → Bool) (k : Nat) : Option (Option Nat × Nat) → Tx → Option (Option Nat × Nat)
  | o, [] => o
  | none, _ :: _ => none
  | some (s, n), c :: t => runC rel k (let m := if s.any (rel · c) then n + 1 else 1; if m ≤ k then some (some c, m) else none) t
def NoBad (rel : Nat → Nat → Bool) (k : Nat) (u : Tx) : Prop := ∀ y, y <:+: u → y.length = k + 1 → chn rel y = false
structure Inv1 (rel : Nat → Nat → Bool) (k : Nat) (u : Tx) (s : Option Nat) (n : Nat) : Prop where
  ex : ∃ v l, u = v ++ l ∧ l.length = n ∧ s = l.getLast? ∧ chn rel l = true ∧ n ≤ k ∧ (∀ a b, v.getLast? = some a → l.head? = some b → rel a b = false) ∧ (l = [] → v = [])
theorem runC_ok (rel : Nat → Nat → Bool) (k : Nat) (hk : 1 ≤ k) : ∀ (t u : Tx) (s : Option Nat) (n : Nat), Inv1 rel k u s n → NoBad rel k u → ((runC rel k (some (s, n)) t).isSome = true ↔ NoBad rel k (u ++ t))
  | [], u, s, n, _, h => by simp [runC, h]
  | c :: t, u, s, n, I, h => by
    obtain ⟨v, l, hu, hl, hs, hch, hn, hbr, hnil⟩ := I.ex
    have e : u ++ c :: t = (u ++ [c]) ++ t := by simp
    rw [e]
    simp only [runC]
    have nb : ∀ (v' l' : Tx), u ++ [c] = v' ++ l' → l'.length ≤ k → (∀ a b, v'.getLast? = some a → l'.head? = some b → rel a b = false) → l' ≠ [] → NoBad rel k (u ++ [c]) := by
      intro v' l' e' hlk hb' hne y hy hyl
      rcases inf_snoc.mp hy with z | ⟨p, hp⟩
      · exact h y z hyl
      · rw [e'] at hp
        obtain ⟨y1, rfl⟩ : ∃ y1, y = y1 ++ l' := by
          have h1 : l' <:+ p ++ y := ⟨v', hp.symm⟩
          have h2 : y <:+ p ++ y := ⟨p, rfl⟩
          obtain ⟨q, hq⟩ := List.suffix_of_suffix_length_le h1 h2 (by omega)
          exact ⟨q, hq.symm⟩
        have hy1 : y1 ≠ [] := fun z => by subst z; simp at hyl; omega
        rw [← List.append_assoc] at hp
        obtain ⟨hv, _⟩ := List.append_inj' hp rfl
        rw [chn_app]
        obtain ⟨a, ha⟩ : ∃ a, y1.getLast? = some a := by
          cases hz : y1.getLast? with
          | none => exact absurd (List.getLast?_eq_none_iff.mp hz) hy1
          | some a => exact ⟨a, rfl⟩
        obtain ⟨b, r, rfl⟩ := List.exists_cons_of_ne_nil hne
        have : v'.getLast? = some a := by rw [← hv, List.getLast?_append, ha]; rfl
        simp [ha, hb' a b this rfl]
    cases hl' : l with
    | nil =>
      have hv := hnil hl'
      subst hl' hv
      simp at hl hs hu
      subst hl hs hu
      simp only [Option.any, Bool.false_eq_true, ↓reduceIte]
      rw [if_pos hk]
      refine runC_ok rel k hk t _ _ _ ⟨[], [c], by simp, rfl, rfl, rfl, hk, by simp, by simp⟩ (nb [] [c] rfl (by simpa using hk) (by simp) (by simp))
    | cons b0 l0 =>
      have hne : l ≠ [] := by rw [hl']; simp
      obtain ⟨d, hd⟩ : ∃ d, l.getLast? = some d := by
        cases hz : l.getLast? with
        | none => exact absurd (List.getLast?_eq_none_iff.mp hz) hne
        | some d => exact ⟨d, rfl⟩
      rw [hd] at hs
      subst hs
      simp only [Option.any]
      by_cases hr : rel d c = true
      · rw [if_pos hr]
        have hch2 : chn rel (l ++ [c]) = true := by rw [chn_app, hd]; simp [hch, hr, chn]
        have hu2 : u ++ [c] = v ++ (l ++ [c]) := by rw [hu, List.append_assoc]
        have hhd : (l ++ [c]).head? = l.head? := by rw [hl']; rfl
        by_cases hm : n + 1 ≤ k
        · rw [if_pos hm]
          refine runC_ok rel k hk t _ _ _ ⟨v, l ++ [c], hu2, by simp [hl], by simp, hch2, hm, fun a b h1 h2 => hbr a b h1 (hhd ▸ h2), by simp⟩ (nb v (l ++ [c]) hu2 (by simp; omega) (fun a b h1 h2 => hbr a b h1 (hhd ▸ h2)) (by simp))
        · rw [if_neg hm]
          have : runC rel k none t = none := by cases t <;> rfl
          rw [this]
          simp only [Option.isSome_none, Bool.false_eq_true, false_iff]
          intro hbad
          have hlen : (l ++ [c]).length = k + 1 := by simp; omega
          have := hbad (l ++ [c]) ⟨v, t, by rw [hu2]⟩ hlen
          rw [hch2] at this
          cases this
      · rw [if_neg hr, if_pos hk]
        have hr' : rel d c = false := by simpa using hr
        have hlast : u.getLast? = some d := by rw [hu, List.getLast?_append, hd]; rfl
        refine runC_ok rel k hk t _ _ _ ⟨u, [c], rfl, rfl, rfl, rfl, hk, fun a b h1 h2 => ?_, by simp⟩ (nb u [c] rfl (by simpa using hk) (fun a b h1 h2 => ?_) (by simp))
        · rw [hlast] at h1; cases h1; simp at h2; rw [← h2]; exact hr'
        · rw [hlast] at h1; cases h1; simp at h2; rw [← h2]; exact hr'
end DL

set_option Elab.async false
set_option linter.all false
set_option maxRecDepth 100000
namespace DL
open PySem PySem.Spec PyProof.Rows L2
def relRun : Nat → Nat → Bool := fun a b => a == b
def relRow (cs : Cls) : Nat → Nat → Bool := fun a b => decide (fol cs a = some b)
def tS : Option Nat → Tx
  | none => []
  | some c => [c]
theorem run_sim (cs : Cls) (k : Nat) : ∀ (t : Tx) (s : Option Nat) (n : Nat), run1 cs (.run k) (some (.p (tS s) n)) t = (runC relRun k (some (s, n)) t).map fun e => .p (tS e.1) e.2
  | [], s, n => rfl
  | c :: t, s, n => by
    rw [run1_cons]
    simp only [mv, runC]
    have e : (tS s = [c]) ↔ (s.any (relRun · c) = true) := by cases s <;> simp [tS, relRun]
    have cast1 : ((n : Int) + 1) = ((n + 1 : Nat) : Int) := by omega
    have step : ∀ m : Nat, run1 cs (.run k) (if (m : Int) ≤ (k : Int) then some (One.p [c] m) else none) t = (runC relRun k (if m ≤ k then some (some c, m) else none) t).map fun e => .p (tS e.1) e.2 := by
      intro m
      by_cases hm : m ≤ k
      · rw [if_pos (by omega), if_pos hm]
        exact run_sim cs k t (some c) m
      · rw [if_neg (by omega), if_neg hm, run1_none]
        cases t <;> rfl
    by_cases h : s.any (relRun · c) = true
    · rw [if_pos h, if_pos (e.mpr h), cast1]
      exact step (n + 1)
    · rw [if_neg h, if_neg (fun z => h (e.mp z))]
      exact step 1
theorem row_sim (cs : Cls) (k : Nat) : ∀ (t : Tx) (s : Option Nat) (n : Nat), run1 cs (.row k) (some (.p (tS s) n)) t = (runC (relRow cs) k (some (s, n)) t).map fun e => .p (tS e.1) e.2
  | [], s, n => rfl
  | c :: t, s, n => by
    rw [run1_cons]
    simp only [mv, runC]
    have e : ((tS s).head?.bind (fol cs) = some c) ↔ (s.any (relRow cs · c) = true) := by cases s <;> simp [tS, relRow]
    have cast1 : ((n : Int) + 1) = ((n + 1 : Nat) : Int) := by omega
    have step : ∀ m : Nat, run1 cs (.row k) (if (m : Int) ≤ (k : Int) then some (One.p [c] m) else none) t = (runC (relRow cs) k (if m ≤ k then some (some c, m) else none) t).map fun e => .p (tS e.1) e.2 := by
      intro m
      by_cases hm : m ≤ k
      · rw [if_pos (by omega), if_pos hm]
        exact row_sim cs k t (some c) m
      · rw [if_neg (by omega), if_neg hm, run1_none]
        cases t <;> rfl
    by_cases h : s.any (relRow cs · c) = true
    · rw [if_pos h, if_pos (e.mpr h), cast1]
      exact step (n + 1)
    · rw [if_neg h, if_neg (fun z => h (e.mp z))]
      exact step 1
theorem part_inf {t y : Tx} {k : Nat} (h : y <:+: t) (hy : y.length = k + 1) : ∃ i, i < t.length - k ∧ y = part t i k := by
  obtain ⟨a, b, rfl⟩ := h
  refine ⟨a.length, by simp; omega, ?_⟩
  unfold part
  rw [List.append_assoc, show a.length + k + 1 = a.length + y.length by omega, List.take_append, List.take_append]
  simp
theorem part_len {t : Tx} {i k : Nat} (h : i < t.length - k) : (part t i k).length = k + 1 ∧ part t i k <:+: t := by
  refine ⟨by simp [part]; omega, ?_⟩
  exact (List.drop_suffix _ _).isInfix.trans (List.take_prefix _ _).isInfix
theorem nobad_all {rel : Nat → Nat → Bool} {k : Nat} {t : Tx} (f : Tx → Bool) (hf : ∀ y, y <:+: t → y.length = k + 1 → f y = !chn rel y) : (NoBad rel k t ↔ (List.range (t.length - k)).all (fun i => f (part t i k)) = true) := by
  rw [List.all_eq_true]
  constructor
  · intro h i hi
    obtain ⟨l1, l2⟩ := part_len (List.mem_range.mp hi)
    rw [hf _ l2 l1, h _ l2 l1]
    rfl
  · intro h y hy hl
    obtain ⟨i, hi, rfl⟩ := part_inf hy hl
    have := h i (List.mem_range.mpr hi)
    rw [hf _ hy hl] at this
    simpa using this
theorem chn_run : ∀ (c : Nat) (y : Tx), chn relRun (c :: y) = decide ((nubA (c :: y)).length = 1)
  | c, [] => by simp [chn, nubA]
  | c, d :: y => by
    have ih := chn_run d y
    simp only [chn]
    rw [ih]
    have e : nubA (c :: d :: y) = if c ∈ nubA (d :: y) then nubA (d :: y) else c :: nubA (d :: y) := rfl
    rw [e]
    by_cases hcd : c = d
    · subst hcd
      have : c ∈ nubA (c :: y) := nubA_mem.mpr List.mem_cons_self
      rw [if_pos this]
      simp [relRun]
    · have hr : relRun c d = false := by simp [relRun, hcd]
      rw [hr]
      have hd : d ∈ nubA (d :: y) := nubA_mem.mpr List.mem_cons_self
      have h0 : 0 < (nubA (d :: y)).length := List.length_pos_of_mem hd
      by_cases hm : c ∈ nubA (d :: y)
      · rw [if_pos hm]
        have : (nubA (d :: y)).length ≠ 1 := fun h1 => by
          obtain ⟨x, hx⟩ := List.length_eq_one_iff.mp h1
          rw [hx] at hm hd
          simp at hm hd
          exact hcd (hm.trans hd.symm)
        simp [this]
      · rw [if_neg hm]
        have : (c :: nubA (d :: y)).length ≠ 1 := by
          rw [List.length_cons]
          omega
        rw [decide_eq_false this]
        rfl
theorem behind_app : ∀ (x : Tx) (a b : Nat) (y : Tx), (x ++ a :: b :: y).Nodup → behind (x ++ a :: b :: y) a = some b
  | [], a, b, y, _ => by simp [behind]
  | [c], a, b, y, h => by
    have : c ≠ a := fun e => by subst e; simp at h
    simp [behind, this]
  | c :: d :: x, a, b, y, h => by
    have hc : c ≠ a := fun e => by subst e; simp at h
    have ih := behind_app (d :: x) a b y (List.nodup_cons.mp h).2
    simp only [List.cons_append, behind] at ih ⊢
    rw [if_neg hc]
    exact ih
theorem behind_split : ∀ (s : Tx) (a b : Nat), behind s a = some b → ∃ x y, s = x ++ a :: b :: y
  | [], a, b, h => by simp [behind] at h
  | [c], a, b, h => by simp [behind] at h
  | c :: d :: s, a, b, h => by
    simp only [behind] at h
    by_cases e : c = a
    · rw [if_pos e] at h
      cases h
      exact ⟨[], s, by rw [e]; rfl⟩
    · rw [if_neg e] at h
      obtain ⟨x, y, hxy⟩ := behind_split (d :: s) a b h
      exact ⟨c :: x, y, by rw [hxy]; rfl⟩
theorem cls_nd {cs : Cls} {p : Tx × Tx} (h : (sgs cs).Nodup) (hp : p ∈ cs) : p.2.Nodup := by
  induction cs with
  | nil => simp at hp
  | cons q r ih =>
    have hn : (q.2 ++ sgs r).Nodup := by simpa [sgs] using h
    obtain ⟨n1, n2, _⟩ := List.nodup_append.mp hn
    rcases List.mem_cons.mp hp with e | hp
    · rw [e]; exact n1
    · exact ih n2 hp
theorem find_cls {cs : Cls} {p : Tx × Tx} {a : Nat} (h : (sgs cs).Nodup) (hp : p ∈ cs) (ha : a ∈ p.2) : ∃ q, cs.find? (fun p => decide (a ∈ p.2)) = some q ∧ q.2 = p.2 := by
  induction cs with
  | nil => simp at hp
  | cons q r ih =>
    rw [List.find?_cons]
    have hn : (q.2 ++ sgs r).Nodup := by simpa [sgs] using h
    obtain ⟨n1, n2, n3⟩ := List.nodup_append.mp hn
    by_cases hq : a ∈ q.2
    · simp only [hq, decide_true]
      refine ⟨q, rfl, ?_⟩
      rcases List.mem_cons.mp hp with e | hp
      · rw [e]
      · have : a ∈ sgs r := by
          unfold sgs
          exact List.mem_flatten.mpr ⟨p.2, List.mem_map.mpr ⟨p, hp, rfl⟩, ha⟩
        exact absurd rfl (n3 a hq a this)
    · simp only [hq, decide_false]
      rcases List.mem_cons.mp hp with e | hp
      · rw [e] at ha; exact absurd ha hq
      · exact ih n2 hp
theorem fol_in {cs : Cls} {p : Tx × Tx} {a : Nat} (h : (sgs cs).Nodup) (hp : p ∈ cs) (ha : a ∈ p.2) : fol cs a = behind p.2 a := by
  obtain ⟨q, h1, h2⟩ := find_cls h hp ha
  unfold fol
  rw [h1, ← h2]
theorem chn_inf (rel : Nat → Nat → Bool) {y s : Tx} (h : y <:+: s) (hs : chn rel s = true) : chn rel y = true := by
  obtain ⟨a, b, rfl⟩ := h
  rw [chn_app, chn_app] at hs
  simp only [Bool.and_eq_true] at hs
  exact hs.1.1.1.2
theorem cls_chn {cs : Cls} {p : Tx × Tx} (h : (sgs cs).Nodup) (hp : p ∈ cs) : ∀ (x s : Tx), p.2 = x ++ s → chn (relRow cs) s = true
  | x, [], _ => rfl
  | x, [a], _ => rfl
  | x, a :: b :: s, e => by
    simp only [chn, Bool.and_eq_true]
    refine ⟨?_, cls_chn h hp (x ++ [a]) (b :: s) (by rw [e]; simp)⟩
    have ha : a ∈ p.2 := by rw [e]; simp
    have := behind_app x a b s (e ▸ cls_nd h hp)
    simp only [relRow]
    rw [fol_in h hp ha, e, this]
    simp
theorem chn_row {cs : Cls} (h : (sgs cs).Nodup) : ∀ (y : Tx) (a : Nat), (∀ c ∈ a :: y, c ∈ sgs cs) → chn (relRow cs) (a :: y) = true → ∃ p ∈ cs, ∃ x z, p.2 = x ++ (a :: y) ++ z
  | [], a, hc, _ => by
    have := hc a List.mem_cons_self
    obtain ⟨l, hl, ha⟩ := List.mem_flatten.mp this
    obtain ⟨p, hp, rfl⟩ := List.mem_map.mp hl
    obtain ⟨x, z, e⟩ := List.append_of_mem ha
    exact ⟨p, hp, x, z, by rw [e]; simp⟩
  | b :: y, a, hc, hch => by
    simp only [chn, Bool.and_eq_true] at hch
    obtain ⟨hr, hch⟩ := hch
    obtain ⟨p, hp, x, z, e⟩ := chn_row h y b (fun c hm => hc c (List.mem_cons_of_mem _ hm)) hch
    -- a's class is p's
    have hr : fol cs a = some b := of_decide_eq_true hr
    have ha := hc a List.mem_cons_self
    obtain ⟨l, hl, hal⟩ := List.mem_flatten.mp ha
    obtain ⟨q, hq, rfl⟩ := List.mem_map.mp hl
    rw [fol_in h hq hal] at hr
    obtain ⟨x', y', e'⟩ := behind_split _ _ _ hr
    have hbq : b ∈ q.2 := by rw [e']; simp
    have hbp : b ∈ p.2 := by rw [e]; simp
    obtain ⟨q1, f1, g1⟩ := find_cls h hq hbq
    obtain ⟨q2, f2, g2⟩ := find_cls h hp hbp
    rw [f1] at f2
    cases f2
    have epq : p.2 = q.2 := g2.symm.trans g1
    have e3 : (x' ++ [a]) ++ b :: y' = x ++ b :: (y ++ z) := by
      have : q.2 = x ++ (b :: y) ++ z := by rw [← epq, e]
      rw [e'] at this
      simpa using this
    have nd : ((x' ++ [a]) ++ b :: y').Nodup := by
      have := cls_nd h hq
      rw [e'] at this
      simpa using this
    have uniq : ∀ (u v w s : Tx), u ++ b :: v = w ++ b :: s → (u ++ b :: v).Nodup → u = w ∧ v = s := by
      intro u
      induction u with
      | nil =>
        intro v w s e nd
        cases w with
        | nil => simp at e; exact ⟨rfl, e⟩
        | cons c w =>
          simp at e
          obtain ⟨rfl, rfl⟩ := e
          simp at nd
      | cons c u ih =>
        intro v w s e nd
        cases w with
        | nil =>
          simp at e
          obtain ⟨rfl, _⟩ := e
          simp at nd
        | cons d w =>
          simp at e
          obtain ⟨rfl, e⟩ := e
          have := ih v w s e (by simpa using (List.nodup_cons.mp nd).2)
          exact ⟨by rw [this.1], this.2⟩
    obtain ⟨u1, u2⟩ := uniq _ _ _ _ e3 nd
    exact ⟨p, hp, x', z, by rw [e, ← u1]; simp⟩
theorem run_full (rel : Nat → Nat → Bool) (k : Nat) (hk : 1 ≤ k) (t : Tx) : (runC rel k (some (none, 0)) t).isSome = true ↔ NoBad rel k t := by
  have := runC_ok rel k hk t [] none 0 ⟨[], [], rfl, rfl, rfl, rfl, by omega, by simp, by simp⟩ (fun y hy hl => by
    have := hy.length_le
    simp at this
    rw [this] at hl
    simp at hl)
  simpa using this
theorem bool_iff {a b : Bool} {P : Prop} (h1 : a = true ↔ P) (h2 : P ↔ b = true) : a = b := by
  rw [Bool.eq_iff_iff]
  exact h1.trans h2
theorem main_eq {cs : Cls} {r : Ru} {t : Tx} (ok : ClsOk cs) (hr : RuOk cs r) (hc : ∀ c ∈ t, c ∈ sgs cs) : okM cs t r = kpL cs r t := by
  rw [okM_eq]
  have nne : ∀ n, n ∈ nms cs → n ≠ [] := fun n hn e => by
    obtain ⟨p, hp, e2⟩ := List.mem_map.mp hn
    have := (ok.nm p hp).1
    rw [e2, e] at this
    simp at this
  cases r with
  | size lo hi =>
    obtain ⟨⟨h1, h2⟩, h3⟩ := hr
    cases hi with
    | none =>
      simp only [start1]
      rw [size_none cs lo t 0 h1]
      simp only [kp, kpL, Bool.and_true, Int.zero_add]
      by_cases h : (t.length : Int) ≤ lo
      · rw [if_pos h]
      · rw [if_neg h]; simp; omega
    | some hi =>
      have := h3 hi rfl
      simp only [start1]
      rw [size_some cs lo hi t 0 (by have := this.1; omega)]
      simp only [Int.zero_add]
      by_cases h : (t.length : Int) ≤ hi
      · rw [if_pos h]; simp [kp, kpL, h]
      · rw [if_neg h]; simp [kpL, h]
  | least n k =>
    obtain ⟨_, h1, h2⟩ := hr
    simp only [start1]
    rw [least_run cs n k t 0 (by omega)]
    simp only [kp, kpL, Int.zero_add]
    by_cases h : cn cs n t ≤ k
    · rw [if_pos h]; rfl
    · rw [if_neg h]
      have : k ≤ cn cs n t := by omega
      unfold cn at this
      simp [this]
  | most n k =>
    obtain ⟨_, h1, h2⟩ := hr
    simp only [start1]
    rw [most_run cs n k t 0 (by omega)]
    simp only [kpL, Int.zero_add]
    by_cases h : cn cs n t ≤ k
    · rw [if_pos h]
      unfold cn at h
      simp [kp, h]
    · rw [if_neg h]
      unfold cn at h
      simp [h]
  | kinds k =>
    obtain ⟨ms, h1, h2⟩ := kinds_len cs k t
    simp only [start1]
    rw [h1]
    simp only [kp, kpL, h2]
  | run k =>
    obtain ⟨h1, h2⟩ := hr
    obtain ⟨j, rfl⟩ : ∃ j : Nat, k = j := ⟨k.toNat, by omega⟩
    have hs := run_sim cs j t none 0
    simp only [start1]
    have e0 : (One.p [] 0 : One) = One.p (tS none) ((0 : Nat) : Int) := rfl
    rw [e0, hs]
    have hj : 1 ≤ j := by omega
    have key := nobad_all (rel := relRun) (k := j) (t := t) (fun y => decide ((nubA y).length ≠ 1)) (fun y hy hl => by
      cases y with
      | nil => simp at hl
      | cons c y => rw [chn_run]; simp)
    have e : (match Option.map (fun e : Option Nat × Nat => One.p (tS e.1) (e.2 : Int)) (runC relRun j (some (none, 0)) t) with | none => false | some o => kp (.run j) o) = (runC relRun j (some (none, 0)) t).isSome := by
      cases runC relRun j (some (none, 0)) t <;> rfl
    refine Eq.trans e ?_
    exact bool_iff (run_full relRun j hj t) key
  | row k =>
    obtain ⟨h1, h2⟩ := hr
    obtain ⟨j, rfl⟩ : ∃ j : Nat, k = j := ⟨k.toNat, by omega⟩
    have hs := row_sim cs j t none 0
    simp only [start1]
    have e0 : (One.p [] 0 : One) = One.p (tS none) ((0 : Nat) : Int) := rfl
    rw [e0, hs]
    have hj : 1 ≤ j := by omega
    have key := nobad_all (rel := relRow cs) (k := j) (t := t) (fun y => !(cs.any fun p => strIn (S y) (S p.2))) (fun y hy hl => by
      congr 1
      rw [Bool.eq_iff_iff, List.any_eq_true]
      constructor
      · rintro ⟨p, hp, h⟩
        rw [strIn_inf] at h
        exact chn_inf _ h (cls_chn ok.nds hp [] p.2 rfl)
      · intro h
        cases y with
        | nil => simp at hl
        | cons a y =>
          obtain ⟨p, hp, x, z, e⟩ := chn_row ok.nds y a (fun c hm => hc c (hy.subset hm)) h
          exact ⟨p, hp, (strIn_inf _ _).mpr ⟨x, z, e.symm⟩⟩)
    have e : (match Option.map (fun e : Option Nat × Nat => One.p (tS e.1) (e.2 : Int)) (runC (relRow cs) j (some (none, 0)) t) with | none => false | some o => kp (.row j) o) = (runC (relRow cs) j (some (none, 0)) t).isSome := by
      cases runC (relRow cs) j (some (none, 0)) t <;> rfl
    refine Eq.trans e ?_
    exact bool_iff (run_full (relRow cs) j hj t) key
  | nt w =>
    obtain ⟨h1, _, _⟩ := hr
    have hw : ¬ w <:+: ([] : Tx) := fun h => by
      have := h.length_le
      simp at this
      rw [this] at h1
      simp at h1
    have := nt_run cs w t [] hw
    simp only [trim, List.nil_append] at this
    simp only [start1, kpL]
    rw [Bool.eq_iff_iff]
    have e : ((!strIn (S w) (S t)) = true) ↔ ¬ w <:+: t := by
      rw [Bool.not_eq_true', ← Bool.not_eq_true, strIn_inf]
    rw [e, ← this]
    cases h : run1 cs (.nt w) (some (.s [])) t with
    | none => simp
    | some o =>
      obtain ⟨y, rfl⟩ := nt_state cs w t [] o h
      simp [kp]
  | first n =>
    have hn := nne n hr
    cases t with
    | nil =>
      simp only [start1, kpL]
      simp [run1, kp, hn]
    | cons c t =>
      simp only [start1, kpL, List.head?_cons]
      rw [run1_cons]
      simp only [mv]
      rw [if_neg (by simp)]
      by_cases h : ownT cs c = n
      · rw [if_pos h, first_stay cs n (ownT cs c) (h ▸ hn) t]
        simp [kp, h]
      · rw [if_neg h, run1_none]
        simp [h]
  | last n =>
    have hn := nne n hr
    simp only [start1, kpL]
    rw [last_run]
    cases h : t.getLast? with
    | none => simp [kp, hn]
    | some c => simp [kp]
end DL

set_option Elab.async false
set_option linter.all false
set_option maxRecDepth 100000
namespace DL
open PySem PySem.Spec PyProof.Rows L2
def R__law_strings : DS :=
    (dSeq (dPar3 4 5 6 (daCons (dBM "str" joinM (dC (.str (Str.ofString ""))) (daCons (dLc (diAny (dOp getD (dVar 0) (dC (.int 0)))) (dgTup 2 (dgCons (dgName 2) (dgCons (dgName 3) dgNil))) dYes (dVar 3) [2, 3]) daNil)) (daCons (dLst (daCons (dC (.str (Str.ofString ""))) daNil)) (daCons (dLst (daCons (dC (.str (Str.ofString ""))) daNil)) daNil))))
    (dSeq (dFor (diRng1 (dVar 1)) (dgName 7) (dSeq (dSet 8 (dLst daNil))
    (dSeq (dFor (diAny (dVar 6)) (dgName 9) (dDrop (dBM "list" extM (dVar 8) (daCons (dLc (diAny (dVar 4)) (dgName 10) dYes (dOp addD (dVar 9) (dVar 10)) [10]) daNil))))
    (dSeq (dDrop (dBM "list" extM (dVar 5) (daCons (dVar 8) daNil)))
    (dSet 6 (dVar 8))))))
    (dRet (dVar 5))))
def R__law_allows (sp__law_keeps : DSp) : DS :=
    (dRet (dCB allB (daCons (dLc (diAny (dOp getD (dVar 0) (dC (.int 1)))) (dgName 2) dYes (dCall sp__law_keeps (daCons (dOp getD (dVar 0) (dC (.int 0))) (daCons (dVar 2) (daCons (dVar 1) daNil)))) [2]) daNil)))
def R_Machine_nearest (C_Machine : Addr) (sp_Machine_fine : DSp) (sp_Machine_step : DSp) : DS :=
    (dSeq (dIfS (dTest (dOp isD (dVar 1) (dC .non))) (dRet (dC .non)) dNext)
    (dSeq (dPar 2 3 (daCons (dDispT (dVar 1) (dC (.bl true))) (daCons (dLst (daCons (dTup (daCons (dVar 1) (daCons (dC (.str (Str.ofString ""))) daNil))) daNil)) daNil)))
    (dSeq (dWhile (dTest (dOp neD (dVar 3) (dLst daNil))) (dSeq (dSet 4 (dLst daNil))
    (dSeq (dFor (diAny (dVar 3)) (dgTup 2 (dgCons (dgName 5) (dgCons (dgName 6) dgNil))) (dSeq (dIfS (dTru (dMeth C_Machine (Str.ofString "fine") sp_Machine_fine (dVar 0) (daCons (dVar 5) daNil))) (dRet (dVar 6)) dNext)
    (dFor (diAny (dFld C_Machine (Str.ofString "signs") (dVar 0))) (dgName 7) (dSeq (dSet 8 (dMeth C_Machine (Str.ofString "step") sp_Machine_step (dVar 0) (daCons (dVar 5) (daCons (dVar 7) daNil))))
    (dIfS (dAnd (dTest (dOp isnD (dVar 8) (dC .non))) (dTest (dOp ninD (dVar 8) (dVar 2)))) (dSeq (dAsg (dC (.bl true)) (dgSub (dVar 2) (dVar 8)))
    (dDrop (dBM "list" appM (dVar 4) (daCons (dTup (daCons (dVar 8) (daCons (dOp addD (dVar 6) (dVar 7)) daNil))) daNil)))) dNext)))))
    (dSet 3 (dVar 4)))))
    (dRet (dC .non)))))
def R_first_of (C_Machine : Addr) (sp_Machine___init__ : DSp) (sp_Machine_nearest : DSp) : DS :=
    (dSeq (dSet 1 (dMake C_Machine sp_Machine___init__ (daCons (dVar 0) daNil)))
    (dRet (dMeth C_Machine (Str.ofString "nearest") sp_Machine_nearest (dVar 1) (daCons (dFld C_Machine (Str.ofString "start") (dVar 1)) daNil))))
def R_first (sp_need_policy : DSp) (sp_first_of : DSp) : DS :=
    (dSeq (dDrop (dCall sp_need_policy (daCons (dVar 0) daNil)))
    (dRet (dCall sp_first_of (daCons (dVar 0) daNil))))
end DL

set_option Elab.async false
set_option linter.all false
set_option maxRecDepth 100000
namespace DL
open PySem PySem.Spec PyProof.Rows L2
def bkL (cs : Cls) (t : Tx) : Nat → List Ru → List D
  | _, [] => []
  | i, r :: rs => if kpL cs r t then bkL cs t (i + 1) rs else .int i :: bkL cs t (i + 1) rs
theorem bk_eq {cs : Cls} {t : Tx} (ok : ClsOk cs) (hc : ∀ c ∈ t, c ∈ sgs cs) : ∀ (rs : List Ru) (i : Nat), (∀ r ∈ rs, RuOk cs r) → bk cs t i rs = bkL cs t i rs
  | [], _, _ => rfl
  | r :: rs, i, h => by
    unfold bk bkL
    rw [main_eq ok (h r List.mem_cons_self) hc, bk_eq ok hc rs (i + 1) fun x hx => h x (List.mem_cons_of_mem _ hx)]
theorem five_ok : ∀ cs ∈ five, ClsOk cs := by
  intro cs h
  simp [five] at h
  have low : K_LOWER = S (tx "abcdefghijklmnopqrstuvwxyz") := ofString_S _
  have sig : K_SIGNS = S (tx "abcdefghijklmnopqrstuvwxyzABCDEFGHIJKLMNOPQRSTUVWXYZ0123456789!#+-?_") := ofString_S _
  rcases h with rfl | rfl | rfl | rfl | rfl <;> exact ⟨by decide, by decide, by rw [low]; simp only [strIn_one]; decide, by rw [sig]; simp only [strIn_one]; decide, by decide, by decide⟩
theorem five_len : ∀ cs ∈ five, (sgs cs).length ≤ 4 ∧ cs.length ≤ 3 := by
  intro cs h
  simp [five] at h
  rcases h with rfl | rfl | rfl | rfl | rfl <;> decide
theorem mul_S (c : Nat) : Txt.mul (S [c]) 3 = S [c, c, c] := by
  have := PyProof.Rows.mul_one_list c 3
  have e := SX.S_tl (Txt.mul (S [c]) 3)
  rw [← e]
  exact congrArg (fun l : List Nat => S l) this
theorem mul_nil : Txt.mul (S []) 3 = S [] := by decide
theorem lc_due {cs : Cls} {t : Tx} {g : DG} {tt : DT} {te : DE} {d0 : DSt} {N : DM} {Q : List D → DM → Prop} : ∀ (rs : List Ru) (i : Nat) (acc : List D),
    (∀ (i : Nat) (r : Ru), r ∈ rs → ∀ (A : D → DM → Prop) (B : DM → Prop), (if kpL cs r t then B N else A (.int i) N) → g (.tup [.int i, rD r]) d0 N fun ds1 M1 => tt ds1 M1 fun b M2 => if b = true then te ds1 M2 A else B M2) →
    Q (acc ++ bkL cs t i rs) N → lcW (fun _ => True) g tt te d0 (numD i (rs.map rD)) acc N Q
  | [], i, acc, _, q => ⟨trivial, by simpa [bkL] using q⟩
  | r :: rs, i, acc, h, q => by
    refine ⟨trivial, h i r List.mem_cons_self (fun y M3 => lcW (fun _ => True) g tt te d0 (numD (i + 1) (rs.map rD)) (acc ++ [y]) M3 Q) (fun M2 => lcW (fun _ => True) g tt te d0 (numD (i + 1) (rs.map rD)) acc M2 Q) ?_⟩
    have h' := fun i x hx => h i x (List.mem_cons_of_mem _ hx)
    unfold bkL at q
    by_cases e : kpL cs r t = true
    · rw [if_pos e] at q ⊢
      exact lc_due rs (i + 1) acc h' q
    · rw [if_neg e] at q ⊢
      exact lc_due rs (i + 1) (acc ++ [.int i]) h' (by simpa using q)
theorem Tn.new {t p : Addr} {ns : List Int} {N : DM} {o : DO} (T : Tn t ns N) (h : N p = none) : Tn t ns (updM N p o) := T.le (Le.new h)
/-! ### whole policies -/
theorem stp_all (cs : Cls) (c : Nat) : ∀ (rs : List Ru) (l : List (Option One)), l.length = rs.length → stp cs rs (allSome l) c = allSome (List.zipWith (fun r o => o.bind fun o => mv cs r o c) rs l)
  | [], [], _ => rfl
  | r :: rs, o :: l, h => by
    have ih := stp_all cs c rs l (by simpa using h)
    simp only [List.zipWith_cons_cons]
    cases o with
    | none => rfl
    | some o =>
      simp only [allSome]
      cases e : allSome l with
      | none =>
        rw [e] at ih
        simp only [Option.map_none, Option.bind_some]
        have ih' : allSome (List.zipWith (fun r o => o.bind fun o => mv cs r o c) rs l) = none := ih.symm
        cases mv cs r o c with
        | none => rfl
        | some o' => simp only [allSome, ih']; rfl
      | some os =>
        rw [e] at ih
        have ih' : allSome (mvs cs rs os c) = allSome (List.zipWith (fun r o => o.bind fun o => mv cs r o c) rs l) := ih
        simp only [Option.map_some, Option.bind_some]
        show allSome (mvs cs (r :: rs) (o :: os) c) = _
        simp only [mvs]
        cases mv cs r o c with
        | none => rfl
        | some o' => simp only [allSome, ih']
theorem run_all (cs : Cls) (rs : List Ru) : ∀ (t : Tx) (l : List (Option One)), l.length = rs.length → t.foldl (stp cs rs) (allSome l) = allSome (List.zipWith (fun r o => run1 cs r o t) rs l)
  | [], l, h => by
    have : List.zipWith (fun r o => run1 cs r o []) rs l = l := by
      have : ∀ (rs : List Ru) (l : List (Option One)), l.length = rs.length → List.zipWith (fun r o => run1 cs r o []) rs l = l := by
        intro rs
        induction rs with
        | nil => intro l h; cases l with
          | nil => rfl
          | cons _ _ => simp at h
        | cons r rs ih => intro l h; cases l with
          | nil => simp at h
          | cons o l => rw [List.zipWith_cons_cons, ih l (by simpa using h)]; rfl
      exact this rs l h
    rw [this]; rfl
  | c :: t, l, h => by
    rw [List.foldl_cons, stp_all cs c rs l h, run_all cs rs t _ (by simp [h])]
    congr 1
    have : ∀ (rs : List Ru) (l : List (Option One)), List.zipWith (fun r o => run1 cs r o t) rs (List.zipWith (fun r o => o.bind fun o => mv cs r o c) rs l) = List.zipWith (fun r o => run1 cs r o (c :: t)) rs l := by
      intro rs
      induction rs with
      | nil => intro l; simp
      | cons r rs ih => intro l; cases l with
        | nil => simp
        | cons o l => simp only [List.zipWith_cons_cons, ih l]; rfl
    exact this rs l
theorem starts_all : ∀ rs : List Ru, allSome (rs.map fun r => some (start1 r)) = some (rs.map start1)
  | [] => rfl
  | r :: rs => by simp [allSome, starts_all rs]
theorem runS_all (cs : Cls) (rs : List Ru) (t : Tx) : runS cs rs t = allSome (rs.map fun r => run1 cs r (some (start1 r)) t) := by
  unfold runS
  rw [← starts_all, run_all cs rs t _ (by simp)]
  congr 1
  induction rs with
  | nil => rfl
  | cons r rs ih => simp only [List.map_cons, List.zipWith_cons_cons, ih]
/-- a text that keeps all rules -/
def allowL (cs : Cls) (rs : List Ru) (t : Tx) : Bool := rs.all fun r => kpL cs r t
theorem fine_all (cs : Cls) (t : Tx) : ∀ rs : List Ru, fineB rs (runS cs rs t) = rs.all fun r => okM cs t r
  | [] => by rw [runS_all]; rfl
  | r :: rs => by
    have ih := fine_all cs t rs
    rw [runS_all] at ih ⊢
    rw [List.all_cons, ← ih, okM_eq]
    simp only [List.map_cons]
    cases run1 cs r (some (start1 r)) t with
    | none => rfl
    | some o =>
      simp only [allSome]
      cases allSome (rs.map fun r => run1 cs r (some (start1 r)) t) with
      | none => simp [fineB]
      | some os => rfl
theorem fine_allow {cs : Cls} {rs : List Ru} {t : Tx} (ok : ClsOk cs) (hr : ∀ r ∈ rs, RuOk cs r) (hc : ∀ c ∈ t, c ∈ sgs cs) : fineB rs (runS cs rs t) = allowL cs rs t := by
  rw [fine_all]
  unfold allowL
  induction rs with
  | nil => rfl
  | cons r rs ih =>
    rw [List.all_cons, List.all_cons, main_eq ok (hr r List.mem_cons_self) hc, ih fun x hx => hr x (List.mem_cons_of_mem _ hx)]
theorem bkL_nil {cs : Cls} {t : Tx} : ∀ (rs : List Ru) (i : Nat), (bkL cs t i rs).isEmpty = allowL cs rs t
  | [], _ => rfl
  | r :: rs, i => by
    have ih := bkL_nil (cs := cs) (t := t) rs (i + 1)
    unfold bkL
    unfold allowL at ih ⊢
    rw [List.all_cons]
    cases e : kpL cs r t with
    | true => simpa using ih
    | false => simp
/-! ### _law_allows -/
def sp__law_allows : DSp := fun ds M R => ∃ (cs : Cls) (rs : List Ru) (t : Tx), ds = [pD cs rs, .str (S t)] ∧ ClsOk cs ∧ (∀ r ∈ rs, RuOk cs r) ∧ rs.length ≤ 1000 ∧ t.length ≤ 16777216 ∧ (∀ c ∈ t, c ∈ sgs cs) ∧ R (.bl (allowL cs rs t)) M
theorem l_allowsL : ∀ ds M R, sp__law_allows ds M R → R__law_allows sp__law_keeps (topE R) (startD 3 ds) M := by
  rintro _ M R ⟨cs, rs, t, rfl, ok, hr, hl, ht, hc, q⟩
  simp -implicitDefEqProofs [R__law_allows, startD, topE, getS, pD, atI0, atI1, -List.all_eq_true]
  refine ⟨small1000 hl, lcW_on rD (fun r => some (.bl (kpL cs r t))) trivial _ _ (fun r hm A B h => ?_) fun p hp => ?_⟩
  · simp -implicitDefEqProofs [getS, atI0]
    exact ⟨cs, r, t, rfl, ok, hr r hm, ht, hc, h⟩
  · have e1 : rs.filterMap (fun r => some (D.bl (kpL cs r t))) = rs.map fun r => D.bl (kpL cs r t) := by simp
    rw [List.nil_append, e1]
    refine ⟨by rw [List.all_map, List.all_eq_true]; intro r _; rfl, .of (Le.new hp) ?_⟩
    rw [List.all_map]
    exact q
end DL

set_option Elab.async false
set_option linter.all false
set_option maxRecDepth 100000
namespace DL
open PySem PySem.Spec PyProof.Rows L2
/-! ### breadth first, over any states -/
section
variable {σ : Type} [DecidableEq σ] (sgn : Tx) (step : σ → Nat → Option σ)
abbrev SW (σ : Type) := List (σ × Tx)
/-- all texts of a size, in order -/
def Wd : Nat → List Tx
  | 0 => [[]]
  | n + 1 => (Wd n).flatMap fun u => sgn.map fun c => u ++ [c]
def chd (x : σ × Tx) : SW σ := sgn.filterMap fun c => (step x.1 c).map fun s => (s, x.2 ++ [c])
/-- each state once -/
def dd : List σ → SW σ → SW σ
  | _, [] => []
  | seen, x :: r => if x.1 ∈ seen then dd seen r else x :: dd (seen ++ [x.1]) r
def rnS (s : Option σ) (u : Tx) : Option σ := u.foldl (fun s c => s.bind fun s => step s c) s
theorem rnS_snoc (s : Option σ) (u : Tx) (c : Nat) : rnS step s (u ++ [c]) = (rnS step s u).bind fun s => step s c := by simp [rnS]
theorem rnS_app (s : Option σ) (u v : Tx) : rnS step s (u ++ v) = rnS step (rnS step s u) v := by simp [rnS]
theorem rnS_none (u : Tx) : rnS step none u = none := by
  induction u with
  | nil => rfl
  | cons c u ih => exact ih
/-- all states that texts of a size lead to -/
def RL (s0 : σ) (n : Nat) : SW σ := (Wd sgn n).filterMap fun u => (rnS step (some s0) u).map fun s => (s, u)
theorem RL_succ (s0 : σ) (n : Nat) : RL sgn step s0 (n + 1) = (RL sgn step s0 n).flatMap (chd sgn step) := by
  unfold RL
  simp only [Wd]
  generalize Wd sgn n = l
  induction l with
  | nil => rfl
  | cons u l ih =>
    rw [List.flatMap_cons, List.filterMap_append, ih, List.filterMap_cons]
    cases e : rnS step (some s0) u with
    | none =>
      simp only [Option.map_none]
      have : List.filterMap (fun u => (rnS step (some s0) u).map fun s => (s, u)) (sgn.map fun c => u ++ [c]) = [] := by
        rw [List.filterMap_eq_nil_iff]
        intro a ha
        obtain ⟨c, _, rfl⟩ := List.mem_map.mp ha
        rw [rnS_snoc, e]; rfl
      rw [this]; rfl
    | some s =>
      simp only [Option.map_some, List.flatMap_cons]
      congr 1
      unfold chd
      rw [List.filterMap_map]
      congr 1
      funext c
      simp only [Function.comp, rnS_snoc, e]
      rfl
theorem dd_app : ∀ (L1 L2 : SW σ) (seen : List σ), dd seen (L1 ++ L2) = dd seen L1 ++ dd (seen ++ (dd seen L1).map (·.1)) L2
  | [], L2, seen => by simp [dd]
  | x :: L1, L2, seen => by
    simp only [List.cons_append, dd]
    by_cases h : x.1 ∈ seen
    · rw [if_pos h, if_pos h]; exact dd_app L1 L2 seen
    · rw [if_neg h, if_neg h, dd_app L1 L2]; simp
theorem dd_mem : ∀ (L : SW σ) (seen : List σ) (s : σ), (s ∈ seen ∨ s ∈ (dd seen L).map (·.1)) ↔ (s ∈ seen ∨ s ∈ L.map (·.1))
  | [], seen, s => by simp [dd]
  | x :: L, seen, s => by
    simp only [dd]
    by_cases h : x.1 ∈ seen
    · rw [if_pos h, dd_mem L seen s]
      simp only [List.map_cons, List.mem_cons]
      constructor
      · rintro (a | a)
        · exact .inl a
        · exact .inr (.inr a)
      · rintro (a | a | a)
        · exact .inl a
        · exact .inl (a ▸ h)
        · exact .inr a
    · rw [if_neg h]
      have := dd_mem L (seen ++ [x.1]) s
      simp only [List.mem_append, List.map_cons, List.mem_cons, List.not_mem_nil, or_false] at this ⊢
      rw [← or_assoc, this, or_assoc]
theorem dd_congr : ∀ (L : SW σ) (a b : List σ), (∀ s, s ∈ a ↔ s ∈ b) → dd a L = dd b L
  | [], _, _, _ => rfl
  | x :: L, a, b, h => by
    simp only [dd]
    by_cases hx : x.1 ∈ a
    · rw [if_pos hx, if_pos ((h _).mp hx)]; exact dd_congr L a b h
    · rw [if_neg hx, if_neg (fun z => hx ((h _).mpr z))]
      rw [dd_congr L (a ++ [x.1]) (b ++ [x.1]) fun s => by simp [h]]
theorem dd_nil : ∀ (L : SW σ) (seen : List σ), (∀ x ∈ L, x.1 ∈ seen) → dd seen L = []
  | [], _, _ => rfl
  | x :: L, seen, h => by
    simp only [dd]
    rw [if_pos (h x List.mem_cons_self)]
    exact dd_nil L seen fun y hy => h y (List.mem_cons_of_mem _ hy)
theorem dd_sub : ∀ (L : SW σ) (seen : List σ) (x : σ × Tx), x ∈ dd seen L → x ∈ L
  | [], _, x, h => by simp [dd] at h
  | y :: L, seen, x, h => by
    simp only [dd] at h
    split at h
    · exact List.mem_cons_of_mem _ (dd_sub L _ x h)
    · rcases List.mem_cons.mp h with rfl | h
      · exact List.mem_cons_self
      · exact List.mem_cons_of_mem _ (dd_sub L _ x h)
theorem dd_nodup : ∀ (L : SW σ) (seen : List σ), seen.Nodup → (seen ++ (dd seen L).map (·.1)).Nodup
  | [], seen, h => by simpa [dd] using h
  | x :: L, seen, h => by
    simp only [dd]
    by_cases hx : x.1 ∈ seen
    · rw [if_pos hx]; exact dd_nodup L seen h
    · rw [if_neg hx]
      have := dd_nodup L (seen ++ [x.1]) (List.nodup_append.mpr ⟨h, by simp, fun a ha b hb e => hx (by simp at hb; rw [← hb, ← e]; exact ha)⟩)
      simpa using this
/-- what was seen before need not be gone on from -/
theorem dd_skip : ∀ (L : SW σ) (old seen : List σ), (∀ s ∈ old, ∀ x ∈ chd sgn step (s, []), x.1 ∈ seen) → dd seen ((dd old L).flatMap (chd sgn step)) = dd seen (L.flatMap (chd sgn step))
  | [], old, seen, _ => rfl
  | x :: L, old, seen, h => by
    have hc : ∀ (u v : Tx) (s : σ), (chd sgn step (s, u)).map (·.1) = (chd sgn step (s, v)).map (·.1) := fun u v s => by
      unfold chd
      rw [List.map_filterMap, List.map_filterMap]
      congr 1
      funext c
      cases step s c <;> rfl
    simp only [dd]
    by_cases hx : x.1 ∈ old
    · rw [if_pos hx, List.flatMap_cons, dd_app, dd_skip L old seen h]
      have : dd seen (chd sgn step x) = [] := dd_nil _ _ fun y hy => by
        have hm : y.1 ∈ (chd sgn step (x.1, x.2)).map (·.1) := List.mem_map.mpr ⟨y, hy, rfl⟩
        rw [hc x.2 [] x.1] at hm
        obtain ⟨z, hz, e⟩ := List.mem_map.mp hm
        rw [← e]
        exact h _ hx z hz
      rw [this]; simp
    · rw [if_neg hx, List.flatMap_cons, List.flatMap_cons, dd_app, dd_app]
      congr 1
      refine dd_skip L _ _ fun s hs y hy => ?_
      rcases List.mem_append.mp hs with hs | hs
      · exact List.mem_append.mpr (.inl (h s hs y hy))
      · simp at hs
        subst hs
        have hm : y.1 ∈ (chd sgn step (x.1, [])).map (·.1) := List.mem_map.mpr ⟨y, hy, rfl⟩
        rw [hc [] x.2 x.1] at hm
        have := (dd_mem (chd sgn step x) seen y.1).mpr (.inr hm)
        rcases this with a | a
        · exact List.mem_append.mpr (.inl a)
        · exact List.mem_append.mpr (.inr a)
variable (acc : σ → Bool)
theorem dd_find : ∀ (L : SW σ) (seen : List σ), (∀ s ∈ seen, acc s = false) → (dd seen L).find? (fun x => acc x.1) = L.find? fun x => acc x.1
  | [], _, _ => rfl
  | x :: L, seen, h => by
    simp only [dd]
    by_cases hx : x.1 ∈ seen
    · rw [if_pos hx, List.find?_cons, h _ hx]
      exact dd_find L seen h
    · rw [if_neg hx, List.find?_cons, List.find?_cons]
      cases e : acc x.1 with
      | true => rfl
      | false =>
        refine dd_find L _ fun s hs => ?_
        rcases List.mem_append.mp hs with hs | hs
        · exact h s hs
        · simp at hs; rw [hs]; exact e
/-- the search's state ahead of level n -/
structure Bfs (s0 : σ) (n : Nat) (seen : List σ) (lev : SW σ) : Prop where
  ex : ∃ old : List σ, lev = dd old (RL sgn step s0 n) ∧ (∀ s, s ∈ seen ↔ s ∈ old ∨ s ∈ (RL sgn step s0 n).map (·.1)) ∧ (∀ s ∈ old, acc s = false) ∧ (∀ s ∈ old, ∀ x ∈ chd sgn step (s, []), x.1 ∈ seen)
  no : ∀ m, m < n → ∀ x ∈ RL sgn step s0 m, acc x.1 = false
  nd : seen.Nodup
  rc : ∀ s ∈ seen, ∃ m, ∃ x ∈ RL sgn step s0 m, x.1 = s
theorem RL_zero (s0 : σ) : RL sgn step s0 0 = [(s0, [])] := rfl
theorem Bfs.start (s0 : σ) : Bfs sgn step acc s0 0 [s0] [(s0, [])] where
  ex := ⟨[], by simp [RL_zero, dd], by simp [RL_zero], by simp, by simp⟩
  no := by simp
  nd := by simp
  rc := fun s hs => ⟨0, (s0, []), by simp [RL_zero], (List.mem_singleton.mp hs).symm⟩
variable {sgn step acc}
variable {s0 : σ} {n : Nat} {seen : List σ} {lev : SW σ}
theorem Bfs.next (b : Bfs sgn step acc s0 n seen lev) (h : ∀ x ∈ lev, acc x.1 = false) : Bfs sgn step acc s0 (n + 1) (seen ++ (dd seen (lev.flatMap (chd sgn step))).map (·.1)) (dd seen (lev.flatMap (chd sgn step))) := by
  obtain ⟨old, h1, h2, h3, h4⟩ := b.ex
  have e : dd seen (lev.flatMap (chd sgn step)) = dd seen (RL sgn step s0 (n + 1)) := by rw [h1, dd_skip sgn step _ _ _ h4, ← RL_succ]
  have sn : ∀ s ∈ seen, acc s = false := fun s hs => by
    rcases (h2 s).mp hs with a | a
    · exact h3 s a
    · rcases (dd_mem _ old s).mpr (.inr a) with a | a
      · exact h3 s a
      · obtain ⟨x, hx, rfl⟩ := List.mem_map.mp a
        exact h x (h1 ▸ hx)
  have ms := fun s => dd_mem (RL sgn step s0 (n + 1)) seen s
  refine ⟨⟨seen, e, fun s => ?_, sn, fun s hs x hx => ?_⟩, fun m hm x hx => ?_, dd_nodup _ _ b.nd, fun s hs => ?_⟩
  · rw [e, List.mem_append]; exact ms s
  · rw [e, List.mem_append]
    refine (ms x.1).mpr ?_
    rcases (h2 s).mp hs with a | a
    · exact .inl (h4 s a x hx)
    · obtain ⟨y, hy, rfl⟩ := List.mem_map.mp a
      refine .inr (List.mem_map.mpr ?_)
      unfold chd at hx
      obtain ⟨c, hc, e1⟩ := List.mem_filterMap.mp hx
      cases e2 : step y.1 c with
      | none => simp [e2] at e1
      | some s' =>
        simp [e2] at e1
        refine ⟨(s', y.2 ++ [c]), ?_, by rw [← e1]⟩
        rw [RL_succ]
        exact List.mem_flatMap.mpr ⟨y, hy, List.mem_filterMap.mpr ⟨c, hc, by rw [e2]; rfl⟩⟩
  · by_cases hmn : m < n
    · exact b.no m hmn x hx
    · have : m = n := by omega
      subst this
      exact sn x.1 ((h2 _).mpr (.inr (List.mem_map.mpr ⟨x, hx, rfl⟩)))
  · rw [e] at hs
    rcases List.mem_append.mp hs with a | a
    · exact b.rc s a
    · obtain ⟨x, hx, rfl⟩ := List.mem_map.mp a
      exact ⟨n + 1, x, dd_sub _ _ _ hx, rfl⟩
/-- what is found in order: the first text of the least size -/
def FirstS (sgn : Tx) (P : Tx → Bool) : Option Tx → Prop
  | some t => ∃ n, (∀ m, m < n → ∀ u ∈ Wd sgn m, P u = false) ∧ (Wd sgn n).find? P = some t
  | none => ∀ n, ∀ u ∈ Wd sgn n, P u = false
def accW (step : σ → Nat → Option σ) (acc : σ → Bool) (s0 : σ) (u : Tx) : Bool := match rnS step (some s0) u with
  | none => false
  | some s => acc s
theorem RL_none {m : Nat} (h : ∀ x ∈ RL sgn step s0 m, acc x.1 = false) : ∀ u ∈ Wd sgn m, accW step acc s0 u = false := fun u hu => by
  unfold accW
  cases e : rnS step (some s0) u with
  | none => rfl
  | some s => exact h (s, u) (List.mem_filterMap.mpr ⟨u, hu, by rw [e]; rfl⟩)
theorem RL_find (m : Nat) : ((RL sgn step s0 m).find? fun x => acc x.1).map (·.2) = (Wd sgn m).find? (accW step acc s0) := by
  unfold RL
  generalize Wd sgn m = l
  induction l with
  | nil => rfl
  | cons u l ih =>
    rw [List.filterMap_cons, List.find?_cons]
    unfold accW
    cases e : rnS step (some s0) u with
    | none => exact ih
    | some s =>
      simp only [Option.map_some, List.find?_cons]
      cases acc s with
      | true => rfl
      | false => exact ih
theorem Bfs.found (b : Bfs sgn step acc s0 n seen lev) {x : σ × Tx} (h : lev.find? (fun x => acc x.1) = some x) : FirstS sgn (accW step acc s0) (some x.2) := by
  obtain ⟨old, h1, h2, h3, h4⟩ := b.ex
  refine ⟨n, fun m hm => RL_none (b.no m hm), ?_⟩
  rw [h1, dd_find acc _ _ h3] at h
  rw [← RL_find, h]; rfl
theorem Bfs.empty (b : Bfs sgn step acc s0 n seen []) : FirstS sgn (accW step acc s0) none := by
  obtain ⟨old, h1, h2, h3, h4⟩ := b.ex
  have hsub : ∀ s ∈ seen, s ∈ old := fun s hs => by
    rcases (h2 s).mp hs with a | a
    · exact a
    · rcases (dd_mem _ old s).mpr (.inr a) with a | a
      · exact a
      · rw [← h1] at a; simp at a
  have all : ∀ m, ∀ x ∈ RL sgn step s0 (n + m), x.1 ∈ old := by
    intro m
    induction m with
    | zero => exact fun x hx => hsub _ ((h2 _).mpr (.inr (List.mem_map.mpr ⟨x, hx, rfl⟩)))
    | succ m ih =>
      intro x hx
      rw [show n + (m + 1) = (n + m) + 1 by omega, RL_succ] at hx
      obtain ⟨y, hy, hx⟩ := List.mem_flatMap.mp hx
      unfold chd at hx
      obtain ⟨c, hc, e⟩ := List.mem_filterMap.mp hx
      cases e2 : step y.1 c with
      | none => simp [e2] at e
      | some s' =>
        simp [e2] at e
        have := h4 _ (ih y hy) (s', [] ++ [c]) (List.mem_filterMap.mpr ⟨c, hc, by rw [e2]; rfl⟩)
        rw [← e]
        exact hsub _ this
  intro m
  refine RL_none fun x hx => ?_
  by_cases hm : m < n
  · exact b.no m hm x hx
  · have := all (m - n) x (by rw [show n + (m - n) = m by omega]; exact hx)
    exact h3 _ this
end
theorem Wd_len {sgn : Tx} : ∀ {n : Nat} {u : Tx}, u ∈ Wd sgn n ↔ u.length = n ∧ ∀ c ∈ u, c ∈ sgn
  | 0, u => by
    simp only [Wd, List.mem_singleton]
    constructor
    · rintro rfl; simp
    · rintro ⟨h, _⟩; exact List.length_eq_zero_iff.mp h
  | n + 1, u => by
    simp only [Wd, List.mem_flatMap, List.mem_map]
    constructor
    · rintro ⟨v, hv, c, hc, rfl⟩
      obtain ⟨h1, h2⟩ := Wd_len.mp hv
      refine ⟨by simp [h1], fun d hd => ?_⟩
      rcases List.mem_append.mp hd with h | h
      · exact h2 d h
      · simp at h; rw [h]; exact hc
    · rintro ⟨h1, h2⟩
      have hne : u ≠ [] := fun e => by rw [e] at h1; simp at h1
      refine ⟨u.dropLast, Wd_len.mpr ⟨by simp [h1], fun c hc => h2 c (List.dropLast_subset _ hc)⟩, u.getLast hne, h2 _ (List.getLast_mem hne), List.dropLast_concat_getLast hne⟩
theorem FirstS.uniq {sgn : Tx} {P : Tx → Bool} {o o' : Option Tx} (h : FirstS sgn P o) (h' : FirstS sgn P o') : o = o' := by
  have key : ∀ {t : Tx}, FirstS sgn P (some t) → FirstS sgn P none → False := fun {t} ⟨n, _, h2⟩ h3 => by
    have := h3 n t (List.mem_of_find?_eq_some h2)
    rw [List.find?_some h2] at this; cases this
  cases o with
  | none => cases o' with
    | none => rfl
    | some t => exact (key h' h).elim
  | some t => cases o' with
    | none => exact (key h h').elim
    | some t' =>
      obtain ⟨n, h1, h2⟩ := h
      obtain ⟨n', h1', h2'⟩ := h'
      have e : n = n' := by
        rcases Nat.lt_trichotomy n n' with a | a | a
        · have := h1' n a t (List.mem_of_find?_eq_some h2)
          rw [List.find?_some h2] at this; cases this
        · exact a
        · have := h1 n' a t' (List.mem_of_find?_eq_some h2')
          rw [List.find?_some h2'] at this; cases this
      subst e
      rw [h2] at h2'
      exact h2'
theorem FirstS.congr {sgn : Tx} {P P' : Tx → Bool} {o : Option Tx} (e : ∀ u, (∀ c ∈ u, c ∈ sgn) → P u = P' u) (h : FirstS sgn P o) : FirstS sgn P' o := by
  have e' : ∀ n, ∀ u ∈ Wd sgn n, P u = P' u := fun n u hu => e u (Wd_len.mp hu).2
  cases o with
  | none => exact fun n u hu => by rw [← e' n u hu]; exact h n u hu
  | some t =>
    obtain ⟨n, h1, h2⟩ := h
    refine ⟨n, fun m hm u hu => by rw [← e' m u hu]; exact h1 m hm u hu, ?_⟩
    rw [← h2]
    have : ∀ l : List Tx, (∀ u ∈ l, P u = P' u) → l.find? P' = l.find? P := by
      intro l
      induction l with
      | nil => intro _; rfl
      | cons x l ih =>
        intro h
        rw [List.find?_cons, List.find?_cons, h x List.mem_cons_self, ih fun u hu => h u (List.mem_cons_of_mem _ hu)]
    exact this _ (e' n)
end DL

set_option Elab.async false
set_option linter.all false
set_option maxRecDepth 100000
namespace DL
open PySem PySem.Spec PyProof.Rows L2
/-! ### Machine.nearest, first_of, first -/
abbrev stS (cs : Cls) (rs : List Ru) : List One → Nat → Option (List One) := fun os c => stp cs rs (some os) c
theorem rnS_stp (cs : Cls) (rs : List Ru) : ∀ (u : Tx) (st : St1), rnS (stS cs rs) st u = u.foldl (stp cs rs) st
  | [], st => rfl
  | c :: u, st => by
    have ih := rnS_stp cs rs u (stp cs rs st c)
    rw [List.foldl_cons, ← ih]
    cases st <;> rfl
theorem accW_stp (cs : Cls) (rs : List Ru) (os : List One) (u : Tx) : accW (stS cs rs) (fun os => kps rs os) os u = fineB rs (u.foldl (stp cs rs) (some os)) := by
  unfold accW
  rw [rnS_stp]
  cases u.foldl (stp cs rs) (some os) <;> rfl
theorem cap_of {cs : Cls} {rs : List Ru} (fw : Few cs rs) (h0 : 0 < (sgs cs).length) (l : List (List One)) (nd : l.Nodup) (h : ∀ x ∈ l, Rch cs rs x) : l.length ≤ sizeLine := by
  have hm : (sgs cs)[0] ∈ sgs cs := List.getElem_mem h0
  have := fw (l.map fun os => (os, (sgs cs)[0])) (nd_map (fun x y e => (Prod.mk.inj e).1) nd) fun x hx => by
    obtain ⟨os, ho, rfl⟩ := List.mem_map.mp hx
    exact ⟨h os ho, hm⟩
  simpa using this
def nkS (os : List One) : NestedKey := nk (.tup (os.map oD))
theorem nkS_inj {a b : List One} (h : nkS a = nkS b) : a = b := by
  simp [nkS, nk] at h
  exact os_inj h
def seenD (l : List (List One)) : List (NestedKey × D) := l.map fun os => (nkS os, .bl true)
theorem seen_get : ∀ (l : List (List One)) (os : List One), (getA (seenD l) (nkS os)).isSome = decide (os ∈ l)
  | [], os => by simp [seenD, getA]
  | x :: l, os => by
    have ih := seen_get l os
    simp only [seenD, List.map_cons, getA] at ih ⊢
    by_cases h : nkS x = nkS os
    · rw [if_pos h, nkS_inj h]; simp
    · rw [if_neg h, ih]
      have : os ≠ x := fun e => h (by rw [e])
      simp [this]
theorem seen_put {l : List (List One)} {os : List One} (h : os ∉ l) : putA (seenD l) (nkS os) (.bl true) = seenD (l ++ [os]) := by
  unfold putA
  have := seen_get l os
  rw [if_neg (by rw [this]; simpa using h)]
  simp [seenD]
theorem keyS_ok (os : List One) : keyOk (os.map oD) ∧ keyD (nk (.tup (os.map oD))) = .tup (os.map oD) := by
  refine ⟨⟨by simp [plains_os], ?_⟩, ?_⟩
  · have := depth_os os
    simp only [nk, NestedKey.depth]
    omega
  · simp only [nk, keyD, key_os]
/-- states and texts, as a list holds them -/
def levD (l : SW (List One)) : List D := l.map fun x => .tup [.tup (x.1.map oD), .str (S x.2)]
structure NM (C p : Addr) (cs : Cls) (rs : List Ru) (k s a : Addr) (M0 : DM) (seen : List (List One)) (later : SW (List One)) (N : DM) : Prop where
  mm : MK C p cs rs k N
  kp : Kp k M0 N
  hs : N s = some (.dT (seenD seen))
  ha : N a = some (.lst (levD later))
  fs : M0 s = none
  fa : M0 a = none
  sk : s ≠ k
  nd : seen.Nodup
  rc : ∀ x ∈ seen, Rch cs rs x
  le : later.length < seen.length
section
variable {C p k s a l : Addr} {cs : Cls} {rs : List Ru} {M0 N : DM} {seen : List (List One)} {later lev : SW (List One)}
theorem NM.ak (m : NM C p cs rs k s a M0 seen later N) : a ≠ k := by
  obtain ⟨kn, h, _⟩ := m.mm.kn
  exact ne_of m.ha h (by intro z; cases z)
theorem NM.as (m : NM C p cs rs k s a M0 seen later N) : a ≠ s := ne_of m.ha m.hs (by intro z; cases z)
theorem NM.room (m : NM C p cs rs k s a M0 seen later N) : seen.length ≤ sizeLine := cap_of m.mm.few (sgs_pos m.mm.c) seen m.nd m.rc
theorem NM.off (m : NM C p cs rs k s a M0 seen later N) {N' : DM} (o : Off k N N') (mk : MK C p cs rs k N') : NM C p cs rs k s a M0 seen later N' :=
  ⟨mk, m.kp.off o, (o s m.sk).trans m.hs, (o a m.ak).trans m.ha, m.fs, m.fa, m.sk, m.nd, m.rc, m.le⟩
theorem NM.add (m : NM C p cs rs k s a M0 seen later N) {os : List One} {u : Tx} (h : os ∉ seen) (hr : Rch cs rs os) :
    NM C p cs rs k s a M0 (seen ++ [os]) (later ++ [(os, u)]) (updM (updM N s (.dT (seenD (seen ++ [os])))) a (.lst (levD (later ++ [(os, u)])))) := by
  have m1 : MK C p cs rs k (updM N s (.dT (seenD (seen ++ [os])))) := m.mm.put m.hs m.sk ⟨(by intro _ _ z; cases z), (by intro _ z; cases z)⟩
  have ha1 : (updM N s (.dT (seenD (seen ++ [os])))) a = some (.lst (levD later)) := by rw [updM_ne m.as]; exact m.ha
  refine ⟨m1.put ha1 m.ak ⟨(by intro _ _ z; cases z), (by intro _ z; cases z)⟩, (m.kp.put m.fs).put m.fa, by rw [updM_ne m.as.symm, updM_same], updM_same, m.fs, m.fa, m.sk, ?_, ?_, ?_⟩
  · exact List.nodup_append.mpr ⟨m.nd, by simp, fun x hx y hy e => h (by simp at hy; rw [← hy, ← e]; exact hx)⟩
  · intro x hx
    rcases List.mem_append.mp hx with e | e
    · exact m.rc x e
    · simp at e; rw [e]; exact hr
  · have := m.le; simp; omega
def nrIn (C : Addr) (stp_ : DSp) : DS := (dSeq (dSet 8 (dMeth C (Str.ofString "step") stp_ (dVar 0) (daCons (dVar 5) (daCons (dVar 7) daNil))))
    (dIfS (dAnd (dTest (dOp isnD (dVar 8) (dC .non))) (dTest (dOp ninD (dVar 8) (dVar 2)))) (dSeq (dAsg (dC (.bl true)) (dgSub (dVar 2) (dVar 8)))
    (dDrop (dBM "list" appM (dVar 4) (daCons (dTup (daCons (dVar 8) (daCons (dOp addD (dVar 6) (dVar 7)) daNil))) daNil)))) dNext))
theorem chd_cons (sgn : Tx) (c : Nat) (step : List One → Nat → Option (List One)) (x : List One × Tx) : chd (c :: sgn) step x = (match step x.1 c with | some s => [(s, x.2 ++ [c])] | none => []) ++ chd sgn step x := by
  unfold chd
  rw [List.filterMap_cons]
  cases step x.1 c <;> rfl
theorem near_in {E : DEnds} {os : List One} {u : Tx} {d1 d3 : Option D} (hos : Rch cs rs os) (hu : u.length + 1 ≤ sizeLine) : ∀ (sgn : Tx) (seen : List (List One)) (later : SW (List One)) (x7 x8 : Option D) (N : DM), (∀ c ∈ sgn, c ∈ sgs cs) → NM C p cs rs k s a M0 seen later N →
    (N l = some (.lst (levD lev))) → l ≠ a → l ≠ k → l ≠ s →
    (∀ x7 x8 N', NM C p cs rs k s a M0 (seen ++ (dd seen (chd sgn (stS cs rs) (os, u))).map (·.1)) (later ++ dd seen (chd sgn (stS cs rs) (os, u))) N' → N' l = some (.lst (levD lev)) →
      E.nx [some (.ref p), d1, some (.ref s), d3, some (.ref a), some (.tup (os.map oD)), some (.str (S u)), x7, x8] N') →
    forW (fun _ => True) (dgName 7) (nrIn C (sp_Machine_step C)) E (sgn.map fun c => .str (sg c)) [some (.ref p), d1, some (.ref s), d3, some (.ref a), some (.tup (os.map oD)), some (.str (S u)), x7, x8] N
  | [], seen, later, x7, x8, N, _, m, hl, _, _, _, h => by
    rw [List.map_nil, forW_nil]
    exact ⟨trivial, h x7 x8 N (by simpa [chd, dd] using m) hl⟩
  | c :: sgn, seen, later, x7, x8, N, hc, m, hl, la, lk, ls, h => by
    rw [List.map_cons, forW_cons]
    refine ⟨trivial, ?_⟩
    have hcm := hc c List.mem_cons_self
    have hc' : ∀ c ∈ sgn, c ∈ sgs cs := fun x hx => hc x (List.mem_cons_of_mem _ hx)
    obtain ⟨n, f, nd, fd, h1, h2, h3, h4, h5⟩ := m.mm.m.ex
    simp -implicitDefEqProofs [nrIn, getS, h1, lk_step, -List.lookup_eq_none_iff]
    refine ⟨p, cs, rs, k, some os, c, rfl, m.mm, fun x e => by cases e; exact hos, hcm, fun N1 o1 mk1 => ?_⟩
    have m1 := m.off o1 mk1
    have hl1 : N1 l = some (.lst (levD lev)) := (o1 l lk).trans hl
    rw [chd_cons] at h
    simp only [stS] at h
    cases e : stp cs rs (some os) c with
    | none =>
      rw [e] at h
      simp -implicitDefEqProofs [stD, getS]
      exact near_in hos hu sgn seen later _ _ N1 hc' m1 hl1 la lk ls (fun y7 y8 N' m' hl' => h y7 y8 N' (by simpa using m') hl')
    | some os' =>
      rw [e] at h
      have hr' : Rch cs rs os' := (StR.step (fun x e => by cases e; exact hos) hcm) os' e
      obtain ⟨ko, kd⟩ := keyS_ok os'
      simp -implicitDefEqProofs [stD, getS, ko, m1.hs, -nk_tup]
      have hg := seen_get seen os'
      have hk : nk (.tup (os'.map oD)) = nkS os' := rfl
      rw [hk]
      simp only [List.singleton_append, dd] at h
      by_cases hm : os' ∈ seen
      · have hg' : (getA (seenD seen) (nkS os')).isSome = true := by rw [hg]; simpa using hm
        rw [if_pos hm] at h
        cases e2 : getA (seenD seen) (nkS os') with
        | none => rw [e2] at hg'; simp at hg'
        | some d =>
          simp -implicitDefEqProofs
          exact near_in hos hu sgn seen later _ _ N1 hc' m1 hl1 la lk ls h
      · have hg' : getA (seenD seen) (nkS os') = none := by
          cases e2 : getA (seenD seen) (nkS os') with
          | none => rfl
          | some d => rw [e2] at hg; simp at hg; exact absurd hg hm
        rw [if_neg hm] at h
        rw [hg']
        have ma := m1.add (u := u ++ [c]) hm hr'
        have hroom := ma.room
        simp -implicitDefEqProofs [getS, dgSub, m1.hs, ko, kd, hk, -nk_tup]
        have hsl : (seenD seen).length < sizeLine := by simp [seenD] at hroom ⊢; omega
        have haN : (updM N1 s (.dT (seenD (seen ++ [os'])))) a = some (.lst (levD later)) := by rw [updM_ne m1.as]; exact m1.ha
        refine ⟨kd, hsl, ?_⟩
        rw [seen_put hm]
        simp -implicitDefEqProofs [getS, appM, arg1, tyK_lst haN, haN]
        refine ⟨hu, by have h1 := m1.le; have h2 := m1.room; simp [levD]; omega, ?_⟩
        have el : levD later ++ [D.tup [D.tup (os'.map oD), D.str (S (u ++ [c]))]] = levD (later ++ [(os', u ++ [c])]) := by simp [levD]
        rw [el]
        refine near_in hos hu sgn (seen ++ [os']) (later ++ [(os', u ++ [c])]) _ _ _ hc' ma ?_ la lk ls fun y7 y8 N' m' hl' => h y7 y8 N' (by simpa using m') hl'
        rw [updM_ne la, updM_ne ls]; exact hl1
def nrLv (C : Addr) (f st : DSp) : DS := (dSeq (dIfS (dTru (dMeth C (Str.ofString "fine") f (dVar 0) (daCons (dVar 5) daNil))) (dRet (dVar 6)) dNext)
    (dFor (diAny (dFld C (Str.ofString "signs") (dVar 0))) (dgName 7) (nrIn C st)))
theorem lk_signs {rs cs n f st k} : List.lookup (Str.ofString "signs") (mflds rs cs n f st k) = some (.str (S (sgs cs))) := by simp [mflds, List.lookup, ofString_inj, BEq.beq]
theorem near_lv {E : DEnds} {d1 d3 : Option D} (la : l ≠ a) (lk : l ≠ k) (ls : l ≠ s) : ∀ (L : SW (List One)) (seen : List (List One)) (later : SW (List One)) (x5 x6 x7 x8 : Option D) (N : DM), (∀ x ∈ L, Rch cs rs x.1 ∧ x.2.length + 1 ≤ sizeLine) → NM C p cs rs k s a M0 seen later N →
    N l = some (.lst (levD lev)) →
    (∀ x, L.find? (fun x => kps rs x.1) = some x → ∀ N', MK C p cs rs k N' → Kp k M0 N' → E.rt (.str (S x.2)) N') →
    (L.find? (fun x => kps rs x.1) = none → ∀ x5 x6 x7 x8 N', NM C p cs rs k s a M0 (seen ++ (dd seen (L.flatMap (chd (sgs cs) (stS cs rs)))).map (·.1)) (later ++ dd seen (L.flatMap (chd (sgs cs) (stS cs rs)))) N' → N' l = some (.lst (levD lev)) →
      E.nx [some (.ref p), d1, some (.ref s), d3, some (.ref a), x5, x6, x7, x8] N') →
    forW (fun N => N l = some (.lst (levD lev))) (dgTup 2 (dgCons (dgName 5) (dgCons (dgName 6) dgNil))) (nrLv C (sp_Machine_fine C) (sp_Machine_step C)) E (levD L) [some (.ref p), d1, some (.ref s), d3, some (.ref a), x5, x6, x7, x8] N
  | [], seen, later, x5, x6, x7, x8, N, _, m, hl, _, h => by
    show forW _ _ _ E [] _ _
    rw [forW_nil]
    exact ⟨hl, h rfl x5 x6 x7 x8 N (by simpa [dd] using m) hl⟩
  | x :: L, seen, later, x5, x6, x7, x8, N, hx, m, hl, h1, h => by
    show forW _ _ _ E (_ :: levD L) _ _
    rw [forW_cons]
    refine ⟨hl, ?_⟩
    obtain ⟨hr, hu⟩ := hx x List.mem_cons_self
    obtain ⟨n, f, nd, fd, a1, a2, a3, a4, a5⟩ := m.mm.m.ex
    simp -implicitDefEqProofs [nrLv, getS, a1, lk_fine, lk_signs, chars_S, -List.lookup_eq_none_iff]
    refine ⟨p, cs, rs, k, some x.1, rfl, m.mm, fun y e => by cases e; exact hr, ?_⟩
    rw [List.find?_cons] at h1 h
    have ef : fineB rs (some x.1) = kps rs x.1 := rfl
    rw [ef]
    cases e : kps rs x.1 with
    | true =>
      rw [e] at h1
      simp -implicitDefEqProofs
      exact h1 x rfl N m.mm m.kp
    | false =>
      rw [e] at h1 h
      simp -implicitDefEqProofs [a1, lk_signs, chars_S, -List.lookup_eq_none_iff]
      refine near_in hr hu (sgs cs) seen later x7 x8 N (fun c hc => hc) m hl la lk ls fun y7 y8 N' m' hl' => ?_
      refine near_lv la lk ls L _ _ _ _ y7 y8 N' (fun y hy => hx y (List.mem_cons_of_mem _ hy)) m' hl' h1 fun e2 z5 z6 z7 z8 N2 m2 hl2 => h e2 z5 z6 z7 z8 N2 ?_ hl2
      rw [List.flatMap_cons, dd_app]
      simpa using m2
def nrWh (C : Addr) (f st : DSp) : DS := (dSeq (dSet 4 (dLst daNil))
    (dSeq (dFor (diAny (dVar 3)) (dgTup 2 (dgCons (dgName 5) (dgCons (dgName 6) dgNil))) (nrLv C f st))
    (dSet 3 (dVar 4))))
theorem lev_plain : ∀ lev : SW (List One), plains (levD lev) = true ∧ NestedKey.depthAll (nks (levD lev)) ≤ 5
  | [] => ⟨rfl, by simp [levD, nks, NestedKey.depthAll]⟩
  | x :: lev => by
    obtain ⟨h1, h2⟩ := lev_plain lev
    have h3 := depth_os x.1
    simp only [levD, List.map_cons, plains, plain, plains_os, nks, nk, NestedKey.depthAll, NestedKey.depth] at h1 h2 ⊢
    exact ⟨by simp [h1], by omega⟩
theorem Bfs.mem {s0 : List One} {n : Nat} {x : List One × Tx} (b : Bfs (sgs cs) (stS cs rs) (kps rs) s0 n seen lev) (h : x ∈ lev) : x ∈ RL (sgs cs) (stS cs rs) s0 n := by
  obtain ⟨old, h1, _⟩ := b.ex
  rw [h1] at h
  exact dd_sub _ _ _ h
theorem RL_of {s0 : List One} {n : Nat} {x : List One × Tx} (h0 : Rch cs rs s0) (h : x ∈ RL (sgs cs) (stS cs rs) s0 n) : Rch cs rs x.1 ∧ x.2.length = n := by
  obtain ⟨u, hu, e⟩ := List.mem_filterMap.mp h
  obtain ⟨h1, h2⟩ := Wd_len.mp hu
  cases e2 : rnS (stS cs rs) (some s0) u with
  | none => rw [e2] at e; cases e
  | some os =>
    rw [e2] at e
    simp at e
    subst e
    rw [rnS_stp] at e2
    exact ⟨(StR.run (st := some s0) (fun y e => by cases e; exact h0) h2) os e2, h1⟩
theorem near_wh {s0 : List One} (h0 : Rch cs rs s0) {E : DEnds} {d1 : Option D} (sk : s ≠ k) (fs : M0 s = none)
    (hrt : ∀ x N', FirstS (sgs cs) (accW (stS cs rs) (kps rs) s0) (some x) → x.length + 1 ≤ sizeLine → MK C p cs rs k N' → Kp k M0 N' → E.rt (.str (S x)) N')
    (hnx : FirstS (sgs cs) (accW (stS cs rs) (kps rs) s0) none → ∀ x3 x4 x5 x6 x7 x8 N', MK C p cs rs k N' → Kp k M0 N' → E.nx [some (.ref p), d1, some (.ref s), x3, x4, x5, x6, x7, x8] N') :
    ∀ (d n : Nat) (seen : List (List One)) (lev : SW (List One)), 2 * (sizeLine + 1 - seen.length) + (if lev = [] then 0 else 1) ≤ d → seen.length ≤ sizeLine → Bfs (sgs cs) (stS cs rs) (kps rs) s0 n seen lev → (lev ≠ [] → n < seen.length) →
      ∃ m, ∀ (l : Addr) (x4 x5 x6 x7 x8 : Option D) (N : DM), MK C p cs rs k N → Kp k M0 N → N s = some (.dT (seenD seen)) → N l = some (.lst (levD lev)) → M0 l = none →
        whW (dTest (dOp neD (dVar 3) (dLst daNil))) (nrWh C (sp_Machine_fine C) (sp_Machine_step C)) E m [some (.ref p), d1, some (.ref s), some (.ref l), x4, x5, x6, x7, x8] N := by
  intro d
  induction d with
  | zero =>
    intro n seen lev hd hcap b hn
    exfalso
    omega
  | succ d ih =>
    intro n seen lev hd hcap b hn
    have rc : ∀ x ∈ seen, Rch cs rs x := fun x hx => by
      obtain ⟨m, y, hy, rfl⟩ := b.rc x hx
      exact (RL_of h0 hy).1
    obtain ⟨pl1, pl2⟩ := lev_plain lev
    have cond : ∀ (l : Addr) (x4 x5 x6 x7 x8 : Option D) (N : DM) (Q : Bool → DM → Prop), N l = some (.lst (levD lev)) → (∀ b, N b = none → Q (!decide (lev = [])) (updM N b (.lst []))) → dTest (dOp neD (dVar 3) (dLst daNil)) [some (.ref p), d1, some (.ref s), some (.ref l), x4, x5, x6, x7, x8] N Q := by
      intro l x4 x5 x6 x7 x8 N Q hl hQ
      simp -implicitDefEqProofs [getS]
      intro b hb
      rw [updM_ne (ne_free hl hb), hl]
      simp -implicitDefEqProofs [pl1]
      have e : decide (nks (levD lev) = []) = decide (lev = []) := by cases lev <;> simp [levD, nks]
      refine ⟨by omega, ?_⟩
      first | (rw [e]; exact hQ b hb) | skip
    by_cases hlev : lev = []
    · subst hlev
      refine ⟨1, fun l x4 x5 x6 x7 x8 N mm kp hs hl fl => ?_⟩
      rw [whW_s]
      refine cond _ _ _ _ _ _ _ _ hl fun b0 hb0 => ?_
      simp -implicitDefEqProofs
      exact hnx b.empty _ _ _ _ _ _ _ (mm.new hb0) (kp.new hb0)
    · have hn := hn hlev
      have hb : (!decide (lev = [])) = true := by simp [hlev]
      have hrcl : ∀ x ∈ lev, Rch cs rs x.1 ∧ x.2.length + 1 ≤ sizeLine := fun x hx => by
        obtain ⟨h1, h2⟩ := RL_of h0 (b.mem hx)
        exact ⟨h1, by omega⟩
      have go : ∀ (l : Addr) (x4 x5 x6 x7 x8 : Option D) (N : DM) (F : DEnds), MK C p cs rs k N → Kp k M0 N → N s = some (.dT (seenD seen)) → N l = some (.lst (levD lev)) → M0 l = none →
          (∀ x, lev.find? (fun x => kps rs x.1) = some x → ∀ N', MK C p cs rs k N' → Kp k M0 N' → F.rt (.str (S x.2)) N') →
          (lev.find? (fun x => kps rs x.1) = none → ∀ a x4 x5 x6 x7 x8 N', M0 a = none → NM C p cs rs k s a M0 (seen ++ (dd seen (lev.flatMap (chd (sgs cs) (stS cs rs)))).map (·.1)) (dd seen (lev.flatMap (chd (sgs cs) (stS cs rs)))) N' →
            F.nx [some (.ref p), d1, some (.ref s), some (.ref a), x4, x5, x6, x7, x8] N') →
          nrWh C (sp_Machine_fine C) (sp_Machine_step C) F [some (.ref p), d1, some (.ref s), some (.ref l), x4, x5, x6, x7, x8] N := by
        intro l x4 x5 x6 x7 x8 N F mm kp hs hl fl h1 h2
        have lk : l ≠ k := by
          obtain ⟨kn, hk, _⟩ := mm.kn
          exact ne_of hl hk (by intro z; cases z)
        have ls : l ≠ s := ne_of hl hs (by intro z; cases z)
        simp -implicitDefEqProofs [nrWh, getS]
        intro a ha
        have la : l ≠ a := ne_free hl ha
        have sa : s ≠ a := ne_free hs ha
        have fa : M0 a = none := by
          cases e : M0 a with
          | none => rfl
          | some o =>
            by_cases hk : a = k
            · obtain ⟨kn, h, _⟩ := mm.kn
              rw [hk, h] at ha; cases ha
            · rw [kp a o hk e] at ha; cases ha
        have hl2 : (updM N a (.lst [])) l = some (.lst (levD lev)) := by rw [updM_ne la]; exact hl
        rw [itK_lst hl2]
        refine near_lv la lk ls lev seen [] _ _ _ _ _ hrcl ⟨mm.new ha, kp.new ha, by rw [updM_ne sa]; exact hs, updM_same, fs, fa, sk, b.nd, rc, by simp; omega⟩ hl2 h1 fun e y5 y6 y7 y8 N' m' hl' => ?_
        simp -implicitDefEqProofs [getS]
        exact h2 e a _ _ _ _ _ N' fa (by simpa using m')
      cases hf : lev.find? (fun x => kps rs x.1) with
      | some x =>
        refine ⟨1, fun l x4 x5 x6 x7 x8 N mm kp hs hl fl => ?_⟩
        rw [whW_s]
        refine cond _ _ _ _ _ _ _ _ hl fun b0 hb0 => ?_
        rw [hb, if_pos rfl]
        refine go l _ _ _ _ _ _ _ (mm.new hb0) (kp.new hb0) (by rw [updM_ne (ne_free hs hb0)]; exact hs) (by rw [updM_ne (ne_free hl hb0)]; exact hl) fl (fun y hy N' m' k' => ?_) (fun e => by rw [hf] at e; cases e)
        exact hrt _ N' (b.found hy) (hrcl y (List.mem_of_find?_eq_some hy)).2 m' k'
      | none =>
        have bn := b.next fun x hx => by
          have := List.find?_eq_none.mp hf x hx
          simpa using this
        have hlen : (seen ++ (dd seen (lev.flatMap (chd (sgs cs) (stS cs rs)))).map (·.1)).length = seen.length + (dd seen (lev.flatMap (chd (sgs cs) (stS cs rs)))).length := by simp
        by_cases hcap' : (seen ++ (dd seen (lev.flatMap (chd (sgs cs) (stS cs rs)))).map (·.1)).length ≤ sizeLine
        · obtain ⟨m, hm⟩ := ih (n + 1) _ _ (by
            rw [if_neg hlev] at hd
            rw [hlen] at hcap' ⊢
            by_cases e : dd seen (lev.flatMap (chd (sgs cs) (stS cs rs))) = []
            · rw [if_pos e, e]; simp; omega
            · rw [if_neg e]
              have := List.length_pos_iff.mpr e
              omega) hcap' bn (fun e => by
            have := List.length_pos_iff.mpr e
            rw [hlen]; omega)
          refine ⟨m + 1, fun l x4 x5 x6 x7 x8 N mm kp hs hl fl => ?_⟩
          rw [whW_s]
          refine cond _ _ _ _ _ _ _ _ hl fun b0 hb0 => ?_
          rw [hb, if_pos rfl]
          refine go l _ _ _ _ _ _ _ (mm.new hb0) (kp.new hb0) (by rw [updM_ne (ne_free hs hb0)]; exact hs) (by rw [updM_ne (ne_free hl hb0)]; exact hl) fl (fun y hy => by rw [hf] at hy; cases hy) (fun _ a y4 y5 y6 y7 y8 N' fa m' => ?_)
          exact hm a _ _ _ _ _ N' m'.mm m'.kp m'.hs m'.ha fa
        · refine ⟨1, fun l x4 x5 x6 x7 x8 N mm kp hs hl fl => ?_⟩
          exfalso
          exact hcap' (cap_of mm.few (sgs_pos mm.c) _ bn.nd fun x hx => by
            obtain ⟨m, y, hy, rfl⟩ := bn.rc x hx
            exact (RL_of h0 hy).1)
def otD : Option Tx → D
  | none => .non
  | some t => .str (S t)
/-- .. and no longer than a text may be -/
def FirstT (sgn : Tx) (P : Tx → Bool) (o : Option Tx) : Prop := FirstS sgn P o ∧ ∀ t, o = some t → t.length < 16777216
theorem FirstT.congr {sgn : Tx} {P P' : Tx → Bool} {o : Option Tx} (e : ∀ u, (∀ c ∈ u, c ∈ sgn) → P u = P' u) (h : FirstT sgn P o) : FirstT sgn P' o := ⟨h.1.congr e, h.2⟩
def sp_Machine_nearest (C : Addr) : DSp := fun ds M R => ∃ p cs rs k st, ds = [.ref p, stD st] ∧ MK C p cs rs k M ∧ StR cs rs st ∧
  ∀ o M', FirstT (sgs cs) (fun u => fineB rs (u.foldl (stp cs rs) st)) o → Off k M M' → MK C p cs rs k M' → R (otD o) M'
theorem stp_none (cs : Cls) (rs : List Ru) : ∀ u : Tx, u.foldl (stp cs rs) none = none
  | [] => rfl
  | c :: u => stp_none cs rs u
theorem l_nearest (C : Addr) : ∀ ds M R, sp_Machine_nearest C ds M R → R_Machine_nearest C (sp_Machine_fine C) (sp_Machine_step C) (topE R) (startD 9 ds) M := by
  rintro _ M R ⟨p, cs, rs, k, st, rfl, mk, hst, q⟩
  cases st with
  | none =>
    simp -implicitDefEqProofs [R_Machine_nearest, startD, topE, getS, stD]
    exact Dn.mk (q none M ⟨fun n u _ => by show fineB rs (u.foldl (stp cs rs) none) = false; rw [stp_none]; rfl, fun _ e => by cases e⟩ (Off.refl k M) mk)
  | some os =>
    have h0 := hst os rfl
    obtain ⟨ko, kd⟩ := keyS_ok os
    simp -implicitDefEqProofs [R_Machine_nearest, startD, topE, getS, stD, ko, kd, -nk_tup]
    intro s hs l hl
    have ls : l ≠ s := (free_of hl).1
    have sk : s ≠ k := by
      obtain ⟨kn, h, _⟩ := mk.kn
      exact (ne_free h hs).symm
    have e1 : (updM (updM M s (.dT [(nk (.tup (os.map oD)), D.bl true)])) l (.lst [D.tup [D.tup (os.map oD), D.str (Str.ofString "")]])) s = some (.dT (seenD [os])) := by rw [updM_ne ls.symm, updM_same]; rfl
    have e2 : (updM (updM M s (.dT [(nk (.tup (os.map oD)), D.bl true)])) l (.lst [D.tup [D.tup (os.map oD), D.str (Str.ofString "")]])) l = some (.lst (levD [(os, [])])) := by rw [updM_same, S_nil]; rfl
    have e0 : (fun u => accW (stS cs rs) (kps rs) os u) = fun u => fineB rs (u.foldl (stp cs rs) (some os)) := funext fun u => accW_stp cs rs os u
    have fin : ∀ (o : Option Tx) (N' : DM), FirstT (sgs cs) (accW (stS cs rs) (kps rs) os) o → MK C p cs rs k N' → Kp k M N' → Dn R (otD o) N' := fun o N' f m' k' =>
      mk.dn k' m' fun M' o' m2 => q o M' (by rw [← e0]; exact f) o' m2
    obtain ⟨m, hm⟩ := near_wh (C := C) (p := p) (k := k) (s := s) (M0 := M) h0 (E := { nx := fun ds M1 => dRet (dC .non) (topE R) ds M1, rt := fun d M => Dn R d M, bk := fun _ _ => False, ct := fun _ _ => False }) (d1 := some (.tup (os.map oD))) sk hs
      (fun x N' f hx m' k' => fin (some x) N' ⟨f, fun t e => by cases e; rw [sizeLine_eq] at hx; omega⟩ m' k') (fun f _ _ _ _ _ _ N' m' k' => fin none N' ⟨f, fun _ e => by cases e⟩ m' k') _ 0 [os] [(os, [])] (Nat.le_refl _) (by rw [sizeLine_eq]; simp) (Bfs.start _ _ _ os) (by simp)
    exact ⟨m, hm l none none none none none _ ((mk.new hs).new hl) (((Kp.refl k M).new hs).new hl) e1 e2 (free_of hl).2⟩
/-! ### first_of, first -/
def sp_first_of (C : Addr) : DSp := fun ds M R => ∃ cs rs, ds = [pD cs rs] ∧ ClsOk cs ∧ (∀ r ∈ rs, RuOk cs r) ∧ rs.length ≤ 1000 ∧ Few cs rs ∧ ∀ o, FirstT (sgs cs) (allowL cs rs) o → R (otD o) M
theorem l_first_of (C : Addr) : ∀ ds M R, sp_first_of C ds M R → R_first_of C (sp_Machine___init__ C) (sp_Machine_nearest C) (topE R) (startD 2 ds) M := by
  rintro _ M R ⟨cs, rs, rfl, ok, hr, hl, fw, q⟩
  simp -implicitDefEqProofs [R_first_of, startD, topE, getS, -List.lookup_eq_none_iff]
  intro x hx
  refine mk_to hx ok hr hl fw fun M' k le mk hk => ?_
  obtain ⟨n, f, nd, fd, a1, a2, a3, a4, a5⟩ := mk.m.ex
  have lkn : List.lookup (Str.ofString "nearest") (mflds rs cs n f (.tup (rs.map fun r => oD (start1 r))) k) = none := by simp [mflds, List.lookup, ofString_inj, BEq.beq]
  simp -implicitDefEqProofs [getS, a1, lk_start, lkn, -List.lookup_eq_none_iff]
  have e0 : D.tup (rs.map fun r => oD (start1 r)) = stD (some (rs.map start1)) := by simp [stD, Function.comp_def]
  rw [e0]
  refine ⟨x, cs, rs, k, some (rs.map start1), rfl, mk, StR.start, fun o M2 f' o2 mk2 => ?_⟩
  exact .of (fun a u e => (o2 a (ne_free e hk)).trans (le a u e)) (q o (f'.congr fun u hu => fine_allow ok hr hu))
def sp_first (C : Addr) : DSp := fun ds M R => ∃ cs rs, ds = [pD cs rs] ∧ PolOk cs rs ∧ Few cs rs ∧ ∀ o, FirstT (sgs cs) (allowL cs rs) o → R (otD o) M
theorem l_first (C : Addr) : ∀ ds M R, sp_first C ds M R → R_first sp_need_policy (sp_first_of C) (topE R) (startD 1 ds) M := by
  rintro _ M R ⟨cs, rs, rfl, ok, fw, q⟩
  simp -implicitDefEqProofs [R_first, startD, topE, getS]
  have h6 := ok.few
  exact ⟨cs, rs, rfl, ok, cs, rs, rfl, ok.c, ok.r, by omega, fw, fun o f => Dn.mk (q o f)⟩
end
end DL

set_option Elab.async false
set_option linter.all false
set_option maxRecDepth 100000
namespace DL
open PySem PySem.Spec PyProof.Rows L2
/-! ### _law_strings -/
def Wup (sgn : Tx) : Nat → List Tx
  | 0 => Wd sgn 0
  | n + 1 => Wup sgn n ++ Wd sgn (n + 1)
theorem Wup_mem {sgn : Tx} : ∀ {n : Nat} {u : Tx}, u ∈ Wup sgn n ↔ u.length ≤ n ∧ ∀ c ∈ u, c ∈ sgn
  | 0, u => by rw [Wup, Wd_len]; simp
  | n + 1, u => by
    rw [Wup, List.mem_append, Wup_mem, Wd_len]
    constructor
    · rintro (⟨a, b⟩ | ⟨a, b⟩)
      · exact ⟨by omega, b⟩
      · exact ⟨by omega, b⟩
    · rintro ⟨a, b⟩
      by_cases h : u.length ≤ n
      · exact .inl ⟨h, b⟩
      · exact .inr ⟨by omega, b⟩
theorem Wup_sub {sgn : Tx} {n : Nat} : (Wd sgn n).length ≤ (Wup sgn n).length := by
  cases n with
  | zero => exact Nat.le_refl _
  | succ n => rw [Wup, List.length_append]; omega
theorem Wup_mono {sgn : Tx} : ∀ {m n : Nat}, m ≤ n → (Wup sgn m).length ≤ (Wup sgn n).length
  | m, 0, h => by have : m = 0 := by omega
                  rw [this]; exact Nat.le_refl _
  | m, n + 1, h => by
    by_cases e : m = n + 1
    · rw [e]; exact Nat.le_refl _
    · have := Wup_mono (sgn := sgn) (m := m) (n := n) (by omega)
      rw [Wup, List.length_append]; omega
/-- N: all of M0, and a at o -/
structure Two (M0 N : DM) (f w : Addr) (A B : List D) : Prop where
  le : Le M0 N
  hf : N f = some (.lst A)
  hw : N w = some (.lst B)
  ff : M0 f = none
  ne : f ≠ w
theorem Le.put {M N : DM} {p : Addr} {o : DO} (l : Le M N) (h : M p = none) : Le M (updM N p o) := fun a u e => by
  rw [updM_ne (ne_free e h)]; exact l a u e
section
variable {M0 : DM} {f w g : Addr} {A : List D} {sgn : Tx} {E : DEnds} {d0 d1 d2 d3 d5 d6 d7 : Option D}
def strIn_ : DS := (dDrop (dBM "list" extM (dVar 8) (daCons (dLc (diAny (dVar 4)) (dgName 10) dYes (dOp addD (dVar 9) (dVar 10)) [10]) daNil)))
theorem txs_flat (l : List Tx) (h : Tx → List Tx) : txs (l.flatMap h) = l.flatMap fun u => txs (h u) := by
  simp [txs, List.map_flatMap]
theorem str_in (hsz : ∀ u ∈ (B : List Tx), u.length + 1 ≤ sizeLine) (hs : sgn.length ≤ sizeLine) (fw : f ≠ g) (wg : w ≠ g) (fg : M0 g = none) : ∀ (L done : List Tx) (x9 x10 : Option D) (N : DM), (∀ u ∈ L, u ∈ B) → Two M0 N f w A (txs B) → N g = some (.lst (txs done)) → done.length + (L.flatMap fun u => sgn.map fun c => u ++ [c]).length ≤ sizeLine →
    (∀ x9 x10 N', Two M0 N' f w A (txs B) → N' g = some (.lst (txs (done ++ L.flatMap fun u => sgn.map fun c => u ++ [c]))) → E.nx [d0, d1, d2, d3, some (.str (S sgn)), some (.ref f), some (.ref w), d7, some (.ref g), x9, x10] N') →
    forW (fun N => N w = some (.lst (txs B))) (dgName 9) strIn_ E (txs L) [d0, d1, d2, d3, some (.str (S sgn)), some (.ref f), some (.ref w), d7, some (.ref g), x9, x10] N
  | [], done, x9, x10, N, _, t, hg, _, h => by
    show forW _ _ _ E [] _ _
    rw [forW_nil]
    exact ⟨t.hw, h x9 x10 N t (by simpa using hg)⟩
  | u :: L, done, x9, x10, N, hL, t, hg, hl, h => by
    show forW _ _ _ E (_ :: txs L) _ _
    rw [forW_cons]
    refine ⟨t.hw, ?_⟩
    rw [List.flatMap_cons, List.length_append] at hl
    have hu := hsz u (hL u List.mem_cons_self)
    simp -implicitDefEqProofs [strIn_, getS, tyK_lst hg, chars_S]
    refine ⟨hs, lcW_on (fun c => D.str (sg c)) (fun c => some (.str (S (u ++ [c])))) trivial _ _ (fun c hd P Q hq => ?_) fun p hp => ?_⟩
    · simp -implicitDefEqProofs [getS]
      exact ⟨hu, hq⟩
    · have gp : g ≠ p := ne_free hg hp
      have fp : f ≠ p := ne_free t.hf hp
      have wp : w ≠ p := ne_free t.hw hp
      have e1 : sgn.filterMap (fun c => some (D.str (S (u ++ [c])))) = txs (sgn.map fun c => u ++ [c]) := by simp [txs, Function.comp_def]
      rw [List.nil_append, e1]
      show lstK (updM N p (.lst (txs (sgn.map fun c => u ++ [c]))) g) _
      rw [updM_ne gp, hg]
      simp -implicitDefEqProofs only [lstK_lst]
      refine ⟨by simp [txs] at hl ⊢; omega, ?_⟩
      have e2 : txs done ++ txs (sgn.map fun c => u ++ [c]) = txs (done ++ sgn.map fun c => u ++ [c]) := txs_app _ _
      rw [e2]
      refine str_in hsz hs fw wg fg L (done ++ sgn.map fun c => u ++ [c]) _ _ _ (fun v hv => hL v (List.mem_cons_of_mem _ hv)) ⟨(t.le.trans (Le.new hp)).put fg, ?_, ?_, t.ff, t.ne⟩ updM_same (by simp at hl ⊢; omega) fun y9 y10 N' t' hg' => h y9 y10 N' t' (by rw [hg', List.flatMap_cons, List.append_assoc])
      · rw [updM_ne fw, updM_ne fp]; exact t.hf
      · rw [updM_ne wg, updM_ne wp]; exact t.hw
end
def sp__law_strings : DSp := fun ds M R => ∃ (cs : Cls) (rs : List Ru) (most : Nat), ds = [pD cs rs, .int most] ∧ cs.length ≤ 1000 ∧ (sgs cs).length ≤ 1000 ∧ (Wup (sgs cs) most).length ≤ 1000000 ∧ most ≤ 1000 ∧
  ∀ a, M a = none → R (.ref a) (updM M a (.lst (txs (Wup (sgs cs) most))))
def strOut : DS := (dSeq (dSet 8 (dLst daNil))
    (dSeq (dFor (diAny (dVar 6)) (dgName 9) strIn_)
    (dSeq (dDrop (dBM "list" extM (dVar 5) (daCons (dVar 8) daNil)))
    (dSet 6 (dVar 8)))))
theorem str_out {M0 : DM} {f : Addr} {sgn : Tx} {E : DEnds} {d0 d1 d2 d3 : Option D} (hs : sgn.length ≤ 1000) (top : Nat) (h1000 : top ≤ 1000) (hsz : (Wup sgn top).length ≤ 1000000)
    (h : ∀ x6 x7 x8 x9 x10 N', Le M0 N' → N' f = some (.lst (txs (Wup sgn top))) → E.nx [d0, d1, d2, d3, some (.str (S sgn)), some (.ref f), x6, x7, x8, x9, x10] N') :
    ∀ (n j : Nat) (w : Addr) (x7 x8 x9 x10 : Option D) (N : DM), j + n = top → Two M0 N f w (txs (Wup sgn j)) (txs (Wd sgn j)) →
      forW (fun _ => True) (dgName 7) strOut E (intsD j n) [d0, d1, d2, d3, some (.str (S sgn)), some (.ref f), some (.ref w), x7, x8, x9, x10] N
  | 0, j, w, x7, x8, x9, x10, N, hj, t => by
    simp only [intsD]
    rw [forW_nil]
    have : j = top := by omega
    subst this
    exact ⟨trivial, h _ _ _ _ _ N t.le t.hf⟩
  | n + 1, j, w, x7, x8, x9, x10, N, hj, t => by
    simp only [intsD]
    rw [forW_cons]
    refine ⟨trivial, ?_⟩
    simp -implicitDefEqProofs [strOut, getS]
    intro g hg
    have wg : w ≠ g := ne_free t.hw hg
    have fg : f ≠ g := ne_free t.hf hg
    have hw2 : (updM N g (.lst [])) w = some (.lst (txs (Wd sgn j))) := by rw [updM_ne wg]; exact t.hw
    have g0 : M0 g = none := by
      cases e : M0 g with
      | none => rfl
      | some o => rw [t.le _ _ e] at hg; cases hg
    rw [itK_lst hw2]
    have hm := Wup_mono (sgn := sgn) (m := j + 1) (n := top) (by omega)
    have hW : (Wd sgn (j + 1)).length ≤ 1000000 := by have := Wup_sub (sgn := sgn) (n := j + 1); omega
    have hsl : 1000000 ≤ sizeLine := by rw [sizeLine_eq]; decide
    have hW1 : (Wup sgn (j + 1)).length = (Wup sgn j).length + (Wd sgn (j + 1)).length := by rw [Wup, List.length_append]
    refine str_in (B := Wd sgn j) (fun u hu => by have := (Wd_len.mp hu).1; have := small1000 (n := u.length) (by omega); rw [sizeLine_eq]; omega) (small1000 hs) fg wg g0 (Wd sgn j) [] _ _ _ (fun u hu => hu) ⟨t.le.trans (Le.new hg), by rw [updM_ne fg]; exact t.hf, hw2, t.ff, t.ne⟩ (by rw [updM_same]; rfl) (by
      show 0 + (Wd sgn (j + 1)).length ≤ sizeLine
      omega) fun y9 y10 N' t' hg' => ?_
    have e1 : [] ++ ((Wd sgn j).flatMap fun u => sgn.map fun c => u ++ [c]) = Wd sgn (j + 1) := by rw [List.nil_append]; rfl
    rw [e1] at hg'
    simp -implicitDefEqProofs [getS, extM, arg1, tyK_lst t'.hf, t'.hf, hg']
    refine ⟨by simp [txs]; omega, ?_⟩
    rw [txs_app]
    have := str_out hs top h1000 hsz h n (j + 1) g (some (.int j)) (some (.ref g)) y9 y10 (updM N' f (.lst (txs (Wup sgn (j + 1))))) (by omega) ⟨t'.le.put t.ff, updM_same, by rw [updM_ne fg.symm]; exact hg', t.ff, fg⟩
    simpa [Wup, strOut] using this
theorem l_strings : ∀ ds M R, sp__law_strings ds M R → R__law_strings (topE R) (startD 11 ds) M := by
  rintro _ M R ⟨cs, rs, most, rfl, hcl, hsl, hsz, hm, q⟩
  simp -implicitDefEqProofs [R__law_strings, startD, topE, getS, pD, atI0, cD]
  refine ⟨small1000 hcl, lc_sgs (fun p' A a => ?_) fun p1 hp1 => ?_⟩
  · simpa -implicitDefEqProofs [getS, pairD] using a
  simp only [strsOf_S, S_nil, optK_some, join_nil]
  refine ⟨join_sz (by omega), ?_⟩
  intro f hf w hw
  have esg : (cs.map (·.2)).flatten = sgs cs := rfl
  rw [esg]
  refine ⟨by omega, ?_⟩
  have fw : f ≠ w := fun e => by rw [← e, updM_same] at hw; cases hw
  have f0 := (free_of hf).2
  have := str_out (M0 := M) (f := f) (sgn := sgs cs) (E := { nx := fun ds M => dRet (dVar 5) (topE R) ds M, rt := fun d M => Dn R d M, bk := fun _ _ => False, ct := fun _ _ => False }) (d0 := some (pD cs rs)) (d1 := some (.int most)) (d2 := none) (d3 := none) hsl most hm hsz
    (fun x6 x7 x8 x9 x10 N' le hN => ?_) most 0 w none none none none (updM (updM (updM M p1 (.lst (txs (cs.map (·.2))))) f (.lst [D.str (Str.ofString "")])) w (.lst [D.str (Str.ofString "")])) (by omega) ⟨((Le.new hp1).trans (Le.new hf)).trans (Le.new hw), by rw [updM_ne fw, updM_same, S_nil]; rfl, by rw [updM_same, S_nil]; rfl, f0, fw⟩
  · exact this
  · simp -implicitDefEqProofs [getS, topE]
    refine ⟨updM M f (.lst (txs (Wup (sgs cs) most))), fun a o e => ?_, q f f0⟩
    by_cases ha : a = f
    · subst ha; rw [updM_same] at e; cases e; exact hN
    · rw [updM_ne ha] at e; exact le a o e
end DL

set_option Elab.async false
set_option linter.all false
set_option maxRecDepth 100000
namespace DL
open PySem PySem.Spec PyProof.Rows L2
/-! ### few states: what the rules see of a text -/
def rlU (rel : Nat → Nat → Bool) : Option Nat × Nat → Tx → Option Nat × Nat
  | st, [] => st
  | (s, n), c :: t => rlU rel (some c, if s.any (rel · c) then n + 1 else 1) t
theorem runC_none (rel : Nat → Nat → Bool) (k : Nat) : ∀ t, runC rel k none t = none
  | [] => rfl
  | _ :: _ => rfl
theorem runC_U (rel : Nat → Nat → Bool) (k : Nat) : ∀ (t : Tx) (s : Option Nat) (n : Nat) (e : Option Nat × Nat), n ≤ k → runC rel k (some (s, n)) t = some e → e = rlU rel (s, n) t ∧ e.2 ≤ k
  | [], s, n, e, hn, h => by cases h; exact ⟨rfl, hn⟩
  | c :: t, s, n, e, hn, h => by
    simp only [runC] at h
    simp only [rlU]
    generalize (if s.any (rel · c) then n + 1 else 1) = m at h ⊢
    by_cases hm : m ≤ k
    · rw [if_pos hm] at h; exact runC_U rel k t (some c) m e hm h
    · rw [if_neg hm, runC_none] at h; cases h
theorem rlU_last (rel : Nat → Nat → Bool) : ∀ (t : Tx) (s : Option Nat) (n : Nat), (rlU rel (s, n) t).1 = t.getLast?.or s
  | [], s, n => by simp [rlU]
  | [c], s, n => by simp [rlU]
  | c :: d :: t, s, n => by
    have := rlU_last rel (d :: t) (some c) (if s.any (rel · c) then n + 1 else 1)
    rw [rlU, this, List.getLast?_cons_cons]
    cases h : (d :: t).getLast? with
    | none => simp at h
    | some x => rfl
def cnN (cs : Cls) (n : Tx) (t : Tx) : Nat := (t.filter fun c => decide (ownT cs c = n)).length
def last2 (t : Tx) : Tx := t.drop (t.length - 2)
theorem last2_len (t : Tx) : (last2 t).length ≤ 2 := by simp [last2]; omega
theorem last2_last (t : Tx) : (last2 t).getLast? = t.getLast? := by
  unfold last2
  rw [List.getLast?_drop]
  split
  · have : t.length = 0 := by omega
    rw [List.length_eq_zero_iff.mp this]; rfl
  · rfl
abbrev Summ := Nat × List Nat × Tx × Nat × Nat
def summ (cs : Cls) (t : Tx) : Summ := (min t.length 12, (nms cs).map fun n => min (cnN cs n t) 4, last2 t, min (rlU relRun (none, 0) t).2 4, min (rlU (relRow cs) (none, 0) t).2 4)
theorem srt_pw (l : List Tx) : ((srt l).map S).Pairwise leT := by
  unfold srt
  rw [List.map_map]
  have e : (S ∘ fun x : Str => x.cps.toList) = id := by funext x; simp [SX.S_tl]
  rw [e, List.map_id]
  exact foldr_insT_pw _
theorem kinds_sorted (cs : Cls) (k : Int) : ∀ (t : Tx) (ns : List Tx), (ns.map S).Pairwise leT → ∀ o, run1 cs (.kinds k) (some (.t ns)) t = some o → ∃ ms, o = .t ms ∧ (ms.map S).Pairwise leT
  | [], ns, h, o, e => ⟨ns, (Option.some.inj e).symm, h⟩
  | c :: t, ns, h, o, e => by
    rw [run1_cons] at e
    simp only [mv] at e
    by_cases hm : ownT cs c ∈ ns
    · rw [if_pos hm] at e; exact kinds_sorted cs k t ns h o e
    · rw [if_neg hm] at e; exact kinds_sorted cs k t _ (srt_pw _) o e
theorem map_S_inj : ∀ {a b : List Tx}, a.map S = b.map S → a = b
  | [], [], _ => rfl
  | [], _ :: _, h => by simp at h
  | _ :: _, [], h => by simp at h
  | x :: a, y :: b, h => by
    simp only [List.map_cons, List.cons.injEq, S_eq] at h
    rw [h.1, map_S_inj h.2]
theorem nt_trim (cs : Cls) (w : Tx) : ∀ (v u : Tx) (y : Tx), run1 cs (.nt w) (some (.s (trim w u))) v = some (.s y) → y = trim w (u ++ v)
  | [], u, y, h => by
    simp [run1] at h
    simp [h]
  | c :: v, u, y, h => by
    rw [run1_cons] at h
    simp only [mv, um, ← ends_trim, ← trim_snoc] at h
    split at h
    · rw [run1_none] at h; cases h
    · have := nt_trim cs w v (u ++ [c]) y h
      rw [this]; simp
/-- what comes of a rule after a text is told by what is seen of the text -/
theorem summ_det {cs : Cls} {r : Ru} {t t' : Tx} {o o' : One} (ok : ClsOk cs) (hr : RuOk cs r) (hn : ∀ w, r = .nt w → w.length ≤ 3) (hc : ∀ c ∈ t, c ∈ sgs cs) (hc' : ∀ c ∈ t', c ∈ sgs cs) (e : summ cs t = summ cs t') (h : run1 cs r (some (start1 r)) t = some o) (h' : run1 cs r (some (start1 r)) t' = some o') : o = o' := by
  simp only [summ, Prod.mk.injEq] at e
  obtain ⟨e1, e2, e3, e4, e5⟩ := e
  have cnt : ∀ n ∈ nms cs, min (cnN cs n t) 4 = min (cnN cs n t') 4 := fun n hn => List.map_inj_left.mp e2 n hn
  have el : t.getLast? = t'.getLast? := by rw [← last2_last t, e3, last2_last]
  cases r with
  | size lo hi =>
    obtain ⟨⟨h1, h2⟩, h3⟩ := hr
    cases hi with
    | none =>
      simp only [start1] at h h'
      rw [size_none cs lo _ 0 h1] at h h'
      cases h; cases h'
      congr 1
      split <;> split <;> omega
    | some hi =>
      have h3 := h3 hi rfl
      have h30 := h3.1
      have h31 := h3.2
      simp only [start1] at h h'
      rw [size_some cs lo hi _ 0 (by omega)] at h h'
      split at h
      · split at h'
        · cases h; cases h'
          congr 1
          omega
        · cases h'
      · cases h
  | least n k =>
    obtain ⟨hm, h1, h2⟩ := hr
    have := cnt n hm
    simp only [start1] at h h'
    rw [least_run cs n k _ 0 (by omega)] at h h'
    cases h; cases h'
    congr 1
    unfold cn
    unfold cnN at this
    split <;> split <;> omega
  | most n k =>
    obtain ⟨hm, h1, h2⟩ := hr
    have := cnt n hm
    simp only [start1] at h h'
    rw [most_run cs n k _ 0 (by omega)] at h h'
    unfold cn at h h'
    unfold cnN at this
    split at h
    · split at h'
      · cases h; cases h'
        congr 1
        omega
      · cases h'
    · cases h
  | kinds k =>
    simp only [start1] at h h'
    obtain ⟨ms, a1, a2, a3⟩ := kinds_run cs k t [] List.nodup_nil
    obtain ⟨ms', b1, b2, b3⟩ := kinds_run cs k t' [] List.nodup_nil
    obtain ⟨_, q1, a4⟩ := kinds_sorted cs k t [] (by simp) o h
    obtain ⟨_, q2, b4⟩ := kinds_sorted cs k t' [] (by simp) o' h'
    rw [a1] at h; rw [b1] at h'
    cases h; cases h'
    cases q1; cases q2
    have sub : ∀ (u v : Tx), (∀ c ∈ u, c ∈ sgs cs) → (∀ n ∈ nms cs, min (cnN cs n u) 4 = min (cnN cs n v) 4) → ∀ x, x ∈ u.map (ownT cs) → x ∈ v.map (ownT cs) := by
      intro u v hu hq x hx
      obtain ⟨c, hcu, rfl⟩ := List.mem_map.mp hx
      have hm := own_mem (hu c hcu)
      have h1 : 0 < cnN cs (ownT cs c) u := List.length_pos_of_mem (List.mem_filter.mpr ⟨hcu, by simp⟩)
      have h2 := hq _ hm
      have h3 : 0 < cnN cs (ownT cs c) v := by omega
      obtain ⟨d, hd⟩ := List.exists_mem_of_length_pos h3
      obtain ⟨d1, d2⟩ := List.mem_filter.mp hd
      exact List.mem_map.mpr ⟨d, d1, of_decide_eq_true d2⟩
    have pm : ms.Perm ms' := (List.perm_ext_iff_of_nodup a2 b2).mpr fun x => by
      rw [a3, b3]
      simp only [List.not_mem_nil, false_or]
      exact ⟨sub t t' hc cnt x, sub t' t hc' (fun n hn => (cnt n hn).symm) x⟩
    have := List.Perm.eq_of_pairwise (fun a b _ _ h1 h2 => leT_anti h1 h2) a4 b4 (pm.map S)
    rw [map_S_inj this]
  | run k =>
    obtain ⟨h1, h2⟩ := hr
    obtain ⟨j, rfl⟩ : ∃ j : Nat, k = j := ⟨k.toNat, by omega⟩
    have e0 : (One.p [] 0 : One) = One.p (tS none) ((0 : Nat) : Int) := rfl
    simp only [start1] at h h'
    rw [e0, run_sim] at h h'
    cases q : runC relRun j (some (none, 0)) t with
    | none => rw [q] at h; cases h
    | some st =>
      cases q' : runC relRun j (some (none, 0)) t' with
      | none => rw [q'] at h'; cases h'
      | some st' =>
        rw [q] at h; rw [q'] at h'
        cases h; cases h'
        obtain ⟨g1, g2⟩ := runC_U relRun j t none 0 st (by omega) q
        obtain ⟨g1', g2'⟩ := runC_U relRun j t' none 0 st' (by omega) q'
        have l1 := rlU_last relRun t none 0
        have l2 := rlU_last relRun t' none 0
        rw [← g1] at l1 e4; rw [← g1'] at l2 e4
        dsimp only
        rw [l1, l2, el]
        congr 1
        omega
  | row k =>
    obtain ⟨h1, h2⟩ := hr
    obtain ⟨j, rfl⟩ : ∃ j : Nat, k = j := ⟨k.toNat, by omega⟩
    have e0 : (One.p [] 0 : One) = One.p (tS none) ((0 : Nat) : Int) := rfl
    simp only [start1] at h h'
    rw [e0, row_sim] at h h'
    cases q : runC (relRow cs) j (some (none, 0)) t with
    | none => rw [q] at h; cases h
    | some st =>
      cases q' : runC (relRow cs) j (some (none, 0)) t' with
      | none => rw [q'] at h'; cases h'
      | some st' =>
        rw [q] at h; rw [q'] at h'
        cases h; cases h'
        obtain ⟨g1, g2⟩ := runC_U (relRow cs) j t none 0 st (by omega) q
        obtain ⟨g1', g2'⟩ := runC_U (relRow cs) j t' none 0 st' (by omega) q'
        have l1 := rlU_last (relRow cs) t none 0
        have l2 := rlU_last (relRow cs) t' none 0
        rw [← g1] at l1 e5; rw [← g1'] at l2 e5
        dsimp only
        rw [l1, l2, el]
        congr 1
        omega
  | nt w =>
    have hw3 := hn w rfl
    obtain ⟨w1, _, _⟩ := hr
    have hw : ¬ w <:+: ([] : Tx) := fun h => by
      have := h.length_le
      simp at this
      rw [this] at w1
      simp at w1
    have key : ∀ (u : Tx) (o : One), run1 cs (.nt w) (some (start1 (.nt w))) u = some o → o = .s (trim w (last2 u)) := by
      intro u o h
      obtain ⟨y, rfl⟩ := nt_state cs w u [] o h
      have h0 : run1 cs (.nt w) (some (.s (trim w []))) u = some (.s y) := h
      have hy := nt_trim cs w u [] y h0
      rw [List.nil_append] at hy
      have hin := (nt_run cs w u [] hw).mp (by rw [h0]; rfl)
      rw [List.nil_append] at hin
      have s1 : y <:+ u := by rw [hy]; exact trim_suf w u
      have p1 : Pre w y := by rw [hy]; exact trim_pre w u
      have hl : y.length ≤ 2 := by
        have hle : y.length ≤ w.length := by
          have := congrArg List.length p1
          rw [List.length_take] at this
          omega
        have hne : y.length ≠ w.length := fun hq => hin (by
          have : y = w := by
            unfold Pre at p1
            rw [hq, List.take_length] at p1
            exact p1.symm
          rw [← this]; exact s1.isInfix)
        omega
      have s2 : y <:+ last2 u := by
        obtain ⟨z, hz⟩ := s1
        unfold last2
        have hlen := congrArg List.length hz
        rw [List.length_append] at hlen
        refine ⟨z.drop (u.length - 2), ?_⟩
        rw [← hz, List.drop_append]
        have : z.length + y.length - 2 - z.length = 0 := by omega
        rw [List.length_append, this]; rfl
      have s3 := trim_max w (last2 u) y s2 p1
      have s4 : trim w (last2 u) <:+ y := by
        rw [hy]
        exact trim_max w u _ ((trim_suf w (last2 u)).trans (List.drop_suffix _ _)) (trim_pre w _)
      rw [suf_anti s3 s4]
    rw [key t o h, key t' o' h', e3]
  | first n =>
    have em : t = [] ↔ t' = [] := by
      rw [← List.getLast?_eq_none_iff, el, List.getLast?_eq_none_iff]
    have hne : n ≠ [] := fun z => by
      obtain ⟨p, hp, e2⟩ := List.mem_map.mp hr
      have := (ok.nm p hp).1
      rw [e2, z] at this
      simp at this
    have key : ∀ (u : Tx) (o : One), run1 cs (.first n) (some (start1 (.first n))) u = some o → o = .s (if u = [] then [] else n) := by
      intro u o h
      cases u with
      | nil => simp [run1, start1] at h; simp [h]
      | cons c u =>
        simp only [start1] at h
        rw [run1_cons] at h
        simp only [mv] at h
        rw [if_neg (by simp)] at h
        by_cases hq : ownT cs c = n
        · rw [if_pos hq, first_stay cs n _ (hq ▸ hne)] at h
          cases h
          simp [hq]
        · rw [if_neg hq, run1_none] at h; cases h
    rw [key t o h, key t' o' h']
    by_cases hq : t = []
    · rw [if_pos hq, if_pos (em.mp hq)]
    · rw [if_neg hq, if_neg (fun z => hq (em.mpr z))]
  | last n =>
    simp only [start1] at h h'
    rw [last_run] at h h'
    cases h; cases h'
    rw [el]
theorem all_map : ∀ os : List One, allSome (os.map some) = some os
  | [] => rfl
  | o :: os => by simp [allSome, all_map os]
/-- the states after two texts that look alike are the same, where they are -/
theorem run_det {cs : Cls} {rs : List Ru} {t t' : Tx} {os os' : List One} (ok : ClsOk cs) (hr : ∀ r ∈ rs, RuOk cs r) (hn : ∀ w, .nt w ∈ rs → w.length ≤ 3) (hc : ∀ c ∈ t, c ∈ sgs cs) (hc' : ∀ c ∈ t', c ∈ sgs cs) (e : summ cs t = summ cs t')
    (h : runS cs rs t = some os) (h' : runS cs rs t' = some os') : os = os' := by
  rw [runS_all] at h h'
  have h := all_some h
  have h' := all_some h'
  induction rs generalizing os os' with
  | nil =>
    cases os with
    | nil => cases os' with
      | nil => rfl
      | cons _ _ => simp at h'
    | cons _ _ => simp at h
  | cons r rs ih =>
    cases os with
    | nil => simp at h
    | cons o os =>
      cases os' with
      | nil => simp at h'
      | cons o' os' =>
        simp only [List.map_cons, List.cons.injEq] at h h'
        have a := summ_det ok (hr r List.mem_cons_self) (fun w hw => hn w (hw ▸ List.mem_cons_self)) hc hc' e h.1 h'.1
        have b := ih (fun x hx => hr x (List.mem_cons_of_mem _ hx)) (fun w hw => hn w (List.mem_cons_of_mem _ hw)) (by rw [h.2]; exact all_map os) (by rw [h'.2]; exact all_map os') h.2 h'.2
        rw [a, b]
def summs (cs : Cls) : List Summ := (List.range 13).flatMap fun a => (prodL ((nms cs).map fun _ => List.range 5)).flatMap fun b => ([] :: ((sgs cs).map (fun c => [c]) ++ (sgs cs).flatMap fun c => (sgs cs).map fun d => [c, d])).flatMap fun c => (List.range 5).flatMap fun d => (List.range 5).map fun e => (a, b, c, d, e)
theorem prodL_mem {α β : Type} (f : β → α) (L : List α) : ∀ l : List β, (∀ x ∈ l, f x ∈ L) → l.map f ∈ prodL (l.map fun _ => L)
  | [], _ => by simp [prodL]
  | x :: l, h => List.mem_flatMap.mpr ⟨f x, h x List.mem_cons_self, List.mem_map.mpr ⟨_, prodL_mem f L l fun y hy => h y (List.mem_cons_of_mem _ hy), rfl⟩⟩
theorem summ_mem {cs : Cls} {t : Tx} (hc : ∀ c ∈ t, c ∈ sgs cs) : summ cs t ∈ summs cs := by
  refine List.mem_flatMap.mpr ⟨_, List.mem_range.mpr (show min t.length 12 < 13 by omega), List.mem_flatMap.mpr ⟨_, prodL_mem (fun n => min (cnN cs n t) 4) (List.range 5) (nms cs) fun n _ => List.mem_range.mpr (show min (cnN cs n t) 4 < 5 by omega), List.mem_flatMap.mpr ⟨last2 t, ?_, List.mem_flatMap.mpr ⟨_, List.mem_range.mpr (show min (rlU relRun (none, 0) t).2 4 < 5 by omega), List.mem_map.mpr ⟨_, List.mem_range.mpr (show min (rlU (relRow cs) (none, 0) t).2 4 < 5 by omega), rfl⟩⟩⟩⟩⟩
  have h2 := last2_len t
  have hs : ∀ c ∈ last2 t, c ∈ sgs cs := fun c h => hc c (List.mem_of_mem_drop h)
  generalize last2 t = u at h2 hs
  match u, h2, hs with
  | [], _, _ => exact List.mem_cons_self
  | [a], _, hs => exact List.mem_cons_of_mem _ (List.mem_append.mpr (.inl (List.mem_map.mpr ⟨a, hs a (by simp), rfl⟩)))
  | [a, b], _, hs => exact List.mem_cons_of_mem _ (List.mem_append.mpr (.inr (List.mem_flatMap.mpr ⟨a, hs a (by simp), List.mem_map.mpr ⟨b, hs b (by simp), rfl⟩⟩)))
  | _ :: _ :: _ :: _, h, _ => simp at h
theorem flat_len {α β : Type} (f : α → List β) (n : Nat) : ∀ l : List α, (∀ x ∈ l, (f x).length = n) → (l.flatMap f).length = l.length * n
  | [], _ => by simp
  | x :: l, h => by
    rw [List.flatMap_cons, List.length_append, h x List.mem_cons_self, flat_len f n l fun y hy => h y (List.mem_cons_of_mem _ hy), List.length_cons, Nat.add_mul]
    omega
theorem prodL_pow (L : List Nat) : ∀ l : List Tx, (prodL (l.map fun _ => L)).length = L.length ^ l.length
  | [] => rfl
  | x :: l => by
    rw [List.map_cons, prodL, flat_len _ (L.length ^ l.length), List.length_cons, Nat.pow_succ, Nat.mul_comm]
    intro y _
    rw [List.length_map, prodL_pow L l]
theorem summs_len (cs : Cls) : (summs cs).length = 13 * (5 ^ cs.length * ((1 + ((sgs cs).length + (sgs cs).length * (sgs cs).length)) * 25)) := by
  unfold summs
  rw [flat_len _ (5 ^ cs.length * ((1 + ((sgs cs).length + (sgs cs).length * (sgs cs).length)) * 25)), List.length_range]
  intro a _
  rw [flat_len _ ((1 + ((sgs cs).length + (sgs cs).length * (sgs cs).length)) * 25), prodL_pow, List.length_range]
  · simp [nms]
  intro b _
  rw [flat_len _ 25]
  · congr 1
    rw [List.length_cons, List.length_append, List.length_map, flat_len _ (sgs cs).length]
    · omega
    · intro x _; simp
  intro c _
  rw [flat_len _ 5]
  · rfl
  · intro x _; simp
/-- classes as small as the laws' -/
structure Shp (cs : Cls) : Prop where
  a : cs.length ≤ 3
  b : (sgs cs).length ≤ 4
  c : cs.length = 3 → (sgs cs).length ≤ 3
theorem summs_le {cs : Cls} (h : Shp cs) : (summs cs).length ≤ 528125 := by
  rw [summs_len]
  obtain ⟨a, b, c⟩ := h
  have hsq : ∀ n : Nat, (sgs cs).length ≤ n → 1 + ((sgs cs).length + (sgs cs).length * (sgs cs).length) ≤ 1 + (n + n * n) := fun n hn => by
    have := Nat.mul_le_mul hn hn
    omega
  by_cases h3 : cs.length = 3
  · have := hsq 3 (c h3)
    rw [h3]
    have : (1 + ((sgs cs).length + (sgs cs).length * (sgs cs).length)) ≤ 13 := by omega
    omega
  · have h2 : cs.length ≤ 2 := by omega
    have p : 5 ^ cs.length ≤ 25 := by
      have := Nat.pow_le_pow_right (show 0 < 5 by decide) h2
      omega
    have q := hsq 4 b
    have r := Nat.mul_le_mul p (Nat.mul_le_mul_right 25 q)
    omega
/-- rules whose states the summary tells -/
structure RsD (cs : Cls) (rs : List Ru) : Prop where
  c : ClsOk cs
  s : Shp cs
  r : ∀ r ∈ rs, RuOk cs r
  n : ∀ w, .nt w ∈ rs → w.length ≤ 3
theorem RsD.one {cs : Cls} {rs : List Ru} {t t' : Tx} {os os' : List One} (d : RsD cs rs) (hc : ∀ c ∈ t, c ∈ sgs cs) (hc' : ∀ c ∈ t', c ∈ sgs cs) (e : summ cs t = summ cs t') (h : runS cs rs t = some os) (h' : runS cs rs t' = some os') : os = os' := run_det d.c d.r d.n hc hc' e h h'
/-- a list of things that summaries tell is short -/
theorem few_by {α : Type} {cs : Cls} (hs : Shp cs) (P : α → Tx → Prop) (hP : ∀ x t, P x t → ∀ c ∈ t, c ∈ sgs cs) (hd : ∀ x y t u, P x t → P y u → summ cs t = summ cs u → x = y) : ∀ l : List α, l.Nodup → (∀ x ∈ l, ∃ t, P x t) → l.length ≤ 528125 := fun l nd h => by
  have ex : ∀ l : List α, l.Nodup → (∀ x ∈ l, ∃ t, P x t) → ∃ m : List Summ, m.Nodup ∧ m.length = l.length ∧ ∀ s ∈ m, s ∈ summs cs ∧ ∃ x ∈ l, ∃ t, P x t ∧ summ cs t = s := by
    intro l
    induction l with
    | nil => intro _ _; exact ⟨[], List.nodup_nil, rfl, by simp⟩
    | cons x l ih =>
      intro nd h
      obtain ⟨n1, n2⟩ := List.nodup_cons.mp nd
      obtain ⟨m, m1, m2, m3⟩ := ih n2 fun y hy => h y (List.mem_cons_of_mem _ hy)
      obtain ⟨t, ht⟩ := h x List.mem_cons_self
      refine ⟨summ cs t :: m, List.nodup_cons.mpr ⟨fun hm => ?_, m1⟩, by simp [m2], fun s hs => ?_⟩
      · obtain ⟨_, y, hy, u, hu, e⟩ := m3 _ hm
        exact n1 (hd x y t u ht hu e.symm ▸ hy)
      · rcases List.mem_cons.mp hs with rfl | hs
        · exact ⟨summ_mem (hP x t ht), x, List.mem_cons_self, t, ht, rfl⟩
        · obtain ⟨a, y, hy, r⟩ := m3 s hs
          exact ⟨a, y, List.mem_cons_of_mem _ hy, r⟩
  obtain ⟨m, m1, m2, m3⟩ := ex l nd h
  have := nodup_len m1 fun s hs => (m3 s hs).1
  have := summs_le hs
  omega
theorem RsD.cap {cs : Cls} {rs : List Ru} (d : RsD cs rs) (l : List (List One)) (nd : l.Nodup) (h : ∀ x ∈ l, Rch cs rs x) : l.length ≤ 528125 :=
  few_by d.s (fun os t => (∀ c ∈ t, c ∈ sgs cs) ∧ runS cs rs t = some os) (fun _ _ p => p.1) (fun _ _ _ _ p q e => d.one p.1 q.1 e p.2 q.2) l nd h
theorem RsD.few {cs : Cls} {rs : List Ru} (d : RsD cs rs) : Few cs rs := fun l nd h => by
  have key : ∀ (sg : Tx) (l : List (List One × Nat)), l.Nodup → (∀ x ∈ l, Rch cs rs x.1 ∧ x.2 ∈ sg) → l.length ≤ sg.length * 528125 := by
    intro sg
    induction sg with
    | nil =>
      intro l _ h
      cases l with
      | nil => simp
      | cons x l => have := (h x List.mem_cons_self).2; simp at this
    | cons c sg ih =>
      intro l nd h
      have hp := List.length_eq_countP_add_countP (fun x : List One × Nat => decide (x.2 = c)) (l := l)
      rw [List.countP_eq_length_filter, List.countP_eq_length_filter] at hp
      have h1 : (l.filter fun x => decide (x.2 = c)).length ≤ 528125 := by
        have := d.cap ((l.filter fun x => decide (x.2 = c)).map (·.1)) (by
          have nf := List.Pairwise.filter (fun x : List One × Nat => decide (x.2 = c)) nd
          refine List.pairwise_map.mpr (List.Pairwise.imp_of_mem (fun {x y} hx hy hne e => ?_) nf)
          have ex := of_decide_eq_true (List.mem_filter.mp hx).2
          have ey := of_decide_eq_true (List.mem_filter.mp hy).2
          exact hne (Prod.ext e (ex.trans ey.symm))) fun x hx => by
            obtain ⟨y, hy, rfl⟩ := List.mem_map.mp hx
            exact (h y (List.mem_filter.mp hy).1).1
        simpa using this
      have h2 := ih (l.filter fun x => decide (¬ (decide (x.2 = c)) = true)) (List.Pairwise.filter _ nd) fun x hx => by
        obtain ⟨a, b⟩ := List.mem_filter.mp hx
        refine ⟨(h x a).1, ?_⟩
        rcases List.mem_cons.mp (h x a).2 with e | e
        · simp [e] at b
        · exact e
      rw [List.length_cons, Nat.add_mul]
      omega
  have := key (sgs cs) l nd h
  have hb := d.s.b
  have := Nat.mul_le_mul_right 528125 hb
  rw [sizeLine_eq]
  omega
theorem five_shp : ∀ cs ∈ five, Shp cs := fun cs h => by
  obtain ⟨a, b⟩ := five_len cs h
  refine ⟨b, a, fun e => ?_⟩
  simp [five] at h
  rcases h with rfl | rfl | rfl | rfl | rfl <;> revert e <;> decide
theorem PolD.rsd {cs : Cls} {rs : List Ru} {n : Nat} (p : PolD cs rs n) (hcs : cs ∈ five) : RsD cs rs := ⟨p.p.c, five_shp cs hcs, p.p.r, fun w hw => p.sm _ hw⟩
end DL

set_option Elab.async false
set_option linter.all false
set_option maxRecDepth 100000
namespace DL
open PySem PySem.Spec PyProof.Rows L2
/-! ### what laws share -/
def sp_law : DSp := fun ds M R => ∃ (ns : List Int), ds = [.fl (intL ns)] ∧ ns.length ≤ 63 ∧ ∀ M', R (.bl true) M'
theorem cutD_take (xs : List D) (n : Nat) : cutD xs none (some (n : Int)) = xs.take n := by
  unfold cutD
  simp only [HT.sIx_nat, HT.sIx_none]
  rw [List.drop_zero, Nat.sub_zero]
  by_cases h : n ≤ xs.length
  · rw [Nat.min_eq_left h]
  · rw [Nat.min_eq_right (by omega), List.take_of_length_le (by omega), List.take_of_length_le (by omega)]
theorem cutD_drop (xs : List D) (n : Nat) : cutD xs (some (n : Int)) none = xs.drop n := by
  unfold cutD
  simp only [HT.sIx_nat, HT.sIx_none]
  rw [List.take_of_length_le (by simp)]
  by_cases h : n ≤ xs.length
  · rw [Nat.min_eq_left h]
  · rw [Nat.min_eq_right (by omega), List.drop_of_length_le (by omega), List.drop_of_length_le (by omega)]
theorem take1_find {α : Type} (P : α → Bool) : ∀ l : List α, (l.filter P).take 1 = (l.find? P).toList
  | [] => rfl
  | x :: l => by
    rw [List.filter_cons, List.find?_cons]
    cases P x with
    | true => rfl
    | false => exact take1_find P l
theorem Wup_false {sgn : Tx} {P : Tx → Bool} : ∀ {n : Nat}, (∀ m, m ≤ n → ∀ u ∈ Wd sgn m, P u = false) → (Wup sgn n).find? P = none
  | 0, h => List.find?_eq_none.mpr fun u hu => by rw [h 0 (Nat.le_refl _) u hu]; decide
  | n + 1, h => by
    rw [Wup, List.find?_append, Wup_false fun m hm => h m (by omega)]
    exact List.find?_eq_none.mpr fun u hu => by rw [h _ (Nat.le_refl _) u hu]; decide
theorem FirstS.up {sgn : Tx} {P : Tx → Bool} {o : Option Tx} (f : FirstS sgn P o) (n : Nat) : (Wup sgn n).find? P = o.filter fun u => decide (u.length ≤ n) := by
  cases o with
  | none => exact Wup_false fun m _ u hu => f m u hu
  | some t =>
    obtain ⟨k, h1, h2⟩ := f
    have hk : t.length = k := (Wd_len.mp (List.mem_of_find?_eq_some h2)).1
    induction n with
    | zero =>
      cases k with
      | zero => rw [Wup, h2]; simp [Option.filter, List.length_eq_zero_iff.mp hk]
      | succ k =>
        have : ¬ t.length ≤ 0 := by omega
        simp only [Option.filter, this, decide_false]
        exact Wup_false fun m hm u hu => h1 m (by omega) u hu
    | succ n ih =>
      rw [Wup, List.find?_append, ih]
      by_cases h : k ≤ n
      · simp [Option.filter, hk, h, show k ≤ n + 1 by omega]
      · by_cases h' : k = n + 1
        · subst h'
          rw [h2]
          simp [Option.filter, hk, h]
        · have e : (Wd sgn (n + 1)).find? P = none := List.find?_eq_none.mpr fun u hu => by rw [h1 (n + 1) (by omega) u hu]; decide
          rw [e]
          simp [Option.filter, hk, h, show ¬ k ≤ n + 1 by omega]
theorem FirstS.some_ok {sgn : Tx} {P : Tx → Bool} {t : Tx} (f : FirstS sgn P (some t)) : P t = true ∧ ∀ c ∈ t, c ∈ sgn := by
  obtain ⟨k, h1, h2⟩ := f
  exact ⟨List.find?_some h2, (Wd_len.mp (List.mem_of_find?_eq_some h2)).2⟩
/-- allows, as the law's own _law_allows says it -/
theorem allows_to {cs : Cls} {rs : List Ru} {t : Tx} {M : DM} {R : D → DM → Prop} (ok : PolOk cs rs) (ht : t.length ≤ 20) (hc : ∀ c ∈ t, c ∈ sgs cs) (q : R (.bl (allowL cs rs t)) M) : sp_allows [pD cs rs, .str (S t)] M R :=
  ⟨cs, rs, t, rfl, ok, ht, hc, by rw [bk_eq ok.c hc rs 0 ok.r, bkL_nil]; exact q⟩
/-- the sum of the classes' sizes -/
theorem lc_lens {cs : Cls} {N : DM} {Q : List D → DM → Prop} {i j : Nat} {d0 : DSt} (h6 : ∀ p ∈ cs, p.2.length ≤ 1000) (hg : ∀ (p : Tx × Tx) (A : D → DM → Prop), (S p.2).length ≤ sizeLine ∧ A (.int (S p.2).length) N → dgTup 2 (dgCons (dgName i) (dgCons (dgName j) dgNil)) (pairD p) d0 N fun ds1 M1 => dCB lenB (daCons (dVar j) daNil) ds1 M1 A)
    (h : Q (cs.map fun p => .int (p.2.length : Int)) N) : lcW (fun _ => True) (dgTup 2 (dgCons (dgName i) (dgCons (dgName j) dgNil))) dYes (dCB lenB (daCons (dVar j) daNil)) d0 (cs.map pairD) [] N Q := by
  refine lcW_on pairD (fun p => some (.int (p.2.length : Int))) trivial cs [] (fun p hp A B a => ?_) (by simpa using h)
  have := hg p A ⟨small1000 (by simpa using h6 p hp), by simpa using a⟩
  simpa using this
theorem lens_sum (cs : Cls) : ((cs.map fun p => D.int (p.2.length : Int)).map intV).sum = ((sgs cs).length : Int) := by
  induction cs with
  | nil => rfl
  | cons p cs ih =>
    simp only [List.map_cons, List.sum_cons, ih]
    simp [sgs, intV]
theorem lens_int (cs : Cls) : (cs.map fun p => D.int (p.2.length : Int)).all isI = true := by
  rw [List.all_map, List.all_eq_true]; intro p _; rfl
theorem Wd_length (sgn : Tx) : ∀ n, (Wd sgn n).length = sgn.length ^ n
  | 0 => rfl
  | n + 1 => by
    rw [Wd, flat_len _ sgn.length, Wd_length sgn n, Nat.pow_succ]
    intro x _; simp
theorem Wup_le {sgn : Tx} (h : sgn.length ≤ 4) : ∀ n, (Wup sgn n).length ≤ (n + 1) * 4 ^ n
  | 0 => by simp [Wup, Wd]
  | n + 1 => by
    have h1 := Wup_le h n
    have h2 := Nat.pow_le_pow_left h (n + 1)
    rw [Wup, List.length_append, Wd_length]
    have h3 : 4 ^ n ≤ 4 ^ (n + 1) := Nat.pow_le_pow_right (by decide) (by omega)
    have h4 := Nat.mul_le_mul_left (n + 1) h3
    have h5 : (n + 1 + 1) * 4 ^ (n + 1) = (n + 1) * 4 ^ (n + 1) + 4 ^ (n + 1) := by rw [Nat.add_mul (n + 1) 1, Nat.one_mul]
    omega
/-- [text for text in texts if allowed] -/
theorem lc_allow {cs : Cls} {rs : List Ru} {chk : DM → Prop} {g : DG} {tt : DT} {te : DE} {d0 : DSt} {N : DM} {Q : List D → DM → Prop} (hc : chk N) : ∀ (l : List Tx) (acc : List Tx),
    (∀ u ∈ l, ∀ (A : D → DM → Prop) (B : DM → Prop), (if allowL cs rs u then A (.str (S u)) N else B N) → g (.str (S u)) d0 N fun ds1 M1 => tt ds1 M1 fun b M2 => if b = true then te ds1 M2 A else B M2) →
    Q (txs (acc ++ l.filter (allowL cs rs))) N → lcW chk g tt te d0 (txs l) (txs acc) N Q
  | [], acc, _, q => ⟨hc, by simpa using q⟩
  | u :: l, acc, h, q => by
    refine ⟨hc, h u List.mem_cons_self (fun y M3 => lcW chk g tt te d0 (txs l) (txs acc ++ [y]) M3 Q) (fun M2 => lcW chk g tt te d0 (txs l) (txs acc) M2 Q) ?_⟩
    have h' := fun v hv => h v (List.mem_cons_of_mem _ hv)
    rw [List.filter_cons] at q
    by_cases e : allowL cs rs u = true
    · rw [if_pos e] at q ⊢
      have e2 : txs acc ++ [D.str (S u)] = txs (acc ++ [u]) := txs_app acc [u]
      show lcW chk g tt te d0 (txs l) (txs acc ++ [D.str (S u)]) N Q
      rw [e2]
      exact lc_allow hc l (acc ++ [u]) h' (by simpa using q)
    · rw [if_neg e] at q ⊢
      exact lc_allow hc l acc h' q
theorem txs_plain (l : List Tx) : plains (txs l) = true ∧ NestedKey.depthAll (nks (txs l)) ≤ 30 := by
  refine ⟨plains_str _ _, ?_⟩
  rw [nks_txs]
  have : ∀ l : List Tx, NestedKey.depthAll (l.map fun x => NestedKey.text (S x)) = 0 := by
    intro l
    induction l with
    | nil => rfl
    | cons x l ih => simp only [List.map_cons, NestedKey.depthAll, NestedKey.depth, ih]; rfl
  rw [this]; omega
theorem nks_txs_nil (l : List Tx) : (nks (txs l) = []) = (l = []) := by rw [nks_txs]; simp
theorem nks_txs_eq (l m : List Tx) : (nks (txs l) = nks (txs m)) = (l = m) := by
  rw [nks_txs, nks_txs]
  exact propext ⟨fun h => map_text_inj h, fun h => by rw [h]⟩
end DL

set_option Elab.async false
set_option linter.all false
set_option maxRecDepth 100000
namespace HT
open PySem PySem.Spec PyProof.Rows
section
variable {prog : Program} {w : World} {A : Around} {E : Value → Shared → Prop} {s : Shared}
theorem sliceApplied_rev {sl : Addr} {vl vu vs : Value} {n : Nat} {Q : Int × Int × Nat → Shared → Prop} (hs : s.heap.IsSliceOf sl vl vu vs) (pl : IsPart vl none) (pu : IsPart vu none) (ps : IsPart vs (some (-1)))
    (h : Q ((n : Int) - 1, -1, n) s) : wpAny (model prog w) A (Builtin.Slice.sliceApplied (.ref sl) (pure (n : Int))) Q E s := by
  obtain ⟨os, hos, hcs, hds⟩ := id hs
  unfold Builtin.Slice.sliceApplied Builtin.Slice.sliceFields
  refine wpAny_bind (wpAny_bind (wpAny_field hos hds (x := vl) rfl (wpAny_bind (wpAny_field hos hds (x := vu) rfl (wpAny_bind (wpAny_field hos hds (x := vs) rfl (wpAny_pure ?_)))))))
  refine wpAny_bind (slicePart_ ps ?_)
  show wpAny _ _ (if ((-1 : Int) == 0) = true then _ else _) _ _ s
  rw [if_neg (by decide)]
  refine wpAny_bind (slicePart_ pl (wpAny_bind (slicePart_ pu (wpAny_bind (wpAny_pure ?_)))))
  have e : Builtin.Slice.slicePlaces ((n : Int) - 1) (-1) (-1) = n := by
    unfold Builtin.Slice.slicePlaces
    rw [if_neg (by decide)]
    by_cases hn : (n : Int) - 1 > -1
    · rw [if_pos hn, show (- -1 : Int) = 1 by decide, Int.ediv_one]; omega
    · rw [if_neg hn]; omega
  show wpAny _ _ (pure (((n : Int) - 1), (-1 : Int), Builtin.Slice.slicePlaces ((n : Int) - 1) (-1) (-1))) _ _ s
  rw [e]
  exact wpAny_pure h
theorem fm_congr {α β : Type} {f g : α → Option β} : ∀ l : List α, (∀ x ∈ l, f x = g x) → l.filterMap f = l.filterMap g
  | [], _ => rfl
  | x :: l, h => by
    rw [List.filterMap_cons, List.filterMap_cons, h x List.mem_cons_self, fm_congr l fun y hy => h y (List.mem_cons_of_mem _ hy)]
theorem pick_rev (xs : Array Value) : ((List.range xs.size).filterMap fun (m : Nat) => xs[(((xs.size : Int) - 1) + (m : Int) * (-1)).toNat]?).toArray = xs.toList.reverse.toArray := by
  congr 1
  have e : (List.range xs.size).filterMap (fun (m : Nat) => xs[(((xs.size : Int) - 1) + (m : Int) * (-1)).toNat]?) = ((List.range xs.size).map fun k => xs.size - 1 - k).filterMap (xs[·]?) := by
    rw [List.filterMap_map]
    refine fm_congr _ fun m hm => ?_
    have := List.mem_range.mp hm
    have e2 : (((xs.size : Int) - 1) + (m : Int) * (-1)).toNat = xs.size - 1 - m := by omega
    rw [e2]; rfl
  rw [e, PySem.W.krv_range, List.filterMap_reverse, PySem.W.krv_all]
theorem getItem_tuple_rev {t sl : Addr} {items : Array Value} {vl vu vs : Value} {Q : Value → Shared → Prop} (ht : IsTup s.heap t items) (hs : s.heap.IsSliceOf sl vl vu vs) (pl : IsPart vl none) (pu : IsPart vu none) (ps : IsPart vs (some (-1)))
    (h : Q (.ref s.heap.objs.size) { s with heap := s.heap.push { cls := .type "tuple", data := .seq items.toList.reverse.toArray } })
    (hsz : items.size ≤ sizeLine) : wpAny (model prog w) A (getItem (.ref t) (.ref sl)) Q E s := by
  have htake : sizeOk (.seq items.toList.reverse.toArray) := by
    show items.toList.reverse.toArray.size ≤ sizeLine
    rw [List.size_toArray, List.length_reverse, Array.length_toList]
    omega
  obtain ⟨os, hos, hcs, hds⟩ := id hs
  have hTs : s.TypeIs (.ref sl) "slice" := ⟨os, hos, hcs⟩
  unfold getItem
  try with_reducible refine wpAny_holding ?_
  first | refine wpAny_bind (wpAny_pure ?_) | skip
  refine wpAny_bind (wpAny_sequenceKey ht.typeIs (by decide) ?_)
  refine wpAny_bind (wpAny_callSpecial?_slot (name := Str.ofString "__getitem__") ht.typeIs PyProof.Rows.slot_tuple_getitem
    (wpAny_call_entry PyProof.Rows.slot_tuple_getitem ht.typeIs entry_tuple_getitem ?_ (args_tuple_getitem _ _)))
  show wpAny _ _ (Builtin.Tuple.tupleItemsOf (.ref t) >>= _) _ _ s
  refine wpAny_bind (tupleItemsOf_ ht ?_)
  refine wpAny_bind (wpAny_typeOf hTs ?_)
  rw [if_pos (by decide)]
  refine wpAny_bind (sliceApplied_rev hs pl pu ps ?_)
  have hno : ¬ ((((items.size : Int) - 1) == 0 && (-1 : Int) == 1 && items.size == items.size) = true) := by
    intro q
    rw [Bool.and_eq_true, Bool.and_eq_true] at q
    exact absurd q.1.2 (by decide)
  show wpAny _ _ (if (((items.size : Int) - 1) == 0 && (-1 : Int) == 1 && items.size == items.size) = true then _ else _) _ _ s
  rw [if_neg hno, pick_rev]
  first
    | exact wpAny_bind (m := Builtin.Tuple.tupleExact _) (wpAny_newObj_type (wpAny_pure ⟨_, rfl, wpAny_pure h⟩) htake)
    | exact wpAny_bind (m := Builtin.Tuple.tupleExact _) (wpAny_newObj_type (wpAny_bind (wpAny_pure (wpAny_pure ⟨_, rfl, wpAny_pure h⟩))) htake)
    | exact wpAny_bind (wpAny_bind (m := Builtin.Tuple.tupleExact _) (wpAny_newObj_type (wpAny_pure (wpAny_pure ⟨_, rfl, wpAny_pure h⟩)) htake))
    | exact wpAny_bind (wpAny_bind (m := Builtin.Tuple.tupleExact _) (wpAny_newObj_type (wpAny_pure ⟨_, rfl, wpAny_pure h⟩) htake))
end
end HT
namespace DL
open PySem PySem.Spec PyProof.Rows L2
def revT (x : Str) : Str := ⟨x.cps.toList.reverse.toArray⟩
def revD (d : D) (M : DM) (Q : D → DM → Prop) : Prop := match d with
  | .str x => x.length ≤ sizeLine ∧ Q (.str (revT x)) M
  | .tup ds => ds.length ≤ sizeLine ∧ Q (.tup ds.reverse) M
  | _ => False
@[simp ↓] theorem revD_str {x : Str} {M : DM} {Q : D → DM → Prop} : revD (.str x) M Q = (x.length ≤ sizeLine ∧ Q (.str (revT x)) M) := rfl
@[simp ↓] theorem revD_tup {x : List D} {M : DM} {Q : D → DM → Prop} : revD (.tup x) M Q = (x.length ≤ sizeLine ∧ Q (.tup x.reverse) M) := rfl
def dRev (t : DE) : DE := fun ds M Q => t ds M fun d M1 => revD d M1 Q
@[simp ↓] theorem dRev_eq {t : DE} {ds : DSt} {M : DM} {Q : D → DM → Prop} : dRev t ds M Q = t ds M fun d M1 => revD d M1 Q := rfl
section
variable {X : Cx} {e : Expr} {t : DE}
theorem e_rev {k : Nat} {p1 p2 p3 pos : Pos} (he : EX X e t) : EX X (.Subscript e (.Slice none none (some (.UnaryOp .USub (.Constant (.int 1) k p1) p2)) p3) pos) (dRev t) := ⟨fun pins s σ H Q I ⟨ds, M, R, hs, hm, tt, kk⟩ => by
  refine Subscript_ (thn (he.run pins s σ H (fun x H1 => ∃ d M1, Fr H M H1 M1 ∧ Rp X.K H1 d x ∧ RM X.w X.K H1 M1 ∧ revD d M1 R) I ⟨ds, M, _, hs, hm, tt, fun v H1 d M1 f1 r1 m1 q1 => ⟨d, M1, f1, r1, m1, q1⟩⟩) fun v s1 ⟨x, H1, I1, rx, d, M1, f1, r1, m1, q1⟩ => ?_)
  have hst : PO X (some (.UnaryOp .USub (.Constant (.int 1) k p1) p2)) (tPart (tUn (rU fun i => .int (-i)) (tC (.int 1)))) := po_some (pe_un un_neg pe_int)
  refine wpAny_Slice (thn (po_none.run pins s1 σ H1 (fun o H2 => o = none ∧ H2 = H1) I1 ⟨rfl, rfl⟩) fun vl s2 ⟨l, H2, I2, pl, el, e2⟩ => ?_)
  subst el e2
  refine thn (po_none.run pins s2 σ H2 (fun o H3 => o = none ∧ H3 = H2) I2 ⟨rfl, rfl⟩) fun vu s3 ⟨u, H3, I3, pu, eu, e3⟩ => ?_
  subst eu e3
  refine thn (hst.run pins s3 σ H3 (fun o H4 => o = some (-1) ∧ H4 = H3) I3 ⟨1, rfl, -1, rfl, rfl, rfl⟩) fun vs s4 ⟨o, H4, I4, ps, eo, e4⟩ => ?_
  subst eo e4
  have I5 : Inv X pins σ H4 { s4 with heap := s4.heap.push { cls := .type "slice", data := .fields #[vl, vu, vs] } } := I4.kept (t' := s4.toks) fun b ob q => Heap.get?_push_of_some _ q
  unfold revD at q1
  split at q1
  · rename_i z
    obtain ⟨hz, q⟩ := q1
    cases r1.str_of
    obtain ⟨tk, rfl⟩ := rx
    show wpAny (model X.prog X.w) X.A (subscriptTail e (.Slice none none (some (.UnaryOp .USub (.Constant (.int 1) k p1) p2)) p3) (.str z tk) (.ref s4.heap.objs.size)) (EP X pins σ Q) X.xe { s4 with heap := s4.heap.push { cls := .type "slice", data := .fields #[vl, vu, vs] } }
    refine tail_any (ops := [.str z tk, .ref s4.heap.objs.size]) (typeIs_str _ _ _) (F.slot_str_getitem.lookup) ?_ (by with_unfolding_all rfl)
    obtain ⟨l1, ev1, e1⟩ := IsPart.raw pl
    obtain ⟨l2, ev2, e2⟩ := IsPart.raw pu
    obtain ⟨l3, ev3, e3⟩ := IsPart.raw ps
    subst ev1 ev2 ev3
    cases l1 with
    | some _ => cases e1
    | none =>
    cases l2 with
    | some _ => cases e2
    | none =>
    cases l3 with
    | none => cases e3
    | some y =>
    obtain ⟨i, tk3⟩ := y
    simp at e3
    subst e3
    have epk : (Builtin.Str.strSliceIndices none none (-1) z.length).filterMap (z.cps[·]?) = z.cps.toList.reverse := by
      rw [PyProof.Rows.picked_rev, PySem.W.krv_range, List.filterMap_reverse]
      show (List.filterMap (z.cps[·]?) (List.range z.cps.size)).reverse = _
      rw [PySem.W.krv_all]
    refine wpAny_getItem_str_slice (l := none) (u := none) (st := some (-1, tk3)) ⟨_, Heap.get?_push_size _ rfl, rfl, rfl⟩ rfl ?_
    show Made.post (Made.str ⟨((Builtin.Str.strSliceIndices none none (-1) z.length).filterMap (z.cps[·]?)).toArray⟩) (EP X pins σ Q) _
    rw [epk]
    refine ⟨by show z.cps.toList.reverse.toArray.size ≤ sizeLine; rw [List.size_toArray, List.length_reverse]; exact hz, .str _, H4, I5.tok _, ⟨_, rfl⟩, kk _ _ (.str (revT z)) M1 f1 Rp.str m1 q⟩
  · rename_i its
    obtain ⟨hz, q⟩ := q1
    obtain ⟨a, ws, rfl, ta, ra⟩ := r1.tup_of
    cases rx
    obtain ⟨jts, rr, ht, hz2⟩ := I5.tuple ta
    show wpAny (model X.prog X.w) X.A (subscriptTail e (.Slice none none (some (.UnaryOp .USub (.Constant (.int 1) k p1) p2)) p3) (.ref a) (.ref s4.heap.objs.size)) (EP X pins σ Q) X.xe { s4 with heap := s4.heap.push { cls := .type "slice", data := .fields #[vl, vu, vs] } }
    refine tail_any (ops := [.ref a, .ref s4.heap.objs.size]) ht.typeIs (PyProof.Rows.slot_tuple_getitem.lookup) ?_ (by with_unfolding_all rfl)
    refine HT.getItem_tuple_rev ht (Heap.IsSliceOf.new _ vl vu vs) pl pu ps ?_ (by rw [List.size_toArray, ← rr.length, ← ra.len]; exact hz)
    have hp := I5.hok.fresh (Nat.le_refl (s4.heap.push { cls := .type "slice", data := .fields #[vl, vu, vs] }).objs.size)
    refine ⟨.ref _, _, I5.laid (t' := s4.toks) (o := .tup ws.reverse) (fun b ob q => Heap.get?_push_of_some _ q) (Nat.le_refl _) ?_, rfl, kk _ _ (.tup its.reverse) M1 (f1.trans (Fr.hid hp)) (Rp.tup (SqT.of upd_same) (ra.reverse.keep (keep_new hp))) (m1.hid hp) q⟩
    exact ⟨by rw [List.length_reverse, ← ra.len]; exact hz, _, rr.reverse, IsTup.new _ _⟩
  · exact q1.elim⟩
end
end DL

set_option Elab.async false
set_option linter.all false
set_option maxRecDepth 100000
namespace DL
open PySem PySem.Spec PyProof.Rows L2
/-! ### o.f op= e -/
def dAugF (C : Addr) (f : Str) (ta tv : DE) (r : R2D) : DS := fun E ds M => ta ds M fun x M1 => refK x fun a => insK (M1 a) fun C' fs => C' = C ∧ optK (fs.lookup f) fun v => tv ds M1 fun y M2 => r v y M2 fun z M3 => insK (M3 a) fun C2 fs2 => C2 = C ∧ fs2.length < 1000 ∧ E.nx ds (updM M3 a (.ins C (putD f z fs2)))
@[simp ↓] theorem dAugF_eq {C : Addr} {f : Str} {ta tv : DE} {r : R2D} {E : DEnds} {ds : DSt} {M : DM} : dAugF C f ta tv r E ds M = ta ds M fun x M1 => refK x fun a => insK (M1 a) fun C' fs => C' = C ∧ optK (fs.lookup f) fun v => tv ds M1 fun y M2 => r v y M2 fun z M3 => insK (M3 a) fun C2 fs2 => C2 = C ∧ fs2.length < 1000 ∧ E.nx ds (updM M3 a (.ins C (putD f z fs2))) := rfl
section
variable {X : Cx} {C : Addr} {o value : Expr} {f : Str} {ta tv : DE} {pos tpos : Pos}
theorem s_augF {op : Operator} {r : R2D} (ha : EX X o ta) (hv : EX X value tv) (c : L2.Cls X.K C) (n : NoAttr X.K C f) (ho : PIp X op (lft2 X.w X.K r)) : SX X (.AugAssign (.Attribute o f tpos) op value pos) (dAugF C f ta tv r) :=
  (ps_fldaug ha hv (fun pins s σ H x y u v Q I r1 r2 h => ho pins s σ H x y u v Q I r1 r2 h)).imp fun D σ H ⟨ds, M, E, hs, hm, t, g1, _⟩ => ⟨ds, M, _, hs, hm, t, fun x H1 d M1 f1 r1 m1 q => by
    obtain ⟨a, rfl, q⟩ := refK_of q
    obtain ⟨C', fs, e1, rfl, q⟩ := insK_of q
    obtain ⟨z, e2, q⟩ := optK_of q
    obtain ⟨dx, fv, h1, h2⟩ := m1 a _ e1
    obtain ⟨y, e3, r3⟩ := (h2.look (f := f)).1 z e2
    refine ⟨a, C', dx, fv, y, r1.ref_of, h1, c, n, e3, ds, M1, _, hs.keep (f1.keep hm), m1, q, fun v2 H2 d2 M2 f2 r2 m2 q2 => ⟨z, d2, M2, _, r3.keep (f2.keep m1), r2, m2, q2, fun v3 H3 d3 M3 f3 r4 m3 q3 => ?_⟩⟩
    obtain ⟨C2, fs2, e4, rfl, hl, q4⟩ := insK_of q3
    obtain ⟨dx2, fv2, h3, h4⟩ := m3 a _ e4
    have f13 := (f1.trans f2).trans f3
    refine ⟨dx2, fv2, h3, by rw [← h4.len]; exact hl, ?_⟩
    have kw : Keep H3 (upd H3 a (.ins C2 dx2 (putF f v3 fv2))) := keep_write h3 (fun _ z => by cases z) (fun _ _ z => by cases z)
    exact g1 _ _ _ _ (f13.trans (Fr.write e4)) ((hs.keep (f13.keep hm)).keep kw) (m3.write (o := .ins C2 (putD f d3 fs2)) e4 fun kw => ⟨dx2, _, upd_same, (Rfs.put r4 h4).keep kw⟩) q4⟩
end
end DL

set_option Elab.async false
set_option linter.all false
set_option maxRecDepth 100000
namespace DL
open PySem PySem.Spec PyProof.Rows L2
/-! ### defs that call themselves -/
theorem fnok_false {P : Program} {w : World} {K : PySem.W.Frag} {mg : Str → Option Value} {base : Heap} {k : Nat} {f : Addr} {fd : FuncData} {ps : List Str} : FnOk P w K mg base CX0 k f fd ps (lsp w K fun _ _ _ => False) :=
  ⟨fun vs H Q E ⟨_, _, _, _, _, h, _⟩ => h.elim, fun A outer s H args us vs Q E hr he hb hv ⟨_, _, _, _, _, h, _⟩ => h.elim⟩
def prevSp (sp : Nat → DSp) : Nat → DSp
  | 0 => fun _ _ _ => False
  | n + 1 => sp n
end DL

set_option Elab.async false
set_option linter.all false
set_option maxRecDepth 100000
namespace DL
open PySem PySem.Spec PyProof.Rows L2 SeqAt
def intsOf : List D → Option (List Int)
  | [] => some []
  | .int x :: r => (intsOf r).map (x :: ·)
  | _ :: _ => none
@[simp] theorem intsOf_map : ∀ xs : List Int, intsOf (xs.map D.int) = some xs
  | [] => rfl
  | x :: r => by simp [intsOf, intsOf_map r]
theorem intsOf_some : ∀ {ds : List D} {xs : List Int}, intsOf ds = some xs → ds = xs.map D.int
  | [], _, h => by cases h; rfl
  | .int x :: r, ys, h => by
    simp only [intsOf, Option.map_eq_some_iff] at h
    obtain ⟨xs, h1, rfl⟩ := h
    rw [intsOf_some h1]
    rfl
theorem Rps.ints {K : PySem.W.Frag} {H : Hp} : ∀ {xs : List Int} {vs : List V}, Rps K H (xs.map D.int) vs → vs = xs.map V.int
  | [], _, r => by rw [r.nil_of]; rfl
  | x :: xs, _, r => by
    obtain ⟨v, t, rfl, h1, h2⟩ := r.cons_of
    cases h1.int_of
    rw [Rps.ints h2]
    rfl
theorem Rps.of_ints {K : PySem.W.Frag} {H : Hp} : ∀ xs : List Int, Rps K H (xs.map D.int) (xs.map V.int)
  | [] => .nil
  | x :: xs => .cons Rp.int (Rps.of_ints xs)
section
variable {X : Cx} {p p2 p3 p4 : Pos} {e : Expr} {t : DE}
/-! #### sorted(xs), ints -/
def sortIB : CLD := fun es M Q => arg1 es fun d => refK d fun a => rdK (M a) fun ds => optK (intsOf ds) fun ns => ∀ ns' : List Int, ns'.Perm ns → ns'.Pairwise (· ≤ ·) → ∀ p, M p = none → Q (.ref p) (updM M p (.lst (ns'.map .int)))
@[simp ↓] theorem sortIB_eq {es : List D} {M : DM} {Q : D → DM → Prop} : sortIB es M Q = arg1 es fun d => refK d fun a => rdK (M a) fun ds => optK (intsOf ds) fun ns => ∀ ns' : List Int, ns'.Perm ns → ns'.Pairwise (· ≤ ·) → ∀ p, M p = none → Q (.ref p) (updM M p (.lst (ns'.map .int))) := rfl
theorem c_sortI : CD X (.builtin "sorted") sortIB := by
  intro pins s σ H xs us Q I r ⟨es, M, R, hr, hm, t, k⟩
  obtain ⟨d, rfl, t⟩ := arg1_of t
  obtain ⟨v, rfl, r1⟩ := hr.one
  obtain ⟨a, rfl, t⟩ := refK_of t
  cases r1.ref_of
  obtain ⟨ds, vs, h1, h2, t⟩ := rdK_of hm t
  obtain ⟨ns, hi, q⟩ := optK_of t
  rw [intsOf_some hi] at h2
  have ev := h2.ints
  subst ev
  exact cr_sortedI pins s σ H _ us Q I r ⟨a, ns, rfl, h1, fun ns' p hp hw hn => k _ _ _ _ (Fr.new hn) Rp.ref (hm.new (o := .lst (ns'.map .int)) hn ⟨_, upd_same, Rps.of_ints _⟩) (q ns' hp hw p (hm.fresh hn))⟩
/-! #### set(xs), ints -/
def rSetI (K : PySem.W.Frag) (w : World) : List V → Hp → VK → Prop := fun xs H Q => ∃ (a : Addr) (ns : List Int), xs = [V.ref a] ∧ SqL K H a (ns.map V.int) ∧ ns.length < 64 ∧
  ∀ p k, k < 64 → H p = none → Q (.ref p) (upd H p (SetO w p (fun x => decide (x ∈ ns)) k))
theorem cr_setI (hc : X.calm = true) : CallR X (.type "set") (rSetI X.K X.w) := by
  intro pins s σ H xs us Q I r ⟨a, ns, ex, hs, h64, q⟩
  subst ex
  obtain ⟨u, rfl, ru⟩ := vals1 r
  cases ru
  obtain ⟨T, src, h1, h2, hne, hT, hsrc, hit⟩ := src_set I (.lst a) hs
  have hn : H s.heap.objs.size = none := I.hok.fresh (Nat.le_refl _)
  refine call_set_any (P := X.prog) (w := X.w) (I.ok.hd hc) h1 h2 hne hT hsrc hit (fun i h => ∃ k, SetR X.w h s.heap.objs.size (fun x => decide (x ∈ ns.take i)) k ∧ k ≤ i) ?st ?ad ?z fun h' tk ⟨k, hS, hk⟩ kp => ?fin
  case st =>
    rintro i h h' ⟨k, R, hk⟩ hk2
    exact ⟨k, R.at fun o e => hk2 _ o (Nat.ne_of_lt (Nat.lt_succ_self _)) e, hk⟩
  case ad =>
    rintro i v2 s1 A' Q2 E2 _ hi ⟨x, hx, rx⟩ ⟨k, hS, hk⟩ hq
    rw [List.getElem?_map] at hx
    cases hz' : ns[i]? with
    | none => rw [hz'] at hx; cases hx
    | some z =>
      rw [hz'] at hx
      cases hx
      obtain ⟨tk, rfl⟩ := rx
      have et : ns.take (i + 1) = ns.take i ++ [z] := by rw [List.take_succ, hz']; rfl
      have hil : i < ns.length := (List.getElem?_eq_some_iff.mp hz').1
      unfold setAdd
      refine wpAny_holding (wpAny_bind ((intKind X.prog X.w).pyHash (k := z) (intKind_is _ _ _ _) ?_))
      refine setR_add_hashed (s := { s1 with toks := s1.toks + 1 }) hS (by unfold scanBound; omega) fun h' sb hS' => ?_
      refine hq _ h' _ (Nat.le_succ _) sb ⟨_, hS'.congr fun y => ?_, ?_⟩
      · rw [et]; simp
      · split <;> omega
  case z =>
    intro h' ho _
    refine ⟨0, ?_, Nat.zero_le _⟩
    exact ⟨_, #[], 0, _, ho, ⟨rfl, rfl, rfl⟩, rfl, by simp, by simp, by simp, by decide, rfl, rfl, List.Pairwise.nil, by
      cases X.w.params.followText "set-order"
      · exact .inr rfl
      · exact .inl rfl⟩
  case fin =>
    have e : (ns.map V.int).length = ns.length := List.length_map ..
    rw [e] at hS hk
    rw [List.take_length] at hS
    exact ⟨.ref s.heap.objs.size, upd H s.heap.objs.size (SetO X.w s.heap.objs.size (fun x => decide (x ∈ ns)) k), I.laid (t' := tk) kp (Nat.le_refl _) (setO_new hS), rfl, q _ k (by omega) hn⟩
def dSetSort (t : DE) : DE := fun ds M Q => t ds M fun d M1 => refK d fun a => rdK (M1 a) fun es => optK (intsOf es) fun ns => ns.length < 64 ∧ ∀ ns' : List Int, ns'.Pairwise (· < ·) → (∀ k, k ∈ ns' ↔ k ∈ ns) → ∀ p, M1 p = none → Q (.ref p) (updM M1 p (.lst (ns'.map .int)))
@[simp ↓] theorem dSetSort_eq {ds : DSt} {M : DM} {Q : D → DM → Prop} : dSetSort t ds M Q = t ds M fun d M1 => refK d fun a => rdK (M1 a) fun es => optK (intsOf es) fun ns => ns.length < 64 ∧ ∀ ns' : List Int, ns'.Pairwise (· < ·) → (∀ k, k ∈ ns' ↔ k ∈ ns) → ∀ p, M1 p = none → Q (.ref p) (updM M1 p (.lst (ns'.map .int))) := rfl
theorem e_setsort (hc : X.calm = true) (hg : Gl X "sorted") (hm : X.mg "sorted" = none) (hg2 : Gl X "set") (hm2 : X.mg "set" = none) (he : EX X e t)
    (hs1 : starEach [e] X.env = (false, eval e X.env) :: starEach [] X.env := by rfl) (hs2 : starEach [.Call (.Name "set" p2) [e] [] p3] X.env = (false, eval (.Call (.Name "set" p2) [e] [] p3) X.env) :: starEach [] X.env := by rfl) :
    EX X (.Call (.Name "sorted" p) [.Call (.Name "set" p2) [e] [] p3] [] p4) (dSetSort t) := by
  have a1 := pe_callTy (X := X) (x := "set") (T := "set") (p := p2) (pos := p3) (cr_setI hc) hg2 hm2 rfl (pa_cons he pa_nil hs1) (he := hs1)
  have a2 := pe_callB (X := X) (x := "sorted") (id := "sorted") (p := p) (pos := p4) (cr_sortedSet hc) hg hm rfl (pa_cons a1 pa_nil hs2) (he := hs2)
  refine a2.imp fun σ H Q ⟨ds, M, R, hs, hmm, tt, k⟩ => ?_
  refine ⟨ds, M, _, hs, hmm, tt, fun v H1 d M1 f1 r1 m1 q1 => ?_⟩
  obtain ⟨a, rfl, q1⟩ := refK_of q1
  cases r1.ref_of
  obtain ⟨es, vs, h1, h2, q1⟩ := rdK_of m1 q1
  obtain ⟨ns, hi, h64, q⟩ := optK_of q1
  rw [intsOf_some hi] at h2
  have ev := h2.ints
  subst ev
  refine ⟨a, ns, rfl, h1, h64, fun p' k' hk' hp' => ⟨p', _, k', rfl, upd_same, hk', fun ns' p2' w1 w2 _ hp2 => ?_⟩⟩
  have m2 : RM X.w X.K (upd H1 p' (SetO X.w p' (fun x => decide (x ∈ ns)) k')) M1 := m1.hid hp'
  refine k _ _ _ _ ((f1.trans (Fr.hid hp')).trans (Fr.new hp2)) Rp.ref (m2.new (o := .lst (ns'.map .int)) hp2 ⟨_, upd_same, Rps.of_ints _⟩) (q ns' w1 (fun y => by rw [w2 y]; simp) p2' (m2.fresh hp2))
/-! #### list(range(n)) -/
def rgI (n : Nat) : List Int := (List.range n).map fun (i : Nat) => (i : Int)
def dLstRg (t : DE) : DE := fun ds M Q => t ds M fun d M1 => intK d fun n => 0 ≤ n ∧ n ≤ 16777216 ∧ ∀ p, M1 p = none → Q (.ref p) (updM M1 p (.lst ((rgI n.toNat).map .int)))
@[simp ↓] theorem dLstRg_eq {ds : DSt} {M : DM} {Q : D → DM → Prop} : dLstRg t ds M Q = t ds M fun d M1 => intK d fun n => 0 ≤ n ∧ n ≤ 16777216 ∧ ∀ p, M1 p = none → Q (.ref p) (updM M1 p (.lst ((rgI n.toNat).map .int))) := rfl
theorem e_lstrg (hc : X.calm = true) (hg : Gl X "list") (hm : X.mg "list" = none) (hg2 : Gl X "range") (hm2 : X.mg "range" = none) (he : EX X e t)
    (hs1 : starEach [e] X.env = (false, eval e X.env) :: starEach [] X.env := by rfl) (hs2 : starEach [.Call (.Name "range" p2) [e] [] p3] X.env = (false, eval (.Call (.Name "range" p2) [e] [] p3) X.env) :: starEach [] X.env := by rfl) :
    EX X (.Call (.Name "list" p) [.Call (.Name "range" p2) [e] [] p3] [] p4) (dLstRg t) := by
  have a1 := pe_listRg (X := X) (p := p) (pos := p4) hc hg hm (prg_1 (p := p2) (pos := p3) hg2 hm2 he hs1) hs2
  refine a1.imp fun σ H Q ⟨ds, M, R, hs, hmm, tt, k⟩ => ?_
  refine ⟨ds, M, _, hs, hmm, tt, fun v H1 d M1 f1 r1 m1 q1 => ?_⟩
  obtain ⟨n, rfl, h0, h1, q⟩ := intK_of q1
  cases r1.int_of
  refine ⟨n, rfl, RgOk.of_le (by omega) h1 (by omega) h0, fun p' hp' => ?_⟩
  have er : rgV 0 n = (rgI n.toNat).map V.int := by unfold rgV rgI; simp
  rw [er]
  exact k _ _ _ _ (f1.trans (Fr.new hp')) Rp.ref (m1.new (o := .lst ((rgI n.toNat).map .int)) hp' ⟨_, upd_same, Rps.of_ints _⟩) (q p' (m1.fresh hp'))
/-! #### xs.insert(i, y) -/
def insM : MLD := fun x es M Q => refK x fun a => arg2 es fun i y => intK i fun n => lstK (M a) fun xs => xs.length < sizeLine ∧ 0 ≤ n ∧ n < 2 ^ 63 ∧ Q .non (updM M a (.lst (xs.take n.toNat ++ [y] ++ xs.drop n.toNat)))
@[simp ↓] theorem insM_eq {x : D} {es : List D} {M : DM} {Q : D → DM → Prop} : insM x es M Q = refK x fun a => arg2 es fun i y => intK i fun n => lstK (M a) fun xs => xs.length < sizeLine ∧ 0 ≤ n ∧ n < 2 ^ 63 ∧ Q .non (updM M a (.lst (xs.take n.toNat ++ [y] ++ xs.drop n.toNat))) := rfl
theorem m_insert : MD X "list.insert" insM := by
  intro pins s σ H x xs v us Q I rx rs ⟨d, es, M, R, hx, he, hm, t, k⟩
  obtain ⟨a, rfl, t1⟩ := refK_of t
  obtain ⟨i, y, rfl, t2⟩ := arg2_of t1
  obtain ⟨n, rfl, t3⟩ := intK_of t2
  obtain ⟨ys, e1, hl, h0, h63, q⟩ := lstK_of t3
  obtain ⟨vi, vy, rfl, r1, r2⟩ := he.two
  cases r1.int_of
  cases hx.ref_of
  obtain ⟨vs, h1, h2⟩ := hm _ _ e1
  have kw : ∀ u, Keep H (upd H a u) := fun u => keep_write h1 (fun _ z => by cases z) (fun _ _ z => by cases z)
  exact mt_insert pins s σ H _ _ v us Q I rx rs ⟨a, vs, n, vy, rfl, rfl, h1, by rw [← h2.len]; exact hl, h0, h63,
    k _ _ _ _ (Fr.write e1) Rp.non (hm.write (o := .lst _) e1 fun kw => ⟨_, upd_same, (((h2.take n.toNat).append (.cons r2 .nil)).append (h2.drop n.toNat)).keep kw⟩) q⟩
/-! #### x.index(y), where it is found -/
def idxM : MLD := fun x es M Q => strK x fun a => arg1 es fun d => strK d fun b => match Builtin.Str.occurrences a b 0 a.length 1 with
  | i :: _ => Q (.int (i : Nat)) M
  | [] => False
theorem m_sindex : MD X "str.index" idxM := by
  intro pins s σ H x xs v us Q I rx rs ⟨d, es, M, R, hx, he, hm, t, k⟩
  obtain ⟨a, rfl, t1⟩ := strK_of t
  obtain ⟨y, rfl, t2⟩ := arg1_of t1
  obtain ⟨b, rfl, t3⟩ := strK_of t2
  obtain ⟨u, rfl, r1⟩ := he.one
  cases hx.str_of
  cases r1.str_of
  split at t3
  · rename_i i rest e
    exact mt_sindex pins s σ H _ _ v us Q I rx rs ⟨a, b, i, rest, rfl, rfl, e, k _ _ _ _ .refl Rp.int hm t3⟩
  · exact t3.elim
end
end DL

set_option Elab.async false
set_option linter.all false
set_option maxRecDepth 100000
namespace DL
open PySem PySem.Spec PyProof.Rows L2
def R_cheapest (C_Machine : Addr) (sp_Machine_fine : DSp) (sp_Machine_step : DSp) (sp_cheapest : DSp) : DS :=
    (dSeq (dIfS (dTest (dOp eqD (dVar 2) (dC (.str (Str.ofString ""))))) (dRet (dIf (dTru (dMeth C_Machine (Str.ofString "fine") sp_Machine_fine (dVar 0) (daCons (dVar 1) daNil))) (dTup (daCons (dC (.int 0)) (daCons (dC (.str (Str.ofString ""))) daNil))) (dC .non))) dNext)
    (dSeq (dIfS (dTest (dOp ninD (dTup (daCons (dVar 1) (daCons (dCB lenB (daCons (dVar 2) daNil)) daNil))) (dVar 3))) (dSeq (dSet 4 (dC .non))
    (dSeq (dFor (diAny (dFld C_Machine (Str.ofString "signs") (dVar 0))) (dgName 5) (dSeq (dSet 6 (dMeth C_Machine (Str.ofString "step") sp_Machine_step (dVar 0) (daCons (dVar 1) (daCons (dVar 5) daNil))))
    (dSeq (dSet 7 (dIf (dTest (dOp isD (dVar 6) (dC .non))) (dC .non) (dCall sp_cheapest (daCons (dVar 0) (daCons (dVar 6) (daCons (dSl (dVar 2) (dPart (dC (.int 1))) dNoPart) (daCons (dVar 3) daNil)))))))
    (dIfS (dTest (dOp isnD (dVar 7) (dC .non))) (dSeq (dSet 8 (dOp addD (dOp getD (dVar 7) (dC (.int 0))) (dIf (dTest (dOp eqD (dVar 5) (dOp getD (dVar 2) (dC (.int 0))))) (dC (.int 0)) (dC (.int 1)))))
    (dIfS (dOr (dTest (dOp isD (dVar 4) (dC .non))) (dTest (dOp ltD (dVar 8) (dOp getD (dVar 4) (dC (.int 0)))))) (dSet 4 (dTup (daCons (dVar 8) (daCons (dOp addD (dVar 5) (dOp getD (dVar 7) (dC (.int 1)))) daNil)))) dNext)) dNext))))
    (dAsg (dVar 4) (dgSub (dVar 3) (dTup (daCons (dVar 1) (daCons (dCB lenB (daCons (dVar 2) daNil)) daNil))))))) dNext)
    (dRet (dOp getD (dVar 3) (dTup (daCons (dVar 1) (daCons (dCB lenB (daCons (dVar 2) daNil)) daNil)))))))
def R_mended (C_Machine : Addr) (sp_need_policy : DSp) (sp_need_string : DSp) (sp_Machine___init__ : DSp) (sp_cheapest : DSp) : DS :=
    (dSeq (dDrop (dCall sp_need_policy (daCons (dVar 0) daNil)))
    (dSeq (dDrop (dCall sp_need_string (daCons (dVar 0) (daCons (dVar 1) daNil))))
    (dSeq (dSet 2 (dMake C_Machine sp_Machine___init__ (daCons (dVar 0) daNil)))
    (dSeq (dSet 3 (dCall sp_cheapest (daCons (dVar 2) (daCons (dFld C_Machine (Str.ofString "start") (dVar 2)) (daCons (dVar 1) (daCons dNewT daNil))))))
    (dRet (dIf (dTest (dOp isD (dVar 3) (dC .non))) (dC .non) (dOp getD (dVar 3) (dC (.int 1)))))))))
def R_need_size (sp_is_count : DSp) : DS :=
    (dIfS (dNot (dTru (dCall sp_is_count (daCons (dVar 0) (daCons (dC (.int 0)) (daCons (dC (.int 20)) daNil)))))) dNever dNext)
def R_many_from (C_Machine : Addr) (sp_Machine_fine : DSp) (sp_Machine_step : DSp) (sp_many_from : DSp) : DS :=
    (dSeq (dIfS (dTest (dOp eqD (dVar 2) (dC (.int 0)))) (dRet (dIf (dTru (dMeth C_Machine (Str.ofString "fine") sp_Machine_fine (dVar 0) (daCons (dVar 1) daNil))) (dC (.int 1)) (dC (.int 0)))) dNext)
    (dSeq (dIfS (dTest (dOp ninD (dTup (daCons (dVar 1) (daCons (dVar 2) daNil))) (dVar 3))) (dSeq (dSet 4 (dC (.int 0)))
    (dSeq (dFor (diAny (dFld C_Machine (Str.ofString "signs") (dVar 0))) (dgName 5) (dSeq (dSet 6 (dMeth C_Machine (Str.ofString "step") sp_Machine_step (dVar 0) (daCons (dVar 1) (daCons (dVar 5) daNil))))
    (dIfS (dTest (dOp isnD (dVar 6) (dC .non))) (dAug 4 (dCall sp_many_from (daCons (dVar 0) (daCons (dVar 6) (daCons (dOp subD (dVar 2) (dC (.int 1))) (daCons (dVar 3) daNil))))) iaddD) dNext)))
    (dAsg (dVar 4) (dgSub (dVar 3) (dTup (daCons (dVar 1) (daCons (dVar 2) daNil))))))) dNext)
    (dRet (dOp getD (dVar 3) (dTup (daCons (dVar 1) (daCons (dVar 2) daNil)))))))
def R_count (C_Machine : Addr) (sp_need_policy : DSp) (sp_need_size : DSp) (sp_Machine___init__ : DSp) (sp_many_from : DSp) : DS :=
    (dSeq (dDrop (dCall sp_need_policy (daCons (dVar 0) daNil)))
    (dSeq (dDrop (dCall sp_need_size (daCons (dVar 1) daNil)))
    (dSeq (dSet 2 (dMake C_Machine sp_Machine___init__ (daCons (dVar 0) daNil)))
    (dRet (dCall sp_many_from (daCons (dVar 2) (daCons (dFld C_Machine (Str.ofString "start") (dVar 2)) (daCons (dVar 1) (daCons dNewT daNil)))))))))
def R_at_place (C_Machine : Addr) (sp_need_policy : DSp) (sp_need_size : DSp) (sp_Machine___init__ : DSp) (sp_is_count : DSp) (sp_many_from : DSp) (sp_Machine_step : DSp) : DS :=
    (dSeq (dDrop (dCall sp_need_policy (daCons (dVar 0) daNil)))
    (dSeq (dDrop (dCall sp_need_size (daCons (dVar 1) daNil)))
    (dSeq (dPar 3 4 (daCons (dMake C_Machine sp_Machine___init__ (daCons (dVar 0) daNil)) (daCons dNewT daNil)))
    (dSeq (dIfS (dNot (dTru (dCall sp_is_count (daCons (dVar 2) (daCons (dC (.int 0)) (daCons (dOp subD (dCall sp_many_from (daCons (dVar 3) (daCons (dFld C_Machine (Str.ofString "start") (dVar 3)) (daCons (dVar 1) (daCons (dVar 4) daNil))))) (dC (.int 1))) daNil)))))) dNever dNext)
    (dSeq (dPar 5 6 (daCons (dFld C_Machine (Str.ofString "start") (dVar 3)) (daCons (dC (.str (Str.ofString ""))) daNil)))
    (dSeq (dWhile (dTest (dOp ltD (dCB lenB (daCons (dVar 6) daNil)) (dVar 1))) (dFor (diAny (dFld C_Machine (Str.ofString "signs") (dVar 3))) (dgName 7) (dSeq (dSet 8 (dMeth C_Machine (Str.ofString "step") sp_Machine_step (dVar 3) (daCons (dVar 5) (daCons (dVar 7) daNil))))
    (dSeq (dSet 9 (dIf (dTest (dOp isD (dVar 8) (dC .non))) (dC (.int 0)) (dCall sp_many_from (daCons (dVar 3) (daCons (dVar 8) (daCons (dOp subD (dOp subD (dVar 1) (dCB lenB (daCons (dVar 6) daNil))) (dC (.int 1))) (daCons (dVar 4) daNil)))))))
    (dSeq (dIfS (dTest (dOp ltD (dVar 2) (dVar 9))) (dSeq (dPar 5 6 (daCons (dVar 8) (daCons (dOp addD (dVar 6) (dVar 7)) daNil)))
    dBreak) dNext)
    (dAug 2 (dVar 9) subD))))))
    (dRet (dVar 6))))))))
def R__law_cost : DS :=
    (dRet (dCB lenB (daCons (dLc (diRng1 (dCB lenB (daCons (dVar 0) daNil))) (dgName 2) (dTest (dOp neD (dOp getD (dVar 0) (dVar 2)) (dOp getD (dVar 1) (dVar 2)))) (dVar 2) [2]) daNil)))
end DL

set_option Elab.async false
set_option linter.all false
set_option maxRecDepth 100000
namespace DL
open PySem PySem.Spec PyProof.Rows L2
def R__law_bent (sp__law_pick : DSp) (sp__law_policy : DSp) (sp__law_draw : DSp) : DS :=
    (dSeq (dPar 3 4 (daCons (dOp getD (dOp getD (dVar 2) (dC (.int 0))) (dC (.int 0))) (daCons (dOp getD (dOp getD (dVar 2) (dUn negD (dC (.int 1)))) (dC (.int 0))) daNil)))
    (dSeq (dSet 5 (dLst (daCons (dTup (daCons (dTup (daCons (dC (.str (Str.ofString "most"))) (daCons (dVar 3) (daCons (dC (.int 0)) daNil)))) (daCons (dTup (daCons (dC (.str (Str.ofString "first"))) (daCons (dVar 3) daNil))) daNil))) (daCons (dTup (daCons (dTup (daCons (dC (.str (Str.ofString "size"))) (daCons (dC (.int 0)) (daCons (dC (.int 1)) daNil)))) (daCons (dTup (daCons (dC (.str (Str.ofString "least"))) (daCons (dVar 3) (daCons (dC (.int 2)) daNil)))) daNil))) daNil))))
    (dSeq (dDrop (dBM "list" extM (dVar 5) (daCons (dLst (daCons (dTup (daCons (dTup (daCons (dC (.str (Str.ofString "last"))) (daCons (dVar 4) daNil))) (daCons (dTup (daCons (dC (.str (Str.ofString "size"))) (daCons (dC (.int 0)) (daCons (dC (.int 0)) daNil)))) daNil))) daNil)) daNil)))
    (dSeq (dDrop (dBM "list" extM (dVar 5) (daCons (dLst (daCons (dTup (daCons (dTup (daCons (dC (.str (Str.ofString "kinds"))) (daCons (dCB lenB (daCons (dVar 2) daNil)) daNil))) (daCons (dTup (daCons (dC (.str (Str.ofString "most"))) (daCons (dVar 4) (daCons (dC (.int 0)) daNil)))) daNil))) daNil)) daNil)))
    (dSeq (dDrop (dBM "list" extM (dVar 5) (daCons (dLst (daCons (dTup (daCons (dTup (daCons (dC (.str (Str.ofString "run"))) (daCons (dC (.int 1)) daNil))) (daCons (dTup (daCons (dC (.str (Str.ofString "row"))) (daCons (dC (.int 1)) daNil))) (daCons (dTup (daCons (dC (.str (Str.ofString "size"))) (daCons (dC (.int 12)) (daCons (dC .non) daNil)))) (daCons (dTup (daCons (dC (.str (Str.ofString "most"))) (daCons (dVar 3) (daCons (dC (.int 1)) daNil)))) daNil))))) daNil)) daNil)))
    (dSeq (dSet 6 (dCB listB (daCons (dCall sp__law_pick (daCons (dVar 0) (daCons (dVar 1) (daCons (dVar 5) daNil)))) daNil)))
    (dSeq (dFor (diAny (dOp getD (dCall sp__law_policy (daCons (dVar 0) (daCons (dVar 1) (daCons (dVar 2) (daCons (dC (.int 2)) daNil))))) (dC (.int 1)))) (dgName 7) (dIfS (dTest (dOp ninD (dVar 7) (dVar 6))) (dDrop (dBM "list" insM (dVar 6) (daCons (dCall sp__law_draw (daCons (dVar 0) (daCons (dVar 1) (daCons (dOp addD (dCB lenB (daCons (dVar 6) daNil)) (dC (.int 1))) daNil)))) (daCons (dVar 7) daNil)))) dNext))
    (dRet (dTup (daCons (dVar 2) (daCons (dCB tupB (daCons (dVar 6) daNil)) daNil)))))))))))
def R_choices (sp_choices : DSp) : DS :=
    (dSeq (dIfS (dTest (dOp eqD (dVar 1) (dC (.int 0)))) (dRet (dLst (daCons (dLst daNil) daNil))) dNext)
    (dSeq (dSet 3 (dLst daNil))
    (dSeq (dFor (diRng2 (dVar 2) (dVar 0)) (dgName 4) (dDrop (dBM "list" extM (dVar 3) (daCons (dLc (diAny (dCall sp_choices (daCons (dVar 0) (daCons (dOp subD (dVar 1) (dC (.int 1))) (daCons (dOp addD (dVar 4) (dC (.int 1))) daNil))))) (dgName 5) dYes (dOp addD (dLst (daCons (dVar 4) daNil)) (dVar 5)) [5]) daNil))))
    (dRet (dVar 3)))))
def R_core (sp_need_policy : DSp) (sp_first_of : DSp) (sp_choices : DSp) : DS :=
    (dSeq (dDrop (dCall sp_need_policy (daCons (dVar 0) daNil)))
    (dSeq (dIfS (dTest (dOp isnD (dCall sp_first_of (daCons (dVar 0) daNil)) (dC .non))) (dRet (dC .non)) dNext)
    (dSeq (dSet 1 (dCB lenB (daCons (dOp getD (dVar 0) (dC (.int 1))) daNil)))
    (dSeq (dFor (diRng1 (dVar 1)) (dgName 2) (dFor (diAny (dCall sp_choices (daCons (dVar 1) (daCons (dVar 2) (daCons (dC (.int 0)) daNil))))) (dgName 3) (dIfS (dTest (dOp isD (dCall sp_first_of (daCons (dTup (daCons (dOp getD (dVar 0) (dC (.int 0))) (daCons (dCB tupB (daCons (dLc (diAny (dVar 3)) (dgName 4) dYes (dOp getD (dOp getD (dVar 0) (dC (.int 1))) (dVar 4)) [4]) daNil)) daNil))) daNil)) (dC .non))) (dRet (dVar 3)) dNext)))
    (dRet (dLstRg (dVar 1)))))))
def R_without : DS :=
    (dRet (dTup (daCons (dOp getD (dVar 0) (dC (.int 0))) (daCons (dOp addD (dSl (dOp getD (dVar 0) (dC (.int 1))) dNoPart (dPart (dVar 1))) (dSl (dOp getD (dVar 0) (dC (.int 1))) (dPart (dOp addD (dVar 1) (dC (.int 1)))) dNoPart)) daNil))))
def R_idle (sp_need_policy : DSp) (sp_parting_of : DSp) (sp_without : DSp) : DS :=
    (dSeq (dDrop (dCall sp_need_policy (daCons (dVar 0) daNil)))
    (dRet (dLc (diRng1 (dCB lenB (daCons (dOp getD (dVar 0) (dC (.int 1))) daNil))) (dgName 1) (dTest (dOp isD (dCall sp_parting_of (daCons (dVar 0) (daCons (dCall sp_without (daCons (dVar 0) (daCons (dVar 1) daNil))) daNil))) (dC .non))) (dVar 1) [1])))
end DL

set_option Elab.async false
set_option linter.all false
set_option maxRecDepth 100000
namespace DL
open PySem PySem.Spec PyProof.Rows L2
theorem otD_eq_none (o : Option Tx) : (otD o = .non) ↔ o = none := by cases o <;> simp [otD]
theorem otD_nk {a b : Option Tx} : (nk (otD a) = nk (otD b)) ↔ a = b := by
  cases a <;> cases b <;> simp [otD]
theorem isD_ot (o : Option Tx) (M : DM) (Q : D → DM → Prop) : isD (otD o) .non M Q = Q (.bl o.isNone) M := by cases o <;> rfl
theorem isnD_ot (o : Option Tx) (M : DM) (Q : D → DM → Prop) : isnD (otD o) .non M Q = Q (.bl o.isSome) M := by cases o <;> rfl
theorem eqD_ot (a b : Option Tx) (M : DM) (Q : D → DM → Prop) : eqD (otD a) (otD b) M Q = Q (.bl (decide (a = b))) M := by
  cases a <;> cases b <;> simp [otD, eqD, plain, NestedKey.depth]
theorem neD_ot (a b : Option Tx) (M : DM) (Q : D → DM → Prop) : neD (otD a) (otD b) M Q = Q (.bl (!decide (a = b))) M := by
  rw [neD_eq, eqD_ot]; rfl
theorem FirstS.none_of {sgn : Tx} {P : Tx → Bool} {o : Option Tx} (f : FirstS sgn P o) (h : ∀ u, (∀ c ∈ u, c ∈ sgn) → P u = false) : o = none := by
  cases o with
  | none => rfl
  | some u =>
    obtain ⟨a, b⟩ := f.some_ok
    rw [h u b] at a; cases a
theorem PolOk.sub {cs : Cls} {rs rs' : List Ru} (p : PolOk cs rs) (h : rs'.Sublist rs) : PolOk cs rs' := ⟨p.c, by have := h.length_le; have := p.few; omega, fun r hr => p.r r (h.subset hr), h.nodup p.nd⟩
theorem RsD.sub {cs : Cls} {rs rs' : List Ru} (p : RsD cs rs) (h : ∀ r ∈ rs', r ∈ rs) : RsD cs rs' := ⟨p.c, p.s, fun r hr => p.r r (h r hr), fun w hw => p.n w (h _ hw)⟩
theorem allow_rev (cs : Cls) (rs : List Ru) (u : Tx) : allowL cs rs.reverse u = allowL cs rs u := by unfold allowL; rw [List.all_reverse]
end DL

set_option Elab.async false
set_option linter.all false
set_option maxRecDepth 100000
namespace DL
open PySem PySem.Spec PyProof.Rows L2
/-! ### ascending lists of numbers -/
def chL (many : Nat) : Nat → Nat → List (List Nat)
  | 0, _ => [[]]
  | s + 1, a => (List.range' a (many - a)).flatMap fun l => (chL many s (l + 1)).map (l :: ·)
def nD (n : Nat) : D := .int (n : Int)
def nsD (l : List Nat) : List D := l.map nD
theorem chL_mem {many : Nat} : ∀ {s a : Nat} {l : List Nat}, l ∈ chL many s a ↔ l.length = s ∧ l.Pairwise (· < ·) ∧ ∀ x ∈ l, a ≤ x ∧ x < many
  | 0, a, l => by
    simp only [chL, List.mem_singleton]
    constructor
    · rintro rfl; simp
    · intro h; exact List.length_eq_zero_iff.mp h.1
  | s + 1, a, l => by
    simp only [chL, List.mem_flatMap, List.mem_map, List.mem_range'_1]
    constructor
    · rintro ⟨x, ⟨h1, h2⟩, r, hr, rfl⟩
      obtain ⟨h3, h4, h5⟩ := chL_mem.mp hr
      refine ⟨by simp [h3], List.pairwise_cons.mpr ⟨fun y hy => by have := h5 y hy; omega, h4⟩, fun y hy => ?_⟩
      rcases List.mem_cons.mp hy with rfl | hy
      · omega
      · have := h5 y hy; omega
    · rintro ⟨h1, h2, h3⟩
      cases l with
      | nil => simp at h1
      | cons x r =>
        obtain ⟨h4, h5⟩ := List.pairwise_cons.mp h2
        have hx := h3 x List.mem_cons_self
        refine ⟨x, by omega, r, chL_mem.mpr ⟨by simpa using h1, h5, fun y hy => ?_⟩, rfl⟩
        have a1 := h4 y hy
        have a2 := h3 y (List.mem_cons_of_mem _ hy)
        omega
theorem flat_le {α β : Type} (f : α → List β) (n : Nat) : ∀ l : List α, (∀ x ∈ l, (f x).length ≤ n) → (l.flatMap f).length ≤ l.length * n
  | [], _ => by simp
  | x :: l, h => by
    have h1 := h x List.mem_cons_self
    have h2 := flat_le f n l fun y hy => h y (List.mem_cons_of_mem _ hy)
    rw [List.flatMap_cons, List.length_append, List.length_cons, Nat.add_mul]
    omega
theorem chL_len {many : Nat} (hm : many ≤ 6) : ∀ s a, (chL many s a).length ≤ 6 ^ s
  | 0, a => by simp [chL]
  | s + 1, a => by
    rw [chL, Nat.pow_succ, Nat.mul_comm]
    have := flat_le (fun l => (chL many s (l + 1)).map (l :: ·)) (6 ^ s) (List.range' a (many - a)) fun x _ => by
      rw [List.length_map]; exact chL_len hm s (x + 1)
    refine Nat.le_trans this ?_
    rw [List.length_range']
    exact Nat.mul_le_mul_right _ (by omega)
abbrev PL := Addr × List Nat
def rfs (ps : List PL) : List D := ps.map fun x => .ref x.1
/-- lists at places that M0 does not have -/
def NsL (M0 N : DM) (ps : List PL) : Prop := ∀ x ∈ ps, M0 x.1 = none ∧ N x.1 = some (.lst (nsD x.2))
theorem NsL.new {M0 N : DM} {ps : List PL} {p : Addr} {o : DO} (h : NsL M0 N ps) (hp : N p = none) : NsL M0 (updM N p o) ps := fun x hx => ⟨(h x hx).1, by rw [updM_ne (ne_free (h x hx).2 hp)]; exact (h x hx).2⟩
theorem NsL.le {M0 N N' : DM} {ps : List PL} (h : NsL M0 N ps) (l : Le N N') : NsL M0 N' ps := fun x hx => ⟨(h x hx).1, l _ _ (h x hx).2⟩
theorem NsL.app {M0 N : DM} {ps qs : List PL} (h : NsL M0 N ps) (h' : NsL M0 N qs) : NsL M0 N (ps ++ qs) := fun x hx => (List.mem_append.mp hx).elim (h x) (h' x)
theorem free_le {M N : DM} {p : Addr} (l : Le M N) (h : N p = none) : M p = none := by
  cases e : M p with
  | none => rfl
  | some o => rw [l _ _ e] at h; cases h
def sp_choices (n : Nat) : DSp := fun ds M R => ∃ many size start : Nat, ds = [.int (many : Nat), .int (size : Nat), .int (start : Nat)] ∧ size ≤ n ∧ many ≤ 6 ∧ size ≤ 6 ∧ start ≤ many ∧
  ∀ p (ps : List PL) M', Le M M' → M p = none → M' p = some (.lst (rfs ps)) → NsL M M' ps → ps.map (·.2) = chL many size start → R (.ref p) M'
section
variable {d0 d1 d2 d3 : Option D}
theorem ch_lc {M0 N0 : DM} {pp : Addr} {lo : Nat} {Q : List D → DM → Prop} {src : List D} : ∀ (ps acc : List PL) (N : DM), Le M0 N → Le N0 N → N0 pp = some (.lst src) → (∀ x ∈ ps, N0 x.1 = some (.lst (nsD x.2))) → (∀ x ∈ ps, x.2.length ≤ 6) → NsL N0 N acc →
    (∀ (qs : List PL) N', Le M0 N' → Le N0 N' → NsL N0 N' (acc ++ qs) → qs.map (·.2) = ps.map (fun x => lo :: x.2) → Q (rfs (acc ++ qs)) N') →
    lcW (fun N => N pp = some (.lst src)) (dgName 5) dYes (dOp addD (dLst (daCons (dVar 4) daNil)) (dVar 5)) [d0, d1, d2, d3, some (.int (lo : Nat)), none] (rfs ps) (rfs acc) N Q
  | [], acc, N, l, l0, hp, _, _, hn, q => ⟨l0 _ _ hp, by simpa using q [] N l l0 (by simpa using hn) rfl⟩
  | x :: ps, acc, N, l, l0, hp, h, h6, hn, q => by
    refine ⟨l0 _ _ hp, ?_⟩
    simp -implicitDefEqProofs [getS]
    intro a ha
    have hx := h x List.mem_cons_self
    have hx6 := h6 x List.mem_cons_self
    have hxa : x.1 ≠ a := ne_free (l0 _ _ hx) ha
    rw [updM_ne hxa, l0 _ _ hx]
    simp -implicitDefEqProofs
    refine ⟨by simp [nsD]; rw [sizeLine_eq]; omega, fun b hb => ?_⟩
    have hab : a ≠ b := (free_of hb).1.symm
    have hb' := (free_of hb).2
    have l' := (l.trans (Le.new ha)).trans (Le.new (o := .lst (.int (lo : Int) :: nsD x.2)) hb)
    have l0' := (l0.trans (Le.new ha)).trans (Le.new (o := .lst (.int (lo : Int) :: nsD x.2)) hb)
    have fb : N0 b = none := free_le l0 hb'
    have := ch_lc (M0 := M0) (N0 := N0) (pp := pp) (lo := lo) (Q := Q) ps (acc ++ [(b, lo :: x.2)]) _ l' l0' hp (fun y hy => h y (List.mem_cons_of_mem _ hy)) (fun y hy => h6 y (List.mem_cons_of_mem _ hy))
      (((hn.new ha).new hb).app fun y hy => by
        have : y = (b, lo :: x.2) := by simpa using hy
        subst this
        exact ⟨fb, updM_same⟩) fun qs N' l1 l2 hn' e => ?_
    · simpa [rfs] using this
    · rw [List.append_assoc] at hn' ⊢
      exact q ((b, lo :: x.2) :: qs) N' l1 l2 hn' (by simp [e])
end
def chBody (sp : DSp) : DS := (dDrop (dBM "list" extM (dVar 3) (daCons (dLc (diAny (dCall sp (daCons (dVar 0) (daCons (dOp subD (dVar 1) (dC (.int 1))) (daCons (dOp addD (dVar 4) (dC (.int 1))) daNil))))) (dgName 5) dYes (dOp addD (dLst (daCons (dVar 4) daNil)) (dVar 5)) [5]) daNil)))
theorem ch_loop {n many s f : Nat} {M0 : DM} {E : DEnds} {d2 : Option D} (hm : many ≤ 6) (hs : s ≤ n) (hs6 : s < 6) (hf0 : M0 f = none) : ∀ (k lo : Nat) (acc : List PL) (x4 x5 : Option D) (N : DM), lo + k = many → Le M0 N → N f = some (.lst (rfs acc)) → NsL M0 N acc → (∀ x ∈ acc, x.1 ≠ f) → (acc.length ≤ lo * 6 ^ 6) →
    (∀ (qs : List PL) y4 y5 N', Le M0 N' → N' f = some (.lst (rfs (acc ++ qs))) → NsL M0 N' (acc ++ qs) → qs.map (·.2) = ((List.range' lo k).flatMap fun l => (chL many s (l + 1)).map (l :: ·)) →
      E.nx [some (.int (many : Nat)), some (.int ((s : Int) + 1)), d2, some (.ref f), y4, y5] N') →
    forW (fun _ => True) (dgName 4) (chBody (sp_choices n)) E (intsD (lo : Nat) k) [some (.int (many : Nat)), some (.int ((s : Int) + 1)), d2, some (.ref f), x4, x5] N
  | 0, lo, acc, x4, x5, N, _, l, hf, hn, hne, _, q => by
    simp only [intsD]
    rw [forW_nil]
    exact ⟨trivial, q [] x4 x5 N l (by simpa using hf) (by simpa using hn) rfl⟩
  | k + 1, lo, acc, x4, x5, N, hk, l, hf, hn, hne, hlen, q => by
    simp only [intsD]
    rw [forW_cons]
    refine ⟨trivial, ?_⟩
    simp -implicitDefEqProofs [chBody, getS]
    rw [tyK_lst hf]
    refine ⟨rfl, many, s, lo + 1, by simp, hs, hm, by omega, by omega, fun p ps N1 le1 hp hN1 hn1 e1 => ?_⟩
    have pf : p ≠ f := (ne_free hf hp).symm
    show itK (.ref p) N1 _
    rw [itK_lst hN1]
    have hl6 := chL_len hm s (lo + 1)
    have hpl : ps.length = (chL many s (lo + 1)).length := by rw [← e1, List.length_map]
    have h66 : 6 ^ s ≤ 6 ^ 6 := Nat.pow_le_pow_right (by decide) (by omega)
    refine ⟨by rw [show (rfs ps).length = ps.length from List.length_map .., hpl, sizeLine_eq]; omega, ?_⟩
    refine ch_lc (M0 := M0) (N0 := N1) ps [] N1 (l.trans le1) (Le.refl N1) hN1 (fun x hx => (hn1 x hx).2) (fun x hx => ?_) (by intro x hx; cases hx) fun qs N2 l1 l2 hn2 e2 r hr => ?_
    · have : x.2 ∈ chL many s (lo + 1) := by rw [← e1]; exact List.mem_map.mpr ⟨x, hx, rfl⟩
      have := (chL_mem.mp this).1
      omega
    · have fr : f ≠ r := ne_free (l2 _ _ (le1 _ _ hf)) hr
      rw [updM_ne fr, l2 _ _ (le1 _ _ hf)]
      simp -implicitDefEqProofs
      have hql : qs.length = ps.length := by have := congrArg List.length e2; simpa using this
      have h7 : lo * 6 ^ 6 ≤ 6 * 6 ^ 6 := Nat.mul_le_mul_right _ (by omega)
      refine ⟨by simp [rfs]; rw [sizeLine_eq]; omega, ?_⟩
      have le2 : Le N N2 := le1.trans l2
      have := ch_loop (E := E) (d2 := d2) hm hs hs6 hf0 k (lo + 1) (acc ++ qs) (some (.int (lo : Nat))) x5 (updM (updM N2 r (.lst (rfs qs))) f (.lst (rfs (acc ++ qs)))) (by omega) ((l1.trans (Le.new hr)).put hf0) updM_same (fun x hx => ?_) (fun x hx => ?_) (by rw [List.length_append, Nat.add_mul]; omega) fun qs' y4 y5 N' a1 a2 a3 a4 => ?_
      · simpa [rfs, chBody] using this
      · have hx2 : M0 x.1 = none ∧ N2 x.1 = some (.lst (nsD x.2)) ∧ x.1 ≠ f := by
          rcases List.mem_append.mp hx with h | h
          · exact ⟨(hn x h).1, le2 _ _ (hn x h).2, hne x h⟩
          · obtain ⟨b1, b2⟩ := hn2 x h
            exact ⟨free_le (l.trans le1) b1, b2, (ne_free (le1 _ _ hf) b1).symm⟩
        exact ⟨hx2.1, by rw [updM_ne hx2.2.2, updM_ne (ne_free hx2.2.1 hr)]; exact hx2.2.1⟩
      · rcases List.mem_append.mp hx with h | h
        · exact hne x h
        · exact (ne_free (le1 _ _ hf) (hn2 x h).1).symm
      · rw [List.append_assoc] at a2 a3
        refine q (qs ++ qs') y4 y5 N' a1 a2 a3 ?_
        rw [List.range'_succ, List.flatMap_cons, List.map_append, a4, e2, ← e1, List.map_map]
        rfl
theorem l_choices (n : Nat) : ∀ ds M R, sp_choices n ds M R → R_choices (prevSp sp_choices n) (topE R) (startD 6 ds) M := by
  rintro _ M R ⟨many, size, start, rfl, hn, hm, hs6, hst, q⟩
  cases size with
  | zero =>
    simp -implicitDefEqProofs [R_choices, startD, topE, getS]
    intro a ha b hb
    have ab : a ≠ b := (free_of hb).1.symm
    refine Dn.mk (q b [(a, [])] _ ((Le.new ha).trans (Le.new hb)) (free_of hb).2 updM_same (fun x hx => ?_) rfl)
    have : x = (a, []) := by simpa using hx
    subst this
    exact ⟨ha, by rw [updM_ne ab]; exact updM_same⟩
  | succ s =>
    cases n with
    | zero => omega
    | succ n =>
      have e0 : ¬ ((s : Int) + 1 = 0) := by omega
      simp -implicitDefEqProofs [R_choices, startD, topE, getS, e0]
      intro f hf
      refine ⟨by omega, ?_⟩

      have := ch_loop (n := n) (many := many) (s := s) (f := f) (M0 := M) (d2 := some (.int (start : Nat))) (E := { nx := fun ds M => dRet (dVar 3) (topE R) ds M, rt := fun d M => Dn R d M, bk := fun _ _ => False, ct := fun _ _ => False }) hm (by omega) (by omega) hf (many - start) start [] none none (updM M f (.lst [])) (by omega) (Le.new hf) updM_same (by intro x hx; cases hx) (by intro x hx; cases hx) (by simp) fun qs y4 y5 N' a1 a2 a3 a4 => ?_
      · exact this
      · simp -implicitDefEqProofs [getS, topE]
        exact Dn.mk (q f qs N' a1 hf a2 (by simpa using a3) a4)
end DL

set_option Elab.async false
set_option linter.all false
set_option maxRecDepth 100000
namespace DL
open PySem PySem.Spec PyProof.Rows L2
def R_need_pair (sp_need_policy : DSp) : DS :=
    (dSeq (dDrop (dCall sp_need_policy (daCons (dVar 0) daNil)))
    (dSeq (dDrop (dCall sp_need_policy (daCons (dVar 1) daNil)))
    (dIfS (dTest (dOp neD (dOp getD (dVar 0) (dC (.int 0))) (dOp getD (dVar 1) (dC (.int 0))))) dNever dNext)))
def R_found_by (C_Machine : Addr) (sp_Machine___init__ : DSp) (sp_Machine_fine : DSp) (sp_Machine_step : DSp) : DS :=
    (dSeq (dPar 3 4 (daCons (dMake C_Machine sp_Machine___init__ (daCons (dVar 0) daNil)) (daCons (dMake C_Machine sp_Machine___init__ (daCons (dVar 1) daNil)) daNil)))
    (dSeq (dSet 5 (dTup (daCons (dFld C_Machine (Str.ofString "start") (dVar 3)) (daCons (dFld C_Machine (Str.ofString "start") (dVar 4)) daNil))))
    (dSeq (dPar 6 7 (daCons (dDispT (dVar 5) (dC (.bl true))) (daCons (dLst (daCons (dTup (daCons (dVar 5) (daCons (dC (.str (Str.ofString ""))) daNil))) daNil)) daNil)))
    (dSeq (dWhile (dTest (dOp neD (dVar 7) (dLst daNil))) (dSeq (dSet 8 (dLst daNil))
    (dSeq (dFor (diAny (dVar 7)) (dgTup 2 (dgCons (dgName 9) (dgCons (dgName 10) dgNil))) (dSeq (dIfS (dTest (dOp inD (dTup (daCons (dMeth C_Machine (Str.ofString "fine") sp_Machine_fine (dVar 3) (daCons (dOp getD (dVar 9) (dC (.int 0))) daNil)) (daCons (dMeth C_Machine (Str.ofString "fine") sp_Machine_fine (dVar 4) (daCons (dOp getD (dVar 9) (dC (.int 1))) daNil)) daNil))) (dVar 2))) (dRet (dVar 10)) dNext)
    (dFor (diAny (dFld C_Machine (Str.ofString "signs") (dVar 3))) (dgName 11) (dSeq (dSet 12 (dTup (daCons (dMeth C_Machine (Str.ofString "step") sp_Machine_step (dVar 3) (daCons (dOp getD (dVar 9) (dC (.int 0))) (daCons (dVar 11) daNil))) (daCons (dMeth C_Machine (Str.ofString "step") sp_Machine_step (dVar 4) (daCons (dOp getD (dVar 9) (dC (.int 1))) (daCons (dVar 11) daNil))) daNil))))
    (dIfS (dAnd (dTest (dOp neD (dVar 12) (dTup (daCons (dC .non) (daCons (dC .non) daNil))))) (dTest (dOp ninD (dVar 12) (dVar 6)))) (dSeq (dAsg (dC (.bl true)) (dgSub (dVar 6) (dVar 12)))
    (dDrop (dBM "list" appM (dVar 8) (daCons (dTup (daCons (dVar 12) (daCons (dOp addD (dVar 10) (dVar 11)) daNil))) daNil)))) dNext)))))
    (dSet 7 (dVar 8)))))
    (dRet (dC .non))))))
def R_parting_of (sp_found_by : DSp) : DS :=
    (dRet (dCall sp_found_by (daCons (dVar 0) (daCons (dVar 1) (daCons (dLst (daCons (dTup (daCons (dC (.bl true)) (daCons (dC (.bl false)) daNil))) (daCons (dTup (daCons (dC (.bl false)) (daCons (dC (.bl true)) daNil))) daNil))) daNil)))))
def R_parting (sp_need_pair : DSp) (sp_parting_of : DSp) : DS :=
    (dSeq (dDrop (dCall sp_need_pair (daCons (dVar 0) (daCons (dVar 1) daNil))))
    (dRet (dCall sp_parting_of (daCons (dVar 0) (daCons (dVar 1) daNil)))))
def R_common (sp_need_pair : DSp) (sp_found_by : DSp) : DS :=
    (dSeq (dDrop (dCall sp_need_pair (daCons (dVar 0) (daCons (dVar 1) daNil))))
    (dRet (dCall sp_found_by (daCons (dVar 0) (daCons (dVar 1) (daCons (dLst (daCons (dTup (daCons (dC (.bl true)) (daCons (dC (.bl true)) daNil))) daNil)) daNil))))))
end DL

set_option Elab.async false
set_option linter.all false
set_option maxRecDepth 100000
namespace DL
open PySem PySem.Spec PyProof.Rows L2
/-! ### found_by: two machines side by side -/
abbrev PS := St1 × St1
def nz (y : PS) : Option PS := if (y.1.isNone && y.2.isNone) = true then none else some y
theorem nz_some {y : PS} (h : y ≠ (none, none)) : nz y = some y := by
  unfold nz
  obtain ⟨a, b⟩ := y
  cases a <;> cases b <;> first | rfl | exact absurd rfl h
def stP (cs : Cls) (rs1 rs2 : List Ru) (x : PS) (c : Nat) : Option PS := nz (stp cs rs1 x.1 c, stp cs rs2 x.2 c)
theorem rnS_stP {cs : Cls} {rs1 rs2 : List Ru} : ∀ (u : Tx) (x : PS), rnS (stP cs rs1 rs2) (nz x) u = nz (u.foldl (stp cs rs1) x.1, u.foldl (stp cs rs2) x.2)
  | [], x => rfl
  | c :: u, x => by
    by_cases h : x = (none, none)
    · subst h
      show rnS (stP cs rs1 rs2) none (c :: u) = _
      rw [rnS_none, stp_none, stp_none]; rfl
    · rw [nz_some h]
      show rnS (stP cs rs1 rs2) (stP cs rs1 rs2 x c) u = _
      exact rnS_stP u (stp cs rs1 x.1 c, stp cs rs2 x.2 c)
def accP (W : List (Bool × Bool)) (rs1 rs2 : List Ru) (x : PS) : Bool := decide ((fineB rs1 x.1, fineB rs2 x.2) ∈ W)
/-- a pair of states that some text leads to -/
def RchP (cs : Cls) (rs1 rs2 : List Ru) (x : PS) : Prop := x ≠ (none, none) ∧ ∃ t : Tx, (∀ c ∈ t, c ∈ sgs cs) ∧ runS cs rs1 t = x.1 ∧ runS cs rs2 t = x.2
def FewP (cs : Cls) (rs1 rs2 : List Ru) : Prop := ∀ l : List PS, l.Nodup → (∀ x ∈ l, RchP cs rs1 rs2 x) → l.length ≤ sizeLine
theorem RchP.a {cs : Cls} {rs1 rs2 : List Ru} {x : PS} (h : RchP cs rs1 rs2 x) : StR cs rs1 x.1 := fun os e => by
  obtain ⟨_, t, h1, h2, _⟩ := h
  exact ⟨t, h1, h2.trans e⟩
theorem RchP.b {cs : Cls} {rs1 rs2 : List Ru} {x : PS} (h : RchP cs rs1 rs2 x) : StR cs rs2 x.2 := fun os e => by
  obtain ⟨_, t, h1, _, h2⟩ := h
  exact ⟨t, h1, h2.trans e⟩
theorem RchP.step {cs : Cls} {rs1 rs2 : List Ru} {x y : PS} {c : Nat} (h : RchP cs rs1 rs2 x) (hc : c ∈ sgs cs) (e : stP cs rs1 rs2 x c = some y) : RchP cs rs1 rs2 y := by
  unfold stP at e
  by_cases hn : (stp cs rs1 x.1 c, stp cs rs2 x.2 c) = ((none, none) : PS)
  · rw [hn] at e; cases e
  · rw [nz_some hn] at e
    cases e
    obtain ⟨_, t, h1, h2, h3⟩ := h
    refine ⟨hn, t ++ [c], fun d hd => ?_, ?_, ?_⟩
    · rcases List.mem_append.mp hd with a | a
      · exact h1 d a
      · simp at a; rw [a]; exact hc
    · unfold runS at h2 ⊢; rw [List.foldl_append, h2]; rfl
    · unfold runS at h3 ⊢; rw [List.foldl_append, h3]; rfl
def pkD (x : PS) : D := .tup [stD x.1, stD x.2]
def nkP (x : PS) : NestedKey := nk (pkD x)
theorem stD_nk {a b : St1} (h : nk (stD a) = nk (stD b)) : a = b := by
  cases a with
  | none => cases b with
    | none => rfl
    | some os => simp [stD, nk] at h
  | some os => cases b with
    | none => simp [stD, nk] at h
    | some os' =>
      simp [stD, nk] at h
      rw [os_inj h]
theorem nkP_inj {x y : PS} (h : nkP x = nkP y) : x = y := by
  simp [nkP, pkD, nk, nks] at h
  exact Prod.ext (stD_nk h.1) (stD_nk h.2)
theorem stD_plain (s : St1) : plain (stD s) = true ∧ (nk (stD s)).depth ≤ 2 ∧ keyD (nk (stD s)) = stD s := by
  cases s with
  | none => exact ⟨rfl, by simp [stD, NestedKey.depth], rfl⟩
  | some os =>
    refine ⟨by simp [stD, plains_os], ?_, (keyS_ok os).2⟩
    have := depth_os os
    simp only [stD, nk, NestedKey.depth]
    omega
theorem keyP_ok (x : PS) : keyOk [stD x.1, stD x.2] ∧ keyD (nk (.tup [stD x.1, stD x.2])) = .tup [stD x.1, stD x.2] := by
  obtain ⟨a1, a2, a3⟩ := stD_plain x.1
  obtain ⟨b1, b2, b3⟩ := stD_plain x.2
  refine ⟨⟨by simp [plains, a1, b1], ?_⟩, ?_⟩
  · simp only [nk, nks, NestedKey.depth, NestedKey.depthAll]
    omega
  · simp only [nk, nks, keyD, keysD, a3, b3]
def seenP (l : List PS) : List (NestedKey × D) := l.map fun x => (nkP x, .bl true)
theorem seenP_get : ∀ (l : List PS) (x : PS), (getA (seenP l) (nkP x)).isSome = decide (x ∈ l)
  | [], x => by simp [seenP, getA]
  | y :: l, x => by
    have ih := seenP_get l x
    simp only [seenP, List.map_cons, getA] at ih ⊢
    by_cases h : nkP y = nkP x
    · rw [if_pos h, nkP_inj h]; simp
    · rw [if_neg h, ih]
      have : x ≠ y := fun e => h (by rw [e])
      simp [this]
theorem seenP_put {l : List PS} {x : PS} (h : x ∉ l) : putA (seenP l) (nkP x) (.bl true) = seenP (l ++ [x]) := by
  unfold putA
  have := seenP_get l x
  rw [if_neg (by rw [this]; simpa using h)]
  simp [seenP]
def levP (l : SW PS) : List D := l.map fun x => .tup [pkD x.1, .str (S x.2)]
theorem levP_plain : ∀ lev : SW PS, plains (levP lev) = true ∧ NestedKey.depthAll (nks (levP lev)) ≤ 6
  | [] => ⟨rfl, by simp [levP, nks, NestedKey.depthAll]⟩
  | x :: lev => by
    obtain ⟨h1, h2⟩ := levP_plain lev
    obtain ⟨a1, a2, a3⟩ := stD_plain x.1.1
    obtain ⟨b1, b2, b3⟩ := stD_plain x.1.2
    simp only [levP, List.map_cons, pkD, plains, plain, a1, b1, nks, nk, NestedKey.depthAll, NestedKey.depth] at h1 h2 ⊢
    exact ⟨by simp [h1], by omega⟩
theorem MK.off {C p k k' : Addr} {cs : Cls} {rs : List Ru} {M M' : DM} {l : List (NestedKey × D)} (m : MK C p cs rs k M) (h : M k' = some (.dT l)) (ne : k' ≠ k) (o : Off k' M M') : MK C p cs rs k M' := by
  obtain ⟨kn, h1, ok⟩ := m.kn
  exact ⟨m.m.parts h ⟨(by intro _ _ z; cases z), (by intro _ z; cases z)⟩ o, ⟨kn, by rw [o k (Ne.symm ne)]; exact h1, ok⟩, m.c, m.r, m.len, m.few⟩
/-- N knows all that M knows, but for k and k' -/
def Kq (k k' : Addr) (M N : DM) : Prop := ∀ b o, b ≠ k → b ≠ k' → M b = some o → N b = some o
structure Tw (C p q : Addr) (cs : Cls) (rs1 rs2 : List Ru) (k k' : Addr) (M0 N : DM) : Prop where
  a : MK C p cs rs1 k N
  b : MK C q cs rs2 k' N
  ne : k ≠ k'
  kp : Kq k k' M0 N
section
variable {C p q k k' s a l wd : Addr} {cs : Cls} {rs1 rs2 : List Ru} {M0 N : DM} {W : List (Bool × Bool)}
theorem Tw.offa (t : Tw C p q cs rs1 rs2 k k' M0 N) {N' : DM} (o : Off k N N') (m : MK C p cs rs1 k N') : Tw C p q cs rs1 rs2 k k' M0 N' := by
  obtain ⟨kn, h, _⟩ := t.a.kn
  exact ⟨m, t.b.off h t.ne o, t.ne, fun b u h1 h2 e => (o b h1).trans (t.kp b u h1 h2 e)⟩
theorem Tw.offb (t : Tw C p q cs rs1 rs2 k k' M0 N) {N' : DM} (o : Off k' N N') (m : MK C q cs rs2 k' N') : Tw C p q cs rs1 rs2 k k' M0 N' := by
  obtain ⟨kn, h, _⟩ := t.b.kn
  exact ⟨t.a.off h t.ne.symm o, m, t.ne, fun b u h1 h2 e => (o b h2).trans (t.kp b u h1 h2 e)⟩
theorem Tw.new (t : Tw C p q cs rs1 rs2 k k' M0 N) {x : Addr} {o : DO} (h : N x = none) : Tw C p q cs rs1 rs2 k k' M0 (updM N x o) :=
  ⟨t.a.new h, t.b.new h, t.ne, fun b u h1 h2 e => by rw [updM_ne (ne_free (t.kp b u h1 h2 e) h)]; exact t.kp b u h1 h2 e⟩
theorem Tw.put (t : Tw C p q cs rs1 rs2 k k' M0 N) {x : Addr} {o u : DO} (h0 : M0 x = none) (h : N x = some u) (hk : x ≠ k) (hk' : x ≠ k') (hu : (∀ C fs, u ≠ .ins C fs) ∧ ∀ d, u ≠ .dS d) : Tw C p q cs rs1 rs2 k k' M0 (updM N x o) :=
  ⟨t.a.put h hk hu, t.b.put h hk' hu, t.ne, fun b u h1 h2 e => by rw [updM_ne (ne_free e h0)]; exact t.kp b u h1 h2 e⟩
theorem Tw.offs {N' : DM} {x : Addr} {u : DO} (hk : x ≠ k) (hk' : x ≠ k') (h : N x = some u) {N1 : DM} (o : Off k N N1) (o' : Off k' N1 N') : N' x = some u := (o' x hk').trans ((o x hk).trans h)
structure NP (C p q : Addr) (cs : Cls) (rs1 rs2 : List Ru) (k k' s a : Addr) (M0 : DM) (seen : List PS) (later : SW PS) (N : DM) : Prop where
  t : Tw C p q cs rs1 rs2 k k' M0 N
  hs : N s = some (.dT (seenP seen))
  ha : N a = some (.lst (levP later))
  fs : M0 s = none
  fa : M0 a = none
  sk : s ≠ k
  sk' : s ≠ k'
  nd : seen.Nodup
  rc : ∀ x ∈ seen, RchP cs rs1 rs2 x
  le : later.length < seen.length
theorem Tw.lk (t : Tw C p q cs rs1 rs2 k k' M0 N) {x : Addr} {u : List D} (h : N x = some (.lst u)) : x ≠ k ∧ x ≠ k' := by
  obtain ⟨kn, h1, _⟩ := t.a.kn
  obtain ⟨kn', h2, _⟩ := t.b.kn
  exact ⟨ne_of h h1 (by intro z; cases z), ne_of h h2 (by intro z; cases z)⟩
variable {seen : List PS} {later lev : SW PS}
theorem NP.as (m : NP C p q cs rs1 rs2 k k' s a M0 seen later N) : a ≠ s := ne_of m.ha m.hs (by intro z; cases z)
theorem NP.offa (m : NP C p q cs rs1 rs2 k k' s a M0 seen later N) {N' : DM} (o : Off k N N') (mk : MK C p cs rs1 k N') : NP C p q cs rs1 rs2 k k' s a M0 seen later N' :=
  ⟨m.t.offa o mk, (o s m.sk).trans m.hs, (o a (m.t.lk m.ha).1).trans m.ha, m.fs, m.fa, m.sk, m.sk', m.nd, m.rc, m.le⟩
theorem NP.offb (m : NP C p q cs rs1 rs2 k k' s a M0 seen later N) {N' : DM} (o : Off k' N N') (mk : MK C q cs rs2 k' N') : NP C p q cs rs1 rs2 k k' s a M0 seen later N' :=
  ⟨m.t.offb o mk, (o s m.sk').trans m.hs, (o a (m.t.lk m.ha).2).trans m.ha, m.fs, m.fa, m.sk, m.sk', m.nd, m.rc, m.le⟩
theorem NP.add (m : NP C p q cs rs1 rs2 k k' s a M0 seen later N) {x : PS} {u : Tx} (h : x ∉ seen) (hr : RchP cs rs1 rs2 x) :
    NP C p q cs rs1 rs2 k k' s a M0 (seen ++ [x]) (later ++ [(x, u)]) (updM (updM N s (.dT (seenP (seen ++ [x])))) a (.lst (levP (later ++ [(x, u)])))) := by
  have m1 := m.t.put (o := .dT (seenP (seen ++ [x]))) m.fs m.hs m.sk m.sk' ⟨(by intro _ _ z; cases z), (by intro _ z; cases z)⟩
  have ha1 : (updM N s (.dT (seenP (seen ++ [x])))) a = some (.lst (levP later)) := by rw [updM_ne m.as]; exact m.ha
  have lk := m.t.lk m.ha
  refine ⟨m1.put m.fa ha1 lk.1 lk.2 ⟨(by intro _ _ z; cases z), (by intro _ z; cases z)⟩, by rw [updM_ne m.as.symm, updM_same], updM_same, m.fs, m.fa, m.sk, m.sk', ?_, ?_, ?_⟩
  · exact List.nodup_append.mpr ⟨m.nd, by simp, fun x hx y hy e => h (by simp at hy; rw [← hy, ← e]; exact hx)⟩
  · intro y hy
    rcases List.mem_append.mp hy with e | e
    · exact m.rc y e
    · simp at e; rw [e]; exact hr
  · have := m.le; simp; omega
def fbIn (C_Machine : Addr) (sp_Machine_step : DSp) : DS := (dSeq (dSet 12 (dTup (daCons (dMeth C_Machine (Str.ofString "step") sp_Machine_step (dVar 3) (daCons (dOp getD (dVar 9) (dC (.int 0))) (daCons (dVar 11) daNil))) (daCons (dMeth C_Machine (Str.ofString "step") sp_Machine_step (dVar 4) (daCons (dOp getD (dVar 9) (dC (.int 1))) (daCons (dVar 11) daNil))) daNil))))
    (dIfS (dAnd (dTest (dOp neD (dVar 12) (dTup (daCons (dC .non) (daCons (dC .non) daNil))))) (dTest (dOp ninD (dVar 12) (dVar 6)))) (dSeq (dAsg (dC (.bl true)) (dgSub (dVar 6) (dVar 12)))
    (dDrop (dBM "list" appM (dVar 8) (daCons (dTup (daCons (dVar 12) (daCons (dOp addD (dVar 10) (dVar 11)) daNil))) daNil)))) dNext))
theorem chP_cons (sgn : Tx) (c : Nat) (step : PS → Nat → Option PS) (x : PS × Tx) : chd (c :: sgn) step x = (match step x.1 c with | some s => [(s, x.2 ++ [c])] | none => []) ++ chd sgn step x := by
  unfold chd
  rw [List.filterMap_cons]
  cases step x.1 c <;> rfl
theorem fb_in (fw : FewP cs rs1 rs2) {E : DEnds} {x : PS} {u : Tx} {d0 d1 d2 d5 d7 : Option D} (hx : RchP cs rs1 rs2 x) (hu : u.length + 1 ≤ sizeLine) : ∀ (sgn : Tx) (seen : List PS) (later : SW PS) (y11 y12 : Option D) (N : DM), (∀ c ∈ sgn, c ∈ sgs cs) → NP C p q cs rs1 rs2 k k' s a M0 seen later N →
    (N l = some (.lst (levP lev))) → l ≠ a → l ≠ s →
    (∀ y11 y12 N', NP C p q cs rs1 rs2 k k' s a M0 (seen ++ (dd seen (chd sgn (stP cs rs1 rs2) (x, u))).map (·.1)) (later ++ dd seen (chd sgn (stP cs rs1 rs2) (x, u))) N' → N' l = some (.lst (levP lev)) →
      E.nx [d0, d1, d2, some (.ref p), some (.ref q), d5, some (.ref s), d7, some (.ref a), some (pkD x), some (.str (S u)), y11, y12] N') →
    forW (fun _ => True) (dgName 11) (fbIn C (sp_Machine_step C)) E (sgn.map fun c => .str (sg c)) [d0, d1, d2, some (.ref p), some (.ref q), d5, some (.ref s), d7, some (.ref a), some (pkD x), some (.str (S u)), y11, y12] N
  | [], seen, later, y11, y12, N, _, m, hl, _, _, h => by
    rw [List.map_nil, forW_nil]
    exact ⟨trivial, h y11 y12 N (by simpa [chd, dd] using m) hl⟩
  | c :: sgn, seen, later, y11, y12, N, hc, m, hl, la, ls, h => by
    rw [List.map_cons, forW_cons]
    refine ⟨trivial, ?_⟩
    have hcm := hc c List.mem_cons_self
    have hc' : ∀ c ∈ sgn, c ∈ sgs cs := fun x hx => hc x (List.mem_cons_of_mem _ hx)
    obtain ⟨n, f, nd, fd, h1, _⟩ := m.t.a.m.ex
    simp -implicitDefEqProofs [fbIn, getS, h1, lk_step, pkD, atI0, -List.lookup_eq_none_iff]
    refine ⟨p, cs, rs1, k, x.1, c, rfl, m.t.a, hx.a, hcm, fun N1 o1 mk1 => ?_⟩
    have m1 := m.offa o1 mk1
    have hl1 : N1 l = some (.lst (levP lev)) := (o1 l (m.t.lk hl).1).trans hl
    obtain ⟨n', f', nd', fd', h1', _⟩ := m1.t.b.m.ex
    simp -implicitDefEqProofs [getS, h1', lk_step, atI1, -List.lookup_eq_none_iff]
    refine ⟨q, cs, rs2, k', x.2, c, rfl, m1.t.b, hx.b, hcm, fun N2 o2 mk2 => ?_⟩
    have m2 := m1.offb o2 mk2
    have hl2 : N2 l = some (.lst (levP lev)) := (o2 l (m1.t.lk hl1).2).trans hl1
    rw [chP_cons] at h
    have hst : stP cs rs1 rs2 x c = nz (stp cs rs1 x.1 c, stp cs rs2 x.2 c) := rfl
    generalize hz : ((stp cs rs1 x.1 c, stp cs rs2 x.2 c) : PS) = z at hst
    have z1 : stp cs rs1 x.1 c = z.1 := by rw [← hz]
    have z2 : stp cs rs2 x.2 c = z.2 := by rw [← hz]
    rw [z1, z2]
    obtain ⟨ko, kd⟩ := keyP_ok z
    obtain ⟨a1, a2, a3⟩ := stD_plain z.1
    obtain ⟨b1, b2, b3⟩ := stD_plain z.2
    have hdz : (nk (stD z.1) = NestedKey.none ∧ nk (stD z.2) = NestedKey.none) ↔ z = (none, none) :=
      ⟨fun e => Prod.ext (stD_nk (b := none) e.1) (stD_nk (b := none) e.2), fun e => by rw [e]; exact ⟨rfl, rfl⟩⟩
    have hdp : (NestedKey.tup [nk (stD z.1), nk (stD z.2)]).depth ≤ 30 := by
      simp only [NestedKey.depth, NestedKey.depthAll]; omega
    have hnkz : nk (.tup [stD z.1, stD z.2]) = nkP z := rfl
    have hnk2 : nk (.tup [stD z.1, stD z.2]) = NestedKey.tup [nk (stD z.1), nk (stD z.2)] := by simp
    have hnk3 : nk (.tup [D.non, D.non]) = NestedKey.tup [.none, .none] := by simp
    simp -implicitDefEqProofs [getS, a1, b1, hnk2, hnk3, hdp, -nk_tup]
    by_cases hzn : z = (none, none)
    · rw [if_pos (hdz.mpr hzn)]
      have : stP cs rs1 rs2 x c = none := by rw [hst, hzn]; rfl
      rw [this] at h
      have := fb_in (d0 := d0) (d1 := d1) (d2 := d2) (d5 := d5) (d7 := d7) (E := E) fw hx hu sgn seen later (some (D.str (sg c))) (some (D.tup [stD z.1, stD z.2])) N2 hc' m2 hl2 la ls (fun y7 y8 N' m' hl' => h y7 y8 N' (by simpa using m') hl')
      exact this
    · rw [if_neg (fun e => hzn (hdz.mp e))]
      have e : stP cs rs1 rs2 x c = some z := by rw [hst, nz_some hzn]
      rw [e] at h
      have hr' : RchP cs rs1 rs2 z := hx.step hcm e
      simp -implicitDefEqProofs [ko, m2.hs, hnkz, -nk_tup]
      have hg := seenP_get seen z
      simp only [List.singleton_append, dd] at h
      by_cases hm : z ∈ seen
      · have hg' : (getA (seenP seen) (nkP z)).isSome = true := by rw [hg]; simpa using hm
        rw [if_pos hm] at h
        cases e2 : getA (seenP seen) (nkP z) with
        | none => rw [e2] at hg'; simp at hg'
        | some d =>
          simp -implicitDefEqProofs
          exact fb_in fw hx hu sgn seen later _ _ N2 hc' m2 hl2 la ls h
      · have hg' : getA (seenP seen) (nkP z) = none := by
          cases e2 : getA (seenP seen) (nkP z) with
          | none => rfl
          | some d => rw [e2] at hg; simp at hg; exact absurd hg hm
        rw [if_neg hm] at h
        rw [hg']
        have ma := m2.add (u := u ++ [c]) hm hr'
        have hroom := fw _ ma.nd ma.rc
        simp -implicitDefEqProofs [getS, dgSub, m2.hs, ko, kd, hnkz, -nk_tup]
        have hsl : (seenP seen).length < sizeLine := by simp [seenP] at hroom ⊢; omega
        have haN : (updM N2 s (.dT (seenP (seen ++ [z])))) a = some (.lst (levP later)) := by rw [updM_ne m2.as]; exact m2.ha
        have hkd : keyD (nkP z) = D.tup [stD z.1, stD z.2] := kd
        refine ⟨hkd, hsl, ?_⟩
        have hnkP : NestedKey.tup [nk (stD z.1), nk (stD z.2)] = nkP z := hnk2.symm
        rw [hnkP, seenP_put hm]
        simp -implicitDefEqProofs [getS, appM, arg1, tyK_lst haN, haN]
        refine ⟨hu, by have h1 := m2.le; simp [levP] at hroom ⊢; omega, ?_⟩
        have el : levP later ++ [D.tup [D.tup [stD z.1, stD z.2], D.str (S (u ++ [c]))]] = levP (later ++ [(z, u ++ [c])]) := by simp [levP, pkD]
        rw [el]
        refine fb_in fw hx hu sgn (seen ++ [z]) (later ++ [(z, u ++ [c])]) _ _ _ hc' ma ?_ la ls fun y7 y8 N' m' hl' => h y7 y8 N' (by simpa using m') hl'
        rw [updM_ne la, updM_ne ls]; exact hl2
def fbLv (C_Machine : Addr) (sp_Machine_fine sp_Machine_step : DSp) : DS := (dSeq (dIfS (dTest (dOp inD (dTup (daCons (dMeth C_Machine (Str.ofString "fine") sp_Machine_fine (dVar 3) (daCons (dOp getD (dVar 9) (dC (.int 0))) daNil)) (daCons (dMeth C_Machine (Str.ofString "fine") sp_Machine_fine (dVar 4) (daCons (dOp getD (dVar 9) (dC (.int 1))) daNil)) daNil))) (dVar 2))) (dRet (dVar 10)) dNext)
    (dFor (diAny (dFld C_Machine (Str.ofString "signs") (dVar 3))) (dgName 11) (fbIn C_Machine sp_Machine_step)))
def prB (p : Bool × Bool) : D := .tup [.bl p.1, .bl p.2]
theorem prB_plain : ∀ W : List (Bool × Bool), plains (W.map prB) = true
  | [] => rfl
  | p :: W => by simp [plains, prB, plain, prB_plain W]
theorem memD_prB (a b : Bool) (W : List (Bool × Bool)) : memD (.tup [.bl a, .bl b]) (W.map prB) = decide ((a, b) ∈ W) := by
  unfold memD
  rw [nks_map, List.map_map, List.any_map]
  have : ((fun k => decide (k = nk (.tup [.bl a, .bl b]))) ∘ nk ∘ prB) = fun p => decide (p = (a, b)) := by
    funext p
    obtain ⟨x, y⟩ := p
    simp [prB, nk, nks]
    cases x <;> cases y <;> cases a <;> cases b <;> simp
  rw [this]
  rw [Bool.eq_iff_iff]
  simp
theorem fb_lv (fw : FewP cs rs1 rs2) {E : DEnds} {d0 d1 d5 d7 : Option D} (hwd : M0 wd = some (.lst (W.map prB))) (wk : wd ≠ k) (wk' : wd ≠ k') (la : l ≠ a) (ls : l ≠ s) : ∀ (L : SW PS) (seen : List PS) (later : SW PS) (x5 x6 x7 x8 : Option D) (N : DM), (∀ x ∈ L, RchP cs rs1 rs2 x.1 ∧ x.2.length + 1 ≤ sizeLine) → NP C p q cs rs1 rs2 k k' s a M0 seen later N →
    N l = some (.lst (levP lev)) →
    (∀ x, L.find? (fun x => accP W rs1 rs2 x.1) = some x → ∀ N', Tw C p q cs rs1 rs2 k k' M0 N' → E.rt (.str (S x.2)) N') →
    (L.find? (fun x => accP W rs1 rs2 x.1) = none → ∀ x5 x6 x7 x8 N', NP C p q cs rs1 rs2 k k' s a M0 (seen ++ (dd seen (L.flatMap (chd (sgs cs) (stP cs rs1 rs2)))).map (·.1)) (later ++ dd seen (L.flatMap (chd (sgs cs) (stP cs rs1 rs2)))) N' → N' l = some (.lst (levP lev)) →
      E.nx [d0, d1, some (.ref wd), some (.ref p), some (.ref q), d5, some (.ref s), d7, some (.ref a), x5, x6, x7, x8] N') →
    forW (fun N => N l = some (.lst (levP lev))) (dgTup 2 (dgCons (dgName 9) (dgCons (dgName 10) dgNil))) (fbLv C (sp_Machine_fine C) (sp_Machine_step C)) E (levP L) [d0, d1, some (.ref wd), some (.ref p), some (.ref q), d5, some (.ref s), d7, some (.ref a), x5, x6, x7, x8] N
  | [], seen, later, x5, x6, x7, x8, N, _, m, hl, _, h => by
    show forW _ _ _ E [] _ _
    rw [forW_nil]
    exact ⟨hl, h rfl x5 x6 x7 x8 N (by simpa [dd] using m) hl⟩
  | x :: L, seen, later, x5, x6, x7, x8, N, hx, m, hl, h1, h => by
    show forW _ _ _ E (_ :: levP L) _ _
    rw [forW_cons]
    refine ⟨hl, ?_⟩
    obtain ⟨hr, hu⟩ := hx x List.mem_cons_self
    obtain ⟨n, f, nd, fd, a1, _⟩ := m.t.a.m.ex
    obtain ⟨n', f', nd', fd', b1, _⟩ := m.t.b.m.ex
    have hN : N wd = some (.lst (W.map prB)) := m.t.kp wd _ wk wk' hwd
    simp -implicitDefEqProofs [fbLv, getS, a1, lk_fine, pkD, atI0, atI1, -List.lookup_eq_none_iff]
    refine ⟨p, cs, rs1, k, x.1.1, rfl, m.t.a, hr.a, ?_⟩
    simp -implicitDefEqProofs [getS, b1, lk_fine, pkD, atI0, atI1, -List.lookup_eq_none_iff]
    refine ⟨q, cs, rs2, k', x.1.2, rfl, m.t.b, hr.b, ?_⟩
    have hpl := prB_plain W
    simp -implicitDefEqProofs [getS, hN, hpl, plain, plains, -nk_tup]
    refine ⟨by simp [nk, nks, NestedKey.depth, NestedKey.depthAll], ?_⟩
    rw [memD_prB]
    have hacc : decide ((fineB rs1 x.1.1, fineB rs2 x.1.2) ∈ W) = accP W rs1 rs2 x.1 := rfl
    rw [hacc]
    rw [List.find?_cons] at h1 h
    cases e : accP W rs1 rs2 x.1 with
    | true =>
      rw [e] at h1
      simp -implicitDefEqProofs
      exact h1 x rfl N m.t
    | false =>
      rw [e] at h1 h
      simp -implicitDefEqProofs [a1, lk_signs, chars_S, -List.lookup_eq_none_iff]
      refine fb_in fw hr hu (sgs cs) seen later x7 x8 N (fun c hc => hc) m hl la ls fun y7 y8 N' m' hl' => ?_
      refine fb_lv fw hwd wk wk' la ls L _ _ _ _ y7 y8 N' (fun y hy => hx y (List.mem_cons_of_mem _ hy)) m' hl' h1 fun e2 z5 z6 z7 z8 N2 m2 hl2 => h e2 z5 z6 z7 z8 N2 ?_ hl2
      rw [List.flatMap_cons, dd_app]
      simpa using m2
def fbWh (C : Addr) (f st : DSp) : DS := (dSeq (dSet 8 (dLst daNil))
    (dSeq (dFor (diAny (dVar 7)) (dgTup 2 (dgCons (dgName 9) (dgCons (dgName 10) dgNil))) (fbLv C f st))
    (dSet 7 (dVar 8))))
theorem Bfs.memP {s0 : PS} {n : Nat} {x : PS × Tx} {acc : PS → Bool} (b : Bfs (sgs cs) (stP cs rs1 rs2) acc s0 n seen lev) (h : x ∈ lev) : x ∈ RL (sgs cs) (stP cs rs1 rs2) s0 n := by
  obtain ⟨old, h1, _⟩ := b.ex
  rw [h1] at h
  exact dd_sub _ _ _ h
theorem RLP_of {s0 : PS} {n : Nat} {x : PS × Tx} (h0 : RchP cs rs1 rs2 s0) (h : x ∈ RL (sgs cs) (stP cs rs1 rs2) s0 n) : RchP cs rs1 rs2 x.1 ∧ x.2.length = n := by
  obtain ⟨u, hu, e⟩ := List.mem_filterMap.mp h
  obtain ⟨h1, h2⟩ := Wd_len.mp hu
  have e3 := rnS_stP (cs := cs) (rs1 := rs1) (rs2 := rs2) u s0
  rw [nz_some h0.1] at e3
  rw [e3] at e
  by_cases hz : ((u.foldl (stp cs rs1) s0.1, u.foldl (stp cs rs2) s0.2) : PS) = (none, none)
  · rw [hz] at e; simp [nz] at e
  · rw [nz_some hz] at e
    simp at e
    subst e
    obtain ⟨_, t, a, b, c⟩ := h0
    refine ⟨⟨hz, t ++ u, fun d hd => ?_, ?_, ?_⟩, h1⟩
    · rcases List.mem_append.mp hd with z | z
      · exact a d z
      · exact h2 d z
    · unfold runS at b ⊢; rw [List.foldl_append, b]
    · unfold runS at c ⊢; rw [List.foldl_append, c]
theorem fb_wh (fw : FewP cs rs1 rs2) {s0 : PS} (h0 : RchP cs rs1 rs2 s0) {E : DEnds} {d0 d1 d5 : Option D} (hwd : M0 wd = some (.lst (W.map prB))) (wk : wd ≠ k) (wk' : wd ≠ k') (sk : s ≠ k) (sk' : s ≠ k') (fs : M0 s = none) (fk : M0 k = none) (fk' : M0 k' = none)
    (hrt : ∀ x N', FirstS (sgs cs) (accW (stP cs rs1 rs2) (accP W rs1 rs2) s0) (some x) → x.length + 1 ≤ sizeLine → Tw C p q cs rs1 rs2 k k' M0 N' → E.rt (.str (S x)) N')
    (hnx : FirstS (sgs cs) (accW (stP cs rs1 rs2) (accP W rs1 rs2) s0) none → ∀ x3 x4 x5 x6 x7 x8 N', Tw C p q cs rs1 rs2 k k' M0 N' → E.nx [d0, d1, some (.ref wd), some (.ref p), some (.ref q), d5, some (.ref s), x3, x4, x5, x6, x7, x8] N') :
    ∀ (d n : Nat) (seen : List PS) (lev : SW PS), 2 * (sizeLine + 1 - seen.length) + (if lev = [] then 0 else 1) ≤ d → seen.length ≤ sizeLine → Bfs (sgs cs) (stP cs rs1 rs2) (accP W rs1 rs2) s0 n seen lev → (lev ≠ [] → n < seen.length) →
      ∃ m, ∀ (l : Addr) (x4 x5 x6 x7 x8 : Option D) (N : DM), Tw C p q cs rs1 rs2 k k' M0 N → N s = some (.dT (seenP seen)) → N l = some (.lst (levP lev)) → M0 l = none →
        whW (dTest (dOp neD (dVar 7) (dLst daNil))) (fbWh C (sp_Machine_fine C) (sp_Machine_step C)) E m [d0, d1, some (.ref wd), some (.ref p), some (.ref q), d5, some (.ref s), some (.ref l), x4, x5, x6, x7, x8] N := by
  intro d
  induction d with
  | zero =>
    intro n seen lev hd hcap b hn
    exfalso
    omega
  | succ d ih =>
    intro n seen lev hd hcap b hn
    have rc : ∀ x ∈ seen, RchP cs rs1 rs2 x := fun x hx => by
      obtain ⟨m, y, hy, rfl⟩ := b.rc x hx
      exact (RLP_of h0 hy).1
    obtain ⟨pl1, pl2⟩ := levP_plain lev
    have cond : ∀ (l : Addr) (x4 x5 x6 x7 x8 : Option D) (N : DM) (Q : Bool → DM → Prop), N l = some (.lst (levP lev)) → (∀ b, N b = none → Q (!decide (lev = [])) (updM N b (.lst []))) → dTest (dOp neD (dVar 7) (dLst daNil)) [d0, d1, some (.ref wd), some (.ref p), some (.ref q), d5, some (.ref s), some (.ref l), x4, x5, x6, x7, x8] N Q := by
      intro l x4 x5 x6 x7 x8 N Q hl hQ
      simp -implicitDefEqProofs [getS]
      intro b hb
      rw [updM_ne (ne_free hl hb), hl]
      simp -implicitDefEqProofs [pl1]
      have e : decide (nks (levP lev) = []) = decide (lev = []) := by cases lev <;> simp [levP, nks]
      refine ⟨by omega, ?_⟩
      first | (rw [e]; exact hQ b hb) | skip
    by_cases hlev : lev = []
    · subst hlev
      refine ⟨1, fun l x4 x5 x6 x7 x8 N t hs hl fl => ?_⟩
      rw [whW_s]
      refine cond _ _ _ _ _ _ _ _ hl fun b0 hb0 => ?_
      simp -implicitDefEqProofs
      exact hnx b.empty _ _ _ _ _ _ _ (t.new hb0)
    · have hn := hn hlev
      have hb : (!decide (lev = [])) = true := by simp [hlev]
      have hrcl : ∀ x ∈ lev, RchP cs rs1 rs2 x.1 ∧ x.2.length + 1 ≤ sizeLine := fun x hx => by
        obtain ⟨h1, h2⟩ := RLP_of h0 (b.memP hx)
        exact ⟨h1, by omega⟩
      have go : ∀ (l : Addr) (x4 x5 x6 x7 x8 : Option D) (N : DM) (F : DEnds), Tw C p q cs rs1 rs2 k k' M0 N → N s = some (.dT (seenP seen)) → N l = some (.lst (levP lev)) → M0 l = none →
          (∀ x, lev.find? (fun x => accP W rs1 rs2 x.1) = some x → ∀ N', Tw C p q cs rs1 rs2 k k' M0 N' → F.rt (.str (S x.2)) N') →
          (lev.find? (fun x => accP W rs1 rs2 x.1) = none → ∀ a x4 x5 x6 x7 x8 N', M0 a = none → NP C p q cs rs1 rs2 k k' s a M0 (seen ++ (dd seen (lev.flatMap (chd (sgs cs) (stP cs rs1 rs2)))).map (·.1)) (dd seen (lev.flatMap (chd (sgs cs) (stP cs rs1 rs2)))) N' →
            F.nx [d0, d1, some (.ref wd), some (.ref p), some (.ref q), d5, some (.ref s), some (.ref a), x4, x5, x6, x7, x8] N') →
          fbWh C (sp_Machine_fine C) (sp_Machine_step C) F [d0, d1, some (.ref wd), some (.ref p), some (.ref q), d5, some (.ref s), some (.ref l), x4, x5, x6, x7, x8] N := by
        intro l x4 x5 x6 x7 x8 N F t hs hl fl h1 h2
        have ls : l ≠ s := ne_of hl hs (by intro z; cases z)
        simp -implicitDefEqProofs [fbWh, getS]
        intro a ha
        have la : l ≠ a := ne_free hl ha
        have sa : s ≠ a := ne_free hs ha
        have fa : M0 a = none := by
          cases e : M0 a with
          | none => rfl
          | some o =>
            by_cases hk : a = k
            · rw [hk, fk] at e; cases e
            · by_cases hk' : a = k'
              · rw [hk', fk'] at e; cases e
              · rw [t.kp a o hk hk' e] at ha; cases ha
        have hl2 : (updM N a (.lst [])) l = some (.lst (levP lev)) := by rw [updM_ne la]; exact hl
        rw [itK_lst hl2]
        refine fb_lv fw hwd wk wk' la ls lev seen [] _ _ _ _ _ hrcl ⟨t.new ha, by rw [updM_ne sa]; exact hs, updM_same, fs, fa, sk, sk', b.nd, rc, by simp; omega⟩ hl2 h1 fun e y5 y6 y7 y8 N' m' hl' => ?_
        simp -implicitDefEqProofs [getS]
        exact h2 e a _ _ _ _ _ N' fa (by simpa using m')
      cases hf : lev.find? (fun x => accP W rs1 rs2 x.1) with
      | some x =>
        refine ⟨1, fun l x4 x5 x6 x7 x8 N t hs hl fl => ?_⟩
        rw [whW_s]
        refine cond _ _ _ _ _ _ _ _ hl fun b0 hb0 => ?_
        rw [hb, if_pos rfl]
        refine go l _ _ _ _ _ _ _ (t.new hb0) (by rw [updM_ne (ne_free hs hb0)]; exact hs) (by rw [updM_ne (ne_free hl hb0)]; exact hl) fl (fun y hy N' m' => ?_) (fun e => by rw [hf] at e; cases e)
        exact hrt _ N' (b.found hy) (hrcl y (List.mem_of_find?_eq_some hy)).2 m'
      | none =>
        have bn := b.next fun x hx => by
          have := List.find?_eq_none.mp hf x hx
          simpa using this
        have hlen : (seen ++ (dd seen (lev.flatMap (chd (sgs cs) (stP cs rs1 rs2)))).map (·.1)).length = seen.length + (dd seen (lev.flatMap (chd (sgs cs) (stP cs rs1 rs2)))).length := by simp
        have hcap' : (seen ++ (dd seen (lev.flatMap (chd (sgs cs) (stP cs rs1 rs2)))).map (·.1)).length ≤ sizeLine := fw _ bn.nd fun x hx => by
          obtain ⟨m, y, hy, rfl⟩ := bn.rc x hx
          exact (RLP_of h0 hy).1
        obtain ⟨m, hm⟩ := ih (n + 1) _ _ (by
            rw [if_neg hlev] at hd
            rw [hlen] at hcap' ⊢
            by_cases e : dd seen (lev.flatMap (chd (sgs cs) (stP cs rs1 rs2))) = []
            · rw [if_pos e, e]; simp; omega
            · rw [if_neg e]
              have := List.length_pos_iff.mpr e
              omega) hcap' bn (fun e => by
            have := List.length_pos_iff.mpr e
            rw [hlen]; omega)
        refine ⟨m + 1, fun l x4 x5 x6 x7 x8 N t hs hl fl => ?_⟩
        rw [whW_s]
        refine cond _ _ _ _ _ _ _ _ hl fun b0 hb0 => ?_
        rw [hb, if_pos rfl]
        refine go l _ _ _ _ _ _ _ (t.new hb0) (by rw [updM_ne (ne_free hs hb0)]; exact hs) (by rw [updM_ne (ne_free hl hb0)]; exact hl) fl (fun y hy => by rw [hf] at hy; cases hy) (fun _ a y4 y5 y6 y7 y8 N' fa m' => ?_)
        exact hm a _ _ _ _ _ N' m'.t m'.hs m'.ha fa
end
end DL

set_option Elab.async false
set_option linter.all false
set_option maxRecDepth 100000
namespace DL
open PySem PySem.Spec PyProof.Rows L2
theorem MK.le {C p k : Addr} {cs : Cls} {rs : List Ru} {M N : DM} (m : MK C p cs rs k M) (l : Le M N) : MK C p cs rs k N := by
  obtain ⟨kn, h, ok⟩ := m.kn
  exact ⟨m.m.le l, ⟨kn, l _ _ h, ok⟩, m.c, m.r, m.len, m.few⟩
/-- two policies of the same classes, and what both say of a text -/
structure TwoOk (cs : Cls) (rs1 rs2 : List Ru) : Prop where
  c : ClsOk cs
  r1 : ∀ r ∈ rs1, RuOk cs r
  r2 : ∀ r ∈ rs2, RuOk cs r
  l1 : rs1.length ≤ 1000
  l2 : rs2.length ≤ 1000
  f1 : Few cs rs1
  f2 : Few cs rs2
  f : FewP cs rs1 rs2
def both (cs : Cls) (rs1 rs2 : List Ru) (W : List (Bool × Bool)) (u : Tx) : Bool := decide ((allowL cs rs1 u, allowL cs rs2 u) ∈ W)
def sp_found_by (C : Addr) : DSp := fun ds M R => ∃ cs rs1 rs2 wd W, ds = [pD cs rs1, pD cs rs2, .ref wd] ∧ M wd = some (.lst (W.map prB)) ∧ (false, false) ∉ W ∧ TwoOk cs rs1 rs2 ∧ ∀ o, FirstT (sgs cs) (both cs rs1 rs2 W) o → R (otD o) M
theorem accW_both {cs : Cls} {rs1 rs2 : List Ru} {W : List (Bool × Bool)} (ok : TwoOk cs rs1 rs2) (hW : (false, false) ∉ W) (u : Tx) (hu : ∀ c ∈ u, c ∈ sgs cs) : accW (stP cs rs1 rs2) (accP W rs1 rs2) (some (rs1.map start1), some (rs2.map start1)) u = both cs rs1 rs2 W u := by
  have e : rnS (stP cs rs1 rs2) (some (some (rs1.map start1), some (rs2.map start1))) u = nz (runS cs rs1 u, runS cs rs2 u) := by
    have e := rnS_stP (cs := cs) (rs1 := rs1) (rs2 := rs2) u (some (rs1.map start1), some (rs2.map start1))
    rw [nz_some (by simp)] at e
    exact e
  have e1 := fine_allow ok.c ok.r1 hu
  have e2 := fine_allow ok.c ok.r2 hu
  unfold accW both
  rw [← e1, ← e2, e]
  cases h1 : runS cs rs1 u with
  | none =>
    cases h2 : runS cs rs2 u with
    | none => simp [nz, fineB, hW]
    | some os => rfl
  | some os => cases h2 : runS cs rs2 u <;> rfl
theorem l_found_by (C : Addr) : ∀ ds M R, sp_found_by C ds M R → R_found_by C (sp_Machine___init__ C) (sp_Machine_fine C) (sp_Machine_step C) (topE R) (startD 13 ds) M := by
  rintro _ M R ⟨cs, rs1, rs2, wd, W, rfl, hwd, hW, ok, q⟩
  simp -implicitDefEqProofs [R_found_by, startD, topE, getS, -List.lookup_eq_none_iff]
  intro x hx
  refine mk_to hx ok.c ok.r1 ok.l1 ok.f1 fun M1 k le1 mk1 hk => ?_
  intro y hy
  refine mk_to hy ok.c ok.r2 ok.l2 ok.f2 fun M2 k' le2 mk2 hk' => ?_
  have mk1' := mk1.le le2
  obtain ⟨n, f, nd, fd, a1, _⟩ := mk1'.m.ex
  obtain ⟨n', f', nd', fd', b1, _⟩ := mk2.m.ex
  have kk : k ≠ k' := by
    obtain ⟨kn, h, _⟩ := mk1.kn
    exact ne_free h hk'
  have e0 : ∀ rs : List Ru, D.tup (rs.map fun r => oD (start1 r)) = stD (some (rs.map start1)) := fun rs => by simp [stD, Function.comp_def]
  obtain ⟨ko, kd⟩ := keyP_ok (some (rs1.map start1), some (rs2.map start1))
  dsimp only at ko kd
  simp -implicitDefEqProofs only [dVar_eq, dVarK_some, getS_z, getS_s, List.set_cons_zero, List.set_cons_succ, dSeq_eq, dSet_eq, dTup_eq, daCons_eq, daNil_eq, dFld_eq, refK_ref, a1, b1, insK_ins, lk_start, optK_some, true_and, e0]
  refine ⟨ko, kd, ?_⟩
  intro s hs l hl
  have ls : l ≠ s := (free_of hl).1
  have t0 : Tw C x y cs rs1 rs2 k k' M M2 := ⟨mk1', mk2, kk, fun b o _ _ e => le2 b o (le1 b o e)⟩
  have fs : M s = none := by
    cases e : M s with
    | none => rfl
    | some o => rw [le2 _ _ (le1 _ _ e)] at hs; cases hs
  have fl : M l = none := by
    cases e : M l with
    | none => rfl
    | some o =>
      have := (free_of hl).2
      rw [le2 _ _ (le1 _ _ e)] at this; cases this
  have fk' : M k' = none := by
    cases e : M k' with
    | none => rfl
    | some o => rw [le1 _ _ e] at hk'; cases hk'
  have sk : s ≠ k := by
    obtain ⟨kn, h, _⟩ := mk1'.kn
    exact (ne_free h hs).symm
  have sk' : s ≠ k' := by
    obtain ⟨kn, h, _⟩ := mk2.kn
    exact (ne_free h hs).symm
  have wk : wd ≠ k := ne_free hwd hk
  have wk' : wd ≠ k' := ne_free hwd fk'
  have h0 : RchP cs rs1 rs2 (some (rs1.map start1), some (rs2.map start1)) := ⟨by simp, [], by simp, rfl, rfl⟩
  have t1 := (t0.new hs (o := .dT (seenP [(some (rs1.map start1), some (rs2.map start1))]))).new hl (o := .lst (levP [((some (rs1.map start1), some (rs2.map start1)), [])]))
  have fin : ∀ (o : Option Tx) (N' : DM), FirstT (sgs cs) (accW (stP cs rs1 rs2) (accP W rs1 rs2) (some (rs1.map start1), some (rs2.map start1))) o → Tw C x y cs rs1 rs2 k k' M N' → Dn R (otD o) N' := fun o N' f t =>
    ⟨M, fun a u e => t.kp a u (ne_free e hk) (ne_free e fk') e, q o (f.congr fun u hu => accW_both ok hW u hu)⟩
  obtain ⟨m, hm⟩ := fb_wh (C := C) (p := x) (q := y) (k := k) (k' := k') (s := s) (wd := wd) (M0 := M) (W := W) ok.f h0 (E := { nx := fun ds M1 => dRet (dC .non) (topE R) ds M1, rt := fun d M => Dn R d M, bk := fun _ _ => False, ct := fun _ _ => False })
    (d0 := some (pD cs rs1)) (d1 := some (pD cs rs2)) (d5 := some (.tup [stD (some (rs1.map start1)), stD (some (rs2.map start1))])) hwd wk wk' sk sk' fs hk fk'
    (fun z N' f hz t => fin (some z) N' ⟨f, fun t e => by cases e; rw [sizeLine_eq] at hz; omega⟩ t) (fun f _ _ _ _ _ _ N' t => fin none N' ⟨f, fun _ e => by cases e⟩ t) _ 0 [(some (rs1.map start1), some (rs2.map start1))] [((some (rs1.map start1), some (rs2.map start1)), [])] (Nat.le_refl _) (by rw [sizeLine_eq]; simp) (Bfs.start _ _ _ _) (by simp)
  refine ⟨m, ?_⟩
  rw [S_nil] at *
  have := hm l none none none none none _ t1 (by rw [updM_ne ls.symm, updM_same]) (by rw [updM_same]) fl
  exact this
def sp_parting_of (C : Addr) : DSp := fun ds M R => ∃ cs rs1 rs2, ds = [pD cs rs1, pD cs rs2] ∧ TwoOk cs rs1 rs2 ∧ ∀ o, FirstT (sgs cs) (fun u => allowL cs rs1 u != allowL cs rs2 u) o → R (otD o) M
theorem both_ne (cs : Cls) (rs1 rs2 : List Ru) (u : Tx) : both cs rs1 rs2 [(true, false), (false, true)] u = (allowL cs rs1 u != allowL cs rs2 u) := by
  unfold both
  cases allowL cs rs1 u <;> cases allowL cs rs2 u <;> decide
theorem both_tt (cs : Cls) (rs1 rs2 : List Ru) (u : Tx) : both cs rs1 rs2 [(true, true)] u = (allowL cs rs1 u && allowL cs rs2 u) := by
  unfold both
  cases allowL cs rs1 u <;> cases allowL cs rs2 u <;> decide
theorem l_parting_of (C : Addr) : ∀ ds M R, sp_parting_of C ds M R → R_parting_of (sp_found_by C) (topE R) (startD 2 ds) M := by
  rintro _ M R ⟨cs, rs1, rs2, rfl, ok, q⟩
  simp -implicitDefEqProofs [R_parting_of, startD, topE, getS]
  intro a ha
  exact ⟨cs, rs1, rs2, a, [(true, false), (false, true)], rfl, updM_same, by decide, ok, fun o f => .of (Le.new ha) (q o (f.congr fun u _ => both_ne cs rs1 rs2 u))⟩
def sp_need_pair : DSp := fun ds M R => ∃ cs rs1 rs2, ds = [pD cs rs1, pD cs rs2] ∧ PolOk cs rs1 ∧ PolOk cs rs2 ∧ R .non M
theorem pairs_plain : ∀ cs : Cls, plains (cs.map pairD) = true ∧ NestedKey.depthAll (nks (cs.map pairD)) ≤ 5
  | [] => ⟨rfl, by simp [nks, NestedKey.depthAll]⟩
  | p :: cs => by
    obtain ⟨a, b⟩ := pairs_plain cs
    exact ⟨by simp [plains, pairD, plain, a], by simp only [List.map_cons, pairD, nks, nk, NestedKey.depthAll, NestedKey.depth]; omega⟩
theorem l_need_pair : ∀ ds M R, sp_need_pair ds M R → R_need_pair sp_need_policy (topE R) (startD 2 ds) M := by
  rintro _ M R ⟨cs, rs1, rs2, rfl, ok1, ok2, q⟩
  obtain ⟨a, b⟩ := pairs_plain cs
  simp -implicitDefEqProofs [R_need_pair, startD, topE, getS]
  refine ⟨cs, rs1, rfl, ok1, cs, rs2, rfl, ok2, ?_⟩
  simp -implicitDefEqProofs [pD, atI0, cD, a, NestedKey.depth]
  exact ⟨by omega, Dn.mk q⟩
def sp_parting (C : Addr) : DSp := fun ds M R => ∃ cs rs1 rs2, ds = [pD cs rs1, pD cs rs2] ∧ PolOk cs rs1 ∧ PolOk cs rs2 ∧ TwoOk cs rs1 rs2 ∧ ∀ o, FirstT (sgs cs) (fun u => allowL cs rs1 u != allowL cs rs2 u) o → R (otD o) M
theorem l_parting (C : Addr) : ∀ ds M R, sp_parting C ds M R → R_parting sp_need_pair (sp_parting_of C) (topE R) (startD 2 ds) M := by
  rintro _ M R ⟨cs, rs1, rs2, rfl, ok1, ok2, ok, q⟩
  simp -implicitDefEqProofs [R_parting, startD, topE, getS]
  exact ⟨cs, rs1, rs2, rfl, ok1, ok2, cs, rs1, rs2, rfl, ok, fun o f => Dn.mk (q o f)⟩
def sp_common (C : Addr) : DSp := fun ds M R => ∃ cs rs1 rs2, ds = [pD cs rs1, pD cs rs2] ∧ PolOk cs rs1 ∧ PolOk cs rs2 ∧ TwoOk cs rs1 rs2 ∧ ∀ o, FirstT (sgs cs) (fun u => allowL cs rs1 u && allowL cs rs2 u) o → R (otD o) M
theorem l_common (C : Addr) : ∀ ds M R, sp_common C ds M R → R_common sp_need_pair (sp_found_by C) (topE R) (startD 2 ds) M := by
  rintro _ M R ⟨cs, rs1, rs2, rfl, ok1, ok2, ok, q⟩
  simp -implicitDefEqProofs [R_common, startD, topE, getS]
  refine ⟨cs, rs1, rs2, rfl, ok1, ok2, fun a ha => ?_⟩
  exact ⟨cs, rs1, rs2, a, [(true, true)], rfl, updM_same, by decide, ok, fun o f => .of (Le.new ha) (q o (f.congr fun u _ => both_tt cs rs1 rs2 u))⟩
/-! ### few pairs -/
theorem split_len {α : Type} (p : α → Bool) (l : List α) : l.length = (l.filter p).length + (l.filter fun x => !p x).length := by
  induction l with
  | nil => rfl
  | cons x l ih =>
    rw [List.filter_cons, List.filter_cons]
    cases p x <;> simp [ih] <;> omega
theorem RsD.pair {cs : Cls} {rs1 rs2 : List Ru} (d1 : RsD cs rs1) (d2 : RsD cs rs2) : FewP cs rs1 rs2 := fun l nd h => by
  have key : ∀ (a b : Bool) (l : List PS), l.Nodup → (∀ x ∈ l, RchP cs rs1 rs2 x ∧ x.1.isSome = a ∧ x.2.isSome = b) → l.length ≤ 528125 := fun a b l nd h =>
    few_by d1.s (fun x t => (∀ c ∈ t, c ∈ sgs cs) ∧ runS cs rs1 t = x.1 ∧ runS cs rs2 t = x.2 ∧ x.1.isSome = a ∧ x.2.isSome = b) (fun _ _ p => p.1) (fun x y t u p q e => by
      obtain ⟨p0, p1, p2, p3, p4⟩ := p
      obtain ⟨q0, q1, q2, q3, q4⟩ := q
      refine Prod.ext ?_ ?_
      · cases hx : x.1 with
        | none => cases hy : y.1 with
          | none => rfl
          | some _ => rw [hx] at p3; rw [hy] at q3; rw [← q3] at p3; simp at p3
        | some os => cases hy : y.1 with
          | none => rw [hx] at p3; rw [hy] at q3; rw [← q3] at p3; simp at p3
          | some os' => rw [d1.one p0 q0 e (p1.trans hx) (q1.trans hy)]
      · cases hx : x.2 with
        | none => cases hy : y.2 with
          | none => rfl
          | some _ => rw [hx] at p4; rw [hy] at q4; rw [← q4] at p4; simp at p4
        | some os => cases hy : y.2 with
          | none => rw [hx] at p4; rw [hy] at q4; rw [← q4] at p4; simp at p4
          | some os' => rw [d2.one p0 q0 e (p2.trans hx) (q2.trans hy)]) l nd fun x hx => by
        obtain ⟨⟨_, t, a1, a2, a3⟩, b1, b2⟩ := h x hx
        exact ⟨t, a1, a2, a3, b1, b2⟩
  have s1 := split_len (fun x : PS => x.1.isSome) l
  have s2 := split_len (fun x : PS => x.2.isSome) (l.filter fun x => x.1.isSome)
  have s3 := split_len (fun x : PS => x.2.isSome) (l.filter fun x => !x.1.isSome)
  have n1 := fun p => List.Pairwise.filter (R := (· ≠ ·)) (l := l) p nd
  have hf : ∀ (p q : PS → Bool) (a b : Bool), (∀ x, p x = true → x.1.isSome = a) → (∀ x, q x = true → x.2.isSome = b) → ((l.filter p).filter q).length ≤ 528125 := fun p q a b hp hq =>
    key a b _ (List.Pairwise.filter q (n1 p)) fun x hx => by
      obtain ⟨x1, x2⟩ := List.mem_filter.mp hx
      obtain ⟨x3, x4⟩ := List.mem_filter.mp x1
      exact ⟨h x x3, hp x x4, hq x x2⟩
  have h1 := hf (fun x => x.1.isSome) (fun x => x.2.isSome) true true (fun _ e => e) fun _ e => e
  have h2 := hf (fun x => x.1.isSome) (fun x => !x.2.isSome) true false (fun _ e => e) fun _ e => by simpa using e
  have h3 := hf (fun x => !x.1.isSome) (fun x => x.2.isSome) false true (fun _ e => by simpa using e) fun _ e => e
  have h4 := hf (fun x => !x.1.isSome) (fun x => !x.2.isSome) false false (fun _ e => by simpa using e) fun _ e => by simpa using e
  rw [sizeLine_eq]
  omega
theorem RsD.two {cs : Cls} {rs1 rs2 : List Ru} (d1 : RsD cs rs1) (d2 : RsD cs rs2) (l1 : rs1.length ≤ 1000) (l2 : rs2.length ≤ 1000) : TwoOk cs rs1 rs2 := ⟨d1.c, d1.r, d2.r, l1, l2, d1.few, d2.few, d1.pair d2⟩
end DL

set_option Elab.async false
set_option linter.all false
set_option maxRecDepth 100000
namespace DL
open PySem PySem.Spec PyProof.Rows L2
open Classical in
/-- no string is allowed -/
def Un (cs : Cls) (rs : List Ru) : Prop := ∀ u, (∀ c ∈ u, c ∈ sgs cs) → allowL cs rs u = false
theorem un_iff {cs : Cls} {rs : List Ru} {o : Option Tx} (f : FirstS (sgs cs) (allowL cs rs) o) : o = none ↔ Un cs rs := by
  constructor
  · rintro rfl u hu
    exact f u.length u (Wd_len.mpr ⟨rfl, hu⟩)
  · exact fun h => f.none_of h
def pick (rs : List Ru) (l : List Nat) : List Ru := l.filterMap (rs[·]?)
noncomputable def unB (cs : Cls) (rs : List Ru) : Bool := @decide (Un cs rs) (Classical.propDecidable _)
theorem unB_iff {cs : Cls} {rs : List Ru} : unB cs rs = true ↔ Un cs rs := by unfold unB; exact @decide_eq_true_iff _ (Classical.propDecidable _)
def allL (many : Nat) : List (List Nat) := (List.range many).flatMap fun s => chL many s 0
noncomputable def coreL (cs : Cls) (rs : List Ru) : List Nat := ((allL rs.length).find? fun l => unB cs (pick rs l)).getD (List.range rs.length)
theorem pick_sub {rs : List Ru} : ∀ {l : List Nat}, l.Pairwise (· < ·) → (pick rs l).Sublist rs := by
  intro l
  have key : ∀ (rs : List Ru) (l : List Nat) (k : Nat), l.Pairwise (· < ·) → (∀ x ∈ l, k ≤ x) → (l.filterMap fun x => rs[x - k]?).Sublist rs := by
    intro rs
    induction rs with
    | nil => intro l k _ _; simp
    | cons r rs ih =>
      intro l k hp hk
      cases l with
      | nil => simp
      | cons x l =>
        obtain ⟨h1, h2⟩ := List.pairwise_cons.mp hp
        have hx := hk x List.mem_cons_self
        by_cases e : x = k
        · subst e
          have := ih l (x + 1) h2 fun y hy => h1 y hy
          have e2 : (l.filterMap fun y => (r :: rs)[y - x]?) = l.filterMap fun y => rs[y - (x + 1)]? := by
            refine HT.fm_congr _ fun y hy => ?_
            have := h1 y hy
            rw [show y - x = (y - (x + 1)) + 1 by omega]; rfl
          rw [List.filterMap_cons, Nat.sub_self]
          show (r :: l.filterMap _).Sublist _
          rw [e2]
          exact this.cons₂ r
        · have := ih (x :: l) (k + 1) hp fun y hy => by
            rcases List.mem_cons.mp hy with rfl | hy
            · omega
            · have := h1 y hy; omega
          have e2 : ((x :: l).filterMap fun y => (r :: rs)[y - k]?) = (x :: l).filterMap fun y => rs[y - (k + 1)]? := by
            refine HT.fm_congr _ fun y hy => ?_
            have : k < y := by
              rcases List.mem_cons.mp hy with rfl | hy
              · omega
              · have := h1 y hy; omega
            rw [show y - k = (y - (k + 1)) + 1 by omega]; rfl
          rw [e2]
          exact this.cons r
  intro hp
  simpa [pick] using key rs l 0 hp fun _ _ => Nat.zero_le _
/-! ### core -/
def sp_core (C : Addr) : DSp := fun ds M R => ∃ cs rs, ds = [pD cs rs] ∧ PolOk cs rs ∧ RsD cs rs ∧ (¬ Un cs rs → R .non M) ∧ (Un cs rs → ∀ p, M p = none → R (.ref p) (updM M p (.lst (nsD (coreL cs rs)))))
def coBody (fo : DSp) : DS := (dIfS (dTest (dOp isD (dCall fo (daCons (dTup (daCons (dOp getD (dVar 0) (dC (.int 0))) (daCons (dCB tupB (daCons (dLc (diAny (dVar 3)) (dgName 4) dYes (dOp getD (dOp getD (dVar 0) (dC (.int 1))) (dVar 4)) [4]) daNil)) daNil))) daNil)) (dC .non))) (dRet (dVar 3)) dNext)
def coOut (fo ch : DSp) : DS := (dFor (diAny (dCall ch (daCons (dVar 1) (daCons (dVar 2) (daCons (dC (.int 0)) daNil))))) (dgName 3) (coBody fo))
theorem pick_map {rs : List Ru} {l : List Nat} : (l.filterMap fun n => (rs[n]?).map rD) = (pick rs l).map rD := by
  unfold pick
  rw [List.map_filterMap]
theorem co_in {C : Addr} {cs : Cls} {rs : List Ru} {M : DM} {E : DEnds} {p : Addr} {src : List D} {d2 : Option D} (P : PolOk cs rs) (Q : RsD cs rs) : ∀ (ps : List PL) (x3 x4 : Option D) (N : DM), Le M N → N p = some (.lst src) → NsL M N ps → (∀ x ∈ ps, x.2.length ≤ 6 ∧ x.2.Pairwise (· < ·) ∧ ∀ n ∈ x.2, n < rs.length) →
    (∀ (x : PL) N', Le M N' → M x.1 = none → N' x.1 = some (.lst (nsD x.2)) → (ps.map (·.2)).find? (fun l => unB cs (pick rs l)) = some x.2 → E.rt (.ref x.1) N') →
    (∀ y3 y4 N', Le M N' → (ps.map (·.2)).find? (fun l => unB cs (pick rs l)) = none → E.nx [some (pD cs rs), some (.int (rs.length : Nat)), d2, y3, y4] N') →
    forW (fun N => N p = some (.lst src)) (dgName 3) (coBody (sp_first_of C)) E (rfs ps) [some (pD cs rs), some (.int (rs.length : Nat)), d2, x3, x4] N
  | [], x3, x4, N, l, hp, _, _, _, q => by
    show forW _ _ _ E [] _ _
    rw [forW_nil]
    exact ⟨hp, q x3 x4 N l rfl⟩
  | x :: ps, x3, x4, N, l, hp, hn, h6, h, q => by
    show forW _ _ _ E (.ref x.1 :: rfs ps) _ _
    rw [forW_cons]
    refine ⟨hp, ?_⟩
    obtain ⟨b1, b2⟩ := hn x List.mem_cons_self
    obtain ⟨c1, c2, c3⟩ := h6 x List.mem_cons_self
    simp -implicitDefEqProofs [coBody, getS, pD, atI0, atI1]
    show itK (.ref x.1) N _
    rw [itK_lst b2]
    refine ⟨by rw [show (nsD x.2).length = x.2.length from List.length_map .., sizeLine_eq]; omega, ?_⟩
    refine lcW_on nD (fun n => (rs[n]?).map rD) b2 x.2 [] (fun n hn A B a => ?_) ?_
    · have hlt := c3 n hn
      rw [List.getElem?_eq_getElem hlt] at a
      simp -implicitDefEqProofs [getS, nD, atI1]
      rw [atI_nat (j := n) (v := rD rs[n]) (by rw [List.getElem?_map, List.getElem?_eq_getElem hlt]; rfl)]
      exact a
    · rw [List.nil_append, pick_map]
      intro r hr
      have hs := pick_sub (rs := rs) c2
      have P' := P.sub hs
      have Q' := Q.sub fun y hy => hs.subset hy
      have h6' := P'.few
      refine ⟨cs, pick rs x.2, rfl, P'.c, P'.r, by omega, Q'.few, fun o f => ?_⟩
      have hu := un_iff f.1
      simp -implicitDefEqProofs only [isD_ot, blK_bl]
      have b2' : updM N r (.lst ((pick rs x.2).map rD)) x.1 = some (.lst (nsD x.2)) := by rw [updM_ne (ne_free b2 hr)]; exact b2
      have le' := l.trans (Le.new (o := .lst ((pick rs x.2).map rD)) hr)
      cases o with
      | none =>
        have e : unB cs (pick rs x.2) = true := unB_iff.mpr (hu.mp rfl)
        simp -implicitDefEqProofs [getS]
        exact h x _ le' b1 b2' (by rw [List.map_cons, List.find?_cons, e])
      | some t =>
        have e : unB cs (pick rs x.2) = false := by
          cases z : unB cs (pick rs x.2) with
          | false => rfl
          | true => have := hu.mpr (unB_iff.mp z); cases this
        simp -implicitDefEqProofs
        refine co_in P Q ps _ _ _ le' (by rw [updM_ne (ne_free hp hr)]; exact hp) (fun y hy => (hn.new hr) y (List.mem_cons_of_mem _ hy)) (fun y hy => h6 y (List.mem_cons_of_mem _ hy)) (fun y N' a1 a2 a3 a4 => h y N' a1 a2 a3 (by rw [List.map_cons, List.find?_cons, e]; exact a4)) fun y3 y4 N' a1 a4 => q y3 y4 N' a1 (by rw [List.map_cons, List.find?_cons, e]; exact a4)
theorem co_out {C : Addr} {cs : Cls} {rs : List Ru} {M : DM} {E : DEnds} (P : PolOk cs rs) (Q : RsD cs rs) : ∀ (k lo : Nat) (x2 x3 x4 : Option D) (N : DM), lo + k = rs.length → Le M N →
    (∀ (x : PL) N', Le M N' → M x.1 = none → N' x.1 = some (.lst (nsD x.2)) → ((List.range' lo k).flatMap fun s => chL rs.length s 0).find? (fun l => unB cs (pick rs l)) = some x.2 → E.rt (.ref x.1) N') →
    (∀ y2 y3 y4 N', Le M N' → ((List.range' lo k).flatMap fun s => chL rs.length s 0).find? (fun l => unB cs (pick rs l)) = none → E.nx [some (pD cs rs), some (.int (rs.length : Nat)), y2, y3, y4] N') →
    forW (fun _ => True) (dgName 2) (coOut (sp_first_of C) (sp_choices 6)) E (intsD (lo : Nat) k) [some (pD cs rs), some (.int (rs.length : Nat)), x2, x3, x4] N
  | 0, lo, x2, x3, x4, N, _, l, _, q => by
    simp only [intsD]
    rw [forW_nil]
    exact ⟨trivial, q x2 x3 x4 N l rfl⟩
  | k + 1, lo, x2, x3, x4, N, hk, l, h, q => by
    simp only [intsD]
    rw [forW_cons]
    refine ⟨trivial, ?_⟩
    have h6 := P.few
    simp -implicitDefEqProofs [coOut, getS]
    refine ⟨rs.length, lo, 0, by simp, by omega, h6, by omega, by omega, fun p ps N1 le1 hp hN1 hn1 e1 => ?_⟩
    show itK (.ref p) N1 _
    rw [itK_lst hN1]
    refine co_in P Q ps _ _ N1 (l.trans le1) hN1 (fun x hx => ⟨free_le l (hn1 x hx).1, (hn1 x hx).2⟩) (fun x hx => ?_) (fun x N' a1 a2 a3 a4 => ?_) fun y3 y4 N' a1 a4 => ?_
    · have : x.2 ∈ chL rs.length lo 0 := by rw [← e1]; exact List.mem_map.mpr ⟨x, hx, rfl⟩
      obtain ⟨a1, a2, a3⟩ := chL_mem.mp this
      exact ⟨by omega, a2, fun n hn => (a3 n hn).2⟩
    · refine h x N' a1 a2 a3 ?_
      rw [List.range'_succ, List.flatMap_cons, List.find?_append, ← e1, a4]
      rfl
    · rw [e1] at a4
      refine co_out P Q k (lo + 1) _ _ _ N' (by omega) a1 (fun x N2 c1 c2 c3 c4 => h x N2 c1 c2 c3 ?_) fun y2' y3' y4' N2 c1 c4 => q _ _ _ N2 c1 ?_
      · rw [List.range'_succ, List.flatMap_cons, List.find?_append, a4]; exact c4
      · rw [List.range'_succ, List.flatMap_cons, List.find?_append, a4]; exact c4
theorem l_core (C : Addr) : ∀ ds M R, sp_core C ds M R → R_core sp_need_policy (sp_first_of C) (sp_choices 6) (topE R) (startD 5 ds) M := by
  rintro _ M R ⟨cs, rs, rfl, P, Q, h1, h2⟩
  have h6 := P.few
  simp -implicitDefEqProofs [R_core, startD, topE, getS]
  refine ⟨cs, rs, rfl, P, cs, rs, rfl, P.c, P.r, by omega, Q.few, fun o f => ?_⟩
  have hu := un_iff f.1
  simp -implicitDefEqProofs only [isnD_ot, blK_bl]
  cases o with
  | some t =>
    exact Dn.mk (h1 fun z => by have := hu.mpr z; cases this)
  | none =>
    have h2 := h2 (hu.mp rfl)
    simp -implicitDefEqProofs [getS, pD, atI1]
    refine ⟨by omega, ?_⟩
    have e0 : allL rs.length = (List.range' 0 rs.length).flatMap fun s => chL rs.length s 0 := by rw [allL, List.range_eq_range']
    have := co_out (C := C) (M := M) (E := { nx := fun ds M => dRet (dLstRg (dVar 1)) (topE R) ds M, rt := fun d M => Dn R d M, bk := fun _ _ => False, ct := fun _ _ => False }) P Q rs.length 0 none none none M (by omega) (Le.refl M) (fun x N' a1 a2 a3 a4 => ?_) fun y2 y3 y4 N' a1 a4 => ?_
    · exact this
    · rw [← e0] at a4
      refine ⟨_, ?_, h2 x.1 a2⟩
      have ec : coreL cs rs = x.2 := by unfold coreL; rw [a4]; rfl
      rw [ec]
      intro a u e
      by_cases ha : a = x.1
      · subst ha; rw [updM_same] at e; cases e; exact a3
      · rw [updM_ne ha] at e; exact a1 a u e
    · rw [← e0] at a4
      simp -implicitDefEqProofs [getS, topE]
      refine ⟨by omega, fun p hp => ?_⟩
      have ec : coreL cs rs = List.range rs.length := by unfold coreL; rw [a4]; rfl
      refine ⟨_, ?_, h2 p (free_le a1 hp)⟩
      rw [ec]
      have er : List.map D.int (rgI rs.length) = nsD (List.range rs.length) := by unfold rgI nsD; rw [List.map_map]; rfl
      rw [er]
      exact a1.mono
/-! ### without, idle -/
def sp_without : DSp := fun ds M R => ∃ cs rs, ∃ k : Nat, ds = [pD cs rs, .int (k : Nat)] ∧ rs.length ≤ 1000 ∧ k < rs.length ∧ R (pD cs (rs.eraseIdx k)) M
theorem l_without : ∀ ds M R, sp_without ds M R → R_without (topE R) (startD 2 ds) M := by
  rintro _ M R ⟨cs, rs, k, rfl, h1, hk, q⟩
  simp -implicitDefEqProofs [R_without, startD, topE, getS, pD, atI0, atI1]
  have e1 : ((k : Int) + 1) = ((k + 1 : Nat) : Int) := by omega
  rw [cutD_take, e1, cutD_drop, ← List.map_take, ← List.map_drop, ← List.map_append, ← List.eraseIdx_eq_take_drop_succ]
  have hl : ((rs.take k).map rD).length + ((rs.drop (k + 1)).map rD).length ≤ sizeLine := by simp; rw [sizeLine_eq]; omega
  exact ⟨hl, Dn.mk q⟩
theorem intsD_range : ∀ (k lo : Nat), intsD (lo : Nat) k = (List.range' lo k).map nD
  | 0, _ => rfl
  | k + 1, lo => by
    have := intsD_range k (lo + 1)
    rw [List.range'_succ, List.map_cons, ← this]
    rfl
noncomputable def idleL (cs : Cls) (rs : List Ru) : List Nat := (List.range rs.length).filter fun k => @decide (∀ u, (∀ c ∈ u, c ∈ sgs cs) → allowL cs rs u = allowL cs (rs.eraseIdx k) u) (Classical.propDecidable _)
def sp_idle (C : Addr) : DSp := fun ds M R => ∃ cs rs, ds = [pD cs rs] ∧ PolOk cs rs ∧ RsD cs rs ∧ ∀ p, M p = none → R (.ref p) (updM M p (.lst (nsD (idleL cs rs))))
theorem l_idle (C : Addr) : ∀ ds M R, sp_idle C ds M R → R_idle sp_need_policy (sp_parting_of C) sp_without (topE R) (startD 2 ds) M := by
  rintro _ M R ⟨cs, rs, rfl, P, Q, q⟩
  have h6 := P.few
  have hsz : (intsD 0 rs.length).length ≤ sizeLine := by rw [intsD_len, sizeLine_eq]; omega
  simp -implicitDefEqProofs [R_idle, startD, topE, getS, pD, atI1]
  refine ⟨cs, rs, rfl, P, by omega, hsz, ?_⟩
  have er := intsD_range rs.length 0
  rw [show ((0 : Nat) : Int) = 0 from rfl, ← List.range_eq_range'] at er
  rw [er]
  refine lcW_on nD (fun k => if @decide (∀ u, (∀ c ∈ u, c ∈ sgs cs) → allowL cs rs u = allowL cs (rs.eraseIdx k) u) (Classical.propDecidable _) = true then some (nD k) else none) trivial (List.range rs.length) [] (fun k hk A B a => ?_) ?_
  · have hlt := List.mem_range.mp hk
    simp -implicitDefEqProofs [getS, nD]
    refine ⟨cs, rs, k, rfl, by omega, hlt, ?_⟩
    have Q' : RsD cs (rs.eraseIdx k) := Q.sub fun y hy => List.eraseIdx_subset hy
    have hl2 := List.length_eraseIdx_le (l := rs) (i := k)
    refine ⟨cs, rs, rs.eraseIdx k, rfl, Q.two Q' (by omega) (by omega), fun o f => ?_⟩
    have key : o = none ↔ ∀ u, (∀ c ∈ u, c ∈ sgs cs) → allowL cs rs u = allowL cs (rs.eraseIdx k) u := by
      constructor
      · rintro rfl u hu
        have := f.1 u.length u (Wd_len.mpr ⟨rfl, hu⟩)
        simpa using this
      · exact fun h => f.1.none_of fun u hu => by rw [h u hu]; simp
    simp -implicitDefEqProofs only [isD_ot, blK_bl]
    cases o with
    | none =>
      rw [if_pos (@decide_eq_true _ (Classical.propDecidable _) (key.mp rfl))] at a
      exact a
    | some t =>
      rw [if_neg (fun z => by have := key.mpr (@of_decide_eq_true _ (Classical.propDecidable _) z); cases this)] at a
      exact a
  · rw [List.nil_append]
    intro p hp
    have ei : ((List.range rs.length).filterMap fun k => if @decide (∀ u, (∀ c ∈ u, c ∈ sgs cs) → allowL cs rs u = allowL cs (rs.eraseIdx k) u) (Classical.propDecidable _) = true then some (nD k) else none) = nsD (idleL cs rs) := by
      unfold nsD idleL
      generalize List.range rs.length = l
      induction l with
      | nil => rfl
      | cons k l ih =>
        rw [List.filterMap_cons, List.filter_cons, ih]
        split <;> rename_i h
        · split at h
          · cases h
          · rename_i h2; rw [if_neg h2]
        · split at h
          · rename_i h2; cases h; rw [if_pos h2]; rfl
          · cases h
    rw [ei]
    exact Dn.mk (q p hp)
end DL

set_option Elab.async false
set_option linter.all false
set_option maxRecDepth 100000
namespace DL
open PySem PySem.Spec PyProof.Rows L2
theorem atI_last {α : Type} {l : List α} (h : l ≠ []) : atI l (-1) = some (l.getLast h) := by
  have hp := List.length_pos_iff.mpr h
  unfold atI ixN
  rw [if_neg (by omega), if_pos (by omega)]
  show l[(-1 + (l.length : Int)).toNat]? = _
  have e : (-1 + (l.length : Int)).toNat = l.length - 1 := by omega
  rw [e, List.getLast_eq_getElem, List.getElem?_eq_getElem (by omega)]
def bentP (n o : Tx) (m : Nat) : List (List Ru) := [[.most n 0, .first n], [.size 0 (some 1), .least n 2], [.last o, .size 0 (some 0)], [.kinds m, .most o 0], [.run 1, .row 1, .size 12 none, .most n 1]]
def rsT (rs : List Ru) : D := .tup (rs.map rD)
/-- what a rule must keep for the summaries -/
def RuG (cs : Cls) (r : Ru) : Prop := RuOk cs r ∧ ∀ w, r = .nt w → w.length ≤ 3
theorem bentP_ok {cs : Cls} (ok : ClsOk cs) {n o : Tx} (hn : n ∈ nms cs) (ho : o ∈ nms cs) : ∀ rs ∈ bentP n o cs.length, rs.length ≤ 4 ∧ rs.Nodup ∧ ∀ r ∈ rs, RuG cs r := by
  have h1 := ok.lo
  have h2 := ok.hi
  intro rs h
  simp only [bentP, List.mem_cons, List.not_mem_nil, or_false] at h
  rcases h with rfl | rfl | rfl | rfl | rfl
  all_goals (refine ⟨by simp, by simp, fun r hr => ?_⟩)
  all_goals (simp only [List.mem_cons, List.not_mem_nil, or_false] at hr)
  all_goals (first | (rcases hr with rfl | rfl | rfl | rfl) | (rcases hr with rfl | rfl))
  all_goals (refine ⟨?_, fun w e => by cases e⟩)
  all_goals (simp only [RuOk, inC])
  all_goals (first | exact ⟨hn, by omega, by omega⟩ | exact ⟨ho, by omega, by omega⟩ | exact hn | exact ho | omega | exact ⟨by omega, fun h e => by cases e; omega⟩ | exact ⟨by omega, fun h e => by cases e⟩)
theorem getD_p0 {p : Tx × Tx} {M : DM} {Q : D → DM → Prop} : getD (pairD p) (.int 0) M Q = Q (.str (S p.1)) M := by simp [pairD, atI0]
def sp__law_bent : DSp := fun ds M R => ∃ (t : Addr) (ns : List Int) (cs : Cls), ds = [.fl (intL ns), .ref t, cD cs] ∧ Tn t ns M ∧ ClsOk cs ∧ ∀ rs, PolOk cs rs → (∀ r ∈ rs, RuG cs r) → ∀ M', Tu t M M' → R (pD cs rs) M'
def beBody (dr : DSp) : DS := (dIfS (dTest (dOp ninD (dVar 7) (dVar 6))) (dDrop (dBM "list" insM (dVar 6) (daCons (dCall dr (daCons (dVar 0) (daCons (dVar 1) (daCons (dOp addD (dCB lenB (daCons (dVar 6) daNil)) (dC (.int 1))) daNil)))) (daCons (dVar 7) daNil)))) dNext)
theorem be_loop {t b : Addr} {ns : List Int} {cs : Cls} {M : DM} {E : DEnds} {d2 d3 d4 d5 : Option D} (T : Tn t ns M) (hb : M b = none) (hbt : b ≠ t) : ∀ (more rs : List Ru) (x7 : Option D) (N : DM), Gw t M N → N b = some (.lst (rs.map rD)) → rs.length + more.length ≤ 6 → (∀ r ∈ rs, RuG cs r) → (∀ r ∈ more, RuG cs r) → rs.Nodup →
    (∀ (rs' : List Ru) y7 N', Gw t M N' → N' b = some (.lst (rs'.map rD)) → rs'.length ≤ 6 → (∀ r ∈ rs', RuG cs r) → rs'.Nodup → E.nx [some (.fl (intL ns)), some (.ref t), d2, d3, d4, d5, some (.ref b), y7] N') →
    forW (fun _ => True) (dgName 7) (beBody sp__law_draw') E (more.map rD) [some (.fl (intL ns)), some (.ref t), d2, d3, d4, d5, some (.ref b), x7] N
  | [], rs, x7, N, g, hN, hl, hr, hm, nd, q => by
    rw [List.map_nil, forW_nil]
    exact ⟨trivial, q rs x7 N g hN (by simpa using hl) hr nd⟩
  | r :: more, rs, x7, N, g, hN, hl, hr, hm, nd, q => by
    rw [List.map_cons, forW_cons]
    refine ⟨trivial, ?_⟩
    simp at hl
    simp -implicitDefEqProofs [beBody, getS, hN, rD_plain, plains_rs]
    refine ⟨by have := rD_depth r; omega, ?_⟩
    have hm' := fun y hy => hm y (List.mem_cons_of_mem _ hy)
    by_cases hin : r ∈ rs
    · rw [(mem_rs r rs).mpr hin]
      simp -implicitDefEqProofs
      exact be_loop T hb hbt more rs _ N g hN (by omega) hr hm' nd q
    · have e : memD (rD r) (rs.map rD) = false := by
        cases h : memD (rD r) (rs.map rD) with
        | false => rfl
        | true => exact absurd ((mem_rs r rs).mp h) hin
      rw [e]
      simp -implicitDefEqProofs [getS, tyK_lst hN, lenK_lst hN]
      refine ⟨t, ns, _, rfl, g.tn T, by omega, by omega, fun v N1 v0 v1 u => ?_⟩
      have g1 := g.tu u
      have hN1 : N1 b = some (.lst (rs.map rD)) := by
        obtain ⟨p, l, _, rfl⟩ := u
        rw [updM_ne hbt]; exact hN
      simp -implicitDefEqProofs [insM, arg2, hN1]
      refine ⟨by rw [sizeLine_eq]; omega, v0, by omega, ?_⟩
      have pm : (rs.take v.toNat ++ [r] ++ rs.drop v.toNat).Perm (r :: rs) := by
        rw [List.append_assoc]
        have := List.perm_middle (a := r) (l₁ := rs.take v.toNat) (l₂ := rs.drop v.toNat)
        rw [List.take_append_drop] at this
        exact this
      have := be_loop T hb hbt more (rs.take v.toNat ++ [r] ++ rs.drop v.toNat) (some (rD r)) (updM N1 b (.lst ((rs.take v.toNat ++ [r] ++ rs.drop v.toNat).map rD))) (g1.put hb hbt) updM_same (by rw [pm.length_eq]; simp; omega) (fun y hy => by
        rcases List.mem_cons.mp (pm.mem_iff.mp hy) with rfl | h
        · exact hm y List.mem_cons_self
        · exact hr y h) hm' (pm.nodup_iff.mpr (List.nodup_cons.mpr ⟨hin, nd⟩)) q
      simpa [beBody, List.map_take, List.map_drop] using this
theorem l_bent : ∀ ds M R, sp__law_bent ds M R → R__law_bent sp__law_pick sp__law_policy sp__law_draw' (topE R) (startD 8 ds) M := by
  rintro _ M R ⟨t, ns, cs, rfl, T, ok, q⟩
  have hne : cs ≠ [] := fun e => by have := ok.lo; rw [e] at this; simp at this
  obtain ⟨c0, h0, m0⟩ : ∃ c0, atI (cs.map pairD) 0 = some (pairD c0) ∧ c0 ∈ cs := by
    cases cs with
    | nil => exact absurd rfl hne
    | cons a b => exact ⟨a, atI0 _ _, List.mem_cons_self⟩
  obtain ⟨c1, hL, m1⟩ : ∃ c1, atI (cs.map pairD) (-1) = some (pairD c1) ∧ c1 ∈ cs := by
    refine ⟨cs.getLast hne, ?_, List.getLast_mem hne⟩
    rw [atI_last (by simpa using hne), List.getLast_map]
  have hn0 : c0.1 ∈ nms cs := List.mem_map.mpr ⟨c0, m0, rfl⟩
  have hn1 : c1.1 ∈ nms cs := List.mem_map.mpr ⟨c1, m1, rfl⟩
  simp -implicitDefEqProofs [R__law_bent, startD, topE, getS, cD, h0, hL, getD_p0]
  intro p hp
  rw [tyK_lst updM_same]
  refine ⟨rfl, fun p1 hp1 => ?_⟩
  have a1 : p ≠ p1 := (free_of hp1).1.symm
  rw [updM_ne a1, updM_same]
  simp -implicitDefEqProofs
  rw [tyK_lst updM_same]
  refine ⟨rfl, fun p2 hp2 => ?_⟩
  have a2 : p ≠ p2 := (free_of hp2).1.symm
  rw [updM_ne a2, updM_same]
  simp -implicitDefEqProofs
  rw [tyK_lst updM_same]
  refine ⟨rfl, fun p3 hp3 => ?_⟩
  have a3 : p ≠ p3 := (free_of hp3).1.symm
  rw [updM_ne a3, updM_same]
  simp -implicitDefEqProofs
  have hpt : p ≠ t := new_ne T (Gw.refl T) hp
  have ok4 := bentP_ok ok hn0 hn1
  refine pick_to T (((((((Gw.refl T).new hp).new hp1).put hp hpt).new hp2).put hp hpt).new hp3 |>.put hp hpt) (items := (bentP c0.1 c1.1 cs.length).map rsT) ⟨hpt, by rw [updM_same]; rfl⟩ (by simp [bentP]) (by simp [bentP]) fun x hx N g => ?_
  obtain ⟨rs0, hr0, rfl⟩ := List.mem_map.mp hx
  obtain ⟨o1, o2, o3⟩ := ok4 rs0 hr0
  simp -implicitDefEqProofs [rsT]
  intro b hb
  have fb : M b = none := by
    cases e : M b with
    | none => rfl
    | some o =>
      have hbt : b ≠ t := fun z => by
        obtain ⟨n', v, w', h1, h2⟩ := g.tn T
        rw [z, h1] at hb; cases hb
      rw [g.keep e hbt] at hb; cases hb
  have hbt : b ≠ t := fun z => by
    obtain ⟨n', v, w', h1, h2⟩ := g.tn T
    rw [z, h1] at hb; cases hb
  have g1 := g.new (o := .lst (rs0.map rD)) hb
  refine ⟨t, ns, cs, 2, rfl, g1.tn T, ok, by decide, by decide, fun rs1 pd N1 u => ?_⟩
  have hN1 : N1 b = some (.lst (rs0.map rD)) := by
    obtain ⟨p, l, _, rfl⟩ := u
    rw [updM_ne hbt]; exact updM_same
  simp -implicitDefEqProofs [pD, atI1]
  have := be_loop (E := { nx := fun ds M => dRet (dTup (daCons (dVar 2) (daCons (dCB tupB (daCons (dVar 6) daNil)) daNil))) (topE R) ds M, rt := fun d M => Dn R d M, bk := fun _ _ => False, ct := fun _ _ => False }) (d2 := some (cD cs)) (d3 := some (.str (S c0.1))) (d4 := some (.str (S c1.1))) (d5 := some (.ref p)) T fb hbt rs1 rs0 none N1 (g1.tu u) hN1 (by have := pd.le; simp at this; omega) o3 (fun r hr => ⟨pd.p.r r hr, fun w e => by have := pd.sm r hr; rw [e] at this; exact this⟩) o2 fun rs' y7 N' g' hN' hl' hr' nd' => ?_
  · exact this
  · simp -implicitDefEqProofs [getS, topE, hN']
    exact g'.dn (q rs' ⟨ok, hl', fun r hr => (hr' r hr).1, nd'⟩ hr')
end DL

set_option Elab.async false
set_option linter.all false
set_option maxRecDepth 100000
namespace DL
open PySem PySem.Spec PyProof.Rows L2
theorem allL_mem {n : Nat} {l : List Nat} : l ∈ allL n ↔ l.length < n ∧ l.Pairwise (· < ·) ∧ ∀ x ∈ l, x < n := by
  unfold allL
  rw [List.mem_flatMap]
  constructor
  · rintro ⟨s, hs, h⟩
    obtain ⟨a, b, c⟩ := chL_mem.mp h
    have := List.mem_range.mp hs
    exact ⟨by omega, b, fun x hx => (c x hx).2⟩
  · rintro ⟨a, b, c⟩
    exact ⟨l.length, List.mem_range.mpr a, chL_mem.mpr ⟨rfl, b, fun x hx => ⟨Nat.zero_le _, c x hx⟩⟩⟩
theorem allL_len (n : Nat) : (allL n).Pairwise fun a b => a.length ≤ b.length := by
  unfold allL
  rw [List.pairwise_flatMap]
  refine ⟨fun s _ => ?_, ?_⟩
  · have key : ∀ l : List (List Nat), (∀ a ∈ l, a.length = s) → l.Pairwise fun a b => a.length ≤ b.length := by
      intro l
      induction l with
      | nil => intro _; exact List.Pairwise.nil
      | cons a l ih =>
        intro h
        exact List.pairwise_cons.mpr ⟨fun b hb => by rw [h a List.mem_cons_self, h b (List.mem_cons_of_mem _ hb)]; exact Nat.le_refl _, ih fun b hb => h b (List.mem_cons_of_mem _ hb)⟩
    exact key _ fun a ha => (chL_mem.mp ha).1
  · refine List.pairwise_lt_range.imp fun {a b} hab x hx y hy => ?_
    rw [(chL_mem.mp hx).1, (chL_mem.mp hy).1]; omega
structure Core (cs : Cls) (rs : List Ru) (c : List Nat) : Prop where
  asc : c.Pairwise (· < ·)
  lt : ∀ x ∈ c, x < rs.length
  un : Un cs (pick rs c)
  mn : ∀ l : List Nat, l.Pairwise (· < ·) → (∀ x ∈ l, x < rs.length) → l.length < c.length → ¬ Un cs (pick rs l)
theorem asc_len : ∀ {n : Nat} {l : List Nat}, l.Pairwise (· < ·) → (∀ x ∈ l, x < n) → l.length ≤ n := by
  intro n l h1 h2
  have nd : l.Nodup := h1.imp fun {a b} h => Nat.ne_of_lt h
  have := nd_len nd (m := List.range n) fun x hx => List.mem_range.mpr (h2 x hx)
  simpa using this
theorem pick_range (rs : List Ru) : pick rs (List.range rs.length) = rs := by have := PySem.W.krv_all rs.toArray; simpa [pick] using this
theorem core_ok {cs : Cls} {rs : List Ru} (h : Un cs rs) : Core cs rs (coreL cs rs) := by
  unfold coreL
  cases e : (allL rs.length).find? fun l => unB cs (pick rs l) with
  | none =>
    have e' := List.find?_eq_none.mp e
    refine ⟨List.pairwise_lt_range, fun x hx => List.mem_range.mp hx, ?_, fun l h1 h2 h3 z => ?_⟩
    · show Un cs (pick rs (List.range rs.length))
      rw [pick_range]; exact h
    · have h3 : l.length < (List.range rs.length).length := h3
      rw [List.length_range] at h3
      exact e' l (allL_mem.mpr ⟨h3, h1, h2⟩) (unB_iff.mpr z)
  | some c =>
    obtain ⟨h1, as, bs, h2, h3⟩ := List.find?_eq_some_iff_append.mp e
    have hm : c ∈ allL rs.length := List.mem_of_find?_eq_some e
    obtain ⟨m1, m2, m3⟩ := allL_mem.mp hm
    refine ⟨m2, m3, unB_iff.mp h1, fun l l1 l2 l3 z => ?_⟩
    have l3 : l.length < c.length := l3
    have hl : l ∈ allL rs.length := allL_mem.mpr ⟨by omega, l1, l2⟩
    have pw := allL_len rs.length
    rw [h2] at hl pw
    obtain ⟨_, p2, _⟩ := List.pairwise_append.mp pw
    obtain ⟨p3, _⟩ := List.pairwise_cons.mp p2
    rcases List.mem_append.mp hl with q | q
    · have := h3 l q
      rw [unB_iff.mpr z] at this; simp at this
    · rcases List.mem_cons.mp q with q | q
      · rw [q] at l3; omega
      · have := p3 l q; omega
theorem un_rev {cs : Cls} {rs : List Ru} : Un cs rs.reverse ↔ Un cs rs := by
  unfold Un
  simp only [allow_rev]
theorem un_perm {cs : Cls} {rs rs' : List Ru} (h : ∀ r, r ∈ rs ↔ r ∈ rs') : Un cs rs ↔ Un cs rs' := by
  have e : ∀ u, allowL cs rs u = allowL cs rs' u := fun u => by
    unfold allowL
    rw [Bool.eq_iff_iff, List.all_eq_true, List.all_eq_true]
    exact ⟨fun z r hr => z r ((h r).mpr hr), fun z r hr => z r ((h r).mp hr)⟩
  unfold Un
  simp only [e]
theorem un_sub {cs : Cls} {rs rs' : List Ru} (h : ∀ r ∈ rs, r ∈ rs') (u : Un cs rs) : Un cs rs' := fun t ht => by
  have := u t ht
  cases e : allowL cs rs' t with
  | false => rfl
  | true =>
    unfold allowL at this e
    rw [List.all_eq_true] at e
    have : rs.all _ = true := List.all_eq_true.mpr fun r hr => e r (h r hr)
    simp_all
theorem mem_pick {rs : List Ru} {l : List Nat} {r : Ru} : r ∈ pick rs l ↔ ∃ i ∈ l, rs[i]? = some r := by
  unfold pick
  rw [List.mem_filterMap]
theorem core_rev_le {cs : Cls} {rs : List Ru} (h : Un cs rs) : (coreL cs rs.reverse).length ≤ (coreL cs rs).length := by
  have c := core_ok h
  have c' := core_ok (un_rev.mpr h)
  apply Nat.le_of_not_lt
  intro hlt
  refine c'.mn ((coreL cs rs).reverse.map fun x => rs.length - 1 - x) ?_ ?_ (by simpa using hlt) ?_
  · rw [List.pairwise_map, List.pairwise_reverse]
    have := c.asc
    refine (List.Pairwise.imp_of_mem ?_ this)
    intro a b ha hb hab
    have := c.lt b hb
    omega
  · intro x hx
    obtain ⟨y, hy, rfl⟩ := List.mem_map.mp hx
    have := c.lt y (List.mem_reverse.mp hy)
    rw [List.length_reverse]; omega
  · refine (un_perm fun r => ?_).mp c.un
    rw [mem_pick, mem_pick]
    constructor
    · rintro ⟨i, hi, e⟩
      have := c.lt i hi
      exact ⟨_, List.mem_map.mpr ⟨i, List.mem_reverse.mpr hi, rfl⟩, by rw [List.getElem?_reverse (by omega)]; rw [show rs.length - 1 - (rs.length - 1 - i) = i by omega]; exact e⟩
    · rintro ⟨j, hj, e⟩
      obtain ⟨i, hi, rfl⟩ := List.mem_map.mp hj
      have hi := List.mem_reverse.mp hi
      have := c.lt i hi
      rw [List.getElem?_reverse (by omega), show rs.length - 1 - (rs.length - 1 - i) = i by omega] at e
      exact ⟨i, hi, e⟩
theorem core_rev {cs : Cls} {rs : List Ru} (h : Un cs rs) : (coreL cs rs).length = (coreL cs rs.reverse).length := by
  refine Nat.le_antisymm ?_ (core_rev_le h)
  have := core_rev_le (un_rev.mpr h)
  rwa [List.reverse_reverse] at this
theorem pick_erase {rs : List Ru} {l : List Nat} (h : ∀ x ∈ l, x < rs.length) (k : Nat) : (pick rs l).eraseIdx k = pick rs (l.eraseIdx k) := by
  have e : ∀ l : List Nat, (∀ x ∈ l, x < rs.length) → ∀ k, (pick rs l).eraseIdx k = pick rs (l.eraseIdx k) := by
    intro l
    induction l with
    | nil => intro _ k; simp [pick]
    | cons x l ih =>
      intro h k
      have hx := h x List.mem_cons_self
      have e1 : ∀ m, pick rs (x :: m) = rs[x] :: pick rs m := fun m => by
        unfold pick
        rw [List.filterMap_cons, List.getElem?_eq_getElem hx]
      cases k with
      | zero => rw [e1]; rfl
      | succ k =>
        rw [e1, List.eraseIdx_cons_succ, List.eraseIdx_cons_succ, e1, ih (fun y hy => h y (List.mem_cons_of_mem _ hy))]
  exact e l h k
theorem pick_len {rs : List Ru} {l : List Nat} (h : ∀ x ∈ l, x < rs.length) : (pick rs l).length = l.length := by
  induction l with
  | nil => rfl
  | cons x l ih =>
    have hx := h x List.mem_cons_self
    have e1 : pick rs (x :: l) = rs[x] :: pick rs l := by
      unfold pick
      rw [List.filterMap_cons, List.getElem?_eq_getElem hx]
    rw [e1, List.length_cons, List.length_cons, ih fun y hy => h y (List.mem_cons_of_mem _ hy)]
theorem asc_erase {l : List Nat} (h : l.Pairwise (· < ·)) (k : Nat) : (l.eraseIdx k).Pairwise (· < ·) := h.sublist (List.eraseIdx_sublist l k)
/-- without one of its rules a core is one no more -/
theorem Core.less {cs : Cls} {rs : List Ru} {c : List Nat} (h : Core cs rs c) {k : Nat} (hk : k < c.length) : ¬ Un cs ((pick rs c).eraseIdx k) := by
  rw [pick_erase h.lt]
  exact h.mn _ (asc_erase h.asc k) (fun x hx => h.lt x (List.eraseIdx_subset hx)) (by rw [List.length_eraseIdx_of_lt hk]; omega)
theorem allow_erase {cs : Cls} {rs : List Ru} {k : Nat} (hk : k < rs.length) (u : Tx) : allowL cs rs u = (allowL cs (rs.eraseIdx k) u && kpL cs rs[k] u) := by
  unfold allowL
  rw [Bool.eq_iff_iff, Bool.and_eq_true, List.all_eq_true, List.all_eq_true]
  constructor
  · intro h
    exact ⟨fun r hr => h r (List.eraseIdx_subset hr), h _ (List.getElem_mem hk)⟩
  · rintro ⟨h1, h2⟩ r hr
    obtain ⟨i, hi, rfl⟩ := List.getElem_of_mem hr
    by_cases e : i = k
    · subst e; exact h2
    · exact h1 _ (List.mem_eraseIdx_iff_getElem.mpr ⟨i, hi, e, rfl⟩)
theorem idle_mem {cs : Cls} {rs : List Ru} {k : Nat} : k ∈ idleL cs rs ↔ k < rs.length ∧ ∀ u, (∀ c ∈ u, c ∈ sgs cs) → allowL cs rs u = allowL cs (rs.eraseIdx k) u := by
  unfold idleL
  rw [List.mem_filter, List.mem_range, @decide_eq_true_iff _ (Classical.propDecidable _)]
/-- rules outside of a core are idle -/
theorem Core.idle {cs : Cls} {rs : List Ru} {c : List Nat} (h : Core cs rs c) {k : Nat} (hk : k < rs.length) (hn : k ∉ c) : k ∈ idleL cs rs := by
  refine idle_mem.mpr ⟨hk, fun u hu => ?_⟩
  have h1 : Un cs (rs.eraseIdx k) := un_sub (fun r hr => by
    obtain ⟨i, hi, e⟩ := mem_pick.mp hr
    obtain ⟨hlt, rfl⟩ := List.getElem?_eq_some_iff.mp e
    exact List.mem_eraseIdx_iff_getElem.mpr ⟨i, hlt, fun z => hn (z ▸ hi), rfl⟩) h.un
  have h2 : Un cs rs := un_sub (fun r hr => by
    obtain ⟨i, hi, e⟩ := mem_pick.mp hr
    exact List.mem_of_getElem? e) h.un
  rw [h1 u hu, h2 u hu]
theorem idle_more {cs : Cls} {rs : List Ru} {r : Ru} {k : Nat} (h : k ∈ idleL cs rs) : k ∈ idleL cs (rs ++ [r]) := by
  obtain ⟨h1, h2⟩ := idle_mem.mp h
  refine idle_mem.mpr ⟨by simp; omega, fun u hu => ?_⟩
  rw [List.eraseIdx_append_of_lt_length h1]
  have e : ∀ l : List Ru, allowL cs (l ++ [r]) u = (allowL cs l u && allowL cs [r] u) := fun l => by unfold allowL; rw [List.all_append]
  rw [e, e, h2 u hu]
end DL

set_option Elab.async false
set_option linter.all false
set_option maxRecDepth 100000
namespace DL
open PySem PySem.Spec PyProof.Rows L2
def R_Typist___init__ (C_Machine : Addr) (C_Typist : Addr) (sp_need_policy : DSp) (sp_Machine___init__ : DSp) : DS :=
    (dSeq (dDrop (dCall sp_need_policy (daCons (dVar 1) daNil)))
    (dSeq (dPutF C_Typist (Str.ofString "machine") (dVar 0) (dMake C_Machine sp_Machine___init__ (daCons (dVar 1) daNil)))
    (dPutF C_Typist (Str.ofString "typed") (dVar 0) (dC (.str (Str.ofString ""))))))
def R_Typist_needed (C_Machine : Addr) (C_Typist : Addr) (sp_Machine_nearest : DSp) (sp_Machine_after : DSp) : DS :=
    (dSeq (dSet 1 (dMeth C_Machine (Str.ofString "nearest") sp_Machine_nearest (dFld C_Typist (Str.ofString "machine") (dVar 0)) (daCons (dMeth C_Machine (Str.ofString "after") sp_Machine_after (dFld C_Typist (Str.ofString "machine") (dVar 0)) (daCons (dFld C_Typist (Str.ofString "typed") (dVar 0)) daNil)) daNil)))
    (dRet (dIf (dTest (dOp isD (dVar 1) (dC .non))) (dC .non) (dCB lenB (daCons (dVar 1) daNil)))))
def R_Typist_nexts (C_Machine : Addr) (C_Typist : Addr) (sp_Machine_after : DSp) (sp_Machine_nearest : DSp) (sp_Machine_step : DSp) : DS :=
    (dSeq (dPar 1 2 (daCons (dMeth C_Machine (Str.ofString "after") sp_Machine_after (dFld C_Typist (Str.ofString "machine") (dVar 0)) (daCons (dFld C_Typist (Str.ofString "typed") (dVar 0)) daNil)) (daCons (dC (.str (Str.ofString ""))) daNil)))
    (dSeq (dFor (diAny (dFld C_Machine (Str.ofString "signs") (dFld C_Typist (Str.ofString "machine") (dVar 0)))) (dgName 3) (dIfS (dTest (dOp isnD (dMeth C_Machine (Str.ofString "nearest") sp_Machine_nearest (dFld C_Typist (Str.ofString "machine") (dVar 0)) (daCons (dMeth C_Machine (Str.ofString "step") sp_Machine_step (dFld C_Typist (Str.ofString "machine") (dVar 0)) (daCons (dVar 1) (daCons (dVar 3) daNil))) daNil)) (dC .non))) (dAug 2 (dVar 3) iaddD) dNext))
    (dRet (dVar 2))))
def R_Typist_press (C_Typist : Addr) (C_Machine : Addr) : DS :=
    (dSeq (dIfS (dOr (dNot (dTru (dCB (isiB "str") (daCons (dVar 1) (daCons (dC (.ty "str")) daNil))))) (dOr (dTest (dOp neD (dCB lenB (daCons (dVar 1) daNil)) (dC (.int 1)))) (dTest (dOp ninD (dVar 1) (dFld C_Machine (Str.ofString "signs") (dFld C_Typist (Str.ofString "machine") (dVar 0))))))) dNever dNext)
    (dSeq (dAugF C_Typist (Str.ofString "typed") (dVar 0) (dVar 1) iaddD)
    (dRet (dFld C_Typist (Str.ofString "typed") (dVar 0)))))
def R_Typist_erase (C_Typist : Addr) : DS :=
    (dSeq (dIfS (dTest (dOp eqD (dFld C_Typist (Str.ofString "typed") (dVar 0)) (dC (.str (Str.ofString ""))))) dNever dNext)
    (dSeq (dPutF C_Typist (Str.ofString "typed") (dVar 0) (dSl (dFld C_Typist (Str.ofString "typed") (dVar 0)) dNoPart (dPart (dUn negD (dC (.int 1))))))
    (dRet (dFld C_Typist (Str.ofString "typed") (dVar 0)))))
def R_Typist_text (C_Typist : Addr) : DS :=
    (dRet (dFld C_Typist (Str.ofString "typed") (dVar 0)))
end DL

set_option Elab.async false
set_option linter.all false
set_option maxRecDepth 100000
namespace DL
open PySem PySem.Spec PyProof.Rows L2
def R_law_k18 (sp__law_classes : DSp) (sp__law_bent : DSp) (sp_core : DSp) (sp_first : DSp) (sp__law_strings : DSp) (sp__law_allows : DSp) (sp__law_keeps : DSp) (sp_idle : DSp) (sp__law_rule : DSp) : DS :=
    (dSeq (dSet 1 (dLst (daCons (dC (.int 0)) (daCons (dC (.int 0)) daNil))))
    (dSeq (dSet 2 (dCall sp__law_classes (daCons (dVar 0) (daCons (dVar 1) daNil))))
    (dSeq (dSet 3 (dCall sp__law_bent (daCons (dVar 0) (daCons (dVar 1) (daCons (dVar 2) daNil)))))
    (dSeq (dAsg (dTup (daCons (dCall sp_core (daCons (dVar 3) daNil)) (daCons (dCall sp_core (daCons (dTup (daCons (dVar 2) (daCons (dRev (dOp getD (dVar 3) (dC (.int 1)))) daNil))) daNil)) daNil))) (dgTup 2 (dgCons (dgName 4) (dgCons (dgName 5) dgNil))))
    (dSeq (dIfS (dOr (dTest (dOp neD (dOp isD (dVar 4) (dC .non)) (dOp isnD (dCall sp_first (daCons (dVar 3) daNil)) (dC .non)))) (dTest (dOp neD (dOp isD (dVar 4) (dC .non)) (dOp isD (dVar 5) (dC .non))))) (dRet (dC (.bl false))) dNext)
    (dSeq (dIfS (dTest (dOp isnD (dVar 4) (dC .non))) (dSeq (dIfS (dOr (dTest (dOp neD (dCB lenB (daCons (dVar 4) daNil)) (dCB lenB (daCons (dVar 5) daNil)))) (dTest (dOp neD (dVar 4) (dSetSort (dVar 4))))) (dRet (dC (.bl false))) dNext)
    (dSeq (dSet 7 (dLc (diAny (dVar 4)) (dgName 6) dYes (dOp getD (dOp getD (dVar 3) (dC (.int 1))) (dVar 6)) [6]))
    (dSeq (dIfS (dTest (dOp isnD (dCall sp_first (daCons (dTup (daCons (dVar 2) (daCons (dCB tupB (daCons (dVar 7) daNil)) daNil))) daNil)) (dC .non))) (dRet (dC (.bl false))) dNext)
    (dSeq (dIfS (dTru (dCB anyB (daCons (dLc (diAny (dCall sp__law_strings (daCons (dVar 3) (daCons (dC (.int 3)) daNil)))) (dgName 8) dYes (dCall sp__law_allows (daCons (dTup (daCons (dVar 2) (daCons (dVar 7) daNil))) (daCons (dVar 8) daNil))) [8]) daNil))) (dRet (dC (.bl false))) dNext)
    (dSeq (dFor (diRng1 (dCB lenB (daCons (dVar 7) daNil))) (dgName 6) (dSeq (dSet 9 (dTup (daCons (dVar 2) (daCons (dCB tupB (daCons (dOp addD (dSl (dVar 7) dNoPart (dPart (dVar 6))) (dSl (dVar 7) (dPart (dOp addD (dVar 6) (dC (.int 1)))) dNoPart)) daNil)) daNil))))
    (dSeq (dSet 10 (dCall sp_first (daCons (dVar 9) daNil)))
    (dIfS (dOr (dTest (dOp isD (dVar 10) (dC .non))) (dOr (dNot (dTru (dCall sp__law_allows (daCons (dVar 9) (daCons (dVar 10) daNil))))) (dTru (dCall sp__law_keeps (daCons (dVar 2) (daCons (dOp getD (dVar 7) (dVar 6)) (daCons (dVar 10) daNil))))))) (dRet (dC (.bl false))) dNext))))
    (dSeq (dAsg (dTup (daCons (dCall sp_idle (daCons (dVar 3) daNil)) (daCons (dLc (diRng1 (dCB lenB (daCons (dOp getD (dVar 3) (dC (.int 1))) daNil))) (dgName 6) (dTest (dOp ninD (dVar 6) (dVar 4))) (dVar 6) [6]) daNil))) (dgTup 2 (dgCons (dgName 11) (dgCons (dgName 12) dgNil))))
    (dIfS (dTru (dCB anyB (daCons (dLc (diAny (dVar 12)) (dgName 6) dYes (dOp ninD (dVar 6) (dVar 11)) [6]) daNil))) (dRet (dC (.bl false))) dNext))))))) dNext)
    (dSeq (dAsg (dTup (daCons (dCall sp__law_rule (daCons (dVar 0) (daCons (dVar 1) (daCons (dVar 2) daNil)))) (daCons (dCall sp_idle (daCons (dVar 3) daNil)) daNil))) (dgTup 2 (dgCons (dgName 13) (dgCons (dgName 11) dgNil))))
    (dSeq (dIfS (dAnd (dTest (dOp ninD (dVar 13) (dOp getD (dVar 3) (dC (.int 1))))) (dTest (dOp ltD (dCB lenB (daCons (dOp getD (dVar 3) (dC (.int 1))) daNil)) (dC (.int 6))))) (dSeq (dSet 14 (dCall sp_idle (daCons (dTup (daCons (dVar 2) (daCons (dOp addD (dOp getD (dVar 3) (dC (.int 1))) (dTup (daCons (dVar 13) daNil))) daNil))) daNil)))
    (dRet (dCB allB (daCons (dLc (diAny (dVar 11)) (dgName 6) dYes (dOp inD (dVar 6) (dVar 14)) [6]) daNil)))) dNext)
    (dRet (dC (.bl true)))))))))))
end DL

set_option Elab.async false
set_option linter.all false
set_option maxRecDepth 100000
namespace DL
open PySem PySem.Spec PyProof.Rows L2
/-! ### _law_allows for a list of rules, too -/
def polV (M : DM) (cs : Cls) (rs : List Ru) (d : D) : Prop := d = pD cs rs ∨ ∃ a, d = .tup [cD cs, .ref a] ∧ M a = some (.lst (rs.map rD))
def sp__law_allows2 : DSp := fun ds M R => ∃ (cs : Cls) (rs : List Ru) (t : Tx) (d : D), ds = [d, .str (S t)] ∧ polV M cs rs d ∧ ClsOk cs ∧ (∀ r ∈ rs, RuOk cs r) ∧ rs.length ≤ 1000 ∧ t.length ≤ 16777216 ∧ (∀ c ∈ t, c ∈ sgs cs) ∧ R (.bl (allowL cs rs t)) M
theorem l_allows2 : ∀ ds M R, sp__law_allows2 ds M R → R__law_allows sp__law_keeps (topE R) (startD 3 ds) M := by
  rintro _ M R ⟨cs, rs, t, d, rfl, hv, ok, hr, hl, ht, hc, q⟩
  rcases hv with rfl | ⟨a, rfl, ha⟩
  · exact l_allowsL _ M R ⟨cs, rs, t, rfl, ok, hr, hl, ht, hc, q⟩
  simp -implicitDefEqProofs [R__law_allows, startD, topE, getS, pD, atI0, atI1, -List.all_eq_true]
  show itK (.ref a) M _
  rw [itK_lst ha]
  refine ⟨small1000 (by simpa using hl), lcW_on rD (fun r => some (.bl (kpL cs r t))) ha _ _ (fun r hm A B h => ?_) fun p hp => ?_⟩
  · simp -implicitDefEqProofs [getS, atI0]
    exact ⟨cs, r, t, rfl, ok, hr r hm, ht, hc, h⟩
  · have e1 : rs.filterMap (fun r => some (D.bl (kpL cs r t))) = rs.map fun r => D.bl (kpL cs r t) := by simp
    rw [List.nil_append, e1]
    refine ⟨by rw [List.all_map, List.all_eq_true]; intro r _; rfl, .of (Le.new hp) ?_⟩
    rw [List.all_map]
    exact q
def k18T (sp__law_rule sp_idle : DSp) : DS :=
    (dSeq (dAsg (dTup (daCons (dCall sp__law_rule (daCons (dVar 0) (daCons (dVar 1) (daCons (dVar 2) daNil)))) (daCons (dCall sp_idle (daCons (dVar 3) daNil)) daNil))) (dgTup 2 (dgCons (dgName 13) (dgCons (dgName 11) dgNil))))
    (dSeq (dIfS (dAnd (dTest (dOp ninD (dVar 13) (dOp getD (dVar 3) (dC (.int 1))))) (dTest (dOp ltD (dCB lenB (daCons (dOp getD (dVar 3) (dC (.int 1))) daNil)) (dC (.int 6))))) (dSeq (dSet 14 (dCall sp_idle (daCons (dTup (daCons (dVar 2) (daCons (dOp addD (dOp getD (dVar 3) (dC (.int 1))) (dTup (daCons (dVar 13) daNil))) daNil))) daNil)))
    (dRet (dCB allB (daCons (dLc (diAny (dVar 11)) (dgName 6) dYes (dOp inD (dVar 6) (dVar 14)) [6]) daNil)))) dNext)
    (dRet (dC (.bl true)))))
def k18F (sp_first sp__law_allows sp__law_keeps : DSp) : DS := (dSeq (dSet 9 (dTup (daCons (dVar 2) (daCons (dCB tupB (daCons (dOp addD (dSl (dVar 7) dNoPart (dPart (dVar 6))) (dSl (dVar 7) (dPart (dOp addD (dVar 6) (dC (.int 1)))) dNoPart)) daNil)) daNil))))
    (dSeq (dSet 10 (dCall sp_first (daCons (dVar 9) daNil)))
    (dIfS (dOr (dTest (dOp isD (dVar 10) (dC .non))) (dOr (dNot (dTru (dCall sp__law_allows (daCons (dVar 9) (daCons (dVar 10) daNil))))) (dTru (dCall sp__law_keeps (daCons (dVar 2) (daCons (dOp getD (dVar 7) (dVar 6)) (daCons (dVar 10) daNil))))))) (dRet (dC (.bl false))) dNext)))
def k18C (sp_idle : DSp) : DS := (dSeq (dAsg (dTup (daCons (dCall sp_idle (daCons (dVar 3) daNil)) (daCons (dLc (diRng1 (dCB lenB (daCons (dOp getD (dVar 3) (dC (.int 1))) daNil))) (dgName 6) (dTest (dOp ninD (dVar 6) (dVar 4))) (dVar 6) [6]) daNil))) (dgTup 2 (dgCons (dgName 11) (dgCons (dgName 12) dgNil))))
    (dIfS (dTru (dCB anyB (daCons (dLc (diAny (dVar 12)) (dgName 6) dYes (dOp ninD (dVar 6) (dVar 11)) [6]) daNil))) (dRet (dC (.bl false))) dNext))
def k18B (sp_first sp__law_strings sp__law_allows sp__law_keeps sp_idle : DSp) : DS := (dSeq (dIfS (dOr (dTest (dOp neD (dCB lenB (daCons (dVar 4) daNil)) (dCB lenB (daCons (dVar 5) daNil)))) (dTest (dOp neD (dVar 4) (dSetSort (dVar 4))))) (dRet (dC (.bl false))) dNext)
    (dSeq (dSet 7 (dLc (diAny (dVar 4)) (dgName 6) dYes (dOp getD (dOp getD (dVar 3) (dC (.int 1))) (dVar 6)) [6]))
    (dSeq (dIfS (dTest (dOp isnD (dCall sp_first (daCons (dTup (daCons (dVar 2) (daCons (dCB tupB (daCons (dVar 7) daNil)) daNil))) daNil)) (dC .non))) (dRet (dC (.bl false))) dNext)
    (dSeq (dIfS (dTru (dCB anyB (daCons (dLc (diAny (dCall sp__law_strings (daCons (dVar 3) (daCons (dC (.int 3)) daNil)))) (dgName 8) dYes (dCall sp__law_allows (daCons (dTup (daCons (dVar 2) (daCons (dVar 7) daNil))) (daCons (dVar 8) daNil))) [8]) daNil))) (dRet (dC (.bl false))) dNext)
    (dSeq (dFor (diRng1 (dCB lenB (daCons (dVar 7) daNil))) (dgName 6) (k18F sp_first sp__law_allows sp__law_keeps))
    (k18C sp_idle))))))
theorem k18_fold {a b c d e f g h i : DSp} : R_law_k18 a b c d e f g h i = (dSeq (dSet 1 (dLst (daCons (dC (.int 0)) (daCons (dC (.int 0)) daNil))))
    (dSeq (dSet 2 (dCall a (daCons (dVar 0) (daCons (dVar 1) daNil))))
    (dSeq (dSet 3 (dCall b (daCons (dVar 0) (daCons (dVar 1) (daCons (dVar 2) daNil)))))
    (dSeq (dAsg (dTup (daCons (dCall c (daCons (dVar 3) daNil)) (daCons (dCall c (daCons (dTup (daCons (dVar 2) (daCons (dRev (dOp getD (dVar 3) (dC (.int 1)))) daNil))) daNil)) daNil))) (dgTup 2 (dgCons (dgName 4) (dgCons (dgName 5) dgNil))))
    (dSeq (dIfS (dOr (dTest (dOp neD (dOp isD (dVar 4) (dC .non)) (dOp isnD (dCall d (daCons (dVar 3) daNil)) (dC .non)))) (dTest (dOp neD (dOp isD (dVar 4) (dC .non)) (dOp isD (dVar 5) (dC .non))))) (dRet (dC (.bl false))) dNext)
    (dSeq (dIfS (dTest (dOp isnD (dVar 4) (dC .non))) (k18B d e f g h) dNext)
    (k18T i h))))))) := rfl
section
variable {C t : Addr} {ns : List Int} {cs : Cls} {rs : List Ru} {M0 : DM} {R : D → DM → Prop}
theorem plains_nsD : ∀ l : List Nat, plains (nsD l) = true
  | [] => rfl
  | x :: l => by simp [nsD, nD, plains, plain]; exact plains_nsD l
theorem nks_nsD : ∀ l : List Nat, nks (nsD l) = l.map fun (n : Nat) => NestedKey.num (n : Int)
  | [] => rfl
  | x :: l => by
    have := nks_nsD l
    unfold nsD at this ⊢
    simp [nD, nks, nk] at this ⊢
    exact this
theorem mem_nsD (k : Nat) (l : List Nat) : memD (.int (k : Nat)) (nsD l) = decide (k ∈ l) := by
  unfold memD
  rw [nks_nsD, List.any_map, Bool.eq_iff_iff, List.any_eq_true]
  simp [nk]
  constructor
  · rintro ⟨x, hx, e⟩
    have : x = k := by omega
    rwa [← this]
  · exact fun h => ⟨k, h, rfl⟩
theorem depth_nsD : ∀ l : List Nat, NestedKey.depthAll (nks (nsD l)) = 0
  | [] => rfl
  | x :: l => by
    have := depth_nsD l
    unfold nsD at this ⊢
    simp [nD, nks, nk, NestedKey.depthAll, NestedKey.depth] at this ⊢
    exact this
theorem nsD_ints (l : List Nat) : nsD l = (l.map fun (n : Nat) => (n : Int)).map D.int := by unfold nsD; rw [List.map_map]; rfl
theorem asc_uniq {a b : List Int} (ha : a.Pairwise (· < ·)) (hb : b.Pairwise (· < ·)) (h : ∀ k, k ∈ a ↔ k ∈ b) : a = b := by
  have na : a.Nodup := ha.imp fun {x y} h => Int.ne_of_lt h
  have nb : b.Nodup := hb.imp fun {x y} h => Int.ne_of_lt h
  exact List.Perm.eq_of_pairwise (fun x y _ _ h1 h2 => by omega) ha hb ((List.perm_ext_iff_of_nodup na nb).mpr h)
theorem k18_tail {d4 d5 d6 d7 d8 d9 d10 d11 d12 d13 d14 : Option D} {N : DM} (T : Tn t ns M0) (g : Gw t M0 N) (P : PolOk cs rs) (G : ∀ r ∈ rs, RuG cs r) (Sh : Shp cs) (q : ∀ M, R (.bl true) M) :
    k18T sp__law_rule (sp_idle C) (topE R) [some (.fl (intL ns)), some (.ref t), some (cD cs), some (pD cs rs), d4, d5, d6, d7, d8, d9, d10, d11, d12, d13, d14] N := by
  have rsd : RsD cs rs := ⟨P.c, Sh, P.r, fun w hw => (G _ hw).2 w rfl⟩
  simp -implicitDefEqProofs [k18T, topE, getS]
  refine ⟨t, ns, cs, rfl, g.tn T, P.c, fun r hr1 hr2 N1 u => ?_⟩
  refine ⟨cs, rs, rfl, P, rsd, fun p hp => ?_⟩
  simp -implicitDefEqProofs [getS, pD, atI1, rD_plain, plains_rs]
  refine ⟨by have := rD_depth r; omega, ?_⟩
  by_cases hm : r ∈ rs
  · rw [(mem_rs r rs).mpr hm, if_pos rfl]
    exact Dn.mk (q _)
  · have e : memD (rD r) (rs.map rD) = false := by
      cases h : memD (rD r) (rs.map rD) with
      | false => rfl
      | true => exact absurd ((mem_rs r rs).mp h) hm
    rw [e, if_neg (by simp)]
    by_cases h6 : (rs.length : Int) < 6
    · rw [if_pos h6]
      have P' : PolOk cs (rs ++ [r]) := ⟨P.c, by simp; omega, fun x hx => (List.mem_append.mp hx).elim (P.r x) fun h => by
        have : x = r := by simpa using h
        rw [this]; exact hr1, List.nodup_append.mpr ⟨P.nd, by simp, fun y hy z hz e => hm (by simp at hz; rw [← hz, ← e]; exact hy)⟩⟩
      have rsd' : RsD cs (rs ++ [r]) := ⟨P.c, Sh, P'.r, fun w hw => by
        rcases List.mem_append.mp hw with h | h
        · exact (G _ h).2 w rfl
        · have : Ru.nt w = r := by simpa using h
          rw [← this] at hr2; exact hr2⟩
      refine ⟨by rw [sizeLine_eq]; omega, cs, rs ++ [r], by simp [pD], P', rsd', fun p2 hp2 => ?_⟩
      have hpp : p ≠ p2 := (free_of hp2).1.symm
      have hP : updM (updM N1 p (.lst (nsD (idleL cs rs)))) p2 (.lst (nsD (idleL cs (rs ++ [r])))) p = some (.lst (nsD (idleL cs rs))) := by rw [updM_ne hpp, updM_same]
      show itK (.ref p) _ _
      rw [itK_lst hP]
      have hil : (idleL cs rs).length ≤ 6 := by
        have := List.length_filter_le (fun k => @decide (∀ u, (∀ c ∈ u, c ∈ sgs cs) → allowL cs rs u = allowL cs (rs.eraseIdx k) u) (Classical.propDecidable _)) (List.range rs.length)
        rw [List.length_range] at this
        have h2 := P.few
        unfold idleL
        omega
      refine ⟨by simp [nsD]; rw [sizeLine_eq]; omega, lcW_on nD (fun k => some (.bl true)) hP _ _ (fun k hk A B a => ?_) fun p3 hp3 => ?_⟩
      · simp -implicitDefEqProofs [getS, nD, updM_same, plains_nsD, mem_nsD, NestedKey.depth]
        rw [decide_eq_true (idle_more (r := r) hk)]
        exact a
      · rw [List.nil_append]
        have e1 : (idleL cs rs).filterMap (fun k => some (D.bl true)) = (idleL cs rs).map fun k => D.bl true := by simp
        rw [e1]
        refine ⟨fun x hx => ?_, ?_⟩
        · obtain ⟨k, _, rfl⟩ := List.mem_map.mp hx
          rfl
        · have e2 : ((idleL cs rs).map fun k => D.bl true).all truB = true := by rw [List.all_map, List.all_eq_true]; intro k _; rfl
          rw [e2]
          exact Dn.mk (q _)
    · rw [if_neg h6]
      exact Dn.mk (q _)
theorem k18_loop {c : List Nat} {p p2 : Addr} {d1 d5 d8 d11 d12 d13 d14 : Option D} {E : DEnds} (P : PolOk cs rs) (Q : RsD cs rs) (h : Core cs rs c) : ∀ (k lo : Nat) (x6 x9 x10 : Option D) (N : DM), lo + k = c.length → N p = some (.lst (nsD c)) → N p2 = some (.lst ((pick rs c).map rD)) → Gw t M0 N →
    (∀ y6 y9 y10 N', N' p = some (.lst (nsD c)) → Gw t M0 N' → E.nx [some (.fl (intL ns)), d1, some (cD cs), some (pD cs rs), some (.ref p), d5, y6, some (.ref p2), d8, y9, y10, d11, d12, d13, d14] N') →
    forW (fun _ => True) (dgName 6) (k18F (sp_first C) sp__law_allows2 sp__law_keeps) E (intsD (lo : Nat) k) [some (.fl (intL ns)), d1, some (cD cs), some (pD cs rs), some (.ref p), d5, x6, some (.ref p2), d8, x9, x10, d11, d12, d13, d14] N
  | 0, lo, x6, x9, x10, N, _, hp, hp2, g, q => by
    simp only [intsD]
    rw [forW_nil]
    exact ⟨trivial, q x6 x9 x10 N hp g⟩
  | k + 1, lo, x6, x9, x10, N, hk, hp, hp2, g, q => by
    simp only [intsD]
    rw [forW_cons]
    refine ⟨trivial, ?_⟩
    have hlt : lo < c.length := by omega
    have hlp := pick_len h.lt
    have hc6 := asc_len h.asc h.lt
    have h6 := P.few
    simp -implicitDefEqProofs [k18F, getS, hp2]
    intro a1 h1
    have m1 : p2 ≠ a1 := ne_free hp2 h1
    have e1 : ((lo : Int) + 1) = ((lo + 1 : Nat) : Int) := by omega
    rw [updM_ne m1, hp2]
    simp -implicitDefEqProofs
    intro a2 h2
    have m2 : a1 ≠ a2 := (free_of h2).1.symm
    rw [updM_ne m2, updM_same]
    simp -implicitDefEqProofs
    rw [cutD_take, ← List.map_take] at h2
    rw [e1, cutD_take, cutD_drop, ← List.map_take, ← List.map_drop, ← List.map_append, ← List.eraseIdx_eq_take_drop_succ]
    refine ⟨by simp; rw [sizeLine_eq]; omega, fun a3 h3 => ?_⟩
    have g3 := ((g.new (o := .lst (((pick rs c).take lo).map rD)) h1).new (o := .lst (((pick rs c).drop (lo + 1)).map rD)) h2).new (o := .lst (((pick rs c).eraseIdx lo).map rD)) h3
    have key : ∀ {b : Addr} {o : DO}, N b = some o → updM (updM (updM N a1 (.lst (((pick rs c).take lo).map rD))) a2 (.lst (((pick rs c).drop (lo + 1)).map rD))) a3 (.lst (((pick rs c).eraseIdx lo).map rD)) b = some o := fun {b o} hb => by
      have f1 : updM N a1 (.lst (((pick rs c).take lo).map rD)) b = some o := by rw [updM_ne (ne_free hb h1)]; exact hb
      have f2 : updM (updM N a1 (.lst (((pick rs c).take lo).map rD))) a2 (.lst (((pick rs c).drop (lo + 1)).map rD)) b = some o := by rw [updM_ne (ne_free f1 h2)]; exact f1
      rw [updM_ne (ne_free f2 h3)]; exact f2
    have hpN := key hp
    have hp2N := key hp2
    generalize updM (updM (updM N a1 (.lst (((pick rs c).take lo).map rD))) a2 (.lst (((pick rs c).drop (lo + 1)).map rD))) a3 (.lst (((pick rs c).eraseIdx lo).map rD)) = N3 at g3 hpN hp2N ⊢
    have hs2 := (List.eraseIdx_sublist (pick rs c) lo).trans (pick_sub (rs := rs) h.asc)
    have P' := P.sub hs2
    have Q' := Q.sub fun y hy => hs2.subset hy
    have h6' := P'.few
    have hlo : lo < (pick rs c).length := by rw [hlp]; exact hlt
    refine ⟨cs, (pick rs c).eraseIdx lo, rfl, P', Q'.few, fun o f => ?_⟩
    cases o with
    | none => exact absurd ((un_iff f.1).mp rfl) (h.less hlt)
    | some u =>
      obtain ⟨b1, b2⟩ := f.1.some_ok
      have b3 := f.2 u rfl
      simp -implicitDefEqProofs [otD]
      refine ⟨cs, (pick rs c).eraseIdx lo, u, _, rfl, .inl rfl, P.c, P'.r, by omega, by omega, b2, ?_⟩
      rw [b1]
      simp -implicitDefEqProofs [hp2N]
      have hr : (pick rs c)[lo] ∈ rs := (pick_sub (rs := rs) h.asc).subset (List.getElem_mem hlo)
      rw [atI_nat (j := lo) (v := rD (pick rs c)[lo]) (by rw [List.getElem?_map, List.getElem?_eq_getElem hlo]; rfl)]
      simp -implicitDefEqProofs
      refine ⟨cs, (pick rs c)[lo], u, rfl, P.c, P.r _ hr, by omega, b2, ?_⟩
      have hk0 : kpL cs (pick rs c)[lo] u = false := by
        have := h.un u b2
        rw [allow_erase hlo, b1, Bool.true_and] at this
        exact this
      rw [hk0]
      simp -implicitDefEqProofs
      exact k18_loop P Q h k (lo + 1) _ _ _ N3 (by omega) hpN hp2N g3 q
theorem k18_mid {c c' : List Nat} {p p' : Addr} {d1 d6 d7 d8 d9 d10 d11 d12 d13 d14 : Option D} {E : DEnds} {N : DM} (P : PolOk cs rs) (Q : RsD cs rs) (hs : (sgs cs).length ≤ 4) (h : Core cs rs c) (hl : c.length = c'.length) (hp : N p = some (.lst (nsD c))) (hp' : N p' = some (.lst (nsD c'))) (T : Tn t ns M0) (g : Gw t M0 N)
    (q : ∀ y6 y7 y8 y9 y10 y11 y12 N', Gw t M0 N' → E.nx [some (.fl (intL ns)), d1, some (cD cs), some (pD cs rs), some (.ref p), some (.ref p'), y6, y7, y8, y9, y10, y11, y12, d13, d14] N') :
    k18B (sp_first C) sp__law_strings sp__law_allows2 sp__law_keeps (sp_idle C) E [some (.fl (intL ns)), d1, some (cD cs), some (pD cs rs), some (.ref p), some (.ref p'), d6, d7, d8, d9, d10, d11, d12, d13, d14] N := by
  have hc6 := asc_len h.asc h.lt
  have h6 := P.few
  simp -implicitDefEqProofs [k18B, getS, lenK_lst hp, lenK_lst hp', hl, hp]
  rw [if_pos (by simp [nsD, hl]), nsD_ints c, intsOf_map]
  refine ⟨by rw [List.length_map]; omega, fun ns' w1 w2 p1 hp1 => ?_⟩
  have ens : ns' = c.map fun (n : Nat) => (n : Int) := asc_uniq w1 (by rw [List.pairwise_map]; exact h.asc.imp fun {a b} h => by omega) w2
  subst ens
  have n1 : p ≠ p1 := ne_free hp hp1
  rw [← nsD_ints c, updM_ne n1, hp]
  have g1 := g.new (o := .lst (nsD c)) hp1
  have hpN : updM N p1 (.lst (nsD c)) p = some (.lst (nsD c)) := by rw [updM_ne n1]; exact hp
  generalize updM N p1 (.lst (nsD c)) = N1 at g1 hpN ⊢
  refine ⟨plains_nsD c, plains_nsD c, by rw [depth_nsD]; omega, ?_⟩
  rw [if_pos rfl]
  show itK (.ref p) N1 _
  rw [itK_lst hpN]
  refine ⟨by simp [nsD]; rw [sizeLine_eq]; omega, ?_⟩
  refine lcW_on nD (fun n => (rs[n]?).map rD) hpN c [] (fun n hn A B a => ?_) ?_
  · have hlt := h.lt n hn
    rw [List.getElem?_eq_getElem hlt] at a
    simp -implicitDefEqProofs [getS, nD, pD, atI1]
    rw [atI_nat (j := n) (v := rD rs[n]) (by rw [List.getElem?_map, List.getElem?_eq_getElem hlt]; rfl)]
    exact a
  rw [List.nil_append, pick_map]
  intro p2 hp2
  have hs2 := pick_sub (rs := rs) h.asc
  have P' := P.sub hs2
  have Q' := Q.sub fun y hy => hs2.subset hy
  have h6' := P'.few
  refine ⟨cs, pick rs c, rfl, P', Q'.few, fun o f => ?_⟩
  have e : o = none := (un_iff f.1).mpr h.un
  subst e
  have n2 : p ≠ p2 := ne_free hpN hp2
  have g2 := g1.new (o := .lst ((pick rs c).map rD)) hp2
  have hp2N : updM N1 p2 (.lst ((pick rs c).map rD)) p2 = some (.lst ((pick rs c).map rD)) := updM_same
  have hpN2 : updM N1 p2 (.lst ((pick rs c).map rD)) p = some (.lst (nsD c)) := by rw [updM_ne n2]; exact hpN
  generalize updM N1 p2 (.lst ((pick rs c).map rD)) = N2 at g2 hp2N hpN2 ⊢
  have hW : (Wup (sgs cs) 3).length ≤ 1000000 := by
    have := Wup_le hs 3
    omega
  simp -implicitDefEqProofs [otD]
  refine ⟨cs, rs, 3, rfl, by have := P.c.hi; omega, by omega, hW, by omega, fun a ha => ?_⟩
  have n3 : p ≠ a := ne_free hpN2 ha
  have n4 : p2 ≠ a := ne_free hp2N ha
  have g3 := g2.new (o := .lst (txs (Wup (sgs cs) 3))) ha
  have hp2N3 : updM N2 a (.lst (txs (Wup (sgs cs) 3))) p2 = some (.lst ((pick rs c).map rD)) := by rw [updM_ne n4]; exact hp2N
  have hpN3 : updM N2 a (.lst (txs (Wup (sgs cs) 3))) p = some (.lst (nsD c)) := by rw [updM_ne n3]; exact hpN2
  have haN : updM N2 a (.lst (txs (Wup (sgs cs) 3))) a = some (.lst (txs (Wup (sgs cs) 3))) := updM_same
  generalize updM N2 a (.lst (txs (Wup (sgs cs) 3))) = N3 at g3 hp2N3 hpN3 haN ⊢
  show itK (.ref a) N3 _
  rw [itK_lst haN]
  refine ⟨by simp [txs]; rw [sizeLine_eq]; omega, lcW_on (fun u : Tx => D.str (S u)) (fun u => some (.bl false)) haN _ _ (fun u hu A B ab => ?_) fun p4 hp4 => ?_⟩
  · obtain ⟨u1, u2⟩ := Wup_mem.mp hu
    simp -implicitDefEqProofs [getS]
    refine ⟨cs, pick rs c, u, _, rfl, .inr ⟨p2, rfl, hp2N3⟩, P.c, P'.r, by omega, by omega, u2, ?_⟩
    rw [h.un u u2]
    exact ab
  rw [List.nil_append]
  have e1 : (Wup (sgs cs) 3).filterMap (fun u => some (D.bl false)) = (Wup (sgs cs) 3).map fun u => D.bl false := by simp
  rw [e1]
  refine ⟨fun x hx => ?_, ?_⟩
  · obtain ⟨k, _, rfl⟩ := List.mem_map.mp hx
    rfl
  rw [if_neg (by
    rintro ⟨x, hx, e⟩
    obtain ⟨k, _, rfl⟩ := List.mem_map.mp hx
    cases e)]
  have n5 : p ≠ p4 := ne_free hpN3 hp4
  have n6 : p2 ≠ p4 := ne_free hp2N3 hp4
  have g4 := g3.new (o := .lst ((Wup (sgs cs) 3).map fun u => D.bl false)) hp4
  have hp2N4 : updM N3 p4 (.lst ((Wup (sgs cs) 3).map fun u => D.bl false)) p2 = some (.lst ((pick rs c).map rD)) := by rw [updM_ne n6]; exact hp2N3
  have hpN4 : updM N3 p4 (.lst ((Wup (sgs cs) 3).map fun u => D.bl false)) p = some (.lst (nsD c)) := by rw [updM_ne n5]; exact hpN3
  generalize updM N3 p4 (.lst ((Wup (sgs cs) 3).map fun u => D.bl false)) = N4 at g4 hp2N4 hpN4 ⊢
  rw [lenK_lst hp2N4, List.length_map, pick_len h.lt]
  refine ⟨by omega, ?_⟩
  refine k18_loop P Q h c.length 0 _ _ _ N4 (by omega) hpN4 hp2N4 g4 fun y6 y9 y10 N5 hp5 g5 => ?_
  have hsz : (intsD 0 rs.length).length ≤ sizeLine := by rw [intsD_len, sizeLine_eq]; omega
  simp -implicitDefEqProofs [k18C, getS, pD, atI1]
  refine ⟨cs, rs, rfl, P, Q, fun pi hpi => ?_⟩
  have g6 := g5.new (o := .lst (nsD (idleL cs rs))) hpi
  have hp6 : updM N5 pi (.lst (nsD (idleL cs rs))) p = some (.lst (nsD c)) := by rw [updM_ne (ne_free hp5 hpi)]; exact hp5
  have hpi6 : updM N5 pi (.lst (nsD (idleL cs rs))) pi = some (.lst (nsD (idleL cs rs))) := updM_same
  generalize updM N5 pi (.lst (nsD (idleL cs rs))) = N6 at g6 hp6 hpi6 ⊢
  refine ⟨by omega, hsz, ?_⟩
  have er := intsD_range rs.length 0
  rw [show ((0 : Nat) : Int) = 0 from rfl, ← List.range_eq_range'] at er
  rw [er]
  refine lcW_on nD (fun k => if k ∈ c then none else some (nD k)) trivial (List.range rs.length) [] (fun k hk A B a => ?_) ?_
  · simp -implicitDefEqProofs [getS, nD, hp6, plains_nsD, mem_nsD, NestedKey.depth]
    by_cases e : k ∈ c
    · rw [if_pos e] at a ⊢; exact a
    · rw [if_neg e] at a ⊢; exact a
  rw [List.nil_append]
  intro po hpo
  have eo : (List.range rs.length).filterMap (fun k => if k ∈ c then none else some (nD k)) = nsD ((List.range rs.length).filter fun k => !decide (k ∈ c)) := by
    unfold nsD
    generalize List.range rs.length = l
    induction l with
    | nil => rfl
    | cons k l ih =>
      rw [List.filterMap_cons, List.filter_cons]
      by_cases e : k ∈ c
      · simp [e, ih]
      · simp [e, ih]
  rw [eo]
  have g7 := g6.new (o := .lst (nsD ((List.range rs.length).filter fun k => !decide (k ∈ c)))) hpo
  have hpi7 : updM N6 po (.lst (nsD ((List.range rs.length).filter fun k => !decide (k ∈ c)))) pi = some (.lst (nsD (idleL cs rs))) := by rw [updM_ne (ne_free hpi6 hpo)]; exact hpi6
  have hpo7 : updM N6 po (.lst (nsD ((List.range rs.length).filter fun k => !decide (k ∈ c)))) po = some (.lst (nsD ((List.range rs.length).filter fun k => !decide (k ∈ c)))) := updM_same
  generalize updM N6 po (.lst (nsD ((List.range rs.length).filter fun k => !decide (k ∈ c)))) = N7 at g7 hpi7 hpo7 ⊢
  show itK (.ref po) N7 _
  rw [itK_lst hpo7]
  have hol := List.length_filter_le (fun k => !decide (k ∈ c)) (List.range rs.length)
  rw [List.length_range] at hol
  refine ⟨by rw [show (nsD ((List.range rs.length).filter fun k => !decide (k ∈ c))).length = ((List.range rs.length).filter fun k => !decide (k ∈ c)).length from List.length_map .., sizeLine_eq]; omega, lcW_on nD (fun k => some (.bl false)) hpo7 _ _ (fun k hk A B a => ?_) fun p8 hp8 => ?_⟩
  · obtain ⟨k1, k2⟩ := List.mem_filter.mp hk
    have hid := h.idle (List.mem_range.mp k1) (by simpa using k2)
    simp -implicitDefEqProofs [getS, nD, hpi7, plains_nsD, mem_nsD, NestedKey.depth, hid]
    exact a
  rw [List.nil_append]
  have e2 : ((List.range rs.length).filter fun k => !decide (k ∈ c)).filterMap (fun k => some (D.bl false)) = ((List.range rs.length).filter fun k => !decide (k ∈ c)).map fun k => D.bl false := by simp
  rw [e2]
  refine ⟨fun x hx => ?_, ?_⟩
  · obtain ⟨k, _, rfl⟩ := List.mem_map.mp hx
    rfl
  rw [if_neg (by
    rintro ⟨x, hx, e⟩
    obtain ⟨k, _, rfl⟩ := List.mem_map.mp hx
    cases e)]
  exact q _ _ _ _ _ _ _ _ (g7.new hp8)
end
theorem l_law (C : Addr) : ∀ ds M R, sp_law ds M R → R_law_k18 sp__law_classes sp__law_bent (sp_core C) (sp_first C) sp__law_strings sp__law_allows2 sp__law_keeps (sp_idle C) sp__law_rule (topE R) (startD 15 ds) M := by
  rintro _ M R ⟨ns, rfl, hn, q⟩
  rw [k18_fold]
  simp -implicitDefEqProofs [startD, getS]
  intro t ht
  have T : Tn t ns (updM M t (town 0 0)) := ⟨hn, 0, 0, updM_same, Int.le_refl 0⟩
  refine ⟨t, ns, rfl, T, fun cs hcs M1 u1 => ?_⟩
  have ck := five_ok cs hcs
  refine ⟨t, ns, cs, rfl, T.upd u1, ck, fun rs P G M2 u2 => ?_⟩
  have T2 := (T.upd u1).upd u2
  have hfl := five_len cs hcs
  have Sh := five_shp cs hcs
  have rsd : RsD cs rs := ⟨P.c, Sh, P.r, fun w hw => (G _ hw).2 w rfl⟩
  have Pr : PolOk cs rs.reverse := ⟨P.c, by rw [List.length_reverse]; exact P.few, fun r hr => P.r r (List.mem_reverse.mp hr), (List.reverse_perm rs).nodup_iff.mpr P.nd⟩
  have rsdr : RsD cs rs.reverse := rsd.sub fun r hr => List.mem_reverse.mp hr
  have h6 := P.few
  have g0 := Gw.refl T2
  have epd : D.tup [D.tup (List.map pairD cs), D.tup (List.map rD rs)] = pD cs rs := rfl
  have eprd : D.tup [cD cs, D.tup (List.map rD rs).reverse] = pD cs rs.reverse := by rw [← List.map_reverse]; rfl
  by_cases hu : Un cs rs
  · refine ⟨cs, rs, rfl, P, rsd, fun z => absurd hu z, fun _ p hp => ?_⟩
    simp -implicitDefEqProofs [getS, pD, atI1]
    refine ⟨by rw [sizeLine_eq]; omega, ?_⟩
    refine ⟨cs, rs.reverse, by rw [eprd], Pr, rsdr, fun z => absurd (un_rev.mpr hu) z, fun _ p' hp' => ?_⟩
    simp -implicitDefEqProofs [getS, pD, atI1]
    refine ⟨cs, rs, rfl, P, rsd.few, fun o f => ?_⟩
    have e : o = none := (un_iff f.1).mpr hu
    subst e
    simp -implicitDefEqProofs [otD]
    have hpp : p ≠ p' := (free_of hp').1.symm
    have hc := core_ok hu
    exact k18_mid P rsd hfl.1 hc (core_rev hu) (by rw [updM_ne hpp]; exact updM_same) updM_same T2 ((g0.new hp).new hp') fun y6 y7 y8 y9 y10 y11 y12 N' g' => k18_tail T2 g' P G Sh q
  · have hur : ¬ Un cs rs.reverse := fun z => hu (un_rev.mp z)
    refine ⟨cs, rs, rfl, P, rsd, fun _ => ?_, fun z => absurd z hu⟩
    simp -implicitDefEqProofs [getS, pD, atI1]
    refine ⟨by rw [sizeLine_eq]; omega, ?_⟩
    refine ⟨cs, rs.reverse, by rw [eprd], Pr, rsdr, fun _ => ?_, fun z => absurd z hur⟩
    refine ⟨cs, rs, rfl, P, rsd.few, fun o f => ?_⟩
    cases o with
    | none => exact absurd ((un_iff f.1).mp rfl) hu
    | some u =>
      simp -implicitDefEqProofs [otD]
      exact k18_tail T2 g0 P G Sh q
end DL

set_option Elab.async false
set_option linter.all false
set_option maxRecDepth 100000
namespace DL
open PySem PySem.Spec PyProof.Rows L2
def top (i : Nat) : Stmt := PySem.Challenge.pw_passrules_k18_whole_cores.main.body.getD i (.Pass ⟨0, 0, 0, 0⟩)
abbrev S__law_draw : Stmt := (top 31)
abbrev N__law_draw : List Str := [(Str.ofString "_law_script"), (Str.ofString "_law_town"), (Str.ofString "_law_many"), (Str.ofString "_law_one"), (Str.ofString "_law_at"), (Str.ofString "_law_mixed")]
abbrev P__law_draw : List Str := [(Str.ofString "_law_script"), (Str.ofString "_law_town"), (Str.ofString "_law_many")]
abbrev S__law_pick : Stmt := (top 32)
abbrev N__law_pick : List Str := [(Str.ofString "_law_script"), (Str.ofString "_law_town"), (Str.ofString "_law_some")]
abbrev P__law_pick : List Str := [(Str.ofString "_law_script"), (Str.ofString "_law_town"), (Str.ofString "_law_some")]
abbrev S__law_classes : Stmt := (top 33)
abbrev N__law_classes : List Str := [(Str.ofString "_law_script"), (Str.ofString "_law_town"), (Str.ofString "_law_kinds")]
abbrev P__law_classes : List Str := [(Str.ofString "_law_script"), (Str.ofString "_law_town")]
abbrev S__law_rule : Stmt := (top 34)
abbrev N__law_rule : List Str := [(Str.ofString "_law_script"), (Str.ofString "_law_town"), (Str.ofString "_law_classes_here"), (Str.ofString "_law_other"), (Str.ofString "_law_one"), (Str.ofString "_law_name"), (Str.ofString "_law_signs"), (Str.ofString "_law_what"), (Str.ofString "_law_number"), (Str.ofString "_law_least"), (Str.ofString "_law_k")]
abbrev P__law_rule : List Str := [(Str.ofString "_law_script"), (Str.ofString "_law_town"), (Str.ofString "_law_classes_here")]
abbrev S__law_policy : Stmt := (top 35)
abbrev N__law_policy : List Str := [(Str.ofString "_law_script"), (Str.ofString "_law_town"), (Str.ofString "_law_classes_here"), (Str.ofString "_law_most"), (Str.ofString "_law_rules"), (Str.ofString "_law_k"), (Str.ofString "_law_rule_here")]
abbrev P__law_policy : List Str := [(Str.ofString "_law_script"), (Str.ofString "_law_town"), (Str.ofString "_law_classes_here"), (Str.ofString "_law_most")]
abbrev S__law_bent : Stmt := (top 39)
abbrev N__law_bent : List Str := [(Str.ofString "_law_script"), (Str.ofString "_law_town"), (Str.ofString "_law_classes_here"), (Str.ofString "_law_name"), (Str.ofString "_law_other"), (Str.ofString "_law_pairs"), (Str.ofString "_law_rules"), (Str.ofString "_law_rule_here")]
abbrev P__law_bent : List Str := [(Str.ofString "_law_script"), (Str.ofString "_law_town"), (Str.ofString "_law_classes_here")]
abbrev S_is_over : Stmt := (top 10)
abbrev N_is_over : List Str := [(Str.ofString "value"), (Str.ofString "signs"), (Str.ofString "least"), (Str.ofString "most"), (Str.ofString "sign")]
abbrev P_is_over : List Str := [(Str.ofString "value"), (Str.ofString "signs"), (Str.ofString "least"), (Str.ofString "most")]
abbrev S_are_classes : Stmt := (top 11)
abbrev N_are_classes : List Str := [(Str.ofString "value"), (Str.ofString "pair"), (Str.ofString "names"), (Str.ofString "signs")]
abbrev P_are_classes : List Str := [(Str.ofString "value")]
abbrev S_is_count : Stmt := (top 9)
abbrev N_is_count : List Str := [(Str.ofString "value"), (Str.ofString "least"), (Str.ofString "most")]
abbrev P_is_count : List Str := [(Str.ofString "value"), (Str.ofString "least"), (Str.ofString "most")]
abbrev S_is_name : Stmt := (top 13)
abbrev N_is_name : List Str := [(Str.ofString "value"), (Str.ofString "names")]
abbrev P_is_name : List Str := [(Str.ofString "value"), (Str.ofString "names")]
abbrev S_is_rule : Stmt := (top 12)
abbrev N_is_rule : List Str := [(Str.ofString "value"), (Str.ofString "names"), (Str.ofString "signs"), (Str.ofString "word"), (Str.ofString "rest")]
abbrev P_is_rule : List Str := [(Str.ofString "value"), (Str.ofString "names"), (Str.ofString "signs")]
abbrev S_signs_of : Stmt := (top 15)
abbrev N_signs_of : List Str := [(Str.ofString "policy"), (Str.ofString "pair")]
abbrev P_signs_of : List Str := [(Str.ofString "policy")]
abbrev S_is_policy : Stmt := (top 14)
abbrev N_is_policy : List Str := [(Str.ofString "value"), (Str.ofString "pair"), (Str.ofString "names"), (Str.ofString "rules"), (Str.ofString "rule")]
abbrev P_is_policy : List Str := [(Str.ofString "value")]
abbrev S_need_policy : Stmt := (top 16)
abbrev N_need_policy : List Str := [(Str.ofString "value")]
abbrev P_need_policy : List Str := [(Str.ofString "value")]
abbrev S_Machine___init__ : Stmt := (inClass (top 19) 0)
abbrev N_Machine___init__ : List Str := [(Str.ofString "self"), (Str.ofString "policy"), (Str.ofString "name"), (Str.ofString "signs"), (Str.ofString "sign"), (Str.ofString "behind"), (Str.ofString "rule")]
abbrev P_Machine___init__ : List Str := [(Str.ofString "self"), (Str.ofString "policy")]
abbrev S_Machine_keeps : Stmt := (inClass (top 19) 5)
abbrev N_Machine_keeps : List Str := [(Str.ofString "self"), (Str.ofString "rule"), (Str.ofString "one"), (Str.ofString "word")]
abbrev P_Machine_keeps : List Str := [(Str.ofString "self"), (Str.ofString "rule"), (Str.ofString "one")]
abbrev S_Machine_fine : Stmt := (inClass (top 19) 6)
abbrev N_Machine_fine : List Str := [(Str.ofString "self"), (Str.ofString "state"), (Str.ofString "rule"), (Str.ofString "one")]
abbrev P_Machine_fine : List Str := [(Str.ofString "self"), (Str.ofString "state")]
abbrev S_Machine_counted : Stmt := (inClass (top 19) 3)
abbrev N_Machine_counted : List Str := [(Str.ofString "self"), (Str.ofString "many"), (Str.ofString "most"), (Str.ofString "is_bound")]
abbrev P_Machine_counted : List Str := [(Str.ofString "self"), (Str.ofString "many"), (Str.ofString "most"), (Str.ofString "is_bound")]
abbrev S_Machine_unmatched : Stmt := (inClass (top 19) 4)
abbrev N_Machine_unmatched : List Str := [(Str.ofString "self"), (Str.ofString "text"), (Str.ofString "end")]
abbrev P_Machine_unmatched : List Str := [(Str.ofString "self"), (Str.ofString "text"), (Str.ofString "end")]
abbrev S_Machine_moved : Stmt := (inClass (top 19) 2)
abbrev N_Machine_moved : List Str := [(Str.ofString "self"), (Str.ofString "rule"), (Str.ofString "one"), (Str.ofString "sign"), (Str.ofString "word"), (Str.ofString "name"), (Str.ofString "many")]
abbrev P_Machine_moved : List Str := [(Str.ofString "self"), (Str.ofString "rule"), (Str.ofString "one"), (Str.ofString "sign")]
abbrev S_Machine_step : Stmt := (inClass (top 19) 1)
abbrev N_Machine_step : List Str := [(Str.ofString "self"), (Str.ofString "state"), (Str.ofString "sign"), (Str.ofString "rule"), (Str.ofString "one"), (Str.ofString "new")]
abbrev P_Machine_step : List Str := [(Str.ofString "self"), (Str.ofString "state"), (Str.ofString "sign")]
abbrev S_Machine_nearest : Stmt := (inClass (top 19) 8)
abbrev N_Machine_nearest : List Str := [(Str.ofString "self"), (Str.ofString "state"), (Str.ofString "seen"), (Str.ofString "level"), (Str.ofString "later"), (Str.ofString "one"), (Str.ofString "text"), (Str.ofString "sign"), (Str.ofString "reached")]
abbrev P_Machine_nearest : List Str := [(Str.ofString "self"), (Str.ofString "state")]
abbrev S_first_of : Stmt := (top 24)
abbrev N_first_of : List Str := [(Str.ofString "policy"), (Str.ofString "machine")]
abbrev P_first_of : List Str := [(Str.ofString "policy")]
abbrev S_choices : Stmt := (top 28)
abbrev N_choices : List Str := [(Str.ofString "many"), (Str.ofString "size"), (Str.ofString "start"), (Str.ofString "found"), (Str.ofString "lowest"), (Str.ofString "rest")]
abbrev P_choices : List Str := [(Str.ofString "many"), (Str.ofString "size"), (Str.ofString "start")]
abbrev S_core : Stmt := (top 29)
abbrev N_core : List Str := [(Str.ofString "policy"), (Str.ofString "many"), (Str.ofString "size"), (Str.ofString "some"), (Str.ofString "at")]
abbrev P_core : List Str := [(Str.ofString "policy")]
abbrev S_first : Stmt := (top 25)
abbrev N_first : List Str := [(Str.ofString "policy")]
abbrev P_first : List Str := [(Str.ofString "policy")]
abbrev S__law_strings : Stmt := (top 38)
abbrev N__law_strings : List Str := [(Str.ofString "_law_policy_here"), (Str.ofString "_law_most"), (Str.ofString "_law_name"), (Str.ofString "_law_one"), (Str.ofString "_law_signs"), (Str.ofString "_law_found"), (Str.ofString "_law_newest"), (Str.ofString "_law_k"), (Str.ofString "_law_longer"), (Str.ofString "_law_text"), (Str.ofString "_law_sign")]
abbrev P__law_strings : List Str := [(Str.ofString "_law_policy_here"), (Str.ofString "_law_most")]
abbrev S__law_keeps : Stmt := (top 36)
abbrev N__law_keeps : List Str := [(Str.ofString "_law_classes_here"), (Str.ofString "_law_rule_here"), (Str.ofString "_law_text"), (Str.ofString "_law_word"), (Str.ofString "_law_own"), (Str.ofString "_law_name"), (Str.ofString "_law_signs"), (Str.ofString "_law_sign"), (Str.ofString "_law_many"), (Str.ofString "_law_at"), (Str.ofString "_law_part")]
abbrev P__law_keeps : List Str := [(Str.ofString "_law_classes_here"), (Str.ofString "_law_rule_here"), (Str.ofString "_law_text")]
abbrev S__law_allows : Stmt := (top 37)
abbrev N__law_allows : List Str := [(Str.ofString "_law_policy_here"), (Str.ofString "_law_text"), (Str.ofString "_law_rule_here")]
abbrev P__law_allows : List Str := [(Str.ofString "_law_policy_here"), (Str.ofString "_law_text")]
abbrev S_found_by : Stmt := (top 21)
abbrev N_found_by : List Str := [(Str.ofString "policy"), (Str.ofString "other"), (Str.ofString "wanted"), (Str.ofString "one"), (Str.ofString "two"), (Str.ofString "start"), (Str.ofString "seen"), (Str.ofString "level"), (Str.ofString "later"), (Str.ofString "key"), (Str.ofString "text"), (Str.ofString "sign"), (Str.ofString "reached")]
abbrev P_found_by : List Str := [(Str.ofString "policy"), (Str.ofString "other"), (Str.ofString "wanted")]
abbrev S_parting_of : Stmt := (top 22)
abbrev N_parting_of : List Str := [(Str.ofString "policy"), (Str.ofString "other")]
abbrev P_parting_of : List Str := [(Str.ofString "policy"), (Str.ofString "other")]
abbrev S_without : Stmt := (top 26)
abbrev N_without : List Str := [(Str.ofString "policy"), (Str.ofString "at")]
abbrev P_without : List Str := [(Str.ofString "policy"), (Str.ofString "at")]
abbrev S_idle : Stmt := (top 27)
abbrev N_idle : List Str := [(Str.ofString "policy"), (Str.ofString "at")]
abbrev P_idle : List Str := [(Str.ofString "policy")]
abbrev S_law : Stmt := (top 40)
abbrev N_law : List Str := [(Str.ofString "_law_script"), (Str.ofString "_law_town"), (Str.ofString "_law_classes_here"), (Str.ofString "_law_policy_here"), (Str.ofString "_law_told"), (Str.ofString "_law_back"), (Str.ofString "_law_at"), (Str.ofString "_law_rules"), (Str.ofString "_law_text"), (Str.ofString "_law_rest"), (Str.ofString "_law_found"), (Str.ofString "_law_calm"), (Str.ofString "_law_others"), (Str.ofString "_law_rule_here"), (Str.ofString "_law_wider")]
abbrev P_law : List Str := [(Str.ofString "_law_script")]
structure Ad where
  f__law_draw : Addr
  d__law_draw : FuncData
  f__law_pick : Addr
  d__law_pick : FuncData
  f__law_classes : Addr
  d__law_classes : FuncData
  f__law_rule : Addr
  d__law_rule : FuncData
  f__law_policy : Addr
  d__law_policy : FuncData
  f__law_bent : Addr
  d__law_bent : FuncData
  f_is_over : Addr
  d_is_over : FuncData
  f_are_classes : Addr
  d_are_classes : FuncData
  f_is_count : Addr
  d_is_count : FuncData
  f_is_name : Addr
  d_is_name : FuncData
  f_is_rule : Addr
  d_is_rule : FuncData
  f_signs_of : Addr
  d_signs_of : FuncData
  f_is_policy : Addr
  d_is_policy : FuncData
  f_need_policy : Addr
  d_need_policy : FuncData
  f_Machine___init__ : Addr
  d_Machine___init__ : FuncData
  f_Machine_keeps : Addr
  d_Machine_keeps : FuncData
  f_Machine_fine : Addr
  d_Machine_fine : FuncData
  f_Machine_counted : Addr
  d_Machine_counted : FuncData
  f_Machine_unmatched : Addr
  d_Machine_unmatched : FuncData
  f_Machine_moved : Addr
  d_Machine_moved : FuncData
  f_Machine_step : Addr
  d_Machine_step : FuncData
  f_Machine_nearest : Addr
  d_Machine_nearest : FuncData
  f_first_of : Addr
  d_first_of : FuncData
  f_choices : Addr
  d_choices : FuncData
  f_core : Addr
  d_core : FuncData
  f_first : Addr
  d_first : FuncData
  f__law_strings : Addr
  d__law_strings : FuncData
  f__law_keeps : Addr
  d__law_keeps : FuncData
  f__law_allows : Addr
  d__law_allows : FuncData
  f_found_by : Addr
  d_found_by : FuncData
  f_parting_of : Addr
  d_parting_of : FuncData
  f_without : Addr
  d_without : FuncData
  f_idle : Addr
  d_idle : FuncData
  f_law : Addr
  d_law : FuncData
  C_Machine : Addr
  a_STARTS : Addr
structure Txt (K : PySem.W.Frag) (w : World) (mg : Str → Option Value) (a : Ad) : Prop where
  F__law_draw : Fun K (Str.ofString "_law_draw") (Str.ofString "_law_draw") S__law_draw a.f__law_draw a.d__law_draw
  b__law_draw : Binds K a.d__law_draw P__law_draw []
  g__law_draw : mg (Str.ofString "_law_draw") = some (.ref a.f__law_draw)
  k__law_draw : PySem.W.keepIn K (.ref a.f__law_draw) = true
  F__law_pick : Fun K (Str.ofString "_law_pick") (Str.ofString "_law_pick") S__law_pick a.f__law_pick a.d__law_pick
  b__law_pick : Binds K a.d__law_pick P__law_pick []
  g__law_pick : mg (Str.ofString "_law_pick") = some (.ref a.f__law_pick)
  k__law_pick : PySem.W.keepIn K (.ref a.f__law_pick) = true
  F__law_classes : Fun K (Str.ofString "_law_classes") (Str.ofString "_law_classes") S__law_classes a.f__law_classes a.d__law_classes
  b__law_classes : Binds K a.d__law_classes P__law_classes []
  g__law_classes : mg (Str.ofString "_law_classes") = some (.ref a.f__law_classes)
  k__law_classes : PySem.W.keepIn K (.ref a.f__law_classes) = true
  F__law_rule : Fun K (Str.ofString "_law_rule") (Str.ofString "_law_rule") S__law_rule a.f__law_rule a.d__law_rule
  b__law_rule : Binds K a.d__law_rule P__law_rule []
  g__law_rule : mg (Str.ofString "_law_rule") = some (.ref a.f__law_rule)
  k__law_rule : PySem.W.keepIn K (.ref a.f__law_rule) = true
  F__law_policy : Fun K (Str.ofString "_law_policy") (Str.ofString "_law_policy") S__law_policy a.f__law_policy a.d__law_policy
  b__law_policy : Binds K a.d__law_policy P__law_policy []
  g__law_policy : mg (Str.ofString "_law_policy") = some (.ref a.f__law_policy)
  k__law_policy : PySem.W.keepIn K (.ref a.f__law_policy) = true
  F__law_bent : Fun K (Str.ofString "_law_bent") (Str.ofString "_law_bent") S__law_bent a.f__law_bent a.d__law_bent
  b__law_bent : Binds K a.d__law_bent P__law_bent []
  g__law_bent : mg (Str.ofString "_law_bent") = some (.ref a.f__law_bent)
  k__law_bent : PySem.W.keepIn K (.ref a.f__law_bent) = true
  F_is_over : Fun K (Str.ofString "is_over") (Str.ofString "is_over") S_is_over a.f_is_over a.d_is_over
  b_is_over : Binds K a.d_is_over P_is_over []
  g_is_over : mg (Str.ofString "is_over") = some (.ref a.f_is_over)
  k_is_over : PySem.W.keepIn K (.ref a.f_is_over) = true
  F_are_classes : Fun K (Str.ofString "are_classes") (Str.ofString "are_classes") S_are_classes a.f_are_classes a.d_are_classes
  b_are_classes : Binds K a.d_are_classes P_are_classes []
  g_are_classes : mg (Str.ofString "are_classes") = some (.ref a.f_are_classes)
  k_are_classes : PySem.W.keepIn K (.ref a.f_are_classes) = true
  F_is_count : Fun K (Str.ofString "is_count") (Str.ofString "is_count") S_is_count a.f_is_count a.d_is_count
  b_is_count : Binds K a.d_is_count P_is_count []
  g_is_count : mg (Str.ofString "is_count") = some (.ref a.f_is_count)
  k_is_count : PySem.W.keepIn K (.ref a.f_is_count) = true
  F_is_name : Fun K (Str.ofString "is_name") (Str.ofString "is_name") S_is_name a.f_is_name a.d_is_name
  b_is_name : Binds K a.d_is_name P_is_name []
  g_is_name : mg (Str.ofString "is_name") = some (.ref a.f_is_name)
  k_is_name : PySem.W.keepIn K (.ref a.f_is_name) = true
  F_is_rule : Fun K (Str.ofString "is_rule") (Str.ofString "is_rule") S_is_rule a.f_is_rule a.d_is_rule
  b_is_rule : Binds K a.d_is_rule P_is_rule []
  g_is_rule : mg (Str.ofString "is_rule") = some (.ref a.f_is_rule)
  k_is_rule : PySem.W.keepIn K (.ref a.f_is_rule) = true
  F_signs_of : Fun K (Str.ofString "signs_of") (Str.ofString "signs_of") S_signs_of a.f_signs_of a.d_signs_of
  b_signs_of : Binds K a.d_signs_of P_signs_of []
  g_signs_of : mg (Str.ofString "signs_of") = some (.ref a.f_signs_of)
  k_signs_of : PySem.W.keepIn K (.ref a.f_signs_of) = true
  F_is_policy : Fun K (Str.ofString "is_policy") (Str.ofString "is_policy") S_is_policy a.f_is_policy a.d_is_policy
  b_is_policy : Binds K a.d_is_policy P_is_policy []
  g_is_policy : mg (Str.ofString "is_policy") = some (.ref a.f_is_policy)
  k_is_policy : PySem.W.keepIn K (.ref a.f_is_policy) = true
  F_need_policy : Fun K (Str.ofString "need_policy") (Str.ofString "need_policy") S_need_policy a.f_need_policy a.d_need_policy
  b_need_policy : Binds K a.d_need_policy P_need_policy []
  g_need_policy : mg (Str.ofString "need_policy") = some (.ref a.f_need_policy)
  k_need_policy : PySem.W.keepIn K (.ref a.f_need_policy) = true
  F_Machine___init__ : Fun K (Str.ofString "__init__") (Str.ofString "Machine.__init__") S_Machine___init__ a.f_Machine___init__ a.d_Machine___init__
  b_Machine___init__ : Binds K a.d_Machine___init__ P_Machine___init__ []
  F_Machine_keeps : Fun K (Str.ofString "keeps") (Str.ofString "Machine.keeps") S_Machine_keeps a.f_Machine_keeps a.d_Machine_keeps
  b_Machine_keeps : Binds K a.d_Machine_keeps P_Machine_keeps []
  m_Machine_keeps : Meth K a.C_Machine (Str.ofString "keeps") a.f_Machine_keeps
  F_Machine_fine : Fun K (Str.ofString "fine") (Str.ofString "Machine.fine") S_Machine_fine a.f_Machine_fine a.d_Machine_fine
  b_Machine_fine : Binds K a.d_Machine_fine P_Machine_fine []
  m_Machine_fine : Meth K a.C_Machine (Str.ofString "fine") a.f_Machine_fine
  F_Machine_counted : Fun K (Str.ofString "counted") (Str.ofString "Machine.counted") S_Machine_counted a.f_Machine_counted a.d_Machine_counted
  b_Machine_counted : Binds K a.d_Machine_counted P_Machine_counted []
  m_Machine_counted : Meth K a.C_Machine (Str.ofString "counted") a.f_Machine_counted
  F_Machine_unmatched : Fun K (Str.ofString "unmatched") (Str.ofString "Machine.unmatched") S_Machine_unmatched a.f_Machine_unmatched a.d_Machine_unmatched
  b_Machine_unmatched : Binds K a.d_Machine_unmatched P_Machine_unmatched []
  m_Machine_unmatched : Meth K a.C_Machine (Str.ofString "unmatched") a.f_Machine_unmatched
  F_Machine_moved : Fun K (Str.ofString "moved") (Str.ofString "Machine.moved") S_Machine_moved a.f_Machine_moved a.d_Machine_moved
  b_Machine_moved : Binds K a.d_Machine_moved P_Machine_moved []
  m_Machine_moved : Meth K a.C_Machine (Str.ofString "moved") a.f_Machine_moved
  F_Machine_step : Fun K (Str.ofString "step") (Str.ofString "Machine.step") S_Machine_step a.f_Machine_step a.d_Machine_step
  b_Machine_step : Binds K a.d_Machine_step P_Machine_step []
  m_Machine_step : Meth K a.C_Machine (Str.ofString "step") a.f_Machine_step
  F_Machine_nearest : Fun K (Str.ofString "nearest") (Str.ofString "Machine.nearest") S_Machine_nearest a.f_Machine_nearest a.d_Machine_nearest
  b_Machine_nearest : Binds K a.d_Machine_nearest P_Machine_nearest []
  m_Machine_nearest : Meth K a.C_Machine (Str.ofString "nearest") a.f_Machine_nearest
  F_first_of : Fun K (Str.ofString "first_of") (Str.ofString "first_of") S_first_of a.f_first_of a.d_first_of
  b_first_of : Binds K a.d_first_of P_first_of []
  g_first_of : mg (Str.ofString "first_of") = some (.ref a.f_first_of)
  k_first_of : PySem.W.keepIn K (.ref a.f_first_of) = true
  F_choices : Fun K (Str.ofString "choices") (Str.ofString "choices") S_choices a.f_choices a.d_choices
  b_choices : Binds K a.d_choices P_choices []
  g_choices : mg (Str.ofString "choices") = some (.ref a.f_choices)
  k_choices : PySem.W.keepIn K (.ref a.f_choices) = true
  F_core : Fun K (Str.ofString "core") (Str.ofString "core") S_core a.f_core a.d_core
  b_core : Binds K a.d_core P_core []
  g_core : mg (Str.ofString "core") = some (.ref a.f_core)
  k_core : PySem.W.keepIn K (.ref a.f_core) = true
  F_first : Fun K (Str.ofString "first") (Str.ofString "first") S_first a.f_first a.d_first
  b_first : Binds K a.d_first P_first []
  g_first : mg (Str.ofString "first") = some (.ref a.f_first)
  k_first : PySem.W.keepIn K (.ref a.f_first) = true
  F__law_strings : Fun K (Str.ofString "_law_strings") (Str.ofString "_law_strings") S__law_strings a.f__law_strings a.d__law_strings
  b__law_strings : Binds K a.d__law_strings P__law_strings []
  g__law_strings : mg (Str.ofString "_law_strings") = some (.ref a.f__law_strings)
  k__law_strings : PySem.W.keepIn K (.ref a.f__law_strings) = true
  F__law_keeps : Fun K (Str.ofString "_law_keeps") (Str.ofString "_law_keeps") S__law_keeps a.f__law_keeps a.d__law_keeps
  b__law_keeps : Binds K a.d__law_keeps P__law_keeps []
  g__law_keeps : mg (Str.ofString "_law_keeps") = some (.ref a.f__law_keeps)
  k__law_keeps : PySem.W.keepIn K (.ref a.f__law_keeps) = true
  F__law_allows : Fun K (Str.ofString "_law_allows") (Str.ofString "_law_allows") S__law_allows a.f__law_allows a.d__law_allows
  b__law_allows : Binds K a.d__law_allows P__law_allows []
  g__law_allows : mg (Str.ofString "_law_allows") = some (.ref a.f__law_allows)
  k__law_allows : PySem.W.keepIn K (.ref a.f__law_allows) = true
  F_found_by : Fun K (Str.ofString "found_by") (Str.ofString "found_by") S_found_by a.f_found_by a.d_found_by
  b_found_by : Binds K a.d_found_by P_found_by []
  g_found_by : mg (Str.ofString "found_by") = some (.ref a.f_found_by)
  k_found_by : PySem.W.keepIn K (.ref a.f_found_by) = true
  F_parting_of : Fun K (Str.ofString "parting_of") (Str.ofString "parting_of") S_parting_of a.f_parting_of a.d_parting_of
  b_parting_of : Binds K a.d_parting_of P_parting_of []
  g_parting_of : mg (Str.ofString "parting_of") = some (.ref a.f_parting_of)
  k_parting_of : PySem.W.keepIn K (.ref a.f_parting_of) = true
  F_without : Fun K (Str.ofString "without") (Str.ofString "without") S_without a.f_without a.d_without
  b_without : Binds K a.d_without P_without []
  g_without : mg (Str.ofString "without") = some (.ref a.f_without)
  k_without : PySem.W.keepIn K (.ref a.f_without) = true
  F_idle : Fun K (Str.ofString "idle") (Str.ofString "idle") S_idle a.f_idle a.d_idle
  b_idle : Binds K a.d_idle P_idle []
  g_idle : mg (Str.ofString "idle") = some (.ref a.f_idle)
  k_idle : PySem.W.keepIn K (.ref a.f_idle) = true
  F_law : Fun K (Str.ofString "law") (Str.ofString "law") S_law a.f_law a.d_law
  b_law : Binds K a.d_law P_law []
  g_law : mg (Str.ofString "law") = some (.ref a.f_law)
  k_law : PySem.W.keepIn K (.ref a.f_law) = true
  cl_Machine : L2.Cls K a.C_Machine
  g_Machine : mg (Str.ofString "Machine") = some (.ref a.C_Machine)
  mk_Machine : Mk K a.C_Machine a.f_Machine___init__
  na_Machine_followers : NoAttr K a.C_Machine (Str.ofString "followers")
  na_Machine_known : NoAttr K a.C_Machine (Str.ofString "known")
  na_Machine_names : NoAttr K a.C_Machine (Str.ofString "names")
  na_Machine_rules : NoAttr K a.C_Machine (Str.ofString "rules")
  na_Machine_signs : NoAttr K a.C_Machine (Str.ofString "signs")
  na_Machine_start : NoAttr K a.C_Machine (Str.ofString "start")
  z_all : mg (Str.ofString "all") = none
  z_any : mg (Str.ofString "any") = none
  z_bool : mg (Str.ofString "bool") = none
  z_int : mg (Str.ofString "int") = none
  z_isinstance : mg (Str.ofString "isinstance") = none
  z_len : mg (Str.ofString "len") = none
  z_list : mg (Str.ofString "list") = none
  z_min : mg (Str.ofString "min") = none
  z_range : mg (Str.ofString "range") = none
  z_set : mg (Str.ofString "set") = none
  z_sorted : mg (Str.ofString "sorted") = none
  z_str : mg (Str.ofString "str") = none
  z_tuple : mg (Str.ofString "tuple") = none
  z_zip : mg (Str.ofString "zip") = none
  g_CLASSES : ∃ t, mg (Str.ofString "CLASSES") = some (.int 4 t)
  g_LOWER : ∃ t, mg (Str.ofString "LOWER") = some (.str K_LOWER t)
  g_RULES : ∃ t, mg (Str.ofString "RULES") = some (.int 6 t)
  g_SIGNS : ∃ t, mg (Str.ofString "SIGNS") = some (.str K_SIGNS t)
  g_SIZE : ∃ t, mg (Str.ofString "SIZE") = some (.int 12 t)
  g_STARTS : mg (Str.ofString "STARTS") = some (.ref a.a_STARTS)
  kd_STARTS : KDD K w a.a_STARTS KT_STARTS
section
variable {P : Program} {w : World} {K : PySem.W.Frag} {mg : Str → Option Value} {base : Heap} {a : Ad} {sp : DSp}
theorem sc__law_draw : FnScope N__law_draw P__law_draw (defScope S__law_draw) := ⟨rfl, rfl, rfl, by decide +kernel, rfl, by decide +kernel, by decide +kernel⟩
theorem ok__law_draw (T : Txt K w mg a) (len : ∀ ds M R, sp ds M R → ds.length = 3) (law : ∀ ds M R, sp ds M R → R__law_draw (topE R) (startD 6 ds) M) :
    FnOk P w K mg base CX0 1 a.f__law_draw a.d__law_draw P__law_draw (lsp w K sp) :=
  okD T.F__law_draw sc__law_draw rfl len fun cdv A outer s H E hr => ⟨_,
      (ss_cons (s_if (t_cmp o_gt (e_ix hr.units (ev 1) e_int) e_int rfl) (ss_cons (s_set (i := 3) sc__law_draw.nd rfl (by first | exact .inl rfl | exact .inr rfl) (e_op o_mod (e_ix hr.units (ev 1) e_int) (ev 2)))
      (ss_cons (s_asg (e_op o_fdiv (e_ix hr.units (ev 1) e_int) (ev 2)) (g_sub hr.units (ev 1) e_int (pg := pg_sub (ev 1) e_int (p_set hr.units))))
      (ss_one (s_ret (ev 3))))) ss_nil)
      (ss_cons (s_set (i := 4) sc__law_draw.nd rfl (by first | exact .inl rfl | exact .inr rfl) (e_ix hr.units (ev 1) e_int))
      (ss_cons (s_augS hr.units (ev 1) e_int e_int i_add)
      (ss_cons (s_if (t_cmp (o_eq hr.units) (ev 0) (e_lst a_nil) rfl) (ss_one (s_ret (e_op o_mod (ev 4) (ev 2)))) ss_nil)
      (ss_cons (s_if (TX.wx (w_and (t_cmp o_lt (ev 4) (e_cb c_len rfl T.z_len rfl (a_cons (ev 0) a_nil)) rfl) (w_and1 (t_cmp o_ge (e_ix hr.units (ev 0) (ev 4)) (e_op o_pow e_int e_int) rfl)))) (ss_cons (s_asg (e_op o_mod (e_op o_fdiv (e_ix hr.units (ev 0) (ev 4)) (ev 2)) (e_op o_mul (e_op o_pow e_int e_int) (e_op o_pow e_int e_int))) (g_sub hr.units (ev 1) e_int (pg := pg_sub (ev 1) e_int (p_set hr.units))))
      (ss_one (s_ret (e_op o_mod (e_ix hr.units (ev 0) (ev 4)) (ev 2))))) ss_nil)
      (ss_cons (s_set (i := 5) sc__law_draw.nd rfl (by first | exact .inl rfl | exact .inr rfl) (e_op o_mod (e_op o_add (e_op o_add (e_op o_mul (e_ix hr.units (ev 0) (e_op o_mod (ev 4) (e_cb c_len rfl T.z_len rfl (a_cons (ev 0) a_nil)))) e_int) (e_op o_mul e_int (ev 4))) e_int) e_int))
      (ss_one (s_ret (e_op o_mod (e_op o_mod (e_op o_mod (e_op o_pow (ev 5) e_int) e_int) e_int) (ev 2)))))))))),
      fun ds M R h => law ds M R h⟩
theorem sc__law_pick : FnScope N__law_pick P__law_pick (defScope S__law_pick) := ⟨rfl, rfl, rfl, by decide +kernel, rfl, by decide +kernel, by decide +kernel⟩
theorem ok__law_pick {sp__law_draw : DSp} (T : Txt K w mg a) (G__law_draw : FnOk P w K mg base CX0 1 a.f__law_draw a.d__law_draw P__law_draw (lsp w K sp__law_draw)) (len : ∀ ds M R, sp ds M R → ds.length = 3) (law : ∀ ds M R, sp ds M R → R__law_pick sp__law_draw (topE R) (startD 3 ds) M) :
    FnOk P w K mg base CX0 2 a.f__law_pick a.d__law_pick P__law_pick (lsp w K sp) :=
  okD T.F__law_pick sc__law_pick rfl len fun cdv A outer s H E hr => ⟨_,
      (ss_one (s_ret (e_ix hr.units (ev 2) (e_call G__law_draw (hr.mono (by decide)) rfl T.g__law_draw T.k__law_draw T.b__law_draw pass0 (a_cons (ev 0) (a_cons (ev 1) (a_cons (e_cb c_len rfl T.z_len rfl (a_cons (ev 2) a_nil)) a_nil))))))),
      fun ds M R h => law ds M R h⟩
theorem sc__law_classes : FnScope N__law_classes P__law_classes (defScope S__law_classes) := ⟨rfl, rfl, rfl, by decide +kernel, rfl, by decide +kernel, by decide +kernel⟩
theorem ok__law_classes {sp__law_pick : DSp} (T : Txt K w mg a) (G__law_pick : FnOk P w K mg base CX0 2 a.f__law_pick a.d__law_pick P__law_pick (lsp w K sp__law_pick)) (len : ∀ ds M R, sp ds M R → ds.length = 2) (law : ∀ ds M R, sp ds M R → R__law_classes sp__law_pick (topE R) (startD 3 ds) M) :
    FnOk P w K mg base CX0 3 a.f__law_classes a.d__law_classes P__law_classes (lsp w K sp) :=
  okD T.F__law_classes sc__law_classes rfl len fun cdv A outer s H E hr => ⟨_,
      (ss_cons (s_set (i := 2) sc__law_classes.nd rfl (by first | exact .inl rfl | exact .inr rfl) (e_lst (a_cons (e_tup (a_cons (e_tup (a_cons e_str (a_cons e_str a_nil))) (a_cons (e_tup (a_cons e_str (a_cons e_str a_nil))) a_nil))) (a_cons (e_tup (a_cons (e_tup (a_cons e_str (a_cons e_str a_nil))) (a_cons (e_tup (a_cons e_str (a_cons e_str a_nil))) a_nil))) (a_cons (e_tup (a_cons (e_tup (a_cons e_str (a_cons e_str a_nil))) a_nil)) a_nil)))))
      (ss_one (s_ret (e_call G__law_pick (hr.mono (by decide)) rfl T.g__law_pick T.k__law_pick T.b__law_pick pass0 (a_cons (ev 0) (a_cons (ev 1) (a_cons (e_op o_add (ev 2) (e_lst (a_cons (e_tup (a_cons (e_tup (a_cons e_str (a_cons e_str a_nil))) (a_cons (e_tup (a_cons e_str (a_cons e_str a_nil))) (a_cons (e_tup (a_cons e_str (a_cons e_str a_nil))) a_nil)))) (a_cons (e_tup (a_cons (e_tup (a_cons e_str (a_cons e_str a_nil))) (a_cons (e_tup (a_cons e_str (a_cons e_str a_nil))) a_nil))) a_nil)))) a_nil))))))),
      fun ds M R h => law ds M R h⟩
theorem sc__law_rule : FnScope N__law_rule P__law_rule (defScope S__law_rule) := ⟨rfl, rfl, rfl, by decide +kernel, rfl, by decide +kernel, by decide +kernel⟩
theorem ok__law_rule {sp__law_pick : DSp} {sp__law_draw : DSp} (T : Txt K w mg a) (G__law_pick : FnOk P w K mg base CX0 2 a.f__law_pick a.d__law_pick P__law_pick (lsp w K sp__law_pick)) (G__law_draw : FnOk P w K mg base CX0 1 a.f__law_draw a.d__law_draw P__law_draw (lsp w K sp__law_draw)) (len : ∀ ds M R, sp ds M R → ds.length = 3) (law : ∀ ds M R, sp ds M R → R__law_rule sp__law_pick sp__law_draw (topE R) (startD 11 ds) M) :
    FnOk P w K mg base CX0 3 a.f__law_rule a.d__law_rule P__law_rule (lsp w K sp) :=
  okD T.F__law_rule sc__law_rule rfl len fun cdv A outer s H E hr => ⟨_,
      (ss_cons (s_asg (e_tup (a_cons (e_ix hr.units (e_call G__law_pick (hr.mono (by decide)) rfl T.g__law_pick T.k__law_pick T.b__law_pick pass0 (a_cons (ev 0) (a_cons (ev 1) (a_cons (ev 2) a_nil)))) e_int) (a_cons (e_bm PySem.F.plainAttrs_str PySem.F.slot_str_join PySem.F.type_str_join m_join e_str (a_cons (e_lc rfl sc__law_rule.nd (i_any (ev 2)) (blkOk_by (own := [((Str.ofString "_law_other"), 3), ((Str.ofString "_law_one"), 4)]) (N := N__law_rule) (sc := defScope S__law_rule) (by decide +kernel)) (own_tup (owns_cons (own_name (by decide)) (owns_cons (own_name (by decide)) owns_nil))) (fun _ _ _ _ _ => (pg_tup rfl (pgs_cons (pg_name sc__law_rule.nd rfl (by first | exact .inl rfl | exact .inr rfl)) (pgs_cons (pg_name sc__law_rule.nd rfl (by first | exact .inl rfl | exact .inr rfl)) pgs_nil)))) (fun _ _ _ _ _ => ifs_nil) (fun _ _ _ _ _ => (ev 4))) a_nil)) a_nil))) (g_tup rfl (gs_cons (g_name sc__law_rule.nd rfl (by first | exact .inl rfl | exact .inr rfl)) (gs_cons (g_name sc__law_rule.nd rfl (by first | exact .inl rfl | exact .inr rfl)) gs_nil))))
      (ss_cons (s_par rfl sc__law_rule.nd rfl rfl (by decide) rfl rfl (a_cons (e_call G__law_draw (hr.mono (by decide)) rfl T.g__law_draw T.k__law_draw T.b__law_draw pass0 (a_cons (ev 0) (a_cons (ev 1) (a_cons e_int a_nil)))) (a_cons (e_op o_add e_int (e_call G__law_draw (hr.mono (by decide)) rfl T.g__law_draw T.k__law_draw T.b__law_draw pass0 (a_cons (ev 0) (a_cons (ev 1) (a_cons e_int a_nil))))) a_nil)) rfl)
      (ss_cons (s_if (t_cmp o_lt (ev 7) e_int rfl) (ss_cons (s_set (i := 9) sc__law_rule.nd rfl (by first | exact .inl rfl | exact .inr rfl) (e_call G__law_draw (hr.mono (by decide)) rfl T.g__law_draw T.k__law_draw T.b__law_draw pass0 (a_cons (ev 0) (a_cons (ev 1) (a_cons e_int a_nil)))))
      (ss_one (s_ret (e_tup (a_cons e_str (a_cons (ev 9) (a_cons (e_call G__law_pick (hr.mono (by decide)) rfl T.g__law_pick T.k__law_pick T.b__law_pick pass0 (a_cons (ev 0) (a_cons (ev 1) (a_cons (e_lst (a_cons e_non (a_cons (e_op o_add (ev 9) (ev 8)) (a_cons (e_op o_add (ev 9) e_int) (a_cons (ev 9) a_nil))))) a_nil)))) a_nil))))))) ss_nil)
      (ss_cons (s_if (t_cmp o_lt (ev 7) e_int rfl) (ss_one (s_ret (e_tup (a_cons (e_ix hr.units (e_lst (a_cons e_str (a_cons e_str a_nil))) (e_op o_sub (ev 7) e_int)) (a_cons (ev 5) (a_cons (ev 8) a_nil)))))) ss_nil)
      (ss_cons (s_if (t_cmp o_lt (ev 7) e_int rfl) (ss_one (s_ret (e_tup (a_cons (e_ix hr.units (e_lst (a_cons e_str (a_cons e_str (a_cons e_str a_nil)))) (e_op o_sub (ev 7) e_int)) (a_cons (e_if (t_cmp o_gt (ev 7) e_int rfl) (ev 8) (e_cb (c_min rfl) rfl T.z_min rfl (a_cons (ev 8) (a_cons (e_cb c_len rfl T.z_len rfl (a_cons (ev 2) a_nil)) a_nil)))) a_nil))))) ss_nil)
      (ss_cons (s_if (t_cmp (o_eq hr.units) (ev 7) e_int rfl) (ss_one (s_ret (e_tup (a_cons e_str (a_cons (e_bm PySem.F.plainAttrs_str PySem.F.slot_str_join PySem.F.type_str_join m_join e_str (a_cons (e_lc rfl sc__law_rule.nd (i_range1 rfl T.z_range (ev 8)) (blkOk_by (own := [((Str.ofString "_law_k"), 10)]) (N := N__law_rule) (sc := defScope S__law_rule) (by decide +kernel)) (own_name (by decide)) (fun _ _ _ _ _ => (pg_name sc__law_rule.nd rfl (by first | exact .inl rfl | exact .inr rfl))) (fun _ _ _ _ _ => ifs_nil) (fun _ _ _ _ _ => (e_call G__law_pick (hr.mono (by decide)) rfl T.g__law_pick T.k__law_pick T.b__law_pick pass0 (a_cons (ev 0) (a_cons (ev 1) (a_cons (ev 6) a_nil)))))) a_nil)) a_nil))))) ss_nil)
      (ss_one (s_ret (e_tup (a_cons (e_ix hr.units (e_lst (a_cons e_str (a_cons e_str a_nil))) (e_op o_sub (ev 7) e_int)) (a_cons (ev 5) a_nil))))))))))),
      fun ds M R h => law ds M R h⟩
theorem sc__law_policy : FnScope N__law_policy P__law_policy (defScope S__law_policy) := ⟨rfl, rfl, rfl, by decide +kernel, rfl, by decide +kernel, by decide +kernel⟩
theorem ok__law_policy {sp__law_draw : DSp} {sp__law_rule : DSp} (T : Txt K w mg a) (G__law_draw : FnOk P w K mg base CX0 1 a.f__law_draw a.d__law_draw P__law_draw (lsp w K sp__law_draw)) (G__law_rule : FnOk P w K mg base CX0 3 a.f__law_rule a.d__law_rule P__law_rule (lsp w K sp__law_rule)) (len : ∀ ds M R, sp ds M R → ds.length = 4) (law : ∀ ds M R, sp ds M R → R__law_policy sp__law_draw sp__law_rule (topE R) (startD 7 ds) M) :
    FnOk P w K mg base CX0 4 a.f__law_policy a.d__law_policy P__law_policy (lsp w K sp) :=
  okD T.F__law_policy sc__law_policy rfl len fun cdv A outer s H E hr => ⟨_,
      (ss_cons (s_set (i := 4) sc__law_policy.nd rfl (by first | exact .inl rfl | exact .inr rfl) (e_lst a_nil))
      (ss_cons (s_for PassesOwn.never rfl (i_range1 rfl T.z_range (e_call G__law_draw (hr.mono (by decide)) rfl T.g__law_draw T.k__law_draw T.b__law_draw pass0 (a_cons (ev 0) (a_cons (ev 1) (a_cons (e_op o_add (ev 3) e_int) a_nil))))) (g_name sc__law_policy.nd rfl (by first | exact .inl rfl | exact .inr rfl)) (ss_cons (s_set (i := 6) sc__law_policy.nd rfl (by first | exact .inl rfl | exact .inr rfl) (e_call G__law_rule (hr.mono (by decide)) rfl T.g__law_rule T.k__law_rule T.b__law_rule pass0 (a_cons (ev 0) (a_cons (ev 1) (a_cons (ev 2) a_nil)))))
      (ss_one (s_if (t_cmp (o_nin hr.units) (ev 6) (ev 4) rfl) (ss_one (s_expr (e_bm PySem.F.plainAttrs_list PySem.F.slot_list_append PySem.F.type_list_append m_append (ev 4) (a_cons (ev 6) a_nil)))) ss_nil))))
      (ss_one (s_ret (e_tup (a_cons (ev 2) (a_cons (e_ct c_tuple rfl T.z_tuple rfl (a_cons (ev 4) a_nil)) a_nil))))))),
      fun ds M R h => law ds M R h⟩
theorem sc__law_bent : FnScope N__law_bent P__law_bent (defScope S__law_bent) := ⟨rfl, rfl, rfl, by decide +kernel, rfl, by decide +kernel, by decide +kernel⟩
theorem ok__law_bent {sp__law_pick : DSp} {sp__law_policy : DSp} {sp__law_draw : DSp} (T : Txt K w mg a) (G__law_pick : FnOk P w K mg base CX0 2 a.f__law_pick a.d__law_pick P__law_pick (lsp w K sp__law_pick)) (G__law_policy : FnOk P w K mg base CX0 4 a.f__law_policy a.d__law_policy P__law_policy (lsp w K sp__law_policy)) (G__law_draw : FnOk P w K mg base CX0 1 a.f__law_draw a.d__law_draw P__law_draw (lsp w K sp__law_draw)) (len : ∀ ds M R, sp ds M R → ds.length = 3) (law : ∀ ds M R, sp ds M R → R__law_bent sp__law_pick sp__law_policy sp__law_draw (topE R) (startD 8 ds) M) :
    FnOk P w K mg base CX0 5 a.f__law_bent a.d__law_bent P__law_bent (lsp w K sp) :=
  okD T.F__law_bent sc__law_bent rfl len fun cdv A outer s H E hr => ⟨_,
      (ss_cons (s_par rfl sc__law_bent.nd rfl rfl (by decide) rfl rfl (a_cons (e_ix hr.units (e_ix hr.units (ev 2) e_int) e_int) (a_cons (e_ix hr.units (e_ix hr.units (ev 2) (e_un u_neg e_int)) e_int) a_nil)) rfl)
      (ss_cons (s_set (i := 5) sc__law_bent.nd rfl (by first | exact .inl rfl | exact .inr rfl) (e_lst (a_cons (e_tup (a_cons (e_tup (a_cons e_str (a_cons (ev 3) (a_cons e_int a_nil)))) (a_cons (e_tup (a_cons e_str (a_cons (ev 3) a_nil))) a_nil))) (a_cons (e_tup (a_cons (e_tup (a_cons e_str (a_cons e_int (a_cons e_int a_nil)))) (a_cons (e_tup (a_cons e_str (a_cons (ev 3) (a_cons e_int a_nil)))) a_nil))) a_nil))))
      (ss_cons (s_expr (e_bm PySem.F.plainAttrs_list PySem.F.slot_list_extend PySem.F.type_list_extend m_extend (ev 5) (a_cons (e_lst (a_cons (e_tup (a_cons (e_tup (a_cons e_str (a_cons (ev 4) a_nil))) (a_cons (e_tup (a_cons e_str (a_cons e_int (a_cons e_int a_nil)))) a_nil))) a_nil)) a_nil)))
      (ss_cons (s_expr (e_bm PySem.F.plainAttrs_list PySem.F.slot_list_extend PySem.F.type_list_extend m_extend (ev 5) (a_cons (e_lst (a_cons (e_tup (a_cons (e_tup (a_cons e_str (a_cons (e_cb c_len rfl T.z_len rfl (a_cons (ev 2) a_nil)) a_nil))) (a_cons (e_tup (a_cons e_str (a_cons (ev 4) (a_cons e_int a_nil)))) a_nil))) a_nil)) a_nil)))
      (ss_cons (s_expr (e_bm PySem.F.plainAttrs_list PySem.F.slot_list_extend PySem.F.type_list_extend m_extend (ev 5) (a_cons (e_lst (a_cons (e_tup (a_cons (e_tup (a_cons e_str (a_cons e_int a_nil))) (a_cons (e_tup (a_cons e_str (a_cons e_int a_nil))) (a_cons (e_tup (a_cons e_str (a_cons e_int (a_cons e_non a_nil)))) (a_cons (e_tup (a_cons e_str (a_cons (ev 3) (a_cons e_int a_nil)))) a_nil))))) a_nil)) a_nil)))
      (ss_cons (s_set (i := 6) sc__law_bent.nd rfl (by first | exact .inl rfl | exact .inr rfl) (e_ct c_list rfl T.z_list rfl (a_cons (e_call G__law_pick (hr.mono (by decide)) rfl T.g__law_pick T.k__law_pick T.b__law_pick pass0 (a_cons (ev 0) (a_cons (ev 1) (a_cons (ev 5) a_nil)))) a_nil)))
      (ss_cons (s_for PassesOwn.never rfl (i_any (e_ix hr.units (e_call G__law_policy (hr.mono (by decide)) rfl T.g__law_policy T.k__law_policy T.b__law_policy pass0 (a_cons (ev 0) (a_cons (ev 1) (a_cons (ev 2) (a_cons e_int a_nil))))) e_int)) (g_name sc__law_bent.nd rfl (by first | exact .inl rfl | exact .inr rfl)) (ss_one (s_if (t_cmp (o_nin hr.units) (ev 7) (ev 6) rfl) (ss_one (s_expr (e_bm PySem.F.plainAttrs_list PySem.F.slot_list_insert PySem.F.type_list_insert m_insert (ev 6) (a_cons (e_call G__law_draw (hr.mono (by decide)) rfl T.g__law_draw T.k__law_draw T.b__law_draw pass0 (a_cons (ev 0) (a_cons (ev 1) (a_cons (e_op o_add (e_cb c_len rfl T.z_len rfl (a_cons (ev 6) a_nil)) e_int) a_nil)))) (a_cons (ev 7) a_nil))))) ss_nil)))
      (ss_one (s_ret (e_tup (a_cons (ev 2) (a_cons (e_ct c_tuple rfl T.z_tuple rfl (a_cons (ev 6) a_nil)) a_nil)))))))))))),
      fun ds M R h => law ds M R h⟩
theorem sc_is_over : FnScope N_is_over P_is_over (defScope S_is_over) := ⟨rfl, rfl, rfl, by decide +kernel, rfl, by decide +kernel, by decide +kernel⟩
theorem ok_is_over (T : Txt K w mg a) (len : ∀ ds M R, sp ds M R → ds.length = 4) (law : ∀ ds M R, sp ds M R → R_is_over (topE R) (startD 5 ds) M) :
    FnOk P w K mg base CX0 1 a.f_is_over a.d_is_over P_is_over (lsp w K sp) :=
  okD T.F_is_over sc_is_over rfl len fun cdv A outer s H E hr => ⟨_,
      (ss_one (s_ret (e_and (e_cb c_isi rfl T.z_isinstance rfl (a_cons (ev 0) (a_cons (e_ty (n := "str") rfl T.z_str rfl) a_nil))) (e_and (e_chain o_le o_le (ev 2) (e_cb c_len rfl T.z_len rfl (a_cons (ev 0) a_nil)) (ev 3)) (e_one (e_cb (c_all rfl) rfl T.z_all rfl (a_cons (e_lc rfl sc_is_over.nd (i_any (ev 0)) (blkOk_by (own := [((Str.ofString "sign"), 4)]) (N := N_is_over) (sc := defScope S_is_over) (by decide +kernel)) (own_name (by decide)) (fun _ _ _ _ _ => (pg_name sc_is_over.nd rfl (by first | exact .inl rfl | exact .inr rfl))) (fun _ _ _ _ _ => ifs_nil) (fun _ _ _ _ _ => (e_cmp (o_in hr.units) (ev 4) (ev 1) rfl))) a_nil))))))),
      fun ds M R h => law ds M R h⟩
theorem sc_are_classes : FnScope N_are_classes P_are_classes (defScope S_are_classes) := ⟨rfl, rfl, rfl, by decide +kernel, rfl, by decide +kernel, by decide +kernel⟩
theorem ok_are_classes {sp_is_over : DSp} (T : Txt K w mg a) (G_is_over : FnOk P w K mg base CX0 1 a.f_is_over a.d_is_over P_is_over (lsp w K sp_is_over)) (len : ∀ ds M R, sp ds M R → ds.length = 1) (law : ∀ ds M R, sp ds M R → R_are_classes sp_is_over (topE R) (startD 4 ds) M) :
    FnOk P w K mg base CX0 2 a.f_are_classes a.d_are_classes P_are_classes (lsp w K sp) :=
  okD T.F_are_classes sc_are_classes rfl len fun cdv A outer s H E hr => ⟨_,
      (ss_cons (s_if (TX.wx (w_or (t_not (t_tru (e_cb c_isi rfl T.z_isinstance rfl (a_cons (ev 0) (a_cons (e_ty (n := "tuple") rfl T.z_tuple rfl) a_nil))))) (w_or1 (t_not (t_chain o_le o_le e_int (e_cb c_len rfl T.z_len rfl (a_cons (ev 0) a_nil)) (e_gint rfl T.g_CLASSES)))))) (ss_one (s_ret e_bl)) ss_nil)
      (ss_cons (s_if (t_not (t_tru (e_cb (c_all rfl) rfl T.z_all rfl (a_cons (e_lc rfl sc_are_classes.nd (i_any (ev 0)) (blkOk_by (own := [((Str.ofString "pair"), 1)]) (N := N_are_classes) (sc := defScope S_are_classes) (by decide +kernel)) (own_name (by decide)) (fun _ _ _ _ _ => (pg_name sc_are_classes.nd rfl (by first | exact .inl rfl | exact .inr rfl))) (fun _ _ _ _ _ => ifs_nil) (fun _ _ _ _ _ => (e_and (e_cb c_isi rfl T.z_isinstance rfl (a_cons (ev 1) (a_cons (e_ty (n := "tuple") rfl T.z_tuple rfl) a_nil))) (e_one (e_cmp (o_eq hr.units) (e_cb c_len rfl T.z_len rfl (a_cons (ev 1) a_nil)) e_int rfl))))) a_nil)))) (ss_one (s_ret e_bl)) ss_nil)
      (ss_cons (s_if (t_not (t_tru (e_cb (c_all rfl) rfl T.z_all rfl (a_cons (e_lc rfl sc_are_classes.nd (i_any (ev 0)) (blkOk_by (own := [((Str.ofString "pair"), 1)]) (N := N_are_classes) (sc := defScope S_are_classes) (by decide +kernel)) (own_name (by decide)) (fun _ _ _ _ _ => (pg_name sc_are_classes.nd rfl (by first | exact .inl rfl | exact .inr rfl))) (fun _ _ _ _ _ => ifs_nil) (fun _ _ _ _ _ => (e_and (e_call G_is_over (hr.mono (by decide)) rfl T.g_is_over T.k_is_over T.b_is_over pass0 (a_cons (e_ix hr.units (ev 1) e_int) (a_cons (e_gstr rfl T.g_LOWER) (a_cons e_int (a_cons e_int a_nil))))) (e_one (e_call G_is_over (hr.mono (by decide)) rfl T.g_is_over T.k_is_over T.b_is_over pass0 (a_cons (e_ix hr.units (ev 1) e_int) (a_cons (e_gstr rfl T.g_SIGNS) (a_cons e_int (a_cons e_int a_nil))))))))) a_nil)))) (ss_one (s_ret e_bl)) ss_nil)
      (ss_cons (s_par rfl sc_are_classes.nd rfl rfl (by decide) rfl rfl (a_cons (e_lc rfl sc_are_classes.nd (i_any (ev 0)) (blkOk_by (own := [((Str.ofString "pair"), 1)]) (N := N_are_classes) (sc := defScope S_are_classes) (by decide +kernel)) (own_name (by decide)) (fun _ _ _ _ _ => (pg_name sc_are_classes.nd rfl (by first | exact .inl rfl | exact .inr rfl))) (fun _ _ _ _ _ => ifs_nil) (fun _ _ _ _ _ => (e_ix hr.units (ev 1) e_int))) (a_cons (e_bm PySem.F.plainAttrs_str PySem.F.slot_str_join PySem.F.type_str_join m_join e_str (a_cons (e_lc rfl sc_are_classes.nd (i_any (ev 0)) (blkOk_by (own := [((Str.ofString "pair"), 1)]) (N := N_are_classes) (sc := defScope S_are_classes) (by decide +kernel)) (own_name (by decide)) (fun _ _ _ _ _ => (pg_name sc_are_classes.nd rfl (by first | exact .inl rfl | exact .inr rfl))) (fun _ _ _ _ _ => ifs_nil) (fun _ _ _ _ _ => (e_ix hr.units (ev 1) e_int))) a_nil)) a_nil)) rfl)
      (ss_one (s_ret (e_and (e_cmp (o_eq hr.units) (e_cb c_len rfl T.z_len rfl (a_cons (ev 2) a_nil)) (e_lenset rfl hr.units rfl T.z_len rfl T.z_set (ev 2)) rfl) (e_one (e_cmp (o_eq hr.units) (e_cb c_len rfl T.z_len rfl (a_cons (ev 3) a_nil)) (e_lenset rfl hr.units rfl T.z_len rfl T.z_set (ev 3)) rfl))))))))),
      fun ds M R h => law ds M R h⟩
theorem sc_is_count : FnScope N_is_count P_is_count (defScope S_is_count) := ⟨rfl, rfl, rfl, by decide +kernel, rfl, by decide +kernel, by decide +kernel⟩
theorem ok_is_count (T : Txt K w mg a) (len : ∀ ds M R, sp ds M R → ds.length = 3) (law : ∀ ds M R, sp ds M R → R_is_count (topE R) (startD 3 ds) M) :
    FnOk P w K mg base CX0 1 a.f_is_count a.d_is_count P_is_count (lsp w K sp) :=
  okD T.F_is_count sc_is_count rfl len fun cdv A outer s H E hr => ⟨_,
      (ss_one (s_ret (e_and (e_cb c_isi rfl T.z_isinstance rfl (a_cons (ev 0) (a_cons (e_ty (n := "int") rfl T.z_int rfl) a_nil))) (e_and (e_not (e_cb c_isi rfl T.z_isinstance rfl (a_cons (ev 0) (a_cons (e_ty (n := "bool") rfl T.z_bool rfl) a_nil)))) (e_one (e_chain o_le o_le (ev 1) (ev 0) (ev 2))))))),
      fun ds M R h => law ds M R h⟩
theorem sc_is_name : FnScope N_is_name P_is_name (defScope S_is_name) := ⟨rfl, rfl, rfl, by decide +kernel, rfl, by decide +kernel, by decide +kernel⟩
theorem ok_is_name (T : Txt K w mg a) (len : ∀ ds M R, sp ds M R → ds.length = 2) (law : ∀ ds M R, sp ds M R → R_is_name (topE R) (startD 2 ds) M) :
    FnOk P w K mg base CX0 1 a.f_is_name a.d_is_name P_is_name (lsp w K sp) :=
  okD T.F_is_name sc_is_name rfl len fun cdv A outer s H E hr => ⟨_,
      (ss_one (s_ret (e_and (e_cb c_isi rfl T.z_isinstance rfl (a_cons (ev 0) (a_cons (e_ty (n := "str") rfl T.z_str rfl) a_nil))) (e_one (e_cmp (o_in hr.units) (ev 0) (ev 1) rfl))))),
      fun ds M R h => law ds M R h⟩
theorem sc_is_rule : FnScope N_is_rule P_is_rule (defScope S_is_rule) := ⟨rfl, rfl, rfl, by decide +kernel, rfl, by decide +kernel, by decide +kernel⟩
theorem ok_is_rule {sp_is_count : DSp} {sp_is_name : DSp} {sp_is_over : DSp} (T : Txt K w mg a) (G_is_count : FnOk P w K mg base CX0 1 a.f_is_count a.d_is_count P_is_count (lsp w K sp_is_count)) (G_is_name : FnOk P w K mg base CX0 1 a.f_is_name a.d_is_name P_is_name (lsp w K sp_is_name)) (G_is_over : FnOk P w K mg base CX0 1 a.f_is_over a.d_is_over P_is_over (lsp w K sp_is_over)) (len : ∀ ds M R, sp ds M R → ds.length = 3) (law : ∀ ds M R, sp ds M R → R_is_rule sp_is_count sp_is_name sp_is_over (topE R) (startD 5 ds) M) :
    FnOk P w K mg base CX0 2 a.f_is_rule a.d_is_rule P_is_rule (lsp w K sp) :=
  okD T.F_is_rule sc_is_rule rfl len fun cdv A outer s H E hr => ⟨_,
      (ss_cons (s_if (TX.wx (w_or (t_not (t_tru (e_cb c_isi rfl T.z_isinstance rfl (a_cons (ev 0) (a_cons (e_ty (n := "tuple") rfl T.z_tuple rfl) a_nil))))) (w_or (t_not (t_tru (ev 0))) (w_or1 (t_not (t_tru (e_cb c_isi rfl T.z_isinstance rfl (a_cons (e_ix hr.units (ev 0) e_int) (a_cons (e_ty (n := "str") rfl T.z_str rfl) a_nil))))))))) (ss_one (s_ret e_bl)) ss_nil)
      (ss_cons (s_par rfl sc_is_rule.nd rfl rfl (by decide) rfl rfl (a_cons (e_ix hr.units (ev 0) e_int) (a_cons (e_sl (ev 0) (pt_some e_int) pt_none) a_nil)) rfl)
      (ss_cons (s_if (t_cmp (o_eq hr.units) (ev 3) e_str rfl) (ss_cons (s_if (TX.wx (w_or (t_cmp (o_ne hr.units) (e_cb c_len rfl T.z_len rfl (a_cons (ev 4) a_nil)) e_int rfl) (w_or1 (t_not (t_tru (e_call G_is_count (hr.mono (by decide)) rfl T.g_is_count T.k_is_count T.b_is_count pass0 (a_cons (e_ix hr.units (ev 4) e_int) (a_cons e_int (a_cons (e_gint rfl T.g_SIZE) a_nil))))))))) (ss_one (s_ret e_bl)) ss_nil)
      (ss_one (s_ret (e_or (e_cmp o_is (e_ix hr.units (ev 4) e_int) e_non rfl) (e_one (e_call G_is_count (hr.mono (by decide)) rfl T.g_is_count T.k_is_count T.b_is_count pass0 (a_cons (e_ix hr.units (ev 4) e_int) (a_cons (e_ix hr.units (ev 4) e_int) (a_cons (e_gint rfl T.g_SIZE) a_nil))))))))) ss_nil)
      (ss_cons (s_if (t_cmp (o_in hr.units) (ev 3) (e_tup (a_cons e_str (a_cons e_str a_nil))) rfl) (ss_one (s_ret (e_and (e_cmp (o_eq hr.units) (e_cb c_len rfl T.z_len rfl (a_cons (ev 4) a_nil)) e_int rfl) (e_and (e_call G_is_name (hr.mono (by decide)) rfl T.g_is_name T.k_is_name T.b_is_name pass0 (a_cons (e_ix hr.units (ev 4) e_int) (a_cons (ev 1) a_nil))) (e_one (e_call G_is_count (hr.mono (by decide)) rfl T.g_is_count T.k_is_count T.b_is_count pass0 (a_cons (e_ix hr.units (ev 4) e_int) (a_cons (e_if (t_cmp (o_eq hr.units) (ev 3) e_str rfl) e_int e_int) (a_cons e_int a_nil))))))))) ss_nil)
      (ss_cons (s_if (t_cmp (o_in hr.units) (ev 3) (e_tup (a_cons e_str (a_cons e_str (a_cons e_str a_nil)))) rfl) (ss_one (s_ret (e_and (e_cmp (o_eq hr.units) (e_cb c_len rfl T.z_len rfl (a_cons (ev 4) a_nil)) e_int rfl) (e_one (e_call G_is_count (hr.mono (by decide)) rfl T.g_is_count T.k_is_count T.b_is_count pass0 (a_cons (e_ix hr.units (ev 4) e_int) (a_cons e_int (a_cons e_int a_nil)))))))) ss_nil)
      (ss_cons (s_if (t_cmp (o_eq hr.units) (ev 3) e_str rfl) (ss_one (s_ret (e_and (e_cmp (o_eq hr.units) (e_cb c_len rfl T.z_len rfl (a_cons (ev 4) a_nil)) e_int rfl) (e_one (e_call G_is_over (hr.mono (by decide)) rfl T.g_is_over T.k_is_over T.b_is_over pass0 (a_cons (e_ix hr.units (ev 4) e_int) (a_cons (ev 2) (a_cons e_int (a_cons e_int a_nil))))))))) ss_nil)
      (ss_one (s_ret (e_and (e_cmp (o_in hr.units) (ev 3) (e_tup (a_cons e_str (a_cons e_str a_nil))) rfl) (e_and (e_cmp (o_eq hr.units) (e_cb c_len rfl T.z_len rfl (a_cons (ev 4) a_nil)) e_int rfl) (e_one (e_call G_is_name (hr.mono (by decide)) rfl T.g_is_name T.k_is_name T.b_is_name pass0 (a_cons (e_ix hr.units (ev 4) e_int) (a_cons (ev 1) a_nil)))))))))))))),
      fun ds M R h => law ds M R h⟩
theorem sc_signs_of : FnScope N_signs_of P_signs_of (defScope S_signs_of) := ⟨rfl, rfl, rfl, by decide +kernel, rfl, by decide +kernel, by decide +kernel⟩
theorem ok_signs_of (T : Txt K w mg a) (len : ∀ ds M R, sp ds M R → ds.length = 1) (law : ∀ ds M R, sp ds M R → R_signs_of (topE R) (startD 2 ds) M) :
    FnOk P w K mg base CX0 1 a.f_signs_of a.d_signs_of P_signs_of (lsp w K sp) :=
  okD T.F_signs_of sc_signs_of rfl len fun cdv A outer s H E hr => ⟨_,
      (ss_one (s_ret (e_bm PySem.F.plainAttrs_str PySem.F.slot_str_join PySem.F.type_str_join m_join e_str (a_cons (e_lc rfl sc_signs_of.nd (i_any (e_ix hr.units (ev 0) e_int)) (blkOk_by (own := [((Str.ofString "pair"), 1)]) (N := N_signs_of) (sc := defScope S_signs_of) (by decide +kernel)) (own_name (by decide)) (fun _ _ _ _ _ => (pg_name sc_signs_of.nd rfl (by first | exact .inl rfl | exact .inr rfl))) (fun _ _ _ _ _ => ifs_nil) (fun _ _ _ _ _ => (e_ix hr.units (ev 1) e_int))) a_nil)))),
      fun ds M R h => law ds M R h⟩
theorem sc_is_policy : FnScope N_is_policy P_is_policy (defScope S_is_policy) := ⟨rfl, rfl, rfl, by decide +kernel, rfl, by decide +kernel, by decide +kernel⟩
theorem ok_is_policy {sp_are_classes : DSp} {sp_is_rule : DSp} {sp_signs_of : DSp} (T : Txt K w mg a) (G_are_classes : FnOk P w K mg base CX0 2 a.f_are_classes a.d_are_classes P_are_classes (lsp w K sp_are_classes)) (G_is_rule : FnOk P w K mg base CX0 2 a.f_is_rule a.d_is_rule P_is_rule (lsp w K sp_is_rule)) (G_signs_of : FnOk P w K mg base CX0 1 a.f_signs_of a.d_signs_of P_signs_of (lsp w K sp_signs_of)) (len : ∀ ds M R, sp ds M R → ds.length = 1) (law : ∀ ds M R, sp ds M R → R_is_policy sp_are_classes sp_is_rule sp_signs_of (topE R) (startD 5 ds) M) :
    FnOk P w K mg base CX0 3 a.f_is_policy a.d_is_policy P_is_policy (lsp w K sp) :=
  okD T.F_is_policy sc_is_policy rfl len fun cdv A outer s H E hr => ⟨_,
      (ss_cons (s_if (TX.wx (w_or (t_not (t_tru (e_cb c_isi rfl T.z_isinstance rfl (a_cons (ev 0) (a_cons (e_ty (n := "tuple") rfl T.z_tuple rfl) a_nil))))) (w_or (t_cmp (o_ne hr.units) (e_cb c_len rfl T.z_len rfl (a_cons (ev 0) a_nil)) e_int rfl) (w_or1 (t_not (t_tru (e_call G_are_classes (hr.mono (by decide)) rfl T.g_are_classes T.k_are_classes T.b_are_classes pass0 (a_cons (e_ix hr.units (ev 0) e_int) a_nil)))))))) (ss_one (s_ret e_bl)) ss_nil)
      (ss_cons (s_asg (e_tup (a_cons (e_lc rfl sc_is_policy.nd (i_any (e_ix hr.units (ev 0) e_int)) (blkOk_by (own := [((Str.ofString "pair"), 1)]) (N := N_is_policy) (sc := defScope S_is_policy) (by decide +kernel)) (own_name (by decide)) (fun _ _ _ _ _ => (pg_name sc_is_policy.nd rfl (by first | exact .inl rfl | exact .inr rfl))) (fun _ _ _ _ _ => ifs_nil) (fun _ _ _ _ _ => (e_ix hr.units (ev 1) e_int))) (a_cons (e_ix hr.units (ev 0) e_int) a_nil))) (g_tup rfl (gs_cons (g_name sc_is_policy.nd rfl (by first | exact .inl rfl | exact .inr rfl)) (gs_cons (g_name sc_is_policy.nd rfl (by first | exact .inl rfl | exact .inr rfl)) gs_nil))))
      (ss_cons (s_if (TX.wx (w_or (t_not (t_tru (e_cb c_isi rfl T.z_isinstance rfl (a_cons (ev 3) (a_cons (e_ty (n := "tuple") rfl T.z_tuple rfl) a_nil))))) (w_or1 (t_cmp o_gt (e_cb c_len rfl T.z_len rfl (a_cons (ev 3) a_nil)) (e_gint rfl T.g_RULES) rfl)))) (ss_one (s_ret e_bl)) ss_nil)
      (ss_cons (s_if (t_not (t_tru (e_cb (c_all rfl) rfl T.z_all rfl (a_cons (e_lc rfl sc_is_policy.nd (i_any (ev 3)) (blkOk_by (own := [((Str.ofString "rule"), 4)]) (N := N_is_policy) (sc := defScope S_is_policy) (by decide +kernel)) (own_name (by decide)) (fun _ _ _ _ _ => (pg_name sc_is_policy.nd rfl (by first | exact .inl rfl | exact .inr rfl))) (fun _ _ _ _ _ => ifs_nil) (fun _ _ _ _ _ => (e_call G_is_rule (hr.mono (by decide)) rfl T.g_is_rule T.k_is_rule T.b_is_rule pass0 (a_cons (ev 4) (a_cons (ev 2) (a_cons (e_call G_signs_of (hr.mono (by decide)) rfl T.g_signs_of T.k_signs_of T.b_signs_of pass0 (a_cons (ev 0) a_nil)) a_nil)))))) a_nil)))) (ss_one (s_ret e_bl)) ss_nil)
      (ss_one (s_ret (e_cmp (o_eq hr.units) (e_cb c_len rfl T.z_len rfl (a_cons (ev 3) a_nil)) (e_lenset rfl hr.units rfl T.z_len rfl T.z_set (ev 3)) rfl))))))),
      fun ds M R h => law ds M R h⟩
theorem sc_need_policy : FnScope N_need_policy P_need_policy (defScope S_need_policy) := ⟨rfl, rfl, rfl, by decide +kernel, rfl, by decide +kernel, by decide +kernel⟩
theorem ok_need_policy {sp_is_policy : DSp} (T : Txt K w mg a) (G_is_policy : FnOk P w K mg base CX0 3 a.f_is_policy a.d_is_policy P_is_policy (lsp w K sp_is_policy)) (len : ∀ ds M R, sp ds M R → ds.length = 1) (law : ∀ ds M R, sp ds M R → R_need_policy sp_is_policy (topE R) (startD 1 ds) M) :
    FnOk P w K mg base CX0 4 a.f_need_policy a.d_need_policy P_need_policy (lsp w K sp) :=
  okD T.F_need_policy sc_need_policy rfl len fun cdv A outer s H E hr => ⟨_,
      (ss_one (s_if (t_not (t_tru (e_call G_is_policy (hr.mono (by decide)) rfl T.g_is_policy T.k_is_policy T.b_is_policy pass0 (a_cons (ev 0) a_nil)))) ss_never ss_nil)),
      fun ds M R h => law ds M R h⟩
theorem sc_Machine___init__ : FnScope N_Machine___init__ P_Machine___init__ (defScope S_Machine___init__) := ⟨rfl, rfl, rfl, by decide +kernel, rfl, by decide +kernel, by decide +kernel⟩
theorem ok_Machine___init__ {sp_signs_of : DSp} (T : Txt K w mg a) (G_signs_of : FnOk P w K mg base CX0 1 a.f_signs_of a.d_signs_of P_signs_of (lsp w K sp_signs_of)) (len : ∀ ds M R, sp ds M R → ds.length = 2) (law : ∀ ds M R, sp ds M R → R_Machine___init__ a.C_Machine sp_signs_of (topE R) (startD 7 ds) M) :
    FnOk P w K mg base CX0 2 a.f_Machine___init__ a.d_Machine___init__ P_Machine___init__ (lsp w K sp) :=
  okD T.F_Machine___init__ sc_Machine___init__ rfl len fun cdv A outer s H E hr => ⟨_,
      (ss_cons (s_fld (ev 0) (e_ix hr.units (ev 1) e_int) T.cl_Machine T.na_Machine_rules)
      (ss_cons (s_fld (ev 0) (e_call G_signs_of (hr.mono (by decide)) rfl T.g_signs_of T.k_signs_of T.b_signs_of pass0 (a_cons (ev 1) a_nil)) T.cl_Machine T.na_Machine_signs)
      (ss_cons (s_fld (ev 0) e_newS T.cl_Machine T.na_Machine_names)
      (ss_cons (s_fld (ev 0) e_newS T.cl_Machine T.na_Machine_followers)
      (ss_cons (s_for PassesOwn.never rfl (i_any (e_ix hr.units (ev 1) e_int)) (g_tup rfl (gs_cons (g_name sc_Machine___init__.nd rfl (by first | exact .inl rfl | exact .inr rfl)) (gs_cons (g_name sc_Machine___init__.nd rfl (by first | exact .inl rfl | exact .inr rfl)) gs_nil))) (ss_cons (s_for PassesOwn.never rfl (i_any (ev 3)) (g_name sc_Machine___init__.nd rfl (by first | exact .inl rfl | exact .inr rfl)) (ss_one (s_asg (ev 2) (g_sub hr.units (e_fld (ev 0) T.cl_Machine T.na_Machine_names) (ev 4) (pg := pg_sub (e_fld (ev 0) T.cl_Machine T.na_Machine_names) (ev 4) (p_set hr.units))))))
      (ss_one (s_for PassesOwn.never rfl (i_zip rfl T.z_zip (ev 3) (e_sl (ev 3) (pt_some e_int) pt_none)) (g_tup rfl (gs_cons (g_name sc_Machine___init__.nd rfl (by first | exact .inl rfl | exact .inr rfl)) (gs_cons (g_name sc_Machine___init__.nd rfl (by first | exact .inl rfl | exact .inr rfl)) gs_nil))) (ss_one (s_asg (ev 5) (g_sub hr.units (e_fld (ev 0) T.cl_Machine T.na_Machine_followers) (ev 4) (pg := pg_sub (e_fld (ev 0) T.cl_Machine T.na_Machine_followers) (ev 4) (p_set hr.units)))))))))
      (ss_cons (s_fld (ev 0) (e_ct c_tuple rfl T.z_tuple rfl (a_cons (e_lc rfl sc_Machine___init__.nd (i_any (e_fld (ev 0) T.cl_Machine T.na_Machine_rules)) (blkOk_by (own := [((Str.ofString "rule"), 6)]) (N := N_Machine___init__) (sc := defScope S_Machine___init__) (by decide +kernel)) (own_name (by decide)) (fun _ _ _ _ _ => (pg_name sc_Machine___init__.nd rfl (by first | exact .inl rfl | exact .inr rfl))) (fun _ _ _ _ _ => ifs_nil) (fun _ _ _ _ _ => (e_kget T.kd_STARTS rfl T.g_STARTS (e_ix hr.units (ev 6) e_int) e_str))) a_nil)) T.cl_Machine T.na_Machine_start)
      (ss_one (s_fld (ev 0) e_newT T.cl_Machine T.na_Machine_known)))))))),
      fun ds M R h => law ds M R h⟩
theorem sc_Machine_keeps : FnScope N_Machine_keeps P_Machine_keeps (defScope S_Machine_keeps) := ⟨rfl, rfl, rfl, by decide +kernel, rfl, by decide +kernel, by decide +kernel⟩
theorem ok_Machine_keeps (T : Txt K w mg a) (len : ∀ ds M R, sp ds M R → ds.length = 3) (law : ∀ ds M R, sp ds M R → R_Machine_keeps (topE R) (startD 4 ds) M) :
    FnOk P w K mg base CX0 1 a.f_Machine_keeps a.d_Machine_keeps P_Machine_keeps (lsp w K sp) :=
  okD T.F_Machine_keeps sc_Machine_keeps rfl len fun cdv A outer s H E hr => ⟨_,
      (ss_cons (s_set (i := 3) sc_Machine_keeps.nd rfl (by first | exact .inl rfl | exact .inr rfl) (e_ix hr.units (ev 1) e_int))
      (ss_cons (s_if (t_cmp (o_eq hr.units) (ev 3) e_str rfl) (ss_one (s_ret (e_cmp o_ge (ev 2) (e_ix hr.units (ev 1) e_int) rfl))) ss_nil)
      (ss_cons (s_if (t_cmp (o_eq hr.units) (ev 3) e_str rfl) (ss_one (s_ret (e_cmp o_ge (ev 2) (e_ix hr.units (ev 1) e_int) rfl))) ss_nil)
      (ss_cons (s_if (t_cmp (o_eq hr.units) (ev 3) e_str rfl) (ss_one (s_ret (e_cmp o_ge (e_cb c_len rfl T.z_len rfl (a_cons (ev 2) a_nil)) (e_ix hr.units (ev 1) e_int) rfl))) ss_nil)
      (ss_cons (s_if (t_cmp (o_in hr.units) (ev 3) (e_tup (a_cons e_str (a_cons e_str a_nil))) rfl) (ss_one (s_ret (e_cmp (o_eq hr.units) (ev 2) (e_ix hr.units (ev 1) e_int) rfl))) ss_nil)
      (ss_one (s_ret e_bl))))))),
      fun ds M R h => law ds M R h⟩
theorem sc_Machine_fine : FnScope N_Machine_fine P_Machine_fine (defScope S_Machine_fine) := ⟨rfl, rfl, rfl, by decide +kernel, rfl, by decide +kernel, by decide +kernel⟩
theorem ok_Machine_fine {sp_Machine_keeps : DSp} (T : Txt K w mg a) (G_Machine_keeps : FnOk P w K mg base CX0 1 a.f_Machine_keeps a.d_Machine_keeps P_Machine_keeps (lsp w K sp_Machine_keeps)) (len : ∀ ds M R, sp ds M R → ds.length = 2) (law : ∀ ds M R, sp ds M R → R_Machine_fine a.C_Machine sp_Machine_keeps (topE R) (startD 4 ds) M) :
    FnOk P w K mg base CX0 2 a.f_Machine_fine a.d_Machine_fine P_Machine_fine (lsp w K sp) :=
  okD T.F_Machine_fine sc_Machine_fine rfl len fun cdv A outer s H E hr => ⟨_,
      (ss_one (s_ret (e_and (e_cmp o_isn (ev 1) e_non rfl) (e_one (e_cb (c_all rfl) rfl T.z_all rfl (a_cons (e_lc rfl sc_Machine_fine.nd (i_zip rfl T.z_zip (e_fld (ev 0) T.cl_Machine T.na_Machine_rules) (ev 1)) (blkOk_by (own := [((Str.ofString "rule"), 2), ((Str.ofString "one"), 3)]) (N := N_Machine_fine) (sc := defScope S_Machine_fine) (by decide +kernel)) (own_tup (owns_cons (own_name (by decide)) (owns_cons (own_name (by decide)) owns_nil))) (fun _ _ _ _ _ => (pg_tup rfl (pgs_cons (pg_name sc_Machine_fine.nd rfl (by first | exact .inl rfl | exact .inr rfl)) (pgs_cons (pg_name sc_Machine_fine.nd rfl (by first | exact .inl rfl | exact .inr rfl)) pgs_nil)))) (fun _ _ _ _ _ => ifs_nil) (fun _ _ _ _ _ => (e_meth (ev 0) T.cl_Machine T.m_Machine_keeps G_Machine_keeps (hr.mono (by decide)) T.b_Machine_keeps pass0 (a_cons (ev 2) (a_cons (ev 3) a_nil))))) a_nil)))))),
      fun ds M R h => law ds M R h⟩
theorem sc_Machine_counted : FnScope N_Machine_counted P_Machine_counted (defScope S_Machine_counted) := ⟨rfl, rfl, rfl, by decide +kernel, rfl, by decide +kernel, by decide +kernel⟩
theorem ok_Machine_counted (T : Txt K w mg a) (len : ∀ ds M R, sp ds M R → ds.length = 4) (law : ∀ ds M R, sp ds M R → R_Machine_counted (topE R) (startD 4 ds) M) :
    FnOk P w K mg base CX0 1 a.f_Machine_counted a.d_Machine_counted P_Machine_counted (lsp w K sp) :=
  okD T.F_Machine_counted sc_Machine_counted rfl len fun cdv A outer s H E hr => ⟨_,
      (ss_cons (s_if (t_cmp o_le (ev 1) (ev 2) rfl) (ss_one (s_ret (ev 1))) ss_nil)
      (ss_one (s_ret (e_if (t_tru (ev 3)) e_non (ev 2))))),
      fun ds M R h => law ds M R h⟩
theorem sc_Machine_unmatched : FnScope N_Machine_unmatched P_Machine_unmatched (defScope S_Machine_unmatched) := ⟨rfl, rfl, rfl, by decide +kernel, rfl, by decide +kernel, by decide +kernel⟩
theorem ok_Machine_unmatched (T : Txt K w mg a) (len : ∀ ds M R, sp ds M R → ds.length = 3) (law : ∀ ds M R, sp ds M R → R_Machine_unmatched (topE R) (startD 3 ds) M) :
    FnOk P w K mg base CX0 1 a.f_Machine_unmatched a.d_Machine_unmatched P_Machine_unmatched (lsp w K sp) :=
  okD T.F_Machine_unmatched sc_Machine_unmatched rfl len fun cdv A outer s H E hr => ⟨_,
      (ss_cons (s_if (t_tru (e_bm PySem.F.plainAttrs_str PySem.F.slot_str_endswith PySem.F.type_str_endswith m_endswith (ev 2) (a_cons (ev 1) a_nil))) (ss_one (s_ret e_non)) ss_nil)
      (ss_cons (s_while PassesOwn.never (t_not (t_tru (e_bm PySem.F.plainAttrs_str PySem.F.slot_str_startswith PySem.F.type_str_startswith m_startswith (ev 1) (a_cons (ev 2) a_nil)))) (ss_one (s_set (i := 2) sc_Machine_unmatched.nd rfl (by first | exact .inl rfl | exact .inr rfl) (e_sl (ev 2) (pt_some e_int) pt_none))))
      (ss_one (s_ret (ev 2))))),
      fun ds M R h => law ds M R h⟩
theorem sc_Machine_moved : FnScope N_Machine_moved P_Machine_moved (defScope S_Machine_moved) := ⟨rfl, rfl, rfl, by decide +kernel, rfl, by decide +kernel, by decide +kernel⟩
theorem ok_Machine_moved {sp_Machine_counted : DSp} {sp_Machine_unmatched : DSp} (T : Txt K w mg a) (G_Machine_counted : FnOk P w K mg base CX0 1 a.f_Machine_counted a.d_Machine_counted P_Machine_counted (lsp w K sp_Machine_counted)) (G_Machine_unmatched : FnOk P w K mg base CX0 1 a.f_Machine_unmatched a.d_Machine_unmatched P_Machine_unmatched (lsp w K sp_Machine_unmatched)) (len : ∀ ds M R, sp ds M R → ds.length = 4) (law : ∀ ds M R, sp ds M R → R_Machine_moved a.C_Machine sp_Machine_counted sp_Machine_unmatched (topE R) (startD 7 ds) M) :
    FnOk P w K mg base CX0 2 a.f_Machine_moved a.d_Machine_moved P_Machine_moved (lsp w K sp) :=
  okD T.F_Machine_moved sc_Machine_moved rfl len fun cdv A outer s H E hr => ⟨_,
      (ss_cons (s_par rfl sc_Machine_moved.nd rfl rfl (by decide) rfl rfl (a_cons (e_ix hr.units (ev 1) e_int) (a_cons (e_ix hr.units (e_fld (ev 0) T.cl_Machine T.na_Machine_names) (ev 3)) a_nil)) rfl)
      (ss_cons (s_if (t_cmp (o_eq hr.units) (ev 4) e_str rfl) (ss_one (s_ret (e_meth (ev 0) T.cl_Machine T.m_Machine_counted G_Machine_counted (hr.mono (by decide)) T.b_Machine_counted pass0 (a_cons (e_op o_add (ev 2) e_int) (a_cons (e_if (t_cmp o_is (e_ix hr.units (ev 1) e_int) e_non rfl) (e_ix hr.units (ev 1) e_int) (e_ix hr.units (ev 1) e_int)) (a_cons (e_cmp o_isn (e_ix hr.units (ev 1) e_int) e_non rfl) a_nil)))))) ss_nil)
      (ss_cons (s_if (t_cmp (o_in hr.units) (ev 4) (e_tup (a_cons e_str (a_cons e_str a_nil))) rfl) (ss_one (s_ret (e_meth (ev 0) T.cl_Machine T.m_Machine_counted G_Machine_counted (hr.mono (by decide)) T.b_Machine_counted pass0 (a_cons (e_op o_add (ev 2) (e_if (t_cmp (o_eq hr.units) (ev 5) (e_ix hr.units (ev 1) e_int) rfl) e_int e_int)) (a_cons (e_ix hr.units (ev 1) e_int) (a_cons (e_cmp (o_eq hr.units) (ev 4) e_str rfl) a_nil)))))) ss_nil)
      (ss_cons (s_if (t_cmp (o_eq hr.units) (ev 4) e_str rfl) (ss_one (s_ret (e_if (t_cmp (o_in hr.units) (ev 5) (ev 2) rfl) (ev 2) (e_sortt rfl T.z_tuple rfl T.z_sorted (e_op o_add (ev 2) (e_tup (a_cons (ev 5) a_nil))))))) ss_nil)
      (ss_cons (s_if (t_cmp (o_eq hr.units) (ev 4) e_str rfl) (ss_cons (s_set (i := 6) sc_Machine_moved.nd rfl (by first | exact .inl rfl | exact .inr rfl) (e_if (t_cmp (o_eq hr.units) (e_ix hr.units (ev 2) e_int) (ev 3) rfl) (e_op o_add (e_ix hr.units (ev 2) e_int) e_int) e_int))
      (ss_one (s_ret (e_if (t_cmp o_le (ev 6) (e_ix hr.units (ev 1) e_int) rfl) (e_tup (a_cons (ev 3) (a_cons (ev 6) a_nil))) e_non)))) ss_nil)
      (ss_cons (s_if (t_cmp (o_eq hr.units) (ev 4) e_str rfl) (ss_cons (s_set (i := 6) sc_Machine_moved.nd rfl (by first | exact .inl rfl | exact .inr rfl) (e_if (TX.wx (w_and (t_cmp (o_ne hr.units) (e_ix hr.units (ev 2) e_int) e_str rfl) (w_and1 (t_cmp (o_eq hr.units) (e_bm PySem.F.plainAttrs_dict PySem.F.slot_dict_get PySem.F.type_dict_get (m_get hr.units) (e_fld (ev 0) T.cl_Machine T.na_Machine_followers) (a_cons (e_ix hr.units (ev 2) e_int) a_nil)) (ev 3) rfl)))) (e_op o_add (e_ix hr.units (ev 2) e_int) e_int) e_int))
      (ss_one (s_ret (e_if (t_cmp o_le (ev 6) (e_ix hr.units (ev 1) e_int) rfl) (e_tup (a_cons (ev 3) (a_cons (ev 6) a_nil))) e_non)))) ss_nil)
      (ss_cons (s_if (t_cmp (o_eq hr.units) (ev 4) e_str rfl) (ss_one (s_ret (e_meth (ev 0) T.cl_Machine T.m_Machine_unmatched G_Machine_unmatched (hr.mono (by decide)) T.b_Machine_unmatched pass0 (a_cons (e_ix hr.units (ev 1) e_int) (a_cons (e_op o_add (ev 2) (ev 3)) a_nil))))) ss_nil)
      (ss_cons (s_if (t_cmp (o_eq hr.units) (ev 4) e_str rfl) (ss_one (s_ret (e_if (t_cmp (o_ne hr.units) (ev 2) e_str rfl) (ev 2) (e_if (t_cmp (o_eq hr.units) (ev 5) (e_ix hr.units (ev 1) e_int) rfl) (ev 5) e_non)))) ss_nil)
      (ss_one (s_ret (ev 5))))))))))),
      fun ds M R h => law ds M R h⟩
theorem sc_Machine_step : FnScope N_Machine_step P_Machine_step (defScope S_Machine_step) := ⟨rfl, rfl, rfl, by decide +kernel, rfl, by decide +kernel, by decide +kernel⟩
theorem ok_Machine_step {sp_Machine_moved : DSp} (T : Txt K w mg a) (G_Machine_moved : FnOk P w K mg base CX0 2 a.f_Machine_moved a.d_Machine_moved P_Machine_moved (lsp w K sp_Machine_moved)) (len : ∀ ds M R, sp ds M R → ds.length = 3) (law : ∀ ds M R, sp ds M R → R_Machine_step a.C_Machine sp_Machine_moved (topE R) (startD 6 ds) M) :
    FnOk P w K mg base CX0 3 a.f_Machine_step a.d_Machine_step P_Machine_step (lsp w K sp) :=
  okD T.F_Machine_step sc_Machine_step rfl len fun cdv A outer s H E hr => ⟨_,
      (ss_cons (s_if (t_cmp o_is (ev 1) e_non rfl) (ss_one (s_ret e_non)) ss_nil)
      (ss_cons (s_if (t_cmp (o_nin hr.units) (e_tup (a_cons (ev 1) (a_cons (ev 2) a_nil))) (e_fld (ev 0) T.cl_Machine T.na_Machine_known) rfl) (ss_cons (s_setLc (i := 5) rfl sc_Machine_step.nd rfl rfl rfl (i_zip rfl T.z_zip (e_fld (ev 0) T.cl_Machine T.na_Machine_rules) (ev 1)) (blkOk_by (own := [((Str.ofString "rule"), 3), ((Str.ofString "one"), 4)]) (N := N_Machine_step) (sc := defScope S_Machine_step) (by decide +kernel)) (own_tup (owns_cons (own_name (by decide)) (owns_cons (own_name (by decide)) owns_nil))) (fun _ _ _ _ _ => (pg_tup rfl (pgs_cons (pg_name sc_Machine_step.nd rfl (by first | exact .inl rfl | exact .inr rfl)) (pgs_cons (pg_name sc_Machine_step.nd rfl (by first | exact .inl rfl | exact .inr rfl)) pgs_nil)))) (fun _ _ _ _ _ => ifs_nil) (fun _ _ _ _ _ => (e_meth (ev 0) T.cl_Machine T.m_Machine_moved G_Machine_moved (hr.mono (by decide)) T.b_Machine_moved pass0 (a_cons (ev 3) (a_cons (ev 4) (a_cons (ev 2) a_nil))))))
      (ss_one (s_asg (e_if (t_cmp (o_in hr.units) e_non (ev 5) rfl) e_non (e_ct c_tuple rfl T.z_tuple rfl (a_cons (ev 5) a_nil))) (g_sub hr.units (e_fld (ev 0) T.cl_Machine T.na_Machine_known) (e_tup (a_cons (ev 1) (a_cons (ev 2) a_nil))) (pg := pg_sub (e_fld (ev 0) T.cl_Machine T.na_Machine_known) (e_tup (a_cons (ev 1) (a_cons (ev 2) a_nil))) (p_set hr.units)))))) ss_nil)
      (ss_one (s_ret (e_ix hr.units (e_fld (ev 0) T.cl_Machine T.na_Machine_known) (e_tup (a_cons (ev 1) (a_cons (ev 2) a_nil)))))))),
      fun ds M R h => law ds M R h⟩
theorem sc_Machine_nearest : FnScope N_Machine_nearest P_Machine_nearest (defScope S_Machine_nearest) := ⟨rfl, rfl, rfl, by decide +kernel, rfl, by decide +kernel, by decide +kernel⟩
theorem ok_Machine_nearest {sp_Machine_fine : DSp} {sp_Machine_step : DSp} (T : Txt K w mg a) (G_Machine_fine : FnOk P w K mg base CX0 2 a.f_Machine_fine a.d_Machine_fine P_Machine_fine (lsp w K sp_Machine_fine)) (G_Machine_step : FnOk P w K mg base CX0 3 a.f_Machine_step a.d_Machine_step P_Machine_step (lsp w K sp_Machine_step)) (len : ∀ ds M R, sp ds M R → ds.length = 2) (law : ∀ ds M R, sp ds M R → R_Machine_nearest a.C_Machine sp_Machine_fine sp_Machine_step (topE R) (startD 9 ds) M) :
    FnOk P w K mg base CX0 4 a.f_Machine_nearest a.d_Machine_nearest P_Machine_nearest (lsp w K sp) :=
  okD T.F_Machine_nearest sc_Machine_nearest rfl len fun cdv A outer s H E hr => ⟨_,
      (ss_cons (s_if (t_cmp o_is (ev 1) e_non rfl) (ss_one (s_ret e_non)) ss_nil)
      (ss_cons (s_par rfl sc_Machine_nearest.nd rfl rfl (by decide) rfl rfl (a_cons (e_dispT hr.units (ev 1) e_bl) (a_cons (e_lst (a_cons (e_tup (a_cons (ev 1) (a_cons e_str a_nil))) a_nil)) a_nil)) rfl)
      (ss_cons (s_while PassesOwn.never (t_cmp (o_ne hr.units) (ev 3) (e_lst a_nil) rfl) (ss_cons (s_set (i := 4) sc_Machine_nearest.nd rfl (by first | exact .inl rfl | exact .inr rfl) (e_lst a_nil))
      (ss_cons (s_for PassesOwn.never rfl (i_any (ev 3)) (g_tup rfl (gs_cons (g_name sc_Machine_nearest.nd rfl (by first | exact .inl rfl | exact .inr rfl)) (gs_cons (g_name sc_Machine_nearest.nd rfl (by first | exact .inl rfl | exact .inr rfl)) gs_nil))) (ss_cons (s_if (t_tru (e_meth (ev 0) T.cl_Machine T.m_Machine_fine G_Machine_fine (hr.mono (by decide)) T.b_Machine_fine pass0 (a_cons (ev 5) a_nil))) (ss_one (s_ret (ev 6))) ss_nil)
      (ss_one (s_for PassesOwn.never rfl (i_any (e_fld (ev 0) T.cl_Machine T.na_Machine_signs)) (g_name sc_Machine_nearest.nd rfl (by first | exact .inl rfl | exact .inr rfl)) (ss_cons (s_set (i := 8) sc_Machine_nearest.nd rfl (by first | exact .inl rfl | exact .inr rfl) (e_meth (ev 0) T.cl_Machine T.m_Machine_step G_Machine_step (hr.mono (by decide)) T.b_Machine_step pass0 (a_cons (ev 5) (a_cons (ev 7) a_nil))))
      (ss_one (s_if (TX.wx (w_and (t_cmp o_isn (ev 8) e_non rfl) (w_and1 (t_cmp (o_nin hr.units) (ev 8) (ev 2) rfl)))) (ss_cons (s_asg e_bl (g_sub hr.units (ev 2) (ev 8) (pg := pg_sub (ev 2) (ev 8) (p_set hr.units))))
      (ss_one (s_expr (e_bm PySem.F.plainAttrs_list PySem.F.slot_list_append PySem.F.type_list_append m_append (ev 4) (a_cons (e_tup (a_cons (ev 8) (a_cons (e_op o_add (ev 6) (ev 7)) a_nil))) a_nil))))) ss_nil)))))))
      (ss_one (s_set (i := 3) sc_Machine_nearest.nd rfl (by first | exact .inl rfl | exact .inr rfl) (ev 4))))))
      (ss_one (s_ret e_non))))),
      fun ds M R h => law ds M R h⟩
theorem sc_first_of : FnScope N_first_of P_first_of (defScope S_first_of) := ⟨rfl, rfl, rfl, by decide +kernel, rfl, by decide +kernel, by decide +kernel⟩
theorem ok_first_of {sp_Machine___init__ : DSp} {sp_Machine_nearest : DSp} (T : Txt K w mg a) (G_Machine___init__ : FnOk P w K mg base CX0 2 a.f_Machine___init__ a.d_Machine___init__ P_Machine___init__ (lsp w K sp_Machine___init__)) (G_Machine_nearest : FnOk P w K mg base CX0 4 a.f_Machine_nearest a.d_Machine_nearest P_Machine_nearest (lsp w K sp_Machine_nearest)) (len : ∀ ds M R, sp ds M R → ds.length = 1) (law : ∀ ds M R, sp ds M R → R_first_of a.C_Machine sp_Machine___init__ sp_Machine_nearest (topE R) (startD 2 ds) M) :
    FnOk P w K mg base CX0 5 a.f_first_of a.d_first_of P_first_of (lsp w K sp) :=
  okD T.F_first_of sc_first_of rfl len fun cdv A outer s H E hr => ⟨_,
      (ss_cons (s_set (i := 1) sc_first_of.nd rfl (by first | exact .inl rfl | exact .inr rfl) (e_make T.mk_Machine G_Machine___init__ (hr.mono (by decide)) rfl T.g_Machine T.b_Machine___init__ pass0 (a_cons (ev 0) a_nil)))
      (ss_one (s_ret (e_meth (ev 1) T.cl_Machine T.m_Machine_nearest G_Machine_nearest (hr.mono (by decide)) T.b_Machine_nearest pass0 (a_cons (e_fld (ev 1) T.cl_Machine T.na_Machine_start) a_nil))))),
      fun ds M R h => law ds M R h⟩
theorem sc_choices : FnScope N_choices P_choices (defScope S_choices) := ⟨rfl, rfl, rfl, by decide +kernel, rfl, by decide +kernel, by decide +kernel⟩
theorem ok_choices {sp_choices : DSp} {k : Nat} (T : Txt K w mg a) (hk : 0 ≤ k) (G_choices : FnOk P w K mg base CX0 k a.f_choices a.d_choices P_choices (lsp w K sp_choices)) (len : ∀ ds M R, sp ds M R → ds.length = 3) (law : ∀ ds M R, sp ds M R → R_choices sp_choices (topE R) (startD 6 ds) M) :
    FnOk P w K mg base CX0 (k + 1) a.f_choices a.d_choices P_choices (lsp w K sp) :=
  okD T.F_choices sc_choices rfl len fun cdv A outer s H E hr => ⟨_,
      (ss_cons (s_if (t_cmp (o_eq hr.units) (ev 1) e_int rfl) (ss_one (s_ret (e_lst (a_cons (e_lst a_nil) a_nil)))) ss_nil)
      (ss_cons (s_set (i := 3) sc_choices.nd rfl (by first | exact .inl rfl | exact .inr rfl) (e_lst a_nil))
      (ss_cons (s_for PassesOwn.never rfl (i_range2 rfl T.z_range (ev 2) (ev 0)) (g_name sc_choices.nd rfl (by first | exact .inl rfl | exact .inr rfl)) (ss_one (s_expr (e_bm PySem.F.plainAttrs_list PySem.F.slot_list_extend PySem.F.type_list_extend m_extend (ev 3) (a_cons (e_lc rfl sc_choices.nd (i_any (e_call G_choices (hr.mono (by omega)) rfl T.g_choices T.k_choices T.b_choices pass0 (a_cons (ev 0) (a_cons (e_op o_sub (ev 1) e_int) (a_cons (e_op o_add (ev 4) e_int) a_nil))))) (blkOk_by (own := [((Str.ofString "rest"), 5)]) (N := N_choices) (sc := defScope S_choices) (by decide +kernel)) (own_name (by decide)) (fun _ _ _ _ _ => (pg_name sc_choices.nd rfl (by first | exact .inl rfl | exact .inr rfl))) (fun _ _ _ _ _ => ifs_nil) (fun _ _ _ _ _ => (e_op o_add (e_lst (a_cons (ev 4) a_nil)) (ev 5)))) a_nil)))))
      (ss_one (s_ret (ev 3)))))),
      fun ds M R h => law ds M R h⟩
theorem sc_core : FnScope N_core P_core (defScope S_core) := ⟨rfl, rfl, rfl, by decide +kernel, rfl, by decide +kernel, by decide +kernel⟩
theorem ok_core {sp_need_policy : DSp} {sp_first_of : DSp} {sp_choices : DSp} (T : Txt K w mg a) (G_need_policy : FnOk P w K mg base CX0 4 a.f_need_policy a.d_need_policy P_need_policy (lsp w K sp_need_policy)) (G_first_of : FnOk P w K mg base CX0 5 a.f_first_of a.d_first_of P_first_of (lsp w K sp_first_of)) (G_choices : FnOk P w K mg base CX0 7 a.f_choices a.d_choices P_choices (lsp w K sp_choices)) (len : ∀ ds M R, sp ds M R → ds.length = 1) (law : ∀ ds M R, sp ds M R → R_core sp_need_policy sp_first_of sp_choices (topE R) (startD 5 ds) M) :
    FnOk P w K mg base CX0 8 a.f_core a.d_core P_core (lsp w K sp) :=
  okD T.F_core sc_core rfl len fun cdv A outer s H E hr => ⟨_,
      (ss_cons (s_expr (e_call G_need_policy (hr.mono (by decide)) rfl T.g_need_policy T.k_need_policy T.b_need_policy pass0 (a_cons (ev 0) a_nil)))
      (ss_cons (s_if (t_cmp o_isn (e_call G_first_of (hr.mono (by decide)) rfl T.g_first_of T.k_first_of T.b_first_of pass0 (a_cons (ev 0) a_nil)) e_non rfl) (ss_one (s_ret e_non)) ss_nil)
      (ss_cons (s_set (i := 1) sc_core.nd rfl (by first | exact .inl rfl | exact .inr rfl) (e_cb c_len rfl T.z_len rfl (a_cons (e_ix hr.units (ev 0) e_int) a_nil)))
      (ss_cons (s_for PassesOwn.never rfl (i_range1 rfl T.z_range (ev 1)) (g_name sc_core.nd rfl (by first | exact .inl rfl | exact .inr rfl)) (ss_one (s_for PassesOwn.never rfl (i_any (e_call G_choices (hr.mono (by decide)) rfl T.g_choices T.k_choices T.b_choices pass0 (a_cons (ev 1) (a_cons (ev 2) (a_cons e_int a_nil))))) (g_name sc_core.nd rfl (by first | exact .inl rfl | exact .inr rfl)) (ss_one (s_if (t_cmp o_is (e_call G_first_of (hr.mono (by decide)) rfl T.g_first_of T.k_first_of T.b_first_of pass0 (a_cons (e_tup (a_cons (e_ix hr.units (ev 0) e_int) (a_cons (e_ct c_tuple rfl T.z_tuple rfl (a_cons (e_lc rfl sc_core.nd (i_any (ev 3)) (blkOk_by (own := [((Str.ofString "at"), 4)]) (N := N_core) (sc := defScope S_core) (by decide +kernel)) (own_name (by decide)) (fun _ _ _ _ _ => (pg_name sc_core.nd rfl (by first | exact .inl rfl | exact .inr rfl))) (fun _ _ _ _ _ => ifs_nil) (fun _ _ _ _ _ => (e_ix hr.units (e_ix hr.units (ev 0) e_int) (ev 4)))) a_nil)) a_nil))) a_nil)) e_non rfl) (ss_one (s_ret (ev 3))) ss_nil)))))
      (ss_one (s_ret (e_lstrg rfl rfl T.z_list rfl T.z_range (ev 1)))))))),
      fun ds M R h => law ds M R h⟩
theorem sc_first : FnScope N_first P_first (defScope S_first) := ⟨rfl, rfl, rfl, by decide +kernel, rfl, by decide +kernel, by decide +kernel⟩
theorem ok_first {sp_need_policy : DSp} {sp_first_of : DSp} (T : Txt K w mg a) (G_need_policy : FnOk P w K mg base CX0 4 a.f_need_policy a.d_need_policy P_need_policy (lsp w K sp_need_policy)) (G_first_of : FnOk P w K mg base CX0 5 a.f_first_of a.d_first_of P_first_of (lsp w K sp_first_of)) (len : ∀ ds M R, sp ds M R → ds.length = 1) (law : ∀ ds M R, sp ds M R → R_first sp_need_policy sp_first_of (topE R) (startD 1 ds) M) :
    FnOk P w K mg base CX0 6 a.f_first a.d_first P_first (lsp w K sp) :=
  okD T.F_first sc_first rfl len fun cdv A outer s H E hr => ⟨_,
      (ss_cons (s_expr (e_call G_need_policy (hr.mono (by decide)) rfl T.g_need_policy T.k_need_policy T.b_need_policy pass0 (a_cons (ev 0) a_nil)))
      (ss_one (s_ret (e_call G_first_of (hr.mono (by decide)) rfl T.g_first_of T.k_first_of T.b_first_of pass0 (a_cons (ev 0) a_nil))))),
      fun ds M R h => law ds M R h⟩
theorem sc__law_strings : FnScope N__law_strings P__law_strings (defScope S__law_strings) := ⟨rfl, rfl, rfl, by decide +kernel, rfl, by decide +kernel, by decide +kernel⟩
theorem ok__law_strings (T : Txt K w mg a) (len : ∀ ds M R, sp ds M R → ds.length = 2) (law : ∀ ds M R, sp ds M R → R__law_strings (topE R) (startD 11 ds) M) :
    FnOk P w K mg base CX0 1 a.f__law_strings a.d__law_strings P__law_strings (lsp w K sp) :=
  okD T.F__law_strings sc__law_strings rfl len fun cdv A outer s H E hr => ⟨_,
      (ss_cons (s_par3 rfl sc__law_strings.nd rfl rfl rfl (by decide) (by decide) (by decide) rfl rfl rfl (a_cons (e_bm PySem.F.plainAttrs_str PySem.F.slot_str_join PySem.F.type_str_join m_join e_str (a_cons (e_lc rfl sc__law_strings.nd (i_any (e_ix hr.units (ev 0) e_int)) (blkOk_by (own := [((Str.ofString "_law_name"), 2), ((Str.ofString "_law_one"), 3)]) (N := N__law_strings) (sc := defScope S__law_strings) (by decide +kernel)) (own_tup (owns_cons (own_name (by decide)) (owns_cons (own_name (by decide)) owns_nil))) (fun _ _ _ _ _ => (pg_tup rfl (pgs_cons (pg_name sc__law_strings.nd rfl (by first | exact .inl rfl | exact .inr rfl)) (pgs_cons (pg_name sc__law_strings.nd rfl (by first | exact .inl rfl | exact .inr rfl)) pgs_nil)))) (fun _ _ _ _ _ => ifs_nil) (fun _ _ _ _ _ => (ev 3))) a_nil)) (a_cons (e_lst (a_cons e_str a_nil)) (a_cons (e_lst (a_cons e_str a_nil)) a_nil))) rfl)
      (ss_cons (s_for PassesOwn.never rfl (i_range1 rfl T.z_range (ev 1)) (g_name sc__law_strings.nd rfl (by first | exact .inl rfl | exact .inr rfl)) (ss_cons (s_set (i := 8) sc__law_strings.nd rfl (by first | exact .inl rfl | exact .inr rfl) (e_lst a_nil))
      (ss_cons (s_for PassesOwn.never rfl (i_any (ev 6)) (g_name sc__law_strings.nd rfl (by first | exact .inl rfl | exact .inr rfl)) (ss_one (s_expr (e_bm PySem.F.plainAttrs_list PySem.F.slot_list_extend PySem.F.type_list_extend m_extend (ev 8) (a_cons (e_lc rfl sc__law_strings.nd (i_any (ev 4)) (blkOk_by (own := [((Str.ofString "_law_sign"), 10)]) (N := N__law_strings) (sc := defScope S__law_strings) (by decide +kernel)) (own_name (by decide)) (fun _ _ _ _ _ => (pg_name sc__law_strings.nd rfl (by first | exact .inl rfl | exact .inr rfl))) (fun _ _ _ _ _ => ifs_nil) (fun _ _ _ _ _ => (e_op o_add (ev 9) (ev 10)))) a_nil)))))
      (ss_cons (s_expr (e_bm PySem.F.plainAttrs_list PySem.F.slot_list_extend PySem.F.type_list_extend m_extend (ev 5) (a_cons (ev 8) a_nil)))
      (ss_one (s_set (i := 6) sc__law_strings.nd rfl (by first | exact .inl rfl | exact .inr rfl) (ev 8)))))))
      (ss_one (s_ret (ev 5))))),
      fun ds M R h => law ds M R h⟩
theorem sc__law_keeps : FnScope N__law_keeps P__law_keeps (defScope S__law_keeps) := ⟨rfl, rfl, rfl, by decide +kernel, rfl, by decide +kernel, by decide +kernel⟩
theorem ok__law_keeps (T : Txt K w mg a) (len : ∀ ds M R, sp ds M R → ds.length = 3) (law : ∀ ds M R, sp ds M R → R__law_keeps (topE R) (startD 11 ds) M) :
    FnOk P w K mg base CX0 1 a.f__law_keeps a.d__law_keeps P__law_keeps (lsp w K sp) :=
  okD T.F__law_keeps sc__law_keeps rfl len fun cdv A outer s H E hr => ⟨_,
      (ss_cons (s_asg (e_tup (a_cons (e_ix hr.units (ev 1) e_int) (a_cons e_newS a_nil))) (g_tup rfl (gs_cons (g_name sc__law_keeps.nd rfl (by first | exact .inl rfl | exact .inr rfl)) (gs_cons (g_name sc__law_keeps.nd rfl (by first | exact .inl rfl | exact .inr rfl)) gs_nil))))
      (ss_cons (s_for PassesOwn.never rfl (i_any (ev 0)) (g_tup rfl (gs_cons (g_name sc__law_keeps.nd rfl (by first | exact .inl rfl | exact .inr rfl)) (gs_cons (g_name sc__law_keeps.nd rfl (by first | exact .inl rfl | exact .inr rfl)) gs_nil))) (ss_one (s_for PassesOwn.never rfl (i_any (ev 6)) (g_name sc__law_keeps.nd rfl (by first | exact .inl rfl | exact .inr rfl)) (ss_one (s_asg (ev 5) (g_sub hr.units (ev 4) (ev 7) (pg := pg_sub (ev 4) (ev 7) (p_set hr.units))))))))
      (ss_cons (s_if (t_cmp (o_eq hr.units) (ev 3) e_str rfl) (ss_one (s_ret (e_and (e_cmp o_le (e_ix hr.units (ev 1) e_int) (e_cb c_len rfl T.z_len rfl (a_cons (ev 2) a_nil)) rfl) (e_one (e_or (e_cmp o_is (e_ix hr.units (ev 1) e_int) e_non rfl) (e_one (e_cmp o_le (e_cb c_len rfl T.z_len rfl (a_cons (ev 2) a_nil)) (e_ix hr.units (ev 1) e_int) rfl))))))) ss_nil)
      (ss_cons (s_if (t_cmp (o_in hr.units) (ev 3) (e_tup (a_cons e_str (a_cons e_str a_nil))) rfl) (ss_cons (s_set (i := 8) sc__law_keeps.nd rfl (by first | exact .inl rfl | exact .inr rfl) (e_cb c_len rfl T.z_len rfl (a_cons (e_lc rfl sc__law_keeps.nd (i_any (ev 2)) (blkOk_by (own := [((Str.ofString "_law_sign"), 7)]) (N := N__law_keeps) (sc := defScope S__law_keeps) (by decide +kernel)) (own_name (by decide)) (fun _ _ _ _ _ => (pg_name sc__law_keeps.nd rfl (by first | exact .inl rfl | exact .inr rfl))) (fun _ _ _ _ _ => (ifs_one (t_cmp (o_eq hr.units) (e_ix hr.units (ev 4) (ev 7)) (e_ix hr.units (ev 1) e_int) rfl))) (fun _ _ _ _ _ => (ev 7))) a_nil)))
      (ss_one (s_ret (e_if (t_cmp (o_eq hr.units) (ev 3) e_str rfl) (e_cmp o_ge (ev 8) (e_ix hr.units (ev 1) e_int) rfl) (e_cmp o_le (ev 8) (e_ix hr.units (ev 1) e_int) rfl))))) ss_nil)
      (ss_cons (s_if (t_cmp (o_eq hr.units) (ev 3) e_str rfl) (ss_one (s_ret (e_cmp o_ge (e_lenset rfl hr.units rfl T.z_len rfl T.z_set (e_lc rfl sc__law_keeps.nd (i_any (ev 2)) (blkOk_by (own := [((Str.ofString "_law_sign"), 7)]) (N := N__law_keeps) (sc := defScope S__law_keeps) (by decide +kernel)) (own_name (by decide)) (fun _ _ _ _ _ => (pg_name sc__law_keeps.nd rfl (by first | exact .inl rfl | exact .inr rfl))) (fun _ _ _ _ _ => ifs_nil) (fun _ _ _ _ _ => (e_ix hr.units (ev 4) (ev 7))))) (e_ix hr.units (ev 1) e_int) rfl))) ss_nil)
      (ss_cons (s_if (t_cmp (o_in hr.units) (ev 3) (e_tup (a_cons e_str (a_cons e_str a_nil))) rfl) (ss_one (s_ret (e_and (e_cmp (o_ne hr.units) (ev 2) e_str rfl) (e_one (e_cmp (o_eq hr.units) (e_ix hr.units (ev 4) (e_if (t_cmp (o_eq hr.units) (ev 3) e_str rfl) (e_ix hr.units (ev 2) e_int) (e_ix hr.units (ev 2) (e_un u_neg e_int)))) (e_ix hr.units (ev 1) e_int) rfl))))) ss_nil)
      (ss_cons (s_if (t_cmp (o_eq hr.units) (ev 3) e_str rfl) (ss_one (s_ret (e_cmp (o_nin hr.units) (e_ix hr.units (ev 1) e_int) (ev 2) rfl))) ss_nil)
      (ss_cons (s_for PassesOwn.never rfl (i_range1 rfl T.z_range (e_op o_sub (e_cb c_len rfl T.z_len rfl (a_cons (ev 2) a_nil)) (e_ix hr.units (ev 1) e_int))) (g_name sc__law_keeps.nd rfl (by first | exact .inl rfl | exact .inr rfl)) (ss_cons (s_set (i := 10) sc__law_keeps.nd rfl (by first | exact .inl rfl | exact .inr rfl) (e_sl (ev 2) (pt_some (ev 9)) (pt_some (e_op o_add (e_op o_add (ev 9) (e_ix hr.units (ev 1) e_int)) e_int))))
      (ss_cons (s_if (TX.wx (w_and (t_cmp (o_eq hr.units) (ev 3) e_str rfl) (w_and1 (t_cmp (o_eq hr.units) (e_lenset rfl hr.units rfl T.z_len rfl T.z_set (ev 10)) e_int rfl)))) (ss_one (s_ret e_bl)) ss_nil)
      (ss_one (s_if (TX.wx (w_and (t_cmp (o_eq hr.units) (ev 3) e_str rfl) (w_and1 (t_tru (e_cb (c_any rfl) rfl T.z_any rfl (a_cons (e_lc rfl sc__law_keeps.nd (i_any (ev 0)) (blkOk_by (own := [((Str.ofString "_law_name"), 5), ((Str.ofString "_law_signs"), 6)]) (N := N__law_keeps) (sc := defScope S__law_keeps) (by decide +kernel)) (own_tup (owns_cons (own_name (by decide)) (owns_cons (own_name (by decide)) owns_nil))) (fun _ _ _ _ _ => (pg_tup rfl (pgs_cons (pg_name sc__law_keeps.nd rfl (by first | exact .inl rfl | exact .inr rfl)) (pgs_cons (pg_name sc__law_keeps.nd rfl (by first | exact .inl rfl | exact .inr rfl)) pgs_nil)))) (fun _ _ _ _ _ => ifs_nil) (fun _ _ _ _ _ => (e_cmp (o_in hr.units) (ev 10) (ev 6) rfl))) a_nil)))))) (ss_one (s_ret e_bl)) ss_nil)))))
      (ss_one (s_ret e_bl)))))))))),
      fun ds M R h => law ds M R h⟩
theorem sc__law_allows : FnScope N__law_allows P__law_allows (defScope S__law_allows) := ⟨rfl, rfl, rfl, by decide +kernel, rfl, by decide +kernel, by decide +kernel⟩
theorem ok__law_allows {sp__law_keeps : DSp} (T : Txt K w mg a) (G__law_keeps : FnOk P w K mg base CX0 1 a.f__law_keeps a.d__law_keeps P__law_keeps (lsp w K sp__law_keeps)) (len : ∀ ds M R, sp ds M R → ds.length = 2) (law : ∀ ds M R, sp ds M R → R__law_allows sp__law_keeps (topE R) (startD 3 ds) M) :
    FnOk P w K mg base CX0 2 a.f__law_allows a.d__law_allows P__law_allows (lsp w K sp) :=
  okD T.F__law_allows sc__law_allows rfl len fun cdv A outer s H E hr => ⟨_,
      (ss_one (s_ret (e_cb (c_all rfl) rfl T.z_all rfl (a_cons (e_lc rfl sc__law_allows.nd (i_any (e_ix hr.units (ev 0) e_int)) (blkOk_by (own := [((Str.ofString "_law_rule_here"), 2)]) (N := N__law_allows) (sc := defScope S__law_allows) (by decide +kernel)) (own_name (by decide)) (fun _ _ _ _ _ => (pg_name sc__law_allows.nd rfl (by first | exact .inl rfl | exact .inr rfl))) (fun _ _ _ _ _ => ifs_nil) (fun _ _ _ _ _ => (e_call G__law_keeps (hr.mono (by decide)) rfl T.g__law_keeps T.k__law_keeps T.b__law_keeps pass0 (a_cons (e_ix hr.units (ev 0) e_int) (a_cons (ev 2) (a_cons (ev 1) a_nil)))))) a_nil)))),
      fun ds M R h => law ds M R h⟩
theorem sc_found_by : FnScope N_found_by P_found_by (defScope S_found_by) := ⟨rfl, rfl, rfl, by decide +kernel, rfl, by decide +kernel, by decide +kernel⟩
theorem ok_found_by {sp_Machine___init__ : DSp} {sp_Machine_fine : DSp} {sp_Machine_step : DSp} (T : Txt K w mg a) (G_Machine___init__ : FnOk P w K mg base CX0 2 a.f_Machine___init__ a.d_Machine___init__ P_Machine___init__ (lsp w K sp_Machine___init__)) (G_Machine_fine : FnOk P w K mg base CX0 2 a.f_Machine_fine a.d_Machine_fine P_Machine_fine (lsp w K sp_Machine_fine)) (G_Machine_step : FnOk P w K mg base CX0 3 a.f_Machine_step a.d_Machine_step P_Machine_step (lsp w K sp_Machine_step)) (len : ∀ ds M R, sp ds M R → ds.length = 3) (law : ∀ ds M R, sp ds M R → R_found_by a.C_Machine sp_Machine___init__ sp_Machine_fine sp_Machine_step (topE R) (startD 13 ds) M) :
    FnOk P w K mg base CX0 4 a.f_found_by a.d_found_by P_found_by (lsp w K sp) :=
  okD T.F_found_by sc_found_by rfl len fun cdv A outer s H E hr => ⟨_,
      (ss_cons (s_par rfl sc_found_by.nd rfl rfl (by decide) rfl rfl (a_cons (e_make T.mk_Machine G_Machine___init__ (hr.mono (by decide)) rfl T.g_Machine T.b_Machine___init__ pass0 (a_cons (ev 0) a_nil)) (a_cons (e_make T.mk_Machine G_Machine___init__ (hr.mono (by decide)) rfl T.g_Machine T.b_Machine___init__ pass0 (a_cons (ev 1) a_nil)) a_nil)) rfl)
      (ss_cons (s_set (i := 5) sc_found_by.nd rfl (by first | exact .inl rfl | exact .inr rfl) (e_tup (a_cons (e_fld (ev 3) T.cl_Machine T.na_Machine_start) (a_cons (e_fld (ev 4) T.cl_Machine T.na_Machine_start) a_nil))))
      (ss_cons (s_par rfl sc_found_by.nd rfl rfl (by decide) rfl rfl (a_cons (e_dispT hr.units (ev 5) e_bl) (a_cons (e_lst (a_cons (e_tup (a_cons (ev 5) (a_cons e_str a_nil))) a_nil)) a_nil)) rfl)
      (ss_cons (s_while PassesOwn.never (t_cmp (o_ne hr.units) (ev 7) (e_lst a_nil) rfl) (ss_cons (s_set (i := 8) sc_found_by.nd rfl (by first | exact .inl rfl | exact .inr rfl) (e_lst a_nil))
      (ss_cons (s_for PassesOwn.never rfl (i_any (ev 7)) (g_tup rfl (gs_cons (g_name sc_found_by.nd rfl (by first | exact .inl rfl | exact .inr rfl)) (gs_cons (g_name sc_found_by.nd rfl (by first | exact .inl rfl | exact .inr rfl)) gs_nil))) (ss_cons (s_if (t_cmp (o_in hr.units) (e_tup (a_cons (e_meth (ev 3) T.cl_Machine T.m_Machine_fine G_Machine_fine (hr.mono (by decide)) T.b_Machine_fine pass0 (a_cons (e_ix hr.units (ev 9) e_int) a_nil)) (a_cons (e_meth (ev 4) T.cl_Machine T.m_Machine_fine G_Machine_fine (hr.mono (by decide)) T.b_Machine_fine pass0 (a_cons (e_ix hr.units (ev 9) e_int) a_nil)) a_nil))) (ev 2) rfl) (ss_one (s_ret (ev 10))) ss_nil)
      (ss_one (s_for PassesOwn.never rfl (i_any (e_fld (ev 3) T.cl_Machine T.na_Machine_signs)) (g_name sc_found_by.nd rfl (by first | exact .inl rfl | exact .inr rfl)) (ss_cons (s_set (i := 12) sc_found_by.nd rfl (by first | exact .inl rfl | exact .inr rfl) (e_tup (a_cons (e_meth (ev 3) T.cl_Machine T.m_Machine_step G_Machine_step (hr.mono (by decide)) T.b_Machine_step pass0 (a_cons (e_ix hr.units (ev 9) e_int) (a_cons (ev 11) a_nil))) (a_cons (e_meth (ev 4) T.cl_Machine T.m_Machine_step G_Machine_step (hr.mono (by decide)) T.b_Machine_step pass0 (a_cons (e_ix hr.units (ev 9) e_int) (a_cons (ev 11) a_nil))) a_nil))))
      (ss_one (s_if (TX.wx (w_and (t_cmp (o_ne hr.units) (ev 12) (e_tup (a_cons e_non (a_cons e_non a_nil))) rfl) (w_and1 (t_cmp (o_nin hr.units) (ev 12) (ev 6) rfl)))) (ss_cons (s_asg e_bl (g_sub hr.units (ev 6) (ev 12) (pg := pg_sub (ev 6) (ev 12) (p_set hr.units))))
      (ss_one (s_expr (e_bm PySem.F.plainAttrs_list PySem.F.slot_list_append PySem.F.type_list_append m_append (ev 8) (a_cons (e_tup (a_cons (ev 12) (a_cons (e_op o_add (ev 10) (ev 11)) a_nil))) a_nil))))) ss_nil)))))))
      (ss_one (s_set (i := 7) sc_found_by.nd rfl (by first | exact .inl rfl | exact .inr rfl) (ev 8))))))
      (ss_one (s_ret e_non)))))),
      fun ds M R h => law ds M R h⟩
theorem sc_parting_of : FnScope N_parting_of P_parting_of (defScope S_parting_of) := ⟨rfl, rfl, rfl, by decide +kernel, rfl, by decide +kernel, by decide +kernel⟩
theorem ok_parting_of {sp_found_by : DSp} (T : Txt K w mg a) (G_found_by : FnOk P w K mg base CX0 4 a.f_found_by a.d_found_by P_found_by (lsp w K sp_found_by)) (len : ∀ ds M R, sp ds M R → ds.length = 2) (law : ∀ ds M R, sp ds M R → R_parting_of sp_found_by (topE R) (startD 2 ds) M) :
    FnOk P w K mg base CX0 5 a.f_parting_of a.d_parting_of P_parting_of (lsp w K sp) :=
  okD T.F_parting_of sc_parting_of rfl len fun cdv A outer s H E hr => ⟨_,
      (ss_one (s_ret (e_call G_found_by (hr.mono (by decide)) rfl T.g_found_by T.k_found_by T.b_found_by pass0 (a_cons (ev 0) (a_cons (ev 1) (a_cons (e_lst (a_cons (e_tup (a_cons e_bl (a_cons e_bl a_nil))) (a_cons (e_tup (a_cons e_bl (a_cons e_bl a_nil))) a_nil))) a_nil)))))),
      fun ds M R h => law ds M R h⟩
theorem sc_without : FnScope N_without P_without (defScope S_without) := ⟨rfl, rfl, rfl, by decide +kernel, rfl, by decide +kernel, by decide +kernel⟩
theorem ok_without (T : Txt K w mg a) (len : ∀ ds M R, sp ds M R → ds.length = 2) (law : ∀ ds M R, sp ds M R → R_without (topE R) (startD 2 ds) M) :
    FnOk P w K mg base CX0 1 a.f_without a.d_without P_without (lsp w K sp) :=
  okD T.F_without sc_without rfl len fun cdv A outer s H E hr => ⟨_,
      (ss_one (s_ret (e_tup (a_cons (e_ix hr.units (ev 0) e_int) (a_cons (e_op o_add (e_sl (e_ix hr.units (ev 0) e_int) pt_none (pt_some (ev 1))) (e_sl (e_ix hr.units (ev 0) e_int) (pt_some (e_op o_add (ev 1) e_int)) pt_none)) a_nil))))),
      fun ds M R h => law ds M R h⟩
theorem sc_idle : FnScope N_idle P_idle (defScope S_idle) := ⟨rfl, rfl, rfl, by decide +kernel, rfl, by decide +kernel, by decide +kernel⟩
theorem ok_idle {sp_need_policy : DSp} {sp_parting_of : DSp} {sp_without : DSp} (T : Txt K w mg a) (G_need_policy : FnOk P w K mg base CX0 4 a.f_need_policy a.d_need_policy P_need_policy (lsp w K sp_need_policy)) (G_parting_of : FnOk P w K mg base CX0 5 a.f_parting_of a.d_parting_of P_parting_of (lsp w K sp_parting_of)) (G_without : FnOk P w K mg base CX0 1 a.f_without a.d_without P_without (lsp w K sp_without)) (len : ∀ ds M R, sp ds M R → ds.length = 1) (law : ∀ ds M R, sp ds M R → R_idle sp_need_policy sp_parting_of sp_without (topE R) (startD 2 ds) M) :
    FnOk P w K mg base CX0 6 a.f_idle a.d_idle P_idle (lsp w K sp) :=
  okD T.F_idle sc_idle rfl len fun cdv A outer s H E hr => ⟨_,
      (ss_cons (s_expr (e_call G_need_policy (hr.mono (by decide)) rfl T.g_need_policy T.k_need_policy T.b_need_policy pass0 (a_cons (ev 0) a_nil)))
      (ss_one (s_ret (e_lc rfl sc_idle.nd (i_range1 rfl T.z_range (e_cb c_len rfl T.z_len rfl (a_cons (e_ix hr.units (ev 0) e_int) a_nil))) (blkOk_by (own := [((Str.ofString "at"), 1)]) (N := N_idle) (sc := defScope S_idle) (by decide +kernel)) (own_name (by decide)) (fun _ _ _ _ _ => (pg_name sc_idle.nd rfl (by first | exact .inl rfl | exact .inr rfl))) (fun _ _ _ _ _ => (ifs_one (t_cmp o_is (e_call G_parting_of (hr.mono (by decide)) rfl T.g_parting_of T.k_parting_of T.b_parting_of pass0 (a_cons (ev 0) (a_cons (e_call G_without (hr.mono (by decide)) rfl T.g_without T.k_without T.b_without pass0 (a_cons (ev 0) (a_cons (ev 1) a_nil))) a_nil))) e_non rfl))) (fun _ _ _ _ _ => (ev 1)))))),
      fun ds M R h => law ds M R h⟩
theorem sc_law : FnScope N_law P_law (defScope S_law) := ⟨rfl, rfl, rfl, by decide +kernel, rfl, by decide +kernel, by decide +kernel⟩
theorem ok_law {sp__law_classes : DSp} {sp__law_bent : DSp} {sp_core : DSp} {sp_first : DSp} {sp__law_strings : DSp} {sp__law_allows : DSp} {sp__law_keeps : DSp} {sp_idle : DSp} {sp__law_rule : DSp} (T : Txt K w mg a) (G__law_classes : FnOk P w K mg base CX0 3 a.f__law_classes a.d__law_classes P__law_classes (lsp w K sp__law_classes)) (G__law_bent : FnOk P w K mg base CX0 5 a.f__law_bent a.d__law_bent P__law_bent (lsp w K sp__law_bent)) (G_core : FnOk P w K mg base CX0 8 a.f_core a.d_core P_core (lsp w K sp_core)) (G_first : FnOk P w K mg base CX0 6 a.f_first a.d_first P_first (lsp w K sp_first)) (G__law_strings : FnOk P w K mg base CX0 1 a.f__law_strings a.d__law_strings P__law_strings (lsp w K sp__law_strings)) (G__law_allows : FnOk P w K mg base CX0 2 a.f__law_allows a.d__law_allows P__law_allows (lsp w K sp__law_allows)) (G__law_keeps : FnOk P w K mg base CX0 1 a.f__law_keeps a.d__law_keeps P__law_keeps (lsp w K sp__law_keeps)) (G_idle : FnOk P w K mg base CX0 6 a.f_idle a.d_idle P_idle (lsp w K sp_idle)) (G__law_rule : FnOk P w K mg base CX0 3 a.f__law_rule a.d__law_rule P__law_rule (lsp w K sp__law_rule)) (len : ∀ ds M R, sp ds M R → ds.length = 1) (law : ∀ ds M R, sp ds M R → R_law_k18 sp__law_classes sp__law_bent sp_core sp_first sp__law_strings sp__law_allows sp__law_keeps sp_idle sp__law_rule (topE R) (startD 15 ds) M) :
    FnOk P w K mg base CX0 9 a.f_law a.d_law P_law (lsp w K sp) :=
  okD T.F_law sc_law rfl len fun cdv A outer s H E hr => ⟨_,
      (ss_cons (s_set (i := 1) sc_law.nd rfl (by first | exact .inl rfl | exact .inr rfl) (e_lst (a_cons e_int (a_cons e_int a_nil))))
      (ss_cons (s_set (i := 2) sc_law.nd rfl (by first | exact .inl rfl | exact .inr rfl) (e_call G__law_classes (hr.mono (by decide)) rfl T.g__law_classes T.k__law_classes T.b__law_classes pass0 (a_cons (ev 0) (a_cons (ev 1) a_nil))))
      (ss_cons (s_set (i := 3) sc_law.nd rfl (by first | exact .inl rfl | exact .inr rfl) (e_call G__law_bent (hr.mono (by decide)) rfl T.g__law_bent T.k__law_bent T.b__law_bent pass0 (a_cons (ev 0) (a_cons (ev 1) (a_cons (ev 2) a_nil)))))
      (ss_cons (s_asg (e_tup (a_cons (e_call G_core (hr.mono (by decide)) rfl T.g_core T.k_core T.b_core pass0 (a_cons (ev 3) a_nil)) (a_cons (e_call G_core (hr.mono (by decide)) rfl T.g_core T.k_core T.b_core pass0 (a_cons (e_tup (a_cons (ev 2) (a_cons (e_rev (e_ix hr.units (ev 3) e_int)) a_nil))) a_nil)) a_nil))) (g_tup rfl (gs_cons (g_name sc_law.nd rfl (by first | exact .inl rfl | exact .inr rfl)) (gs_cons (g_name sc_law.nd rfl (by first | exact .inl rfl | exact .inr rfl)) gs_nil))))
      (ss_cons (s_if (TX.wx (w_or (t_cmp (o_ne hr.units) (e_cmp o_is (ev 4) e_non rfl) (e_cmp o_isn (e_call G_first (hr.mono (by decide)) rfl T.g_first T.k_first T.b_first pass0 (a_cons (ev 3) a_nil)) e_non rfl) rfl) (w_or1 (t_cmp (o_ne hr.units) (e_cmp o_is (ev 4) e_non rfl) (e_cmp o_is (ev 5) e_non rfl) rfl)))) (ss_one (s_ret e_bl)) ss_nil)
      (ss_cons (s_if (t_cmp o_isn (ev 4) e_non rfl) (ss_cons (s_if (TX.wx (w_or (t_cmp (o_ne hr.units) (e_cb c_len rfl T.z_len rfl (a_cons (ev 4) a_nil)) (e_cb c_len rfl T.z_len rfl (a_cons (ev 5) a_nil)) rfl) (w_or1 (t_cmp (o_ne hr.units) (ev 4) (e_setsort rfl rfl T.z_sorted rfl T.z_set (ev 4)) rfl)))) (ss_one (s_ret e_bl)) ss_nil)
      (ss_cons (s_set (i := 7) sc_law.nd rfl (by first | exact .inl rfl | exact .inr rfl) (e_lc rfl sc_law.nd (i_any (ev 4)) (blkOk_by (own := [((Str.ofString "_law_at"), 6)]) (N := N_law) (sc := defScope S_law) (by decide +kernel)) (own_name (by decide)) (fun _ _ _ _ _ => (pg_name sc_law.nd rfl (by first | exact .inl rfl | exact .inr rfl))) (fun _ _ _ _ _ => ifs_nil) (fun _ _ _ _ _ => (e_ix hr.units (e_ix hr.units (ev 3) e_int) (ev 6)))))
      (ss_cons (s_if (t_cmp o_isn (e_call G_first (hr.mono (by decide)) rfl T.g_first T.k_first T.b_first pass0 (a_cons (e_tup (a_cons (ev 2) (a_cons (e_ct c_tuple rfl T.z_tuple rfl (a_cons (ev 7) a_nil)) a_nil))) a_nil)) e_non rfl) (ss_one (s_ret e_bl)) ss_nil)
      (ss_cons (s_if (t_tru (e_cb (c_any rfl) rfl T.z_any rfl (a_cons (e_lc rfl sc_law.nd (i_any (e_call G__law_strings (hr.mono (by decide)) rfl T.g__law_strings T.k__law_strings T.b__law_strings pass0 (a_cons (ev 3) (a_cons e_int a_nil)))) (blkOk_by (own := [((Str.ofString "_law_text"), 8)]) (N := N_law) (sc := defScope S_law) (by decide +kernel)) (own_name (by decide)) (fun _ _ _ _ _ => (pg_name sc_law.nd rfl (by first | exact .inl rfl | exact .inr rfl))) (fun _ _ _ _ _ => ifs_nil) (fun _ _ _ _ _ => (e_call G__law_allows (hr.mono (by decide)) rfl T.g__law_allows T.k__law_allows T.b__law_allows pass0 (a_cons (e_tup (a_cons (ev 2) (a_cons (ev 7) a_nil))) (a_cons (ev 8) a_nil))))) a_nil))) (ss_one (s_ret e_bl)) ss_nil)
      (ss_cons (s_for PassesOwn.never rfl (i_range1 rfl T.z_range (e_cb c_len rfl T.z_len rfl (a_cons (ev 7) a_nil))) (g_name sc_law.nd rfl (by first | exact .inl rfl | exact .inr rfl)) (ss_cons (s_set (i := 9) sc_law.nd rfl (by first | exact .inl rfl | exact .inr rfl) (e_tup (a_cons (ev 2) (a_cons (e_ct c_tuple rfl T.z_tuple rfl (a_cons (e_op o_add (e_sl (ev 7) pt_none (pt_some (ev 6))) (e_sl (ev 7) (pt_some (e_op o_add (ev 6) e_int)) pt_none)) a_nil)) a_nil))))
      (ss_cons (s_set (i := 10) sc_law.nd rfl (by first | exact .inl rfl | exact .inr rfl) (e_call G_first (hr.mono (by decide)) rfl T.g_first T.k_first T.b_first pass0 (a_cons (ev 9) a_nil)))
      (ss_one (s_if (TX.wx (w_or (t_cmp o_is (ev 10) e_non rfl) (w_or (t_not (t_tru (e_call G__law_allows (hr.mono (by decide)) rfl T.g__law_allows T.k__law_allows T.b__law_allows pass0 (a_cons (ev 9) (a_cons (ev 10) a_nil))))) (w_or1 (t_tru (e_call G__law_keeps (hr.mono (by decide)) rfl T.g__law_keeps T.k__law_keeps T.b__law_keeps pass0 (a_cons (ev 2) (a_cons (e_ix hr.units (ev 7) (ev 6)) (a_cons (ev 10) a_nil))))))))) (ss_one (s_ret e_bl)) ss_nil)))))
      (ss_cons (s_asg (e_tup (a_cons (e_call G_idle (hr.mono (by decide)) rfl T.g_idle T.k_idle T.b_idle pass0 (a_cons (ev 3) a_nil)) (a_cons (e_lc rfl sc_law.nd (i_range1 rfl T.z_range (e_cb c_len rfl T.z_len rfl (a_cons (e_ix hr.units (ev 3) e_int) a_nil))) (blkOk_by (own := [((Str.ofString "_law_at"), 6)]) (N := N_law) (sc := defScope S_law) (by decide +kernel)) (own_name (by decide)) (fun _ _ _ _ _ => (pg_name sc_law.nd rfl (by first | exact .inl rfl | exact .inr rfl))) (fun _ _ _ _ _ => (ifs_one (t_cmp (o_nin hr.units) (ev 6) (ev 4) rfl))) (fun _ _ _ _ _ => (ev 6))) a_nil))) (g_tup rfl (gs_cons (g_name sc_law.nd rfl (by first | exact .inl rfl | exact .inr rfl)) (gs_cons (g_name sc_law.nd rfl (by first | exact .inl rfl | exact .inr rfl)) gs_nil))))
      (ss_one (s_if (t_tru (e_cb (c_any rfl) rfl T.z_any rfl (a_cons (e_lc rfl sc_law.nd (i_any (ev 12)) (blkOk_by (own := [((Str.ofString "_law_at"), 6)]) (N := N_law) (sc := defScope S_law) (by decide +kernel)) (own_name (by decide)) (fun _ _ _ _ _ => (pg_name sc_law.nd rfl (by first | exact .inl rfl | exact .inr rfl))) (fun _ _ _ _ _ => ifs_nil) (fun _ _ _ _ _ => (e_cmp (o_nin hr.units) (ev 6) (ev 11) rfl))) a_nil))) (ss_one (s_ret e_bl)) ss_nil)))))))) ss_nil)
      (ss_cons (s_asg (e_tup (a_cons (e_call G__law_rule (hr.mono (by decide)) rfl T.g__law_rule T.k__law_rule T.b__law_rule pass0 (a_cons (ev 0) (a_cons (ev 1) (a_cons (ev 2) a_nil)))) (a_cons (e_call G_idle (hr.mono (by decide)) rfl T.g_idle T.k_idle T.b_idle pass0 (a_cons (ev 3) a_nil)) a_nil))) (g_tup rfl (gs_cons (g_name sc_law.nd rfl (by first | exact .inl rfl | exact .inr rfl)) (gs_cons (g_name sc_law.nd rfl (by first | exact .inl rfl | exact .inr rfl)) gs_nil))))
      (ss_cons (s_if (TX.wx (w_and (t_cmp (o_nin hr.units) (ev 13) (e_ix hr.units (ev 3) e_int) rfl) (w_and1 (t_cmp o_lt (e_cb c_len rfl T.z_len rfl (a_cons (e_ix hr.units (ev 3) e_int) a_nil)) e_int rfl)))) (ss_cons (s_set (i := 14) sc_law.nd rfl (by first | exact .inl rfl | exact .inr rfl) (e_call G_idle (hr.mono (by decide)) rfl T.g_idle T.k_idle T.b_idle pass0 (a_cons (e_tup (a_cons (ev 2) (a_cons (e_op o_add (e_ix hr.units (ev 3) e_int) (e_tup (a_cons (ev 13) a_nil))) a_nil))) a_nil)))
      (ss_one (s_ret (e_cb (c_all rfl) rfl T.z_all rfl (a_cons (e_lc rfl sc_law.nd (i_any (ev 11)) (blkOk_by (own := [((Str.ofString "_law_at"), 6)]) (N := N_law) (sc := defScope S_law) (by decide +kernel)) (own_name (by decide)) (fun _ _ _ _ _ => (pg_name sc_law.nd rfl (by first | exact .inl rfl | exact .inr rfl))) (fun _ _ _ _ _ => ifs_nil) (fun _ _ _ _ _ => (e_cmp (o_in hr.units) (ev 6) (ev 14) rfl))) a_nil))))) ss_nil)
      (ss_one (s_ret e_bl)))))))))),
      fun ds M R h => law ds M R h⟩
end
end DL

set_option Elab.async false
set_option linter.all false
set_option maxRecDepth 100000
namespace DL
open PySem PySem.Spec PyProof.Rows L2
theorem ent_int {K : PySem.W.Frag} {a : Addr} {z : Str} {i : Int} {t : Tok} (h : PySem.W.nsIn K a z = some (some (.int i t))) : EntOk K a (z, some (.int i)) := ⟨_, .int i, h, ⟨t, rfl⟩, fun _ => Rp.int⟩
theorem ent_nil {K : PySem.W.Frag} {a b : Addr} {z : Str} {od : Option Addr} {n : Nat} {sl : Array (Option Value)} (h : PySem.W.nsIn K a z = some (some (.ref b))) (l : K.lookup b = some ⟨.type "tuple", od, .seq #[] n, sl⟩) : EntOk K a (z, some (.tup [])) :=
  ⟨_, .ref b, h, rfl, fun H => by unfold Rp; exact ⟨b, [], rfl, .inr ⟨_, _, _, l, rfl, rfl, Nat.zero_le _, .nil⟩, .nil⟩⟩
theorem ent_si {K : PySem.W.Frag} {a b : Addr} {z : Str} {od : Option Addr} {n : Nat} {sl : Array (Option Value)} {t u : Tok} (h : PySem.W.nsIn K a z = some (some (.ref b))) (l : K.lookup b = some ⟨.type "tuple", od, .seq #[.str (Str.ofString "") t, .int 0 u] n, sl⟩) : EntOk K a (z, some (.tup [.str (Str.ofString ""), .int 0])) :=
  ⟨_, .ref b, h, rfl, fun H => by unfold Rp; exact ⟨b, [.str (Str.ofString ""), .int 0], rfl, .inr ⟨_, _, _, l, rfl, rfl, (by show 2 ≤ sizeLine; decide), .cons ⟨t, rfl⟩ (.cons ⟨u, rfl⟩ .nil)⟩, .cons Rp.str (.cons Rp.int .nil)⟩⟩
def spLaw (w : World) (K : PySem.W.Frag) : Sp := lsp w K sp_law
set_option maxHeartbeats 4000000 in
theorem all_mk {l : PySem.W.OpenLaw} {w : World} {K : PySem.W.Frag} {h : Heap} {mg : Str → Option Value} {fa : Addr} (X : K.In h) (G : h.Ns mainGlobals mg) (hfa : mg "law" = some (.ref fa))
    {C_Machine : Addr}
    {f__law_draw : Addr} {od__law_draw an__law_draw : Option Addr} {sl__law_draw : Array (Option Value)} {oc__law_draw kV__law_draw dc__law_draw pm__law_draw cd__law_draw ct__law_draw : Value}
    {f__law_pick : Addr} {od__law_pick an__law_pick : Option Addr} {sl__law_pick : Array (Option Value)} {oc__law_pick kV__law_pick dc__law_pick pm__law_pick cd__law_pick ct__law_pick : Value}
    {f__law_classes : Addr} {od__law_classes an__law_classes : Option Addr} {sl__law_classes : Array (Option Value)} {oc__law_classes kV__law_classes dc__law_classes pm__law_classes cd__law_classes ct__law_classes : Value}
    {f__law_rule : Addr} {od__law_rule an__law_rule : Option Addr} {sl__law_rule : Array (Option Value)} {oc__law_rule kV__law_rule dc__law_rule pm__law_rule cd__law_rule ct__law_rule : Value}
    {f__law_policy : Addr} {od__law_policy an__law_policy : Option Addr} {sl__law_policy : Array (Option Value)} {oc__law_policy kV__law_policy dc__law_policy pm__law_policy cd__law_policy ct__law_policy : Value}
    {f__law_bent : Addr} {od__law_bent an__law_bent : Option Addr} {sl__law_bent : Array (Option Value)} {oc__law_bent kV__law_bent dc__law_bent pm__law_bent cd__law_bent ct__law_bent : Value}
    {f_is_over : Addr} {od_is_over an_is_over : Option Addr} {sl_is_over : Array (Option Value)} {oc_is_over kV_is_over dc_is_over pm_is_over cd_is_over ct_is_over : Value}
    {f_are_classes : Addr} {od_are_classes an_are_classes : Option Addr} {sl_are_classes : Array (Option Value)} {oc_are_classes kV_are_classes dc_are_classes pm_are_classes cd_are_classes ct_are_classes : Value}
    {f_is_count : Addr} {od_is_count an_is_count : Option Addr} {sl_is_count : Array (Option Value)} {oc_is_count kV_is_count dc_is_count pm_is_count cd_is_count ct_is_count : Value}
    {f_is_name : Addr} {od_is_name an_is_name : Option Addr} {sl_is_name : Array (Option Value)} {oc_is_name kV_is_name dc_is_name pm_is_name cd_is_name ct_is_name : Value}
    {f_is_rule : Addr} {od_is_rule an_is_rule : Option Addr} {sl_is_rule : Array (Option Value)} {oc_is_rule kV_is_rule dc_is_rule pm_is_rule cd_is_rule ct_is_rule : Value}
    {f_signs_of : Addr} {od_signs_of an_signs_of : Option Addr} {sl_signs_of : Array (Option Value)} {oc_signs_of kV_signs_of dc_signs_of pm_signs_of cd_signs_of ct_signs_of : Value}
    {f_is_policy : Addr} {od_is_policy an_is_policy : Option Addr} {sl_is_policy : Array (Option Value)} {oc_is_policy kV_is_policy dc_is_policy pm_is_policy cd_is_policy ct_is_policy : Value}
    {f_need_policy : Addr} {od_need_policy an_need_policy : Option Addr} {sl_need_policy : Array (Option Value)} {oc_need_policy kV_need_policy dc_need_policy pm_need_policy cd_need_policy ct_need_policy : Value}
    {f_Machine___init__ : Addr} {od_Machine___init__ an_Machine___init__ : Option Addr} {sl_Machine___init__ : Array (Option Value)} {oc_Machine___init__ kV_Machine___init__ dc_Machine___init__ pm_Machine___init__ cd_Machine___init__ ct_Machine___init__ : Value}
    {f_Machine_keeps : Addr} {od_Machine_keeps an_Machine_keeps : Option Addr} {sl_Machine_keeps : Array (Option Value)} {oc_Machine_keeps kV_Machine_keeps dc_Machine_keeps pm_Machine_keeps cd_Machine_keeps ct_Machine_keeps : Value}
    {f_Machine_fine : Addr} {od_Machine_fine an_Machine_fine : Option Addr} {sl_Machine_fine : Array (Option Value)} {oc_Machine_fine kV_Machine_fine dc_Machine_fine pm_Machine_fine cd_Machine_fine ct_Machine_fine : Value}
    {f_Machine_counted : Addr} {od_Machine_counted an_Machine_counted : Option Addr} {sl_Machine_counted : Array (Option Value)} {oc_Machine_counted kV_Machine_counted dc_Machine_counted pm_Machine_counted cd_Machine_counted ct_Machine_counted : Value}
    {f_Machine_unmatched : Addr} {od_Machine_unmatched an_Machine_unmatched : Option Addr} {sl_Machine_unmatched : Array (Option Value)} {oc_Machine_unmatched kV_Machine_unmatched dc_Machine_unmatched pm_Machine_unmatched cd_Machine_unmatched ct_Machine_unmatched : Value}
    {f_Machine_moved : Addr} {od_Machine_moved an_Machine_moved : Option Addr} {sl_Machine_moved : Array (Option Value)} {oc_Machine_moved kV_Machine_moved dc_Machine_moved pm_Machine_moved cd_Machine_moved ct_Machine_moved : Value}
    {f_Machine_step : Addr} {od_Machine_step an_Machine_step : Option Addr} {sl_Machine_step : Array (Option Value)} {oc_Machine_step kV_Machine_step dc_Machine_step pm_Machine_step cd_Machine_step ct_Machine_step : Value}
    {f_Machine_nearest : Addr} {od_Machine_nearest an_Machine_nearest : Option Addr} {sl_Machine_nearest : Array (Option Value)} {oc_Machine_nearest kV_Machine_nearest dc_Machine_nearest pm_Machine_nearest cd_Machine_nearest ct_Machine_nearest : Value}
    {f_first_of : Addr} {od_first_of an_first_of : Option Addr} {sl_first_of : Array (Option Value)} {oc_first_of kV_first_of dc_first_of pm_first_of cd_first_of ct_first_of : Value}
    {f_choices : Addr} {od_choices an_choices : Option Addr} {sl_choices : Array (Option Value)} {oc_choices kV_choices dc_choices pm_choices cd_choices ct_choices : Value}
    {f_core : Addr} {od_core an_core : Option Addr} {sl_core : Array (Option Value)} {oc_core kV_core dc_core pm_core cd_core ct_core : Value}
    {f_first : Addr} {od_first an_first : Option Addr} {sl_first : Array (Option Value)} {oc_first kV_first dc_first pm_first cd_first ct_first : Value}
    {f__law_strings : Addr} {od__law_strings an__law_strings : Option Addr} {sl__law_strings : Array (Option Value)} {oc__law_strings kV__law_strings dc__law_strings pm__law_strings cd__law_strings ct__law_strings : Value}
    {f__law_keeps : Addr} {od__law_keeps an__law_keeps : Option Addr} {sl__law_keeps : Array (Option Value)} {oc__law_keeps kV__law_keeps dc__law_keeps pm__law_keeps cd__law_keeps ct__law_keeps : Value}
    {f__law_allows : Addr} {od__law_allows an__law_allows : Option Addr} {sl__law_allows : Array (Option Value)} {oc__law_allows kV__law_allows dc__law_allows pm__law_allows cd__law_allows ct__law_allows : Value}
    {f_found_by : Addr} {od_found_by an_found_by : Option Addr} {sl_found_by : Array (Option Value)} {oc_found_by kV_found_by dc_found_by pm_found_by cd_found_by ct_found_by : Value}
    {f_parting_of : Addr} {od_parting_of an_parting_of : Option Addr} {sl_parting_of : Array (Option Value)} {oc_parting_of kV_parting_of dc_parting_of pm_parting_of cd_parting_of ct_parting_of : Value}
    {f_without : Addr} {od_without an_without : Option Addr} {sl_without : Array (Option Value)} {oc_without kV_without dc_without pm_without cd_without ct_without : Value}
    {f_idle : Addr} {od_idle an_idle : Option Addr} {sl_idle : Array (Option Value)} {oc_idle kV_idle dc_idle pm_idle cd_idle ct_idle : Value}
    {f_law : Addr} {od_law an_law : Option Addr} {sl_law : Array (Option Value)} {oc_law kV_law dc_law pm_law cd_law ct_law : Value}
    {t_CLASSES : Tok}
    {t_LOWER : Tok}
    {t_RULES : Tok}
    {t_SIGNS : Tok}
    {t_SIZE : Tok}
    {a_STARTS : Addr}
    {es_STARTS : Array DictEntry} {en_STARTS : Nat}
    {te_STARTS_0 : Tok}
    {te_STARTS_1 : Tok}
    {te_STARTS_2 : Tok}
    {be_STARTS_3 : Addr} {oe_STARTS_3 : Option Addr} {ne_STARTS_3 : Nat} {se_STARTS_3 : Array (Option Value)}
    {be_STARTS_4 : Addr} {oe_STARTS_4 : Option Addr} {ne_STARTS_4 : Nat} {se_STARTS_4 : Array (Option Value)} {tf_STARTS_4 tg_STARTS_4 : Tok}
    {be_STARTS_5 : Addr} {oe_STARTS_5 : Option Addr} {ne_STARTS_5 : Nat} {se_STARTS_5 : Array (Option Value)} {tf_STARTS_5 tg_STARTS_5 : Tok}
    (aC_Machine : PySem.W.nsIn K mainGlobals (Str.ofString "Machine") = some (some (.ref C_Machine)))
    (pg_Machine : PySem.W.plainGet K C_Machine Str.empty = true)
    (hd_Machine : PySem.W.hasDictIn K C_Machine = true)
    (po_Machine : PySem.W.plainOver K C_Machine = true)
    (sa_Machine : PySem.W.findIn K (.ref C_Machine) "__setattr__" = some (some (.builtin "object.__setattr__")))
    (mk_Machine : PySem.W.makesIn K C_Machine = true)
    (kc_Machine : PySem.W.keepIn K (.ref C_Machine) = true)
    (a__law_draw : PySem.W.nsIn K mainGlobals (Str.ofString "_law_draw") = some (some (.ref f__law_draw)))
    (l__law_draw : K.lookup f__law_draw = some ⟨oc__law_draw, od__law_draw, .func (PySem.W.fnOf (Str.ofString "_law_draw") (Str.ofString "_law_draw") (defArgs S__law_draw) (defBody S__law_draw) (defScope S__law_draw) .none kV__law_draw dc__law_draw pm__law_draw an__law_draw cd__law_draw ct__law_draw), sl__law_draw⟩)
    (c__law_draw : PySem.W.codeIn K cd__law_draw (Str.ofString "_law_draw") = true)
    (k__law_draw : PySem.W.keepIn K (.ref f__law_draw) = true)
    (a__law_pick : PySem.W.nsIn K mainGlobals (Str.ofString "_law_pick") = some (some (.ref f__law_pick)))
    (l__law_pick : K.lookup f__law_pick = some ⟨oc__law_pick, od__law_pick, .func (PySem.W.fnOf (Str.ofString "_law_pick") (Str.ofString "_law_pick") (defArgs S__law_pick) (defBody S__law_pick) (defScope S__law_pick) .none kV__law_pick dc__law_pick pm__law_pick an__law_pick cd__law_pick ct__law_pick), sl__law_pick⟩)
    (c__law_pick : PySem.W.codeIn K cd__law_pick (Str.ofString "_law_pick") = true)
    (k__law_pick : PySem.W.keepIn K (.ref f__law_pick) = true)
    (a__law_classes : PySem.W.nsIn K mainGlobals (Str.ofString "_law_classes") = some (some (.ref f__law_classes)))
    (l__law_classes : K.lookup f__law_classes = some ⟨oc__law_classes, od__law_classes, .func (PySem.W.fnOf (Str.ofString "_law_classes") (Str.ofString "_law_classes") (defArgs S__law_classes) (defBody S__law_classes) (defScope S__law_classes) .none kV__law_classes dc__law_classes pm__law_classes an__law_classes cd__law_classes ct__law_classes), sl__law_classes⟩)
    (c__law_classes : PySem.W.codeIn K cd__law_classes (Str.ofString "_law_classes") = true)
    (k__law_classes : PySem.W.keepIn K (.ref f__law_classes) = true)
    (a__law_rule : PySem.W.nsIn K mainGlobals (Str.ofString "_law_rule") = some (some (.ref f__law_rule)))
    (l__law_rule : K.lookup f__law_rule = some ⟨oc__law_rule, od__law_rule, .func (PySem.W.fnOf (Str.ofString "_law_rule") (Str.ofString "_law_rule") (defArgs S__law_rule) (defBody S__law_rule) (defScope S__law_rule) .none kV__law_rule dc__law_rule pm__law_rule an__law_rule cd__law_rule ct__law_rule), sl__law_rule⟩)
    (c__law_rule : PySem.W.codeIn K cd__law_rule (Str.ofString "_law_rule") = true)
    (k__law_rule : PySem.W.keepIn K (.ref f__law_rule) = true)
    (a__law_policy : PySem.W.nsIn K mainGlobals (Str.ofString "_law_policy") = some (some (.ref f__law_policy)))
    (l__law_policy : K.lookup f__law_policy = some ⟨oc__law_policy, od__law_policy, .func (PySem.W.fnOf (Str.ofString "_law_policy") (Str.ofString "_law_policy") (defArgs S__law_policy) (defBody S__law_policy) (defScope S__law_policy) .none kV__law_policy dc__law_policy pm__law_policy an__law_policy cd__law_policy ct__law_policy), sl__law_policy⟩)
    (c__law_policy : PySem.W.codeIn K cd__law_policy (Str.ofString "_law_policy") = true)
    (k__law_policy : PySem.W.keepIn K (.ref f__law_policy) = true)
    (a__law_bent : PySem.W.nsIn K mainGlobals (Str.ofString "_law_bent") = some (some (.ref f__law_bent)))
    (l__law_bent : K.lookup f__law_bent = some ⟨oc__law_bent, od__law_bent, .func (PySem.W.fnOf (Str.ofString "_law_bent") (Str.ofString "_law_bent") (defArgs S__law_bent) (defBody S__law_bent) (defScope S__law_bent) .none kV__law_bent dc__law_bent pm__law_bent an__law_bent cd__law_bent ct__law_bent), sl__law_bent⟩)
    (c__law_bent : PySem.W.codeIn K cd__law_bent (Str.ofString "_law_bent") = true)
    (k__law_bent : PySem.W.keepIn K (.ref f__law_bent) = true)
    (a_is_over : PySem.W.nsIn K mainGlobals (Str.ofString "is_over") = some (some (.ref f_is_over)))
    (l_is_over : K.lookup f_is_over = some ⟨oc_is_over, od_is_over, .func (PySem.W.fnOf (Str.ofString "is_over") (Str.ofString "is_over") (defArgs S_is_over) (defBody S_is_over) (defScope S_is_over) .none kV_is_over dc_is_over pm_is_over an_is_over cd_is_over ct_is_over), sl_is_over⟩)
    (c_is_over : PySem.W.codeIn K cd_is_over (Str.ofString "is_over") = true)
    (k_is_over : PySem.W.keepIn K (.ref f_is_over) = true)
    (a_are_classes : PySem.W.nsIn K mainGlobals (Str.ofString "are_classes") = some (some (.ref f_are_classes)))
    (l_are_classes : K.lookup f_are_classes = some ⟨oc_are_classes, od_are_classes, .func (PySem.W.fnOf (Str.ofString "are_classes") (Str.ofString "are_classes") (defArgs S_are_classes) (defBody S_are_classes) (defScope S_are_classes) .none kV_are_classes dc_are_classes pm_are_classes an_are_classes cd_are_classes ct_are_classes), sl_are_classes⟩)
    (c_are_classes : PySem.W.codeIn K cd_are_classes (Str.ofString "are_classes") = true)
    (k_are_classes : PySem.W.keepIn K (.ref f_are_classes) = true)
    (a_is_count : PySem.W.nsIn K mainGlobals (Str.ofString "is_count") = some (some (.ref f_is_count)))
    (l_is_count : K.lookup f_is_count = some ⟨oc_is_count, od_is_count, .func (PySem.W.fnOf (Str.ofString "is_count") (Str.ofString "is_count") (defArgs S_is_count) (defBody S_is_count) (defScope S_is_count) .none kV_is_count dc_is_count pm_is_count an_is_count cd_is_count ct_is_count), sl_is_count⟩)
    (c_is_count : PySem.W.codeIn K cd_is_count (Str.ofString "is_count") = true)
    (k_is_count : PySem.W.keepIn K (.ref f_is_count) = true)
    (a_is_name : PySem.W.nsIn K mainGlobals (Str.ofString "is_name") = some (some (.ref f_is_name)))
    (l_is_name : K.lookup f_is_name = some ⟨oc_is_name, od_is_name, .func (PySem.W.fnOf (Str.ofString "is_name") (Str.ofString "is_name") (defArgs S_is_name) (defBody S_is_name) (defScope S_is_name) .none kV_is_name dc_is_name pm_is_name an_is_name cd_is_name ct_is_name), sl_is_name⟩)
    (c_is_name : PySem.W.codeIn K cd_is_name (Str.ofString "is_name") = true)
    (k_is_name : PySem.W.keepIn K (.ref f_is_name) = true)
    (a_is_rule : PySem.W.nsIn K mainGlobals (Str.ofString "is_rule") = some (some (.ref f_is_rule)))
    (l_is_rule : K.lookup f_is_rule = some ⟨oc_is_rule, od_is_rule, .func (PySem.W.fnOf (Str.ofString "is_rule") (Str.ofString "is_rule") (defArgs S_is_rule) (defBody S_is_rule) (defScope S_is_rule) .none kV_is_rule dc_is_rule pm_is_rule an_is_rule cd_is_rule ct_is_rule), sl_is_rule⟩)
    (c_is_rule : PySem.W.codeIn K cd_is_rule (Str.ofString "is_rule") = true)
    (k_is_rule : PySem.W.keepIn K (.ref f_is_rule) = true)
    (a_signs_of : PySem.W.nsIn K mainGlobals (Str.ofString "signs_of") = some (some (.ref f_signs_of)))
    (l_signs_of : K.lookup f_signs_of = some ⟨oc_signs_of, od_signs_of, .func (PySem.W.fnOf (Str.ofString "signs_of") (Str.ofString "signs_of") (defArgs S_signs_of) (defBody S_signs_of) (defScope S_signs_of) .none kV_signs_of dc_signs_of pm_signs_of an_signs_of cd_signs_of ct_signs_of), sl_signs_of⟩)
    (c_signs_of : PySem.W.codeIn K cd_signs_of (Str.ofString "signs_of") = true)
    (k_signs_of : PySem.W.keepIn K (.ref f_signs_of) = true)
    (a_is_policy : PySem.W.nsIn K mainGlobals (Str.ofString "is_policy") = some (some (.ref f_is_policy)))
    (l_is_policy : K.lookup f_is_policy = some ⟨oc_is_policy, od_is_policy, .func (PySem.W.fnOf (Str.ofString "is_policy") (Str.ofString "is_policy") (defArgs S_is_policy) (defBody S_is_policy) (defScope S_is_policy) .none kV_is_policy dc_is_policy pm_is_policy an_is_policy cd_is_policy ct_is_policy), sl_is_policy⟩)
    (c_is_policy : PySem.W.codeIn K cd_is_policy (Str.ofString "is_policy") = true)
    (k_is_policy : PySem.W.keepIn K (.ref f_is_policy) = true)
    (a_need_policy : PySem.W.nsIn K mainGlobals (Str.ofString "need_policy") = some (some (.ref f_need_policy)))
    (l_need_policy : K.lookup f_need_policy = some ⟨oc_need_policy, od_need_policy, .func (PySem.W.fnOf (Str.ofString "need_policy") (Str.ofString "need_policy") (defArgs S_need_policy) (defBody S_need_policy) (defScope S_need_policy) .none kV_need_policy dc_need_policy pm_need_policy an_need_policy cd_need_policy ct_need_policy), sl_need_policy⟩)
    (c_need_policy : PySem.W.codeIn K cd_need_policy (Str.ofString "need_policy") = true)
    (k_need_policy : PySem.W.keepIn K (.ref f_need_policy) = true)
    (a_Machine___init__ : PySem.W.findIn K (.ref C_Machine) (Str.ofString "__init__") = some (some (.ref f_Machine___init__)))
    (i_Machine___init__ : PySem.W.isFn K (.ref f_Machine___init__) = true)
    (l_Machine___init__ : K.lookup f_Machine___init__ = some ⟨oc_Machine___init__, od_Machine___init__, .func (PySem.W.fnOf (Str.ofString "__init__") (Str.ofString "Machine.__init__") (defArgs S_Machine___init__) (defBody S_Machine___init__) (defScope S_Machine___init__) .none kV_Machine___init__ dc_Machine___init__ pm_Machine___init__ an_Machine___init__ cd_Machine___init__ ct_Machine___init__), sl_Machine___init__⟩)
    (c_Machine___init__ : PySem.W.codeIn K cd_Machine___init__ (Str.ofString "Machine.__init__") = true)
    (k_Machine___init__ : PySem.W.keepIn K (.ref f_Machine___init__) = true)
    (a_Machine_keeps : PySem.W.findIn K (.ref C_Machine) (Str.ofString "keeps") = some (some (.ref f_Machine_keeps)))
    (i_Machine_keeps : PySem.W.isFn K (.ref f_Machine_keeps) = true)
    (l_Machine_keeps : K.lookup f_Machine_keeps = some ⟨oc_Machine_keeps, od_Machine_keeps, .func (PySem.W.fnOf (Str.ofString "keeps") (Str.ofString "Machine.keeps") (defArgs S_Machine_keeps) (defBody S_Machine_keeps) (defScope S_Machine_keeps) .none kV_Machine_keeps dc_Machine_keeps pm_Machine_keeps an_Machine_keeps cd_Machine_keeps ct_Machine_keeps), sl_Machine_keeps⟩)
    (c_Machine_keeps : PySem.W.codeIn K cd_Machine_keeps (Str.ofString "Machine.keeps") = true)
    (k_Machine_keeps : PySem.W.keepIn K (.ref f_Machine_keeps) = true)
    (a_Machine_fine : PySem.W.findIn K (.ref C_Machine) (Str.ofString "fine") = some (some (.ref f_Machine_fine)))
    (i_Machine_fine : PySem.W.isFn K (.ref f_Machine_fine) = true)
    (l_Machine_fine : K.lookup f_Machine_fine = some ⟨oc_Machine_fine, od_Machine_fine, .func (PySem.W.fnOf (Str.ofString "fine") (Str.ofString "Machine.fine") (defArgs S_Machine_fine) (defBody S_Machine_fine) (defScope S_Machine_fine) .none kV_Machine_fine dc_Machine_fine pm_Machine_fine an_Machine_fine cd_Machine_fine ct_Machine_fine), sl_Machine_fine⟩)
    (c_Machine_fine : PySem.W.codeIn K cd_Machine_fine (Str.ofString "Machine.fine") = true)
    (k_Machine_fine : PySem.W.keepIn K (.ref f_Machine_fine) = true)
    (a_Machine_counted : PySem.W.findIn K (.ref C_Machine) (Str.ofString "counted") = some (some (.ref f_Machine_counted)))
    (i_Machine_counted : PySem.W.isFn K (.ref f_Machine_counted) = true)
    (l_Machine_counted : K.lookup f_Machine_counted = some ⟨oc_Machine_counted, od_Machine_counted, .func (PySem.W.fnOf (Str.ofString "counted") (Str.ofString "Machine.counted") (defArgs S_Machine_counted) (defBody S_Machine_counted) (defScope S_Machine_counted) .none kV_Machine_counted dc_Machine_counted pm_Machine_counted an_Machine_counted cd_Machine_counted ct_Machine_counted), sl_Machine_counted⟩)
    (c_Machine_counted : PySem.W.codeIn K cd_Machine_counted (Str.ofString "Machine.counted") = true)
    (k_Machine_counted : PySem.W.keepIn K (.ref f_Machine_counted) = true)
    (a_Machine_unmatched : PySem.W.findIn K (.ref C_Machine) (Str.ofString "unmatched") = some (some (.ref f_Machine_unmatched)))
    (i_Machine_unmatched : PySem.W.isFn K (.ref f_Machine_unmatched) = true)
    (l_Machine_unmatched : K.lookup f_Machine_unmatched = some ⟨oc_Machine_unmatched, od_Machine_unmatched, .func (PySem.W.fnOf (Str.ofString "unmatched") (Str.ofString "Machine.unmatched") (defArgs S_Machine_unmatched) (defBody S_Machine_unmatched) (defScope S_Machine_unmatched) .none kV_Machine_unmatched dc_Machine_unmatched pm_Machine_unmatched an_Machine_unmatched cd_Machine_unmatched ct_Machine_unmatched), sl_Machine_unmatched⟩)
    (c_Machine_unmatched : PySem.W.codeIn K cd_Machine_unmatched (Str.ofString "Machine.unmatched") = true)
    (k_Machine_unmatched : PySem.W.keepIn K (.ref f_Machine_unmatched) = true)
    (a_Machine_moved : PySem.W.findIn K (.ref C_Machine) (Str.ofString "moved") = some (some (.ref f_Machine_moved)))
    (i_Machine_moved : PySem.W.isFn K (.ref f_Machine_moved) = true)
    (l_Machine_moved : K.lookup f_Machine_moved = some ⟨oc_Machine_moved, od_Machine_moved, .func (PySem.W.fnOf (Str.ofString "moved") (Str.ofString "Machine.moved") (defArgs S_Machine_moved) (defBody S_Machine_moved) (defScope S_Machine_moved) .none kV_Machine_moved dc_Machine_moved pm_Machine_moved an_Machine_moved cd_Machine_moved ct_Machine_moved), sl_Machine_moved⟩)
    (c_Machine_moved : PySem.W.codeIn K cd_Machine_moved (Str.ofString "Machine.moved") = true)
    (k_Machine_moved : PySem.W.keepIn K (.ref f_Machine_moved) = true)
    (a_Machine_step : PySem.W.findIn K (.ref C_Machine) (Str.ofString "step") = some (some (.ref f_Machine_step)))
    (i_Machine_step : PySem.W.isFn K (.ref f_Machine_step) = true)
    (l_Machine_step : K.lookup f_Machine_step = some ⟨oc_Machine_step, od_Machine_step, .func (PySem.W.fnOf (Str.ofString "step") (Str.ofString "Machine.step") (defArgs S_Machine_step) (defBody S_Machine_step) (defScope S_Machine_step) .none kV_Machine_step dc_Machine_step pm_Machine_step an_Machine_step cd_Machine_step ct_Machine_step), sl_Machine_step⟩)
    (c_Machine_step : PySem.W.codeIn K cd_Machine_step (Str.ofString "Machine.step") = true)
    (k_Machine_step : PySem.W.keepIn K (.ref f_Machine_step) = true)
    (a_Machine_nearest : PySem.W.findIn K (.ref C_Machine) (Str.ofString "nearest") = some (some (.ref f_Machine_nearest)))
    (i_Machine_nearest : PySem.W.isFn K (.ref f_Machine_nearest) = true)
    (l_Machine_nearest : K.lookup f_Machine_nearest = some ⟨oc_Machine_nearest, od_Machine_nearest, .func (PySem.W.fnOf (Str.ofString "nearest") (Str.ofString "Machine.nearest") (defArgs S_Machine_nearest) (defBody S_Machine_nearest) (defScope S_Machine_nearest) .none kV_Machine_nearest dc_Machine_nearest pm_Machine_nearest an_Machine_nearest cd_Machine_nearest ct_Machine_nearest), sl_Machine_nearest⟩)
    (c_Machine_nearest : PySem.W.codeIn K cd_Machine_nearest (Str.ofString "Machine.nearest") = true)
    (k_Machine_nearest : PySem.W.keepIn K (.ref f_Machine_nearest) = true)
    (a_first_of : PySem.W.nsIn K mainGlobals (Str.ofString "first_of") = some (some (.ref f_first_of)))
    (l_first_of : K.lookup f_first_of = some ⟨oc_first_of, od_first_of, .func (PySem.W.fnOf (Str.ofString "first_of") (Str.ofString "first_of") (defArgs S_first_of) (defBody S_first_of) (defScope S_first_of) .none kV_first_of dc_first_of pm_first_of an_first_of cd_first_of ct_first_of), sl_first_of⟩)
    (c_first_of : PySem.W.codeIn K cd_first_of (Str.ofString "first_of") = true)
    (k_first_of : PySem.W.keepIn K (.ref f_first_of) = true)
    (a_choices : PySem.W.nsIn K mainGlobals (Str.ofString "choices") = some (some (.ref f_choices)))
    (l_choices : K.lookup f_choices = some ⟨oc_choices, od_choices, .func (PySem.W.fnOf (Str.ofString "choices") (Str.ofString "choices") (defArgs S_choices) (defBody S_choices) (defScope S_choices) .none kV_choices dc_choices pm_choices an_choices cd_choices ct_choices), sl_choices⟩)
    (c_choices : PySem.W.codeIn K cd_choices (Str.ofString "choices") = true)
    (k_choices : PySem.W.keepIn K (.ref f_choices) = true)
    (a_core : PySem.W.nsIn K mainGlobals (Str.ofString "core") = some (some (.ref f_core)))
    (l_core : K.lookup f_core = some ⟨oc_core, od_core, .func (PySem.W.fnOf (Str.ofString "core") (Str.ofString "core") (defArgs S_core) (defBody S_core) (defScope S_core) .none kV_core dc_core pm_core an_core cd_core ct_core), sl_core⟩)
    (c_core : PySem.W.codeIn K cd_core (Str.ofString "core") = true)
    (k_core : PySem.W.keepIn K (.ref f_core) = true)
    (a_first : PySem.W.nsIn K mainGlobals (Str.ofString "first") = some (some (.ref f_first)))
    (l_first : K.lookup f_first = some ⟨oc_first, od_first, .func (PySem.W.fnOf (Str.ofString "first") (Str.ofString "first") (defArgs S_first) (defBody S_first) (defScope S_first) .none kV_first dc_first pm_first an_first cd_first ct_first), sl_first⟩)
    (c_first : PySem.W.codeIn K cd_first (Str.ofString "first") = true)
    (k_first : PySem.W.keepIn K (.ref f_first) = true)
    (a__law_strings : PySem.W.nsIn K mainGlobals (Str.ofString "_law_strings") = some (some (.ref f__law_strings)))
    (l__law_strings : K.lookup f__law_strings = some ⟨oc__law_strings, od__law_strings, .func (PySem.W.fnOf (Str.ofString "_law_strings") (Str.ofString "_law_strings") (defArgs S__law_strings) (defBody S__law_strings) (defScope S__law_strings) .none kV__law_strings dc__law_strings pm__law_strings an__law_strings cd__law_strings ct__law_strings), sl__law_strings⟩)
    (c__law_strings : PySem.W.codeIn K cd__law_strings (Str.ofString "_law_strings") = true)
    (k__law_strings : PySem.W.keepIn K (.ref f__law_strings) = true)
    (a__law_keeps : PySem.W.nsIn K mainGlobals (Str.ofString "_law_keeps") = some (some (.ref f__law_keeps)))
    (l__law_keeps : K.lookup f__law_keeps = some ⟨oc__law_keeps, od__law_keeps, .func (PySem.W.fnOf (Str.ofString "_law_keeps") (Str.ofString "_law_keeps") (defArgs S__law_keeps) (defBody S__law_keeps) (defScope S__law_keeps) .none kV__law_keeps dc__law_keeps pm__law_keeps an__law_keeps cd__law_keeps ct__law_keeps), sl__law_keeps⟩)
    (c__law_keeps : PySem.W.codeIn K cd__law_keeps (Str.ofString "_law_keeps") = true)
    (k__law_keeps : PySem.W.keepIn K (.ref f__law_keeps) = true)
    (a__law_allows : PySem.W.nsIn K mainGlobals (Str.ofString "_law_allows") = some (some (.ref f__law_allows)))
    (l__law_allows : K.lookup f__law_allows = some ⟨oc__law_allows, od__law_allows, .func (PySem.W.fnOf (Str.ofString "_law_allows") (Str.ofString "_law_allows") (defArgs S__law_allows) (defBody S__law_allows) (defScope S__law_allows) .none kV__law_allows dc__law_allows pm__law_allows an__law_allows cd__law_allows ct__law_allows), sl__law_allows⟩)
    (c__law_allows : PySem.W.codeIn K cd__law_allows (Str.ofString "_law_allows") = true)
    (k__law_allows : PySem.W.keepIn K (.ref f__law_allows) = true)
    (a_found_by : PySem.W.nsIn K mainGlobals (Str.ofString "found_by") = some (some (.ref f_found_by)))
    (l_found_by : K.lookup f_found_by = some ⟨oc_found_by, od_found_by, .func (PySem.W.fnOf (Str.ofString "found_by") (Str.ofString "found_by") (defArgs S_found_by) (defBody S_found_by) (defScope S_found_by) .none kV_found_by dc_found_by pm_found_by an_found_by cd_found_by ct_found_by), sl_found_by⟩)
    (c_found_by : PySem.W.codeIn K cd_found_by (Str.ofString "found_by") = true)
    (k_found_by : PySem.W.keepIn K (.ref f_found_by) = true)
    (a_parting_of : PySem.W.nsIn K mainGlobals (Str.ofString "parting_of") = some (some (.ref f_parting_of)))
    (l_parting_of : K.lookup f_parting_of = some ⟨oc_parting_of, od_parting_of, .func (PySem.W.fnOf (Str.ofString "parting_of") (Str.ofString "parting_of") (defArgs S_parting_of) (defBody S_parting_of) (defScope S_parting_of) .none kV_parting_of dc_parting_of pm_parting_of an_parting_of cd_parting_of ct_parting_of), sl_parting_of⟩)
    (c_parting_of : PySem.W.codeIn K cd_parting_of (Str.ofString "parting_of") = true)
    (k_parting_of : PySem.W.keepIn K (.ref f_parting_of) = true)
    (a_without : PySem.W.nsIn K mainGlobals (Str.ofString "without") = some (some (.ref f_without)))
    (l_without : K.lookup f_without = some ⟨oc_without, od_without, .func (PySem.W.fnOf (Str.ofString "without") (Str.ofString "without") (defArgs S_without) (defBody S_without) (defScope S_without) .none kV_without dc_without pm_without an_without cd_without ct_without), sl_without⟩)
    (c_without : PySem.W.codeIn K cd_without (Str.ofString "without") = true)
    (k_without : PySem.W.keepIn K (.ref f_without) = true)
    (a_idle : PySem.W.nsIn K mainGlobals (Str.ofString "idle") = some (some (.ref f_idle)))
    (l_idle : K.lookup f_idle = some ⟨oc_idle, od_idle, .func (PySem.W.fnOf (Str.ofString "idle") (Str.ofString "idle") (defArgs S_idle) (defBody S_idle) (defScope S_idle) .none kV_idle dc_idle pm_idle an_idle cd_idle ct_idle), sl_idle⟩)
    (c_idle : PySem.W.codeIn K cd_idle (Str.ofString "idle") = true)
    (k_idle : PySem.W.keepIn K (.ref f_idle) = true)
    (a_law : PySem.W.nsIn K mainGlobals (Str.ofString "law") = some (some (.ref f_law)))
    (l_law : K.lookup f_law = some ⟨oc_law, od_law, .func (PySem.W.fnOf (Str.ofString "law") (Str.ofString "law") (defArgs S_law) (defBody S_law) (defScope S_law) .none kV_law dc_law pm_law an_law cd_law ct_law), sl_law⟩)
    (c_law : PySem.W.codeIn K cd_law (Str.ofString "law") = true)
    (k_law : PySem.W.keepIn K (.ref f_law) = true)
    (na_Machine_followers : PySem.W.findIn K (.ref C_Machine) (Str.ofString "followers") = some none)
    (na_Machine_known : PySem.W.findIn K (.ref C_Machine) (Str.ofString "known") = some none)
    (na_Machine_names : PySem.W.findIn K (.ref C_Machine) (Str.ofString "names") = some none)
    (na_Machine_rules : PySem.W.findIn K (.ref C_Machine) (Str.ofString "rules") = some none)
    (na_Machine_signs : PySem.W.findIn K (.ref C_Machine) (Str.ofString "signs") = some none)
    (na_Machine_start : PySem.W.findIn K (.ref C_Machine) (Str.ofString "start") = some none)
    (z_all : PySem.W.nsIn K mainGlobals (Str.ofString "all") = some none)
    (z_any : PySem.W.nsIn K mainGlobals (Str.ofString "any") = some none)
    (z_bool : PySem.W.nsIn K mainGlobals (Str.ofString "bool") = some none)
    (z_int : PySem.W.nsIn K mainGlobals (Str.ofString "int") = some none)
    (z_isinstance : PySem.W.nsIn K mainGlobals (Str.ofString "isinstance") = some none)
    (z_len : PySem.W.nsIn K mainGlobals (Str.ofString "len") = some none)
    (z_list : PySem.W.nsIn K mainGlobals (Str.ofString "list") = some none)
    (z_min : PySem.W.nsIn K mainGlobals (Str.ofString "min") = some none)
    (z_range : PySem.W.nsIn K mainGlobals (Str.ofString "range") = some none)
    (z_set : PySem.W.nsIn K mainGlobals (Str.ofString "set") = some none)
    (z_sorted : PySem.W.nsIn K mainGlobals (Str.ofString "sorted") = some none)
    (z_str : PySem.W.nsIn K mainGlobals (Str.ofString "str") = some none)
    (z_tuple : PySem.W.nsIn K mainGlobals (Str.ofString "tuple") = some none)
    (z_zip : PySem.W.nsIn K mainGlobals (Str.ofString "zip") = some none)
    (g_CLASSES : PySem.W.nsIn K mainGlobals (Str.ofString "CLASSES") = some (some (.int 4 t_CLASSES)))
    (g_LOWER : PySem.W.nsIn K mainGlobals (Str.ofString "LOWER") = some (some (.str (Str.ofString "abcdefghijklmnopqrstuvwxyz") t_LOWER)))
    (g_RULES : PySem.W.nsIn K mainGlobals (Str.ofString "RULES") = some (some (.int 6 t_RULES)))
    (g_SIGNS : PySem.W.nsIn K mainGlobals (Str.ofString "SIGNS") = some (some (.str (Str.ofString "abcdefghijklmnopqrstuvwxyzABCDEFGHIJKLMNOPQRSTUVWXYZ0123456789!#+-?_") t_SIGNS)))
    (g_SIZE : PySem.W.nsIn K mainGlobals (Str.ofString "SIZE") = some (some (.int 12 t_SIZE)))
    (aD_STARTS : PySem.W.nsIn K mainGlobals (Str.ofString "STARTS") = some (some (.ref a_STARTS)))
    (kl_STARTS : K.lookup a_STARTS = some ⟨.type "dict", none, .dict es_STARTS en_STARTS, #[]⟩)
    (kx_STARTS : PySem.W.KeysLit w.params es_STARTS.toList)
    (ko_STARTS : (a_STARTS == sysModules) = false)
    (en_STARTS_0 : PySem.W.nsIn K a_STARTS (Str.ofString "size") = some (some (.int 0 te_STARTS_0)))
    (en_STARTS_1 : PySem.W.nsIn K a_STARTS (Str.ofString "least") = some (some (.int 0 te_STARTS_1)))
    (en_STARTS_2 : PySem.W.nsIn K a_STARTS (Str.ofString "most") = some (some (.int 0 te_STARTS_2)))
    (en_STARTS_3 : PySem.W.nsIn K a_STARTS (Str.ofString "kinds") = some (some (.ref be_STARTS_3)))
    (el_STARTS_3 : K.lookup be_STARTS_3 = some ⟨.type "tuple", oe_STARTS_3, .seq #[] ne_STARTS_3, se_STARTS_3⟩)
    (en_STARTS_4 : PySem.W.nsIn K a_STARTS (Str.ofString "run") = some (some (.ref be_STARTS_4)))
    (el_STARTS_4 : K.lookup be_STARTS_4 = some ⟨.type "tuple", oe_STARTS_4, .seq #[.str (Str.ofString "") tf_STARTS_4, .int 0 tg_STARTS_4] ne_STARTS_4, se_STARTS_4⟩)
    (en_STARTS_5 : PySem.W.nsIn K a_STARTS (Str.ofString "row") = some (some (.ref be_STARTS_5)))
    (el_STARTS_5 : K.lookup be_STARTS_5 = some ⟨.type "tuple", oe_STARTS_5, .seq #[.str (Str.ofString "") tf_STARTS_5, .int 0 tg_STARTS_5] ne_STARTS_5, se_STARTS_5⟩)
    (en_STARTS_n0 : PySem.W.nsIn K a_STARTS (Str.ofString "not") = some none)
    (en_STARTS_n1 : PySem.W.nsIn K a_STARTS (Str.ofString "first") = some none)
    (en_STARTS_n2 : PySem.W.nsIn K a_STARTS (Str.ofString "last") = some none)
    : ∃ fd : FuncData, (∀ (s : Shared) (v : Value), BindsTo s fd ⟨[v], []⟩ [((Str.ofString "_law_script"), v)]) ∧ ∀ base : Heap, K.In base → base.Ns mainGlobals mg → FnOk l.prog w K mg base CX0 9 fa fd [(Str.ofString "_law_script")] (spLaw w K) := by
  have e := hfa.symm.trans (PySem.W.mg_of X G a_law)
  cases e
  have F__law_draw := fun_mk (st := S__law_draw) l__law_draw c__law_draw k__law_draw
  have b__law_draw := F__law_draw.binds (ps := P__law_draw) fun _ _ _ _ _ _ us hl => match us, hl with | [_, _, _], _ => rfl
  have F__law_pick := fun_mk (st := S__law_pick) l__law_pick c__law_pick k__law_pick
  have b__law_pick := F__law_pick.binds (ps := P__law_pick) fun _ _ _ _ _ _ us hl => match us, hl with | [_, _, _], _ => rfl
  have F__law_classes := fun_mk (st := S__law_classes) l__law_classes c__law_classes k__law_classes
  have b__law_classes := F__law_classes.binds (ps := P__law_classes) fun _ _ _ _ _ _ us hl => match us, hl with | [_, _], _ => rfl
  have F__law_rule := fun_mk (st := S__law_rule) l__law_rule c__law_rule k__law_rule
  have b__law_rule := F__law_rule.binds (ps := P__law_rule) fun _ _ _ _ _ _ us hl => match us, hl with | [_, _, _], _ => rfl
  have F__law_policy := fun_mk (st := S__law_policy) l__law_policy c__law_policy k__law_policy
  have b__law_policy := F__law_policy.binds (ps := P__law_policy) fun _ _ _ _ _ _ us hl => match us, hl with | [_, _, _, _], _ => rfl
  have F__law_bent := fun_mk (st := S__law_bent) l__law_bent c__law_bent k__law_bent
  have b__law_bent := F__law_bent.binds (ps := P__law_bent) fun _ _ _ _ _ _ us hl => match us, hl with | [_, _, _], _ => rfl
  have F_is_over := fun_mk (st := S_is_over) l_is_over c_is_over k_is_over
  have b_is_over := F_is_over.binds (ps := P_is_over) fun _ _ _ _ _ _ us hl => match us, hl with | [_, _, _, _], _ => rfl
  have F_are_classes := fun_mk (st := S_are_classes) l_are_classes c_are_classes k_are_classes
  have b_are_classes := F_are_classes.binds (ps := P_are_classes) fun _ _ _ _ _ _ us hl => match us, hl with | [_], _ => rfl
  have F_is_count := fun_mk (st := S_is_count) l_is_count c_is_count k_is_count
  have b_is_count := F_is_count.binds (ps := P_is_count) fun _ _ _ _ _ _ us hl => match us, hl with | [_, _, _], _ => rfl
  have F_is_name := fun_mk (st := S_is_name) l_is_name c_is_name k_is_name
  have b_is_name := F_is_name.binds (ps := P_is_name) fun _ _ _ _ _ _ us hl => match us, hl with | [_, _], _ => rfl
  have F_is_rule := fun_mk (st := S_is_rule) l_is_rule c_is_rule k_is_rule
  have b_is_rule := F_is_rule.binds (ps := P_is_rule) fun _ _ _ _ _ _ us hl => match us, hl with | [_, _, _], _ => rfl
  have F_signs_of := fun_mk (st := S_signs_of) l_signs_of c_signs_of k_signs_of
  have b_signs_of := F_signs_of.binds (ps := P_signs_of) fun _ _ _ _ _ _ us hl => match us, hl with | [_], _ => rfl
  have F_is_policy := fun_mk (st := S_is_policy) l_is_policy c_is_policy k_is_policy
  have b_is_policy := F_is_policy.binds (ps := P_is_policy) fun _ _ _ _ _ _ us hl => match us, hl with | [_], _ => rfl
  have F_need_policy := fun_mk (st := S_need_policy) l_need_policy c_need_policy k_need_policy
  have b_need_policy := F_need_policy.binds (ps := P_need_policy) fun _ _ _ _ _ _ us hl => match us, hl with | [_], _ => rfl
  have F_Machine___init__ := fun_mk (st := S_Machine___init__) l_Machine___init__ c_Machine___init__ k_Machine___init__
  have b_Machine___init__ := F_Machine___init__.binds (ps := P_Machine___init__) fun _ _ _ _ _ _ us hl => match us, hl with | [_, _], _ => rfl
  have F_Machine_keeps := fun_mk (st := S_Machine_keeps) l_Machine_keeps c_Machine_keeps k_Machine_keeps
  have b_Machine_keeps := F_Machine_keeps.binds (ps := P_Machine_keeps) fun _ _ _ _ _ _ us hl => match us, hl with | [_, _, _], _ => rfl
  have F_Machine_fine := fun_mk (st := S_Machine_fine) l_Machine_fine c_Machine_fine k_Machine_fine
  have b_Machine_fine := F_Machine_fine.binds (ps := P_Machine_fine) fun _ _ _ _ _ _ us hl => match us, hl with | [_, _], _ => rfl
  have F_Machine_counted := fun_mk (st := S_Machine_counted) l_Machine_counted c_Machine_counted k_Machine_counted
  have b_Machine_counted := F_Machine_counted.binds (ps := P_Machine_counted) fun _ _ _ _ _ _ us hl => match us, hl with | [_, _, _, _], _ => rfl
  have F_Machine_unmatched := fun_mk (st := S_Machine_unmatched) l_Machine_unmatched c_Machine_unmatched k_Machine_unmatched
  have b_Machine_unmatched := F_Machine_unmatched.binds (ps := P_Machine_unmatched) fun _ _ _ _ _ _ us hl => match us, hl with | [_, _, _], _ => rfl
  have F_Machine_moved := fun_mk (st := S_Machine_moved) l_Machine_moved c_Machine_moved k_Machine_moved
  have b_Machine_moved := F_Machine_moved.binds (ps := P_Machine_moved) fun _ _ _ _ _ _ us hl => match us, hl with | [_, _, _, _], _ => rfl
  have F_Machine_step := fun_mk (st := S_Machine_step) l_Machine_step c_Machine_step k_Machine_step
  have b_Machine_step := F_Machine_step.binds (ps := P_Machine_step) fun _ _ _ _ _ _ us hl => match us, hl with | [_, _, _], _ => rfl
  have F_Machine_nearest := fun_mk (st := S_Machine_nearest) l_Machine_nearest c_Machine_nearest k_Machine_nearest
  have b_Machine_nearest := F_Machine_nearest.binds (ps := P_Machine_nearest) fun _ _ _ _ _ _ us hl => match us, hl with | [_, _], _ => rfl
  have F_first_of := fun_mk (st := S_first_of) l_first_of c_first_of k_first_of
  have b_first_of := F_first_of.binds (ps := P_first_of) fun _ _ _ _ _ _ us hl => match us, hl with | [_], _ => rfl
  have F_choices := fun_mk (st := S_choices) l_choices c_choices k_choices
  have b_choices := F_choices.binds (ps := P_choices) fun _ _ _ _ _ _ us hl => match us, hl with | [_, _, _], _ => rfl
  have F_core := fun_mk (st := S_core) l_core c_core k_core
  have b_core := F_core.binds (ps := P_core) fun _ _ _ _ _ _ us hl => match us, hl with | [_], _ => rfl
  have F_first := fun_mk (st := S_first) l_first c_first k_first
  have b_first := F_first.binds (ps := P_first) fun _ _ _ _ _ _ us hl => match us, hl with | [_], _ => rfl
  have F__law_strings := fun_mk (st := S__law_strings) l__law_strings c__law_strings k__law_strings
  have b__law_strings := F__law_strings.binds (ps := P__law_strings) fun _ _ _ _ _ _ us hl => match us, hl with | [_, _], _ => rfl
  have F__law_keeps := fun_mk (st := S__law_keeps) l__law_keeps c__law_keeps k__law_keeps
  have b__law_keeps := F__law_keeps.binds (ps := P__law_keeps) fun _ _ _ _ _ _ us hl => match us, hl with | [_, _, _], _ => rfl
  have F__law_allows := fun_mk (st := S__law_allows) l__law_allows c__law_allows k__law_allows
  have b__law_allows := F__law_allows.binds (ps := P__law_allows) fun _ _ _ _ _ _ us hl => match us, hl with | [_, _], _ => rfl
  have F_found_by := fun_mk (st := S_found_by) l_found_by c_found_by k_found_by
  have b_found_by := F_found_by.binds (ps := P_found_by) fun _ _ _ _ _ _ us hl => match us, hl with | [_, _, _], _ => rfl
  have F_parting_of := fun_mk (st := S_parting_of) l_parting_of c_parting_of k_parting_of
  have b_parting_of := F_parting_of.binds (ps := P_parting_of) fun _ _ _ _ _ _ us hl => match us, hl with | [_, _], _ => rfl
  have F_without := fun_mk (st := S_without) l_without c_without k_without
  have b_without := F_without.binds (ps := P_without) fun _ _ _ _ _ _ us hl => match us, hl with | [_, _], _ => rfl
  have F_idle := fun_mk (st := S_idle) l_idle c_idle k_idle
  have b_idle := F_idle.binds (ps := P_idle) fun _ _ _ _ _ _ us hl => match us, hl with | [_], _ => rfl
  have F_law := fun_mk (st := S_law) l_law c_law k_law
  have b_law := F_law.binds (ps := P_law) fun _ _ _ _ _ _ us hl => match us, hl with | [_], _ => rfl
  have kd_STARTS : KDD K w a_STARTS KT_STARTS := ⟨⟨_, _, kl_STARTS, kx_STARTS, ko_STARTS⟩, fun e he => by
    simp only [KT_STARTS, List.mem_cons, List.not_mem_nil, or_false] at he
    rcases he with rfl | rfl | rfl | rfl | rfl | rfl | rfl | rfl | rfl
    · exact ent_int en_STARTS_0
    · exact ent_int en_STARTS_1
    · exact ent_int en_STARTS_2
    · exact ent_nil en_STARTS_3 el_STARTS_3
    · exact ent_si en_STARTS_4 el_STARTS_4
    · exact ent_si en_STARTS_5 el_STARTS_5
    · exact en_STARTS_n0
    · exact en_STARTS_n1
    · exact en_STARTS_n2
    ⟩
  let a : Ad := { f__law_draw := f__law_draw, d__law_draw := PySem.W.fnOf (Str.ofString "_law_draw") (Str.ofString "_law_draw") (defArgs S__law_draw) (defBody S__law_draw) (defScope S__law_draw) .none kV__law_draw dc__law_draw pm__law_draw an__law_draw cd__law_draw ct__law_draw, f__law_pick := f__law_pick, d__law_pick := PySem.W.fnOf (Str.ofString "_law_pick") (Str.ofString "_law_pick") (defArgs S__law_pick) (defBody S__law_pick) (defScope S__law_pick) .none kV__law_pick dc__law_pick pm__law_pick an__law_pick cd__law_pick ct__law_pick, f__law_classes := f__law_classes, d__law_classes := PySem.W.fnOf (Str.ofString "_law_classes") (Str.ofString "_law_classes") (defArgs S__law_classes) (defBody S__law_classes) (defScope S__law_classes) .none kV__law_classes dc__law_classes pm__law_classes an__law_classes cd__law_classes ct__law_classes, f__law_rule := f__law_rule, d__law_rule := PySem.W.fnOf (Str.ofString "_law_rule") (Str.ofString "_law_rule") (defArgs S__law_rule) (defBody S__law_rule) (defScope S__law_rule) .none kV__law_rule dc__law_rule pm__law_rule an__law_rule cd__law_rule ct__law_rule, f__law_policy := f__law_policy, d__law_policy := PySem.W.fnOf (Str.ofString "_law_policy") (Str.ofString "_law_policy") (defArgs S__law_policy) (defBody S__law_policy) (defScope S__law_policy) .none kV__law_policy dc__law_policy pm__law_policy an__law_policy cd__law_policy ct__law_policy, f__law_bent := f__law_bent, d__law_bent := PySem.W.fnOf (Str.ofString "_law_bent") (Str.ofString "_law_bent") (defArgs S__law_bent) (defBody S__law_bent) (defScope S__law_bent) .none kV__law_bent dc__law_bent pm__law_bent an__law_bent cd__law_bent ct__law_bent, f_is_over := f_is_over, d_is_over := PySem.W.fnOf (Str.ofString "is_over") (Str.ofString "is_over") (defArgs S_is_over) (defBody S_is_over) (defScope S_is_over) .none kV_is_over dc_is_over pm_is_over an_is_over cd_is_over ct_is_over, f_are_classes := f_are_classes, d_are_classes := PySem.W.fnOf (Str.ofString "are_classes") (Str.ofString "are_classes") (defArgs S_are_classes) (defBody S_are_classes) (defScope S_are_classes) .none kV_are_classes dc_are_classes pm_are_classes an_are_classes cd_are_classes ct_are_classes, f_is_count := f_is_count, d_is_count := PySem.W.fnOf (Str.ofString "is_count") (Str.ofString "is_count") (defArgs S_is_count) (defBody S_is_count) (defScope S_is_count) .none kV_is_count dc_is_count pm_is_count an_is_count cd_is_count ct_is_count, f_is_name := f_is_name, d_is_name := PySem.W.fnOf (Str.ofString "is_name") (Str.ofString "is_name") (defArgs S_is_name) (defBody S_is_name) (defScope S_is_name) .none kV_is_name dc_is_name pm_is_name an_is_name cd_is_name ct_is_name, f_is_rule := f_is_rule, d_is_rule := PySem.W.fnOf (Str.ofString "is_rule") (Str.ofString "is_rule") (defArgs S_is_rule) (defBody S_is_rule) (defScope S_is_rule) .none kV_is_rule dc_is_rule pm_is_rule an_is_rule cd_is_rule ct_is_rule, f_signs_of := f_signs_of, d_signs_of := PySem.W.fnOf (Str.ofString "signs_of") (Str.ofString "signs_of") (defArgs S_signs_of) (defBody S_signs_of) (defScope S_signs_of) .none kV_signs_of dc_signs_of pm_signs_of an_signs_of cd_signs_of ct_signs_of, f_is_policy := f_is_policy, d_is_policy := PySem.W.fnOf (Str.ofString "is_policy") (Str.ofString "is_policy") (defArgs S_is_policy) (defBody S_is_policy) (defScope S_is_policy) .none kV_is_policy dc_is_policy pm_is_policy an_is_policy cd_is_policy ct_is_policy, f_need_policy := f_need_policy, d_need_policy := PySem.W.fnOf (Str.ofString "need_policy") (Str.ofString "need_policy") (defArgs S_need_policy) (defBody S_need_policy) (defScope S_need_policy) .none kV_need_policy dc_need_policy pm_need_policy an_need_policy cd_need_policy ct_need_policy, f_Machine___init__ := f_Machine___init__, d_Machine___init__ := PySem.W.fnOf (Str.ofString "__init__") (Str.ofString "Machine.__init__") (defArgs S_Machine___init__) (defBody S_Machine___init__) (defScope S_Machine___init__) .none kV_Machine___init__ dc_Machine___init__ pm_Machine___init__ an_Machine___init__ cd_Machine___init__ ct_Machine___init__, f_Machine_keeps := f_Machine_keeps, d_Machine_keeps := PySem.W.fnOf (Str.ofString "keeps") (Str.ofString "Machine.keeps") (defArgs S_Machine_keeps) (defBody S_Machine_keeps) (defScope S_Machine_keeps) .none kV_Machine_keeps dc_Machine_keeps pm_Machine_keeps an_Machine_keeps cd_Machine_keeps ct_Machine_keeps, f_Machine_fine := f_Machine_fine, d_Machine_fine := PySem.W.fnOf (Str.ofString "fine") (Str.ofString "Machine.fine") (defArgs S_Machine_fine) (defBody S_Machine_fine) (defScope S_Machine_fine) .none kV_Machine_fine dc_Machine_fine pm_Machine_fine an_Machine_fine cd_Machine_fine ct_Machine_fine, f_Machine_counted := f_Machine_counted, d_Machine_counted := PySem.W.fnOf (Str.ofString "counted") (Str.ofString "Machine.counted") (defArgs S_Machine_counted) (defBody S_Machine_counted) (defScope S_Machine_counted) .none kV_Machine_counted dc_Machine_counted pm_Machine_counted an_Machine_counted cd_Machine_counted ct_Machine_counted, f_Machine_unmatched := f_Machine_unmatched, d_Machine_unmatched := PySem.W.fnOf (Str.ofString "unmatched") (Str.ofString "Machine.unmatched") (defArgs S_Machine_unmatched) (defBody S_Machine_unmatched) (defScope S_Machine_unmatched) .none kV_Machine_unmatched dc_Machine_unmatched pm_Machine_unmatched an_Machine_unmatched cd_Machine_unmatched ct_Machine_unmatched, f_Machine_moved := f_Machine_moved, d_Machine_moved := PySem.W.fnOf (Str.ofString "moved") (Str.ofString "Machine.moved") (defArgs S_Machine_moved) (defBody S_Machine_moved) (defScope S_Machine_moved) .none kV_Machine_moved dc_Machine_moved pm_Machine_moved an_Machine_moved cd_Machine_moved ct_Machine_moved, f_Machine_step := f_Machine_step, d_Machine_step := PySem.W.fnOf (Str.ofString "step") (Str.ofString "Machine.step") (defArgs S_Machine_step) (defBody S_Machine_step) (defScope S_Machine_step) .none kV_Machine_step dc_Machine_step pm_Machine_step an_Machine_step cd_Machine_step ct_Machine_step, f_Machine_nearest := f_Machine_nearest, d_Machine_nearest := PySem.W.fnOf (Str.ofString "nearest") (Str.ofString "Machine.nearest") (defArgs S_Machine_nearest) (defBody S_Machine_nearest) (defScope S_Machine_nearest) .none kV_Machine_nearest dc_Machine_nearest pm_Machine_nearest an_Machine_nearest cd_Machine_nearest ct_Machine_nearest, f_first_of := f_first_of, d_first_of := PySem.W.fnOf (Str.ofString "first_of") (Str.ofString "first_of") (defArgs S_first_of) (defBody S_first_of) (defScope S_first_of) .none kV_first_of dc_first_of pm_first_of an_first_of cd_first_of ct_first_of, f_choices := f_choices, d_choices := PySem.W.fnOf (Str.ofString "choices") (Str.ofString "choices") (defArgs S_choices) (defBody S_choices) (defScope S_choices) .none kV_choices dc_choices pm_choices an_choices cd_choices ct_choices, f_core := f_core, d_core := PySem.W.fnOf (Str.ofString "core") (Str.ofString "core") (defArgs S_core) (defBody S_core) (defScope S_core) .none kV_core dc_core pm_core an_core cd_core ct_core, f_first := f_first, d_first := PySem.W.fnOf (Str.ofString "first") (Str.ofString "first") (defArgs S_first) (defBody S_first) (defScope S_first) .none kV_first dc_first pm_first an_first cd_first ct_first, f__law_strings := f__law_strings, d__law_strings := PySem.W.fnOf (Str.ofString "_law_strings") (Str.ofString "_law_strings") (defArgs S__law_strings) (defBody S__law_strings) (defScope S__law_strings) .none kV__law_strings dc__law_strings pm__law_strings an__law_strings cd__law_strings ct__law_strings, f__law_keeps := f__law_keeps, d__law_keeps := PySem.W.fnOf (Str.ofString "_law_keeps") (Str.ofString "_law_keeps") (defArgs S__law_keeps) (defBody S__law_keeps) (defScope S__law_keeps) .none kV__law_keeps dc__law_keeps pm__law_keeps an__law_keeps cd__law_keeps ct__law_keeps, f__law_allows := f__law_allows, d__law_allows := PySem.W.fnOf (Str.ofString "_law_allows") (Str.ofString "_law_allows") (defArgs S__law_allows) (defBody S__law_allows) (defScope S__law_allows) .none kV__law_allows dc__law_allows pm__law_allows an__law_allows cd__law_allows ct__law_allows, f_found_by := f_found_by, d_found_by := PySem.W.fnOf (Str.ofString "found_by") (Str.ofString "found_by") (defArgs S_found_by) (defBody S_found_by) (defScope S_found_by) .none kV_found_by dc_found_by pm_found_by an_found_by cd_found_by ct_found_by, f_parting_of := f_parting_of, d_parting_of := PySem.W.fnOf (Str.ofString "parting_of") (Str.ofString "parting_of") (defArgs S_parting_of) (defBody S_parting_of) (defScope S_parting_of) .none kV_parting_of dc_parting_of pm_parting_of an_parting_of cd_parting_of ct_parting_of, f_without := f_without, d_without := PySem.W.fnOf (Str.ofString "without") (Str.ofString "without") (defArgs S_without) (defBody S_without) (defScope S_without) .none kV_without dc_without pm_without an_without cd_without ct_without, f_idle := f_idle, d_idle := PySem.W.fnOf (Str.ofString "idle") (Str.ofString "idle") (defArgs S_idle) (defBody S_idle) (defScope S_idle) .none kV_idle dc_idle pm_idle an_idle cd_idle ct_idle, f_law := fa, d_law := PySem.W.fnOf (Str.ofString "law") (Str.ofString "law") (defArgs S_law) (defBody S_law) (defScope S_law) .none kV_law dc_law pm_law an_law cd_law ct_law, C_Machine := C_Machine, a_STARTS := a_STARTS }
  have T : Txt K w mg a := { F__law_draw := F__law_draw, b__law_draw := b__law_draw, g__law_draw := PySem.W.mg_of X G a__law_draw, k__law_draw := k__law_draw, F__law_pick := F__law_pick, b__law_pick := b__law_pick, g__law_pick := PySem.W.mg_of X G a__law_pick, k__law_pick := k__law_pick, F__law_classes := F__law_classes, b__law_classes := b__law_classes, g__law_classes := PySem.W.mg_of X G a__law_classes, k__law_classes := k__law_classes, F__law_rule := F__law_rule, b__law_rule := b__law_rule, g__law_rule := PySem.W.mg_of X G a__law_rule, k__law_rule := k__law_rule, F__law_policy := F__law_policy, b__law_policy := b__law_policy, g__law_policy := PySem.W.mg_of X G a__law_policy, k__law_policy := k__law_policy, F__law_bent := F__law_bent, b__law_bent := b__law_bent, g__law_bent := PySem.W.mg_of X G a__law_bent, k__law_bent := k__law_bent, F_is_over := F_is_over, b_is_over := b_is_over, g_is_over := PySem.W.mg_of X G a_is_over, k_is_over := k_is_over, F_are_classes := F_are_classes, b_are_classes := b_are_classes, g_are_classes := PySem.W.mg_of X G a_are_classes, k_are_classes := k_are_classes, F_is_count := F_is_count, b_is_count := b_is_count, g_is_count := PySem.W.mg_of X G a_is_count, k_is_count := k_is_count, F_is_name := F_is_name, b_is_name := b_is_name, g_is_name := PySem.W.mg_of X G a_is_name, k_is_name := k_is_name, F_is_rule := F_is_rule, b_is_rule := b_is_rule, g_is_rule := PySem.W.mg_of X G a_is_rule, k_is_rule := k_is_rule, F_signs_of := F_signs_of, b_signs_of := b_signs_of, g_signs_of := PySem.W.mg_of X G a_signs_of, k_signs_of := k_signs_of, F_is_policy := F_is_policy, b_is_policy := b_is_policy, g_is_policy := PySem.W.mg_of X G a_is_policy, k_is_policy := k_is_policy, F_need_policy := F_need_policy, b_need_policy := b_need_policy, g_need_policy := PySem.W.mg_of X G a_need_policy, k_need_policy := k_need_policy, F_Machine___init__ := F_Machine___init__, b_Machine___init__ := b_Machine___init__, F_Machine_keeps := F_Machine_keeps, b_Machine_keeps := b_Machine_keeps, m_Machine_keeps := ⟨a_Machine_keeps, i_Machine_keeps, k_Machine_keeps⟩, F_Machine_fine := F_Machine_fine, b_Machine_fine := b_Machine_fine, m_Machine_fine := ⟨a_Machine_fine, i_Machine_fine, k_Machine_fine⟩, F_Machine_counted := F_Machine_counted, b_Machine_counted := b_Machine_counted, m_Machine_counted := ⟨a_Machine_counted, i_Machine_counted, k_Machine_counted⟩, F_Machine_unmatched := F_Machine_unmatched, b_Machine_unmatched := b_Machine_unmatched, m_Machine_unmatched := ⟨a_Machine_unmatched, i_Machine_unmatched, k_Machine_unmatched⟩, F_Machine_moved := F_Machine_moved, b_Machine_moved := b_Machine_moved, m_Machine_moved := ⟨a_Machine_moved, i_Machine_moved, k_Machine_moved⟩, F_Machine_step := F_Machine_step, b_Machine_step := b_Machine_step, m_Machine_step := ⟨a_Machine_step, i_Machine_step, k_Machine_step⟩, F_Machine_nearest := F_Machine_nearest, b_Machine_nearest := b_Machine_nearest, m_Machine_nearest := ⟨a_Machine_nearest, i_Machine_nearest, k_Machine_nearest⟩, F_first_of := F_first_of, b_first_of := b_first_of, g_first_of := PySem.W.mg_of X G a_first_of, k_first_of := k_first_of, F_choices := F_choices, b_choices := b_choices, g_choices := PySem.W.mg_of X G a_choices, k_choices := k_choices, F_core := F_core, b_core := b_core, g_core := PySem.W.mg_of X G a_core, k_core := k_core, F_first := F_first, b_first := b_first, g_first := PySem.W.mg_of X G a_first, k_first := k_first, F__law_strings := F__law_strings, b__law_strings := b__law_strings, g__law_strings := PySem.W.mg_of X G a__law_strings, k__law_strings := k__law_strings, F__law_keeps := F__law_keeps, b__law_keeps := b__law_keeps, g__law_keeps := PySem.W.mg_of X G a__law_keeps, k__law_keeps := k__law_keeps, F__law_allows := F__law_allows, b__law_allows := b__law_allows, g__law_allows := PySem.W.mg_of X G a__law_allows, k__law_allows := k__law_allows, F_found_by := F_found_by, b_found_by := b_found_by, g_found_by := PySem.W.mg_of X G a_found_by, k_found_by := k_found_by, F_parting_of := F_parting_of, b_parting_of := b_parting_of, g_parting_of := PySem.W.mg_of X G a_parting_of, k_parting_of := k_parting_of, F_without := F_without, b_without := b_without, g_without := PySem.W.mg_of X G a_without, k_without := k_without, F_idle := F_idle, b_idle := b_idle, g_idle := PySem.W.mg_of X G a_idle, k_idle := k_idle, F_law := F_law, b_law := b_law, g_law := PySem.W.mg_of X G a_law, k_law := k_law, cl_Machine := ⟨pg_Machine, hd_Machine, po_Machine, sa_Machine⟩, g_Machine := PySem.W.mg_of X G aC_Machine, mk_Machine := ⟨mk_Machine, a_Machine___init__, i_Machine___init__, kc_Machine⟩, na_Machine_followers := na_Machine_followers, na_Machine_known := na_Machine_known, na_Machine_names := na_Machine_names, na_Machine_rules := na_Machine_rules, na_Machine_signs := na_Machine_signs, na_Machine_start := na_Machine_start, z_all := PySem.W.mg_none_of X G z_all, z_any := PySem.W.mg_none_of X G z_any, z_bool := PySem.W.mg_none_of X G z_bool, z_int := PySem.W.mg_none_of X G z_int, z_isinstance := PySem.W.mg_none_of X G z_isinstance, z_len := PySem.W.mg_none_of X G z_len, z_list := PySem.W.mg_none_of X G z_list, z_min := PySem.W.mg_none_of X G z_min, z_range := PySem.W.mg_none_of X G z_range, z_set := PySem.W.mg_none_of X G z_set, z_sorted := PySem.W.mg_none_of X G z_sorted, z_str := PySem.W.mg_none_of X G z_str, z_tuple := PySem.W.mg_none_of X G z_tuple, z_zip := PySem.W.mg_none_of X G z_zip, g_CLASSES := ⟨_, PySem.W.mg_of X G g_CLASSES⟩, g_LOWER := ⟨_, PySem.W.mg_of X G g_LOWER⟩, g_RULES := ⟨_, PySem.W.mg_of X G g_RULES⟩, g_SIGNS := ⟨_, PySem.W.mg_of X G g_SIGNS⟩, g_SIZE := ⟨_, PySem.W.mg_of X G g_SIZE⟩, g_STARTS := PySem.W.mg_of X G aD_STARTS, kd_STARTS := kd_STARTS }
  refine ⟨a.d_law, fun s v => .of_eq rfl, fun base _ _ => ?_⟩
  have G__law_draw : FnOk l.prog w K mg base CX0 1 a.f__law_draw a.d__law_draw P__law_draw (lsp w K (sp__law_draw')) := ok__law_draw T (by intro ds M R h; unfold sp__law_draw' at h; repeat (first | (obtain ⟨rfl, _⟩ := h; rfl) | (obtain ⟨_, h⟩ := h))) (DL.l_draw')
  have G__law_pick : FnOk l.prog w K mg base CX0 2 a.f__law_pick a.d__law_pick P__law_pick (lsp w K (sp__law_pick)) := ok__law_pick T G__law_draw (by intro ds M R h; unfold sp__law_pick at h; repeat (first | (obtain ⟨rfl, _⟩ := h; rfl) | (obtain ⟨_, h⟩ := h))) (DL.l_pick)
  have G__law_classes : FnOk l.prog w K mg base CX0 3 a.f__law_classes a.d__law_classes P__law_classes (lsp w K (sp__law_classes)) := ok__law_classes T G__law_pick (by intro ds M R h; unfold sp__law_classes at h; repeat (first | (obtain ⟨rfl, _⟩ := h; rfl) | (obtain ⟨_, h⟩ := h))) (DL.l_classes)
  have G__law_rule : FnOk l.prog w K mg base CX0 3 a.f__law_rule a.d__law_rule P__law_rule (lsp w K (sp__law_rule)) := ok__law_rule T G__law_pick G__law_draw (by intro ds M R h; unfold sp__law_rule at h; repeat (first | (obtain ⟨rfl, _⟩ := h; rfl) | (obtain ⟨_, h⟩ := h))) (DL.l_rule)
  have G__law_policy : FnOk l.prog w K mg base CX0 4 a.f__law_policy a.d__law_policy P__law_policy (lsp w K (sp__law_policy)) := ok__law_policy T G__law_draw G__law_rule (by intro ds M R h; unfold sp__law_policy at h; repeat (first | (obtain ⟨rfl, _⟩ := h; rfl) | (obtain ⟨_, h⟩ := h))) (DL.l_policy)
  have G__law_bent : FnOk l.prog w K mg base CX0 5 a.f__law_bent a.d__law_bent P__law_bent (lsp w K (sp__law_bent)) := ok__law_bent T G__law_pick G__law_policy G__law_draw (by intro ds M R h; unfold sp__law_bent at h; repeat (first | (obtain ⟨rfl, _⟩ := h; rfl) | (obtain ⟨_, h⟩ := h))) (DL.l_bent)
  have G_is_over : FnOk l.prog w K mg base CX0 1 a.f_is_over a.d_is_over P_is_over (lsp w K (sp_is_over)) := ok_is_over T (by intro ds M R h; unfold sp_is_over at h; repeat (first | (obtain ⟨rfl, _⟩ := h; rfl) | (obtain ⟨_, h⟩ := h))) (DL.l_is_over)
  have G_are_classes : FnOk l.prog w K mg base CX0 2 a.f_are_classes a.d_are_classes P_are_classes (lsp w K (sp_are_classes)) := ok_are_classes T G_is_over (by intro ds M R h; unfold sp_are_classes at h; repeat (first | (obtain ⟨rfl, _⟩ := h; rfl) | (obtain ⟨_, h⟩ := h))) (DL.l_are_classes)
  have G_is_count : FnOk l.prog w K mg base CX0 1 a.f_is_count a.d_is_count P_is_count (lsp w K (sp_is_count)) := ok_is_count T (by intro ds M R h; unfold sp_is_count at h; repeat (first | (obtain ⟨rfl, _⟩ := h; rfl) | (obtain ⟨_, h⟩ := h))) (DL.l_is_count)
  have G_is_name : FnOk l.prog w K mg base CX0 1 a.f_is_name a.d_is_name P_is_name (lsp w K (sp_is_name)) := ok_is_name T (by intro ds M R h; unfold sp_is_name at h; repeat (first | (obtain ⟨rfl, _⟩ := h; rfl) | (obtain ⟨_, h⟩ := h))) (DL.l_is_name)
  have G_is_rule : FnOk l.prog w K mg base CX0 2 a.f_is_rule a.d_is_rule P_is_rule (lsp w K (sp_is_rule)) := ok_is_rule T G_is_count G_is_name G_is_over (by intro ds M R h; unfold sp_is_rule at h; repeat (first | (obtain ⟨rfl, _⟩ := h; rfl) | (obtain ⟨_, h⟩ := h))) (DL.l_is_rule)
  have G_signs_of : FnOk l.prog w K mg base CX0 1 a.f_signs_of a.d_signs_of P_signs_of (lsp w K (sp_signs_of)) := ok_signs_of T (by intro ds M R h; unfold sp_signs_of at h; repeat (first | (obtain ⟨rfl, _⟩ := h; rfl) | (obtain ⟨_, h⟩ := h))) (DL.l_signs_of)
  have G_is_policy : FnOk l.prog w K mg base CX0 3 a.f_is_policy a.d_is_policy P_is_policy (lsp w K (sp_is_policy)) := ok_is_policy T G_are_classes G_is_rule G_signs_of (by intro ds M R h; unfold sp_is_policy at h; repeat (first | (obtain ⟨rfl, _⟩ := h; rfl) | (obtain ⟨_, h⟩ := h))) (DL.l_is_policy)
  have G_need_policy : FnOk l.prog w K mg base CX0 4 a.f_need_policy a.d_need_policy P_need_policy (lsp w K (sp_need_policy)) := ok_need_policy T G_is_policy (by intro ds M R h; unfold sp_need_policy at h; repeat (first | (obtain ⟨rfl, _⟩ := h; rfl) | (obtain ⟨_, h⟩ := h))) (DL.l_need_policy)
  have G_Machine___init__ : FnOk l.prog w K mg base CX0 2 a.f_Machine___init__ a.d_Machine___init__ P_Machine___init__ (lsp w K (sp_Machine___init__ a.C_Machine)) := ok_Machine___init__ T G_signs_of (by intro ds M R h; unfold sp_Machine___init__ at h; repeat (first | (obtain ⟨rfl, _⟩ := h; rfl) | (obtain ⟨_, h⟩ := h))) (DL.l_init a.C_Machine)
  have G_Machine_keeps : FnOk l.prog w K mg base CX0 1 a.f_Machine_keeps a.d_Machine_keeps P_Machine_keeps (lsp w K (sp_Machine_keeps)) := ok_Machine_keeps T (by intro ds M R h; unfold sp_Machine_keeps at h; repeat (first | (obtain ⟨rfl, _⟩ := h; rfl) | (obtain ⟨_, h⟩ := h))) (DL.l_keeps)
  have G_Machine_fine : FnOk l.prog w K mg base CX0 2 a.f_Machine_fine a.d_Machine_fine P_Machine_fine (lsp w K (sp_Machine_fine a.C_Machine)) := ok_Machine_fine T G_Machine_keeps (by intro ds M R h; unfold sp_Machine_fine at h; repeat (first | (obtain ⟨rfl, _⟩ := h; rfl) | (obtain ⟨_, h⟩ := h))) (DL.l_fine a.C_Machine)
  have G_Machine_counted : FnOk l.prog w K mg base CX0 1 a.f_Machine_counted a.d_Machine_counted P_Machine_counted (lsp w K (sp_Machine_counted)) := ok_Machine_counted T (by intro ds M R h; unfold sp_Machine_counted at h; repeat (first | (obtain ⟨rfl, _⟩ := h; rfl) | (obtain ⟨_, h⟩ := h))) (DL.l_counted)
  have G_Machine_unmatched : FnOk l.prog w K mg base CX0 1 a.f_Machine_unmatched a.d_Machine_unmatched P_Machine_unmatched (lsp w K (sp_Machine_unmatched)) := ok_Machine_unmatched T (by intro ds M R h; unfold sp_Machine_unmatched at h; repeat (first | (obtain ⟨rfl, _⟩ := h; rfl) | (obtain ⟨_, h⟩ := h))) (DL.l_unmatched)
  have G_Machine_moved : FnOk l.prog w K mg base CX0 2 a.f_Machine_moved a.d_Machine_moved P_Machine_moved (lsp w K (sp_Machine_moved a.C_Machine)) := ok_Machine_moved T G_Machine_counted G_Machine_unmatched (by intro ds M R h; unfold sp_Machine_moved at h; repeat (first | (obtain ⟨rfl, _⟩ := h; rfl) | (obtain ⟨_, h⟩ := h))) (DL.l_moved a.C_Machine)
  have G_Machine_step : FnOk l.prog w K mg base CX0 3 a.f_Machine_step a.d_Machine_step P_Machine_step (lsp w K (sp_Machine_step a.C_Machine)) := ok_Machine_step T G_Machine_moved (by intro ds M R h; unfold sp_Machine_step at h; repeat (first | (obtain ⟨rfl, _⟩ := h; rfl) | (obtain ⟨_, h⟩ := h))) (DL.l_step a.C_Machine)
  have G_Machine_nearest : FnOk l.prog w K mg base CX0 4 a.f_Machine_nearest a.d_Machine_nearest P_Machine_nearest (lsp w K (sp_Machine_nearest a.C_Machine)) := ok_Machine_nearest T G_Machine_fine G_Machine_step (by intro ds M R h; unfold sp_Machine_nearest at h; repeat (first | (obtain ⟨rfl, _⟩ := h; rfl) | (obtain ⟨_, h⟩ := h))) (DL.l_nearest a.C_Machine)
  have G_first_of : FnOk l.prog w K mg base CX0 5 a.f_first_of a.d_first_of P_first_of (lsp w K (sp_first_of a.C_Machine)) := ok_first_of T G_Machine___init__ G_Machine_nearest (by intro ds M R h; unfold sp_first_of at h; repeat (first | (obtain ⟨rfl, _⟩ := h; rfl) | (obtain ⟨_, h⟩ := h))) (DL.l_first_of a.C_Machine)
  have GR_choices : ∀ n, FnOk l.prog w K mg base CX0 (0 + n + 1) a.f_choices a.d_choices P_choices (lsp w K ((sp_choices) n)) := by
    intro n; induction n with
    | zero => exact ok_choices T (Nat.le_refl _) (fnok_false (k := 0)) (by intro ds M R h; unfold sp_choices at h; repeat (first | (obtain ⟨rfl, _⟩ := h; rfl) | (obtain ⟨_, h⟩ := h))) ((DL.l_choices) 0)
    | succ n ih => exact ok_choices T (by omega) ih (by intro ds M R h; unfold sp_choices at h; repeat (first | (obtain ⟨rfl, _⟩ := h; rfl) | (obtain ⟨_, h⟩ := h))) ((DL.l_choices) (n + 1))
  have G_choices := GR_choices 6
  have G_core : FnOk l.prog w K mg base CX0 8 a.f_core a.d_core P_core (lsp w K (sp_core a.C_Machine)) := ok_core T G_need_policy G_first_of G_choices (by intro ds M R h; unfold sp_core at h; repeat (first | (obtain ⟨rfl, _⟩ := h; rfl) | (obtain ⟨_, h⟩ := h))) (DL.l_core a.C_Machine)
  have G_first : FnOk l.prog w K mg base CX0 6 a.f_first a.d_first P_first (lsp w K (sp_first a.C_Machine)) := ok_first T G_need_policy G_first_of (by intro ds M R h; unfold sp_first at h; repeat (first | (obtain ⟨rfl, _⟩ := h; rfl) | (obtain ⟨_, h⟩ := h))) (DL.l_first a.C_Machine)
  have G__law_strings : FnOk l.prog w K mg base CX0 1 a.f__law_strings a.d__law_strings P__law_strings (lsp w K (sp__law_strings)) := ok__law_strings T (by intro ds M R h; unfold sp__law_strings at h; repeat (first | (obtain ⟨rfl, _⟩ := h; rfl) | (obtain ⟨_, h⟩ := h))) (DL.l_strings)
  have G__law_keeps : FnOk l.prog w K mg base CX0 1 a.f__law_keeps a.d__law_keeps P__law_keeps (lsp w K (sp__law_keeps)) := ok__law_keeps T (by intro ds M R h; unfold sp__law_keeps at h; repeat (first | (obtain ⟨rfl, _⟩ := h; rfl) | (obtain ⟨_, h⟩ := h))) (DL.l_keepsL)
  have G__law_allows : FnOk l.prog w K mg base CX0 2 a.f__law_allows a.d__law_allows P__law_allows (lsp w K (sp__law_allows2)) := ok__law_allows T G__law_keeps (by intro ds M R h; unfold sp__law_allows2 at h; repeat (first | (obtain ⟨rfl, _⟩ := h; rfl) | (obtain ⟨_, h⟩ := h))) (DL.l_allows2)
  have G_found_by : FnOk l.prog w K mg base CX0 4 a.f_found_by a.d_found_by P_found_by (lsp w K (sp_found_by a.C_Machine)) := ok_found_by T G_Machine___init__ G_Machine_fine G_Machine_step (by intro ds M R h; unfold sp_found_by at h; repeat (first | (obtain ⟨rfl, _⟩ := h; rfl) | (obtain ⟨_, h⟩ := h))) (DL.l_found_by a.C_Machine)
  have G_parting_of : FnOk l.prog w K mg base CX0 5 a.f_parting_of a.d_parting_of P_parting_of (lsp w K (sp_parting_of a.C_Machine)) := ok_parting_of T G_found_by (by intro ds M R h; unfold sp_parting_of at h; repeat (first | (obtain ⟨rfl, _⟩ := h; rfl) | (obtain ⟨_, h⟩ := h))) (DL.l_parting_of a.C_Machine)
  have G_without : FnOk l.prog w K mg base CX0 1 a.f_without a.d_without P_without (lsp w K (sp_without)) := ok_without T (by intro ds M R h; unfold sp_without at h; repeat (first | (obtain ⟨rfl, _⟩ := h; rfl) | (obtain ⟨_, h⟩ := h))) (DL.l_without)
  have G_idle : FnOk l.prog w K mg base CX0 6 a.f_idle a.d_idle P_idle (lsp w K (sp_idle a.C_Machine)) := ok_idle T G_need_policy G_parting_of G_without (by intro ds M R h; unfold sp_idle at h; repeat (first | (obtain ⟨rfl, _⟩ := h; rfl) | (obtain ⟨_, h⟩ := h))) (DL.l_idle a.C_Machine)
  have G_law : FnOk l.prog w K mg base CX0 9 a.f_law a.d_law P_law (lsp w K (sp_law)) := ok_law T G__law_classes G__law_bent G_core G_first G__law_strings G__law_allows G__law_keeps G_idle G__law_rule (by intro ds M R h; unfold sp_law at h; repeat (first | (obtain ⟨rfl, _⟩ := h; rfl) | (obtain ⟨_, h⟩ := h))) (DL.l_law a.C_Machine)
  exact G_law
theorem only_fl {K : PySem.W.Frag} {H : Hp} {a : Addr} {xs : List V} (hO : Only H) (h : SqL K H a xs) : SqF K H a xs := by
  rcases h with (h | h) | h
  · rcases hO a with z | ⟨o, ys, z⟩
    · rw [h] at z; cases z
    · rw [h] at z; cases z
  · exact .inl h
  · exact .inr h
theorem rps_ints {K : PySem.W.Frag} {H : Hp} : ∀ ns : List Int, Rps K H (intL ns) (ns.map V.int)
  | [] => .nil
  | n :: ns => .cons Rp.int (rps_ints ns)
theorem walk {l : PySem.W.OpenLaw} {q : Program} {loose : List Str} {XP : (Str → Option Value) → Heap → Prop} {YP : World → Heap → Prop} {d : DefRec} {K : Params → PySem.W.Frag} (hn : l.most = some 63) (hdf : d.params.defaults = [])
    (hY : ∀ (w : World) (h : Heap), YP w h → (K w.params).In h)
    (F : ∀ (w : World) (mg : Str → Option Value) (fa : Addr) (h : Heap), (K w.params).In h → h.Ns mainGlobals mg → mg d.name = some (.ref fa) →
      ∃ fd : FuncData, (∀ (s : Shared) (u : Value), BindsTo s fd ⟨[u], []⟩ [((Str.ofString "_law_script"), u)]) ∧ ∀ base : Heap, (K w.params).In base → base.Ns mainGlobals mg → FnOk l.prog w (K w.params) mg base CX0 9 fa fd [(Str.ofString "_law_script")] (spLaw w (K w.params))) :
    PySem.W.WalkO q loose XP YP l.row.toRowW d [] (fun f vs => PySem.call f vs) :=
  L2.walk_of (n := 63) (k := 9) (x := (Str.ofString "_law_script")) (CX := fun _ => CX0) (sp := fun w => spLaw w (K w.params)) hn (by decide) hdf ⟨rfl, by decide, by decide⟩ hY F
    (fun _ H a ns hl hO hS => ⟨[.fl (intL ns)], fun _ => none, fun d _ => d = .bl true, .cons (by unfold Rp; exact ⟨a, _, rfl, only_fl hO hS, rps_ints ns⟩) .nil, (fun _ _ e => by cases e), ⟨ns, rfl, hl, fun _ => rfl⟩, fun v H' d M' _ r _ e => by subst e; exact r.bl_of⟩) fun _ _ _ _ _ z => z
end DL
open PySem PySem.W PyProof.Rows
set_option maxRecDepth 100000 in
set_option maxHeartbeats 0 in
theorem PySem.Challenge.cw_passrules_k18_whole_cores_holds : PySem.Challenge.rw_passrules_k18_whole_cores.Holds := by
  w_on; o_law; k_head; (case hw => w_witness2)
  k_fill
  refine DL.walk (l := PySem.Challenge.rw_passrules_k18_whole_cores) rfl rfl (fun w h Y => PySem.W.kIn_of Y) ?F
  case F =>
    intro w mg fa h KX G hmg
    refine' DL.all_mk KX G hmg ?aC_Machine ?pg_Machine ?hd_Machine ?po_Machine ?sa_Machine ?mk_Machine ?kc_Machine ?a__law_draw ?l__law_draw ?c__law_draw ?k__law_draw ?a__law_pick ?l__law_pick ?c__law_pick ?k__law_pick ?a__law_classes ?l__law_classes ?c__law_classes ?k__law_classes ?a__law_rule ?l__law_rule ?c__law_rule ?k__law_rule ?a__law_policy ?l__law_policy ?c__law_policy ?k__law_policy ?a__law_bent ?l__law_bent ?c__law_bent ?k__law_bent ?a_is_over ?l_is_over ?c_is_over ?k_is_over ?a_are_classes ?l_are_classes ?c_are_classes ?k_are_classes ?a_is_count ?l_is_count ?c_is_count ?k_is_count ?a_is_name ?l_is_name ?c_is_name ?k_is_name ?a_is_rule ?l_is_rule ?c_is_rule ?k_is_rule ?a_signs_of ?l_signs_of ?c_signs_of ?k_signs_of ?a_is_policy ?l_is_policy ?c_is_policy ?k_is_policy ?a_need_policy ?l_need_policy ?c_need_policy ?k_need_policy ?a_Machine___init__ ?i_Machine___init__ ?l_Machine___init__ ?c_Machine___init__ ?k_Machine___init__ ?a_Machine_keeps ?i_Machine_keeps ?l_Machine_keeps ?c_Machine_keeps ?k_Machine_keeps ?a_Machine_fine ?i_Machine_fine ?l_Machine_fine ?c_Machine_fine ?k_Machine_fine ?a_Machine_counted ?i_Machine_counted ?l_Machine_counted ?c_Machine_counted ?k_Machine_counted ?a_Machine_unmatched ?i_Machine_unmatched ?l_Machine_unmatched ?c_Machine_unmatched ?k_Machine_unmatched ?a_Machine_moved ?i_Machine_moved ?l_Machine_moved ?c_Machine_moved ?k_Machine_moved ?a_Machine_step ?i_Machine_step ?l_Machine_step ?c_Machine_step ?k_Machine_step ?a_Machine_nearest ?i_Machine_nearest ?l_Machine_nearest ?c_Machine_nearest ?k_Machine_nearest ?a_first_of ?l_first_of ?c_first_of ?k_first_of ?a_choices ?l_choices ?c_choices ?k_choices ?a_core ?l_core ?c_core ?k_core ?a_first ?l_first ?c_first ?k_first ?a__law_strings ?l__law_strings ?c__law_strings ?k__law_strings ?a__law_keeps ?l__law_keeps ?c__law_keeps ?k__law_keeps ?a__law_allows ?l__law_allows ?c__law_allows ?k__law_allows ?a_found_by ?l_found_by ?c_found_by ?k_found_by ?a_parting_of ?l_parting_of ?c_parting_of ?k_parting_of ?a_without ?l_without ?c_without ?k_without ?a_idle ?l_idle ?c_idle ?k_idle ?a_law ?l_law ?c_law ?k_law ?na_Machine_followers ?na_Machine_known ?na_Machine_names ?na_Machine_rules ?na_Machine_signs ?na_Machine_start ?z_all ?z_any ?z_bool ?z_int ?z_isinstance ?z_len ?z_list ?z_min ?z_range ?z_set ?z_sorted ?z_str ?z_tuple ?z_zip ?g_CLASSES ?g_LOWER ?g_RULES ?g_SIGNS ?g_SIZE ?aD_STARTS ?kl_STARTS ?kx_STARTS ?ko_STARTS ?en_STARTS_0 ?en_STARTS_1 ?en_STARTS_2 ?en_STARTS_3 ?el_STARTS_3 ?en_STARTS_4 ?el_STARTS_4 ?en_STARTS_5 ?el_STARTS_5 ?en_STARTS_n0 ?en_STARTS_n1 ?en_STARTS_n2
    (case aC_Machine => k_is)
    (case pg_Machine => k_is)
    (case hd_Machine => k_is)
    (case po_Machine => k_is)
    (case sa_Machine => k_is)
    (case mk_Machine => k_is)
    (case kc_Machine => k_is)
    (case a__law_draw => k_is)
    (case l__law_draw => k_is)
    (case c__law_draw => k_is)
    (case k__law_draw => k_is)
    (case a__law_pick => k_is)
    (case l__law_pick => k_is)
    (case c__law_pick => k_is)
    (case k__law_pick => k_is)
    (case a__law_classes => k_is)
    (case l__law_classes => k_is)
    (case c__law_classes => k_is)
    (case k__law_classes => k_is)
    (case a__law_rule => k_is)
    (case l__law_rule => k_is)
    (case c__law_rule => k_is)
    (case k__law_rule => k_is)
    (case a__law_policy => k_is)
    (case l__law_policy => k_is)
    (case c__law_policy => k_is)
    (case k__law_policy => k_is)
    (case a__law_bent => k_is)
    (case l__law_bent => k_is)
    (case c__law_bent => k_is)
    (case k__law_bent => k_is)
    (case a_is_over => k_is)
    (case l_is_over => k_is)
    (case c_is_over => k_is)
    (case k_is_over => k_is)
    (case a_are_classes => k_is)
    (case l_are_classes => k_is)
    (case c_are_classes => k_is)
    (case k_are_classes => k_is)
    (case a_is_count => k_is)
    (case l_is_count => k_is)
    (case c_is_count => k_is)
    (case k_is_count => k_is)
    (case a_is_name => k_is)
    (case l_is_name => k_is)
    (case c_is_name => k_is)
    (case k_is_name => k_is)
    (case a_is_rule => k_is)
    (case l_is_rule => k_is)
    (case c_is_rule => k_is)
    (case k_is_rule => k_is)
    (case a_signs_of => k_is)
    (case l_signs_of => k_is)
    (case c_signs_of => k_is)
    (case k_signs_of => k_is)
    (case a_is_policy => k_is)
    (case l_is_policy => k_is)
    (case c_is_policy => k_is)
    (case k_is_policy => k_is)
    (case a_need_policy => k_is)
    (case l_need_policy => k_is)
    (case c_need_policy => k_is)
    (case k_need_policy => k_is)
    (case a_Machine___init__ => k_is)
    (case i_Machine___init__ => k_is)
    (case l_Machine___init__ => k_is)
    (case c_Machine___init__ => k_is)
    (case k_Machine___init__ => k_is)
    (case a_Machine_keeps => k_is)
    (case i_Machine_keeps => k_is)
    (case l_Machine_keeps => k_is)
    (case c_Machine_keeps => k_is)
    (case k_Machine_keeps => k_is)
    (case a_Machine_fine => k_is)
    (case i_Machine_fine => k_is)
    (case l_Machine_fine => k_is)
    (case c_Machine_fine => k_is)
    (case k_Machine_fine => k_is)
    (case a_Machine_counted => k_is)
    (case i_Machine_counted => k_is)
    (case l_Machine_counted => k_is)
    (case c_Machine_counted => k_is)
    (case k_Machine_counted => k_is)
    (case a_Machine_unmatched => k_is)
    (case i_Machine_unmatched => k_is)
    (case l_Machine_unmatched => k_is)
    (case c_Machine_unmatched => k_is)
    (case k_Machine_unmatched => k_is)
    (case a_Machine_moved => k_is)
    (case i_Machine_moved => k_is)
    (case l_Machine_moved => k_is)
    (case c_Machine_moved => k_is)
    (case k_Machine_moved => k_is)
    (case a_Machine_step => k_is)
    (case i_Machine_step => k_is)
    (case l_Machine_step => k_is)
    (case c_Machine_step => k_is)
    (case k_Machine_step => k_is)
    (case a_Machine_nearest => k_is)
    (case i_Machine_nearest => k_is)
    (case l_Machine_nearest => k_is)
    (case c_Machine_nearest => k_is)
    (case k_Machine_nearest => k_is)
    (case a_first_of => k_is)
    (case l_first_of => k_is)
    (case c_first_of => k_is)
    (case k_first_of => k_is)
    (case a_choices => k_is)
    (case l_choices => k_is)
    (case c_choices => k_is)
    (case k_choices => k_is)
    (case a_core => k_is)
    (case l_core => k_is)
    (case c_core => k_is)
    (case k_core => k_is)
    (case a_first => k_is)
    (case l_first => k_is)
    (case c_first => k_is)
    (case k_first => k_is)
    (case a__law_strings => k_is)
    (case l__law_strings => k_is)
    (case c__law_strings => k_is)
    (case k__law_strings => k_is)
    (case a__law_keeps => k_is)
    (case l__law_keeps => k_is)
    (case c__law_keeps => k_is)
    (case k__law_keeps => k_is)
    (case a__law_allows => k_is)
    (case l__law_allows => k_is)
    (case c__law_allows => k_is)
    (case k__law_allows => k_is)
    (case a_found_by => k_is)
    (case l_found_by => k_is)
    (case c_found_by => k_is)
    (case k_found_by => k_is)
    (case a_parting_of => k_is)
    (case l_parting_of => k_is)
    (case c_parting_of => k_is)
    (case k_parting_of => k_is)
    (case a_without => k_is)
    (case l_without => k_is)
    (case c_without => k_is)
    (case k_without => k_is)
    (case a_idle => k_is)
    (case l_idle => k_is)
    (case c_idle => k_is)
    (case k_idle => k_is)
    (case a_law => k_is)
    (case l_law => k_is)
    (case c_law => k_is)
    (case k_law => k_is)
    (case na_Machine_followers => k_is)
    (case na_Machine_known => k_is)
    (case na_Machine_names => k_is)
    (case na_Machine_rules => k_is)
    (case na_Machine_signs => k_is)
    (case na_Machine_start => k_is)
    (case z_all => k_is)
    (case z_any => k_is)
    (case z_bool => k_is)
    (case z_int => k_is)
    (case z_isinstance => k_is)
    (case z_len => k_is)
    (case z_list => k_is)
    (case z_min => k_is)
    (case z_range => k_is)
    (case z_set => k_is)
    (case z_sorted => k_is)
    (case z_str => k_is)
    (case z_tuple => k_is)
    (case z_zip => k_is)
    (case g_CLASSES => k_is)
    (case g_LOWER => k_is)
    (case g_RULES => k_is)
    (case g_SIGNS => k_is)
    (case g_SIZE => k_is)
    (case aD_STARTS => k_is)
    (case kl_STARTS => k_is)
    (case kx_STARTS => exact And.intro ⟨_, _, rfl, rfl⟩ (And.intro ⟨_, _, rfl, rfl⟩ (And.intro ⟨_, _, rfl, rfl⟩ (And.intro ⟨_, _, rfl, rfl⟩ (And.intro ⟨_, _, rfl, rfl⟩ (And.intro ⟨_, _, rfl, rfl⟩ (True.intro)))))))
    (case ko_STARTS => first | k_is | rfl | decide)
    (case en_STARTS_0 => k_is)
    (case en_STARTS_1 => k_is)
    (case en_STARTS_2 => k_is)
    (case en_STARTS_3 => k_is)
    (case el_STARTS_3 => k_is)
    (case en_STARTS_4 => k_is)
    (case el_STARTS_4 => k_is)
    (case en_STARTS_5 => k_is)
    (case el_STARTS_5 => k_is)
    (case en_STARTS_n0 => k_is)
    (case en_STARTS_n1 => k_is)
    (case en_STARTS_n2 => k_is)
