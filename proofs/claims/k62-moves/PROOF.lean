import PyProof.Rows.All
import Wide.All
import OpenK.AllK
import Wide.FinOn
import PySem.Challenge.RW_floortwos_k62_moves_of_cells
import PyProof.EqAt
import PyProof.EqKinds
import PyProof.TupleCall
import HandS.ForMost
import HandS.ForExc
import HandS.Deep
import HandS.SortOrd
import HandS.SortInts
import HandS.Wide
import HandS.IsInst
import HandS.Zip
import HandS.Rev
import HandS.Defaults
import HandS.TryMany
import HandS.Conv
import KE.KDictKeyed
import KE.KDictWalk
import HandS.HeadHook1
import KE.LtData
import KE.DataCmp
import KE.SortCalls
import KE.SortKeyed
import HandS.Style
import KE.SortData
import HandS.TupLen
import KE.DataMinMax
import HandS.WideBits
import HandS.Exc
import HandS.ExcOwn
import HandS.CallSlots
import PyProof.Rows.TupDisplay
import HandS.TryOnly
import HandS.ExcIs
import HandS.HeadWalk
import HandS.CallRecv
import HandS.Words
import HandS.Ends
import HandS.Head0
import HandS.Head1
import HandS.Head2
import HandS.HeadEnd
import HandS.HeadHook2
set_option Elab.async false
set_option linter.all false
set_option maxRecDepth 100000
set_option maxHeartbeats 4000000
set_option autoImplicit false
/-! # The D-layer: values whose tuples are told by content, over the hand layer -/
namespace DL
open PySem PySem.Spec PyProof.Rows L2
/-- a value: a tuple is its items -/
inductive D where
  | non | bl (b : Bool) | int (i : Int) | str (x : Str) | tup (ds : List D) | ref (a : Addr) | ty (n : String)
mutual
/-- how it lies in the hand layer -/
inductive Rep (H : Hp) : D → V → Prop
  | non : Rep H .non .non
  | bl (b : Bool) : Rep H (.bl b) (.bl b)
  | int (i : Int) : Rep H (.int i) (.int i)
  | str (x : Str) : Rep H (.str x) (.str x)
  | ref (a : Addr) : Rep H (.ref a) (.ref a)
  | ty (n : String) : Rep H (.ty n) (.ty n)
  | tup {a : Addr} {ds : List D} {vs : List V} : H a = some (.tup vs) → Reps H ds vs → Rep H (.tup ds) (.ref a)
inductive Reps (H : Hp) : List D → List V → Prop
  | nil : Reps H [] []
  | cons {d : D} {v : V} {ds : List D} {vs : List V} : Rep H d v → Reps H ds vs → Reps H (d :: ds) (v :: vs)
end
/-- the tuples stay -/
def Keep (H H' : Hp) : Prop := ∀ a xs, H a = some (.tup xs) → H' a = some (.tup xs)
theorem Keep.refl {H : Hp} : Keep H H := fun _ _ h => h
theorem Keep.trans {H H1 H2 : Hp} (a : Keep H H1) (b : Keep H1 H2) : Keep H H2 := fun x xs h => b x xs (a x xs h)
mutual
theorem Rep.keep {H H' : Hp} (k : Keep H H') : ∀ {d : D} {v : V}, Rep H d v → Rep H' d v
  | _, _, .non => .non
  | _, _, .bl b => .bl b
  | _, _, .int i => .int i
  | _, _, .str x => .str x
  | _, _, .ref a => .ref a
  | _, _, .ty n => .ty n
  | _, _, .tup h r => .tup (k _ _ h) (Reps.keep k r)
theorem Reps.keep {H H' : Hp} (k : Keep H H') : ∀ {ds : List D} {vs : List V}, Reps H ds vs → Reps H' ds vs
  | _, _, .nil => .nil
  | _, _, .cons r t => .cons (Rep.keep k r) (Reps.keep k t)
end
section
variable {H : Hp}
theorem Reps.length : ∀ {ds : List D} {vs : List V}, Reps H ds vs → ds.length = vs.length
  | _, _, .nil => rfl
  | _, _, .cons _ t => by rw [List.length_cons, List.length_cons, Reps.length t]
theorem Reps.get : ∀ {ds : List D} {vs : List V} {i : Nat} {d : D}, Reps H ds vs → ds[i]? = some d → ∃ v, vs[i]? = some v ∧ Rep H d v
  | _, _, _, _, .nil, e => by simp at e
  | _, _, 0, _, .cons r _, e => by simp at e; subst e; exact ⟨_, rfl, r⟩
  | _, _, i + 1, d, .cons _ t, e => by
    obtain ⟨v, h1, h2⟩ := Reps.get (i := i) (d := d) t (by simpa using e)
    exact ⟨v, by simpa using h1, h2⟩
theorem Reps.get' : ∀ {ds : List D} {vs : List V} {i : Nat} {v : V}, Reps H ds vs → vs[i]? = some v → ∃ d, ds[i]? = some d ∧ Rep H d v
  | _, _, _, _, .nil, e => by simp at e
  | _, _, 0, _, .cons r _, e => by simp at e; subst e; exact ⟨_, rfl, r⟩
  | _, _, i + 1, d, .cons _ t, e => by
    obtain ⟨v, h1, h2⟩ := Reps.get' (i := i) (v := d) t (by simpa using e)
    exact ⟨v, by simpa using h1, h2⟩
theorem Reps.set {x : D} {u : V} (r : Rep H x u) : ∀ {xs : List D} {us : List V} (i : Nat), Reps H xs us → Reps H (xs.set i x) (us.set i u)
  | _, _, _, .nil => .nil
  | _, _, 0, .cons _ t => .cons r t
  | _, _, i + 1, .cons q t => .cons q (Reps.set r i t)
theorem Reps.append : ∀ {xs ys : List D} {us ws : List V}, Reps H xs us → Reps H ys ws → Reps H (xs ++ ys) (us ++ ws)
  | _, _, _, _, .nil, s => s
  | _, _, _, _, .cons r t, s => .cons r (Reps.append t s)
theorem Reps.take : ∀ {xs : List D} {us : List V} (n : Nat), Reps H xs us → Reps H (xs.take n) (us.take n)
  | _, _, 0, _ => .nil
  | _, _, _ + 1, .nil => .nil
  | _, _, n + 1, .cons r t => .cons r (Reps.take n t)
theorem Reps.drop : ∀ {xs : List D} {us : List V} (n : Nat), Reps H xs us → Reps H (xs.drop n) (us.drop n)
  | _, _, 0, r => r
  | _, _, _ + 1, .nil => .nil
  | _, _, n + 1, .cons _ t => Reps.drop n t
theorem Reps.reverse : ∀ {xs : List D} {us : List V}, Reps H xs us → Reps H xs.reverse us.reverse
  | _, _, .nil => .nil
  | _, _, .cons r t => by
    rw [List.reverse_cons, List.reverse_cons]
    exact (Reps.reverse t).append (.cons r .nil)
theorem Reps.dropLast {xs : List D} {us : List V} (r : Reps H xs us) : Reps H xs.dropLast us.dropLast := by
  rw [List.dropLast_eq_take, List.dropLast_eq_take, ← r.length]
  exact r.take _
theorem Reps.rep {xs : List D} {us : List V} (r : Reps H xs us) : ∀ n : Nat, Reps H (List.replicate n xs).flatten (List.replicate n us).flatten
  | 0 => .nil
  | n + 1 => by
    rw [List.replicate_succ, List.replicate_succ, List.flatten_cons, List.flatten_cons]
    exact r.append (Reps.rep r n)
theorem Reps.one {d : D} {vs : List V} (r : Reps H [d] vs) : ∃ v, vs = [v] ∧ Rep H d v := by
  cases r with
  | cons r t => cases t; exact ⟨_, rfl, r⟩
theorem Reps.two {d e : D} {vs : List V} (r : Reps H [d, e] vs) : ∃ v u, vs = [v, u] ∧ Rep H d v ∧ Rep H e u := by
  cases r with
  | cons r t =>
    obtain ⟨u, rfl, q⟩ := t.one
    exact ⟨_, u, rfl, r, q⟩
theorem Reps.ints : ∀ {ns : List Int} {vs : List V}, Reps H (ns.map D.int) vs → vs = ns.map V.int
  | [], _, r => by cases r; rfl
  | n :: ns, _, r => by
    cases r with
    | cons r t => cases r; rw [Reps.ints t]; rfl
theorem Reps.of_ints : ∀ ns : List Int, Reps H (ns.map D.int) (ns.map V.int)
  | [] => .nil
  | n :: ns => .cons (.int n) (Reps.of_ints ns)
end
/-- the objects that may change -/
inductive DO where
  /-- a list; one that is read only -/
  | lst (ds : List D) | ro (ds : List D)
  /-- a dict whose keys are tuples; one that is read only (while it is walked) -/
  | dct (kvs : List (D × D)) | rod (kvs : List (D × D))
  /-- a dict whose keys are ints; one that is read only -/
  | dci (kvs : List (D × D)) | roi (kvs : List (D × D))
  /-- an instance of the module's class x -/
  | ins (x : Str) (fs : List (Str × D))
abbrev Mem := Addr → Option DO
def DO.free : DO → Bool
  | .lst _ => true
  | .dct _ => true
  | .dci _ => true
  | .ins _ _ => true
  | .ro _ => false
  | .rod _ => false
  | .roi _ => false
def up (M : Mem) (a : Addr) (o : DO) : Mem := fun b => if b = a then some o else M b
theorem up_same {M : Mem} {a : Addr} {o : DO} : up M a o a = some o := by unfold up; rw [if_pos rfl]
theorem up_ne {M : Mem} {a b : Addr} {o : DO} (h : b ≠ a) : up M a o b = M b := by unfold up; rw [if_neg h]
theorem up_none {M : Mem} {a b : Addr} {o : DO} (h : up M a o b = none) : b ≠ a ∧ M b = none := by
  unfold up at h
  split at h
  · cases h
  · rename_i q; exact ⟨q, h⟩
/-- what is known there is known here -/
def Le (M M' : Mem) : Prop := ∀ a o, M a = some o → M' a = some o
theorem Le.refl {M : Mem} : Le M M := fun _ _ h => h
theorem Le.trans {M M1 M2 : Mem} (a : Le M M1) (b : Le M1 M2) : Le M M2 := fun x o h => b x o (a x o h)
theorem Le.new {M M' : Mem} {p : Addr} {o : DO} (h : Le M M') (hp : M' p = none) : Le M (up M' p o) := fun a u e => by
  have q := h a u e
  rw [up_ne (fun z => by rw [z, hp] at q; cases q)]
  exact q
theorem Le.both {M M' : Mem} {p : Addr} {o : DO} (h : Le M M') : Le (up M p o) (up M' p o) := fun a u e => by
  unfold up at e ⊢
  split
  · rename_i z; rw [if_pos z] at e; exact e
  · rename_i z; rw [if_neg z] at e; exact h a u e
theorem Le.put {M M' : Mem} {p : Addr} {o : DO} (h : Le M M') (hp : M' p = some o) : Le (up M p o) M' := fun a u e => by
  unfold up at e
  split at e
  · rename_i z; subst z; rw [hp]; exact e
  · exact h a u e
theorem Le.nope {M M' : Mem} {p : Addr} (h : Le M M') (hp : M' p = none) : M p = none := by
  cases q : M p with
  | none => rfl
  | some o => rw [h p o q] at hp; cases hp
theorem ne_of_M {M : Mem} {a p : Addr} {o : DO} (h : M a = some o) (hp : M p = none) : a ≠ p := fun e => by subst e; rw [h] at hp; cases hp
theorem up_up {M : Mem} {a : Addr} {o u : DO} : up (up M a o) a u = up M a u := by
  funext b; unfold up; split <;> rfl
theorem up_comm {M : Mem} {a b : Addr} {o u : DO} (h : a ≠ b) : up (up M a o) b u = up (up M b u) a o := by
  funext c; unfold up; split <;> split <;> first | rfl | (rename_i x y; exact absurd (y.symm.trans x) h)
/-! ### dicts -/
mutual
/-- a key, as the model has it -/
def keyD : D → NestedKey
  | .non => .none
  | .int i => .num i
  | .str x => .text x
  | .tup ds => .tup (keyDs ds)
  | .bl b => .num (if b then 1 else 0)
  | .ref _ => .none
  | .ty _ => .none
def keyDs : List D → List NestedKey
  | [] => []
  | d :: r => keyD d :: keyDs r
end
mutual
/-- data that may be within a key -/
def okD : D → Bool
  | .non => true
  | .int _ => true
  | .str _ => true
  | .tup ds => okDs ds
  | .bl _ => false
  | .ref _ => false
  | .ty _ => false
def okDs : List D → Bool
  | [] => true
  | d :: r => okD d && okDs r
end
mutual
/-- how deep -/
def depD : D → Nat
  | .tup ds => depDs ds + 1
  | .non => 0
  | .int _ => 0
  | .str _ => 0
  | .bl _ => 0
  | .ref _ => 0
  | .ty _ => 0
def depDs : List D → Nat
  | [] => 0
  | d :: r => max (depD d) (depDs r)
end
/-- the keys whose dicts are told by their entries -/
def okK (d : D) : Bool := (match d with | .tup _ => true | _ => false) && okD d && decide (depD d ≤ 8)
def intK : D → Option Key
  | .int i => some (.inl i)
  | _ => none
/-- at a stands a dict of just these entries -/
def DictE (a : Addr) (es : List DictEntry) : HO := .ext fun h => ∃ o arr ep, h.get? a = some o ∧ o.ExactDict ∧ o.data = .dict arr ep ∧ arr.toList = es
section
variable (P : Program) (w : World)
/-- an entry -/
structure Ent (H : Hp) (kv : D × D) (x : NestedKey × Addr × Value) : Prop where
  ok : okK kv.1 = true
  key : keyD kv.1 = x.1
  rep : Rep H kv.1 (.ref x.2.1)
  val : ∃ v, Rep H kv.2 v ∧ RelV v x.2.2
/-- a dict whose keys are tuples -/
def DctT (H : Hp) (a : Addr) (kvs : List (D × D)) (o : HO) : Prop :=
  ∃ xs : List (NestedKey × Addr × Value), o = DictE a (xs.map (entryOfKey (nestedKind P w))) ∧ kvs.length ≤ sizeLine ∧ (a == sysModules) = false ∧ Paired (Ent H) kvs xs ∧ (xs.map (·.1)).Nodup
/-- a dict whose keys are ints -/
def DctI (H : Hp) (kvs : List (D × D)) (o : HO) : Prop :=
  ∃ ks : List (Key × V), o = .dK ks ∧ Paired (fun (kv : D × D) (q : Key × V) => intK kv.1 = some q.1 ∧ Rep H kv.2 q.2) kvs ks
/-- a list of the written part -/
def KL (K : PySem.W.Frag) (a : Addr) (xs : List V) : Prop := ∃ (o : Obj) (its : Array Value) (n : Nat), K.lookup a = some o ∧ o.cls = .type "list" ∧ o.dict = none ∧ o.data = .seq its n ∧ its.size ≤ sizeLine ∧ Vals xs its.toList
def RepO (K : PySem.W.Frag) (H : Hp) (a : Addr) : DO → Prop
  | .lst ds => ∃ vs, H a = some (.lst vs) ∧ Reps H ds vs
  | .ro ds => ∃ vs, ((∃ o, H a = some (.frz o (.lst vs))) ∨ KL K a vs) ∧ Reps H ds vs
  | .dct kvs => ∃ o, H a = some o ∧ DctT P w H a kvs o
  | .rod kvs => ∃ ob o, H a = some (.frz ob o) ∧ DctT P w H a kvs o
  | .dci kvs => ∃ o, H a = some o ∧ DctI H kvs o
  | .roi kvs => ∃ ob o, H a = some (.frz ob o) ∧ DctI H kvs o
  | .ins x fs => ∃ dx vs, H a = some (.ins (He.ga K x) dx vs) ∧ Paired (fun (f : Str × D) (g : Str × V) => f.1 = g.1 ∧ Rep H f.2 g.2) fs vs
/-- Z is the frame: what the code is not to touch -/
structure AbsZ (K : PySem.W.Frag) (Z : Hp) (M : Mem) (H : Hp) : Prop where
  mem : ∀ a o, M a = some o → RepO P w K H a o
  fr : ∀ a o, Z a = some o → H a = some o
  dj : ∀ a o z, M a = some o → o.free = true → Z a = some z → False
end
theorem Paired.imp {α β : Type} {F G : α → β → Prop} : ∀ {l₁ : List α} {l₂ : List β}, Paired F l₁ l₂ → (∀ a b, F a b → G a b) → Paired G l₁ l₂
  | _, _, .nil, _ => .nil
  | _, _, .cons r t, f => .cons (f _ _ r) (Paired.imp t f)
section
variable {P : Program} {w : World} {K : PySem.W.Frag} {H H' : Hp} {a : Addr}
theorem Ent.keep (k : Keep H H') {kv : D × D} {x : NestedKey × Addr × Value} (e : Ent H kv x) : Ent H' kv x :=
  ⟨e.ok, e.key, e.rep.keep k, let ⟨v, r, q⟩ := e.val; ⟨v, r.keep k, q⟩⟩
theorem DctT.keep (k : Keep H H') {kvs : List (D × D)} {o : HO} (d : DctT P w H a kvs o) : DctT P w H' a kvs o := by
  obtain ⟨xs, e, h1, h2, h3, h4⟩ := d
  exact ⟨xs, e, h1, h2, Paired.imp h3 fun _ _ z => z.keep k, h4⟩
theorem DctI.keep (k : Keep H H') {kvs : List (D × D)} {o : HO} (d : DctI H kvs o) : DctI H' kvs o := by
  obtain ⟨ks, e, h⟩ := d
  exact ⟨ks, e, Paired.imp h fun _ _ z => ⟨z.1, z.2.keep k⟩⟩
/-- the object at a and the tuples stay -/
theorem RepO.keep (k : Keep H H') (ha : H' a = H a) : ∀ {o : DO}, RepO P w K H a o → RepO P w K H' a o
  | .lst ds, ⟨vs, h, r⟩ => ⟨vs, ha.trans h, r.keep k⟩
  | .ro ds, ⟨vs, h, r⟩ => ⟨vs, by
      rcases h with ⟨o, h⟩ | h
      · exact .inl ⟨o, ha.trans h⟩
      · exact .inr h, r.keep k⟩
  | .dct kvs, ⟨o, h, d⟩ => ⟨o, ha.trans h, d.keep k⟩
  | .rod kvs, ⟨ob, o, h, d⟩ => ⟨ob, o, ha.trans h, d.keep k⟩
  | .dci kvs, ⟨o, h, d⟩ => ⟨o, ha.trans h, d.keep k⟩
  | .roi kvs, ⟨ob, o, h, d⟩ => ⟨ob, o, ha.trans h, d.keep k⟩
  | .ins C fs, ⟨dx, vs, h, r⟩ => ⟨dx, vs, ha.trans h, Paired.imp r fun _ _ z => ⟨z.1, z.2.keep k⟩⟩
theorem DctT.mut {kvs : List (D × D)} {o : HO} (d : DctT P w H a kvs o) : Mut (some o) := by
  obtain ⟨xs, rfl, _⟩ := d; trivial
theorem DctI.mut {kvs : List (D × D)} {o : HO} (d : DctI H kvs o) : Mut (some o) := by
  obtain ⟨ks, rfl, _⟩ := d; trivial
/-- an object that may change is no tuple -/
theorem RepO.free_mut {o : DO} (r : RepO P w K H a o) (f : o.free = true) : Mut (H a) := by
  cases o with
  | lst ds => obtain ⟨vs, h, _⟩ := r; rw [h]; trivial
  | ro ds => cases f
  | dct kvs => obtain ⟨u, h, d⟩ := r; rw [h]; exact d.mut
  | rod kvs => cases f
  | dci kvs => obtain ⟨u, h, d⟩ := r; rw [h]; exact d.mut
  | roi kvs => cases f
  | ins C fs => obtain ⟨dx, vs, h, _⟩ := r; rw [h]; trivial
theorem mut_keep {u : HO} (m : Mut (H a)) : Keep H (upd H a u) := fun b xs e => by
  rw [upd_ne (fun z => by subst z; rw [e] at m; exact m)]
  exact e
theorem new_keep {u : HO} (n : H a = none) : Keep H (upd H a u) := fun b xs e => by
  rw [upd_ne (ne_of_none e n)]
  exact e
end
section
variable {P : Program} {w : World} {K : PySem.W.Frag} {Z : Hp} {M M' : Mem} {H : Hp} {a p : Addr}
theorem AbsZ.le (z : AbsZ P w K Z M H) (h : Le M' M) : AbsZ P w K Z M' H :=
  ⟨fun a o e => z.mem a o (h a o e), z.fr, fun a o u e f q => z.dj a o u (h a o e) f q⟩
theorem AbsZ.lst (z : AbsZ P w K Z M H) {ds : List D} (h : M a = some (.lst ds)) : ∃ vs, H a = some (.lst vs) ∧ Reps H ds vs := z.mem a _ h
theorem RepO.there {o : DO} (r : RepO P w K H p o) (hp : H p = none) (hk : K.lookup p = none) : False := by
  cases o with
  | lst ds => obtain ⟨vs, h, _⟩ := r; rw [hp] at h; cases h
  | ro ds =>
    obtain ⟨vs, h, q⟩ := r
    rcases h with ⟨o, h⟩ | ⟨o, _, _, h, _⟩
    · rw [hp] at h; cases h
    · rw [hk] at h; cases h
  | dct kvs => obtain ⟨u, h, d⟩ := r; rw [hp] at h; cases h
  | rod kvs => obtain ⟨ob, u, h, d⟩ := r; rw [hp] at h; cases h
  | dci kvs => obtain ⟨u, h, d⟩ := r; rw [hp] at h; cases h
  | roi kvs => obtain ⟨ob, u, h, d⟩ := r; rw [hp] at h; cases h
  | ins C fs => obtain ⟨dx, vs, h, _⟩ := r; rw [hp] at h; cases h
/-- what is not tracked is not known -/
theorem AbsZ.nope (z : AbsZ P w K Z M H) (hp : H p = none) (hk : K.lookup p = none) : M p = none := by
  cases q : M p with
  | none => rfl
  | some o => exact (RepO.there (z.mem p o q) hp hk).elim
/-- a new object: at an address that the hand layer does not track -/
theorem AbsZ.add (z : AbsZ P w K Z M H) {o : DO} {u : HO} (hp : H p = none) (r : RepO P w K (upd H p u) p o) : AbsZ P w K Z (up M p o) (upd H p u) := by
  refine ⟨fun b v e => ?_, fun b v e => ?_, fun b v y e f q => ?_⟩
  · by_cases hb : b = p
    · subst hb
      rw [up_same] at e; cases e
      exact r
    · rw [up_ne hb] at e
      exact (z.mem b v e).keep (new_keep hp) (upd_ne hb)
  · have q := z.fr b v e
    rw [upd_ne (ne_of_none q hp)]
    exact q
  · by_cases hb : b = p
    · subst hb
      have := z.fr b y q
      rw [hp] at this; cases this
    · rw [up_ne hb] at e
      exact z.dj b v y e f q
/-- an object changed -/
theorem AbsZ.set (z : AbsZ P w K Z M H) {o o' : DO} {u : HO} (hm : M p = some o) (f : o.free = true) (r : RepO P w K (upd H p u) p o') : AbsZ P w K Z (up M p o') (upd H p u) := by
  have mu : Mut (H p) := (z.mem p o hm).free_mut f
  refine ⟨fun b v e => ?_, fun b v e => ?_, fun b v y e f' q => ?_⟩
  · by_cases hb : b = p
    · subst hb
      rw [up_same] at e; cases e
      exact r
    · rw [up_ne hb] at e
      exact (z.mem b v e).keep (mut_keep mu) (upd_ne hb)
  · rw [upd_ne (fun hb => by subst hb; exact z.dj b o v hm f e)]
    exact z.fr b v e
  · by_cases hb : b = p
    · subst hb
      exact z.dj b o y hm f q
    · rw [up_ne hb] at e
      exact z.dj b v y e f' q
/-- a tuple (or anything untracked) is new -/
theorem AbsZ.tup (z : AbsZ P w K Z M H) {u : HO} (hp : H p = none) : AbsZ P w K Z M (upd H p u) := by
  refine ⟨fun b v e => ?_, fun b v e => ?_, z.dj⟩
  · have r := z.mem b v e
    by_cases hb : b = p
    · subst hb
      cases v with
      | lst ds => obtain ⟨vs, h, _⟩ := r; rw [hp] at h; cases h
      | ro ds =>
        obtain ⟨vs, h, q⟩ := r
        rcases h with ⟨o, h⟩ | h
        · rw [hp] at h; cases h
        · exact ⟨vs, .inr h, q.keep (new_keep hp)⟩
      | dct kvs => obtain ⟨u, h, d⟩ := r; rw [hp] at h; cases h
      | rod kvs => obtain ⟨ob, u, h, d⟩ := r; rw [hp] at h; cases h
      | dci kvs => obtain ⟨u, h, d⟩ := r; rw [hp] at h; cases h
      | roi kvs => obtain ⟨ob, u, h, d⟩ := r; rw [hp] at h; cases h
      | ins C fs => obtain ⟨dx, vs, h, _⟩ := r; rw [hp] at h; cases h
    · exact r.keep (new_keep hp) (upd_ne hb)
  · have q := z.fr b v e
    rw [upd_ne (ne_of_none q hp)]
    exact q
end
end DL
/-! # The D-layer's judgements, its simple expressions -/
namespace DL
open PySem PySem.Spec PyProof.Rows L2
abbrev DK := D → Mem → Prop
/-- what is wanted of an exception: its class's name -/
abbrev DX := Str → Mem → Prop
abbrev DSt := List (Option D)
/-- an expression's reading; a test's; a list of arguments' -/
abbrev TED := DSt → Mem → DK → DX → Prop
abbrev TTD := DSt → Mem → (Bool → Mem → Prop) → DX → Prop
abbrev TAD := DSt → Mem → (List D → Mem → Prop) → DX → Prop
/-- the hand layer's wish of an exception -/
abbrev WD := Str → L2.St → Hp → Prop
structure RS (H : Hp) (σD : DSt) (σ : L2.St) : Prop where
  len : σD.length = σ.length
  at_ : ∀ (i : Nat) (d : D), σD[i]? = some (some d) → ∃ v, σ[i]? = some (some v) ∧ Rep H d v
theorem RS.keep {H H' : Hp} {σD : DSt} {σ : L2.St} (k : Keep H H') (r : RS H σD σ) : RS H' σD σ :=
  ⟨r.len, fun i d e => let ⟨v, h1, h2⟩ := r.at_ i d e; ⟨v, h1, h2.keep k⟩⟩
theorem RS.set {H : Hp} {σD : DSt} {σ : L2.St} {i : Nat} {d : D} {v : V} (r : RS H σD σ) (h : Rep H d v) : RS H (σD.set i (some d)) (σ.set i (some v)) := by
  refine ⟨by rw [List.length_set, List.length_set]; exact r.len, fun j e q => ?_⟩
  by_cases hj : i = j
  · subst hj
    by_cases hl : i < σD.length
    · rw [List.getElem?_set_self hl] at q
      cases q
      exact ⟨v, by rw [List.getElem?_set_self (by rw [← r.len]; exact hl)], h⟩
    · rw [List.getElem?_eq_none (by rw [List.length_set]; omega)] at q
      cases q
  · rw [List.getElem?_set_ne hj] at q ⊢
    exact r.at_ j e q
theorem RS.unset {H : Hp} {σD : DSt} {σ : L2.St} {i : Nat} (r : RS H σD σ) : RS H (σD.set i none) (σ.set i none) := by
  refine ⟨by rw [List.length_set, List.length_set]; exact r.len, fun j e q => ?_⟩
  by_cases hj : i = j
  · subst hj
    by_cases hl : i < σD.length
    · rw [List.getElem?_set_self hl] at q
      cases q
    · rw [List.getElem?_eq_none (by rw [List.length_set]; omega)] at q
      cases q
  · rw [List.getElem?_set_ne hj] at q ⊢
    exact r.at_ j e q
section
variable (P : Program) (w : World) (K : PySem.W.Frag)
/-- the hand layer's end, from the layer's -/
def lift (H Z : Hp) (Q : DK) : VK := fun v H' => ∃ d M', Rep H' d v ∧ Keep H H' ∧ AbsZ P w K Z M' H' ∧ Q d M'
def liftT (H Z : Hp) (Q : Bool → Mem → Prop) : Bool → Hp → Prop := fun b H' => ∃ M', Keep H H' ∧ AbsZ P w K Z M' H' ∧ Q b M'
def liftA (H Z : Hp) (Q : List D → Mem → Prop) : List V → Hp → Prop := fun vs H' => ∃ ds M', Reps H' ds vs ∧ Keep H H' ∧ AbsZ P w K Z M' H' ∧ Q ds M'
def Wish (W : WD) (σ : L2.St) (H Z : Hp) (KX : DX) : Prop := ∀ c M' H', KX c M' → Keep H H' → AbsZ P w K Z M' H' → W c σ H'
end
theorem Wish.keep {P : Program} {w : World} {K : PySem.W.Frag} {W : WD} {σ : L2.St} {H H' Z : Hp} {KX : DX} (h : Wish P w K W σ H Z KX) (k : Keep H H') : Wish P w K W σ H' Z KX := fun c M1 H1 q k1 z => h c M1 H1 q (k.trans k1) z
structure DE (X : Cx) (W : WD) (e : Expr) (t : TED) : Prop where
  run : ∀ (pins : List (Addr × Obj)) (s : Shared) (σ : L2.St) (H : Hp) (σD : DSt) (Z : Hp) (M : Mem) (K : DK) (KX : DX), Inv X pins σ H s → RS H σD σ → AbsZ X.prog X.w X.K Z M H → Wish X.prog X.w X.K W σ H Z KX → t σD M K KX →
    wpAny (model X.prog X.w) X.A (eval e X.env) (EP X pins σ (lift X.prog X.w X.K H Z K)) X.xe s
structure DT (X : Cx) (W : WD) (e : Expr) (t : TTD) : Prop where
  run : ∀ (pins : List (Addr × Obj)) (s : Shared) (σ : L2.St) (H : Hp) (σD : DSt) (Z : Hp) (M : Mem) (K : Bool → Mem → Prop) (KX : DX), Inv X pins σ H s → RS H σD σ → AbsZ X.prog X.w X.K Z M H → Wish X.prog X.w X.K W σ H Z KX → t σD M K KX →
    wpAny (model X.prog X.w) X.A (isTrue e X.env (eval e X.env)) (TP X pins σ (liftT X.prog X.w X.K H Z K)) X.xe s
/-- a chain of and, or as a test -/
structure DW (X : Cx) (W : WD) (e : Expr) (t : TTD) : Prop where
  run : ∀ (whole : Sem Value) (pins : List (Addr × Obj)) (s : Shared) (σ : L2.St) (H : Hp) (σD : DSt) (Z : Hp) (M : Mem) (K : Bool → Mem → Prop) (KX : DX), Inv X pins σ H s → RS H σD σ → AbsZ X.prog X.w X.K Z M H → Wish X.prog X.w X.K W σ H Z KX → t σD M K KX →
    wpAny (model X.prog X.w) X.A (isTrue e X.env whole) (TP X pins σ (liftT X.prog X.w X.K H Z K)) X.xe s
theorem DW.dt {X : Cx} {W : WD} {e : Expr} {t : TTD} (h : DW X W e t) : DT X W e t := ⟨h.run _⟩
structure DA (X : Cx) (W : WD) (es : List Expr) (t : TAD) : Prop where
  run : ∀ (pos : Pos) (pins : List (Addr × Obj)) (s : Shared) (σ : L2.St) (H : Hp) (σD : DSt) (Z : Hp) (M : Mem) (K : List D → Mem → Prop) (KX : DX), Inv X pins σ H s → RS H σD σ → AbsZ X.prog X.w X.K Z M H → Wish X.prog X.w X.K W σ H Z KX → t σD M K KX →
    wpAny (model X.prog X.w) X.A (spliced (backTo pos (starEach es X.env))) (AP X pins σ (liftA X.prog X.w X.K H Z K)) X.xe s
section
variable {X : Cx} {W : WD} {pins : List (Addr × Obj)} {σ : L2.St} {H H1 : Hp} {σD : DSt} {Z : Hp} {s : Shared} {K : DK} {KX : DX}
theorem EP.back {K : DK} (k : Keep H H1) {u : Value} {s' : Shared} (h : EP X pins σ (lift X.prog X.w X.K H1 Z K) u s') : EP X pins σ (lift X.prog X.w X.K H Z K) u s' :=
  let ⟨v, H', I, r, d, M', q1, q2, q3, q4⟩ := h
  ⟨v, H', I, r, d, M', q1, k.trans q2, q3, q4⟩
theorem TP.back {K : Bool → Mem → Prop} (k : Keep H H1) {b : Bool} {s' : Shared} (h : TP X pins σ (liftT X.prog X.w X.K H1 Z K) b s') : TP X pins σ (liftT X.prog X.w X.K H Z K) b s' :=
  let ⟨H', I, M', q2, q3, q4⟩ := h
  ⟨H', I, M', k.trans q2, q3, q4⟩
/-- the end of an expression that changes nothing -/
theorem EP.done {d : D} {v : V} {u : Value} {M : Mem} (I : Inv X pins σ H s) (r : RelV v u) (rep : Rep H d v) (z : AbsZ X.prog X.w X.K Z M H) (q : K d M) : EP X pins σ (lift X.prog X.w X.K H Z K) u s :=
  ⟨v, H, I, r, d, M, rep, Keep.refl, z, q⟩
theorem TP.done {K : Bool → Mem → Prop} {b : Bool} {M : Mem} (I : Inv X pins σ H s) (z : AbsZ X.prog X.w X.K Z M H) (q : K b M) : TP X pins σ (liftT X.prog X.w X.K H Z K) b s :=
  ⟨H, I, M, Keep.refl, z, q⟩
/-- two expressions in a row -/
theorem run2 {a b : Expr} {ta tb : TED} (ha : DE X W a ta) (hb : DE X W b tb) {M : Mem} {R : D → D → Mem → Prop} (I : Inv X pins σ H s) (rs : RS H σD σ) (z : AbsZ X.prog X.w X.K Z M H) (wi : Wish X.prog X.w X.K W σ H Z KX)
    (h : ta σD M (fun x M1 => tb σD M1 (fun y M2 => R x y M2) KX) KX) {α : Type} {Q : α → Shared → Prop} {f : Value → Value → Sem α}
    (hf : ∀ v u s2 x y xv yv H2 M2, Inv X pins σ H2 s2 → Keep H H2 → AbsZ X.prog X.w X.K Z M2 H2 → Rep H2 x xv → Rep H2 y yv → RelV xv v → RelV yv u → R x y M2 → wpAny (model X.prog X.w) X.A (f v u) Q X.xe s2) :
    wpAny (model X.prog X.w) X.A (eval a X.env) (fun v s₁ => wpAny (model X.prog X.w) X.A (eval b X.env) (fun u s₂ => wpAny (model X.prog X.w) X.A (f v u) Q X.xe s₂) X.xe s₁) X.xe s := by
  refine thn (ha.run pins s σ H σD Z M _ KX I rs z wi h) fun v s1 ⟨xv, H1, I1, r1, x, M1, p1, k1, z1, q1⟩ => ?_
  refine thn (hb.run pins s1 σ H1 σD Z M1 _ KX I1 (rs.keep k1) z1 (wi.keep k1) q1) fun u s2 ⟨yv, H2, I2, r2, y, M2, p2, k2, z2, q2⟩ => ?_
  exact hf v u s2 x y xv yv H2 M2 I2 (k1.trans k2) z2 (p1.keep k2) p2 r1 r2 q2
end
/-! ### names and constants -/
def dVar (i : Nat) : TED := fun σ M K _ => match σ[i]? with
  | some (some d) => K d M
  | _ => False
def dC (d : D) : TED := fun _ M K _ => K d M
def dNever : TED := fun _ _ _ _ => False
section
variable {X : Cx} {W : WD} {pos : Pos}
theorem de_never {e : Expr} : DE X W e dNever := ⟨fun _ _ _ _ _ _ _ _ _ _ _ _ _ h => h.elim⟩
/-- nothing of the written part is tracked -/
def NK (K : PySem.W.Frag) (H : Hp) : Prop := ∀ b o, H b = some o → K.lookup b = none
theorem nk_of {pins : List (Addr × Obj)} {s : Shared} {σ : L2.St} {H : Hp} (I : Inv X pins σ H s) : NK X.K H := fun b o e => by
  cases q : X.K.lookup b with
  | none => rfl
  | some u =>
    have := (I.bs b u (I.ok.mod.kin b u q)).2
    rw [e] at this; cases this
theorem nk_new {pins : List (Addr × Obj)} {s : Shared} {σ : L2.St} {H : Hp} (I : Inv X pins σ H s) {p : Addr} (hp : s.heap.objs.size ≤ p) : X.K.lookup p = none := by
  cases q : X.K.lookup p with
  | none => rfl
  | some u => exact absurd (Nat.lt_of_lt_of_le (Heap.lt_size (I.kIn p u q)) hp) (Nat.lt_irrefl _)
/-- the lifted end, where it may be used that nothing written is tracked -/
def liftN (X : Cx) (H Z : Hp) (K : DK) : VK := fun v H' => NK X.K H' → lift X.prog X.w X.K H Z K v H'
theorem EP.ofN {pins : List (Addr × Obj)} {σ : L2.St} {H Z : Hp} {K : DK} {u : Value} {s' : Shared} (h : EP X pins σ (liftN X H Z K) u s') : EP X pins σ (lift X.prog X.w X.K H Z K) u s' :=
  let ⟨v, H', I, r, q⟩ := h
  ⟨v, H', I, r, q (nk_of I)⟩
/-- an expression whose reading in the hand layer is known -/
theorem de_of {e : Expr} {t : TE} {td : TED} (h : PE X e t) (hl : ∀ (σ : L2.St) (H : Hp) (σD : DSt) (Z : Hp) (M : Mem) (K : DK) (KX : DX), RS H σD σ → AbsZ X.prog X.w X.K Z M H → td σD M K KX → t σ H (liftN X H Z K)) : DE X W e td :=
  ⟨fun pins s σ H σD Z M K KX I rs z _ q => thn (h.run pins s σ H _ I (hl σ H σD Z M K KX rs z q)) fun _ _ e => EP.ofN e⟩
theorem liftN_id {H Z : Hp} {M : Mem} {Q : DK} {d : D} {v : V} (z : AbsZ X.prog X.w X.K Z M H) (r : Rep H d v) (q : Q d M) : liftN X H Z Q v H := fun _ => ⟨d, M, r, Keep.refl, z, q⟩
theorem lift_id {P : Program} {w : World} {K : PySem.W.Frag} {H Z : Hp} {M : Mem} {Q : DK} {d : D} {v : V} (z : AbsZ P w K Z M H) (r : Rep H d v) (q : Q d M) : lift P w K H Z Q v H := ⟨d, M, r, Keep.refl, z, q⟩
theorem de_var {i : Nat} {x : Str} (hN : X.N[i]? = some x) (hv : Vis X.env.scope x) (hd : (x == ("__debug__" : Str)) = false) (hcd : (x == ("__classdict__" : Str)) = false) : DE X W (.Name x pos) (dVar i) :=
  de_of (pe_var hN hv hd hcd) fun σ H σD Z M K KX rs z q => by
    unfold dVar at q
    split at q
    · rename_i d e
      obtain ⟨v, h1, h2⟩ := rs.at_ i d e
      exact ⟨v, h1, liftN_id z h2 q⟩
    · exact q.elim
theorem de_int {i : Int} {j} : DE X W (.Constant (.int i) j pos) (dC (.int i)) := de_of pe_int fun _ _ _ _ _ _ _ _ z q => liftN_id z (.int i) q
theorem de_bl {b : Bool} {j} : DE X W (.Constant (.bool b) j pos) (dC (.bl b)) := de_of pe_bl fun _ _ _ _ _ _ _ _ z q => liftN_id z (.bl b) q
theorem de_non {j} : DE X W (.Constant .none j pos) (dC .non) := de_of pe_non fun _ _ _ _ _ _ _ _ z q => liftN_id z .non q
theorem de_str {x : Str} {j} : DE X W (.Constant (.str x) j pos) (dC (.str x)) := de_of pe_str fun _ _ _ _ _ _ _ _ z q => liftN_id z (.str x) q
theorem de_glob {x : Str} {d : D} {v : V} {u : Value} (hg : Gl X x) (hm : X.mg x = some u) (r : RelV v u) (rep : ∀ H, Rep H d v) (hd : (x == ("__debug__" : Str)) = false) : DE X W (.Name x pos) (dC d) :=
  de_of (pe_glob hg hm r hd) fun _ H _ _ _ _ _ _ z q => liftN_id z (rep H) q
end
/-! ### operators -/
/-- an operation on two values, by values -/
def DOp (X : Cx) (f : Value → Value → Sem Value) (r : D → D → Mem → DK → Prop) : Prop :=
  ∀ (pins : List (Addr × Obj)) (s : Shared) (σ : L2.St) (H Z : Hp) (M : Mem) (x y : D) (xv yv : V) (v u : Value) (K : DK), Inv X pins σ H s → AbsZ X.prog X.w X.K Z M H → Rep H x xv → Rep H y yv → RelV xv v → RelV yv u → r x y M K →
    wpAny (model X.prog X.w) X.A (f v u) (EP X pins σ (lift X.prog X.w X.K H Z K)) X.xe s
def dOp (r : D → D → Mem → DK → Prop) (ta tb : TED) : TED := fun σ M K KX => ta σ M (fun x M1 => tb σ M1 (fun y M2 => r x y M2 K) KX) KX
section
variable {X : Cx} {W : WD} {pos : Pos} {a b c : Expr} {ta tb tc : TED}
theorem DOp.of {f : Value → Value → Sem Value} {r : R2} {rd : D → D → Mem → DK → Prop} (h : OpR X f r)
    (hl : ∀ (H Z : Hp) (M : Mem) (x y : D) (xv yv : V) (K : DK), AbsZ X.prog X.w X.K Z M H → Rep H x xv → Rep H y yv → rd x y M K → r xv yv H (liftN X H Z K)) : DOp X f rd :=
  fun pins s σ H Z M x y xv yv v u K I z rx ry r1 r2 q => thn (h pins s σ H xv yv v u _ I r1 r2 (hl H Z M x y xv yv K z rx ry q)) fun _ _ e => EP.ofN e
theorem de_op {op : Operator} {r : D → D → Mem → DK → Prop} (ho : DOp X (binaryOp op) r) (ha : DE X W a ta) (hb : DE X W b tb) : DE X W (.BinOp a op b pos) (dOp r ta tb) := by
  refine ⟨fun pins s σ H σD Z M K KX I rs z wi h => ?_⟩
  refine wpAny_BinOp (run2 ha hb I rs z wi h fun v u s2 x y xv yv H2 M2 I2 k2 z2 p1 p2 r1 r2 q => ?_)
  exact thn (ho pins s2 σ H2 Z M2 x y xv yv v u K I2 z2 p1 p2 r1 r2 q) fun _ _ e => EP.back k2 e
theorem de_cmp {op : CmpOp} {r : D → D → Mem → DK → Prop} (ho : DOp X (compareOp op) r) (ha : DE X W a ta) (hb : DE X W b tb) (hm : behindInMarks op b = false) : DE X W (.Compare a [op] [b] pos) (dOp r ta tb) := by
  refine ⟨fun pins s σ H σD Z M K KX I rs z wi h => wpAny_Compare1 ?_ hm⟩
  refine run2 ha hb I rs z wi h fun v u s2 x y xv yv H2 M2 I2 k2 z2 p1 p2 r1 r2 q => ?_
  exact thn (ho pins s2 σ H2 Z M2 x y xv yv v u K I2 z2 p1 p2 r1 r2 q) fun _ _ e => EP.back k2 e
/-- a value that is a bool, as a test -/
def dTest (t : TED) : TTD := fun σ M K KX => t σ M (fun d M' => match d with
  | .bl b => K b M'
  | _ => False) KX
theorem test_bl {H Z : Hp} {K : Bool → Mem → Prop} {pins : List (Addr × Obj)} {σ : L2.St} {v : Value} {s' : Shared}
    (h : EP X pins σ (lift X.prog X.w X.K H Z fun d M' => match d with | .bl b => K b M' | _ => False) v s') : ∃ b, v = .bool b ∧ TP X pins σ (liftT X.prog X.w X.K H Z K) b s' := by
  obtain ⟨xv, H', I, r, d, M', rep, k, z, q⟩ := h
  cases d with
  | bl b => cases rep; cases r; exact ⟨b, rfl, H', I, M', k, z, q⟩
  | non => exact q.elim
  | int _ => exact q.elim
  | str _ => exact q.elim
  | tup _ => exact q.elim
  | ref _ => exact q.elim
  | ty _ => exact q.elim
theorem dt_cmp {op : CmpOp} {r : D → D → Mem → DK → Prop} (ho : DOp X (compareOp op) r) (ha : DE X W a ta) (hb : DE X W b tb) (hm : behindInMarks op b = false) : DT X W (.Compare a [op] [b] pos) (dTest (dOp r ta tb)) := by
  refine ⟨fun pins s σ H σD Z M K KX I rs z wi h => ?_⟩
  refine wpAny_isTrue_Compare1 ?_ hm
  refine run2 ha hb I rs z wi h fun v u s2 x y xv yv H2 M2 I2 k2 z2 p1 p2 r1 r2 q => ?_
  refine thn (ho pins s2 σ H2 Z M2 x y xv yv v u _ I2 z2 p1 p2 r1 r2 q) fun c s3 e => ?_
  obtain ⟨d, rfl, e'⟩ := test_bl (EP.back k2 e)
  exact wpAny_truthy_bool e'
theorem dt_val {e : Expr} {t : TED} (h : DE X W e t) (he : ∀ whole, isTrue e X.env whole = (do let v ← whole; standAt e.pos; holding [v] (truthy v))) : DT X W e (dTest t) := by
  refine ⟨fun pins s σ H σD Z M K KX I rs z wi hw => ?_⟩
  refine isTrue_plain (thn (h.run pins s σ H σD Z M _ KX I rs z wi hw) fun v s1 q => ?_) (he _)
  obtain ⟨d, rfl, e⟩ := test_bl q
  exact wpAny_truthy_bool e
/-- a op1 b op2 c -/
def dChain (r r' : D → D → Mem → DK → Prop) (ta tb tc : TED) : TED := fun σ M K KX => ta σ M (fun x M1 => tb σ M1 (fun y M2 => r x y M2 fun z M3 => match z with
  | .bl true => tc σ M3 (fun u M4 => r' y u M4 K) KX
  | .bl false => K (.bl false) M3
  | _ => False) KX) KX
/-! ### and, or, not -/
def dAndT (t u : TTD) : TTD := fun σ M K KX => t σ M (fun c M1 => match c with | true => u σ M1 K KX | false => K false M1) KX
def dOrT (t u : TTD) : TTD := fun σ M K KX => t σ M (fun c M1 => match c with | true => K true M1 | false => u σ M1 K KX) KX
def dNotT (t : TTD) : TTD := fun σ M K KX => t σ M (fun c M1 => K (!c) M1) KX
variable {tA tB : TTD} {rest : List Expr}
theorem dw_and1 (ha : DT X W a tA) : DW X W (.BoolOp .And [a] pos) tA := by
  refine ⟨fun wh pins s σ H σD Z M K KX I rs z wi h => ?_⟩
  refine isTrue_and (thn (ha.run pins s σ H σD Z M K KX I rs z wi h) fun c s1 e => ?_)
  cases c with
  | true => exact isTrue_and_nil e
  | false => exact e
theorem dw_or1 (ha : DT X W a tA) : DW X W (.BoolOp .Or [a] pos) tA := by
  refine ⟨fun wh pins s σ H σD Z M K KX I rs z wi h => ?_⟩
  refine isTrue_or (thn (ha.run pins s σ H σD Z M K KX I rs z wi h) fun c s1 e => ?_)
  cases c with
  | false => exact isTrue_or_nil e
  | true => exact e
theorem dw_and (ha : DT X W a tA) (hb : DW X W (.BoolOp .And (b :: rest) pos) tB) : DW X W (.BoolOp .And (a :: b :: rest) pos) (dAndT tA tB) := by
  refine ⟨fun wh pins s σ H σD Z M K KX I rs z wi h => ?_⟩
  refine isTrue_and (thn (ha.run pins s σ H σD Z M _ KX I rs z wi h) fun c s1 ⟨H1, I1, M1, k1, z1, q1⟩ => ?_)
  cases c with
  | true => exact thn (hb.run wh pins s1 σ H1 σD Z M1 K KX I1 (rs.keep k1) z1 (wi.keep k1) q1) fun _ _ e => TP.back k1 e
  | false => exact ⟨H1, I1, M1, k1, z1, q1⟩
theorem dw_or (ha : DT X W a tA) (hb : DW X W (.BoolOp .Or (b :: rest) pos) tB) : DW X W (.BoolOp .Or (a :: b :: rest) pos) (dOrT tA tB) := by
  refine ⟨fun wh pins s σ H σD Z M K KX I rs z wi h => ?_⟩
  refine isTrue_or (thn (ha.run pins s σ H σD Z M _ KX I rs z wi h) fun c s1 ⟨H1, I1, M1, k1, z1, q1⟩ => ?_)
  cases c with
  | true => exact ⟨H1, I1, M1, k1, z1, q1⟩
  | false => exact thn (hb.run wh pins s1 σ H1 σD Z M1 K KX I1 (rs.keep k1) z1 (wi.keep k1) q1) fun _ _ e => TP.back k1 e
theorem dt_not (ha : DT X W a tA) : DT X W (.UnaryOp .Not a pos) (dNotT tA) := by
  refine ⟨fun pins s σ H σD Z M K KX I rs z wi h => ?_⟩
  refine isTrue_not (thn (ha.run pins s σ H σD Z M _ KX I rs z wi h) fun c s1 e => e)
/-- as values -/
def dAnd (ta tb : TED) : TED := fun σ M K KX => ta σ M (fun x M1 => match x with
  | .bl true => tb σ M1 K KX
  | .bl false => K (.bl false) M1
  | _ => False) KX
def dOr (ta tb : TED) : TED := fun σ M K KX => ta σ M (fun x M1 => match x with
  | .bl true => K (.bl true) M1
  | .bl false => tb σ M1 K KX
  | _ => False) KX
def dNot (ta : TED) : TED := fun σ M K KX => ta σ M (fun x M1 => match x with
  | .bl b => K (.bl (!b)) M1
  | _ => False) KX
theorem de_one {op} {t : TED} (h : DE X W a t) : DE X W (.BoolOp op [a] pos) t := ⟨fun pins s σ H σD Z M K KX I rs z wi hw => BoolOp_one (h.run pins s σ H σD Z M K KX I rs z wi hw)⟩
theorem de_and (ha : DE X W a ta) (hb : DE X W (.BoolOp .And (b :: rest) pos) tb) : DE X W (.BoolOp .And (a :: b :: rest) pos) (dAnd ta tb) := by
  refine ⟨fun pins s σ H σD Z M K KX I rs z wi h => ?_⟩
  refine BoolOp_and (thn (ha.run pins s σ H σD Z M _ KX I rs z wi h) fun v s1 ⟨x, H1, I1, r1, d, M1, p1, k1, z1, q1⟩ => ?_)
  dsimp only at q1
  split at q1
  · cases p1; cases r1
    refine wpAny_truthy_bool ?_
    exact thn (hb.run pins s1 σ H1 σD Z M1 K KX I1 (rs.keep k1) z1 (wi.keep k1) q1) fun _ _ e => EP.back k1 e
  · cases p1; cases r1
    exact wpAny_truthy_bool ⟨V.bl false, H1, I1, rfl, _, M1, .bl false, k1, z1, q1⟩
  · exact q1.elim
theorem de_or (ha : DE X W a ta) (hb : DE X W (.BoolOp .Or (b :: rest) pos) tb) : DE X W (.BoolOp .Or (a :: b :: rest) pos) (dOr ta tb) := by
  refine ⟨fun pins s σ H σD Z M K KX I rs z wi h => ?_⟩
  refine BoolOp_or (thn (ha.run pins s σ H σD Z M _ KX I rs z wi h) fun v s1 ⟨x, H1, I1, r1, d, M1, p1, k1, z1, q1⟩ => ?_)
  dsimp only at q1
  split at q1
  · cases p1; cases r1
    exact wpAny_truthy_bool ⟨V.bl true, H1, I1, rfl, _, M1, .bl true, k1, z1, q1⟩
  · cases p1; cases r1
    refine wpAny_truthy_bool ?_
    exact thn (hb.run pins s1 σ H1 σD Z M1 K KX I1 (rs.keep k1) z1 (wi.keep k1) q1) fun _ _ e => EP.back k1 e
  · exact q1.elim
theorem de_not (ha : DE X W a ta) : DE X W (.UnaryOp .Not a pos) (dNot ta) := by
  refine ⟨fun pins s σ H σD Z M K KX I rs z wi h => ?_⟩
  refine UnaryOp_ (thn (ha.run pins s σ H σD Z M _ KX I rs z wi h) fun v s1 ⟨x, H1, I1, r1, d, M1, p1, k1, z1, q1⟩ => ?_)
  dsimp only at q1
  split at q1
  · rename_i b
    cases p1; cases r1
    exact not_of (wpAny_truthy_bool ⟨V.bl (!b), H1, I1, rfl, _, M1, .bl (!b), k1, z1, q1⟩)
  · exact q1.elim
/-! ### argument lists, tuples, lists -/
def aNil : TAD := fun _ M K _ => K [] M
def aCons (te : TED) (ta : TAD) : TAD := fun σ M K KX => te σ M (fun x M1 => ta σ M1 (fun xs M2 => K (x :: xs) M2) KX) KX
variable {e : Expr} {es : List Expr} {te : TED} {tas : TAD}
theorem da_nil : DA X W [] aNil := ⟨fun _ _ _ _ H _ Z M _ _ I _ z _ h => Calls.spliced_nil ⟨[], H, I, .nil, [], M, .nil, Keep.refl, z, h⟩⟩
theorem da_cons (he : DE X W e te) (hr : DA X W es tas) (hs : starEach (e :: es) X.env = (false, eval e X.env) :: starEach es X.env) : DA X W (e :: es) (aCons te tas) := by
  refine ⟨fun pos pins s σ H σD Z M K KX I rs z wi h => ?_⟩
  rw [hs]
  show wpAny _ _ (spliced ((false, eval e X.env) :: backTo pos (starEach es X.env))) _ _ _
  refine Calls.spliced_cons (thn (he.run pins s σ H σD Z M _ KX I rs z wi h) fun v s1 ⟨xv, H1, I1, r1, x, M1, p1, k1, z1, q1⟩ => ?_)
  refine thn (hr.run pos pins s1 σ H1 σD Z M1 _ KX I1 (rs.keep k1) z1 (wi.keep k1) q1) fun us s2 ⟨vs, H2, I2, r2, xs, M2, p2, k2, z2, q2⟩ => ?_
  exact ⟨xv :: vs, H2, I2, .cons r1 r2, x :: xs, M2, .cons (p1.keep k2) p2, k1.trans k2, z2, q2⟩
/-- from a list of arguments to the hand layer's -/
theorem DA.pa (ha : DA X W es tas) {pins : List (Addr × Obj)} {s : Shared} {σ : L2.St} {H : Hp} {σD : DSt} {Z : Hp} {M : Mem} {KX : DX} {Kl : List D → Mem → Prop} (pos : Pos) (I : Inv X pins σ H s) (rs : RS H σD σ) (z : AbsZ X.prog X.w X.K Z M H) (wi : Wish X.prog X.w X.K W σ H Z KX)
    (h : tas σD M Kl KX) {Q : List Value → Shared → Prop} (hq : ∀ us s1 vs H1 ds M1, Inv X pins σ H1 s1 → Vals vs us → Reps H1 ds vs → Keep H H1 → AbsZ X.prog X.w X.K Z M1 H1 → Kl ds M1 → Q us s1) :
    wpAny (model X.prog X.w) X.A (spliced (backTo pos (starEach es X.env))) Q X.xe s :=
  thn (ha.run pos pins s σ H σD Z M Kl KX I rs z wi h) fun us s1 ⟨vs, H1, I1, r1, ds, M1, p1, k1, z1, q1⟩ => hq us s1 vs H1 ds M1 I1 r1 p1 k1 z1 q1
def dTup (ta : TAD) : TED := fun σ M K KX => ta σ M (fun ds M1 => ds.length ≤ 16 ∧ K (.tup ds) M1) KX
def dLst (ta : TAD) : TED := fun σ M K KX => ta σ M (fun ds M1 => ds.length ≤ 64 ∧ ∀ p, M1 p = none → K (.ref p) (up M1 p (.lst ds))) KX
theorem de_tup {k} (ha : DA X W es tas) : DE X W (.Tuple es k pos) (dTup tas) := by
  refine ⟨fun pins s σ H σD Z M K KX I rs z wi h => ?_⟩
  refine Tuple_ (ha.pa _ I rs z wi h fun us s1 vs H1 ds M1 I1 r1 p1 k1 z1 q1 => ?_)
  obtain ⟨hl, q1⟩ := q1
  have hz : us.length ≤ sizeLine := by rw [← r1.length, ← p1.length, sizeLine_eq]; omega
  have hn : H1 s1.heap.objs.size = none := I1.hok.fresh (Nat.le_refl _)
  refine wpAny_newObj_type ?_ hz
  refine ⟨.ref s1.heap.objs.size, upd H1 s1.heap.objs.size (.tup vs), I1.laid (t' := s1.toks) (fun _ _ q => Heap.get?_push_of_some _ q) (Nat.le_refl _) ⟨by rw [r1.length]; exact hz, us, r1, _, Heap.get?_push_size _ rfl, rfl, _, rfl⟩, rfl,
    .tup ds, M1, .tup upd_same (p1.keep (new_keep hn)), k1.trans (new_keep hn), z1.tup hn, q1⟩
theorem de_lst (ha : DA X W es tas) : DE X W (.List es pos) (dLst tas) := by
  refine ⟨fun pins s σ H σD Z M K KX I rs z wi h => ?_⟩
  refine List_ (ha.pa _ I rs z wi h fun us s1 vs H1 ds M1 I1 r1 p1 k1 z1 q1 => ?_)
  obtain ⟨hl, q1⟩ := q1
  have hz : us.length ≤ sizeLine := by rw [← r1.length, ← p1.length, sizeLine_eq]; omega
  have hn : H1 s1.heap.objs.size = none := I1.hok.fresh (Nat.le_refl _)
  refine wpAny_newObj_type ?_ hz
  refine ⟨.ref s1.heap.objs.size, upd H1 s1.heap.objs.size (.lst vs), I1.laid (t' := s1.toks) (fun _ _ q => Heap.get?_push_of_some _ q) (Nat.le_refl _) ⟨by rw [r1.length]; exact hz, us, 0, r1, Heap.get?_push_size _ rfl⟩, rfl,
    D.ref _, _, .ref _, k1.trans (new_keep hn), z1.add (o := .lst ds) (u := .lst vs) hn ⟨vs, upd_same, p1.keep (new_keep hn)⟩, q1 _ (z1.nope hn (nk_new I1 (Nat.le_refl _)))⟩
end
end DL
/-! # The D-layer's operators, subscripts, calls of what is built in -/
namespace DL
open PySem PySem.Spec PyProof.Rows L2
/-! ### what is read off the memory -/
def lsOf (M : Mem) : D → Option (List D)
  | .ref a => match M a with
    | some (.lst ds) => some ds
    | some (.ro ds) => some ds
    | _ => none
  | _ => none
def sqOf (M : Mem) : D → Option (List D)
  | .tup ds => some ds
  | .ref a => lsOf M (.ref a)
  | _ => none
/-- a list that may change -/
def ltOf (M : Mem) : D → Option (Addr × List D)
  | .ref a => match M a with
    | some (.lst ds) => some (a, ds)
    | _ => none
  | _ => none
def onS {α : Type} (o : Option α) (f : α → Prop) : Prop := match o with
  | some x => f x
  | none => False
theorem onS_some {α : Type} {x : α} {f : α → Prop} : onS (some x) f = f x := rfl
theorem onS_out {α : Type} {o : Option α} {f : α → Prop} (h : onS o f) : ∃ x, o = some x ∧ f x := by
  cases o with
  | none => exact h.elim
  | some x => exact ⟨x, rfl, h⟩
abbrev big : Nat := 16777216
theorem big_line : big = sizeLine := by rw [sizeLine_eq]
section
variable {P : Program} {w : World} {K : PySem.W.Frag} {Z : Hp} {M : Mem} {H : Hp} {x : D} {xv : V} {ds : List D}
theorem lsOf_out (h : lsOf M x = some ds) : ∃ a, x = .ref a ∧ (M a = some (.lst ds) ∨ M a = some (.ro ds)) := by
  unfold lsOf at h
  split at h
  · rename_i a
    split at h
    · rename_i q; cases h; exact ⟨a, rfl, .inl q⟩
    · rename_i q; cases h; exact ⟨a, rfl, .inr q⟩
    · cases h
  · cases h
theorem ltOf_out {a : Addr} (h : ltOf M x = some (a, ds)) : x = .ref a ∧ M a = some (.lst ds) := by
  unfold ltOf at h
  split at h
  · split at h
    · rename_i q; cases h; exact ⟨rfl, q⟩
    · cases h
  · cases h
theorem lsOf_sql (z : AbsZ P w K Z M H) (r : Rep H x xv) (h : lsOf M x = some ds) : ∃ a vs, x = .ref a ∧ xv = .ref a ∧ SqL K H a vs ∧ Reps H ds vs := by
  obtain ⟨a, rfl, q⟩ := lsOf_out h
  cases r
  rcases q with q | q
  · obtain ⟨vs, h1, h2⟩ := z.mem a _ q
    exact ⟨a, vs, rfl, rfl, SqL.of h1, h2⟩
  · obtain ⟨vs, h1, h2⟩ := z.mem a _ q
    exact ⟨a, vs, rfl, rfl, by rcases h1 with ⟨o, h1⟩ | h1; exact .inl (.inr ⟨o, h1⟩); exact .inr h1, h2⟩
theorem sqOf_seq (z : AbsZ P w K Z M H) (r : Rep H x xv) (h : sqOf M x = some ds) : ∃ a vs, xv = .ref a ∧ (SqL K H a vs ∨ SqT K H a vs) ∧ Reps H ds vs := by
  cases x with
  | tup es =>
    cases h
    cases r with
    | tup h1 h2 => exact ⟨_, _, rfl, .inr (SqT.of h1), h2⟩
  | ref a =>
    obtain ⟨b, vs, _, h1, h2, h3⟩ := lsOf_sql (xv := xv) z r (show lsOf M (.ref a) = some ds from h)
    exact ⟨b, vs, h1, .inl h2, h3⟩
  | non => cases h
  | bl _ => cases h
  | int _ => cases h
  | str _ => cases h
  | ty _ => cases h
theorem Rep.int_inv {i : Int} (r : Rep H (.int i) xv) : xv = .int i := by cases r; rfl
theorem Rep.bl_inv {i : Bool} (r : Rep H (.bl i) xv) : xv = .bl i := by cases r; rfl
theorem Rep.str_inv {i : Str} (r : Rep H (.str i) xv) : xv = .str i := by cases r; rfl
theorem Rep.ref_inv {i : Addr} (r : Rep H (.ref i) xv) : xv = .ref i := by cases r; rfl
theorem Rep.non_inv (r : Rep H .non xv) : xv = .non := by cases r; rfl
theorem Rep.tup_inv {ds : List D} (r : Rep H (.tup ds) xv) : ∃ a vs, xv = .ref a ∧ H a = some (.tup vs) ∧ Reps H ds vs := by
  cases r with
  | tup h1 h2 => exact ⟨_, _, rfl, h1, h2⟩
end
/-! ### ints -/
/-- two ints -/
def rII (C : Int → Int → Prop) (f : Int → Int → D) : D → D → Mem → DK → Prop := fun x y M K => match x, y with
  | .int i, .int j => C i j ∧ K (f i j) M
  | _, _ => False
def rI0 (f : Int → Int → D) : D → D → Mem → DK → Prop := fun x y M K => match x, y with
  | .int i, .int j => K (f i j) M
  | _, _ => False
theorem rII_out {C : Int → Int → Prop} {f : Int → Int → D} {x y : D} {M : Mem} {K : DK} (h : rII C f x y M K) : ∃ i j, x = .int i ∧ y = .int j ∧ C i j ∧ K (f i j) M := by
  unfold rII at h
  split at h
  · exact ⟨_, _, rfl, rfl, h⟩
  · exact h.elim
theorem rI0_out {f : Int → Int → D} {x y : D} {M : Mem} {K : DK} (h : rI0 f x y M K) : ∃ i j, x = .int i ∧ y = .int j ∧ K (f i j) M := by
  unfold rI0 at h
  split at h
  · exact ⟨_, _, rfl, rfl, h⟩
  · exact h.elim
section
variable {X : Cx}
theorem dop_II {f : Value → Value → Sem Value} {C C' : Int → Int → Prop} {g : Int → Int → V} {gd : Int → Int → D} (h : OpR X f (rI C' g)) (hc : ∀ i j, C i j → C' i j) (hg : ∀ H i j, C i j → Rep H (gd i j) (g i j)) : DOp X f (rII C gd) :=
  DOp.of h fun H Z M x y xv yv K z rx ry q => by
    obtain ⟨i, j, rfl, rfl, c, q⟩ := rII_out q
    exact ⟨i, j, rx.int_inv, ry.int_inv, hc i j c, liftN_id z (hg H i j c) q⟩
theorem dop_I0 {f : Value → Value → Sem Value} {g : Int → Int → V} {gd : Int → Int → D} (h : OpR X f (L2.rI0 g)) (hg : ∀ H i j, Rep H (gd i j) (g i j)) : DOp X f (rI0 gd) :=
  DOp.of h fun H Z M x y xv yv K z rx ry q => by
    obtain ⟨i, j, rfl, rfl, q⟩ := rI0_out q
    exact ⟨i, j, rx.int_inv, ry.int_inv, liftN_id z (hg H i j) q⟩
theorem DOp.or {f : Value → Value → Sem Value} {r r' : D → D → Mem → DK → Prop} (h : DOp X f r) (h' : DOp X f r') : DOp X f (fun x y M K => r x y M K ∨ r' x y M K) :=
  fun pins s σ H Z M x y xv yv v u K I z rx ry r1 r2 q => q.elim (fun q => h pins s σ H Z M x y xv yv v u K I z rx ry r1 r2 q) (fun q => h' pins s σ H Z M x y xv yv v u K I z rx ry r1 r2 q)
theorem DOp.imp {f : Value → Value → Sem Value} {r r' : D → D → Mem → DK → Prop} (h : DOp X f r) (hi : ∀ x y M K, r' x y M K → r x y M K) : DOp X f r' :=
  fun pins s σ H Z M x y xv yv v u K I z rx ry r1 r2 q => h pins s σ H Z M x y xv yv v u K I z rx ry r1 r2 (hi _ _ _ _ q)
/-! ### + : ints, lists -/
def catD (x y : D) (M : Mem) (K : DK) : Prop := onS (lsOf M x) fun xs => onS (lsOf M y) fun ys => xs.length + ys.length ≤ big ∧ ∀ p, M p = none → K (.ref p) (up M p (.lst (xs ++ ys)))
def addD : D → D → Mem → DK → Prop := fun x y M K => match x, y with
  | .int i, .int j => K (.int (i + j)) M
  | .ref a, .ref b => catD (.ref a) (.ref b) M K
  | _, _ => False
theorem new_list {pins : List (Addr × Obj)} {s : Shared} {σ : L2.St} {H Z : Hp} {M : Mem} {K : DK} {ds : List D} {vs : List V} {its : List Value} {tk : Nat} (I : Inv X pins σ H s) (z : AbsZ X.prog X.w X.K Z M H) (rp : Reps H ds vs) (rv : Vals vs its) (hz : vs.length ≤ sizeLine)
    (q : ∀ p, M p = none → K (.ref p) (up M p (.lst ds))) : EP X pins σ (lift X.prog X.w X.K H Z K) (.ref s.heap.objs.size) { s with heap := s.heap.push { cls := .type "list", data := .seq its.toArray }, toks := tk } := by
  have hn : H s.heap.objs.size = none := I.hok.fresh (Nat.le_refl _)
  exact ⟨.ref s.heap.objs.size, upd H s.heap.objs.size (.lst vs), I.lnew (t' := tk) rv hz, rfl, D.ref _, _, .ref _, new_keep hn, z.add (o := .lst ds) (u := .lst vs) hn ⟨vs, upd_same, rp.keep (new_keep hn)⟩, q _ (z.nope hn (nk_new I (Nat.le_refl _)))⟩
/-- a new list laid anywhere -/
theorem laid_list {pins : List (Addr × Obj)} {s : Shared} {σ : L2.St} {H Z : Hp} {M : Mem} {K : DK} {ds : List D} {vs : List V} {h' : Heap} {tk : Nat} {p : Addr} (I : Inv X pins σ H s) (z : AbsZ X.prog X.w X.K Z M H) (rp : Reps H ds vs) (hp : s.heap.objs.size ≤ p) (k : ∀ b u, s.heap.get? b = some u → h'.get? b = some u)
    (ob : ObjOk X.prog X.w (upd H p (.lst vs)) h' p (.lst vs)) (q : ∀ p, M p = none → K (.ref p) (up M p (.lst ds))) : EP X pins σ (lift X.prog X.w X.K H Z K) (.ref p) { s with heap := h', toks := tk } := by
  have hn : H p = none := I.hok.fresh hp
  exact ⟨.ref p, upd H p (.lst vs), I.laid (t' := tk) k hp ob, rfl, D.ref _, _, .ref _, new_keep hn, z.add (o := .lst ds) (u := .lst vs) hn ⟨vs, upd_same, rp.keep (new_keep hn)⟩, q _ (z.nope hn (nk_new I hp))⟩
theorem dop_cat : DOp X (binaryOp .Add) catD := by
  intro pins s σ H Z M x y xv yv v u K I z rx ry r1 r2 q0
  obtain ⟨xs, h1, q1⟩ := onS_out q0
  obtain ⟨ys, h2, hz, q⟩ := onS_out q1
  clear q0 q1
  obtain ⟨a, vs, rfl, rfl, sa, pa⟩ := lsOf_sql z rx h1
  obtain ⟨b, us, rfl, rfl, sb, pb⟩ := lsOf_sql z ry h2
  cases r1
  cases r2
  obtain ⟨its, ra, ⟨⟨cls, dd, data, sl⟩, n, ho, hc, hd, hdt⟩, _⟩ := I.list sa
  obtain ⟨its2, rb, ⟨⟨cls2, dd2, data2, sl2⟩, n2, ho2, hc2, hd2, hdt2⟩, _⟩ := I.list sb
  simp only at hc hd hdt hc2 hd2 hdt2
  subst hc hd hdt hc2 hd2 hdt2
  have l1 := pa.length
  have l2 := pb.length
  have l3 := ra.length
  have l4 := rb.length
  have hbig := big_line
  have hsz : vs.length + us.length ≤ sizeLine := by omega
  have e : its.toArray ++ its2.toArray = (its ++ its2).toArray := by simp
  refine concat_meets ⟨_, ho, rfl⟩ ⟨_, ho2, rfl⟩ noFill_list_add seq_list_add PySem.F.slot_list_add PySem.F.entry_list_add (PySem.F.args_list_add_2 _ _) (list_addW a b its.toArray its2.toArray n n2 none none sl sl2 (by simp only [List.size_toArray]; omega)) ⟨ho, ho2, ?_⟩
  rw [e]
  exact new_list I z (pa.append pb) (ra.append rb) (by rw [List.length_append]; exact hsz) q
theorem dop_add : DOp X (binaryOp .Add) addD := by
  refine ((dop_I0 op_add (gd := fun i j => .int (i + j)) fun _ _ _ => .int _).or dop_cat).imp fun x y M K h => ?_
  unfold addD at h
  split at h
  · exact .inl h
  · exact .inr h
  · exact h.elim
theorem dop_sub : DOp X (binaryOp .Sub) (rI0 fun i j => .int (i - j)) := dop_I0 op_sub fun _ _ _ => .int _
/-- a factor below 2^64, or both together below a million bits -/
def mulOk (i j : Int) : Prop := CMul i j ∨ CMulW i j
def repD (x y : D) (M : Mem) (K : DK) : Prop := match y with
  | .int k => onS (ltOf M x) fun p => -(2 ^ 62) ≤ k ∧ k < 2 ^ 62 ∧ p.2.length * k.toNat ≤ big ∧ ∀ q, M q = none → K (.ref q) (up M q (.lst (List.replicate k.toNat p.2).flatten))
  | _ => False
def mulD : D → D → Mem → DK → Prop := fun x y M K => match x, y with
  | .int i, .int j => mulOk i j ∧ K (.int (i * j)) M
  | .ref a, .int j => repD (.ref a) (.int j) M K
  | _, _ => False
theorem dop_rep : DOp X (binaryOp .Mult) repD := DOp.of op_rep fun H Z M x y xv yv K z rx ry q0 => by
  unfold repD at q0
  split at q0
  · rename_i k
    obtain ⟨⟨a, xs⟩, h1, h2, h3, h4, q⟩ := onS_out q0
    clear q0
    obtain ⟨rfl, hm⟩ := ltOf_out h1
    obtain ⟨vs, hH, rp⟩ := z.mem a _ hm
    have hb := big_line
    refine ⟨a, k, vs, rx.ref_inv, ry.int_inv, hH, by omega, by omega, by rw [← rp.length]; exact hb ▸ h4, fun p hp nk => ?_⟩
    exact ⟨.ref p, _, .ref p, new_keep hp, z.add (o := .lst (List.replicate k.toNat xs).flatten) hp ⟨_, upd_same, (rp.rep k.toNat).keep (new_keep hp)⟩, q p (z.nope hp (nk p _ upd_same))⟩
  · exact q0.elim
theorem dop_mul : DOp X (binaryOp .Mult) mulD := by
  refine (((dop_II op_mul (C := CMul) (gd := fun i j => .int (i * j)) (fun _ _ h => h) fun _ _ _ _ => .int _).or (dop_II op_mulW (C := CMulW) (gd := fun i j => .int (i * j)) (fun _ _ h => h) fun _ _ _ _ => .int _)).or dop_rep).imp fun x y M K h => ?_
  unfold mulD at h
  split at h
  · rcases h.1 with c | c
    · exact .inl (.inl ⟨c, h.2⟩)
    · exact .inl (.inr ⟨c, h.2⟩)
  · exact .inr h
  · exact h.elim
/-- a divisor that is not 0 and below 2 ^ 9000 -/
def divOk (_ j : Int) : Prop := j ≠ 0 ∧ j.natAbs.log2 < 9000
theorem op_fdivA : OpR X (binaryOp .FloorDiv) (rI divOk fun i j => .int (i.fdiv j)) := opI fun _ _ _ _ _ _ _ hc q => floordiv_int hc.1 q (.inl (PyProof.noPylong_of_log2 hc.2))
theorem dop_div : DOp X (binaryOp .FloorDiv) (rII divOk fun i j => .int (i.fdiv j)) := dop_II op_fdivA (fun _ _ h => h) fun _ _ _ _ => .int _
theorem dop_mod : DOp X (binaryOp .Mod) (rII (fun _ j => j ≠ 0) fun i j => .int (i.fmod j)) := dop_II op_modN (fun _ _ h => h) fun _ _ _ _ => .int _
def powOk (i j : Int) : Prop := 0 ≤ j ∧ j ≤ 1000000 ∧ i.natAbs < 2 ^ 64
theorem dop_pow : DOp X (binaryOp .Pow) (rII powOk fun i j => .int (i ^ j.toNat)) := dop_II op_pow (fun _ _ h => h) fun _ _ _ _ => .int _
theorem dop_shl : DOp X (binaryOp .LShift) (rII powOk fun i j => .int (i * 2 ^ j.toNat)) := dop_II op_shl (fun _ _ h => h) fun _ _ _ _ => .int _
theorem dop_shr : DOp X (binaryOp .RShift) (rII (fun _ j => 0 ≤ j) fun i j => .int (i / 2 ^ j.toNat)) := dop_II op_shr (fun _ _ h => h) fun _ _ _ _ => .int _
theorem dop_and : DOp X (binaryOp .BitAnd) (rI0 fun i j => .int (Builtin.bitAnd i j)) := dop_I0 op_and fun _ _ _ => .int _
theorem dop_or : DOp X (binaryOp .BitOr) (rI0 fun i j => .int (Builtin.bitOr i j)) := dop_I0 op_or fun _ _ _ => .int _
theorem dop_xor : DOp X (binaryOp .BitXor) (rI0 fun i j => .int (Builtin.bitXor i j)) := dop_I0 op_xor fun _ _ _ => .int _
theorem dip_add : DOp X (inplaceOp .Add) (rI0 fun i j => .int (i + j)) := dop_I0 iop_add fun _ _ _ => .int _
end
end DL
/-! # The D-layer's dicts -/
namespace DL
open PySem PySem.Spec PyProof.Rows L2
/-! ### equality of values -/
mutual
def D.beq : D → D → Bool
  | .non, .non => true
  | .bl a, .bl b => a == b
  | .int a, .int b => decide (a = b)
  | .str a, .str b => decide (a = b)
  | .tup a, .tup b => D.beqs a b
  | .ref a, .ref b => decide (a = b)
  | .ty a, .ty b => decide (a = b)
  | _, _ => false
def D.beqs : List D → List D → Bool
  | [], [] => true
  | a :: as, b :: bs => D.beq a b && D.beqs as bs
  | _, _ => false
end
mutual
theorem D.beq_self : ∀ a : D, D.beq a a = true
  | .non => rfl
  | .bl a => by simp [D.beq]
  | .int a => by simp [D.beq]
  | .str a => by simp [D.beq]
  | .tup a => by rw [D.beq]; exact D.beqs_self a
  | .ref a => by simp [D.beq]
  | .ty a => by simp [D.beq]
theorem D.beqs_self : ∀ a : List D, D.beqs a a = true
  | [] => rfl
  | a :: as => by rw [D.beqs, D.beq_self a, D.beqs_self as]; rfl
end
mutual
theorem D.eq_of_beq : ∀ a b : D, D.beq a b = true → a = b
  | .non, b, h => by cases b <;> simp_all [D.beq]
  | .bl a, b, h => by cases b <;> simp_all [D.beq]
  | .int a, b, h => by cases b <;> simp_all [D.beq]
  | .str a, b, h => by cases b <;> simp_all [D.beq]
  | .tup a, .tup b, h => by rw [D.beq] at h; rw [D.eq_of_beqs a b h]
  | .tup a, .non, h => by simp [D.beq] at h
  | .tup a, .bl _, h => by simp [D.beq] at h
  | .tup a, .int _, h => by simp [D.beq] at h
  | .tup a, .str _, h => by simp [D.beq] at h
  | .tup a, .ref _, h => by simp [D.beq] at h
  | .tup a, .ty _, h => by simp [D.beq] at h
  | .ref a, b, h => by cases b <;> simp_all [D.beq]
  | .ty a, b, h => by cases b <;> simp_all [D.beq]
theorem D.eq_of_beqs : ∀ a b : List D, D.beqs a b = true → a = b
  | [], [], _ => rfl
  | a :: as, b :: bs, h => by
    rw [D.beqs, Bool.and_eq_true] at h
    rw [D.eq_of_beq a b h.1, D.eq_of_beqs as bs h.2]
  | [], _ :: _, h => by simp [D.beqs] at h
  | _ :: _, [], h => by simp [D.beqs] at h
end
instance : DecidableEq D := fun a b => if h : D.beq a b = true then .isTrue (D.eq_of_beq a b h) else .isFalse fun e => h (e ▸ D.beq_self a)
/-! ### lists of pairs as dicts -/
section
variable {α β : Type} [DecidableEq α]
def lget (kvs : List (α × β)) (k : α) : Option β := (kvs.find? fun p => decide (p.1 = k)).map (·.2)
def lput (kvs : List (α × β)) (k : α) (v : β) : List (α × β) := if (lget kvs k).isSome = true then kvs.map (fun p => if p.1 = k then (p.1, v) else p) else kvs ++ [(k, v)]
def ldrop (kvs : List (α × β)) (k : α) : List (α × β) := kvs.filter fun p => decide (p.1 ≠ k)
theorem lget_nil {k : α} : lget ([] : List (α × β)) k = none := rfl
theorem lget_cons {p : α × β} {r : List (α × β)} {k : α} : lget (p :: r) k = if p.1 = k then some p.2 else lget r k := by
  by_cases h : p.1 = k <;> simp [lget, List.find?_cons, h]
theorem lget_map_val (k j : α) (y : β) : ∀ kvs : List (α × β), lget (kvs.map fun p => if p.1 = k then (p.1, y) else p) j = (lget kvs j).map fun x => if j = k then y else x
  | [] => rfl
  | p :: r => by
    rw [List.map_cons, lget_cons, lget_cons, lget_map_val k j y r]
    by_cases h1 : p.1 = k
    · rw [if_pos h1]
      by_cases h2 : p.1 = j
      · have : j = k := h2.symm.trans h1
        simp [h2, this]
      · simp [h2]
    · rw [if_neg h1]
      by_cases h2 : p.1 = j
      · have : ¬ j = k := fun e => h1 (h2.trans e)
        simp [h2, this]
      · simp [h2]
theorem lget_snoc (k j : α) (y : β) : ∀ kvs : List (α × β), lget kvs k = none → lget (kvs ++ [(k, y)]) j = if k = j then some y else lget kvs j
  | [], _ => by rw [List.nil_append, lget_cons]
  | p :: r, h => by
    rw [lget_cons] at h
    by_cases h1 : p.1 = k
    · rw [if_pos h1] at h; cases h
    · rw [if_neg h1] at h
      rw [List.cons_append, lget_cons, lget_cons, lget_snoc k j y r h]
      by_cases h2 : p.1 = j
      · have : ¬ k = j := fun e => h1 (h2.trans e.symm)
        simp [h2, this]
      · simp [h2]
theorem lget_lput (kvs : List (α × β)) (k j : α) (y : β) : lget (lput kvs k y) j = if k = j then some y else lget kvs j := by
  unfold lput
  by_cases h : (lget kvs k).isSome = true
  · rw [if_pos h, lget_map_val]
    by_cases h2 : k = j
    · subst h2
      obtain ⟨v, e⟩ := Option.isSome_iff_exists.mp h
      simp [e]
    · have h3 : ¬ j = k := fun e => h2 e.symm
      simp only [h2, h3, if_false]
      cases lget kvs j <;> rfl
  · rw [if_neg h]
    exact lget_snoc k j y kvs (by simpa using h)
theorem lput_new {kvs : List (α × β)} {k : α} (v : β) (h : lget kvs k = none) : lput kvs k v = kvs ++ [(k, v)] := by
  unfold lput
  rw [h]; rfl
theorem lput_old {kvs : List (α × β)} {k : α} (v : β) {u : β} (h : lget kvs k = some u) : lput kvs k v = kvs.map (fun p => if p.1 = k then (p.1, v) else p) := by
  unfold lput
  rw [h]; rfl
theorem lput_length (kvs : List (α × β)) (k : α) (v : β) : (lput kvs k v).length ≤ kvs.length + 1 := by
  unfold lput
  split
  · rw [List.length_map]; omega
  · rw [List.length_append]; exact Nat.le_refl _
theorem lget_ldrop (k j : α) : ∀ kvs : List (α × β), lget (ldrop kvs k) j = if k = j then none else lget kvs j
  | [] => by simp [ldrop, lget]
  | p :: r => by
    have ih := lget_ldrop k j r
    unfold ldrop at ih ⊢
    rw [List.filter_cons, lget_cons]
    by_cases h1 : p.1 = k
    · simp only [h1, ne_eq, not_true_eq_false, decide_false, Bool.false_eq_true, if_false]
      rw [ih]
      by_cases h2 : k = j
      · simp [h2]
      · simp [h2]
    · simp only [h1, ne_eq, not_false_eq_true, decide_true, if_true]
      rw [lget_cons, ih]
      by_cases h2 : p.1 = j
      · have : ¬ k = j := fun e => h1 (h2.trans e.symm)
        simp [h2, this]
      · simp [h2]
theorem lget_mem {kvs : List (α × β)} {k : α} {v : β} (h : lget kvs k = some v) : (k, v) ∈ kvs := by
  unfold lget at h
  cases q : kvs.find? fun p => decide (p.1 = k) with
  | none => rw [q] at h; cases h
  | some p =>
    rw [q] at h
    have e : p.1 = k := by simpa using List.find?_some q
    have e2 : p.2 = v := Option.some.inj h
    have m := List.mem_of_find?_eq_some q
    rw [← e, ← e2]; exact m
theorem lget_none {kvs : List (α × β)} {k : α} : lget kvs k = none ↔ ∀ p ∈ kvs, p.1 ≠ k := by
  unfold lget
  rw [Option.map_eq_none_iff, List.find?_eq_none]
  constructor
  · intro h p hp e; exact h p hp (by simpa using e)
  · intro h p hp e; exact h p hp (by simpa using e)
variable {γ δ : Type} [DecidableEq γ]
/-- along an injection of keys -/
theorem lget_map {f : α → γ} {g : β → δ} (hf : ∀ a b, f a = f b → a = b) (k : α) : ∀ kvs : List (α × β), lget (kvs.map fun p => (f p.1, g p.2)) (f k) = (lget kvs k).map g
  | [] => rfl
  | p :: r => by
    rw [List.map_cons, lget_cons, lget_cons, lget_map hf k r]
    by_cases h : p.1 = k
    · simp [h]
    · have : ¬ f p.1 = f k := fun e => h (hf _ _ e)
      simp [h, this]
theorem lput_map {f : α → γ} {g : β → δ} (hf : ∀ a b, f a = f b → a = b) (kvs : List (α × β)) (k : α) (v : β) : lput (kvs.map fun p => (f p.1, g p.2)) (f k) (g v) = (lput kvs k v).map fun p => (f p.1, g p.2) := by
  unfold lput
  rw [lget_map hf, Option.isSome_map]
  split
  · rw [List.map_map, List.map_map]
    refine List.map_congr_left fun p _ => ?_
    by_cases h : p.1 = k
    · simp [h]
    · have : ¬ f p.1 = f k := fun e => h (hf _ _ e)
      simp [h, this]
  · rw [List.map_append]; rfl
theorem ldrop_map {f : α → γ} {g : β → δ} (hf : ∀ a b, f a = f b → a = b) (kvs : List (α × β)) (k : α) : ldrop (kvs.map fun p => (f p.1, g p.2)) (f k) = (ldrop kvs k).map fun p => (f p.1, g p.2) := by
  unfold ldrop
  rw [List.filter_map]
  congr 1
  refine List.filter_congr fun p _ => ?_
  by_cases h : p.1 = k
  · simp [h]
  · have : ¬ f p.1 = f k := fun e => h (hf _ _ e)
    simp [h, this]
end
/-! ### keys -/
mutual
theorem keyD_inj : ∀ a b : D, okD a = true → okD b = true → keyD a = keyD b → a = b
  | .non, b, _, hb, e => by cases b <;> simp_all [keyD, okD]
  | .int i, b, _, hb, e => by cases b <;> simp_all [keyD, okD]
  | .str i, b, _, hb, e => by cases b <;> simp_all [keyD, okD]
  | .tup ds, .tup es, ha, hb, e => by
    rw [okD] at ha hb
    rw [keyD, keyD] at e
    rw [keyDs_inj ds es ha hb (NestedKey.tup.inj e)]
  | .tup ds, .non, _, hb, e => by simp [keyD] at e
  | .tup ds, .int _, _, hb, e => by simp [keyD] at e
  | .tup ds, .str _, _, hb, e => by simp [keyD] at e
  | .tup ds, .bl _, _, hb, e => by simp [okD] at hb
  | .tup ds, .ref _, _, hb, e => by simp [okD] at hb
  | .tup ds, .ty _, _, hb, e => by simp [okD] at hb
  | .bl _, _, ha, _, _ => by simp [okD] at ha
  | .ref _, _, ha, _, _ => by simp [okD] at ha
  | .ty _, _, ha, _, _ => by simp [okD] at ha
theorem keyDs_inj : ∀ a b : List D, okDs a = true → okDs b = true → keyDs a = keyDs b → a = b
  | [], [], _, _, _ => rfl
  | [], _ :: _, _, _, e => by simp [keyDs] at e
  | _ :: _, [], _, _, e => by simp [keyDs] at e
  | a :: r, b :: t, ha, hb, e => by
    rw [okDs, Bool.and_eq_true] at ha hb
    rw [keyDs, keyDs, List.cons.injEq] at e
    rw [keyD_inj a b ha.1 hb.1 e.1, keyDs_inj r t ha.2 hb.2 e.2]
end
mutual
theorem depD_key : ∀ d : D, okD d = true → (keyD d).depth = depD d
  | .non, _ => by simp [keyD, depD, NestedKey.depth]
  | .int _, _ => by simp [keyD, depD, NestedKey.depth]
  | .str _, _ => by simp [keyD, depD, NestedKey.depth]
  | .tup ds, h => by rw [okD] at h; rw [keyD, depD, NestedKey.depth, depDs_key ds h]
  | .bl _, h => by simp [okD] at h
  | .ref _, h => by simp [okD] at h
  | .ty _, h => by simp [okD] at h
theorem depDs_key : ∀ d : List D, okDs d = true → NestedKey.depthAll (keyDs d) = depDs d
  | [], _ => by simp [keyDs, depDs, NestedKey.depthAll]
  | d :: r, h => by
    rw [okDs, Bool.and_eq_true] at h
    rw [keyDs, depDs, NestedKey.depthAll, depD_key d h.1, depDs_key r h.2]
end
theorem okK_out {d : D} (h : okK d = true) : ∃ ds, d = .tup ds ∧ okD d = true ∧ (keyD d).depth ≤ 8 := by
  unfold okK at h
  rw [Bool.and_eq_true, Bool.and_eq_true] at h
  obtain ⟨⟨h1, h2⟩, h3⟩ := h
  cases d with
  | tup ds => exact ⟨ds, rfl, h2, by rw [depD_key _ h2]; exact of_decide_eq_true h3⟩
  | _ => cases h1
theorem keyK_inj {a b : D} (ha : okK a = true) (hb : okK b = true) (e : keyD a = keyD b) : a = b := by
  obtain ⟨_, _, h1, _⟩ := okK_out ha
  obtain ⟨_, _, h2, _⟩ := okK_out hb
  exact keyD_inj a b h1 h2 e
section
variable {P : Program} {w : World} {H : Hp} {h : Heap}
mutual
theorem nested_of (ok : HOk P w H h) : ∀ (d : D) (v : V) (u : Value), okD d = true → Rep H d v → L2.RelV v u → NestedIs h (keyD d) u
  | .non, _, _, _, r, v => by cases r; cases v; exact .none
  | .int i, _, _, _, r, v => by cases r; obtain ⟨t, rfl⟩ := v; exact .int i t
  | .str i, _, _, _, r, v => by cases r; obtain ⟨t, rfl⟩ := v; exact .text i t
  | .tup ds, _, _, hk, r, v => by
    rw [okD] at hk
    cases r with
    | tup h1 h2 =>
      cases v
      obtain ⟨_, its, rv, o, e, c, n, d⟩ := ok _ _ h1
      exact .tup e c d (nesteds_of ok ds _ _ hk h2 (by simpa using rv))
  | .bl _, _, _, hk, _, _ => by simp [okD] at hk
  | .ref _, _, _, hk, _, _ => by simp [okD] at hk
  | .ty _, _, _, hk, _, _ => by simp [okD] at hk
theorem nesteds_of (ok : HOk P w H h) : ∀ (ds : List D) (vs : List V) (us : List Value), okDs ds = true → Reps H ds vs → Vals vs us → NestedAll h (keyDs ds) us
  | [], _, _, _, r, v => by cases r; cases v; exact .nil
  | d :: ds, _, _, hk, r, v => by
    rw [okDs, Bool.and_eq_true] at hk
    cases r with
    | cons r1 r2 => cases v with
      | cons v1 v2 => exact .cons (nested_of ok d _ _ hk.1 r1 v1) (nesteds_of ok ds _ _ hk.2 r2 v2)
end
theorem key_is (ok : HOk P w H h) {d : D} {b : Addr} (hk : okK d = true) (r : Rep H d (.ref b)) : (nestedKind P w).is h (keyD d) b := by
  obtain ⟨ds, _, h1, h2⟩ := okK_out hk
  exact ⟨nested_of ok d _ _ h1 r rfl, h2⟩
end
theorem okK_ref {H : Hp} {d : D} {v : V} (hk : okK d = true) (r : Rep H d v) : ∃ b, v = .ref b := by
  obtain ⟨ds, rfl, _⟩ := okK_out hk
  obtain ⟨a, _, e, _⟩ := r.tup_inv
  exact ⟨a, e⟩
/-! ### the entries -/
section
variable {H : Hp}
theorem ent_get : ∀ {kvs : List (D × D)} {xs : List (NestedKey × Addr × Value)}, Paired (Ent H) kvs xs → ∀ {k : D} {nk : NestedKey}, okK k = true → keyD k = nk →
    (lget kvs k = none ∧ atKey xs nk = none) ∨ ∃ d p, lget kvs k = some d ∧ atKey xs nk = some p ∧ ∃ v, Rep H d v ∧ L2.RelV v p.2
  | _, _, .nil, _, _, _, _ => .inl ⟨rfl, rfl⟩
  | _, _, .cons (a := kv) (b := x) e t, k, nk, hk, hn => by
    have ih := ent_get t hk hn
    by_cases h : kv.1 = k
    · have hx : x.1 = nk := by
        have q := e.key
        rw [h, hn] at q
        exact q.symm
      refine .inr ⟨kv.2, x.2, by rw [lget_cons, if_pos h], by simp [atKey, hx], e.val⟩
    · have hx : ¬ x.1 = nk := fun q => h (keyK_inj e.ok hk (by rw [e.key, q, hn]))
      have e1 : ∀ l : List (D × D), lget (kv :: l) k = lget l k := fun l => by rw [lget_cons, if_neg h]
      rw [e1]
      have e2 : ∀ l : List (NestedKey × Addr × Value), atKey (x :: l) nk = atKey l nk := fun l => by simp [atKey, List.find?_cons, hx]
      rw [e2]
      exact ih
theorem ent_length {kvs : List (D × D)} {xs : List (NestedKey × Addr × Value)} (p : Paired (Ent H) kvs xs) : kvs.length = xs.length := Paired.length p
theorem ent_repl {k : D} {nk : NestedKey} {d : D} {v : V} {u : Value} (hk : okK k = true) (hn : keyD k = nk) (rd : Rep H d v) (rv : L2.RelV v u) : ∀ {kvs : List (D × D)} {xs : List (NestedKey × Addr × Value)}, Paired (Ent H) kvs xs →
    Paired (Ent H) (kvs.map fun p => if p.1 = k then (p.1, d) else p) (xs.map (putAt nk u))
  | _, _, .nil => .nil
  | _, _, .cons (a := kv) (b := x) e t => by
    rw [List.map_cons, List.map_cons]
    refine .cons ?_ (ent_repl hk hn rd rv t)
    by_cases h : kv.1 = k
    · have hx : x.1 = nk := by
        have q := e.key
        rw [h, hn] at q
        exact q.symm
      rw [if_pos h, putAt, if_pos hx]
      exact ⟨e.ok, e.key, e.rep, v, rd, rv⟩
    · have hx : ¬ x.1 = nk := fun q => h (keyK_inj e.ok hk (by rw [e.key, q, hn]))
      rw [if_neg h, putAt, if_neg hx]
      exact e
theorem Paired.snoc {α β : Type} {F : α → β → Prop} {a : α} {b : β} (h : F a b) : ∀ {l₁ : List α} {l₂ : List β}, Paired F l₁ l₂ → Paired F (l₁ ++ [a]) (l₂ ++ [b])
  | _, _, .nil => .cons h .nil
  | _, _, .cons r t => .cons r (Paired.snoc h t)
theorem ent_put {k : D} {nk : NestedKey} {b : Addr} {d : D} {v : V} {u : Value} (hk : okK k = true) (hn : keyD k = nk) (rk : Rep H k (.ref b)) (rd : Rep H d v) (rv : L2.RelV v u) {kvs : List (D × D)} {xs : List (NestedKey × Addr × Value)} (p : Paired (Ent H) kvs xs) :
    Paired (Ent H) (lput kvs k d) (storedH xs nk b u) := by
  rcases ent_get p hk hn with ⟨h1, h2⟩ | ⟨d', q, h1, h2, _⟩
  · rw [lput_new d h1, storedH_new h2]
    exact Paired.snoc ⟨hk, hn, rk, v, rd, rv⟩ p
  · rw [lput_old d h1, storedH_old h2]
    exact ent_repl hk hn rd rv p
theorem ent_drop {k : D} {nk : NestedKey} (hk : okK k = true) (hn : keyD k = nk) : ∀ {kvs : List (D × D)} {xs : List (NestedKey × Addr × Value)}, Paired (Ent H) kvs xs → Paired (Ent H) (ldrop kvs k) (withoutH xs nk)
  | _, _, .nil => .nil
  | _, _, .cons (a := kv) (b := x) e t => by
    have ih := ent_drop hk hn t
    unfold ldrop withoutH at ih ⊢
    rw [List.filter_cons, List.filter_cons]
    by_cases h : kv.1 = k
    · have hx : x.1 = nk := by
        have q := e.key
        rw [h, hn] at q
        exact q.symm
      simp only [h, hx, ne_eq, not_true_eq_false, decide_false, Bool.false_eq_true, if_false]
      exact ih
    · have hx : ¬ x.1 = nk := fun q => h (keyK_inj e.ok hk (by rw [e.key, q, hn]))
      simp only [h, hx, ne_eq, not_false_eq_true, decide_true, if_true]
      exact .cons e ih
end
/-! ### int keys -/
section
variable {H : Hp}
def EntI (H : Hp) (kv : D × D) (q : Key × V) : Prop := intK kv.1 = some q.1 ∧ Rep H kv.2 q.2
theorem intK_out {d : D} {k : Key} (h : intK d = some k) : ∃ i, d = .int i ∧ k = .inl i := by
  unfold intK at h
  split at h
  · cases h; exact ⟨_, rfl, rfl⟩
  · cases h
theorem entI_get : ∀ {kvs : List (D × D)} {ks : List (Key × V)}, Paired (EntI H) kvs ks → ∀ (i : Int),
    (lget kvs (.int i) = none ∧ valV ks (.inl i) = none) ∨ ∃ d v, lget kvs (.int i) = some d ∧ valV ks (.inl i) = some v ∧ Rep H d v
  | _, _, .nil, _ => .inl ⟨rfl, rfl⟩
  | _, _, .cons (a := kv) (b := x) e t, i => by
    obtain ⟨j, e1, e2⟩ := intK_out e.1
    by_cases h : j = i
    · subst h
      exact .inr ⟨kv.2, x.2, by rw [lget_cons, if_pos e1], valV_pos e2, e.2⟩
    · have h1 : ¬ kv.1 = .int i := fun q => h (D.int.inj (e1.symm.trans q))
      have h2 : ¬ x.1 = .inl i := fun q => h (Sum.inl.inj (e2.symm.trans q))
      rw [lget_cons, if_neg h1, valV_neg h2]
      exact entI_get t i
theorem entI_repl {i : Int} {d : D} {v : V} (rd : Rep H d v) : ∀ {kvs : List (D × D)} {ks : List (Key × V)}, Paired (EntI H) kvs ks →
    Paired (EntI H) (kvs.map fun p => if p.1 = .int i then (p.1, d) else p) (ks.map fun kv => if kv.1 = .inl i then (kv.1, v) else kv)
  | _, _, .nil => .nil
  | _, _, .cons (a := kv) (b := x) e t => by
    rw [List.map_cons, List.map_cons]
    refine .cons ?_ (entI_repl rd t)
    obtain ⟨j, e1, e2⟩ := intK_out e.1
    by_cases h : j = i
    · subst h
      rw [if_pos e1, if_pos e2]
      exact ⟨e.1, rd⟩
    · rw [if_neg (fun q => h (D.int.inj (e1.symm.trans q))), if_neg (fun q => h (Sum.inl.inj (e2.symm.trans q)))]
      exact e
theorem entI_put {i : Int} {d : D} {v : V} (rd : Rep H d v) {kvs : List (D × D)} {ks : List (Key × V)} (p : Paired (EntI H) kvs ks) : Paired (EntI H) (lput kvs (.int i) d) (putK ks (.inl i) v) := by
  rcases entI_get p i with ⟨h1, h2⟩ | ⟨d', v', h1, h2, _⟩
  · rw [lput_new d h1, putK_new v h2]
    exact Paired.snoc ⟨rfl, rd⟩ p
  · rw [lput_old d h1]
    have e : putK ks (Sum.inl i) v = ks.map fun kv => if kv.1 = .inl i then (kv.1, v) else kv := by
      unfold putK
      rw [valV_any, h2]
      rfl
    rw [e]
    exact entI_repl rd p
end
end DL
/-! # The D-layer's comparisons -/
namespace DL
open PySem PySem.Spec PyProof.Rows L2
mutual
/-- a value as data -/
def pyD : D → PyData
  | .non => .none
  | .bl b => .bool b
  | .int i => .int i
  | .str x => .str x
  | .tup ds => .tuple (pyDs ds)
  | .ref _ => .none
  | .ty _ => .none
def pyDs : List D → List PyData
  | [] => []
  | d :: r => pyD d :: pyDs r
end
mutual
/-- data without truth values: alike just where they are equal -/
def flatE : D → Bool
  | .non => true
  | .int _ => true
  | .str x => PyData.strOk x
  | .tup ds => flatEs ds
  | .bl _ => false
  | .ref _ => false
  | .ty _ => false
def flatEs : List D → Bool
  | [] => true
  | d :: r => flatE d && flatEs r
end
theorem flatEs_iff : ∀ ds : List D, flatEs ds = ds.all flatE
  | [] => rfl
  | d :: r => by rw [flatEs, List.all_cons, flatEs_iff r]
theorem pyDs_map : ∀ ds : List D, pyDs ds = ds.map pyD
  | [] => rfl
  | d :: r => by rw [pyDs, List.map_cons, pyDs_map r]
mutual
theorem eqv_pyD : ∀ a b : D, flatE a = true → flatE b = true → PyData.eqv (pyD a) (pyD b) = decide (a = b)
  | .non, b, _, hb => by cases b <;> simp_all [pyD, flatE, PyData.eqv]
  | .int i, b, _, hb => by cases b <;> simp_all [pyD, flatE, PyData.eqv, Bool.beq_eq_decide_eq]
  | .str i, b, _, hb => by
    cases b with
    | str j => simp only [pyD, PyData.eqv, D.str.injEq, Bool.beq_eq_decide_eq]
    | _ => simp_all [pyD, flatE, PyData.eqv]
  | .tup ds, b, ha, hb => by
    cases b with
    | tup es =>
      rw [flatE] at ha hb
      simp only [pyD, PyData.eqv, D.tup.injEq]
      exact eqv_pyDs ds es ha hb
    | _ => simp_all [pyD, flatE, PyData.eqv]
  | .bl _, _, ha, _ => by simp [flatE] at ha
  | .ref _, _, ha, _ => by simp [flatE] at ha
  | .ty _, _, ha, _ => by simp [flatE] at ha
theorem eqv_pyDs : ∀ a b : List D, flatEs a = true → flatEs b = true → PyData.eqvAll (pyDs a) (pyDs b) = decide (a = b)
  | [], [], _, _ => by simp [pyDs, PyData.eqvAll]
  | [], _ :: _, _, _ => by simp [pyDs, PyData.eqvAll]
  | _ :: _, [], _, _ => by simp [pyDs, PyData.eqvAll]
  | a :: r, b :: t, ha, hb => by
    rw [flatEs, Bool.and_eq_true] at ha hb
    rw [pyDs, pyDs, PyData.eqvAll, eqv_pyD a b ha.1 hb.1, eqv_pyDs r t ha.2 hb.2]
    by_cases h1 : a = b <;> by_cases h2 : r = t <;> simp [h1, h2]
end
mutual
theorem lay_pyD : ∀ a : D, flatE a = true → (pyD a).canLay0 = true
  | .non, _ => by simp [pyD, PyData.canLay0]
  | .int i, _ => by simp [pyD, PyData.canLay0]
  | .str i, h => by rw [flatE] at h; simp [pyD, PyData.canLay0, h]
  | .tup ds, h => by rw [flatE] at h; simp only [pyD, PyData.canLay0]; exact lay_pyDs ds h
  | .bl _, h => by simp [flatE] at h
  | .ref _, h => by simp [flatE] at h
  | .ty _, h => by simp [flatE] at h
theorem lay_pyDs : ∀ a : List D, flatEs a = true → PyData.canLayAll0 (pyDs a) = true
  | [], _ => by simp [pyDs, PyData.canLayAll0]
  | a :: r, h => by
    rw [flatEs, Bool.and_eq_true] at h
    rw [pyDs, PyData.canLayAll0, lay_pyD a h.1, lay_pyDs r h.2]; rfl
end
mutual
theorem dep_pyD : ∀ a : D, (pyD a).depth = depD a
  | .non => by simp [pyD, depD, PyData.depth]
  | .int i => by simp [pyD, depD, PyData.depth]
  | .str i => by simp [pyD, depD, PyData.depth]
  | .tup ds => by rw [pyD, PyData.depth, depD, dep_pyDs ds]
  | .bl _ => by simp [pyD, depD, PyData.depth]
  | .ref _ => by simp [pyD, depD, PyData.depth]
  | .ty _ => by simp [pyD, depD, PyData.depth]
theorem dep_pyDs : ∀ a : List D, PyData.depthAll (pyDs a) = depDs a
  | [] => by simp [pyDs, depDs, PyData.depthAll]
  | a :: r => by rw [pyDs, PyData.depthAll, depDs, dep_pyD a, dep_pyDs r]
end
/-- flat, and not deep -/
def okE (d : D) : Bool := flatE d && decide (depD d ≤ 20)
theorem okE_out {d : D} (h : okE d = true) : flatE d = true ∧ depD d ≤ 20 := by
  unfold okE at h
  rw [Bool.and_eq_true] at h
  exact ⟨h.1, of_decide_eq_true h.2⟩
section
variable {P : Program} {w : World} {H : Hp} {h : Heap}
mutual
theorem reads_of (ok : HOk P w H h) : ∀ (d : D) (v : V) (u : Value), flatE d = true → Rep H d v → L2.RelV v u → ∃ as, Reads h u (pyD d) as
  | .non, _, _, _, r, v => by cases r; cases v; exact ⟨_, .none⟩
  | .int i, _, _, _, r, v => by cases r; obtain ⟨t, rfl⟩ := v; exact ⟨_, .int i t⟩
  | .str i, _, _, _, r, v => by cases r; obtain ⟨t, rfl⟩ := v; exact ⟨_, .str i t⟩
  | .tup ds, _, _, hk, r, v => by
    rw [flatE] at hk
    cases r with
    | tup h1 h2 =>
      cases v
      obtain ⟨_, its, rv, o, e, c, n, d⟩ := ok _ _ h1
      obtain ⟨as, q⟩ := reads_all ok ds _ its hk h2 rv
      exact ⟨_, .tuple e c d (by simpa using q)⟩
  | .bl _, _, _, hk, _, _ => by simp [flatE] at hk
  | .ref _, _, _, hk, _, _ => by simp [flatE] at hk
  | .ty _, _, _, hk, _, _ => by simp [flatE] at hk
theorem reads_all (ok : HOk P w H h) : ∀ (ds : List D) (vs : List V) (us : List Value), flatEs ds = true → Reps H ds vs → Vals vs us → ∃ as, ReadsAll h us (pyDs ds) as
  | [], _, _, _, r, v => by cases r; cases v; exact ⟨_, .nil⟩
  | d :: ds, _, _, hk, r, v => by
    rw [flatEs, Bool.and_eq_true] at hk
    cases r with
    | cons r1 r2 => cases v with
      | cons v1 v2 =>
        obtain ⟨as, q1⟩ := reads_of ok d _ _ hk.1 r1 v1
        obtain ⟨bs, q2⟩ := reads_all ok ds _ _ hk.2 r2 v2
        exact ⟨_, .cons q1 q2⟩
end
end
/-! ### data with lists in it -/
mutual
/-- the data that a value is, lists read off the memory -/
def pyM (M : Mem) : Nat → D → Option PyData
  | _, .non => some .none
  | _, .bl b => some (.bool b)
  | _, .int i => some (.int i)
  | _, .str x => if PyData.strOk x = true then some (.str x) else none
  | 0, _ => none
  | n + 1, .tup ds => (pyMs M n ds).map .tuple
  | n + 1, .ref a => match lsOf M (.ref a) with
    | some ds => (pyMs M n ds).map .list
    | none => none
  | _, .ty _ => none
def pyMs (M : Mem) : Nat → List D → Option (List PyData)
  | _, [] => some []
  | 0, _ :: _ => none
  | n + 1, d :: r => match pyM M (n + 1) d, pyMs M (n + 1) r with
    | some x, some xs => some (x :: xs)
    | _, _ => none
end
section
variable {X : Cx} {pins : List (Addr × Obj)} {s : Shared} {σ : L2.St} {H Z : Hp} {M : Mem}
theorem lsOf_list (I : Inv X pins σ H s) (z : AbsZ X.prog X.w X.K Z M H) {x : D} {xv : V} {u : Value} {ds : List D} (h : lsOf M x = some ds) (r : Rep H x xv) (rv : L2.RelV xv u) :
    ∃ a its vs o n, u = .ref a ∧ x = .ref a ∧ Reps H ds vs ∧ Vals vs its ∧ s.heap.get? a = some o ∧ o.cls = .type "list" ∧ o.data = .seq its.toArray n ∧ vs.length ≤ sizeLine := by
  obtain ⟨a, vs, rfl, rfl, sq, rp⟩ := lsOf_sql z r h
  cases rv
  obtain ⟨its, ra, ⟨o, n, ho, hc, hd, hdt⟩, hz⟩ := I.list sq
  exact ⟨a, its, vs, o, n, rfl, rfl, rp, ra, ho, hc, hdt, hz⟩
mutual
theorem reads_M (I : Inv X pins σ H s) (z : AbsZ X.prog X.w X.K Z M H) : ∀ (n : Nat) (d : D) (v : V) (u : Value) (p : PyData), pyM M n d = some p → Rep H d v → L2.RelV v u → ∃ as, Reads s.heap u p as ∧ p.canLay0 = true ∧ p.depth ≤ n
  | n, .non, _, _, p, h, r, v => by cases r; cases v; cases n <;> (simp only [pyM, Option.some.injEq] at h; subst h; exact ⟨_, .none, by simp [PyData.canLay0], by simp [PyData.depth]⟩)
  | n, .bl b, _, _, p, h, r, v => by cases r; cases v; cases n <;> (simp only [pyM, Option.some.injEq] at h; subst h; exact ⟨_, .bool b, by simp [PyData.canLay0], by simp [PyData.depth]⟩)
  | n, .int i, _, _, p, h, r, v => by cases r; obtain ⟨t, rfl⟩ := v; cases n <;> (simp only [pyM, Option.some.injEq] at h; subst h; exact ⟨_, .int i t, by simp [PyData.canLay0], by simp [PyData.depth]⟩)
  | n, .str x, _, _, p, h, r, v => by
    cases r; obtain ⟨t, rfl⟩ := v
    by_cases q : PyData.strOk x = true
    · cases n <;> (simp only [pyM, if_pos q, Option.some.injEq] at h; subst h; exact ⟨_, .str x t, by simp [PyData.canLay0, q], by simp [PyData.depth]⟩)
    · cases n <;> (simp only [pyM, if_neg q] at h; cases h)
  | n, .ty _, _, _, p, h, r, v => by cases n <;> simp [pyM] at h
  | 0, .tup ds, _, _, p, h, r, v => by simp [pyM] at h
  | 0, .ref a, _, _, p, h, r, v => by simp [pyM] at h
  | n + 1, .tup ds, _, _, p, h, r, v => by
    rw [pyM, Option.map_eq_some_iff] at h
    obtain ⟨ps, h, rfl⟩ := h
    cases r with
    | tup h1 h2 =>
      cases v
      obtain ⟨_, its, rv, o, e, c, m, d⟩ := I.hok _ _ h1
      obtain ⟨as, q, l1, l2⟩ := reads_Ms I z n ds _ _ ps h h2 rv
      exact ⟨_, .tuple e c d (by simpa using q), by simpa only [PyData.canLay0] using l1, by rw [PyData.depth]; omega⟩
  | n + 1, .ref a, _, _, p, h, r, v => by
    rw [pyM] at h
    cases hl : lsOf M (.ref a) with
    | none => rw [hl] at h; cases h
    | some ds =>
      rw [hl] at h
      simp only [Option.map_eq_some_iff] at h
      obtain ⟨ps, h, rfl⟩ := h
      obtain ⟨b, its, vs, o, m, rfl, e2, rp, rv, e, c, d, _⟩ := lsOf_list I z hl r v
      cases e2
      obtain ⟨as, q, l1, l2⟩ := reads_Ms I z n ds _ _ ps h rp rv
      exact ⟨_, .list e c d (by simpa using q), by simpa only [PyData.canLay0] using l1, by rw [PyData.depth]; omega⟩
theorem reads_Ms (I : Inv X pins σ H s) (z : AbsZ X.prog X.w X.K Z M H) : ∀ (n : Nat) (ds : List D) (vs : List V) (us : List Value) (ps : List PyData), pyMs M n ds = some ps → Reps H ds vs → Vals vs us → ∃ as, ReadsAll s.heap us ps as ∧ PyData.canLayAll0 ps = true ∧ PyData.depthAll ps ≤ n
  | n, [], _, _, ps, h, r, v => by cases r; cases v; cases n <;> (simp only [pyMs, Option.some.injEq] at h; subst h; exact ⟨_, .nil, by simp [PyData.canLayAll0], by simp [PyData.depthAll]⟩)
  | 0, _ :: _, _, _, ps, h, r, v => by simp [pyMs] at h
  | n + 1, d :: ds, _, _, ps, h, r, v => by
    rw [pyMs] at h
    cases h1 : pyM M (n + 1) d with
    | none => rw [h1] at h; cases h
    | some p =>
      cases h2 : pyMs M (n + 1) ds with
      | none => rw [h1, h2] at h; cases h
      | some qs =>
        rw [h1, h2] at h
        simp only [Option.some.injEq] at h
        subst h
        cases r with
        | cons r1 r2 => cases v with
          | cons v1 v2 =>
            obtain ⟨as, q1, a1, b1⟩ := reads_M I z (n + 1) d _ _ p h1 r1 v1
            obtain ⟨bs, q2, a2, b2⟩ := reads_Ms I z (n + 1) ds _ _ qs h2 r2 v2
            exact ⟨_, .cons q1 q2, by rw [PyData.canLayAll0, a1, a2]; rfl, by rw [PyData.depthAll]; omega⟩
end
end
/-! ### == -/
def eqGen (M : Mem) (x y : D) : Option Bool := match pyM M 8 x, pyM M 8 y with
  | some p, some q => some (PyData.eqv p q)
  | _, _ => none
/-- x == y -/
def eqM (M : Mem) (x y : D) : Option Bool :=
  if (okE x && okE y) = true then some (decide (x = y))
  else match x, y with
    | .bl a, .bl b => some (decide (a = b))
    | .ref _, .ref _ => match lsOf M x, lsOf M y with
      | some xs, some ys => if (xs.all okE && ys.all okE) = true then some (decide (xs = ys)) else eqGen M x y
      | _, _ => none
    | _, _ => eqGen M x y
def eqD (x y : D) (M : Mem) (K : DK) : Prop := onS (eqM M x y) fun b => K (.bl b) M
def neD (x y : D) (M : Mem) (K : DK) : Prop := onS (eqM M x y) fun b => K (.bl (!b)) M
theorem all_flat {xs : List D} (h : xs.all okE = true) : flatEs xs = true ∧ depDs xs ≤ 20 := by
  induction xs with
  | nil => exact ⟨rfl, by simp [depDs]⟩
  | cons a r ih =>
    rw [List.all_cons, Bool.and_eq_true] at h
    obtain ⟨h1, h2⟩ := okE_out h.1
    obtain ⟨h3, h4⟩ := ih h.2
    exact ⟨by rw [flatEs, h1, h3]; rfl, by rw [depDs]; omega⟩
section
variable {X : Cx} {pins : List (Addr × Obj)} {s : Shared} {σ : L2.St} {H Z : Hp} {M : Mem}
theorem eqM_reads (I : Inv X pins σ H s) (z : AbsZ X.prog X.w X.K Z M H) {x y : D} {xv yv : V} {v u : Value} {b : Bool} (rx : Rep H x xv) (ry : Rep H y yv) (r1 : L2.RelV xv v) (r2 : L2.RelV yv u) (h : eqM M x y = some b) :
    ∃ p q as bs, Reads s.heap v p as ∧ Reads s.heap u q bs ∧ p.canLay0 = true ∧ q.canLay0 = true ∧ p.depth ≤ 21 ∧ q.depth ≤ 21 ∧ PyData.eqv p q = b := by
  have gen : eqGen M x y = some b → ∃ p q as bs, Reads s.heap v p as ∧ Reads s.heap u q bs ∧ p.canLay0 = true ∧ q.canLay0 = true ∧ p.depth ≤ 21 ∧ q.depth ≤ 21 ∧ PyData.eqv p q = b := fun h => by
    unfold eqGen at h
    split at h
    · rename_i p q e1 e2
      obtain ⟨as, q1, l1, d1⟩ := reads_M I z 8 x xv v p e1 rx r1
      obtain ⟨bs, q2, l2, d2⟩ := reads_M I z 8 y yv u q e2 ry r2
      exact ⟨p, q, as, bs, q1, q2, l1, l2, by omega, by omega, Option.some.inj h⟩
    · cases h
  unfold eqM at h
  split at h
  · rename_i hf
    rw [Bool.and_eq_true] at hf
    obtain ⟨f1, g1⟩ := okE_out hf.1
    obtain ⟨f2, g2⟩ := okE_out hf.2
    obtain ⟨as, q1⟩ := reads_of I.hok x xv v f1 rx r1
    obtain ⟨bs, q2⟩ := reads_of I.hok y yv u f2 ry r2
    exact ⟨_, _, as, bs, q1, q2, lay_pyD x f1, lay_pyD y f2, by rw [dep_pyD]; omega, by rw [dep_pyD]; omega, by rw [eqv_pyD x y f1 f2]; exact Option.some.inj h⟩
  · split at h
    · cases rx; cases ry; cases r1; cases r2
      exact ⟨_, _, _, _, .bool _, .bool _, by simp [PyData.canLay0], by simp [PyData.canLay0], by simp [PyData.depth], by simp [PyData.depth], by simp only [PyData.eqv, Bool.beq_eq_decide_eq]; exact Option.some.inj h⟩
    · split at h
      · rename_i xs ys e1 e2
        split at h
        · rename_i hf
          rw [Bool.and_eq_true] at hf
          obtain ⟨f1, g1⟩ := all_flat hf.1
          obtain ⟨f2, g2⟩ := all_flat hf.2
          obtain ⟨a, its, vs, o, m, rfl, _, rp, rv, e, c, d, _⟩ := lsOf_list I z e1 rx r1
          obtain ⟨a', its', vs', o', m', rfl, _, rp', rv', e', c', d', _⟩ := lsOf_list I z e2 ry r2
          obtain ⟨as, q1⟩ := reads_all I.hok xs vs its f1 rp rv
          obtain ⟨bs, q2⟩ := reads_all I.hok ys vs' its' f2 rp' rv'
          exact ⟨.list (pyDs xs), .list (pyDs ys), _, _, .list e c d (by simpa using q1), .list e' c' d' (by simpa using q2), by simp only [PyData.canLay0]; exact lay_pyDs xs f1, by simp only [PyData.canLay0]; exact lay_pyDs ys f2,
            by rw [PyData.depth, dep_pyDs]; omega, by rw [PyData.depth, dep_pyDs]; omega, by simp only [PyData.eqv]; rw [eqv_pyDs xs ys f1 f2]; exact Option.some.inj h⟩
        · exact gen h
      · cases h
    · exact gen h
theorem dop_eq (hu : X.A.units + 64 < cLine) : DOp X (compareOp .Eq) eqD := by
  intro pins s σ H Z M x y xv yv v u K I z rx ry r1 r2 h
  obtain ⟨b, hb, q⟩ := onS_out h
  obtain ⟨p, p', as, bs, h1, h2, l1, l2, d1, d2, e⟩ := eqM_reads I z rx ry r1 r2 hb
  refine SeqAt.compareEq_reads h1 h2 l1 l2 (by omega) ?_
  rw [e]
  exact EP.done (v := .bl b) I rfl (.bl b) z q
theorem dop_ne (hu : X.A.units + 64 < cLine) : DOp X (compareOp .NotEq) neD := by
  intro pins s σ H Z M x y xv yv v u K I z rx ry r1 r2 h
  obtain ⟨b, hb, q⟩ := onS_out h
  obtain ⟨p, p', as, bs, h1, h2, l1, l2, d1, d2, e⟩ := eqM_reads I z rx ry r1 r2 hb
  refine SeqAt.compareNe_reads h1 h2 l1 l2 (by omega) ?_
  rw [e]
  exact EP.done (v := .bl (!b)) I rfl (.bl (!b)) z q
end
/-! ### <, <=, >, >= -/
/-- x < y: ints; alike data; lists of alike data -/
def ltM (M : Mem) (x y : D) : Option Bool := match x, y with
  | .int i, .int j => some (decide (i < j))
  | .tup _, .tup _ => if (okE x && okE y && W.alike (pyD x) (pyD y)) = true then some (W.dataLt (pyD x) (pyD y)) else none
  | .ref _, .ref _ => match lsOf M x, lsOf M y with
    | some xs, some ys => if (xs.all okE && ys.all okE && W.alikeAll (pyDs xs) (pyDs ys)) = true then some (W.dataLt (.list (pyDs xs)) (.list (pyDs ys))) else none
    | _, _ => none
  | _, _ => none
def ltD (x y : D) (M : Mem) (K : DK) : Prop := onS (ltM M x y) fun b => K (.bl b) M
theorem dop_lt (X : Cx) (hu : X.A.units + 64 < cLine) : DOp X (compareOp .Lt) ltD := by
  intro pins s σ H Z M x y xv yv v u K I z rx ry r1 r2 h
  obtain ⟨b, hb, q⟩ := onS_out h
  have fin : EP X pins σ (lift X.prog X.w X.K H Z K) (.bool b) s := EP.done (v := .bl b) I rfl (.bl b) z q
  unfold ltM at hb
  split at hb
  · cases rx; cases ry; obtain ⟨t, rfl⟩ := r1; obtain ⟨t', rfl⟩ := r2
    exact lt_int (by rw [Option.some.inj hb]; exact fin)
  · split at hb
    · rename_i hf
      rw [Bool.and_eq_true, Bool.and_eq_true] at hf
      obtain ⟨f1, g1⟩ := okE_out hf.1.1
      obtain ⟨f2, g2⟩ := okE_out hf.1.2
      obtain ⟨as, q1⟩ := reads_of I.hok _ xv v f1 rx r1
      obtain ⟨bs, q2⟩ := reads_of I.hok _ yv u f2 ry r2
      refine W.lt_data q1 q2 hf.2 (by simp [pyD]) (by rw [dep_pyD, dep_pyD]; omega) ?_
      rw [Option.some.inj hb]; exact fin
    · cases hb
  · split at hb
    · rename_i xs ys e1 e2
      split at hb
      · rename_i hf
        rw [Bool.and_eq_true, Bool.and_eq_true] at hf
        obtain ⟨f1, g1⟩ := all_flat hf.1.1
        obtain ⟨f2, g2⟩ := all_flat hf.1.2
        obtain ⟨a, its, vs, o, m, rfl, _, rp, rv, e, c, d, _⟩ := lsOf_list I z e1 rx r1
        obtain ⟨a', its', vs', o', m', rfl, _, rp', rv', e', c', d', _⟩ := lsOf_list I z e2 ry r2
        obtain ⟨as, q1⟩ := reads_all I.hok xs vs its f1 rp rv
        obtain ⟨bs, q2⟩ := reads_all I.hok ys vs' its' f2 rp' rv'
        refine W.lt_data (.list e c d (by simpa using q1)) (.list e' c' d' (by simpa using q2)) (by rw [W.alike]; exact hf.2) (by simp) (by rw [PyData.depth, PyData.depth, dep_pyDs, dep_pyDs]; omega) ?_
        rw [Option.some.inj hb]; exact fin
      · cases hb
    · cases hb
  · cases hb
section
variable {X : Cx}
theorem dop_le : DOp X (compareOp .LtE) (rI0 fun i j => .bl (decide (i ≤ j))) := dop_I0 op_le fun _ _ _ => .bl _
theorem dop_gt : DOp X (compareOp .Gt) (rI0 fun i j => .bl (decide (j < i))) := dop_I0 op_gt fun _ _ _ => .bl _
theorem dop_ge : DOp X (compareOp .GtE) (rI0 fun i j => .bl (decide (j ≤ i))) := dop_I0 op_ge fun _ _ _ => .bl _
/-- is, is not: None, True and False (the right one) -/
def isD (x y : D) (M : Mem) (K : DK) : Prop := match y with
  | .non => K (.bl (decide (x = .non))) M
  | .bl b => match x with
    | .bl a => K (.bl (decide (a = b))) M
    | _ => False
  | _ => False
def isnotD (x y : D) (M : Mem) (K : DK) : Prop := match y with
  | .non => K (.bl (!decide (x = .non))) M
  | .bl b => match x with
    | .bl a => K (.bl (!decide (a = b))) M
    | _ => False
  | _ => False
theorem rep_non {H : Hp} {x : D} {v : V} (r : Rep H x v) : decide (v = .non) = decide (x = .non) := by
  cases r <;> simp
end
end DL
/-! # The D-layer's subscripts, membership, calls of what is built in -/
namespace DL
open PySem PySem.Spec PyProof.Rows L2
/-- a dict that may be read: tuple keys?, its pairs -/
def dcOf (M : Mem) : D → Option (Bool × List (D × D))
  | .ref a => match M a with
    | some (.dct kvs) => some (true, kvs)
    | some (.rod kvs) => some (true, kvs)
    | some (.dci kvs) => some (false, kvs)
    | some (.roi kvs) => some (false, kvs)
    | _ => none
  | _ => none
def fitK (t : Bool) (k : D) : Bool := match t with
  | true => okK k
  | false => match k with
    | .int _ => true
    | _ => false
theorem fitK_int {k : D} (h : fitK false k = true) : ∃ i, k = .int i := by
  cases k with
  | int i => exact ⟨i, rfl⟩
  | _ => cases h
section
variable {P : Program} {w : World} {K : PySem.W.Frag} {Z : Hp} {M : Mem} {H : Hp}
/-- what stands there, tuple keys -/
theorem dcOf_out {x : D} {t : Bool} {kvs : List (D × D)} (h : dcOf M x = some (t, kvs)) : ∃ a, x = .ref a ∧ ((t = true ∧ (M a = some (.dct kvs) ∨ M a = some (.rod kvs))) ∨ (t = false ∧ (M a = some (.dci kvs) ∨ M a = some (.roi kvs)))) := by
  unfold dcOf at h
  split at h
  · rename_i a
    split at h <;> first
      | (rename_i q; cases h; exact ⟨a, rfl, by simp [q]⟩)
      | cases h
  · cases h
theorem rd_T (z : AbsZ P w K Z M H) {a : Addr} {kvs : List (D × D)} (h : M a = some (.dct kvs) ∨ M a = some (.rod kvs)) : ∃ o, Rd H a o ∧ DctT P w H a kvs o := by
  rcases h with h | h
  · obtain ⟨o, h1, h2⟩ := z.mem a _ h
    exact ⟨o, .inl h1, h2⟩
  · obtain ⟨ob, o, h1, h2⟩ := z.mem a _ h
    exact ⟨o, .inr ⟨ob, h1⟩, h2⟩
theorem rd_I (z : AbsZ P w K Z M H) {a : Addr} {kvs : List (D × D)} (h : M a = some (.dci kvs) ∨ M a = some (.roi kvs)) : ∃ ks, Rd H a (.dK ks) ∧ Paired (EntI H) kvs ks := by
  rcases h with h | h
  · obtain ⟨o, h1, ks, rfl, h2⟩ := z.mem a _ h
    exact ⟨ks, .inl h1, h2⟩
  · obtain ⟨ob, o, h1, ks, rfl, h2⟩ := z.mem a _ h
    exact ⟨ks, .inr ⟨ob, h1⟩, h2⟩
end
section
variable {X : Cx} {pins : List (Addr × Obj)} {s : Shared} {σ : L2.St} {H Z : Hp} {M : Mem} {a : Addr} {kvs : List (D × D)}
/-- a dict of tuple keys, in the model's heap -/
theorem DctT.heap (I : Inv X pins σ H s) {o : HO} (r : Rd H a o) (d : DctT X.prog X.w H a kvs o) : ∃ xs, s.heap.DictOfH (nestedKind X.prog X.w) a xs ∧ kvs.length ≤ sizeLine ∧ (a == sysModules) = false ∧ Paired (Ent H) kvs xs := by
  obtain ⟨xs, rfl, h1, h2, h3, h4⟩ := d
  obtain ⟨⟨ob, arr, ep, e1, e2, e3, e4⟩, _, _⟩ := r.ok I.hok
  refine ⟨xs, ⟨ob, arr, ep, e1, e2, e3, e4, fun x hx => ?_, h4⟩, h1, h2, h3⟩
  have key : ∀ {kvs : List (D × D)} {xs : List (NestedKey × Addr × Value)}, Paired (Ent H) kvs xs → ∀ x ∈ xs, ∃ kv, Ent H kv x := by
    intro kvs xs p
    induction p with
    | nil => intro x hx; cases hx
    | cons e t ih =>
      intro x hx
      rcases List.mem_cons.mp hx with rfl | hx
      · exact ⟨_, e⟩
      · exact ih x hx
  obtain ⟨kv, e⟩ := key h3 x hx
  have q := key_is I.hok e.ok e.rep
  rw [e.key] at q
  exact q
/-- the object of such a dict is written anew -/
theorem dct_write (I : Inv X pins σ H s) (z : AbsZ X.prog X.w X.K Z M H) {o : DO} (hm : M a = some o) (f : o.free = true) {h' : Heap} {tk : Nat} (hs : Heap.SameBut a s.heap h') {kvs' : List (D × D)} {xs : List (NestedKey × Addr × Value)} (hx : h'.DictOfH (nestedKind X.prog X.w) a xs)
    (hl : kvs'.length ≤ sizeLine) (hsys : (a == sysModules) = false) (pr : Paired (Ent H) kvs' xs) :
    ∃ H', Inv X pins σ H' { s with heap := h', toks := tk } ∧ Keep H H' ∧ AbsZ X.prog X.w X.K Z (up M a (.dct kvs')) H' := by
  have mu : Mut (H a) := (z.mem a _ hm).free_mut f
  obtain ⟨ob, es, ep, e1, e2, e3, e4, _, e6⟩ := hx
  refine ⟨upd H a (DictE a (xs.map (entryOfKey (nestedKind X.prog X.w)))), I.write (t' := tk) mu (.inl rfl) (fun b u hb q => (hs.2 b hb).trans q) ⟨_, e1⟩ ?_, mut_keep mu, z.set hm f ⟨_, upd_same, xs, rfl, hl, hsys, Paired.imp pr fun _ _ e => e.keep (mut_keep mu), e6⟩⟩
  exact ⟨⟨ob, es, ep, e1, e2, e3, e4⟩, ⟨_, e1⟩, fun h1 h2 ⟨o1, a1, p1, q1, q2, q3, q4⟩ k => ⟨o1, a1, p1, k _ q1, q2, q3, q4⟩⟩
/-- an int dict written anew -/
theorem dci_write (I : Inv X pins σ H s) (z : AbsZ X.prog X.w X.K Z M H) {o : DO} (hm : M a = some o) (f : o.free = true) {kvs' : List (D × D)} {ks : List (Key × V)} (pr : Paired (EntI H) kvs' ks) : Keep H (upd H a (.dK ks)) ∧ AbsZ X.prog X.w X.K Z (up M a (.dci kvs')) (upd H a (.dK ks)) := by
  have mu : Mut (H a) := (z.mem a _ hm).free_mut f
  exact ⟨mut_keep mu, z.set hm f ⟨_, upd_same, ks, rfl, Paired.imp pr fun _ _ e => ⟨e.1, e.2.keep (mut_keep mu)⟩⟩⟩
end
/-! ### d[k], by values -/
def dIx (x y : D) (M : Mem) (K : DK) : Prop := match sqOf M x with
  | some ds => match y with
    | .int i => onS (atI ds i) fun d => K d M
    | _ => False
  | none => onS (dcOf M x) fun p => fitK p.1 y = true ∧ onS (lget p.2 y) fun d => K d M
/-- a subscript by values -/
def DIx (X : Cx) (r : D → D → Mem → DK → Prop) : Prop :=
  ∀ (value slice : Expr) (pins : List (Addr × Obj)) (s : Shared) (σ : L2.St) (H Z : Hp) (M : Mem) (x y : D) (xv yv : V) (v u : Value) (K : DK), Inv X pins σ H s → AbsZ X.prog X.w X.K Z M H → Rep H x xv → Rep H y yv → L2.RelV xv v → L2.RelV yv u → r x y M K →
    subscripted slice false v u = operate [v, u] (getItem v u) → wpAny (model X.prog X.w) X.A (subscriptTail value slice v u) (EP X pins σ (lift X.prog X.w X.K H Z K)) X.xe s
/-- the room that the rules ask -/
structure Rm (X : Cx) : Prop where
  r1 : X.A.units + 80 < cLine
  calm : X.calm = true
section
variable {X : Cx}
theorem d_tail {pins : List (Addr × Obj)} {s : Shared} {σ : L2.St} {value slice : Expr} {o i : Value} {Q : Value → Shared → Prop} (hT : s.TypeIs o "dict") (hs : subscripted slice false o i = operate [o, i] (getItem o i))
    (h₂ : wpAny (model X.prog X.w) X.A (getItem o i) Q X.xe s) : wpAny (model X.prog X.w) X.A (subscriptTail value slice o i) Q X.xe s := by
  unfold subscriptTail
  refine wpAny_bind ?_
  rw [getitemInPython_of_ne hT.not_modules]
  refine wpAny_bind (wpAny_specialOf hT PySem.F.slot_dict_getitem.lookup ?_)
  have fin : wpAny (model X.prog X.w) X.A (subscripted slice false o i) (fun r s₃ => wpAny (model X.prog X.w) X.A (letTemporaryGo value o r >>= fun _ => pure r) Q X.xe s₃) X.xe s := by
    rw [hs]
    exact wpAny_operating (wpAny_mono h₂ (fun r s₃ h₃ => wpAny_bind (wpAny_letTemporaryGo (wpAny_pure h₃))) fun _ _ x => x)
  first
    | exact wpAny_pure (wpAny_bind fin)
    | exact wpAny_bind (wpAny_pure (wpAny_bind fin))
    | exact wpAny_bind fin
theorem nested_room (hu : X.A.units + 80 < cLine) : (nestedKind X.prog X.w).room X.A.in1 := by show X.A.units + 1 + 8 < cLine; omega
theorem dix (rm : Rm X) : DIx X dIx := by
  intro value slice pins s σ H Z M x y xv yv v u K I z rx ry r1 r2 h hs
  unfold dIx at h
  split at h
  · rename_i ds e
    split at h
    · rename_i i
      obtain ⟨d, hd, q⟩ := onS_out h
      obtain ⟨j, h1, h2, h3, h4, h5⟩ := atI_get hd
      obtain ⟨a, vs, rfl, sq, rp⟩ := sqOf_seq z rx e
      obtain ⟨vj, hv, rj⟩ := rp.get h2
      have hat : atI vs i = some vj := by
        unfold atI at hd ⊢
        rw [← rp.length]
        cases hx : ixN ds.length i with
        | none => rw [hx] at hd; cases hd
        | some k =>
          rw [hx] at hd
          have : k = j := by
            have e1 : seqIndex? i ds.length = some k := (ixN_seq hx).1
            rw [h1] at e1
            exact (Option.some.inj e1).symm
          subst this
          exact hv
      rcases sq with sq | sq
      · exact ix_list value slice pins s σ H _ _ v u _ I r1 r2 ⟨a, vs, i, vj, rfl, ry.int_inv, sq, hat, d, M, rj, Keep.refl, z, q⟩ hs
      · exact ix_tup value slice pins s σ H _ _ v u _ I r1 r2 ⟨a, vs, i, vj, rfl, ry.int_inv, sq, hat, d, M, rj, Keep.refl, z, q⟩ hs
    · exact h.elim
  · obtain ⟨⟨t, kvs⟩, h1, h2, h3⟩ := onS_out h
    obtain ⟨d, h3, q⟩ := onS_out h3
    obtain ⟨a, rfl, hc⟩ := dcOf_out h1
    cases rx
    cases r1
    rcases hc with ⟨rfl, hm⟩ | ⟨rfl, hm⟩
    · obtain ⟨o, hr, dt⟩ := rd_T z hm
      obtain ⟨xs, hx, hl, hsys, pr⟩ := dt.heap I hr
      have hk : okK y = true := h2
      obtain ⟨b, rfl⟩ := okK_ref hk ry
      cases r2
      rcases ent_get pr hk rfl with ⟨e1, _⟩ | ⟨d', p, e1, e2, vd, rd, rv⟩
      · have h3' : lget kvs y = some d := h3
        rw [e1] at h3'; cases h3'
      · have h3' : lget kvs y = some d := h3
        rw [e1] at h3'
        cases h3'
        refine d_tail (pins := pins) (σ := σ) hx.typeIs hs (wpAny_getItem_heap (nested_room rm.r1) (key_is I.hok hk ry) hx e2 ?_)
        exact ⟨vd, H, I.tok _, rv, d, M, rd, Keep.refl, z, q⟩
    · obtain ⟨ks, hr, pr⟩ := rd_I z hm
      obtain ⟨i, rfl⟩ := fitK_int h2
      cases ry
      rcases entI_get pr i with ⟨e1, _⟩ | ⟨d', vd, e1, e2, rd⟩
      · have h3' : lget kvs (.int i) = some d := h3
        rw [e1] at h3'; cases h3'
      · have h3' : lget kvs (.int i) = some d := h3
        rw [e1] at h3'
        cases h3'
        have g : DGet H a (kV (.inl i)) (some vd) := .inl ⟨ks, .inl i, hr, rfl, e2.symm⟩
        refine d_tail (pins := pins) (σ := σ) (dict_typeIs I g) hs (d_getItem (by have := rm.r1; omega) I g (u := u) r2 fun w' s3 I3 rw' => ?_)
        exact ⟨vd, H, I3, rw', d, M, rd, Keep.refl, z, q⟩
variable {W : WD} {a b : Expr} {ta tb : TED} {pos : Pos}
theorem de_ix {r : D → D → Mem → DK → Prop} (hr : DIx X r) (ha : DE X W a ta) (hb : DE X W b tb) (hs : PlainIx b) : DE X W (.Subscript a b pos) (dOp r ta tb) := by
  refine ⟨fun pins s σ H σD Z M K KX I rs z wi h => ?_⟩
  refine Subscript_ (run2 ha hb I rs z wi h fun v u s2 x y xv yv H2 M2 I2 k2 z2 p1 p2 r1 r2 q => ?_)
  exact thn (hr a b pins s2 σ H2 Z M2 x y xv yv v u K I2 z2 p1 p2 r1 r2 q (hs _ _)) fun _ _ e => EP.back k2 e
/-! ### in, not in -/
/-- x in y -/
def inM (M : Mem) (x y : D) : Option Bool := match sqOf M y with
  | some ys => if (okE x && ys.all okE) = true then some (decide (x ∈ ys)) else none
  | none => match dcOf M y with
    | some p => if fitK p.1 x = true then some (lget p.2 x).isSome else none
    | none => none
def inD (x y : D) (M : Mem) (K : DK) : Prop := onS (inM M x y) fun b => K (.bl b) M
def notInD (x y : D) (M : Mem) (K : DK) : Prop := onS (inM M x y) fun b => K (.bl (!b)) M
theorem any_eqv {x : D} (hx : flatE x = true) : ∀ {ys : List D}, flatEs ys = true → ((pyDs ys).any fun y => PyData.eqv y (pyD x)) = decide (x ∈ ys)
  | [], _ => by simp [pyDs]
  | y :: r, h => by
    rw [flatEs, Bool.and_eq_true] at h
    rw [pyDs, List.any_cons, any_eqv hx h.2, eqv_pyD y x h.1 hx]
    by_cases e : y = x
    · simp [e]
    · have : ¬ x = y := fun q => e q.symm
      simp [e, this]
theorem inM_ok (rm : Rm X) (neg : Bool) {pins : List (Addr × Obj)} {s : Shared} {σ : L2.St} {H Z : Hp} {M : Mem} {x y : D} {xv yv : V} {v u : Value} {bo : Bool} {Q : Value → Shared → Prop} (I : Inv X pins σ H s) (z : AbsZ X.prog X.w X.K Z M H) (rx : Rep H x xv) (ry : Rep H y yv) (r1 : L2.RelV xv v) (r2 : L2.RelV yv u)
    (h : inM M x y = some bo) (q : ∀ s', Inv X pins σ H s' → Q (.bool (if neg = true then !bo else bo)) s') : wpAny (model X.prog X.w) X.A (compareOp (if neg = true then .NotIn else .In) v u) Q X.xe s := by
  have hu := rm.r1
  unfold inM at h
  split at h
  · rename_i ys e
    split at h
    · rename_i hf
      rw [Bool.and_eq_true] at hf
      obtain ⟨f1, g1⟩ := okE_out hf.1
      obtain ⟨f2, g2⟩ := all_flat hf.2
      have hb : decide (x ∈ ys) = bo := Option.some.inj h
      obtain ⟨as, q1⟩ := reads_of I.hok x xv v f1 rx r1
      have hay := any_eqv f1 f2
      cases y with
      | tup es =>
        cases e
        obtain ⟨bs, q2⟩ := reads_of I.hok (.tup ys) yv u (by rw [flatE]; exact f2) ry r2
        rw [pyD] at q2
        cases neg with
        | false => exact SeqAt.in_tuple_reads q2 q1 (lay_pyDs ys f2) (lay_pyD x f1) (by rw [dep_pyDs, dep_pyD]; omega) (by rw [hay, hb]; exact q s I)
        | true => exact SeqAt.notIn_tuple_reads q2 q1 (lay_pyDs ys f2) (lay_pyD x f1) (by rw [dep_pyDs, dep_pyD]; omega) (by rw [hay, hb]; exact q s I)
      | ref a =>
        obtain ⟨b, its, vs, o, m, rfl, _, rp, rv, e1, e2, e3, _⟩ := lsOf_list I z (show lsOf M (.ref a) = some ys from e) ry r2
        obtain ⟨bs, q2⟩ := reads_all I.hok ys vs its f2 rp rv
        have q3 := Reads.list (h := s.heap) (a := b) e1 e2 e3 (by simpa using q2)
        cases neg with
        | false => exact SeqAt.in_list_reads q3 q1 (lay_pyDs ys f2) (lay_pyD x f1) (by rw [dep_pyDs, dep_pyD]; omega) (by rw [hay, hb]; exact q s I)
        | true => exact SeqAt.notIn_list_reads q3 q1 (lay_pyDs ys f2) (lay_pyD x f1) (by rw [dep_pyDs, dep_pyD]; omega) (by rw [hay, hb]; exact q s I)
      | non => cases e
      | bl _ => cases e
      | int _ => cases e
      | str _ => cases e
      | ty _ => cases e
    · cases h
  · split at h
    · rename_i p hp
      obtain ⟨t, kvs⟩ := p
      split at h
      · rename_i hfit
        have hb : (lget kvs x).isSome = bo := Option.some.inj h
        obtain ⟨a, rfl, hc⟩ := dcOf_out hp
        cases ry
        cases r2
        rcases hc with ⟨rfl, hm⟩ | ⟨rfl, hm⟩
        · obtain ⟨o, hr, dt⟩ := rd_T z hm
          obtain ⟨xs, hx, hl, hsys, pr⟩ := dt.heap I hr
          have hk : okK x = true := hfit
          obtain ⟨b, rfl⟩ := okK_ref hk rx
          cases r1
          have he : (atKey xs (keyD x)).isSome = bo := by
            rw [← hb]
            rcases ent_get pr hk rfl with ⟨e1, e2⟩ | ⟨d', p, e1, e2, _⟩ <;> rw [e1, e2] <;> rfl
          cases neg with
          | false => exact wpAny_in_heap (nested_room hu) (key_is I.hok hk rx) hsys hx (by rw [he]; exact q _ (I.tok _))
          | true =>
            show wpAny _ _ (do return .bool (!(← contains (.ref a) (.ref b)))) Q _ s
            refine wpAny_bind (wpAny_contains_heap (nested_room hu) (key_is I.hok hk rx) hsys hx (wpAny_pure ?_))
            rw [he]; exact q _ (I.tok _)
        · obtain ⟨ks, hr, pr⟩ := rd_I z hm
          obtain ⟨i, rfl⟩ := fitK_int hfit
          cases rx
          have he : (valV ks (.inl i)).isSome = bo := by
            rw [← hb]
            rcases entI_get pr i with ⟨e1, e2⟩ | ⟨d', vd, e1, e2, _⟩ <;> rw [e1, e2] <;> rfl
          have g : DGet H a (kV (.inl i)) (valV ks (.inl i)) := .inl ⟨ks, .inl i, hr, rfl, rfl⟩
          cases neg with
          | false => exact d_in (by omega) I g r1 fun s' I' => by rw [he]; exact q s' I'
          | true => exact d_notIn (by omega) I g r1 fun s' I' => by rw [he]; exact q s' I'
      · cases h
    · cases h
theorem dop_in (rm : Rm X) : DOp X (compareOp .In) inD := by
  intro pins s σ H Z M x y xv yv v u K I z rx ry r1 r2 h
  obtain ⟨b, hb, q⟩ := onS_out h
  exact inM_ok rm false I z rx ry r1 r2 hb fun s' I' => ⟨.bl b, H, I', rfl, .bl b, M, .bl b, Keep.refl, z, q⟩
theorem dop_notIn (rm : Rm X) : DOp X (compareOp .NotIn) notInD := by
  intro pins s σ H Z M x y xv yv v u K I z rx ry r1 r2 h
  obtain ⟨b, hb, q⟩ := onS_out h
  exact inM_ok rm true I z rx ry r1 r2 hb fun s' I' => ⟨.bl (!b), H, I', rfl, .bl (!b), M, .bl (!b), Keep.refl, z, q⟩
end
end DL
/-! # The D-layer: slices, is, calls of what is built in -/
namespace DL
open PySem PySem.Spec PyProof.Rows L2
/-! ### is, is not -/
section
variable {X : Cx}
theorem dop_is : DOp X (compareOp .Is) isD := by
  refine ((DOp.of (rd := fun x y M K => y = .non ∧ K (.bl (decide (x = .non))) M) op_isN fun H Z M x y xv yv K z rx ry q => ?_).or
    (DOp.of (rd := fun x y M K => ∃ a b : Bool, x = .bl a ∧ y = .bl b ∧ K (.bl (decide (a = b))) M) op_isBl fun H Z M x y xv yv K z rx ry q => ?_)).imp fun x y M K h => ?_
  · obtain ⟨rfl, q⟩ := q
    exact ⟨ry.non_inv, by rw [rep_non rx]; exact liftN_id z (.bl _) q⟩
  · obtain ⟨a, b, rfl, rfl, q⟩ := q
    exact ⟨a, b, rx.bl_inv, ry.bl_inv, liftN_id z (.bl _) q⟩
  · unfold isD at h
    split at h
    · exact .inl ⟨rfl, h⟩
    · split at h
      · exact .inr ⟨_, _, rfl, rfl, h⟩
      · exact h.elim
    · exact h.elim
theorem dop_isnot : DOp X (compareOp .IsNot) isnotD := by
  refine ((DOp.of (rd := fun x y M K => y = .non ∧ K (.bl (!decide (x = .non))) M) op_notN fun H Z M x y xv yv K z rx ry q => ?_).or
    (DOp.of (rd := fun x y M K => ∃ a b : Bool, x = .bl a ∧ y = .bl b ∧ K (.bl (!decide (a = b))) M) op_notBl fun H Z M x y xv yv K z rx ry q => ?_)).imp fun x y M K h => ?_
  · obtain ⟨rfl, q⟩ := q
    exact ⟨ry.non_inv, by rw [rep_non rx]; exact liftN_id z (.bl _) q⟩
  · obtain ⟨a, b, rfl, rfl, q⟩ := q
    exact ⟨a, b, rx.bl_inv, ry.bl_inv, liftN_id z (.bl _) q⟩
  · unfold isnotD at h
    split at h
    · exact .inl ⟨rfl, h⟩
    · split at h
      · exact .inr ⟨_, _, rfl, rfl, h⟩
      · exact h.elim
    · exact h.elim
end
/-! ### unary minus -/
def dNeg (ta : TED) : TED := fun σ M K KX => ta σ M (fun x M1 => match x with
  | .int i => K (.int (-i)) M1
  | _ => False) KX
section
variable {X : Cx} {W : WD} {pos : Pos} {a : Expr} {ta : TED}
theorem de_neg (ha : DE X W a ta) : DE X W (.UnaryOp .USub a pos) (dNeg ta) := by
  refine ⟨fun pins s σ H σD Z M K KX I rs z wi h => ?_⟩
  refine UnaryOp_ (thn (ha.run pins s σ H σD Z M _ KX I rs z wi h) fun v s1 ⟨x, H1, I1, r1, d, M1, p1, k1, z1, q1⟩ => ?_)
  dsimp only at q1
  split at q1
  · rename_i i
    cases p1
    exact thn (un_neg pins s1 σ H1 _ v (liftN X H1 Z K) I1 r1 ⟨i, rfl, liftN_id z1 (.int _) q1⟩) fun _ _ e => EP.back k1 (EP.ofN e)
  · exact q1.elim
end
/-! ### slices -/
def cutL {α : Type} (xs : List α) (lo hi : Option Int) : List α := (xs.drop (HT.sIx xs.length 0 lo)).take (HT.sIx xs.length xs.length hi - HT.sIx xs.length 0 lo)
theorem Reps.cut {H : Hp} {ds : List D} {vs : List V} (r : Reps H ds vs) (lo hi : Option Int) : Reps H (cutL ds lo hi) (cutV vs lo hi) := by
  unfold cutL cutV
  rw [r.length]
  exact (r.drop _).take _
abbrev TOD := DSt → Mem → (Option Int → Mem → Prop) → DX → Prop
structure DO_ (X : Cx) (W : WD) (e : Option Expr) (t : TOD) : Prop where
  run : ∀ (pins : List (Addr × Obj)) (s : Shared) (σ : L2.St) (H : Hp) (σD : DSt) (Z : Hp) (M : Mem) (K : Option Int → Mem → Prop) (KX : DX), Inv X pins σ H s → RS H σD σ → AbsZ X.prog X.w X.K Z M H → Wish X.prog X.w X.K W σ H Z KX → t σD M K KX →
    wpAny (model X.prog X.w) X.A (evalPart e X.env) (fun u s' => ∃ o H' M', Inv X pins σ H' s' ∧ IsPart u o ∧ Keep H H' ∧ AbsZ X.prog X.w X.K Z M' H' ∧ K o M') X.xe s
def oNone : TOD := fun _ M K _ => K none M
def oSome (t : TED) : TOD := fun σ M K KX => t σ M (fun x M1 => match x with
  | .int i => K (some i) M1
  | _ => False) KX
def slD (x : D) (lo hi : Option Int) (M : Mem) (K : DK) : Prop := onS (lsOf M x) fun xs => ∀ p, M p = none → K (.ref p) (up M p (.lst (cutL xs lo hi)))
def dSl (te : TED) (tl th : TOD) : TED := fun σ M K KX => te σ M (fun x M1 => tl σ M1 (fun l M2 => th σ M2 (fun u M3 => slD x l u M3 K) KX) KX) KX
section
variable {X : Cx} {W : WD} {pos p2 : Pos} {e : Expr} {te : TED} {lo hi : Option Expr} {tl th : TOD}
theorem do_none : DO_ X W none oNone := by
  refine ⟨fun pins s σ H σD Z M K KX I rs z wi h => ?_⟩
  rw [evalPart_none]
  exact wpAny_pure ⟨none, H, M, I, .none, Keep.refl, z, h⟩
theorem do_some (he : DE X W e te) : DO_ X W (some e) (oSome te) := by
  refine ⟨fun pins s σ H σD Z M K KX I rs z wi h => ?_⟩
  rw [evalPart_some]
  refine thn (he.run pins s σ H σD Z M _ KX I rs z wi h) fun u s1 ⟨x, H1, I1, r1, d, M1, p1, k1, z1, q1⟩ => ?_
  dsimp only at q1
  split at q1
  · rename_i i
    cases p1
    obtain ⟨t, rfl⟩ := r1
    exact ⟨some i, H1, M1, I1, .int i t, k1, z1, q1⟩
  · exact q1.elim
theorem de_slice (he : DE X W e te) (hl : DO_ X W lo tl) (hu : DO_ X W hi th) : DE X W (.Subscript e (.Slice lo hi none p2) pos) (dSl te tl th) := by
  refine ⟨fun pins s σ H σD Z M K KX I rs z wi h => ?_⟩
  refine Subscript_ (thn (he.run pins s σ H σD Z M _ KX I rs z wi h) fun v s1 ⟨xv, H1, I1, r1, x, M1, p1, k1, z1, q1⟩ => ?_)
  refine wpAny_Slice (thn (hl.run pins s1 σ H1 σD Z M1 _ KX I1 (rs.keep k1) z1 (wi.keep k1) q1) fun vl s2 ⟨l, H2, M2, I2, pl, k2, z2, q2⟩ => thn (hu.run pins s2 σ H2 σD Z M2 _ KX I2 (rs.keep (k1.trans k2)) z2 (wi.keep (k1.trans k2)) q2) fun vu s3 ⟨u, H3, M3, I3, pu, k3, z3, q3⟩ => ?_)
  rw [evalPart_none]
  refine wpAny_pure ?_
  have I4 : Inv X pins σ H3 { s3 with heap := s3.heap.push { cls := .type "slice", data := .fields #[vl, vu, .none] } } := I3.kept (t' := s3.toks) fun b ob q => Heap.get?_push_of_some _ q
  obtain ⟨xs, hx, q⟩ := onS_out q3
  have p3 := (p1.keep k2).keep k3
  obtain ⟨a, vs, rfl, rfl, sq, rp⟩ := lsOf_sql z3 p3 hx
  obtain ⟨T, id, hT, ht, hg⟩ := sl_list pins { s3 with heap := s3.heap.push { cls := .type "slice", data := .fields #[vl, vu, .none] } } σ H3 _ v vl vu l u s3.heap.objs.size (liftN X H3 Z K) I4 r1 (Heap.IsSliceOf.new ..) pl pu
    ⟨a, vs, rfl, sq, fun p hp nk => ⟨D.ref p, _, .ref p, new_keep hp, z3.add (o := .lst (cutL xs l u)) hp ⟨_, upd_same, (rp.cut l u).keep (new_keep hp)⟩, q p (z3.nope hp (nk p _ upd_same))⟩⟩
  show wpAny (model X.prog X.w) X.A (subscriptTail e (.Slice lo hi none p2) v (.ref s3.heap.objs.size)) _ X.xe { s3 with heap := s3.heap.push { cls := .type "slice", data := .fields #[vl, vu, .none] } }
  refine tail_any (ops := [.ref s3.heap.objs.size, v]) ht hT (thn hg fun _ _ e => EP.back ((k1.trans k2).trans k3) (EP.ofN e)) (by with_unfolding_all rfl)
end
/-! ### calls by values -/
/-- a call of what is built in -/
def DCall (X : Cx) (f : Value) (r : List D → Mem → DK → Prop) : Prop :=
  ∀ (pins : List (Addr × Obj)) (s : Shared) (σ : L2.St) (H Z : Hp) (M : Mem) (ds : List D) (vs : List V) (us : List Value) (K : DK), Inv X pins σ H s → AbsZ X.prog X.w X.K Z M H → Reps H ds vs → Vals vs us → r ds M K →
    wpAny (model X.prog X.w) X.A (call f us) (EP X pins σ (lift X.prog X.w X.K H Z K)) X.xe s
def dCB (r : List D → Mem → DK → Prop) (t : TAD) : TED := fun σ M K KX => t σ M (fun ds M1 => r ds M1 K) KX
section
variable {X : Cx} {W : WD}
theorem DCall.of {f : Value} {r : List V → Hp → VK → Prop} {rd : List D → Mem → DK → Prop} (h : CallR X f r)
    (hl : ∀ (H Z : Hp) (M : Mem) (ds : List D) (vs : List V) (K : DK), AbsZ X.prog X.w X.K Z M H → Reps H ds vs → rd ds M K → r vs H (liftN X H Z K)) : DCall X f rd :=
  fun pins s σ H Z M ds vs us K I z rp rv q => thn (h pins s σ H vs us _ I rv (hl H Z M ds vs K z rp q)) fun _ _ e => EP.ofN e
theorem DCall.or {f : Value} {r r' : List D → Mem → DK → Prop} (h : DCall X f r) (h' : DCall X f r') : DCall X f (fun ds M K => r ds M K ∨ r' ds M K) :=
  fun pins s σ H Z M ds vs us K I z rp rv q => q.elim (fun q => h pins s σ H Z M ds vs us K I z rp rv q) (fun q => h' pins s σ H Z M ds vs us K I z rp rv q)
theorem DCall.imp {f : Value} {r r' : List D → Mem → DK → Prop} (h : DCall X f r) (hi : ∀ ds M K, r' ds M K → r ds M K) : DCall X f r' :=
  fun pins s σ H Z M ds vs us K I z rp rv q => h pins s σ H Z M ds vs us K I z rp rv (hi _ _ _ q)
theorem DCall.none {f : Value} : DCall X f (fun _ _ _ => False) := fun _ _ _ _ _ _ _ _ _ _ _ _ _ _ q => q.elim
variable {x : Str} {p pos : Pos} {e : Expr} {es : List Expr} {t : TAD} {id T : String} {r : List D → Mem → DK → Prop}
theorem de_callB (hc : DCall X (.builtin id) r) (hg : Gl X x) (hm : X.mg x = none) (hv : bootBuiltins x = some (.builtin id)) (ha : DA X W (e :: es) t) (hn : x ≠ "__name__") (hdb : (x == ("__debug__" : Str)) = false)
    (he : starEach (e :: es) X.env = (false, eval e X.env) :: starEach es X.env) (hpl : (backTo pos (starEach es X.env)).any (·.1) = false) : DE X W (.Call (.Name x p) (e :: es) [] pos) (dCB r t) := by
  refine ⟨fun pins s σ H σD Z M K KX I rs z wi h => ?_⟩
  refine wpAny_Call_Name_kw (ld_blt I hg hm hv ?_ hn hdb)
  exact PyProof.Rows.callWith_builtin1 (ha.pa pos I rs z wi h fun us s1 vs H1 ds M1 I1 r1 p1 k1 z1 q1 => thn (hc pins s1 σ H1 Z M1 ds vs us K I1 z1 p1 r1 q1) fun _ _ e => EP.back k1 e) he hpl
theorem de_callTy (hc : DCall X (.type T) r) (hg : Gl X x) (hm : X.mg x = none) (hv : bootBuiltins x = some (.type T)) (ha : DA X W (e :: es) t) (hn : x ≠ "__name__") (hdb : (x == ("__debug__" : Str)) = false)
    (he : starEach (e :: es) X.env = (false, eval e X.env) :: starEach es X.env) (hpl : (backTo pos (starEach es X.env)).any (·.1) = false) : DE X W (.Call (.Name x p) (e :: es) [] pos) (dCB r t) := by
  refine ⟨fun pins s σ H σD Z M K KX I rs z wi h => ?_⟩
  refine wpAny_Call_Name_kw (ld_blt I hg hm hv ?_ hn hdb)
  exact PyProof.Rows.callWith_type1 (ha.pa pos I rs z wi h fun us s1 vs H1 ds M1 I1 r1 p1 k1 z1 q1 => thn (hc pins s1 σ H1 Z M1 ds vs us K I1 z1 p1 r1 q1) fun _ _ e => EP.back k1 e) he hpl
end
end DL
/-! # The D-layer: what is built in, called -/
namespace DL
open PySem PySem.Spec PyProof.Rows L2
theorem vals_one {H : Hp} {d : D} {vs : List V} {us : List Value} (rp : Reps H [d] vs) (rv : Vals vs us) : ∃ v u, us = [u] ∧ Rep H d v ∧ L2.RelV v u := by
  obtain ⟨v, rfl, r⟩ := rp.one
  cases rv with
  | cons r1 t => cases t; exact ⟨v, _, rfl, r, r1⟩
theorem vals_two {H : Hp} {d e : D} {vs : List V} {us : List Value} (rp : Reps H [d, e] vs) (rv : Vals vs us) : ∃ v v' u u', us = [u, u'] ∧ Rep H d v ∧ L2.RelV v u ∧ Rep H e v' ∧ L2.RelV v' u' := by
  obtain ⟨v, v', rfl, r, r'⟩ := rp.two
  cases rv with
  | cons r1 t =>
    cases t with
    | cons r2 t => cases t; exact ⟨v, v', _, _, rfl, r, r1, r', r2⟩
section
variable {X : Cx} {pins : List (Addr × Obj)} {s : Shared} {σ : L2.St} {H Z : Hp} {M : Mem}
theorem sqOf_val (I : Inv X pins σ H s) (z : AbsZ X.prog X.w X.K Z M H) {x : D} {xv : V} {u : Value} {ds : List D} (h : sqOf M x = some ds) (r : Rep H x xv) (rv : L2.RelV xv u) :
    ∃ a vs, u = .ref a ∧ xv = .ref a ∧ (SqL X.K H a vs ∨ SqT X.K H a vs) ∧ Reps H ds vs := by
  obtain ⟨a, vs, rfl, h1, h2⟩ := sqOf_seq z r h
  cases rv
  exact ⟨a, vs, rfl, rfl, h1, h2⟩
/-- a dict as it stands in the model's heap: its entries -/
structure DcRaw (X : Cx) (H : Hp) (h : Heap) (a : Addr) (kvs : List (D × D)) (o : Obj) (es : Array DictEntry) (ep : Nat) : Prop where
  at_ : h.get? a = some o
  ex : o.ExactDict
  dat : o.data = .dict es ep
  sz : es.size = kvs.length
  le : kvs.length ≤ sizeLine
  sys : (a == sysModules) = false
  en : ∀ (i : Nat) (kv : D × D) (e : DictEntry), kvs[i]? = some kv → es[i]? = some e → (∃ v, Rep H kv.1 v ∧ L2.RelV v e.key) ∧ ∃ v, Rep H kv.2 v ∧ L2.RelV v e.val
theorem Paired.at' {α β : Type} {F : α → β → Prop} : ∀ {l₁ : List α} {l₂ : List β}, Paired F l₁ l₂ → ∀ (i : Nat) (a : α), l₁[i]? = some a → ∃ b, l₂[i]? = some b ∧ F a b
  | _, _, .nil, _, _, e => by simp at e
  | _, _, .cons h t, 0, _, e => by simp at e; subst e; exact ⟨_, rfl, h⟩
  | _, _, .cons h t, i + 1, a, e => by
    obtain ⟨b, h1, h2⟩ := Paired.at' t i a (by simpa using e)
    exact ⟨b, by simpa using h1, h2⟩
theorem raw_T (I : Inv X pins σ H s) {a : Addr} {kvs : List (D × D)} {o : HO} (r : Rd H a o) (d : DctT X.prog X.w H a kvs o) : ∃ ob es ep, DcRaw X H s.heap a kvs ob es ep := by
  obtain ⟨xs, hx, hl, hsys, pr⟩ := DctT.heap I r d
  obtain ⟨es, ep, ⟨ob, e1, e2, e3⟩, hs, hent⟩ := hx.raw
  refine ⟨ob, es, ep, e1, e2, e3, by rw [hs]; exact (ent_length pr).symm, hl, hsys, fun i kv e h1 h2 => ?_⟩
  obtain ⟨y, q1, q2⟩ := Paired.at' pr i kv h1
  have hi : i < es.size := by
    rcases Nat.lt_or_ge i es.size with h | h
    · exact h
    · rw [Array.getElem?_eq_none h] at h2; cases h2
  obtain ⟨y', q3, q4, q5, _⟩ := hent i hi
  rw [Array.getElem?_eq_getElem hi] at h2
  cases h2
  rw [q1] at q3
  cases q3
  rw [q4, q5]
  exact ⟨⟨_, q2.rep, rfl⟩, q2.val⟩
theorem raw_I (I : Inv X pins σ H s) {a : Addr} {kvs : List (D × D)} {ks : List (Key × V)} (r : Rd H a (.dK ks)) (pr : Paired (EntI H) kvs ks) : ∃ ob es ep, DcRaw X H s.heap a kvs ob es ep := by
  obtain ⟨z, lo, vs, rel, dd⟩ := dk_rd I.hok r
  obtain ⟨es, ep, ⟨ob, e1, e2, e3⟩, hs, hent⟩ := dd.raw
  have l1 : kvs.length = ks.length := Paired.length pr
  have l2 : ks.length = vs.length := Paired.length rel
  refine ⟨ob, es, ep, e1, e2, e3, by rw [hs]; omega, by omega, lo, fun i kv e h1 h2 => ?_⟩
  obtain ⟨y, q1, q2⟩ := Paired.at' pr i kv h1
  obtain ⟨y', q3, q4⟩ := Paired.at' rel i y q1
  have hi : i < es.size := by
    rcases Nat.lt_or_ge i es.size with h | h
    · exact h
    · rw [Array.getElem?_eq_none h] at h2; cases h2
  obtain ⟨q5, q6⟩ := hent i hi y'.1 y'.2 q3
  rw [Array.getElem?_eq_getElem hi] at h2
  cases h2
  obtain ⟨j, e4, e5⟩ := intK_out q2.1
  have hk := keyIs_rel (show keyIs y'.1 es[i].key = true from q5)
  rw [← q4.1, e5] at hk
  exact ⟨⟨.int j, by rw [e4]; exact .int j, hk⟩, ⟨y.2, q2.2, by rw [q6]; exact q4.2⟩⟩
theorem dc_raw (I : Inv X pins σ H s) (z : AbsZ X.prog X.w X.K Z M H) {x : D} {xv : V} {u : Value} {t : Bool} {kvs : List (D × D)} (h : dcOf M x = some (t, kvs)) (r : Rep H x xv) (rv : L2.RelV xv u) :
    ∃ a ob es ep, u = .ref a ∧ x = .ref a ∧ xv = .ref a ∧ DcRaw X H s.heap a kvs ob es ep := by
  obtain ⟨a, rfl, hc⟩ := dcOf_out h
  cases r
  cases rv
  rcases hc with ⟨rfl, hm⟩ | ⟨rfl, hm⟩
  · obtain ⟨o, hr, dt⟩ := rd_T z hm
    obtain ⟨ob, es, ep, q⟩ := raw_T I hr dt
    exact ⟨a, ob, es, ep, rfl, rfl, rfl, q⟩
  · obtain ⟨ks, hr, pr⟩ := rd_I z hm
    obtain ⟨ob, es, ep, q⟩ := raw_I I hr pr
    exact ⟨a, ob, es, ep, rfl, rfl, rfl, q⟩
end
/-! ### len, list, tuple, abs, int -/
def lenD (ds : List D) (M : Mem) (K : DK) : Prop := match ds with
  | [x] => match sqOf M x with
    | some xs => K (.int xs.length) M
    | none => onS (dcOf M x) fun p => K (.int p.2.length) M
  | _ => False
def listD (ds : List D) (M : Mem) (K : DK) : Prop := match ds with
  | [x] => match sqOf M x with
    | some xs => ∀ p, M p = none → K (.ref p) (up M p (.lst xs))
    | none => onS (dcOf M x) fun q => ∀ p, M p = none → K (.ref p) (up M p (.lst (q.2.map (·.1))))
  | _ => False
def tupleD (ds : List D) (M : Mem) (K : DK) : Prop := match ds with
  | [x] => onS (sqOf M x) fun xs => K (.tup xs) M
  | _ => False
def absD (ds : List D) (M : Mem) (K : DK) : Prop := match ds with
  | [.int i] => K (.int (if i < 0 then -i else i)) M
  | _ => False
def intD (ds : List D) (M : Mem) (K : DK) : Prop := match ds with
  | [.int i] => K (.int i) M
  | [.bl b] => K (.int (if b then 1 else 0)) M
  | _ => False
section
variable {X : Cx}
theorem dc_len : DCall X (.builtin "len") lenD := by
  intro pins s σ H Z M ds vs us K I z rp rv h
  unfold lenD at h
  split at h
  · rename_i x
    obtain ⟨v, u, rfl, r1, r2⟩ := vals_one rp rv
    split at h
    · rename_i xs hx
      obtain ⟨a, ws, rfl, rfl, sq, rw_⟩ := sqOf_val I z hx r1 r2
      exact thn (call_len_seq pins s σ H [.ref a] [.ref a] (liftN X H Z K) I (.cons rfl .nil) ⟨a, ws, rfl, sq, liftN_id z (d := .int xs.length) (by rw [rw_.length]; exact .int _) h⟩) fun _ _ e => EP.ofN e
    · obtain ⟨⟨t, kvs⟩, hd, q⟩ := onS_out h
      have hb := line63
      obtain ⟨a, rfl, hc⟩ := dcOf_out hd
      cases r1
      cases r2
      rcases hc with ⟨rfl, hm⟩ | ⟨rfl, hm⟩
      · obtain ⟨o, hr, dt⟩ := rd_T z hm
        obtain ⟨xs, hx, hl, hsys, pr⟩ := dt.heap I hr
        have he := ent_length pr
        refine call_len_dictH hsys hx (by omega) ⟨.int kvs.length, H, I.tok _, ⟨_, by rw [he]⟩, .int kvs.length, M, .int _, Keep.refl, z, q⟩
      · obtain ⟨ks, hr, pr⟩ := rd_I z hm
        obtain ⟨zz, lo, vs', rel, dd⟩ := dk_rd I.hok hr
        have l1 : kvs.length = ks.length := Paired.length pr
        have l2 : ks.length = vs'.length := Paired.length rel
        exact call_len_dict lo dd (by omega) ⟨.int kvs.length, H, I.tok _, ⟨_, by rw [l1, l2]⟩, .int kvs.length, M, .int _, Keep.refl, z, q⟩
  · exact h.elim
/-- the keys of a dict, walked -/
theorem keys_vals {H : Hp} {h : Heap} {a : Addr} {kvs : List (D × D)} {o : Obj} {es : Array DictEntry} {ep : Nat} (dr : DcRaw X H h a kvs o es ep) {acc : Array Value} (hi : ItemsOf (fun i v => ∃ en : DictEntry, es[i]? = some en ∧ v = en.key) acc es.size) :
    ∃ vs, Reps H (kvs.map (·.1)) vs ∧ Vals vs acc.toList := by
  have key : ∀ (n : Nat) (ks : List (D × D)) (us : List Value), ks.length = us.length → (∀ (j : Nat) (kv : D × D) (u : Value), ks[j]? = some kv → us[j]? = some u → ∃ v, Rep H kv.1 v ∧ L2.RelV v u) → ∃ vs, Reps H (ks.map (·.1)) vs ∧ Vals vs us := by
    intro n ks
    induction ks with
    | nil => intro us hl _; cases us with
      | nil => exact ⟨[], .nil, .nil⟩
      | cons _ _ => simp at hl
    | cons k r ih => intro us hl hf; cases us with
      | nil => simp at hl
      | cons u us =>
        obtain ⟨v, h1, h2⟩ := hf 0 k u rfl rfl
        obtain ⟨vs, h3, h4⟩ := ih us (by simpa using hl) fun j kv u' e1 e2 => hf (j + 1) kv u' (by simpa using e1) (by simpa using e2)
        exact ⟨v :: vs, .cons h1 h3, .cons h2 h4⟩
  have hl : kvs.length = acc.toList.length := by
    have h1 := hi.1
    have h2 := dr.sz
    have h3 : acc.toList.length = acc.size := Array.length_toList
    omega
  refine key 0 kvs acc.toList hl fun j kv u e1 e2 => ?_
  obtain ⟨en, h1, rfl⟩ := hi.2 j u (by rw [← Array.getElem?_toList]; exact e2)
  exact (dr.en j kv en e1 h1).1
theorem dc_list (rm : Rm X) : DCall X (.type "list") listD := by
  intro pins s σ H Z M ds vs us K I z rp rv h
  unfold listD at h
  split at h
  · rename_i x
    obtain ⟨v, u, rfl, r1, r2⟩ := vals_one rp rv
    split at h
    · rename_i xs hx
      obtain ⟨a, ws, rfl, rfl, sq, rw_⟩ := sqOf_val I z hx r1 r2
      exact thn (call_list_of pins s σ H [.ref a] [.ref a] (liftN X H Z K) I (.cons rfl .nil) ⟨a, ws, rfl, sq, fun l hl nk => ⟨.ref l, _, .ref l, new_keep hl, z.add (o := .lst xs) hl ⟨ws, upd_same, rw_.keep (new_keep hl)⟩, h l (z.nope hl (nk l _ upd_same))⟩⟩) fun _ _ e => EP.ofN e
    · obtain ⟨⟨t, kvs⟩, hd, q⟩ := onS_out h
      obtain ⟨a, ob, es, ep, rfl, rfl, rfl, dr⟩ := dc_raw I z hd r1 r2
      refine PySem.W.kdl_call (kdl_raw dr.sys dr.ex dr.dat) (I.ok.hd rm.calm) dr.at_ (by rw [dr.sz]; exact dr.le) fun h' tk acc c' hk hS hacc => ?_
      obtain ⟨ws, w1, w2⟩ := keys_vals dr hacc
      exact laid_list I z w1 (Nat.le_refl _) hk ⟨by rw [← w1.length, List.length_map]; exact dr.le, acc.toList, c', w2, by rw [Array.toArray_toList]; exact hS⟩ q
  · exact h.elim
theorem dc_tuple : DCall X (.type "tuple") tupleD := by
  intro pins s σ H Z M ds vs us K I z rp rv h
  unfold tupleD at h
  split at h
  · rename_i x
    obtain ⟨xs, hx, q⟩ := onS_out h
    obtain ⟨v, u, rfl, r1, r2⟩ := vals_one rp rv
    obtain ⟨a, ws, rfl, rfl, sq, rw_⟩ := sqOf_val I z hx r1 r2
    rcases sq with sq | sq
    · refine thn (call_tuple_of pins s σ H [.ref a] [.ref a] (liftN X H Z K) I (.cons rfl .nil) ⟨a, ws, rfl, .inl ⟨sq, fun l hl nk => ?_⟩⟩) fun _ _ e => EP.ofN e
      exact ⟨.tup xs, M, .tup upd_same (rw_.keep (new_keep hl)), new_keep hl, z.tup hl, q⟩
    · cases x with
      | tup es =>
        cases hx
        exact thn (call_tuple_of pins s σ H [.ref a] [.ref a] (liftN X H Z K) I (.cons rfl .nil) ⟨a, ws, rfl, .inr ⟨sq, liftN_id z r1 q⟩⟩) fun _ _ e => EP.ofN e
      | ref b =>
        exfalso
        obtain ⟨c, ws', e1, e2, sq', _⟩ := lsOf_sql z r1 (show lsOf M (.ref b) = some xs from hx)
        cases e2
        obtain ⟨its, _, hl, _⟩ := I.list sq'
        obtain ⟨its', _, ht, _⟩ := I.tuple sq
        obtain ⟨o, _, g1, g2, _⟩ := hl
        obtain ⟨o', g3, g4, _⟩ := ht
        rw [g1] at g3
        cases g3
        rw [g2] at g4
        exact absurd (Value.type.inj g4) (by decide)
      | non => cases hx
      | bl _ => cases hx
      | int _ => cases hx
      | str _ => cases hx
      | ty _ => cases hx
  · exact h.elim
theorem dc_abs : DCall X (.builtin "abs") absD := DCall.of call_abs fun H Z M ds vs K z rp q => by
  unfold absD at q
  split at q
  · obtain ⟨v, rfl, r⟩ := rp.one
    exact ⟨_, by rw [r.int_inv], liftN_id z (.int _) q⟩
  · exact q.elim
theorem dc_int : DCall X (.type "int") intD := DCall.of call_int1 fun H Z M ds vs K z rp q => by
  unfold intD at q
  split at q
  · obtain ⟨v, rfl, r⟩ := rp.one
    exact .inl ⟨_, by rw [r.int_inv], liftN_id z (.int _) q⟩
  · obtain ⟨v, rfl, r⟩ := rp.one
    exact .inr ⟨_, by rw [r.bl_inv], liftN_id z (.int _) q⟩
  · exact q.elim
/-! ### sum, min, max, divmod -/
def intsD : List D → Option (List Int)
  | [] => some []
  | .int i :: r => (intsD r).map (i :: ·)
  | _ :: _ => none
theorem intsD_out : ∀ {ds : List D} {ns : List Int}, intsD ds = some ns → ds = ns.map D.int
  | [], ns, h => by cases h; rfl
  | .int i :: r, ns, h => by
    rw [intsD, Option.map_eq_some_iff] at h
    obtain ⟨m, h, rfl⟩ := h
    rw [intsD_out h]; rfl
  | .non :: _, _, h => by simp [intsD] at h
  | .bl _ :: _, _, h => by simp [intsD] at h
  | .str _ :: _, _, h => by simp [intsD] at h
  | .tup _ :: _, _, h => by simp [intsD] at h
  | .ref _ :: _, _, h => by simp [intsD] at h
  | .ty _ :: _, _, h => by simp [intsD] at h
theorem intsD_map : ∀ ns : List Int, intsD (ns.map D.int) = some ns
  | [] => rfl
  | n :: r => by rw [List.map_cons, intsD, intsD_map r]; rfl
def maxI : List Int → Int
  | [] => 0
  | [a] => a
  | a :: b :: r => max a (maxI (b :: r))
def minI : List Int → Int
  | [] => 0
  | [a] => a
  | a :: b :: r => min a (minI (b :: r))
theorem maxI_mem : ∀ (ns : List Int), 0 < ns.length → maxI ns ∈ ns ∧ ∀ y ∈ ns, y ≤ maxI ns
  | [], h => absurd h (by simp)
  | [a], _ => ⟨List.mem_cons_self, fun y hy => by simp at hy; rw [hy]; exact Int.le_refl _⟩
  | a :: b :: r, _ => by
    obtain ⟨h1, h2⟩ := maxI_mem (b :: r) (by simp)
    rw [maxI]
    constructor
    · by_cases h : a ≤ maxI (b :: r)
      · rw [Int.max_eq_right h]; exact List.mem_cons_of_mem _ h1
      · rw [Int.max_eq_left (by omega)]; exact List.mem_cons_self
    · intro y hy
      rcases List.mem_cons.mp hy with rfl | hy
      · exact Int.le_max_left _ _
      · exact Int.le_trans (h2 y hy) (Int.le_max_right _ _)
theorem minI_mem : ∀ (ns : List Int), 0 < ns.length → minI ns ∈ ns ∧ ∀ y ∈ ns, minI ns ≤ y
  | [], h => absurd h (by simp)
  | [a], _ => ⟨List.mem_cons_self, fun y hy => by simp at hy; rw [hy]; exact Int.le_refl _⟩
  | a :: b :: r, _ => by
    obtain ⟨h1, h2⟩ := minI_mem (b :: r) (by simp)
    rw [minI]
    constructor
    · by_cases h : a ≤ minI (b :: r)
      · rw [Int.min_eq_left h]; exact List.mem_cons_self
      · rw [Int.min_eq_right (by omega)]; exact List.mem_cons_of_mem _ h1
    · intro y hy
      rcases List.mem_cons.mp hy with rfl | hy
      · exact Int.min_le_left _ _
      · exact Int.le_trans (Int.min_le_right _ _) (h2 y hy)
def sumD (ds : List D) (M : Mem) (K : DK) : Prop := match ds with
  | [x] => onS (lsOf M x) fun xs => onS (intsD xs) fun ns => K (.int ns.sum) M
  | _ => False
theorem dc_sum (rm : Rm X) : DCall X (.builtin "sum") sumD := DCall.of (cr_sum rm.calm) fun H Z M ds vs K z rp q => by
  unfold sumD at q
  split at q
  · obtain ⟨v, rfl, r⟩ := rp.one
    obtain ⟨xs, hx, q1⟩ := onS_out q
    obtain ⟨ns, hn, q2⟩ := onS_out q1
    clear q q1
    obtain ⟨a, ws, rfl, rfl, sq, rw_⟩ := lsOf_sql z r hx
    rw [intsD_out hn] at rw_
    exact ⟨a, ns, rfl, by rw [← rw_.ints]; exact sq, liftN_id z (.int _) q2⟩
  · exact q.elim
theorem max_uniq {ns : List Int} {m : Int} (h : 0 < ns.length) (h1 : m ∈ ns) (h2 : ∀ y ∈ ns, y ≤ m) : m = maxI ns := by
  obtain ⟨a, b⟩ := maxI_mem ns h
  exact Int.le_antisymm (b m h1) (h2 _ a)
theorem min_uniq {ns : List Int} {m : Int} (h : 0 < ns.length) (h1 : m ∈ ns) (h2 : ∀ y ∈ ns, m ≤ y) : m = minI ns := by
  obtain ⟨a, b⟩ := minI_mem ns h
  exact Int.le_antisymm (h2 _ a) (b m h1)
end
end DL
/-! # The D-layer: min, max, divmod, isinstance, sorted -/
namespace DL
open PySem PySem.Spec PyProof.Rows L2
/-! ### min, max of two values that are alike -/
section
variable {prog : Program} {w : World} {A : Around} {E : Value → Shared → Prop} {s : Shared}
theorem min_twoH {a b : Value} {Q : Value → Shared → Prop}
    (h : wpAny (model prog w) A.in1 (pyIter (.ref s.heap.objs.size)) (fun it s₂ => ∃ I fp wr G n P St H bt, it = .ref I ∧ WalksS prog w A.in1 I fp wr G n P St ∧ St 0 s₂ ∧ (∀ b ∈ fp, b < s₂.heap.objs.size) ∧ 0 < n ∧
      (∀ b o, H.get? b = some o → b ∉ wr) ∧ (∀ b o, H.get? b = some o → s₂.heap.get? b = some o) ∧ CmpIn prog w A.in1 .Lt H P bt ∧ ∀ v s', P (argBest bt (n - 1)) v → Moved wr G s₂ s' → Q v s') E
      { s with heap := s.heap.push { cls := .type "tuple", data := .seq #[a, b] } }) :
    wpAny (model prog w) A (call (.builtin "min") [a, b]) Q E s := by
  have hname : (toString "min" ++ toString ".loop" : String) = "min.loop" := by decide
  refine call_function_tree F.kind_min F.plain_min F.entry_min (F.args_min2 _ _) ?_
  show wpAny _ A.in1 (Builtin.Builtins.bindParams "min" ["key", "default"] 0 ⟨[], []⟩ >>= _) _ _ s
  refine wpAny_bind (wpAny_of_eq (show Builtin.Builtins.bindParams "min" ["key", "default"] 0 ⟨[], []⟩ = pure [none, none] from rfl) ?_)
  show wpAny _ A.in1 (newTuple [a, b] >>= _) _ _ s
  refine wpAny_bind (wpAny_newObj_type ?_)
  refine wpAny_bind (wpAny_mono h (fun it s₂ h₂ => ?_) fun _ _ e => e)
  obtain ⟨I, fp, wr, G, n, P, St, H, bt, rfl, W, hst, hfp, hn, hw, hkeep, hcmp, hQ⟩ := h₂
  refine wpAny_bind (wpAny_newObj_type ?_)
  have hSf : s₂.heap.objs.size ∉ fp := fun hm => Nat.lt_irrefl _ (hfp _ hm)
  rw [hname]
  refine wpAny_pure ⟨plainId_quiet F.plain_min_loop _, codeAny_min_loop_firstH W H hw bt hcmp s₂.heap.objs.size hSf (fresh_in hkeep) _ hn (fun b o e => Heap.get?_push_of_some _ (hkeep b o e)) (W.frame 0 s₂ _ s₂.toks hst (Nat.le_refl _) fun b _ o e => Heap.get?_push_of_some _ e) (Heap.get?_push_size _ rfl) fun v s' hP hm => ?_⟩
  exact hQ v s' hP (Moved.drop_new (tk := s₂.toks) hm (Nat.le_refl _))
theorem max_twoH {a b : Value} {Q : Value → Shared → Prop}
    (h : wpAny (model prog w) A.in1 (pyIter (.ref s.heap.objs.size)) (fun it s₂ => ∃ I fp wr G n P St H bt, it = .ref I ∧ WalksS prog w A.in1 I fp wr G n P St ∧ St 0 s₂ ∧ (∀ b ∈ fp, b < s₂.heap.objs.size) ∧ 0 < n ∧
      (∀ b o, H.get? b = some o → b ∉ wr) ∧ (∀ b o, H.get? b = some o → s₂.heap.get? b = some o) ∧ CmpIn prog w A.in1 .Gt H P bt ∧ ∀ v s', P (argBest bt (n - 1)) v → Moved wr G s₂ s' → Q v s') E
      { s with heap := s.heap.push { cls := .type "tuple", data := .seq #[a, b] } }) :
    wpAny (model prog w) A (call (.builtin "max") [a, b]) Q E s := by
  have hname : (toString "max" ++ toString ".loop" : String) = "max.loop" := by decide
  refine call_function_tree F.kind_max F.plain_max F.entry_max (F.args_max2 _ _) ?_
  show wpAny _ A.in1 (Builtin.Builtins.bindParams "max" ["key", "default"] 0 ⟨[], []⟩ >>= _) _ _ s
  refine wpAny_bind (wpAny_of_eq (show Builtin.Builtins.bindParams "max" ["key", "default"] 0 ⟨[], []⟩ = pure [none, none] from rfl) ?_)
  show wpAny _ A.in1 (newTuple [a, b] >>= _) _ _ s
  refine wpAny_bind (wpAny_newObj_type ?_)
  refine wpAny_bind (wpAny_mono h (fun it s₂ h₂ => ?_) fun _ _ e => e)
  obtain ⟨I, fp, wr, G, n, P, St, H, bt, rfl, W, hst, hfp, hn, hw, hkeep, hcmp, hQ⟩ := h₂
  refine wpAny_bind (wpAny_newObj_type ?_)
  have hSf : s₂.heap.objs.size ∉ fp := fun hm => Nat.lt_irrefl _ (hfp _ hm)
  rw [hname]
  refine wpAny_pure ⟨plainId_quiet F.plain_max_loop _, codeAny_max_loop_firstH W H hw bt hcmp s₂.heap.objs.size hSf (fresh_in hkeep) _ hn (fun b o e => Heap.get?_push_of_some _ (hkeep b o e)) (W.frame 0 s₂ _ s₂.toks hst (Nat.le_refl _) fun b _ o e => Heap.get?_push_of_some _ e) (Heap.get?_push_size _ rfl) fun v s' hP hm => ?_⟩
  exact hQ v s' hP (Moved.drop_new (tk := s₂.toks) hm (Nat.le_refl _))
theorem two_pick {a b : Value} {bt : Nat → Nat → Bool} {v : Value} (h : (#[a, b] : Array Value)[argBest bt (2 - 1)]? = some v) : v = if bt 1 0 then b else a := by
  show _
  cases hc : bt 1 0 <;> simp [argBest, hc] at h <;> simp [h]
theorem alikeAll_two {x y : PyData} (h1 : W.alike x y = true) (h2 : W.alike y x = true) (h3 : W.alike x x = true) (h4 : W.alike y y = true) (n1 : x ≠ .none) (n2 : y ≠ .none) : W.AlikeAll [x, y] := by
  refine ⟨fun a ha b hb => ?_, fun a ha => ?_⟩
  · rcases List.mem_cons.mp ha with rfl | ha
    · rcases List.mem_cons.mp hb with rfl | hb
      · exact h3
      · rw [List.mem_singleton.mp hb]; exact h1
    · rw [List.mem_singleton.mp ha]
      rcases List.mem_cons.mp hb with rfl | hb
      · exact h2
      · rw [List.mem_singleton.mp hb]; exact h4
  · rcases List.mem_cons.mp ha with rfl | ha
    · exact n1
    · rw [List.mem_singleton.mp ha]; exact n2
theorem min_two_data {a b : Value} {x y : PyData} {as bs : List Addr} {Q : Value → Shared → Prop} (hh : A.handled = none) (ra : Reads s.heap a x as) (rb : Reads s.heap b y bs) (ha : W.AlikeAll [x, y]) (hu : A.units + 1 + PyData.depthAll [x, y] < cLine)
    (h : ∀ h' tk, (∀ b o, s.heap.get? b = some o → h'.get? b = some o) → Q (if W.dataLt y x then b else a) { s with heap := h', toks := tk }) : wpAny (model prog w) A (call (.builtin "min") [a, b]) Q E s := by
  have hT : (s.heap.push { cls := .type "tuple", data := .seq #[a, b] }).IsTuple s.heap.objs.size #[a, b] := ⟨_, Heap.get?_push_size _ rfl, rfl, 0, rfl⟩
  have hk1 : ∀ b' o, s.heap.get? b' = some o → (s.heap.push { cls := .type "tuple", data := .seq #[a, b] }).get? b' = some o := fun b' o e => Heap.get?_push_of_some _ e
  have hr : ReadsAll ({ s with heap := s.heap.push { cls := .type "tuple", data := .seq #[a, b] } } : Shared).heap (#[a, b] : Array Value).toList [x, y] _ := .cons (W.reads_keeps hk1 ra) (.cons (W.reads_keeps hk1 rb) .nil)
  refine min_twoH (W.iter_tupleW (A := A.in1) (s := { s with heap := s.heap.push { cls := .type "tuple", data := .seq #[a, b] } }) hh hT fun s₂ e Wk st hfp hw hk => ?_)
  refine ⟨_, _, _, _, _, _, _, _, _, rfl, Wk, st, hfp, by simp, hw, hk, W.cmpIn_lt (A := A.in1) hr ha (by show A.units + 1 + _ < _; exact hu), fun v s' hP m => ?_⟩
  obtain ⟨h', tk, rfl, hk'⟩ := W.moved_old e rfl m
  have hv := two_pick hP
  rw [hv]
  exact h h' tk fun b' o e' => hk' b' o (hk1 b' o e')
theorem max_two_data {a b : Value} {x y : PyData} {as bs : List Addr} {Q : Value → Shared → Prop} (hh : A.handled = none) (ra : Reads s.heap a x as) (rb : Reads s.heap b y bs) (ha : W.AlikeAll [x, y]) (hu : A.units + 1 + PyData.depthAll [x, y] < cLine)
    (h : ∀ h' tk, (∀ b o, s.heap.get? b = some o → h'.get? b = some o) → Q (if W.dataLt x y then b else a) { s with heap := h', toks := tk }) : wpAny (model prog w) A (call (.builtin "max") [a, b]) Q E s := by
  have hT : (s.heap.push { cls := .type "tuple", data := .seq #[a, b] }).IsTuple s.heap.objs.size #[a, b] := ⟨_, Heap.get?_push_size _ rfl, rfl, 0, rfl⟩
  have hk1 : ∀ b' o, s.heap.get? b' = some o → (s.heap.push { cls := .type "tuple", data := .seq #[a, b] }).get? b' = some o := fun b' o e => Heap.get?_push_of_some _ e
  have hr : ReadsAll ({ s with heap := s.heap.push { cls := .type "tuple", data := .seq #[a, b] } } : Shared).heap (#[a, b] : Array Value).toList [x, y] _ := .cons (W.reads_keeps hk1 ra) (.cons (W.reads_keeps hk1 rb) .nil)
  refine max_twoH (W.iter_tupleW (A := A.in1) (s := { s with heap := s.heap.push { cls := .type "tuple", data := .seq #[a, b] } }) hh hT fun s₂ e Wk st hfp hw hk => ?_)
  refine ⟨_, _, _, _, _, _, _, _, _, rfl, Wk, st, hfp, by simp, hw, hk, W.cmpIn_gt (A := A.in1) hr ha (by show A.units + 1 + _ < _; exact hu), fun v s' hP m => ?_⟩
  obtain ⟨h', tk, rfl, hk'⟩ := W.moved_old e rfl m
  have hv := two_pick hP
  rw [hv]
  exact h h' tk fun b' o e' => hk' b' o (hk1 b' o e')
end
/-- x, y tuples that are alike: y < x -/
def ltTup (x y : D) : Option Bool := match x, y with
  | .tup _, .tup _ => if (okE x && okE y && W.alike (pyD x) (pyD y) && W.alike (pyD y) (pyD x) && W.alike (pyD x) (pyD x) && W.alike (pyD y) (pyD y)) = true then some (W.dataLt (pyD x) (pyD y)) else none
  | _, _ => none
def minDD (ds : List D) (M : Mem) (K : DK) : Prop := match ds with
  | [.int i, .int j] => K (.int (min i j)) M
  | [x] => onS (lsOf M x) fun xs => onS (intsD xs) fun ns => 0 < ns.length ∧ K (.int (minI ns)) M
  | [x, y] => onS (ltTup y x) fun b => K (if b then y else x) M
  | _ => False
def maxDD (ds : List D) (M : Mem) (K : DK) : Prop := match ds with
  | [.int i, .int j] => K (.int (max i j)) M
  | [x] => onS (lsOf M x) fun xs => onS (intsD xs) fun ns => 0 < ns.length ∧ K (.int (maxI ns)) M
  | [x, y] => onS (ltTup x y) fun b => K (if b then y else x) M
  | _ => False
theorem ltTup_out {x y : D} {b : Bool} (h : ltTup x y = some b) : okE x = true ∧ okE y = true ∧ W.AlikeAll [pyD x, pyD y] ∧ W.AlikeAll [pyD y, pyD x] ∧ b = W.dataLt (pyD x) (pyD y) := by
  unfold ltTup at h
  split at h
  · split at h
    · rename_i hf
      simp only [Bool.and_eq_true] at hf
      obtain ⟨⟨⟨⟨⟨f1, f2⟩, a1⟩, a2⟩, a3⟩, a4⟩ := hf
      exact ⟨f1, f2, alikeAll_two a1 a2 a3 a4 (by simp [pyD]) (by simp [pyD]), alikeAll_two a2 a1 a4 a3 (by simp [pyD]) (by simp [pyD]), (Option.some.inj h).symm⟩
    · cases h
  · cases h
section
variable {X : Cx}
theorem dep_two {x y : D} (h1 : depD x ≤ 20) (h2 : depD y ≤ 20) : PyData.depthAll [pyD x, pyD y] ≤ 20 := by
  simp only [PyData.depthAll, dep_pyD]
  omega
theorem dc_min (rm : Rm X) : DCall X (.builtin "min") minDD := by
  intro pins s σ H Z M ds vs us K I z rp rv h
  have hu := rm.r1
  unfold minDD at h
  split at h
  · rename_i i j
    refine thn (call_min2 rm.calm pins s σ H vs us (liftN X H Z K) I rv ?_) fun _ _ e => EP.ofN e
    obtain ⟨v, v', rfl, r1, r2⟩ := rp.two
    rw [r1.int_inv, r2.int_inv]
    refine ⟨i, j, rfl, ?_⟩
    have e : min i j = if j < i then j else i := by
      by_cases q : j < i
      · rw [if_pos q]; omega
      · rw [if_neg q]; omega
    rw [← e]
    exact liftN_id z (.int _) h
  · rename_i x
    obtain ⟨xs, hx, q1⟩ := onS_out h
    obtain ⟨ns, hn, hl, q⟩ := onS_out q1
    obtain ⟨v, rfl, r⟩ := rp.one
    obtain ⟨a, ws, rfl, rfl, sq, rw_⟩ := lsOf_sql z r hx
    rw [intsD_out hn] at rw_
    refine thn (cr_min rm.calm pins s σ H [.ref a] us (liftN X H Z K) I rv ⟨a, ns, rfl, by rw [← rw_.ints]; exact sq, hl, fun m m1 m2 => ?_⟩) fun _ _ e => EP.ofN e
    rw [min_uniq hl m1 m2]
    exact liftN_id z (.int _) q
  · rename_i x y _
    obtain ⟨b, hb, q⟩ := onS_out h
    obtain ⟨f1, f2, a1, a2, rfl⟩ := ltTup_out hb
    obtain ⟨v, v', u, u', rfl, r1, r2, r3, r4⟩ := vals_two rp rv
    obtain ⟨g1, d1⟩ := okE_out f1
    obtain ⟨g2, d2⟩ := okE_out f2
    obtain ⟨as, q1⟩ := reads_of I.hok x v u g2 r1 r2
    obtain ⟨bs, q2⟩ := reads_of I.hok y v' u' g1 r3 r4
    have hd := dep_two d2 d1
    refine min_two_data (I.ok.hd rm.calm) q1 q2 a2 (by omega) fun h' tk hk => ?_
    cases hc : W.dataLt (pyD y) (pyD x) with
    | true =>
      rw [hc] at q
      exact ⟨v', H, I.kept hk, r4, y, M, r3, Keep.refl, z, q⟩
    | false =>
      rw [hc] at q
      exact ⟨v, H, I.kept hk, r2, x, M, r1, Keep.refl, z, q⟩
  · exact h.elim
theorem dc_max (rm : Rm X) : DCall X (.builtin "max") maxDD := by
  intro pins s σ H Z M ds vs us K I z rp rv h
  have hu := rm.r1
  unfold maxDD at h
  split at h
  · rename_i i j
    refine thn (call_max2 rm.calm pins s σ H vs us (liftN X H Z K) I rv ?_) fun _ _ e => EP.ofN e
    obtain ⟨v, v', rfl, r1, r2⟩ := rp.two
    rw [r1.int_inv, r2.int_inv]
    refine ⟨i, j, rfl, ?_⟩
    have e : max i j = if j > i then j else i := by
      by_cases q : j > i
      · rw [if_pos q]; omega
      · rw [if_neg q]; omega
    rw [← e]
    exact liftN_id z (.int _) h
  · rename_i x
    obtain ⟨xs, hx, q1⟩ := onS_out h
    obtain ⟨ns, hn, hl, q⟩ := onS_out q1
    obtain ⟨v, rfl, r⟩ := rp.one
    obtain ⟨a, ws, rfl, rfl, sq, rw_⟩ := lsOf_sql z r hx
    rw [intsD_out hn] at rw_
    refine thn (cr_max rm.calm pins s σ H [.ref a] us (liftN X H Z K) I rv ⟨a, ns, rfl, by rw [← rw_.ints]; exact sq, hl, fun m m1 m2 => ?_⟩) fun _ _ e => EP.ofN e
    rw [max_uniq hl m1 m2]
    exact liftN_id z (.int _) q
  · rename_i x y _
    obtain ⟨b, hb, q⟩ := onS_out h
    obtain ⟨f1, f2, a1, a2, rfl⟩ := ltTup_out hb
    obtain ⟨v, v', u, u', rfl, r1, r2, r3, r4⟩ := vals_two rp rv
    obtain ⟨g1, d1⟩ := okE_out f1
    obtain ⟨g2, d2⟩ := okE_out f2
    obtain ⟨as, q1⟩ := reads_of I.hok x v u g1 r1 r2
    obtain ⟨bs, q2⟩ := reads_of I.hok y v' u' g2 r3 r4
    have hd := dep_two d1 d2
    refine max_two_data (I.ok.hd rm.calm) q1 q2 a1 (by omega) fun h' tk hk => ?_
    cases hc : W.dataLt (pyD x) (pyD y) with
    | true =>
      rw [hc] at q
      exact ⟨v', H, I.kept hk, r4, y, M, r3, Keep.refl, z, q⟩
    | false =>
      rw [hc] at q
      exact ⟨v, H, I.kept hk, r2, x, M, r1, Keep.refl, z, q⟩
  · exact h.elim
/-! ### divmod by a positive number below 2 ^ 9000 -/
def divmodD (ds : List D) (M : Mem) (K : DK) : Prop := match ds with
  | [.int i, .int j] => 0 < j ∧ j.natAbs.log2 < 9000 ∧ K (.tup [.int (i / j), .int (i % j)]) M
  | _ => False
theorem dc_divmod : DCall X (.builtin "divmod") divmodD := DCall.of call_divmodW fun H Z M ds vs K z rp q => by
  unfold divmodD at q
  split at q
  · obtain ⟨h1, h2, q⟩ := q
    obtain ⟨v, v', rfl, r1, r2⟩ := rp.two
    refine ⟨_, _, by rw [r1.int_inv, r2.int_inv], ⟨h1, PyProof.noPylong_of_log2 h2⟩, fun p hp nk => ?_⟩
    exact ⟨.tup _, M, .tup upd_same (.cons (.int _) (.cons (.int _) .nil)), new_keep hp, z.tup hp, q⟩
  · exact q.elim
/-! ### sorted -/
def srtD (ds : List D) : List D := ds.mergeSort (W.dataLe false pyD)
/-- items that can be sorted: ints, or tuples alike -/
def sortOk (ds : List D) : Bool := ds.all okE && ds.all (fun a => ds.all fun b => W.alike (pyD a) (pyD b)) && (ds.all (fun d => match d with | .int _ => true | _ => false) || ds.all (fun d => match d with | .tup (_ :: _) => true | _ => false))
theorem sortOk_out {ds : List D} (h : sortOk ds = true) : flatEs ds = true ∧ depDs ds ≤ 20 ∧ W.AllAlike (ds.map pyD) ∧ W.Sortable (ds.map pyD) ∧ ∀ d ∈ ds, depD d ≤ 20 := by
  unfold sortOk at h
  rw [Bool.and_eq_true, Bool.and_eq_true] at h
  obtain ⟨⟨h1, h2⟩, h3⟩ := h
  obtain ⟨g1, g2⟩ := all_flat h1
  refine ⟨g1, g2, fun a ha b hb => ?_, ?_, fun d hd => (okE_out (List.all_eq_true.mp h1 d hd)).2⟩
  · obtain ⟨x, hx, rfl⟩ := List.mem_map.mp ha
    obtain ⟨y, hy, rfl⟩ := List.mem_map.mp hb
    exact List.all_eq_true.mp (List.all_eq_true.mp h2 x hx) y hy
  · rw [Bool.or_eq_true] at h3
    rcases h3 with h3 | h3
    · refine .inr fun a ha => ?_
      obtain ⟨x, hx, rfl⟩ := List.mem_map.mp ha
      have q := List.all_eq_true.mp h3 x hx
      cases x with
      | int i => exact ⟨by simp [pyD], by simp [pyD]⟩
      | _ => cases q
    · refine .inl fun a ha => ?_
      obtain ⟨x, hx, rfl⟩ := List.mem_map.mp ha
      have q := List.all_eq_true.mp h3 x hx
      cases x with
      | tup es => cases es with
        | nil => simp at q
        | cons e r => exact ⟨_, _, by rw [pyD, pyDs]⟩
      | _ => simp at q
theorem each_reps {H : Hp} : ∀ {ds : List D} {vs : List V} {us : List Value}, Reps H ds vs → Vals vs us → W.EachIs (fun u d => ∃ v, Rep H d v ∧ L2.RelV v u) us ds
  | _, _, _, .nil, .nil => .nil
  | _, _, _, .cons r t, .cons q u => .cons ⟨_, r, q⟩ (each_reps t u)
theorem reps_each {H : Hp} : ∀ {ds : List D} {us : List Value}, W.EachIs (fun u d => ∃ v, Rep H d v ∧ L2.RelV v u) us ds → ∃ vs, Reps H ds vs ∧ Vals vs us
  | _, _, .nil => ⟨[], .nil, .nil⟩
  | _, _, .cons ⟨v, r, q⟩ t => let ⟨vs, h1, h2⟩ := reps_each t; ⟨v :: vs, .cons r h1, .cons q h2⟩
theorem each_reads {P : Program} {w : World} {H : Hp} {h : Heap} (ok : HOk P w H h) : ∀ {ds : List D} {us : List Value}, flatEs ds = true → W.EachIs (fun u d => ∃ v, Rep H d v ∧ L2.RelV v u) us ds → W.EachIs (fun u d => ∃ as, Reads h u (pyD d) as) us ds
  | _, _, _, .nil => .nil
  | _, _, f, .cons ⟨v, r, q⟩ t => by
    rw [flatEs, Bool.and_eq_true] at f
    exact .cons (reads_of ok _ _ _ f.1 r q) (each_reads ok f.2 t)
def sortedD (ds : List D) (M : Mem) (K : DK) : Prop := match ds with
  | [x] => match lsOf M x with
    | some xs => sortOk xs = true ∧ ∀ p, M p = none → K (.ref p) (up M p (.lst (srtD xs)))
    | none => onS (dcOf M x) fun q => sortOk (q.2.map (·.1)) = true ∧ ∀ p, M p = none → K (.ref p) (up M p (.lst (srtD (q.2.map (·.1)))))
  | _ => False
theorem dc_sorted (rm : Rm X) : DCall X (.builtin "sorted") sortedD := by
  intro pins s σ H Z M ds vs us K I z rp rv h
  have hr := rm.r1
  unfold sortedD at h
  split at h
  · rename_i x
    obtain ⟨v, u, rfl, r1, r2⟩ := vals_one rp rv
    split at h
    · rename_i xs hx
      obtain ⟨hok, q⟩ := h
      obtain ⟨f1, f2, f3, f4, f5⟩ := sortOk_out hok
      obtain ⟨a, ws, rfl, rfl, sq, rw_⟩ := lsOf_sql z r1 hx
      cases r2
      obtain ⟨its, w2, hl, hz⟩ := I.list sq
      have e1 := each_reps rw_ w2
      have hl2 := rw_.length
      refine W.sorted_data (bs := xs) (enc := pyD) hl.isList e1 (each_reads I.hok f1 e1) f3 f4 (by omega) (fun d hd => by rw [dep_pyD]; have := f5 d hd; omega) fun out ho hE => ?_
      obtain ⟨ys, y1, y2⟩ := reps_each hE
      obtain ⟨c, hc⟩ := PyProof.Rows.sortedAll_at s.heap its out.toArray
      refine laid_list I z y1 (Nat.le_succ _) (fun b u e => PyProof.Rows.sortedAll_old e) ⟨?_, out, c, y2, hc⟩ q
      rw [y2.length, ho]; omega
    · obtain ⟨⟨t, kvs⟩, hd, hok, q⟩ := onS_out h
      obtain ⟨f1, f2, f3, f4, f5⟩ := sortOk_out hok
      obtain ⟨a, ob, es, ep, rfl, rfl, rfl, dr⟩ := dc_raw I z hd r1 r2
      have hle : es.size ≤ sizeLine := by rw [dr.sz]; exact dr.le
      refine Calls.call_function_entry PyProof.Rows.kind_sorted PyProof.Rows.plain_sorted PyProof.Rows.entry_sorted (PyProof.Rows.args_sorted1 _) ?_
      unfold Builtin.«sorted»
      refine wpAny_bind (m := checkCount "sorted" 1 1 _) (wpAny_pure ?_)
      refine wpAny_bind (PySem.W.kdu_collect (A := X.A.in1) (kdl_raw dr.sys dr.ex dr.dat) (I.ok.hd rm.calm) dr.at_ hle fun h' tk acc hk hacc => ?_)
      have I1 : Inv X pins σ H { s with heap := h', toks := tk } := I.kept hk
      obtain ⟨ws, w1, w2⟩ := keys_vals dr hacc
      have e1 := each_reps w1 w2
      have hal : acc.toList.length = kvs.length := by
        have h1 := w2.length
        have h2 := w1.length
        rw [List.length_map] at h2
        omega
      have hle2 := dr.le
      refine wpAny_bind (wpAny_newList ?_ (by omega))
      have hoL : (h'.push (seqObj "list" acc.toList.toArray 0)).get? h'.objs.size = some (seqObj "list" acc.toList.toArray 0) := Heap.get?_push_size _ rfl
      have I2 : Inv X pins σ H { s with heap := h'.push (seqObj "list" acc.toList.toArray 0), toks := tk } := I1.kept (t' := tk) fun b o e => Heap.get?_push_of_some _ e
      have fin : ∀ out : List Value, out.length = kvs.length → W.EachIs (fun u d => ∃ v, Rep H d v ∧ L2.RelV v u) out (srtD (kvs.map (·.1))) →
          EP X pins σ (lift X.prog X.w X.K H Z K) (.ref h'.objs.size) { s with heap := PyProof.Rows.sortedHeap (h'.push (seqObj "list" acc.toList.toArray 0)) h'.objs.size acc.toList out.toArray, toks := tk } := fun out ho hE => by
        obtain ⟨ys, y1, y2⟩ := reps_each hE
        obtain ⟨e', he'⟩ := PyProof.Rows.sortedHeap_at (vs := acc.toList) (out := out.toArray) hoL
        refine laid_list (s := { s with heap := h', toks := tk }) I1 z y1 (Nat.le_refl _) (fun b u e => ?_) ⟨?_, out, e', y2, he'⟩ q
        · have hb : b < h'.objs.size := Heap.lt_size e
          rw [PyProof.Rows.sortedHeap_old (Nat.ne_of_lt hb) (by rw [size_push']; exact Nat.lt_succ_of_lt hb)]
          exact Heap.get?_push_of_some _ e
        · rw [y2.length, ho]; exact dr.le
      show wpAny _ _ _ _ _ { s with heap := h'.push (seqObj "list" acc.toList.toArray 0), toks := tk }
      have er := each_reads I2.hok f1 e1
      have er' : W.EachIs (fun v b => ∃ as, Reads (W.sortingHeap (h'.push (seqObj "list" acc.toList.toArray 0)) h'.objs.size acc.toList) v (pyD b) as) acc.toList (kvs.map (·.1)) := by
        refine each_reads (P := X.prog) (w := X.w) (H := H) ?_ f1 e1
        exact (I1.kept (t' := tk) fun b o e => W.sortingHeap_old (Nat.ne_of_lt (Heap.lt_size e)) (Heap.get?_push_of_some _ e)).hok
      refine wpAny_bind (wpAny_holding (wpAny_call_entry PyProof.Rows.slot_list_sort ⟨_, hoL, rfl⟩ PyProof.Rows.entry_list_sort
        (W.list_sort_vals (s := { s with heap := h'.push (seqObj "list" acc.toList.toArray 0), toks := tk }) (κ := W.dataKind (W.sortingHeap (h'.push (seqObj "list" acc.toList.toArray 0)) h'.objs.size acc.toList) ((kvs.map (·.1)).map pyD)) hoL
          (W.SortsAt.data (s := { s with heap := W.sortingHeap (h'.push (seqObj "list" acc.toList.toArray 0)) h'.objs.size acc.toList, toks := tk }) (W.each_map (R := fun v d => ∃ as, Reads (W.sortingHeap (h'.push (seqObj "list" acc.toList.toArray 0)) h'.objs.size acc.toList) v d as) pyD er') f3 f4 fun d hd => ?_) (by omega) ⟨_, rfl, wpAny_pure ⟨_, rfl, fin _ ?_ (W.sortVals_data false e1 er' f3)⟩⟩) (PyProof.Rows.args_list_sort _)))
      · obtain ⟨y, hy, rfl⟩ := List.mem_map.mp hd
        rw [dep_pyD]
        have := f5 y hy
        show X.A.units + 1 + 1 + depD y < cLine
        omega
      · rw [W.sortVals_length false rfl]; exact hal
  · exact h.elim
end
end DL
/-! # The D-layer: stores, methods, dict displays, isinstance -/
namespace DL
open PySem PySem.Spec PyProof.Rows L2
/-! ### dicts that may change -/
def dmOf (M : Mem) : D → Option (Addr × Bool × List (D × D))
  | .ref a => match M a with
    | some (.dct kvs) => some (a, true, kvs)
    | some (.dci kvs) => some (a, false, kvs)
    | _ => none
  | _ => none
def mkD (t : Bool) (kvs : List (D × D)) : DO := match t with
  | true => .dct kvs
  | false => .dci kvs
theorem mkD_free (t : Bool) (kvs : List (D × D)) : (mkD t kvs).free = true := by cases t <;> rfl
theorem dmOf_out {M : Mem} {x : D} {a : Addr} {t : Bool} {kvs : List (D × D)} (h : dmOf M x = some (a, t, kvs)) : x = .ref a ∧ M a = some (mkD t kvs) := by
  unfold dmOf at h
  split at h
  · split at h
    · rename_i q; cases h; exact ⟨rfl, q⟩
    · rename_i q; cases h; exact ⟨rfl, q⟩
    · cases h
  · cases h
section
variable {X : Cx} {pins : List (Addr × Obj)} {s : Shared} {σ : L2.St} {H Z : Hp} {M : Mem} {A : Around} {E : Value → Shared → Prop}
/-- a tuple key's dict, as it stands -/
theorem dct_at (I : Inv X pins σ H s) (z : AbsZ X.prog X.w X.K Z M H) {a : Addr} {kvs : List (D × D)} (h : M a = some (.dct kvs)) : ∃ xs, s.heap.DictOfH (nestedKind X.prog X.w) a xs ∧ kvs.length ≤ sizeLine ∧ (a == sysModules) = false ∧ Paired (Ent H) kvs xs := by
  obtain ⟨o, h1, h2⟩ := z.mem a _ h
  exact DctT.heap I (.inl h1) h2
theorem dci_at (z : AbsZ X.prog X.w X.K Z M H) {a : Addr} {kvs : List (D × D)} (h : M a = some (.dci kvs)) : ∃ ks, H a = some (.dK ks) ∧ Paired (EntI H) kvs ks := by
  obtain ⟨o, h1, ks, rfl, h2⟩ := z.mem a _ h
  exact ⟨ks, h1, h2⟩
end
/-! ### o[i] = v -/
def setD (o i v : D) (M : Mem) (Q : Mem → Prop) : Prop := match ltOf M o with
  | some p => match i with
    | .int k => onS (ixN p.2.length k) fun j => Q (up M p.1 (.lst (p.2.set j v)))
    | _ => False
  | none => onS (dmOf M o) fun p => fitK p.2.1 i = true ∧ p.2.2.length < big ∧ Q (up M p.1 (mkD p.2.1 (lput p.2.2 i v)))
theorem set_ok {X : Cx} (rm : Rm X) {pins : List (Addr × Obj)} {s : Shared} {σ : L2.St} {H Z : Hp} {M : Mem} {o i v : D} {ov iv vv : V} {ou iu vu : Value} {Q : Mem → Prop} (I : Inv X pins σ H s) (z : AbsZ X.prog X.w X.K Z M H)
    (ro : Rep H o ov) (ri : Rep H i iv) (rv : Rep H v vv) (qo : L2.RelV ov ou) (qi : L2.RelV iv iu) (qv : L2.RelV vv vu) (h : setD o i v M Q) :
    wpAny (model X.prog X.w) X.A (setItem ou iu vu) (fun _ s' => ∃ H' M', Inv X pins σ H' s' ∧ Keep H H' ∧ AbsZ X.prog X.w X.K Z M' H' ∧ Q M') X.xe s := by
  have hu := rm.r1
  have hb := big_line
  unfold setD at h
  split at h
  · rename_i p hp
    obtain ⟨a, xs⟩ := p
    split at h
    · rename_i k
      obtain ⟨j, hj, q⟩ := onS_out h
      obtain ⟨rfl, hm⟩ := ltOf_out hp
      obtain ⟨vs, hH, rp⟩ := z.mem a _ hm
      cases ro
      have mu : Mut (H a) := by rw [hH]; trivial
      refine thn (set_list pins s σ H (.ref a) iv vv ou iu vu (fun H' => H' = upd H a (.lst (vs.set j vv))) I qo qi qv ⟨a, vs, k, j, rfl, ri.int_inv, hH, by rw [← rp.length]; exact hj, rfl⟩) fun _ s1 ⟨H1, I1, e1⟩ => ?_
      subst e1
      exact ⟨_, _, I1, mut_keep mu, z.set (o' := .lst (xs.set j v)) hm rfl ⟨_, upd_same, (rp.set rv j).keep (mut_keep mu)⟩, q⟩
    · exact h.elim
  · obtain ⟨⟨a, t, kvs⟩, hd, hf, hl0, q⟩ := onS_out h
    have hl : kvs.length < big := hl0
    obtain ⟨rfl, hm⟩ := dmOf_out hd
    cases ro
    cases qo
    cases t with
    | true =>
      have hk : okK i = true := hf
      have hm' : M a = some (.dct kvs) := hm
      obtain ⟨xs, hx, hle, hsys, pr⟩ := dct_at I z hm'
      obtain ⟨b, rfl⟩ := okK_ref hk ri
      cases qi
      have he := ent_length pr
      have hn := lput_length kvs i v
      refine wpAny_setItem_heap (hsz := by omega) (nested_room hu) (key_is I.hok hk ri) hx fun h' dd' hs => ?_
      obtain ⟨H', I', k', z'⟩ := dct_write (tk := s.toks + _) (kvs' := lput kvs i v) I z hm' rfl hs dd' (by omega) hsys (ent_put hk rfl ri rv qv pr)
      exact ⟨H', _, I', k', z', q⟩
    | false =>
      have hm' : M a = some (.dci kvs) := hm
      obtain ⟨ks, hH, pr⟩ := dci_at z hm'
      obtain ⟨j, rfl⟩ := fitK_int hf
      cases ri
      have he : kvs.length = ks.length := Paired.length pr
      obtain ⟨k', z'⟩ := dci_write (kvs' := lput kvs (.int j) v) I z hm' rfl (entI_put rv pr)
      exact d_setItem (A := X.A) (by omega) I (DPut.k (k := .inl j) (v := vv) hH (by omega)) qi qv fun s1 I1 => ⟨_, _, I1, k', z', q⟩
/-! ### methods -/
inductive Mth where
  | append | lpop | clear | reverse | get | dpop | setdefault
def mtI (T : String) (name : Str) : Option Mth :=
  if T = "list" then (if name = "append" then some .append else if name = "pop" then some .lpop else if name = "clear" then some .clear else if name = "reverse" then some .reverse else none)
  else if T = "dict" then (if name = "get" then some .get else if name = "pop" then some .dpop else if name = "setdefault" then some .setdefault else none)
  else none
/-- what type a value has -/
def tyM (M : Mem) : D → Option String
  | .ref a => match M a with
    | some (.lst _) => some "list"
    | some (.ro _) => some "list"
    | some (.dct _) => some "dict"
    | some (.rod _) => some "dict"
    | some (.dci _) => some "dict"
    | some (.roi _) => some "dict"
    | _ => none
  | .tup _ => some "tuple"
  | .int _ => some "int"
  | .bl _ => some "bool"
  | .str _ => some "str"
  | .non => some "NoneType"
  | .ty _ => none
theorem tyM_ref {M : Mem} {a : Addr} {T : String} (h : tyM M (.ref a) = some T) : (T = "list" ∧ ∃ ds, lsOf M (.ref a) = some ds) ∨ (T = "dict" ∧ ∃ p, dcOf M (.ref a) = some p) := by
  simp only [tyM] at h
  split at h <;> first
    | (rename_i ds q; cases h; exact .inl ⟨rfl, ds, by simp [lsOf, q]⟩)
    | (rename_i kvs q; cases h; refine .inr ⟨rfl, ?_⟩; simp only [dcOf, q]; exact ⟨_, rfl⟩)
    | cases h
section
variable {X : Cx} {pins : List (Addr × Obj)} {s : Shared} {σ : L2.St} {H Z : Hp} {M : Mem}
theorem tyM_is (I : Inv X pins σ H s) (z : AbsZ X.prog X.w X.K Z M H) {a : Addr} {xv : V} {u : Value} {T : String} (h : tyM M (.ref a) = some T) (r : Rep H (.ref a) xv) (rv : L2.RelV xv u) :
    s.TypeIs u T ∧ ∀ b, u = .ref b → ∃ ob, s.heap.get? b = some ob ∧ ob.dict = none := by
  rcases tyM_ref h with ⟨rfl, ds, hl⟩ | ⟨rfl, ⟨t, kvs⟩, hd⟩
  · obtain ⟨a', vs, e1, rfl, sq, _⟩ := lsOf_sql z r hl
    cases rv
    obtain ⟨its, _, pl, _⟩ := I.list sq
    refine ⟨pl.isList.typeIs, fun b e => ?_⟩
    cases e
    obtain ⟨o, n, e, c, hd, _⟩ := pl
    exact ⟨o, e, hd⟩
  · obtain ⟨a', ob, es, ep, rfl, e2, _, dr⟩ := dc_raw I z hd r rv
    refine ⟨⟨ob, dr.at_, dr.ex.1⟩, fun b e => ?_⟩
    cases e
    exact ⟨ob, dr.at_, dr.ex.2.1⟩
end
def mSem (m : Mth) (x : D) (ds : List D) (M : Mem) (K : DK) : Prop := match m with
  | .append => match ds with
    | [y] => onS (ltOf M x) fun p => p.2.length < big ∧ K .non (up M p.1 (.lst (p.2 ++ [y])))
    | _ => False
  | .lpop => match ds with
    | [] => onS (ltOf M x) fun p => onS p.2[p.2.length - 1]? fun y => K y (up M p.1 (.lst p.2.dropLast))
    | _ => False
  | .clear => match ds with
    | [] => onS (ltOf M x) fun p => K .non (up M p.1 (.lst []))
    | _ => False
  | .reverse => match ds with
    | [] => onS (ltOf M x) fun p => K .non (up M p.1 (.lst p.2.reverse))
    | _ => False
  | .get => match ds with
    | [k] => onS (dcOf M x) fun p => fitK p.1 k = true ∧ K ((lget p.2 k).getD .non) M
    | [k, d] => onS (dcOf M x) fun p => fitK p.1 k = true ∧ K ((lget p.2 k).getD d) M
    | _ => False
  | .dpop => match ds with
    | [k] => onS (dmOf M x) fun p => p.2.1 = true ∧ okK k = true ∧ onS (lget p.2.2 k) fun y => K y (up M p.1 (.dct (ldrop p.2.2 k)))
    | _ => False
  | .setdefault => match ds with
    | [k, d] => onS (dmOf M x) fun p => p.2.1 = true ∧ okK k = true ∧ p.2.2.length < big ∧ match lget p.2.2 k with
      | some y => K y M
      | none => K d (up M p.1 (.dct (lput p.2.2 k d)))
    | _ => False
def mId : Mth → String
  | .append => "list.append"
  | .lpop => "list.pop"
  | .clear => "list.clear"
  | .reverse => "list.reverse"
  | .get => "dict.get"
  | .dpop => "dict.pop"
  | .setdefault => "dict.setdefault"
theorem mtI_facts {T : String} {name : Str} {m : Mth} (h : mtI T name = some m) : PlainAttrs T ∧ Slot T name (mId m) ∧ typeOf (.builtin (mId m)) = pure (.type "method_descriptor") := by
  unfold mtI at h
  split at h
  · rename_i hT
    subst hT
    split at h
    · rename_i e; subst e; cases h; exact ⟨F.plainAttrs_list, F.slot_list_append, F.type_list_append⟩
    split at h
    · rename_i e; subst e; cases h; exact ⟨F.plainAttrs_list, F.slot_list_pop, F.type_list_pop⟩
    split at h
    · rename_i e; subst e; cases h; exact ⟨F.plainAttrs_list, F.slot_list_clear, F.type_list_clear⟩
    split at h
    · rename_i e; subst e; cases h; exact ⟨F.plainAttrs_list, F.slot_list_reverse, F.type_list_reverse⟩
    · cases h
  split at h
  · rename_i hT
    subst hT
    split at h
    · rename_i e; subst e; cases h; exact ⟨F.plainAttrs_dict, F.slot_dict_get, F.type_dict_get⟩
    split at h
    · rename_i e; subst e; cases h; exact ⟨F.plainAttrs_dict, F.slot_dict_pop, F.type_dict_pop⟩
    split at h
    · rename_i e; subst e; cases h; exact ⟨F.plainAttrs_dict, F.slot_dict_setdefault, F.type_dict_setdefault⟩
    · cases h
  · cases h
section
variable {X : Cx} {pins : List (Addr × Obj)} {s : Shared} {σ : L2.St} {H Z : Hp} {M : Mem}
theorem d_geti (rm : Rm X) (I : Inv X pins σ H s) (z : AbsZ X.prog X.w X.K Z M H) {x k d : D} {xv kv dv : V} {u ku du : Value} {t : Bool} {kvs : List (D × D)} {K : DK} (hd : dcOf M x = some (t, kvs)) (hf : fitK t k = true) (rx : Rep H x xv) (rk : Rep H k kv) (rd : Rep H d dv)
    (qx : L2.RelV xv u) (qk : L2.RelV kv ku) (qd : L2.RelV dv du) (us : List Value) (hus : (us = [ku] ∧ d = .non) ∨ us = [ku, du]) (q : K ((lget kvs k).getD d) M) : wpAny (model X.prog X.w) X.A (call (.builtin "dict.get") (u :: us)) (EP X pins σ (lift X.prog X.w X.K H Z K)) X.xe s := by
  have hu := rm.r1
  obtain ⟨a, rfl, hc⟩ := dcOf_out hd
  cases rx
  cases qx
  rcases hc with ⟨rfl, hm⟩ | ⟨rfl, hm⟩
  · obtain ⟨o, hr, dt⟩ := rd_T z hm
    obtain ⟨xs, hx, hl, hsys, pr⟩ := dt.heap I hr
    have hk : okK k = true := hf
    obtain ⟨b, rfl⟩ := okK_ref hk rk
    cases qk
    have fin : ∀ (dd : D) (ddv : V) (ddu : Value), Rep H dd ddv → L2.RelV ddv ddu → K ((lget kvs k).getD dd) M → ∀ tk, EP X pins σ (lift X.prog X.w X.K H Z K) (((atKey xs (keyD k)).map (·.2)).getD ddu) { s with toks := tk } := fun dd ddv ddu g1 g2 g3 tk => by
      rcases ent_get pr hk rfl with ⟨e1, e2⟩ | ⟨d', p, e1, e2, vd, e3, e4⟩
      · rw [e1] at g3
        rw [e2]
        exact ⟨ddv, H, I.tok _, g2, dd, M, g1, Keep.refl, z, g3⟩
      · rw [e1] at g3
        rw [e2]
        exact ⟨vd, H, I.tok _, e4, d', M, e3, Keep.refl, z, g3⟩
    rcases hus with ⟨rfl, rfl⟩ | rfl
    · exact call_meetsIn PySem.F.slot_dict_get hx.typeIs PySem.F.entry_dict_get (PySem.F.args_dict_get_2 _ _) (meetsH_dict_get (nestedKind X.prog X.w) a b hsys) ⟨nested_room hu, keyD k, xs, key_is I.hok hk rk, hx, fin .non .non .none .non rfl q _⟩
    · exact call_meetsIn PySem.F.slot_dict_get hx.typeIs PySem.F.entry_dict_get (PySem.F.args_dict_get_3 _ _ _) (meetsH_dict_get_default (nestedKind X.prog X.w) a b hsys du) ⟨nested_room hu, keyD k, xs, key_is I.hok hk rk, hx, fin d dv du rd qd q _⟩
  · obtain ⟨ks, hr, pr⟩ := rd_I z hm
    obtain ⟨i, rfl⟩ := fitK_int hf
    cases rk
    have fin : ∀ (dd : D) (ddv : V) (w' : Value) (s' : Shared), Inv X pins σ H s' → Rep H dd ddv → K ((lget kvs (.int i)).getD dd) M → L2.RelV ((valV ks (.inl i)).getD ddv) w' → EP X pins σ (lift X.prog X.w X.K H Z K) w' s' := fun dd ddv w' s' I' g1 g3 g2 => by
      rcases entI_get pr i with ⟨e1, e2⟩ | ⟨d', vd, e1, e2, e3⟩
      · rw [e1] at g3
        rw [e2] at g2
        exact ⟨ddv, H, I', g2, dd, M, g1, Keep.refl, z, g3⟩
      · rw [e1] at g3
        rw [e2] at g2
        exact ⟨vd, H, I', g2, d', M, e3, Keep.refl, z, g3⟩
    have g : DGet H a (kV (.inl i)) (valV ks (.inl i)) := .inl ⟨ks, .inl i, hr, rfl, rfl⟩
    rcases hus with ⟨rfl, rfl⟩ | rfl
    · exact d_get1 (by omega) I g qk fun w' s' I' r' => fin .non .non w' s' I' .non q r'
    · exact d_get2 (by omega) I g qk qd fun w' s' I' r' => fin d dv w' s' I' rd q r'
theorem vals_zero {H : Hp} {vs : List V} {us : List Value} (rp : Reps H [] vs) (rv : Vals vs us) : us = [] := by
  cases rp; cases rv; rfl
theorem mth_ok (rm : Rm X) (I : Inv X pins σ H s) (z : AbsZ X.prog X.w X.K Z M H) {m : Mth} {x : D} {ds : List D} {xv : V} {vs : List V} {u : Value} {us : List Value} {K : DK} (rx : Rep H x xv) (qx : L2.RelV xv u) (rp : Reps H ds vs) (rv : Vals vs us) (h : mSem m x ds M K) :
    wpAny (model X.prog X.w) X.A (call (.builtin (mId m)) (u :: us)) (EP X pins σ (lift X.prog X.w X.K H Z K)) X.xe s := by
  have hu := rm.r1
  have hb := big_line
  have lw : ∀ {a : Addr} {xs ys : List D} {vs ws : List V}, M a = some (.lst xs) → H a = some (.lst vs) → Reps H ys ws → Keep H (upd H a (.lst ws)) ∧ AbsZ X.prog X.w X.K Z (up M a (.lst ys)) (upd H a (.lst ws)) := fun {a xs ys vs ws} hm hH r => by
    have mu : Mut (H a) := by rw [hH]; trivial
    exact ⟨mut_keep mu, z.set hm rfl ⟨_, upd_same, r.keep (mut_keep mu)⟩⟩
  unfold mSem at h
  split at h
  · split at h
    · rename_i y
      obtain ⟨⟨a, xs⟩, h1, h2, q⟩ := onS_out h
      obtain ⟨rfl, hm⟩ := ltOf_out h1
      obtain ⟨ws, hH, rw_⟩ := z.mem a _ hm
      obtain ⟨yv, rfl, ry⟩ := rp.one
      cases rx
      obtain ⟨k1, z1⟩ := lw hm hH (rw_.append (.cons ry .nil))
      exact mt_append pins s σ H (.ref a) [yv] u us _ I qx rv ⟨a, ws, yv, rfl, rfl, hH, by rw [← rw_.length]; exact hb ▸ h2, .non, _, .non, k1, z1, q⟩
    · exact h.elim
  · split at h
    · obtain ⟨⟨a, xs⟩, h1, h2⟩ := onS_out h
      obtain ⟨y, hy, q⟩ := onS_out h2
      obtain ⟨rfl, hm⟩ := ltOf_out h1
      obtain ⟨ws, hH, rw_⟩ := z.mem a _ hm
      cases rp
      cases rx
      obtain ⟨yv, e1, ry⟩ := rw_.get hy
      obtain ⟨k1, z1⟩ := lw hm hH rw_.dropLast
      exact mt_pop pins s σ H (.ref a) [] u us _ I qx rv ⟨a, ws, yv, rfl, rfl, hH, by rw [← rw_.length]; exact e1, y, _, ry.keep k1, k1, z1, q⟩
    · exact h.elim
  · split at h
    · obtain ⟨⟨a, xs⟩, h1, q⟩ := onS_out h
      obtain ⟨rfl, hm⟩ := ltOf_out h1
      obtain ⟨ws, hH, rw_⟩ := z.mem a _ hm
      cases rp
      cases rx
      obtain ⟨k1, z1⟩ := lw hm hH .nil
      exact mt_clear pins s σ H (.ref a) [] u us _ I qx rv ⟨a, ws, rfl, rfl, hH, .non, _, .non, k1, z1, q⟩
    · exact h.elim
  · split at h
    · obtain ⟨⟨a, xs⟩, h1, q⟩ := onS_out h
      obtain ⟨rfl, hm⟩ := ltOf_out h1
      obtain ⟨ws, hH, rw_⟩ := z.mem a _ hm
      cases rp
      cases rx
      obtain ⟨k1, z1⟩ := lw hm hH rw_.reverse
      exact mt_reverse pins s σ H (.ref a) [] u us _ I qx rv ⟨a, ws, rfl, rfl, hH, .non, _, .non, k1, z1, q⟩
    · exact h.elim
  · split at h
    · rename_i k
      obtain ⟨⟨t, kvs⟩, h1, h2, q⟩ := onS_out h
      obtain ⟨kv, ku, rfl, r1, r2⟩ := vals_one rp rv
      exact d_geti rm I z h1 h2 rx r1 (.non) qx r2 (show L2.RelV .non .none from rfl) [ku] (.inl ⟨rfl, rfl⟩) q
    · rename_i k d
      obtain ⟨⟨t, kvs⟩, h1, h2, q⟩ := onS_out h
      obtain ⟨kv, dv, ku, du, rfl, r1, r2, r3, r4⟩ := vals_two rp rv
      exact d_geti rm I z h1 h2 rx r1 r3 qx r2 r4 [ku, du] (.inr rfl) q
    · exact h.elim
  · split at h
    · rename_i k
      obtain ⟨⟨a, t, kvs⟩, h1, rfl, hk, h3⟩ := onS_out h
      obtain ⟨y, hy, q⟩ := onS_out h3
      obtain ⟨rfl, hm⟩ := dmOf_out h1
      have hm' : M a = some (.dct kvs) := hm
      obtain ⟨kv, ku, rfl, r1, r2⟩ := vals_one rp rv
      cases rx
      cases qx
      obtain ⟨xs, hx, hle, hsys, pr⟩ := dct_at I z hm'
      obtain ⟨b, rfl⟩ := okK_ref hk r1
      cases r2
      have he := ent_length pr
      rcases ent_get pr hk rfl with ⟨e1, e2⟩ | ⟨d', p, e1, e2, vd, e3, e4⟩
      · rw [show lget kvs k = some y from hy] at e1; cases e1
      · rw [show lget kvs k = some y from hy] at e1
        cases e1
        refine call_pop_heap (hsz := by omega) (.inl rfl) (F.args_dict_pop_2 _ _) (nested_room hu) (key_is I.hok hk r1) hsys hx e2 fun h' dd' hs => ?_
        have hld : (ldrop kvs k).length ≤ kvs.length := List.length_filter_le _ _
        obtain ⟨H', I', k', z'⟩ := dct_write (tk := s.toks + _) (kvs' := ldrop kvs k) I z hm' rfl hs dd' (by omega) hsys (ent_drop hk rfl pr)
        exact ⟨vd, H', I', e4, y, _, e3.keep k', k', z', q⟩
    · exact h.elim
  · split at h
    · rename_i k d
      obtain ⟨⟨a, t, kvs⟩, h1, rfl, hk, hl0, h3⟩ := onS_out h
      have hl : kvs.length < big := hl0
      obtain ⟨rfl, hm⟩ := dmOf_out h1
      have hm' : M a = some (.dct kvs) := hm
      obtain ⟨kv, dv, ku, du, rfl, r1, r2, r3, r4⟩ := vals_two rp rv
      cases rx
      cases qx
      obtain ⟨xs, hx, hle, hsys, pr⟩ := dct_at I z hm'
      obtain ⟨b, rfl⟩ := okK_ref hk r1
      cases r2
      have he := ent_length pr
      have hn := lput_length kvs k d
      dsimp only at h3
      rcases ent_get pr hk rfl with ⟨e1, e2⟩ | ⟨d', p, e1, e2, vd, e3, e4⟩
      · rw [e1] at h3
        refine call_setdefault_heap (hsz := by omega) (nested_room hu) (key_is I.hok hk r1) hsys hx (fun p hp => by rw [e2] at hp; cases hp) fun _ h' dd' hs => ?_
        obtain ⟨H', I', k', z'⟩ := dct_write (tk := s.toks + _) (kvs' := lput kvs k d) I z hm' rfl hs dd' (by omega) hsys (ent_put hk rfl r1 r3 r4 pr)
        exact ⟨dv, H', I', r4, d, _, r3.keep k', k', z', h3⟩
      · rw [e1] at h3
        refine call_setdefault_heap (hsz := by omega) (nested_room hu) (key_is I.hok hk r1) hsys hx (fun p' hp => ?_) fun hno => by rw [e2] at hno; cases hno
        rw [e2] at hp
        cases hp
        exact ⟨vd, H, I.tok _, e4, d', M, e3, Keep.refl, z, h3⟩
    · exact h.elim
end
/-- o.name(..), o a list or a dict -/
def dBM (name : Str) (to : TED) (ta : TAD) : TED := fun σ M K KX => to σ M (fun x M1 => match x with
  | .ref a => onS (tyM M1 (.ref a)) fun T => onS (mtI T name) fun m => ta σ M1 (fun ds M2 => mSem m (.ref a) ds M2 K) KX
  | _ => False) KX
section
variable {X : Cx} {W : WD} {o : Expr} {es : List Expr} {to : TED} {ta : TAD} {name : Str} {apos cpos : Pos}
theorem de_bm0 (rm : Rm X) (ho : DE X W o to)
    (hbase : attributeBase o name X.env (eval o X.env) = eval o X.env) (hline : (apos.endLine == cpos.line) = true) :
    DE X W (.Call (.Attribute o name apos) [] [] cpos) (dBM name to aNil) := by
  refine ⟨fun pins s σ H σD Z M K KX I rs z wi h => ?_⟩
  refine wpAny_Call_method0_late hbase hline (thn (ho.run pins s σ H σD Z M _ KX I rs z wi h) fun v s1 ⟨xv, H1, I1, r1, x, M1, p1, k1, z1, q1⟩ => ?_)
  dsimp only at q1
  split at q1
  · rename_i a
    obtain ⟨T, hT, q2⟩ := onS_out q1
    obtain ⟨m, hm, q3⟩ := onS_out q2
    clear q1 q2
    obtain ⟨h1, h2⟩ := tyM_is I1 z1 hT p1 r1
    obtain ⟨f1, f2, f3⟩ := mtI_facts hm
    exact ⟨T, mId m, f1, f2, f3, h1, h2, Calls.callWith_builtin rfl (PySem.evalArgs_none (thn (mth_ok rm I1 z1 p1 r1 .nil .nil q3) fun _ _ e => EP.back k1 e))⟩
  · exact q1.elim
theorem de_bm {e : Expr} (rm : Rm X) (ho : DE X W o to) (ha : DA X W (e :: es) ta)
    (hbase : attributeBase o name X.env (eval o X.env) = eval o X.env)
    (hfew : ((backTo cpos (starEach (e :: es) X.env)).all (fun x => !x.1) && (backToKw cpos (keywordEach [] X.env)).all (fun x => x.1.isSome)
      && decide ((e :: es).length + ([] : List Keyword).length + (if ([] : List Keyword).isEmpty then 0 else 1) < 30)) = true)
    (hline : (apos.endLine == cpos.line) = true) (hs : starEach (e :: es) X.env = (false, eval e X.env) :: starEach es X.env) (hplain : (backTo cpos (starEach es X.env)).any (·.1) = false) :
    DE X W (.Call (.Attribute o name apos) (e :: es) [] cpos) (dBM name to ta) := by
  refine ⟨fun pins s σ H σD Z M K KX I rs z wi h => ?_⟩
  refine wpAny_Call_method_late hbase hfew hline rfl (thn (ho.run pins s σ H σD Z M _ KX I rs z wi h) fun v s1 ⟨xv, H1, I1, r1, x, M1, p1, k1, z1, q1⟩ => ?_)
  dsimp only at q1
  split at q1
  · rename_i a
    obtain ⟨T, hT, q2⟩ := onS_out q1
    obtain ⟨m, hm, q3⟩ := onS_out q2
    clear q1 q2
    obtain ⟨h1, h2⟩ := tyM_is I1 z1 hT p1 r1
    obtain ⟨f1, f2, f3⟩ := mtI_facts hm
    refine ⟨T, mId m, f1, f2, f3, h1, h2, ?_⟩
    have hA := ha.pa cpos I1 (rs.keep k1) z1 (wi.keep k1) q3 (Q := fun us s2 => wpAny (model X.prog X.w) X.A (call (.builtin (mId m)) (v :: us)) (EP X pins σ (lift X.prog X.w X.K H Z K)) X.xe s2)
      fun us s2 vs H2 ds M2 I2 r2 p2 k2 z2 q2 => thn (mth_ok rm I2 z2 (p1.keep k2) r1 p2 r2 q2) fun _ _ e => EP.back (k1.trans k2) e
    rw [hs] at hA ⊢
    exact Calls.callWith_builtin (by show (false || (backTo cpos (starEach es X.env)).any (·.1)) = false; rw [hplain] <;> rfl) (Calls.evalArgs_plain hA)
  · exact q1.elim
end
end DL
/-! # The D-layer: statements -/
namespace DL
open PySem PySem.Spec PyProof.Rows L2
/-- what is wanted behind a statement; of an exception: its class, the names, the memory -/
structure DEnds where
  nx : DSt → Mem → Prop
  rt : DK
  bk : DSt → Mem → Prop
  ct : DSt → Mem → Prop
  ex : Str → DSt → Mem → Prop
abbrev TSD := DEnds → DSt → Mem → Prop
abbrev DEnds.kx (D : DEnds) (σ : DSt) : DX := fun c M => D.ex c σ M
section
variable (P : Program) (w : World) (K : PySem.W.Frag)
def liftG (H Z : Hp) (Q : DSt → Mem → Prop) : L2.St → Hp → Prop := fun σ' H' => ∃ σD M', RS H' σD σ' ∧ Keep H H' ∧ AbsZ P w K Z M' H' ∧ Q σD M'
def liftD (H Z : Hp) (D : DEnds) : L2.Ends where
  nx := liftG P w K H Z D.nx
  rt := lift P w K H Z D.rt
  bk := liftG P w K H Z D.bk
  ct := liftG P w K H Z D.ct
def WishS (W : WD) (H Z : Hp) (D : DEnds) : Prop := ∀ c σD σ' M' H', D.ex c σD M' → RS H' σD σ' → Keep H H' → AbsZ P w K Z M' H' → W c σ' H'
end
section
variable {P : Program} {w : World} {K : PySem.W.Frag} {W : WD} {H H1 Z : Hp} {D : DEnds}
theorem WishS.keep (h : WishS P w K W H Z D) (k : Keep H H1) : WishS P w K W H1 Z D := fun c σD σ' M' H' e r k1 z => h c σD σ' M' H' e r (k.trans k1) z
theorem WishS.at {σD : DSt} {σ : L2.St} (h : WishS P w K W H Z D) (rs : RS H σD σ) : Wish P w K W σ H Z (D.kx σD) := fun c M' H' e k z => h c σD σ M' H' e (rs.keep k) k z
theorem liftG.back {Q : DSt → Mem → Prop} {σ' : L2.St} {H' : Hp} (k : Keep H H1) (h : liftG P w K H1 Z Q σ' H') : liftG P w K H Z Q σ' H' :=
  let ⟨σD, M', r, k1, z, q⟩ := h
  ⟨σD, M', r, k.trans k1, z, q⟩
theorem lift.back {Q : DK} {v : V} {H' : Hp} (k : Keep H H1) (h : lift P w K H1 Z Q v H') : lift P w K H Z Q v H' :=
  let ⟨d, M', r, k1, z, q⟩ := h
  ⟨d, M', r, k.trans k1, z, q⟩
end
/-- one statement; a block -/
structure DS1 (X : Cx) (W : WD) (st : Stmt) (t : TSD) : Prop where
  run : ∀ (pins : List (Addr × Obj)) (s : Shared) (σ : L2.St) (H : Hp) (σD : DSt) (Z : Hp) (M : Mem) (D : DEnds), Inv X pins σ H s → RS H σD σ → AbsZ X.prog X.w X.K Z M H → WishS X.prog X.w X.K W H Z D → t D σD M →
    wpAny (model X.prog X.w) X.A (exec st X.env) (SP X pins (liftD X.prog X.w X.K H Z D)) X.xe s
structure DS (X : Cx) (W : WD) (st : List Stmt) (t : TSD) : Prop where
  run : ∀ (pins : List (Addr × Obj)) (s : Shared) (σ : L2.St) (H : Hp) (σD : DSt) (Z : Hp) (M : Mem) (D : DEnds), Inv X pins σ H s → RS H σD σ → AbsZ X.prog X.w X.K Z M H → WishS X.prog X.w X.K W H Z D → t D σD M →
    wpAny (model X.prog X.w) X.A (execs st X.env) (SP X pins (liftD X.prog X.w X.K H Z D)) X.xe s
/-- a target -/
abbrev TGD := D → DSt → Mem → (DSt → Mem → Prop) → DX → Prop
structure DG (X : Cx) (W : WD) (tg : Expr) (g : TGD) : Prop where
  run : ∀ (pins : List (Addr × Obj)) (s : Shared) (σ : L2.St) (H : Hp) (σD : DSt) (Z : Hp) (M : Mem) (d : D) (v : V) (u : Value) (K : DSt → Mem → Prop) (KX : DX), Inv X pins σ H s → RS H σD σ → AbsZ X.prog X.w X.K Z M H → Wish X.prog X.w X.K W σ H Z KX → Rep H d v → L2.RelV v u → g d σD M K KX →
    wpAny (model X.prog X.w) X.A (assign tg X.env u) (fun _ s' => ∃ σ' H', Inv X pins σ' H' s' ∧ liftG X.prog X.w X.K H Z K σ' H') X.xe s
abbrev TGsD := List D → DSt → Mem → (DSt → Mem → Prop) → Prop
/-- names, one after another -/
structure DGs (X : Cx) (tgs : List Expr) (g : TGsD) : Prop where
  run : ∀ (pins : List (Addr × Obj)) (s : Shared) (σ : L2.St) (H : Hp) (σD : DSt) (Z : Hp) (M : Mem) (ds : List D) (vs : List V) (us : List Value) (K : DSt → Mem → Prop), Inv X pins σ H s → RS H σD σ → AbsZ X.prog X.w X.K Z M H → Reps H ds vs → Vals vs us → g ds σD M K →
    wpAny (model X.prog X.w) X.A (assignInOrder ((assignEach tgs X.env).map (·.2)) us) (fun _ s' => ∃ σ' H', Inv X pins σ' H' s' ∧ liftG X.prog X.w X.K H Z K σ' H') X.xe s
/-! ### the hand layer's rules, by what a piece does -/
section
variable (X : Cx)
def semE (e : Expr) : TE := fun σ H Q => ∀ pins s, Inv X pins σ H s → wpAny (model X.prog X.w) X.A (eval e X.env) (EP X pins σ Q) X.xe s
def semT (e : Expr) : TT := fun σ H Q => ∀ pins s, Inv X pins σ H s → wpAny (model X.prog X.w) X.A (isTrue e X.env (eval e X.env)) (TP X pins σ Q) X.xe s
def semS (st : List Stmt) : TS := fun D σ H => ∀ pins s, Inv X pins σ H s → wpAny (model X.prog X.w) X.A (execs st X.env) (SP X pins D) X.xe s
def semG (tg : Expr) : TG := fun v σ H Q => ∀ pins s u, Inv X pins σ H s → L2.RelV v u → wpAny (model X.prog X.w) X.A (assign tg X.env u) (fun _ s' => ∃ σ' H', Inv X pins σ' H' s' ∧ Q σ' H') X.xe s
end
section
variable {X : Cx} {W : WD} {e : Expr} {te : TED} {tt : TTD} {st : List Stmt} {ts : TSD} {tg : Expr} {g : TGD}
theorem pe_sem : PE X e (semE X e) := ⟨fun pins s _ _ _ I h => h pins s I⟩
theorem pt_sem : PT X e (semT X e) := ⟨fun pins s _ _ _ I h => h pins s I⟩
theorem pss_sem : PSs X st (semS X st) := ⟨fun pins s _ _ _ I h => h pins s I⟩
theorem pg_sem : PG X tg (semG X tg) := ⟨fun pins s _ _ _ u _ I r h => h pins s u I r⟩
theorem EP.imp {pins : List (Addr × Obj)} {σ : L2.St} {Q Q' : VK} {u : Value} {s' : Shared} (h : EP X pins σ Q u s') (hq : ∀ v H', Q v H' → Q' v H') : EP X pins σ Q' u s' :=
  let ⟨v, H', I, r, q⟩ := h
  ⟨v, H', I, r, hq v H' q⟩
theorem DE.sem (h : DE X W e te) {σ : L2.St} {H Z : Hp} {σD : DSt} {M : Mem} {K : DK} {KX : DX} {Q : VK} (rs : RS H σD σ) (z : AbsZ X.prog X.w X.K Z M H) (wi : Wish X.prog X.w X.K W σ H Z KX) (q : te σD M K KX)
    (hq : ∀ v H', lift X.prog X.w X.K H Z K v H' → Q v H') : semE X e σ H Q := fun pins s I => thn (h.run pins s σ H σD Z M K KX I rs z wi q) fun _ _ e => EP.imp e hq
theorem DT.sem (h : DT X W e tt) {σ : L2.St} {H Z : Hp} {σD : DSt} {M : Mem} {K : Bool → Mem → Prop} {KX : DX} {Q : Bool → Hp → Prop} (rs : RS H σD σ) (z : AbsZ X.prog X.w X.K Z M H) (wi : Wish X.prog X.w X.K W σ H Z KX) (q : tt σD M K KX)
    (hq : ∀ b H', liftT X.prog X.w X.K H Z K b H' → Q b H') : semT X e σ H Q := fun pins s I => thn (h.run pins s σ H σD Z M K KX I rs z wi q) fun _ _ ⟨H', I', e⟩ => ⟨H', I', hq _ _ e⟩
theorem SP.imp {pins : List (Addr × Obj)} {D D' : L2.Ends} {f : Flow} {s' : Shared} (h : SP X pins D f s') (h1 : ∀ σ H, D.nx σ H → D'.nx σ H) (h2 : ∀ v H, D.rt v H → D'.rt v H) (h3 : ∀ σ H, D.bk σ H → D'.bk σ H) (h4 : ∀ σ H, D.ct σ H → D'.ct σ H) : SP X pins D' f s' := by
  cases f with
  | next => obtain ⟨σ, H, I, q⟩ := h; exact ⟨σ, H, I, h1 _ _ q⟩
  | brk => obtain ⟨σ, H, I, q⟩ := h; exact ⟨σ, H, I, h3 _ _ q⟩
  | cont => obtain ⟨σ, H, I, q⟩ := h; exact ⟨σ, H, I, h4 _ _ q⟩
  | ret u => obtain ⟨v, σ, H, I, r, q⟩ := h; exact ⟨v, σ, H, I, r, h2 _ _ q⟩
theorem SP.back {pins : List (Addr × Obj)} {H H1 Z : Hp} {D : DEnds} {f : Flow} {s' : Shared} (k : Keep H H1) (h : SP X pins (liftD X.prog X.w X.K H1 Z D) f s') : SP X pins (liftD X.prog X.w X.K H Z D) f s' :=
  SP.imp h (fun _ _ q => liftG.back k q) (fun _ _ q => lift.back k q) (fun _ _ q => liftG.back k q) fun _ _ q => liftG.back k q
theorem DS.sem (h : DS X W st ts) {σ : L2.St} {H Z : Hp} {σD : DSt} {M : Mem} {D : DEnds} {D' : L2.Ends} (rs : RS H σD σ) (z : AbsZ X.prog X.w X.K Z M H) (wi : WishS X.prog X.w X.K W H Z D) (q : ts D σD M)
    (h1 : ∀ σ' H', liftG X.prog X.w X.K H Z D.nx σ' H' → D'.nx σ' H') (h2 : ∀ v H', lift X.prog X.w X.K H Z D.rt v H' → D'.rt v H') (h3 : ∀ σ' H', liftG X.prog X.w X.K H Z D.bk σ' H' → D'.bk σ' H') (h4 : ∀ σ' H', liftG X.prog X.w X.K H Z D.ct σ' H' → D'.ct σ' H') :
    semS X st D' σ H := fun pins s I => thn (h.run pins s σ H σD Z M D I rs z wi q) fun _ _ e => SP.imp e h1 h2 h3 h4
theorem DG.sem (h : DG X W tg g) {σ : L2.St} {H Z : Hp} {σD : DSt} {M : Mem} {d : D} {v : V} {K : DSt → Mem → Prop} {KX : DX} {Q : L2.St → Hp → Prop} (rs : RS H σD σ) (z : AbsZ X.prog X.w X.K Z M H) (wi : Wish X.prog X.w X.K W σ H Z KX) (r : Rep H d v) (q : g d σD M K KX)
    (hq : ∀ σ' H', liftG X.prog X.w X.K H Z K σ' H' → Q σ' H') : semG X tg v σ H Q := fun pins s u I rv => thn (h.run pins s σ H σD Z M d v u K KX I rs z wi r rv q) fun _ _ ⟨σ', H', I', e⟩ => ⟨σ', H', I', hq _ _ e⟩
/-- from a rule of the hand layer -/
theorem DS1.of {st : Stmt} {t : TS} {td : TSD} (h : PS X st t)
    (hl : ∀ (σ : L2.St) (H : Hp) (σD : DSt) (Z : Hp) (M : Mem) (D : DEnds), RS H σD σ → AbsZ X.prog X.w X.K Z M H → WishS X.prog X.w X.K W H Z D → td D σD M → t (liftD X.prog X.w X.K H Z D) σ H) : DS1 X W st td :=
  ⟨fun pins s σ H σD Z M D I rs z wi q => h.run pins s σ H _ I (hl σ H σD Z M D rs z wi q)⟩
end
/-! ### blocks, small statements -/
def sNext : TSD := fun D σ M => D.nx σ M
def sSeq (t u : TSD) : TSD := fun D σ M => t { D with nx := u D } σ M
def sDrop (te : TED) : TSD := fun D σ M => te σ M (fun _ M1 => D.nx σ M1) (D.kx σ)
def sRet (te : TED) : TSD := fun D σ M => te σ M D.rt (D.kx σ)
def sRetN : TSD := fun D _ M => D.rt .non M
def sIf (c : TTD) (t u : TSD) : TSD := fun D σ M => c σ M (fun b M1 => match b with | true => t D σ M1 | false => u D σ M1) (D.kx σ)
def sBreak : TSD := fun D σ M => D.bk σ M
def sCont : TSD := fun D σ M => D.ct σ M
def sNever : TSD := fun _ _ _ => False
def sAsg (te : TED) (g : TGD) : TSD := fun D σ M => te σ M (fun x M1 => g x σ M1 D.nx (D.kx σ)) (D.kx σ)
/-- name op= e -/
def sAug (i : Nat) (te : TED) (r : D → D → Mem → DK → Prop) : TSD := fun D σ M => match σ[i]? with
  | some (some x) => te σ M (fun y M1 => r x y M1 fun z M2 => D.nx (σ.set i (some z)) M2) (D.kx σ)
  | _ => False
section
variable {X : Cx} {W : WD} {pos : Pos} {st : Stmt} {rest a b : List Stmt} {t u : TSD} {e c : Expr} {te : TED} {tc : TTD}
theorem ds_nil : DS X W [] sNext := ⟨fun pins s σ H σD Z M D I rs z wi h => wpAny_execs_nil ⟨σ, H, I, σD, M, rs, Keep.refl, z, h⟩⟩
theorem ds_cons (h1 : DS1 X W st t) (h2 : DS X W rest u) : DS X W (st :: rest) (sSeq t u) := by
  refine ⟨fun pins s σ H σD Z M D I rs z wi h => ?_⟩
  refine wpAny_execs_cons (thn (h1.run pins s σ H σD Z M { D with nx := u D } I rs z wi h) fun f s1 q => ?_)
  cases f with
  | next =>
    obtain ⟨σ', H', I', σD', M', rs', k, z', q⟩ := q
    exact thn (h2.run pins s1 σ' H' σD' Z M' D I' rs' z' (wi.keep k) q) fun _ _ e => SP.back k e
  | ret v => exact q
  | brk => exact q
  | cont => exact q
theorem ds_never : DS X W rest sNever := ⟨fun _ _ _ _ _ _ _ _ _ _ _ _ h => h.elim⟩
theorem ds1_never : DS1 X W st sNever := ⟨fun _ _ _ _ _ _ _ _ _ _ _ _ h => h.elim⟩
theorem ds_pass : DS1 X W (.Pass pos) sNext := DS1.of ps_pass fun σ H σD Z M D rs z wi q => ⟨σD, M, rs, Keep.refl, z, q⟩
theorem ds_break : DS1 X W (.Break pos) sBreak := DS1.of ps_break fun σ H σD Z M D rs z wi q => ⟨σD, M, rs, Keep.refl, z, q⟩
theorem ds_cont : DS1 X W (.Continue pos) sCont := DS1.of ps_continue fun σ H σD Z M D rs z wi q => ⟨σD, M, rs, Keep.refl, z, q⟩
theorem ds_doc {x : Str} {j pos'} : DS1 X W (.Expr (.Constant (.str x) j pos) pos') sNext := DS1.of ps_doc fun σ H σD Z M D rs z wi q => ⟨σD, M, rs, Keep.refl, z, q⟩
theorem ds_expr (he : DE X W e te) (hs : swapsWith e none pos.line X.env = pure false) : DS1 X W (.Expr e pos) (sDrop te) :=
  DS1.of (ps_expr (pe_sem (e := e)) hs) fun σ H σD Z M D rs z wi q => he.sem rs z (wi.at rs) q fun v H' ⟨d, M', r, k, z', q'⟩ => ⟨σD, M', rs.keep k, k, z', q'⟩
theorem ds_ret (he : DE X W e te) : DS1 X W (.Return (some e) pos) (sRet te) :=
  DS1.of (ps_ret (pe_sem (e := e))) fun σ H σD Z M D rs z wi q => he.sem rs z (wi.at rs) q fun v H' h => h
theorem ds_retN : DS1 X W (.Return none pos) sRetN := DS1.of ps_retN fun σ H σD Z M D rs z wi q => ⟨.non, M, .non, Keep.refl, z, q⟩
theorem ds_if (hc : DT X W c tc) (ha : DS X W a t) (hb : DS X W b u) : DS1 X W (.If c a b pos) (sIf tc t u) :=
  DS1.of (ps_if (pt_sem (e := c)) (pss_sem (st := a)) (pss_sem (st := b))) fun σ H σD Z M D rs z wi q => hc.sem rs z (wi.at rs) q fun b H' ⟨M', k, z', q'⟩ => by
    cases b with
    | true => exact fun pins s I => thn (ha.run pins s σ H' σD Z M' D I (rs.keep k) z' (wi.keep k) q') fun _ _ e => SP.back k e
    | false => exact fun pins s I => thn (hb.run pins s σ H' σD Z M' D I (rs.keep k) z' (wi.keep k) q') fun _ _ e => SP.back k e
theorem ds_asg {tg : Expr} {g : TGD} (he : DE X W e te) (hg : DG X W tg g) (hs : swapsWithSole [tg] e pos.line X.env = pure false) (hw : swappedStores [tg] e X.env = pure none)
    (h1 : (assignEach [tg] X.env).map (·.2) = [assign tg X.env]) : DS1 X W (.Assign [tg] e pos) (sAsg te g) :=
  DS1.of (ps_asg (pe_sem (e := e)) (pg_sem (tg := tg)) hs hw h1) fun σ H σD Z M D rs z wi q => he.sem rs z (wi.at rs) q fun v H' ⟨d, M', r, k, z', q'⟩ =>
    hg.sem (rs.keep k) z' ((wi.at rs).keep k) r q' fun σ' H'' h => liftG.back k h
theorem ds_aug {i : Nat} {x : Str} {op : Operator} {r : D → D → Mem → DK → Prop} {pos' : Pos} (hN : X.N.Nodup) (hi : X.N[i]? = some x) (hx : Loc X.env.scope x) (he : DE X W e te) (ho : DOp X (inplaceOp op) r) (hf : X.fn x = true ∨ X.env.scope.names.lookup x = some .local) :
    DS1 X W (.AugAssign (.Name x pos') op e pos) (sAug i te r) := by
  refine ⟨fun pins s σ H σD Z M D I rs z wi h => ?_⟩
  unfold sAug at h
  split at h
  · rename_i xd e1
    obtain ⟨v, e2, rx⟩ := rs.at_ i xd e1
    obtain ⟨m, hn, hl⟩ := I.loc
    have vis : Vis X.env.scope x := by rcases hx with k | k; exact .inl k; exact .inr (.inl k)
    obtain ⟨u, r', l⟩ := hl i x v hi e2 vis
    refine wpAny_AugAssign_Name ?_
    have go : wpAny (model X.prog X.w) X.A (eval e X.env) (fun w s₂ => wpAny (model X.prog X.w) X.A (inplaceOp op u w) (fun r s₃ => wpAny (model X.prog X.w) X.A (storeName X.env x r) (fun _ => SP X pins (liftD X.prog X.w X.K H Z D) .next) X.xe s₃) X.xe s₂) X.xe s := by
      refine thn (he.run pins s σ H σD Z M _ _ I rs z (wi.at rs) h) fun w s1 ⟨yv, H1, I1, r1, y, M1, p1, k1, z1, q1⟩ => ?_
      refine thn (ho pins s1 σ H1 Z M1 xd y v yv u w _ I1 z1 (rx.keep k1) p1 r' r1 q1) fun zz s2 ⟨zv, H2, I2, r2, d2, M2, p2, k2, z2, q2⟩ => ?_
      exact store_ok I2 hN hi hx r2 (fun s3 I3 => ⟨_, H2, I3, _, M2, (rs.keep (k1.trans k2)).set p2, k1.trans k2, z2, q2⟩) hf
    rcases l with ⟨hk, hm⟩ | ⟨hk, c, hc, hcell⟩
    · exact wpAny_loadName_local I.ok.kind hk hn hm go
    · rcases hk with hk | hk
      · exact wpAny_loadName_cell I.ok.kind hk hc hcell go
      · rcases hx with k | k
        · have : X.env.scope.names.lookup x = some .free := hk
          rw [k] at this; cases this
        · have : X.env.scope.names.lookup x = some .free := hk
          rw [k] at this; cases this
  · exact h.elim
/-! ### targets -/
def gNameD (i : Nat) : TGD := fun d σ M K _ => K (σ.set i (some d)) M
def gsNil : TGsD := fun ds σ M K => match ds with | [] => K σ M | _ :: _ => False
def gsCons (i : Nat) (g : TGsD) : TGsD := fun ds σ M K => match ds with
  | [] => False
  | d :: r => g r (σ.set i (some d)) M K
def gTupD (g : TGsD) (n : Nat) : TGD := fun d σ M K _ => onS (sqOf M d) fun ds => ds.length = n ∧ g ds σ M K
def gSubD (to ti : TED) : TGD := fun d σ M K KX => to σ M (fun o M1 => ti σ M1 (fun i M2 => setD o i d M2 (K σ)) KX) KX
variable {tg : Expr} {tgs : List Expr}
theorem dg_name {i : Nat} {x : Str} (hN : X.N.Nodup) (hi : X.N[i]? = some x) (hx : Loc X.env.scope x) (hf : X.fn x = true ∨ X.env.scope.names.lookup x = some .local) : DG X W (.Name x pos) (gNameD i) :=
  ⟨fun pins s σ H σD Z M d v u K KX I rs z wi r rv q => wpAny_assign_Name (store_ok I hN hi hx rv (fun s' I' => ⟨_, H, I', _, M, rs.set r, Keep.refl, z, q⟩) hf)⟩
theorem dgs_nil : DGs X [] gsNil := by
  refine ⟨fun pins s σ H σD Z M ds vs us K I rs z rp rv q => ?_⟩
  unfold gsNil at q
  split at q
  · cases rp; cases rv
    exact assignInOrder_nil ⟨σ, H, I, σD, M, rs, Keep.refl, z, q⟩
  · exact q.elim
theorem dgs_cons {i : Nat} {x : Str} {g : TGsD} (hN : X.N.Nodup) (hi : X.N[i]? = some x) (hx : Loc X.env.scope x) (hf : X.fn x = true ∨ X.env.scope.names.lookup x = some .local) (h2 : DGs X tgs g)
    (hs : (assignEach (.Name x pos :: tgs) X.env).map (·.2) = assign (.Name x pos) X.env :: (assignEach tgs X.env).map (·.2)) : DGs X (.Name x pos :: tgs) (gsCons i g) := by
  refine ⟨fun pins s σ H σD Z M ds vs us K I rs z rp rv q => ?_⟩
  unfold gsCons at q
  split at q
  · exact q.elim
  · cases rp with
    | cons r1 rt =>
      cases rv with
      | cons v1 vt =>
        rw [hs]
        refine assignInOrder_cons (wpAny_assign_Name (store_ok I hN hi hx v1 (fun s1 I1 => ?_) hf))
        exact h2.run pins s1 _ H _ Z M _ _ _ K I1 (rs.set r1) z rt vt q
theorem dg_tup {k : Nat} {g : TGsD} {n : Nat} (hc : X.calm = true) (h : DGs X tgs g) (hn : (assignEach tgs X.env).length = n) (hst : (assignEach tgs X.env).findIdx? (·.1) = none) : DG X W (.Tuple tgs k pos) (gTupD g n) := by
  refine ⟨fun pins s σ H σD Z M d v u K KX I rs z wi r rv q => ?_⟩
  obtain ⟨ds, hd, hl, q⟩ := onS_out q
  obtain ⟨a, vs, rfl, rfl, sq, rp⟩ := sqOf_val I z hd r rv
  have l1 := rp.length
  rcases sq with sq | sq
  · obtain ⟨its, rvs, ht, hz⟩ := I.list sq
    have hl2 := rvs.length
    have hsz : (assignEach tgs X.env).length = its.toArray.size := by rw [hn, List.size_toArray]; omega
    rw [PyProof.Rows.assign_Tuple]
    refine wpAny_bind (wpAny_standAt ?_)
    unfold unpack
    rw [hsz, hst]
    refine wpAny_bind (wpAny_holding (PySem.W.kun_itemsOf (I.ok.hd hc) ht.isList fun h' hx => ?_))
    have I1 : Inv X pins σ H { s with heap := h' } := I.kept (t' := s.toks) fun b o e => hx b o (Nat.ne_of_lt (Heap.lt_size e)) e
    exact h.run pins _ σ H σD Z M ds vs _ K I1 rs z rp (by simpa using rvs) q
  · obtain ⟨its, rvs, ht, hz⟩ := I.tuple sq
    refine assign_Tuple_tuple (I.ok.hd hc) ht (by have := rvs.length; simp [hn]; omega) hst fun h' hx => ?_
    have I1 : Inv X pins σ H { s with heap := h' } := I.kept (t' := s.toks) fun b o e => hx b o (Nat.ne_of_lt (Heap.lt_size e)) e
    exact h.run pins _ σ H σD Z M ds vs _ K I1 rs z rp (by simpa using rvs) q
theorem dg_sub (rm : Rm X) {o i : Expr} {to ti : TED} (ho : DE X W o to) (hi : DE X W i ti)
    (ha : ∀ v, assign (.Subscript o i pos) X.env v = (do
      let ov ← holding [v] (eval o X.env)
      let iv ← holding [v, ov] (eval i X.env)
      standAt pos
      holding [v, ov, iv] (setItem ov iv v)
      release [v, ov, iv] [])) : DG X W (.Subscript o i pos) (gSubD to ti) := by
  refine ⟨fun pins s σ H σD Z M d v u K KX I rs z wi r rv h => ?_⟩
  rw [ha]
  refine wpAny_bind (wpAny_holding (thn (ho.run pins s σ H σD Z M _ KX I rs z wi h) fun ov s1 ⟨x, H1, I1, r1, xd, M1, p1, k1, z1, q1⟩ => ?_))
  refine wpAny_bind (wpAny_holding (thn (hi.run pins s1 σ H1 σD Z M1 _ KX I1 (rs.keep k1) z1 (wi.keep k1) q1) fun iv s2 ⟨y, H2, I2, r2, yd, M2, p2, k2, z2, q2⟩ => ?_))
  refine wpAny_bind (wpAny_standAt (wpAny_bind (wpAny_holding (thn (set_ok rm I2 z2 (p1.keep k2) p2 (r.keep (k1.trans k2)) r1 r2 rv q2) fun _ s3 ⟨H3, M3, I3, k3, z3, q3⟩ => ?_))))
  exact wpAny_release ⟨σ, H3, I3, σD, M3, rs.keep ((k1.trans k2).trans k3), (k1.trans k2).trans k3, z3, q3⟩
end
end DL
/-! # The D-layer: while, for -/
namespace DL
open PySem PySem.Spec PyProof.Rows L2
/-! ### a larger frame -/
def ZLe (Z Z1 : Hp) : Prop := ∀ a o, Z a = some o → Z1 a = some o
theorem ZLe.refl {Z : Hp} : ZLe Z Z := fun _ _ h => h
section
variable {P : Program} {w : World} {K : PySem.W.Frag} {Z Z1 : Hp} {M : Mem} {H : Hp}
theorem AbsZ.zle (z : AbsZ P w K Z1 M H) (h : ZLe Z Z1) : AbsZ P w K Z M H := ⟨z.mem, fun a o e => z.fr a o (h a o e), fun a o u e f q => z.dj a o u e f (h a u q)⟩
variable {X : Cx} {W : WD}
theorem WishS.zle {D : DEnds} (wi : WishS P w K W H Z D) (h : ZLe Z Z1) : WishS P w K W H Z1 D := fun c σD σ' M' H' e r k z => wi c σD σ' M' H' e r k (z.zle h)
theorem Wish.zle {σ : L2.St} {KX : DX} (wi : Wish P w K W σ H Z KX) (h : ZLe Z Z1) : Wish P w K W σ H Z1 KX := fun c M' H' e k z => wi c M' H' e k (z.zle h)
theorem liftG.zle {Q : DSt → Mem → Prop} {σ' : L2.St} {H' : Hp} (h : ZLe Z Z1) (q : liftG P w K H Z1 Q σ' H') : liftG P w K H Z Q σ' H' :=
  let ⟨σD, M', r, k, z, q⟩ := q
  ⟨σD, M', r, k, z.zle h, q⟩
theorem lift.zle {Q : DK} {v : V} {H' : Hp} (h : ZLe Z Z1) (q : lift P w K H Z1 Q v H') : lift P w K H Z Q v H' :=
  let ⟨d, M', r, k, z, q⟩ := q
  ⟨d, M', r, k, z.zle h, q⟩
end
/-! ### while -/
def whileD (tc : TTD) (tb : TSD) (D : DEnds) : Nat → DSt → Mem → Prop
  | 0 => fun _ _ => False
  | n + 1 => fun σ M => tc σ M (fun b M1 => match b with
    | true => tb { D with nx := whileD tc tb D n, ct := whileD tc tb D n, bk := D.nx } σ M1
    | false => D.nx σ M1) (D.kx σ)
def sWhile (tc : TTD) (tb : TSD) : TSD := fun D σ M => ∃ n, whileD tc tb D n σ M
section
variable {X : Cx} {W : WD} {pos : Pos} {c : Expr} {body : List Stmt} {tc : TTD} {tb : TSD}
theorem ds_while (hp : PassesOwn (model X.prog X.w) X.A X.env X.xe) (hc : DT X W c tc) (hb : DS X W body tb) : DS1 X W (.While c body [] pos) (sWhile tc tb) :=
  DS1.of (ps_while hp (pt_sem (e := c)) (pss_sem (st := body))) fun σ H σD Z M D rs z wi ⟨n, q⟩ => by
    refine ⟨fun m σ' H' => ∃ σD' M', RS H' σD' σ' ∧ Keep H H' ∧ AbsZ X.prog X.w X.K Z M' H' ∧ whileD tc tb D m σD' M', ⟨n, σD, M, rs, Keep.refl, z, q⟩, ?_⟩
    rintro m σ1 H1 ⟨σD1, M1, rs1, k1, z1, q1⟩
    cases m with
    | zero => exact q1.elim
    | succ m =>
      refine hc.sem rs1 z1 ((wi.keep k1).at rs1) q1 fun b H2 ⟨M2, k2, z2, q2⟩ => ?_
      cases b with
      | false => exact ⟨σD1, M2, rs1.keep k2, k1.trans k2, z2, q2⟩
      | true =>
        refine ⟨fun σ' H' => ∃ σD' M', RS H' σD' σ' ∧ Keep H H' ∧ AbsZ X.prog X.w X.K Z M' H' ∧ whileD tc tb D m σD' M', fun σ' H' hn => ⟨m, Nat.lt_succ_self m, hn⟩, ?_⟩
        have k12 := k1.trans k2
        exact hb.sem (D := { D with nx := whileD tc tb D m, ct := whileD tc tb D m, bk := D.nx }) (rs1.keep k2) z2 (wi.keep k12) q2 (fun σ' H' ⟨σD', M', a, b, c, d⟩ => ⟨σD', M', a, k12.trans b, c, d⟩) (fun v H' h => lift.back k12 h) (fun σ' H' h => liftG.back k12 h) fun σ' H' ⟨σD', M', a, b, c, d⟩ => ⟨σD', M', a, k12.trans b, c, d⟩
end
/-! ### for -/
/-- the items that an iterator gives while chk holds -/
def Fits (X : Cx) (Z0 H0 : Hp) (J : It) (chk : Mem → Prop) (items : List D) : Prop := ∀ (i : Nat) (H : Hp) (M : Mem) (Z : Hp), ZLe Z0 Z → Keep H0 H → AbsZ X.prog X.w X.K Z M H → chk M →
  (∀ d, items[i]? = some d → J.go i H ∧ ∀ x H', J.yld i H x H' → Keep H H' ∧ AbsZ X.prog X.w X.K Z M H' ∧ Rep H' d x) ∧ (items.length ≤ i → J.stop i H)
abbrev TID := DSt → Mem → (List D → (Mem → Prop) → Mem → Prop) → DX → Prop
structure DI (X : Cx) (W : WD) (tg iter : Expr) (wi : TID) : Prop where
  run : ∀ (pins : List (Addr × Obj)) (s : Shared) (σ : L2.St) (H : Hp) (σD : DSt) (Z : Hp) (M : Mem) (K : List D → (Mem → Prop) → Mem → Prop) (KX : DX), Inv X pins σ H s → RS H σD σ → AbsZ X.prog X.w X.K Z M H → Wish X.prog X.w X.K W σ H Z KX → wi σD M K KX →
    wpAny (model X.prog X.w) X.A (eval iter X.env) (fun v s1 => wpAny (model X.prog X.w) X.A (pyIter v) (PIE X pins σ tg fun J H1 => ∃ Z1 M1 items chk, Keep H H1 ∧ ZLe Z Z1 ∧ AbsZ X.prog X.w X.K Z1 M1 H1 ∧ Fits X Z1 H1 J chk items ∧ K items chk M1) X.xe s1) X.xe s
def forD (g : TGD) (tb : TSD) (chk : Mem → Prop) (B : DEnds) : List D → DSt → Mem → Prop
  | [] => fun σ M => chk M ∧ B.nx σ M
  | x :: r => fun σ M => chk M ∧ g x σ M (fun σ1 M1 => tb { B with nx := forD g tb chk B r, ct := forD g tb chk B r, bk := B.nx } σ1 M1) (B.kx σ)
def sFor (wi : TID) (g : TGD) (tb : TSD) : TSD := fun D σ M => wi σ M (fun items chk M1 => forD g tb chk D items σ M1) (D.kx σ)
def semI (X : Cx) (tg iter : Expr) : TI := fun σ H R => ∀ pins s, Inv X pins σ H s → wpAny (model X.prog X.w) X.A (eval iter X.env) (fun v s1 => wpAny (model X.prog X.w) X.A (pyIter v) (PIE X pins σ tg R) X.xe s1) X.xe s
theorem pi_sem {X : Cx} {tg iter : Expr} : PI X tg iter (semI X tg iter) := ⟨fun pins s _ _ _ I h => h pins s I⟩
theorem PIE.imp {X : Cx} {pins : List (Addr × Obj)} {σ : L2.St} {tg : Expr} {R R' : It → Hp → Prop} {v : Value} {s : Shared} (h : PIE X pins σ tg R v s) (q : ∀ J H, R J H → R' J H) : PIE X pins σ tg R' v s :=
  let ⟨it, fp, tn, J, H', a, b, c, d, e, f⟩ := h
  ⟨it, fp, tn, J, H', a, b, c, d, e, q J H' f⟩
section
variable {X : Cx} {W : WD} {pos : Pos} {iter tg : Expr} {body : List Stmt} {wi : TID} {g : TGD} {tb : TSD}
theorem ds_for (hp : PassesOwn (model X.prog X.w) X.A X.env X.xe) (hc : X.calm = true) (hi : DI X W tg iter wi) (hg : DG X W tg g) (hb : DS X W body tb) (hs : ∀ x, foldedSetIterable iter X.env x = pure x) : DS1 X W (.For tg iter body [] pos) (sFor wi g tb) :=
  DS1.of (ps_for hp hc (pi_sem (tg := tg) (iter := iter)) (pg_sem (tg := tg)) (pss_sem (st := body)) hs) fun σ H σD Z M D rs z ws q => by
    intro pins s I
    refine thn (hi.run pins s σ H σD Z M _ _ I rs z (ws.at rs) q) fun v s1 h1 => thn h1 fun itv s2 h2 => PIE.imp h2 fun J H1 ⟨Z1, M1, items, chk, k1, zl, z1, ft, q1⟩ => ?_
    refine ⟨fun i m σ' H' => m = items.length - i ∧ ∃ σD' M', RS H' σD' σ' ∧ Keep H1 H' ∧ AbsZ X.prog X.w X.K Z1 M' H' ∧ forD g tb chk D (items.drop i) σD' M', ⟨items.length, by simp, σD, M1, rs.keep k1, Keep.refl, z1, q1⟩, ?_⟩
    rintro i m σ2 H2 ⟨rfl, σD2, M2, rs2, k2, z2, q2⟩
    have wi2 : WishS X.prog X.w X.K W H2 Z1 D := (ws.keep (k1.trans k2)).zle zl
    rcases Nat.lt_or_ge i items.length with hi' | hi'
    · rw [List.drop_eq_getElem_cons hi'] at q2
      obtain ⟨hchk, q2⟩ := q2
      obtain ⟨f1, f2⟩ := ft i H2 M2 Z1 ZLe.refl k2 z2 hchk
      obtain ⟨go, yl⟩ := f1 items[i] (List.getElem?_eq_getElem hi')
      refine .inr ⟨go, fun σ' H' => ∃ σD' M', RS H' σD' σ' ∧ Keep H1 H' ∧ AbsZ X.prog X.w X.K Z1 M' H' ∧ forD g tb chk D (items.drop (i + 1)) σD' M', fun σ' H' hn => ⟨items.length - (i + 1), by omega, rfl, hn⟩, fun x H3 y => ?_⟩
      obtain ⟨k3, z3, r3⟩ := yl x H3 y
      have k23 := k2.trans k3
      refine hg.sem (rs2.keep k3) z3 ((wi2.at rs2).keep k3) r3 q2 fun σ4 H4 ⟨σD4, M4, rs4, k4, z4, q4⟩ => ?_
      have k234 := k23.trans k4
      exact hb.sem (D := { D with nx := forD g tb chk D (items.drop (i + 1)), ct := forD g tb chk D (items.drop (i + 1)), bk := D.nx }) rs4 z4 (wi2.keep (k3.trans k4)) q4 (fun σ' H' ⟨σD', M', a, b, c, d⟩ => ⟨σD', M', a, k234.trans b, c, d⟩) (fun v H' h => lift.back (k1.trans k234) (lift.zle zl h)) (fun σ' H' h => liftG.back (k1.trans k234) (liftG.zle zl h)) fun σ' H' ⟨σD', M', a, b, c, d⟩ => ⟨σD', M', a, k234.trans b, c, d⟩
    · rw [List.drop_eq_nil_of_le hi'] at q2
      obtain ⟨hchk, q2⟩ := q2
      obtain ⟨f1, f2⟩ := ft i H2 M2 Z1 ZLe.refl k2 z2 hchk
      exact .inl ⟨f2 hi', σD2, M2, rs2, k1.trans k2, z2.zle zl, q2⟩
end
/-! ### what is walked: a list, a tuple, a dict's keys -/
/-- a dict is locked from here on -/
def lockO (t : Bool) (kvs : List (D × D)) : DO := match t with
  | true => .rod kvs
  | false => .roi kvs
def iVal (te : TED) : TID := fun σ M K KX => te σ M (fun x M1 => match sqOf M1 x with
  | some xs => K xs (fun M' => match x with | .ref a => lsOf M' (.ref a) = some xs | _ => True) M1
  | none => match x with
    | .ref a => onS (dcOf M1 (.ref a)) fun p => K (p.2.map (·.1)) (fun _ => True) (up M1 a (lockO p.1 p.2))
    | _ => False) KX
theorem RepO.dict_mut {P : Program} {w : World} {K : PySem.W.Frag} {H : Hp} {a : Addr} {t : Bool} {kvs : List (D × D)} (h : RepO P w K H a (mkD t kvs)) : ∃ u, H a = some u ∧ Mut (some u) ∧ ∀ ob H', Keep H H' → H' a = some (.frz ob u) → RepO P w K H' a (lockO t kvs) := by
  cases t with
  | true =>
    obtain ⟨o, h1, h2⟩ := h
    exact ⟨o, h1, h2.mut, fun ob H' k e => ⟨ob, o, e, h2.keep k⟩⟩
  | false =>
    obtain ⟨o, h1, h2⟩ := h
    exact ⟨o, h1, h2.mut, fun ob H' k e => ⟨ob, o, e, h2.keep k⟩⟩
section
variable {X : Cx} {pins : List (Addr × Obj)} {s : Shared} {σ : L2.St} {H Z : Hp} {M : Mem}
/-- a dict locked: what stands there in the model's heap, and the frame that holds it -/
theorem lock_ok (I : Inv X pins σ H s) (z : AbsZ X.prog X.w X.K Z M H) {a : Addr} {t : Bool} {kvs : List (D × D)} (h : dcOf M (.ref a) = some (t, kvs)) :
    ∃ ob u es ep H1, Inv X pins σ H1 s ∧ Keep H H1 ∧ H1 a = some (.frz ob u) ∧ AbsZ X.prog X.w X.K (upd Z a (.frz ob u)) (up M a (lockO t kvs)) H1 ∧ ZLe Z (upd Z a (.frz ob u)) ∧ DcRaw X H1 s.heap a kvs ob es ep := by
  have fin : ∀ (ob : Obj) (u : HO) (H1 : Hp), Inv X pins σ H1 s → Keep H H1 → H1 a = some (.frz ob u) → AbsZ X.prog X.w X.K Z (up M a (lockO t kvs)) H1 → ∃ ob u es ep H1, Inv X pins σ H1 s ∧ Keep H H1 ∧ H1 a = some (.frz ob u) ∧ AbsZ X.prog X.w X.K (upd Z a (.frz ob u)) (up M a (lockO t kvs)) H1 ∧ ZLe Z (upd Z a (.frz ob u)) ∧ DcRaw X H1 s.heap a kvs ob es ep := by
    intro ob u H1 I1 k1 e1 z1
    have hd : dcOf (up M a (lockO t kvs)) (.ref a) = some (t, kvs) := by
      unfold dcOf
      dsimp only
      rw [up_same]
      cases t <;> rfl
    obtain ⟨a', ob', es, ep, e2, e3, _, dr⟩ := dc_raw I1 z1 hd (.ref a) rfl
    cases e3
    have hob : ob' = ob := by
      have q := (I1.hok a _ e1).1
      rw [dr.at_] at q
      exact Option.some.inj q
    subst hob
    refine ⟨ob', u, es, ep, H1, I1, k1, e1, ⟨z1.mem, fun b o e => ?_, fun b o v e f q => ?_⟩, fun b o e => ?_, dr⟩
    · by_cases hb : b = a
      · subst hb
        rw [upd_same] at e
        cases e
        exact e1
      · rw [upd_ne hb] at e
        exact z1.fr b o e
    · by_cases hb : b = a
      · subst hb
        rw [up_same] at e
        cases e
        cases t <;> cases f
      · rw [upd_ne hb] at q
        exact z1.dj b o v e f q
    · by_cases hb : b = a
      · subst hb
        have q := z1.fr b o e
        rw [e1] at q
        cases q
        exact upd_same
      · rw [upd_ne hb]; exact e
  obtain ⟨a', e, hc⟩ := dcOf_out h
  cases e
  have two : (M a = some (mkD t kvs)) ∨ M a = some (lockO t kvs) := by
    rcases hc with ⟨rfl, h | h⟩ | ⟨rfl, h | h⟩
    · exact .inl h
    · exact .inr h
    · exact .inl h
    · exact .inr h
  rcases two with hm | hm
  · have hr := z.mem a _ hm
    obtain ⟨u, e1, mu, hl⟩ := hr.dict_mut
    obtain ⟨od, I1⟩ := I.lock e1 mu
    have k1 : Keep H (upd H a (.frz od u)) := mut_keep (by rw [e1]; exact mu)
    exact fin od u _ I1 k1 upd_same (z.set hm (mkD_free t kvs) (hl od _ k1 upd_same))
  · have hup : up M a (lockO t kvs) = M := by
      funext b
      unfold up
      split
      · rename_i q; rw [q, hm]
      · rfl
    have hr := z.mem a _ hm
    cases t with
    | true =>
      obtain ⟨ob, o, e1, _⟩ := hr
      exact fin ob o H I Keep.refl e1 (by rw [hup]; exact z)
    | false =>
      obtain ⟨ob, o, e1, _⟩ := hr
      exact fin ob o H I Keep.refl e1 (by rw [hup]; exact z)
end
/-- the keys of a locked dict as they stand -/
def Itw (d : Addr) (ob : Obj) (es : Array DictEntry) : It :=
  ⟨fun i H => (∃ u, H d = some (.frz ob u)) ∧ i < es.size, fun i H x H' => H' = H ∧ ∃ en, es[i]? = some en ∧ L2.RelV x en.key, fun i H => (∃ u, H d = some (.frz ob u)) ∧ es.size ≤ i⟩
theorem turn_raw {P : Program} {w : World} {K : PySem.W.Frag} {tg : Expr} {d : Addr} {ob : Obj} {es : Array DictEntry} {ep : Nat} (it : Addr) (hod : ob.data = .dict es ep) (hv : ∀ (i : Nat) (en : DictEntry), es[i]? = some en → ∃ x, L2.RelV x en.key) :
    Turn P w K tg (Itw d ob es) [it] it (fun i h => h.IsKeyIter it d i es.size ep) where
  mem := by simp
  obj := fun i h st b hb => by
    have e : b = it := by simpa using hb
    subst e
    obtain ⟨oi, e, c, dd⟩ := st
    exact ⟨oi, e, fun v z => by rw [dd] at z; cases z⟩
  keep := fun i h h' st k => st.at fun oi e => k it (by simp) oi e
  item := by
    intro X hP hw hK hc i pins s σ H E I hf st hg
    subst hP hw hK
    obtain ⟨⟨u, hd⟩, hi⟩ := hg
    obtain ⟨f0, f1, f2, f3, f4, f5⟩ := hf it (by simp)
    have hgd := (I.hok d _ hd).1
    have hen : es[i]? = some es[i] := Array.getElem?_eq_getElem hi
    obtain ⟨x, hx⟩ := hv i _ hen
    refine next_key_item st hgd hod rfl hen fun h' st' sb => ?_
    have I1 : Inv X pins σ H { s with heap := h' } := I.turned (t' := s.toks) (fun b ob hb e => (sb.2 b hb).trans e) f0 f1 f3 f4 f5
    obtain ⟨oi, e, c, dd⟩ := id st'
    exact ⟨_, rfl, go_of (s := { s with heap := h' }) e c dd (by decide) ⟨x, H, I1, hx, ⟨rfl, _, hen, hx⟩, st', fun b hb => (hf b hb).1⟩⟩
  done := by
    intro X hP hw hK hc i pins s σ H E I hf st hg
    subst hP hw hK
    obtain ⟨⟨u, hd⟩, hi⟩ := hg
    obtain ⟨f0, f1, f2, f3, f4, f5⟩ := hf it (by simp)
    have hgd := (I.hok d _ hd).1
    exact next_key_end (I.ok.hd hc) st hgd hod rfl hi fun h' eb => ⟨rfl, I.turned (t' := s.toks) (fun b ob hb e => eb b ob hb e) f0 f1 f3 f4 f5⟩
  self := fun A i s Q E st h => wpAny_pyIter_keyiter st h
theorem relV_uniq {x y : V} {u : Value} (h : L2.RelV x u) (h' : L2.RelV y u) : x = y := h.inj h'
section
variable {X : Cx} {W : WD} {tg e : Expr} {te : TED}
theorem fits_list {Z H0 : Hp} {a : Addr} {xs : List D} : Fits X Z H0 (Itl X.K a) (fun M' => lsOf M' (.ref a) = some xs) xs := by
  intro i H M Z' _ _ z hchk
  obtain ⟨a', vs, e1, _, sq, rp⟩ := lsOf_sql z (.ref a) hchk
  cases e1
  refine ⟨fun d hd => ?_, fun hl => ⟨vs, sq, by rw [← rp.length]; exact hl⟩⟩
  obtain ⟨v, hv, r⟩ := rp.get hd
  refine ⟨⟨vs, v, sq, hv⟩, fun x H' y => ?_⟩
  obtain ⟨rfl, y⟩ := y
  have q := y vs sq
  rw [hv] at q
  cases q
  exact ⟨Keep.refl, z, r⟩
theorem fits_tup {Z H0 : Hp} {a : Addr} {xs : List D} {vs : List V} (h0 : H0 a = some (.tup vs)) (r0 : Reps H0 xs vs) : Fits X Z H0 (Itt X.K a) (fun _ => True) xs := by
  intro i H M Z' _ k z _
  have sq : SqT X.K H a vs := SqT.of (k a vs h0)
  have rp := r0.keep k
  refine ⟨fun d hd => ?_, fun hl => ⟨vs, sq, by rw [← rp.length]; exact hl⟩⟩
  obtain ⟨v, hv, r⟩ := rp.get hd
  refine ⟨⟨vs, v, sq, hv⟩, fun x H' y => ?_⟩
  obtain ⟨rfl, y⟩ := y
  have q := y vs sq
  rw [hv] at q
  cases q
  exact ⟨Keep.refl, z, r⟩
theorem fits_raw {Z H0 : Hp} {d : Addr} {kvs : List (D × D)} {h : Heap} {ob : Obj} {u : HO} {es : Array DictEntry} {ep : Nat} (dr : DcRaw X H0 h d kvs ob es ep) (hZ : Z d = some (.frz ob u)) : Fits X Z H0 (Itw d ob es) (fun _ => True) (kvs.map (·.1)) := by
  intro i H M Z' zz k z _
  have hd := z.fr d _ (zz d _ hZ)
  refine ⟨fun x hx => ?_, fun hl => ⟨⟨u, hd⟩, by rw [dr.sz]; simpa using hl⟩⟩
  rw [List.getElem?_map, Option.map_eq_some_iff] at hx
  obtain ⟨kv, hkv, rfl⟩ := hx
  have hi : i < es.size := by
    rw [dr.sz]
    exact (List.getElem?_eq_some_iff.mp hkv).1
  refine ⟨⟨⟨u, hd⟩, hi⟩, fun x H' y => ?_⟩
  obtain ⟨rfl, en, hen, rx⟩ := y
  obtain ⟨⟨v, r1, r2⟩, _⟩ := dr.en i kv en hkv hen
  rw [rx.inj r2]
  exact ⟨Keep.refl, z, r1.keep k⟩
theorem di_val (he : DE X W e te) : DI X W tg e (iVal te) := by
  refine ⟨fun pins s σ H σD Z M K KX I rs z wi h => ?_⟩
  refine thn (he.run pins s σ H σD Z M _ KX I rs z wi h) fun v s1 ⟨xv, H1, I1, r1, x, M1, p1, k1, z1, q1⟩ => ?_
  dsimp only at q1
  split at q1
  · rename_i xs hx
    cases x with
    | ref a =>
      obtain ⟨a', vs, e1, rfl, sq, rp⟩ := lsOf_sql z1 p1 (show lsOf M1 (.ref a) = some xs from hx)
      cases e1
      cases r1
      obtain ⟨its, rv, p, hz⟩ := I1.list sq
      refine wpAny_pyIter_list p.isList ?_
      refine ⟨s1.heap.objs.size, [s1.heap.objs.size], _, _, H1, rfl, I1.kept (t' := s1.toks) fun b o e => Heap.get?_push_of_some _ e, turn_list a _, ⟨_, Heap.get?_push_size _ rfl, rfl, rfl⟩, fun b hb => ?_, Z, M1, xs, _, k1, ZLe.refl, z1, fits_list, q1⟩
      have e : b = s1.heap.objs.size := by simpa using hb
      subst e
      exact I1.fpOk (Nat.le_refl _) (I1.hok.fresh (Nat.le_refl _))
    | tup ds =>
      cases hx
      obtain ⟨a, vs, rfl, h1, rp⟩ := p1.tup_inv
      cases r1
      obtain ⟨its, rv, p, hz⟩ := I1.tuple (SqT.of h1)
      refine wpAny_pyIter_tuple (show s1.heap.IsTuple a its.toArray from p) ?_
      refine ⟨s1.heap.objs.size, [s1.heap.objs.size], _, _, H1, rfl, I1.kept (t' := s1.toks) fun b o e => Heap.get?_push_of_some _ e, turn_tuple a _, ⟨_, Heap.get?_push_size _ rfl, rfl, rfl⟩, fun b hb => ?_, Z, M1, xs, _, k1, ZLe.refl, z1, fits_tup h1 rp, q1⟩
      have e : b = s1.heap.objs.size := by simpa using hb
      subst e
      exact I1.fpOk (Nat.le_refl _) (I1.hok.fresh (Nat.le_refl _))
    | non => cases hx
    | bl _ => cases hx
    | int _ => cases hx
    | str _ => cases hx
    | ty _ => cases hx
  · split at q1
    · rename_i a
      obtain ⟨⟨t, kvs⟩, hd, q⟩ := onS_out q1
      cases p1
      cases r1
      obtain ⟨ob, u, es, ep, H2, I2, k2, e2, z2, zl, dr⟩ := lock_ok I1 z1 hd
      have hv : ∀ (i : Nat) (en : DictEntry), es[i]? = some en → ∃ x, L2.RelV x en.key := fun i en hen => by
        have hi : i < kvs.length := by
          rw [← dr.sz]
          exact (Array.getElem?_eq_some_iff.mp hen).1
        obtain ⟨⟨v, _, r⟩, _⟩ := dr.en i kvs[i] en (List.getElem?_eq_getElem hi) hen
        exact ⟨v, r⟩
      refine iter_keys dr.sys dr.at_ dr.ex dr.dat (pi_one (tk := s1.toks) I2 _ (turn_raw _ dr.dat hv) ⟨_, Heap.get?_push_size _ rfl, rfl, rfl⟩ ?_)
      exact ⟨_, _, _, _, k1.trans k2, zl, z2, fits_raw dr upd_same, q⟩
    · exact q1.elim
/-! ### range, zip, enumerate -/
def rngD (lo : Int) (n : Nat) : List D := (List.range n).map fun i => .int (lo + (i : Nat))
theorem fits_rng {Z H0 : Hp} {lo : Int} {n : Nat} : Fits X Z H0 (Itr lo n) (fun _ => True) (rngD lo n) := by
  intro i H M Z' _ k z _
  unfold rngD
  refine ⟨fun d hd => ?_, fun hl => show n ≤ i by simpa using hl⟩
  rw [List.getElem?_map, Option.map_eq_some_iff] at hd
  obtain ⟨j, hj, rfl⟩ := hd
  obtain ⟨h1, h2⟩ := List.getElem?_eq_some_iff.mp hj
  rw [List.getElem_range] at h2
  subst h2
  rw [List.length_range] at h1
  refine ⟨h1, fun x H' y => ?_⟩
  obtain ⟨rfl, rfl⟩ := y
  exact ⟨Keep.refl, z, .int _⟩
def iRng (ta : TAD) : TID := fun σ M K KX => ta σ M (fun ds M1 => match ds with
  | [.int j] => j < 2 ^ 62 ∧ -(2 ^ 62) ≤ j ∧ K (rngD 0 j.toNat) (fun _ => True) M1
  | [.int i, .int j] => (-(2 ^ 62) ≤ i ∧ i < 2 ^ 62 ∧ -(2 ^ 62) ≤ j ∧ j < 2 ^ 62) ∧ K (rngD i (j - i).toNat) (fun _ => True) M1
  | _ => False) KX
variable {p pos : Pos} {a b : Expr} {es : List Expr} {ta : TAD}
theorem di_range (hg : Gl X "range") (hm : X.mg "range" = none) (ha : DA X W (a :: es) ta) (hs : starEach (a :: es) X.env = (false, eval a X.env) :: starEach es X.env) (hpl : (backTo pos (starEach es X.env)).any (·.1) = false) :
    DI X W tg (.Call (.Name "range" p) (a :: es) [] pos) (iRng ta) := by
  refine ⟨fun pins s σ H σD Z M K KX I rs z wi h => ?_⟩
  refine Call_ (ld_blt I hg hm boot_range (PyProof.Rows.callWith_type1 (ha.pa pos I rs z wi h fun us s1 vs H1 ds M1 I1 r1 p1 k1 z1 q1 => ?_) hs hpl))
  split at q1
  · rename_i j
    obtain ⟨h1, h2, q⟩ := q1
    obtain ⟨v, u, rfl, rv, ru⟩ := vals_one p1 r1
    cases rv
    obtain ⟨t, rfl⟩ := ru
    exact call_range_1 (range_it I1 (by omega) (by omega) h2 h1 ⟨Z, M1, _, _, k1, ZLe.refl, z1, by simpa using fits_rng (lo := 0), q⟩)
  · rename_i i j
    obtain ⟨⟨h1, h2, h3, h4⟩, q⟩ := q1
    obtain ⟨v, v', u, u', rfl, rv, ru, rv', ru'⟩ := vals_two p1 r1
    cases rv
    cases rv'
    obtain ⟨t, rfl⟩ := ru
    obtain ⟨t', rfl⟩ := ru'
    exact call_range_2 (range_it I1 h1 h2 h3 h4 ⟨Z, M1, _, _, k1, ZLe.refl, z1, fits_rng, q⟩)
  · exact q1.elim
def zipD (xs ys : List D) : List D := List.zipWith (fun x y => .tup [x, y]) xs ys
theorem zip_at {xs ys : List D} {i : Nat} {d : D} (h : (zipD xs ys)[i]? = some d) : ∃ x y, xs[i]? = some x ∧ ys[i]? = some y ∧ d = .tup [x, y] := by
  unfold zipD at h
  rw [List.getElem?_zipWith] at h
  split at h
  · rename_i x y h1 h2
    cases h
    exact ⟨x, y, h1, h2, rfl⟩
  · cases h
theorem pair_new {P : Program} {w : World} {K : PySem.W.Frag} {Z H : Hp} {M : Mem} {T : Addr} {x y : V} {dx dy : D} (z : AbsZ P w K Z M H) (hT : H T = none) (rx : Rep H dx x) (ry : Rep H dy y) :
    Keep H (upd H T (.tup [x, y])) ∧ AbsZ P w K Z M (upd H T (.tup [x, y])) ∧ Rep (upd H T (.tup [x, y])) (.tup [dx, dy]) (.ref T) :=
  ⟨new_keep hT, z.tup hT, .tup upd_same (.cons (rx.keep (new_keep hT)) (.cons (ry.keep (new_keep hT)) .nil))⟩
theorem fits_zip {Z H0 : Hp} {a b : Addr} {xs ys : List D} : Fits X Z H0 (Itz X.K a b) (fun M' => lsOf M' (.ref a) = some xs ∧ lsOf M' (.ref b) = some ys) (zipD xs ys) := by
  intro i H M Z' _ _ z ⟨hc1, hc2⟩
  obtain ⟨a', vs, e1, _, sq, rp⟩ := lsOf_sql z (.ref a) hc1
  cases e1
  obtain ⟨b', us, e2, _, sq2, rp2⟩ := lsOf_sql z (.ref b) hc2
  cases e2
  refine ⟨fun d hd => ?_, fun hl => ⟨vs, us, sq, sq2, ?_⟩⟩
  · obtain ⟨x, y, h1, h2, rfl⟩ := zip_at hd
    obtain ⟨v, hv, r⟩ := rp.get h1
    obtain ⟨u, hu, r'⟩ := rp2.get h2
    refine ⟨⟨vs, us, v, u, sq, sq2, hv, hu⟩, fun x H' yy => ?_⟩
    obtain ⟨T, x', y', rfl, hT, rfl, y1, y2⟩ := yy
    have q1 := y1 vs sq
    have q2 := y2 us sq2
    rw [hv] at q1
    rw [hu] at q2
    cases q1
    cases q2
    exact pair_new z hT r r'
  · have l1 := rp.length
    have l2 := rp2.length
    unfold zipD at hl
    rw [List.length_zipWith] at hl
    omega
def iZip (ta : TAD) : TID := fun σ M K KX => ta σ M (fun ds M1 => match ds with
  | [.ref a, .ref b] => onS (lsOf M1 (.ref a)) fun xs => onS (lsOf M1 (.ref b)) fun ys => K (zipD xs ys) (fun M' => lsOf M' (.ref a) = some xs ∧ lsOf M' (.ref b) = some ys) M1
  | _ => False) KX
def semA (X : Cx) (es : List Expr) : TA := fun σ H Q => ∀ pos pins s, Inv X pins σ H s → wpAny (model X.prog X.w) X.A (spliced (backTo pos (starEach es X.env))) (AP X pins σ Q) X.xe s
theorem pa_sem {es : List Expr} : PA X es (semA X es) := ⟨fun pos pins s _ _ _ I h => h pos pins s I⟩
theorem DI.of {iter : Expr} {ti : TI} {wi : TID} (h : PI X tg iter ti) (hl : ∀ (σ : L2.St) (H : Hp) (σD : DSt) (Z : Hp) (M : Mem) (K : List D → (Mem → Prop) → Mem → Prop) (KX : DX), RS H σD σ → AbsZ X.prog X.w X.K Z M H → Wish X.prog X.w X.K W σ H Z KX → wi σD M K KX →
    ti σ H fun J H1 => ∃ Z1 M1 items chk, Keep H H1 ∧ ZLe Z Z1 ∧ AbsZ X.prog X.w X.K Z1 M1 H1 ∧ Fits X Z1 H1 J chk items ∧ K items chk M1) : DI X W tg iter wi :=
  ⟨fun pins s σ H σD Z M K KX I rs z wi q => h.run pins s σ H _ I (hl σ H σD Z M K KX rs z wi q)⟩
theorem DA.sem {es : List Expr} (h : DA X W es ta) {σ : L2.St} {H Z : Hp} {σD : DSt} {M : Mem} {K : List D → Mem → Prop} {KX : DX} {Q : List V → Hp → Prop} (rs : RS H σD σ) (z : AbsZ X.prog X.w X.K Z M H) (wi : Wish X.prog X.w X.K W σ H Z KX) (q : ta σD M K KX)
    (hq : ∀ vs H', liftA X.prog X.w X.K H Z K vs H' → Q vs H') : semA X es σ H Q := fun pos pins s I => thn (h.run pos pins s σ H σD Z M K KX I rs z wi q) fun _ _ ⟨vs, H', I', r, e⟩ => ⟨vs, H', I', r, hq _ _ e⟩
theorem di_zip {e2 : Expr} {elts : List Expr} {kk : Nat} {tpos : Pos} (hg : Gl X "zip") (hm : X.mg "zip" = none) (ha : DA X W [e, e2] ta) (hs : starEach [e, e2] X.env = (false, eval e X.env) :: starEach [e2] X.env) (hpl : (backTo pos (starEach [e2] X.env)).any (·.1) = false) :
    DI X W (.Tuple elts kk tpos) (.Call (.Name "zip" p) [e, e2] [] pos) (iZip ta) :=
  DI.of (RZ.pi_zipA hg hm (pa_sem (es := [e, e2])) hs hpl) fun σ H σD Z M K KX rs z wi q => ha.sem rs z wi q fun vs H' ⟨ds, M', rp, k, z', q'⟩ => by
    dsimp only at q'
    split at q'
    · rename_i a b
      obtain ⟨xs, h1, q2⟩ := onS_out q'
      obtain ⟨ys, h2, q3⟩ := onS_out q2
      obtain ⟨v, u, rfl, r1, r2⟩ := rp.two
      obtain ⟨a', ws, e1, rfl, sq, rw1⟩ := lsOf_sql z' r1 h1
      cases e1
      obtain ⟨b', us, e2, rfl, sq2, rw2⟩ := lsOf_sql z' r2 h2
      cases e2
      exact ⟨a, b, ws, us, rfl, .inl ⟨sq, sq2, Z, M', _, _, k, ZLe.refl, z', fits_zip, q3⟩⟩
    · exact q'.elim
def enumD (xs : List D) : List D := xs.zipIdx.map fun p => .tup [.int (p.2 : Nat), p.1]
theorem fits_enum {Z H0 : Hp} {a : Addr} {xs : List D} : Fits X Z H0 (Ite X.K a) (fun M' => lsOf M' (.ref a) = some xs) (enumD xs) := by
  intro i H M Z' _ _ z hc1
  obtain ⟨a', vs, e1, _, sq, rp⟩ := lsOf_sql z (.ref a) hc1
  cases e1
  refine ⟨fun d hd => ?_, fun hl => ⟨vs, sq, ?_⟩⟩
  · unfold enumD at hd
    rw [List.getElem?_map, List.getElem?_zipIdx, Option.map_eq_some_iff] at hd
    obtain ⟨p, hp, rfl⟩ := hd
    rw [Option.map_eq_some_iff] at hp
    obtain ⟨x, hx, rfl⟩ := hp
    obtain ⟨v, hv, r⟩ := rp.get hx
    refine ⟨⟨vs, v, sq, hv⟩, fun x H' yy => ?_⟩
    obtain ⟨T, x', rfl, hT, rfl, y1⟩ := yy
    have q1 := y1 vs sq
    rw [hv] at q1
    cases q1
    have := pair_new (dx := .int (i : Nat)) z hT (.int _) r
    simpa using this
  · unfold enumD at hl
    rw [List.length_map, List.length_zipIdx] at hl
    rw [← rp.length]; exact hl
def iEnumD (ta : TAD) : TID := fun σ M K KX => ta σ M (fun ds M1 => match ds with
  | [.ref a] => onS (lsOf M1 (.ref a)) fun xs => K (enumD xs) (fun M' => lsOf M' (.ref a) = some xs) M1
  | _ => False) KX
theorem di_enum {elts : List Expr} {kk : Nat} {tpos : Pos} (hg : Gl X "enumerate") (hm : X.mg "enumerate" = none) (ha : DA X W [e] ta) (hs : starEach [e] X.env = [(false, eval e X.env)]) :
    DI X W (.Tuple elts kk tpos) (.Call (.Name "enumerate" p) [e] [] pos) (iEnumD ta) :=
  DI.of (pi_enum hg hm (pa_sem (es := [e])) hs) fun σ H σD Z M K KX rs z wi q => ha.sem rs z wi q fun vs H' ⟨ds, M', rp, k, z', q'⟩ => by
    dsimp only at q'
    split at q'
    · rename_i a
      obtain ⟨xs, h1, q2⟩ := onS_out q'
      obtain ⟨v, rfl, r1⟩ := rp.one
      obtain ⟨a', ws, e1, rfl, sq, rw1⟩ := lsOf_sql z' r1 h1
      cases e1
      exact ⟨a, ws, rfl, sq, Z, M', _, _, k, ZLe.refl, z', fits_enum, q2⟩
    · exact q'.elim
end
end DL
/-! # The D-layer: a dict's pairs walked -/
namespace DL
open PySem PySem.Spec PyProof.Rows L2
def iItemsD (te : TED) : TID := fun σ M K KX => te σ M (fun x M1 => match x with
  | .ref a => onS (dcOf M1 (.ref a)) fun p => K (p.2.map fun q => .tup [q.1, q.2]) (fun _ => True) (up M1 a (lockO p.1 p.2))
  | _ => False) KX
/-- the pairs of a locked dict as they stand -/
def Itx (d : Addr) (ob : Obj) (es : Array DictEntry) : It :=
  ⟨fun i H => (∃ u, H d = some (.frz ob u)) ∧ i < es.size, fun i H x H' => ∃ a en kv vv, es[i]? = some en ∧ L2.RelV kv en.key ∧ L2.RelV vv en.val ∧ x = .ref a ∧ H a = none ∧ H' = upd H a (.tup [kv, vv]), fun i H => (∃ u, H d = some (.frz ob u)) ∧ es.size ≤ i⟩
theorem turn_pairs {P : Program} {w : World} {K : PySem.W.Frag} {elts : List Expr} {kk : Nat} {tpos : Pos} {d : Addr} {ob : Obj} {es : Array DictEntry} {ep : Nat} (it : Addr) (hex : ob.ExactDict) (hod : ob.data = .dict es ep) (hv : ∀ (i : Nat) (en : DictEntry), es[i]? = some en → (∃ x, L2.RelV x en.key) ∧ ∃ y, L2.RelV y en.val) :
    Turn P w K (.Tuple elts kk tpos) (Itx d ob es) [it] it (fun i h => ∃ ok ov, IsItemIter h it d i es.size ep ok ov) where
  mem := by simp
  obj := fun i h st b hb => by
    have e : b = it := by simpa using hb
    subst e
    obtain ⟨ok, ov, e⟩ := st
    exact ⟨_, e, fun v z => nomatch z⟩
  keep := fun i h h' st k => let ⟨ok, ov, e⟩ := st; ⟨ok, ov, k it (by simp) _ e⟩
  item := by
    intro X hP hw hK hc i pins s σ H E I hf st hg
    subst hP hw hK
    obtain ⟨⟨u, hd⟩, hi⟩ := hg
    have hgd := (I.hok d _ hd).1
    have hen : es[i]? = some es[i] := Array.getElem?_eq_getElem hi
    obtain ⟨⟨kv, hk1⟩, ⟨vv, hv1⟩⟩ := hv i _ hen
    obtain ⟨ok, ov, he⟩ := st
    have hlt : it < s.heap.objs.size := Heap.lt_size he
    refine wpAny_pyNext_items_item_raw he ⟨ob, hgd, hex, hod⟩ hi fun h' ho hT hz hk => ?_
    refine ⟨_, rfl, wpAny_letOwnedTupleGo_items (s := { s with heap := h' }) ho fun h'' he' sb => ?_⟩
    have hT2 : h''.get? s.heap.objs.size = some { cls := .type "tuple", data := .seq #[es[i].key, es[i].val] } := (sb.2 _ (Nat.ne_of_gt hlt)).trans hT
    have new : ObjOk X.prog X.w (upd H s.heap.objs.size (.tup [kv, vv])) h'' s.heap.objs.size (.tup [kv, vv]) :=
      ⟨by show 2 ≤ sizeLine; decide, [es[i].key, es[i].val], .cons hk1 (.cons hv1 .nil), ⟨_, hT2, rfl, _, rfl⟩⟩
    have I1 : Inv X pins σ (upd H s.heap.objs.size (.tup [kv, vv])) { s with heap := h'' } :=
      I.turnedNew (t' := s.toks) (ch := [it]) (fun b ob hb e => (sb.2 b (by simpa using hb)).trans (hk b ob (by simpa using hb) e)) hf (Nat.le_refl _) new
    refine ⟨.ref s.heap.objs.size, _, I1, rfl, ⟨_, _, kv, vv, hen, hk1, hv1, rfl, I.hok.fresh (Nat.le_refl _), rfl⟩, ⟨_, _, he'⟩, fun b hb => ?_⟩
    have e : b = it := by simpa using hb
    rw [e, upd_ne (Nat.ne_of_lt hlt)]
    exact (hf it (by simp)).1
  done := by
    intro X hP hw hK hc i pins s σ H E I hf st hg
    subst hP hw hK
    obtain ⟨⟨u, hd⟩, hi⟩ := hg
    obtain ⟨f0, f1, f2, f3, f4, f5⟩ := hf it (by simp)
    have hgd := (I.hok d _ hd).1
    obtain ⟨ok, ov, he⟩ := st
    exact wpAny_pyNext_items_end_raw (I.ok.hd hc) he ⟨ob, hgd, hex, hod⟩ hi fun h' eb => ⟨rfl, I.turned (t' := s.toks) (fun b ob hb e => eb b ob hb e) f0 f1 f3 f4 f5⟩
  self := fun A i s Q E st h => let ⟨_, _, e⟩ := st; PySem.W.kcp_self e h
section
variable {X : Cx} {W : WD} {e : Expr} {te : TED}
theorem fits_pairs {Z H0 : Hp} {d : Addr} {kvs : List (D × D)} {h : Heap} {ob : Obj} {u : HO} {es : Array DictEntry} {ep : Nat} (dr : DcRaw X H0 h d kvs ob es ep) (hZ : Z d = some (.frz ob u)) : Fits X Z H0 (Itx d ob es) (fun _ => True) (kvs.map fun q => .tup [q.1, q.2]) := by
  intro i H M Z' zz k z _
  have hd := z.fr d _ (zz d _ hZ)
  refine ⟨fun x hx => ?_, fun hl => ⟨⟨u, hd⟩, by rw [dr.sz]; simpa using hl⟩⟩
  rw [List.getElem?_map, Option.map_eq_some_iff] at hx
  obtain ⟨kv, hkv, rfl⟩ := hx
  have hi : i < es.size := by
    rw [dr.sz]
    exact (List.getElem?_eq_some_iff.mp hkv).1
  refine ⟨⟨⟨u, hd⟩, hi⟩, fun x H' y => ?_⟩
  obtain ⟨a, en, k1, v1, hen, rk, rv, rfl, hn, rfl⟩ := y
  obtain ⟨⟨v, r1, r2⟩, ⟨v2, r3, r4⟩⟩ := dr.en i kv en hkv hen
  rw [rk.inj r2, rv.inj r4]
  have kk : Keep H (upd H a (.tup [v, v2])) := new_keep hn
  exact ⟨kk, z.tup hn, .tup upd_same (.cons ((r1.keep k).keep kk) (.cons ((r3.keep k).keep kk) .nil))⟩
theorem di_items {elts : List Expr} {kk : Nat} {tpos apos cpos : Pos} (he : DE X W e te) (hbase : attributeBase e "items" X.env (eval e X.env) = eval e X.env) (hline : (apos.endLine == cpos.line) = true) :
    DI X W (.Tuple elts kk tpos) (.Call (.Attribute e "items" apos) [] [] cpos) (iItemsD te) := by
  refine ⟨fun pins s σ H σD Z M K KX I rs z wi h => ?_⟩
  refine wpAny_Call_method (T := "dict") (id := "dict.items") hbase rfl hline F.plainAttrs_dict F.slot_dict_items F.type_dict_items (thn (he.run pins s σ H σD Z M _ KX I rs z wi h) fun v s1 ⟨xv, H1, I1, r1, x, M1, p1, k1, z1, q1⟩ => ?_)
  dsimp only at q1
  split at q1
  · rename_i a
    obtain ⟨⟨t, kvs⟩, hd, q⟩ := onS_out q1
    cases p1
    cases r1
    obtain ⟨ob, u, es, ep, H2, I2, k2, e2, z2, zl, dr⟩ := lock_ok I1 z1 hd
    have hv : ∀ (i : Nat) (en : DictEntry), es[i]? = some en → (∃ x, L2.RelV x en.key) ∧ ∃ y, L2.RelV y en.val := fun i en hen => by
      have hi : i < kvs.length := by
        rw [← dr.sz]
        exact (Array.getElem?_eq_some_iff.mp hen).1
      obtain ⟨⟨v, _, r⟩, ⟨v2, _, r2⟩⟩ := dr.en i kvs[i] en (List.getElem?_eq_getElem hi) hen
      exact ⟨⟨v, r⟩, ⟨v2, r2⟩⟩
    have raw : s1.heap.DictRaw a es ep := ⟨ob, dr.at_, dr.ex, dr.dat⟩
    refine ⟨raw.typeIs, ?_, ?_⟩
    · intro b e; cases e; exact ⟨ob, dr.at_, dr.ex.2.1⟩
    have I3 : Inv X pins σ H2 { s1 with heap := s1.heap.push { cls := .type "dict_items", data := .fields #[.ref a] } } := I2.kept (t' := s1.toks) fun b ob q => Heap.get?_push_of_some _ q
    have fin : wpAny (model X.prog X.w) X.A (pyIter (.ref s1.heap.objs.size)) (PIE X pins σ (.Tuple elts kk tpos) fun J H1 => ∃ Z1 M1 items chk, Keep H H1 ∧ ZLe Z Z1 ∧ AbsZ X.prog X.w X.K Z1 M1 H1 ∧ Fits X Z1 H1 J chk items ∧ K items chk M1) X.xe { s1 with heap := s1.heap.push { cls := .type "dict_items", data := .fields #[.ref a] } } := by
      refine wpAny_pyIter_items_raw (d := a) ⟨_, Heap.get?_push_size _ rfl, rfl, rfl⟩ (raw.at fun o q => Heap.get?_push_of_some _ q) (pi_one (tk := s1.toks) I3 _ (turn_pairs _ dr.ex dr.dat hv) ⟨.none, .none, Heap.get?_push_size _ rfl⟩ ?_)
      exact ⟨_, _, _, _, k1.trans k2, zl, z2, fits_pairs dr upd_same, q⟩
    show wpAny _ _ (callWith cpos (.builtin "dict.items") [.ref a] [] []) _ X.xe s1
    exact method_meetsIn F.slot_dict_items F.entry_dict_items rfl (PySem.evalArgs_none ⟨rfl, raw.typeIs, F.args_dict_items_1 _, _, meets_dict_items_raw a dr.sys, ⟨es, ep, raw⟩, fin⟩)
  · exact q1.elim
end
end DL
/-! # The D-layer: list comprehensions -/
namespace DL
open PySem PySem.Spec PyProof.Rows L2
/-- a target of names: one, or several -/
inductive CT where
  | one (i : Nat) | many (is : List Nat)
def setAll : DSt → List Nat → List D → DSt
  | σ, i :: is, d :: ds => setAll (σ.set i (some d)) is ds
  | σ, _, _ => σ
def bindC (t : CT) (x : D) (σ : DSt) (M : Mem) : Option DSt := match t with
  | .one i => some (σ.set i (some x))
  | .many is => match x with
    | .tup ds => if ds.length = is.length then some (setAll σ is ds) else none
    | _ => none
/-- in the hand layer -/
def gsH : List Nat → TGs
  | [] => gNil
  | i :: r => gCons (gName i) (gsH r)
def gH (K : PySem.W.Frag) : CT → TG
  | .one i => gName i
  | .many is => gTup K is.length (gsH is)
def setV : L2.St → List Nat → List V → L2.St
  | σ, i :: is, v :: vs => setV (σ.set i (some v)) is vs
  | σ, _, _ => σ
theorem gsH_ok {H : Hp} {Q : L2.St → Hp → Prop} : ∀ (is : List Nat) (vs : List V) (σ : L2.St), vs.length = is.length → Q (setV σ is vs) H → gsH is vs σ H Q
  | [], [], σ, _, q => ⟨rfl, q⟩
  | [], _ :: _, _, h, _ => by simp at h
  | _ :: _, [], _, h, _ => by simp at h
  | i :: is, v :: vs, σ, h, q => ⟨v, vs, rfl, gsH_ok is vs _ (by simpa using h) q⟩
theorem rs_setAll {H : Hp} : ∀ (is : List Nat) (ds : List D) (vs : List V) (σD : DSt) (σ : L2.St), RS H σD σ → Reps H ds vs → RS H (setAll σD is ds) (setV σ is vs)
  | [], _, _, _, _, rs, _ => by unfold setAll setV; exact rs
  | i :: is, _, _, σD, σ, rs, .nil => by unfold setAll setV; exact rs
  | i :: is, _, _, σD, σ, rs, .cons r t => by
    unfold setAll setV
    exact rs_setAll is _ _ _ _ (rs.set r) t
def CT.ixs : CT → List Nat
  | .one i => [i]
  | .many is => is
theorem wipe_get (σ : L2.St) : ∀ (vs : List Nat) (j : Nat), (wipe σ vs)[j]? = if j ∈ vs ∧ j < σ.length then some none else σ[j]?
  | [], j => by simp [wipe]
  | v :: vs, j => by
    rw [wipe]
    by_cases h : v = j
    · subst h
      by_cases hl : v < σ.length
      · rw [List.getElem?_set_self (by rw [wipe_length]; exact hl)]
        simp [hl]
      · rw [List.getElem?_eq_none (by rw [List.length_set, wipe_length]; omega)]
        simp [hl, List.getElem?_eq_none (Nat.le_of_not_lt hl)]
    · rw [List.getElem?_set_ne h, wipe_get σ vs j]
      have : ¬ j = v := fun e => h e.symm
      simp [this]
theorem wipe_set {σ : L2.St} {vs : List Nat} {i : Nat} {x : Option V} (h : i ∈ vs) : wipe (σ.set i x) vs = wipe σ vs := by
  apply List.ext_getElem?
  intro j
  rw [wipe_get, wipe_get, List.length_set]
  by_cases hj : i = j
  · subst hj
    by_cases hl : i < σ.length
    · simp [h, hl]
    · simp [hl, List.getElem?_eq_none (Nat.le_of_not_lt hl)]
  · rw [List.getElem?_set_ne hj]
theorem wipe_wipe {σ : L2.St} {vs : List Nat} : wipe (wipe σ vs) vs = wipe σ vs := by
  apply List.ext_getElem?
  intro j
  rw [wipe_get, wipe_length, wipe_get]
  split <;> rfl
theorem wipe_setV {vs : List Nat} : ∀ (is : List Nat) (us : List V) (σ : L2.St), (∀ i ∈ is, i ∈ vs) → wipe (setV σ is us) vs = wipe σ vs
  | [], _, _, _ => by unfold setV; rfl
  | _ :: _, [], _, _ => by unfold setV; rfl
  | i :: is, u :: us, σ, h => by
    unfold setV
    rw [wipe_setV is us _ fun j hj => h j (List.mem_cons_of_mem _ hj), wipe_set (h i List.mem_cons_self)]
def wipeD (σ : DSt) : List Nat → DSt
  | [] => σ
  | v :: vs => (wipeD σ vs).set v none
theorem rs_wipe {H : Hp} {σD : DSt} {σ : L2.St} (rs : RS H σD σ) : ∀ vs : List Nat, RS H (wipeD σD vs) (wipe σ vs)
  | [] => rs
  | v :: vs => by
    unfold wipeD wipe
    exact (rs_wipe rs vs).unset
/-- the target's store, by values -/
theorem gH_ok {P : Program} {w : World} {K : PySem.W.Frag} {Z : Hp} {t : CT} {x : D} {v : V} {σD σ2 : DSt} {σ : L2.St} {M : Mem} {H : Hp} {Q : L2.St → Hp → Prop} {vs : List Nat} (rs : RS H σD σ) (z : AbsZ P w K Z M H) (r : Rep H x v) (h : bindC t x σD M = some σ2)
    (ht : ∀ i ∈ t.ixs, i ∈ vs) (q : ∀ σ', RS H σ2 σ' → wipe σ' vs = wipe σ vs → Q σ' H) : gH K t v σ H Q := by
  cases t with
  | one i =>
    cases h
    exact q _ (rs.set r) (wipe_set (ht i List.mem_cons_self))
  | many is =>
    unfold bindC at h
    dsimp only at h
    split at h
    · split at h
      · rename_i ds hl
        cases h
        obtain ⟨a, ws, rfl, h1, rp⟩ := r.tup_inv
        have hlen := rp.length
        exact ⟨a, ws, rfl, SqT.of h1, by omega, gsH_ok is ws σ (by omega) (q _ (rs_setAll is ds ws σD σ rs rp) (wipe_setV is ws σ ht))⟩
      · cases h
    · cases h
/-! ### [e for t in iter if c] -/
/-- the tests: none, one -/
def lcD (t : CT) (tt : TTD) (te : TED) (vs : List Nat) (chk : Mem → Prop) (σ : DSt) (K : List D → Mem → Prop) : List D → List D → Mem → Prop
  | [] => fun acc M => chk M ∧ K acc M
  | x :: r => fun acc M => chk M ∧ onS (bindC t x (wipeD σ vs) M) fun σ2 => tt σ2 M (fun b M3 => match b with
    | true => te σ2 M3 (fun y M4 => acc.length < big ∧ lcD t tt te vs chk σ K r (acc ++ [y]) M4) (fun _ _ => False)
    | false => lcD t tt te vs chk σ K r acc M3) (fun _ _ => False)
def dLc (wi : TID) (t : CT) (tt : TTD) (te : TED) (vs : List Nat) : TED := fun σ M K KX => wi σ M (fun items chk M1 => lcD t tt te vs chk σ (fun acc M2 => ∀ p, M2 p = none → K (.ref p) (up M2 p (.lst acc))) items [] M1) KX
/-- a clause's tests -/
structure DTs (X : Cx) (W : WD) (ifs : List Expr) (t : TTD) : Prop where
  run : ∀ (pins : List (Addr × Obj)) (s : Shared) (σ : L2.St) (H : Hp) (σD : DSt) (Z : Hp) (M : Mem) (K : Bool → Mem → Prop) (KX : DX), Inv X pins σ H s → RS H σD σ → AbsZ X.prog X.w X.K Z M H → Wish X.prog X.w X.K W σ H Z KX → t σD M K KX →
    wpAny (model X.prog X.w) X.A (forIn ifs true fun c r => if r = true then do let ok ← isTrue c X.env (eval c X.env); pure (ForInStep.yield ok) else pure (ForInStep.yield r)) (TP X pins σ (liftT X.prog X.w X.K H Z K)) X.xe s
def tYesD : TTD := fun _ M K _ => K true M
theorem dts_nil {X : Cx} {W : WD} : DTs X W [] tYesD := ⟨fun pins s σ H σD Z M K KX I rs z wi h => wpAny_tests_nil ⟨H, I, M, Keep.refl, z, h⟩⟩
theorem dts_one {X : Cx} {W : WD} {c : Expr} {t : TTD} (h : DT X W c t) : DTs X W [c] t := ⟨fun pins s σ H σD Z M K KX I rs z wi q => wpAny_tests_one (h.run pins s σ H σD Z M K KX I rs z wi q)⟩
def semTs (X : Cx) (ifs : List Expr) : TT := fun σ H Q => ∀ pins s, Inv X pins σ H s → wpAny (model X.prog X.w) X.A (forIn ifs true fun c r => if r = true then do let ok ← isTrue c X.env (eval c X.env); pure (ForInStep.yield ok) else pure (ForInStep.yield r)) (TP X pins σ Q) X.xe s
def W0 : WD := fun _ _ _ => False
theorem wish0 {P : Program} {w : World} {K : PySem.W.Frag} {σ : L2.St} {H Z : Hp} : Wish P w K W0 σ H Z (fun _ _ => False) := fun _ _ _ h _ _ => h.elim
/-- a new list's own place is not known -/
theorem AbsZ.frame_new {P : Program} {w : World} {K : PySem.W.Frag} {Z : Hp} {M : Mem} {H : Hp} {p : Addr} {u : HO} (z : AbsZ P w K Z M H) (hp : H p = none) (hm : M p = none) : AbsZ P w K (upd Z p u) M (upd H p u) := by
  refine ⟨fun b v e => ?_, fun b v e => ?_, fun b v y e f q => ?_⟩
  · exact (z.mem b v e).keep (new_keep hp) (upd_ne (ne_of_M e hm))
  · by_cases hb : b = p
    · subst hb
      rw [upd_same] at e ⊢
      exact e
    · rw [upd_ne hb] at e ⊢
      exact z.fr b v e
  · rw [upd_ne (ne_of_M e hm)] at q
    exact z.dj b v y e f q
/-- a list in the frame that is appended to -/
theorem AbsZ.frame_none {P : Program} {w : World} {K : PySem.W.Frag} {Z : Hp} {M : Mem} {H : Hp} {p : Addr} {vs : List V} (z : AbsZ P w K (upd Z p (.lst vs)) M H) (hk : K.lookup p = none) : M p = none := by
  have hp : H p = some (.lst vs) := z.fr p _ upd_same
  cases q : M p with
  | none => rfl
  | some o =>
    exfalso
    cases o with
    | ro ds =>
      obtain ⟨us, h, _⟩ := z.mem p _ q
      rcases h with ⟨o, h⟩ | ⟨o, _, _, h, _⟩
      · rw [hp] at h; cases h
      · rw [hk] at h; cases h
    | rod kvs => obtain ⟨ob, u, h, _⟩ := z.mem p _ q; rw [hp] at h; cases h
    | roi kvs => obtain ⟨ob, u, h, _⟩ := z.mem p _ q; rw [hp] at h; cases h
    | lst _ => exact z.dj p _ _ q rfl upd_same
    | dct _ => exact z.dj p _ _ q rfl upd_same
    | dci _ => exact z.dj p _ _ q rfl upd_same
    | ins _ _ => exact z.dj p _ _ q rfl upd_same
theorem AbsZ.frame_set {P : Program} {w : World} {K : PySem.W.Frag} {Z : Hp} {M : Mem} {H : Hp} {p : Addr} {vs us : List V} (z : AbsZ P w K (upd Z p (.lst vs)) M H) (hk : K.lookup p = none) : AbsZ P w K (upd Z p (.lst us)) M (upd H p (.lst us)) ∧ Keep H (upd H p (.lst us)) := by
  have hM := z.frame_none hk
  have hp : H p = some (.lst vs) := z.fr p _ upd_same
  have mu : Mut (H p) := by rw [hp]; trivial
  have hne : ∀ b o, M b = some o → b ≠ p := fun b o e q => by rw [q, hM] at e; cases e
  refine ⟨⟨fun b v e => (z.mem b v e).keep (mut_keep mu) (upd_ne (hne b v e)), fun b v e => ?_, fun b v y e f q => ?_⟩, mut_keep mu⟩
  · by_cases hb : b = p
    · subst hb
      rw [upd_same] at e ⊢
      exact e
    · rw [upd_ne hb] at e ⊢
      exact z.fr b v (by rw [upd_ne hb]; exact e)
  · rw [upd_ne (hne b v e)] at q
    exact z.dj b v y e f (by rw [upd_ne (hne b v e)]; exact q)
/-- the frame's list becomes the memory's -/
theorem AbsZ.frame_own {P : Program} {w : World} {K : PySem.W.Frag} {Z Z0 : Hp} {M : Mem} {H : Hp} {p : Addr} {vs : List V} {ds : List D} (z : AbsZ P w K (upd Z p (.lst vs)) M H) (hk : K.lookup p = none) (zl : ZLe Z0 Z) (h0 : Z p = none) (r : Reps H ds vs) : AbsZ P w K Z0 (up M p (.lst ds)) H := by
  have hM := z.frame_none hk
  have hp : H p = some (.lst vs) := z.fr p _ upd_same
  have h00 : Z0 p = none := by
    cases q : Z0 p with
    | none => rfl
    | some o => rw [zl p o q] at h0; cases h0
  refine ⟨fun b v e => ?_, fun b v e => ?_, fun b v y e f q => ?_⟩
  · by_cases hb : b = p
    · subst hb
      rw [up_same] at e
      cases e
      exact ⟨vs, hp, r⟩
    · rw [up_ne hb] at e
      exact z.mem b v e
  · have hb : b ≠ p := fun q => by rw [q, h00] at e; cases e
    exact z.fr b v (by rw [upd_ne hb]; exact zl b v e)
  · have hb : b ≠ p := fun q' => by rw [q', h00] at q; cases q
    rw [up_ne hb] at e
    exact z.dj b v y e f (by rw [upd_ne hb]; exact zl b y q)
/-- what a piece of the block does, in each of its contexts -/
def blkT (X : Cx) (scope : Scope) (ifs : List Expr) : TT := fun σ H Q => ∀ s0 H0 C cl fp, semTs (X.blk s0 H0 scope (compEnvC scope cl C X.env) fp) ifs σ H Q
def blkE (X : Cx) (scope : Scope) (elt : Expr) : TE := fun σ H Q => ∀ s0 H0 C cl fp, semE (X.blk s0 H0 scope (compEnvC scope cl C X.env) fp) elt σ H Q
section
variable {X : Cx} {W : WD} {elt tg iter : Expr} {ifs : List Expr} {scope : Scope} {own : List (Str × Nat)} {wi : TID} {t : CT} {tt : TTD} {te : TED}
/-- the reading in the hand layer's form -/
theorem lc_read (ht : ∀ s0 H0 C cl fp, DTs (X.blk s0 H0 scope (compEnvC scope cl C X.env) fp) W0 ifs tt) (he : ∀ s0 H0 C cl fp, DE (X.blk s0 H0 scope (compEnvC scope cl C X.env) fp) W0 elt te)
    (hix : ∀ i ∈ t.ixs, i ∈ own.map (·.2)) {σ : L2.St} {H Z : Hp} {σD : DSt} {K : DK} (rs : RS H σD σ) {Q : VK} (hi : semI X tg iter σ H fun J H1 => ∃ Z1 M1 items chk, Keep H H1 ∧ ZLe Z Z1 ∧ AbsZ X.prog X.w X.K Z1 M1 H1 ∧ Fits X Z1 H1 J chk items ∧
      lcD t tt te (own.map (·.2)) chk σD (fun acc M2 => ∀ p, M2 p = none → K (.ref p) (up M2 p (.lst acc))) items [] M1) (hQ : ∀ v H', liftN X H Z K v H' → Q v H') :
    tLc (semI X tg iter) (gH X.K t) (blkT X scope ifs) (blkE X scope elt) (own.map (·.2)) σ H Q := by
  intro pins s I
  refine thn (hi pins s I) fun v s1 h1 => thn h1 fun itv s2 h2 => PIE.imp h2 fun J H1 ⟨Z1, M1, items, chk, k1, zl, z1, ft, q1⟩ => ?_
  intro L hL
  by_cases hK : X.K.lookup L = none
  · have hZ1 : Z1 L = none := by
      cases q : Z1 L with
      | none => rfl
      | some o => have := z1.fr L o q; rw [hL] at this; cases this
    refine ⟨fun i m H' => m = items.length - i ∧ ∃ acc vacc M', Keep H1 H' ∧ AbsZ X.prog X.w X.K (upd Z1 L (.lst vacc)) M' H' ∧ Reps H' acc vacc ∧ acc.length ≤ big ∧ lcD t tt te (own.map (·.2)) chk σD (fun acc M2 => ∀ p, M2 p = none → K (.ref p) (up M2 p (.lst acc))) (items.drop i) acc M',
      ⟨items.length, by simp, [], [], M1, new_keep hL, z1.frame_new hL (z1.nope hL hK), .nil, Nat.zero_le _, q1⟩, ?_⟩
    rintro i m H2 ⟨rfl, acc, vacc, M2, k2, z2, ra, hz, q2⟩
    have zl1 : ZLe Z1 (upd Z1 L (.lst vacc)) := fun b o e => by
      rw [upd_ne (fun q => by rw [q, hZ1] at e; cases e)]; exact e
    rcases Nat.lt_or_ge i items.length with hi' | hi'
    · rw [List.drop_eq_getElem_cons hi', lcD] at q2
      obtain ⟨hchk, q2⟩ := q2
      obtain ⟨σ2, hb, q3⟩ := onS_out q2
      obtain ⟨f1, f2⟩ := ft i H2 M2 _ zl1 k2 z2 hchk
      obtain ⟨go, yl⟩ := f1 items[i] (List.getElem?_eq_getElem hi')
      refine .inr ⟨go, fun H' => ∃ acc vacc M', Keep H1 H' ∧ AbsZ X.prog X.w X.K (upd Z1 L (.lst vacc)) M' H' ∧ Reps H' acc vacc ∧ acc.length ≤ big ∧ lcD t tt te (own.map (·.2)) chk σD (fun acc M2 => ∀ p, M2 p = none → K (.ref p) (up M2 p (.lst acc))) (items.drop (i + 1)) acc M',
        fun H' hn => ⟨items.length - (i + 1), by omega, rfl, hn⟩, fun x H3 y => ?_⟩
      obtain ⟨k3, z3', r3⟩ := yl x H3 y
      have rs3 : RS H3 (wipeD σD (own.map (·.2))) (wipe σ (own.map (·.2))) := rs_wipe (rs.keep ((k1.trans k2).trans k3)) _
      refine gH_ok rs3 z3' r3 hb hix fun σ' rs' hw => ⟨hw.trans wipe_wipe, fun s0 H0 C cl fp pins' s' I' => ?_⟩
      refine thn ((ht s0 H0 C cl fp).run pins' s' σ' H3 σ2 _ M2 _ _ I' rs' z3' wish0 q3) fun b s4 ⟨H4, I4, M4, k4, z4, q4⟩ => ⟨H4, I4, ?_⟩
      have k14 := (k2.trans k3).trans k4
      cases b with
      | false =>
        simp only [Bool.false_eq_true, if_false]
        exact ⟨acc, vacc, M4, k14, z4, ra.keep (k3.trans k4), hz, q4⟩
      | true =>
        simp only [if_true]
        intro s0' H0' C' cl' fp' pins2 s5 I5
        refine thn ((he s0' H0' C' cl' fp').run pins2 s5 σ' H4 σ2 _ M4 _ _ I5 (rs'.keep k4) z4 wish0 q4) fun u s6 e6 => EP.imp e6 fun yv H6 ⟨y, M6, ry, k6, z6, hlt, q6⟩ => ?_
        have hL6 : H6 L = some (.lst vacc) := z6.fr L _ upd_same
        have hb := big_line
        have ra6 := ra.keep ((k3.trans k4).trans k6)
        refine ⟨vacc, hL6, by rw [← ra6.length]; omega, acc ++ [y], vacc ++ [yv], M6, ?_⟩
        obtain ⟨z7, k7⟩ := z6.frame_set (us := vacc ++ [yv]) hK
        exact ⟨(k14.trans k6).trans k7, z7, (ra6.append (.cons ry .nil)).keep k7, by rw [List.length_append, List.length_singleton]; omega, q6⟩
    · rw [List.drop_eq_nil_of_le hi', lcD] at q2
      obtain ⟨hchk, q2⟩ := q2
      obtain ⟨f1, f2⟩ := ft i H2 M2 _ zl1 k2 z2 hchk
      refine .inl ⟨f2 hi', hQ _ _ fun _ => ?_⟩
      exact ⟨.ref L, _, .ref L, k1.trans k2, z2.frame_own hK zl hZ1 ra, q2 L (z2.frame_none hK)⟩
  · refine ⟨fun i m H' => i = 0 ∧ m = 1 ∧ H' = upd H1 L (.lst []), ⟨1, rfl, rfl, rfl⟩, ?_⟩
    rintro i m H2 ⟨rfl, rfl, rfl⟩
    have nk : ∀ K', NK X.K K' → K' L = some (.lst []) → False := fun K' n e => hK (n L _ e)
    have hZ1 : Z1 L = none := by
      cases q : Z1 L with
      | none => rfl
      | some o => have := z1.fr L o q; rw [hL] at this; cases this
    have zl1 : ZLe Z1 (upd Z1 L (.lst [])) := fun b o e => by
      rw [upd_ne (fun q => by rw [q, hZ1] at e; cases e)]; exact e
    have z2 : AbsZ X.prog X.w X.K (upd Z1 L (.lst [])) M1 (upd H1 L (.lst [])) := by
      have z := z1.tup (u := .lst []) hL
      refine ⟨z.mem, fun b o e => ?_, fun b o y e f q => ?_⟩
      · by_cases hb : b = L
        · subst hb; rw [upd_same] at e ⊢; exact e
        · rw [upd_ne hb] at e; exact z.fr b o e
      · by_cases hb : b = L
        · subst hb
          have mu := (z1.mem b o e).free_mut f
          rw [hL] at mu
          exact mu
        · rw [upd_ne hb] at q; exact z.dj b o y e f q
    cases items with
    | nil =>
      rw [lcD] at q1
      exact .inl ⟨(ft 0 _ M1 _ zl1 (new_keep hL) z2 q1.1).2 (Nat.le_refl _), hQ _ _ fun n => (nk _ n upd_same).elim⟩
    | cons x r =>
      rw [lcD] at q1
      obtain ⟨hchk, q2⟩ := q1
      obtain ⟨σ2, hb, q3⟩ := onS_out q2
      obtain ⟨go, yl⟩ := (ft 0 _ M1 _ zl1 (new_keep hL) z2 hchk).1 x rfl
      refine .inr ⟨go, fun _ => False, fun H' h => h.elim, fun x H3 y => ?_⟩
      obtain ⟨k3, z3, r3⟩ := yl x H3 y
      have rs3 : RS H3 (wipeD σD (own.map (·.2))) (wipe σ (own.map (·.2))) := rs_wipe (rs.keep ((k1.trans (new_keep hL)).trans k3)) _
      refine gH_ok rs3 z3 r3 hb hix fun σ' rs' hw => ⟨hw.trans wipe_wipe, fun s0 H0 C cl fp pins' s' I' => ?_⟩
      exact (nk H3 (nk_of (X := X.blk s0 H0 scope (compEnvC scope cl C X.env) fp) I') (z3.fr L _ upd_same)).elim
/-- as a value -/
theorem de_lc {pos : Pos} (hc : X.calm = true) (hN : X.N.Nodup) (hi : DI X W tg iter wi) (ok : BlkOk X.N X.env.scope scope own)
    (hg : ∀ (s : Shared) (H : Hp) (C : Addr) (cl : List (Str × Addr)) (fp : List Addr), PG (X.blk s H scope (compEnvC scope cl C X.env) fp) tg (gH X.K t)) (ht : ∀ s0 H0 C cl fp, DTs (X.blk s0 H0 scope (compEnvC scope cl C X.env) fp) W0 ifs tt) (he : ∀ s0 H0 C cl fp, DE (X.blk s0 H0 scope (compEnvC scope cl C X.env) fp) W0 elt te)
    (hix : ∀ i ∈ t.ixs, i ∈ own.map (·.2)) (hs : ∀ x, foldedSetIterable iter X.env x = pure x) : DE X W (.ListComp elt [⟨tg, iter, ifs, 0⟩] scope pos) (dLc wi t tt te (own.map (·.2))) := by
  refine ⟨fun pins s σ H σD Z M K KX I rs z wi h => ?_⟩
  refine thn ((pe_lc hc hN (pi_sem (tg := tg) (iter := iter)) ok hg (tt := blkT X scope ifs) (fun s0 H0 C cl fp => ⟨fun pins s σ H Q I h => h s0 H0 C cl fp pins s I⟩) (te := blkE X scope elt) (fun s0 H0 C cl fp => ⟨fun pins s σ H Q I h => h s0 H0 C cl fp pins s I⟩) hs).run pins s σ H (liftN X H Z K) I ?_) fun _ _ e => EP.ofN e
  exact lc_read ht he hix rs (fun pins s I => hi.run pins s σ H σD Z M _ KX I rs z wi h) fun v H' q => q
/-- name = [..] on one line -/
theorem ds_setLc {i : Nat} {y : Str} {py pos spos : Pos} (hc : X.calm = true) (hN : X.N.Nodup) (hy : X.N[i]? = some y) (hyl : X.env.scope.names.lookup y = some .local) (hsw : swapsWith (.ListComp elt [⟨tg, iter, ifs, 0⟩] scope pos) (some (.Name y py)) spos.line X.env = pure true) (hi : DI X W tg iter wi) (ok : BlkOk X.N X.env.scope scope own)
    (hg : ∀ (s : Shared) (H : Hp) (C : Addr) (cl : List (Str × Addr)) (fp : List Addr), PG (X.blk s H scope (compEnvC scope cl C X.env) fp) tg (gH X.K t)) (ht : ∀ s0 H0 C cl fp, DTs (X.blk s0 H0 scope (compEnvC scope cl C X.env) fp) W0 ifs tt) (he : ∀ s0 H0 C cl fp, DE (X.blk s0 H0 scope (compEnvC scope cl C X.env) fp) W0 elt te)
    (hix : ∀ i ∈ t.ixs, i ∈ own.map (·.2)) (hs : ∀ x, foldedSetIterable iter X.env x = pure x) : DS1 X W (.Assign [.Name y py] (.ListComp elt [⟨tg, iter, ifs, 0⟩] scope pos) spos) (sAsg (dLc wi t tt te (own.map (·.2))) (gNameD i)) := by
  have key := ps_setLc (py := py) hc hN hy hyl hsw (pi_sem (tg := tg) (iter := iter)) ok hg (tt := blkT X scope ifs) (fun s0 H0 C cl fp => ⟨fun pins s σ H Q I h => h s0 H0 C cl fp pins s I⟩) (te := blkE X scope elt) (fun s0 H0 C cl fp => ⟨fun pins s σ H Q I h => h s0 H0 C cl fp pins s I⟩) hs
  refine ⟨fun pins s σ H σD Z M D I rs z wi h => ?_⟩
  have hsp : ∀ f s', SP X pins { nx := fun σ' H' => NK X.K H' → liftG X.prog X.w X.K H Z D.nx σ' H', rt := fun _ _ => False } f s' → SP X pins (liftD X.prog X.w X.K H Z D) f s' := fun f s' q => by
    cases f with
    | next => obtain ⟨σ', H', I', q⟩ := q; exact ⟨σ', H', I', q (nk_of I')⟩
    | brk => obtain ⟨_, _, _, q⟩ := q; exact q.elim
    | cont => obtain ⟨_, _, _, q⟩ := q; exact q.elim
    | ret u => obtain ⟨_, _, _, _, _, q⟩ := q; exact q.elim
  refine thn (key.run pins s σ H { nx := fun σ' H' => NK X.K H' → liftG X.prog X.w X.K H Z D.nx σ' H', rt := fun _ _ => False } I ?_) hsp
  refine lc_read (K := fun d M' => D.nx (σD.set i (some d)) M') ht he hix rs (fun pins s I => hi.run pins s σ H σD Z M _ (D.kx σD) I rs z (wi.at rs) h) fun v H' q => ?_
  intro n
  obtain ⟨d, M', r, k, z', q'⟩ := q n
  exact ⟨_, M', (rs.keep k).set r, k, z', q'⟩
end
end DL
/-! # The D-layer: own defs -/
namespace DL
open PySem PySem.Spec PyProof.Rows L2
/-- what a def promises: the arguments, the memory, the wanted end, the wanted exception -/
abbrev DSp := List D → Mem → DK → DX → Prop
def XKW (K : PySem.W.Frag) (W : WD) (σ : L2.St) : XK := fun cls d H => d = none ∧ ∃ x, cls = .ref (He.ga K x) ∧ W x σ H
def WXW (K : PySem.W.Frag) (W : WD) : WX := fun cls d σ H => d = none ∧ ∃ x, cls = .ref (He.ga K x) ∧ W x σ H
section
variable (P : Program) (w : World) (K : PySem.W.Frag)
def toSp (n : Nat) (sp : DSp) : Sp := fun vs H Q E => vs.length = n ∧ ∃ (Z : Hp) (M : Mem) (ds : List D) (Kd : DK) (KX : DX), AbsZ P w K Z M H ∧ Reps H ds vs ∧ sp ds M Kd KX ∧
  (∀ v H', lift P w K H Z Kd v H' → Q v H') ∧ ∀ c M' H', KX c M' → Keep H H' → AbsZ P w K Z M' H' → E (.ref (He.ga K c)) none H'
end
/-- f(..): the written arguments, then the defaults -/
def dCall (n : Nat) (sp : DSp) (dvs : List D) (ta : TAD) : TED := fun σ M K KX => ta σ M (fun ds M1 => (ds ++ dvs).length = n ∧ sp (ds ++ dvs) M1 K KX) KX
section
variable {X : Cx} {W : WD} {k n : Nat} {f : Addr} {fd : FuncData} {ps : List Str} {sp : DSp} {dvs : List D} {dvv : List V} {ds : List Value} {x : Str} {p pos : Pos} {e : Expr} {es : List Expr} {ta : TAD}
theorem run_d {pins : List (Addr × Obj)} {s : Shared} {σ : L2.St} {H Z : Hp} {M : Mem} {us : List Value} {vs : List V} {as : List D} {K : DK} {KX : DX} (F : FnOk X.prog X.w X.K X.mg X.base (L2.CX X.prog X.w) k f fd ps (toSp X.prog X.w X.K ps.length sp)) (hr : Room k X.A) (hb : Binds X.K fd ps ds) (hd : Vals dvv ds) (hdr : ∀ H, Reps H dvs dvv) (tk : Takes X (WXW X.K W))
    (hl : (as ++ dvs).length = ps.length) (I : Inv X pins σ H s) (r : Vals vs us) (rp : Reps H as vs) (z : AbsZ X.prog X.w X.K Z M H) (wi : Wish X.prog X.w X.K W σ H Z KX) (h : sp (as ++ dvs) M K KX) : wpAny (model X.prog X.w) X.A (call (.ref f) us) (EP X pins σ (lift X.prog X.w X.K H Z K)) X.xe s := by
  have rr := rp.append (hdr H)
  have hx : PassesAt (L2.CX X.prog X.w) X σ (XKW X.K W σ) := passAt tk σ
  refine run_fnSD (E := fun σ => XKW X.K W σ) F hr hb hd hx I r ⟨by rw [← rr.length]; exact hl, Z, M, as ++ dvs, K, KX, z, rr, h, fun v H' q => q, fun c M' H' q k' z' => ⟨rfl, c, rfl, wi c M' H' q k' z'⟩⟩
theorem de_call (F : FnOk X.prog X.w X.K X.mg X.base (L2.CX X.prog X.w) k f fd ps (toSp X.prog X.w X.K ps.length sp)) (hr : Room k X.A) (hg : Gl X x) (hm : X.mg x = some (.ref f)) (hk : PySem.W.keepIn X.K (.ref f) = true) (hb : Binds X.K fd ps ds) (hd : Vals dvv ds) (hdr : ∀ H, Reps H dvs dvv) (tk : Takes X (WXW X.K W))
    (ha : DA X W (e :: es) ta) (hdb : (x == ("__debug__" : Str)) = false) (he : starEach (e :: es) X.env = (false, eval e X.env) :: starEach es X.env) (hpl : (backTo pos (starEach es X.env)).any (·.1) = false) :
    DE X W (.Call (.Name x p) (e :: es) [] pos) (dCall ps.length sp dvs ta) := by
  refine ⟨fun pins s σ H σD Z M K KX I rs z wi h => ?_⟩
  refine wpAny_Call_Name_kw (ld_glob I hg hm ?_ hdb)
  refine PySem.W.callWith_K (h₀ := X.base) I.ok.mod.kin hk (ha.pa pos I rs z wi h fun us s1 vs H1 as M1 I1 r1 p1 k1 z1 q1 => ⟨I1.kIn, ?_⟩) he hpl
  obtain ⟨hl, q⟩ := q1
  exact thn (run_d F hr hb hd hdr tk hl I1 r1 p1 z1 (wi.keep k1) q) fun _ _ e => EP.back k1 e
end
/-! ### a def of the text -/
def endsF (K : DK) (KX : DX) : DEnds := ⟨fun _ M => K .non M, K, fun _ _ => False, fun _ _ => False, fun c _ M => KX c M⟩
def startD (N : List Str) (ds : List D) : DSt := ds.map some ++ List.replicate (N.length - ds.length) none
theorem rs_start {H : Hp} {N : List Str} {ds : List D} {vs : List V} (r : Reps H ds vs) : RS H (startD N ds) (L2.start N vs) := by
  have hl := r.length
  refine ⟨by unfold startD L2.start; simp [hl], fun i d e => ?_⟩
  unfold startD at e
  unfold L2.start
  by_cases hi : i < ds.length
  · rw [List.getElem?_append_left (by simpa using hi), List.getElem?_map, Option.map_eq_some_iff] at e
    obtain ⟨d', h1, h2⟩ := e
    cases h2
    obtain ⟨v, h3, h4⟩ := r.get h1
    exact ⟨v, by rw [List.getElem?_append_left (by simpa [← hl] using hi), List.getElem?_map, h3]; rfl, h4⟩
  · rw [List.getElem?_append_right (by simpa using hi), List.getElem?_replicate] at e
    split at e <;> cases e
/-- the context of a def's body -/
structure FCx (P : Program) (w : World) (K : PySem.W.Frag) (mg : Str → Option Value) (base : Heap) (N : List Str) (sc : Scope) (fo : Str → Bool) (stm : Bool) (k : Nat) (X : Cx) (W : WD) : Prop where
  prog : X.prog = P
  w' : X.w = w
  K' : X.K = K
  mg' : X.mg = mg
  base' : X.base = base
  N' : X.N = N
  nd : N.Nodup
  sc' : X.env.scope = sc
  calm : X.calm = true
  fnl : ∀ x, fo x = true → X.fn x = true ∨ X.env.scope.names.lookup x = some .local
  room : Room k X.A
  own : PassesOwn (model X.prog X.w) X.A X.env X.xe
  tk : Takes X (WXW X.K W)
  st : stm = true → X.stack = X.env :: X.outer ∧ X.env.frame = some X.env.locals
theorem FCx.rm {P : Program} {w : World} {K : PySem.W.Frag} {mg : Str → Option Value} {base : Heap} {N : List Str} {sc : Scope} {fo : Str → Bool} {stm : Bool} {k : Nat} {X : Cx} {W : WD} (c : FCx P w K mg base N sc fo stm k X W) : Rm X := ⟨by have := c.room.un; omega, c.calm⟩
theorem dfn_of {P : Program} {w : World} {K : PySem.W.Frag} {mg : Str → Option Value} {base : Heap} {k : Nat} {f : Addr} {name qual : Str} {params : Arguments} {body : List Stmt} {scope : Scope} {dV kV doc pm cdv ct oc : Value} {an od : Option Addr}
    {osl : Array (Option Value)} {N ps : List Str} {sp : DSp} {t : TSD} (lk : K.lookup f = some ⟨oc, od, .func (PySem.W.fnOf name qual params body scope dV kV doc pm an cdv ct), osl⟩) (hcd : PySem.W.codeIn K cdv qual = true) (S : FnScope N ps scope)
    (hbody : ∀ (X : Cx) (W : WD), FCx P w K mg base N scope (fun _ => true) true k X W → DS X W body t)
    (hsp : ∀ (ds : List D) (M : Mem) (Kd : DK) (KX : DX), ds.length = ps.length → sp ds M Kd KX → t (endsF Kd KX) (startD N ds) M) :
    FnOk P w K mg base (L2.CX P w) (k + 1) f (PySem.W.fnOf name qual params body scope dV kV doc pm an cdv ct) ps (toSp P w K ps.length sp) := by
  refine fn_of lk hcd S (fun vs H Q E h => h.1) fun A outer s H vs Q E hr ⟨hl, Z, M, ds, Kd, KX, z, rp, h, hQ, hE⟩ => ?_
  refine ⟨semS _ body, pss_sem, ?_⟩
  have fc : FCx P w K mg base N scope (fun _ => true) true k (cxOf (L2.CX P w) P w K mg base N qual scope f cdv A outer s H E) (fun x _ H' => E (.ref (He.ga K x)) none H') :=
    ⟨rfl, rfl, rfl, rfl, rfl, rfl, S.nd, rfl, rfl, fun _ _ => .inl rfl, hr, passes_of (X := cxOf (L2.CX P w) P w K mg base N qual scope f cdv A outer s H E) rfl,
      (takes_of (X := cxOf (L2.CX P w) P w K mg base N qual scope f cdv A outer s H E) rfl rfl rfl rfl).imp fun cls d σ H' ⟨e1, c, e, q⟩ => by rw [e, e1]; exact q, fun _ => ⟨rfl, rfl⟩⟩
  have hb := hbody _ _ fc
  have q := hsp ds M Kd KX (by rw [rp.length]; exact hl) h
  refine hb.sem (H := H) (Z := Z) (D := endsF Kd KX) (rs_start rp) z (fun c σD σ' M' H' e r k' z' => hE c M' H' e k' z') q (fun σ' H' ⟨σD, M', _, k', z', q'⟩ => hQ _ _ ⟨.non, M', .non, k', z', q'⟩) (fun v H' q' => hQ v H' q') (fun σ' H' ⟨σD, M', _, k', z', q'⟩ => q') fun σ' H' ⟨σD, M', _, k', z', q'⟩ => q'
end DL
/-! # The D-layer: dict displays, isinstance -/
namespace DL
open PySem PySem.Spec PyProof.Rows L2
/-! ### {} -/
theorem dctT_nil {P : Program} {w : World} {H : Hp} {a : Addr} (h : (a == sysModules) = false) : DctT P w H a [] (DictE a []) := ⟨[], rfl, Nat.zero_le _, h, .nil, List.nodup_nil⟩
theorem dictE_ok {P : Program} {w : World} {H : Hp} {h : Heap} {a : Addr} {es : List DictEntry} {o : Obj} {arr : Array DictEntry} {ep : Nat} (e1 : h.get? a = some o) (e2 : o.ExactDict) (e3 : o.data = .dict arr ep) (e4 : arr.toList = es) : ObjOk P w H h a (DictE a es) :=
  ⟨⟨o, arr, ep, e1, e2, e3, e4⟩, ⟨_, e1⟩, fun h1 h2 ⟨o1, a1, p1, q1, q2, q3, q4⟩ k => ⟨o1, a1, p1, k _ q1, q2, q3, q4⟩⟩
def dEmp : TED := fun _ M K _ => (∀ p, M p = none → K (.ref p) (up M p (.dct []))) ∨ ∀ p, M p = none → K (.ref p) (up M p (.dci []))
section
variable {X : Cx} {W : WD} {pos : Pos}
theorem sys_new {pins : List (Addr × Obj)} {s : Shared} {σ : L2.St} {H : Hp} (I : Inv X pins σ H s) : (s.heap.objs.size == sysModules) = false := beq_eq_false_iff_ne.mpr (Nat.ne_of_gt I.big)
theorem de_emp : DE X W (.Dict [] [] pos) dEmp := by
  refine ⟨fun pins s σ H σD Z M K KX I rs z wi h => ?_⟩
  have hn : H s.heap.objs.size = none := I.hok.fresh (Nat.le_refl _)
  have hM := z.nope hn (nk_new I (Nat.le_refl _))
  rcases h with h | h
  · refine wpAny_Dict_empty ⟨.ref s.heap.objs.size, _, I.laid (a := s.heap.objs.size) (o := DictE s.heap.objs.size []) (t' := s.toks) (fun _ _ q => Heap.get?_push_of_some _ q) (Nat.le_refl _) (dictE_ok (Heap.get?_push_size _ rfl) ⟨rfl, rfl, rfl⟩ rfl rfl), rfl, D.ref _, _, .ref _, new_keep hn, ?_, h _ hM⟩
    exact z.add (o := .dct []) hn ⟨_, upd_same, dctT_nil (sys_new I)⟩
  · refine wpAny_Dict_empty ⟨.ref s.heap.objs.size, _, I.laid (a := s.heap.objs.size) (o := .dK []) (t' := s.toks) (fun _ _ q => Heap.get?_push_of_some _ q) (Nat.le_refl _) (dk_empty s.heap I.big), rfl, D.ref _, _, .ref _, new_keep hn, ?_, h _ hM⟩
    exact z.add (o := .dci []) hn ⟨_, upd_same, [], rfl, .nil⟩
end
/-! ### {k: v} -/
/-- an empty dict in the frame, taken into the memory as something else -/
theorem AbsZ.frame_dict {P : Program} {w : World} {K : PySem.W.Frag} {Z : Hp} {M : Mem} {H : Hp} {p : Addr} {u : HO} {o : DO} (z : AbsZ P w K (upd Z p (.dK [])) M H) (hk : K.lookup p = none) (h0 : Z p = none) (hr : Keep H (upd H p u) → RepO P w K (upd H p u) p o) :
    M p = none ∧ AbsZ P w K Z (up M p o) (upd H p u) ∧ Keep H (upd H p u) := by
  have hp : H p = some (.dK []) := z.fr p _ upd_same
  have mu : Mut (H p) := by rw [hp]; trivial
  have hM : M p = none := by
    cases q : M p with
    | none => rfl
    | some o =>
      exfalso
      cases o with
      | ro ds =>
        obtain ⟨us, h, _⟩ := z.mem p _ q
        rcases h with ⟨o, h⟩ | ⟨o, _, _, h, _⟩
        · rw [hp] at h; cases h
        · rw [hk] at h; cases h
      | rod kvs => obtain ⟨ob, u, h, _⟩ := z.mem p _ q; rw [hp] at h; cases h
      | roi kvs => obtain ⟨ob, u, h, _⟩ := z.mem p _ q; rw [hp] at h; cases h
      | lst _ => exact z.dj p _ _ q rfl upd_same
      | dct _ => exact z.dj p _ _ q rfl upd_same
      | dci _ => exact z.dj p _ _ q rfl upd_same
      | ins _ _ => exact z.dj p _ _ q rfl upd_same
  refine ⟨hM, ⟨fun b v e => ?_, fun b v e => ?_, fun b v y e f q => ?_⟩, mut_keep mu⟩
  · by_cases hb : b = p
    · subst hb
      rw [up_same] at e
      cases e
      exact hr (mut_keep mu)
    · rw [up_ne hb] at e
      exact (z.mem b v e).keep (mut_keep mu) (upd_ne hb)
  · have hb : b ≠ p := fun q => by rw [q, h0] at e; cases e
    rw [upd_ne hb]
    exact z.fr b v (by rw [upd_ne hb]; exact e)
  · have hb : b ≠ p := fun q' => by rw [q', h0] at q; cases q
    rw [up_ne hb] at e
    exact z.dj b v y e f (by rw [upd_ne hb]; exact q)
def dOne (tk tv : TED) : TED := fun σ M K KX => tk σ M (fun x M1 => tv σ M1 (fun y M2 => match x with
  | .int i => ∀ p, M2 p = none → K (.ref p) (up M2 p (.dci [(.int i, y)]))
  | .tup ds => okK (.tup ds) = true ∧ ∀ p, M2 p = none → K (.ref p) (up M2 p (.dct [(.tup ds, y)]))
  | _ => False) KX) KX
section
variable {X : Cx} {W : WD} {pos : Pos} {k v : Expr} {tk tv : TED}
theorem storeAll_one {prog : Program} {w : World} {A : Around} {E : Value → Shared → Prop} {s : Shared} {d : Addr} {k v : Value} {Q : PUnit → Shared → Prop} (h : wpAny (model prog w) A (dictSet d k v) (fun _ s' => Q PUnit.unit s') E s) : wpAny (model prog w) A (storeAll d [(k, v)]) Q E s := by
  unfold storeAll
  rw [List.forIn_cons]
  refine wpAny_bind (wpAny_bind (wpAny_mono h (fun _ s' q => wpAny_pure ?_) fun _ _ e => e))
  exact wpAny_pure q
theorem de_dOne (rm : Rm X) (hk : DE X W k tk) (hv : DE X W v tv) : DE X W (.Dict [some k] [v] pos) (dOne tk tv) := by
  refine ⟨fun pins s σ H σD Z M K KX I rs z wi h => ?_⟩
  have hu := rm.r1
  have hn : H s.heap.objs.size = none := I.hok.fresh (Nat.le_refl _)
  have hkn := nk_new I (Nat.le_refl s.heap.objs.size)
  have hM := z.nope hn hkn
  have hZ : Z s.heap.objs.size = none := by
    cases q : Z s.heap.objs.size with
    | none => rfl
    | some o => have := z.fr _ o q; rw [hn] at this; cases this
  have hsys := sys_new I
  have I1 := I.laid (a := s.heap.objs.size) (o := .dK []) (h' := s.heap.push { cls := .type "dict", data := .dict #[] }) (t' := s.toks) (fun _ _ q => Heap.get?_push_of_some _ q) (Nat.le_refl _) (dk_empty s.heap I.big)
  have z1 : AbsZ X.prog X.w X.K (upd Z s.heap.objs.size (.dK [])) M (upd H s.heap.objs.size (.dK [])) := z.frame_new hn hM
  have k0 : Keep H (upd H s.heap.objs.size (.dK [])) := new_keep hn
  have zl : ZLe Z (upd Z s.heap.objs.size (.dK [])) := fun b o e => by
    rw [upd_ne (fun q => by rw [q, hZ] at e; cases e)]; exact e
  refine wpAny_Dict_any rfl rfl (by simp) (by simp) (pairTrees_cons_walk (thn (hk.run pins _ σ _ σD _ M _ KX I1 (rs.keep k0) z1 ((wi.keep k0).zle zl) h) fun ku s2 ⟨kv, H2, I2, rk, kd, M2, pk, k2, z2, q2⟩ => ?_))
  refine thn (hv.run pins s2 σ H2 σD _ M2 _ KX I2 ((rs.keep k0).keep k2) z2 (((wi.keep k0).zle zl).keep k2) q2) fun vu s3 ⟨vv, H3, I3, rv, vd, M3, pv, k3, z3, q3⟩ => ?_
  refine pairTrees_nil_walk (storeAll_one ?_)
  have hp3 : H3 s.heap.objs.size = some (.dK []) := z3.fr s.heap.objs.size _ upd_same
  obtain ⟨zz, hd, vs0, r0, dd⟩ := dk_of I3.hok hp3
  cases r0
  have k03 := (k0.trans k2).trans k3
  cases kd with
  | int i =>
    cases pk
    refine wpAny_dictSet_pairs (hsz := Nat.zero_le _) (knd := mixKind X.prog X.w) (kV_is (k := .inl i) rk) dd fun h' dd' hs => ?_
    obtain ⟨hM3, z4, k4⟩ := z3.frame_dict (u := .dK [(.inl i, vv)]) (o := .dci [(.int i, vd)]) hkn hZ fun k4 => ⟨_, upd_same, _, rfl, .cons ⟨rfl, pv.keep k4⟩ .nil⟩
    refine ⟨.ref s.heap.objs.size, _, d_write (t' := s3.toks + 1) I3 (by rw [hp3]; trivial) hs (let ⟨q, _, _, hq, _⟩ := dd'; ⟨q, hq⟩) (dk_new (vs := [(.inl i, vu)]) (by show 1 ≤ sizeLine; decide) hd (.cons ⟨rfl, rv⟩ .nil) dd'), rfl, D.ref s.heap.objs.size, _, .ref s.heap.objs.size, k03.trans k4, z4, q3 s.heap.objs.size hM3⟩
  | tup ds =>
    obtain ⟨hok, q3⟩ := q3
    obtain ⟨b, rfl⟩ := okK_ref hok pk
    cases rk
    have pk3 := pk.keep k3
    have ddH : s3.heap.DictOfH (nestedKind X.prog X.w) s.heap.objs.size [] := by
      obtain ⟨es, ep, ⟨o, e1, e2, e3⟩, hs, _⟩ := dd.raw
      have he : es = #[] := Array.eq_empty_of_size_eq_zero hs
      subst he
      exact ⟨o, #[], ep, e1, e2, e3, rfl, fun x hx => by simp at hx, List.nodup_nil⟩
    have hkey := key_is I3.hok hok pk3
    refine wpAny_dictSet_heap (hsz := Nat.zero_le _) (knd := nestedKind X.prog X.w) (by show X.A.units + 8 < cLine; omega) hkey ddH fun h' dd' hs => ?_
    obtain ⟨o, es, ep, e1, e2, e3, e4, _, e6⟩ := dd'
    obtain ⟨hM3, z4, k4⟩ := z3.frame_dict (u := DictE s.heap.objs.size ([(keyD (.tup ds), b, vu)].map (entryOfKey (nestedKind X.prog X.w)))) (o := .dct [(.tup ds, vd)]) hkn hZ fun k4 =>
      ⟨_, upd_same, [(keyD (.tup ds), b, vu)], rfl, by show 1 ≤ sizeLine; decide, hd, .cons ⟨hok, rfl, pk3.keep k4, vv, pv.keep k4, rv⟩ .nil, by simp⟩
    have I4 := d_write (t' := s3.toks + (nestedKind X.prog X.w).draws (keyD (.tup ds))) I3 (by rw [hp3]; trivial) hs ⟨_, e1⟩ (dictE_ok (P := X.prog) (w := X.w) (H := upd H3 s.heap.objs.size (DictE s.heap.objs.size ([(keyD (.tup ds), b, vu)].map (entryOfKey (nestedKind X.prog X.w))))) e1 e2 e3 e4)
    exact ⟨.ref s.heap.objs.size, _, I4, rfl, D.ref s.heap.objs.size, _, .ref s.heap.objs.size, k03.trans k4, z4, q3 s.heap.objs.size hM3⟩
  | non => exact q3.elim
  | bl _ => exact q3.elim
  | str _ => exact q3.elim
  | ref _ => exact q3.elim
  | ty _ => exact q3.elim
/-! ### isinstance -/
def isiD (ds : List D) (M : Mem) (K : DK) : Prop := match ds with
  | [x, .ty n] => onS (tyM M x) fun t => onS (kitB t n) fun b => K (.bl b) M
  | _ => False
theorem dc_isi : DCall X (.builtin "isinstance") isiD := by
  intro pins s σ H Z M ds vs us K I z rp rv h
  unfold isiD at h
  split at h
  · rename_i x n
    obtain ⟨t, ht, h2⟩ := onS_out h
    obtain ⟨b, hb, q⟩ := onS_out h2
    obtain ⟨v, v', u, u', rfl, r1, r2, r3, r4⟩ := vals_two rp rv
    cases r3
    cases r4
    have fin : ∀ {Ps : Heap → Prop}, PySem.W.KitX X.K u (.type t) Ps → Ps s.heap → u ≠ .builtin "__main__.__loader__#opaque" → wpAny (model X.prog X.w) X.A (call (.builtin "isinstance") [u, .type n]) (EP X pins σ (lift X.prog X.w X.K H Z K)) X.xe s :=
      fun Z' p hx => PySem.W.kia_one Z' I.kIn p (kit_ty hb) hx fun tk => ⟨.bl b, H, I.tok tk, rfl, .bl b, M, .bl b, Keep.refl, z, q⟩
    cases x with
    | non => cases ht; cases r1; cases r2; exact fin PySem.W.kitx_none True.intro (fun z => nomatch z)
    | bl y => cases ht; cases r1; cases r2; exact fin PySem.W.kitx_bool True.intro (fun z => nomatch z)
    | int i => cases ht; cases r1; obtain ⟨tk, rfl⟩ := r2; exact fin PySem.W.kitx_int True.intro (fun z => nomatch z)
    | str y => cases ht; cases r1; obtain ⟨tk, rfl⟩ := r2; exact fin PySem.W.kitx_str True.intro (fun z => nomatch z)
    | ty _ => cases ht
    | tup es =>
      cases ht
      obtain ⟨a, ws, rfl, h1, _⟩ := r1.tup_inv
      cases r2
      obtain ⟨its, _, hl, _⟩ := I.tuple (SqT.of h1)
      obtain ⟨o, g1, g2, _⟩ := hl
      exact fin PySem.W.kitx_tuple ⟨o, g1, g2⟩ (fun z => nomatch z)
    | ref a =>
      have hti := (tyM_is I z ht r1 r2).1
      cases r1
      cases r2
      obtain ⟨o, g1, g2⟩ := hti
      rcases tyM_ref ht with ⟨rfl, _⟩ | ⟨rfl, _⟩
      · exact fin PySem.W.kitx_list ⟨o, g1, g2⟩ (fun z => nomatch z)
      · exact fin PySem.W.kitx_dict ⟨o, g1, g2⟩ (fun z => nomatch z)
  · exact h.elim
end
end DL
/-! # The D-layer: the reading of a text, by computation -/
namespace DL
open PySem PySem.Spec PyProof.Rows L2
/-- a name of the module: a def (its parameters, defaults, promise), a constant -/
inductive GE where
  | fn (n : Nat) (dvs : List D) (sp : DSp) | con (d : D)
/-- own classes: attributes, methods' promises, what makes an instance (own __init__'s promise, or object's), isinstance's answers, the methods' names, the classes asked for -/
structure ClE where
  fl : Str → Str → Bool
  mt : Str → Str → Option (Nat × DSp)
  mkr : Str → Option (Option (Nat × DSp))
  isc : Str → Str → Option Bool
  mn : List Str
  ct : List Str
def ClE.no : ClE := ⟨fun _ _ => false, fun _ _ => none, fun _ => none, fun _ _ => none, [], []⟩
/-- what a text is read under: the names' places, the block's scope, the module's names, built-in names that the module does not bind -/
structure RC where
  N : List Str
  sc : Scope
  gl : Str → Option GE
  bl : List Str
  /-- what may be stored to -/
  fo : Str → Bool
  /-- a def's own block (no comprehension's) -/
  stm : Bool
  /-- own classes of refusals -/
  ex : List Str
  /-- .. that are asked for alone -/
  ec : List Str
  /-- own classes -/
  cs : ClE
/-! ### what is built in, by name -/
inductive Blt where
  | len | list | tuple | abs | int | sum | min | max | divmod | sorted | isi
def bltOf (x : Str) : Option Blt :=
  if x = "len" then some .len else if x = "list" then some .list else if x = "tuple" then some .tuple else if x = "abs" then some .abs else if x = "int" then some .int else if x = "sum" then some .sum
  else if x = "min" then some .min else if x = "max" then some .max else if x = "divmod" then some .divmod else if x = "sorted" then some .sorted else if x = "isinstance" then some .isi else none
def Blt.val : Blt → Value
  | .len => .builtin "len" | .list => .type "list" | .tuple => .type "tuple" | .abs => .builtin "abs" | .int => .type "int" | .sum => .builtin "sum"
  | .min => .builtin "min" | .max => .builtin "max" | .divmod => .builtin "divmod" | .sorted => .builtin "sorted" | .isi => .builtin "isinstance"
def Blt.sem : Blt → List D → Mem → DK → Prop
  | .len => lenD | .list => listD | .tuple => tupleD | .abs => absD | .int => intD | .sum => sumD
  | .min => minDD | .max => maxDD | .divmod => divmodD | .sorted => sortedD | .isi => isiD
theorem blt_ok {X : Cx} (rm : Rm X) : ∀ b : Blt, DCall X b.val b.sem
  | .len => dc_len | .list => dc_list rm | .tuple => dc_tuple | .abs => dc_abs | .int => dc_int | .sum => dc_sum rm
  | .min => dc_min rm | .max => dc_max rm | .divmod => dc_divmod | .sorted => dc_sorted rm | .isi => dc_isi
theorem blt_boot {x : Str} {b : Blt} (h : bltOf x = some b) : bootBuiltins x = some b.val ∧ x ≠ "__name__" ∧ (x == ("__debug__" : Str)) = false := by
  unfold bltOf at h
  split at h
  · rename_i e; subst e; cases h; exact ⟨boot_len, by decide, by decide⟩
  split at h
  · rename_i e; subst e; cases h; exact ⟨boot_list, by decide, by decide⟩
  split at h
  · rename_i e; subst e; cases h; exact ⟨boot_tuple, by decide, by decide⟩
  split at h
  · rename_i e; subst e; cases h; exact ⟨boot_abs, by decide, by decide⟩
  split at h
  · rename_i e; subst e; cases h; exact ⟨boot_int, by decide, by decide⟩
  split at h
  · rename_i e; subst e; cases h; exact ⟨boot_sum, by decide, by decide⟩
  split at h
  · rename_i e; subst e; cases h; exact ⟨boot_min, by decide, by decide⟩
  split at h
  · rename_i e; subst e; cases h; exact ⟨boot_max, by decide, by decide⟩
  split at h
  · rename_i e; subst e; cases h; exact ⟨boot_divmod, by decide, by decide⟩
  split at h
  · rename_i e; subst e; cases h; exact ⟨boot_sorted, by decide, by decide⟩
  split at h
  · rename_i e; subst e; cases h; exact ⟨boot_isinstance, by decide, by decide⟩
  · cases h
/-- a type's name, as a value -/
def tyOf (x : Str) : Option String :=
  if x = "int" then some "int" else if x = "bool" then some "bool" else if x = "list" then some "list" else if x = "tuple" then some "tuple" else if x = "str" then some "str" else none
theorem ty_boot {x : Str} {n : String} (h : tyOf x = some n) : bootBuiltins x = some (.type n) ∧ x ≠ "__name__" ∧ (x == ("__debug__" : Str)) = false := by
  unfold tyOf at h
  split at h
  · rename_i e; subst e; cases h; exact ⟨boot_int, by decide, by decide⟩
  split at h
  · rename_i e; subst e; cases h; exact ⟨boot_bool, by decide, by decide⟩
  split at h
  · rename_i e; subst e; cases h; exact ⟨boot_list, by decide, by decide⟩
  split at h
  · rename_i e; subst e; cases h; exact ⟨boot_tuple, by decide, by decide⟩
  split at h
  · rename_i e; subst e; cases h; exact ⟨boot_str, by decide, by decide⟩
  · cases h
/-! ### operators -/
def subD : D → D → Mem → DK → Prop := rI0 fun i j => .int (i - j)
def fdvD : D → D → Mem → DK → Prop := rII divOk fun i j => .int (i.fdiv j)
def modD : D → D → Mem → DK → Prop := rII (fun _ j => j ≠ 0) fun i j => .int (i.fmod j)
def powD : D → D → Mem → DK → Prop := rII powOk fun i j => .int (i ^ j.toNat)
def shlD : D → D → Mem → DK → Prop := rII powOk fun i j => .int (i * 2 ^ j.toNat)
def shrD : D → D → Mem → DK → Prop := rII (fun _ j => 0 ≤ j) fun i j => .int (i / 2 ^ j.toNat)
def banD : D → D → Mem → DK → Prop := rI0 fun i j => .int (Builtin.bitAnd i j)
def borD : D → D → Mem → DK → Prop := rI0 fun i j => .int (Builtin.bitOr i j)
def bxrD : D → D → Mem → DK → Prop := rI0 fun i j => .int (Builtin.bitXor i j)
def leD : D → D → Mem → DK → Prop := rI0 fun i j => .bl (decide (i ≤ j))
def gtD : D → D → Mem → DK → Prop := rI0 fun i j => .bl (decide (j < i))
def geD : D → D → Mem → DK → Prop := rI0 fun i j => .bl (decide (j ≤ i))
def iadD : D → D → Mem → DK → Prop := rI0 fun i j => .int (i + j)
def rdBin : Operator → Option (D → D → Mem → DK → Prop)
  | .Add => some addD
  | .Sub => some subD
  | .Mult => some mulD
  | .FloorDiv => some fdvD
  | .Mod => some modD
  | .Pow => some powD
  | .LShift => some shlD
  | .RShift => some shrD
  | .BitAnd => some banD
  | .BitOr => some borD
  | .BitXor => some bxrD
  | _ => none
theorem bin_ok {X : Cx} {op : Operator} {r : D → D → Mem → DK → Prop} (h : rdBin op = some r) : DOp X (binaryOp op) r := by
  cases op <;> first
    | (cases h; first | exact dop_add | exact dop_sub | exact dop_mul | exact dop_div | exact dop_mod | exact dop_pow | exact dop_shl | exact dop_shr | exact dop_and | exact dop_or | exact dop_xor)
    | cases h
def rdCmp : CmpOp → Option (D → D → Mem → DK → Prop)
  | .Eq => some eqD
  | .NotEq => some neD
  | .Lt => some ltD
  | .LtE => some leD
  | .Gt => some gtD
  | .GtE => some geD
  | .Is => some isD
  | .IsNot => some isnotD
  | .In => some inD
  | .NotIn => some notInD
theorem cmp_ok {X : Cx} (rm : Rm X) {op : CmpOp} {r : D → D → Mem → DK → Prop} (h : rdCmp op = some r) : DOp X (compareOp op) r := by
  have hu : X.A.units + 64 < cLine := by have := rm.r1; omega
  cases op <;> (cases h; first | exact dop_eq hu | exact dop_ne hu | exact dop_lt X hu | exact dop_le | exact dop_gt | exact dop_ge | exact dop_is | exact dop_isnot | exact dop_in rm | exact dop_notIn rm)
section
variable {X : Cx} {W : WD} {pos : Pos} {a b c : Expr} {ta tb tc : TED}
theorem de_chain {op op' : CmpOp} {r r' : D → D → Mem → DK → Prop} (ho : DOp X (compareOp op) r) (ho' : DOp X (compareOp op') r') (ha : DE X W a ta) (hb : DE X W b tb) (hc : DE X W c tc) (hm : lastMarks [op, op'] [b, c] = false) :
    DE X W (.Compare a [op, op'] [b, c] pos) (dChain r r' ta tb tc) := by
  refine ⟨fun pins s σ H σD Z M K KX I rs z wi h => ?_⟩
  refine Compare_chain (thn (ha.run pins s σ H σD Z M _ KX I rs z wi h) fun v s1 ⟨xv, H1, I1, r1, x, M1, p1, k1, z1, q1⟩ => chain_link (thn (hb.run pins s1 σ H1 σD Z M1 _ KX I1 (rs.keep k1) z1 (wi.keep k1) q1) fun u s2 ⟨yv, H2, I2, r2, y, M2, p2, k2, z2, q2⟩ =>
    thn (ho pins s2 σ H2 Z M2 x y xv yv v u _ I2 z2 (p1.keep k2) p2 r1 r2 q2) fun d s3 ⟨zv, H3, I3, r3, zd, M3, p3, k3, z3, q3⟩ => ?_)) hm
  dsimp only at q3
  split at q3
  · cases p3; cases r3
    refine wpAny_truthy_bool (ite_tt (chain_last (thn (hc.run pins s3 σ H3 σD Z M3 _ KX I3 (rs.keep ((k1.trans k2).trans k3)) z3 (wi.keep ((k1.trans k2).trans k3)) q3) fun w' s4 ⟨wv, H4, I4, r4, wd, M4, p4, k4, z4, q4⟩ => ?_)))
    exact thn (ho' pins s4 σ H4 Z M4 y wd yv wv u w' K I4 z4 (p2.keep (k3.trans k4)) p4 r2 r4 q4) fun _ _ e => EP.back (((k1.trans k2).trans k3).trans k4) e
  · cases p3; cases r3
    exact wpAny_truthy_bool (ite_ff ⟨.bl false, H3, I3, rfl, .bl false, M3, .bl false, (k1.trans k2).trans k3, z3, q3⟩)
  · exact q3.elim
theorem dt_chain {op op' : CmpOp} {r r' : D → D → Mem → DK → Prop} (ho : DOp X (compareOp op) r) (ho' : DOp X (compareOp op') r') (ha : DE X W a ta) (hb : DE X W b tb) (hc : DE X W c tc) (hm : lastMarks [op, op'] [b, c] = false) :
    DT X W (.Compare a [op, op'] [b, c] pos) (dTest (dChain r r' ta tb tc)) := by
  refine ⟨fun pins s σ H σD Z M K KX I rs z wi h => ?_⟩
  refine isTrue_chain (thn (ha.run pins s σ H σD Z M _ KX I rs z wi h) fun v s1 ⟨xv, H1, I1, r1, x, M1, p1, k1, z1, q1⟩ => test_link (thn (hb.run pins s1 σ H1 σD Z M1 _ KX I1 (rs.keep k1) z1 (wi.keep k1) q1) fun u s2 ⟨yv, H2, I2, r2, y, M2, p2, k2, z2, q2⟩ =>
    thn (ho pins s2 σ H2 Z M2 x y xv yv v u _ I2 z2 (p1.keep k2) p2 r1 r2 q2) fun d s3 ⟨zv, H3, I3, r3, zd, M3, p3, k3, z3, q3⟩ => ?_)) hm
  dsimp only at q3
  split at q3
  · cases p3; cases r3
    refine wpAny_truthy_bool (ite_tt (test_last (thn (hc.run pins s3 σ H3 σD Z M3 _ KX I3 (rs.keep ((k1.trans k2).trans k3)) z3 (wi.keep ((k1.trans k2).trans k3)) q3) fun w' s4 ⟨wv, H4, I4, r4, wd, M4, p4, k4, z4, q4⟩ => ?_)))
    refine thn (ho' pins s4 σ H4 Z M4 y wd yv wv u w' _ I4 z4 (p2.keep (k3.trans k4)) p4 r2 r4 q4) fun c s5 e => ?_
    obtain ⟨d, rfl, e'⟩ := test_bl (EP.back (((k1.trans k2).trans k3).trans k4) e)
    exact wpAny_truthy_bool e'
  · cases p3; cases r3
    exact wpAny_truthy_bool (ite_ff ⟨H3, I3, M3, (k1.trans k2).trans k3, z3, q3⟩)
  · exact q3.elim
end
/-- a dict compared with one without entries -/
def eqED (x y : D) (M : Mem) (K : DK) : Prop := onS (dcOf M x) fun p => onS (dcOf M y) fun q => q.2 = [] ∧ K (.bl (decide (p.2.length = 0))) M
section
variable {X : Cx}
theorem dop_eqE (hu : X.A.units + 64 < cLine) : DOp X (compareOp .Eq) eqED := by
  intro pins s σ H Z M x y xv yv v u K I z rx ry r1 r2 h
  obtain ⟨⟨t1, k1⟩, h1, q1⟩ := onS_out h
  obtain ⟨⟨t2, k2⟩, h2, hq, q2⟩ := onS_out q1
  have hq : k2 = [] := hq
  subst hq
  obtain ⟨a, oa, ea, pa, rfl, rfl, rfl, da⟩ := dc_raw I z h1 rx r1
  obtain ⟨b, ob, eb, pb, rfl, rfl, rfl, db⟩ := dc_raw I z h2 ry r2
  have ta : s.TypeIs (.ref a) "dict" := ⟨oa, da.at_, da.ex.1⟩
  have tb : s.TypeIs (.ref b) "dict" := ⟨ob, db.at_, db.ex.1⟩
  have fin : EP X pins σ (lift X.prog X.w X.K H Z K) (.bool (decide (k1.length = 0))) s := EP.done (v := .bl (decide (k1.length = 0))) I rfl (.bl _) z q2
  have go : wpAny (model X.prog X.w) X.A (richCompare .Eq (.ref a) (.ref b)) (EP X pins σ (lift X.prog X.w X.K H Z K)) X.xe s := by
    refine wpAny_richCompare_same_room (op := .Eq) ta tb PySem.F.slot_dict_eq (wpAny_call_entry PySem.F.slot_dict_eq ta PySem.F.entry_dict_eq ?_ (PySem.F.args_dict_eq_2 _ _)) (by omega)
    show wpAny _ _ (Builtin.Dict.dictSlotArgs "__eq__" ⟨[.ref a, .ref b], []⟩ >>= _) _ _ s
    refine wpAny_bind ?_
    unfold Builtin.Dict.dictSlotArgs
    refine wpAny_bind (wpAny_notOrdered_dict ta (wpAny_pure (wpAny_bind (wpAny_isInstance (T := "dict") tb PySem.F.sub_dict_dict ?_))))
    rw [Bool.not_true, if_neg Bool.false_ne_true]
    refine wpAny_bind (wpAny_pure (wpAny_bind (wpAny_pure (wpAny_bind ?_))))
    unfold Builtin.Dict.samePairs Builtin.Dict.showsAll
    rw [if_neg (show ¬ (a == sysModules) = true by rw [da.sys]; exact Bool.false_ne_true), if_neg (show ¬ (b == sysModules) = true by rw [db.sys]; exact Bool.false_ne_true)]
    refine wpAny_bind (wpAny_pure (wpAny_bind (wpAny_pure ?_)))
    refine wpAny_bind (wpAny_dictEntries da.at_ da.dat ?_)
    dsimp only
    refine wpAny_bind (wpAny_dictEntries db.at_ db.dat ?_)
    have hb0 : eb.size = 0 := by rw [db.sz]; rfl
    have ha0 := da.sz
    by_cases hk : k1.length = 0
    · rw [decide_eq_true hk] at fin
      have hsz : ea.size = 0 := by omega
      rw [hsz, hb0, if_neg (by decide)]
      refine wpAny_bind (wpAny_dictEpoch da.at_ da.dat (wpAny_bind ?_))
      rw [Std.Legacy.Range.forIn_eq_forIn_range', show List.range' 0 (Std.Legacy.Range.size ⟨0, 0, 1, by decide⟩) 1 = [] from rfl, List.forIn_nil]
      refine wpAny_pure (wpAny_pure ?_)
      refine wpAny_pure ⟨_, rfl, (fun x => nomatch x), ?_⟩
      simpa using fin
    · rw [decide_eq_false hk] at fin
      rw [if_pos (show (ea.size != eb.size) = true by rw [hb0]; simp only [bne_iff_ne, ne_eq]; omega)]
      refine wpAny_bind (wpAny_rule (wpAny_pure (wpAny_pure ⟨_, rfl, (fun x => nomatch x), ?_⟩)))
      simpa using fin
  exact go
end
def isDE : CmpOp → Expr → Bool
  | .Eq, .Dict [] [] _ => true
  | _, _ => false
theorem isDE_out {op : CmpOp} {b : Expr} (h : isDE op b = true) : op = .Eq := by
  unfold isDE at h
  split at h
  · rfl
  · cases h
/-! ### what is to be seen of a text -/
def notStar : Expr → Bool
  | .Starred _ _ => false
  | _ => true
theorem star_cons {e : Expr} {es : List Expr} {env : Env} (h : notStar e = true) : starEach (e :: es) env = (false, eval e env) :: starEach es env := by
  cases e <;> first | rfl | cases h
theorem star_any {pos : Pos} {env : Env} : ∀ {es : List Expr}, es.all notStar = true → (backTo pos (starEach es env)).any (·.1) = false
  | [], _ => rfl
  | e :: es, h => by
    rw [List.all_cons, Bool.and_eq_true] at h
    rw [star_cons h.1]
    show (false || (backTo pos (starEach es env)).any (·.1)) = false
    rw [star_any h.2]; rfl
theorem star_all {pos : Pos} {env : Env} : ∀ {es : List Expr}, es.all notStar = true → (backTo pos (starEach es env)).all (fun x => !x.1) = true
  | [], _ => rfl
  | e :: es, h => by
    rw [List.all_cons, Bool.and_eq_true] at h
    rw [star_cons h.1]
    show (true && (backTo pos (starEach es env)).all (fun x => !x.1)) = true
    rw [star_all h.2]; rfl
def notCall : Expr → Bool
  | .Call (.Name id _) [] [] _ => decide (id ≠ "super")
  | _ => true
theorem base_plain {o : Expr} {name : Str} {env : Env} {whole : Sem Value} (h : notCall o = true) : attributeBase o name env whole = whole := by
  unfold attributeBase
  split
  · rename_i id _ _
    have hid : id ≠ "super" := of_decide_eq_true h
    have : (id != "super") = true := bne_iff_ne.mpr hid
    simp only [this, Bool.true_or, if_true]
  · rfl
def notSet : Expr → Bool
  | .Set _ _ _ => false
  | _ => true
theorem set_plain {e : Expr} {env : Env} {x : Value} (h : notSet e = true) : foldedSetIterable e env x = pure x := by
  cases e <;> first | rfl | cases h
def notSlice : Expr → Bool
  | .Slice _ _ _ _ => false
  | _ => true
theorem ix_plain {e : Expr} (h : notSlice e = true) : PlainIx e := by
  intro o i
  cases e <;> first | rfl | cases h
def notComp : Expr → Bool
  | .ListComp _ _ _ _ => false
  | .SetComp _ _ _ _ => false
  | .DictComp _ _ _ _ _ => false
  | _ => true
theorem comp_plain {e : Expr} {t : Option Expr} {l : Nat} {env : Env} (h : notComp e = true) : swapsWith e t l env = pure false := by
  cases e <;> first | rfl | cases h
/-- a test that is a plain value -/
def plainTest : Expr → Bool
  | .UnaryOp .Not _ _ => false
  | .BoolOp _ _ _ => false
  | .IfExp _ _ _ _ => false
  | .Compare _ _ _ _ => false
  | _ => true
theorem test_plain {e : Expr} {env : Env} (h : plainTest e = true) (whole : Sem Value) : isTrue e env whole = (do let v ← whole; standAt e.pos; holding [v] (truthy v)) := by
  cases e <;> first
    | rfl
    | cases h
    | (rename_i op _ _; cases op <;> first | rfl | cases h)
/-! ### names -/
def ixOf : List Str → Str → Option Nat
  | [], _ => none
  | y :: r, x => if y = x then some 0 else (ixOf r x).map (· + 1)
theorem ixOf_ok : ∀ {N : List Str} {x : Str} {i : Nat}, ixOf N x = some i → N[i]? = some x
  | [], _, _, h => by cases h
  | y :: r, x, i, h => by
    rw [ixOf] at h
    split at h
    · rename_i e; cases h; simp [e]
    · rw [Option.map_eq_some_iff] at h
      obtain ⟨j, h1, rfl⟩ := h
      simpa using ixOf_ok h1
def kindIs (sc : Scope) (x : Str) (k : NameKind) : Bool := match sc.names.lookup x, k with
  | some .local, .local => true
  | some .cell, .cell => true
  | some .free, .free => true
  | some .globalImplicit, .globalImplicit => true
  | _, _ => false
theorem kind_local {sc : Scope} {x : Str} (h : kindIs sc x .local = true) : sc.names.lookup x = some .local := by
  unfold kindIs at h
  cases q : sc.names.lookup x with
  | none => rw [q] at h; cases h
  | some k => rw [q] at h; cases k <;> first | rfl | cases h
theorem kind_cell {sc : Scope} {x : Str} (h : kindIs sc x .cell = true) : sc.names.lookup x = some .cell := by
  unfold kindIs at h
  cases q : sc.names.lookup x with
  | none => rw [q] at h; cases h
  | some k => rw [q] at h; cases k <;> first | rfl | cases h
theorem kind_free {sc : Scope} {x : Str} (h : kindIs sc x .free = true) : sc.names.lookup x = some .free := by
  unfold kindIs at h
  cases q : sc.names.lookup x with
  | none => rw [q] at h; cases h
  | some k => rw [q] at h; cases k <;> first | rfl | cases h
theorem kind_glob {sc : Scope} {x : Str} (h : kindIs sc x .globalImplicit = true) : sc.names.lookup x = some .globalImplicit := by
  unfold kindIs at h
  cases q : sc.names.lookup x with
  | none => rw [q] at h; cases h
  | some k => rw [q] at h; cases k <;> first | rfl | cases h
def visB (sc : Scope) (x : Str) : Bool := (kindIs sc x .local || kindIs sc x .cell || kindIs sc x .free) && !(x == ("__debug__" : Str)) && !(x == ("__classdict__" : Str))
def locB (sc : Scope) (x : Str) : Bool := kindIs sc x .local || kindIs sc x .cell
def gloB (sc : Scope) (x : Str) : Bool := kindIs sc x .globalImplicit && !(x == ("__debug__" : Str))
/-- a comprehension's block -/
def RC.blk (R : RC) (scope : Scope) : RC := { R with sc := relS scope R.sc, fo := fun x => kindIs scope x .cell || kindIs (relS scope R.sc) x .local, stm := false }
theorem visB_ok {sc : Scope} {x : Str} (h : visB sc x = true) : Vis sc x ∧ (x == ("__debug__" : Str)) = false ∧ (x == ("__classdict__" : Str)) = false := by
  unfold visB at h
  simp only [Bool.and_eq_true, Bool.or_eq_true, Bool.not_eq_true'] at h
  obtain ⟨⟨h1, h2⟩, h3⟩ := h
  refine ⟨?_, h2, h3⟩
  rcases h1 with (h1 | h1) | h1
  · exact .inl (kind_local h1)
  · exact .inr (.inl (kind_cell h1))
  · exact .inr (.inr (kind_free h1))
theorem locB_ok {sc : Scope} {x : Str} (h : locB sc x = true) : Loc sc x := by
  unfold locB at h
  rw [Bool.or_eq_true] at h
  rcases h with h | h
  · exact .inl (kind_local h)
  · exact .inr (kind_cell h)
theorem gloB_ok {X : Cx} {sc : Scope} {x : Str} (hs : X.env.scope = sc) (h : gloB sc x = true) : Gl X x ∧ (x == ("__debug__" : Str)) = false := by
  unfold gloB at h
  rw [Bool.and_eq_true, Bool.not_eq_true'] at h
  refine ⟨?_, h.2⟩
  show X.env.scope.names.lookup x = _
  rw [hs]
  exact kind_glob h.1
end DL
/-! # The D-layer: a list turned round; stores of two -/
namespace DL
open PySem PySem.Spec PyProof.Rows L2
section
variable {prog : Program} {w : World} {A : Around} {E : Value → Shared → Prop} {s : Shared}
/-- a new list filled from what walks a list from its end -/
theorem fill_back {it l S : Addr} {items : Array Value} {R : Result → Shared → Prop} (hh : A.handled = none) (hit : s.heap.IsRevIter it l ((items.size : Int) - 1)) (hl : s.heap.IsList l items) (hne : l ≠ it) (hSi : S ≠ it) (hSl : S ≠ l) (hn : items.size ≤ sizeLine)
    (hS : s.heap.get? S = some { cls := .type "list", data := .seq #[] })
    (hR : ∀ s' acc c, Moved (S :: [it]) (fun g g' => g' = g) s s' → s'.heap.get? S = some { cls := .type "list", dict := none, data := .seq acc c, slots := #[] } → ItemsOf (fun i v => items[items.size - 1 - i]? = some v) acc items.size → R (.ok (.ret .none)) s') :
    wpAny (model prog w) A.in1 (Builtin.«list.__init__» ⟨[.ref S, .ref it], []⟩)
      (fun fin s' => match fin with | .done f => R (.ok f) s' | .again c' => c'.quiet = true ∧ codeAny (model prog w) A c' R s') (fun e s' => R (.error e) s') s := by
  have W := (Walks.listRev (prog := prog) (w := w) (A := A.in1) hh it l hne items).toS
  have hSf : S ∉ [it, l] := by simp [hSi, hSl]
  show wpAny _ A.in1 (do let old ← Builtin.List.listItems (.ref S); Builtin.List.listUpdate (.ref S) (fun _ => #[]); letGo old.toList.reverse; Builtin.List.listExtendWith (.ref S) (.ref it) .none) _ _ s
  refine wpAny_bind ?_
  unfold Builtin.List.listItems
  refine wpAny_bind (wpAny_seqItems hS rfl (wpAny_pure ?_))
  show wpAny _ A.in1 (updateSeq S (fun _ => #[]) >>= fun _ => letGo (#[] : Array Value).toList.reverse >>= fun _ => Builtin.List.listExtendWith (.ref S) (.ref it) .none) _ _ s
  refine wpAny_bind (wpAny_updateSeq hS rfl (wpAny_bind (wpAny_letGo ?_)))
  have hS₂ := Heap.get?_update_self (Obj.mapSeq (fun _ => (#[] : Array Value))) hS rfl
  have oth : ∀ b o, b ≠ S → s.heap.get? b = some o → (s.heap.update S (Obj.mapSeq (fun _ => (#[] : Array Value)))).get? b = some o :=
    fun b o hb e => (Heap.get?_update_other _ _ (Ne.symm hb)).trans e
  have hit2 : (s.heap.update S (Obj.mapSeq (fun _ => (#[] : Array Value)))).IsRevIter it l ((items.size : Int) - 1) := hit.at fun o e => oth it o (Ne.symm hSi) e
  have hl2 : (s.heap.update S (Obj.mapSeq (fun _ => (#[] : Array Value)))).IsList l items := by
    obtain ⟨o, e, q⟩ := hl
    exact ⟨o, oth l o (Ne.symm hSl) e, q⟩
  have hT : ({ s with heap := s.heap.update S (Obj.mapSeq (fun _ => (#[] : Array Value))) } : Shared).TypeIs (.ref it) "list_reverseiterator" := Heap.IsRevIter.typeIs (s := { s with heap := s.heap.update S (Obj.mapSeq (fun _ => (#[] : Array Value))) }) hit2
  have h1 : Builtin.List.listSameRef (.ref S) (.ref it) = false := by simp [Builtin.List.listSameRef, hSi]
  unfold Builtin.List.listExtendWith
  refine wpAny_bind (wpAny_typeOf hT ?_)
  rw [if_neg (by rw [h1]; decide)]
  refine wpAny_bind (wpAny_pyIter_revIter (s := { s with heap := s.heap.update S (Obj.mapSeq (fun _ => (#[] : Array Value))) }) hit2 ?_)
  refine wpAny_bind (wpAny_holding ?_)
  unfold Builtin.List.listLengthHint
  refine wpAny_bind (wpAny_specialOf hT RT.nolen_lri ?_)
  show wpAny _ A.in1 (specialOf (Value.ref it) (Str.ofString "__length_hint__") >>= _) _ _ _
  refine wpAny_bind (wpAny_specialOf hT RT.hint_lri ?_)
  generalize hid : ("list_reverseiterator.__length_hint__" : String) = id0
  wp_delta
  rw [show splitId id0 = some ("list_reverseiterator", "__length_hint__") from by subst hid; decide +kernel]
  subst hid
  refine wpAny_bind (wpAny_isInstance (b := true) hT (by rw [isSubtype_type]; kernel_rfl) (wpAny_pure ?_))
  rw [if_neg (by decide)]
  have e0 : ((items.size : Nat) : Int) - 1 - ((0 : Nat) : Int) = (items.size : Int) - 1 := by omega
  refine wpAny_pure ⟨plainId_quiet F.plain_extend_loop _, codeAny_extend_loopS W hn _ hSf _ items.size 0 _ _ _ rfl (Nat.zero_le _) ⟨Nat.zero_le _, by rw [e0]; exact hit2, hl2⟩ hS₂ (ItemsOf.nil _) fun s' acc' c' hm hS' hacc => ?_⟩
  have m0 : Moved [S, it] (fun g g' => g' = g) s { s with heap := s.heap.update S (Obj.mapSeq (fun _ => (#[] : Array Value))) } := (Moved.refl (wr := [S, it]) (G := fun g g' => g' = g) (fun g => rfl)).then_heap (Nat.le_refl _) fun b o hb e => oth b o (fun h => hb (by rw [h]; exact List.mem_cons_self)) e
  exact hR s' acc' c' (Moved.trans (fun a b c h1 h2 => h2.trans h1) m0 hm) hS' hacc
theorem call_list_back {it l : Addr} {items : Array Value} {Q : Value → Shared → Prop} (hh : A.handled = none) (hit : s.heap.IsRevIter it l ((items.size : Int) - 1)) (hl : s.heap.IsList l items) (hne : l ≠ it) (hn : items.size ≤ sizeLine)
    (hQ : ∀ (h' : Heap) (tk : Nat) (acc : Array Value) (c : Nat), (∀ b o, b ≠ it → s.heap.get? b = some o → h'.get? b = some o) → h'.get? s.heap.objs.size = some { cls := .type "list", dict := none, data := .seq acc c, slots := #[] } → ItemsOf (fun i v => items[items.size - 1 - i]? = some v) acc items.size → Q (.ref s.heap.objs.size) { s with heap := h', toks := tk }) :
    wpAny (model prog w) A (call (.type "list") [.ref it]) Q E s := by
  obtain ⟨oi, hoi, _⟩ := id hit
  obtain ⟨ol, hol, _⟩ := id hl
  refine callType_codes (Q₁ := fun obj s₁ => obj = .ref s.heap.objs.size ∧ s₁ = { s with heap := s.heap.push { cls := .type "list", data := .seq #[] } }) F.called_list (F.typeCall_list_1 _) F.entry_list_init
    (code_list_new _ ⟨rfl, rfl⟩) fun obj s₁ h₁ => ?_
  obtain ⟨rfl, rfl⟩ := h₁
  have hS : (s.heap.push { cls := .type "list", data := .seq #[] }).get? s.heap.objs.size = some { cls := .type "list", data := .seq #[] } := Heap.get?_push_size _ rfl
  refine ⟨⟨_, hS, rfl⟩, F.args_list_init_2 _ _, fill_back (A := A.in1) (s := { s with heap := s.heap.push { cls := .type "list", data := .seq #[] } }) hh (hit.at fun o e => Heap.get?_push_of_some _ e) (hl.push _) hne (Nat.ne_of_gt (Heap.lt_size hoi)) (Nat.ne_of_gt (Heap.lt_size hol)) hn hS fun s' acc c hm hS' hacc => ?_⟩
  refine ⟨rfl, ?_⟩
  rw [Moved.eq_with hm]
  refine hQ s'.heap s'.toks acc c (fun b o hb e => hm.heap b o (fun hmem => ?_) (Heap.get?_push_of_some _ e)) hS' hacc
  rcases List.mem_cons.mp hmem with e' | hmem
  · exact absurd (Heap.lt_size e) (by rw [e']; exact Nat.lt_irrefl _)
  · exact hb (List.mem_singleton.mp hmem)
end
/-- list(reversed(x)) -/
def dRev (te : TED) : TED := fun σ M K KX => te σ M (fun x M1 => onS (lsOf M1 x) fun xs => ∀ p, M1 p = none → K (.ref p) (up M1 p (.lst xs.reverse))) KX
theorem rev_vals {xs : List V} {its : List Value} {acc : Array Value} (r : Vals xs its) (h : ItemsOf (fun i v => its.toArray[its.toArray.size - 1 - i]? = some v) acc its.toArray.size) : Vals xs.reverse acc.toList := RT.vals_rev r h
section
variable {X : Cx} {W : WD}
theorem de_listRev {e : Expr} {te : TED} {p p2 pos pos2 : Pos} (hc : X.calm = true) (hg : Gl X "list") (hm : X.mg "list" = none) (hg2 : Gl X "reversed") (hm2 : X.mg "reversed" = none) (he : DE X W e te)
    (hs : starEach [e] X.env = (false, eval e X.env) :: starEach [] X.env) :
    DE X W (.Call (.Name "list" p) [.Call (.Name "reversed" p2) [e] [] pos2] [] pos) (dRev te) := by
  refine ⟨fun pins s σ H σD Z M K KX I rs z wi h => ?_⟩
  have hs2 : starEach [.Call (.Name "reversed" p2) [e] [] pos2] X.env = (false, eval (.Call (.Name "reversed" p2) [e] [] pos2) X.env) :: starEach [] X.env := rfl
  refine Call_ (ld_blt I hg hm boot_list (PyProof.Rows.callWith_type1 (args_cons (Call_ (ld_blt I hg2 hm2 PyProof.Rows.boot_reversed (PyProof.Rows.callWith_type1 (args_cons (thn (he.run pins s σ H σD Z M _ KX I rs z wi h) fun u s1 ⟨v, H1, I1, r1, x, M1, p1, k1, z1, q1⟩ => args_nil ?_) hs) hs rfl))) hs2) hs2 rfl))
  obtain ⟨xs, hx, q⟩ := onS_out q1
  obtain ⟨a, vs, rfl, rfl, sq, rp⟩ := lsOf_sql z1 p1 hx
  obtain rfl : u = Value.ref a := r1
  obtain ⟨its, rv, p', hz⟩ := I1.list sq
  refine call_reversed_list p'.isList (args_nil ?_)
  have k0 : ∀ b o, s1.heap.get? b = some o → (s1.heap.push (revObj a ((its.toArray.size : Int) - 1))).get? b = some o := fun b o e => Heap.get?_push_of_some _ e
  have I2 : Inv X pins σ H1 { s1 with heap := s1.heap.push (revObj a ((its.toArray.size : Int) - 1)) } := I1.kept (t' := s1.toks) k0
  obtain ⟨f0, f1, f2, f3, f4, f5⟩ := I1.fpOk (H' := H1) (b := s1.heap.objs.size) (Nat.le_refl _) (I1.hok.fresh (Nat.le_refl _))
  have hl := p'.isList
  obtain ⟨ol, hol, _⟩ := id hl
  have hne : a ≠ s1.heap.objs.size := Nat.ne_of_lt (Heap.lt_size hol)
  have hn : its.toArray.size ≤ sizeLine := by rw [List.size_toArray, ← rv.length]; exact hz
  refine call_list_back (s := { s1 with heap := s1.heap.push (revObj a ((its.toArray.size : Int) - 1)) }) (I1.ok.hd hc) ⟨_, Heap.get?_push_size _ rfl, rfl, rfl⟩ (hl.push _) hne hn fun h' tk acc c hk hS hi => ?_
  have e1 : ∀ b u, s1.heap.get? b = some u → h'.get? b = some u := fun b u e => hk b u (Nat.ne_of_lt (Heap.lt_size e)) (Heap.get?_push_of_some _ e)
  refine EP.back k1 (laid_list (s := s1) I1 z1 rp.reverse (Nat.le_of_lt (by simp [Heap.push])) e1 ⟨by rw [List.length_reverse]; exact hz, acc.toList, c, rev_vals rv hi, by rw [Array.toArray_toList]; exact hS⟩ q)
end
/-! ### a, b = b, a -/
def sPar (i j : Nat) (ta : TAD) : TSD := fun D σ M => ta σ M (fun ds M1 => match ds with
  | [v, w] => D.nx ((σ.set i (some v)).set j (some w)) M1
  | _ => False) (D.kx σ)
section
variable {X : Cx} {W : WD}
theorem ds_par {i j : Nat} {x y : Str} {a b : Expr} {ta : TAD} {px py pt pos : Pos} {kt k2 pt2} (hc : X.calm = true) (hN : X.N.Nodup) (hi : X.N[i]? = some x) (hj : X.N[j]? = some y) (hij : i ≠ j)
    (hx : X.env.scope.names.lookup x = some .local) (hy : X.env.scope.names.lookup y = some .local) (ha : DA X W [a, b] ta) (hst : [a, b].all notStar = true)
    (hw : swappedStores [.Tuple [.Name x px, .Name y py] kt pt] (.Tuple [a, b] k2 pt2) X.env = pure (some [x, y])) :
    DS1 X W (.Assign [.Tuple [.Name x px, .Name y py] kt pt] (.Tuple [a, b] k2 pt2) pos) (sPar i j ta) := by
  refine ⟨fun pins s σ H σD Z M D I rs z wi h => ?_⟩
  rw [exec_Assign_arm]
  refine wpAny_bind (wpAny_standAt ?_)
  rw [show swapsWithSole [.Tuple [.Name x px, .Name y py] kt pt] (.Tuple [a, b] k2 pt2) pos.line X.env = pure false from rfl]
  refine wpAny_bind (wpAny_pure ?_)
  rw [if_neg (by decide)]
  refine wpAny_bind (Tuple_ (ha.pa _ I rs z (wi.at rs) h fun us s1 vs H1 ds M1 I1 rv rp k1 z1 q1 => ?_))
  split at q1
  · rename_i v w
    obtain ⟨vv, wv, u1, u2, e1, e2, r1, r2, r3, r4⟩ : ∃ vv wv u1 u2, vs = [vv, wv] ∧ us = [u1, u2] ∧ Rep H1 v vv ∧ Rep H1 w wv ∧ L2.RelV vv u1 ∧ L2.RelV wv u2 := by
      cases rp with
      | cons a1 b1 =>
        cases b1 with
        | cons a2 b2 =>
          cases b2
          cases rv with
          | cons c1 d1 =>
            cases d1 with
            | cons c2 d2 =>
              cases d2
              exact ⟨_, _, _, _, rfl, rfl, a1, a2, c1, c2⟩
    subst e1
    subst e2
    refine wpAny_newObj_type ?_ (by show 2 ≤ sizeLine; decide)
    have I2 : Inv X pins σ H1 { s1 with heap := s1.heap.push { cls := .type "tuple", data := .seq [u1, u2].toArray } } := I1.kept (t' := s1.toks) fun b o e => Heap.get?_push_of_some _ e
    rw [hw]
    refine wpAny_bind (wpAny_pure ?_)
    show wpAny (model X.prog X.w) X.A (do rule "assign.swapped-stores"; let items ← unpackItems (.ref s1.heap.objs.size) 2 none; assignInOrder [fun v => bindName X.env y v, fun v => bindName X.env x v] items.reverse; pure Flow.next) _ _ _
    refine wpAny_bind (wpAny_rule (wpAny_bind (unpackItems_tuple (items := #[u1, u2]) (I.ok.hd hc) (IsTup.new s1.heap _) fun h' hx' => ?_)))
    have I3 := I2.kept (h' := h') (t' := s1.toks) fun b o e => hx' b o (Nat.ne_of_lt (Heap.lt_size e)) e
    show wpAny _ _ (assignInOrder [fun v => bindName X.env y v, fun v => bindName X.env x v] [u2, u1] >>= fun _ => pure Flow.next) _ _ _
    refine wpAny_bind (assignInOrder_cons (wpAny_bindName (store_ok I3 hN hj (.inl hy) r4 (fun s2 I4 => ?_) (.inr hy))))
    refine assignInOrder_cons (wpAny_bindName (store_ok I4 hN hi (.inl hx) r3 (fun s3 I5 => assignInOrder_nil (wpAny_pure ?_)) (.inr hx)))
    rw [List.set_comm _ _ (Ne.symm hij)] at I5
    exact ⟨_, H1, I5, _, M1, ((rs.keep k1).set r1).set r2, k1, z1, q1⟩
  · exact q1.elim
/-! ### t[k], u[j] = .. -/
def gSub2 (to ti to2 ti2 : TED) : TGD := fun d σ M K KX => onS (sqOf M d) fun ds => match ds with
  | [x, y] => to σ M (fun o M1 => ti σ M1 (fun i M2 => setD o i x M2 fun M3 => to2 σ M3 (fun o2 M4 => ti2 σ M4 (fun i2 M5 => setD o2 i2 y M5 (K σ)) KX) KX) KX) KX
  | _ => False
theorem sub_run (rm : Rm X) {o i : Expr} {to ti : TED} {pos : Pos} (ho : DE X W o to) (hi : DE X W i ti) (hn : notSlice i = true) {pins : List (Addr × Obj)} {s : Shared} {σ : L2.St} {H : Hp} {σD : DSt} {Z : Hp} {M : Mem} {d : D} {v : V} {u : Value} {K : Mem → Prop} {KX : DX} {Q : Unit → Shared → Prop}
    (I : Inv X pins σ H s) (rs : RS H σD σ) (z : AbsZ X.prog X.w X.K Z M H) (wi : Wish X.prog X.w X.K W σ H Z KX) (r : Rep H d v) (rv : L2.RelV v u) (h : to σD M (fun o M1 => ti σD M1 (fun i M2 => setD o i d M2 K) KX) KX)
    (hQ : ∀ s' H' M', Inv X pins σ H' s' → Keep H H' → AbsZ X.prog X.w X.K Z M' H' → K M' → Q () s') : wpAny (model X.prog X.w) X.A (assign (.Subscript o i pos) X.env u) Q X.xe s := by
  have ha : ∀ v, assign (.Subscript o i pos) X.env v = (do
      let ov ← holding [v] (eval o X.env)
      let iv ← holding [v, ov] (eval i X.env)
      standAt pos
      holding [v, ov, iv] (setItem ov iv v)
      release [v, ov, iv] []) := by
    intro v
    cases i <;> first | rfl | cases hn
  rw [ha]
  refine wpAny_bind (wpAny_holding (thn (ho.run pins s σ H σD Z M _ KX I rs z wi h) fun ov s1 ⟨x, H1, I1, r1, xd, M1, p1, k1, z1, q1⟩ => ?_))
  refine wpAny_bind (wpAny_holding (thn (hi.run pins s1 σ H1 σD Z M1 _ KX I1 (rs.keep k1) z1 (wi.keep k1) q1) fun iv s2 ⟨y, H2, I2, r2, yd, M2, p2, k2, z2, q2⟩ => ?_))
  refine wpAny_bind (wpAny_standAt (wpAny_bind (wpAny_holding (thn (set_ok rm I2 z2 (p1.keep k2) p2 (r.keep (k1.trans k2)) r1 r2 rv q2) fun _ s3 ⟨H3, M3, I3, k3, z3, q3⟩ => ?_))))
  exact wpAny_release (hQ s3 H3 M3 I3 ((k1.trans k2).trans k3) z3 q3)
theorem dg_sub2 (rm : Rm X) {o i o2 i2 : Expr} {to ti to2 ti2 : TED} {k : Nat} {pos p1 p2 : Pos} (ho : DE X W o to) (hi : DE X W i ti) (hn : notSlice i = true) (ho2 : DE X W o2 to2) (hi2 : DE X W i2 ti2) (hn2 : notSlice i2 = true) :
    DG X W (.Tuple [.Subscript o i p1, .Subscript o2 i2 p2] k pos) (gSub2 to ti to2 ti2) := by
  refine ⟨fun pins s σ H σD Z M d v u K KX I rs z wi r rv h => ?_⟩
  obtain ⟨ds, hd, q⟩ := onS_out h
  obtain ⟨a, vs, rfl, rfl, sq, rp⟩ := sqOf_val I z hd r rv
  split at q
  · rename_i x y
    have fin : ∀ (s1 : Shared) (its : List Value), Inv X pins σ H s1 → Vals vs its → wpAny (model X.prog X.w) X.A (assignInOrder ((assignEach [.Subscript o i p1, .Subscript o2 i2 p2] X.env).map (·.2)) its) (fun _ s' => ∃ σ' H', Inv X pins σ' H' s' ∧ liftG X.prog X.w X.K H Z K σ' H') X.xe s1 := by
      intro s1 its I1 rvs
      cases rp with
      | cons a1 b1 =>
        cases b1 with
        | cons a2 b2 =>
          cases b2
          cases rvs with
          | cons c1 d1 =>
            cases d1 with
            | cons c2 d2 =>
              cases d2
              refine assignInOrder_cons (sub_run rm ho hi hn I1 rs z wi a1 c1 q fun s2 H2 M2 I2 k2 z2 q2 => assignInOrder_cons (sub_run rm ho2 hi2 hn2 I2 (rs.keep k2) z2 (wi.keep k2) (a2.keep k2) c2 q2 fun s3 H3 M3 I3 k3 z3 q3 => assignInOrder_nil ?_))
              exact ⟨σ, H3, I3, σD, M3, rs.keep (k2.trans k3), k2.trans k3, z3, q3⟩
    have l1 := rp.length
    rcases sq with sq | sq
    · obtain ⟨its, rvs, ht, hz⟩ := I.list sq
      have hl2 := rvs.length
      have hsz : (assignEach [.Subscript o i p1, .Subscript o2 i2 p2] X.env).length = its.toArray.size := by
        rw [List.size_toArray, ← hl2, ← l1]; rfl
      rw [PyProof.Rows.assign_Tuple]
      refine wpAny_bind (wpAny_standAt ?_)
      unfold unpack
      rw [hsz, show (assignEach [.Subscript o i p1, .Subscript o2 i2 p2] X.env).findIdx? (·.1) = none from rfl]
      refine wpAny_bind (wpAny_holding (PySem.W.kun_itemsOf (I.ok.hd rm.calm) ht.isList fun h' hx => ?_))
      have I1 : Inv X pins σ H { s with heap := h' } := I.kept (t' := s.toks) fun b o e => hx b o (Nat.ne_of_lt (Heap.lt_size e)) e
      exact fin _ _ I1 (by simpa using rvs)
    · obtain ⟨its, rvs, ht, hz⟩ := I.tuple sq
      refine assign_Tuple_tuple (I.ok.hd rm.calm) ht (by rw [List.size_toArray, ← rvs.length, ← l1]; rfl) rfl fun h' hx => ?_
      have I1 : Inv X pins σ H { s with heap := h' } := I.kept (t' := s.toks) fun b o e => hx b o (Nat.ne_of_lt (Heap.lt_size e)) e
      exact fin _ _ I1 (by simpa using rvs)
  · exact q.elim
end
end DL
/-! # The D-layer: own classes -/
namespace DL
open PySem PySem.Spec PyProof.Rows L2
/-! ### attributes -/
def putD (f : Str) (v : D) : List (Str × D) → List (Str × D)
  | [] => [(f, v)]
  | (g, x) :: r => if g = f then (g, v) :: r else (g, x) :: putD f v r
section
variable {P : Program} {w : World} {K : PySem.W.Frag} {H : Hp}
theorem fld_look {f : Str} : ∀ {fs : List (Str × D)} {gs : List (Str × V)}, Paired (fun (a : Str × D) (b : Str × V) => a.1 = b.1 ∧ Rep H a.2 b.2) fs gs →
    (∀ d, fs.lookup f = some d → ∃ v, gs.lookup f = some v ∧ Rep H d v) ∧ (fs.lookup f = none → gs.lookup f = none)
  | _, _, .nil => ⟨(fun _ h => by cases h), fun _ => rfl⟩
  | (a, x) :: fs, (b, y) :: gs, .cons r t => by
    obtain ⟨e, r⟩ := r
    have e : a = b := e
    subst e
    obtain ⟨h1, h2⟩ := fld_look (f := f) t
    by_cases q : f = a
    · subst q
      refine ⟨fun d h => ?_, fun h => ?_⟩
      · simp only [List.lookup_cons, beq_self_eq_true] at h
        cases h
        exact ⟨y, by simp [List.lookup_cons], r⟩
      · simp [List.lookup_cons] at h
    · have q' : (f == a) = false := by simpa using q
      refine ⟨fun d h => ?_, fun h => ?_⟩
      · simp only [List.lookup_cons, q'] at h ⊢
        exact h1 d h
      · simp only [List.lookup_cons, q'] at h ⊢
        exact h2 h
theorem fld_put {f : Str} {d : D} {v : V} (r : Rep H d v) : ∀ {fs : List (Str × D)} {gs : List (Str × V)}, Paired (fun (a : Str × D) (b : Str × V) => a.1 = b.1 ∧ Rep H a.2 b.2) fs gs →
    Paired (fun (a : Str × D) (b : Str × V) => a.1 = b.1 ∧ Rep H a.2 b.2) (putD f d fs) (putF f v gs)
  | _, _, .nil => .cons ⟨rfl, r⟩ .nil
  | (a, x) :: fs, (b, y) :: gs, .cons q t => by
    obtain ⟨e, q⟩ := q
    have e : a = b := e
    subst e
    unfold putD putF
    by_cases z : a = f
    · rw [if_pos z, if_pos z]; exact .cons ⟨rfl, r⟩ t
    · rw [if_neg z, if_neg z]; exact .cons ⟨rfl, q⟩ (fld_put r t)
end
/-- an instance, by its value -/
def insOf (M : Mem) (x : D) : Option (Addr × Str × List (Str × D)) := match x with
  | .ref a => match M a with
    | some (.ins C fs) => some (a, C, fs)
    | _ => none
  | _ => none
theorem insOf_out {M : Mem} {x : D} {a : Addr} {C : Str} {fs : List (Str × D)} (h : insOf M x = some (a, C, fs)) : x = .ref a ∧ M a = some (.ins C fs) := by
  unfold insOf at h
  split at h
  · split at h
    · rename_i e
      cases h
      exact ⟨rfl, e⟩
    · cases h
  · cases h
/-- o.f -/
def dFld (ok : Str → Bool) (te : TED) (f : Str) : TED := fun σ M K KX => te σ M (fun x M1 => onS (insOf M1 x) fun p => ok p.2.1 = true ∧ onS (p.2.2.lookup f) fun d => K d M1) KX
section
variable {X : Cx} {W : WD}
theorem de_fld {ok : Str → Bool} {e : Expr} {te : TED} {f : Str} {pos : Pos} (he : DE X W e te) (hok : ∀ C, ok C = true → Cls X.K (He.ga X.K C) ∧ NoAttr X.K (He.ga X.K C) f) (hb : attributeBase e f X.env (eval e X.env) = eval e X.env) :
    DE X W (.Attribute e f pos) (dFld ok te f) := by
  refine ⟨fun pins s σ H σD Z M K KX I rs z wi h => ?_⟩
  refine attr_of hb (thn (he.run pins s σ H σD Z M _ KX I rs z wi h) fun u s1 ⟨v, H1, I1, r1, x, M1, p1, k1, z1, q1⟩ => ?_)
  obtain ⟨⟨a, C, fs⟩, hi, hC, q2⟩ := onS_out q1
  obtain ⟨d, hd, q⟩ := onS_out q2
  obtain ⟨rfl, hm⟩ := insOf_out hi
  obtain ⟨dx, vs, hH, pr⟩ := z1.mem a _ hm
  cases p1
  obtain rfl : u = Value.ref a := r1
  obtain ⟨c, n⟩ := hok C hC
  obtain ⟨y, hy, ry⟩ := (fld_look pr).1 d hd
  exact getattr_ok I1 hH c n hy fun u' s2 I2 ru => ⟨y, H1, I2, ru, d, M1, ry, k1, z1, q⟩
/-- o.f = value -/
def sFldD (ok : Str → Bool) (tv to : TED) (f : Str) : TSD := fun D σ M => tv σ M (fun y M1 => to σ M1 (fun x M2 => onS (insOf M2 x) fun p => ok p.2.1 = true ∧ p.2.2.length < 1000 ∧ D.nx σ (up M2 p.1 (.ins p.2.1 (putD f y p.2.2)))) (D.kx σ)) (D.kx σ)
theorem ds_fld {ok : Str → Bool} {o value : Expr} {to tv : TED} {f : Str} {pos pos' : Pos} (hv : DE X W value tv) (ho : DE X W o to) (hok : ∀ C, ok C = true → Cls X.K (He.ga X.K C) ∧ NoAttr X.K (He.ga X.K C) f)
    (hs : swapsWith value (some (.Attribute o f pos')) pos.line X.env = pure false) : DS1 X W (.Assign [.Attribute o f pos'] value pos) (sFldD ok tv to f) := by
  refine ⟨fun pins s σ H σD Z M D I rs z wi h => ?_⟩
  refine plainObj_wpAny_Assign_Attribute (thn (hv.run pins s σ H σD Z M _ _ I rs z (wi.at rs) h) fun u s1 ⟨yv, H1, I1, ry, y, M1, p1, k1, z1, q1⟩ => thn (ho.run pins s1 σ H1 σD Z M1 _ _ I1 (rs.keep k1) z1 ((wi.at rs).keep k1) q1) fun ov s2 ⟨xv, H2, I2, rx, x, M2, p2, k2, z2, q2⟩ => ?_) hs
  obtain ⟨⟨a, C, fs⟩, hi, hC, hl, q⟩ := onS_out q2
  obtain ⟨rfl, hm⟩ := insOf_out hi
  obtain ⟨dx, vs, hH, pr⟩ := z2.mem a _ hm
  cases p2
  obtain rfl : ov = Value.ref a := rx
  obtain ⟨c, n⟩ := hok C hC
  have pl := Paired.length pr
  have hl : fs.length < 1000 := hl
  refine setattr_ok I2 hH c n (by omega) ry fun s3 I3 => ?_
  have mu : Mut (H2 a) := by rw [hH]; trivial
  have k3 := mut_keep (u := .ins (He.ga X.K C) dx (putF f yv vs)) mu
  have pr' := fld_put (f := f) (p1.keep k2) pr
  exact ⟨σ, _, I3, σD, _, rs.keep ((k1.trans k2).trans k3), (k1.trans k2).trans k3, z2.set (o' := .ins C (putD f y fs)) hm rfl ⟨dx, _, upd_same, Paired.imp pr' fun _ _ q => ⟨q.1, q.2.keep k3⟩⟩, q⟩
end
/-! ### methods -/
/-- what a method promises: it and a class, a plain def -/
structure MthE (P : Program) (w : World) (K : PySem.W.Frag) (mg : Str → Option Value) (base : Heap) (k : Nat) (C m : Str) (n : Nat) (sp : DSp) : Prop where
  cls : Cls K (He.ga K C)
  mth : Meth K (He.ga K C) m (He.ma K (He.ga K C) m)
  fn : ∃ fd ps, ps.length = n ∧ FnOk P w K mg base (L2.CX P w) k (He.ma K (He.ga K C) m) fd ps (toSp P w K ps.length sp) ∧ Binds K fd ps []
/-- o.m(..) of an instance -/
def dMC (mt : Str → Option (Nat × DSp)) (m : Str) (to : TED) (ta : TAD) : TED := fun σ M K KX => to σ M (fun x M1 => onS (insOf M1 x) fun p => p.2.2.lookup m = none ∧ onS (mt p.2.1) fun q => ta σ M1 (fun ds M2 => (D.ref p.1 :: ds).length = q.1 ∧ q.2 (D.ref p.1 :: ds) M2 K KX) KX) KX
section
variable {X : Cx} {W : WD} {k : Nat}
theorem de_mc {mt : Str → Option (Nat × DSp)} {o e : Expr} {es : List Expr} {m : Str} {to : TED} {ta : TAD} {apos pos : Pos} {pl : Sem Bool} (ho : DE X W o to) (ha : DA X W (e :: es) ta)
    (hmt : ∀ C n sp, mt C = some (n, sp) → MthE X.prog X.w X.K X.mg X.base k C m n sp) (hr : Room k X.A) (tk : Takes X (WXW X.K W))
    (hst : starEach (e :: es) X.env = (false, eval e X.env) :: starEach es X.env) (hpl : (backTo pos (starEach es X.env)).any (·.1) = false)
    (ht : eval (.Call (.Attribute o m apos) (e :: es) [] pos) X.env = (do
      let ov ← eval o X.env
      standAt apos.atName
      let (f, first) ← holding [ov] (getMethod ov m pl)
      callWith pos f first (backTo pos (starEach (e :: es) X.env)) (backToKw pos (keywordEach [] X.env)))) :
    DE X W (.Call (.Attribute o m apos) (e :: es) [] pos) (dMC mt m to ta) := by
  refine ⟨fun pins s σ H σD Z M K KX I rs z wi h => ?_⟩
  refine PySem.W.methodCall_KW (pl := pl) (thn (ho.run pins s σ H σD Z M _ KX I rs z wi h) fun u s1 ⟨xv, H1, I1, rx, x, M1, p1, k1, z1, q1⟩ => ?_) ht
  obtain ⟨⟨a, C, fs⟩, hi, hno, q2⟩ := onS_out q1
  obtain ⟨⟨n, sp⟩, hsp, q⟩ := onS_out q2
  obtain ⟨rfl, hm⟩ := insOf_out hi
  obtain ⟨dx, vs, hH, pr⟩ := z1.mem a _ hm
  cases p1
  obtain rfl : u = Value.ref a := rx
  obtain ⟨c, mm, fd, ps, rfl, F, hb⟩ := hmt C n sp hsp
  refine getmeth_ok I1 hH c mm ((fld_look pr).2 hno) ?_
  refine PySem.W.callWith_K (first := [.ref a]) (h₀ := X.base) I.ok.mod.kin mm.kp (ha.pa pos I1 (rs.keep k1) z1 (wi.keep k1) q fun us s2 ws H2 ds M2 I2 r2 p2 k2 z2 q3 => ⟨I2.kIn, ?_⟩) hst hpl
  obtain ⟨hl, q3⟩ := q3
  exact thn (run_d (as := D.ref a :: ds) (us := Value.ref a :: us) (vs := V.ref a :: ws) (dvs := []) (dvv := []) (ds := []) F hr hb .nil (fun _ => .nil) tk (by rw [List.append_nil]; exact hl) I2 (.cons rfl r2) (.cons (.ref a) p2) z2 (wi.keep (k1.trans k2)) (by rw [List.append_nil]; exact q3)) fun _ _ e => EP.back (k1.trans k2) e
theorem de_mc0 {mt : Str → Option (Nat × DSp)} {o : Expr} {m : Str} {to : TED} {apos pos : Pos} {pl : Sem Bool} (ho : DE X W o to)
    (hmt : ∀ C n sp, mt C = some (n, sp) → MthE X.prog X.w X.K X.mg X.base k C m n sp) (hr : Room k X.A) (tk : Takes X (WXW X.K W))
    (ht : eval (.Call (.Attribute o m apos) [] [] pos) X.env = (do
      let ov ← eval o X.env
      standAt apos.atName
      let (f, first) ← holding [ov] (getMethod ov m pl)
      callWith pos f first (backTo pos (starEach [] X.env)) (backToKw pos (keywordEach [] X.env)))) :
    DE X W (.Call (.Attribute o m apos) [] [] pos) (dMC mt m to aNil) := by
  refine ⟨fun pins s σ H σD Z M K KX I rs z wi h => ?_⟩
  refine PySem.W.methodCall_KW (pl := pl) (thn (ho.run pins s σ H σD Z M _ KX I rs z wi h) fun u s1 ⟨xv, H1, I1, rx, x, M1, p1, k1, z1, q1⟩ => ?_) ht
  obtain ⟨⟨a, C, fs⟩, hi, hno, q2⟩ := onS_out q1
  obtain ⟨⟨n, sp⟩, hsp, q⟩ := onS_out q2
  obtain ⟨rfl, hm⟩ := insOf_out hi
  obtain ⟨dx, vs, hH, pr⟩ := z1.mem a _ hm
  cases p1
  obtain rfl : u = Value.ref a := rx
  obtain ⟨c, mm, fd, ps, rfl, F, hb⟩ := hmt C n sp hsp
  obtain ⟨hl, q3⟩ := q
  refine getmeth_ok I1 hH c mm ((fld_look pr).2 hno) ?_
  exact PySem.W.callWith_K0 (first := [.ref a]) I1.kIn mm.kp (thn (run_d (as := [D.ref a]) (us := [Value.ref a]) (vs := [V.ref a]) (dvs := []) (dvv := []) (ds := []) F hr hb .nil (fun _ => .nil) tk (by rw [List.append_nil]; exact hl) I1 (.cons (show L2.RelV (V.ref a) (Value.ref a) from rfl) .nil) (.cons (.ref a) .nil) z1 (wi.keep k1) (by rw [List.append_nil]; exact q3)) fun _ _ e => EP.back k1 e)
end
/-! ### new instances -/
section
variable {X : Cx} {W : WD} {k : Nat}
/-- two addresses taken, one of them told -/
theorem made_abs {H Z : Hp} {M : Mem} {C : Str} {x dx : Addr} (z : AbsZ X.prog X.w X.K Z M H) (hx : H x = none) (hd : H dx = none) (hk : X.K.lookup dx = none) (hne : dx ≠ x) : Keep H (upd (upd H dx (.own x)) x (.ins (He.ga X.K C) dx [])) ∧ AbsZ X.prog X.w X.K Z (up M x (.ins C [])) (upd (upd H dx (.own x)) x (.ins (He.ga X.K C) dx [])) := by
  have h2 : (upd H dx (.own x)) x = none := by rw [upd_ne (Ne.symm hne)]; exact hx
  have kd : Keep H (upd H dx (.own x)) := new_keep hd
  have z1 : AbsZ X.prog X.w X.K Z M (upd H dx (.own x)) := by
    refine ⟨fun b v e => ?_, fun b v e => ?_, z.dj⟩
    · have r := z.mem b v e
      have hb : b ≠ dx := fun q => by
        subst q
        exact r.there hd hk
      exact r.keep kd (upd_ne hb)
    · have hb : b ≠ dx := fun q => by subst q; rw [z.fr b v e] at hd; cases hd
      rw [upd_ne hb]
      exact z.fr b v e
  exact ⟨kd.trans (new_keep h2), z1.add (o := .ins C []) h2 ⟨dx, [], upd_same, .nil⟩⟩
/-- C(..): a new instance, then its __init__ -/
def dMk (C : Str) (n : Nat) (sp : DSp) (ta : TAD) : TED := fun σ M K KX => ta σ M (fun ds M1 => ds.length + 1 = n ∧ ∀ p, M1 p = none → sp (D.ref p :: ds) (up M1 p (.ins C [])) (fun d M2 => d = .non ∧ K (.ref p) M2) fun _ _ => False) KX
/-- C(), no __init__ -/
def dMk0 (C : Str) : TED := fun _ M K _ => ∀ p, M p = none → K (.ref p) (up M p (.ins C []))
/-- what a class with an own __init__ must have -/
structure MkE (P : Program) (w : World) (K : PySem.W.Frag) (mg : Str → Option Value) (base : Heap) (k : Nat) (C : Str) (n : Nat) (sp : DSp) : Prop where
  cls : Mk K (He.ga K C) (He.ma K (He.ga K C) "__init__")
  at_ : mg C = some (.ref (He.ga K C))
  fn : ∃ fd ps, ps.length = n ∧ FnOk P w K mg base (L2.CX P w) k (He.ma K (He.ga K C) "__init__") fd ps (toSp P w K ps.length sp) ∧ Binds K fd ps []
/-- .. with object's -/
structure Mk0E (K : PySem.W.Frag) (mg : Str → Option Value) (C : Str) : Prop where
  makes : PySem.W.makesIn K (He.ga K C) = true
  init : PySem.W.findIn K (.ref (He.ga K C)) "__init__" = some (some (.builtin "object.__init__"))
  kp : PySem.W.keepIn K (.ref (He.ga K C)) = true
  at_ : mg C = some (.ref (He.ga K C))
theorem run_mk {n : Nat} {C : Str} {sp : DSp} {pins : List (Addr × Obj)} {s : Shared} {σ : L2.St} {H Z : Hp} {M : Mem} {us : List Value} {vs : List V} {as : List D} {K : DK} (E : MkE X.prog X.w X.K X.mg X.base k C n sp) (hr : Room (k + 1) X.A)
    (I : Inv X pins σ H s) (r : Vals vs us) (rp : Reps H as vs) (z : AbsZ X.prog X.w X.K Z M H) (hl : as.length + 1 = n) (h : ∀ p, M p = none → sp (D.ref p :: as) (up M p (.ins C [])) (fun d M2 => d = .non ∧ K (.ref p) M2) fun _ _ => False) :
    wpAny (model X.prog X.w) X.A (call (.ref (He.ga X.K C)) us) (EP X pins σ (lift X.prog X.w X.K H Z K)) X.xe s := by
  obtain ⟨mk, _, fd, ps, rfl, F, hb⟩ := E
  have hx : H (s.heap.objs.size + 1) = none := I.hok.fresh (Nat.le_succ _)
  have hd : H s.heap.objs.size = none := I.hok.fresh (Nat.le_refl _)
  have hk := nk_new I (Nat.le_refl _)
  have hMx : M (s.heap.objs.size + 1) = none := z.nope hx (nk_new I (Nat.le_succ _))
  have I2 := Inv.made (C := He.ga X.K C) I
  obtain ⟨k1, z1⟩ := made_abs (C := C) z hx hd hk (Nat.ne_of_lt (Nat.lt_succ_self _))
  have r2 : Vals (V.ref (s.heap.objs.size + 1) :: vs) (Value.ref (s.heap.objs.size + 1) :: us) := .cons rfl r
  have p2 : Reps (upd (upd H s.heap.objs.size (.own (s.heap.objs.size + 1))) (s.heap.objs.size + 1) (.ins (He.ga X.K C) s.heap.objs.size [])) (D.ref (s.heap.objs.size + 1) :: as) (V.ref (s.heap.objs.size + 1) :: vs) := .cons (.ref _) (rp.keep k1)
  have hq : toSp X.prog X.w X.K ps.length sp (V.ref (s.heap.objs.size + 1) :: vs) (upd (upd H s.heap.objs.size (.own (s.heap.objs.size + 1))) (s.heap.objs.size + 1) (.ins (He.ga X.K C) s.heap.objs.size []))
      (fun v H2 => v = .non ∧ ∃ M', Keep H H2 ∧ AbsZ X.prog X.w X.K Z M' H2 ∧ K (.ref (s.heap.objs.size + 1)) M') (fun _ _ _ => False) := by
    refine ⟨by rw [← p2.length]; exact hl, Z, _, _, _, _, z1, p2, h _ hMx, fun v H' q => ?_, fun _ _ _ q => q.elim⟩
    obtain ⟨d, M', rd, k', z', e, q'⟩ := q
    subst e
    cases rd
    exact ⟨rfl, M', k1.trans k', z', q'⟩
  refine wpAny_call (make_map (f := He.ma X.K (He.ga X.K C) "__init__") I.kIn mk.makes mk.init (beq_iff_eq.mp mk.fn) (codeAny_mono (F.run _ X.stack _ _ ⟨Value.ref (s.heap.objs.size + 1) :: us, []⟩ (Value.ref (s.heap.objs.size + 1) :: us) _ _ (fun _ _ _ => False) (hr.make _ us [])
    (I2.env0.make _ us []) (by have := hb _ (Value.ref (s.heap.objs.size + 1) :: us) I2.kIn (by rw [List.append_nil, ← r2.length, F.len _ _ _ _ hq]); rwa [List.append_nil] at this) r2 hq) fun rr s' hq' => ?_))
  cases rr with
  | error e =>
    obtain ⟨_, _, _, _, _, _, _, _, _, _, _, _, hE⟩ := hq'
    exact hE.elim
  | ok fl =>
    cases fl with
    | ret u =>
      obtain ⟨v, H', I3, rv, ev, M', k3, z3, q3⟩ := I2.after hq'
      subst ev
      exact ⟨rv, ⟨V.ref (s.heap.objs.size + 1), H', I3, rfl, D.ref _, M', .ref _, k3, z3, q3⟩⟩
    | next => exact False.elim hq'
    | brk => exact False.elim hq'
    | cont => exact False.elim hq'
theorem de_mk {n : Nat} {C : Str} {sp : DSp} {p pos : Pos} {e : Expr} {es : List Expr} {ta : TAD} (E : MkE X.prog X.w X.K X.mg X.base k C n sp) (hr : Room (k + 1) X.A) (hg : Gl X C) (ha : DA X W (e :: es) ta) (hdb : (C == ("__debug__" : Str)) = false)
    (he : starEach (e :: es) X.env = (false, eval e X.env) :: starEach es X.env) (hpl : (backTo pos (starEach es X.env)).any (·.1) = false) : DE X W (.Call (.Name C p) (e :: es) [] pos) (dMk C n sp ta) := by
  refine ⟨fun pins s σ H σD Z M K KX I rs z wi h => ?_⟩
  refine wpAny_Call_Name_kw (ld_glob I hg E.at_ ?_ hdb)
  refine PySem.W.callWith_K (h₀ := X.base) I.ok.mod.kin E.cls.kp (ha.pa pos I rs z wi h fun us s1 vs H1 as M1 I1 r1 p1 k1 z1 q1 => ⟨I1.kIn, ?_⟩) he hpl
  exact thn (run_mk E hr I1 r1 p1 z1 q1.1 q1.2) fun _ _ e => EP.back k1 e
theorem run_mk0 {C : Str} {pins : List (Addr × Obj)} {s : Shared} {σ : L2.St} {H Z : Hp} {M : Mem} {K : DK} (E : Mk0E X.K X.mg C) (I : Inv X pins σ H s) (z : AbsZ X.prog X.w X.K Z M H) (h : ∀ p, M p = none → K (.ref p) (up M p (.ins C []))) :
    wpAny (model X.prog X.w) X.A (call (.ref (He.ga X.K C)) []) (EP X pins σ (lift X.prog X.w X.K H Z K)) X.xe s := by
  have hx : H (s.heap.objs.size + 1) = none := I.hok.fresh (Nat.le_succ _)
  have hd : H s.heap.objs.size = none := I.hok.fresh (Nat.le_refl _)
  have hMx : M (s.heap.objs.size + 1) = none := z.nope hx (nk_new I (Nat.le_succ _))
  have I2 := Inv.made (C := He.ga X.K C) I
  obtain ⟨k1, z1⟩ := made_abs (C := C) z hx hd (nk_new I (Nat.le_refl _)) (Nat.ne_of_lt (Nat.lt_succ_self _))
  refine wpAny_call (make_map0 I.kIn E.makes E.init (fun self => PySem.W.Looks.of_pure (PySem.W.oi_bind self)) ?_)
  have Y := PySem.W.makes_of (M := model X.prog X.w) I.kIn E.makes
  have e2 : ((s.heap.push PySem.W.emptyDict).push (PySem.W.instObj (He.ga X.K C) s.heap.objs.size)).get? (s.heap.objs.size + 1) = some (PySem.W.instObj (He.ga X.K C) s.heap.objs.size) := by
    have := Heap.get?_push_size (s.heap.push PySem.W.emptyDict) (o := PySem.W.instObj (He.ga X.K C) s.heap.objs.size) rfl
    rwa [Heap.size_push] at this
  have t1 : PySem.W.Looks (model X.prog X.w) ((s.heap.push PySem.W.emptyDict).push (PySem.W.instObj (He.ga X.K C) s.heap.objs.size)) (typeOf (.ref (s.heap.objs.size + 1))) (.ref (He.ga X.K C)) := (PySem.W.Looks.ld e2).andThen .now
  have t2 : PySem.W.Looks (model X.prog X.w) ((s.heap.push PySem.W.emptyDict).push (PySem.W.instObj (He.ga X.K C) s.heap.objs.size)) (isInstance (.ref (s.heap.objs.size + 1)) (.type "object")) true := t1.andThen (Y.top.keeps fun b o e => Heap.get?_push_of_some _ (Heap.get?_push_of_some _ e))
  refine codeAny_call_builtin PySem.W.oi_plain PySem.W.entry_oi (@PySem.W.check_slot (model X.prog X.w) _ _ _ "object.__init__" "object" "__init__" (.ref (s.heap.objs.size + 1)) [] [] _ PySem.W.oi_kind PySem.W.oi_split t2 (PySem.W.oi_args (.ref (s.heap.objs.size + 1))) ?_)
  rw [PySem.W.oi_run]
  exact wpAny_pure ⟨rfl, ⟨V.ref (s.heap.objs.size + 1), _, I2, rfl, D.ref _, _, .ref _, k1, z1, h _ hMx⟩⟩
theorem de_mk0 {C : Str} {p pos : Pos} (E : Mk0E X.K X.mg C) (hg : Gl X C) (hdb : (C == ("__debug__" : Str)) = false) : DE X W (.Call (.Name C p) [] [] pos) (dMk0 C) := by
  refine ⟨fun pins s σ H σD Z M K KX I rs z wi h => ?_⟩
  refine wpAny_Call_Name_kw (ld_glob I hg E.at_ ?_ hdb)
  exact PySem.W.callWith_K0 I.kIn E.kp (run_mk0 E I z h)
end
/-! ### isinstance(o, C) of an instance -/
def dIsC (is : Str → Option Bool) (te : TED) : TED := fun σ M K KX => te σ M (fun x M1 => onS (insOf M1 x) fun p => onS (is p.2.1) fun b => K (.bl b) M1) KX
/-- what isinstance asks of an instance's class -/
structure IscE (K : PySem.W.Frag) (C T : Str) (b : Bool) : Prop where
  cl : Cls K (He.ga K C)
  ha : PySem.W.findIn K (.ref (He.ga K C)) "__class__" = some (some (.builtin "object.__class__"))
  hn : PySem.W.specialIn K (.builtin "object.__class__") "__get__" = some (some (.builtin "getset_descriptor.__get__"))
  htk : PySem.W.takesIn K (.builtin "object.__class__") = some true
  hm : PySem.W.mroIn K (He.ga K C) (.type "object") = some true
  me : PySem.W.kitOne K (.ref (He.ga K C)) (.ref (He.ga K T)) = some b
section
variable {X : Cx} {W : WD}
theorem de_isC {is : Str → Option Bool} {T : Str} {e : Expr} {te : TED} {p p2 pos : Pos} (he : DE X W e te) (hg : Gl X "isinstance") (hm : X.mg "isinstance" = none) (hgT : Gl X T) (hmT : X.mg T = some (.ref (He.ga X.K T))) (hdb : (T == ("__debug__" : Str)) = false)
    (hi : ∀ C b, is C = some b → IscE X.K C T b) (hs : starEach [e, .Name T p2] X.env = (false, eval e X.env) :: starEach [.Name T p2] X.env) :
    DE X W (.Call (.Name "isinstance" p) [e, .Name T p2] [] pos) (dIsC is te) := by
  refine ⟨fun pins s σ H σD Z M K KX I rs z wi h => ?_⟩
  have hs2 : starEach [.Name T p2] X.env = (false, eval (.Name T p2) X.env) :: starEach [] X.env := rfl
  refine wpAny_Call_Name_kw (ld_blt I hg hm boot_isinstance ?_)
  refine PyProof.Rows.callWith_builtin1 (args_cons (thn (he.run pins s σ H σD Z M _ KX I rs z wi h) fun u s1 ⟨v, H1, I1, r1, x, M1, p1, k1, z1, q1⟩ => args_cons (ld_glob I1 hgT hmT (args_nil ?_) hdb) hs2) hs) hs rfl
  obtain ⟨⟨a, C, fs⟩, hin, q2⟩ := onS_out q1
  obtain ⟨b, hb, q⟩ := onS_out q2
  obtain ⟨rfl, hmm⟩ := insOf_out hin
  obtain ⟨dx, vs, hH, pr⟩ := z1.mem a _ hmm
  cases p1
  obtain ⟨cl, ha, hn, htk, hmr, me⟩ := hi C b hb
  exact isinst_ok I1 r1 (TyOf.ins hH cl ha hn htk hmr) me fun tk => ⟨.bl b, H1, I1.tok _, rfl, .bl b, M1, .bl b, k1, z1, q⟩
end
end DL
/-! # The D-layer: own exceptions, raised and caught -/
namespace DL
open PySem PySem.Spec PyProof.Rows L2
/-- y takes x -/
def subX (x y : Str) : Bool := decide (x = y) || decide (y = "TileError")
/-- what is said of a class of refusals -/
structure ExN (K : PySem.W.Frag) (x : Str) : Prop where
  exc : PySem.W.excIn K (He.ga K x) He.veBase "ValueError.__new__" = true
  keep : PySem.W.keepIn K (.ref (He.ga K x)) = true
  sub : PySem.W.subIn K (.ref (He.ga K x)) (.type "BaseException") = some true
  ty : PySem.W.typeIn K (.ref (He.ga K x)) = some (.type "type")
  ec : ExcC K (He.ga K x)
structure XOk (K : PySem.W.Frag) (mg : Str → Option Value) (ex ec : List Str) : Prop where
  mg : ∀ x ∈ ex ++ ec, mg x = some (.ref (He.ga K x))
  n : ∀ x ∈ ex, ExN K x
  m : ∀ x ∈ ex, ∀ y ∈ ex, PySem.W.exmOne K (.ref (He.ga K x)) (.ref (He.ga K y)) = some (subX x y)
  o : ∀ x ∈ ex, ∀ y ∈ ex ++ ec, PySem.W.kitOne K (.ref (He.ga K x)) (.ref (He.ga K y)) = some (subX x y)
  v : ∀ x ∈ ex, PySem.W.kitOne K (.ref (He.ga K x)) (.type "ValueError") = some true
/-- seen of the written part -/
def exB1 (K : PySem.W.Frag) (x : Str) : Bool :=
  He.eqO (PySem.W.nsIn K mainGlobals x) (some (some (.ref (He.ga K x)))) && (PySem.W.excIn K (He.ga K x) He.veBase "ValueError.__new__" && (PySem.W.keepIn K (.ref (He.ga K x)) && (decide (PySem.W.subIn K (.ref (He.ga K x)) (.type "BaseException") = some true) && (decide (PySem.W.typeIn K (.ref (He.ga K x)) = some (.type "type")) &&
  (He.eqO (PySem.W.findIn K (.ref (He.ga K x)) "__getattribute__") (some (some (.builtin "BaseException.__getattribute__"))) && (He.eqO (PySem.W.findIn K (.ref (He.ga K x)) "__getattr__") (some none) && (PySem.W.hasDictIn K (He.ga K x) && (He.eqO (PySem.W.findIn K (.ref (He.ga K x)) "__class__") (some (some (.builtin "object.__class__"))) &&
  (He.eqO (PySem.W.specialIn K (.builtin "object.__class__") "__get__") (some (some (.builtin "getset_descriptor.__get__"))) && (decide (PySem.W.takesIn K (.builtin "object.__class__") = some true) && (decide (PySem.W.mroIn K (He.ga K x) (.type "object") = some true) && decide (PySem.W.kitOne K (.ref (He.ga K x)) (.type "ValueError") = some true))))))))))))
def exB (K : PySem.W.Frag) (ex ec : List Str) : Bool := ex.all (exB1 K) && ((ex.all fun x => ex.all fun y => decide (PySem.W.exmOne K (.ref (He.ga K x)) (.ref (He.ga K y)) = some (subX x y))) && ((ex.all fun x => (ex ++ ec).all fun y => decide (PySem.W.kitOne K (.ref (He.ga K x)) (.ref (He.ga K y)) = some (subX x y))) && ec.all fun x => He.eqO (PySem.W.nsIn K mainGlobals x) (some (some (.ref (He.ga K x))))))
theorem exB_ok {K : PySem.W.Frag} {h : Heap} {mg : Str → Option Value} {ex ec : List Str} (X : K.In h) (G : h.Ns mainGlobals mg) (c : exB K ex ec = true) : XOk K mg ex ec := by
  obtain ⟨c1, c⟩ := He.ba c
  obtain ⟨c2, c⟩ := He.ba c
  obtain ⟨c3, c4⟩ := He.ba c
  have p : ∀ x ∈ ex, exB1 K x = true := List.all_eq_true.mp c1
  refine ⟨fun x hx => ?_, fun x hx => ?_, fun x hx y hy => of_decide_eq_true (List.all_eq_true.mp (List.all_eq_true.mp c2 x hx) y hy), fun x hx y hy => of_decide_eq_true (List.all_eq_true.mp (List.all_eq_true.mp c3 x hx) y hy), fun x hx => ?_⟩
  · rcases List.mem_append.mp hx with hx | hx
    · exact PySem.W.mg_of X G (He.eqO_ok (He.ba (p x hx)).1)
    · exact PySem.W.mg_of X G (He.eqO_ok (List.all_eq_true.mp c4 x hx))
  · obtain ⟨_, k⟩ := He.ba (p x hx)
    obtain ⟨k1, k⟩ := He.ba k
    obtain ⟨k2, k⟩ := He.ba k
    obtain ⟨k3, k⟩ := He.ba k
    obtain ⟨k4, k⟩ := He.ba k
    obtain ⟨k5, k⟩ := He.ba k
    obtain ⟨k6, k⟩ := He.ba k
    obtain ⟨k7, k⟩ := He.ba k
    obtain ⟨k8, k⟩ := He.ba k
    obtain ⟨k9, k⟩ := He.ba k
    obtain ⟨k10, k⟩ := He.ba k
    obtain ⟨k11, k12⟩ := He.ba k
    have k3' := of_decide_eq_true k3
    exact ⟨k1, k2, k3', of_decide_eq_true k4, ⟨He.eqO_ok k5, He.eqO_ok k6, k3', k7, He.eqO_ok k8, He.eqO_ok k9, of_decide_eq_true k10, of_decide_eq_true k11⟩⟩
  · obtain ⟨_, k⟩ := He.ba (p x hx)
    obtain ⟨_, k⟩ := He.ba k
    obtain ⟨_, k⟩ := He.ba k
    obtain ⟨_, k⟩ := He.ba k
    obtain ⟨_, k⟩ := He.ba k
    obtain ⟨_, k⟩ := He.ba k
    obtain ⟨_, k⟩ := He.ba k
    obtain ⟨_, k⟩ := He.ba k
    obtain ⟨_, k⟩ := He.ba k
    obtain ⟨_, k⟩ := He.ba k
    obtain ⟨_, k⟩ := He.ba k
    exact of_decide_eq_true (He.ba k).2
/-! ### raise -/
def sRaise (x : Str) : TSD := fun D σ M => D.ex x σ M
section
variable {X : Cx} {W : WD} {ex ec : List Str} {x y n : Str} {pos np pos' : Pos}
theorem ds_raise {m : Str} {j : Nat} {p p2 p3 : Pos} (hc : X.calm = true) (tk : Takes X (WXW X.K W)) (XO : XOk X.K X.mg ex ec) (hx : x ∈ ex) (hg : Gl X x) (hdb : (x == ("__debug__" : Str)) = false) :
    DS1 X W (.Raise (some (.Call (.Name x p) [.Constant (.str m) j p2] [] p3)) none pos) (sRaise x) := by
  have N := XO.n x hx
  exact DS1.of (ps_raise hc tk (pmk_own PySem.F.excBase_ValueError N.exc (XO.mg x (List.mem_append.mpr (.inl hx))) N.keep (raises_own N.sub N.ty) hg hdb)) fun σ H σD Z M D rs z wi q => ⟨rfl, x, rfl, wi x σD σ M H q rs Keep.refl z⟩
/-! ### try -/
/-- a suite's end: the name of the exception is gone -/
def endAs (i : Nat) (D : DEnds) : DEnds := ⟨fun σ M => D.nx (σ.set i none) M, D.rt, fun σ M => D.bk (σ.set i none) M, fun σ M => D.ct (σ.set i none) M, fun _ _ _ => False⟩
def endNo (D : DEnds) : DEnds := ⟨D.nx, D.rt, D.bk, D.ct, fun _ _ _ => False⟩
def sTryAs (ex : List Str) (y : Str) (i : Nat) (tb : TSD) (su : Addr → Str → TSD) : TSD := fun D σ M =>
  tb { D with ex := fun x σ' M' => x ∈ ex ∧ (if subX x y = true then ∀ a, su a x (endAs i D) (σ'.set i (some (.ref a))) M' else D.ex x σ' M') } σ M
def sTryNo (ex : List Str) (y : Str) (tb : TSD) (su : Addr → Str → TSD) : TSD := fun D σ M =>
  tb { D with ex := fun x σ' M' => x ∈ ex ∧ (if subX x y = true then ∀ a, su a x (endNo D) σ' M' else D.ex x σ' M') } σ M
/-- a block, in any try around it -/
def tryT (X : Cx) (st : List Stmt) (W : WX) : TS := fun D σ H => ∀ (pn : List (Addr × Obj)) (xe : Value → Shared → Prop), Takes (X.tr pn xe) W → PassesOwn (model X.prog X.w) X.A X.env xe → semS (X.tr pn xe) st D σ H
theorem tryT_ok {st : List Stmt} : ∀ (W : WX) (pn : List (Addr × Obj)) (xe : Value → Shared → Prop), Takes (X.tr pn xe) W → PassesOwn (model X.prog X.w) X.A X.env xe → PSs (X.tr pn xe) st (tryT X st W) := fun W pn xe tk po =>
  ⟨fun pins s _ _ _ I h => h pn xe tk po pins s I⟩
/-- what a suite makes of the exception -/
def suiT (X : Cx) (st : List Stmt) (a : Addr) (cls : Value) (d : Option Addr) : TS := fun D σ H => ∀ (oe : Obj) (pn : List (Addr × Obj)), Zc cls d oe → (∃ vs, oe.data = .fields vs) → semS (X.suite a ((a, oe) :: pn)) st D σ H
theorem suiT_ok {st : List Stmt} : ∀ (a : Addr) (oe : Obj) (cls : Value) (d : Option Addr) (pn : List (Addr × Obj)), Zc cls d oe → (∃ vs, oe.data = .fields vs) → PSs (X.suite a ((a, oe) :: pn)) st (suiT X st a cls d) := fun a oe cls d pn hz hf =>
  ⟨fun pins s _ _ _ I h => h oe pn hz hf pins s I⟩
def SuiteOk (X : Cx) (ex : List Str) (st : List Stmt) (su : Addr → Str → TSD) : Prop := ∀ (x : Str) (a : Addr) (oe : Obj) (pn : List (Addr × Obj)), x ∈ ex → Zc (.ref (He.ga X.K x)) none oe → (∃ vs, oe.data = .fields vs) → DS (X.suite a ((a, oe) :: pn)) W0 st (su a x)
variable {body suite : List Stmt} {b₀ : Stmt} {i : Nat} {tb : TSD} {su : Addr → Str → TSD}
theorem ds_tryAs (hst : X.stack = X.env :: X.outer ∧ X.env.frame = some X.env.locals) (hN : X.N.Nodup) (hi : X.N[i]? = some n) (hln : X.env.kindOf n = some .local) (hg : Gl X y) (hdb : (y == ("__debug__" : Str)) = false) (tk : Takes X (WXW X.K W)) (XO : XOk X.K X.mg ex ec) (hy : y ∈ ex)
    (hb : ∀ (W' : WD) (pn : List (Addr × Obj)) (xe : Value → Shared → Prop), Takes (X.tr pn xe) (WXW X.K W') → PassesOwn (model X.prog X.w) X.A X.env xe → DS (X.tr pn xe) W' body tb)
    (hsu : SuiteOk X ex (b₀ :: suite) su) : DS1 X W (.Try body [.ExceptHandler (some (.Name y np)) (some n) (b₀ :: suite) pos'] [] [] pos) (sTryAs ex y i tb su) := by
  refine DS1.of (ps_try_as (c := .ref (He.ga X.K y)) hst.1 hst.2 hN hi hln ⟨hg, hdb, .inl (XO.mg y (List.mem_append.mpr (.inl hy)))⟩ tk (tryT_ok (st := body)) (suiT_ok (st := b₀ :: suite))) fun σ H σD Z M D rs z wi q => ?_
  intro pn xe tk2 po
  let W' : WD := fun x σ' H' => wAs X.K (.ref (He.ga X.K y)) i (suiT X (b₀ :: suite)) (WXW X.K W) (liftD X.prog X.w X.K H Z D) (.ref (He.ga X.K x)) none σ' H'
  refine (hb W' pn xe (tk2.imp fun cls d σ' H' ⟨e1, x, e, h⟩ => by subst e1 e; exact h) po).sem (X := X.tr pn xe) rs z ?_ q (fun _ _ h => h) (fun _ _ h => h) (fun _ _ h => h) (fun _ _ h => h)
  rintro x σD1 σ1 M1 H1 ⟨hx, h⟩ rs1 k1 z1
  refine ⟨subX x y, XO.m x hx y hy, fun e a ha => ?_, fun e => ?_⟩
  · rw [if_pos e] at h
    intro oe pn2 hz hf
    exact (hsu x a oe pn2 hx hz hf).sem (X := X.suite a ((a, oe) :: pn2)) (D := endAs i D) (rs1.set (.ref a)) z1 (fun _ _ _ _ _ h => h.elim) (h a)
      (fun σ' H' ⟨σD', M', r', k', z', q'⟩ => ⟨_, M', r'.unset, k1.trans k', z', q'⟩) (fun v H' h => lift.back k1 h) (fun σ' H' ⟨σD', M', r', k', z', q'⟩ => ⟨_, M', r'.unset, k1.trans k', z', q'⟩) (fun σ' H' ⟨σD', M', r', k', z', q'⟩ => ⟨_, M', r'.unset, k1.trans k', z', q'⟩)
  · rw [if_neg (by rw [e]; decide)] at h
    exact ⟨rfl, x, rfl, wi x σD1 σ1 M1 H1 h rs1 k1 z1⟩
theorem ds_tryNo (hst : X.stack = X.env :: X.outer ∧ X.env.frame = some X.env.locals) (hg : Gl X y) (hdb : (y == ("__debug__" : Str)) = false) (tk : Takes X (WXW X.K W)) (XO : XOk X.K X.mg ex ec) (hy : y ∈ ex)
    (hb : ∀ (W' : WD) (pn : List (Addr × Obj)) (xe : Value → Shared → Prop), Takes (X.tr pn xe) (WXW X.K W') → PassesOwn (model X.prog X.w) X.A X.env xe → DS (X.tr pn xe) W' body tb)
    (hsu : SuiteOk X ex (b₀ :: suite) su) : DS1 X W (.Try body [.ExceptHandler (some (.Name y np)) none (b₀ :: suite) pos'] [] [] pos) (sTryNo ex y tb su) := by
  refine DS1.of (ps_try_only (c := .ref (He.ga X.K y)) hst.1 hst.2 ⟨hg, hdb, .inl (XO.mg y (List.mem_append.mpr (.inl hy)))⟩ tk (tryT_ok (st := body)) (suiT_ok (st := b₀ :: suite))) fun σ H σD Z M D rs z wi q => ?_
  intro pn xe tk2 po
  let W' : WD := fun x σ' H' => wOnly X.K (.ref (He.ga X.K y)) (suiT X (b₀ :: suite)) (WXW X.K W) (liftD X.prog X.w X.K H Z D) (.ref (He.ga X.K x)) none σ' H'
  refine (hb W' pn xe (tk2.imp fun cls d σ' H' ⟨e1, x, e, h⟩ => by subst e1 e; exact h) po).sem (X := X.tr pn xe) rs z ?_ q (fun _ _ h => h) (fun _ _ h => h) (fun _ _ h => h) (fun _ _ h => h)
  rintro x σD1 σ1 M1 H1 ⟨hx, h⟩ rs1 k1 z1
  refine ⟨subX x y, XO.m x hx y hy, fun e a ha => ?_, fun e => ?_⟩
  · rw [if_pos e] at h
    intro oe pn2 hz hf
    exact (hsu x a oe pn2 hx hz hf).sem (X := X.suite a ((a, oe) :: pn2)) (D := endNo D) rs1 z1 (fun _ _ _ _ _ h => h.elim) (h a)
      (fun σ' H' h => liftG.back k1 h) (fun v H' h => lift.back k1 h) (fun σ' H' h => liftG.back k1 h) (fun σ' H' h => liftG.back k1 h)
  · rw [if_neg (by rw [e]; decide)] at h
    exact ⟨rfl, x, rfl, wi x σD1 σ1 M1 H1 h rs1 k1 z1⟩
end
/-! ### within a suite -/
/-- isinstance(error, ..) -/
def dIsE (i : Nat) (a : Addr) (b : Bool) : TED := fun σ M K _ => σ[i]? = some (some (.ref a)) ∧ K (.bl b) M
theorem DE.imp {X : Cx} {W : WD} {e : Expr} {t t' : TED} (h : DE X W e t) (hi : ∀ σ M K KX, t' σ M K KX → t σ M K KX) : DE X W e t' :=
  ⟨fun pins s σ H σD Z M K KX I rs z wi q => h.run pins s σ H σD Z M K KX I rs z wi (hi _ _ _ _ q)⟩
/-- a class as a value -/
def clD (K : PySem.W.Frag) (y : Str) : D := if y = "ValueError" then .ty "ValueError" else .ref (He.ga K y)
def clX (x y : Str) : Bool := decide (y = "ValueError") || subX x y
def anyX (x : Str) (ys : List Str) : Bool := ys.any (clX x)
def isE1 (K : PySem.W.Frag) (x : Str) (a : Addr) (y : Str) (ds : List D) (M : Mem) (Q : DK) : Prop := ds = [.ref a, clD K y] ∧ Q (.bl (clX x y)) M
def isEN (K : PySem.W.Frag) (x : Str) (a : Addr) (ys : List Str) (ds : List D) (M : Mem) (Q : DK) : Prop := ds = [.ref a, .tup (ys.map (clD K))] ∧ Q (.bl (ys.any (clX x))) M
section
variable {X : Cx} {ex ec : List Str} {x y : Str} {a : Addr} {oe : Obj} {pn : List (Addr × Obj)}
def clV (K : PySem.W.Frag) (y : Str) : Value := if y = "ValueError" then .type "ValueError" else .ref (He.ga K y)
theorem clD_rel {K : PySem.W.Frag} {H : Hp} {v : V} {u : Value} (r : Rep H (clD K y) v) (q : L2.RelV v u) : u = clV K y := by
  unfold clD at r
  unfold clV
  split at r
  · rename_i e
    rw [if_pos e]
    cases r; exact q
  · rename_i e
    rw [if_neg e]
    cases r; exact q
theorem kit_cl (XO : XOk X.K X.mg ex ec) (hx : x ∈ ex) (hy : y = "ValueError" ∨ y ∈ ex ++ ec) : PySem.W.kitOne X.K (.ref (He.ga X.K x)) (clV X.K y) = some (clX x y) := by
  unfold clV clX
  by_cases e : y = "ValueError"
  · rw [if_pos e, decide_eq_true e]; exact XO.v x hx
  · rw [if_neg e, decide_eq_false e, Bool.false_or]
    exact XO.o x hx y (hy.resolve_left e)
theorem inst_at {pins : List (Addr × Obj)} {s : Shared} {σ : L2.St} {H : Hp} {D : Addr} (I : Inv (X.suite a ((a, oe) :: pn)) pins σ H s) (hz : Zc (.ref D) none oe) (hf : ∃ vs, oe.data = .fields vs) : PySem.W.InstAt s.heap a oe D none := by
  have hget := (I.pin (a, oe) (List.mem_append.mpr (.inl List.mem_cons_self))).1
  obtain ⟨vs, hv⟩ := hf
  obtain ⟨oc, od, oda, osl⟩ := oe
  obtain ⟨z1, z2⟩ := hz
  simp only at z1 z2 hv
  subst z1 z2 hv
  exact ⟨hget, rfl, rfl, trivial⟩
theorem dc_isE1 (XO : XOk X.K X.mg ex ec) (hx : x ∈ ex) (hy : y = "ValueError" ∨ y ∈ ex ++ ec) (hz : Zc (.ref (He.ga X.K x)) none oe) (hf : ∃ vs, oe.data = .fields vs) : DCall (X.suite a ((a, oe) :: pn)) (.builtin "isinstance") (isE1 X.K x a y) := by
  intro pins s σ H Z M ds vs us K I z rp rv h
  obtain ⟨rfl, q⟩ := h
  obtain ⟨v, v', u, u', rfl, r1, q1, r2, q2⟩ := vals_two rp rv
  cases r1
  cases q1
  rw [clD_rel r2 q2]
  have C := (XO.n x hx).ec
  refine PySem.W.kia_one (PySem.W.handS_kitx_exc C.hg C.hk C.hs C.hd C.ha C.hn C.ht C.hm) I.kIn (inst_at I hz hf) (kit_cl XO hx hy) (fun e => nomatch e) fun tk => ?_
  exact EP.done (I.kept (t' := tk) fun _ _ e => e) (show L2.RelV (.bl (clX x y)) _ from rfl) (.bl _) z q
theorem kits_cl (XO : XOk X.K X.mg ex ec) (hx : x ∈ ex) : ∀ {ys : List Str}, (∀ y ∈ ys, y = "ValueError" ∨ y ∈ ex ++ ec) → PySem.W.kitAny X.K (.ref (He.ga X.K x)) (ys.map (clV X.K)) = some (ys.any (clX x))
  | [], _ => kitAny_nil
  | y :: ys, h => by
    rw [List.map_cons, List.any_cons]
    refine kitAny_cons (kit_cl XO hx (h y (by simp))) (fun e => ?_) (fun e => by rw [e]; rfl)
    rw [e, Bool.false_or]
    exact kits_cl XO hx fun z hz => h z (by simp [hz])
theorem clDs_rel {K : PySem.W.Frag} {H : Hp} : ∀ {ys : List Str} {vs : List V} {us : List Value}, Reps H (ys.map (clD K)) vs → Vals vs us → us = ys.map (clV K)
  | [], _, _, .nil, .nil => rfl
  | y :: ys, _, _, .cons r t, .cons q u => by
    rw [clD_rel r q, clDs_rel t u]; rfl
theorem dc_isEN {ys : List Str} (XO : XOk X.K X.mg ex ec) (hx : x ∈ ex) (hy : ∀ y ∈ ys, y = "ValueError" ∨ y ∈ ex ++ ec) (hz : Zc (.ref (He.ga X.K x)) none oe) (hf : ∃ vs, oe.data = .fields vs) : DCall (X.suite a ((a, oe) :: pn)) (.builtin "isinstance") (isEN X.K x a ys) := by
  intro pins s σ H Z M ds vs us K I z rp rv h
  obtain ⟨rfl, q⟩ := h
  obtain ⟨v, v', u, u', rfl, r1, q1, r2, q2⟩ := vals_two rp rv
  cases r1
  cases q1
  obtain ⟨tp, vs2, rfl, ht, rt⟩ := r2.tup_inv
  cases q2
  obtain ⟨_, its, rv2, o, h1, h2, n, h3⟩ := (show ObjOk X.prog X.w H s.heap tp (.tup vs2) from I.hok tp _ ht)
  have e3 := clDs_rel rt rv2
  subst e3
  obtain ⟨oc, od, dt, sl⟩ := o
  simp only at h2 h3
  subst h2 h3
  have C := (XO.n x hx).ec
  refine PySem.W.kia_tup (PySem.W.handS_kitx_exc C.hg C.hk C.hs C.hd C.ha C.hn C.ht C.hm) I.kIn (inst_at I hz hf) h1 (kits_cl XO hx hy) (fun e => nomatch e) fun tk => ?_
  exact EP.done (I.kept (t' := tk) fun _ _ e => e) (show L2.RelV (.bl (ys.any (clX x))) _ from rfl) (.bl _) z q
end
end DL
/-! # The D-layer: the reading of a text -/
namespace DL
open PySem PySem.Spec PyProof.Rows L2
/-- readings of one depth -/
structure Rd where
  E : RC → Expr → TED
  T : RC → Expr → TTD
  S : RC → List Stmt → TSD
def Rd.A (r : Rd) (R : RC) : List Expr → TAD
  | [] => aNil
  | e :: es => aCons (r.E R e) (r.A R es)
def Rd.V (r : Rd) (R : RC) (op : BoolOp) : List Expr → TED
  | [] => dNever
  | [e] => r.E R e
  | e :: e2 :: es => match op with
    | .And => dAnd (r.E R e) (r.V R op (e2 :: es))
    | .Or => dOr (r.E R e) (r.V R op (e2 :: es))
def tNever : TTD := fun _ _ _ _ => False
def Rd.W (r : Rd) (R : RC) (op : BoolOp) : List Expr → TTD
  | [] => tNever
  | [e] => r.T R e
  | e :: e2 :: es => match op with
    | .And => dAndT (r.T R e) (r.W R op (e2 :: es))
    | .Or => dOrT (r.T R e) (r.W R op (e2 :: es))
def Rd.O (r : Rd) (R : RC) : Option Expr → TOD
  | none => oNone
  | some e => oSome (r.E R e)
def rdName (R : RC) (x : Str) : TED :=
  if visB R.sc x = true then (match ixOf R.N x with | some i => dVar i | none => dNever)
  else if gloB R.sc x = true then (match R.gl x with
    | some (.con d) => dC d
    | some (.fn _ _ _) => dNever
    | none => match tyOf x with
      | some n => if x ∈ R.bl then dC (.ty n) else dNever
      | none => dNever)
  else dNever
def rdCall (r : Rd) (R : RC) (f : Str) (e : Expr) (es : List Expr) : TED :=
  if gloB R.sc f && (e :: es).all notStar then
    (match R.gl f with
    | some (.fn n dvs sp) => if (e :: es).length ≤ n ∧ n - (e :: es).length ≤ dvs.length then dCall n sp (dvs.drop (dvs.length - (n - (e :: es).length))) (r.A R (e :: es)) else dNever
    | some (.con _) => dNever
    | none => match bltOf f with
      | some b => if f ∈ R.bl then dCB b.sem (r.A R (e :: es)) else dNever
      | none => dNever)
  else dNever
def revArg (x : Str) (e : Expr) (es : List Expr) : Option Expr := match e, es with
  | .Call (.Name f _) [e2] [] _, [] => if x = "list" ∧ f = "reversed" then some e2 else none
  | _, _ => none
/-- list(reversed(x)); any other call of a name -/
def isArg (x : Str) (es : List Expr) : Option Str := match es with
  | [.Name T _] => if x = "isinstance" then some T else none
  | _ => none
def rdIsC (r : Rd) (R : RC) (T : Str) (e : Expr) : TED := if (gloB R.sc "isinstance" && decide (("isinstance" : Str) ∈ R.bl) && gloB R.sc T && notStar e) = true then dIsC (R.cs.isc T) (r.E R e) else dNever
def rdMk (r : Rd) (R : RC) (C : Str) (n : Nat) (sp : DSp) (es : List Expr) : TED := if (gloB R.sc C && es.all notStar) = true then dMk C n sp (r.A R es) else dNever
def rdCall2 (r : Rd) (R : RC) (f : Str) (e : Expr) (es : List Expr) : TED := match revArg f e es with
  | some e2 => if (gloB R.sc "list" && gloB R.sc "reversed" && notStar e2 && decide (("list" : Str) ∈ R.bl) && decide (("reversed" : Str) ∈ R.bl)) = true then dRev (r.E R e2) else dNever
  | none => rdCall r R f e es
/-- C(..), isinstance(o, C) of own classes; any other call of a name -/
def rdCall3 (r : Rd) (R : RC) (f : Str) (e : Expr) (es : List Expr) : TED := match R.cs.mkr f with
  | some (some (n, sp)) => rdMk r R f n sp (e :: es)
  | _ => match isArg f es with
    | some T => if T ∈ R.cs.ct then rdIsC r R T e else rdCall2 r R f e es
    | none => rdCall2 r R f e es
def rdMk0 (R : RC) (C : Str) : TED := match R.cs.mkr C with
  | some none => if gloB R.sc C = true then dMk0 C else dNever
  | _ => dNever
/-! ### comprehensions -/
def ixsOf (N : List Str) (sc : Scope) (fo : Str → Bool) : List Expr → Option (List Nat)
  | [] => some []
  | .Name x _ :: r => if (locB sc x && fo x) = true then (match ixOf N x, ixsOf N sc fo r with | some i, some is => some (i :: is) | _, _ => none) else none
  | _ :: _ => none
def ctOf (N : List Str) (sc : Scope) (fo : Str → Bool) : Expr → Option CT
  | .Name x _ => if (locB sc x && fo x) = true then (ixOf N x).map .one else none
  | .Tuple es _ _ => (ixsOf N sc fo es).map .many
  | _ => none
def ownOf (N : List Str) (sc : Scope) : List (Str × Nat) := sc.names.filterMap fun y => match y.2 with
  | .local => (ixOf N y.1).map fun i => (y.1, i)
  | .cell => (ixOf N y.1).map fun i => (y.1, i)
  | _ => none
def isTup : Expr → Bool
  | .Tuple _ _ _ => true
  | _ => false
/-- what is walked -/
def rdIt (r : Rd) (R : RC) (tg : Expr) (iter : Expr) : TID := match iter with
  | .Call (.Name f _) (e :: es) [] _ =>
    if f = "range" then (if gloB R.sc f && (e :: es).all notStar && decide (f ∈ R.bl) then iRng (r.A R (e :: es)) else iVal dNever)
    else if f = "zip" then (match es with
      | [e2] => if gloB R.sc f && [e, e2].all notStar && decide (f ∈ R.bl) && isTup tg then iZip (r.A R [e, e2]) else iVal dNever
      | _ => iVal dNever)
    else if f = "enumerate" then (match es with
      | [] => if gloB R.sc f && [e].all notStar && decide (f ∈ R.bl) && isTup tg then iEnumD (r.A R [e]) else iVal dNever
      | _ => iVal dNever)
    else iVal (r.E R iter)
  | .Call (.Attribute o name apos) [] [] cpos => if (decide (name = "items") && isTup tg && notCall o && (apos.endLine == cpos.line)) = true then iItemsD (r.E R o) else iVal (r.E R iter)
  | _ => iVal (r.E R iter)
def rdIfs (r : Rd) (R : RC) : List Expr → Option TTD
  | [] => some tYesD
  | [c] => some (r.T R c)
  | _ => none
def lcO (r : Rd) (R : RC) (elt : Expr) (gs : List Comprehension) (scope : Scope) : Option TED := match gs with
  | [⟨tg, iter, ifs, 0⟩] =>
    if blkC R.N R.sc scope (ownOf R.N scope) && notSet iter then
      (match ctOf R.N (R.blk scope).sc (R.blk scope).fo tg, rdIfs r (R.blk scope) ifs with
      | some t, some tt => if t.ixs.all (fun i => decide (i ∈ (ownOf R.N scope).map (·.2))) then some (dLc (rdIt r R tg iter) t tt (r.E (R.blk scope) elt) ((ownOf R.N scope).map (·.2))) else none
      | _, _ => none)
    else none
  | _ => none
def rdLc (r : Rd) (R : RC) (elt : Expr) (gs : List Comprehension) (scope : Scope) : TED := match lcO r R elt gs scope with
  | some t => t
  | none => dNever
def isFn (sc : Scope) : Bool := match sc.kind with
  | .function => true
  | _ => false
/-! ### one step -/
def stepE (r : Rd) (R : RC) : Expr → TED
  | .Constant c _ _ => match c with
    | .int i => dC (.int i)
    | .bool b => dC (.bl b)
    | .none => dC .non
    | .str x => dC (.str x)
    | _ => dNever
  | .Name x _ => rdName R x
  | .BinOp a op b _ => match rdBin op with
    | some o => dOp o (r.E R a) (r.E R b)
    | none => dNever
  | .UnaryOp op a _ => match op with
    | .USub => dNeg (r.E R a)
    | .Not => dNot (r.E R a)
    | _ => dNever
  | .BoolOp op es _ => r.V R op es
  | .Compare a ops bs _ => match ops, bs with
    | [op], [b] => if behindInMarks op b = true then dNever else if isDE op b = true then dOp eqED (r.E R a) (r.E R b) else (match rdCmp op with
      | some o => dOp o (r.E R a) (r.E R b)
      | none => dNever)
    | [op, op2], [b, c] => if lastMarks [op, op2] [b, c] = true then dNever else (match rdCmp op, rdCmp op2 with
      | some o, some o2 => dChain o o2 (r.E R a) (r.E R b) (r.E R c)
      | _, _ => dNever)
    | _, _ => dNever
  | .Tuple es _ _ => if es.all notStar = true then dTup (r.A R es) else dNever
  | .List es _ => if es.all notStar = true then dLst (r.A R es) else dNever
  | .Dict ks vs _ => match ks, vs with
    | [], [] => dEmp
    | [some k], [v] => dOne (r.E R k) (r.E R v)
    | _, _ => dNever
  | .Subscript a s _ => match s with
    | .Slice lo hi st _ => match st with
      | none => dSl (r.E R a) (r.O R lo) (r.O R hi)
      | some _ => dNever
    | s => if notSlice s = true then dOp dIx (r.E R a) (r.E R s) else dNever
  | .Call f args kws cpos => match f, args, kws with
    | .Name x _, [], [] => rdMk0 R x
    | .Name x _, e :: es, [] => rdCall3 r R x e es
    | .Attribute o name apos, es, [] => if name ∈ R.cs.mn then (if (es.all notStar && notCall o && decide (es.length < 30) && (apos.endLine == cpos.line)) = true then dMC (R.cs.mt name) name (r.E R o) (r.A R es) else dNever) else if es.all notStar && notCall o && decide (es.length < 30) && (apos.endLine == cpos.line) then dBM name (r.E R o) (r.A R es) else dNever
    | _, _, _ => dNever
  | .ListComp elt gs scope _ => rdLc r R elt gs scope
  | .Attribute e f _ => if notCall e = true then dFld (R.cs.fl f) (r.E R e) f else dNever
  | _ => dNever
def stepT (r : Rd) (R : RC) : Expr → TTD
  | .UnaryOp op a p => match op with
    | .Not => dNotT (r.T R a)
    | _ => dTest (stepE r R (.UnaryOp op a p))
  | .BoolOp op es _ => r.W R op es
  | .IfExp _ _ _ _ => tNever
  | .Compare a ops bs _ => match ops, bs with
    | [op], [b] => if behindInMarks op b = true then tNever else if isDE op b = true then dTest (dOp eqED (r.E R a) (r.E R b)) else (match rdCmp op with
      | some o => dTest (dOp o (r.E R a) (r.E R b))
      | none => tNever)
    | [op, op2], [b, c] => if lastMarks [op, op2] [b, c] = true then tNever else (match rdCmp op, rdCmp op2 with
      | some o, some o2 => dTest (dChain o o2 (r.E R a) (r.E R b) (r.E R c))
      | _, _ => tNever)
    | _, _ => tNever
  | e => if plainTest e = true then dTest (stepE r R e) else tNever
def gNever : TGD := fun _ _ _ _ _ => False
def gsOf : List Nat → TGsD
  | [] => gsNil
  | i :: is => gsCons i (gsOf is)
def rdG (r : Rd) (R : RC) : Expr → TGD
  | .Name x _ => if (locB R.sc x && R.fo x) = true then (match ixOf R.N x with | some i => gNameD i | none => gNever) else gNever
  | .Tuple es _ _ => match ixsOf R.N R.sc R.fo es with
    | some is => gTupD (gsOf is) is.length
    | none => gNever
  | .Subscript o i _ => if notSlice i = true then gSubD (r.E R o) (r.E R i) else gNever
  | _ => gNever
/-- names on one line, swapped -/
def parOk (R : RC) (x y a b : Str) (px py : Pos) : Bool := isFn R.sc && kindIs R.sc x .local && kindIs R.sc y .local && (py.line == px.line) && !decide (x = y) && !(a == ("__debug__" : Str)) && !(b == ("__debug__" : Str))
def rdPar (r : Rd) (R : RC) (ts vs : List Expr) (e : Expr) : TSD := match ts, vs with
  | [.Name x px, .Name y py], [.Name a pa, .Name b pb] => if parOk R x y a b px py = true then (match ixOf R.N x, ixOf R.N y with
    | some i, some j => if i = j then sNever else sPar i j (r.A R [.Name a pa, .Name b pb])
    | _, _ => sNever) else sNever
  | [.Subscript o i _, .Subscript o2 i2 _], _ => if (notSlice i && notSlice i2) = true then sAsg (r.E R e) (gSub2 (r.E R o) (r.E R i) (r.E R o2) (r.E R i2)) else sNever
  | _, _ => sNever
def lineOf : Expr → Nat := fun e => e.pos.line
def rdAsg (r : Rd) (R : RC) (tg e : Expr) : TSD := match e with
  | .ListComp elt gs scope pos => match tg with
    | .Name y py => if (py.line == pos.line) && kindIs R.sc y .local then
        (if !(scope.names.any fun q => q.1 == y && (q.2 == .local || q.2 == .cell)) && isFn R.sc then (match ixOf R.N y, lcO r R elt gs scope with
          | some i, some t => sAsg t (gNameD i)
          | _, _ => sNever) else sNever)
      else sAsg (rdLc r R elt gs scope) (rdG r R tg)
    | .Subscript _ _ _ => sAsg (rdLc r R elt gs scope) (rdG r R tg)
    | _ => sNever
  | .Tuple vs _ _ => match tg with
    | .Name _ _ => sAsg (r.E R e) (rdG r R tg)
    | .Subscript _ _ _ => sAsg (r.E R e) (rdG r R tg)
    | .Tuple ts _ _ => rdPar r R ts vs e
    | _ => sNever
  | e => match tg with
    | .Attribute o f _ => if notComp e = true then sFldD (R.cs.fl f) (r.E R e) (r.E R o) f else sNever
    | tg => if notComp e = true then sAsg (r.E R e) (rdG r R tg) else sNever
/-! ### suites -/
def cE : Const → TED
  | .int i => dC (.int i)
  | .bool b => dC (.bl b)
  | .none => dC .non
  | .str x => dC (.str x)
  | _ => dNever
def isTupE : Expr → Bool
  | .Tuple _ _ _ => true
  | _ => false
def okCl (R : RC) (t : Str) : Bool := gloB R.sc t && ((decide (t ∈ R.ex ++ R.ec) && !decide (t = "ValueError")) || (decide (t = "ValueError") && decide (t ∈ R.bl)))
def namesOf : List Expr → Option (List Str)
  | [] => some []
  | .Name x _ :: r => (namesOf r).map (x :: ·)
  | _ :: _ => none
/-- isinstance(er, t), isinstance(er, (t, ..)) -/
def suIs (R : RC) (en : Option (Str × Nat)) (a : Addr) (x : Str) (v : Str) (t : Expr) : TED := match en with
  | some (er, i) => if (decide (v = er) && visB R.sc er && decide (ixOf R.N er = some i)) = true then (match t with
    | .Name t _ => if okCl R t = true then dIsE i a (clX x t) else dNever
    | .Tuple ts _ _ => match namesOf ts with
      | some ys => if (ys.all (okCl R) && decide (ys.length ≤ 16)) = true then dIsE i a (ys.any (clX x)) else dNever
      | none => dNever
    | _ => dNever) else dNever
  | none => dNever
def suE (R : RC) (en : Option (Str × Nat)) (a : Addr) (x : Str) : Nat → Expr → TED
  | 0, _ => dNever
  | n + 1, e => match e with
    | .Constant c _ _ => cE c
    | .Name y _ => if visB R.sc y = true then (match ixOf R.N y with | some i => dVar i | none => dNever) else dNever
    | .BinOp p op q _ => match rdBin op with
      | some o => dOp o (suE R en a x n p) (suE R en a x n q)
      | none => dNever
    | .BoolOp op es _ => match op, es with
      | .Or, [p, q] => dOr (suE R en a x n p) (suE R en a x n q)
      | _, _ => dNever
    | .Call f args kws _ => match f, args, kws with
      | .Name f _, [e], [] => if (decide (f = "int") && gloB R.sc f && notStar e && decide (f ∈ R.bl)) = true then dCB intD (aCons (suE R en a x n e) aNil) else dNever
      | .Name f _, [.Name v _, t], [] => if (decide (f = "isinstance") && gloB R.sc f && notStar t && decide (f ∈ R.bl)) = true then suIs R en a x v t else dNever
      | _, _, _ => dNever
    | _ => dNever
def suS (R : RC) (en : Option (Str × Nat)) (a : Addr) (x : Str) : Nat → List Stmt → TSD
  | 0, _ => sNever
  | _ + 1, [] => sNext
  | n + 1, st :: rest => sSeq (match st with
    | .Assign ts e _ => match ts with
      | [.Name v _] => if (notComp e && !isTupE e && locB R.sc v && R.fo v) = true then (match ixOf R.N v with | some i => sAsg (suE R en a x 5 e) (gNameD i) | none => sNever) else sNever
      | _ => sNever
    | .Return (some e) _ => sRet (suE R en a x 5 e)
    | .If c b [] _ => if plainTest c = true then sIf (dTest (suE R en a x 5 c)) (suS R en a x n b) sNext else sNever
    | _ => sNever) (suS R en a x n rest)
def rdRaise (R : RC) (e : Expr) : TSD := match e with
  | .Call (.Name x _) [.Constant (.str _) _ _] [] _ => if (R.stm && decide (x ∈ R.ex) && gloB R.sc x) = true then sRaise x else sNever
  | _ => sNever
def rdTry (r : Rd) (R : RC) (body : List Stmt) (h : ExceptHandler) : TSD := match h with
  | .ExceptHandler (some (.Name y _)) nm (b₀ :: su) _ => if (R.stm && decide (y ∈ R.ex) && gloB R.sc y) = true then (match nm with
    | none => sTryNo R.ex y (r.S R body) (fun a x => suS R none a x 6 (b₀ :: su))
    | some n => if kindIs R.sc n .local = true then (match ixOf R.N n with
      | some i => sTryAs R.ex y i (r.S R body) (fun a x => suS R (some (n, i)) a x 6 (b₀ :: su))
      | none => sNever) else sNever) else sNever
  | _ => sNever
def rdIp : Operator → Option (D → D → Mem → DK → Prop)
  | .Add => some iadD
  | _ => none
def stepS1 (r : Rd) (R : RC) : Stmt → TSD
  | .Expr e _ => match e with
    | .Constant c _ _ => match c with
      | .str _ => sNext
      | _ => sNever
    | e => if notComp e = true then sDrop (r.E R e) else sNever
  | .Return e _ => match e with
    | some e => sRet (r.E R e)
    | none => sRetN
  | .Assign ts e _ => match ts with
    | [tg] => if notStar tg = true then rdAsg r R tg e else sNever
    | _ => sNever
  | .AugAssign t op e _ => match t with
    | .Name x _ => match ixOf R.N x, rdIp op with
      | some i, some o => if (locB R.sc x && R.fo x) = true then sAug i (r.E R e) o else sNever
      | _, _ => sNever
    | _ => sNever
  | .If c a b _ => sIf (r.T R c) (r.S R a) (r.S R b)
  | .While c body els _ => match els with
    | [] => sWhile (r.T R c) (r.S R body)
    | _ => sNever
  | .For tg iter body els _ => match els with
    | [] => if notSet iter = true then sFor (rdIt r R tg iter) (rdG r R tg) (r.S R body) else sNever
    | _ => sNever
  | .Raise e c _ => match e, c with
    | some e, none => rdRaise R e
    | _, _ => sNever
  | .Try body hs els fin _ => match hs, els, fin with
    | [h], [], [] => rdTry r R body h
    | _, _, _ => sNever
  | .Pass _ => sNext
  | .Break _ => sBreak
  | .Continue _ => sCont
  | _ => sNever
def stepS (r : Rd) (R : RC) : List Stmt → TSD
  | [] => sNext
  | st :: rest => sSeq (stepS1 r R st) (stepS r R rest)
def rdN : Nat → Rd
  | 0 => ⟨fun _ _ => dNever, fun _ _ => tNever, fun _ _ => sNever⟩
  | n + 1 => ⟨stepE (rdN n), stepT (rdN n), stepS (rdN n)⟩
end DL
/-! # The D-layer: the reading is right -/
namespace DL
open PySem PySem.Spec PyProof.Rows L2
/-- a def of the module, at its level -/
def FnE (P : Program) (w : World) (K : PySem.W.Frag) (mg : Str → Option Value) (base : Heap) (k : Nat) (x : Str) (n : Nat) (dvs : List D) (sp : DSp) : Prop :=
  ∃ (f : Addr) (fd : FuncData) (ps : List Str), FnOk P w K mg base (L2.CX P w) k f fd ps (toSp P w K ps.length sp) ∧ ps.length = n ∧ mg x = some (.ref f) ∧ PySem.W.keepIn K (.ref f) = true ∧
    ∀ j, j ≤ dvs.length → ∃ (ds : List Value) (vs : List V), Binds K fd ps ds ∧ Vals vs ds ∧ ∀ H, Reps H (dvs.drop (dvs.length - j)) vs
structure GOk (P : Program) (w : World) (K : PySem.W.Frag) (mg : Str → Option Value) (base : Heap) (k : Nat) (gl : Str → Option GE) (bl : List Str) : Prop where
  fn : ∀ x n dvs sp, gl x = some (.fn n dvs sp) → FnE P w K mg base k x n dvs sp
  con : ∀ x d, gl x = some (.con d) → ∃ (u : Value) (v : V), mg x = some u ∧ L2.RelV v u ∧ ∀ H, Rep H d v
  bl : ∀ x ∈ bl, mg x = none
/-- what of own classes is to hold -/
structure CsOk (P : Program) (w : World) (K : PySem.W.Frag) (mg : Str → Option Value) (base : Heap) (k : Nat) (cs : ClE) : Prop where
  fl : ∀ f C, cs.fl f C = true → Cls K (He.ga K C) ∧ NoAttr K (He.ga K C) f
  mt : ∀ m C n sp, cs.mt m C = some (n, sp) → MthE P w K mg base k C m n sp
  mk1 : ∀ C n sp, cs.mkr C = some (some (n, sp)) → ∃ j, j + 1 ≤ k ∧ MkE P w K mg base j C n sp
  mk0 : ∀ C, cs.mkr C = some none → Mk0E K mg C
  isc : ∀ T, T ∈ cs.ct → mg T = some (.ref (He.ga K T)) ∧ ∀ C b, cs.isc T C = some b → IscE K C T b
theorem csok_no {P : Program} {w : World} {K : PySem.W.Frag} {mg : Str → Option Value} {base : Heap} {k : Nat} : CsOk P w K mg base k ClE.no :=
  ⟨fun _ _ h => (by cases h), fun _ _ _ _ h => (by cases h), fun _ _ _ h => (by cases h), fun _ h => (by cases h), fun _ h => (by cases h)⟩
structure COk (P : Program) (w : World) (K : PySem.W.Frag) (mg : Str → Option Value) (base : Heap) (k : Nat) (R : RC) (X : Cx) (W : WD) : Prop where
  fc : FCx P w K mg base R.N R.sc R.fo R.stm k X W
  go : GOk P w K mg base k R.gl R.bl
  xo : XOk K mg R.ex R.ec
  cs : CsOk P w K mg base k R.cs
section
variable {P : Program} {w : World} {K : PySem.W.Frag} {mg : Str → Option Value} {base : Heap} {k : Nat}
structure Rd.Ok (P : Program) (w : World) (K : PySem.W.Frag) (mg : Str → Option Value) (base : Heap) (k : Nat) (r : Rd) : Prop where
  E : ∀ R X W e, COk P w K mg base k R X W → DE X W e (r.E R e)
  T : ∀ R X W e, COk P w K mg base k R X W → DT X W e (r.T R e)
  S : ∀ R X W st, COk P w K mg base k R X W → DS X W st (r.S R st)
variable {r : Rd} {R : RC} {X : Cx} {W : WD}
theorem COk.rm (c : COk P w K mg base k R X W) : Rm X := c.fc.rm
theorem COk.blk (c : COk P w K mg base k R X W) (scope : Scope) (s0 : Shared) (H0 : Hp) (C : Addr) (cl : List (Str × Addr)) (fp : List Addr) : COk P w K mg base k (R.blk scope) (X.blk s0 H0 scope (compEnvC scope cl C X.env) fp) W0 := by
  have hs : (compEnvC scope cl C X.env).scope = relS scope R.sc := by rw [← c.fc.sc']; rfl
  refine ⟨⟨c.fc.prog, c.fc.w', c.fc.K', c.fc.mg', c.fc.base', c.fc.N', c.fc.nd, hs, c.fc.calm, fun x hx => ?_, c.fc.room, PassesOwn.never, fun u s' h => ?_, fun h => (by cases h)⟩, c.go, c.xo, c.cs⟩
  · have hx' : (kindIs scope x .cell || kindIs (relS scope R.sc) x .local) = true := hx
    rw [Bool.or_eq_true] at hx'
    rcases hx' with h | h
    · refine .inl ?_
      show (scope.names.lookup x == some .cell) = true
      rw [kind_cell h]
      rfl
    · refine .inr ?_
      show (compEnvC scope cl C X.env).scope.names.lookup x = some .local
      rw [hs]
      exact kind_local h
  · obtain ⟨_, _, _, _, _, _, _, _, _, _, _, _, _, _, _, _, _, _, _, h⟩ := h
    exact h.elim
theorem ok_A (hr : r.Ok P w K mg base k) (c : COk P w K mg base k R X W) : ∀ es : List Expr, es.all notStar = true → DA X W es (r.A R es)
  | [], _ => da_nil
  | e :: es, h => by
    rw [List.all_cons, Bool.and_eq_true] at h
    exact da_cons (hr.E R X W e c) (ok_A hr c es h.2) (star_cons h.1)
theorem ok_V (hr : r.Ok P w K mg base k) (c : COk P w K mg base k R X W) (op : BoolOp) (pos : Pos) : ∀ es : List Expr, DE X W (.BoolOp op es pos) (r.V R op es)
  | [] => de_never
  | [e] => de_one (hr.E R X W e c)
  | e :: e2 :: es => by
    cases op with
    | And => exact de_and (hr.E R X W e c) (ok_V hr c .And pos (e2 :: es))
    | Or => exact de_or (hr.E R X W e c) (ok_V hr c .Or pos (e2 :: es))
theorem dt_never {e : Expr} : DT X W e tNever := ⟨fun _ _ _ _ _ _ _ _ _ _ _ _ _ h => h.elim⟩
theorem ok_W (hr : r.Ok P w K mg base k) (c : COk P w K mg base k R X W) (op : BoolOp) (pos : Pos) : ∀ es : List Expr, DW X W (.BoolOp op es pos) (r.W R op es)
  | [] => ⟨fun _ _ _ _ _ _ _ _ _ _ _ _ _ _ h => h.elim⟩
  | [e] => by
    cases op with
    | And => exact dw_and1 (hr.T R X W e c)
    | Or => exact dw_or1 (hr.T R X W e c)
  | e :: e2 :: es => by
    cases op with
    | And => exact dw_and (hr.T R X W e c) (ok_W hr c .And pos (e2 :: es))
    | Or => exact dw_or (hr.T R X W e c) (ok_W hr c .Or pos (e2 :: es))
theorem ok_O (hr : r.Ok P w K mg base k) (c : COk P w K mg base k R X W) : ∀ e : Option Expr, DO_ X W e (r.O R e)
  | none => do_none
  | some e => do_some (hr.E R X W e c)
theorem ok_name {x : Str} {pos : Pos} (c : COk P w K mg base k R X W) : DE X W (.Name x pos) (rdName R x) := by
  unfold rdName
  split
  · rename_i hv
    obtain ⟨h1, h2, h3⟩ := visB_ok hv
    split
    · rename_i i hi
      exact de_var (by rw [c.fc.N']; exact ixOf_ok hi) (by rw [c.fc.sc']; exact h1) h2 h3
    · exact de_never
  · split
    · rename_i hg
      obtain ⟨g1, g2⟩ := gloB_ok c.fc.sc' hg
      split
      · rename_i d hd
        obtain ⟨u, v, h1, h2, h3⟩ := c.go.con x d hd
        exact de_glob g1 (by rw [c.fc.mg']; exact h1) h2 h3 g2
      · exact de_never
      · split
        · rename_i n hn
          split
          · rename_i hb
            obtain ⟨b1, b2, b3⟩ := ty_boot hn
            exact de_of (pe_bltn g1 (by rw [c.fc.mg']; exact c.go.bl x hb) b1 (show L2.RelV (.ty n) (.type n) from rfl) b2 g2) fun _ H _ _ _ _ _ _ z q => liftN_id z (.ty n) q
          · exact de_never
        · exact de_never
    · exact de_never
theorem ok_call (hr : r.Ok P w K mg base k) {f : Str} {p pos : Pos} {e : Expr} {es : List Expr} (c : COk P w K mg base k R X W) : DE X W (.Call (.Name f p) (e :: es) [] pos) (rdCall r R f e es) := by
  unfold rdCall
  split
  · rename_i h
    rw [Bool.and_eq_true] at h
    obtain ⟨hg, hst⟩ := h
    obtain ⟨g1, g2⟩ := gloB_ok c.fc.sc' hg
    have hst' := hst
    rw [List.all_cons, Bool.and_eq_true] at hst'
    have ha := ok_A hr c (e :: es) hst
    have hs := star_cons (e := e) (es := es) (env := X.env) hst'.1
    have hpl := star_any (pos := pos) (env := X.env) hst'.2
    split
    · rename_i n dvs sp hfn
      split
      · rename_i hn
        obtain ⟨fa, fd, ps, F, hl, hm, hk, hb⟩ := c.go.fn f n dvs sp hfn
        obtain ⟨ds, vs, b1, b2, b3⟩ := hb _ hn.2
        subst hl
        refine de_call (k := k) (fd := fd) (f := fa) (ds := ds) (dvv := vs) ?_ c.fc.room g1 (by rw [c.fc.mg']; exact hm) (by rw [c.fc.K']; exact hk) (by rw [c.fc.K']; exact b1) b2 b3 c.fc.tk ha g2 hs hpl
        have e1 := c.fc.prog
        have e2 := c.fc.w'
        have e3 := c.fc.K'
        have e4 := c.fc.mg'
        have e5 := c.fc.base'
        rw [e1, e2, e3, e4, e5]
        exact F
      · exact de_never
    · exact de_never
    · split
      · rename_i b hb
        split
        · rename_i hbl
          obtain ⟨b1, b2, b3⟩ := blt_boot hb
          have hm : X.mg f = none := by rw [c.fc.mg']; exact c.go.bl f hbl
          have hc := blt_ok c.rm b
          cases b <;> first
            | exact de_callB hc g1 hm b1 ha b2 b3 hs hpl
            | exact de_callTy hc g1 hm b1 ha b2 b3 hs hpl
        · exact de_never
      · exact de_never
  · exact de_never
/-! ### comprehensions -/
theorem ixs_gs {N : List Str} {sc : Scope} (hN : X.N = N) (nd : N.Nodup) (hsc : X.env.scope = sc) {fo : Str → Bool} (hf : ∀ x, fo x = true → X.fn x = true ∨ X.env.scope.names.lookup x = some .local) : ∀ (es : List Expr) (is : List Nat), ixsOf N sc fo es = some is → PGs X es (gsH is) ∧ (assignEach es X.env).length = is.length ∧ (assignEach es X.env).findIdx? (·.1) = none ∧ DGs X es (gsOf is)
  | [], is, h => by
    rw [ixsOf] at h
    cases h
    exact ⟨pgs_nil, rfl, rfl, dgs_nil⟩
  | e :: es, is, h => by
    cases e with
    | Name x pos =>
      rw [ixsOf] at h
      split at h
      · rename_i hl
        rw [Bool.and_eq_true] at hl
        split at h
        · rename_i i is' h1 h2
          cases h
          obtain ⟨a1, a2, a3, a4⟩ := ixs_gs hN nd hsc hf es is' h2
          have lo : Loc X.env.scope x := by rw [hsc]; exact locB_ok hl.1
          have hi : X.N[i]? = some x := by rw [hN]; exact ixOf_ok h1
          refine ⟨pgs_cons (pg_name (by rw [hN]; exact nd) hi lo (hf x hl.2)) a1 rfl, ?_, ?_, dgs_cons (by rw [hN]; exact nd) hi lo (hf x hl.2) a4 rfl⟩
          · show (assignEach es X.env).length + 1 = _
            rw [a2]; rfl
          · show ((false, assign (.Name x pos) X.env) :: assignEach es X.env).findIdx? (·.1) = none
            rw [List.findIdx?_cons]
            simp [a3]
        · cases h
      · cases h
    | _ => simp [ixsOf] at h
theorem ct_ok {N : List Str} {sc : Scope} (hN : X.N = N) (nd : N.Nodup) (hsc : X.env.scope = sc) (hc : X.calm = true) {fo : Str → Bool} (hf : ∀ x, fo x = true → X.fn x = true ∨ X.env.scope.names.lookup x = some .local) {tg : Expr} {t : CT} (h : ctOf N sc fo tg = some t) : PG X tg (gH X.K t) := by
  unfold ctOf at h
  split at h
  · rename_i x pos
    split at h
    · rename_i hl
      rw [Bool.and_eq_true] at hl
      rw [Option.map_eq_some_iff] at h
      obtain ⟨i, h1, rfl⟩ := h
      have lo : Loc X.env.scope x := by rw [hsc]; exact locB_ok hl.1
      exact pg_name (by rw [hN]; exact nd) (by rw [hN]; exact ixOf_ok h1) lo (hf x hl.2)
    · cases h
  · rw [Option.map_eq_some_iff] at h
    obtain ⟨is, h1, rfl⟩ := h
    obtain ⟨a1, a2, a3, _⟩ := ixs_gs hN nd hsc hf _ is h1
    exact pg_tup hc a1 a2 a3
  · cases h
theorem iVal_never {tg e : Expr} : DI X W tg e (iVal dNever) := di_val de_never
theorem ok_it (hr : r.Ok P w K mg base k) (c : COk P w K mg base k R X W) (tg iter : Expr) : DI X W tg iter (rdIt r R tg iter) := by
  unfold rdIt
  split
  · rename_i f p e es pos
    split
    · rename_i hf
      split
      · rename_i h
        rw [Bool.and_eq_true, Bool.and_eq_true] at h
        obtain ⟨⟨hg, hst⟩, hb⟩ := h
        obtain ⟨g1, g2⟩ := gloB_ok c.fc.sc' hg
        have hst' := hst
        rw [List.all_cons, Bool.and_eq_true] at hst'
        subst hf
        exact di_range g1 (by rw [c.fc.mg']; exact c.go.bl _ (of_decide_eq_true hb)) (ok_A hr c _ hst) (star_cons hst'.1) (star_any hst'.2)
      · exact iVal_never
    split
    · rename_i hf
      split
      · rename_i e2
        split
        · rename_i h
          rw [Bool.and_eq_true, Bool.and_eq_true, Bool.and_eq_true] at h
          obtain ⟨⟨⟨hg, hst⟩, hb⟩, ht⟩ := h
          obtain ⟨g1, g2⟩ := gloB_ok c.fc.sc' hg
          have hst' := hst
          rw [List.all_cons, Bool.and_eq_true] at hst'
          subst hf
          cases tg <;> first
            | exact di_zip g1 (by rw [c.fc.mg']; exact c.go.bl _ (of_decide_eq_true hb)) (ok_A hr c _ hst) (star_cons hst'.1) (star_any hst'.2)
            | cases ht
        · exact iVal_never
      · exact iVal_never
    split
    · rename_i hf
      split
      · split
        · rename_i h
          rw [Bool.and_eq_true, Bool.and_eq_true, Bool.and_eq_true] at h
          obtain ⟨⟨⟨hg, hst⟩, hb⟩, ht⟩ := h
          obtain ⟨g1, g2⟩ := gloB_ok c.fc.sc' hg
          have hst' := hst
          rw [List.all_cons, Bool.and_eq_true] at hst'
          subst hf
          cases tg <;> first
            | exact di_enum g1 (by rw [c.fc.mg']; exact c.go.bl _ (of_decide_eq_true hb)) (ok_A hr c _ hst) (star_cons hst'.1)
            | cases ht
        · exact iVal_never
      · exact iVal_never
    · exact di_val (hr.E R X W _ c)
  · split
    · rename_i h
      rw [Bool.and_eq_true, Bool.and_eq_true, Bool.and_eq_true] at h
      obtain ⟨⟨⟨hn, ht⟩, hc⟩, hl⟩ := h
      have hn := of_decide_eq_true hn
      subst hn
      cases tg <;> first
        | exact di_items (hr.E R X W _ c) (base_plain hc) hl
        | cases ht
    · exact di_val (hr.E R X W _ c)
  · exact di_val (hr.E R X W _ c)
theorem ok_ifs (hr : r.Ok P w K mg base k) (c : COk P w K mg base k R X W) {ifs : List Expr} {t : TTD} (h : rdIfs r R ifs = some t) : DTs X W ifs t := by
  unfold rdIfs at h
  split at h
  · cases h; exact dts_nil
  · cases h; exact dts_one (hr.T R X W _ c)
  · cases h
/-- what a list comprehension's rules ask -/
theorem lc_parts (hr : r.Ok P w K mg base k) (c : COk P w K mg base k R X W) {elt tg : Expr} {ifs : List Expr} {scope : Scope} {t : CT} {tt : TTD} (hb : blkC R.N R.sc scope (ownOf R.N scope) = true) (ht : ctOf R.N (R.blk scope).sc (R.blk scope).fo tg = some t) (hi : rdIfs r (R.blk scope) ifs = some tt) :
    BlkOk X.N X.env.scope scope (ownOf R.N scope) ∧ (∀ (s : Shared) (H : Hp) (C : Addr) (cl : List (Str × Addr)) (fp : List Addr), PG (X.blk s H scope (compEnvC scope cl C X.env) fp) tg (gH X.K t)) ∧
      (∀ s0 H0 C cl fp, DTs (X.blk s0 H0 scope (compEnvC scope cl C X.env) fp) W0 ifs tt) ∧ ∀ s0 H0 C cl fp, DE (X.blk s0 H0 scope (compEnvC scope cl C X.env) fp) W0 elt (r.E (R.blk scope) elt) := by
  have hB := blkOk_by hb
  have cb := c.blk scope
  refine ⟨by rw [c.fc.N', c.fc.sc']; exact hB, fun s0 H0 C cl fp => ?_, fun s0 H0 C cl fp => ok_ifs hr (cb s0 H0 C cl fp) hi, fun s0 H0 C cl fp => hr.E _ _ _ elt (cb s0 H0 C cl fp)⟩
  have b := (cb s0 H0 C cl fp).fc
  exact ct_ok (X := X.blk s0 H0 scope (compEnvC scope cl C X.env) fp) b.N' b.nd b.sc' b.calm b.fnl ht
theorem lcO_out {elt : Expr} {gs : List Comprehension} {scope : Scope} {t' : TED} (h : lcO r R elt gs scope = some t') : ∃ tg iter ifs t tt, gs = [⟨tg, iter, ifs, 0⟩] ∧ blkC R.N R.sc scope (ownOf R.N scope) = true ∧ notSet iter = true ∧ ctOf R.N (R.blk scope).sc (R.blk scope).fo tg = some t ∧ rdIfs r (R.blk scope) ifs = some tt ∧
    (∀ i ∈ t.ixs, i ∈ (ownOf R.N scope).map (·.2)) ∧ t' = dLc (rdIt r R tg iter) t tt (r.E (R.blk scope) elt) ((ownOf R.N scope).map (·.2)) := by
  unfold lcO at h
  split at h
  · split at h
    · rename_i hb
      rw [Bool.and_eq_true] at hb
      split at h
      · rename_i t tt ht hi
        split at h
        · rename_i hix
          cases h
          exact ⟨_, _, _, t, tt, rfl, hb.1, hb.2, ht, hi, fun i hm => of_decide_eq_true (List.all_eq_true.mp hix i hm), rfl⟩
        · cases h
      · cases h
    · cases h
  · cases h
theorem ok_lc (hr : r.Ok P w K mg base k) (c : COk P w K mg base k R X W) {elt : Expr} {gs : List Comprehension} {scope : Scope} {pos : Pos} : DE X W (.ListComp elt gs scope pos) (rdLc r R elt gs scope) := by
  unfold rdLc
  split
  · rename_i t' h
    obtain ⟨tg, iter, ifs, t, tt, rfl, h1, h2, h3, h4, h5, rfl⟩ := lcO_out h
    obtain ⟨p1, p2, p3, p4⟩ := lc_parts (elt := elt) hr c h1 h3 h4
    exact de_lc c.fc.calm (by rw [c.fc.N']; exact c.fc.nd) (ok_it hr c _ _) p1 p2 p3 p4 h5 (fun x => set_plain h2)
  · exact de_never
end
end DL
/-! # The D-layer: the reading is right, at any depth -/
namespace DL
open PySem PySem.Spec PyProof.Rows L2
section
variable {P : Program} {w : World} {K : PySem.W.Frag} {mg : Str → Option Value} {base : Heap} {k : Nat} {r : Rd} {R : RC} {X : Cx} {W : WD}
theorem const_eq {c : Const} {j : Nat} {pos : Pos} : DE X W (.Constant c j pos) (stepE r R (.Constant c j pos)) := by
  cases c with
  | int i => exact de_int
  | bool b => exact de_bl
  | none => exact de_non
  | str x => exact de_str
  | _ => exact de_never
theorem revArg_out {x : Str} {e e2 : Expr} {es : List Expr} (h : revArg x e es = some e2) : x = "list" ∧ es = [] ∧ ∃ p pos, e = .Call (.Name "reversed" p) [e2] [] pos := by
  unfold revArg at h
  split at h
  · split at h
    · rename_i hh
      obtain ⟨h1, h2⟩ := hh
      cases h
      subst h2
      exact ⟨h1, rfl, _, _, rfl⟩
    · cases h
  · cases h
theorem ok_call2 (hr : r.Ok P w K mg base k) {f : Str} {p pos : Pos} {e : Expr} {es : List Expr} (c : COk P w K mg base k R X W) : DE X W (.Call (.Name f p) (e :: es) [] pos) (rdCall2 r R f e es) := by
  unfold rdCall2
  split
  · rename_i e2 h2
    obtain ⟨rfl, rfl, p2, pos2, rfl⟩ := revArg_out h2
    split
    · rename_i h
      rw [Bool.and_eq_true, Bool.and_eq_true, Bool.and_eq_true, Bool.and_eq_true] at h
      obtain ⟨⟨⟨⟨h1, h2⟩, h3⟩, h4⟩, h5⟩ := h
      exact de_listRev c.fc.calm (gloB_ok c.fc.sc' h1).1 (by rw [c.fc.mg']; exact c.go.bl _ (of_decide_eq_true h4)) (gloB_ok c.fc.sc' h2).1 (by rw [c.fc.mg']; exact c.go.bl _ (of_decide_eq_true h5)) (hr.E R X W e2 c) (star_cons h3)
    · exact de_never
  · exact ok_call hr c
theorem ok_mk0 (c : COk P w K mg base k R X W) {f : Str} {p pos : Pos} : DE X W (.Call (.Name f p) [] [] pos) (rdMk0 R f) := by
  unfold rdMk0
  split
  · rename_i h
    split
    · rename_i hg
      obtain ⟨g1, g2⟩ := gloB_ok c.fc.sc' hg
      have E := c.cs.mk0 f h
      rw [← c.fc.K', ← c.fc.mg'] at E
      exact de_mk0 E g1 g2
    · exact de_never
  · exact de_never
theorem isArg_out {x T : Str} {es : List Expr} (h : isArg x es = some T) : x = "isinstance" ∧ ∃ p, es = [.Name T p] := by
  unfold isArg at h
  split at h
  · split at h
    · cases h
      exact ⟨‹_›, _, rfl⟩
    · cases h
  · cases h
theorem ok_call3 (hr : r.Ok P w K mg base k) {f : Str} {p pos : Pos} {e : Expr} {es : List Expr} (c : COk P w K mg base k R X W) : DE X W (.Call (.Name f p) (e :: es) [] pos) (rdCall3 r R f e es) := by
  unfold rdCall3
  split
  · rename_i n sp h
    unfold rdMk
    split
    · rename_i hh
      rw [Bool.and_eq_true] at hh
      obtain ⟨hg, hst⟩ := hh
      obtain ⟨g1, g2⟩ := gloB_ok c.fc.sc' hg
      have hst' := hst
      rw [List.all_cons, Bool.and_eq_true] at hst'
      obtain ⟨j, hj, E⟩ := c.cs.mk1 f n sp h
      rw [← c.fc.prog, ← c.fc.w', ← c.fc.K', ← c.fc.mg', ← c.fc.base'] at E
      exact de_mk E (c.fc.room.mono hj) g1 (ok_A hr c _ hst) g2 (star_cons hst'.1) (star_any hst'.2)
    · exact de_never
  · split
    · rename_i T hT
      split
      · rename_i hct
        obtain ⟨rfl, p2, rfl⟩ := isArg_out hT
        unfold rdIsC
        split
        · rename_i hh
          rw [Bool.and_eq_true, Bool.and_eq_true, Bool.and_eq_true] at hh
          obtain ⟨⟨⟨h1, h2⟩, h3⟩, h4⟩ := hh
          obtain ⟨hT1, hT2⟩ := c.cs.isc T hct
          obtain ⟨g3, g4⟩ := gloB_ok c.fc.sc' h3
          exact de_isC (hr.E R X W e c) (gloB_ok c.fc.sc' h1).1 (by rw [c.fc.mg']; exact c.go.bl _ (of_decide_eq_true h2)) g3 (by rw [c.fc.mg', c.fc.K']; exact hT1) g4 (by rw [c.fc.K']; exact hT2) (star_cons h4)
        · exact de_never
      · exact ok_call2 hr c
    · exact ok_call2 hr c
theorem mt_at (c : COk P w K mg base k R X W) (m C : Str) (n : Nat) (sp : DSp) (h : R.cs.mt m C = some (n, sp)) : MthE X.prog X.w X.K X.mg X.base k C m n sp := by
  have E := c.cs.mt m C n sp h
  rw [← c.fc.prog, ← c.fc.w', ← c.fc.K', ← c.fc.mg', ← c.fc.base'] at E
  exact E
theorem ok_mc (hr : r.Ok P w K mg base k) {o : Expr} {name : Str} {apos cpos : Pos} {args : List Expr} (c : COk P w K mg base k R X W) (h : (args.all notStar && notCall o && decide (args.length < 30) && (apos.endLine == cpos.line)) = true) :
    DE X W (.Call (.Attribute o name apos) args [] cpos) (dMC (R.cs.mt name) name (r.E R o) (r.A R args)) := by
  rw [Bool.and_eq_true, Bool.and_eq_true, Bool.and_eq_true] at h
  obtain ⟨⟨⟨h1, h2⟩, h3⟩, h4⟩ := h
  have hf : methodCallForm (args.length + ([] : List Keyword).length) (backTo cpos (starEach args X.env)) (backToKw cpos (keywordEach [] X.env)) = true := by
    unfold methodCallForm
    rw [Bool.and_eq_true, Bool.and_eq_true]
    exact ⟨⟨star_all h1, rfl⟩, h3⟩
  have ht := L2.mcall_of (o := o) (m := name) (apos := apos) (pos := cpos) (args := args) (kws := []) (env := X.env) (base_plain h2) fun ov => L2.mcall_line hf h4
  cases args with
  | nil => exact de_mc0 (hr.E R X W o c) (mt_at c name) c.fc.room c.fc.tk ht
  | cons e es =>
    have h1' := h1
    rw [List.all_cons, Bool.and_eq_true] at h1'
    exact de_mc (hr.E R X W o c) (ok_A hr c _ h1) (mt_at c name) c.fc.room c.fc.tk (star_cons h1'.1) (star_any h1'.2) ht
theorem fl_at (c : COk P w K mg base k R X W) (f C : Str) (h : R.cs.fl f C = true) : Cls X.K (He.ga X.K C) ∧ NoAttr X.K (He.ga X.K C) f := by
  rw [c.fc.K']
  exact c.cs.fl f C h
theorem ok_stepE (hr : r.Ok P w K mg base k) (c : COk P w K mg base k R X W) (e : Expr) : DE X W e (stepE r R e) := by
  have rm := c.rm
  have hu : X.A.units + 64 < cLine := by have := rm.r1; omega
  cases e with
  | Constant cc j pos => exact const_eq
  | Name x pos => exact ok_name c
  | BinOp a op b pos =>
    unfold stepE
    dsimp only
    split
    · rename_i o ho
      exact de_op (bin_ok ho) (hr.E R X W a c) (hr.E R X W b c)
    · exact de_never
  | UnaryOp op a pos =>
    cases op with
    | USub => exact de_neg (hr.E R X W a c)
    | Not => exact de_not (hr.E R X W a c)
    | _ => exact de_never
  | BoolOp op es pos => exact ok_V hr c op pos es
  | Compare a ops bs pos =>
    unfold stepE
    dsimp only
    split
    · split
      · exact de_never
      · rename_i hb
        split
        · rename_i hd
          have e := isDE_out hd
          subst e
          exact de_cmp (dop_eqE hu) (hr.E R X W a c) (hr.E R X W _ c) (by simpa using hb)
        split
        · rename_i o ho
          exact de_cmp (cmp_ok rm ho) (hr.E R X W a c) (hr.E R X W _ c) (by simpa using hb)
        · exact de_never
    · split
      · exact de_never
      · rename_i hb
        split
        · rename_i o o2 ho ho2
          exact de_chain (cmp_ok rm ho) (cmp_ok rm ho2) (hr.E R X W a c) (hr.E R X W _ c) (hr.E R X W _ c) (by simpa using hb)
        · exact de_never
    · exact de_never
  | Tuple es kk pos =>
    unfold stepE
    dsimp only
    split
    · rename_i h
      exact de_tup (ok_A hr c es h)
    · exact de_never
  | List es pos =>
    unfold stepE
    dsimp only
    split
    · rename_i h
      exact de_lst (ok_A hr c es h)
    · exact de_never
  | Dict ks vs pos =>
    unfold stepE
    dsimp only
    split
    · exact de_emp
    · exact de_dOne rm (hr.E R X W _ c) (hr.E R X W _ c)
    · exact de_never
  | Subscript a s pos =>
    cases s with
    | Slice lo hi st p2 =>
      cases st with
      | none => exact de_slice (hr.E R X W a c) (ok_O hr c lo) (ok_O hr c hi)
      | some _ => exact de_never
    | _ =>
      unfold stepE
      dsimp only
      split
      · rename_i h
        exact de_ix (dix rm) (hr.E R X W a c) (hr.E R X W _ c) (ix_plain h)
      · exact de_never
  | Call f args kws cpos =>
    unfold stepE
    dsimp only
    split
    · exact ok_mk0 c
    · exact ok_call3 hr c
    · rename_i o name apos
      split
      · split
        · rename_i h
          exact ok_mc hr c h
        · exact de_never
      split
      · rename_i h
        rw [Bool.and_eq_true, Bool.and_eq_true, Bool.and_eq_true] at h
        obtain ⟨⟨⟨h1, h2⟩, h3⟩, h4⟩ := h
        cases args with
        | nil => exact de_bm0 rm (hr.E R X W o c) (base_plain h2) h4
        | cons e es =>
          have h1' := h1
          rw [List.all_cons, Bool.and_eq_true] at h1'
          refine de_bm rm (hr.E R X W o c) (ok_A hr c _ h1) (base_plain h2) ?_ h4 (star_cons h1'.1) (star_any h1'.2)
          rw [Bool.and_eq_true, Bool.and_eq_true]
          exact ⟨⟨star_all h1, rfl⟩, h3⟩
      · exact de_never
    · exact de_never
  | ListComp elt gs scope pos => exact ok_lc hr c
  | Attribute e f pos =>
    unfold stepE
    dsimp only
    split
    · rename_i h
      exact de_fld (hr.E R X W e c) (fl_at c f) (base_plain h)
    · exact de_never
  | _ => exact de_never
theorem ok_stepT (hr : r.Ok P w K mg base k) (c : COk P w K mg base k R X W) (e : Expr) : DT X W e (stepT r R e) := by
  have rm := c.rm
  have val : ∀ e, plainTest e = true → DT X W e (dTest (stepE r R e)) := fun e h => dt_val (ok_stepE hr c e) (test_plain h)
  cases e with
  | UnaryOp op a pos =>
    cases op with
    | Not => exact dt_not (hr.T R X W a c)
    | _ => exact val _ rfl
  | BoolOp op es pos => exact (ok_W hr c op pos es).dt
  | IfExp _ _ _ _ => exact dt_never
  | Compare a ops bs pos =>
    unfold stepT
    dsimp only
    split
    · split
      · exact dt_never
      · rename_i hb
        split
        · rename_i hd
          have e := isDE_out hd
          subst e
          exact dt_cmp (dop_eqE (by have := rm.r1; omega)) (hr.E R X W a c) (hr.E R X W _ c) (by simpa using hb)
        split
        · rename_i o ho
          exact dt_cmp (cmp_ok rm ho) (hr.E R X W a c) (hr.E R X W _ c) (by simpa using hb)
        · exact dt_never
    · split
      · exact dt_never
      · rename_i hb
        split
        · rename_i o o2 ho ho2
          exact dt_chain (cmp_ok rm ho) (cmp_ok rm ho2) (hr.E R X W a c) (hr.E R X W _ c) (hr.E R X W _ c) (by simpa using hb)
        · exact dt_never
    · exact dt_never
  | _ => exact val _ rfl
/-! ### statements -/
theorem dg_never {tg : Expr} : DG X W tg gNever := ⟨fun _ _ _ _ _ _ _ _ _ _ _ _ _ _ _ _ _ _ h => h.elim⟩
theorem ok_G (hr : r.Ok P w K mg base k) (c : COk P w K mg base k R X W) (tg : Expr) : DG X W tg (rdG r R tg) := by
  have nd : X.N.Nodup := by rw [c.fc.N']; exact c.fc.nd
  cases tg with
  | Name x pos =>
    unfold rdG
    dsimp only
    split
    · rename_i h
      rw [Bool.and_eq_true] at h
      split
      · rename_i i hi
        exact dg_name nd (by rw [c.fc.N']; exact ixOf_ok hi) (by rw [c.fc.sc']; exact locB_ok h.1) (c.fc.fnl x h.2)
      · exact dg_never
    · exact dg_never
  | Tuple es kk pos =>
    unfold rdG
    dsimp only
    split
    · rename_i is hi
      obtain ⟨_, a2, a3, a4⟩ := ixs_gs c.fc.N' c.fc.nd c.fc.sc' c.fc.fnl es is hi
      exact dg_tup c.fc.calm a4 a2 a3
    · exact dg_never
  | Subscript o i pos =>
    unfold rdG
    dsimp only
    split
    · rename_i h
      refine dg_sub c.rm (hr.E R X W o c) (hr.E R X W i c) fun v => ?_
      cases i <;> first | rfl | cases h
    · exact dg_never
  | _ => exact dg_never
theorem sw_none {e tg : Expr} {env : Env} (h : ∀ ts kk p, tg ≠ .Tuple ts kk p) (h2 : ∀ ts p, tg ≠ .List ts p) : swappedStores [tg] e env = pure none := by
  cases tg <;> first | rfl | exact absurd rfl (h _ _ _) | exact absurd rfl (h2 _ _)
theorem sw_none2 {e tg : Expr} {env : Env} (h : ∀ ts kk p, e ≠ .Tuple ts kk p) : swappedStores [tg] e env = pure none := by
  cases tg <;> cases e <;> first | rfl | exact absurd rfl (h _ _ _)
theorem each_one {tg : Expr} {env : Env} (h : notStar tg = true) : (assignEach [tg] env).map (·.2) = [assign tg env] := by
  cases tg <;> first | rfl | cases h
theorem sw_sub {o i o2 i2 : Expr} {p1 p2 p pos : Pos} {k k2 : Nat} {vs : List Expr} {env : Env} : swappedStores [.Tuple [.Subscript o i p1, .Subscript o2 i2 p2] k p] (.Tuple vs k2 pos) env = pure none := by
  unfold swappedStores
  dsimp only [List.filterMap_cons, List.filterMap_nil]
  split
  · rfl
  split
  · rfl
  · rfl
theorem sw_par {x y a b : Str} {px py pa pb p pos : Pos} {k k2 : Nat} {env : Env} (hk : env.scope.kind = .function) (hx : env.scope.names.lookup x = some .local) (hy : env.scope.names.lookup y = some .local) (hl : (py.line == px.line) = true) (hne : x ≠ y)
    (ha : (a == ("__debug__" : Str)) = false) (hb : (b == ("__debug__" : Str)) = false) : swappedStores [.Tuple [.Name x px, .Name y py] k p] (.Tuple [.Name a pa, .Name b pb] k2 pos) env = pure (some [x, y]) := by
  have e1 : (env.kindOf x == some .local) = true := by
    show (env.scope.names.lookup x == some .local) = true
    rw [hx]; rfl
  have e2 : (env.kindOf y == some .local) = true := by
    show (env.scope.names.lookup y == some .local) = true
    rw [hy]; rfl
  have e3 : (env.blockKind != .function) = false := by
    unfold Env.blockKind
    rw [hk]; rfl
  have e4 : (y == x) = false := beq_eq_false_iff_ne.mpr (Ne.symm hne)
  have e5 : ((Expr.Name x px).pos.line) = px.line := rfl
  unfold swappedStores
  dsimp only
  simp only [e1, e2, e3, List.filterMap_cons, List.filterMap_nil, List.head?_cons, Option.map_some, Option.getD_some, e5, hl, beq_self_eq_true, Bool.and_true, Bool.true_and, if_true, List.length_cons, List.length_nil]
  have e6 : ([x, y].eraseDups).length = 2 := by simp [List.eraseDups_cons, e4]
  have e7 : (([Expr.Name a pa, Expr.Name b pb]).all (foldedForSure 8)) = false := rfl
  have e8 : (([Expr.Name a pa, Expr.Name b pb]).all (constantsAlone 8)) = false := by simp [constantsAlone, ha, hb]
  simp only [e6, e7, e8]
  rfl
theorem ok_asg (hr : r.Ok P w K mg base k) (c : COk P w K mg base k R X W) {tg e : Expr} {pos : Pos} (hst : notStar tg = true) : DS1 X W (.Assign [tg] e pos) (rdAsg r R tg e) := by
  have nd : X.N.Nodup := by rw [c.fc.N']; exact c.fc.nd
  have plain : notComp e = true → (∀ ts kk p, e ≠ .Tuple ts kk p) → DS1 X W (.Assign [tg] e pos) (sAsg (r.E R e) (rdG r R tg)) := fun h1 h2 =>
    ds_asg (hr.E R X W e c) (ok_G hr c tg) (show swapsWith e (some tg) pos.line X.env = pure false from comp_plain h1) (sw_none2 h2) (each_one hst)
  cases e with
  | ListComp elt gs scope lpos =>
    cases tg with
    | Name y py =>
      unfold rdAsg
      dsimp only
      split
      · rename_i hl
        rw [Bool.and_eq_true] at hl
        split
        · rename_i h
          rw [Bool.and_eq_true, Bool.not_eq_true'] at h
          split
          · rename_i i t' hi ht'
            obtain ⟨tg, iter, ifs, t, tt, rfl, h1, h2, h3, h4, h5, rfl⟩ := lcO_out ht'
            obtain ⟨p1, p2, p3, p4⟩ := lc_parts (elt := elt) hr c h1 h3 h4
            have hyl : X.env.scope.names.lookup y = some .local := by rw [c.fc.sc']; exact kind_local hl.2
            have hk : X.env.scope.kind = .function := by
              rw [c.fc.sc']
              have q := h.2
              unfold isFn at q
              split at q
              · assumption
              · cases q
            exact ds_setLc c.fc.calm nd (by rw [c.fc.N']; exact ixOf_ok hi) hyl (sw_true hk hyl hl.1 h.1) (ok_it hr c _ _) p1 p2 p3 p4 h5 (fun x => set_plain h2)
          · exact ds1_never
        · exact ds1_never
      · rename_i hl
        refine ds_asg (ok_lc hr c) (ok_G hr c _) ?_ rfl rfl
        show (pure (X.env.blockKind == .function && X.env.kindOf y == some .local && py.line == lpos.line && !(scope.names.any fun (n, k) => n == y && (k == .local || k == .cell))) : Sem Bool) = pure false
        congr 1
        cases h1 : (py.line == lpos.line) with
        | false => simp
        | true =>
          have h2 : kindIs R.sc y .local = false := by
            rw [h1, Bool.true_and] at hl
            simpa using hl
          have h3 : (X.env.kindOf y == some .local) = false := by
            show (X.env.scope.names.lookup y == some .local) = false
            rw [c.fc.sc']
            unfold kindIs at h2
            cases q : R.sc.names.lookup y with
            | none => rfl
            | some kk => rw [q] at h2; cases kk <;> first | rfl | cases h2
          simp [h3]
    | Subscript o i py => exact ds_asg (ok_lc hr c) (ok_G hr c _) rfl rfl rfl
    | _ => exact ds1_never
  | Tuple vs kk p =>
    cases tg with
    | Name y py => exact ds_asg (hr.E R X W _ c) (ok_G hr c _) rfl rfl rfl
    | Subscript o i py => exact ds_asg (hr.E R X W _ c) (ok_G hr c _) rfl rfl rfl
    | Tuple ts k2 p2 =>
      unfold rdAsg rdPar
      dsimp only
      split
      · rename_i x px y py a pa b pb
        split
        · rename_i h
          unfold parOk at h
          simp only [Bool.and_eq_true, Bool.not_eq_true', decide_eq_false_iff_not] at h
          obtain ⟨⟨⟨⟨⟨⟨h1, h2⟩, h3⟩, h4⟩, h5⟩, h6⟩, h7⟩ := h
          have hk : X.env.scope.kind = .function := by
            rw [c.fc.sc']
            unfold isFn at h1
            split at h1
            · assumption
            · cases h1
          split
          · rename_i i j hi hj
            split
            · exact ds1_never
            · rename_i hij
              have lx : X.env.scope.names.lookup x = some .local := by rw [c.fc.sc']; exact kind_local h2
              have ly : X.env.scope.names.lookup y = some .local := by rw [c.fc.sc']; exact kind_local h3
              exact ds_par c.fc.calm nd (by rw [c.fc.N']; exact ixOf_ok hi) (by rw [c.fc.N']; exact ixOf_ok hj) hij lx ly (ok_A hr c _ rfl) rfl (sw_par hk lx ly h4 h5 h6 h7)
          · exact ds1_never
        · exact ds1_never
      · split
        · rename_i h
          rw [Bool.and_eq_true] at h
          exact ds_asg (hr.E R X W _ c) (dg_sub2 c.rm (hr.E R X W _ c) (hr.E R X W _ c) h.1 (hr.E R X W _ c) (hr.E R X W _ c) h.2) rfl sw_sub rfl
        · exact ds1_never
      · exact ds1_never
    | _ => exact ds1_never
  | _ =>
    unfold rdAsg
    dsimp only
    split
    · split
      · rename_i h
        first
          | exact ds_fld (hr.E R X W _ c) (hr.E R X W _ c) (fl_at c _) (comp_plain h)
          | cases h
      · exact ds1_never
    · split
      · rename_i h
        first
          | exact plain h (fun _ _ _ z => by cases z)
          | cases h
      · exact ds1_never
/-! ### suites -/
section
variable {a : Addr} {oe : Obj} {pn : List (Addr × Obj)} {x : Str} {en : Option (Str × Nat)}
theorem cE_ok {X : Cx} {W : WD} {c : Const} {j : Nat} {pos : Pos} : DE X W (.Constant c j pos) (cE c) := by
  cases c with
  | int i => exact de_int
  | bool b => exact de_bl
  | none => exact de_non
  | str x => exact de_str
  | _ => exact de_never
theorem okCl_out {t : Str} (h : okCl R t = true) : gloB R.sc t = true ∧ ((t ∈ R.ex ++ R.ec ∧ t ≠ "ValueError") ∨ (t = "ValueError" ∧ t ∈ R.bl)) := by
  unfold okCl at h
  obtain ⟨h1, h2⟩ := He.ba h
  refine ⟨h1, ?_⟩
  rw [Bool.or_eq_true] at h2
  rcases h2 with h2 | h2
  · obtain ⟨h3, h4⟩ := He.ba h2
    refine .inl ⟨of_decide_eq_true h3, ?_⟩
    simpa using h4
  · obtain ⟨h3, h4⟩ := He.ba h2
    exact .inr ⟨of_decide_eq_true h3, of_decide_eq_true h4⟩
theorem cl_de {t : Str} {pos : Pos} (c : COk P w K mg base k R X W) (h : okCl R t = true) : DE (X.suite a ((a, oe) :: pn)) W0 (.Name t pos) (dC (clD X.K t)) := by
  obtain ⟨hg, h⟩ := okCl_out h
  obtain ⟨g1, g2⟩ := gloB_ok c.fc.sc' hg
  unfold clD
  rcases h with ⟨h1, h2⟩ | ⟨h1, h2⟩
  · rw [if_neg h2]
    have hm := c.xo.mg t h1
    refine de_glob (X := X.suite a ((a, oe) :: pn)) (v := .ref (He.ga X.K t)) g1 (u := .ref (He.ga X.K t)) ?_ rfl (fun _ => .ref _) g2
    show X.mg t = _
    rw [c.fc.mg', c.fc.K']; exact hm
  · rw [if_pos h1]
    have hm : X.mg t = none := by rw [c.fc.mg']; exact c.go.bl t h2
    subst h1
    exact de_of (X := X.suite a ((a, oe) :: pn)) (pe_bltn g1 hm (show bootBuiltins "ValueError" = some (.type "ValueError") from by kernel_rfl) (show L2.RelV (.ty "ValueError") (.type "ValueError") from rfl) (by decide) g2) fun _ H _ _ _ _ _ _ z q => liftN_id z (.ty "ValueError") q
theorem cls_da {pos : Pos} (c : COk P w K mg base k R X W) : ∀ {ts : List Expr} {ys : List Str}, namesOf ts = some ys → ys.all (okCl R) = true → ∃ ta, DA (X.suite a ((a, oe) :: pn)) W0 ts ta ∧ ∀ σ M (Q : List D → Mem → Prop) KX, Q (ys.map (clD X.K)) M → ta σ M Q KX
  | [], ys, h, _ => by
    cases h
    exact ⟨aNil, da_nil, fun σ M Q KX q => q⟩
  | e :: es, ys, h, hal => by
    cases e with
    | Name t p =>
      rw [namesOf] at h
      rw [Option.map_eq_some_iff] at h
      obtain ⟨zs, h1, rfl⟩ := h
      rw [List.all_cons] at hal
      obtain ⟨q1, q2⟩ := He.ba hal
      obtain ⟨ta, d1, d2⟩ := cls_da (pos := pos) c h1 q2
      exact ⟨aCons (dC (clD X.K t)) ta, da_cons (cl_de c q1) d1 rfl, fun σ M Q KX q => d2 σ M _ KX q⟩
    | _ => simp [namesOf] at h
theorem names_star : ∀ {ts : List Expr} {ys : List Str}, namesOf ts = some ys → ys.length = ts.length
  | [], ys, h => by cases h; rfl
  | e :: es, ys, h => by
    cases e with
    | Name t p =>
      rw [namesOf, Option.map_eq_some_iff] at h
      obtain ⟨zs, h1, rfl⟩ := h
      rw [List.length_cons, List.length_cons, names_star h1]
    | _ => simp [namesOf] at h
theorem suIs_ok {v f : Str} {t : Expr} {p p2 pos : Pos} (c : COk P w K mg base k R X W) (hx : x ∈ R.ex) (hz : Zc (.ref (He.ga X.K x)) none oe) (hf : ∃ vs, oe.data = .fields vs) (h1 : f = "isinstance") (h2 : gloB R.sc f = true) (h3 : notStar t = true) (h4 : f ∈ R.bl) :
    DE (X.suite a ((a, oe) :: pn)) W0 (.Call (.Name f p) [.Name v p2, t] [] pos) (suIs R en a x v t) := by
  have never : DE (X.suite a ((a, oe) :: pn)) W0 (.Call (.Name f p) [.Name v p2, t] [] pos) dNever := de_never
  subst h1
  obtain ⟨g1, g2⟩ := gloB_ok c.fc.sc' h2
  have hm : X.mg "isinstance" = none := by rw [c.fc.mg']; exact c.go.bl _ h4
  have XO : XOk X.K X.mg R.ex R.ec := by rw [c.fc.K', c.fc.mg']; exact c.xo
  unfold suIs
  split
  · rename_i er i
    split
    · rename_i hc
      obtain ⟨hc, hc3⟩ := He.ba hc
      obtain ⟨hc1, hc2⟩ := He.ba hc
      have hc1 := of_decide_eq_true hc1
      have hc3 := of_decide_eq_true hc3
      subst hc1
      obtain ⟨v1, v2, v3⟩ := visB_ok hc2
      have dv : DE (X.suite a ((a, oe) :: pn)) W0 (.Name v p2) (dVar i) := de_var (X := X.suite a ((a, oe) :: pn)) (by show X.N[i]? = some v; rw [c.fc.N']; exact ixOf_ok hc3) (by show Vis X.env.scope v; rw [c.fc.sc']; exact v1) v2 v3
      split
      · rename_i t tp
        split
        · rename_i ht
          obtain ⟨_, hy⟩ := okCl_out ht
          have hy' : t = "ValueError" ∨ t ∈ R.ex ++ R.ec := by rcases hy with h | h; exact .inr h.1; exact .inl h.1
          refine DE.imp (de_callB (X := X.suite a ((a, oe) :: pn)) (dc_isE1 XO hx hy' hz hf) g1 hm (show bootBuiltins "isinstance" = some (.builtin "isinstance") from by kernel_rfl) (da_cons dv (da_cons (cl_de c ht) da_nil rfl) rfl) (by decide) g2 rfl rfl) fun σ M K KX ⟨q1, q2⟩ => ?_
          show dVar i σ M _ KX
          unfold dVar
          rw [q1]
          exact ⟨rfl, q2⟩
        · exact never
      · rename_i ts kk tp
        split
        · rename_i ys hys
          split
          · rename_i hal
            obtain ⟨hal, hlen⟩ := He.ba hal
            have hlen := of_decide_eq_true hlen
            obtain ⟨ta, d1, d2⟩ := cls_da (a := a) (oe := oe) (pn := pn) (pos := pos) c hys hal
            have hy' : ∀ y ∈ ys, y = "ValueError" ∨ y ∈ R.ex ++ R.ec := fun y hy => by
              obtain ⟨_, h⟩ := okCl_out (List.all_eq_true.mp hal y hy)
              rcases h with h | h; exact .inr h.1; exact .inl h.1
            refine DE.imp (de_callB (X := X.suite a ((a, oe) :: pn)) (dc_isEN XO hx hy' hz hf) g1 hm (show bootBuiltins "isinstance" = some (.builtin "isinstance") from by kernel_rfl) (da_cons dv (da_cons (de_tup d1) da_nil rfl) rfl) (by decide) g2 rfl rfl) fun σ M K KX ⟨q1, q2⟩ => ?_
            unfold dCB aCons dVar
            rw [q1]
            refine d2 σ M _ KX ⟨by rw [List.length_map]; exact hlen, rfl, q2⟩
          · exact never
        · exact never
      · exact never
    · exact never
  · exact never
theorem suE_ok (c : COk P w K mg base k R X W) (hx : x ∈ R.ex) (hz : Zc (.ref (He.ga X.K x)) none oe) (hf : ∃ vs, oe.data = .fields vs) : ∀ (n : Nat) (e : Expr), DE (X.suite a ((a, oe) :: pn)) W0 e (suE R en a x n e)
  | 0, _ => de_never
  | n + 1, e => by
    have ih := suE_ok c hx hz hf n
    cases e with
    | Constant cc j pos => exact cE_ok
    | Name y pos =>
      unfold suE
      dsimp only
      split
      · rename_i hv
        obtain ⟨v1, v2, v3⟩ := visB_ok hv
        split
        · rename_i i hi
          exact de_var (X := X.suite a ((a, oe) :: pn)) (by show X.N[i]? = some y; rw [c.fc.N']; exact ixOf_ok hi) (by show Vis X.env.scope y; rw [c.fc.sc']; exact v1) v2 v3
        · exact de_never
      · exact de_never
    | BinOp p op q pos =>
      unfold suE
      dsimp only
      split
      · rename_i o ho
        exact de_op (bin_ok ho) (ih p) (ih q)
      · exact de_never
    | BoolOp op es pos =>
      unfold suE
      dsimp only
      split
      · exact de_or (ih _) (de_one (ih _))
      · exact de_never
    | Call f args kws pos =>
      unfold suE
      dsimp only
      split
      · rename_i f p e
        split
        · rename_i h
          obtain ⟨h, h4⟩ := He.ba h
          obtain ⟨h, h3⟩ := He.ba h
          obtain ⟨h1, h2⟩ := He.ba h
          have h1 := of_decide_eq_true h1
          have h4 := of_decide_eq_true h4
          subst h1
          obtain ⟨g1, g2⟩ := gloB_ok c.fc.sc' h2
          exact de_callTy (X := X.suite a ((a, oe) :: pn)) dc_int g1 (by show X.mg _ = none; rw [c.fc.mg']; exact c.go.bl _ h4) boot_int (da_cons (ih e) da_nil (star_cons h3)) (by decide) g2 (star_cons h3) rfl
        · exact de_never
      · rename_i f p v p2 t
        split
        · rename_i h
          obtain ⟨h, h4⟩ := He.ba h
          obtain ⟨h, h3⟩ := He.ba h
          obtain ⟨h1, h2⟩ := He.ba h
          exact suIs_ok c hx hz hf (of_decide_eq_true h1) h2 h3 (of_decide_eq_true h4)
        · exact de_never
      · exact de_never
    | _ => exact de_never
theorem suS_ok (c : COk P w K mg base k R X W) (hx : x ∈ R.ex) (hz : Zc (.ref (He.ga X.K x)) none oe) (hf : ∃ vs, oe.data = .fields vs) : ∀ (n : Nat) (st : List Stmt), DS (X.suite a ((a, oe) :: pn)) W0 st (suS R en a x n st)
  | 0, _ => ds_never
  | n + 1, [] => by unfold suS; exact ds_nil
  | n + 1, st :: rest => by
    have ihE : ∀ e, DE (X.suite a ((a, oe) :: pn)) W0 e (suE R en a x 5 e) := suE_ok c hx hz hf 5
    have nd : X.N.Nodup := by rw [c.fc.N']; exact c.fc.nd
    unfold suS
    refine ds_cons ?_ (suS_ok c hx hz hf n rest)
    split
    · rename_i ts e pos
      split
      · rename_i v p
        split
        · rename_i h
          obtain ⟨h, h4⟩ := He.ba h
          obtain ⟨h, h3⟩ := He.ba h
          obtain ⟨h1, h2⟩ := He.ba h
          split
          · rename_i i hi
            refine ds_asg (ihE e) (dg_name (X := X.suite a ((a, oe) :: pn)) nd (by show X.N[i]? = some v; rw [c.fc.N']; exact ixOf_ok hi) (by show Loc X.env.scope v; rw [c.fc.sc']; exact locB_ok h3) (c.fc.fnl v h4)) (show swapsWith e (some (.Name v p)) pos.line X.env = pure false from comp_plain h1) (sw_none2 fun ts kk p z => ?_) rfl
            subst z
            simp [isTupE] at h2
          · exact ds1_never
        · exact ds1_never
      · exact ds1_never
    · exact ds_ret (ihE _)
    · split
      · rename_i h
        exact ds_if (dt_val (ihE _) (test_plain h)) (suS_ok c hx hz hf n _) ds_nil
      · exact ds1_never
    · exact ds1_never
end
theorem ok_raise {e : Expr} {pos : Pos} (c : COk P w K mg base k R X W) : DS1 X W (.Raise (some e) none pos) (rdRaise R e) := by
  have XO : XOk X.K X.mg R.ex R.ec := by rw [c.fc.K', c.fc.mg']; exact c.xo
  unfold rdRaise
  split
  · split
    · rename_i h
      obtain ⟨h, h3⟩ := He.ba h
      obtain ⟨h1, h2⟩ := He.ba h
      obtain ⟨g1, g2⟩ := gloB_ok c.fc.sc' h3
      exact ds_raise c.fc.calm c.fc.tk XO (of_decide_eq_true h2) g1 g2
    · exact ds1_never
  · exact ds1_never
theorem COk.tr (c : COk P w K mg base k R X W) {W' : WD} {pn : List (Addr × Obj)} {xe : Value → Shared → Prop} (tk : Takes (X.tr pn xe) (WXW X.K W')) (po : PassesOwn (model X.prog X.w) X.A X.env xe) : COk P w K mg base k R (X.tr pn xe) W' :=
  ⟨⟨c.fc.prog, c.fc.w', c.fc.K', c.fc.mg', c.fc.base', c.fc.N', c.fc.nd, c.fc.sc', c.fc.calm, c.fc.fnl, c.fc.room, po, tk, c.fc.st⟩, c.go, c.xo, c.cs⟩
theorem ok_try (hr : r.Ok P w K mg base k) {body : List Stmt} {h : ExceptHandler} {pos : Pos} (c : COk P w K mg base k R X W) : DS1 X W (.Try body [h] [] [] pos) (rdTry r R body h) := by
  have XO : XOk X.K X.mg R.ex R.ec := by rw [c.fc.K', c.fc.mg']; exact c.xo
  have nd : X.N.Nodup := by rw [c.fc.N']; exact c.fc.nd
  unfold rdTry
  split
  · split
    · rename_i h
      obtain ⟨h, h3⟩ := He.ba h
      obtain ⟨h1, h2⟩ := He.ba h
      have h2 := of_decide_eq_true h2
      obtain ⟨g1, g2⟩ := gloB_ok c.fc.sc' h3
      split
      · exact ds_tryNo (c.fc.st h1) g1 g2 c.fc.tk XO h2 (fun W' pn xe tk po => hr.S R _ W' _ (c.tr tk po)) fun x a oe pn hx hz hf => suS_ok c hx hz hf 6 _
      · rename_i n
        split
        · rename_i hn
          split
          · rename_i i hi
            exact ds_tryAs (c.fc.st h1) nd (by rw [c.fc.N']; exact ixOf_ok hi) (by show X.env.scope.names.lookup n = some .local; rw [c.fc.sc']; exact kind_local hn) g1 g2 c.fc.tk XO h2 (fun W' pn xe tk po => hr.S R _ W' _ (c.tr tk po)) fun x a oe pn hx hz hf => suS_ok c hx hz hf 6 _
          · exact ds1_never
        · exact ds1_never
    · exact ds1_never
  · exact ds1_never
theorem ip_ok {op : Operator} {o : D → D → Mem → DK → Prop} (h : rdIp op = some o) : DOp X (inplaceOp op) o := by
  cases op <;> first
    | (cases h; exact dip_add)
    | cases h
theorem ok_S1 (hr : r.Ok P w K mg base k) (c : COk P w K mg base k R X W) (st : Stmt) : DS1 X W st (stepS1 r R st) := by
  have nd : X.N.Nodup := by rw [c.fc.N']; exact c.fc.nd
  cases st with
  | Expr e pos =>
    have gen : notComp e = true → DS1 X W (.Expr e pos) (sDrop (r.E R e)) := fun h => ds_expr (hr.E R X W e c) (comp_plain h)
    cases e with
    | Constant cc j p =>
      cases cc with
      | str x => exact ds_doc
      | _ => exact ds1_never
    | _ =>
      unfold stepS1
      dsimp only
      split
      · rename_i h
        exact gen h
      · exact ds1_never
  | Return e pos =>
    cases e with
    | none => exact ds_retN
    | some e => exact ds_ret (hr.E R X W e c)
  | Assign ts e pos =>
    unfold stepS1
    dsimp only
    split
    · split
      · rename_i h
        exact ok_asg hr c h
      · exact ds1_never
    · exact ds1_never
  | AugAssign t op e pos =>
    cases t with
    | Name x p =>
      unfold stepS1
      dsimp only
      split
      · rename_i i o hi ho
        split
        · rename_i h
          rw [Bool.and_eq_true] at h
          exact ds_aug nd (by rw [c.fc.N']; exact ixOf_ok hi) (by rw [c.fc.sc']; exact locB_ok h.1) (hr.E R X W e c) (ip_ok ho) (c.fc.fnl x h.2)
        · exact ds1_never
      · exact ds1_never
    | _ => exact ds1_never
  | If cd a b pos => exact ds_if (hr.T R X W cd c) (hr.S R X W a c) (hr.S R X W b c)
  | While cd body els pos =>
    cases els with
    | nil => exact ds_while c.fc.own (hr.T R X W cd c) (hr.S R X W body c)
    | cons _ _ => exact ds1_never
  | For tg iter body els pos =>
    cases els with
    | nil =>
      unfold stepS1
      dsimp only
      split
      · rename_i h
        exact ds_for c.fc.own c.fc.calm (ok_it hr c tg iter) (ok_G hr c tg) (hr.S R X W body c) (fun x => set_plain h)
      · exact ds1_never
    | cons _ _ => exact ds1_never
  | Raise e cc pos =>
    unfold stepS1
    dsimp only
    split
    · exact ok_raise c
    · exact ds1_never
  | Try body hs els fin pos =>
    unfold stepS1
    dsimp only
    split
    · exact ok_try hr c
    · exact ds1_never
  | Pass pos => exact ds_pass
  | Break pos => exact ds_break
  | Continue pos => exact ds_cont
  | _ => exact ds1_never
theorem ok_stepS (hr : r.Ok P w K mg base k) (c : COk P w K mg base k R X W) : ∀ st : List Stmt, DS X W st (stepS r R st)
  | [] => ds_nil
  | st :: rest => ds_cons (ok_S1 hr c st) (ok_stepS hr c rest)
theorem rd_ok : ∀ n : Nat, (rdN n).Ok P w K mg base k
  | 0 => ⟨fun _ _ _ _ _ => de_never, fun _ _ _ _ _ => dt_never, fun _ _ _ _ _ => ds_never⟩
  | n + 1 => ⟨fun _ _ _ e c => ok_stepE (rd_ok n) c e, fun _ _ _ e c => ok_stepT (rd_ok n) c e, fun _ _ _ st c => ok_stepS (rd_ok n) c st⟩
end
end DL
/-! # The D-layer: defs by their data -/
namespace DL
open PySem PySem.Spec PyProof.Rows L2
/-- names of the module, by a list -/
def glOf : List (Str × GE) → Str → Option GE
  | [], _ => none
  | (y, g) :: r, x => if y = x then some g else glOf r x
section
variable {P : Program} {w : World} {K : PySem.W.Frag} {mg : Str → Option Value} {base : Heap} {k n : Nat} {x : Str} {st : Stmt} {N ps : List Str} {gl : Str → Option GE} {bl : List Str} {f : Addr} {fd : FuncData} {sp : DSp} {dvs : List V} {ex ec : List Str}
/-- a def (a method too) keeps its promise -/
theorem def_okC {q : Str} {cs : ClE} {t : TSD} (F : FunD K x q (defArgs st) (defBody st) (defScope st) dvs [] f fd) (S : FnScope N ps (defScope st)) (G : GOk P w K mg base k gl bl) (XO : XOk K mg ex ec) (CS : CsOk P w K mg base k cs) (ht : (rdN n).S ⟨N, defScope st, gl, bl, fun _ => true, true, ex, ec, cs⟩ (defBody st) = t)
    (hsp : ∀ (ds : List D) (M : Mem) (Kd : DK) (KX : DX), ds.length = ps.length → sp ds M Kd KX → t (endsF Kd KX) (startD N ds) M) : FnOk P w K mg base (L2.CX P w) (k + 1) f fd ps (toSp P w K ps.length sp) := by
  obtain ⟨oc, od, dV, kV, doc, pm, an, cdv, ct, osl, rfl, lk, hcd, _, _⟩ := F.ex
  refine dfn_of lk hcd S (fun X W fc => ?_) hsp
  rw [← ht]
  exact (rd_ok n).S _ X W _ ⟨fc, G, XO, CS⟩
/-- .. where no class is asked -/
theorem def_ok {t : TSD} (F : FunD K x x (defArgs st) (defBody st) (defScope st) dvs [] f fd) (S : FnScope N ps (defScope st)) (G : GOk P w K mg base k gl bl) (XO : XOk K mg ex ec) (ht : (rdN n).S ⟨N, defScope st, gl, bl, fun _ => true, true, ex, ec, .no⟩ (defBody st) = t)
    (hsp : ∀ (ds : List D) (M : Mem) (Kd : DK) (KX : DX), ds.length = ps.length → sp ds M Kd KX → t (endsF Kd KX) (startD N ds) M) : FnOk P w K mg base (L2.CX P w) (k + 1) f fd ps (toSp P w K ps.length sp) := def_okC F S G XO csok_no ht hsp
/-- as a name of the module: no defaults -/
theorem fne_of (F : FunD K x x (defArgs st) (defBody st) (defScope st) [] [] f fd) (hf : FnOk P w K mg base (L2.CX P w) k f fd ps (toSp P w K ps.length sp)) (hm : mg x = some (.ref f))
    (hb : ∀ (kV doc pm : Value) (an : Option Addr) (cdv ct : Value) (us : List Value), us.length = ps.length → bindArgs (PySem.W.fnOf x x (defArgs st) (defBody st) (defScope st) .none kV doc pm an cdv ct) ⟨us, []⟩ = pure (ps.zip us)) : FnE P w K mg base k x ps.length [] sp := by
  refine ⟨f, fd, ps, hf, rfl, hm, F.kp, fun j hj => ⟨[], [], F.bindsN hb, .nil, fun H => ?_⟩⟩
  rw [List.drop_nil]
  exact .nil
/-- one default, None -/
theorem fne_of1 (F : FunD K x x (defArgs st) (defBody st) (defScope st) [.non] [] f fd) (hf : FnOk P w K mg base (L2.CX P w) k f fd ps (toSp P w K ps.length sp)) (hm : mg x = some (.ref f)) (hp : 0 < ps.length)
    (h : ∀ (n j : Nat), (n = ps.length ∧ j = 1) ∨ (n + 1 = ps.length ∧ j = 0) → ∀ (T : Addr) (kV doc pm : Value) (an : Option Addr) (cdv ct : Value) (us its : List Value), us.length = n → its.length = 1 →
      ∃ k, bindArgs (PySem.W.fnOf x x (defArgs st) (defBody st) (defScope st) (.ref T) kV doc pm an cdv ct) ⟨us, []⟩ = seqItems? (.ref T) >>= k ∧ k (some its.toArray) = pure (ps.zip (us ++ its.drop j))) : FnE P w K mg base k x ps.length [.non] sp := by
  refine ⟨f, fd, ps, hf, rfl, hm, F.kp, fun j hj => ?_⟩
  have hj1 : j = 0 ∨ j = 1 := by have : j ≤ 1 := hj; omega
  rcases hj1 with rfl | rfl
  · obtain ⟨ds, h1, h2⟩ := F.binds1 ps.length 1 (by decide) (by simp) (h ps.length 1 (.inl ⟨rfl, rfl⟩))
    exact ⟨ds, _, h2, h1, fun H => .nil⟩
  · obtain ⟨ds, h1, h2⟩ := F.binds1 (ps.length - 1) 0 (by decide) (by show ps.length - 1 + 1 = _; omega) (h (ps.length - 1) 0 (.inr ⟨by omega, rfl⟩))
    exact ⟨ds, _, h2, h1, fun H => .cons .non .nil⟩
theorem FnE.mono {k' : Nat} {dvs : List D} (h : FnE P w K mg base k x n dvs sp) (hk : k ≤ k') : FnE P w K mg base k' x n dvs sp := by
  obtain ⟨f, fd, ps, h1, h2⟩ := h
  exact ⟨f, fd, ps, h1.mono hk, h2⟩
theorem gok_nil (hb : ∀ x ∈ bl, mg x = none) : GOk P w K mg base k (glOf []) bl := ⟨fun _ _ _ _ h => (by cases h), fun _ _ h => (by cases h), hb⟩
theorem gok_fn {l : List (Str × GE)} {dvs : List D} (G : GOk P w K mg base k (glOf l) bl) (h : FnE P w K mg base k x n dvs sp) : GOk P w K mg base k (glOf ((x, .fn n dvs sp) :: l)) bl := by
  refine ⟨fun y m d s e => ?_, fun y d e => ?_, G.bl⟩
  · rw [glOf] at e
    split at e
    · rename_i q; subst q; cases e; exact h
    · exact G.fn y m d s e
  · rw [glOf] at e
    split at e
    · cases e
    · exact G.con y d e
theorem gok_con {l : List (Str × GE)} {d : D} (G : GOk P w K mg base k (glOf l) bl) {u : Value} {v : V} (h1 : mg x = some u) (h2 : L2.RelV v u) (h3 : ∀ H, Rep H d v) : GOk P w K mg base k (glOf ((x, .con d) :: l)) bl := by
  refine ⟨fun y m dv s e => ?_, fun y d' e => ?_, G.bl⟩
  · rw [glOf] at e
    split at e
    · cases e
    · exact G.fn y m dv s e
  · rw [glOf] at e
    split at e
    · rename_i q; subst q; cases e; exact ⟨u, v, h1, h2, h3⟩
    · exact G.con y d' e
/-- the head's promise -/
theorem sp_head {H : Hp} {a : Addr} {ns : List Int} (hO : Only H) (hS : SqL K H a (ns.map V.int)) (h : ∀ M : Mem, M a = some (.ro (ns.map D.int)) → sp [.ref a] M (fun d _ => d = .bl true) (fun _ _ => False)) :
    toSp P w K 1 sp [.ref a] H (fun v _ => v = .bl true) fun _ _ _ => False := by
  refine ⟨rfl, fun _ => none, fun b => if b = a then some (.ro (ns.map D.int)) else none, [.ref a], _, _, ⟨fun b o e => ?_, fun b o e => (by cases e), fun b o z e f q => (by cases q)⟩, .cons (.ref a) .nil, h _ (by simp), fun v H' ⟨d, M', r, _, _, q⟩ => ?_, fun c M' H' q _ _ => q⟩
  · split at e
    · rename_i q
      subst q
      cases e
      refine ⟨ns.map V.int, ?_, Reps.of_ints ns⟩
      rcases hS with (h | ⟨o, h⟩) | h
      · rcases hO b with q | ⟨_, _, q⟩
        · rw [h] at q; cases q
        · rw [h] at q; cases q
      · exact .inl ⟨o, h⟩
      · exact .inr h
    · cases e
  · subst q
    exact r.bl_inv
end
end DL
/-! # The D-layer: the walk's end -/
namespace DL
open PySem PySem.Spec PyProof.Rows L2
/-! ### the head's facts, and one more thing that is seen -/
abbrev AlX : Type := Bool × He.AlD
def obsX (p : PySem.W.Frag → Bool) (fa : List He.Fa) (fn : List He.DefD) (K : PySem.W.Frag) : AlX := (p K, He.obsD fa fn K)
def valX (fn : List He.DefD) : AlX := (true, He.valD fn)
def SaysX (p : PySem.W.Frag → Bool) (fa : List He.Fa) (fn : List He.DefD) (K : PySem.W.Frag) : Prop := obsX p fa fn K = valX fn
def obsXG (n : Nat) (p : PySem.W.Frag → Bool) (fa : List He.Fa) (fn : List He.DefD) (g : Addr → Option Obj) : AlX := obsX p fa fn (He.frG g (He.asD g n))
def hookX (n : Nat) (p : PySem.W.Frag → Bool) (fa : List He.Fa) (fn : List He.DefD) : PySem.W.Hook :=
  { α := AlX, obs := fun s => obsXG n p fa fn s.heap.get?, val := fun _ => valX fn, says := fun _ h => ∃ K : PySem.W.Frag, K.In h ∧ SaysX p fa fn K,
    of := fun _ _ e => ⟨_, He.frG_in, e⟩, keeps := fun _ _ _ ⟨K, kin, c⟩ kp => ⟨K, PySem.W.Frag.In.keeps kin kp, c⟩ }
theorem obsXG_eq {n : Nat} {p : PySem.W.Frag → Bool} {fa : List He.Fa} {fn : List He.DefD} {g : Addr → Option Obj} {s : Shared} (h : ∀ a, g a = s.heap.get? a) : obsXG n p fa fn g = (hookX n p fa fn).obs s := by
  have e : g = s.heap.get? := funext h
  subst e
  rfl
theorem SaysX.p {p : PySem.W.Frag → Bool} {fa : List He.Fa} {fn : List He.DefD} {K : PySem.W.Frag} (c : SaysX p fa fn K) : p K = true := congrArg Prod.fst c
theorem SaysX.s {p : PySem.W.Frag → Bool} {fa : List He.Fa} {fn : List He.DefD} {K : PySem.W.Frag} (c : SaysX p fa fn K) : He.SaysD fa fn K := congrArg Prod.snd c
theorem walk_d {l : PySem.W.OpenLaw} {n k : Nat} {q : Program} {loose : List Str} {XP : (Str → Option Value) → Heap → Prop} {YP : World → Heap → Prop} {d : DefRec} {x : Str}
    (hn : l.most = some n) (hn2 : n ≤ sizeLine) (hdf : d.params.defaults = []) (hr : Room k callerA)
    (F : ∀ (w : World) (mg : Str → Option Value) (fa : Addr) (h : Heap), YP w h → h.Ns mainGlobals mg → mg d.name = some (.ref fa) →
      ∃ (K : PySem.W.Frag) (fd : FuncData) (sp : DSp), K.In h ∧ (∀ (s : Shared) (u : Value), BindsTo s fd ⟨[u], []⟩ [(x, u)]) ∧
        (∀ (a : Addr) (ns : List Int), ns.length ≤ n → ∀ M : Mem, M a = some (.ro (ns.map D.int)) → sp [.ref a] M (fun d _ => d = .bl true) (fun _ _ => False)) ∧
        ∀ base : Heap, K.In base → base.Ns mainGlobals mg → FnOk l.prog w K mg base (L2.CX l.prog w) k fa fd [x] (toSp l.prog w K 1 sp)) :
    PySem.W.WalkO q loose XP YP l.row.toRowW d [] (fun f vs => PySem.call f vs) := by
  refine Att.attach_call hn hdf fun w s₀ s₁ mg mb fa o pm cd doc a vs ns G Y ho hd hcd hmg hobj hints hlen hg => ?_
  obtain ⟨K, fd, sp, KX, hb, hsp, hF⟩ := F w mg fa _ Y G.T.g hmg
  exact law_call KX G.T.g G.T.b G.T.builtins G.T.nolimit hg hobj hints (Nat.le_trans hlen hn2) hr hF hb (fun H hO hS => sp_head hO hS (hsp a ns hlen)) fun H e s' h => by
    obtain ⟨_, _, _, _, _, _, _, _, _, _, _, _, z⟩ := h
    exact z
end DL
/-! # Readings at work: what they are, on values that are told -/
namespace DL
open PySem PySem.Spec PyProof.Rows L2
/-! ### cells, lists of them -/
abbrev Cell := Int × Int
def cD (p : Cell) : D := .tup [.int p.1, .int p.2]
theorem cD_inj {p q : Cell} : cD p = cD q ↔ p = q := by
  obtain ⟨a, b⟩ := p
  obtain ⟨c, d⟩ := q
  simp [cD]
theorem okE_int (i : Int) : okE (.int i) = true := rfl
theorem okE_cD (p : Cell) : okE (cD p) = true := rfl
theorem okE_non : okE .non = true := rfl
theorem okK_cD (p : Cell) : okK (cD p) = true := rfl
/-- a tile -/
abbrev Tile := Cell × Cell
def tD (t : Tile) : D := .tup [cD t.1, cD t.2]
theorem tD_inj {p q : Tile} : tD p = tD q ↔ p = q := by
  obtain ⟨a, b⟩ := p
  obtain ⟨c, d⟩ := q
  simp [tD, cD_inj]
theorem okE_tD (p : Tile) : okE (tD p) = true := rfl
theorem okK_tD (p : Tile) : okK (tD p) = true := rfl
/-! ### operators -/
section
variable {M : Mem} {K : DK} {i j : Int}
theorem add_int : addD (.int i) (.int j) M K = K (.int (i + j)) M := rfl
theorem sub_int : subD (.int i) (.int j) M K = K (.int (i - j)) M := rfl
theorem iad_int : iadD (.int i) (.int j) M K = K (.int (i + j)) M := rfl
theorem mul_int : mulD (.int i) (.int j) M K = (mulOk i j ∧ K (.int (i * j)) M) := rfl
theorem div_int : fdvD (.int i) (.int j) M K = (divOk i j ∧ K (.int (i.fdiv j)) M) := rfl
theorem mod_int : modD (.int i) (.int j) M K = (j ≠ 0 ∧ K (.int (i.fmod j)) M) := rfl
theorem pow_int : powD (.int i) (.int j) M K = (powOk i j ∧ K (.int (i ^ j.toNat)) M) := rfl
theorem shl_int : shlD (.int i) (.int j) M K = (powOk i j ∧ K (.int (i * 2 ^ j.toNat)) M) := rfl
theorem shr_int : shrD (.int i) (.int j) M K = (0 ≤ j ∧ K (.int (i / 2 ^ j.toNat)) M) := rfl
theorem ban_int : banD (.int i) (.int j) M K = K (.int (Builtin.bitAnd i j)) M := rfl
theorem bor_int : borD (.int i) (.int j) M K = K (.int (Builtin.bitOr i j)) M := rfl
theorem bxr_int : bxrD (.int i) (.int j) M K = K (.int (Builtin.bitXor i j)) M := rfl
theorem le_int' : leD (.int i) (.int j) M K = K (.bl (decide (i ≤ j))) M := rfl
theorem gt_int' : gtD (.int i) (.int j) M K = K (.bl (decide (j < i))) M := rfl
theorem ge_int' : geD (.int i) (.int j) M K = K (.bl (decide (j ≤ i))) M := rfl
theorem lt_int' : ltD (.int i) (.int j) M K = K (.bl (decide (i < j))) M := rfl
theorem eqM_ok {x y : D} (hx : okE x = true) (hy : okE y = true) : eqM M x y = some (decide (x = y)) := by
  unfold eqM
  rw [hx, hy]; rfl
theorem eq_int' : eqD (.int i) (.int j) M K = K (.bl (decide (i = j))) M := by
  unfold eqD
  rw [eqM_ok (okE_int i) (okE_int j)]
  simp [onS]
theorem ne_int' : neD (.int i) (.int j) M K = K (.bl (!decide (i = j))) M := by
  unfold neD
  rw [eqM_ok (okE_int i) (okE_int j)]
  simp [onS]
theorem eq_ok {x y : D} (hx : okE x = true) (hy : okE y = true) : eqD x y M K = K (.bl (decide (x = y))) M := by
  unfold eqD
  rw [eqM_ok hx hy]; rfl
theorem ne_ok {x y : D} (hx : okE x = true) (hy : okE y = true) : neD x y M K = K (.bl (!decide (x = y))) M := by
  unfold neD
  rw [eqM_ok hx hy]; rfl
theorem eqM_list {x y : D} {xs ys : List D} {a b : Addr} (hx : x = .ref a) (hy : y = .ref b) (h1 : lsOf M x = some xs) (h2 : lsOf M y = some ys) (f1 : xs.all okE = true) (f2 : ys.all okE = true) : eqM M x y = some (decide (xs = ys)) := by
  subst hx
  subst hy
  unfold eqM
  rw [if_neg (by simp [okE, flatE])]
  dsimp only
  rw [h1, h2]
  dsimp only
  rw [if_pos (by rw [f1, f2]; rfl)]
theorem is_non {x : D} : isD x .non M K = K (.bl (decide (x = .non))) M := rfl
theorem isnot_non {x : D} : isnotD x .non M K = K (.bl (!decide (x = .non))) M := rfl
theorem mulOk_of {i j : Int} (h : -(2 ^ 64) < i ∧ i < 2 ^ 64 ∨ -(2 ^ 64) < j ∧ j < 2 ^ 64) : mulOk i j := .inl h
theorem divOk_of {i j : Int} (h : j ≠ 0) (h2 : j.natAbs.log2 < 9000) : divOk i j := ⟨h, h2⟩
end
/-! ### subscripts -/
section
variable {M : Mem} {K : DK}
theorem dix_c0 {p : Cell} : dIx (cD p) (.int 0) M K = K (.int p.1) M := rfl
theorem dix_c1 {p : Cell} : dIx (cD p) (.int 1) M K = K (.int p.2) M := rfl
theorem dix_t0 {p : Tile} : dIx (tD p) (.int 0) M K = K (cD p.1) M := rfl
theorem dix_t1 {p : Tile} : dIx (tD p) (.int 1) M K = K (cD p.2) M := rfl
theorem dix_ls {x : D} {xs : List D} {i : Int} (h : lsOf M x = some xs) : dIx x (.int i) M K = onS (atI xs i) fun d => K d M := by
  obtain ⟨a, rfl, _⟩ := lsOf_out h
  unfold dIx
  have e : sqOf M (.ref a) = some xs := h
  rw [e]
theorem dix_at {x d : D} {xs : List D} {i : Int} (h : lsOf M x = some xs) (hd : atI xs i = some d) : dIx x (.int i) M K = K d M := by
  rw [dix_ls h, hd]; rfl
theorem sq_c {p : Cell} : sqOf M (cD p) = some [.int p.1, .int p.2] := rfl
theorem sq_t {p : Tile} : sqOf M (tD p) = some [cD p.1, cD p.2] := rfl
theorem ls_up {p : Addr} {xs : List D} : lsOf (up M p (.lst xs)) (.ref p) = some xs := by
  unfold lsOf
  dsimp only
  rw [up_same]
theorem ls_ne {p a : Addr} {o : DO} (h : a ≠ p) : lsOf (up M p o) (.ref a) = lsOf M (.ref a) := by
  unfold lsOf
  dsimp only
  rw [up_ne h]
theorem ls_le {M' : Mem} {x : D} {xs : List D} (le : Le M M') (h : lsOf M x = some xs) : lsOf M' x = some xs := by
  obtain ⟨a, rfl, h | h⟩ := lsOf_out h
  · unfold lsOf; dsimp only; rw [le _ _ h]
  · unfold lsOf; dsimp only; rw [le _ _ h]
theorem sq_le {M' : Mem} {x : D} {xs : List D} (le : Le M M') (h : sqOf M x = some xs) : sqOf M' x = some xs := by
  cases x with
  | tup ds => exact h
  | ref a => exact ls_le (x := .ref a) le h
  | _ => cases h
theorem ls_of {a : Addr} {xs : List D} (h : M a = some (.lst xs)) : lsOf M (.ref a) = some xs := by
  unfold lsOf; dsimp only; rw [h]
theorem ls_ro {a : Addr} {xs : List D} (h : M a = some (.ro xs)) : lsOf M (.ref a) = some xs := by
  unfold lsOf; dsimp only; rw [h]
theorem lt_of' {a : Addr} {xs : List D} (h : M a = some (.lst xs)) : ltOf M (.ref a) = some (a, xs) := by
  unfold ltOf; dsimp only; rw [h]
theorem ls_there {a : Addr} {xs : List D} (h : lsOf M (.ref a) = some xs) : ∃ o, M a = some o := by
  obtain ⟨b, e, h | h⟩ := lsOf_out h
  · cases e; exact ⟨_, h⟩
  · cases e; exact ⟨_, h⟩
theorem le_up {p : Addr} {o : DO} (h : M p = none) : Le M (up M p o) := Le.refl.new h
/-- in a list, in a tuple -/
theorem in_ok {x y : D} {ys : List D} (hy : sqOf M y = some ys) (hx : okE x = true) (h : ys.all okE = true) : inD x y M K = K (.bl (decide (x ∈ ys))) M := by
  unfold inD inM
  rw [hy]
  dsimp only
  rw [hx, h]
  rfl
theorem notIn_ok {x y : D} {ys : List D} (hy : sqOf M y = some ys) (hx : okE x = true) (h : ys.all okE = true) : notInD x y M K = K (.bl (!decide (x ∈ ys))) M := by
  unfold notInD inM
  rw [hy]
  dsimp only
  rw [hx, h]
  rfl
theorem in_ls {x : D} {a : Addr} {ys : List D} (hy : lsOf M (.ref a) = some ys) (hx : okE x = true) (h : ys.all okE = true) : inD x (.ref a) M K = K (.bl (decide (x ∈ ys))) M := in_ok (y := .ref a) hy hx h
theorem notIn_ls {x : D} {a : Addr} {ys : List D} (hy : lsOf M (.ref a) = some ys) (hx : okE x = true) (h : ys.all okE = true) : notInD x (.ref a) M K = K (.bl (!decide (x ∈ ys))) M := notIn_ok (y := .ref a) hy hx h
theorem all_cD (ps : List Cell) : (ps.map cD).all okE = true := by
  rw [List.all_map]; exact List.all_eq_true.mpr fun x _ => rfl
theorem all_tD (ps : List Tile) : (ps.map tD).all okE = true := by
  rw [List.all_map]; exact List.all_eq_true.mpr fun x _ => rfl
theorem mem_cD {p : Cell} {ps : List Cell} : cD p ∈ ps.map cD ↔ p ∈ ps := by
  rw [List.mem_map]
  constructor
  · rintro ⟨q, h1, h2⟩; rw [cD_inj] at h2; rw [← h2]; exact h1
  · intro h; exact ⟨p, h, rfl⟩
theorem mem_tD {p : Tile} {ps : List Tile} : tD p ∈ ps.map tD ↔ p ∈ ps := by
  rw [List.mem_map]
  constructor
  · rintro ⟨q, h1, h2⟩; rw [tD_inj] at h2; rw [← h2]; exact h1
  · intro h; exact ⟨p, h, rfl⟩
end
/-! ### loops -/
section
variable {α : Type} {e : α → D}
theorem for_inv {g : TGD} {tb : TSD} {chk : Mem → Prop} {B : DEnds} (I : List α → DSt → Mem → Prop)
    (step : ∀ x r σ M, I (x :: r) σ M → ∀ N : DSt → Mem → Prop, (∀ σ' M', I r σ' M' → N σ' M') → chk M ∧ g (e x) σ M (fun σ1 M1 => tb { B with nx := N, ct := N, bk := B.nx } σ1 M1) (B.kx σ))
    (done : ∀ σ M, I [] σ M → chk M ∧ B.nx σ M) : ∀ (xs : List α) (σ : DSt) (M : Mem), I xs σ M → forD g tb chk B (xs.map e) σ M
  | [], σ, M, h => done σ M h
  | x :: r, σ, M, h => step x r σ M h _ fun σ' M' h' => for_inv I step done r σ' M' h'
theorem lc_inv {t : CT} {tt : TTD} {te : TED} {vs : List Nat} {chk : Mem → Prop} {σ : DSt} {K : List D → Mem → Prop} (I : List α → List D → Mem → Prop)
    (step : ∀ x r acc M, I (x :: r) acc M → ∀ N : List D → Mem → Prop, (∀ acc' M', I r acc' M' → N acc' M') → chk M ∧ onS (bindC t (e x) (wipeD σ vs) M) fun σ2 => tt σ2 M (fun b M3 => match b with
      | true => te σ2 M3 (fun y M4 => acc.length < big ∧ N (acc ++ [y]) M4) (fun _ _ => False)
      | false => N acc M3) (fun _ _ => False))
    (done : ∀ acc M, I [] acc M → chk M ∧ K acc M) : ∀ (xs : List α) (acc : List D) (M : Mem), I xs acc M → lcD t tt te vs chk σ K (xs.map e) acc M
  | [], acc, M, h => done acc M h
  | x :: r, acc, M, h => step x r acc M h _ fun acc' M' h' => lc_inv I step done r acc' M' h'
/-- a comprehension that keeps what is known: item by item -/
theorem lc_fm {t : CT} {tt : TTD} {te : TED} {vs : List Nat} {chk : Mem → Prop} {σ : DSt} {K : List D → Mem → Prop} (p : α → Bool) (f : α → D) {xs : List α} {M : Mem} (hchk : ∀ M', Le M M' → chk M')
    (step : ∀ x ∈ xs, ∀ M', Le M M' → ∃ σ2, bindC t (e x) (wipeD σ vs) M' = some σ2 ∧ (∀ Q : Bool → Mem → Prop, (∀ M'', Le M' M'' → Q (p x) M'') → tt σ2 M' Q (fun _ _ => False)) ∧
      (p x = true → ∀ M2, Le M' M2 → ∀ Q : DK, (∀ M'', Le M2 M'' → Q (f x) M'') → te σ2 M2 Q (fun _ _ => False)))
    (hl : xs.length ≤ big) (h : ∀ M', Le M M' → K ((xs.filter p).map f) M') : lcD t tt te vs chk σ K (xs.map e) [] M := by
  refine lc_inv (fun r acc M' => Le M M' ∧ ∃ pre, xs = pre ++ r ∧ acc = (pre.filter p).map f) ?_ ?_ xs [] M ⟨Le.refl, [], rfl, rfl⟩
  · rintro x r acc M' ⟨le, pre, hx, rfl⟩ N hN
    refine ⟨hchk M' le, ?_⟩
    obtain ⟨σ2, hb, ht, he⟩ := step x (by rw [hx]; simp) M' le
    rw [hb, onS_some]
    refine ht _ fun M3 le3 => ?_
    cases hp : p x with
    | false => exact hN _ _ ⟨le.trans le3, pre ++ [x], by rw [hx]; simp, by simp [List.filter_append, hp]⟩
    | true =>
      refine he hp M3 le3 _ fun M4 le4 => ⟨?_, hN _ _ ⟨(le.trans le3).trans le4, pre ++ [x], by rw [hx]; simp, by simp [List.filter_append, hp]⟩⟩
      have h1 := List.length_filter_le p pre
      rw [List.length_map]
      have h2 : xs.length = pre.length + (r.length + 1) := by rw [hx]; simp
      omega
  · rintro acc M' ⟨le, pre, hx, rfl⟩
    rw [List.append_nil] at hx
    subst hx
    exact ⟨hchk M' le, h M' le⟩
theorem while_inv {tc : TTD} {tb : TSD} {B : DEnds} (I : Nat → DSt → Mem → Prop)
    (step : ∀ m σ M, I m σ M → ∀ N : DSt → Mem → Prop, (∀ m' σ' M', m' < m → I m' σ' M' → N σ' M') → tc σ M (fun b M1 => match b with
      | true => tb { B with nx := N, ct := N, bk := B.nx } σ M1
      | false => B.nx σ M1) (B.kx σ)) (m : Nat) (σ : DSt) (M : Mem) (h : I m σ M) : sWhile tc tb B σ M := by
  have go : ∀ n m σ M, m < n → I m σ M → whileD tc tb B n σ M := by
    intro n
    induction n with
    | zero => intro m σ M h _; exact absurd h (Nat.not_lt_zero _)
    | succ n ih =>
      intro m σ M hm h
      exact step m σ M h _ fun m' σ' M' h1 h2 => ih m' σ' M' (by omega) h2
  exact ⟨m + 1, go _ m σ M (Nat.lt_succ_self m) h⟩
end
/-! ### more of the memory -/
section
variable {M M' : Mem} {p a : Addr} {o : DO} {K : DK}
theorem Le.upn (h : Le M M') (hp : M p = none) : Le M (up M' p o) := fun b u e => by
  rw [up_ne (ne_of_M e hp)]
  exact h b u e
theorem tyM_ls {xs : List D} (h : lsOf M (.ref a) = some xs) : tyM M (.ref a) = some "list" := by
  obtain ⟨b, e, h | h⟩ := lsOf_out h
  · cases e; simp [tyM, h]
  · cases e; simp [tyM, h]
theorem isi_list {xs : List D} (h : lsOf M (.ref a) = some xs) : isiD [.ref a, .ty "list"] M K = K (.bl true) M := by
  unfold isiD
  dsimp only
  rw [tyM_ls h]
  have e : kitB "list" "list" = some true := by decide +kernel
  rw [onS_some, e]
  rfl
theorem isi_int {i : Int} : isiD [.int i, .ty "int"] M K = K (.bl true) M := by
  have e : kitB "int" "int" = some true := by decide +kernel
  unfold isiD
  dsimp only [tyM]
  rw [onS_some, e]
  rfl
theorem isi_int_bool {i : Int} : isiD [.int i, .ty "bool"] M K = K (.bl false) M := by
  have e : kitB "int" "bool" = some false := by decide +kernel
  unfold isiD
  dsimp only [tyM]
  rw [onS_some, e]
  rfl
theorem isi_tup {ds : List D} : isiD [.tup ds, .ty "tuple"] M K = K (.bl true) M := by
  have e : kitB "tuple" "tuple" = some true := by decide +kernel
  unfold isiD
  dsimp only [tyM]
  rw [onS_some, e]
  rfl
theorem isi_bool {b : Bool} : isiD [.bl b, .ty "bool"] M K = K (.bl true) M := by
  have e : kitB "bool" "bool" = some true := by decide +kernel
  unfold isiD
  dsimp only [tyM]
  rw [onS_some, e]
  rfl
theorem len_l {xs : List D} (h : lsOf M (.ref a) = some xs) : lenD [.ref a] M K = K (.int xs.length) M := by
  unfold lenD
  dsimp only
  rw [show sqOf M (.ref a) = some xs from h]
theorem list_l {xs : List D} (h : lsOf M (.ref a) = some xs) : listD [.ref a] M K = ∀ p, M p = none → K (.ref p) (up M p (.lst xs)) := by
  unfold listD
  dsimp only
  rw [show sqOf M (.ref a) = some xs from h]
theorem len_ls {x : D} {xs : List D} (h : sqOf M x = some xs) : lenD [x] M K = K (.int xs.length) M := by
  unfold lenD
  dsimp only
  rw [h]
theorem list_ls {x : D} {xs : List D} (h : sqOf M x = some xs) : listD [x] M K = ∀ p, M p = none → K (.ref p) (up M p (.lst xs)) := by
  unfold listD
  dsimp only
  rw [h]
theorem abs_int {i : Int} : absD [.int i] M K = K (.int (if i < 0 then -i else i)) M := rfl
theorem atI_at {α : Type} {xs : List α} {i : Int} {d : α} (h0 : 0 ≤ i) (h : xs[i.toNat]? = some d) : atI xs i = some d := by
  have e : i = (i.toNat : Int) := by omega
  rw [e]
  exact atI_nat h
theorem ixN_at {n : Nat} {i : Int} (h0 : 0 ≤ i) (h : i < n) : ixN n i = some i.toNat := by
  unfold ixN
  rw [if_pos h0, if_pos h]
theorem onS_at {α : Type} {o : Option α} {x : α} {f : α → Prop} (h : o = some x) : onS o f = f x := by rw [h]; rfl
theorem set_at {v : D} {i : Int} {xs : List D} {Q : Mem → Prop} (h : M a = some (.lst xs)) (h0 : 0 ≤ i) (h1 : i < xs.length) : setD (.ref a) (.int i) v M Q = Q (up M a (.lst (xs.set i.toNat v))) := by
  unfold setD
  rw [lt_of' h]
  dsimp only
  rw [ixN_at h0 h1]
  rfl
theorem bm_append {x : D} {xs : List D} (h : M a = some (.lst xs)) : mSem .append (.ref a) [x] M K = (xs.length < big ∧ K .non (up M a (.lst (xs ++ [x])))) := by
  unfold mSem
  dsimp only
  rw [lt_of' h]
  rfl
theorem bm_clear {xs : List D} (h : M a = some (.lst xs)) : mSem .clear (.ref a) [] M K = K .non (up M a (.lst [])) := by
  unfold mSem
  dsimp only
  rw [lt_of' h]
  rfl
theorem sl_ls {x : D} {xs : List D} {lo hi : Option Int} (h : lsOf M x = some xs) : slD x lo hi M K = ∀ p, M p = none → K (.ref p) (up M p (.lst (cutL xs lo hi))) := by
  unfold slD
  rw [h]; rfl
theorem rep_ls {xs : List D} {k : Int} (h : M a = some (.lst xs)) : mulD (.ref a) (.int k) M K = (-(2 ^ 62) ≤ k ∧ k < 2 ^ 62 ∧ xs.length * k.toNat ≤ big ∧ ∀ q, M q = none → K (.ref q) (up M q (.lst (List.replicate k.toNat xs).flatten))) := by
  unfold mulD
  dsimp only
  unfold repD
  dsimp only
  rw [lt_of' h]
  rfl
theorem cat_ls {b : Addr} {xs ys : List D} (h : lsOf M (.ref a) = some xs) (h2 : lsOf M (.ref b) = some ys) : addD (.ref a) (.ref b) M K = (xs.length + ys.length ≤ big ∧ ∀ q, M q = none → K (.ref q) (up M q (.lst (xs ++ ys)))) := by
  unfold addD
  dsimp only
  unfold catD
  rw [h, h2]
  rfl
theorem flat_rep {α : Type} (x : α) : ∀ n : Nat, (List.replicate n [x]).flatten = List.replicate n x
  | 0 => rfl
  | n + 1 => by rw [List.replicate_succ, List.flatten_cons, flat_rep x n]; rfl
theorem cut_from {α : Type} (xs : List α) (k : Nat) : cutL xs (some (k : Int)) none = xs.drop k := by
  unfold cutL
  rw [HT.sIx_nat, HT.sIx_none]
  rcases Nat.le_total k xs.length with h | h
  · rw [Nat.min_eq_left h]
    exact List.take_of_length_le (by rw [List.length_drop]; exact Nat.le_refl _)
  · rw [Nat.min_eq_right h, List.drop_eq_nil_of_le (Nat.le_refl _), List.drop_eq_nil_of_le h, List.take_nil]
theorem dit_val {x : D} {xs : List D} {σ : DSt} {te : TED} {KK : List D → (Mem → Prop) → Mem → Prop} {KX : DX} : iVal te σ M KK KX = te σ M (fun x M1 => match sqOf M1 x with
  | some xs => KK xs (fun M' => match x with | .ref a => lsOf M' (.ref a) = some xs | _ => True) M1
  | none => match x with
    | .ref a => onS (dcOf M1 (.ref a)) fun p => KK (p.2.map (·.1)) (fun _ => True) (up M1 a (lockO p.1 p.2))
    | _ => False) KX := rfl
end
/-- what is walked, by its value -/
def itD (KK : List D → (Mem → Prop) → Mem → Prop) (x : D) (M1 : Mem) : Prop := match sqOf M1 x with
  | some xs => KK xs (fun M' => match x with | .ref a => lsOf M' (.ref a) = some xs | _ => True) M1
  | none => match x with
    | .ref a => onS (dcOf M1 (.ref a)) fun p => KK (p.2.map (·.1)) (fun _ => True) (up M1 a (lockO p.1 p.2))
    | _ => False
theorem ival_te {σ : DSt} {M : Mem} {te : TED} {KK : List D → (Mem → Prop) → Mem → Prop} {KX : DX} : iVal te σ M KK KX = te σ M (itD KK) KX := rfl
theorem it_ls {M : Mem} {a : Addr} {xs : List D} {KK : List D → (Mem → Prop) → Mem → Prop} (h : lsOf M (.ref a) = some xs) : itD KK (.ref a) M = KK xs (fun M' => lsOf M' (.ref a) = some xs) M := by
  unfold itD
  rw [show sqOf M (.ref a) = some xs from h]
theorem cut1 {α : Type} (xs : List α) : cutL xs (some 1) none = xs.drop 1 := cut_from xs 1
theorem cut2 {α : Type} (xs : List α) : cutL xs (some 2) none = xs.drop 2 := cut_from xs 2
/-- a list walked -/
theorem ival_ls {i : Nat} {a : Addr} {xs : List D} {σ : DSt} {M : Mem} {KK : List D → (Mem → Prop) → Mem → Prop} {KX : DX} (hs : σ[i]? = some (some (.ref a))) (h : lsOf M (.ref a) = some xs) : iVal (dVar i) σ M KK KX = KK xs (fun M' => lsOf M' (.ref a) = some xs) M := by
  unfold iVal dVar
  rw [hs]
  have e : sqOf M (.ref a) = some xs := h
  dsimp only
  rw [e]
theorem mti_append : mtI "list" "append" = some .append := by kernel_rfl
theorem mti_lpop : mtI "list" "pop" = some .lpop := by kernel_rfl
theorem mti_clear : mtI "list" "clear" = some .clear := by kernel_rfl
theorem mti_reverse : mtI "list" "reverse" = some .reverse := by kernel_rfl
theorem mti_get : mtI "dict" "get" = some .get := by kernel_rfl
theorem mti_dpop : mtI "dict" "pop" = some .dpop := by kernel_rfl
theorem mti_setdefault : mtI "dict" "setdefault" = some .setdefault := by kernel_rfl
def cellAt (ns : List Int) (k : Nat) : Int := ns.getD k 0
end DL
/-! # Readings at work: dicts, the least and the greatest, what changes one place alone -/
namespace DL
open PySem PySem.Spec PyProof.Rows L2
theorem okDs_cD : ∀ cs : List Cell, okDs (cs.map cD) = true
  | [] => rfl
  | c :: r => by
    rw [List.map_cons, okDs, okDs_cD r]; rfl
theorem depDs_cD : ∀ cs : List Cell, depDs (cs.map cD) ≤ 1
  | [] => Nat.zero_le _
  | c :: r => by
    have := depDs_cD r
    rw [List.map_cons, depDs]
    have e : depD (cD c) = 1 := rfl
    rw [e]
    omega
theorem okK_cells (cs : List Cell) : okK (.tup (cs.map cD)) = true := by
  have h := depDs_cD cs
  unfold okK
  dsimp only
  rw [okD, okDs_cD, depD]
  simp only [Bool.true_and, decide_eq_true_eq]
  omega
section
variable {M M' : Mem} {a m : Addr} {kvs : List (D × D)} {k v : D} {K : DK} {Q : Mem → Prop}
theorem dc_of (h : M a = some (.dct kvs)) : dcOf M (.ref a) = some (true, kvs) := by
  unfold dcOf; dsimp only; rw [h]
theorem ls_no (h : M a = some (.dct kvs)) : lsOf M (.ref a) = none := by
  unfold lsOf; dsimp only; rw [h]
theorem in_dct (h : M a = some (.dct kvs)) (hk : okK k = true) : inD k (.ref a) M K = K (.bl (lget kvs k).isSome) M := by
  unfold inD inM
  rw [show sqOf M (.ref a) = none from ls_no h, dc_of h]
  dsimp only
  rw [show fitK true k = true from hk]
  rfl
theorem notIn_dct (h : M a = some (.dct kvs)) (hk : okK k = true) : notInD k (.ref a) M K = K (.bl (!(lget kvs k).isSome)) M := by
  unfold notInD inM
  rw [show sqOf M (.ref a) = none from ls_no h, dc_of h]
  dsimp only
  rw [show fitK true k = true from hk]
  rfl
theorem dix_dct (h : M a = some (.dct kvs)) (hk : okK k = true) (hv : lget kvs k = some v) : dIx (.ref a) k M K = K v M := by
  unfold dIx
  rw [show sqOf M (.ref a) = none from ls_no h]
  dsimp only
  rw [dc_of h, onS_some, hv, onS_some]
  simp only [show fitK true k = true from hk, true_and]
theorem set_dct (h : M a = some (.dct kvs)) (hk : okK k = true) : setD (.ref a) k v M Q = (kvs.length < big ∧ Q (up M a (.dct (lput kvs k v)))) := by
  have e1 : ltOf M (.ref a) = none := by unfold ltOf; dsimp only; rw [h]
  have e2 : dmOf M (.ref a) = some (a, true, kvs) := by unfold dmOf; dsimp only; rw [h]
  unfold setD
  rw [e1]
  dsimp only
  rw [e2, onS_some]
  simp only [show fitK true k = true from hk, true_and]
  rfl
/-- all but one place stay -/
def LeX (m : Addr) (M M' : Mem) : Prop := ∀ b o, b ≠ m → M b = some o → M' b = some o
theorem LeX.refl : LeX m M M := fun _ _ _ h => h
theorem LeX.trans {M2 : Mem} (h : LeX m M M') (h2 : LeX m M' M2) : LeX m M M2 := fun b o n e => h2 b o n (h b o n e)
theorem LeX.of (h : Le M M') : LeX m M M' := fun b o _ e => h b o e
theorem LeX.up {o : DO} (h : LeX m M M') : LeX m M (up M' m o) := fun b u n e => by
  rw [up_ne n]; exact h b u n e
theorem LeX.out {o : DO} (h : LeX m (DL.up M m o) M') (hm : M m = none) : Le M M' := fun b u e => by
  have n : b ≠ m := fun z => by rw [z, hm] at e; cases e
  exact h b u n (by rw [up_ne n]; exact e)
theorem LeX.ls {xs : List D} (h : LeX m M M') (n : a ≠ m) (e : lsOf M (.ref a) = some xs) : lsOf M' (.ref a) = some xs := by
  obtain ⟨b, q, e | e⟩ := lsOf_out e
  · cases q; exact ls_of (h _ _ n e)
  · cases q; exact ls_ro (h _ _ n e)
theorem ne_dct {xs : List D} (h : lsOf M (.ref a) = some xs) (hm : M m = some (.dct kvs)) : a ≠ m := by
  intro e; subst e; rw [ls_no hm] at h; cases h
theorem max_ls {ns : List Int} (h : lsOf M (.ref a) = some (ns.map .int)) (hn : ns ≠ []) : maxDD [.ref a] M K = K (.int (maxI ns)) M := by
  have : 0 < (ns : List Int).length := List.length_pos_iff.mpr hn
  unfold maxDD
  dsimp only
  rw [h, onS_some, intsD_map, onS_some]
  simp only [this, true_and]
theorem min_ls {ns : List Int} (h : lsOf M (.ref a) = some (ns.map .int)) (hn : ns ≠ []) : minDD [.ref a] M K = K (.int (minI ns)) M := by
  have : 0 < (ns : List Int).length := List.length_pos_iff.mpr hn
  unfold minDD
  dsimp only
  rw [h, onS_some, intsD_map, onS_some]
  simp only [this, true_and]
theorem sum_ls {ns : List Int} (h : lsOf M (.ref a) = some (ns.map .int)) : sumD [.ref a] M K = K (.int ns.sum) M := by
  unfold sumD
  dsimp only
  rw [h, onS_some, intsD_map, onS_some]
theorem tuple_ls {x : D} {xs : List D} (h : sqOf M x = some xs) : tupleD [x] M K = K (.tup xs) M := by
  unfold tupleD
  dsimp only
  rw [h, onS_some]
theorem sorted_ls {xs : List D} (h : lsOf M (.ref a) = some xs) (hs : sortOk xs = true) : sortedD [.ref a] M K = ∀ p, M p = none → K (.ref p) (up M p (.lst (srtD xs))) := by
  unfold sortedD
  dsimp only
  rw [h]
  simp only [hs, true_and]
end
theorem sortOk_cD (cs : List Cell) : sortOk (cs.map cD) = true := by
  unfold sortOk
  rw [Bool.and_eq_true, Bool.and_eq_true, Bool.or_eq_true]
  refine ⟨⟨all_cD cs, ?_⟩, .inr ?_⟩
  · refine List.all_eq_true.mpr fun a ha => List.all_eq_true.mpr fun b hb => ?_
    obtain ⟨p, _, rfl⟩ := List.mem_map.mp ha
    obtain ⟨q, _, rfl⟩ := List.mem_map.mp hb
    rfl
  · refine List.all_eq_true.mpr fun a ha => ?_
    obtain ⟨p, _, rfl⟩ := List.mem_map.mp ha
    rfl
def cellLe (a b : Cell) : Bool := W.dataLe false pyD (cD a) (cD b)
def srtC (cs : List Cell) : List Cell := cs.mergeSort cellLe
theorem srt_cD (cs : List Cell) : srtD (cs.map cD) = (srtC cs).map cD := by
  unfold srtD srtC
  exact (List.map_mergeSort (r := cellLe) (s := W.dataLe false pyD) (f := cD) fun a _ b _ => rfl).symm
theorem srtC_perm (cs : List Cell) : (srtC cs).Perm cs := List.mergeSort_perm _ _
def ltC (a b : Cell) : Prop := a.1 < b.1 ∨ (a.1 = b.1 ∧ a.2 < b.2)
instance (a b : Cell) : Decidable (ltC a b) := inferInstanceAs (Decidable (_ ∨ _))
theorem ltC.trans {a b c : Cell} (h : ltC a b) (h2 : ltC b c) : ltC a c := by unfold ltC at *; omega
theorem ltC.irr (a : Cell) : ¬ ltC a a := by unfold ltC; omega
theorem ltC.ne {a b : Cell} (h : ltC a b) : a ≠ b := fun e => ltC.irr b (by rw [e] at h; exact h)
theorem ltC.tri (a b : Cell) : ltC a b ∨ a = b ∨ ltC b a := by
  obtain ⟨p, q⟩ := a
  obtain ⟨r, t⟩ := b
  simp only [ltC, Prod.mk.injEq]
  omega
theorem cellLe_iff (a b : Cell) : cellLe a b = !decide (ltC b a) := by
  unfold cellLe
  rw [W.dataLe_eq]
  show (!W.dataLt (.tuple [.int b.1, .int b.2]) (.tuple [.int a.1, .int a.2])) = _
  rw [W.dataLt_ii]
  rfl
theorem srtC_sorted {cs : List Cell} (hn : cs.Nodup) : (srtC cs).Pairwise ltC := by
  have h1 : (srtC cs).Pairwise fun a b => cellLe a b = true := by
    refine List.pairwise_mergeSort (fun a b c h h2 => ?_) (fun a b => ?_) cs
    · rw [cellLe_iff, Bool.not_eq_true', decide_eq_false_iff_not] at *
      have := ltC.tri a b
      have := ltC.tri b c
      have := ltC.tri a c
      unfold ltC at *
      omega
    · rw [cellLe_iff, cellLe_iff, ← Bool.not_and, Bool.not_eq_true', Bool.and_eq_false_iff]
      by_cases h : ltC b a
      · exact .inr (decide_eq_false fun h2 => ltC.irr a (h2.trans h))
      · exact .inl (decide_eq_false h)
  have h2 : (srtC cs).Nodup := (srtC_perm cs).nodup_iff.mpr hn
  refine (List.pairwise_and_iff.mpr ⟨h1, h2⟩).imp fun {a b} h => ?_
  obtain ⟨h, hne⟩ := h
  rw [cellLe_iff, Bool.not_eq_true', decide_eq_false_iff_not] at h
  rcases ltC.tri a b with z | z | z
  · exact z
  · exact (hne z).elim
  · exact (h z).elim
theorem all_int (ns : List Int) : (ns.map D.int).all okE = true := by
  rw [List.all_map]; exact List.all_eq_true.mpr fun x _ => rfl
theorem map_int_inj {xs ys : List Int} : xs.map D.int = ys.map D.int ↔ xs = ys := ⟨fun h => List.map_inj_right (fun _ _ e => by cases e; rfl) |>.mp h, fun h => by rw [h]⟩
theorem map_cD_inj {xs ys : List Cell} : xs.map cD = ys.map cD ↔ xs = ys := ⟨fun h => List.map_inj_right (fun _ _ e => cD_inj.mp e) |>.mp h, fun h => by rw [h]⟩
/-! ### for the assembly -/
section
variable {P : Program} {w : World} {K : PySem.W.Frag} {mg : Str → Option Value} {base : Heap} {k : Nat} {f : Addr} {fd : FuncData} {ps : List Str} {bl : List Str} {x : Str}
theorem fnok_no {sp : DSp} (h : ∀ ds M K KX, sp ds M K KX → False) : FnOk P w K mg base (L2.CX P w) k f fd ps (toSp P w K ps.length sp) :=
  ⟨fun vs H Q E q => q.1, fun A outer s H args us vs Q E hr he hb hv q => by
    obtain ⟨_, Z, M, ds, Kd, KX, _, _, hsp, _⟩ := q
    exact (h _ _ _ _ hsp).elim⟩
theorem gok_con' {l : List (Str × GE)} {d : D} (G : GOk P w K mg base k (glOf l) bl) (h : ∃ u v, mg x = some u ∧ L2.RelV v u ∧ ∀ H, Rep H d v) : GOk P w K mg base k (glOf ((x, .con d) :: l)) bl := by
  obtain ⟨u, v, h1, h2, h3⟩ := h
  exact gok_con G h1 h2 h3
end
end DL
/-! # More plain words -/
namespace DL
open PySem PySem.Spec PyProof.Rows L2
theorem dix_n {M : Mem} {K : DK} {x d : D} {xs : List D} {i : Int} (k : Nat) (h : lsOf M x = some xs) (hd : xs[k]? = some d) (hi : i = k) : dIx x (.int i) M K = K d M := by
  subst hi
  exact dix_at h (atI_nat hd)
theorem dix_0 {M : Mem} {K : DK} {x d : D} {xs : List D} (h : lsOf M x = some xs) (hd : xs[0]? = some d) : dIx x (.int 0) M K = K d M := dix_n 0 h hd rfl
theorem dix_1 {M : Mem} {K : DK} {x d : D} {xs : List D} (h : lsOf M x = some xs) (hd : xs[1]? = some d) : dIx x (.int 1) M K = K d M := dix_n 1 h hd rfl
theorem dix_2 {M : Mem} {K : DK} {x d : D} {xs : List D} (h : lsOf M x = some xs) (hd : xs[2]? = some d) : dIx x (.int 2) M K = K d M := dix_n 2 h hd rfl
theorem dix_3 {M : Mem} {K : DK} {x d : D} {xs : List D} (h : lsOf M x = some xs) (hd : xs[3]? = some d) : dIx x (.int 3) M K = K d M := dix_n 3 h hd rfl
theorem dix_4 {M : Mem} {K : DK} {x d : D} {xs : List D} (h : lsOf M x = some xs) (hd : xs[4]? = some d) : dIx x (.int 4) M K = K d M := dix_n 4 h hd rfl
theorem dix_5 {M : Mem} {K : DK} {x d : D} {xs : List D} (h : lsOf M x = some xs) (hd : xs[5]? = some d) : dIx x (.int 5) M K = K d M := dix_n 5 h hd rfl
theorem tyM_dct {M : Mem} {a : Addr} {kvs : List (D × D)} (h : M a = some (.dct kvs)) : tyM M (.ref a) = some "dict" := by
  unfold tyM; dsimp only; rw [h]
theorem it_tup {ds : List D} {M : Mem} {KK : List D → (Mem → Prop) → Mem → Prop} : itD KK (.tup ds) M = KK ds (fun _ => True) M := rfl
theorem it_tD {t : Tile} {M : Mem} {KK : List D → (Mem → Prop) → Mem → Prop} : itD KK (tD t) M = KK [cD t.1, cD t.2] (fun _ => True) M := rfl
end DL
namespace DL
open PySem PySem.Spec PyProof.Rows L2
/-! ### counting by cases -/
def partL (p : Cell) : List Cell := [(p.1, p.2 + 1), (p.1 + 1, p.2)]
def partners (cs : List Cell) (p : Cell) : List Cell := (partL p).filter (· ∈ cs)
def without (cs : List Cell) (p q : Cell) : List Cell := cs.filter fun x => !decide (x ∈ [p, q])
def cntF : Nat → List Cell → Int
  | 0, _ => 0
  | _ + 1, [] => 1
  | n + 1, c :: cs => ((partners (c :: cs) c).map fun o => cntF n (without (c :: cs) c o)).sum
theorem part_ne {p q : Cell} (h : q ∈ partL p) : q ≠ p := by
  obtain ⟨a, b⟩ := p
  obtain ⟨c, d⟩ := q
  simp only [partL, List.mem_cons, Prod.mk.injEq, List.not_mem_nil, or_false] at h
  intro e
  simp only [Prod.mk.injEq] at e
  omega
theorem filter_lt {α : Type} {p : α → Bool} {a : α} : ∀ {l : List α}, a ∈ l → p a = false → (l.filter p).length < l.length
  | b :: r, h, hp => by
    rcases List.mem_cons.mp h with rfl | h
    · rw [List.filter_cons_of_neg (by simp [hp])]
      exact Nat.lt_succ_of_le (List.length_filter_le _ _)
    · have := filter_lt h hp
      rw [List.filter_cons]
      split
      · simpa using this
      · simp only [List.length_cons]; omega
theorem without_len {cs : List Cell} {c o : Cell} (h : o ∈ partners (c :: cs) c) : (without (c :: cs) c o).length + 2 ≤ (c :: cs).length := by
  have h1 := List.mem_filter.mp h
  have hne := part_ne h1.1
  have hin : o ∈ cs := by
    have : o ∈ c :: cs := by simpa using h1.2
    rcases List.mem_cons.mp this with e | e
    · exact (hne e).elim
    · exact e
  unfold without
  rw [List.filter_cons_of_neg (by simp)]
  have := filter_lt (p := fun x => !decide (x ∈ [c, o])) hin (by simp)
  simp only [List.length_cons]
  omega
theorem cntF_same : ∀ (n m : Nat) (cs : List Cell), cs.length < n → cs.length < m → cntF n cs = cntF m cs
  | 0, _, _, h, _ => absurd h (Nat.not_lt_zero _)
  | _ + 1, 0, _, _, h => absurd h (Nat.not_lt_zero _)
  | n + 1, m + 1, [], _, _ => rfl
  | n + 1, m + 1, c :: cs, h1, h2 => by
    rw [cntF, cntF]
    congr 1
    refine List.map_congr_left fun o ho => ?_
    have := without_len ho
    simp only [List.length_cons] at this h1 h2
    exact cntF_same n m _ (by omega) (by omega)
def cnt (cs : List Cell) : Int := cntF (cs.length + 1) cs
theorem cnt_nil : cnt [] = 1 := rfl
theorem cnt_cons (c : Cell) (cs : List Cell) : cnt (c :: cs) = ((partners (c :: cs) c).map fun o => cnt (without (c :: cs) c o)).sum := by
  show cntF (cs.length + 2) (c :: cs) = _
  rw [cntF]
  congr 1
  refine List.map_congr_left fun o ho => ?_
  have := without_len ho
  simp only [List.length_cons] at this
  exact cntF_same _ _ _ (by omega) (Nat.lt_succ_self _)
theorem cntF_nonneg : ∀ (n : Nat) (cs : List Cell), 0 ≤ cntF n cs
  | 0, _ => Int.le_refl _
  | n + 1, [] => by rw [cntF]; decide
  | n + 1, c :: cs => by
    rw [cntF]
    have : ∀ l : List Cell, 0 ≤ (l.map fun o => cntF n (without (c :: cs) c o)).sum := by
      intro l
      induction l with
      | nil => exact Int.le_refl _
      | cons a r ih =>
        rw [List.map_cons, List.sum_cons]
        have := cntF_nonneg n (without (c :: cs) c a)
        omega
    exact this _
theorem cnt_nonneg (cs : List Cell) : 0 ≤ cnt cs := cntF_nonneg _ _
/-! ### the walk -/
def narrow (cs : List Cell) : Prop := ∀ p ∈ cs, ∀ q ∈ cs, p.2 - q.2 ≤ 7
def sp_check_width : DSp := fun ds M K KX => ∃ (a : Addr) (cs : List Cell), ds = [.ref a] ∧ lsOf M (.ref a) = some (cs.map cD) ∧ cs.length ≤ 1000 ∧ ((narrow cs ∧ ∀ M', Le M M' → K .non M') ∨ (¬ narrow cs ∧ ∀ M', Le M M' → KX "TooWide" M'))
def t_check_width : TSD := (sSeq (sAsg (dLc (iVal (dVar 0)) (.one 3) tYesD (dOp dIx (dVar 3) (dC (.int 1))) [2, 3]) (gNameD 1)) (sSeq (sIf (dAndT (dTest (dOp neD (dVar 1) (dLst aNil))) (dTest (dOp gtD (dOp subD (dCB maxDD (aCons (dVar 1) aNil)) (dCB minDD (aCons (dVar 1) aNil))) (dC (.int 7))))) (sSeq (sRaise "TooWide") sNext) sNext) sNext))
theorem p_check_width (ds : List D) (M : Mem) (K : DK) (KX : DX) (h : sp_check_width ds M K KX) : t_check_width (endsF K KX) (startD ["floor", "columns", ".0", "cell"] ds) M := by
  obtain ⟨a, cs, rfl, ha, hl, h⟩ := h
  try simp only [decide_true, decide_false, Bool.not_true, Bool.not_false, startD, Nat.reduceLeDiff, List.map_cons, List.map_nil, List.length_cons, List.length_nil, Nat.reduceAdd, Nat.reduceSub, List.replicate, List.cons_append, List.nil_append, List.append_nil, sSeq, sRet, sRetN, sAsg, sDrop, sIf, sNext, sBreak, sCont, dOp, dVar, dC, dTup, dLst, aCons, aNil, dCB, dCall, dTest, dNotT, dAndT, dOrT, dAnd, dOr, dNot, dNeg, gNameD, gTupD, gsOf, gsCons, gsNil, gSubD, dSl, oNone, oSome, endsF, DEnds.kx, List.getElem?_cons_zero, List.getElem?_cons_succ, List.set_cons_zero, List.set_cons_succ, onS_some, add_int, sub_int, iad_int, mul_int, div_int, mod_int, pow_int, ban_int, bor_int, bxr_int, shl_int, shr_int, le_int', gt_int', ge_int', lt_int', eq_int', ne_int', dix_c0, dix_c1, dix_t0, dix_t1, sq_c, sq_t, isi_int, isi_int_bool, isi_tup, isi_bool, DL.abs_int, is_non, isnot_non, true_and, and_true, dBM, wipeD, mti_append, mti_lpop, mti_clear, mti_reverse, mti_get, mti_dpop, mti_setdefault, t_check_width, sRaise]
  show dLc _ _ _ _ _ _ _ _ _
  unfold dLc
  rw [ival_ls rfl ha]
  refine lc_fm (e := cD) (fun _ => true) (fun p => .int p.2) (fun M' le => ls_le le ha) (fun p _ M' le => ⟨_, rfl, fun Q hQ => hQ _ Le.refl, fun _ M2 le2 Q hQ => ?_⟩) (by unfold big; omega) fun M1 le1 q hq => ?_
  · try simp only [decide_true, decide_false, Bool.not_true, Bool.not_false, startD, Nat.reduceLeDiff, List.map_cons, List.map_nil, List.length_cons, List.length_nil, Nat.reduceAdd, Nat.reduceSub, List.replicate, List.cons_append, List.nil_append, List.append_nil, sSeq, sRet, sRetN, sAsg, sDrop, sIf, sNext, sBreak, sCont, dOp, dVar, dC, dTup, dLst, aCons, aNil, dCB, dCall, dTest, dNotT, dAndT, dOrT, dAnd, dOr, dNot, dNeg, gNameD, gTupD, gsOf, gsCons, gsNil, gSubD, dSl, oNone, oSome, endsF, DEnds.kx, List.getElem?_cons_zero, List.getElem?_cons_succ, List.set_cons_zero, List.set_cons_succ, onS_some, add_int, sub_int, iad_int, mul_int, div_int, mod_int, pow_int, ban_int, bor_int, bxr_int, shl_int, shr_int, le_int', gt_int', ge_int', lt_int', eq_int', ne_int', dix_c0, dix_c1, dix_t0, dix_t1, sq_c, sq_t, isi_int, isi_int_bool, isi_tup, isi_bool, DL.abs_int, is_non, isnot_non, true_and, and_true, dBM, wipeD, mti_append, mti_lpop, mti_clear, mti_reverse, mti_get, mti_dpop, mti_setdefault]
    exact hQ _ Le.refl
  have e1 : (cs.filter fun _ => true) = cs := List.filter_eq_self.mpr fun _ _ => rfl
  rw [e1]
  have e2 : (cs.map fun p => D.int p.2) = (cs.map (·.2)).map .int := by rw [List.map_map]; rfl
  rw [e2]
  generalize hns : cs.map (·.2) = ns
  try simp only [decide_true, decide_false, Bool.not_true, Bool.not_false, startD, Nat.reduceLeDiff, List.map_cons, List.map_nil, List.length_cons, List.length_nil, Nat.reduceAdd, Nat.reduceSub, List.replicate, List.cons_append, List.nil_append, List.append_nil, sSeq, sRet, sRetN, sAsg, sDrop, sIf, sNext, sBreak, sCont, dOp, dVar, dC, dTup, dLst, aCons, aNil, dCB, dCall, dTest, dNotT, dAndT, dOrT, dAnd, dOr, dNot, dNeg, gNameD, gTupD, gsOf, gsCons, gsNil, gSubD, dSl, oNone, oSome, endsF, DEnds.kx, List.getElem?_cons_zero, List.getElem?_cons_succ, List.set_cons_zero, List.set_cons_succ, onS_some, add_int, sub_int, iad_int, mul_int, div_int, mod_int, pow_int, ban_int, bor_int, bxr_int, shl_int, shr_int, le_int', gt_int', ge_int', lt_int', eq_int', ne_int', dix_c0, dix_c1, dix_t0, dix_t1, sq_c, sq_t, isi_int, isi_int_bool, isi_tup, isi_bool, DL.abs_int, is_non, isnot_non, true_and, and_true, dBM, wipeD, mti_append, mti_lpop, mti_clear, mti_reverse, mti_get, mti_dpop, mti_setdefault]
  intro e he
  have le2 : Le M (up (up M1 q (.lst (ns.map .int))) e (.lst [])) := (le1.new hq).new he
  have hqe : q ≠ e := ne_of_M up_same he
  have hq2 : lsOf (up (up M1 q (.lst (ns.map .int))) e (.lst [])) (.ref q) = some (ns.map .int) := by
    rw [ls_ne hqe]; exact ls_up
  unfold neD
  rw [eqM_list rfl rfl hq2 ls_up (all_int _) rfl, onS_some]
  by_cases hnil : ns = []
  · rw [decide_eq_true (by rw [hnil]; rfl)]
    try simp only [decide_true, decide_false, Bool.not_true, Bool.not_false, startD, Nat.reduceLeDiff, List.map_cons, List.map_nil, List.length_cons, List.length_nil, Nat.reduceAdd, Nat.reduceSub, List.replicate, List.cons_append, List.nil_append, List.append_nil, sSeq, sRet, sRetN, sAsg, sDrop, sIf, sNext, sBreak, sCont, dOp, dVar, dC, dTup, dLst, aCons, aNil, dCB, dCall, dTest, dNotT, dAndT, dOrT, dAnd, dOr, dNot, dNeg, gNameD, gTupD, gsOf, gsCons, gsNil, gSubD, dSl, oNone, oSome, endsF, DEnds.kx, List.getElem?_cons_zero, List.getElem?_cons_succ, List.set_cons_zero, List.set_cons_succ, onS_some, add_int, sub_int, iad_int, mul_int, div_int, mod_int, pow_int, ban_int, bor_int, bxr_int, shl_int, shr_int, le_int', gt_int', ge_int', lt_int', eq_int', ne_int', dix_c0, dix_c1, dix_t0, dix_t1, sq_c, sq_t, isi_int, isi_int_bool, isi_tup, isi_bool, DL.abs_int, is_non, isnot_non, true_and, and_true, dBM, wipeD, mti_append, mti_lpop, mti_clear, mti_reverse, mti_get, mti_dpop, mti_setdefault]
    have hcs : cs = [] := by rw [hnil] at hns; exact List.map_eq_nil_iff.mp hns
    rcases h with ⟨_, h⟩ | ⟨hn, _⟩
    · exact h _ le2
    · exact (hn fun p hp => by rw [hcs] at hp; cases hp).elim
  · rw [decide_eq_false (by intro z; exact hnil (List.map_eq_nil_iff.mp z))]
    try simp only [decide_true, decide_false, Bool.not_true, Bool.not_false, startD, Nat.reduceLeDiff, List.map_cons, List.map_nil, List.length_cons, List.length_nil, Nat.reduceAdd, Nat.reduceSub, List.replicate, List.cons_append, List.nil_append, List.append_nil, sSeq, sRet, sRetN, sAsg, sDrop, sIf, sNext, sBreak, sCont, dOp, dVar, dC, dTup, dLst, aCons, aNil, dCB, dCall, dTest, dNotT, dAndT, dOrT, dAnd, dOr, dNot, dNeg, gNameD, gTupD, gsOf, gsCons, gsNil, gSubD, dSl, oNone, oSome, endsF, DEnds.kx, List.getElem?_cons_zero, List.getElem?_cons_succ, List.set_cons_zero, List.set_cons_succ, onS_some, add_int, sub_int, iad_int, mul_int, div_int, mod_int, pow_int, ban_int, bor_int, bxr_int, shl_int, shr_int, le_int', gt_int', ge_int', lt_int', eq_int', ne_int', dix_c0, dix_c1, dix_t0, dix_t1, sq_c, sq_t, isi_int, isi_int_bool, isi_tup, isi_bool, DL.abs_int, is_non, isnot_non, true_and, and_true, dBM, wipeD, mti_append, mti_lpop, mti_clear, mti_reverse, mti_get, mti_dpop, mti_setdefault]
    rw [max_ls hq2 hnil, min_ls hq2 hnil]
    try simp only [decide_true, decide_false, Bool.not_true, Bool.not_false, startD, Nat.reduceLeDiff, List.map_cons, List.map_nil, List.length_cons, List.length_nil, Nat.reduceAdd, Nat.reduceSub, List.replicate, List.cons_append, List.nil_append, List.append_nil, sSeq, sRet, sRetN, sAsg, sDrop, sIf, sNext, sBreak, sCont, dOp, dVar, dC, dTup, dLst, aCons, aNil, dCB, dCall, dTest, dNotT, dAndT, dOrT, dAnd, dOr, dNot, dNeg, gNameD, gTupD, gsOf, gsCons, gsNil, gSubD, dSl, oNone, oSome, endsF, DEnds.kx, List.getElem?_cons_zero, List.getElem?_cons_succ, List.set_cons_zero, List.set_cons_succ, onS_some, add_int, sub_int, iad_int, mul_int, div_int, mod_int, pow_int, ban_int, bor_int, bxr_int, shl_int, shr_int, le_int', gt_int', ge_int', lt_int', eq_int', ne_int', dix_c0, dix_c1, dix_t0, dix_t1, sq_c, sq_t, isi_int, isi_int_bool, isi_tup, isi_bool, DL.abs_int, is_non, isnot_non, true_and, and_true, dBM, wipeD, mti_append, mti_lpop, mti_clear, mti_reverse, mti_get, mti_dpop, mti_setdefault]
    have m1 := maxI_mem ns (List.length_pos_iff.mpr hnil)
    have m2 := minI_mem ns (List.length_pos_iff.mpr hnil)
    rw [← hns] at m1 m2
    obtain ⟨p1, hp1, ep1⟩ := List.mem_map.mp m1.1
    obtain ⟨p2, hp2, ep2⟩ := List.mem_map.mp m2.1
    rcases h with ⟨hn, h⟩ | ⟨hn, h⟩
    · have := hn p1 hp1 p2 hp2
      rw [decide_eq_false (by rw [← hns, ← ep1, ← ep2]; omega)]
      exact h _ le2
    · have : ¬ maxI ns - minI ns ≤ 7 := fun z => hn fun p hp q hq => by
        have h1 := m1.2 p.2 (List.mem_map.mpr ⟨p, hp, rfl⟩)
        have h2 := m2.2 q.2 (List.mem_map.mpr ⟨q, hq, rfl⟩)
        rw [← hns] at z
        omega
      rw [decide_eq_true (by omega)]
      exact h _ le2
def sp_partners_of : DSp := fun ds M K _ => ∃ (a : Addr) (cs : List Cell) (p : Cell), ds = [.ref a, cD p] ∧ lsOf M (.ref a) = some (cs.map cD) ∧ ∀ M' q, Le M M' → M' q = some (.lst ((partners cs p).map cD)) → K (.ref q) M'
def t_partners_of : TSD := (sSeq (sAsg (dVar 1) (gTupD (gsOf [2, 3]) 2)) (sSeq (sRet (dLc (iVal (dLst (aCons (dTup (aCons (dVar 2) (aCons (dOp addD (dVar 3) (dC (.int 1))) aNil))) (aCons (dTup (aCons (dOp addD (dVar 2) (dC (.int 1))) (aCons (dVar 3) aNil))) aNil)))) (.one 5) (dTest (dOp inD (dVar 5) (dVar 0))) (dVar 5) [4, 5])) sNext))
theorem p_partners_of (ds : List D) (M : Mem) (K : DK) (KX : DX) (h : sp_partners_of ds M K KX) : t_partners_of (endsF K KX) (startD ["cells", "first", "row", "column", ".0", "other"] ds) M := by
  obtain ⟨a, cs, p, rfl, ha, h⟩ := h
  try simp only [decide_true, decide_false, Bool.not_true, Bool.not_false, startD, Nat.reduceLeDiff, List.map_cons, List.map_nil, List.length_cons, List.length_nil, Nat.reduceAdd, Nat.reduceSub, List.replicate, List.cons_append, List.nil_append, List.append_nil, sSeq, sRet, sRetN, sAsg, sDrop, sIf, sNext, sBreak, sCont, dOp, dVar, dC, dTup, dLst, aCons, aNil, dCB, dCall, dTest, dNotT, dAndT, dOrT, dAnd, dOr, dNot, dNeg, gNameD, gTupD, gsOf, gsCons, gsNil, gSubD, dSl, oNone, oSome, endsF, DEnds.kx, List.getElem?_cons_zero, List.getElem?_cons_succ, List.set_cons_zero, List.set_cons_succ, onS_some, add_int, sub_int, iad_int, mul_int, div_int, mod_int, pow_int, ban_int, bor_int, bxr_int, shl_int, shr_int, le_int', gt_int', ge_int', lt_int', eq_int', ne_int', dix_c0, dix_c1, dix_t0, dix_t1, sq_c, sq_t, isi_int, isi_int_bool, isi_tup, isi_bool, DL.abs_int, is_non, isnot_non, true_and, and_true, dBM, wipeD, mti_append, mti_lpop, mti_clear, mti_reverse, mti_get, mti_dpop, mti_setdefault, t_partners_of]
  show dLc _ _ _ _ _ _ _ _ _
  unfold dLc
  rw [ival_te]
  try simp only [decide_true, decide_false, Bool.not_true, Bool.not_false, startD, Nat.reduceLeDiff, List.map_cons, List.map_nil, List.length_cons, List.length_nil, Nat.reduceAdd, Nat.reduceSub, List.replicate, List.cons_append, List.nil_append, List.append_nil, sSeq, sRet, sRetN, sAsg, sDrop, sIf, sNext, sBreak, sCont, dOp, dVar, dC, dTup, dLst, aCons, aNil, dCB, dCall, dTest, dNotT, dAndT, dOrT, dAnd, dOr, dNot, dNeg, gNameD, gTupD, gsOf, gsCons, gsNil, gSubD, dSl, oNone, oSome, endsF, DEnds.kx, List.getElem?_cons_zero, List.getElem?_cons_succ, List.set_cons_zero, List.set_cons_succ, onS_some, add_int, sub_int, iad_int, mul_int, div_int, mod_int, pow_int, ban_int, bor_int, bxr_int, shl_int, shr_int, le_int', gt_int', ge_int', lt_int', eq_int', ne_int', dix_c0, dix_c1, dix_t0, dix_t1, sq_c, sq_t, isi_int, isi_int_bool, isi_tup, isi_bool, DL.abs_int, is_non, isnot_non, true_and, and_true, dBM, wipeD, mti_append, mti_lpop, mti_clear, mti_reverse, mti_get, mti_dpop, mti_setdefault]
  intro t ht
  have le1 := le_up (o := .lst ((partL p).map cD)) ht
  refine (it_ls (a := t) (xs := (partL p).map cD) ls_up).mpr ?_
  have ha1 := ls_le le1 ha
  refine lc_fm (e := cD) (fun x => decide (x ∈ cs)) cD (fun M' le => ls_le le ls_up) (fun x _ M' le => ⟨_, rfl, fun Q hQ => ?_, fun _ M2 le2 Q hQ => ?_⟩) (by show 2 ≤ big; decide) fun M1 le2 q hq => ?_
  · try simp only [decide_true, decide_false, Bool.not_true, Bool.not_false, startD, Nat.reduceLeDiff, List.map_cons, List.map_nil, List.length_cons, List.length_nil, Nat.reduceAdd, Nat.reduceSub, List.replicate, List.cons_append, List.nil_append, List.append_nil, sSeq, sRet, sRetN, sAsg, sDrop, sIf, sNext, sBreak, sCont, dOp, dVar, dC, dTup, dLst, aCons, aNil, dCB, dCall, dTest, dNotT, dAndT, dOrT, dAnd, dOr, dNot, dNeg, gNameD, gTupD, gsOf, gsCons, gsNil, gSubD, dSl, oNone, oSome, endsF, DEnds.kx, List.getElem?_cons_zero, List.getElem?_cons_succ, List.set_cons_zero, List.set_cons_succ, onS_some, add_int, sub_int, iad_int, mul_int, div_int, mod_int, pow_int, ban_int, bor_int, bxr_int, shl_int, shr_int, le_int', gt_int', ge_int', lt_int', eq_int', ne_int', dix_c0, dix_c1, dix_t0, dix_t1, sq_c, sq_t, isi_int, isi_int_bool, isi_tup, isi_bool, DL.abs_int, is_non, isnot_non, true_and, and_true, dBM, wipeD, mti_append, mti_lpop, mti_clear, mti_reverse, mti_get, mti_dpop, mti_setdefault]
    rw [in_ls (ls_le le ha1) (okE_cD x) (all_cD _)]
    simp only [mem_cD]
    exact hQ _ Le.refl
  · try simp only [decide_true, decide_false, Bool.not_true, Bool.not_false, startD, Nat.reduceLeDiff, List.map_cons, List.map_nil, List.length_cons, List.length_nil, Nat.reduceAdd, Nat.reduceSub, List.replicate, List.cons_append, List.nil_append, List.append_nil, sSeq, sRet, sRetN, sAsg, sDrop, sIf, sNext, sBreak, sCont, dOp, dVar, dC, dTup, dLst, aCons, aNil, dCB, dCall, dTest, dNotT, dAndT, dOrT, dAnd, dOr, dNot, dNeg, gNameD, gTupD, gsOf, gsCons, gsNil, gSubD, dSl, oNone, oSome, endsF, DEnds.kx, List.getElem?_cons_zero, List.getElem?_cons_succ, List.set_cons_zero, List.set_cons_succ, onS_some, add_int, sub_int, iad_int, mul_int, div_int, mod_int, pow_int, ban_int, bor_int, bxr_int, shl_int, shr_int, le_int', gt_int', ge_int', lt_int', eq_int', ne_int', dix_c0, dix_c1, dix_t0, dix_t1, sq_c, sq_t, isi_int, isi_int_bool, isi_tup, isi_bool, DL.abs_int, is_non, isnot_non, true_and, and_true, dBM, wipeD, mti_append, mti_lpop, mti_clear, mti_reverse, mti_get, mti_dpop, mti_setdefault]
    exact hQ _ Le.refl
  · exact h _ q ((le1.trans le2).new hq) up_same
def sp_cells_without : DSp := fun ds M K _ => ∃ (a : Addr) (cs : List Cell) (p q : Cell), ds = [.ref a, tD (p, q)] ∧ lsOf M (.ref a) = some (cs.map cD) ∧ cs.length ≤ 1000 ∧ ∀ M' r, Le M M' → M' r = some (.lst ((without cs p q).map cD)) → K (.ref r) M'
def t_cells_without : TSD := (sSeq (sRet (dLc (iVal (dVar 0)) (.one 3) (dTest (dOp notInD (dVar 3) (dVar 1))) (dVar 3) [2, 3])) sNext)
theorem p_cells_without (ds : List D) (M : Mem) (K : DK) (KX : DX) (h : sp_cells_without ds M K KX) : t_cells_without (endsF K KX) (startD ["cells", "tile", ".0", "cell"] ds) M := by
  obtain ⟨a, cs, p, q, rfl, ha, hl, h⟩ := h
  try simp only [decide_true, decide_false, Bool.not_true, Bool.not_false, startD, Nat.reduceLeDiff, List.map_cons, List.map_nil, List.length_cons, List.length_nil, Nat.reduceAdd, Nat.reduceSub, List.replicate, List.cons_append, List.nil_append, List.append_nil, sSeq, sRet, sRetN, sAsg, sDrop, sIf, sNext, sBreak, sCont, dOp, dVar, dC, dTup, dLst, aCons, aNil, dCB, dCall, dTest, dNotT, dAndT, dOrT, dAnd, dOr, dNot, dNeg, gNameD, gTupD, gsOf, gsCons, gsNil, gSubD, dSl, oNone, oSome, endsF, DEnds.kx, List.getElem?_cons_zero, List.getElem?_cons_succ, List.set_cons_zero, List.set_cons_succ, onS_some, add_int, sub_int, iad_int, mul_int, div_int, mod_int, pow_int, ban_int, bor_int, bxr_int, shl_int, shr_int, le_int', gt_int', ge_int', lt_int', eq_int', ne_int', dix_c0, dix_c1, dix_t0, dix_t1, sq_c, sq_t, isi_int, isi_int_bool, isi_tup, isi_bool, DL.abs_int, is_non, isnot_non, true_and, and_true, dBM, wipeD, mti_append, mti_lpop, mti_clear, mti_reverse, mti_get, mti_dpop, mti_setdefault, t_cells_without]
  show dLc _ _ _ _ _ _ _ _ _
  unfold dLc
  rw [ival_ls rfl ha]
  refine lc_fm (e := cD) (fun x => !decide (x ∈ [p, q])) cD (fun M' le => ls_le le ha) (fun x _ M' le => ⟨_, rfl, fun Q hQ => ?_, fun _ M2 le2 Q hQ => ?_⟩) (by unfold big; omega) fun M1 le2 r hr => ?_
  · try simp only [decide_true, decide_false, Bool.not_true, Bool.not_false, startD, Nat.reduceLeDiff, List.map_cons, List.map_nil, List.length_cons, List.length_nil, Nat.reduceAdd, Nat.reduceSub, List.replicate, List.cons_append, List.nil_append, List.append_nil, sSeq, sRet, sRetN, sAsg, sDrop, sIf, sNext, sBreak, sCont, dOp, dVar, dC, dTup, dLst, aCons, aNil, dCB, dCall, dTest, dNotT, dAndT, dOrT, dAnd, dOr, dNot, dNeg, gNameD, gTupD, gsOf, gsCons, gsNil, gSubD, dSl, oNone, oSome, endsF, DEnds.kx, List.getElem?_cons_zero, List.getElem?_cons_succ, List.set_cons_zero, List.set_cons_succ, onS_some, add_int, sub_int, iad_int, mul_int, div_int, mod_int, pow_int, ban_int, bor_int, bxr_int, shl_int, shr_int, le_int', gt_int', ge_int', lt_int', eq_int', ne_int', dix_c0, dix_c1, dix_t0, dix_t1, sq_c, sq_t, isi_int, isi_int_bool, isi_tup, isi_bool, DL.abs_int, is_non, isnot_non, true_and, and_true, dBM, wipeD, mti_append, mti_lpop, mti_clear, mti_reverse, mti_get, mti_dpop, mti_setdefault]
    rw [notIn_ok (ys := [p, q].map cD) sq_t (okE_cD x) (all_cD _)]
    simp only [mem_cD]
    exact hQ _ Le.refl
  · try simp only [decide_true, decide_false, Bool.not_true, Bool.not_false, startD, Nat.reduceLeDiff, List.map_cons, List.map_nil, List.length_cons, List.length_nil, Nat.reduceAdd, Nat.reduceSub, List.replicate, List.cons_append, List.nil_append, List.append_nil, sSeq, sRet, sRetN, sAsg, sDrop, sIf, sNext, sBreak, sCont, dOp, dVar, dC, dTup, dLst, aCons, aNil, dCB, dCall, dTest, dNotT, dAndT, dOrT, dAnd, dOr, dNot, dNeg, gNameD, gTupD, gsOf, gsCons, gsNil, gSubD, dSl, oNone, oSome, endsF, DEnds.kx, List.getElem?_cons_zero, List.getElem?_cons_succ, List.set_cons_zero, List.set_cons_succ, onS_some, add_int, sub_int, iad_int, mul_int, div_int, mod_int, pow_int, ban_int, bor_int, bxr_int, shl_int, shr_int, le_int', gt_int', ge_int', lt_int', eq_int', ne_int', dix_c0, dix_c1, dix_t0, dix_t1, sq_c, sq_t, isi_int, isi_int_bool, isi_tup, isi_bool, DL.abs_int, is_non, isnot_non, true_and, and_true, dBM, wipeD, mti_append, mti_lpop, mti_clear, mti_reverse, mti_get, mti_dpop, mti_setdefault]
    exact hQ _ Le.refl
  · exact h _ r (le2.new hr) up_same
/-- what is remembered is right -/
def memoOk (kvs : List (D × D)) : Prop := ∀ cs v, lget kvs (.tup (cs.map cD)) = some v → v = .int (cnt cs)
/-- what a count may add to the memo -/
def cap (l : Nat) : Nat := 2 ^ (l / 2 + 1)
theorem cap_le {l m : Nat} (h : l ≤ m) : cap l ≤ cap m := Nat.pow_le_pow_right (show 2 > 0 by decide) (by omega)
theorem cap_two {l m : Nat} (h : l + 2 ≤ m) : 2 * cap l ≤ cap m := by
  have h1 := cap_le h
  have h2 : cap (l + 2) = 2 * cap l := by
    unfold cap
    rw [show (l + 2) / 2 + 1 = (l / 2 + 1) + 1 by omega, Nat.pow_succ]
    omega
  omega
theorem cap_pos (l : Nat) : 2 ≤ cap l := by
  have := cap_le (Nat.zero_le l)
  have e : cap 0 = 2 := rfl
  omega
theorem cap_small {l : Nat} (h : l < 44) : ([] : List (D × D)).length + cap l ≤ big := by
  have h1 := cap_le (show l ≤ 43 by omega)
  have e : cap 43 = 4194304 := by decide
  unfold big
  simp only [List.length_nil]
  omega
def spn_count_cases : Nat → DSp
  | 0 => fun _ _ _ _ => False
  | n + 1 => fun ds M K _ => ∃ (a m : Addr) (cs : List Cell) (kvs : List (D × D)), ds = [.ref a, .ref m] ∧ lsOf M (.ref a) = some (cs.map cD) ∧ cs.length < 2 * (n + 1) ∧ n < 500 ∧ M m = some (.dct kvs) ∧ memoOk kvs ∧ kvs.length + cap cs.length ≤ big ∧
    ∀ M' kvs', LeX m M M' → M' m = some (.dct kvs') → memoOk kvs' → kvs'.length + 1 ≤ kvs.length + cap cs.length → K (.int (cnt cs)) M'
def t_count_cases (sp_count_cases : DSp) : TSD := (sSeq (sIf (dTest (dOp eqD (dCB lenD (aCons (dVar 0) aNil)) (dC (.int 0)))) (sSeq (sRet (dC (.int 1))) sNext) sNext) (sSeq (sAsg (dCB tupleD (aCons (dVar 0) aNil)) (gNameD 2)) (sSeq (sIf (dTest (dOp notInD (dVar 2) (dVar 1))) (sSeq (sAsg (dC (.int 0)) (gNameD 3)) (sSeq (sFor (iVal (dCall 2 sp_partners_of [] (aCons (dVar 0) (aCons (dOp dIx (dVar 0) (dC (.int 0))) aNil)))) (gNameD 4) (sSeq (sAug 3 (dCall 2 sp_count_cases [] (aCons (dCall 2 sp_cells_without [] (aCons (dVar 0) (aCons (dTup (aCons (dOp dIx (dVar 0) (dC (.int 0))) (aCons (dVar 4) aNil))) aNil))) (aCons (dVar 1) aNil))) iadD) sNext)) (sSeq (sAsg (dVar 3) (gSubD (dVar 1) (dVar 2))) sNext))) sNext) (sSeq (sRet (dOp dIx (dVar 1) (dVar 2))) sNext))))
theorem p_count_cases (n : Nat) (ds : List D) (M : Mem) (K : DK) (KX : DX) (h : spn_count_cases (n + 1) ds M K KX) : t_count_cases (spn_count_cases n) (endsF K KX) (startD ["cells", "known", "key", "many", "other"] ds) M := by
  obtain ⟨a, m, cs, kvs, rfl, ha, hl, hn, hm, hk, hb, h⟩ := h
  try simp only [decide_true, decide_false, Bool.not_true, Bool.not_false, startD, Nat.reduceLeDiff, List.map_cons, List.map_nil, List.length_cons, List.length_nil, Nat.reduceAdd, Nat.reduceSub, List.replicate, List.cons_append, List.nil_append, List.append_nil, sSeq, sRet, sRetN, sAsg, sDrop, sIf, sNext, sBreak, sCont, dOp, dVar, dC, dTup, dLst, aCons, aNil, dCB, dCall, dTest, dNotT, dAndT, dOrT, dAnd, dOr, dNot, dNeg, gNameD, gTupD, gsOf, gsCons, gsNil, gSubD, dSl, oNone, oSome, endsF, DEnds.kx, List.getElem?_cons_zero, List.getElem?_cons_succ, List.set_cons_zero, List.set_cons_succ, onS_some, add_int, sub_int, iad_int, mul_int, div_int, mod_int, pow_int, ban_int, bor_int, bxr_int, shl_int, shr_int, le_int', gt_int', ge_int', lt_int', eq_int', ne_int', dix_c0, dix_c1, dix_t0, dix_t1, sq_c, sq_t, isi_int, isi_int_bool, isi_tup, isi_bool, DL.abs_int, is_non, isnot_non, true_and, and_true, dBM, wipeD, mti_append, mti_lpop, mti_clear, mti_reverse, mti_get, mti_dpop, mti_setdefault, t_count_cases]
  have hpos := cap_pos cs.length
  rw [len_l ha]
  try simp only [decide_true, decide_false, Bool.not_true, Bool.not_false, startD, Nat.reduceLeDiff, List.map_cons, List.map_nil, List.length_cons, List.length_nil, Nat.reduceAdd, Nat.reduceSub, List.replicate, List.cons_append, List.nil_append, List.append_nil, sSeq, sRet, sRetN, sAsg, sDrop, sIf, sNext, sBreak, sCont, dOp, dVar, dC, dTup, dLst, aCons, aNil, dCB, dCall, dTest, dNotT, dAndT, dOrT, dAnd, dOr, dNot, dNeg, gNameD, gTupD, gsOf, gsCons, gsNil, gSubD, dSl, oNone, oSome, endsF, DEnds.kx, List.getElem?_cons_zero, List.getElem?_cons_succ, List.set_cons_zero, List.set_cons_succ, onS_some, add_int, sub_int, iad_int, mul_int, div_int, mod_int, pow_int, ban_int, bor_int, bxr_int, shl_int, shr_int, le_int', gt_int', ge_int', lt_int', eq_int', ne_int', dix_c0, dix_c1, dix_t0, dix_t1, sq_c, sq_t, isi_int, isi_int_bool, isi_tup, isi_bool, DL.abs_int, is_non, isnot_non, true_and, and_true, dBM, wipeD, mti_append, mti_lpop, mti_clear, mti_reverse, mti_get, mti_dpop, mti_setdefault, List.length_map]
  cases cs with
  | nil =>
    try simp only [decide_true, decide_false, Bool.not_true, Bool.not_false, startD, Nat.reduceLeDiff, List.map_cons, List.map_nil, List.length_cons, List.length_nil, Nat.reduceAdd, Nat.reduceSub, List.replicate, List.cons_append, List.nil_append, List.append_nil, sSeq, sRet, sRetN, sAsg, sDrop, sIf, sNext, sBreak, sCont, dOp, dVar, dC, dTup, dLst, aCons, aNil, dCB, dCall, dTest, dNotT, dAndT, dOrT, dAnd, dOr, dNot, dNeg, gNameD, gTupD, gsOf, gsCons, gsNil, gSubD, dSl, oNone, oSome, endsF, DEnds.kx, List.getElem?_cons_zero, List.getElem?_cons_succ, List.set_cons_zero, List.set_cons_succ, onS_some, add_int, sub_int, iad_int, mul_int, div_int, mod_int, pow_int, ban_int, bor_int, bxr_int, shl_int, shr_int, le_int', gt_int', ge_int', lt_int', eq_int', ne_int', dix_c0, dix_c1, dix_t0, dix_t1, sq_c, sq_t, isi_int, isi_int_bool, isi_tup, isi_bool, DL.abs_int, is_non, isnot_non, true_and, and_true, dBM, wipeD, mti_append, mti_lpop, mti_clear, mti_reverse, mti_get, mti_dpop, mti_setdefault, List.length_nil]
    exact h M kvs LeX.refl hm hk (by omega)
  | cons c r =>
    have hl0 : 0 < (c :: r).length := by simp
    have hcc := cnt_cons c r
    have hwl : ∀ o ∈ partners (c :: r) c, (without (c :: r) c o).length + 2 ≤ (c :: r).length := fun o ho => without_len ho
    have h0 : atI ((c :: r).map cD) 0 = some (cD c) := atI_nat (j := 0) rfl
    generalize c :: r = cs at *
    rw [decide_eq_false (by omega)]
    try simp only [decide_true, decide_false, Bool.not_true, Bool.not_false, startD, Nat.reduceLeDiff, List.map_cons, List.map_nil, List.length_cons, List.length_nil, Nat.reduceAdd, Nat.reduceSub, List.replicate, List.cons_append, List.nil_append, List.append_nil, sSeq, sRet, sRetN, sAsg, sDrop, sIf, sNext, sBreak, sCont, dOp, dVar, dC, dTup, dLst, aCons, aNil, dCB, dCall, dTest, dNotT, dAndT, dOrT, dAnd, dOr, dNot, dNeg, gNameD, gTupD, gsOf, gsCons, gsNil, gSubD, dSl, oNone, oSome, endsF, DEnds.kx, List.getElem?_cons_zero, List.getElem?_cons_succ, List.set_cons_zero, List.set_cons_succ, onS_some, add_int, sub_int, iad_int, mul_int, div_int, mod_int, pow_int, ban_int, bor_int, bxr_int, shl_int, shr_int, le_int', gt_int', ge_int', lt_int', eq_int', ne_int', dix_c0, dix_c1, dix_t0, dix_t1, sq_c, sq_t, isi_int, isi_int_bool, isi_tup, isi_bool, DL.abs_int, is_non, isnot_non, true_and, and_true, dBM, wipeD, mti_append, mti_lpop, mti_clear, mti_reverse, mti_get, mti_dpop, mti_setdefault]
    rw [tuple_ls (x := .ref a) ha]
    try simp only [decide_true, decide_false, Bool.not_true, Bool.not_false, startD, Nat.reduceLeDiff, List.map_cons, List.map_nil, List.length_cons, List.length_nil, Nat.reduceAdd, Nat.reduceSub, List.replicate, List.cons_append, List.nil_append, List.append_nil, sSeq, sRet, sRetN, sAsg, sDrop, sIf, sNext, sBreak, sCont, dOp, dVar, dC, dTup, dLst, aCons, aNil, dCB, dCall, dTest, dNotT, dAndT, dOrT, dAnd, dOr, dNot, dNeg, gNameD, gTupD, gsOf, gsCons, gsNil, gSubD, dSl, oNone, oSome, endsF, DEnds.kx, List.getElem?_cons_zero, List.getElem?_cons_succ, List.set_cons_zero, List.set_cons_succ, onS_some, add_int, sub_int, iad_int, mul_int, div_int, mod_int, pow_int, ban_int, bor_int, bxr_int, shl_int, shr_int, le_int', gt_int', ge_int', lt_int', eq_int', ne_int', dix_c0, dix_c1, dix_t0, dix_t1, sq_c, sq_t, isi_int, isi_int_bool, isi_tup, isi_bool, DL.abs_int, is_non, isnot_non, true_and, and_true, dBM, wipeD, mti_append, mti_lpop, mti_clear, mti_reverse, mti_get, mti_dpop, mti_setdefault]
    rw [notIn_dct hm (okK_cells _)]
    try simp only [decide_true, decide_false, Bool.not_true, Bool.not_false, startD, Nat.reduceLeDiff, List.map_cons, List.map_nil, List.length_cons, List.length_nil, Nat.reduceAdd, Nat.reduceSub, List.replicate, List.cons_append, List.nil_append, List.append_nil, sSeq, sRet, sRetN, sAsg, sDrop, sIf, sNext, sBreak, sCont, dOp, dVar, dC, dTup, dLst, aCons, aNil, dCB, dCall, dTest, dNotT, dAndT, dOrT, dAnd, dOr, dNot, dNeg, gNameD, gTupD, gsOf, gsCons, gsNil, gSubD, dSl, oNone, oSome, endsF, DEnds.kx, List.getElem?_cons_zero, List.getElem?_cons_succ, List.set_cons_zero, List.set_cons_succ, onS_some, add_int, sub_int, iad_int, mul_int, div_int, mod_int, pow_int, ban_int, bor_int, bxr_int, shl_int, shr_int, le_int', gt_int', ge_int', lt_int', eq_int', ne_int', dix_c0, dix_c1, dix_t0, dix_t1, sq_c, sq_t, isi_int, isi_int_bool, isi_tup, isi_bool, DL.abs_int, is_non, isnot_non, true_and, and_true, dBM, wipeD, mti_append, mti_lpop, mti_clear, mti_reverse, mti_get, mti_dpop, mti_setdefault]
    cases hg : lget kvs (.tup (cs.map cD)) with
    | some v =>
      have hv := hk _ _ hg
      subst hv
      try simp only [decide_true, decide_false, Bool.not_true, Bool.not_false, startD, Nat.reduceLeDiff, List.map_cons, List.map_nil, List.length_cons, List.length_nil, Nat.reduceAdd, Nat.reduceSub, List.replicate, List.cons_append, List.nil_append, List.append_nil, sSeq, sRet, sRetN, sAsg, sDrop, sIf, sNext, sBreak, sCont, dOp, dVar, dC, dTup, dLst, aCons, aNil, dCB, dCall, dTest, dNotT, dAndT, dOrT, dAnd, dOr, dNot, dNeg, gNameD, gTupD, gsOf, gsCons, gsNil, gSubD, dSl, oNone, oSome, endsF, DEnds.kx, List.getElem?_cons_zero, List.getElem?_cons_succ, List.set_cons_zero, List.set_cons_succ, onS_some, add_int, sub_int, iad_int, mul_int, div_int, mod_int, pow_int, ban_int, bor_int, bxr_int, shl_int, shr_int, le_int', gt_int', ge_int', lt_int', eq_int', ne_int', dix_c0, dix_c1, dix_t0, dix_t1, sq_c, sq_t, isi_int, isi_int_bool, isi_tup, isi_bool, DL.abs_int, is_non, isnot_non, true_and, and_true, dBM, wipeD, mti_append, mti_lpop, mti_clear, mti_reverse, mti_get, mti_dpop, mti_setdefault, Option.isSome_some]
      rw [dix_dct hm (okK_cells _) hg]
      exact h M kvs LeX.refl hm hk (by omega)
    | none =>
      try simp only [decide_true, decide_false, Bool.not_true, Bool.not_false, startD, Nat.reduceLeDiff, List.map_cons, List.map_nil, List.length_cons, List.length_nil, Nat.reduceAdd, Nat.reduceSub, List.replicate, List.cons_append, List.nil_append, List.append_nil, sSeq, sRet, sRetN, sAsg, sDrop, sIf, sNext, sBreak, sCont, dOp, dVar, dC, dTup, dLst, aCons, aNil, dCB, dCall, dTest, dNotT, dAndT, dOrT, dAnd, dOr, dNot, dNeg, gNameD, gTupD, gsOf, gsCons, gsNil, gSubD, dSl, oNone, oSome, endsF, DEnds.kx, List.getElem?_cons_zero, List.getElem?_cons_succ, List.set_cons_zero, List.set_cons_succ, onS_some, add_int, sub_int, iad_int, mul_int, div_int, mod_int, pow_int, ban_int, bor_int, bxr_int, shl_int, shr_int, le_int', gt_int', ge_int', lt_int', eq_int', ne_int', dix_c0, dix_c1, dix_t0, dix_t1, sq_c, sq_t, isi_int, isi_int_bool, isi_tup, isi_bool, DL.abs_int, is_non, isnot_non, true_and, and_true, dBM, wipeD, mti_append, mti_lpop, mti_clear, mti_reverse, mti_get, mti_dpop, mti_setdefault, Option.isSome_none]
      show sFor _ _ _ _ _ _
      unfold sFor
      rw [ival_te]
      try simp only [decide_true, decide_false, Bool.not_true, Bool.not_false, startD, Nat.reduceLeDiff, List.map_cons, List.map_nil, List.length_cons, List.length_nil, Nat.reduceAdd, Nat.reduceSub, List.replicate, List.cons_append, List.nil_append, List.append_nil, sSeq, sRet, sRetN, sAsg, sDrop, sIf, sNext, sBreak, sCont, dOp, dVar, dC, dTup, dLst, aCons, aNil, dCB, dCall, dTest, dNotT, dAndT, dOrT, dAnd, dOr, dNot, dNeg, gNameD, gTupD, gsOf, gsCons, gsNil, gSubD, dSl, oNone, oSome, endsF, DEnds.kx, List.getElem?_cons_zero, List.getElem?_cons_succ, List.set_cons_zero, List.set_cons_succ, onS_some, add_int, sub_int, iad_int, mul_int, div_int, mod_int, pow_int, ban_int, bor_int, bxr_int, shl_int, shr_int, le_int', gt_int', ge_int', lt_int', eq_int', ne_int', dix_c0, dix_c1, dix_t0, dix_t1, sq_c, sq_t, isi_int, isi_int_bool, isi_tup, isi_bool, DL.abs_int, is_non, isnot_non, true_and, and_true, dBM, wipeD, mti_append, mti_lpop, mti_clear, mti_reverse, mti_get, mti_dpop, mti_setdefault]
      rw [dix_at ha h0]
      refine ⟨a, cs, c, rfl, ha, fun M1 q le1 hq => ?_⟩
      rw [it_ls (ls_of hq)]
      have hm1 : M1 m = some (.dct kvs) := le1 _ _ hm
      have hqm : q ≠ m := fun e => by rw [e, hm1] at hq; cases hq
      have ham : a ≠ m := ne_dct ha hm
      refine for_inv (e := cD) (fun todo σ M' => ∃ pre x4 kvs', partners cs c = pre ++ todo ∧ σ = [some (.ref a), some (.ref m), some (.tup (cs.map cD)), some (.int ((pre.map fun o => cnt (without cs c o)).sum)), x4] ∧ LeX m M1 M' ∧ M' m = some (.dct kvs') ∧ memoOk kvs' ∧ 2 * (kvs'.length + pre.length) ≤ 2 * kvs.length + pre.length * cap cs.length) ?_ ?_ (partners cs c) _ _ ⟨[], none, kvs, rfl, rfl, LeX.refl, hm1, hk, by simp⟩
      · rintro o todo σ M' ⟨pre, x4, kvs', hx, rfl, le, hm', hk', hlen⟩ N hN
        have hin : o ∈ partners cs c := by rw [hx]; simp
        have hpl : pre.length + 1 ≤ 2 := by
          have h1 : (partners cs c).length ≤ 2 := List.length_filter_le _ _
          rw [hx] at h1
          simp only [List.length_append, List.length_cons] at h1
          omega
        refine ⟨le.ls hqm (ls_of hq), ?_⟩
        have ha' : lsOf M' (.ref a) = some (cs.map cD) := le.ls ham (ls_le le1 ha)
        try simp only [decide_true, decide_false, Bool.not_true, Bool.not_false, startD, Nat.reduceLeDiff, List.map_cons, List.map_nil, List.length_cons, List.length_nil, Nat.reduceAdd, Nat.reduceSub, List.replicate, List.cons_append, List.nil_append, List.append_nil, sSeq, sRet, sRetN, sAsg, sDrop, sIf, sNext, sBreak, sCont, dOp, dVar, dC, dTup, dLst, aCons, aNil, dCB, dCall, dTest, dNotT, dAndT, dOrT, dAnd, dOr, dNot, dNeg, gNameD, gTupD, gsOf, gsCons, gsNil, gSubD, dSl, oNone, oSome, endsF, DEnds.kx, List.getElem?_cons_zero, List.getElem?_cons_succ, List.set_cons_zero, List.set_cons_succ, onS_some, add_int, sub_int, iad_int, mul_int, div_int, mod_int, pow_int, ban_int, bor_int, bxr_int, shl_int, shr_int, le_int', gt_int', ge_int', lt_int', eq_int', ne_int', dix_c0, dix_c1, dix_t0, dix_t1, sq_c, sq_t, isi_int, isi_int_bool, isi_tup, isi_bool, DL.abs_int, is_non, isnot_non, true_and, and_true, dBM, wipeD, mti_append, mti_lpop, mti_clear, mti_reverse, mti_get, mti_dpop, mti_setdefault, sAug]
        rw [dix_at ha' h0]
        refine ⟨a, cs, c, o, rfl, ha', by omega, fun M2 w le2 hw => ?_⟩
        have hlo := hwl o hin
        have hc2 := cap_two hlo
        have hcp := cap_pos (without cs c o).length
        have hp3 : pre.length * cap cs.length ≤ 1 * cap cs.length := Nat.mul_le_mul_right _ (by omega)
        cases n with
        | zero => omega
        | succ n =>
          refine ⟨w, m, without cs c o, kvs', rfl, ls_of hw, by omega, by omega, le2 _ _ hm', hk', by omega, fun M3 kvs3 le3 hm3 hk3 hl3 => ?_⟩
          try simp only [decide_true, decide_false, Bool.not_true, Bool.not_false, startD, Nat.reduceLeDiff, List.map_cons, List.map_nil, List.length_cons, List.length_nil, Nat.reduceAdd, Nat.reduceSub, List.replicate, List.cons_append, List.nil_append, List.append_nil, sSeq, sRet, sRetN, sAsg, sDrop, sIf, sNext, sBreak, sCont, dOp, dVar, dC, dTup, dLst, aCons, aNil, dCB, dCall, dTest, dNotT, dAndT, dOrT, dAnd, dOr, dNot, dNeg, gNameD, gTupD, gsOf, gsCons, gsNil, gSubD, dSl, oNone, oSome, endsF, DEnds.kx, List.getElem?_cons_zero, List.getElem?_cons_succ, List.set_cons_zero, List.set_cons_succ, onS_some, add_int, sub_int, iad_int, mul_int, div_int, mod_int, pow_int, ban_int, bor_int, bxr_int, shl_int, shr_int, le_int', gt_int', ge_int', lt_int', eq_int', ne_int', dix_c0, dix_c1, dix_t0, dix_t1, sq_c, sq_t, isi_int, isi_int_bool, isi_tup, isi_bool, DL.abs_int, is_non, isnot_non, true_and, and_true, dBM, wipeD, mti_append, mti_lpop, mti_clear, mti_reverse, mti_get, mti_dpop, mti_setdefault]
          refine hN _ _ ⟨pre ++ [o], some (cD o), kvs3, by rw [hx]; simp, ?_, (le.trans (LeX.of le2)).trans le3, hm3, hk3, ?_⟩
          · rw [List.map_append, List.sum_append]
            simp
          · rw [List.length_append, Nat.add_mul]
            simp only [List.length_cons, List.length_nil]
            omega
      · rintro σ M' ⟨pre, x4, kvs', hx, rfl, le, hm', hk', hlen⟩
        rw [List.append_nil] at hx
        refine ⟨le.ls hqm (ls_of hq), ?_⟩
        rw [← hx, ← hcc]
        have hpl : pre.length ≤ 2 := by
          rw [← hx]
          exact List.length_filter_le _ _
        have hbound : kvs'.length + 2 ≤ kvs.length + cap cs.length := by
          rcases (show pre.length = 0 ∨ pre.length = 1 ∨ pre.length = 2 by omega) with e | e | e <;> rw [e] at hlen <;> omega
        try simp only [decide_true, decide_false, Bool.not_true, Bool.not_false, startD, Nat.reduceLeDiff, List.map_cons, List.map_nil, List.length_cons, List.length_nil, Nat.reduceAdd, Nat.reduceSub, List.replicate, List.cons_append, List.nil_append, List.append_nil, sSeq, sRet, sRetN, sAsg, sDrop, sIf, sNext, sBreak, sCont, dOp, dVar, dC, dTup, dLst, aCons, aNil, dCB, dCall, dTest, dNotT, dAndT, dOrT, dAnd, dOr, dNot, dNeg, gNameD, gTupD, gsOf, gsCons, gsNil, gSubD, dSl, oNone, oSome, endsF, DEnds.kx, List.getElem?_cons_zero, List.getElem?_cons_succ, List.set_cons_zero, List.set_cons_succ, onS_some, add_int, sub_int, iad_int, mul_int, div_int, mod_int, pow_int, ban_int, bor_int, bxr_int, shl_int, shr_int, le_int', gt_int', ge_int', lt_int', eq_int', ne_int', dix_c0, dix_c1, dix_t0, dix_t1, sq_c, sq_t, isi_int, isi_int_bool, isi_tup, isi_bool, DL.abs_int, is_non, isnot_non, true_and, and_true, dBM, wipeD, mti_append, mti_lpop, mti_clear, mti_reverse, mti_get, mti_dpop, mti_setdefault]
        rw [set_dct hm' (okK_cells _)]
        refine ⟨by omega, ?_⟩
        try simp only [decide_true, decide_false, Bool.not_true, Bool.not_false, startD, Nat.reduceLeDiff, List.map_cons, List.map_nil, List.length_cons, List.length_nil, Nat.reduceAdd, Nat.reduceSub, List.replicate, List.cons_append, List.nil_append, List.append_nil, sSeq, sRet, sRetN, sAsg, sDrop, sIf, sNext, sBreak, sCont, dOp, dVar, dC, dTup, dLst, aCons, aNil, dCB, dCall, dTest, dNotT, dAndT, dOrT, dAnd, dOr, dNot, dNeg, gNameD, gTupD, gsOf, gsCons, gsNil, gSubD, dSl, oNone, oSome, endsF, DEnds.kx, List.getElem?_cons_zero, List.getElem?_cons_succ, List.set_cons_zero, List.set_cons_succ, onS_some, add_int, sub_int, iad_int, mul_int, div_int, mod_int, pow_int, ban_int, bor_int, bxr_int, shl_int, shr_int, le_int', gt_int', ge_int', lt_int', eq_int', ne_int', dix_c0, dix_c1, dix_t0, dix_t1, sq_c, sq_t, isi_int, isi_int_bool, isi_tup, isi_bool, DL.abs_int, is_non, isnot_non, true_and, and_true, dBM, wipeD, mti_append, mti_lpop, mti_clear, mti_reverse, mti_get, mti_dpop, mti_setdefault]
        rw [dix_dct up_same (okK_cells _) (by rw [lget_lput, if_pos rfl])]
        have hll := lput_length kvs' (.tup (cs.map cD)) (.int (cnt cs))
        refine h _ _ (((LeX.of le1).trans le).up) up_same (fun ds v hv => ?_) (by omega)
        rw [lget_lput] at hv
        split at hv
        · rename_i e
          have e2 : _ = ds := map_cD_inj.mp (by injection e)
          cases hv
          rw [e2]
        · exact hk' _ _ hv
def sp_count_cases : DSp := spn_count_cases 22
def sp_by_cases : DSp := fun ds M K KX => ∃ (a : Addr) (cs : List Cell), ds = [.ref a] ∧ lsOf M (.ref a) = some (cs.map cD) ∧ cs.length < 44 ∧ ((narrow cs ∧ ∀ M', Le M M' → K (.int (cnt cs)) M') ∨ (¬ narrow cs ∧ ∀ M', Le M M' → KX "TooWide" M'))
def t_by_cases : TSD := (sSeq (sDrop (dCall 1 sp_check_width [] (aCons (dVar 0) aNil))) (sSeq (sRet (dCall 2 sp_count_cases [] (aCons (dVar 0) (aCons dEmp aNil)))) sNext))
theorem p_by_cases (ds : List D) (M : Mem) (K : DK) (KX : DX) (h : sp_by_cases ds M K KX) : t_by_cases (endsF K KX) (startD ["floor"] ds) M := by
  obtain ⟨a, cs, rfl, ha, hl, h⟩ := h
  try simp only [decide_true, decide_false, Bool.not_true, Bool.not_false, startD, Nat.reduceLeDiff, List.map_cons, List.map_nil, List.length_cons, List.length_nil, Nat.reduceAdd, Nat.reduceSub, List.replicate, List.cons_append, List.nil_append, List.append_nil, sSeq, sRet, sRetN, sAsg, sDrop, sIf, sNext, sBreak, sCont, dOp, dVar, dC, dTup, dLst, aCons, aNil, dCB, dCall, dTest, dNotT, dAndT, dOrT, dAnd, dOr, dNot, dNeg, gNameD, gTupD, gsOf, gsCons, gsNil, gSubD, dSl, oNone, oSome, endsF, DEnds.kx, List.getElem?_cons_zero, List.getElem?_cons_succ, List.set_cons_zero, List.set_cons_succ, onS_some, add_int, sub_int, iad_int, mul_int, div_int, mod_int, pow_int, ban_int, bor_int, bxr_int, shl_int, shr_int, le_int', gt_int', ge_int', lt_int', eq_int', ne_int', dix_c0, dix_c1, dix_t0, dix_t1, sq_c, sq_t, isi_int, isi_int_bool, isi_tup, isi_bool, DL.abs_int, is_non, isnot_non, true_and, and_true, dBM, wipeD, mti_append, mti_lpop, mti_clear, mti_reverse, mti_get, mti_dpop, mti_setdefault, t_by_cases]
  rcases h with ⟨hn, h⟩ | ⟨hn, h⟩
  · refine ⟨a, cs, rfl, ha, by omega, .inl ⟨hn, fun M1 le1 => .inl fun p hp => ?_⟩⟩
    have le2 := le_up (o := .dct []) hp
    refine ⟨a, p, cs, [], rfl, ls_le (le1.trans le2) ha, hl, (by decide), up_same, fun cs v hv => (by cases hv), (cap_small hl), fun M' kvs' le _ _ _ => h _ (le1.trans (le.out hp))⟩
  · exact ⟨a, cs, rfl, ha, by omega, .inr ⟨hn, h⟩⟩
end DL
namespace DL
open PySem PySem.Spec PyProof.Rows L2
/-! ### the script's floors -/
def sp_law_cell_at : DSp := fun ds M K _ => ∃ (x : Addr) (ns : List Int) (k : Nat), ds = [.ref x, .int k] ∧ lsOf M (.ref x) = some (ns.map .int) ∧ K (.int (cellAt ns k)) M
def t_law_cell_at : TSD := (sSeq (sIf (dTest (dOp ltD (dVar 1) (dCB lenD (aCons (dVar 0) aNil)))) (sSeq (sRet (dOp dIx (dVar 0) (dVar 1))) sNext) sNext) (sSeq (sRet (dC (.int 0))) sNext))
theorem p_law_cell_at (ds : List D) (M : Mem) (K : DK) (KX : DX) (h : sp_law_cell_at ds M K KX) : t_law_cell_at (endsF K KX) (startD ["_law_script", "_law_k"] ds) M := by
  obtain ⟨x, ns, k, rfl, hx, h⟩ := h
  try simp only [decide_true, decide_false, Bool.not_true, Bool.not_false, startD, Nat.reduceLeDiff, List.map_cons, List.map_nil, List.length_cons, List.length_nil, Nat.reduceAdd, Nat.reduceSub, List.replicate, List.cons_append, List.nil_append, List.append_nil, sSeq, sRet, sRetN, sAsg, sDrop, sIf, sNext, sBreak, sCont, dOp, dVar, dC, dTup, dLst, aCons, aNil, dCB, dCall, dTest, dNotT, dAndT, dOrT, dAnd, dOr, dNot, dNeg, gNameD, gTupD, gsOf, gsCons, gsNil, gSubD, dSl, oNone, oSome, endsF, DEnds.kx, List.getElem?_cons_zero, List.getElem?_cons_succ, List.set_cons_zero, List.set_cons_succ, onS_some, add_int, sub_int, iad_int, mul_int, div_int, mod_int, pow_int, ban_int, bor_int, bxr_int, shl_int, shr_int, le_int', gt_int', ge_int', lt_int', eq_int', ne_int', dix_c0, dix_c1, dix_t0, dix_t1, sq_c, sq_t, isi_int, isi_int_bool, isi_tup, isi_bool, DL.abs_int, is_non, isnot_non, true_and, and_true, dBM, wipeD, mti_append, mti_lpop, mti_clear, mti_reverse, mti_get, mti_dpop, mti_setdefault, t_law_cell_at]
  rw [len_l hx]
  try simp only [decide_true, decide_false, Bool.not_true, Bool.not_false, startD, Nat.reduceLeDiff, List.map_cons, List.map_nil, List.length_cons, List.length_nil, Nat.reduceAdd, Nat.reduceSub, List.replicate, List.cons_append, List.nil_append, List.append_nil, sSeq, sRet, sRetN, sAsg, sDrop, sIf, sNext, sBreak, sCont, dOp, dVar, dC, dTup, dLst, aCons, aNil, dCB, dCall, dTest, dNotT, dAndT, dOrT, dAnd, dOr, dNot, dNeg, gNameD, gTupD, gsOf, gsCons, gsNil, gSubD, dSl, oNone, oSome, endsF, DEnds.kx, List.getElem?_cons_zero, List.getElem?_cons_succ, List.set_cons_zero, List.set_cons_succ, onS_some, add_int, sub_int, iad_int, mul_int, div_int, mod_int, pow_int, ban_int, bor_int, bxr_int, shl_int, shr_int, le_int', gt_int', ge_int', lt_int', eq_int', ne_int', dix_c0, dix_c1, dix_t0, dix_t1, sq_c, sq_t, isi_int, isi_int_bool, isi_tup, isi_bool, DL.abs_int, is_non, isnot_non, true_and, and_true, dBM, wipeD, mti_append, mti_lpop, mti_clear, mti_reverse, mti_get, mti_dpop, mti_setdefault]
  rw [List.length_map]
  unfold cellAt at h
  by_cases hk : k < ns.length
  · have e : decide ((k : Int) < (ns.length : Int)) = true := decide_eq_true (by omega)
    rw [e]
    dsimp only
    have ea : (ns.map D.int)[k]? = some (.int (ns.getD k 0)) := by
      rw [List.getElem?_map, List.getElem?_eq_getElem hk, List.getD_eq_getElem?_getD, List.getElem?_eq_getElem hk]; rfl
    rw [dix_at hx (atI_nat ea)]
    exact h
  · have e : decide ((k : Int) < (ns.length : Int)) = false := decide_eq_false (by omega)
    rw [e]
    dsimp only
    rw [List.getD_eq_getElem?_getD, List.getElem?_eq_none (Nat.le_of_not_lt hk)] at h
    exact h
def sp_law_whole : DSp := fun ds M K _ => ∃ i : Int, ds = [.int i] ∧ K (.bl true) M
def t_law_whole : TSD := (sSeq (sRet (dAnd (dCB isiD (aCons (dVar 0) (aCons (dC (.ty "int")) aNil))) (dNot (dCB isiD (aCons (dVar 0) (aCons (dC (.ty "bool")) aNil)))))) sNext)
theorem p_law_whole (ds : List D) (M : Mem) (K : DK) (KX : DX) (h : sp_law_whole ds M K KX) : t_law_whole (endsF K KX) (startD ["_law_found"] ds) M := by
  obtain ⟨i, rfl, h⟩ := h
  try simp only [decide_true, decide_false, Bool.not_true, Bool.not_false, startD, Nat.reduceLeDiff, List.map_cons, List.map_nil, List.length_cons, List.length_nil, Nat.reduceAdd, Nat.reduceSub, List.replicate, List.cons_append, List.nil_append, List.append_nil, sSeq, sRet, sRetN, sAsg, sDrop, sIf, sNext, sBreak, sCont, dOp, dVar, dC, dTup, dLst, aCons, aNil, dCB, dCall, dTest, dNotT, dAndT, dOrT, dAnd, dOr, dNot, dNeg, gNameD, gTupD, gsOf, gsCons, gsNil, gSubD, dSl, oNone, oSome, endsF, DEnds.kx, List.getElem?_cons_zero, List.getElem?_cons_succ, List.set_cons_zero, List.set_cons_succ, onS_some, add_int, sub_int, iad_int, mul_int, div_int, mod_int, pow_int, ban_int, bor_int, bxr_int, shl_int, shr_int, le_int', gt_int', ge_int', lt_int', eq_int', ne_int', dix_c0, dix_c1, dix_t0, dix_t1, sq_c, sq_t, isi_int, isi_int_bool, isi_tup, isi_bool, DL.abs_int, is_non, isnot_non, true_and, and_true, dBM, wipeD, mti_append, mti_lpop, mti_clear, mti_reverse, mti_get, mti_dpop, mti_setdefault, t_law_whole]
  exact h
/-- top, left, high, wide -/
structure Fr where
  t : Int
  l : Int
  h : Nat
  w : Nat
def Fr.ds (f : Fr) : List D := [.int f.t, .int f.l, .int f.h, .int f.w]
def Fr.has (f : Fr) (p : Cell) : Prop := f.t ≤ p.1 ∧ p.1 < f.t + f.h ∧ f.l ≤ p.2 ∧ p.2 < f.l + f.w
def Fr.ok (f : Fr) (most : Nat) : Prop := 0 < f.h ∧ 0 < f.w ∧ f.h * f.w ≤ most ∧ ((f.w ≤ 8 ∨ most = 64) ∧ f.w ≤ 64)
def Fr.at (f : Fr) (k : Nat) : Cell := (f.t + (k : Int).fdiv f.w, f.l + (k : Int).fmod f.w)
theorem Fr.at_nat (f : Fr) (k : Nat) : f.at k = (f.t + ((k / f.w : Nat) : Int), f.l + ((k % f.w : Nat) : Int)) := by
  unfold Fr.at
  rw [Int.fdiv_eq_ediv_of_nonneg _ (by omega), Int.fmod_eq_emod_of_nonneg _ (by omega)]
  rfl
theorem Fr.at_has (f : Fr) {most : Nat} (ok : f.ok most) {k : Nat} (h : k < f.h * f.w) : f.has (f.at k) := by
  rw [f.at_nat]
  obtain ⟨h1, h2, _⟩ := ok
  have a1 : k / f.w < f.h := Nat.div_lt_of_lt_mul (by rw [Nat.mul_comm]; exact h)
  have a2 : k % f.w < f.w := Nat.mod_lt _ h2
  unfold Fr.has
  dsimp only
  generalize k / f.w = g at *
  generalize k % f.w = g2 at *
  omega
theorem Fr.at_lt (f : Fr) {most : Nat} (ok : f.ok most) {i j : Nat} (h : i < j) : ltC (f.at i) (f.at j) := by
  rw [f.at_nat, f.at_nat]
  have w0 := ok.2.1
  have h1 : i / f.w ≤ j / f.w := Nat.div_le_div_right (Nat.le_of_lt h)
  have e1 := Nat.div_add_mod i f.w
  have e2 := Nat.div_add_mod j f.w
  unfold ltC
  dsimp only
  rcases Nat.lt_or_eq_of_le h1 with q | q
  · left; omega
  · right
    rw [q] at e1
    omega
/-- the frame's cells -/
def Fr.cells (f : Fr) : List Cell := (List.range (f.h * f.w)).map f.at
theorem Fr.has_mem (f : Fr) {most : Nat} (ok : f.ok most) {p : Cell} (h : f.has p) : p ∈ f.cells := by
  obtain ⟨h1, h2, h3, h4⟩ := h
  have w0 := ok.2.1
  obtain ⟨a, ha⟩ := Int.eq_ofNat_of_zero_le (show 0 ≤ p.1 - f.t by omega)
  obtain ⟨b, hb⟩ := Int.eq_ofNat_of_zero_le (show 0 ≤ p.2 - f.l by omega)
  have hbw : b < f.w := by omega
  have hah : a < f.h := by omega
  refine List.mem_map.mpr ⟨a * f.w + b, List.mem_range.mpr ?_, ?_⟩
  · calc a * f.w + b < a * f.w + f.w := by omega
      _ = (a + 1) * f.w := by rw [Nat.add_mul, Nat.one_mul]
      _ ≤ f.h * f.w := Nat.mul_le_mul_right _ hah
  · rw [f.at_nat]
    have e1 : (a * f.w + b) / f.w = a := by
      rw [Nat.add_comm, Nat.add_mul_div_right _ _ w0, Nat.div_eq_of_lt hbw, Nat.zero_add]
    have e2 : (a * f.w + b) % f.w = b := by
      rw [Nat.add_comm, Nat.add_mul_mod_self_right, Nat.mod_eq_of_lt hbw]
    rw [e1, e2]
    obtain ⟨x, y⟩ := p
    simp only [Prod.mk.injEq]
    dsimp only at ha hb
    omega
theorem Fr.most_cells (f : Fr) {most : Nat} (ok : f.ok most) {cs : List Cell} (hn : cs.Nodup) (h : ∀ p ∈ cs, f.has p) : cs.length ≤ f.h * f.w := by
  have := List.Nodup.length_le_of_subset hn (l₂ := f.cells) fun p hp => f.has_mem ok (h p hp)
  unfold Fr.cells at this
  simpa using this
/-! ### a laying in the frame -/
def disjT (a b : Tile) : Prop := a.1 ≠ b.1 ∧ a.1 ≠ b.2 ∧ a.2 ≠ b.1 ∧ a.2 ≠ b.2
structure Laid (f : Fr) (ts : List Tile) : Prop where
  order : ts.Pairwise fun a b => ltC a.1 b.1
  disj : ts.Pairwise disjT
  side : ∀ t ∈ ts, t.2 ∈ partL t.1
  inside : ∀ t ∈ ts, f.has t.1 ∧ f.has t.2
def cellsT (ts : List Tile) : List Cell := ts.map (·.1) ++ ts.map (·.2)
theorem part_lt {p q : Cell} (h : q ∈ partL p) : ltC p q := by
  obtain ⟨a, b⟩ := p
  obtain ⟨c, d⟩ := q
  simp only [partL, List.mem_cons, Prod.mk.injEq, List.not_mem_nil, or_false] at h
  unfold ltC
  dsimp only
  omega
theorem cellsT_nodup : ∀ {ts : List Tile}, ts.Pairwise disjT → (∀ t ∈ ts, t.2 ∈ partL t.1) → (cellsT ts).Nodup
  | [], _, _ => List.nodup_nil
  | t :: r, h, hs => by
    obtain ⟨h1, h2⟩ := List.pairwise_cons.mp h
    have ih := cellsT_nodup h2 fun x hx => hs x (by simp [hx])
    unfold cellsT at ih ⊢
    rw [List.nodup_append] at ih ⊢
    obtain ⟨i1, i2, i3⟩ := ih
    have ht := part_ne (hs t (by simp))
    refine ⟨?_, ?_, fun a ha b hb => ?_⟩
    · rw [List.map_cons, List.nodup_cons]
      refine ⟨fun q => ?_, i1⟩
      obtain ⟨x, hx, e⟩ := List.mem_map.mp q
      exact (h1 x hx).1 e.symm
    · rw [List.map_cons, List.nodup_cons]
      refine ⟨fun q => ?_, i2⟩
      obtain ⟨x, hx, e⟩ := List.mem_map.mp q
      exact (h1 x hx).2.2.2 e.symm
    · rw [List.map_cons, List.mem_cons] at ha hb
      rcases ha with rfl | ha <;> rcases hb with rfl | hb
      · exact Ne.symm ht
      · obtain ⟨x, hx, rfl⟩ := List.mem_map.mp hb
        exact (h1 x hx).2.1
      · obtain ⟨x, hx, rfl⟩ := List.mem_map.mp ha
        exact fun e => (h1 x hx).2.2.1 e.symm
      · exact i3 a ha b hb
theorem mem_cellsT {ts : List Tile} {p : Cell} : p ∈ cellsT ts ↔ ∃ t ∈ ts, p = t.1 ∨ p = t.2 := by
  unfold cellsT
  rw [List.mem_append, List.mem_map, List.mem_map]
  constructor
  · rintro (⟨t, h, rfl⟩ | ⟨t, h, rfl⟩)
    · exact ⟨t, h, .inl rfl⟩
    · exact ⟨t, h, .inr rfl⟩
  · rintro ⟨t, h, rfl | rfl⟩
    · exact .inl ⟨t, h, rfl⟩
    · exact .inr ⟨t, h, rfl⟩
/-- one tile more -/
theorem Laid.snoc {f : Fr} {ts : List Tile} {s o : Cell} (L : Laid f ts) (hs : ∀ t ∈ ts, ltC t.1 s) (h1 : s ∉ ts.map (·.2)) (h2 : o ∉ ts.map (·.2)) (ho : o ∈ partL s) (f1 : f.has s) (f2 : f.has o) : Laid f (ts ++ [(s, o)]) := by
  have so := part_lt ho
  refine ⟨List.pairwise_append.mpr ⟨L.order, List.pairwise_singleton _ _, fun a ha b hb => ?_⟩, List.pairwise_append.mpr ⟨L.disj, List.pairwise_singleton _ _, fun a ha b hb => ?_⟩, fun t ht => ?_, fun t ht => ?_⟩
  · rw [List.mem_singleton.mp hb]; exact hs a ha
  · rw [List.mem_singleton.mp hb]
    have := hs a ha
    refine ⟨this.ne, (this.trans so).ne, fun e => h1 (List.mem_map.mpr ⟨a, ha, e⟩), fun e => h2 (List.mem_map.mpr ⟨a, ha, e⟩)⟩
  · rcases List.mem_append.mp ht with h | h
    · exact L.side t h
    · rw [List.mem_singleton.mp h]; exact ho
  · rcases List.mem_append.mp ht with h | h
    · exact L.inside t h
    · rw [List.mem_singleton.mp h]; exact ⟨f1, f2⟩
theorem Laid.nil (f : Fr) : Laid f [] := ⟨.nil, .nil, by simp, by simp⟩
theorem Laid.nodup {f : Fr} {ts : List Tile} (L : Laid f ts) : (cellsT ts).Nodup := cellsT_nodup L.disj L.side
theorem Laid.has {f : Fr} {ts : List Tile} (L : Laid f ts) : ∀ p ∈ cellsT ts, f.has p := fun p hp => by
  obtain ⟨t, ht, e⟩ := mem_cellsT.mp hp
  rcases e with rfl | rfl
  · exact (L.inside t ht).1
  · exact (L.inside t ht).2
/-! ### the walk -/
def sp_law_free : DSp := fun ds M K _ => ∃ (s : Cell) (way : Int) (y m : Addr) (f : Fr) (kvs : List (D × D)), ds = [cD s, .int way, .ref y, .ref m] ∧ lsOf M (.ref y) = some f.ds ∧ M m = some (.dct kvs) ∧ f.has s ∧
  ∀ M' q (fs : List Cell), Le M M' → M' q = some (.lst (fs.map cD)) → (∀ u, M q = some u → False) → (∀ o ∈ fs, o ∈ partL s ∧ lget kvs (cD o) = none ∧ f.has o) → K (.ref q) M'
def t_law_free : TSD := (sSeq (sAsg (dLst (aCons (dTup (aCons (dOp dIx (dVar 0) (dC (.int 0))) (aCons (dOp addD (dOp dIx (dVar 0) (dC (.int 1))) (dC (.int 1))) aNil))) (aCons (dTup (aCons (dOp addD (dOp dIx (dVar 0) (dC (.int 0))) (dC (.int 1))) (aCons (dOp dIx (dVar 0) (dC (.int 1))) aNil))) aNil))) (gNameD 4)) (sSeq (sIf (dTest (dOp eqD (dOp modD (dVar 1) (dC (.int 2))) (dC (.int 1)))) (sSeq (sAsg (dLst (aCons (dOp dIx (dVar 4) (dC (.int 1))) (aCons (dOp dIx (dVar 4) (dC (.int 0))) aNil))) (gNameD 4)) sNext) sNext) (sSeq (sAsg (dOp addD (dOp dIx (dVar 2) (dC (.int 0))) (dOp dIx (dVar 2) (dC (.int 2)))) (gNameD 5)) (sSeq (sAsg (dOp addD (dOp dIx (dVar 2) (dC (.int 1))) (dOp dIx (dVar 2) (dC (.int 3)))) (gNameD 6)) (sSeq (sRet (dLc (iVal (dVar 4)) (.one 8) (dAndT (dTest (dOp notInD (dVar 8) (dVar 3))) (dAndT (dTest (dOp ltD (dOp dIx (dVar 8) (dC (.int 0))) (dVar 5))) (dTest (dOp ltD (dOp dIx (dVar 8) (dC (.int 1))) (dVar 6))))) (dVar 8) [7, 8])) sNext)))))
theorem p_law_free (ds : List D) (M : Mem) (K : DK) (KX : DX) (h : sp_law_free ds M K KX) : t_law_free (endsF K KX) (startD ["_law_spot", "_law_way", "_law_frame_here", "_law_covered", "_law_others", "_law_down", "_law_right", ".0", "_law_other"] ds) M := by
  obtain ⟨s, way, y, m, f, kvs, rfl, hy, hm, hs, h⟩ := h
  try simp only [decide_true, decide_false, Bool.not_true, Bool.not_false, startD, Nat.reduceLeDiff, List.map_cons, List.map_nil, List.length_cons, List.length_nil, Nat.reduceAdd, Nat.reduceSub, List.replicate, List.cons_append, List.nil_append, List.append_nil, sSeq, sRet, sRetN, sAsg, sDrop, sIf, sNext, sBreak, sCont, dOp, dVar, dC, dTup, dLst, aCons, aNil, dCB, dCall, dTest, dNotT, dAndT, dOrT, dAnd, dOr, dNot, dNeg, gNameD, gTupD, gsOf, gsCons, gsNil, gSubD, dSl, oNone, oSome, endsF, DEnds.kx, List.getElem?_cons_zero, List.getElem?_cons_succ, List.set_cons_zero, List.set_cons_succ, onS_some, add_int, sub_int, iad_int, mul_int, div_int, mod_int, pow_int, ban_int, bor_int, bxr_int, shl_int, shr_int, le_int', gt_int', ge_int', lt_int', eq_int', ne_int', dix_c0, dix_c1, dix_t0, dix_t1, sq_c, sq_t, isi_int, isi_int_bool, isi_tup, isi_bool, DL.abs_int, is_non, isnot_non, true_and, and_true, dBM, wipeD, mti_append, mti_lpop, mti_clear, mti_reverse, mti_get, mti_dpop, mti_setdefault, t_law_free]
  intro u hu
  have le1 := le_up (o := .lst ((partL s).map cD)) hu
  refine ⟨by decide, ?_⟩
  have fin : ∀ (q : Addr) (M1 : Mem) (os : List Cell), Le M M1 → lsOf M1 (.ref q) = some (os.map cD) → (∀ o ∈ os, o ∈ partL s) → os.length ≤ 10 → dIx (.ref y) (.int 0) M1 (fun x M1 => dIx (.ref y) (.int 2) M1 fun y2 M2 => addD x y2 M2 fun d M3 =>
      dIx (.ref y) (.int 1) M3 fun x M1 => dIx (.ref y) (.int 3) M1 fun y2 M2 => addD x y2 M2 fun d2 M' => dLc (iVal (dVar 4)) (.one 8) (dAndT (dTest (dOp notInD (dVar 8) (dVar 3))) (dAndT (dTest (dOp ltD (dOp dIx (dVar 8) (dC (.int 0))) (dVar 5))) (dTest (dOp ltD (dOp dIx (dVar 8) (dC (.int 1))) (dVar 6))))) (dVar 8) [7, 8] [some (cD s), some (.int way), some (.ref y), some (.ref m), some (.ref q), some d, some d2, none, none] M' K (fun c M => KX c M)) := by
    intro q M1 os le hq ho hl
    have hy1 := ls_le le hy
    rw [dix_at hy1 (show atI f.ds 0 = some (.int f.t) from rfl), dix_at hy1 (show atI f.ds 2 = some (.int f.h) from rfl)]
    try simp only [decide_true, decide_false, Bool.not_true, Bool.not_false, startD, Nat.reduceLeDiff, List.map_cons, List.map_nil, List.length_cons, List.length_nil, Nat.reduceAdd, Nat.reduceSub, List.replicate, List.cons_append, List.nil_append, List.append_nil, sSeq, sRet, sRetN, sAsg, sDrop, sIf, sNext, sBreak, sCont, dOp, dVar, dC, dTup, dLst, aCons, aNil, dCB, dCall, dTest, dNotT, dAndT, dOrT, dAnd, dOr, dNot, dNeg, gNameD, gTupD, gsOf, gsCons, gsNil, gSubD, dSl, oNone, oSome, endsF, DEnds.kx, List.getElem?_cons_zero, List.getElem?_cons_succ, List.set_cons_zero, List.set_cons_succ, onS_some, add_int, sub_int, iad_int, mul_int, div_int, mod_int, pow_int, ban_int, bor_int, bxr_int, shl_int, shr_int, le_int', gt_int', ge_int', lt_int', eq_int', ne_int', dix_c0, dix_c1, dix_t0, dix_t1, sq_c, sq_t, isi_int, isi_int_bool, isi_tup, isi_bool, DL.abs_int, is_non, isnot_non, true_and, and_true, dBM, wipeD, mti_append, mti_lpop, mti_clear, mti_reverse, mti_get, mti_dpop, mti_setdefault]
    rw [dix_at hy1 (show atI f.ds 1 = some (.int f.l) from rfl), dix_at hy1 (show atI f.ds 3 = some (.int f.w) from rfl)]
    try simp only [decide_true, decide_false, Bool.not_true, Bool.not_false, startD, Nat.reduceLeDiff, List.map_cons, List.map_nil, List.length_cons, List.length_nil, Nat.reduceAdd, Nat.reduceSub, List.replicate, List.cons_append, List.nil_append, List.append_nil, sSeq, sRet, sRetN, sAsg, sDrop, sIf, sNext, sBreak, sCont, dOp, dVar, dC, dTup, dLst, aCons, aNil, dCB, dCall, dTest, dNotT, dAndT, dOrT, dAnd, dOr, dNot, dNeg, gNameD, gTupD, gsOf, gsCons, gsNil, gSubD, dSl, oNone, oSome, endsF, DEnds.kx, List.getElem?_cons_zero, List.getElem?_cons_succ, List.set_cons_zero, List.set_cons_succ, onS_some, add_int, sub_int, iad_int, mul_int, div_int, mod_int, pow_int, ban_int, bor_int, bxr_int, shl_int, shr_int, le_int', gt_int', ge_int', lt_int', eq_int', ne_int', dix_c0, dix_c1, dix_t0, dix_t1, sq_c, sq_t, isi_int, isi_int_bool, isi_tup, isi_bool, DL.abs_int, is_non, isnot_non, true_and, and_true, dBM, wipeD, mti_append, mti_lpop, mti_clear, mti_reverse, mti_get, mti_dpop, mti_setdefault]
    unfold dLc
    rw [ival_ls rfl hq]
    refine lc_fm (e := cD) (fun x => (!(lget kvs (cD x)).isSome) && (decide (x.1 < f.t + f.h) && decide (x.2 < f.l + f.w))) cD (fun M' le' => ls_le le' hq) (fun x _ M' le' => ⟨_, rfl, fun Q hQ => ?_, fun _ M2 le2 Q hQ => ?_⟩) (by unfold big; omega) fun M2 le2 r hr => ?_
    · try simp only [decide_true, decide_false, Bool.not_true, Bool.not_false, startD, Nat.reduceLeDiff, List.map_cons, List.map_nil, List.length_cons, List.length_nil, Nat.reduceAdd, Nat.reduceSub, List.replicate, List.cons_append, List.nil_append, List.append_nil, sSeq, sRet, sRetN, sAsg, sDrop, sIf, sNext, sBreak, sCont, dOp, dVar, dC, dTup, dLst, aCons, aNil, dCB, dCall, dTest, dNotT, dAndT, dOrT, dAnd, dOr, dNot, dNeg, gNameD, gTupD, gsOf, gsCons, gsNil, gSubD, dSl, oNone, oSome, endsF, DEnds.kx, List.getElem?_cons_zero, List.getElem?_cons_succ, List.set_cons_zero, List.set_cons_succ, onS_some, add_int, sub_int, iad_int, mul_int, div_int, mod_int, pow_int, ban_int, bor_int, bxr_int, shl_int, shr_int, le_int', gt_int', ge_int', lt_int', eq_int', ne_int', dix_c0, dix_c1, dix_t0, dix_t1, sq_c, sq_t, isi_int, isi_int_bool, isi_tup, isi_bool, DL.abs_int, is_non, isnot_non, true_and, and_true, dBM, wipeD, mti_append, mti_lpop, mti_clear, mti_reverse, mti_get, mti_dpop, mti_setdefault]
      rw [notIn_dct (le' _ _ (le _ _ hm)) (okK_cD x)]
      try simp only [decide_true, decide_false, Bool.not_true, Bool.not_false, startD, Nat.reduceLeDiff, List.map_cons, List.map_nil, List.length_cons, List.length_nil, Nat.reduceAdd, Nat.reduceSub, List.replicate, List.cons_append, List.nil_append, List.append_nil, sSeq, sRet, sRetN, sAsg, sDrop, sIf, sNext, sBreak, sCont, dOp, dVar, dC, dTup, dLst, aCons, aNil, dCB, dCall, dTest, dNotT, dAndT, dOrT, dAnd, dOr, dNot, dNeg, gNameD, gTupD, gsOf, gsCons, gsNil, gSubD, dSl, oNone, oSome, endsF, DEnds.kx, List.getElem?_cons_zero, List.getElem?_cons_succ, List.set_cons_zero, List.set_cons_succ, onS_some, add_int, sub_int, iad_int, mul_int, div_int, mod_int, pow_int, ban_int, bor_int, bxr_int, shl_int, shr_int, le_int', gt_int', ge_int', lt_int', eq_int', ne_int', dix_c0, dix_c1, dix_t0, dix_t1, sq_c, sq_t, isi_int, isi_int_bool, isi_tup, isi_bool, DL.abs_int, is_non, isnot_non, true_and, and_true, dBM, wipeD, mti_append, mti_lpop, mti_clear, mti_reverse, mti_get, mti_dpop, mti_setdefault]
      have hQ := hQ M' Le.refl
      cases g : lget kvs (cD x) with
      | some v => rw [g] at hQ; exact hQ
      | none =>
        rw [g] at hQ
        try simp only [decide_true, decide_false, Bool.not_true, Bool.not_false, startD, Nat.reduceLeDiff, List.map_cons, List.map_nil, List.length_cons, List.length_nil, Nat.reduceAdd, Nat.reduceSub, List.replicate, List.cons_append, List.nil_append, List.append_nil, sSeq, sRet, sRetN, sAsg, sDrop, sIf, sNext, sBreak, sCont, dOp, dVar, dC, dTup, dLst, aCons, aNil, dCB, dCall, dTest, dNotT, dAndT, dOrT, dAnd, dOr, dNot, dNeg, gNameD, gTupD, gsOf, gsCons, gsNil, gSubD, dSl, oNone, oSome, endsF, DEnds.kx, List.getElem?_cons_zero, List.getElem?_cons_succ, List.set_cons_zero, List.set_cons_succ, onS_some, add_int, sub_int, iad_int, mul_int, div_int, mod_int, pow_int, ban_int, bor_int, bxr_int, shl_int, shr_int, le_int', gt_int', ge_int', lt_int', eq_int', ne_int', dix_c0, dix_c1, dix_t0, dix_t1, sq_c, sq_t, isi_int, isi_int_bool, isi_tup, isi_bool, DL.abs_int, is_non, isnot_non, true_and, and_true, dBM, wipeD, mti_append, mti_lpop, mti_clear, mti_reverse, mti_get, mti_dpop, mti_setdefault, Option.isSome_none]
        by_cases g1 : x.1 < f.t + f.h
        · rw [decide_eq_true g1] at hQ ⊢
          exact hQ
        · rw [decide_eq_false g1] at hQ ⊢
          exact hQ
    · try simp only [decide_true, decide_false, Bool.not_true, Bool.not_false, startD, Nat.reduceLeDiff, List.map_cons, List.map_nil, List.length_cons, List.length_nil, Nat.reduceAdd, Nat.reduceSub, List.replicate, List.cons_append, List.nil_append, List.append_nil, sSeq, sRet, sRetN, sAsg, sDrop, sIf, sNext, sBreak, sCont, dOp, dVar, dC, dTup, dLst, aCons, aNil, dCB, dCall, dTest, dNotT, dAndT, dOrT, dAnd, dOr, dNot, dNeg, gNameD, gTupD, gsOf, gsCons, gsNil, gSubD, dSl, oNone, oSome, endsF, DEnds.kx, List.getElem?_cons_zero, List.getElem?_cons_succ, List.set_cons_zero, List.set_cons_succ, onS_some, add_int, sub_int, iad_int, mul_int, div_int, mod_int, pow_int, ban_int, bor_int, bxr_int, shl_int, shr_int, le_int', gt_int', ge_int', lt_int', eq_int', ne_int', dix_c0, dix_c1, dix_t0, dix_t1, sq_c, sq_t, isi_int, isi_int_bool, isi_tup, isi_bool, DL.abs_int, is_non, isnot_non, true_and, and_true, dBM, wipeD, mti_append, mti_lpop, mti_clear, mti_reverse, mti_get, mti_dpop, mti_setdefault]
      exact hQ _ Le.refl
    · refine h _ r _ ((le.trans le2).new hr) up_same (fun u hu => by rw [(le.trans le2).nope hr] at hu; cases hu) fun o hoo => ?_
      obtain ⟨o1, o2⟩ := List.mem_filter.mp hoo
      simp only [Bool.and_eq_true, Bool.not_eq_true', decide_eq_true_eq] at o2
      have hp := ho o o1
      refine ⟨hp, by simpa using o2.1, ?_⟩
      obtain ⟨_, o3, o4⟩ := o2
      obtain ⟨a, b⟩ := s
      obtain ⟨c, d⟩ := o
      simp only [partL, List.mem_cons, Prod.mk.injEq, List.not_mem_nil, or_false] at hp
      unfold Fr.has at *
      dsimp only at *
      omega
  by_cases hw : way.fmod 2 = 1
  · rw [decide_eq_true hw]
    dsimp only
    show dIx (.ref u) (.int 1) (up M u (.lst ((partL s).map cD))) _
    rw [dix_at (x := .ref u) (xs := (partL s).map cD) ls_up (show atI _ 1 = some (cD (s.1 + 1, s.2)) from rfl), dix_at (x := .ref u) (xs := (partL s).map cD) ls_up (show atI _ 0 = some (cD (s.1, s.2 + 1)) from rfl)]
    intro v hv
    refine fin v _ [(s.1 + 1, s.2), (s.1, s.2 + 1)] (le1.new hv) ls_up (fun o ho => ?_) (by show 2 ≤ 10; decide)
    simp only [partL, List.mem_cons, List.not_mem_nil, or_false] at ho ⊢
    exact ho.symm
  · rw [decide_eq_false hw]
    dsimp only
    exact fin u _ (partL s) le1 ls_up (fun o ho => ho) (by show 2 ≤ 10; decide)
def sp_law_laid : DSp := fun ds M K _ => ∃ (x y : Addr) (ns : List Int) (f : Fr) (most : Nat), ds = [.ref x, .ref y] ∧ lsOf M (.ref x) = some (ns.map .int) ∧ ns.length ≤ 63 ∧ f.ok most ∧ most ≤ 64 ∧ lsOf M (.ref y) = some f.ds ∧
  ∀ M' r t z (ts : List Tile) (ns' : List Int), Le M M' → Laid f ts → ns'.length ≤ ns.length → M t = none → M z = none → M r = none → M' t = some (.lst (ts.map tD)) → M' z = some (.lst (ns'.map .int)) → M' r = some (.lst [.ref t, .ref z]) → t ≠ z → t ≠ r → z ≠ r → K (.ref r) M'
def t_law_laid : TSD := (sSeq (sAsg dEmp (gNameD 2)) (sSeq (sAsg (dLst aNil) (gNameD 3)) (sSeq (sAsg (dC (.int 2)) (gNameD 4)) (sSeq (sFor (iRng (aCons (dOp mulD (dOp dIx (dVar 1) (dC (.int 2))) (dOp dIx (dVar 1) (dC (.int 3)))) aNil)) (gNameD 5) (sSeq (sAsg (dTup (aCons (dOp addD (dOp dIx (dVar 1) (dC (.int 0))) (dOp fdvD (dVar 5) (dOp dIx (dVar 1) (dC (.int 3))))) (aCons (dOp addD (dOp dIx (dVar 1) (dC (.int 1))) (dOp modD (dVar 5) (dOp dIx (dVar 1) (dC (.int 3))))) aNil))) (gNameD 6)) (sSeq (sIf (dTest (dOp notInD (dVar 6) (dVar 2))) (sSeq (sAsg (dC (.int 1)) (gNameD 7)) (sSeq (sIf (dTest (dOp ltD (dVar 4) (dCB lenD (aCons (dVar 0) aNil)))) (sSeq (sAsg (dOp dIx (dVar 0) (dVar 4)) (gNameD 7)) sNext) sNext) (sSeq (sAsg (dOp addD (dVar 4) (dC (.int 1))) (gNameD 4)) (sSeq (sAsg (dCall 4 sp_law_free [] (aCons (dVar 6) (aCons (dOp fdvD (dVar 7) (dC (.int 8))) (aCons (dVar 1) (aCons (dVar 2) aNil))))) (gNameD 8)) (sSeq (sIf (dAndT (dTest (dOp gtD (dOp modD (dVar 7) (dC (.int 8))) (dC (.int 0)))) (dTest (dOp gtD (dCB lenD (aCons (dVar 8) aNil)) (dC (.int 0))))) (sSeq (sDrop (dBM "append" (dVar 3) (aCons (dTup (aCons (dVar 6) (aCons (dOp dIx (dVar 8) (dC (.int 0))) aNil))) aNil))) (sSeq (sAsg (dC (.bl true)) (gSubD (dVar 2) (dOp dIx (dVar 8) (dC (.int 0))))) sNext)) sNext) sNext))))) sNext) sNext))) (sSeq (sRet (dLst (aCons (dVar 3) (aCons (dSl (dVar 0) (oSome (dVar 4)) oNone) aNil)))) sNext)))))
theorem range_split {n i : Nat} {pre r : List Nat} (h : List.range n = pre ++ i :: r) : i = pre.length ∧ i < n := by
  have h1 : (List.range n)[pre.length]? = some i := by rw [h]; simp
  have h2 : pre.length < n := by
    have := congrArg List.length h
    simp only [List.length_range, List.length_append, List.length_cons] at this
    omega
  rw [List.getElem?_range h2] at h1
  cases h1
  exact ⟨rfl, h2⟩
theorem p_law_laid (ds : List D) (M : Mem) (K : DK) (KX : DX) (h : sp_law_laid ds M K KX) : t_law_laid (endsF K KX) (startD ["_law_script", "_law_frame_here", "_law_covered", "_law_tiles", "_law_at", "_law_k", "_law_spot", "_law_cell", "_law_free_here"] ds) M := by
  obtain ⟨x, y, ns, f, most, rfl, hx, hn, fok, hmost, hy, h⟩ := h
  try simp only [decide_true, decide_false, Bool.not_true, Bool.not_false, startD, Nat.reduceLeDiff, List.map_cons, List.map_nil, List.length_cons, List.length_nil, Nat.reduceAdd, Nat.reduceSub, List.replicate, List.cons_append, List.nil_append, List.append_nil, sSeq, sRet, sRetN, sAsg, sDrop, sIf, sNext, sBreak, sCont, dOp, dVar, dC, dTup, dLst, aCons, aNil, dCB, dCall, dTest, dNotT, dAndT, dOrT, dAnd, dOr, dNot, dNeg, gNameD, gTupD, gsOf, gsCons, gsNil, gSubD, dSl, oNone, oSome, endsF, DEnds.kx, List.getElem?_cons_zero, List.getElem?_cons_succ, List.set_cons_zero, List.set_cons_succ, onS_some, add_int, sub_int, iad_int, mul_int, div_int, mod_int, pow_int, ban_int, bor_int, bxr_int, shl_int, shr_int, le_int', gt_int', ge_int', lt_int', eq_int', ne_int', dix_c0, dix_c1, dix_t0, dix_t1, sq_c, sq_t, isi_int, isi_int_bool, isi_tup, isi_bool, DL.abs_int, is_non, isnot_non, true_and, and_true, dBM, wipeD, mti_append, mti_lpop, mti_clear, mti_reverse, mti_get, mti_dpop, mti_setdefault, t_law_laid]
  refine .inl fun m hm => ?_
  try simp only [decide_true, decide_false, Bool.not_true, Bool.not_false, startD, Nat.reduceLeDiff, List.map_cons, List.map_nil, List.length_cons, List.length_nil, Nat.reduceAdd, Nat.reduceSub, List.replicate, List.cons_append, List.nil_append, List.append_nil, sSeq, sRet, sRetN, sAsg, sDrop, sIf, sNext, sBreak, sCont, dOp, dVar, dC, dTup, dLst, aCons, aNil, dCB, dCall, dTest, dNotT, dAndT, dOrT, dAnd, dOr, dNot, dNeg, gNameD, gTupD, gsOf, gsCons, gsNil, gSubD, dSl, oNone, oSome, endsF, DEnds.kx, List.getElem?_cons_zero, List.getElem?_cons_succ, List.set_cons_zero, List.set_cons_succ, onS_some, add_int, sub_int, iad_int, mul_int, div_int, mod_int, pow_int, ban_int, bor_int, bxr_int, shl_int, shr_int, le_int', gt_int', ge_int', lt_int', eq_int', ne_int', dix_c0, dix_c1, dix_t0, dix_t1, sq_c, sq_t, isi_int, isi_int_bool, isi_tup, isi_bool, DL.abs_int, is_non, isnot_non, true_and, and_true, dBM, wipeD, mti_append, mti_lpop, mti_clear, mti_reverse, mti_get, mti_dpop, mti_setdefault]
  intro t ht
  have leM : Le M (up M m (.dct [])) := le_up hm
  have le1 : Le M (up (up M m (.dct [])) t (.lst [])) := leM.new ht
  have hMt : M t = none := leM.nope ht
  have hmt : m ≠ t := ne_of_M up_same ht
  have a0 : atI f.ds 0 = some (.int f.t) := rfl
  have a1 : atI f.ds 1 = some (.int f.l) := rfl
  have a2 : atI f.ds 2 = some (.int f.h) := rfl
  have a3 : atI f.ds 3 = some (.int f.w) := rfl
  obtain ⟨fo1, fo2, fo3, fo4⟩ := id fok
  have hhw : f.h ≤ 64 := Nat.le_trans (Nat.le_trans (Nat.le_mul_of_pos_right f.h fo2) fo3) hmost
  try simp only [decide_true, decide_false, Bool.not_true, Bool.not_false, startD, Nat.reduceLeDiff, List.map_cons, List.map_nil, List.length_cons, List.length_nil, Nat.reduceAdd, Nat.reduceSub, List.replicate, List.cons_append, List.nil_append, List.append_nil, sSeq, sRet, sRetN, sAsg, sDrop, sIf, sNext, sBreak, sCont, dOp, dVar, dC, dTup, dLst, aCons, aNil, dCB, dCall, dTest, dNotT, dAndT, dOrT, dAnd, dOr, dNot, dNeg, gNameD, gTupD, gsOf, gsCons, gsNil, gSubD, dSl, oNone, oSome, endsF, DEnds.kx, List.getElem?_cons_zero, List.getElem?_cons_succ, List.set_cons_zero, List.set_cons_succ, onS_some, add_int, sub_int, iad_int, mul_int, div_int, mod_int, pow_int, ban_int, bor_int, bxr_int, shl_int, shr_int, le_int', gt_int', ge_int', lt_int', eq_int', ne_int', dix_c0, dix_c1, dix_t0, dix_t1, sq_c, sq_t, isi_int, isi_int_bool, isi_tup, isi_bool, DL.abs_int, is_non, isnot_non, true_and, and_true, dBM, wipeD, mti_append, mti_lpop, mti_clear, mti_reverse, mti_get, mti_dpop, mti_setdefault, sFor, iRng]
  have hy1 := ls_le le1 hy
  rw [dix_at hy1 a2, dix_at hy1 a3]
  try simp only [decide_true, decide_false, Bool.not_true, Bool.not_false, startD, Nat.reduceLeDiff, List.map_cons, List.map_nil, List.length_cons, List.length_nil, Nat.reduceAdd, Nat.reduceSub, List.replicate, List.cons_append, List.nil_append, List.append_nil, sSeq, sRet, sRetN, sAsg, sDrop, sIf, sNext, sBreak, sCont, dOp, dVar, dC, dTup, dLst, aCons, aNil, dCB, dCall, dTest, dNotT, dAndT, dOrT, dAnd, dOr, dNot, dNeg, gNameD, gTupD, gsOf, gsCons, gsNil, gSubD, dSl, oNone, oSome, endsF, DEnds.kx, List.getElem?_cons_zero, List.getElem?_cons_succ, List.set_cons_zero, List.set_cons_succ, onS_some, add_int, sub_int, iad_int, mul_int, div_int, mod_int, pow_int, ban_int, bor_int, bxr_int, shl_int, shr_int, le_int', gt_int', ge_int', lt_int', eq_int', ne_int', dix_c0, dix_c1, dix_t0, dix_t1, sq_c, sq_t, isi_int, isi_int_bool, isi_tup, isi_bool, DL.abs_int, is_non, isnot_non, true_and, and_true, dBM, wipeD, mti_append, mti_lpop, mti_clear, mti_reverse, mti_get, mti_dpop, mti_setdefault]
  have hmul : ((f.h : Int) * (f.w : Int)) = ((f.h * f.w : Nat) : Int) := by push_cast; rfl
  rw [hmul]
  refine ⟨.inl (.inl ⟨by omega, by omega⟩), by omega, by omega, ?_⟩
  rw [Int.toNat_natCast]
  unfold rngD
  refine for_inv (e := fun i : Nat => D.int (0 + (i : Int))) (fun r σ M' => ∃ (pre : List Nat) (kvs : List (D × D)) (ts : List Tile) (at' : Nat) (x5 x6 x7 x8 : Option D), List.range (f.h * f.w) = pre ++ r ∧ σ = [some (.ref x), some (.ref y), some (.ref m), some (.ref t), some (.int (at' : Int)), x5, x6, x7, x8] ∧ Le M M' ∧ M' m = some (.dct kvs) ∧ M' t = some (.lst (ts.map tD)) ∧
      Laid f ts ∧ (∀ p ∈ ts, ∃ j, j < pre.length ∧ p.1 = f.at j) ∧ (∀ c : Cell, lget kvs (cD c) = none → c ∉ ts.map (·.2)) ∧ kvs.length ≤ pre.length ∧ ts.length ≤ pre.length ∧ 2 ≤ at') ?_ ?_ (List.range (f.h * f.w)) _ _
      ⟨[], [], [], 2, none, none, none, none, rfl, rfl, le1, by rw [up_ne hmt, up_same], up_same, Laid.nil f, by simp, by simp, by simp, by simp, by omega⟩
  · rintro i r σ M' ⟨pre, kvs, ts, at', x5, x6, x7, x8, hr, rfl, le, hm', ht', L, hfirst, hcov, hlk, hlt, hat⟩ N hN
    refine ⟨trivial, ?_⟩
    obtain ⟨hi, hin⟩ := range_split hr
    have hy' := ls_le le hy
    have hx' := ls_le le hx
    have hspot : (D.tup [.int (f.t + (0 + (i : Int)).fdiv f.w), .int (f.l + (0 + (i : Int)).fmod f.w)]) = cD (f.at i) := by
      rw [Int.zero_add]; rfl
    try simp only [decide_true, decide_false, Bool.not_true, Bool.not_false, startD, Nat.reduceLeDiff, List.map_cons, List.map_nil, List.length_cons, List.length_nil, Nat.reduceAdd, Nat.reduceSub, List.replicate, List.cons_append, List.nil_append, List.append_nil, sSeq, sRet, sRetN, sAsg, sDrop, sIf, sNext, sBreak, sCont, dOp, dVar, dC, dTup, dLst, aCons, aNil, dCB, dCall, dTest, dNotT, dAndT, dOrT, dAnd, dOr, dNot, dNeg, gNameD, gTupD, gsOf, gsCons, gsNil, gSubD, dSl, oNone, oSome, endsF, DEnds.kx, List.getElem?_cons_zero, List.getElem?_cons_succ, List.set_cons_zero, List.set_cons_succ, onS_some, add_int, sub_int, iad_int, mul_int, div_int, mod_int, pow_int, ban_int, bor_int, bxr_int, shl_int, shr_int, le_int', gt_int', ge_int', lt_int', eq_int', ne_int', dix_c0, dix_c1, dix_t0, dix_t1, sq_c, sq_t, isi_int, isi_int_bool, isi_tup, isi_bool, DL.abs_int, is_non, isnot_non, true_and, and_true, dBM, wipeD, mti_append, mti_lpop, mti_clear, mti_reverse, mti_get, mti_dpop, mti_setdefault]
    rw [dix_at hy' a0, dix_at hy' a3]
    try simp only [decide_true, decide_false, Bool.not_true, Bool.not_false, startD, Nat.reduceLeDiff, List.map_cons, List.map_nil, List.length_cons, List.length_nil, Nat.reduceAdd, Nat.reduceSub, List.replicate, List.cons_append, List.nil_append, List.append_nil, sSeq, sRet, sRetN, sAsg, sDrop, sIf, sNext, sBreak, sCont, dOp, dVar, dC, dTup, dLst, aCons, aNil, dCB, dCall, dTest, dNotT, dAndT, dOrT, dAnd, dOr, dNot, dNeg, gNameD, gTupD, gsOf, gsCons, gsNil, gSubD, dSl, oNone, oSome, endsF, DEnds.kx, List.getElem?_cons_zero, List.getElem?_cons_succ, List.set_cons_zero, List.set_cons_succ, onS_some, add_int, sub_int, iad_int, mul_int, div_int, mod_int, pow_int, ban_int, bor_int, bxr_int, shl_int, shr_int, le_int', gt_int', ge_int', lt_int', eq_int', ne_int', dix_c0, dix_c1, dix_t0, dix_t1, sq_c, sq_t, isi_int, isi_int_bool, isi_tup, isi_bool, DL.abs_int, is_non, isnot_non, true_and, and_true, dBM, wipeD, mti_append, mti_lpop, mti_clear, mti_reverse, mti_get, mti_dpop, mti_setdefault]
    refine ⟨⟨by omega, ?_⟩, ?_⟩
    · rw [Int.natAbs_natCast]
      exact Nat.lt_of_le_of_lt (Nat.log2_le_self f.w) (by omega)
    rw [dix_at hy' a1, dix_at hy' a3]
    try simp only [decide_true, decide_false, Bool.not_true, Bool.not_false, startD, Nat.reduceLeDiff, List.map_cons, List.map_nil, List.length_cons, List.length_nil, Nat.reduceAdd, Nat.reduceSub, List.replicate, List.cons_append, List.nil_append, List.append_nil, sSeq, sRet, sRetN, sAsg, sDrop, sIf, sNext, sBreak, sCont, dOp, dVar, dC, dTup, dLst, aCons, aNil, dCB, dCall, dTest, dNotT, dAndT, dOrT, dAnd, dOr, dNot, dNeg, gNameD, gTupD, gsOf, gsCons, gsNil, gSubD, dSl, oNone, oSome, endsF, DEnds.kx, List.getElem?_cons_zero, List.getElem?_cons_succ, List.set_cons_zero, List.set_cons_succ, onS_some, add_int, sub_int, iad_int, mul_int, div_int, mod_int, pow_int, ban_int, bor_int, bxr_int, shl_int, shr_int, le_int', gt_int', ge_int', lt_int', eq_int', ne_int', dix_c0, dix_c1, dix_t0, dix_t1, sq_c, sq_t, isi_int, isi_int_bool, isi_tup, isi_bool, DL.abs_int, is_non, isnot_non, true_and, and_true, dBM, wipeD, mti_append, mti_lpop, mti_clear, mti_reverse, mti_get, mti_dpop, mti_setdefault]
    refine ⟨by omega, ?_⟩
    rw [hspot, notIn_dct hm' (okK_cD _)]
    have hpre : List.range (f.h * f.w) = (pre ++ [i]) ++ r := by rw [hr]; simp
    have hpl : (pre ++ [i]).length = pre.length + 1 := by simp
    have hfirst' : ∀ p ∈ ts, ∃ j, j < (pre ++ [i]).length ∧ p.1 = f.at j := fun p hp => by
      obtain ⟨j, h1, h2⟩ := hfirst p hp
      exact ⟨j, by omega, h2⟩
    cases hc : lget kvs (cD (f.at i)) with
    | some v =>
      try simp only [decide_true, decide_false, Bool.not_true, Bool.not_false, startD, Nat.reduceLeDiff, List.map_cons, List.map_nil, List.length_cons, List.length_nil, Nat.reduceAdd, Nat.reduceSub, List.replicate, List.cons_append, List.nil_append, List.append_nil, sSeq, sRet, sRetN, sAsg, sDrop, sIf, sNext, sBreak, sCont, dOp, dVar, dC, dTup, dLst, aCons, aNil, dCB, dCall, dTest, dNotT, dAndT, dOrT, dAnd, dOr, dNot, dNeg, gNameD, gTupD, gsOf, gsCons, gsNil, gSubD, dSl, oNone, oSome, endsF, DEnds.kx, List.getElem?_cons_zero, List.getElem?_cons_succ, List.set_cons_zero, List.set_cons_succ, onS_some, add_int, sub_int, iad_int, mul_int, div_int, mod_int, pow_int, ban_int, bor_int, bxr_int, shl_int, shr_int, le_int', gt_int', ge_int', lt_int', eq_int', ne_int', dix_c0, dix_c1, dix_t0, dix_t1, sq_c, sq_t, isi_int, isi_int_bool, isi_tup, isi_bool, DL.abs_int, is_non, isnot_non, true_and, and_true, dBM, wipeD, mti_append, mti_lpop, mti_clear, mti_reverse, mti_get, mti_dpop, mti_setdefault, Option.isSome_some]
      exact hN _ _ ⟨pre ++ [i], kvs, ts, at', _, _, _, _, hpre, rfl, le, hm', ht', L, hfirst', hcov, by omega, by omega, hat⟩
    | none =>
      try simp only [decide_true, decide_false, Bool.not_true, Bool.not_false, startD, Nat.reduceLeDiff, List.map_cons, List.map_nil, List.length_cons, List.length_nil, Nat.reduceAdd, Nat.reduceSub, List.replicate, List.cons_append, List.nil_append, List.append_nil, sSeq, sRet, sRetN, sAsg, sDrop, sIf, sNext, sBreak, sCont, dOp, dVar, dC, dTup, dLst, aCons, aNil, dCB, dCall, dTest, dNotT, dAndT, dOrT, dAnd, dOr, dNot, dNeg, gNameD, gTupD, gsOf, gsCons, gsNil, gSubD, dSl, oNone, oSome, endsF, DEnds.kx, List.getElem?_cons_zero, List.getElem?_cons_succ, List.set_cons_zero, List.set_cons_succ, onS_some, add_int, sub_int, iad_int, mul_int, div_int, mod_int, pow_int, ban_int, bor_int, bxr_int, shl_int, shr_int, le_int', gt_int', ge_int', lt_int', eq_int', ne_int', dix_c0, dix_c1, dix_t0, dix_t1, sq_c, sq_t, isi_int, isi_int_bool, isi_tup, isi_bool, DL.abs_int, is_non, isnot_non, true_and, and_true, dBM, wipeD, mti_append, mti_lpop, mti_clear, mti_reverse, mti_get, mti_dpop, mti_setdefault, Option.isSome_none]
      rw [len_l hx']
      try simp only [decide_true, decide_false, Bool.not_true, Bool.not_false, startD, Nat.reduceLeDiff, List.map_cons, List.map_nil, List.length_cons, List.length_nil, Nat.reduceAdd, Nat.reduceSub, List.replicate, List.cons_append, List.nil_append, List.append_nil, sSeq, sRet, sRetN, sAsg, sDrop, sIf, sNext, sBreak, sCont, dOp, dVar, dC, dTup, dLst, aCons, aNil, dCB, dCall, dTest, dNotT, dAndT, dOrT, dAnd, dOr, dNot, dNeg, gNameD, gTupD, gsOf, gsCons, gsNil, gSubD, dSl, oNone, oSome, endsF, DEnds.kx, List.getElem?_cons_zero, List.getElem?_cons_succ, List.set_cons_zero, List.set_cons_succ, onS_some, add_int, sub_int, iad_int, mul_int, div_int, mod_int, pow_int, ban_int, bor_int, bxr_int, shl_int, shr_int, le_int', gt_int', ge_int', lt_int', eq_int', ne_int', dix_c0, dix_c1, dix_t0, dix_t1, sq_c, sq_t, isi_int, isi_int_bool, isi_tup, isi_bool, DL.abs_int, is_non, isnot_non, true_and, and_true, dBM, wipeD, mti_append, mti_lpop, mti_clear, mti_reverse, mti_get, mti_dpop, mti_setdefault, List.length_map]
      have hhas := f.at_has fok hin
      by_cases hlt2 : (at' : Int) < (ns.length : Int)
      · rw [decide_eq_true hlt2]
        try dsimp only
        have ea : (ns.map D.int)[at']? = some (.int (ns.getD at' 0)) := by
          rw [List.getElem?_map, List.getElem?_eq_getElem (by omega), List.getD_eq_getElem?_getD, List.getElem?_eq_getElem (by omega)]; rfl
        rw [dix_at hx' (atI_nat ea)]
        try simp only [decide_true, decide_false, Bool.not_true, Bool.not_false, startD, Nat.reduceLeDiff, List.map_cons, List.map_nil, List.length_cons, List.length_nil, Nat.reduceAdd, Nat.reduceSub, List.replicate, List.cons_append, List.nil_append, List.append_nil, sSeq, sRet, sRetN, sAsg, sDrop, sIf, sNext, sBreak, sCont, dOp, dVar, dC, dTup, dLst, aCons, aNil, dCB, dCall, dTest, dNotT, dAndT, dOrT, dAnd, dOr, dNot, dNeg, gNameD, gTupD, gsOf, gsCons, gsNil, gSubD, dSl, oNone, oSome, endsF, DEnds.kx, List.getElem?_cons_zero, List.getElem?_cons_succ, List.set_cons_zero, List.set_cons_succ, onS_some, add_int, sub_int, iad_int, mul_int, div_int, mod_int, pow_int, ban_int, bor_int, bxr_int, shl_int, shr_int, le_int', gt_int', ge_int', lt_int', eq_int', ne_int', dix_c0, dix_c1, dix_t0, dix_t1, sq_c, sq_t, isi_int, isi_int_bool, isi_tup, isi_bool, DL.abs_int, is_non, isnot_non, true_and, and_true, dBM, wipeD, mti_append, mti_lpop, mti_clear, mti_reverse, mti_get, mti_dpop, mti_setdefault]
        refine ⟨⟨by decide, by decide⟩, f.at i, _, y, m, f, kvs, rfl, hy', hm', hhas, fun M2 q fs le2 hq hnq hfs => ⟨by decide, ?_⟩⟩
        cases hb : decide (0 < (ns.getD at' 0).fmod 8) with
        | false =>
          try dsimp only
          exact hN _ _ ⟨pre ++ [i], kvs, ts, at' + 1, _, _, _, _, hpre, rfl, le.trans le2, le2 _ _ hm', le2 _ _ ht', L, hfirst', hcov, by omega, by omega, by omega⟩
        | true =>
          try dsimp only
          have ht2 := le2 _ _ ht'
          have hm2 := le2 _ _ hm'
          rw [len_l (ls_of hq)]
          try simp only [decide_true, decide_false, Bool.not_true, Bool.not_false, startD, Nat.reduceLeDiff, List.map_cons, List.map_nil, List.length_cons, List.length_nil, Nat.reduceAdd, Nat.reduceSub, List.replicate, List.cons_append, List.nil_append, List.append_nil, sSeq, sRet, sRetN, sAsg, sDrop, sIf, sNext, sBreak, sCont, dOp, dVar, dC, dTup, dLst, aCons, aNil, dCB, dCall, dTest, dNotT, dAndT, dOrT, dAnd, dOr, dNot, dNeg, gNameD, gTupD, gsOf, gsCons, gsNil, gSubD, dSl, oNone, oSome, endsF, DEnds.kx, List.getElem?_cons_zero, List.getElem?_cons_succ, List.set_cons_zero, List.set_cons_succ, onS_some, add_int, sub_int, iad_int, mul_int, div_int, mod_int, pow_int, ban_int, bor_int, bxr_int, shl_int, shr_int, le_int', gt_int', ge_int', lt_int', eq_int', ne_int', dix_c0, dix_c1, dix_t0, dix_t1, sq_c, sq_t, isi_int, isi_int_bool, isi_tup, isi_bool, DL.abs_int, is_non, isnot_non, true_and, and_true, dBM, wipeD, mti_append, mti_lpop, mti_clear, mti_reverse, mti_get, mti_dpop, mti_setdefault, List.length_map]
          cases fs with
          | nil =>
            try simp only [decide_true, decide_false, Bool.not_true, Bool.not_false, startD, Nat.reduceLeDiff, List.map_cons, List.map_nil, List.length_cons, List.length_nil, Nat.reduceAdd, Nat.reduceSub, List.replicate, List.cons_append, List.nil_append, List.append_nil, sSeq, sRet, sRetN, sAsg, sDrop, sIf, sNext, sBreak, sCont, dOp, dVar, dC, dTup, dLst, aCons, aNil, dCB, dCall, dTest, dNotT, dAndT, dOrT, dAnd, dOr, dNot, dNeg, gNameD, gTupD, gsOf, gsCons, gsNil, gSubD, dSl, oNone, oSome, endsF, DEnds.kx, List.getElem?_cons_zero, List.getElem?_cons_succ, List.set_cons_zero, List.set_cons_succ, onS_some, add_int, sub_int, iad_int, mul_int, div_int, mod_int, pow_int, ban_int, bor_int, bxr_int, shl_int, shr_int, le_int', gt_int', ge_int', lt_int', eq_int', ne_int', dix_c0, dix_c1, dix_t0, dix_t1, sq_c, sq_t, isi_int, isi_int_bool, isi_tup, isi_bool, DL.abs_int, is_non, isnot_non, true_and, and_true, dBM, wipeD, mti_append, mti_lpop, mti_clear, mti_reverse, mti_get, mti_dpop, mti_setdefault]
            exact hN _ _ ⟨pre ++ [i], kvs, ts, at' + 1, _, _, _, _, hpre, rfl, le.trans le2, le2 _ _ hm', le2 _ _ ht', L, hfirst', hcov, by omega, by omega, by omega⟩
          | cons o fs' =>
            try simp only [List.length_cons]
            rw [show decide (0 < ((fs'.length + 1 : Nat) : Int)) = true from decide_eq_true (by omega)]
            try dsimp only
            rw [tyM_ls (ls_of ht2), onS_some]
            try simp only [decide_true, decide_false, Bool.not_true, Bool.not_false, startD, Nat.reduceLeDiff, List.map_cons, List.map_nil, List.length_cons, List.length_nil, Nat.reduceAdd, Nat.reduceSub, List.replicate, List.cons_append, List.nil_append, List.append_nil, sSeq, sRet, sRetN, sAsg, sDrop, sIf, sNext, sBreak, sCont, dOp, dVar, dC, dTup, dLst, aCons, aNil, dCB, dCall, dTest, dNotT, dAndT, dOrT, dAnd, dOr, dNot, dNeg, gNameD, gTupD, gsOf, gsCons, gsNil, gSubD, dSl, oNone, oSome, endsF, DEnds.kx, List.getElem?_cons_zero, List.getElem?_cons_succ, List.set_cons_zero, List.set_cons_succ, onS_some, add_int, sub_int, iad_int, mul_int, div_int, mod_int, pow_int, ban_int, bor_int, bxr_int, shl_int, shr_int, le_int', gt_int', ge_int', lt_int', eq_int', ne_int', dix_c0, dix_c1, dix_t0, dix_t1, sq_c, sq_t, isi_int, isi_int_bool, isi_tup, isi_bool, DL.abs_int, is_non, isnot_non, true_and, and_true, dBM, wipeD, mti_append, mti_lpop, mti_clear, mti_reverse, mti_get, mti_dpop, mti_setdefault]
            have q0 : atI ((o :: fs').map cD) 0 = some (cD o) := atI_nat (j := 0) rfl
            have hqt : q ≠ t := fun e => hnq _ (by rw [e]; exact ht')
            have hqm : q ≠ m := fun e => by rw [e, hm2] at hq; cases hq
            rw [List.map_cons] at q0 hq
            rw [dix_at (ls_of hq) q0, bm_append ht2]
            refine ⟨by rw [List.length_map]; unfold big; omega, ?_⟩
            try dsimp only
            have hq3 : lsOf (up M2 t (.lst (ts.map tD ++ [.tup [cD (f.at i), cD o]]))) (.ref q) = some (cD o :: fs'.map cD) := by
              rw [ls_ne hqt]; exact ls_of hq
            rw [dix_at hq3 q0, set_dct (kvs := kvs) (by rw [up_ne hmt]; exact hm2) (okK_cD o)]
            refine ⟨by unfold big; omega, ?_⟩
            obtain ⟨o1, o2, o3⟩ := hfs o (by simp)
            have hMm : M m = none := hm
            refine hN _ _ ⟨pre ++ [i], lput kvs (cD o) (.bl true), ts ++ [(f.at i, o)], at' + 1, _, _, _, _, hpre, rfl, ((le.trans le2).upn hMt).upn hMm, up_same, ?_, L.snoc (fun p hp => ?_) (hcov _ hc) (hcov _ o2) o1 hhas o3, fun p hp => ?_, fun c hcc => ?_, ?_, ?_, by omega⟩
            · rw [up_ne (Ne.symm hmt), up_same, List.map_append]; rfl
            · obtain ⟨j, h1, h2⟩ := hfirst p hp
              rw [h2]
              exact f.at_lt fok (by omega)
            · rcases List.mem_append.mp hp with hp | hp
              · exact hfirst' p hp
              · rw [List.mem_singleton.mp hp]
                exact ⟨i, by omega, rfl⟩
            · rw [lget_lput] at hcc
              split at hcc
              · cases hcc
              · rename_i hne
                rw [List.map_append, List.mem_append]
                rintro (z | z)
                · exact hcov c hcc z
                · have : c = o := by simpa using z
                  exact hne (by rw [this])
            · have := lput_length kvs (cD o) (.bl true)
              omega
            · rw [List.length_append, List.length_singleton]
              omega
      · rw [decide_eq_false hlt2]
        try dsimp only
        try simp only [decide_true, decide_false, Bool.not_true, Bool.not_false, startD, Nat.reduceLeDiff, List.map_cons, List.map_nil, List.length_cons, List.length_nil, Nat.reduceAdd, Nat.reduceSub, List.replicate, List.cons_append, List.nil_append, List.append_nil, sSeq, sRet, sRetN, sAsg, sDrop, sIf, sNext, sBreak, sCont, dOp, dVar, dC, dTup, dLst, aCons, aNil, dCB, dCall, dTest, dNotT, dAndT, dOrT, dAnd, dOr, dNot, dNeg, gNameD, gTupD, gsOf, gsCons, gsNil, gSubD, dSl, oNone, oSome, endsF, DEnds.kx, List.getElem?_cons_zero, List.getElem?_cons_succ, List.set_cons_zero, List.set_cons_succ, onS_some, add_int, sub_int, iad_int, mul_int, div_int, mod_int, pow_int, ban_int, bor_int, bxr_int, shl_int, shr_int, le_int', gt_int', ge_int', lt_int', eq_int', ne_int', dix_c0, dix_c1, dix_t0, dix_t1, sq_c, sq_t, isi_int, isi_int_bool, isi_tup, isi_bool, DL.abs_int, is_non, isnot_non, true_and, and_true, dBM, wipeD, mti_append, mti_lpop, mti_clear, mti_reverse, mti_get, mti_dpop, mti_setdefault]
        refine ⟨⟨by decide, by decide⟩, f.at i, _, y, m, f, kvs, rfl, hy', hm', hhas, fun M2 q fs le2 hq hnq hfs => ⟨by decide, ?_⟩⟩
        have ht2 := le2 _ _ ht'
        have hm2 := le2 _ _ hm'
        rw [len_l (ls_of hq)]
        try simp only [decide_true, decide_false, Bool.not_true, Bool.not_false, startD, Nat.reduceLeDiff, List.map_cons, List.map_nil, List.length_cons, List.length_nil, Nat.reduceAdd, Nat.reduceSub, List.replicate, List.cons_append, List.nil_append, List.append_nil, sSeq, sRet, sRetN, sAsg, sDrop, sIf, sNext, sBreak, sCont, dOp, dVar, dC, dTup, dLst, aCons, aNil, dCB, dCall, dTest, dNotT, dAndT, dOrT, dAnd, dOr, dNot, dNeg, gNameD, gTupD, gsOf, gsCons, gsNil, gSubD, dSl, oNone, oSome, endsF, DEnds.kx, List.getElem?_cons_zero, List.getElem?_cons_succ, List.set_cons_zero, List.set_cons_succ, onS_some, add_int, sub_int, iad_int, mul_int, div_int, mod_int, pow_int, ban_int, bor_int, bxr_int, shl_int, shr_int, le_int', gt_int', ge_int', lt_int', eq_int', ne_int', dix_c0, dix_c1, dix_t0, dix_t1, sq_c, sq_t, isi_int, isi_int_bool, isi_tup, isi_bool, DL.abs_int, is_non, isnot_non, true_and, and_true, dBM, wipeD, mti_append, mti_lpop, mti_clear, mti_reverse, mti_get, mti_dpop, mti_setdefault, List.length_map]
        cases fs with
        | nil =>
          try simp only [decide_true, decide_false, Bool.not_true, Bool.not_false, startD, Nat.reduceLeDiff, List.map_cons, List.map_nil, List.length_cons, List.length_nil, Nat.reduceAdd, Nat.reduceSub, List.replicate, List.cons_append, List.nil_append, List.append_nil, sSeq, sRet, sRetN, sAsg, sDrop, sIf, sNext, sBreak, sCont, dOp, dVar, dC, dTup, dLst, aCons, aNil, dCB, dCall, dTest, dNotT, dAndT, dOrT, dAnd, dOr, dNot, dNeg, gNameD, gTupD, gsOf, gsCons, gsNil, gSubD, dSl, oNone, oSome, endsF, DEnds.kx, List.getElem?_cons_zero, List.getElem?_cons_succ, List.set_cons_zero, List.set_cons_succ, onS_some, add_int, sub_int, iad_int, mul_int, div_int, mod_int, pow_int, ban_int, bor_int, bxr_int, shl_int, shr_int, le_int', gt_int', ge_int', lt_int', eq_int', ne_int', dix_c0, dix_c1, dix_t0, dix_t1, sq_c, sq_t, isi_int, isi_int_bool, isi_tup, isi_bool, DL.abs_int, is_non, isnot_non, true_and, and_true, dBM, wipeD, mti_append, mti_lpop, mti_clear, mti_reverse, mti_get, mti_dpop, mti_setdefault]
          exact hN _ _ ⟨pre ++ [i], kvs, ts, at' + 1, _, _, _, _, hpre, rfl, le.trans le2, le2 _ _ hm', le2 _ _ ht', L, hfirst', hcov, by omega, by omega, by omega⟩
        | cons o fs' =>
          try simp only [List.length_cons]
          rw [show decide (0 < ((fs'.length + 1 : Nat) : Int)) = true from decide_eq_true (by omega)]
          try dsimp only
          rw [tyM_ls (ls_of ht2), onS_some]
          try simp only [decide_true, decide_false, Bool.not_true, Bool.not_false, startD, Nat.reduceLeDiff, List.map_cons, List.map_nil, List.length_cons, List.length_nil, Nat.reduceAdd, Nat.reduceSub, List.replicate, List.cons_append, List.nil_append, List.append_nil, sSeq, sRet, sRetN, sAsg, sDrop, sIf, sNext, sBreak, sCont, dOp, dVar, dC, dTup, dLst, aCons, aNil, dCB, dCall, dTest, dNotT, dAndT, dOrT, dAnd, dOr, dNot, dNeg, gNameD, gTupD, gsOf, gsCons, gsNil, gSubD, dSl, oNone, oSome, endsF, DEnds.kx, List.getElem?_cons_zero, List.getElem?_cons_succ, List.set_cons_zero, List.set_cons_succ, onS_some, add_int, sub_int, iad_int, mul_int, div_int, mod_int, pow_int, ban_int, bor_int, bxr_int, shl_int, shr_int, le_int', gt_int', ge_int', lt_int', eq_int', ne_int', dix_c0, dix_c1, dix_t0, dix_t1, sq_c, sq_t, isi_int, isi_int_bool, isi_tup, isi_bool, DL.abs_int, is_non, isnot_non, true_and, and_true, dBM, wipeD, mti_append, mti_lpop, mti_clear, mti_reverse, mti_get, mti_dpop, mti_setdefault]
          have q0 : atI ((o :: fs').map cD) 0 = some (cD o) := atI_nat (j := 0) rfl
          have hqt : q ≠ t := fun e => hnq _ (by rw [e]; exact ht')
          have hqm : q ≠ m := fun e => by rw [e, hm2] at hq; cases hq
          rw [List.map_cons] at q0 hq
          rw [dix_at (ls_of hq) q0, bm_append ht2]
          refine ⟨by rw [List.length_map]; unfold big; omega, ?_⟩
          try dsimp only
          have hq3 : lsOf (up M2 t (.lst (ts.map tD ++ [.tup [cD (f.at i), cD o]]))) (.ref q) = some (cD o :: fs'.map cD) := by
            rw [ls_ne hqt]; exact ls_of hq
          rw [dix_at hq3 q0, set_dct (kvs := kvs) (by rw [up_ne hmt]; exact hm2) (okK_cD o)]
          refine ⟨by unfold big; omega, ?_⟩
          obtain ⟨o1, o2, o3⟩ := hfs o (by simp)
          have hMm : M m = none := hm
          refine hN _ _ ⟨pre ++ [i], lput kvs (cD o) (.bl true), ts ++ [(f.at i, o)], at' + 1, _, _, _, _, hpre, rfl, ((le.trans le2).upn hMt).upn hMm, up_same, ?_, L.snoc (fun p hp => ?_) (hcov _ hc) (hcov _ o2) o1 hhas o3, fun p hp => ?_, fun c hcc => ?_, ?_, ?_, by omega⟩
          · rw [up_ne (Ne.symm hmt), up_same, List.map_append]; rfl
          · obtain ⟨j, h1, h2⟩ := hfirst p hp
            rw [h2]
            exact f.at_lt fok (by omega)
          · rcases List.mem_append.mp hp with hp | hp
            · exact hfirst' p hp
            · rw [List.mem_singleton.mp hp]
              exact ⟨i, by omega, rfl⟩
          · rw [lget_lput] at hcc
            split at hcc
            · cases hcc
            · rename_i hne
              rw [List.map_append, List.mem_append]
              rintro (z | z)
              · exact hcov c hcc z
              · have : c = o := by simpa using z
                exact hne (by rw [this])
          · have := lput_length kvs (cD o) (.bl true)
            omega
          · rw [List.length_append, List.length_singleton]
            omega
  · rintro σ M' ⟨pre, kvs, ts, at', x5, x6, x7, x8, hr, rfl, le, hm', ht', L, hfirst, hcov, hlk, hlt, hat⟩
    refine ⟨trivial, ?_⟩
    try simp only [decide_true, decide_false, Bool.not_true, Bool.not_false, startD, Nat.reduceLeDiff, List.map_cons, List.map_nil, List.length_cons, List.length_nil, Nat.reduceAdd, Nat.reduceSub, List.replicate, List.cons_append, List.nil_append, List.append_nil, sSeq, sRet, sRetN, sAsg, sDrop, sIf, sNext, sBreak, sCont, dOp, dVar, dC, dTup, dLst, aCons, aNil, dCB, dCall, dTest, dNotT, dAndT, dOrT, dAnd, dOr, dNot, dNeg, gNameD, gTupD, gsOf, gsCons, gsNil, gSubD, dSl, oNone, oSome, endsF, DEnds.kx, List.getElem?_cons_zero, List.getElem?_cons_succ, List.set_cons_zero, List.set_cons_succ, onS_some, add_int, sub_int, iad_int, mul_int, div_int, mod_int, pow_int, ban_int, bor_int, bxr_int, shl_int, shr_int, le_int', gt_int', ge_int', lt_int', eq_int', ne_int', dix_c0, dix_c1, dix_t0, dix_t1, sq_c, sq_t, isi_int, isi_int_bool, isi_tup, isi_bool, DL.abs_int, is_non, isnot_non, true_and, and_true, dBM, wipeD, mti_append, mti_lpop, mti_clear, mti_reverse, mti_get, mti_dpop, mti_setdefault]
    rw [sl_ls (ls_le le hx)]
    intro z hz
    rw [cut_from, ← List.map_drop] at *
    intro r hr
    have hzt : t ≠ z := ne_of_M ht' hz
    have hrz : r ≠ z := Ne.symm (ne_of_M up_same hr)
    have hrt : r ≠ t := Ne.symm (ne_of_M (show (up M' z (.lst ((ns.drop at').map D.int))) t = _ by rw [up_ne hzt]; exact ht') hr)
    refine h _ r t z ts (ns.drop at') ((le.new hz).new hr) L (by rw [List.length_drop]; omega) hMt (le.nope hz) ((le.new hz).nope hr) ?_ ?_ up_same hzt (Ne.symm hrt) (Ne.symm hrz)
    · rw [up_ne (Ne.symm hrt), up_ne hzt]; exact ht'
    · rw [up_ne (Ne.symm hrz), up_same]
def sp_law_cells : DSp := fun ds M K _ => ∃ (t : Addr) (ts : List Tile), ds = [.ref t] ∧ lsOf M (.ref t) = some (ts.map tD) ∧ ts.length ≤ 1000 ∧ ∀ M' a, Le M M' → M a = none → M' a = some (.lst ((srtC (cellsT ts)).map cD)) → K (.ref a) M'
def t_law_cells : TSD := (sSeq (sRet (dCB sortedD (aCons (dOp addD (dLc (iVal (dVar 0)) (.one 2) tYesD (dOp dIx (dVar 2) (dC (.int 0))) [1, 2]) (dLc (iVal (dVar 0)) (.one 2) tYesD (dOp dIx (dVar 2) (dC (.int 1))) [1, 2])) aNil))) sNext)
theorem filter_yes {α : Type} (l : List α) : (l.filter fun _ => true) = l := List.filter_eq_self.mpr fun _ _ => rfl
theorem p_law_cells (ds : List D) (M : Mem) (K : DK) (KX : DX) (h : sp_law_cells ds M K KX) : t_law_cells (endsF K KX) (startD ["_law_tiles", ".0", "_law_tile"] ds) M := by
  obtain ⟨t, ts, rfl, ht, hl, h⟩ := h
  try simp only [decide_true, decide_false, Bool.not_true, Bool.not_false, startD, Nat.reduceLeDiff, List.map_cons, List.map_nil, List.length_cons, List.length_nil, Nat.reduceAdd, Nat.reduceSub, List.replicate, List.cons_append, List.nil_append, List.append_nil, sSeq, sRet, sRetN, sAsg, sDrop, sIf, sNext, sBreak, sCont, dOp, dVar, dC, dTup, dLst, aCons, aNil, dCB, dCall, dTest, dNotT, dAndT, dOrT, dAnd, dOr, dNot, dNeg, gNameD, gTupD, gsOf, gsCons, gsNil, gSubD, dSl, oNone, oSome, endsF, DEnds.kx, List.getElem?_cons_zero, List.getElem?_cons_succ, List.set_cons_zero, List.set_cons_succ, onS_some, add_int, sub_int, iad_int, mul_int, div_int, mod_int, pow_int, ban_int, bor_int, bxr_int, shl_int, shr_int, le_int', gt_int', ge_int', lt_int', eq_int', ne_int', dix_c0, dix_c1, dix_t0, dix_t1, sq_c, sq_t, isi_int, isi_int_bool, isi_tup, isi_bool, DL.abs_int, is_non, isnot_non, true_and, and_true, dBM, wipeD, mti_append, mti_lpop, mti_clear, mti_reverse, mti_get, mti_dpop, mti_setdefault, t_law_cells]
  show dLc _ _ _ _ _ _ _ _ _
  unfold dLc
  rw [ival_ls rfl ht]
  refine lc_fm (e := tD) (fun _ => true) (fun p => cD p.1) (fun M' le => ls_le le ht) (fun p _ M' le => ⟨_, rfl, fun Q hQ => hQ _ Le.refl, fun _ M2 le2 Q hQ => ?_⟩) (by unfold big; omega) fun M1 le1 q hq => ?_
  · try simp only [decide_true, decide_false, Bool.not_true, Bool.not_false, startD, Nat.reduceLeDiff, List.map_cons, List.map_nil, List.length_cons, List.length_nil, Nat.reduceAdd, Nat.reduceSub, List.replicate, List.cons_append, List.nil_append, List.append_nil, sSeq, sRet, sRetN, sAsg, sDrop, sIf, sNext, sBreak, sCont, dOp, dVar, dC, dTup, dLst, aCons, aNil, dCB, dCall, dTest, dNotT, dAndT, dOrT, dAnd, dOr, dNot, dNeg, gNameD, gTupD, gsOf, gsCons, gsNil, gSubD, dSl, oNone, oSome, endsF, DEnds.kx, List.getElem?_cons_zero, List.getElem?_cons_succ, List.set_cons_zero, List.set_cons_succ, onS_some, add_int, sub_int, iad_int, mul_int, div_int, mod_int, pow_int, ban_int, bor_int, bxr_int, shl_int, shr_int, le_int', gt_int', ge_int', lt_int', eq_int', ne_int', dix_c0, dix_c1, dix_t0, dix_t1, sq_c, sq_t, isi_int, isi_int_bool, isi_tup, isi_bool, DL.abs_int, is_non, isnot_non, true_and, and_true, dBM, wipeD, mti_append, mti_lpop, mti_clear, mti_reverse, mti_get, mti_dpop, mti_setdefault]
    exact hQ _ Le.refl
  rw [filter_yes]
  have le2 : Le M (up M1 q (.lst (ts.map fun p => cD p.1))) := le1.new hq
  have ht2 := ls_le le2 ht
  dsimp only
  rw [ival_ls rfl ht2]
  refine lc_fm (e := tD) (fun _ => true) (fun p => cD p.2) (fun M' le => ls_le le ht2) (fun p _ M' le => ⟨_, rfl, fun Q hQ => hQ _ Le.refl, fun _ M2 le2 Q hQ => ?_⟩) (by unfold big; omega) fun M2 le3 r hr => ?_
  · try simp only [decide_true, decide_false, Bool.not_true, Bool.not_false, startD, Nat.reduceLeDiff, List.map_cons, List.map_nil, List.length_cons, List.length_nil, Nat.reduceAdd, Nat.reduceSub, List.replicate, List.cons_append, List.nil_append, List.append_nil, sSeq, sRet, sRetN, sAsg, sDrop, sIf, sNext, sBreak, sCont, dOp, dVar, dC, dTup, dLst, aCons, aNil, dCB, dCall, dTest, dNotT, dAndT, dOrT, dAnd, dOr, dNot, dNeg, gNameD, gTupD, gsOf, gsCons, gsNil, gSubD, dSl, oNone, oSome, endsF, DEnds.kx, List.getElem?_cons_zero, List.getElem?_cons_succ, List.set_cons_zero, List.set_cons_succ, onS_some, add_int, sub_int, iad_int, mul_int, div_int, mod_int, pow_int, ban_int, bor_int, bxr_int, shl_int, shr_int, le_int', gt_int', ge_int', lt_int', eq_int', ne_int', dix_c0, dix_c1, dix_t0, dix_t1, sq_c, sq_t, isi_int, isi_int_bool, isi_tup, isi_bool, DL.abs_int, is_non, isnot_non, true_and, and_true, dBM, wipeD, mti_append, mti_lpop, mti_clear, mti_reverse, mti_get, mti_dpop, mti_setdefault]
    exact hQ _ Le.refl
  rw [filter_yes]
  have e1 : lsOf (up M2 r (.lst (ts.map fun p => cD p.2))) (.ref q) = some (ts.map fun p => cD p.1) := ls_of ((le3.new hr) _ _ up_same)
  rw [cat_ls e1 ls_up]
  refine ⟨by rw [List.length_map, List.length_map]; unfold big; omega, fun u hu => ?_⟩
  try simp only [decide_true, decide_false, Bool.not_true, Bool.not_false, startD, Nat.reduceLeDiff, List.map_cons, List.map_nil, List.length_cons, List.length_nil, Nat.reduceAdd, Nat.reduceSub, List.replicate, List.cons_append, List.nil_append, List.append_nil, sSeq, sRet, sRetN, sAsg, sDrop, sIf, sNext, sBreak, sCont, dOp, dVar, dC, dTup, dLst, aCons, aNil, dCB, dCall, dTest, dNotT, dAndT, dOrT, dAnd, dOr, dNot, dNeg, gNameD, gTupD, gsOf, gsCons, gsNil, gSubD, dSl, oNone, oSome, endsF, DEnds.kx, List.getElem?_cons_zero, List.getElem?_cons_succ, List.set_cons_zero, List.set_cons_succ, onS_some, add_int, sub_int, iad_int, mul_int, div_int, mod_int, pow_int, ban_int, bor_int, bxr_int, shl_int, shr_int, le_int', gt_int', ge_int', lt_int', eq_int', ne_int', dix_c0, dix_c1, dix_t0, dix_t1, sq_c, sq_t, isi_int, isi_int_bool, isi_tup, isi_bool, DL.abs_int, is_non, isnot_non, true_and, and_true, dBM, wipeD, mti_append, mti_lpop, mti_clear, mti_reverse, mti_get, mti_dpop, mti_setdefault]
  have e2 : (ts.map fun p => cD p.1) ++ (ts.map fun p => cD p.2) = (cellsT ts).map cD := by
    unfold cellsT
    rw [List.map_append, List.map_map, List.map_map]; rfl
  rw [e2, sorted_ls ls_up (sortOk_cD _), srt_cD]
  have le4 : Le M (up (up M2 r (.lst (ts.map fun p => cD p.2))) u (.lst ((cellsT ts).map cD))) := ((le2.trans le3).new hr).new hu
  exact fun v hv => h _ v (le4.new hv) (le4.nope hv) up_same
/-- a floor in the frame: sorted -/
structure Floor (f : Fr) (cs : List Cell) : Prop where
  order : cs.Pairwise ltC
  inside : ∀ p ∈ cs, f.has p
theorem Floor.nodup {f : Fr} {cs : List Cell} (F : Floor f cs) : cs.Nodup := F.order.imp fun h => h.ne
theorem Floor.len {f : Fr} {cs : List Cell} {most : Nat} (F : Floor f cs) (ok : f.ok most) : cs.length ≤ most := Nat.le_trans (f.most_cells ok F.nodup F.inside) ok.2.2.1
theorem Floor.narrow {f : Fr} {cs : List Cell} {most : Nat} (F : Floor f cs) (ok : f.ok most) (hm : most ≠ 64 := by decide) : narrow cs := fun p hp q hq => by
  have h1 := F.inside p hp
  have h2 := F.inside q hq
  have h3 := ok.2.2.2
  unfold Fr.has at h1 h2
  omega
theorem Floor.of {f : Fr} {ts : List Tile} (L : Laid f ts) : Floor f (srtC (cellsT ts)) := ⟨srtC_sorted L.nodup, fun p hp => L.has p ((srtC_perm _).mem_iff.mp hp)⟩
def sp_law_floor : DSp := fun ds M K _ => ∃ (x y : Addr) (ns : List Int) (f : Fr) (most : Nat), ds = [.ref x, .ref y] ∧ lsOf M (.ref x) = some (ns.map .int) ∧ ns.length ≤ 63 ∧ f.ok most ∧ most ≤ 64 ∧ lsOf M (.ref y) = some f.ds ∧
  ∀ M' a (cs : List Cell), Floor f cs → Le M M' → M a = none → M' a = some (.lst (cs.map cD)) → K (.ref a) M'
def t_law_floor : TSD := (sSeq (sIf (dTest (dOp gtD (dOp modD (dOp fdvD (dCall 2 sp_law_cell_at [] (aCons (dVar 0) (aCons (dC (.int 0)) aNil))) (dC (.int 12))) (dC (.int 3))) (dC (.int 0)))) (sSeq (sRet (dCall 1 sp_law_cells [] (aCons (dOp dIx (dCall 2 sp_law_laid [] (aCons (dVar 0) (aCons (dVar 1) aNil))) (dC (.int 0))) aNil))) sNext) sNext) (sSeq (sAsg (dOp mulD (dLst (aCons (dOp eqD (dOp modD (dOp fdvD (dCall 2 sp_law_cell_at [] (aCons (dVar 0) (aCons (dC (.int 0)) aNil))) (dC (.int 36))) (dC (.int 2))) (dC (.int 0))) aNil)) (dOp mulD (dOp dIx (dVar 1) (dC (.int 2))) (dOp dIx (dVar 1) (dC (.int 3))))) (gNameD 2)) (sSeq (sFor (iVal (dSl (dVar 0) (oSome (dC (.int 2))) oNone)) (gNameD 3) (sSeq (sAsg (dNot (dOp dIx (dVar 2) (dOp modD (dVar 3) (dCB lenD (aCons (dVar 2) aNil))))) (gSubD (dVar 2) (dOp modD (dVar 3) (dCB lenD (aCons (dVar 2) aNil))))) sNext)) (sSeq (sAsg (dOp dIx (dVar 1) (dC (.int 3))) (gNameD 4)) (sSeq (sRet (dLc (iRng (aCons (dCB lenD (aCons (dVar 2) aNil)) aNil)) (.one 6) (dTest (dOp dIx (dVar 2) (dVar 6))) (dTup (aCons (dOp addD (dOp dIx (dVar 1) (dC (.int 0))) (dOp fdvD (dVar 6) (dVar 4))) (aCons (dOp addD (dOp dIx (dVar 1) (dC (.int 1))) (dOp modD (dVar 6) (dVar 4))) aNil))) [5, 6])) sNext)))))
theorem set_bl (bs : List Bool) (i : Nat) (b : Bool) : (bs.map D.bl).set i (.bl b) = (bs.set i b).map D.bl := by rw [List.map_set]
theorem p_law_floor (ds : List D) (M : Mem) (K : DK) (KX : DX) (h : sp_law_floor ds M K KX) : t_law_floor (endsF K KX) (startD ["_law_script", "_law_frame_here", "_law_there", "_law_cell", "_law_wide", ".0", "_law_k"] ds) M := by
  obtain ⟨x, y, ns, f, most, rfl, hx, hn, fok, hmost, hy, h⟩ := h
  try simp only [decide_true, decide_false, Bool.not_true, Bool.not_false, startD, Nat.reduceLeDiff, List.map_cons, List.map_nil, List.length_cons, List.length_nil, Nat.reduceAdd, Nat.reduceSub, List.replicate, List.cons_append, List.nil_append, List.append_nil, sSeq, sRet, sRetN, sAsg, sDrop, sIf, sNext, sBreak, sCont, dOp, dVar, dC, dTup, dLst, aCons, aNil, dCB, dCall, dTest, dNotT, dAndT, dOrT, dAnd, dOr, dNot, dNeg, gNameD, gTupD, gsOf, gsCons, gsNil, gSubD, dSl, oNone, oSome, endsF, DEnds.kx, List.getElem?_cons_zero, List.getElem?_cons_succ, List.set_cons_zero, List.set_cons_succ, onS_some, add_int, sub_int, iad_int, mul_int, div_int, mod_int, pow_int, ban_int, bor_int, bxr_int, shl_int, shr_int, le_int', gt_int', ge_int', lt_int', eq_int', ne_int', dix_c0, dix_c1, dix_t0, dix_t1, sq_c, sq_t, isi_int, isi_int_bool, isi_tup, isi_bool, DL.abs_int, is_non, isnot_non, true_and, and_true, dBM, wipeD, mti_append, mti_lpop, mti_clear, mti_reverse, mti_get, mti_dpop, mti_setdefault, t_law_floor]
  refine ⟨x, ns, 0, rfl, hx, ?_⟩
  try simp only [decide_true, decide_false, Bool.not_true, Bool.not_false, startD, Nat.reduceLeDiff, List.map_cons, List.map_nil, List.length_cons, List.length_nil, Nat.reduceAdd, Nat.reduceSub, List.replicate, List.cons_append, List.nil_append, List.append_nil, sSeq, sRet, sRetN, sAsg, sDrop, sIf, sNext, sBreak, sCont, dOp, dVar, dC, dTup, dLst, aCons, aNil, dCB, dCall, dTest, dNotT, dAndT, dOrT, dAnd, dOr, dNot, dNeg, gNameD, gTupD, gsOf, gsCons, gsNil, gSubD, dSl, oNone, oSome, endsF, DEnds.kx, List.getElem?_cons_zero, List.getElem?_cons_succ, List.set_cons_zero, List.set_cons_succ, onS_some, add_int, sub_int, iad_int, mul_int, div_int, mod_int, pow_int, ban_int, bor_int, bxr_int, shl_int, shr_int, le_int', gt_int', ge_int', lt_int', eq_int', ne_int', dix_c0, dix_c1, dix_t0, dix_t1, sq_c, sq_t, isi_int, isi_int_bool, isi_tup, isi_bool, DL.abs_int, is_non, isnot_non, true_and, and_true, dBM, wipeD, mti_append, mti_lpop, mti_clear, mti_reverse, mti_get, mti_dpop, mti_setdefault]
  refine ⟨⟨by decide, by decide⟩, by decide, ?_⟩
  have a0 : atI f.ds 0 = some (.int f.t) := rfl
  have a1 : atI f.ds 1 = some (.int f.l) := rfl
  have a2 : atI f.ds 2 = some (.int f.h) := rfl
  have a3 : atI f.ds 3 = some (.int f.w) := rfl
  obtain ⟨b1, b2, b3, b4⟩ := id fok
  cases hb : decide (0 < ((cellAt ns 0).fdiv 12).fmod 3) with
  | true =>
    dsimp only
    refine ⟨x, y, ns, f, most, rfl, hx, hn, fok, hmost, hy, fun M' r t z ts ns' le L _ ht0 hz0 hr0 ht hz hr htz htr hzr => ?_⟩
    dsimp only
    rw [dix_at (ls_of hr) (show atI [D.ref t, .ref z] 0 = some (.ref t) from rfl)]
    have hl : (cellsT ts).length ≤ f.h * f.w := f.most_cells fok L.nodup L.has
    have hl2 : ts.length ≤ 1000 := by
      unfold cellsT at hl
      rw [List.length_append, List.length_map] at hl
      omega
    exact ⟨t, ts, rfl, ls_of ht, hl2, fun M2 a le2 ha hm => h _ a _ (Floor.of L) (le.trans le2) (le.nope ha) hm⟩
  | false =>
  dsimp only
  refine ⟨x, ns, 0, rfl, hx, ?_⟩
  try simp only [decide_true, decide_false, Bool.not_true, Bool.not_false, startD, Nat.reduceLeDiff, List.map_cons, List.map_nil, List.length_cons, List.length_nil, Nat.reduceAdd, Nat.reduceSub, List.replicate, List.cons_append, List.nil_append, List.append_nil, sSeq, sRet, sRetN, sAsg, sDrop, sIf, sNext, sBreak, sCont, dOp, dVar, dC, dTup, dLst, aCons, aNil, dCB, dCall, dTest, dNotT, dAndT, dOrT, dAnd, dOr, dNot, dNeg, gNameD, gTupD, gsOf, gsCons, gsNil, gSubD, dSl, oNone, oSome, endsF, DEnds.kx, List.getElem?_cons_zero, List.getElem?_cons_succ, List.set_cons_zero, List.set_cons_succ, onS_some, add_int, sub_int, iad_int, mul_int, div_int, mod_int, pow_int, ban_int, bor_int, bxr_int, shl_int, shr_int, le_int', gt_int', ge_int', lt_int', eq_int', ne_int', dix_c0, dix_c1, dix_t0, dix_t1, sq_c, sq_t, isi_int, isi_int_bool, isi_tup, isi_bool, DL.abs_int, is_non, isnot_non, true_and, and_true, dBM, wipeD, mti_append, mti_lpop, mti_clear, mti_reverse, mti_get, mti_dpop, mti_setdefault]
  refine ⟨⟨by decide, by decide⟩, by decide, fun p hp => ?_⟩
  generalize hb0 : decide (((cellAt ns 0).fdiv 36).fmod 2 = 0) = b0
  have le1 := le_up (o := .lst [D.bl b0]) hp
  rw [dix_at (ls_le le1 hy) a2]
  rw [dix_at (ls_le le1 hy) a3]
  try simp only [decide_true, decide_false, Bool.not_true, Bool.not_false, startD, Nat.reduceLeDiff, List.map_cons, List.map_nil, List.length_cons, List.length_nil, Nat.reduceAdd, Nat.reduceSub, List.replicate, List.cons_append, List.nil_append, List.append_nil, sSeq, sRet, sRetN, sAsg, sDrop, sIf, sNext, sBreak, sCont, dOp, dVar, dC, dTup, dLst, aCons, aNil, dCB, dCall, dTest, dNotT, dAndT, dOrT, dAnd, dOr, dNot, dNeg, gNameD, gTupD, gsOf, gsCons, gsNil, gSubD, dSl, oNone, oSome, endsF, DEnds.kx, List.getElem?_cons_zero, List.getElem?_cons_succ, List.set_cons_zero, List.set_cons_succ, onS_some, add_int, sub_int, iad_int, mul_int, div_int, mod_int, pow_int, ban_int, bor_int, bxr_int, shl_int, shr_int, le_int', gt_int', ge_int', lt_int', eq_int', ne_int', dix_c0, dix_c1, dix_t0, dix_t1, sq_c, sq_t, isi_int, isi_int_bool, isi_tup, isi_bool, DL.abs_int, is_non, isnot_non, true_and, and_true, dBM, wipeD, mti_append, mti_lpop, mti_clear, mti_reverse, mti_get, mti_dpop, mti_setdefault]
  have hh : f.h ≤ 64 := Nat.le_trans (Nat.le_trans (Nat.le_mul_of_pos_right f.h b2) b3) hmost
  refine ⟨.inl (.inl ⟨by omega, by omega⟩), ?_⟩
  have hm : ((f.h : Int) * (f.w : Int)) = ((f.h * f.w : Nat) : Int) := by push_cast; rfl
  rw [rep_ls up_same, hm]
  refine ⟨by omega, by omega, ?_, fun q hq => ?_⟩
  · show 1 * (((f.h * f.w : Nat) : Int)).toNat ≤ big
    rw [Int.toNat_natCast]; unfold big; omega
  rw [Int.toNat_natCast, flat_rep]
  have le2 : Le M (up (up M p (.lst [.bl b0])) q (.lst (List.replicate (f.h * f.w) (.bl b0)))) := le1.new hq
  have hMq : M q = none := le1.nope hq
  try simp only [decide_true, decide_false, Bool.not_true, Bool.not_false, startD, Nat.reduceLeDiff, List.map_cons, List.map_nil, List.length_cons, List.length_nil, Nat.reduceAdd, Nat.reduceSub, List.replicate, List.cons_append, List.nil_append, List.append_nil, sSeq, sRet, sRetN, sAsg, sDrop, sIf, sNext, sBreak, sCont, dOp, dVar, dC, dTup, dLst, aCons, aNil, dCB, dCall, dTest, dNotT, dAndT, dOrT, dAnd, dOr, dNot, dNeg, gNameD, gTupD, gsOf, gsCons, gsNil, gSubD, dSl, oNone, oSome, endsF, DEnds.kx, List.getElem?_cons_zero, List.getElem?_cons_succ, List.set_cons_zero, List.set_cons_succ, onS_some, add_int, sub_int, iad_int, mul_int, div_int, mod_int, pow_int, ban_int, bor_int, bxr_int, shl_int, shr_int, le_int', gt_int', ge_int', lt_int', eq_int', ne_int', dix_c0, dix_c1, dix_t0, dix_t1, sq_c, sq_t, isi_int, isi_int_bool, isi_tup, isi_bool, DL.abs_int, is_non, isnot_non, true_and, and_true, dBM, wipeD, mti_append, mti_lpop, mti_clear, mti_reverse, mti_get, mti_dpop, mti_setdefault, sFor, ival_te]
  have hx2 := ls_le le2 hx
  rw [sl_ls hx2]
  intro s hs
  have le3 : Le M (up (up (up M p (.lst [.bl b0])) q (.lst (List.replicate (f.h * f.w) (.bl b0)))) s (.lst (cutL (ns.map D.int) (some 2) none))) := le2.new hs
  have hqs : q ≠ s := ne_of_M up_same hs
  rw [it_ls ls_up, cut2, ← List.map_drop]
  rw [cut2, ← List.map_drop] at le3
  refine for_inv (e := D.int) (fun r σ M' => ∃ (x3 : Option D) (bs : List Bool), σ = [some (.ref x), some (.ref y), some (.ref q), x3, none, none, none] ∧ Le M M' ∧ lsOf M' (.ref s) = some ((ns.drop 2).map D.int) ∧ M' q = some (.lst (bs.map .bl)) ∧ bs.length = f.h * f.w) ?_ ?_ _ _ _
    ⟨none, List.replicate (f.h * f.w) b0, rfl, le3, ls_up, by rw [up_ne hqs, up_same, List.map_replicate], List.length_replicate⟩
  · rintro c r σ M' ⟨x3, bs, rfl, le, hs', hq', hl⟩ N hN
    refine ⟨hs', ?_⟩
    try simp only [decide_true, decide_false, Bool.not_true, Bool.not_false, startD, Nat.reduceLeDiff, List.map_cons, List.map_nil, List.length_cons, List.length_nil, Nat.reduceAdd, Nat.reduceSub, List.replicate, List.cons_append, List.nil_append, List.append_nil, sSeq, sRet, sRetN, sAsg, sDrop, sIf, sNext, sBreak, sCont, dOp, dVar, dC, dTup, dLst, aCons, aNil, dCB, dCall, dTest, dNotT, dAndT, dOrT, dAnd, dOr, dNot, dNeg, gNameD, gTupD, gsOf, gsCons, gsNil, gSubD, dSl, oNone, oSome, endsF, DEnds.kx, List.getElem?_cons_zero, List.getElem?_cons_succ, List.set_cons_zero, List.set_cons_succ, onS_some, add_int, sub_int, iad_int, mul_int, div_int, mod_int, pow_int, ban_int, bor_int, bxr_int, shl_int, shr_int, le_int', gt_int', ge_int', lt_int', eq_int', ne_int', dix_c0, dix_c1, dix_t0, dix_t1, sq_c, sq_t, isi_int, isi_int_bool, isi_tup, isi_bool, DL.abs_int, is_non, isnot_non, true_and, and_true, dBM, wipeD, mti_append, mti_lpop, mti_clear, mti_reverse, mti_get, mti_dpop, mti_setdefault]
    have hlen : (bs.map D.bl).length = f.h * f.w := by rw [List.length_map, hl]
    have hpos : 0 < f.h * f.w := Nat.mul_pos b1 b2
    rw [len_l (ls_of hq'), hlen]
    try simp only [decide_true, decide_false, Bool.not_true, Bool.not_false, startD, Nat.reduceLeDiff, List.map_cons, List.map_nil, List.length_cons, List.length_nil, Nat.reduceAdd, Nat.reduceSub, List.replicate, List.cons_append, List.nil_append, List.append_nil, sSeq, sRet, sRetN, sAsg, sDrop, sIf, sNext, sBreak, sCont, dOp, dVar, dC, dTup, dLst, aCons, aNil, dCB, dCall, dTest, dNotT, dAndT, dOrT, dAnd, dOr, dNot, dNeg, gNameD, gTupD, gsOf, gsCons, gsNil, gSubD, dSl, oNone, oSome, endsF, DEnds.kx, List.getElem?_cons_zero, List.getElem?_cons_succ, List.set_cons_zero, List.set_cons_succ, onS_some, add_int, sub_int, iad_int, mul_int, div_int, mod_int, pow_int, ban_int, bor_int, bxr_int, shl_int, shr_int, le_int', gt_int', ge_int', lt_int', eq_int', ne_int', dix_c0, dix_c1, dix_t0, dix_t1, sq_c, sq_t, isi_int, isi_int_bool, isi_tup, isi_bool, DL.abs_int, is_non, isnot_non, true_and, and_true, dBM, wipeD, mti_append, mti_lpop, mti_clear, mti_reverse, mti_get, mti_dpop, mti_setdefault]
    have c0 := Int.fmod_nonneg_of_pos c (show (0 : Int) < ((f.h * f.w : Nat) : Int) by omega)
    have c1 := Int.fmod_lt_of_pos c (show (0 : Int) < ((f.h * f.w : Nat) : Int) by omega)
    generalize hk : c.fmod ((f.h * f.w : Nat) : Int) = k at c0 c1
    have hkl : k.toNat < bs.length := by omega
    refine ⟨by omega, ?_⟩
    have hat : atI (bs.map D.bl) k = some (.bl bs[k.toNat]) := atI_at c0 (by rw [List.getElem?_map, List.getElem?_eq_getElem hkl]; rfl)
    rw [dix_at (ls_of hq') hat]
    dsimp only
    rw [len_l (ls_of hq'), hlen]
    try simp only [decide_true, decide_false, Bool.not_true, Bool.not_false, startD, Nat.reduceLeDiff, List.map_cons, List.map_nil, List.length_cons, List.length_nil, Nat.reduceAdd, Nat.reduceSub, List.replicate, List.cons_append, List.nil_append, List.append_nil, sSeq, sRet, sRetN, sAsg, sDrop, sIf, sNext, sBreak, sCont, dOp, dVar, dC, dTup, dLst, aCons, aNil, dCB, dCall, dTest, dNotT, dAndT, dOrT, dAnd, dOr, dNot, dNeg, gNameD, gTupD, gsOf, gsCons, gsNil, gSubD, dSl, oNone, oSome, endsF, DEnds.kx, List.getElem?_cons_zero, List.getElem?_cons_succ, List.set_cons_zero, List.set_cons_succ, onS_some, add_int, sub_int, iad_int, mul_int, div_int, mod_int, pow_int, ban_int, bor_int, bxr_int, shl_int, shr_int, le_int', gt_int', ge_int', lt_int', eq_int', ne_int', dix_c0, dix_c1, dix_t0, dix_t1, sq_c, sq_t, isi_int, isi_int_bool, isi_tup, isi_bool, DL.abs_int, is_non, isnot_non, true_and, and_true, dBM, wipeD, mti_append, mti_lpop, mti_clear, mti_reverse, mti_get, mti_dpop, mti_setdefault]
    refine ⟨by omega, ?_⟩
    rw [hk, set_at hq' c0 (by rw [hlen]; exact c1), set_bl]
    refine hN _ _ ⟨_, bs.set k.toNat (!bs[k.toNat]), rfl, le.upn hMq, ?_, up_same, by rw [List.length_set, hl]⟩
    have : s ≠ q := Ne.symm hqs
    rw [ls_ne this]; exact hs'
  · rintro σ M' ⟨x3, bs, rfl, le, hs', hq', hl⟩
    refine ⟨hs', ?_⟩
    try simp only [decide_true, decide_false, Bool.not_true, Bool.not_false, startD, Nat.reduceLeDiff, List.map_cons, List.map_nil, List.length_cons, List.length_nil, Nat.reduceAdd, Nat.reduceSub, List.replicate, List.cons_append, List.nil_append, List.append_nil, sSeq, sRet, sRetN, sAsg, sDrop, sIf, sNext, sBreak, sCont, dOp, dVar, dC, dTup, dLst, aCons, aNil, dCB, dCall, dTest, dNotT, dAndT, dOrT, dAnd, dOr, dNot, dNeg, gNameD, gTupD, gsOf, gsCons, gsNil, gSubD, dSl, oNone, oSome, endsF, DEnds.kx, List.getElem?_cons_zero, List.getElem?_cons_succ, List.set_cons_zero, List.set_cons_succ, onS_some, add_int, sub_int, iad_int, mul_int, div_int, mod_int, pow_int, ban_int, bor_int, bxr_int, shl_int, shr_int, le_int', gt_int', ge_int', lt_int', eq_int', ne_int', dix_c0, dix_c1, dix_t0, dix_t1, sq_c, sq_t, isi_int, isi_int_bool, isi_tup, isi_bool, DL.abs_int, is_non, isnot_non, true_and, and_true, dBM, wipeD, mti_append, mti_lpop, mti_clear, mti_reverse, mti_get, mti_dpop, mti_setdefault]
    rw [dix_at (ls_le le hy) a3]
    have hlen : (bs.map D.bl).length = f.h * f.w := by rw [List.length_map, hl]
    try simp only [decide_true, decide_false, Bool.not_true, Bool.not_false, startD, Nat.reduceLeDiff, List.map_cons, List.map_nil, List.length_cons, List.length_nil, Nat.reduceAdd, Nat.reduceSub, List.replicate, List.cons_append, List.nil_append, List.append_nil, sSeq, sRet, sRetN, sAsg, sDrop, sIf, sNext, sBreak, sCont, dOp, dVar, dC, dTup, dLst, aCons, aNil, dCB, dCall, dTest, dNotT, dAndT, dOrT, dAnd, dOr, dNot, dNeg, gNameD, gTupD, gsOf, gsCons, gsNil, gSubD, dSl, oNone, oSome, endsF, DEnds.kx, List.getElem?_cons_zero, List.getElem?_cons_succ, List.set_cons_zero, List.set_cons_succ, onS_some, add_int, sub_int, iad_int, mul_int, div_int, mod_int, pow_int, ban_int, bor_int, bxr_int, shl_int, shr_int, le_int', gt_int', ge_int', lt_int', eq_int', ne_int', dix_c0, dix_c1, dix_t0, dix_t1, sq_c, sq_t, isi_int, isi_int_bool, isi_tup, isi_bool, DL.abs_int, is_non, isnot_non, true_and, and_true, dBM, wipeD, mti_append, mti_lpop, mti_clear, mti_reverse, mti_get, mti_dpop, mti_setdefault, dLc, iRng]
    rw [len_l (ls_of hq'), hlen]
    try simp only [decide_true, decide_false, Bool.not_true, Bool.not_false, startD, Nat.reduceLeDiff, List.map_cons, List.map_nil, List.length_cons, List.length_nil, Nat.reduceAdd, Nat.reduceSub, List.replicate, List.cons_append, List.nil_append, List.append_nil, sSeq, sRet, sRetN, sAsg, sDrop, sIf, sNext, sBreak, sCont, dOp, dVar, dC, dTup, dLst, aCons, aNil, dCB, dCall, dTest, dNotT, dAndT, dOrT, dAnd, dOr, dNot, dNeg, gNameD, gTupD, gsOf, gsCons, gsNil, gSubD, dSl, oNone, oSome, endsF, DEnds.kx, List.getElem?_cons_zero, List.getElem?_cons_succ, List.set_cons_zero, List.set_cons_succ, onS_some, add_int, sub_int, iad_int, mul_int, div_int, mod_int, pow_int, ban_int, bor_int, bxr_int, shl_int, shr_int, le_int', gt_int', ge_int', lt_int', eq_int', ne_int', dix_c0, dix_c1, dix_t0, dix_t1, sq_c, sq_t, isi_int, isi_int_bool, isi_tup, isi_bool, DL.abs_int, is_non, isnot_non, true_and, and_true, dBM, wipeD, mti_append, mti_lpop, mti_clear, mti_reverse, mti_get, mti_dpop, mti_setdefault]
    refine ⟨by omega, by omega, ?_⟩
    rw [Int.toNat_natCast]
    unfold rngD
    refine lc_fm (e := fun i : Nat => D.int (0 + (i : Int))) (fun i => bs.getD i false) (fun i => cD (f.at i)) (fun _ _ => trivial) (fun i hi' M2 le2 => ⟨_, rfl, fun Q hQ => ?_, fun _ M3 le3 Q hQ => ?_⟩) ?_ fun M2 le2 a ha => ?_
    · have hi : i < bs.length := by rw [hl]; exact List.mem_range.mp hi'
      have hat : (bs.map D.bl)[i]? = some (.bl (bs.getD i false)) := by
        rw [List.getElem?_map, List.getElem?_eq_getElem hi, List.getD_eq_getElem?_getD, List.getElem?_eq_getElem hi]; rfl
      try simp only [decide_true, decide_false, Bool.not_true, Bool.not_false, startD, Nat.reduceLeDiff, List.map_cons, List.map_nil, List.length_cons, List.length_nil, Nat.reduceAdd, Nat.reduceSub, List.replicate, List.cons_append, List.nil_append, List.append_nil, sSeq, sRet, sRetN, sAsg, sDrop, sIf, sNext, sBreak, sCont, dOp, dVar, dC, dTup, dLst, aCons, aNil, dCB, dCall, dTest, dNotT, dAndT, dOrT, dAnd, dOr, dNot, dNeg, gNameD, gTupD, gsOf, gsCons, gsNil, gSubD, dSl, oNone, oSome, endsF, DEnds.kx, List.getElem?_cons_zero, List.getElem?_cons_succ, List.set_cons_zero, List.set_cons_succ, onS_some, add_int, sub_int, iad_int, mul_int, div_int, mod_int, pow_int, ban_int, bor_int, bxr_int, shl_int, shr_int, le_int', gt_int', ge_int', lt_int', eq_int', ne_int', dix_c0, dix_c1, dix_t0, dix_t1, sq_c, sq_t, isi_int, isi_int_bool, isi_tup, isi_bool, DL.abs_int, is_non, isnot_non, true_and, and_true, dBM, wipeD, mti_append, mti_lpop, mti_clear, mti_reverse, mti_get, mti_dpop, mti_setdefault, Int.zero_add]
      rw [dix_at (ls_of (le2 _ _ hq')) (atI_nat hat)]
      exact hQ _ Le.refl
    · try simp only [decide_true, decide_false, Bool.not_true, Bool.not_false, startD, Nat.reduceLeDiff, List.map_cons, List.map_nil, List.length_cons, List.length_nil, Nat.reduceAdd, Nat.reduceSub, List.replicate, List.cons_append, List.nil_append, List.append_nil, sSeq, sRet, sRetN, sAsg, sDrop, sIf, sNext, sBreak, sCont, dOp, dVar, dC, dTup, dLst, aCons, aNil, dCB, dCall, dTest, dNotT, dAndT, dOrT, dAnd, dOr, dNot, dNeg, gNameD, gTupD, gsOf, gsCons, gsNil, gSubD, dSl, oNone, oSome, endsF, DEnds.kx, List.getElem?_cons_zero, List.getElem?_cons_succ, List.set_cons_zero, List.set_cons_succ, onS_some, add_int, sub_int, iad_int, mul_int, div_int, mod_int, pow_int, ban_int, bor_int, bxr_int, shl_int, shr_int, le_int', gt_int', ge_int', lt_int', eq_int', ne_int', dix_c0, dix_c1, dix_t0, dix_t1, sq_c, sq_t, isi_int, isi_int_bool, isi_tup, isi_bool, DL.abs_int, is_non, isnot_non, true_and, and_true, dBM, wipeD, mti_append, mti_lpop, mti_clear, mti_reverse, mti_get, mti_dpop, mti_setdefault, Int.zero_add]
      have hy3 := ls_le ((le.trans le2).trans le3) hy
      rw [dix_at hy3 a0]
      try simp only [decide_true, decide_false, Bool.not_true, Bool.not_false, startD, Nat.reduceLeDiff, List.map_cons, List.map_nil, List.length_cons, List.length_nil, Nat.reduceAdd, Nat.reduceSub, List.replicate, List.cons_append, List.nil_append, List.append_nil, sSeq, sRet, sRetN, sAsg, sDrop, sIf, sNext, sBreak, sCont, dOp, dVar, dC, dTup, dLst, aCons, aNil, dCB, dCall, dTest, dNotT, dAndT, dOrT, dAnd, dOr, dNot, dNeg, gNameD, gTupD, gsOf, gsCons, gsNil, gSubD, dSl, oNone, oSome, endsF, DEnds.kx, List.getElem?_cons_zero, List.getElem?_cons_succ, List.set_cons_zero, List.set_cons_succ, onS_some, add_int, sub_int, iad_int, mul_int, div_int, mod_int, pow_int, ban_int, bor_int, bxr_int, shl_int, shr_int, le_int', gt_int', ge_int', lt_int', eq_int', ne_int', dix_c0, dix_c1, dix_t0, dix_t1, sq_c, sq_t, isi_int, isi_int_bool, isi_tup, isi_bool, DL.abs_int, is_non, isnot_non, true_and, and_true, dBM, wipeD, mti_append, mti_lpop, mti_clear, mti_reverse, mti_get, mti_dpop, mti_setdefault]
      refine ⟨⟨by omega, ?_⟩, ?_⟩
      · rw [Int.natAbs_natCast]
        exact Nat.lt_of_le_of_lt (Nat.log2_le_self f.w) (by omega)
      rw [dix_at hy3 a1]
      try simp only [decide_true, decide_false, Bool.not_true, Bool.not_false, startD, Nat.reduceLeDiff, List.map_cons, List.map_nil, List.length_cons, List.length_nil, Nat.reduceAdd, Nat.reduceSub, List.replicate, List.cons_append, List.nil_append, List.append_nil, sSeq, sRet, sRetN, sAsg, sDrop, sIf, sNext, sBreak, sCont, dOp, dVar, dC, dTup, dLst, aCons, aNil, dCB, dCall, dTest, dNotT, dAndT, dOrT, dAnd, dOr, dNot, dNeg, gNameD, gTupD, gsOf, gsCons, gsNil, gSubD, dSl, oNone, oSome, endsF, DEnds.kx, List.getElem?_cons_zero, List.getElem?_cons_succ, List.set_cons_zero, List.set_cons_succ, onS_some, add_int, sub_int, iad_int, mul_int, div_int, mod_int, pow_int, ban_int, bor_int, bxr_int, shl_int, shr_int, le_int', gt_int', ge_int', lt_int', eq_int', ne_int', dix_c0, dix_c1, dix_t0, dix_t1, sq_c, sq_t, isi_int, isi_int_bool, isi_tup, isi_bool, DL.abs_int, is_non, isnot_non, true_and, and_true, dBM, wipeD, mti_append, mti_lpop, mti_clear, mti_reverse, mti_get, mti_dpop, mti_setdefault]
      exact ⟨by omega, hQ _ Le.refl⟩
    · rw [List.length_range]; unfold big; omega
    · refine h _ a (((List.range (f.h * f.w)).filter fun i => bs.getD i false).map f.at) ⟨?_, ?_⟩ ((le.trans le2).new ha) ((le.trans le2).nope ha) ?_
      · exact List.Pairwise.map _ (fun i j hij => f.at_lt fok hij) (List.pairwise_lt_range.filter _)
      · intro p hp
        obtain ⟨i, hi, rfl⟩ := List.mem_map.mp hp
        exact f.at_has fok (List.mem_range.mp (List.mem_filter.mp hi).1)
      · rw [up_same, List.map_map]; rfl
end DL
namespace DL
open PySem PySem.Spec PyProof.Rows L2
def sp_law_mixed : DSp := fun ds M K _ => ∃ (x : Addr) (ns : List Int) (k : Int), ds = [.ref x, .int k] ∧ lsOf M (.ref x) = some (ns.map .int) ∧ 0 ≤ k ∧ k < 1000000000000000009 ∧ ∀ v : Int, 0 ≤ v → v < 1000000000000000009 → K (.int v) M
def t_law_mixed : TSD := (sSeq (sFor (iVal (dVar 0)) (gNameD 2) (sSeq (sAsg (dOp modD (dOp addD (dOp mulD (dVar 1) (dC (.int 48271))) (dVar 2)) (dOp addD (dOp powD (dC (.int 10)) (dC (.int 18))) (dC (.int 9)))) (gNameD 1)) sNext)) (sSeq (sRet (dVar 1)) sNext))
theorem p_law_mixed (ds : List D) (M : Mem) (K : DK) (KX : DX) (h : sp_law_mixed ds M K KX) : t_law_mixed (endsF K KX) (startD ["_law_script", "_law_number", "_law_cell"] ds) M := by
  obtain ⟨x, ns, k, rfl, hx, h0, h1, h⟩ := h
  try simp only [decide_true, decide_false, Bool.not_true, Bool.not_false, startD, Nat.reduceLeDiff, List.map_cons, List.map_nil, List.length_cons, List.length_nil, Nat.reduceAdd, Nat.reduceSub, List.replicate, List.cons_append, List.nil_append, List.append_nil, sSeq, sRet, sRetN, sAsg, sDrop, sIf, sNext, sBreak, sCont, dOp, dVar, dC, dTup, dLst, aCons, aNil, dCB, dCall, dTest, dNotT, dAndT, dOrT, dAnd, dOr, dNot, dNeg, gNameD, gTupD, gsOf, gsCons, gsNil, gSubD, dSl, oNone, oSome, endsF, DEnds.kx, List.getElem?_cons_zero, List.getElem?_cons_succ, List.set_cons_zero, List.set_cons_succ, onS_some, add_int, sub_int, iad_int, mul_int, div_int, mod_int, pow_int, ban_int, bor_int, bxr_int, shl_int, shr_int, le_int', gt_int', ge_int', lt_int', eq_int', ne_int', dix_c0, dix_c1, dix_t0, dix_t1, sq_c, sq_t, isi_int, isi_int_bool, isi_tup, isi_bool, DL.abs_int, is_non, isnot_non, true_and, and_true, dBM, wipeD, mti_append, mti_lpop, mti_clear, mti_reverse, mti_get, mti_dpop, mti_setdefault, t_law_mixed, sFor]
  rw [ival_ls rfl hx]
  refine for_inv (e := D.int) (fun todo σ M' => M' = M ∧ ∃ (v : Int) (x2 : Option D), 0 ≤ v ∧ v < 1000000000000000009 ∧ σ = [some (.ref x), some (.int v), x2]) ?_ ?_ ns _ _ ⟨rfl, k, none, h0, h1, rfl⟩
  · rintro c todo σ M' ⟨rfl, v, x2, v0, v1, rfl⟩ N hN
    refine ⟨hx, ?_⟩
    try simp only [decide_true, decide_false, Bool.not_true, Bool.not_false, startD, Nat.reduceLeDiff, List.map_cons, List.map_nil, List.length_cons, List.length_nil, Nat.reduceAdd, Nat.reduceSub, List.replicate, List.cons_append, List.nil_append, List.append_nil, sSeq, sRet, sRetN, sAsg, sDrop, sIf, sNext, sBreak, sCont, dOp, dVar, dC, dTup, dLst, aCons, aNil, dCB, dCall, dTest, dNotT, dAndT, dOrT, dAnd, dOr, dNot, dNeg, gNameD, gTupD, gsOf, gsCons, gsNil, gSubD, dSl, oNone, oSome, endsF, DEnds.kx, List.getElem?_cons_zero, List.getElem?_cons_succ, List.set_cons_zero, List.set_cons_succ, onS_some, add_int, sub_int, iad_int, mul_int, div_int, mod_int, pow_int, ban_int, bor_int, bxr_int, shl_int, shr_int, le_int', gt_int', ge_int', lt_int', eq_int', ne_int', dix_c0, dix_c1, dix_t0, dix_t1, sq_c, sq_t, isi_int, isi_int_bool, isi_tup, isi_bool, DL.abs_int, is_non, isnot_non, true_and, and_true, dBM, wipeD, mti_append, mti_lpop, mti_clear, mti_reverse, mti_get, mti_dpop, mti_setdefault]
    refine ⟨mulOk_of (.inr ⟨by decide, by decide⟩), ⟨by decide, by decide, by decide⟩, by decide, ?_⟩
    have e : (10 ^ (18 : Int).toNat + 9 : Int) = 1000000000000000009 := by decide
    rw [e]
    exact hN _ _ ⟨rfl, _, _, Int.fmod_nonneg_of_pos _ (by decide), Int.fmod_lt_of_pos _ (by decide), rfl⟩
  · rintro σ M' ⟨rfl, v, x2, v0, v1, rfl⟩
    refine ⟨hx, ?_⟩
    try simp only [decide_true, decide_false, Bool.not_true, Bool.not_false, startD, Nat.reduceLeDiff, List.map_cons, List.map_nil, List.length_cons, List.length_nil, Nat.reduceAdd, Nat.reduceSub, List.replicate, List.cons_append, List.nil_append, List.append_nil, sSeq, sRet, sRetN, sAsg, sDrop, sIf, sNext, sBreak, sCont, dOp, dVar, dC, dTup, dLst, aCons, aNil, dCB, dCall, dTest, dNotT, dAndT, dOrT, dAnd, dOr, dNot, dNeg, gNameD, gTupD, gsOf, gsCons, gsNil, gSubD, dSl, oNone, oSome, endsF, DEnds.kx, List.getElem?_cons_zero, List.getElem?_cons_succ, List.set_cons_zero, List.set_cons_succ, onS_some, add_int, sub_int, iad_int, mul_int, div_int, mod_int, pow_int, ban_int, bor_int, bxr_int, shl_int, shr_int, le_int', gt_int', ge_int', lt_int', eq_int', ne_int', dix_c0, dix_c1, dix_t0, dix_t1, sq_c, sq_t, isi_int, isi_int_bool, isi_tup, isi_bool, DL.abs_int, is_non, isnot_non, true_and, and_true, dBM, wipeD, mti_append, mti_lpop, mti_clear, mti_reverse, mti_get, mti_dpop, mti_setdefault]
    exact h v v0 v1
/-- cuts of mapped lists -/
theorem cutL_map {α β : Type} (f : α → β) (xs : List α) (lo hi : Option Int) : cutL (xs.map f) lo hi = (cutL xs lo hi).map f := by
  unfold cutL
  rw [List.length_map, List.map_take, List.map_drop]
theorem cutL_sub {α : Type} (xs : List α) (lo hi : Option Int) : (cutL xs lo hi).Sublist xs := (List.take_sublist _ _).trans (List.drop_sublist _ _)
end DL
/-! # The D-layer: what the head tells of own classes -/
namespace DL
open PySem PySem.Spec PyProof.Rows L2
/-- classes; (class, field); (class, method); (class, class, method): the same def; own __init__; object's; (class, asked for, answer) -/
structure ClsL where
  cls : List Str
  flds : List (Str × Str)
  mths : List (Str × Str)
  same : List (Str × Str × Str)
  mk1 : List Str
  mk0 : List Str
  isc : List (Str × Str × Bool)
def mk0B (K : PySem.W.Frag) (C : Str) : Bool := PySem.W.makesIn K (He.ga K C) && (He.eqO (PySem.W.findIn K (.ref (He.ga K C)) "__init__") (some (some (.builtin "object.__init__"))) && PySem.W.keepIn K (.ref (He.ga K C)))
def iscB (K : PySem.W.Frag) (p : Str × Str × Bool) : Bool := He.eqO (PySem.W.findIn K (.ref (He.ga K p.1)) "__class__") (some (some (.builtin "object.__class__"))) &&
  (He.eqO (PySem.W.specialIn K (.builtin "object.__class__") "__get__") (some (some (.builtin "getset_descriptor.__get__"))) && (decide (PySem.W.takesIn K (.builtin "object.__class__") = some true) &&
  (decide (PySem.W.mroIn K (He.ga K p.1) (.type "object") = some true) && decide (PySem.W.kitOne K (.ref (He.ga K p.1)) (.ref (He.ga K p.2.1)) = some p.2.2))))
def clsB (K : PySem.W.Frag) (L : ClsL) : Bool := L.cls.all (fun C => (He.Fa.glo C).ok K && (He.Fa.cls C).ok K) && (L.flds.all (fun p => (He.Fa.noat p.1 p.2).ok K) && (L.mths.all (fun p => (He.Fa.meth p.1 p.2).ok K) &&
  (L.same.all (fun p => decide (He.ma K (He.ga K p.1) p.2.2 = He.ma K (He.ga K p.2.1) p.2.2)) && (L.mk1.all (fun C => (He.Fa.mkr C).ok K) && (L.mk0.all (mk0B K) && L.isc.all (iscB K))))))
structure ClsOk (K : PySem.W.Frag) (mg : Str → Option Value) (L : ClsL) : Prop where
  cls : ∀ C ∈ L.cls, mg C = some (.ref (He.ga K C)) ∧ Cls K (He.ga K C)
  fld : ∀ p ∈ L.flds, NoAttr K (He.ga K p.1) p.2
  mth : ∀ p ∈ L.mths, Meth K (He.ga K p.1) p.2 (He.ma K (He.ga K p.1) p.2)
  same : ∀ p ∈ L.same, He.ma K (He.ga K p.1) p.2.2 = He.ma K (He.ga K p.2.1) p.2.2
  mk1 : ∀ C ∈ L.mk1, Mk K (He.ga K C) (He.ma K (He.ga K C) "__init__")
  mk0 : ∀ C ∈ L.mk0, PySem.W.makesIn K (He.ga K C) = true ∧ PySem.W.findIn K (.ref (He.ga K C)) "__init__" = some (some (.builtin "object.__init__")) ∧ PySem.W.keepIn K (.ref (He.ga K C)) = true
  isc : ∀ p ∈ L.isc, p.1 ∈ L.cls → IscE K p.1 p.2.1 p.2.2
theorem clsB_ok {K : PySem.W.Frag} {h : Heap} {mg : Str → Option Value} {L : ClsL} (X : K.In h) (G : h.Ns mainGlobals mg) (c : clsB K L = true) : ClsOk K mg L := by
  unfold clsB at c
  obtain ⟨c1, c⟩ := He.ba c
  obtain ⟨c2, c⟩ := He.ba c
  obtain ⟨c3, c⟩ := He.ba c
  obtain ⟨c4, c⟩ := He.ba c
  obtain ⟨c5, c⟩ := He.ba c
  obtain ⟨c6, c7⟩ := He.ba c
  have hc : ∀ C ∈ L.cls, mg C = some (.ref (He.ga K C)) ∧ Cls K (He.ga K C) := fun C hC => by
    obtain ⟨a, b⟩ := He.ba (List.all_eq_true.mp c1 C hC)
    exact ⟨He.glo_ok X G a, He.cls_ok b⟩
  refine ⟨hc, fun p hp => He.noat_ok (List.all_eq_true.mp c2 p hp), fun p hp => He.meth_ok (List.all_eq_true.mp c3 p hp), fun p hp => of_decide_eq_true (List.all_eq_true.mp c4 p hp), fun C hC => He.mkr_ok (List.all_eq_true.mp c5 C hC), fun C hC => ?_, fun p hp hC => ?_⟩
  · obtain ⟨a, b⟩ := He.ba (List.all_eq_true.mp c6 C hC)
    obtain ⟨b, d⟩ := He.ba b
    exact ⟨a, He.eqO_ok b, d⟩
  · obtain ⟨a, b⟩ := He.ba (List.all_eq_true.mp c7 p hp)
    obtain ⟨b, d⟩ := He.ba b
    obtain ⟨d, e⟩ := He.ba d
    obtain ⟨e, f⟩ := He.ba e
    exact ⟨(hc _ hC).2, He.eqO_ok a, He.eqO_ok b, of_decide_eq_true d, of_decide_eq_true e, of_decide_eq_true f⟩
end DL
namespace DL
open PySem PySem.Spec PyProof.Rows L2
section
variable {P : Program} {w : World} {K : PySem.W.Frag} {mg : Str → Option Value} {base : Heap} {k k' n : Nat} {C D' m : Str} {sp : DSp}
theorem MthE.mono (h : MthE P w K mg base k C m n sp) (hk : k ≤ k') : MthE P w K mg base k' C m n sp := by
  obtain ⟨h1, h2, fd, ps, h3, h4, h5⟩ := h
  exact ⟨h1, h2, fd, ps, h3, h4.mono hk, h5⟩
theorem MkE.mono (h : MkE P w K mg base k C n sp) (hk : k ≤ k') : MkE P w K mg base k' C n sp := by
  obtain ⟨h1, h2, fd, ps, h3, h4, h5⟩ := h
  exact ⟨h1, h2, fd, ps, h3, h4.mono hk, h5⟩
theorem CsOk.mono {cs : ClE} (h : CsOk P w K mg base k cs) (hk : k ≤ k') : CsOk P w K mg base k' cs :=
  ⟨h.fl, fun m C n sp e => (h.mt m C n sp e).mono hk, fun C n sp e => let ⟨j, h1, h2⟩ := h.mk1 C n sp e; ⟨j, Nat.le_trans h1 hk, h2⟩, h.mk0, h.isc⟩
/-- an inherited method -/
theorem mthE_same (e : He.ma K (He.ga K C) m = He.ma K (He.ga K D') m) (hc : Cls K (He.ga K C)) (hm : Meth K (He.ga K C) m (He.ma K (He.ga K C) m))
    (h : ∃ fd ps, ps.length = n ∧ FnOk P w K mg base (L2.CX P w) k (He.ma K (He.ga K D') m) fd ps (toSp P w K ps.length sp) ∧ Binds K fd ps []) : MthE P w K mg base k C m n sp := ⟨hc, hm, by rw [e]; exact h⟩
end
end DL
namespace DL
open PySem PySem.Spec PyProof.Rows L2
/-! ### moves -/
inductive Mv where
  | plain | shift (d r : Int) | quarter | quarterB | mirror | chain (a b : Mv)
def Mv.f : Mv → Cell → Cell
  | .plain, p => p
  | .shift d r, p => (p.1 + d, p.2 + r)
  | .quarter, p => (p.2, 0 - p.1)
  | .quarterB, p => (0 - p.2, p.1)
  | .mirror, p => (p.1, 0 - p.2)
  | .chain a b, p => b.f (a.f p)
def Mv.back : Mv → Mv
  | .plain => .plain
  | .shift d r => .shift (0 - d) (0 - r)
  | .quarter => .quarterB
  | .quarterB => .quarter
  | .mirror => .mirror
  | .chain a b => .chain b.back a.back
def Mv.dep : Mv → Nat
  | .chain a b => max a.dep b.dep + 1
  | _ => 1
def Mv.cls : Mv → Str
  | .plain => "Move"
  | .shift _ _ => "Shift"
  | .quarter => "Quarter"
  | .quarterB => "QuarterBack"
  | .mirror => "Mirror"
  | .chain _ _ => "Chain"
theorem Mv.back_f : ∀ (m : Mv) (p : Cell), m.back.f (m.f p) = p
  | .plain, _ => rfl
  | .shift d r, (a, b) => by simp only [Mv.back, Mv.f, Prod.mk.injEq]; omega
  | .quarter, (a, b) => by show ((0 : Int) - (0 - a), b) = (a, b); rw [show (0 : Int) - (0 - a) = a by omega]
  | .quarterB, (a, b) => by show (a, (0 : Int) - (0 - b)) = (a, b); rw [show (0 : Int) - (0 - b) = b by omega]
  | .mirror, (a, b) => by show (a, (0 : Int) - (0 - b)) = (a, b); rw [show (0 : Int) - (0 - b) = b by omega]
  | .chain a b, p => by show a.back.f (b.back.f (b.f (a.f p))) = p; rw [b.back_f, a.back_f]
theorem Mv.back_back : ∀ m : Mv, m.back.back = m
  | .plain => rfl
  | .shift d r => by simp only [Mv.back, Mv.shift.injEq]; omega
  | .quarter => rfl
  | .quarterB => rfl
  | .mirror => rfl
  | .chain a b => by show Mv.chain a.back.back b.back.back = _; rw [a.back_back, b.back_back]
theorem Mv.f_back (m : Mv) (p : Cell) : m.f (m.back.f p) = p := by
  have := m.back.back_f p
  rwa [m.back_back] at this
theorem Mv.back_dep : ∀ m : Mv, m.back.dep = m.dep
  | .plain => rfl
  | .shift d r => rfl
  | .quarter => rfl
  | .quarterB => rfl
  | .mirror => rfl
  | .chain a b => by show max b.back.dep a.back.dep + 1 = max a.dep b.dep + 1; rw [a.back_dep, b.back_dep, Nat.max_comm]
theorem Mv.dep_pos : ∀ m : Mv, 0 < m.dep
  | .plain => Nat.one_pos
  | .shift d r => Nat.one_pos
  | .quarter => Nat.one_pos
  | .quarterB => Nat.one_pos
  | .mirror => Nat.one_pos
  | .chain a b => Nat.succ_pos _
theorem Mv.inj (m : Mv) {p q : Cell} (h : m.f p = m.f q) : p = q := by rw [← m.back_f p, h, m.back_f]
def MvAt (M : Mem) : Addr → Mv → Prop
  | a, .plain => M a = some (.ins "Move" [])
  | a, .shift d r => M a = some (.ins "Shift" [("down", .int d), ("right", .int r)])
  | a, .quarter => M a = some (.ins "Quarter" [])
  | a, .quarterB => M a = some (.ins "QuarterBack" [])
  | a, .mirror => M a = some (.ins "Mirror" [])
  | a, .chain x y => ∃ p q, M a = some (.ins "Chain" [("first", .ref p), ("second", .ref q)]) ∧ MvAt M p x ∧ MvAt M q y
theorem MvAt.le {M M' : Mem} (le : Le M M') : ∀ {a : Addr} {m : Mv}, MvAt M a m → MvAt M' a m
  | _, .plain, h => le _ _ h
  | _, .shift _ _, h => le _ _ h
  | _, .quarter, h => le _ _ h
  | _, .quarterB, h => le _ _ h
  | _, .mirror, h => le _ _ h
  | _, .chain x y, ⟨p, q, h, h1, h2⟩ => ⟨p, q, le _ _ h, MvAt.le le h1, MvAt.le le h2⟩
theorem MvAt.ins {M : Mem} {a : Addr} : ∀ {m : Mv}, MvAt M a m → ∃ fs, M a = some (.ins m.cls fs) ∧ fs.lookup ("on_cell" : Str) = none ∧ fs.lookup ("back" : Str) = none ∧ fs.lookup ("on_floor" : Str) = none ∧ fs.lookup ("on_laying" : Str) = none
  | .plain, h => ⟨_, h, rfl, rfl, rfl, rfl⟩
  | .shift _ _, h => ⟨_, h, by kernel_rfl, by kernel_rfl, by kernel_rfl, by kernel_rfl⟩
  | .quarter, h => ⟨_, h, rfl, rfl, rfl, rfl⟩
  | .quarterB, h => ⟨_, h, rfl, rfl, rfl, rfl⟩
  | .mirror, h => ⟨_, h, rfl, rfl, rfl, rfl⟩
  | .chain x y, ⟨p, q, h, _, _⟩ => ⟨_, h, by kernel_rfl, by kernel_rfl, by kernel_rfl, by kernel_rfl⟩
theorem MvAt.insOf {M : Mem} {a : Addr} {m : Mv} (h : MvAt M a m) : ∃ fs, DL.insOf M (.ref a) = some (a, m.cls, fs) ∧ fs.lookup ("on_cell" : Str) = none ∧ fs.lookup ("back" : Str) = none ∧ fs.lookup ("on_floor" : Str) = none ∧ fs.lookup ("on_laying" : Str) = none := by
  obtain ⟨fs, h1, h2⟩ := h.ins
  exact ⟨fs, by simp only [DL.insOf, h1], h2⟩
def sp_on_cell (n : Nat) (C : Str) : DSp := fun ds M K _ => ∃ (a : Addr) (m : Mv) (p : Cell), ds = [.ref a, cD p] ∧ MvAt M a m ∧ m.cls = C ∧ m.dep ≤ n ∧ K (cD (m.f p)) M
def sp_back (n : Nat) (C : Str) : DSp := fun ds M K _ => ∃ (a : Addr) (m : Mv), ds = [.ref a] ∧ MvAt M a m ∧ m.cls = C ∧ m.dep ≤ n ∧ ∀ M' q, Le M M' → MvAt M' q m.back → K (.ref q) M'
theorem on_cell_no {C : Str} : ∀ ds M K KX, sp_on_cell 0 C ds M K KX → False := fun _ _ _ _ ⟨_, m, _, _, _, _, h, _⟩ => absurd h (Nat.not_le_of_gt m.dep_pos)
theorem back_no {C : Str} : ∀ ds M K KX, sp_back 0 C ds M K KX → False := fun _ _ _ _ ⟨_, m, _, _, _, h, _⟩ => absurd h (Nat.not_le_of_gt m.dep_pos)
def sp_Shift___init__ : DSp := fun ds M K _ => ∃ (a : Addr) (d r : Int), ds = [.ref a, .int d, .int r] ∧ M a = some (.ins "Shift" []) ∧ K .non (up M a (.ins "Shift" [("down", .int d), ("right", .int r)]))
def sp_Chain___init__ : DSp := fun ds M K _ => ∃ (a p q : Addr), ds = [.ref a, .ref p, .ref q] ∧ M a = some (.ins "Chain" []) ∧ K .non (up M a (.ins "Chain" [("first", .ref p), ("second", .ref q)]))
/-! ### the tables of classes -/
def clsL : List Str := ["Move", "Shift", "Quarter", "QuarterBack", "Mirror", "Chain"]
def fldL : List (Str × Str) := [("Shift", "down"), ("Shift", "right"), ("Chain", "first"), ("Chain", "second")]
def flN (f C : Str) : Bool := decide ((C, f) ∈ fldL)
theorem cls_in : ∀ m : Mv, m.cls ∈ clsL
  | .plain => show ("Move" : Str) ∈ clsL by decide
  | .shift _ _ => show ("Shift" : Str) ∈ clsL by decide
  | .quarter => show ("Quarter" : Str) ∈ clsL by decide
  | .quarterB => show ("QuarterBack" : Str) ∈ clsL by decide
  | .mirror => show ("Mirror" : Str) ∈ clsL by decide
  | .chain _ _ => show ("Chain" : Str) ∈ clsL by decide
def mkrF (C : Str) : Option (Option (Nat × DSp)) := if C = "Shift" then some (some (3, sp_Shift___init__)) else if C = "Chain" then some (some (3, sp_Chain___init__)) else if C ∈ clsL then some none else none
def iscN (T C : Str) : Option Bool := if T = "Move" ∧ C ∈ clsL then some true else none
def csI : ClE := ⟨flN, fun _ _ => none, fun _ => none, fun _ _ => none, [], []⟩
end DL
namespace DL
open PySem PySem.Spec PyProof.Rows L2
def mtN (n : Nat) (m C : Str) : Option (Nat × DSp) := if C ∈ clsL then (if m = "on_cell" then some (2, sp_on_cell n C) else if m = "back" then some (1, sp_back n C) else none) else none
theorem mtN_on_cell (n : Nat) (m : Mv) : mtN n "on_cell" m.cls = some (2, sp_on_cell n m.cls) := by unfold mtN; rw [if_pos (cls_in m), if_pos rfl]
theorem mtN_back (n : Nat) (m : Mv) : mtN n "back" m.cls = some (1, sp_back n m.cls) := by unfold mtN; rw [if_pos (cls_in m), if_neg (by decide), if_pos rfl]
def csN (n : Nat) : ClE := ⟨flN, mtN n, mkrF, iscN, ["back", "on_cell", "on_floor", "on_laying"], clsL⟩
end DL
namespace DL
open PySem PySem.Spec PyProof.Rows L2
/-! ### the tables hold -/
theorem mem_clsL {C : Str} (h : C ∈ clsL) : C = "Move" ∨ C = "Shift" ∨ C = "Quarter" ∨ C = "QuarterBack" ∨ C = "Mirror" ∨ C = "Chain" := by
  simpa only [clsL, List.mem_cons, List.not_mem_nil, or_false] using h
section
variable {P : Program} {w : World} {K : PySem.W.Frag} {mg : Str → Option Value} {base : Heap} {k n : Nat}
theorem flN_ok (hc : ∀ C ∈ clsL, mg C = some (.ref (He.ga K C)) ∧ Cls K (He.ga K C)) (hf : ∀ p ∈ fldL, NoAttr K (He.ga K p.1) p.2) : ∀ f C, flN f C = true → Cls K (He.ga K C) ∧ NoAttr K (He.ga K C) f := by
  intro f C h
  have h := of_decide_eq_true h
  refine ⟨(hc C ?_).2, hf _ h⟩
  have h2 := h
  simp only [fldL, List.mem_cons, List.not_mem_nil, or_false, Prod.mk.injEq] at h2
  rcases h2 with ⟨e, _⟩ | ⟨e, _⟩ | ⟨e, _⟩ | ⟨e, _⟩ <;> rw [e] <;> decide
theorem csok_I (hc : ∀ C ∈ clsL, mg C = some (.ref (He.ga K C)) ∧ Cls K (He.ga K C)) (hf : ∀ p ∈ fldL, NoAttr K (He.ga K p.1) p.2) : CsOk P w K mg base k csI :=
  ⟨flN_ok hc hf, fun _ _ _ _ h => (by cases h), fun _ _ _ h => (by cases h), fun _ h => (by cases h), fun _ h => (by cases h)⟩
/-- all methods, at a depth -/
structure MthsOk (P : Program) (w : World) (K : PySem.W.Frag) (mg : Str → Option Value) (base : Heap) (k n : Nat) : Prop where
  all : ∀ C ∈ clsL, MthE P w K mg base k C "on_cell" 2 (sp_on_cell n C) ∧ MthE P w K mg base k C "back" 1 (sp_back n C)
theorem mths_mt (h : MthsOk P w K mg base k n) : ∀ m C N sp, mtN n m C = some (N, sp) → MthE P w K mg base k C m N sp := by
  intro m C N sp e
  unfold mtN at e
  split at e
  · rename_i hC
    split at e
    · rename_i q; subst q; cases e; exact (h.all C hC).1
    split at e
    · rename_i q; subst q; cases e; exact (h.all C hC).2
    · cases e
  · cases e
theorem csok_N (hc : ∀ C ∈ clsL, mg C = some (.ref (He.ga K C)) ∧ Cls K (He.ga K C)) (hf : ∀ p ∈ fldL, NoAttr K (He.ga K p.1) p.2)
    (h0 : ∀ C ∈ ([("Move" : Str), "Quarter", "QuarterBack", "Mirror"] : List Str), PySem.W.makesIn K (He.ga K C) = true ∧ PySem.W.findIn K (.ref (He.ga K C)) "__init__" = some (some (.builtin "object.__init__")) ∧ PySem.W.keepIn K (.ref (He.ga K C)) = true)
    (hi : ∀ C ∈ clsL, IscE K C "Move" true) (m1 : MkE P w K mg base 1 "Shift" 3 sp_Shift___init__) (m2 : MkE P w K mg base 1 "Chain" 3 sp_Chain___init__) (hk : 2 ≤ k) (ih : MthsOk P w K mg base k n) : CsOk P w K mg base k (csN n) := by
  refine ⟨flN_ok hc hf, mths_mt ih, fun C N sp h => ?_, fun C h => ?_, fun T hT => ⟨(hc T hT).1, fun C b h => ?_⟩⟩
  · have h : mkrF C = some (some (N, sp)) := h
    unfold mkrF at h
    split at h
    · rename_i e; subst e; cases h; exact ⟨1, hk, m1⟩
    split at h
    · rename_i e; subst e; cases h; exact ⟨1, hk, m2⟩
    split at h
    · cases h
    · cases h
  · have h : mkrF C = some none := h
    unfold mkrF at h
    split at h
    · cases h
    rename_i n1
    split at h
    · cases h
    rename_i n2
    split at h
    · rename_i hC
      have hC0 : C ∈ ([("Move" : Str), "Quarter", "QuarterBack", "Mirror"] : List Str) := by
        rcases mem_clsL hC with e | e | e | e | e | e <;> first | (exact absurd e n1) | (exact absurd e n2) | (rw [e]; decide)
      obtain ⟨a, b, c⟩ := h0 C hC0
      exact ⟨a, b, c, (hc C hC).1⟩
    · cases h
  · have h : iscN T C = some b := h
    unfold iscN at h
    split at h
    · rename_i e
      cases h
      rw [e.1]
      exact hi C e.2
    · cases h
end
end DL
namespace DL
open PySem PySem.Spec PyProof.Rows L2
theorem ins_of {M : Mem} {a : Addr} {C : Str} {fs : List (Str × D)} (h : M a = some (.ins C fs)) : insOf M (.ref a) = some (a, C, fs) := by simp only [insOf, h]
/-- o.on_cell(p) -/
theorem mc_cell {n : Nat} {to : TED} {ta : TAD} {σ : DSt} {M : Mem} {K : DK} {KX : DX} {a : Addr} {m : Mv} {p : Cell} (ho : ∀ Q : DK, Q (.ref a) M → to σ M Q KX) (hm : MvAt M a m) (hd : m.dep ≤ n)
    (ha : ∀ Q : List D → Mem → Prop, Q [cD p] M → ta σ M Q KX) (h : K (cD (m.f p)) M) : dMC (mtN n "on_cell") "on_cell" to ta σ M K KX := by
  refine ho _ ?_
  obtain ⟨fs, e, h1, _⟩ := hm.insOf
  rw [e, onS_some]
  refine ⟨h1, ?_⟩
  dsimp only
  rw [mtN_on_cell, onS_some]
  exact ha _ ⟨rfl, a, m, p, rfl, hm, rfl, hd, h⟩
/-- o.back() -/
theorem mc_back {n : Nat} {to : TED} {σ : DSt} {M : Mem} {K : DK} {KX : DX} {a : Addr} {m : Mv} (ho : ∀ Q : DK, Q (.ref a) M → to σ M Q KX) (hm : MvAt M a m) (hd : m.dep ≤ n)
    (h : ∀ M' q, Le M M' → MvAt M' q m.back → K (.ref q) M') : dMC (mtN n "back") "back" to aNil σ M K KX := by
  refine ho _ ?_
  obtain ⟨fs, e, _, h1, _⟩ := hm.insOf
  rw [e, onS_some]
  refine ⟨h1, ?_⟩
  dsimp only
  rw [mtN_back, onS_some]
  exact ⟨rfl, a, m, rfl, hm, rfl, hd, h⟩
/-- C() -/
theorem mk_cls {C : Str} {σ : DSt} {M : Mem} {K : DK} {KX : DX} (h : ∀ q M', Le M M' → M' q = some (.ins C []) → K (.ref q) M') : dMk0 C σ M K KX := fun p hp => h p _ (le_up hp) up_same
theorem mk_shift {ta : TAD} {σ : DSt} {M M1 : Mem} {K : DK} {KX : DX} {d r : Int} (ha : ∀ Q : List D → Mem → Prop, Q [.int d, .int r] M1 → ta σ M Q KX) (le : Le M M1) (h : ∀ q M', Le M M' → MvAt M' q (.shift d r) → K (.ref q) M') : dMk "Shift" 3 sp_Shift___init__ ta σ M K KX := by
  refine ha _ ⟨rfl, fun p hp => ⟨p, d, r, rfl, up_same, rfl, ?_⟩⟩
  rw [up_up]
  exact h p _ (le.new hp) up_same
theorem mk_chain {ta : TAD} {σ : DSt} {M M1 : Mem} {K : DK} {KX : DX} {p q : Addr} {x y : Mv} (ha : ∀ Q : List D → Mem → Prop, Q [.ref p, .ref q] M1 → ta σ M Q KX) (le : Le M M1) (hx : MvAt M1 p x) (hy : MvAt M1 q y) (h : ∀ z M', Le M1 M' → MvAt M' z (.chain x y) → K (.ref z) M') :
    dMk "Chain" 3 sp_Chain___init__ ta σ M K KX := by
  refine ha _ ⟨rfl, fun z hz => ⟨z, p, q, rfl, up_same, rfl, ?_⟩⟩
  rw [up_up]
  exact h z _ (le_up hz) ⟨p, q, up_same, hx.le (le_up hz), hy.le (le_up hz)⟩
theorem fld_at {C f : Str} {fs : List (Str × D)} {te : TED} {σ : DSt} {M : Mem} {K : DK} {KX : DX} {a : Addr} {d : D} (ho : ∀ Q : DK, Q (.ref a) M → te σ M Q KX) (h : M a = some (.ins C fs)) (hf : flN f C = true) (hd : fs.lookup f = some d) (hk : K d M) : dFld (flN f) te f σ M K KX := by
  refine ho _ ?_
  rw [ins_of h, onS_some]
  refine ⟨hf, ?_⟩
  dsimp only
  rw [hd, onS_some]
  exact hk
theorem is_plain : ∀ m : Mv, m.cls = "Move" → m = .plain
  | .plain, _ => rfl
  | .shift _ _, h => absurd (show ("Shift" : Str) = "Move" from h) (by decide)
  | .quarter, h => absurd (show ("Quarter" : Str) = "Move" from h) (by decide)
  | .quarterB, h => absurd (show ("QuarterBack" : Str) = "Move" from h) (by decide)
  | .mirror, h => absurd (show ("Mirror" : Str) = "Move" from h) (by decide)
  | .chain _ _, h => absurd (show ("Chain" : Str) = "Move" from h) (by decide)
theorem is_shift : ∀ m : Mv, m.cls = "Shift" → ∃ d r, m = .shift d r
  | .plain, h => absurd (show ("Move" : Str) = "Shift" from h) (by decide)
  | .shift _ _, _ => ⟨_, _, rfl⟩
  | .quarter, h => absurd (show ("Quarter" : Str) = "Shift" from h) (by decide)
  | .quarterB, h => absurd (show ("QuarterBack" : Str) = "Shift" from h) (by decide)
  | .mirror, h => absurd (show ("Mirror" : Str) = "Shift" from h) (by decide)
  | .chain _ _, h => absurd (show ("Chain" : Str) = "Shift" from h) (by decide)
theorem is_quarter : ∀ m : Mv, m.cls = "Quarter" → m = .quarter
  | .plain, h => absurd (show ("Move" : Str) = "Quarter" from h) (by decide)
  | .shift _ _, h => absurd (show ("Shift" : Str) = "Quarter" from h) (by decide)
  | .quarter, _ => rfl
  | .quarterB, h => absurd (show ("QuarterBack" : Str) = "Quarter" from h) (by decide)
  | .mirror, h => absurd (show ("Mirror" : Str) = "Quarter" from h) (by decide)
  | .chain _ _, h => absurd (show ("Chain" : Str) = "Quarter" from h) (by decide)
theorem is_quarterB : ∀ m : Mv, m.cls = "QuarterBack" → m = .quarterB
  | .plain, h => absurd (show ("Move" : Str) = "QuarterBack" from h) (by decide)
  | .shift _ _, h => absurd (show ("Shift" : Str) = "QuarterBack" from h) (by decide)
  | .quarter, h => absurd (show ("Quarter" : Str) = "QuarterBack" from h) (by decide)
  | .quarterB, _ => rfl
  | .mirror, h => absurd (show ("Mirror" : Str) = "QuarterBack" from h) (by decide)
  | .chain _ _, h => absurd (show ("Chain" : Str) = "QuarterBack" from h) (by decide)
theorem is_mirror : ∀ m : Mv, m.cls = "Mirror" → m = .mirror
  | .plain, h => absurd (show ("Move" : Str) = "Mirror" from h) (by decide)
  | .shift _ _, h => absurd (show ("Shift" : Str) = "Mirror" from h) (by decide)
  | .quarter, h => absurd (show ("Quarter" : Str) = "Mirror" from h) (by decide)
  | .quarterB, h => absurd (show ("QuarterBack" : Str) = "Mirror" from h) (by decide)
  | .mirror, _ => rfl
  | .chain _ _, h => absurd (show ("Chain" : Str) = "Mirror" from h) (by decide)
theorem is_chain : ∀ m : Mv, m.cls = "Chain" → ∃ x y, m = .chain x y
  | .plain, h => absurd (show ("Move" : Str) = "Chain" from h) (by decide)
  | .shift _ _, h => absurd (show ("Shift" : Str) = "Chain" from h) (by decide)
  | .quarter, h => absurd (show ("Quarter" : Str) = "Chain" from h) (by decide)
  | .quarterB, h => absurd (show ("QuarterBack" : Str) = "Chain" from h) (by decide)
  | .mirror, h => absurd (show ("Mirror" : Str) = "Chain" from h) (by decide)
  | .chain _ _, _ => ⟨_, _, rfl⟩
/-! ### the methods -/
def t_Shift___init__ : TSD := (sSeq (sFldD (flN "down") (dVar 1) (dVar 0) "down") (sSeq (sFldD (flN "right") (dVar 2) (dVar 0) "right") sNext))
theorem p_Shift___init__ (ds : List D) (M : Mem) (K : DK) (KX : DX) (h : sp_Shift___init__ ds M K KX) : t_Shift___init__ (endsF K KX) (startD ["self", "down", "right"] ds) M := by
  obtain ⟨a, d, r, rfl, ha, h⟩ := h
  try simp only [decide_true, decide_false, Bool.not_true, Bool.not_false, startD, Nat.reduceLeDiff, List.map_cons, List.map_nil, List.length_cons, List.length_nil, Nat.reduceAdd, Nat.reduceSub, List.replicate, List.cons_append, List.nil_append, List.append_nil, sSeq, sRet, sRetN, sAsg, sDrop, sIf, sNext, sBreak, sCont, dOp, dVar, dC, dTup, dLst, aCons, aNil, dCB, dCall, dTest, dNotT, dAndT, dOrT, dAnd, dOr, dNot, dNeg, gNameD, gTupD, gsOf, gsCons, gsNil, gSubD, dSl, oNone, oSome, endsF, DEnds.kx, List.getElem?_cons_zero, List.getElem?_cons_succ, List.set_cons_zero, List.set_cons_succ, onS_some, add_int, sub_int, iad_int, mul_int, div_int, mod_int, pow_int, ban_int, bor_int, bxr_int, shl_int, shr_int, le_int', gt_int', ge_int', lt_int', eq_int', ne_int', dix_c0, dix_c1, dix_t0, dix_t1, sq_c, sq_t, isi_int, isi_int_bool, isi_tup, isi_bool, DL.abs_int, is_non, isnot_non, true_and, and_true, dBM, wipeD, mti_append, mti_lpop, mti_clear, mti_reverse, mti_get, mti_dpop, mti_setdefault, t_Shift___init__, sFldD]
  rw [ins_of ha, onS_some]
  dsimp only
  refine ⟨by decide, by decide, ?_⟩
  rw [ins_of up_same, onS_some]
  dsimp only
  refine ⟨by decide, by show (1 : Nat) < 1000; decide, ?_⟩
  rw [up_up]
  exact h
def t_Chain___init__ : TSD := (sSeq (sFldD (flN "first") (dVar 1) (dVar 0) "first") (sSeq (sFldD (flN "second") (dVar 2) (dVar 0) "second") sNext))
theorem p_Chain___init__ (ds : List D) (M : Mem) (K : DK) (KX : DX) (h : sp_Chain___init__ ds M K KX) : t_Chain___init__ (endsF K KX) (startD ["self", "first", "second"] ds) M := by
  obtain ⟨a, p, q, rfl, ha, h⟩ := h
  try simp only [decide_true, decide_false, Bool.not_true, Bool.not_false, startD, Nat.reduceLeDiff, List.map_cons, List.map_nil, List.length_cons, List.length_nil, Nat.reduceAdd, Nat.reduceSub, List.replicate, List.cons_append, List.nil_append, List.append_nil, sSeq, sRet, sRetN, sAsg, sDrop, sIf, sNext, sBreak, sCont, dOp, dVar, dC, dTup, dLst, aCons, aNil, dCB, dCall, dTest, dNotT, dAndT, dOrT, dAnd, dOr, dNot, dNeg, gNameD, gTupD, gsOf, gsCons, gsNil, gSubD, dSl, oNone, oSome, endsF, DEnds.kx, List.getElem?_cons_zero, List.getElem?_cons_succ, List.set_cons_zero, List.set_cons_succ, onS_some, add_int, sub_int, iad_int, mul_int, div_int, mod_int, pow_int, ban_int, bor_int, bxr_int, shl_int, shr_int, le_int', gt_int', ge_int', lt_int', eq_int', ne_int', dix_c0, dix_c1, dix_t0, dix_t1, sq_c, sq_t, isi_int, isi_int_bool, isi_tup, isi_bool, DL.abs_int, is_non, isnot_non, true_and, and_true, dBM, wipeD, mti_append, mti_lpop, mti_clear, mti_reverse, mti_get, mti_dpop, mti_setdefault, t_Chain___init__, sFldD]
  rw [ins_of ha, onS_some]
  dsimp only
  refine ⟨by decide, by decide, ?_⟩
  rw [ins_of up_same, onS_some]
  dsimp only
  refine ⟨by decide, by show (1 : Nat) < 1000; decide, ?_⟩
  rw [up_up]
  exact h
def t_Move_on_cell : TSD := (sSeq (sRet (dVar 1)) sNext)
theorem p_Move_on_cell (n : Nat) (ds : List D) (M : Mem) (K : DK) (KX : DX) (h : sp_on_cell (n + 1) "Move" ds M K KX) : t_Move_on_cell (endsF K KX) (startD ["self", "cell"] ds) M := by
  obtain ⟨a, m, p, rfl, hm, hc, hd, h⟩ := h
  obtain rfl := is_plain m hc
  try simp only [decide_true, decide_false, Bool.not_true, Bool.not_false, startD, Nat.reduceLeDiff, List.map_cons, List.map_nil, List.length_cons, List.length_nil, Nat.reduceAdd, Nat.reduceSub, List.replicate, List.cons_append, List.nil_append, List.append_nil, sSeq, sRet, sRetN, sAsg, sDrop, sIf, sNext, sBreak, sCont, dOp, dVar, dC, dTup, dLst, aCons, aNil, dCB, dCall, dTest, dNotT, dAndT, dOrT, dAnd, dOr, dNot, dNeg, gNameD, gTupD, gsOf, gsCons, gsNil, gSubD, dSl, oNone, oSome, endsF, DEnds.kx, List.getElem?_cons_zero, List.getElem?_cons_succ, List.set_cons_zero, List.set_cons_succ, onS_some, add_int, sub_int, iad_int, mul_int, div_int, mod_int, pow_int, ban_int, bor_int, bxr_int, shl_int, shr_int, le_int', gt_int', ge_int', lt_int', eq_int', ne_int', dix_c0, dix_c1, dix_t0, dix_t1, sq_c, sq_t, isi_int, isi_int_bool, isi_tup, isi_bool, DL.abs_int, is_non, isnot_non, true_and, and_true, dBM, wipeD, mti_append, mti_lpop, mti_clear, mti_reverse, mti_get, mti_dpop, mti_setdefault, t_Move_on_cell]
  exact h
def t_Shift_on_cell : TSD := (sSeq (sRet (dTup (aCons (dOp addD (dOp dIx (dVar 1) (dC (.int 0))) (dFld (flN "down") (dVar 0) "down")) (aCons (dOp addD (dOp dIx (dVar 1) (dC (.int 1))) (dFld (flN "right") (dVar 0) "right")) aNil)))) sNext)
theorem p_Shift_on_cell (n : Nat) (ds : List D) (M : Mem) (K : DK) (KX : DX) (h : sp_on_cell (n + 1) "Shift" ds M K KX) : t_Shift_on_cell (endsF K KX) (startD ["self", "cell"] ds) M := by
  obtain ⟨a, m, p, rfl, hm, hc, hd, h⟩ := h
  obtain ⟨d, r, rfl⟩ := is_shift m hc
  try simp only [decide_true, decide_false, Bool.not_true, Bool.not_false, startD, Nat.reduceLeDiff, List.map_cons, List.map_nil, List.length_cons, List.length_nil, Nat.reduceAdd, Nat.reduceSub, List.replicate, List.cons_append, List.nil_append, List.append_nil, sSeq, sRet, sRetN, sAsg, sDrop, sIf, sNext, sBreak, sCont, dOp, dVar, dC, dTup, dLst, aCons, aNil, dCB, dCall, dTest, dNotT, dAndT, dOrT, dAnd, dOr, dNot, dNeg, gNameD, gTupD, gsOf, gsCons, gsNil, gSubD, dSl, oNone, oSome, endsF, DEnds.kx, List.getElem?_cons_zero, List.getElem?_cons_succ, List.set_cons_zero, List.set_cons_succ, onS_some, add_int, sub_int, iad_int, mul_int, div_int, mod_int, pow_int, ban_int, bor_int, bxr_int, shl_int, shr_int, le_int', gt_int', ge_int', lt_int', eq_int', ne_int', dix_c0, dix_c1, dix_t0, dix_t1, sq_c, sq_t, isi_int, isi_int_bool, isi_tup, isi_bool, DL.abs_int, is_non, isnot_non, true_and, and_true, dBM, wipeD, mti_append, mti_lpop, mti_clear, mti_reverse, mti_get, mti_dpop, mti_setdefault, t_Shift_on_cell]
  refine fld_at (fun Q q => q) hm (by decide) rfl ?_
  try simp only [decide_true, decide_false, Bool.not_true, Bool.not_false, startD, Nat.reduceLeDiff, List.map_cons, List.map_nil, List.length_cons, List.length_nil, Nat.reduceAdd, Nat.reduceSub, List.replicate, List.cons_append, List.nil_append, List.append_nil, sSeq, sRet, sRetN, sAsg, sDrop, sIf, sNext, sBreak, sCont, dOp, dVar, dC, dTup, dLst, aCons, aNil, dCB, dCall, dTest, dNotT, dAndT, dOrT, dAnd, dOr, dNot, dNeg, gNameD, gTupD, gsOf, gsCons, gsNil, gSubD, dSl, oNone, oSome, endsF, DEnds.kx, List.getElem?_cons_zero, List.getElem?_cons_succ, List.set_cons_zero, List.set_cons_succ, onS_some, add_int, sub_int, iad_int, mul_int, div_int, mod_int, pow_int, ban_int, bor_int, bxr_int, shl_int, shr_int, le_int', gt_int', ge_int', lt_int', eq_int', ne_int', dix_c0, dix_c1, dix_t0, dix_t1, sq_c, sq_t, isi_int, isi_int_bool, isi_tup, isi_bool, DL.abs_int, is_non, isnot_non, true_and, and_true, dBM, wipeD, mti_append, mti_lpop, mti_clear, mti_reverse, mti_get, mti_dpop, mti_setdefault]
  refine fld_at (fun Q q => q) hm (by decide) rfl ?_
  try simp only [decide_true, decide_false, Bool.not_true, Bool.not_false, startD, Nat.reduceLeDiff, List.map_cons, List.map_nil, List.length_cons, List.length_nil, Nat.reduceAdd, Nat.reduceSub, List.replicate, List.cons_append, List.nil_append, List.append_nil, sSeq, sRet, sRetN, sAsg, sDrop, sIf, sNext, sBreak, sCont, dOp, dVar, dC, dTup, dLst, aCons, aNil, dCB, dCall, dTest, dNotT, dAndT, dOrT, dAnd, dOr, dNot, dNeg, gNameD, gTupD, gsOf, gsCons, gsNil, gSubD, dSl, oNone, oSome, endsF, DEnds.kx, List.getElem?_cons_zero, List.getElem?_cons_succ, List.set_cons_zero, List.set_cons_succ, onS_some, add_int, sub_int, iad_int, mul_int, div_int, mod_int, pow_int, ban_int, bor_int, bxr_int, shl_int, shr_int, le_int', gt_int', ge_int', lt_int', eq_int', ne_int', dix_c0, dix_c1, dix_t0, dix_t1, sq_c, sq_t, isi_int, isi_int_bool, isi_tup, isi_bool, DL.abs_int, is_non, isnot_non, true_and, and_true, dBM, wipeD, mti_append, mti_lpop, mti_clear, mti_reverse, mti_get, mti_dpop, mti_setdefault]
  exact h
def t_Quarter_on_cell : TSD := (sSeq (sRet (dTup (aCons (dOp dIx (dVar 1) (dC (.int 1))) (aCons (dOp subD (dC (.int 0)) (dOp dIx (dVar 1) (dC (.int 0)))) aNil)))) sNext)
theorem p_Quarter_on_cell (n : Nat) (ds : List D) (M : Mem) (K : DK) (KX : DX) (h : sp_on_cell (n + 1) "Quarter" ds M K KX) : t_Quarter_on_cell (endsF K KX) (startD ["self", "cell"] ds) M := by
  obtain ⟨a, m, p, rfl, hm, hc, hd, h⟩ := h
  obtain rfl := is_quarter m hc
  try simp only [decide_true, decide_false, Bool.not_true, Bool.not_false, startD, Nat.reduceLeDiff, List.map_cons, List.map_nil, List.length_cons, List.length_nil, Nat.reduceAdd, Nat.reduceSub, List.replicate, List.cons_append, List.nil_append, List.append_nil, sSeq, sRet, sRetN, sAsg, sDrop, sIf, sNext, sBreak, sCont, dOp, dVar, dC, dTup, dLst, aCons, aNil, dCB, dCall, dTest, dNotT, dAndT, dOrT, dAnd, dOr, dNot, dNeg, gNameD, gTupD, gsOf, gsCons, gsNil, gSubD, dSl, oNone, oSome, endsF, DEnds.kx, List.getElem?_cons_zero, List.getElem?_cons_succ, List.set_cons_zero, List.set_cons_succ, onS_some, add_int, sub_int, iad_int, mul_int, div_int, mod_int, pow_int, ban_int, bor_int, bxr_int, shl_int, shr_int, le_int', gt_int', ge_int', lt_int', eq_int', ne_int', dix_c0, dix_c1, dix_t0, dix_t1, sq_c, sq_t, isi_int, isi_int_bool, isi_tup, isi_bool, DL.abs_int, is_non, isnot_non, true_and, and_true, dBM, wipeD, mti_append, mti_lpop, mti_clear, mti_reverse, mti_get, mti_dpop, mti_setdefault, t_Quarter_on_cell]
  exact h
def t_QuarterBack_on_cell : TSD := (sSeq (sRet (dTup (aCons (dOp subD (dC (.int 0)) (dOp dIx (dVar 1) (dC (.int 1)))) (aCons (dOp dIx (dVar 1) (dC (.int 0))) aNil)))) sNext)
theorem p_QuarterBack_on_cell (n : Nat) (ds : List D) (M : Mem) (K : DK) (KX : DX) (h : sp_on_cell (n + 1) "QuarterBack" ds M K KX) : t_QuarterBack_on_cell (endsF K KX) (startD ["self", "cell"] ds) M := by
  obtain ⟨a, m, p, rfl, hm, hc, hd, h⟩ := h
  obtain rfl := is_quarterB m hc
  try simp only [decide_true, decide_false, Bool.not_true, Bool.not_false, startD, Nat.reduceLeDiff, List.map_cons, List.map_nil, List.length_cons, List.length_nil, Nat.reduceAdd, Nat.reduceSub, List.replicate, List.cons_append, List.nil_append, List.append_nil, sSeq, sRet, sRetN, sAsg, sDrop, sIf, sNext, sBreak, sCont, dOp, dVar, dC, dTup, dLst, aCons, aNil, dCB, dCall, dTest, dNotT, dAndT, dOrT, dAnd, dOr, dNot, dNeg, gNameD, gTupD, gsOf, gsCons, gsNil, gSubD, dSl, oNone, oSome, endsF, DEnds.kx, List.getElem?_cons_zero, List.getElem?_cons_succ, List.set_cons_zero, List.set_cons_succ, onS_some, add_int, sub_int, iad_int, mul_int, div_int, mod_int, pow_int, ban_int, bor_int, bxr_int, shl_int, shr_int, le_int', gt_int', ge_int', lt_int', eq_int', ne_int', dix_c0, dix_c1, dix_t0, dix_t1, sq_c, sq_t, isi_int, isi_int_bool, isi_tup, isi_bool, DL.abs_int, is_non, isnot_non, true_and, and_true, dBM, wipeD, mti_append, mti_lpop, mti_clear, mti_reverse, mti_get, mti_dpop, mti_setdefault, t_QuarterBack_on_cell]
  exact h
def t_Mirror_on_cell : TSD := (sSeq (sRet (dTup (aCons (dOp dIx (dVar 1) (dC (.int 0))) (aCons (dOp subD (dC (.int 0)) (dOp dIx (dVar 1) (dC (.int 1)))) aNil)))) sNext)
theorem p_Mirror_on_cell (n : Nat) (ds : List D) (M : Mem) (K : DK) (KX : DX) (h : sp_on_cell (n + 1) "Mirror" ds M K KX) : t_Mirror_on_cell (endsF K KX) (startD ["self", "cell"] ds) M := by
  obtain ⟨a, m, p, rfl, hm, hc, hd, h⟩ := h
  obtain rfl := is_mirror m hc
  try simp only [decide_true, decide_false, Bool.not_true, Bool.not_false, startD, Nat.reduceLeDiff, List.map_cons, List.map_nil, List.length_cons, List.length_nil, Nat.reduceAdd, Nat.reduceSub, List.replicate, List.cons_append, List.nil_append, List.append_nil, sSeq, sRet, sRetN, sAsg, sDrop, sIf, sNext, sBreak, sCont, dOp, dVar, dC, dTup, dLst, aCons, aNil, dCB, dCall, dTest, dNotT, dAndT, dOrT, dAnd, dOr, dNot, dNeg, gNameD, gTupD, gsOf, gsCons, gsNil, gSubD, dSl, oNone, oSome, endsF, DEnds.kx, List.getElem?_cons_zero, List.getElem?_cons_succ, List.set_cons_zero, List.set_cons_succ, onS_some, add_int, sub_int, iad_int, mul_int, div_int, mod_int, pow_int, ban_int, bor_int, bxr_int, shl_int, shr_int, le_int', gt_int', ge_int', lt_int', eq_int', ne_int', dix_c0, dix_c1, dix_t0, dix_t1, sq_c, sq_t, isi_int, isi_int_bool, isi_tup, isi_bool, DL.abs_int, is_non, isnot_non, true_and, and_true, dBM, wipeD, mti_append, mti_lpop, mti_clear, mti_reverse, mti_get, mti_dpop, mti_setdefault, t_Mirror_on_cell]
  exact h
def t_Chain_on_cell (n : Nat) : TSD := (sSeq (sRet (dMC (mtN n "on_cell") "on_cell" (dFld (flN "second") (dVar 0) "second") (aCons (dMC (mtN n "on_cell") "on_cell" (dFld (flN "first") (dVar 0) "first") (aCons (dVar 1) aNil)) aNil))) sNext)
theorem p_Chain_on_cell (n : Nat) (ds : List D) (M : Mem) (K : DK) (KX : DX) (h : sp_on_cell (n + 1) "Chain" ds M K KX) : t_Chain_on_cell n (endsF K KX) (startD ["self", "cell"] ds) M := by
  obtain ⟨a, m, p, rfl, hm, hc, hd, h⟩ := h
  obtain ⟨x, y, rfl⟩ := is_chain m hc
  obtain ⟨u, v, ha, hx, hy⟩ := hm
  have hd : max x.dep y.dep + 1 ≤ n + 1 := hd
  try simp only [decide_true, decide_false, Bool.not_true, Bool.not_false, startD, Nat.reduceLeDiff, List.map_cons, List.map_nil, List.length_cons, List.length_nil, Nat.reduceAdd, Nat.reduceSub, List.replicate, List.cons_append, List.nil_append, List.append_nil, sSeq, sRet, sRetN, sAsg, sDrop, sIf, sNext, sBreak, sCont, dOp, dVar, dC, dTup, dLst, aCons, aNil, dCB, dCall, dTest, dNotT, dAndT, dOrT, dAnd, dOr, dNot, dNeg, gNameD, gTupD, gsOf, gsCons, gsNil, gSubD, dSl, oNone, oSome, endsF, DEnds.kx, List.getElem?_cons_zero, List.getElem?_cons_succ, List.set_cons_zero, List.set_cons_succ, onS_some, add_int, sub_int, iad_int, mul_int, div_int, mod_int, pow_int, ban_int, bor_int, bxr_int, shl_int, shr_int, le_int', gt_int', ge_int', lt_int', eq_int', ne_int', dix_c0, dix_c1, dix_t0, dix_t1, sq_c, sq_t, isi_int, isi_int_bool, isi_tup, isi_bool, DL.abs_int, is_non, isnot_non, true_and, and_true, dBM, wipeD, mti_append, mti_lpop, mti_clear, mti_reverse, mti_get, mti_dpop, mti_setdefault, t_Chain_on_cell]
  refine mc_cell (a := v) (m := y) (p := x.f p) (fun Q q => fld_at (fun Q q => q) ha (by decide) rfl q) hy (by omega) (fun Q q => ?_) h
  try simp only [decide_true, decide_false, Bool.not_true, Bool.not_false, startD, Nat.reduceLeDiff, List.map_cons, List.map_nil, List.length_cons, List.length_nil, Nat.reduceAdd, Nat.reduceSub, List.replicate, List.cons_append, List.nil_append, List.append_nil, sSeq, sRet, sRetN, sAsg, sDrop, sIf, sNext, sBreak, sCont, dOp, dVar, dC, dTup, dLst, aCons, aNil, dCB, dCall, dTest, dNotT, dAndT, dOrT, dAnd, dOr, dNot, dNeg, gNameD, gTupD, gsOf, gsCons, gsNil, gSubD, dSl, oNone, oSome, endsF, DEnds.kx, List.getElem?_cons_zero, List.getElem?_cons_succ, List.set_cons_zero, List.set_cons_succ, onS_some, add_int, sub_int, iad_int, mul_int, div_int, mod_int, pow_int, ban_int, bor_int, bxr_int, shl_int, shr_int, le_int', gt_int', ge_int', lt_int', eq_int', ne_int', dix_c0, dix_c1, dix_t0, dix_t1, sq_c, sq_t, isi_int, isi_int_bool, isi_tup, isi_bool, DL.abs_int, is_non, isnot_non, true_and, and_true, dBM, wipeD, mti_append, mti_lpop, mti_clear, mti_reverse, mti_get, mti_dpop, mti_setdefault]
  exact mc_cell (a := u) (m := x) (p := p) (fun Q q => fld_at (fun Q q => q) ha (by decide) rfl q) hx (by omega) (fun Q q => q) q
def t_Move_back : TSD := (sSeq (sRet (dMk0 "Move")) sNext)
theorem p_Move_back (n : Nat) (ds : List D) (M : Mem) (K : DK) (KX : DX) (h : sp_back (n + 1) "Move" ds M K KX) : t_Move_back (endsF K KX) (startD ["self"] ds) M := by
  obtain ⟨a, m, rfl, hm, hc, hd, h⟩ := h
  obtain rfl := is_plain m hc
  try simp only [decide_true, decide_false, Bool.not_true, Bool.not_false, startD, Nat.reduceLeDiff, List.map_cons, List.map_nil, List.length_cons, List.length_nil, Nat.reduceAdd, Nat.reduceSub, List.replicate, List.cons_append, List.nil_append, List.append_nil, sSeq, sRet, sRetN, sAsg, sDrop, sIf, sNext, sBreak, sCont, dOp, dVar, dC, dTup, dLst, aCons, aNil, dCB, dCall, dTest, dNotT, dAndT, dOrT, dAnd, dOr, dNot, dNeg, gNameD, gTupD, gsOf, gsCons, gsNil, gSubD, dSl, oNone, oSome, endsF, DEnds.kx, List.getElem?_cons_zero, List.getElem?_cons_succ, List.set_cons_zero, List.set_cons_succ, onS_some, add_int, sub_int, iad_int, mul_int, div_int, mod_int, pow_int, ban_int, bor_int, bxr_int, shl_int, shr_int, le_int', gt_int', ge_int', lt_int', eq_int', ne_int', dix_c0, dix_c1, dix_t0, dix_t1, sq_c, sq_t, isi_int, isi_int_bool, isi_tup, isi_bool, DL.abs_int, is_non, isnot_non, true_and, and_true, dBM, wipeD, mti_append, mti_lpop, mti_clear, mti_reverse, mti_get, mti_dpop, mti_setdefault, t_Move_back]
  exact mk_cls fun q M' le e => h M' q le e
def t_Shift_back : TSD := (sSeq (sRet (dMk "Shift" 3 sp_Shift___init__ (aCons (dOp subD (dC (.int 0)) (dFld (flN "down") (dVar 0) "down")) (aCons (dOp subD (dC (.int 0)) (dFld (flN "right") (dVar 0) "right")) aNil)))) sNext)
theorem p_Shift_back (n : Nat) (ds : List D) (M : Mem) (K : DK) (KX : DX) (h : sp_back (n + 1) "Shift" ds M K KX) : t_Shift_back (endsF K KX) (startD ["self"] ds) M := by
  obtain ⟨a, m, rfl, hm, hc, hd, h⟩ := h
  obtain ⟨d, r, rfl⟩ := is_shift m hc
  try simp only [decide_true, decide_false, Bool.not_true, Bool.not_false, startD, Nat.reduceLeDiff, List.map_cons, List.map_nil, List.length_cons, List.length_nil, Nat.reduceAdd, Nat.reduceSub, List.replicate, List.cons_append, List.nil_append, List.append_nil, sSeq, sRet, sRetN, sAsg, sDrop, sIf, sNext, sBreak, sCont, dOp, dVar, dC, dTup, dLst, aCons, aNil, dCB, dCall, dTest, dNotT, dAndT, dOrT, dAnd, dOr, dNot, dNeg, gNameD, gTupD, gsOf, gsCons, gsNil, gSubD, dSl, oNone, oSome, endsF, DEnds.kx, List.getElem?_cons_zero, List.getElem?_cons_succ, List.set_cons_zero, List.set_cons_succ, onS_some, add_int, sub_int, iad_int, mul_int, div_int, mod_int, pow_int, ban_int, bor_int, bxr_int, shl_int, shr_int, le_int', gt_int', ge_int', lt_int', eq_int', ne_int', dix_c0, dix_c1, dix_t0, dix_t1, sq_c, sq_t, isi_int, isi_int_bool, isi_tup, isi_bool, DL.abs_int, is_non, isnot_non, true_and, and_true, dBM, wipeD, mti_append, mti_lpop, mti_clear, mti_reverse, mti_get, mti_dpop, mti_setdefault, t_Shift_back]
  refine mk_shift (d := 0 - d) (r := 0 - r) (M1 := M) (fun Q q => ?_) Le.refl fun q M' le e => h M' q le e
  try simp only [decide_true, decide_false, Bool.not_true, Bool.not_false, startD, Nat.reduceLeDiff, List.map_cons, List.map_nil, List.length_cons, List.length_nil, Nat.reduceAdd, Nat.reduceSub, List.replicate, List.cons_append, List.nil_append, List.append_nil, sSeq, sRet, sRetN, sAsg, sDrop, sIf, sNext, sBreak, sCont, dOp, dVar, dC, dTup, dLst, aCons, aNil, dCB, dCall, dTest, dNotT, dAndT, dOrT, dAnd, dOr, dNot, dNeg, gNameD, gTupD, gsOf, gsCons, gsNil, gSubD, dSl, oNone, oSome, endsF, DEnds.kx, List.getElem?_cons_zero, List.getElem?_cons_succ, List.set_cons_zero, List.set_cons_succ, onS_some, add_int, sub_int, iad_int, mul_int, div_int, mod_int, pow_int, ban_int, bor_int, bxr_int, shl_int, shr_int, le_int', gt_int', ge_int', lt_int', eq_int', ne_int', dix_c0, dix_c1, dix_t0, dix_t1, sq_c, sq_t, isi_int, isi_int_bool, isi_tup, isi_bool, DL.abs_int, is_non, isnot_non, true_and, and_true, dBM, wipeD, mti_append, mti_lpop, mti_clear, mti_reverse, mti_get, mti_dpop, mti_setdefault]
  refine fld_at (fun Q q => q) hm (by decide) rfl ?_
  try simp only [decide_true, decide_false, Bool.not_true, Bool.not_false, startD, Nat.reduceLeDiff, List.map_cons, List.map_nil, List.length_cons, List.length_nil, Nat.reduceAdd, Nat.reduceSub, List.replicate, List.cons_append, List.nil_append, List.append_nil, sSeq, sRet, sRetN, sAsg, sDrop, sIf, sNext, sBreak, sCont, dOp, dVar, dC, dTup, dLst, aCons, aNil, dCB, dCall, dTest, dNotT, dAndT, dOrT, dAnd, dOr, dNot, dNeg, gNameD, gTupD, gsOf, gsCons, gsNil, gSubD, dSl, oNone, oSome, endsF, DEnds.kx, List.getElem?_cons_zero, List.getElem?_cons_succ, List.set_cons_zero, List.set_cons_succ, onS_some, add_int, sub_int, iad_int, mul_int, div_int, mod_int, pow_int, ban_int, bor_int, bxr_int, shl_int, shr_int, le_int', gt_int', ge_int', lt_int', eq_int', ne_int', dix_c0, dix_c1, dix_t0, dix_t1, sq_c, sq_t, isi_int, isi_int_bool, isi_tup, isi_bool, DL.abs_int, is_non, isnot_non, true_and, and_true, dBM, wipeD, mti_append, mti_lpop, mti_clear, mti_reverse, mti_get, mti_dpop, mti_setdefault]
  exact fld_at (fun Q q => q) hm (by decide) rfl q
def t_Quarter_back : TSD := (sSeq (sRet (dMk0 "QuarterBack")) sNext)
theorem p_Quarter_back (n : Nat) (ds : List D) (M : Mem) (K : DK) (KX : DX) (h : sp_back (n + 1) "Quarter" ds M K KX) : t_Quarter_back (endsF K KX) (startD ["self"] ds) M := by
  obtain ⟨a, m, rfl, hm, hc, hd, h⟩ := h
  obtain rfl := is_quarter m hc
  try simp only [decide_true, decide_false, Bool.not_true, Bool.not_false, startD, Nat.reduceLeDiff, List.map_cons, List.map_nil, List.length_cons, List.length_nil, Nat.reduceAdd, Nat.reduceSub, List.replicate, List.cons_append, List.nil_append, List.append_nil, sSeq, sRet, sRetN, sAsg, sDrop, sIf, sNext, sBreak, sCont, dOp, dVar, dC, dTup, dLst, aCons, aNil, dCB, dCall, dTest, dNotT, dAndT, dOrT, dAnd, dOr, dNot, dNeg, gNameD, gTupD, gsOf, gsCons, gsNil, gSubD, dSl, oNone, oSome, endsF, DEnds.kx, List.getElem?_cons_zero, List.getElem?_cons_succ, List.set_cons_zero, List.set_cons_succ, onS_some, add_int, sub_int, iad_int, mul_int, div_int, mod_int, pow_int, ban_int, bor_int, bxr_int, shl_int, shr_int, le_int', gt_int', ge_int', lt_int', eq_int', ne_int', dix_c0, dix_c1, dix_t0, dix_t1, sq_c, sq_t, isi_int, isi_int_bool, isi_tup, isi_bool, DL.abs_int, is_non, isnot_non, true_and, and_true, dBM, wipeD, mti_append, mti_lpop, mti_clear, mti_reverse, mti_get, mti_dpop, mti_setdefault, t_Quarter_back]
  exact mk_cls fun q M' le e => h M' q le e
def t_QuarterBack_back : TSD := (sSeq (sRet (dMk0 "Quarter")) sNext)
theorem p_QuarterBack_back (n : Nat) (ds : List D) (M : Mem) (K : DK) (KX : DX) (h : sp_back (n + 1) "QuarterBack" ds M K KX) : t_QuarterBack_back (endsF K KX) (startD ["self"] ds) M := by
  obtain ⟨a, m, rfl, hm, hc, hd, h⟩ := h
  obtain rfl := is_quarterB m hc
  try simp only [decide_true, decide_false, Bool.not_true, Bool.not_false, startD, Nat.reduceLeDiff, List.map_cons, List.map_nil, List.length_cons, List.length_nil, Nat.reduceAdd, Nat.reduceSub, List.replicate, List.cons_append, List.nil_append, List.append_nil, sSeq, sRet, sRetN, sAsg, sDrop, sIf, sNext, sBreak, sCont, dOp, dVar, dC, dTup, dLst, aCons, aNil, dCB, dCall, dTest, dNotT, dAndT, dOrT, dAnd, dOr, dNot, dNeg, gNameD, gTupD, gsOf, gsCons, gsNil, gSubD, dSl, oNone, oSome, endsF, DEnds.kx, List.getElem?_cons_zero, List.getElem?_cons_succ, List.set_cons_zero, List.set_cons_succ, onS_some, add_int, sub_int, iad_int, mul_int, div_int, mod_int, pow_int, ban_int, bor_int, bxr_int, shl_int, shr_int, le_int', gt_int', ge_int', lt_int', eq_int', ne_int', dix_c0, dix_c1, dix_t0, dix_t1, sq_c, sq_t, isi_int, isi_int_bool, isi_tup, isi_bool, DL.abs_int, is_non, isnot_non, true_and, and_true, dBM, wipeD, mti_append, mti_lpop, mti_clear, mti_reverse, mti_get, mti_dpop, mti_setdefault, t_QuarterBack_back]
  exact mk_cls fun q M' le e => h M' q le e
def t_Mirror_back : TSD := (sSeq (sRet (dMk0 "Mirror")) sNext)
theorem p_Mirror_back (n : Nat) (ds : List D) (M : Mem) (K : DK) (KX : DX) (h : sp_back (n + 1) "Mirror" ds M K KX) : t_Mirror_back (endsF K KX) (startD ["self"] ds) M := by
  obtain ⟨a, m, rfl, hm, hc, hd, h⟩ := h
  obtain rfl := is_mirror m hc
  try simp only [decide_true, decide_false, Bool.not_true, Bool.not_false, startD, Nat.reduceLeDiff, List.map_cons, List.map_nil, List.length_cons, List.length_nil, Nat.reduceAdd, Nat.reduceSub, List.replicate, List.cons_append, List.nil_append, List.append_nil, sSeq, sRet, sRetN, sAsg, sDrop, sIf, sNext, sBreak, sCont, dOp, dVar, dC, dTup, dLst, aCons, aNil, dCB, dCall, dTest, dNotT, dAndT, dOrT, dAnd, dOr, dNot, dNeg, gNameD, gTupD, gsOf, gsCons, gsNil, gSubD, dSl, oNone, oSome, endsF, DEnds.kx, List.getElem?_cons_zero, List.getElem?_cons_succ, List.set_cons_zero, List.set_cons_succ, onS_some, add_int, sub_int, iad_int, mul_int, div_int, mod_int, pow_int, ban_int, bor_int, bxr_int, shl_int, shr_int, le_int', gt_int', ge_int', lt_int', eq_int', ne_int', dix_c0, dix_c1, dix_t0, dix_t1, sq_c, sq_t, isi_int, isi_int_bool, isi_tup, isi_bool, DL.abs_int, is_non, isnot_non, true_and, and_true, dBM, wipeD, mti_append, mti_lpop, mti_clear, mti_reverse, mti_get, mti_dpop, mti_setdefault, t_Mirror_back]
  exact mk_cls fun q M' le e => h M' q le e
def t_Chain_back (n : Nat) : TSD := (sSeq (sRet (dMk "Chain" 3 sp_Chain___init__ (aCons (dMC (mtN n "back") "back" (dFld (flN "second") (dVar 0) "second") aNil) (aCons (dMC (mtN n "back") "back" (dFld (flN "first") (dVar 0) "first") aNil) aNil)))) sNext)
theorem p_Chain_back (n : Nat) (ds : List D) (M : Mem) (K : DK) (KX : DX) (h : sp_back (n + 1) "Chain" ds M K KX) : t_Chain_back n (endsF K KX) (startD ["self"] ds) M := by
  obtain ⟨a, m, rfl, hm, hc, hd, h⟩ := h
  obtain ⟨x, y, rfl⟩ := is_chain m hc
  obtain ⟨u, v, ha, hx, hy⟩ := hm
  have hd : max x.dep y.dep + 1 ≤ n + 1 := hd
  try simp only [decide_true, decide_false, Bool.not_true, Bool.not_false, startD, Nat.reduceLeDiff, List.map_cons, List.map_nil, List.length_cons, List.length_nil, Nat.reduceAdd, Nat.reduceSub, List.replicate, List.cons_append, List.nil_append, List.append_nil, sSeq, sRet, sRetN, sAsg, sDrop, sIf, sNext, sBreak, sCont, dOp, dVar, dC, dTup, dLst, aCons, aNil, dCB, dCall, dTest, dNotT, dAndT, dOrT, dAnd, dOr, dNot, dNeg, gNameD, gTupD, gsOf, gsCons, gsNil, gSubD, dSl, oNone, oSome, endsF, DEnds.kx, List.getElem?_cons_zero, List.getElem?_cons_succ, List.set_cons_zero, List.set_cons_succ, onS_some, add_int, sub_int, iad_int, mul_int, div_int, mod_int, pow_int, ban_int, bor_int, bxr_int, shl_int, shr_int, le_int', gt_int', ge_int', lt_int', eq_int', ne_int', dix_c0, dix_c1, dix_t0, dix_t1, sq_c, sq_t, isi_int, isi_int_bool, isi_tup, isi_bool, DL.abs_int, is_non, isnot_non, true_and, and_true, dBM, wipeD, mti_append, mti_lpop, mti_clear, mti_reverse, mti_get, mti_dpop, mti_setdefault, t_Chain_back, dMk]
  refine mc_back (a := v) (m := y) (fun Q q => fld_at (fun Q q => q) ha (by decide) rfl q) hy (by omega) fun M1 p le1 hp => ?_
  try simp only [decide_true, decide_false, Bool.not_true, Bool.not_false, startD, Nat.reduceLeDiff, List.map_cons, List.map_nil, List.length_cons, List.length_nil, Nat.reduceAdd, Nat.reduceSub, List.replicate, List.cons_append, List.nil_append, List.append_nil, sSeq, sRet, sRetN, sAsg, sDrop, sIf, sNext, sBreak, sCont, dOp, dVar, dC, dTup, dLst, aCons, aNil, dCB, dCall, dTest, dNotT, dAndT, dOrT, dAnd, dOr, dNot, dNeg, gNameD, gTupD, gsOf, gsCons, gsNil, gSubD, dSl, oNone, oSome, endsF, DEnds.kx, List.getElem?_cons_zero, List.getElem?_cons_succ, List.set_cons_zero, List.set_cons_succ, onS_some, add_int, sub_int, iad_int, mul_int, div_int, mod_int, pow_int, ban_int, bor_int, bxr_int, shl_int, shr_int, le_int', gt_int', ge_int', lt_int', eq_int', ne_int', dix_c0, dix_c1, dix_t0, dix_t1, sq_c, sq_t, isi_int, isi_int_bool, isi_tup, isi_bool, DL.abs_int, is_non, isnot_non, true_and, and_true, dBM, wipeD, mti_append, mti_lpop, mti_clear, mti_reverse, mti_get, mti_dpop, mti_setdefault]
  refine mc_back (a := u) (m := x) (fun Q q => fld_at (fun Q q => q) (le1 _ _ ha) (by decide) rfl q) (hx.le le1) (by omega) fun M2 q le2 hq => ?_
  try simp only [decide_true, decide_false, Bool.not_true, Bool.not_false, startD, Nat.reduceLeDiff, List.map_cons, List.map_nil, List.length_cons, List.length_nil, Nat.reduceAdd, Nat.reduceSub, List.replicate, List.cons_append, List.nil_append, List.append_nil, sSeq, sRet, sRetN, sAsg, sDrop, sIf, sNext, sBreak, sCont, dOp, dVar, dC, dTup, dLst, aCons, aNil, dCB, dCall, dTest, dNotT, dAndT, dOrT, dAnd, dOr, dNot, dNeg, gNameD, gTupD, gsOf, gsCons, gsNil, gSubD, dSl, oNone, oSome, endsF, DEnds.kx, List.getElem?_cons_zero, List.getElem?_cons_succ, List.set_cons_zero, List.set_cons_succ, onS_some, add_int, sub_int, iad_int, mul_int, div_int, mod_int, pow_int, ban_int, bor_int, bxr_int, shl_int, shr_int, le_int', gt_int', ge_int', lt_int', eq_int', ne_int', dix_c0, dix_c1, dix_t0, dix_t1, sq_c, sq_t, isi_int, isi_int_bool, isi_tup, isi_bool, DL.abs_int, is_non, isnot_non, true_and, and_true, dBM, wipeD, mti_append, mti_lpop, mti_clear, mti_reverse, mti_get, mti_dpop, mti_setdefault]
  refine fun z hz => ⟨z, p, q, rfl, up_same, rfl, ?_⟩
  rw [up_up]
  exact h _ z ((le1.trans le2).new hz) ⟨p, q, up_same, (hp.le le2).le (le_up hz), hq.le (le_up hz)⟩
end DL
namespace DL
open PySem PySem.Spec PyProof.Rows L2
/-! ### the law's moves -/
def farI (c : Int) : Int := if c.fmod 3 = 1 then (c.fdiv 3).fmod (2 * 10 ^ 18 + 1) - 10 ^ 18 else (c.fdiv 3).fmod 9 - 4
def sp_law_far : DSp := fun ds M K _ => ∃ c : Int, ds = [.int c] ∧ K (.int (farI c)) M
def t_law_far : TSD := (sSeq (sIf (dTest (dOp eqD (dOp modD (dVar 0) (dC (.int 3))) (dC (.int 1)))) (sSeq (sRet (dOp subD (dOp modD (dOp fdvD (dVar 0) (dC (.int 3))) (dOp addD (dOp mulD (dC (.int 2)) (dOp powD (dC (.int 10)) (dC (.int 18)))) (dC (.int 1)))) (dOp powD (dC (.int 10)) (dC (.int 18))))) sNext) sNext) (sSeq (sRet (dOp subD (dOp modD (dOp fdvD (dVar 0) (dC (.int 3))) (dC (.int 9))) (dC (.int 4)))) sNext))
theorem p_law_far (ds : List D) (M : Mem) (K : DK) (KX : DX) (h : sp_law_far ds M K KX) : t_law_far (endsF K KX) (startD ["_law_cell"] ds) M := by
  obtain ⟨c, rfl, h⟩ := h
  unfold farI at h
  try simp only [decide_true, decide_false, Bool.not_true, Bool.not_false, startD, Nat.reduceLeDiff, List.map_cons, List.map_nil, List.length_cons, List.length_nil, Nat.reduceAdd, Nat.reduceSub, List.replicate, List.cons_append, List.nil_append, List.append_nil, sSeq, sRet, sRetN, sAsg, sDrop, sIf, sNext, sBreak, sCont, dOp, dVar, dC, dTup, dLst, aCons, aNil, dCB, dCall, dTest, dNotT, dAndT, dOrT, dAnd, dOr, dNot, dNeg, gNameD, gTupD, gsOf, gsCons, gsNil, gSubD, dSl, oNone, oSome, endsF, DEnds.kx, List.getElem?_cons_zero, List.getElem?_cons_succ, List.set_cons_zero, List.set_cons_succ, onS_some, add_int, sub_int, iad_int, mul_int, div_int, mod_int, pow_int, ban_int, bor_int, bxr_int, shl_int, shr_int, le_int', gt_int', ge_int', lt_int', eq_int', ne_int', dix_c0, dix_c1, dix_t0, dix_t1, sq_c, sq_t, isi_int, isi_int_bool, isi_tup, isi_bool, DL.abs_int, is_non, isnot_non, true_and, and_true, dBM, wipeD, mti_append, mti_lpop, mti_clear, mti_reverse, mti_get, mti_dpop, mti_setdefault, t_law_far]
  refine ⟨by decide, ?_⟩
  by_cases e : c.fmod 3 = 1
  · rw [if_pos e] at h
    rw [decide_eq_true e]
    try simp only [decide_true, decide_false, Bool.not_true, Bool.not_false, startD, Nat.reduceLeDiff, List.map_cons, List.map_nil, List.length_cons, List.length_nil, Nat.reduceAdd, Nat.reduceSub, List.replicate, List.cons_append, List.nil_append, List.append_nil, sSeq, sRet, sRetN, sAsg, sDrop, sIf, sNext, sBreak, sCont, dOp, dVar, dC, dTup, dLst, aCons, aNil, dCB, dCall, dTest, dNotT, dAndT, dOrT, dAnd, dOr, dNot, dNeg, gNameD, gTupD, gsOf, gsCons, gsNil, gSubD, dSl, oNone, oSome, endsF, DEnds.kx, List.getElem?_cons_zero, List.getElem?_cons_succ, List.set_cons_zero, List.set_cons_succ, onS_some, add_int, sub_int, iad_int, mul_int, div_int, mod_int, pow_int, ban_int, bor_int, bxr_int, shl_int, shr_int, le_int', gt_int', ge_int', lt_int', eq_int', ne_int', dix_c0, dix_c1, dix_t0, dix_t1, sq_c, sq_t, isi_int, isi_int_bool, isi_tup, isi_bool, DL.abs_int, is_non, isnot_non, true_and, and_true, dBM, wipeD, mti_append, mti_lpop, mti_clear, mti_reverse, mti_get, mti_dpop, mti_setdefault]
    refine ⟨⟨by decide, by decide⟩, ⟨by decide, by decide, by decide⟩, .inl (.inl ⟨by decide, by decide⟩), by decide, ⟨by decide, by decide, by decide⟩, ?_⟩
    exact h
  · rw [if_neg e] at h
    rw [decide_eq_false e]
    try simp only [decide_true, decide_false, Bool.not_true, Bool.not_false, startD, Nat.reduceLeDiff, List.map_cons, List.map_nil, List.length_cons, List.length_nil, Nat.reduceAdd, Nat.reduceSub, List.replicate, List.cons_append, List.nil_append, List.append_nil, sSeq, sRet, sRetN, sAsg, sDrop, sIf, sNext, sBreak, sCont, dOp, dVar, dC, dTup, dLst, aCons, aNil, dCB, dCall, dTest, dNotT, dAndT, dOrT, dAnd, dOr, dNot, dNeg, gNameD, gTupD, gsOf, gsCons, gsNil, gSubD, dSl, oNone, oSome, endsF, DEnds.kx, List.getElem?_cons_zero, List.getElem?_cons_succ, List.set_cons_zero, List.set_cons_succ, onS_some, add_int, sub_int, iad_int, mul_int, div_int, mod_int, pow_int, ban_int, bor_int, bxr_int, shl_int, shr_int, le_int', gt_int', ge_int', lt_int', eq_int', ne_int', dix_c0, dix_c1, dix_t0, dix_t1, sq_c, sq_t, isi_int, isi_int_bool, isi_tup, isi_bool, DL.abs_int, is_non, isnot_non, true_and, and_true, dBM, wipeD, mti_append, mti_lpop, mti_clear, mti_reverse, mti_get, mti_dpop, mti_setdefault]
    refine ⟨⟨by decide, by decide⟩, by decide, ?_⟩
    exact h
def mvOf (c : Int) : Mv := if c.fmod 6 = 1 then .quarter else if c.fmod 6 = 2 then .mirror else if c.fmod 6 = 3 then .shift (farI (c.fdiv 6)) (farI (c.fdiv 42)) else if c.fmod 6 = 4 then .chain .quarter .mirror
  else if c.fmod 6 = 5 then .chain (.shift (farI (c.fdiv 6)) 1) .quarter else .plain
theorem mvOf_dep (c : Int) : (mvOf c).dep ≤ 2 := by
  unfold mvOf
  split
  · decide
  split
  · decide
  split
  · exact Nat.le_succ 1
  split
  · decide
  split
  · exact Nat.le_refl 2
  · decide
def sp_law_move : DSp := fun ds M K _ => ∃ c : Int, ds = [.int c] ∧ ∀ M' q, Le M M' → MvAt M' q (mvOf c) → K (.ref q) M'
def j1_law_move : TSD := (sSeq (sRet (dMk0 "Move")) sNext)
def j2_law_move : TSD := (sSeq (sIf (dTest (dOp eqD (dVar 1) (dC (.int 5)))) (sSeq (sRet (dMk "Chain" 3 sp_Chain___init__ (aCons (dMk "Shift" 3 sp_Shift___init__ (aCons (dCall 1 sp_law_far [] (aCons (dOp fdvD (dVar 0) (dC (.int 6))) aNil)) (aCons (dC (.int 1)) aNil))) (aCons (dMk0 "Quarter") aNil)))) sNext) sNext) j1_law_move)
def j3_law_move : TSD := (sSeq (sIf (dTest (dOp eqD (dVar 1) (dC (.int 4)))) (sSeq (sRet (dMk "Chain" 3 sp_Chain___init__ (aCons (dMk0 "Quarter") (aCons (dMk0 "Mirror") aNil)))) sNext) sNext) j2_law_move)
def j4_law_move : TSD := (sSeq (sIf (dTest (dOp eqD (dVar 1) (dC (.int 3)))) (sSeq (sRet (dMk "Shift" 3 sp_Shift___init__ (aCons (dCall 1 sp_law_far [] (aCons (dOp fdvD (dVar 0) (dC (.int 6))) aNil)) (aCons (dCall 1 sp_law_far [] (aCons (dOp fdvD (dVar 0) (dC (.int 42))) aNil)) aNil)))) sNext) sNext) j3_law_move)
def j5_law_move : TSD := (sSeq (sIf (dTest (dOp eqD (dVar 1) (dC (.int 2)))) (sSeq (sRet (dMk0 "Mirror")) sNext) sNext) j4_law_move)
def t_law_move : TSD := (sSeq (sAsg (dOp modD (dVar 0) (dC (.int 6))) (gNameD 1)) (sSeq (sIf (dTest (dOp eqD (dVar 1) (dC (.int 1)))) (sSeq (sRet (dMk0 "Quarter")) sNext) sNext) j5_law_move))
theorem p_law_move (ds : List D) (M : Mem) (K : DK) (KX : DX) (h : sp_law_move ds M K KX) : t_law_move (endsF K KX) (startD ["_law_cell", "_law_kind"] ds) M := by
  obtain ⟨c, rfl, h⟩ := h
  unfold mvOf at h
  try simp only [decide_true, decide_false, Bool.not_true, Bool.not_false, startD, Nat.reduceLeDiff, List.map_cons, List.map_nil, List.length_cons, List.length_nil, Nat.reduceAdd, Nat.reduceSub, List.replicate, List.cons_append, List.nil_append, List.append_nil, sSeq, sRet, sRetN, sAsg, sDrop, sIf, sNext, sBreak, sCont, dOp, dVar, dC, dTup, dLst, aCons, aNil, dCB, dCall, dTest, dNotT, dAndT, dOrT, dAnd, dOr, dNot, dNeg, gNameD, gTupD, gsOf, gsCons, gsNil, gSubD, dSl, oNone, oSome, endsF, DEnds.kx, List.getElem?_cons_zero, List.getElem?_cons_succ, List.set_cons_zero, List.set_cons_succ, onS_some, add_int, sub_int, iad_int, mul_int, div_int, mod_int, pow_int, ban_int, bor_int, bxr_int, shl_int, shr_int, le_int', gt_int', ge_int', lt_int', eq_int', ne_int', dix_c0, dix_c1, dix_t0, dix_t1, sq_c, sq_t, isi_int, isi_int_bool, isi_tup, isi_bool, DL.abs_int, is_non, isnot_non, true_and, and_true, dBM, wipeD, mti_append, mti_lpop, mti_clear, mti_reverse, mti_get, mti_dpop, mti_setdefault, t_law_move]
  refine ⟨by decide, ?_⟩
  by_cases e1 : c.fmod 6 = 1
  · simp only [e1, ↓reduceIte] at h
    rw [decide_eq_true e1]
    try simp only [decide_true, decide_false, Bool.not_true, Bool.not_false, startD, Nat.reduceLeDiff, List.map_cons, List.map_nil, List.length_cons, List.length_nil, Nat.reduceAdd, Nat.reduceSub, List.replicate, List.cons_append, List.nil_append, List.append_nil, sSeq, sRet, sRetN, sAsg, sDrop, sIf, sNext, sBreak, sCont, dOp, dVar, dC, dTup, dLst, aCons, aNil, dCB, dCall, dTest, dNotT, dAndT, dOrT, dAnd, dOr, dNot, dNeg, gNameD, gTupD, gsOf, gsCons, gsNil, gSubD, dSl, oNone, oSome, endsF, DEnds.kx, List.getElem?_cons_zero, List.getElem?_cons_succ, List.set_cons_zero, List.set_cons_succ, onS_some, add_int, sub_int, iad_int, mul_int, div_int, mod_int, pow_int, ban_int, bor_int, bxr_int, shl_int, shr_int, le_int', gt_int', ge_int', lt_int', eq_int', ne_int', dix_c0, dix_c1, dix_t0, dix_t1, sq_c, sq_t, isi_int, isi_int_bool, isi_tup, isi_bool, DL.abs_int, is_non, isnot_non, true_and, and_true, dBM, wipeD, mti_append, mti_lpop, mti_clear, mti_reverse, mti_get, mti_dpop, mti_setdefault]
    exact mk_cls fun q M' le e => h M' q le e
  rw [decide_eq_false e1]
  try simp only [decide_true, decide_false, Bool.not_true, Bool.not_false, startD, Nat.reduceLeDiff, List.map_cons, List.map_nil, List.length_cons, List.length_nil, Nat.reduceAdd, Nat.reduceSub, List.replicate, List.cons_append, List.nil_append, List.append_nil, sSeq, sRet, sRetN, sAsg, sDrop, sIf, sNext, sBreak, sCont, dOp, dVar, dC, dTup, dLst, aCons, aNil, dCB, dCall, dTest, dNotT, dAndT, dOrT, dAnd, dOr, dNot, dNeg, gNameD, gTupD, gsOf, gsCons, gsNil, gSubD, dSl, oNone, oSome, endsF, DEnds.kx, List.getElem?_cons_zero, List.getElem?_cons_succ, List.set_cons_zero, List.set_cons_succ, onS_some, add_int, sub_int, iad_int, mul_int, div_int, mod_int, pow_int, ban_int, bor_int, bxr_int, shl_int, shr_int, le_int', gt_int', ge_int', lt_int', eq_int', ne_int', dix_c0, dix_c1, dix_t0, dix_t1, sq_c, sq_t, isi_int, isi_int_bool, isi_tup, isi_bool, DL.abs_int, is_non, isnot_non, true_and, and_true, dBM, wipeD, mti_append, mti_lpop, mti_clear, mti_reverse, mti_get, mti_dpop, mti_setdefault, j5_law_move]
  by_cases e2 : c.fmod 6 = 2
  · rw [if_neg e1, if_pos e2] at h
    rw [decide_eq_true e2]
    try simp only [decide_true, decide_false, Bool.not_true, Bool.not_false, startD, Nat.reduceLeDiff, List.map_cons, List.map_nil, List.length_cons, List.length_nil, Nat.reduceAdd, Nat.reduceSub, List.replicate, List.cons_append, List.nil_append, List.append_nil, sSeq, sRet, sRetN, sAsg, sDrop, sIf, sNext, sBreak, sCont, dOp, dVar, dC, dTup, dLst, aCons, aNil, dCB, dCall, dTest, dNotT, dAndT, dOrT, dAnd, dOr, dNot, dNeg, gNameD, gTupD, gsOf, gsCons, gsNil, gSubD, dSl, oNone, oSome, endsF, DEnds.kx, List.getElem?_cons_zero, List.getElem?_cons_succ, List.set_cons_zero, List.set_cons_succ, onS_some, add_int, sub_int, iad_int, mul_int, div_int, mod_int, pow_int, ban_int, bor_int, bxr_int, shl_int, shr_int, le_int', gt_int', ge_int', lt_int', eq_int', ne_int', dix_c0, dix_c1, dix_t0, dix_t1, sq_c, sq_t, isi_int, isi_int_bool, isi_tup, isi_bool, DL.abs_int, is_non, isnot_non, true_and, and_true, dBM, wipeD, mti_append, mti_lpop, mti_clear, mti_reverse, mti_get, mti_dpop, mti_setdefault]
    exact mk_cls fun q M' le e => h M' q le e
  rw [decide_eq_false e2]
  try simp only [decide_true, decide_false, Bool.not_true, Bool.not_false, startD, Nat.reduceLeDiff, List.map_cons, List.map_nil, List.length_cons, List.length_nil, Nat.reduceAdd, Nat.reduceSub, List.replicate, List.cons_append, List.nil_append, List.append_nil, sSeq, sRet, sRetN, sAsg, sDrop, sIf, sNext, sBreak, sCont, dOp, dVar, dC, dTup, dLst, aCons, aNil, dCB, dCall, dTest, dNotT, dAndT, dOrT, dAnd, dOr, dNot, dNeg, gNameD, gTupD, gsOf, gsCons, gsNil, gSubD, dSl, oNone, oSome, endsF, DEnds.kx, List.getElem?_cons_zero, List.getElem?_cons_succ, List.set_cons_zero, List.set_cons_succ, onS_some, add_int, sub_int, iad_int, mul_int, div_int, mod_int, pow_int, ban_int, bor_int, bxr_int, shl_int, shr_int, le_int', gt_int', ge_int', lt_int', eq_int', ne_int', dix_c0, dix_c1, dix_t0, dix_t1, sq_c, sq_t, isi_int, isi_int_bool, isi_tup, isi_bool, DL.abs_int, is_non, isnot_non, true_and, and_true, dBM, wipeD, mti_append, mti_lpop, mti_clear, mti_reverse, mti_get, mti_dpop, mti_setdefault, j4_law_move]
  by_cases e3 : c.fmod 6 = 3
  · rw [if_neg e1, if_neg e2, if_pos e3] at h
    rw [decide_eq_true e3]
    try simp only [decide_true, decide_false, Bool.not_true, Bool.not_false, startD, Nat.reduceLeDiff, List.map_cons, List.map_nil, List.length_cons, List.length_nil, Nat.reduceAdd, Nat.reduceSub, List.replicate, List.cons_append, List.nil_append, List.append_nil, sSeq, sRet, sRetN, sAsg, sDrop, sIf, sNext, sBreak, sCont, dOp, dVar, dC, dTup, dLst, aCons, aNil, dCB, dCall, dTest, dNotT, dAndT, dOrT, dAnd, dOr, dNot, dNeg, gNameD, gTupD, gsOf, gsCons, gsNil, gSubD, dSl, oNone, oSome, endsF, DEnds.kx, List.getElem?_cons_zero, List.getElem?_cons_succ, List.set_cons_zero, List.set_cons_succ, onS_some, add_int, sub_int, iad_int, mul_int, div_int, mod_int, pow_int, ban_int, bor_int, bxr_int, shl_int, shr_int, le_int', gt_int', ge_int', lt_int', eq_int', ne_int', dix_c0, dix_c1, dix_t0, dix_t1, sq_c, sq_t, isi_int, isi_int_bool, isi_tup, isi_bool, DL.abs_int, is_non, isnot_non, true_and, and_true, dBM, wipeD, mti_append, mti_lpop, mti_clear, mti_reverse, mti_get, mti_dpop, mti_setdefault]
    refine mk_shift (d := farI (c.fdiv 6)) (r := farI (c.fdiv 42)) (M1 := M) (fun Q q => ?_) Le.refl fun q M' le e => h M' q le e
    try simp only [decide_true, decide_false, Bool.not_true, Bool.not_false, startD, Nat.reduceLeDiff, List.map_cons, List.map_nil, List.length_cons, List.length_nil, Nat.reduceAdd, Nat.reduceSub, List.replicate, List.cons_append, List.nil_append, List.append_nil, sSeq, sRet, sRetN, sAsg, sDrop, sIf, sNext, sBreak, sCont, dOp, dVar, dC, dTup, dLst, aCons, aNil, dCB, dCall, dTest, dNotT, dAndT, dOrT, dAnd, dOr, dNot, dNeg, gNameD, gTupD, gsOf, gsCons, gsNil, gSubD, dSl, oNone, oSome, endsF, DEnds.kx, List.getElem?_cons_zero, List.getElem?_cons_succ, List.set_cons_zero, List.set_cons_succ, onS_some, add_int, sub_int, iad_int, mul_int, div_int, mod_int, pow_int, ban_int, bor_int, bxr_int, shl_int, shr_int, le_int', gt_int', ge_int', lt_int', eq_int', ne_int', dix_c0, dix_c1, dix_t0, dix_t1, sq_c, sq_t, isi_int, isi_int_bool, isi_tup, isi_bool, DL.abs_int, is_non, isnot_non, true_and, and_true, dBM, wipeD, mti_append, mti_lpop, mti_clear, mti_reverse, mti_get, mti_dpop, mti_setdefault]
    refine ⟨⟨by decide, by decide⟩, _, rfl, ⟨by decide, by decide⟩, _, rfl, ?_⟩
    exact q
  rw [decide_eq_false e3]
  try simp only [decide_true, decide_false, Bool.not_true, Bool.not_false, startD, Nat.reduceLeDiff, List.map_cons, List.map_nil, List.length_cons, List.length_nil, Nat.reduceAdd, Nat.reduceSub, List.replicate, List.cons_append, List.nil_append, List.append_nil, sSeq, sRet, sRetN, sAsg, sDrop, sIf, sNext, sBreak, sCont, dOp, dVar, dC, dTup, dLst, aCons, aNil, dCB, dCall, dTest, dNotT, dAndT, dOrT, dAnd, dOr, dNot, dNeg, gNameD, gTupD, gsOf, gsCons, gsNil, gSubD, dSl, oNone, oSome, endsF, DEnds.kx, List.getElem?_cons_zero, List.getElem?_cons_succ, List.set_cons_zero, List.set_cons_succ, onS_some, add_int, sub_int, iad_int, mul_int, div_int, mod_int, pow_int, ban_int, bor_int, bxr_int, shl_int, shr_int, le_int', gt_int', ge_int', lt_int', eq_int', ne_int', dix_c0, dix_c1, dix_t0, dix_t1, sq_c, sq_t, isi_int, isi_int_bool, isi_tup, isi_bool, DL.abs_int, is_non, isnot_non, true_and, and_true, dBM, wipeD, mti_append, mti_lpop, mti_clear, mti_reverse, mti_get, mti_dpop, mti_setdefault, j3_law_move]
  by_cases e4 : c.fmod 6 = 4
  · rw [if_neg e1, if_neg e2, if_neg e3, if_pos e4] at h
    rw [decide_eq_true e4]
    try simp only [decide_true, decide_false, Bool.not_true, Bool.not_false, startD, Nat.reduceLeDiff, List.map_cons, List.map_nil, List.length_cons, List.length_nil, Nat.reduceAdd, Nat.reduceSub, List.replicate, List.cons_append, List.nil_append, List.append_nil, sSeq, sRet, sRetN, sAsg, sDrop, sIf, sNext, sBreak, sCont, dOp, dVar, dC, dTup, dLst, aCons, aNil, dCB, dCall, dTest, dNotT, dAndT, dOrT, dAnd, dOr, dNot, dNeg, gNameD, gTupD, gsOf, gsCons, gsNil, gSubD, dSl, oNone, oSome, endsF, DEnds.kx, List.getElem?_cons_zero, List.getElem?_cons_succ, List.set_cons_zero, List.set_cons_succ, onS_some, add_int, sub_int, iad_int, mul_int, div_int, mod_int, pow_int, ban_int, bor_int, bxr_int, shl_int, shr_int, le_int', gt_int', ge_int', lt_int', eq_int', ne_int', dix_c0, dix_c1, dix_t0, dix_t1, sq_c, sq_t, isi_int, isi_int_bool, isi_tup, isi_bool, DL.abs_int, is_non, isnot_non, true_and, and_true, dBM, wipeD, mti_append, mti_lpop, mti_clear, mti_reverse, mti_get, mti_dpop, mti_setdefault, dMk]
    refine mk_cls fun p M1 le1 hp => ?_
    try simp only [decide_true, decide_false, Bool.not_true, Bool.not_false, startD, Nat.reduceLeDiff, List.map_cons, List.map_nil, List.length_cons, List.length_nil, Nat.reduceAdd, Nat.reduceSub, List.replicate, List.cons_append, List.nil_append, List.append_nil, sSeq, sRet, sRetN, sAsg, sDrop, sIf, sNext, sBreak, sCont, dOp, dVar, dC, dTup, dLst, aCons, aNil, dCB, dCall, dTest, dNotT, dAndT, dOrT, dAnd, dOr, dNot, dNeg, gNameD, gTupD, gsOf, gsCons, gsNil, gSubD, dSl, oNone, oSome, endsF, DEnds.kx, List.getElem?_cons_zero, List.getElem?_cons_succ, List.set_cons_zero, List.set_cons_succ, onS_some, add_int, sub_int, iad_int, mul_int, div_int, mod_int, pow_int, ban_int, bor_int, bxr_int, shl_int, shr_int, le_int', gt_int', ge_int', lt_int', eq_int', ne_int', dix_c0, dix_c1, dix_t0, dix_t1, sq_c, sq_t, isi_int, isi_int_bool, isi_tup, isi_bool, DL.abs_int, is_non, isnot_non, true_and, and_true, dBM, wipeD, mti_append, mti_lpop, mti_clear, mti_reverse, mti_get, mti_dpop, mti_setdefault]
    refine mk_cls fun q M2 le2 hq => ?_
    try simp only [decide_true, decide_false, Bool.not_true, Bool.not_false, startD, Nat.reduceLeDiff, List.map_cons, List.map_nil, List.length_cons, List.length_nil, Nat.reduceAdd, Nat.reduceSub, List.replicate, List.cons_append, List.nil_append, List.append_nil, sSeq, sRet, sRetN, sAsg, sDrop, sIf, sNext, sBreak, sCont, dOp, dVar, dC, dTup, dLst, aCons, aNil, dCB, dCall, dTest, dNotT, dAndT, dOrT, dAnd, dOr, dNot, dNeg, gNameD, gTupD, gsOf, gsCons, gsNil, gSubD, dSl, oNone, oSome, endsF, DEnds.kx, List.getElem?_cons_zero, List.getElem?_cons_succ, List.set_cons_zero, List.set_cons_succ, onS_some, add_int, sub_int, iad_int, mul_int, div_int, mod_int, pow_int, ban_int, bor_int, bxr_int, shl_int, shr_int, le_int', gt_int', ge_int', lt_int', eq_int', ne_int', dix_c0, dix_c1, dix_t0, dix_t1, sq_c, sq_t, isi_int, isi_int_bool, isi_tup, isi_bool, DL.abs_int, is_non, isnot_non, true_and, and_true, dBM, wipeD, mti_append, mti_lpop, mti_clear, mti_reverse, mti_get, mti_dpop, mti_setdefault]
    refine fun z hz => ⟨z, p, q, rfl, up_same, rfl, ?_⟩
    rw [up_up]
    exact h _ z ((le1.trans le2).new hz) ⟨p, q, up_same, (le_up hz) _ _ (le2 _ _ hp), (le_up hz) _ _ hq⟩
  rw [decide_eq_false e4]
  try simp only [decide_true, decide_false, Bool.not_true, Bool.not_false, startD, Nat.reduceLeDiff, List.map_cons, List.map_nil, List.length_cons, List.length_nil, Nat.reduceAdd, Nat.reduceSub, List.replicate, List.cons_append, List.nil_append, List.append_nil, sSeq, sRet, sRetN, sAsg, sDrop, sIf, sNext, sBreak, sCont, dOp, dVar, dC, dTup, dLst, aCons, aNil, dCB, dCall, dTest, dNotT, dAndT, dOrT, dAnd, dOr, dNot, dNeg, gNameD, gTupD, gsOf, gsCons, gsNil, gSubD, dSl, oNone, oSome, endsF, DEnds.kx, List.getElem?_cons_zero, List.getElem?_cons_succ, List.set_cons_zero, List.set_cons_succ, onS_some, add_int, sub_int, iad_int, mul_int, div_int, mod_int, pow_int, ban_int, bor_int, bxr_int, shl_int, shr_int, le_int', gt_int', ge_int', lt_int', eq_int', ne_int', dix_c0, dix_c1, dix_t0, dix_t1, sq_c, sq_t, isi_int, isi_int_bool, isi_tup, isi_bool, DL.abs_int, is_non, isnot_non, true_and, and_true, dBM, wipeD, mti_append, mti_lpop, mti_clear, mti_reverse, mti_get, mti_dpop, mti_setdefault, j2_law_move]
  by_cases e5 : c.fmod 6 = 5
  · rw [if_neg e1, if_neg e2, if_neg e3, if_neg e4, if_pos e5] at h
    rw [decide_eq_true e5]
    try simp only [decide_true, decide_false, Bool.not_true, Bool.not_false, startD, Nat.reduceLeDiff, List.map_cons, List.map_nil, List.length_cons, List.length_nil, Nat.reduceAdd, Nat.reduceSub, List.replicate, List.cons_append, List.nil_append, List.append_nil, sSeq, sRet, sRetN, sAsg, sDrop, sIf, sNext, sBreak, sCont, dOp, dVar, dC, dTup, dLst, aCons, aNil, dCB, dCall, dTest, dNotT, dAndT, dOrT, dAnd, dOr, dNot, dNeg, gNameD, gTupD, gsOf, gsCons, gsNil, gSubD, dSl, oNone, oSome, endsF, DEnds.kx, List.getElem?_cons_zero, List.getElem?_cons_succ, List.set_cons_zero, List.set_cons_succ, onS_some, add_int, sub_int, iad_int, mul_int, div_int, mod_int, pow_int, ban_int, bor_int, bxr_int, shl_int, shr_int, le_int', gt_int', ge_int', lt_int', eq_int', ne_int', dix_c0, dix_c1, dix_t0, dix_t1, sq_c, sq_t, isi_int, isi_int_bool, isi_tup, isi_bool, DL.abs_int, is_non, isnot_non, true_and, and_true, dBM, wipeD, mti_append, mti_lpop, mti_clear, mti_reverse, mti_get, mti_dpop, mti_setdefault]
    unfold dMk
    try simp only [decide_true, decide_false, Bool.not_true, Bool.not_false, startD, Nat.reduceLeDiff, List.map_cons, List.map_nil, List.length_cons, List.length_nil, Nat.reduceAdd, Nat.reduceSub, List.replicate, List.cons_append, List.nil_append, List.append_nil, sSeq, sRet, sRetN, sAsg, sDrop, sIf, sNext, sBreak, sCont, dOp, dVar, dC, dTup, dLst, aCons, aNil, dCB, dCall, dTest, dNotT, dAndT, dOrT, dAnd, dOr, dNot, dNeg, gNameD, gTupD, gsOf, gsCons, gsNil, gSubD, dSl, oNone, oSome, endsF, DEnds.kx, List.getElem?_cons_zero, List.getElem?_cons_succ, List.set_cons_zero, List.set_cons_succ, onS_some, add_int, sub_int, iad_int, mul_int, div_int, mod_int, pow_int, ban_int, bor_int, bxr_int, shl_int, shr_int, le_int', gt_int', ge_int', lt_int', eq_int', ne_int', dix_c0, dix_c1, dix_t0, dix_t1, sq_c, sq_t, isi_int, isi_int_bool, isi_tup, isi_bool, DL.abs_int, is_non, isnot_non, true_and, and_true, dBM, wipeD, mti_append, mti_lpop, mti_clear, mti_reverse, mti_get, mti_dpop, mti_setdefault]
    refine ⟨⟨by decide, by decide⟩, _, rfl, fun p hp => ⟨p, _, _, rfl, up_same, rfl, ?_⟩⟩
    rw [up_up]
    try simp only [decide_true, decide_false, Bool.not_true, Bool.not_false, startD, Nat.reduceLeDiff, List.map_cons, List.map_nil, List.length_cons, List.length_nil, Nat.reduceAdd, Nat.reduceSub, List.replicate, List.cons_append, List.nil_append, List.append_nil, sSeq, sRet, sRetN, sAsg, sDrop, sIf, sNext, sBreak, sCont, dOp, dVar, dC, dTup, dLst, aCons, aNil, dCB, dCall, dTest, dNotT, dAndT, dOrT, dAnd, dOr, dNot, dNeg, gNameD, gTupD, gsOf, gsCons, gsNil, gSubD, dSl, oNone, oSome, endsF, DEnds.kx, List.getElem?_cons_zero, List.getElem?_cons_succ, List.set_cons_zero, List.set_cons_succ, onS_some, add_int, sub_int, iad_int, mul_int, div_int, mod_int, pow_int, ban_int, bor_int, bxr_int, shl_int, shr_int, le_int', gt_int', ge_int', lt_int', eq_int', ne_int', dix_c0, dix_c1, dix_t0, dix_t1, sq_c, sq_t, isi_int, isi_int_bool, isi_tup, isi_bool, DL.abs_int, is_non, isnot_non, true_and, and_true, dBM, wipeD, mti_append, mti_lpop, mti_clear, mti_reverse, mti_get, mti_dpop, mti_setdefault]
    refine mk_cls fun q M2 le2 hq => ?_
    try simp only [decide_true, decide_false, Bool.not_true, Bool.not_false, startD, Nat.reduceLeDiff, List.map_cons, List.map_nil, List.length_cons, List.length_nil, Nat.reduceAdd, Nat.reduceSub, List.replicate, List.cons_append, List.nil_append, List.append_nil, sSeq, sRet, sRetN, sAsg, sDrop, sIf, sNext, sBreak, sCont, dOp, dVar, dC, dTup, dLst, aCons, aNil, dCB, dCall, dTest, dNotT, dAndT, dOrT, dAnd, dOr, dNot, dNeg, gNameD, gTupD, gsOf, gsCons, gsNil, gSubD, dSl, oNone, oSome, endsF, DEnds.kx, List.getElem?_cons_zero, List.getElem?_cons_succ, List.set_cons_zero, List.set_cons_succ, onS_some, add_int, sub_int, iad_int, mul_int, div_int, mod_int, pow_int, ban_int, bor_int, bxr_int, shl_int, shr_int, le_int', gt_int', ge_int', lt_int', eq_int', ne_int', dix_c0, dix_c1, dix_t0, dix_t1, sq_c, sq_t, isi_int, isi_int_bool, isi_tup, isi_bool, DL.abs_int, is_non, isnot_non, true_and, and_true, dBM, wipeD, mti_append, mti_lpop, mti_clear, mti_reverse, mti_get, mti_dpop, mti_setdefault]
    refine fun z hz => ⟨z, p, q, rfl, up_same, rfl, ?_⟩
    rw [up_up]
    exact h _ z (((le_up hp).trans le2).new hz) ⟨p, q, up_same, (le_up hz) _ _ (le2 _ _ up_same), (le_up hz) _ _ hq⟩
  rw [if_neg e1, if_neg e2, if_neg e3, if_neg e4, if_neg e5] at h
  rw [decide_eq_false e5]
  try simp only [decide_true, decide_false, Bool.not_true, Bool.not_false, startD, Nat.reduceLeDiff, List.map_cons, List.map_nil, List.length_cons, List.length_nil, Nat.reduceAdd, Nat.reduceSub, List.replicate, List.cons_append, List.nil_append, List.append_nil, sSeq, sRet, sRetN, sAsg, sDrop, sIf, sNext, sBreak, sCont, dOp, dVar, dC, dTup, dLst, aCons, aNil, dCB, dCall, dTest, dNotT, dAndT, dOrT, dAnd, dOr, dNot, dNeg, gNameD, gTupD, gsOf, gsCons, gsNil, gSubD, dSl, oNone, oSome, endsF, DEnds.kx, List.getElem?_cons_zero, List.getElem?_cons_succ, List.set_cons_zero, List.set_cons_succ, onS_some, add_int, sub_int, iad_int, mul_int, div_int, mod_int, pow_int, ban_int, bor_int, bxr_int, shl_int, shr_int, le_int', gt_int', ge_int', lt_int', eq_int', ne_int', dix_c0, dix_c1, dix_t0, dix_t1, sq_c, sq_t, isi_int, isi_int_bool, isi_tup, isi_bool, DL.abs_int, is_non, isnot_non, true_and, and_true, dBM, wipeD, mti_append, mti_lpop, mti_clear, mti_reverse, mti_get, mti_dpop, mti_setdefault, j1_law_move]
  exact mk_cls fun q M' le e => h M' q le e
def sp_law_to : DSp := fun ds M K _ => ∃ (c : Int) (p : Cell), ds = [.int c, cD p] ∧ K (cD ((mvOf c).f p)) M
def j1_law_to : TSD := (sSeq (sRet (dVar 1)) sNext)
def j2_law_to : TSD := (sSeq (sIf (dTest (dOp eqD (dVar 2) (dC (.int 5)))) (sSeq (sRet (dTup (aCons (dOp addD (dVar 4) (dC (.int 1))) (aCons (dOp subD (dOp subD (dC (.int 0)) (dVar 3)) (dCall 1 sp_law_far [] (aCons (dOp fdvD (dVar 0) (dC (.int 6))) aNil))) aNil)))) sNext) sNext) j1_law_to)
def j3_law_to : TSD := (sSeq (sIf (dTest (dOp eqD (dVar 2) (dC (.int 4)))) (sSeq (sRet (dTup (aCons (dVar 4) (aCons (dVar 3) aNil)))) sNext) sNext) j2_law_to)
def j4_law_to : TSD := (sSeq (sIf (dTest (dOp eqD (dVar 2) (dC (.int 3)))) (sSeq (sRet (dTup (aCons (dOp addD (dVar 3) (dCall 1 sp_law_far [] (aCons (dOp fdvD (dVar 0) (dC (.int 6))) aNil))) (aCons (dOp addD (dVar 4) (dCall 1 sp_law_far [] (aCons (dOp fdvD (dVar 0) (dC (.int 42))) aNil))) aNil)))) sNext) sNext) j3_law_to)
def j5_law_to : TSD := (sSeq (sIf (dTest (dOp eqD (dVar 2) (dC (.int 2)))) (sSeq (sRet (dTup (aCons (dVar 3) (aCons (dOp subD (dC (.int 0)) (dVar 4)) aNil)))) sNext) sNext) j4_law_to)
def t_law_to : TSD := (sSeq (sAsg (dOp modD (dVar 0) (dC (.int 6))) (gNameD 2)) (sSeq (sAsg (dVar 1) (gTupD (gsOf [3, 4]) 2)) (sSeq (sIf (dTest (dOp eqD (dVar 2) (dC (.int 1)))) (sSeq (sRet (dTup (aCons (dVar 4) (aCons (dOp subD (dC (.int 0)) (dVar 3)) aNil)))) sNext) sNext) j5_law_to)))
theorem p_law_to (ds : List D) (M : Mem) (K : DK) (KX : DX) (h : sp_law_to ds M K KX) : t_law_to (endsF K KX) (startD ["_law_cell", "_law_spot", "_law_kind", "_law_row", "_law_column"] ds) M := by
  obtain ⟨c, p, rfl, h⟩ := h
  unfold mvOf at h
  try simp only [decide_true, decide_false, Bool.not_true, Bool.not_false, startD, Nat.reduceLeDiff, List.map_cons, List.map_nil, List.length_cons, List.length_nil, Nat.reduceAdd, Nat.reduceSub, List.replicate, List.cons_append, List.nil_append, List.append_nil, sSeq, sRet, sRetN, sAsg, sDrop, sIf, sNext, sBreak, sCont, dOp, dVar, dC, dTup, dLst, aCons, aNil, dCB, dCall, dTest, dNotT, dAndT, dOrT, dAnd, dOr, dNot, dNeg, gNameD, gTupD, gsOf, gsCons, gsNil, gSubD, dSl, oNone, oSome, endsF, DEnds.kx, List.getElem?_cons_zero, List.getElem?_cons_succ, List.set_cons_zero, List.set_cons_succ, onS_some, add_int, sub_int, iad_int, mul_int, div_int, mod_int, pow_int, ban_int, bor_int, bxr_int, shl_int, shr_int, le_int', gt_int', ge_int', lt_int', eq_int', ne_int', dix_c0, dix_c1, dix_t0, dix_t1, sq_c, sq_t, isi_int, isi_int_bool, isi_tup, isi_bool, DL.abs_int, is_non, isnot_non, true_and, and_true, dBM, wipeD, mti_append, mti_lpop, mti_clear, mti_reverse, mti_get, mti_dpop, mti_setdefault, t_law_to]
  refine ⟨by decide, ?_⟩
  by_cases e1 : c.fmod 6 = 1
  · simp only [e1, ↓reduceIte] at h
    rw [decide_eq_true e1]
    try simp only [decide_true, decide_false, Bool.not_true, Bool.not_false, startD, Nat.reduceLeDiff, List.map_cons, List.map_nil, List.length_cons, List.length_nil, Nat.reduceAdd, Nat.reduceSub, List.replicate, List.cons_append, List.nil_append, List.append_nil, sSeq, sRet, sRetN, sAsg, sDrop, sIf, sNext, sBreak, sCont, dOp, dVar, dC, dTup, dLst, aCons, aNil, dCB, dCall, dTest, dNotT, dAndT, dOrT, dAnd, dOr, dNot, dNeg, gNameD, gTupD, gsOf, gsCons, gsNil, gSubD, dSl, oNone, oSome, endsF, DEnds.kx, List.getElem?_cons_zero, List.getElem?_cons_succ, List.set_cons_zero, List.set_cons_succ, onS_some, add_int, sub_int, iad_int, mul_int, div_int, mod_int, pow_int, ban_int, bor_int, bxr_int, shl_int, shr_int, le_int', gt_int', ge_int', lt_int', eq_int', ne_int', dix_c0, dix_c1, dix_t0, dix_t1, sq_c, sq_t, isi_int, isi_int_bool, isi_tup, isi_bool, DL.abs_int, is_non, isnot_non, true_and, and_true, dBM, wipeD, mti_append, mti_lpop, mti_clear, mti_reverse, mti_get, mti_dpop, mti_setdefault]
    exact h
  rw [decide_eq_false e1]
  try simp only [decide_true, decide_false, Bool.not_true, Bool.not_false, startD, Nat.reduceLeDiff, List.map_cons, List.map_nil, List.length_cons, List.length_nil, Nat.reduceAdd, Nat.reduceSub, List.replicate, List.cons_append, List.nil_append, List.append_nil, sSeq, sRet, sRetN, sAsg, sDrop, sIf, sNext, sBreak, sCont, dOp, dVar, dC, dTup, dLst, aCons, aNil, dCB, dCall, dTest, dNotT, dAndT, dOrT, dAnd, dOr, dNot, dNeg, gNameD, gTupD, gsOf, gsCons, gsNil, gSubD, dSl, oNone, oSome, endsF, DEnds.kx, List.getElem?_cons_zero, List.getElem?_cons_succ, List.set_cons_zero, List.set_cons_succ, onS_some, add_int, sub_int, iad_int, mul_int, div_int, mod_int, pow_int, ban_int, bor_int, bxr_int, shl_int, shr_int, le_int', gt_int', ge_int', lt_int', eq_int', ne_int', dix_c0, dix_c1, dix_t0, dix_t1, sq_c, sq_t, isi_int, isi_int_bool, isi_tup, isi_bool, DL.abs_int, is_non, isnot_non, true_and, and_true, dBM, wipeD, mti_append, mti_lpop, mti_clear, mti_reverse, mti_get, mti_dpop, mti_setdefault, j5_law_to]
  by_cases e2 : c.fmod 6 = 2
  · rw [if_neg e1, if_pos e2] at h
    rw [decide_eq_true e2]
    try simp only [decide_true, decide_false, Bool.not_true, Bool.not_false, startD, Nat.reduceLeDiff, List.map_cons, List.map_nil, List.length_cons, List.length_nil, Nat.reduceAdd, Nat.reduceSub, List.replicate, List.cons_append, List.nil_append, List.append_nil, sSeq, sRet, sRetN, sAsg, sDrop, sIf, sNext, sBreak, sCont, dOp, dVar, dC, dTup, dLst, aCons, aNil, dCB, dCall, dTest, dNotT, dAndT, dOrT, dAnd, dOr, dNot, dNeg, gNameD, gTupD, gsOf, gsCons, gsNil, gSubD, dSl, oNone, oSome, endsF, DEnds.kx, List.getElem?_cons_zero, List.getElem?_cons_succ, List.set_cons_zero, List.set_cons_succ, onS_some, add_int, sub_int, iad_int, mul_int, div_int, mod_int, pow_int, ban_int, bor_int, bxr_int, shl_int, shr_int, le_int', gt_int', ge_int', lt_int', eq_int', ne_int', dix_c0, dix_c1, dix_t0, dix_t1, sq_c, sq_t, isi_int, isi_int_bool, isi_tup, isi_bool, DL.abs_int, is_non, isnot_non, true_and, and_true, dBM, wipeD, mti_append, mti_lpop, mti_clear, mti_reverse, mti_get, mti_dpop, mti_setdefault]
    exact h
  rw [decide_eq_false e2]
  try simp only [decide_true, decide_false, Bool.not_true, Bool.not_false, startD, Nat.reduceLeDiff, List.map_cons, List.map_nil, List.length_cons, List.length_nil, Nat.reduceAdd, Nat.reduceSub, List.replicate, List.cons_append, List.nil_append, List.append_nil, sSeq, sRet, sRetN, sAsg, sDrop, sIf, sNext, sBreak, sCont, dOp, dVar, dC, dTup, dLst, aCons, aNil, dCB, dCall, dTest, dNotT, dAndT, dOrT, dAnd, dOr, dNot, dNeg, gNameD, gTupD, gsOf, gsCons, gsNil, gSubD, dSl, oNone, oSome, endsF, DEnds.kx, List.getElem?_cons_zero, List.getElem?_cons_succ, List.set_cons_zero, List.set_cons_succ, onS_some, add_int, sub_int, iad_int, mul_int, div_int, mod_int, pow_int, ban_int, bor_int, bxr_int, shl_int, shr_int, le_int', gt_int', ge_int', lt_int', eq_int', ne_int', dix_c0, dix_c1, dix_t0, dix_t1, sq_c, sq_t, isi_int, isi_int_bool, isi_tup, isi_bool, DL.abs_int, is_non, isnot_non, true_and, and_true, dBM, wipeD, mti_append, mti_lpop, mti_clear, mti_reverse, mti_get, mti_dpop, mti_setdefault, j4_law_to]
  by_cases e3 : c.fmod 6 = 3
  · rw [if_neg e1, if_neg e2, if_pos e3] at h
    rw [decide_eq_true e3]
    try simp only [decide_true, decide_false, Bool.not_true, Bool.not_false, startD, Nat.reduceLeDiff, List.map_cons, List.map_nil, List.length_cons, List.length_nil, Nat.reduceAdd, Nat.reduceSub, List.replicate, List.cons_append, List.nil_append, List.append_nil, sSeq, sRet, sRetN, sAsg, sDrop, sIf, sNext, sBreak, sCont, dOp, dVar, dC, dTup, dLst, aCons, aNil, dCB, dCall, dTest, dNotT, dAndT, dOrT, dAnd, dOr, dNot, dNeg, gNameD, gTupD, gsOf, gsCons, gsNil, gSubD, dSl, oNone, oSome, endsF, DEnds.kx, List.getElem?_cons_zero, List.getElem?_cons_succ, List.set_cons_zero, List.set_cons_succ, onS_some, add_int, sub_int, iad_int, mul_int, div_int, mod_int, pow_int, ban_int, bor_int, bxr_int, shl_int, shr_int, le_int', gt_int', ge_int', lt_int', eq_int', ne_int', dix_c0, dix_c1, dix_t0, dix_t1, sq_c, sq_t, isi_int, isi_int_bool, isi_tup, isi_bool, DL.abs_int, is_non, isnot_non, true_and, and_true, dBM, wipeD, mti_append, mti_lpop, mti_clear, mti_reverse, mti_get, mti_dpop, mti_setdefault]
    refine ⟨⟨by decide, by decide⟩, _, rfl, ⟨by decide, by decide⟩, _, rfl, ?_⟩
    exact h
  rw [decide_eq_false e3]
  try simp only [decide_true, decide_false, Bool.not_true, Bool.not_false, startD, Nat.reduceLeDiff, List.map_cons, List.map_nil, List.length_cons, List.length_nil, Nat.reduceAdd, Nat.reduceSub, List.replicate, List.cons_append, List.nil_append, List.append_nil, sSeq, sRet, sRetN, sAsg, sDrop, sIf, sNext, sBreak, sCont, dOp, dVar, dC, dTup, dLst, aCons, aNil, dCB, dCall, dTest, dNotT, dAndT, dOrT, dAnd, dOr, dNot, dNeg, gNameD, gTupD, gsOf, gsCons, gsNil, gSubD, dSl, oNone, oSome, endsF, DEnds.kx, List.getElem?_cons_zero, List.getElem?_cons_succ, List.set_cons_zero, List.set_cons_succ, onS_some, add_int, sub_int, iad_int, mul_int, div_int, mod_int, pow_int, ban_int, bor_int, bxr_int, shl_int, shr_int, le_int', gt_int', ge_int', lt_int', eq_int', ne_int', dix_c0, dix_c1, dix_t0, dix_t1, sq_c, sq_t, isi_int, isi_int_bool, isi_tup, isi_bool, DL.abs_int, is_non, isnot_non, true_and, and_true, dBM, wipeD, mti_append, mti_lpop, mti_clear, mti_reverse, mti_get, mti_dpop, mti_setdefault, j3_law_to]
  by_cases e4 : c.fmod 6 = 4
  · rw [if_neg e1, if_neg e2, if_neg e3, if_pos e4] at h
    rw [decide_eq_true e4]
    try simp only [decide_true, decide_false, Bool.not_true, Bool.not_false, startD, Nat.reduceLeDiff, List.map_cons, List.map_nil, List.length_cons, List.length_nil, Nat.reduceAdd, Nat.reduceSub, List.replicate, List.cons_append, List.nil_append, List.append_nil, sSeq, sRet, sRetN, sAsg, sDrop, sIf, sNext, sBreak, sCont, dOp, dVar, dC, dTup, dLst, aCons, aNil, dCB, dCall, dTest, dNotT, dAndT, dOrT, dAnd, dOr, dNot, dNeg, gNameD, gTupD, gsOf, gsCons, gsNil, gSubD, dSl, oNone, oSome, endsF, DEnds.kx, List.getElem?_cons_zero, List.getElem?_cons_succ, List.set_cons_zero, List.set_cons_succ, onS_some, add_int, sub_int, iad_int, mul_int, div_int, mod_int, pow_int, ban_int, bor_int, bxr_int, shl_int, shr_int, le_int', gt_int', ge_int', lt_int', eq_int', ne_int', dix_c0, dix_c1, dix_t0, dix_t1, sq_c, sq_t, isi_int, isi_int_bool, isi_tup, isi_bool, DL.abs_int, is_non, isnot_non, true_and, and_true, dBM, wipeD, mti_append, mti_lpop, mti_clear, mti_reverse, mti_get, mti_dpop, mti_setdefault]
    have e : (Mv.chain .quarter .mirror).f p = (p.2, p.1) := by show (p.2, (0 : Int) - (0 - p.1)) = _; rw [show (0 : Int) - (0 - p.1) = p.1 by omega]
    rw [e] at h
    exact h
  rw [decide_eq_false e4]
  try simp only [decide_true, decide_false, Bool.not_true, Bool.not_false, startD, Nat.reduceLeDiff, List.map_cons, List.map_nil, List.length_cons, List.length_nil, Nat.reduceAdd, Nat.reduceSub, List.replicate, List.cons_append, List.nil_append, List.append_nil, sSeq, sRet, sRetN, sAsg, sDrop, sIf, sNext, sBreak, sCont, dOp, dVar, dC, dTup, dLst, aCons, aNil, dCB, dCall, dTest, dNotT, dAndT, dOrT, dAnd, dOr, dNot, dNeg, gNameD, gTupD, gsOf, gsCons, gsNil, gSubD, dSl, oNone, oSome, endsF, DEnds.kx, List.getElem?_cons_zero, List.getElem?_cons_succ, List.set_cons_zero, List.set_cons_succ, onS_some, add_int, sub_int, iad_int, mul_int, div_int, mod_int, pow_int, ban_int, bor_int, bxr_int, shl_int, shr_int, le_int', gt_int', ge_int', lt_int', eq_int', ne_int', dix_c0, dix_c1, dix_t0, dix_t1, sq_c, sq_t, isi_int, isi_int_bool, isi_tup, isi_bool, DL.abs_int, is_non, isnot_non, true_and, and_true, dBM, wipeD, mti_append, mti_lpop, mti_clear, mti_reverse, mti_get, mti_dpop, mti_setdefault, j2_law_to]
  by_cases e5 : c.fmod 6 = 5
  · rw [if_neg e1, if_neg e2, if_neg e3, if_neg e4, if_pos e5] at h
    rw [decide_eq_true e5]
    try simp only [decide_true, decide_false, Bool.not_true, Bool.not_false, startD, Nat.reduceLeDiff, List.map_cons, List.map_nil, List.length_cons, List.length_nil, Nat.reduceAdd, Nat.reduceSub, List.replicate, List.cons_append, List.nil_append, List.append_nil, sSeq, sRet, sRetN, sAsg, sDrop, sIf, sNext, sBreak, sCont, dOp, dVar, dC, dTup, dLst, aCons, aNil, dCB, dCall, dTest, dNotT, dAndT, dOrT, dAnd, dOr, dNot, dNeg, gNameD, gTupD, gsOf, gsCons, gsNil, gSubD, dSl, oNone, oSome, endsF, DEnds.kx, List.getElem?_cons_zero, List.getElem?_cons_succ, List.set_cons_zero, List.set_cons_succ, onS_some, add_int, sub_int, iad_int, mul_int, div_int, mod_int, pow_int, ban_int, bor_int, bxr_int, shl_int, shr_int, le_int', gt_int', ge_int', lt_int', eq_int', ne_int', dix_c0, dix_c1, dix_t0, dix_t1, sq_c, sq_t, isi_int, isi_int_bool, isi_tup, isi_bool, DL.abs_int, is_non, isnot_non, true_and, and_true, dBM, wipeD, mti_append, mti_lpop, mti_clear, mti_reverse, mti_get, mti_dpop, mti_setdefault]
    refine ⟨⟨by decide, by decide⟩, _, rfl, ?_⟩
    have e : (Mv.chain (.shift (farI (c.fdiv 6)) 1) .quarter).f p = (p.2 + 1, 0 - p.1 - farI (c.fdiv 6)) := by show (p.2 + 1, (0 : Int) - (p.1 + farI (c.fdiv 6))) = _; rw [show (0 : Int) - (p.1 + farI (c.fdiv 6)) = 0 - p.1 - farI (c.fdiv 6) by omega]
    rw [e] at h
    exact h
  rw [if_neg e1, if_neg e2, if_neg e3, if_neg e4, if_neg e5] at h
  rw [decide_eq_false e5]
  try simp only [decide_true, decide_false, Bool.not_true, Bool.not_false, startD, Nat.reduceLeDiff, List.map_cons, List.map_nil, List.length_cons, List.length_nil, Nat.reduceAdd, Nat.reduceSub, List.replicate, List.cons_append, List.nil_append, List.append_nil, sSeq, sRet, sRetN, sAsg, sDrop, sIf, sNext, sBreak, sCont, dOp, dVar, dC, dTup, dLst, aCons, aNil, dCB, dCall, dTest, dNotT, dAndT, dOrT, dAnd, dOr, dNot, dNeg, gNameD, gTupD, gsOf, gsCons, gsNil, gSubD, dSl, oNone, oSome, endsF, DEnds.kx, List.getElem?_cons_zero, List.getElem?_cons_succ, List.set_cons_zero, List.set_cons_succ, onS_some, add_int, sub_int, iad_int, mul_int, div_int, mod_int, pow_int, ban_int, bor_int, bxr_int, shl_int, shr_int, le_int', gt_int', ge_int', lt_int', eq_int', ne_int', dix_c0, dix_c1, dix_t0, dix_t1, sq_c, sq_t, isi_int, isi_int_bool, isi_tup, isi_bool, DL.abs_int, is_non, isnot_non, true_and, and_true, dBM, wipeD, mti_append, mti_lpop, mti_clear, mti_reverse, mti_get, mti_dpop, mti_setdefault, j1_law_to]
  exact h
def sp_law_is_cell : DSp := fun ds M K _ => ∃ p : Cell, ds = [cD p] ∧ K (.bl true) M
def j1_law_is_cell : TSD := (sSeq (sRet (dAnd (dCall 1 sp_law_whole [] (aCons (dOp dIx (dVar 0) (dC (.int 0))) aNil)) (dCall 1 sp_law_whole [] (aCons (dOp dIx (dVar 0) (dC (.int 1))) aNil)))) sNext)
def t_law_is_cell : TSD := (sSeq (sIf (dOrT (dNotT (dTest (dCB isiD (aCons (dVar 0) (aCons (dC (.ty "tuple")) aNil))))) (dTest (dOp neD (dCB lenD (aCons (dVar 0) aNil)) (dC (.int 2))))) (sSeq (sRet (dC (.bl false))) sNext) sNext) j1_law_is_cell)
theorem p_law_is_cell (ds : List D) (M : Mem) (K : DK) (KX : DX) (h : sp_law_is_cell ds M K KX) : t_law_is_cell (endsF K KX) (startD ["_law_found"] ds) M := by
  obtain ⟨p, rfl, h⟩ := h
  try simp only [decide_true, decide_false, Bool.not_true, Bool.not_false, startD, Nat.reduceLeDiff, List.map_cons, List.map_nil, List.length_cons, List.length_nil, Nat.reduceAdd, Nat.reduceSub, List.replicate, List.cons_append, List.nil_append, List.append_nil, sSeq, sRet, sRetN, sAsg, sDrop, sIf, sNext, sBreak, sCont, dOp, dVar, dC, dTup, dLst, aCons, aNil, dCB, dCall, dTest, dNotT, dAndT, dOrT, dAnd, dOr, dNot, dNeg, gNameD, gTupD, gsOf, gsCons, gsNil, gSubD, dSl, oNone, oSome, endsF, DEnds.kx, List.getElem?_cons_zero, List.getElem?_cons_succ, List.set_cons_zero, List.set_cons_succ, onS_some, add_int, sub_int, iad_int, mul_int, div_int, mod_int, pow_int, ban_int, bor_int, bxr_int, shl_int, shr_int, le_int', gt_int', ge_int', lt_int', eq_int', ne_int', dix_c0, dix_c1, dix_t0, dix_t1, sq_c, sq_t, isi_int, isi_int_bool, isi_tup, isi_bool, DL.abs_int, is_non, isnot_non, true_and, and_true, dBM, wipeD, mti_append, mti_lpop, mti_clear, mti_reverse, mti_get, mti_dpop, mti_setdefault, t_law_is_cell, j1_law_is_cell]
  rw [show isiD [cD p, .ty "tuple"] M = fun K => K (.bl true) M from funext fun K => isi_tup]
  dsimp only
  rw [len_ls sq_c]
  try simp only [decide_true, decide_false, Bool.not_true, Bool.not_false, startD, Nat.reduceLeDiff, List.map_cons, List.map_nil, List.length_cons, List.length_nil, Nat.reduceAdd, Nat.reduceSub, List.replicate, List.cons_append, List.nil_append, List.append_nil, sSeq, sRet, sRetN, sAsg, sDrop, sIf, sNext, sBreak, sCont, dOp, dVar, dC, dTup, dLst, aCons, aNil, dCB, dCall, dTest, dNotT, dAndT, dOrT, dAnd, dOr, dNot, dNeg, gNameD, gTupD, gsOf, gsCons, gsNil, gSubD, dSl, oNone, oSome, endsF, DEnds.kx, List.getElem?_cons_zero, List.getElem?_cons_succ, List.set_cons_zero, List.set_cons_succ, onS_some, add_int, sub_int, iad_int, mul_int, div_int, mod_int, pow_int, ban_int, bor_int, bxr_int, shl_int, shr_int, le_int', gt_int', ge_int', lt_int', eq_int', ne_int', dix_c0, dix_c1, dix_t0, dix_t1, sq_c, sq_t, isi_int, isi_int_bool, isi_tup, isi_bool, DL.abs_int, is_non, isnot_non, true_and, and_true, dBM, wipeD, mti_append, mti_lpop, mti_clear, mti_reverse, mti_get, mti_dpop, mti_setdefault]
  exact ⟨p.1, rfl, p.2, rfl, h⟩
def NM : Nat := 64
end DL
namespace DL
open PySem PySem.Spec PyProof.Rows L2
def sp_law_there : DSp := fun ds M K _ => ∃ (a : Addr) (m : Mv) (p q : Cell), ds = [.ref a, cD p, cD q] ∧ MvAt M a m ∧ m.dep ≤ NM ∧ m.f p = q ∧ K (.bl true) M
def j1_law_there (n : Nat) : TSD := (sSeq (sAsg (dMC (mtN n "on_cell") "on_cell" (dVar 0) (aCons (dVar 1) aNil)) (gNameD 3)) (sSeq (sRet (dAnd (dCall 1 sp_law_is_cell [] (aCons (dVar 3) aNil)) (dOp eqD (dVar 3) (dVar 2)))) sNext))
def t_law_there (n : Nat) : TSD := (sSeq (sIf (dNotT (dTest (dIsC (iscN "Move") (dVar 0)))) (sSeq (sRet (dC (.bl false))) sNext) sNext) (j1_law_there n))
theorem p_law_there (ds : List D) (M : Mem) (K : DK) (KX : DX) (h : sp_law_there ds M K KX) : t_law_there NM (endsF K KX) (startD ["_law_move_here", "_law_spot", "_law_due", "_law_found"] ds) M := by
  obtain ⟨a, m, p, q, rfl, hm, hd, rfl, h⟩ := h
  try simp only [decide_true, decide_false, Bool.not_true, Bool.not_false, startD, Nat.reduceLeDiff, List.map_cons, List.map_nil, List.length_cons, List.length_nil, Nat.reduceAdd, Nat.reduceSub, List.replicate, List.cons_append, List.nil_append, List.append_nil, sSeq, sRet, sRetN, sAsg, sDrop, sIf, sNext, sBreak, sCont, dOp, dVar, dC, dTup, dLst, aCons, aNil, dCB, dCall, dTest, dNotT, dAndT, dOrT, dAnd, dOr, dNot, dNeg, gNameD, gTupD, gsOf, gsCons, gsNil, gSubD, dSl, oNone, oSome, endsF, DEnds.kx, List.getElem?_cons_zero, List.getElem?_cons_succ, List.set_cons_zero, List.set_cons_succ, onS_some, add_int, sub_int, iad_int, mul_int, div_int, mod_int, pow_int, ban_int, bor_int, bxr_int, shl_int, shr_int, le_int', gt_int', ge_int', lt_int', eq_int', ne_int', dix_c0, dix_c1, dix_t0, dix_t1, sq_c, sq_t, isi_int, isi_int_bool, isi_tup, isi_bool, DL.abs_int, is_non, isnot_non, true_and, and_true, dBM, wipeD, mti_append, mti_lpop, mti_clear, mti_reverse, mti_get, mti_dpop, mti_setdefault, t_law_there, dIsC]
  obtain ⟨fs, e, _⟩ := hm.insOf
  rw [e, onS_some]
  dsimp only
  have e2 : iscN "Move" m.cls = some true := by unfold iscN; rw [if_pos ⟨rfl, cls_in m⟩]
  rw [e2, onS_some]
  try simp only [decide_true, decide_false, Bool.not_true, Bool.not_false, startD, Nat.reduceLeDiff, List.map_cons, List.map_nil, List.length_cons, List.length_nil, Nat.reduceAdd, Nat.reduceSub, List.replicate, List.cons_append, List.nil_append, List.append_nil, sSeq, sRet, sRetN, sAsg, sDrop, sIf, sNext, sBreak, sCont, dOp, dVar, dC, dTup, dLst, aCons, aNil, dCB, dCall, dTest, dNotT, dAndT, dOrT, dAnd, dOr, dNot, dNeg, gNameD, gTupD, gsOf, gsCons, gsNil, gSubD, dSl, oNone, oSome, endsF, DEnds.kx, List.getElem?_cons_zero, List.getElem?_cons_succ, List.set_cons_zero, List.set_cons_succ, onS_some, add_int, sub_int, iad_int, mul_int, div_int, mod_int, pow_int, ban_int, bor_int, bxr_int, shl_int, shr_int, le_int', gt_int', ge_int', lt_int', eq_int', ne_int', dix_c0, dix_c1, dix_t0, dix_t1, sq_c, sq_t, isi_int, isi_int_bool, isi_tup, isi_bool, DL.abs_int, is_non, isnot_non, true_and, and_true, dBM, wipeD, mti_append, mti_lpop, mti_clear, mti_reverse, mti_get, mti_dpop, mti_setdefault, j1_law_there]
  refine mc_cell (a := a) (m := m) (p := p) (fun Q q => q) hm hd (fun Q q => q) ?_
  try simp only [decide_true, decide_false, Bool.not_true, Bool.not_false, startD, Nat.reduceLeDiff, List.map_cons, List.map_nil, List.length_cons, List.length_nil, Nat.reduceAdd, Nat.reduceSub, List.replicate, List.cons_append, List.nil_append, List.append_nil, sSeq, sRet, sRetN, sAsg, sDrop, sIf, sNext, sBreak, sCont, dOp, dVar, dC, dTup, dLst, aCons, aNil, dCB, dCall, dTest, dNotT, dAndT, dOrT, dAnd, dOr, dNot, dNeg, gNameD, gTupD, gsOf, gsCons, gsNil, gSubD, dSl, oNone, oSome, endsF, DEnds.kx, List.getElem?_cons_zero, List.getElem?_cons_succ, List.set_cons_zero, List.set_cons_succ, onS_some, add_int, sub_int, iad_int, mul_int, div_int, mod_int, pow_int, ban_int, bor_int, bxr_int, shl_int, shr_int, le_int', gt_int', ge_int', lt_int', eq_int', ne_int', dix_c0, dix_c1, dix_t0, dix_t1, sq_c, sq_t, isi_int, isi_int_bool, isi_tup, isi_bool, DL.abs_int, is_non, isnot_non, true_and, and_true, dBM, wipeD, mti_append, mti_lpop, mti_clear, mti_reverse, mti_get, mti_dpop, mti_setdefault]
  refine ⟨_, rfl, ?_⟩
  try simp only [decide_true, decide_false, Bool.not_true, Bool.not_false, startD, Nat.reduceLeDiff, List.map_cons, List.map_nil, List.length_cons, List.length_nil, Nat.reduceAdd, Nat.reduceSub, List.replicate, List.cons_append, List.nil_append, List.append_nil, sSeq, sRet, sRetN, sAsg, sDrop, sIf, sNext, sBreak, sCont, dOp, dVar, dC, dTup, dLst, aCons, aNil, dCB, dCall, dTest, dNotT, dAndT, dOrT, dAnd, dOr, dNot, dNeg, gNameD, gTupD, gsOf, gsCons, gsNil, gSubD, dSl, oNone, oSome, endsF, DEnds.kx, List.getElem?_cons_zero, List.getElem?_cons_succ, List.set_cons_zero, List.set_cons_succ, onS_some, add_int, sub_int, iad_int, mul_int, div_int, mod_int, pow_int, ban_int, bor_int, bxr_int, shl_int, shr_int, le_int', gt_int', ge_int', lt_int', eq_int', ne_int', dix_c0, dix_c1, dix_t0, dix_t1, sq_c, sq_t, isi_int, isi_int_bool, isi_tup, isi_bool, DL.abs_int, is_non, isnot_non, true_and, and_true, dBM, wipeD, mti_append, mti_lpop, mti_clear, mti_reverse, mti_get, mti_dpop, mti_setdefault]
  rw [eq_ok (okE_cD _) (okE_cD _), decide_eq_true rfl]
  exact h
def sp_law_back : DSp := fun ds M K _ => ∃ (a : Addr) (m : Mv) (p q : Cell), ds = [.ref a, cD p, cD q] ∧ MvAt M a m ∧ m.dep ≤ NM ∧ m.f p = q ∧ ∀ M', Le M M' → K (.bl true) M'
def j1_law_back (n : Nat) : TSD := (sSeq (sRet (dAnd (dOp eqD (dMC (mtN n "on_cell") "on_cell" (dVar 0) (aCons (dMC (mtN n "on_cell") "on_cell" (dVar 3) (aCons (dVar 1) aNil)) aNil)) (dVar 1)) (dOp eqD (dMC (mtN n "on_cell") "on_cell" (dVar 3) (aCons (dMC (mtN n "on_cell") "on_cell" (dVar 0) (aCons (dVar 2) aNil)) aNil)) (dVar 2)))) sNext)
def t_law_back (n : Nat) : TSD := (sSeq (sAsg (dMC (mtN n "back") "back" (dVar 0) aNil) (gNameD 3)) (sSeq (sIf (dOrT (dNotT (dTest (dCall 3 sp_law_there [] (aCons (dVar 3) (aCons (dVar 2) (aCons (dVar 1) aNil)))))) (dNotT (dTest (dCall 3 sp_law_there [] (aCons (dMC (mtN n "back") "back" (dVar 3) aNil) (aCons (dVar 1) (aCons (dVar 2) aNil))))))) (sSeq (sRet (dC (.bl false))) sNext) sNext) (j1_law_back n)))
theorem p_law_back (ds : List D) (M : Mem) (K : DK) (KX : DX) (h : sp_law_back ds M K KX) : t_law_back NM (endsF K KX) (startD ["_law_move_here", "_law_spot", "_law_due", "_law_back_here"] ds) M := by
  obtain ⟨a, m, p, q, rfl, hm, hd, rfl, h⟩ := h
  try simp only [decide_true, decide_false, Bool.not_true, Bool.not_false, startD, Nat.reduceLeDiff, List.map_cons, List.map_nil, List.length_cons, List.length_nil, Nat.reduceAdd, Nat.reduceSub, List.replicate, List.cons_append, List.nil_append, List.append_nil, sSeq, sRet, sRetN, sAsg, sDrop, sIf, sNext, sBreak, sCont, dOp, dVar, dC, dTup, dLst, aCons, aNil, dCB, dCall, dTest, dNotT, dAndT, dOrT, dAnd, dOr, dNot, dNeg, gNameD, gTupD, gsOf, gsCons, gsNil, gSubD, dSl, oNone, oSome, endsF, DEnds.kx, List.getElem?_cons_zero, List.getElem?_cons_succ, List.set_cons_zero, List.set_cons_succ, onS_some, add_int, sub_int, iad_int, mul_int, div_int, mod_int, pow_int, ban_int, bor_int, bxr_int, shl_int, shr_int, le_int', gt_int', ge_int', lt_int', eq_int', ne_int', dix_c0, dix_c1, dix_t0, dix_t1, sq_c, sq_t, isi_int, isi_int_bool, isi_tup, isi_bool, DL.abs_int, is_non, isnot_non, true_and, and_true, dBM, wipeD, mti_append, mti_lpop, mti_clear, mti_reverse, mti_get, mti_dpop, mti_setdefault, t_law_back]
  refine mc_back (a := a) (m := m) (fun Q q => q) hm hd fun M1 b le1 hb => ?_
  try simp only [decide_true, decide_false, Bool.not_true, Bool.not_false, startD, Nat.reduceLeDiff, List.map_cons, List.map_nil, List.length_cons, List.length_nil, Nat.reduceAdd, Nat.reduceSub, List.replicate, List.cons_append, List.nil_append, List.append_nil, sSeq, sRet, sRetN, sAsg, sDrop, sIf, sNext, sBreak, sCont, dOp, dVar, dC, dTup, dLst, aCons, aNil, dCB, dCall, dTest, dNotT, dAndT, dOrT, dAnd, dOr, dNot, dNeg, gNameD, gTupD, gsOf, gsCons, gsNil, gSubD, dSl, oNone, oSome, endsF, DEnds.kx, List.getElem?_cons_zero, List.getElem?_cons_succ, List.set_cons_zero, List.set_cons_succ, onS_some, add_int, sub_int, iad_int, mul_int, div_int, mod_int, pow_int, ban_int, bor_int, bxr_int, shl_int, shr_int, le_int', gt_int', ge_int', lt_int', eq_int', ne_int', dix_c0, dix_c1, dix_t0, dix_t1, sq_c, sq_t, isi_int, isi_int_bool, isi_tup, isi_bool, DL.abs_int, is_non, isnot_non, true_and, and_true, dBM, wipeD, mti_append, mti_lpop, mti_clear, mti_reverse, mti_get, mti_dpop, mti_setdefault]
  have hdb : m.back.dep ≤ NM := by rw [m.back_dep]; exact hd
  refine ⟨b, m.back, m.f p, p, rfl, hb, hdb, m.back_f p, ?_⟩
  try simp only [decide_true, decide_false, Bool.not_true, Bool.not_false, startD, Nat.reduceLeDiff, List.map_cons, List.map_nil, List.length_cons, List.length_nil, Nat.reduceAdd, Nat.reduceSub, List.replicate, List.cons_append, List.nil_append, List.append_nil, sSeq, sRet, sRetN, sAsg, sDrop, sIf, sNext, sBreak, sCont, dOp, dVar, dC, dTup, dLst, aCons, aNil, dCB, dCall, dTest, dNotT, dAndT, dOrT, dAnd, dOr, dNot, dNeg, gNameD, gTupD, gsOf, gsCons, gsNil, gSubD, dSl, oNone, oSome, endsF, DEnds.kx, List.getElem?_cons_zero, List.getElem?_cons_succ, List.set_cons_zero, List.set_cons_succ, onS_some, add_int, sub_int, iad_int, mul_int, div_int, mod_int, pow_int, ban_int, bor_int, bxr_int, shl_int, shr_int, le_int', gt_int', ge_int', lt_int', eq_int', ne_int', dix_c0, dix_c1, dix_t0, dix_t1, sq_c, sq_t, isi_int, isi_int_bool, isi_tup, isi_bool, DL.abs_int, is_non, isnot_non, true_and, and_true, dBM, wipeD, mti_append, mti_lpop, mti_clear, mti_reverse, mti_get, mti_dpop, mti_setdefault]
  refine mc_back (a := b) (m := m.back) (fun Q q => q) hb hdb fun M2 c le2 hc => ?_
  try simp only [decide_true, decide_false, Bool.not_true, Bool.not_false, startD, Nat.reduceLeDiff, List.map_cons, List.map_nil, List.length_cons, List.length_nil, Nat.reduceAdd, Nat.reduceSub, List.replicate, List.cons_append, List.nil_append, List.append_nil, sSeq, sRet, sRetN, sAsg, sDrop, sIf, sNext, sBreak, sCont, dOp, dVar, dC, dTup, dLst, aCons, aNil, dCB, dCall, dTest, dNotT, dAndT, dOrT, dAnd, dOr, dNot, dNeg, gNameD, gTupD, gsOf, gsCons, gsNil, gSubD, dSl, oNone, oSome, endsF, DEnds.kx, List.getElem?_cons_zero, List.getElem?_cons_succ, List.set_cons_zero, List.set_cons_succ, onS_some, add_int, sub_int, iad_int, mul_int, div_int, mod_int, pow_int, ban_int, bor_int, bxr_int, shl_int, shr_int, le_int', gt_int', ge_int', lt_int', eq_int', ne_int', dix_c0, dix_c1, dix_t0, dix_t1, sq_c, sq_t, isi_int, isi_int_bool, isi_tup, isi_bool, DL.abs_int, is_non, isnot_non, true_and, and_true, dBM, wipeD, mti_append, mti_lpop, mti_clear, mti_reverse, mti_get, mti_dpop, mti_setdefault]
  rw [m.back_back] at hc
  refine ⟨c, m, p, m.f p, rfl, hc, hd, rfl, ?_⟩
  try simp only [decide_true, decide_false, Bool.not_true, Bool.not_false, startD, Nat.reduceLeDiff, List.map_cons, List.map_nil, List.length_cons, List.length_nil, Nat.reduceAdd, Nat.reduceSub, List.replicate, List.cons_append, List.nil_append, List.append_nil, sSeq, sRet, sRetN, sAsg, sDrop, sIf, sNext, sBreak, sCont, dOp, dVar, dC, dTup, dLst, aCons, aNil, dCB, dCall, dTest, dNotT, dAndT, dOrT, dAnd, dOr, dNot, dNeg, gNameD, gTupD, gsOf, gsCons, gsNil, gSubD, dSl, oNone, oSome, endsF, DEnds.kx, List.getElem?_cons_zero, List.getElem?_cons_succ, List.set_cons_zero, List.set_cons_succ, onS_some, add_int, sub_int, iad_int, mul_int, div_int, mod_int, pow_int, ban_int, bor_int, bxr_int, shl_int, shr_int, le_int', gt_int', ge_int', lt_int', eq_int', ne_int', dix_c0, dix_c1, dix_t0, dix_t1, sq_c, sq_t, isi_int, isi_int_bool, isi_tup, isi_bool, DL.abs_int, is_non, isnot_non, true_and, and_true, dBM, wipeD, mti_append, mti_lpop, mti_clear, mti_reverse, mti_get, mti_dpop, mti_setdefault, j1_law_back]
  have hm2 := hm.le (le1.trans le2)
  have hb2 := hb.le le2
  refine mc_cell (a := a) (m := m) (p := m.back.f p) (fun Q q => q) hm2 hd (fun Q q => mc_cell (a := b) (m := m.back) (p := p) (fun Q q => q) hb2 hdb (fun Q q => q) q) ?_
  rw [m.f_back, eq_ok (okE_cD _) (okE_cD _), decide_eq_true rfl]
  try simp only [decide_true, decide_false, Bool.not_true, Bool.not_false, startD, Nat.reduceLeDiff, List.map_cons, List.map_nil, List.length_cons, List.length_nil, Nat.reduceAdd, Nat.reduceSub, List.replicate, List.cons_append, List.nil_append, List.append_nil, sSeq, sRet, sRetN, sAsg, sDrop, sIf, sNext, sBreak, sCont, dOp, dVar, dC, dTup, dLst, aCons, aNil, dCB, dCall, dTest, dNotT, dAndT, dOrT, dAnd, dOr, dNot, dNeg, gNameD, gTupD, gsOf, gsCons, gsNil, gSubD, dSl, oNone, oSome, endsF, DEnds.kx, List.getElem?_cons_zero, List.getElem?_cons_succ, List.set_cons_zero, List.set_cons_succ, onS_some, add_int, sub_int, iad_int, mul_int, div_int, mod_int, pow_int, ban_int, bor_int, bxr_int, shl_int, shr_int, le_int', gt_int', ge_int', lt_int', eq_int', ne_int', dix_c0, dix_c1, dix_t0, dix_t1, sq_c, sq_t, isi_int, isi_int_bool, isi_tup, isi_bool, DL.abs_int, is_non, isnot_non, true_and, and_true, dBM, wipeD, mti_append, mti_lpop, mti_clear, mti_reverse, mti_get, mti_dpop, mti_setdefault]
  refine mc_cell (a := b) (m := m.back) (p := m.f (m.f p)) (fun Q q => q) hb2 hdb (fun Q q => mc_cell (a := a) (m := m) (p := m.f p) (fun Q q => q) hm2 hd (fun Q q => q) q) ?_
  rw [m.back_f, eq_ok (okE_cD _) (okE_cD _), decide_eq_true rfl]
  exact h _ (le1.trans le2)
def toAll (cs : List Int) (p : Cell) : Cell := cs.foldl (fun p c => (mvOf c).f p) p
theorem toAll_append (xs ys : List Int) (p : Cell) : toAll (xs ++ ys) p = toAll ys (toAll xs p) := List.foldl_append ..
theorem toAll_one (c : Int) (p : Cell) : toAll [c] p = (mvOf c).f p := rfl
def sp_law_chained : DSp := fun ds M K _ => ∃ (x : Addr) (ns : List Int) (p : Cell), ds = [.ref x, cD p] ∧ lsOf M (.ref x) = some (ns.map .int) ∧ 0 < ns.length ∧ ns.length ≤ 20 ∧ ∀ M', Le M M' → K (.bl true) M'
def j1_law_chained : TSD := (sSeq (sRet (dCall 3 sp_law_there [] (aCons (dVar 2) (aCons (dVar 1) (aCons (dVar 6) aNil))))) sNext)
def j2_law_chained : TSD := (sSeq (sIf (dOrT (dNotT (dTest (dCall 3 sp_law_there [] (aCons (dVar 2) (aCons (dVar 1) (aCons (dVar 6) aNil)))))) (dNotT (dTest (dCall 3 sp_law_back [] (aCons (dVar 2) (aCons (dVar 1) (aCons (dVar 6) aNil))))))) (sSeq (sRet (dC (.bl false))) sNext) sNext) j1_law_chained)
def j3_law_chained : TSD := (sSeq (sAsg (dVar 1) (gNameD 6)) (sSeq (sFor (iVal (dVar 3)) (gNameD 4) (sSeq (sAsg (dCall 2 sp_law_to [] (aCons (dVar 4) (aCons (dVar 6) aNil))) (gNameD 6)) sNext)) j2_law_chained))
def t_law_chained : TSD := (sSeq (sAsg (dCall 1 sp_law_move [] (aCons (dOp dIx (dVar 0) (dC (.int 0))) aNil)) (gNameD 2)) (sSeq (sAsg (dLst (aCons (dOp dIx (dVar 0) (dC (.int 0))) aNil)) (gNameD 3)) (sSeq (sFor (iVal (dSl (dVar 0) (oSome (dC (.int 1))) oNone)) (gNameD 4) (sSeq (sAsg (dCall 1 sp_law_move [] (aCons (dVar 4) aNil)) (gNameD 5)) (sSeq (sIf (dTest (dOp eqD (dOp modD (dOp fdvD (dVar 4) (dC (.int 7))) (dC (.int 2))) (dC (.int 0)))) (sSeq (sAsg (dMk "Chain" 3 sp_Chain___init__ (aCons (dVar 2) (aCons (dVar 5) aNil))) (gNameD 2)) (sSeq (sAsg (dOp addD (dVar 3) (dLst (aCons (dVar 4) aNil))) (gNameD 3)) sNext)) (sSeq (sAsg (dMk "Chain" 3 sp_Chain___init__ (aCons (dVar 5) (aCons (dVar 2) aNil))) (gNameD 2)) (sSeq (sAsg (dOp addD (dLst (aCons (dVar 4) aNil)) (dVar 3)) (gNameD 3)) sNext))) sNext))) j3_law_chained)))
theorem p_law_chained (ds : List D) (M : Mem) (K : DK) (KX : DX) (h : sp_law_chained ds M K KX) : t_law_chained (endsF K KX) (startD ["_law_cells", "_law_spot", "_law_chain", "_law_order", "_law_cell", "_law_one", "_law_due"] ds) M := by
  obtain ⟨x, ns, p, rfl, hx, h0, hl, h⟩ := h
  cases ns with
  | nil => exact absurd h0 (by decide)
  | cons n ns =>
  try simp only [decide_true, decide_false, Bool.not_true, Bool.not_false, startD, Nat.reduceLeDiff, List.map_cons, List.map_nil, List.length_cons, List.length_nil, Nat.reduceAdd, Nat.reduceSub, List.replicate, List.cons_append, List.nil_append, List.append_nil, sSeq, sRet, sRetN, sAsg, sDrop, sIf, sNext, sBreak, sCont, dOp, dVar, dC, dTup, dLst, aCons, aNil, dCB, dCall, dTest, dNotT, dAndT, dOrT, dAnd, dOr, dNot, dNeg, gNameD, gTupD, gsOf, gsCons, gsNil, gSubD, dSl, oNone, oSome, endsF, DEnds.kx, List.getElem?_cons_zero, List.getElem?_cons_succ, List.set_cons_zero, List.set_cons_succ, onS_some, add_int, sub_int, iad_int, mul_int, div_int, mod_int, pow_int, ban_int, bor_int, bxr_int, shl_int, shr_int, le_int', gt_int', ge_int', lt_int', eq_int', ne_int', dix_c0, dix_c1, dix_t0, dix_t1, sq_c, sq_t, isi_int, isi_int_bool, isi_tup, isi_bool, DL.abs_int, is_non, isnot_non, true_and, and_true, dBM, wipeD, mti_append, mti_lpop, mti_clear, mti_reverse, mti_get, mti_dpop, mti_setdefault, t_law_chained]
  rw [dix_0 hx rfl]
  refine ⟨n, rfl, fun M1 a le1 ha => ?_⟩
  try simp only [decide_true, decide_false, Bool.not_true, Bool.not_false, startD, Nat.reduceLeDiff, List.map_cons, List.map_nil, List.length_cons, List.length_nil, Nat.reduceAdd, Nat.reduceSub, List.replicate, List.cons_append, List.nil_append, List.append_nil, sSeq, sRet, sRetN, sAsg, sDrop, sIf, sNext, sBreak, sCont, dOp, dVar, dC, dTup, dLst, aCons, aNil, dCB, dCall, dTest, dNotT, dAndT, dOrT, dAnd, dOr, dNot, dNeg, gNameD, gTupD, gsOf, gsCons, gsNil, gSubD, dSl, oNone, oSome, endsF, DEnds.kx, List.getElem?_cons_zero, List.getElem?_cons_succ, List.set_cons_zero, List.set_cons_succ, onS_some, add_int, sub_int, iad_int, mul_int, div_int, mod_int, pow_int, ban_int, bor_int, bxr_int, shl_int, shr_int, le_int', gt_int', ge_int', lt_int', eq_int', ne_int', dix_c0, dix_c1, dix_t0, dix_t1, sq_c, sq_t, isi_int, isi_int_bool, isi_tup, isi_bool, DL.abs_int, is_non, isnot_non, true_and, and_true, dBM, wipeD, mti_append, mti_lpop, mti_clear, mti_reverse, mti_get, mti_dpop, mti_setdefault]
  have hx1 := ls_le le1 hx
  rw [dix_0 hx1 rfl]
  intro o ho
  have le2 := le_up (o := .lst [D.int n]) ho
  try simp only [decide_true, decide_false, Bool.not_true, Bool.not_false, startD, Nat.reduceLeDiff, List.map_cons, List.map_nil, List.length_cons, List.length_nil, Nat.reduceAdd, Nat.reduceSub, List.replicate, List.cons_append, List.nil_append, List.append_nil, sSeq, sRet, sRetN, sAsg, sDrop, sIf, sNext, sBreak, sCont, dOp, dVar, dC, dTup, dLst, aCons, aNil, dCB, dCall, dTest, dNotT, dAndT, dOrT, dAnd, dOr, dNot, dNeg, gNameD, gTupD, gsOf, gsCons, gsNil, gSubD, dSl, oNone, oSome, endsF, DEnds.kx, List.getElem?_cons_zero, List.getElem?_cons_succ, List.set_cons_zero, List.set_cons_succ, onS_some, add_int, sub_int, iad_int, mul_int, div_int, mod_int, pow_int, ban_int, bor_int, bxr_int, shl_int, shr_int, le_int', gt_int', ge_int', lt_int', eq_int', ne_int', dix_c0, dix_c1, dix_t0, dix_t1, sq_c, sq_t, isi_int, isi_int_bool, isi_tup, isi_bool, DL.abs_int, is_non, isnot_non, true_and, and_true, dBM, wipeD, mti_append, mti_lpop, mti_clear, mti_reverse, mti_get, mti_dpop, mti_setdefault, sFor]
  rw [ival_te]
  try simp only [decide_true, decide_false, Bool.not_true, Bool.not_false, startD, Nat.reduceLeDiff, List.map_cons, List.map_nil, List.length_cons, List.length_nil, Nat.reduceAdd, Nat.reduceSub, List.replicate, List.cons_append, List.nil_append, List.append_nil, sSeq, sRet, sRetN, sAsg, sDrop, sIf, sNext, sBreak, sCont, dOp, dVar, dC, dTup, dLst, aCons, aNil, dCB, dCall, dTest, dNotT, dAndT, dOrT, dAnd, dOr, dNot, dNeg, gNameD, gTupD, gsOf, gsCons, gsNil, gSubD, dSl, oNone, oSome, endsF, DEnds.kx, List.getElem?_cons_zero, List.getElem?_cons_succ, List.set_cons_zero, List.set_cons_succ, onS_some, add_int, sub_int, iad_int, mul_int, div_int, mod_int, pow_int, ban_int, bor_int, bxr_int, shl_int, shr_int, le_int', gt_int', ge_int', lt_int', eq_int', ne_int', dix_c0, dix_c1, dix_t0, dix_t1, sq_c, sq_t, isi_int, isi_int_bool, isi_tup, isi_bool, DL.abs_int, is_non, isnot_non, true_and, and_true, dBM, wipeD, mti_append, mti_lpop, mti_clear, mti_reverse, mti_get, mti_dpop, mti_setdefault]
  have hx2 := ls_le le2 hx1
  rw [sl_ls hx2]
  intro v hv
  have le3 := le_up (o := .lst (cutL ((n :: ns).map D.int) (some 1) none)) hv
  have ev : cutL ((n :: ns).map D.int) (some 1) none = ns.map D.int := by rw [cut1]; rfl
  rw [ev] at le3 ⊢
  rw [it_ls ls_up]
  have hO : ∀ (o : Addr) (os : List Int) (M : Mem), M o = some (.lst (os.map D.int)) → lsOf M (.ref o) = some (os.map D.int) := fun _ _ _ e => ls_of e
  have hl' : ns.length ≤ 19 := by simp only [List.length_cons] at hl; omega
  have lv : lsOf (up (up M1 o (.lst [D.int n])) v (.lst (ns.map D.int))) (.ref v) = some (ns.map D.int) := ls_up
  have base : Le M (up (up M1 o (.lst [D.int n])) v (.lst (ns.map D.int))) := (le1.trans le2).trans le3
  have ha0 : MvAt (up (up M1 o (.lst [D.int n])) v (.lst (ns.map D.int))) a (mvOf n) := (ha.le le2).le le3
  have ho0 : lsOf (up (up M1 o (.lst [D.int n])) v (.lst (ns.map D.int))) (.ref o) = some ([n].map D.int) := ls_le le3 ls_up
  generalize up (up M1 o (.lst [D.int n])) v (.lst (ns.map D.int)) = M3 at *
  refine for_inv (e := D.int) (fun todo σ M' => ∃ (b o' : Addr) (m : Mv) (os : List Int) (x4 x5 : Option D), σ = [some (.ref x), some (cD p), some (.ref b), some (.ref o'), x4, x5, none] ∧ Le M3 M' ∧ MvAt M' b m ∧ max m.dep 2 + todo.length ≤ 2 + ns.length ∧ os.length + todo.length ≤ 1 + ns.length ∧ (∀ p, m.f p = toAll os p) ∧ lsOf M' (.ref o') = some (os.map D.int)) ?_ ?_ ns _ _
    ⟨a, o, mvOf n, [n], none, none, rfl, Le.refl, ha0, by have := mvOf_dep n; omega, by simp only [List.length_cons, List.length_nil]; omega, fun _ => rfl, ho0⟩
  · rintro c todo σ M' ⟨b, o', m, os, x4, x5, rfl, le, hb, hdp, hln, hf, hos⟩ N hN
    refine ⟨ls_le le lv, ?_⟩
    try simp only [decide_true, decide_false, Bool.not_true, Bool.not_false, startD, Nat.reduceLeDiff, List.map_cons, List.map_nil, List.length_cons, List.length_nil, Nat.reduceAdd, Nat.reduceSub, List.replicate, List.cons_append, List.nil_append, List.append_nil, sSeq, sRet, sRetN, sAsg, sDrop, sIf, sNext, sBreak, sCont, dOp, dVar, dC, dTup, dLst, aCons, aNil, dCB, dCall, dTest, dNotT, dAndT, dOrT, dAnd, dOr, dNot, dNeg, gNameD, gTupD, gsOf, gsCons, gsNil, gSubD, dSl, oNone, oSome, endsF, DEnds.kx, List.getElem?_cons_zero, List.getElem?_cons_succ, List.set_cons_zero, List.set_cons_succ, onS_some, add_int, sub_int, iad_int, mul_int, div_int, mod_int, pow_int, ban_int, bor_int, bxr_int, shl_int, shr_int, le_int', gt_int', ge_int', lt_int', eq_int', ne_int', dix_c0, dix_c1, dix_t0, dix_t1, sq_c, sq_t, isi_int, isi_int_bool, isi_tup, isi_bool, DL.abs_int, is_non, isnot_non, true_and, and_true, dBM, wipeD, mti_append, mti_lpop, mti_clear, mti_reverse, mti_get, mti_dpop, mti_setdefault]
    refine ⟨c, rfl, fun M4 e le4 he => ?_⟩
    try simp only [decide_true, decide_false, Bool.not_true, Bool.not_false, startD, Nat.reduceLeDiff, List.map_cons, List.map_nil, List.length_cons, List.length_nil, Nat.reduceAdd, Nat.reduceSub, List.replicate, List.cons_append, List.nil_append, List.append_nil, sSeq, sRet, sRetN, sAsg, sDrop, sIf, sNext, sBreak, sCont, dOp, dVar, dC, dTup, dLst, aCons, aNil, dCB, dCall, dTest, dNotT, dAndT, dOrT, dAnd, dOr, dNot, dNeg, gNameD, gTupD, gsOf, gsCons, gsNil, gSubD, dSl, oNone, oSome, endsF, DEnds.kx, List.getElem?_cons_zero, List.getElem?_cons_succ, List.set_cons_zero, List.set_cons_succ, onS_some, add_int, sub_int, iad_int, mul_int, div_int, mod_int, pow_int, ban_int, bor_int, bxr_int, shl_int, shr_int, le_int', gt_int', ge_int', lt_int', eq_int', ne_int', dix_c0, dix_c1, dix_t0, dix_t1, sq_c, sq_t, isi_int, isi_int_bool, isi_tup, isi_bool, DL.abs_int, is_non, isnot_non, true_and, and_true, dBM, wipeD, mti_append, mti_lpop, mti_clear, mti_reverse, mti_get, mti_dpop, mti_setdefault]
    refine ⟨⟨by decide, by decide⟩, by decide, ?_⟩
    have hb4 := hb.le le4
    have hos4 := ls_le le4 hos
    have hdc := mvOf_dep c
    simp only [List.length_cons] at hdp hln
    have hdpos := m.dep_pos
    by_cases q : (c.fdiv 7).fmod 2 = 0
    · rw [decide_eq_true q]
      try simp only [decide_true, decide_false, Bool.not_true, Bool.not_false, startD, Nat.reduceLeDiff, List.map_cons, List.map_nil, List.length_cons, List.length_nil, Nat.reduceAdd, Nat.reduceSub, List.replicate, List.cons_append, List.nil_append, List.append_nil, sSeq, sRet, sRetN, sAsg, sDrop, sIf, sNext, sBreak, sCont, dOp, dVar, dC, dTup, dLst, aCons, aNil, dCB, dCall, dTest, dNotT, dAndT, dOrT, dAnd, dOr, dNot, dNeg, gNameD, gTupD, gsOf, gsCons, gsNil, gSubD, dSl, oNone, oSome, endsF, DEnds.kx, List.getElem?_cons_zero, List.getElem?_cons_succ, List.set_cons_zero, List.set_cons_succ, onS_some, add_int, sub_int, iad_int, mul_int, div_int, mod_int, pow_int, ban_int, bor_int, bxr_int, shl_int, shr_int, le_int', gt_int', ge_int', lt_int', eq_int', ne_int', dix_c0, dix_c1, dix_t0, dix_t1, sq_c, sq_t, isi_int, isi_int_bool, isi_tup, isi_bool, DL.abs_int, is_non, isnot_non, true_and, and_true, dBM, wipeD, mti_append, mti_lpop, mti_clear, mti_reverse, mti_get, mti_dpop, mti_setdefault]
      refine mk_chain (M1 := M4) (fun Q q => q) Le.refl hb4 he fun z M5 le5 hz => ?_
      try simp only [decide_true, decide_false, Bool.not_true, Bool.not_false, startD, Nat.reduceLeDiff, List.map_cons, List.map_nil, List.length_cons, List.length_nil, Nat.reduceAdd, Nat.reduceSub, List.replicate, List.cons_append, List.nil_append, List.append_nil, sSeq, sRet, sRetN, sAsg, sDrop, sIf, sNext, sBreak, sCont, dOp, dVar, dC, dTup, dLst, aCons, aNil, dCB, dCall, dTest, dNotT, dAndT, dOrT, dAnd, dOr, dNot, dNeg, gNameD, gTupD, gsOf, gsCons, gsNil, gSubD, dSl, oNone, oSome, endsF, DEnds.kx, List.getElem?_cons_zero, List.getElem?_cons_succ, List.set_cons_zero, List.set_cons_succ, onS_some, add_int, sub_int, iad_int, mul_int, div_int, mod_int, pow_int, ban_int, bor_int, bxr_int, shl_int, shr_int, le_int', gt_int', ge_int', lt_int', eq_int', ne_int', dix_c0, dix_c1, dix_t0, dix_t1, sq_c, sq_t, isi_int, isi_int_bool, isi_tup, isi_bool, DL.abs_int, is_non, isnot_non, true_and, and_true, dBM, wipeD, mti_append, mti_lpop, mti_clear, mti_reverse, mti_get, mti_dpop, mti_setdefault]
      intro u hu
      have leu := le_up (o := .lst [D.int c]) hu
      rw [cat_ls (ls_le (le5.trans leu) hos4) ls_up]
      refine ⟨by rw [List.length_map]; show os.length + 1 ≤ big; unfold big; omega, ?_⟩
      intro w hw
      refine hN _ _ ⟨z, w, .chain m (mvOf c), os ++ [c], _, _, rfl, ((le.trans le4).trans (le5.trans leu)).new hw, (hz.le leu).le (le_up hw), ?_, by rw [List.length_append]; simp only [List.length_cons, List.length_nil]; omega, fun p => ?_, by rw [ls_up, List.map_append]; rfl⟩
      · show max (max m.dep (mvOf c).dep + 1) 2 + todo.length ≤ _
        omega
      · rw [toAll_append, toAll_one, ← hf]; rfl
    · rw [decide_eq_false q]
      try simp only [decide_true, decide_false, Bool.not_true, Bool.not_false, startD, Nat.reduceLeDiff, List.map_cons, List.map_nil, List.length_cons, List.length_nil, Nat.reduceAdd, Nat.reduceSub, List.replicate, List.cons_append, List.nil_append, List.append_nil, sSeq, sRet, sRetN, sAsg, sDrop, sIf, sNext, sBreak, sCont, dOp, dVar, dC, dTup, dLst, aCons, aNil, dCB, dCall, dTest, dNotT, dAndT, dOrT, dAnd, dOr, dNot, dNeg, gNameD, gTupD, gsOf, gsCons, gsNil, gSubD, dSl, oNone, oSome, endsF, DEnds.kx, List.getElem?_cons_zero, List.getElem?_cons_succ, List.set_cons_zero, List.set_cons_succ, onS_some, add_int, sub_int, iad_int, mul_int, div_int, mod_int, pow_int, ban_int, bor_int, bxr_int, shl_int, shr_int, le_int', gt_int', ge_int', lt_int', eq_int', ne_int', dix_c0, dix_c1, dix_t0, dix_t1, sq_c, sq_t, isi_int, isi_int_bool, isi_tup, isi_bool, DL.abs_int, is_non, isnot_non, true_and, and_true, dBM, wipeD, mti_append, mti_lpop, mti_clear, mti_reverse, mti_get, mti_dpop, mti_setdefault]
      refine mk_chain (M1 := M4) (fun Q q => q) Le.refl he hb4 fun z M5 le5 hz => ?_
      try simp only [decide_true, decide_false, Bool.not_true, Bool.not_false, startD, Nat.reduceLeDiff, List.map_cons, List.map_nil, List.length_cons, List.length_nil, Nat.reduceAdd, Nat.reduceSub, List.replicate, List.cons_append, List.nil_append, List.append_nil, sSeq, sRet, sRetN, sAsg, sDrop, sIf, sNext, sBreak, sCont, dOp, dVar, dC, dTup, dLst, aCons, aNil, dCB, dCall, dTest, dNotT, dAndT, dOrT, dAnd, dOr, dNot, dNeg, gNameD, gTupD, gsOf, gsCons, gsNil, gSubD, dSl, oNone, oSome, endsF, DEnds.kx, List.getElem?_cons_zero, List.getElem?_cons_succ, List.set_cons_zero, List.set_cons_succ, onS_some, add_int, sub_int, iad_int, mul_int, div_int, mod_int, pow_int, ban_int, bor_int, bxr_int, shl_int, shr_int, le_int', gt_int', ge_int', lt_int', eq_int', ne_int', dix_c0, dix_c1, dix_t0, dix_t1, sq_c, sq_t, isi_int, isi_int_bool, isi_tup, isi_bool, DL.abs_int, is_non, isnot_non, true_and, and_true, dBM, wipeD, mti_append, mti_lpop, mti_clear, mti_reverse, mti_get, mti_dpop, mti_setdefault]
      intro u hu
      have leu := le_up (o := .lst [D.int c]) hu
      rw [cat_ls ls_up (ls_le (le5.trans leu) hos4)]
      refine ⟨by rw [List.length_map]; show 1 + os.length ≤ big; unfold big; omega, ?_⟩
      intro w hw
      refine hN _ _ ⟨z, w, .chain (mvOf c) m, [c] ++ os, _, _, rfl, ((le.trans le4).trans (le5.trans leu)).new hw, (hz.le leu).le (le_up hw), ?_, by rw [List.length_append]; simp only [List.length_cons, List.length_nil]; omega, fun p => ?_, by rw [ls_up, List.map_append]; rfl⟩
      · show max (max (mvOf c).dep m.dep + 1) 2 + todo.length ≤ _
        omega
      · rw [toAll_append, toAll_one, ← hf]; rfl
  · rintro σ M' ⟨b, o', m, os, x4, x5, rfl, le, hb, hdp, hln, hf, hos⟩
    refine ⟨ls_le le lv, ?_⟩
    try simp only [decide_true, decide_false, Bool.not_true, Bool.not_false, startD, Nat.reduceLeDiff, List.map_cons, List.map_nil, List.length_cons, List.length_nil, Nat.reduceAdd, Nat.reduceSub, List.replicate, List.cons_append, List.nil_append, List.append_nil, sSeq, sRet, sRetN, sAsg, sDrop, sIf, sNext, sBreak, sCont, dOp, dVar, dC, dTup, dLst, aCons, aNil, dCB, dCall, dTest, dNotT, dAndT, dOrT, dAnd, dOr, dNot, dNeg, gNameD, gTupD, gsOf, gsCons, gsNil, gSubD, dSl, oNone, oSome, endsF, DEnds.kx, List.getElem?_cons_zero, List.getElem?_cons_succ, List.set_cons_zero, List.set_cons_succ, onS_some, add_int, sub_int, iad_int, mul_int, div_int, mod_int, pow_int, ban_int, bor_int, bxr_int, shl_int, shr_int, le_int', gt_int', ge_int', lt_int', eq_int', ne_int', dix_c0, dix_c1, dix_t0, dix_t1, sq_c, sq_t, isi_int, isi_int_bool, isi_tup, isi_bool, DL.abs_int, is_non, isnot_non, true_and, and_true, dBM, wipeD, mti_append, mti_lpop, mti_clear, mti_reverse, mti_get, mti_dpop, mti_setdefault, j3_law_chained, sFor]
    rw [ival_te]
    try simp only [decide_true, decide_false, Bool.not_true, Bool.not_false, startD, Nat.reduceLeDiff, List.map_cons, List.map_nil, List.length_cons, List.length_nil, Nat.reduceAdd, Nat.reduceSub, List.replicate, List.cons_append, List.nil_append, List.append_nil, sSeq, sRet, sRetN, sAsg, sDrop, sIf, sNext, sBreak, sCont, dOp, dVar, dC, dTup, dLst, aCons, aNil, dCB, dCall, dTest, dNotT, dAndT, dOrT, dAnd, dOr, dNot, dNeg, gNameD, gTupD, gsOf, gsCons, gsNil, gSubD, dSl, oNone, oSome, endsF, DEnds.kx, List.getElem?_cons_zero, List.getElem?_cons_succ, List.set_cons_zero, List.set_cons_succ, onS_some, add_int, sub_int, iad_int, mul_int, div_int, mod_int, pow_int, ban_int, bor_int, bxr_int, shl_int, shr_int, le_int', gt_int', ge_int', lt_int', eq_int', ne_int', dix_c0, dix_c1, dix_t0, dix_t1, sq_c, sq_t, isi_int, isi_int_bool, isi_tup, isi_bool, DL.abs_int, is_non, isnot_non, true_and, and_true, dBM, wipeD, mti_append, mti_lpop, mti_clear, mti_reverse, mti_get, mti_dpop, mti_setdefault]
    rw [it_ls hos]
    have hdm : m.dep ≤ NM := by simp only [List.length_nil] at hdp; unfold NM; omega
    refine for_inv (e := D.int) (fun todo σ M2 => ∃ (x4 : Option D) (q : Cell), σ = [some (.ref x), some (cD p), some (.ref b), some (.ref o'), x4, x5, some (cD q)] ∧ M2 = M' ∧ toAll todo q = m.f p) ?_ ?_ os _ _ ⟨x4, p, rfl, rfl, (hf p).symm⟩
    · rintro c todo σ M2 ⟨x4, q, rfl, rfl, hq⟩ N hN
      refine ⟨hos, ?_⟩
      try simp only [decide_true, decide_false, Bool.not_true, Bool.not_false, startD, Nat.reduceLeDiff, List.map_cons, List.map_nil, List.length_cons, List.length_nil, Nat.reduceAdd, Nat.reduceSub, List.replicate, List.cons_append, List.nil_append, List.append_nil, sSeq, sRet, sRetN, sAsg, sDrop, sIf, sNext, sBreak, sCont, dOp, dVar, dC, dTup, dLst, aCons, aNil, dCB, dCall, dTest, dNotT, dAndT, dOrT, dAnd, dOr, dNot, dNeg, gNameD, gTupD, gsOf, gsCons, gsNil, gSubD, dSl, oNone, oSome, endsF, DEnds.kx, List.getElem?_cons_zero, List.getElem?_cons_succ, List.set_cons_zero, List.set_cons_succ, onS_some, add_int, sub_int, iad_int, mul_int, div_int, mod_int, pow_int, ban_int, bor_int, bxr_int, shl_int, shr_int, le_int', gt_int', ge_int', lt_int', eq_int', ne_int', dix_c0, dix_c1, dix_t0, dix_t1, sq_c, sq_t, isi_int, isi_int_bool, isi_tup, isi_bool, DL.abs_int, is_non, isnot_non, true_and, and_true, dBM, wipeD, mti_append, mti_lpop, mti_clear, mti_reverse, mti_get, mti_dpop, mti_setdefault]
      refine ⟨c, q, rfl, ?_⟩
      try simp only [decide_true, decide_false, Bool.not_true, Bool.not_false, startD, Nat.reduceLeDiff, List.map_cons, List.map_nil, List.length_cons, List.length_nil, Nat.reduceAdd, Nat.reduceSub, List.replicate, List.cons_append, List.nil_append, List.append_nil, sSeq, sRet, sRetN, sAsg, sDrop, sIf, sNext, sBreak, sCont, dOp, dVar, dC, dTup, dLst, aCons, aNil, dCB, dCall, dTest, dNotT, dAndT, dOrT, dAnd, dOr, dNot, dNeg, gNameD, gTupD, gsOf, gsCons, gsNil, gSubD, dSl, oNone, oSome, endsF, DEnds.kx, List.getElem?_cons_zero, List.getElem?_cons_succ, List.set_cons_zero, List.set_cons_succ, onS_some, add_int, sub_int, iad_int, mul_int, div_int, mod_int, pow_int, ban_int, bor_int, bxr_int, shl_int, shr_int, le_int', gt_int', ge_int', lt_int', eq_int', ne_int', dix_c0, dix_c1, dix_t0, dix_t1, sq_c, sq_t, isi_int, isi_int_bool, isi_tup, isi_bool, DL.abs_int, is_non, isnot_non, true_and, and_true, dBM, wipeD, mti_append, mti_lpop, mti_clear, mti_reverse, mti_get, mti_dpop, mti_setdefault]
      exact hN _ _ ⟨_, (mvOf c).f q, rfl, rfl, hq⟩
    · rintro σ M2 ⟨x4, q, rfl, rfl, hq⟩
      refine ⟨hos, ?_⟩
      have hq : q = m.f p := hq
      subst hq
      try simp only [decide_true, decide_false, Bool.not_true, Bool.not_false, startD, Nat.reduceLeDiff, List.map_cons, List.map_nil, List.length_cons, List.length_nil, Nat.reduceAdd, Nat.reduceSub, List.replicate, List.cons_append, List.nil_append, List.append_nil, sSeq, sRet, sRetN, sAsg, sDrop, sIf, sNext, sBreak, sCont, dOp, dVar, dC, dTup, dLst, aCons, aNil, dCB, dCall, dTest, dNotT, dAndT, dOrT, dAnd, dOr, dNot, dNeg, gNameD, gTupD, gsOf, gsCons, gsNil, gSubD, dSl, oNone, oSome, endsF, DEnds.kx, List.getElem?_cons_zero, List.getElem?_cons_succ, List.set_cons_zero, List.set_cons_succ, onS_some, add_int, sub_int, iad_int, mul_int, div_int, mod_int, pow_int, ban_int, bor_int, bxr_int, shl_int, shr_int, le_int', gt_int', ge_int', lt_int', eq_int', ne_int', dix_c0, dix_c1, dix_t0, dix_t1, sq_c, sq_t, isi_int, isi_int_bool, isi_tup, isi_bool, DL.abs_int, is_non, isnot_non, true_and, and_true, dBM, wipeD, mti_append, mti_lpop, mti_clear, mti_reverse, mti_get, mti_dpop, mti_setdefault, j2_law_chained]
      refine ⟨b, m, p, _, rfl, hb, hdm, rfl, ?_⟩
      try simp only [decide_true, decide_false, Bool.not_true, Bool.not_false, startD, Nat.reduceLeDiff, List.map_cons, List.map_nil, List.length_cons, List.length_nil, Nat.reduceAdd, Nat.reduceSub, List.replicate, List.cons_append, List.nil_append, List.append_nil, sSeq, sRet, sRetN, sAsg, sDrop, sIf, sNext, sBreak, sCont, dOp, dVar, dC, dTup, dLst, aCons, aNil, dCB, dCall, dTest, dNotT, dAndT, dOrT, dAnd, dOr, dNot, dNeg, gNameD, gTupD, gsOf, gsCons, gsNil, gSubD, dSl, oNone, oSome, endsF, DEnds.kx, List.getElem?_cons_zero, List.getElem?_cons_succ, List.set_cons_zero, List.set_cons_succ, onS_some, add_int, sub_int, iad_int, mul_int, div_int, mod_int, pow_int, ban_int, bor_int, bxr_int, shl_int, shr_int, le_int', gt_int', ge_int', lt_int', eq_int', ne_int', dix_c0, dix_c1, dix_t0, dix_t1, sq_c, sq_t, isi_int, isi_int_bool, isi_tup, isi_bool, DL.abs_int, is_non, isnot_non, true_and, and_true, dBM, wipeD, mti_append, mti_lpop, mti_clear, mti_reverse, mti_get, mti_dpop, mti_setdefault]
      refine ⟨b, m, p, _, rfl, hb, hdm, rfl, fun M4 le4 => ?_⟩
      try simp only [decide_true, decide_false, Bool.not_true, Bool.not_false, startD, Nat.reduceLeDiff, List.map_cons, List.map_nil, List.length_cons, List.length_nil, Nat.reduceAdd, Nat.reduceSub, List.replicate, List.cons_append, List.nil_append, List.append_nil, sSeq, sRet, sRetN, sAsg, sDrop, sIf, sNext, sBreak, sCont, dOp, dVar, dC, dTup, dLst, aCons, aNil, dCB, dCall, dTest, dNotT, dAndT, dOrT, dAnd, dOr, dNot, dNeg, gNameD, gTupD, gsOf, gsCons, gsNil, gSubD, dSl, oNone, oSome, endsF, DEnds.kx, List.getElem?_cons_zero, List.getElem?_cons_succ, List.set_cons_zero, List.set_cons_succ, onS_some, add_int, sub_int, iad_int, mul_int, div_int, mod_int, pow_int, ban_int, bor_int, bxr_int, shl_int, shr_int, le_int', gt_int', ge_int', lt_int', eq_int', ne_int', dix_c0, dix_c1, dix_t0, dix_t1, sq_c, sq_t, isi_int, isi_int_bool, isi_tup, isi_bool, DL.abs_int, is_non, isnot_non, true_and, and_true, dBM, wipeD, mti_append, mti_lpop, mti_clear, mti_reverse, mti_get, mti_dpop, mti_setdefault, j1_law_chained]
      exact ⟨b, m, p, _, rfl, hb.le le4, hdm, rfl, h _ ((base.trans le).trans le4)⟩
def sp_law : DSp := fun ds M K _ => ∃ (x : Addr) (ns : List Int), ds = [.ref x] ∧ lsOf M (.ref x) = some (ns.map .int) ∧ ns.length ≤ 63 ∧ ∀ M', K (.bl true) M'
def j1_law : TSD := (sSeq (sIf (dNotT (dTest (dCall 3 sp_law_back [] (aCons (dCall 1 sp_law_move [] (aCons (dVar 4) aNil)) (aCons (dVar 2) (aCons (dCall 2 sp_law_to [] (aCons (dVar 4) (aCons (dVar 2) aNil))) aNil)))))) (sSeq (sRet (dC (.bl false))) sNext) sNext) sNext)
def j2_law : TSD := (sSeq (sAsg (dMk "Chain" 3 sp_Chain___init__ (aCons (dMk "Chain" 3 sp_Chain___init__ (aCons (dMk0 "Quarter") (aCons (dMk0 "Quarter") aNil))) (aCons (dMk "Chain" 3 sp_Chain___init__ (aCons (dMk0 "Quarter") (aCons (dMk0 "Quarter") aNil))) aNil))) (gNameD 9)) (sSeq (sRet (dAnd (dCall 3 sp_law_there [] (aCons (dVar 9) (aCons (dVar 2) (aCons (dVar 2) aNil)))) (dAnd (dCall 3 sp_law_there [] (aCons (dMk0 "Move") (aCons (dVar 2) (aCons (dVar 2) aNil)))) (dCall 2 sp_law_chained [] (aCons (dVar 3) (aCons (dVar 2) aNil)))))) sNext))
def j3_law : TSD := (sSeq (sAsg (dTup (aCons (dOp addD (dOp dIx (dVar 2) (dC (.int 0))) (dC (.int 60))) (aCons (dOp dIx (dVar 2) (dC (.int 1))) aNil))) (gNameD 8)) (sSeq (sIf (dOrT (dNotT (dTest (dCall 3 sp_law_there [] (aCons (dVar 5) (aCons (dVar 2) (aCons (dVar 8) aNil)))))) (dNotT (dTest (dCall 3 sp_law_back [] (aCons (dVar 5) (aCons (dVar 2) (aCons (dVar 8) aNil))))))) (sSeq (sRet (dC (.bl false))) sNext) sNext) j2_law))
def j4_law : TSD := (sSeq (sAsg (dMk "Shift" 3 sp_Shift___init__ (aCons (dC (.int 1)) (aCons (dC (.int 0)) aNil))) (gNameD 5)) (sSeq (sFor (iRng (aCons (dC (.int 59)) aNil)) (gNameD 6) (sSeq (sAsg (dOp modD (dOp addD (dOp modD (dCall 2 sp_law_cell_at [] (aCons (dVar 0) (aCons (dC (.int 2)) aNil))) (dC (.int 2))) (dOp mulD (dVar 6) (dOp modD (dCall 2 sp_law_cell_at [] (aCons (dVar 0) (aCons (dC (.int 3)) aNil))) (dC (.int 2))))) (dC (.int 2))) (gNameD 7)) (sSeq (sAsg (dOp dIx (dLst (aCons (dMk "Chain" 3 sp_Chain___init__ (aCons (dVar 5) (aCons (dMk "Shift" 3 sp_Shift___init__ (aCons (dC (.int 1)) (aCons (dC (.int 0)) aNil))) aNil))) (aCons (dMk "Chain" 3 sp_Chain___init__ (aCons (dMk "Shift" 3 sp_Shift___init__ (aCons (dC (.int 1)) (aCons (dC (.int 0)) aNil))) (aCons (dVar 5) aNil))) aNil))) (dVar 7)) (gNameD 5)) sNext))) j3_law))
def t_law : TSD := (sSeq (sAsg (dOp addD (dOp mulD (dC (.int 2)) (dOp powD (dC (.int 10)) (dC (.int 57)))) (dC (.int 1))) (gNameD 1)) (sSeq (sAsg (dTup (aCons (dOp subD (dOp modD (dCall 2 sp_law_cell_at [] (aCons (dVar 0) (aCons (dC (.int 0)) aNil))) (dVar 1)) (dOp powD (dC (.int 10)) (dC (.int 57)))) (aCons (dOp subD (dOp modD (dCall 2 sp_law_cell_at [] (aCons (dVar 0) (aCons (dC (.int 1)) aNil))) (dVar 1)) (dOp powD (dC (.int 10)) (dC (.int 57)))) aNil))) (gNameD 2)) (sSeq (sAsg (dSl (dOp addD (dVar 0) (dLst (aCons (dC (.int 1)) (aCons (dC (.int 2)) (aCons (dC (.int 3)) aNil))))) (oSome (dC (.int 2))) (oSome (dC (.int 22)))) (gNameD 3)) (sSeq (sFor (iVal (dVar 3)) (gNameD 4) (sSeq (sIf (dNotT (dTest (dCall 3 sp_law_there [] (aCons (dCall 1 sp_law_move [] (aCons (dVar 4) aNil)) (aCons (dVar 2) (aCons (dCall 2 sp_law_to [] (aCons (dVar 4) (aCons (dVar 2) aNil))) aNil)))))) (sSeq (sRet (dC (.bl false))) sNext) sNext) j1_law)) j4_law))))
theorem p_law (ds : List D) (M : Mem) (K : DK) (KX : DX) (h : sp_law ds M K KX) : t_law (endsF K KX) (startD ["_law_script", "_law_size", "_law_spot", "_law_cells", "_law_cell", "_law_many", "_law_k", "_law_side", "_law_due", "_law_four"] ds) M := by
  obtain ⟨x, ns, rfl, hx, hlen63, h⟩ := h
  try simp only [decide_true, decide_false, Bool.not_true, Bool.not_false, startD, Nat.reduceLeDiff, List.map_cons, List.map_nil, List.length_cons, List.length_nil, Nat.reduceAdd, Nat.reduceSub, List.replicate, List.cons_append, List.nil_append, List.append_nil, sSeq, sRet, sRetN, sAsg, sDrop, sIf, sNext, sBreak, sCont, dOp, dVar, dC, dTup, dLst, aCons, aNil, dCB, dCall, dTest, dNotT, dAndT, dOrT, dAnd, dOr, dNot, dNeg, gNameD, gTupD, gsOf, gsCons, gsNil, gSubD, dSl, oNone, oSome, endsF, DEnds.kx, List.getElem?_cons_zero, List.getElem?_cons_succ, List.set_cons_zero, List.set_cons_succ, onS_some, add_int, sub_int, iad_int, mul_int, div_int, mod_int, pow_int, ban_int, bor_int, bxr_int, shl_int, shr_int, le_int', gt_int', ge_int', lt_int', eq_int', ne_int', dix_c0, dix_c1, dix_t0, dix_t1, sq_c, sq_t, isi_int, isi_int_bool, isi_tup, isi_bool, DL.abs_int, is_non, isnot_non, true_and, and_true, dBM, wipeD, mti_append, mti_lpop, mti_clear, mti_reverse, mti_get, mti_dpop, mti_setdefault, t_law]
  refine ⟨⟨by decide, by decide, by decide⟩, .inl (.inl ⟨by decide, by decide⟩), ⟨x, ns, 0, rfl, hx, ?_⟩⟩
  try simp only [decide_true, decide_false, Bool.not_true, Bool.not_false, startD, Nat.reduceLeDiff, List.map_cons, List.map_nil, List.length_cons, List.length_nil, Nat.reduceAdd, Nat.reduceSub, List.replicate, List.cons_append, List.nil_append, List.append_nil, sSeq, sRet, sRetN, sAsg, sDrop, sIf, sNext, sBreak, sCont, dOp, dVar, dC, dTup, dLst, aCons, aNil, dCB, dCall, dTest, dNotT, dAndT, dOrT, dAnd, dOr, dNot, dNeg, gNameD, gTupD, gsOf, gsCons, gsNil, gSubD, dSl, oNone, oSome, endsF, DEnds.kx, List.getElem?_cons_zero, List.getElem?_cons_succ, List.set_cons_zero, List.set_cons_succ, onS_some, add_int, sub_int, iad_int, mul_int, div_int, mod_int, pow_int, ban_int, bor_int, bxr_int, shl_int, shr_int, le_int', gt_int', ge_int', lt_int', eq_int', ne_int', dix_c0, dix_c1, dix_t0, dix_t1, sq_c, sq_t, isi_int, isi_int_bool, isi_tup, isi_bool, DL.abs_int, is_non, isnot_non, true_and, and_true, dBM, wipeD, mti_append, mti_lpop, mti_clear, mti_reverse, mti_get, mti_dpop, mti_setdefault]
  refine ⟨by decide, ⟨by decide, by decide, by decide⟩, ⟨x, ns, 1, rfl, hx, ?_⟩⟩
  try simp only [decide_true, decide_false, Bool.not_true, Bool.not_false, startD, Nat.reduceLeDiff, List.map_cons, List.map_nil, List.length_cons, List.length_nil, Nat.reduceAdd, Nat.reduceSub, List.replicate, List.cons_append, List.nil_append, List.append_nil, sSeq, sRet, sRetN, sAsg, sDrop, sIf, sNext, sBreak, sCont, dOp, dVar, dC, dTup, dLst, aCons, aNil, dCB, dCall, dTest, dNotT, dAndT, dOrT, dAnd, dOr, dNot, dNeg, gNameD, gTupD, gsOf, gsCons, gsNil, gSubD, dSl, oNone, oSome, endsF, DEnds.kx, List.getElem?_cons_zero, List.getElem?_cons_succ, List.set_cons_zero, List.set_cons_succ, onS_some, add_int, sub_int, iad_int, mul_int, div_int, mod_int, pow_int, ban_int, bor_int, bxr_int, shl_int, shr_int, le_int', gt_int', ge_int', lt_int', eq_int', ne_int', dix_c0, dix_c1, dix_t0, dix_t1, sq_c, sq_t, isi_int, isi_int_bool, isi_tup, isi_bool, DL.abs_int, is_non, isnot_non, true_and, and_true, dBM, wipeD, mti_append, mti_lpop, mti_clear, mti_reverse, mti_get, mti_dpop, mti_setdefault]
  refine ⟨by decide, ⟨by decide, by decide, by decide⟩, ?_⟩
  have eC : ∀ a b : Int, D.tup [.int a, .int b] = cD (a, b) := fun _ _ => rfl
  rw [eC]
  generalize ((cellAt ns 0).fmod (2 * 10 ^ Int.toNat 57 + 1) - 10 ^ Int.toNat 57, (cellAt ns 1).fmod (2 * 10 ^ Int.toNat 57 + 1) - 10 ^ Int.toNat 57) = p
  intro u hu
  have leu := le_up (o := .lst [D.int 1, D.int 2, D.int 3]) hu
  rw [cat_ls (ls_le leu hx) ls_up]
  refine ⟨by rw [List.length_map]; show ns.length + 3 ≤ big; unfold big; omega, ?_⟩
  intro v hv
  rw [sl_ls ls_up]
  intro w hw
  have lew := (leu.new (o := .lst (ns.map D.int ++ [D.int 1, D.int 2, D.int 3])) hv).new (o := .lst (cutL (ns.map D.int ++ [D.int 1, D.int 2, D.int 3]) (some 2) (some 22))) hw
  have hit : lsOf (up (up (up M u (.lst [D.int 1, D.int 2, D.int 3])) v (.lst (ns.map D.int ++ [D.int 1, D.int 2, D.int 3]))) w (.lst (cutL (ns.map D.int ++ [D.int 1, D.int 2, D.int 3]) (some 2) (some 22)))) (.ref w) = some ((cutL (ns ++ [1, 2, 3]) (some 2) (some 22)).map D.int) := by
    rw [ls_up, ← cutL_map, List.map_append]; rfl
  obtain ⟨cs, hcs, hc0, hc20⟩ : ∃ cs : List Int, cutL (ns ++ [1, 2, 3]) (some 2) (some 22) = cs ∧ 0 < cs.length ∧ cs.length ≤ 20 := by
    refine ⟨_, rfl, ?_, ?_⟩
    · unfold cutL
      rw [show (some (2 : Int)) = some ((2 : Nat) : Int) from rfl, show (some (22 : Int)) = some ((22 : Nat) : Int) from rfl, HT.sIx_nat, HT.sIx_nat, List.length_take, List.length_drop, List.length_append]
      simp only [List.length_cons, List.length_nil]
      omega
    · unfold cutL
      rw [show (some (2 : Int)) = some ((2 : Nat) : Int) from rfl, show (some (22 : Int)) = some ((22 : Nat) : Int) from rfl, HT.sIx_nat, HT.sIx_nat, List.length_take, List.length_drop, List.length_append]
      simp only [List.length_cons, List.length_nil]
      omega
  rw [hcs] at hit
  generalize up (up (up M u (.lst [D.int 1, D.int 2, D.int 3])) v (.lst (ns.map D.int ++ [D.int 1, D.int 2, D.int 3]))) w (.lst (cutL (ns.map D.int ++ [D.int 1, D.int 2, D.int 3]) (some 2) (some 22))) = M1 at *
  try simp only [decide_true, decide_false, Bool.not_true, Bool.not_false, startD, Nat.reduceLeDiff, List.map_cons, List.map_nil, List.length_cons, List.length_nil, Nat.reduceAdd, Nat.reduceSub, List.replicate, List.cons_append, List.nil_append, List.append_nil, sSeq, sRet, sRetN, sAsg, sDrop, sIf, sNext, sBreak, sCont, dOp, dVar, dC, dTup, dLst, aCons, aNil, dCB, dCall, dTest, dNotT, dAndT, dOrT, dAnd, dOr, dNot, dNeg, gNameD, gTupD, gsOf, gsCons, gsNil, gSubD, dSl, oNone, oSome, endsF, DEnds.kx, List.getElem?_cons_zero, List.getElem?_cons_succ, List.set_cons_zero, List.set_cons_succ, onS_some, add_int, sub_int, iad_int, mul_int, div_int, mod_int, pow_int, ban_int, bor_int, bxr_int, shl_int, shr_int, le_int', gt_int', ge_int', lt_int', eq_int', ne_int', dix_c0, dix_c1, dix_t0, dix_t1, sq_c, sq_t, isi_int, isi_int_bool, isi_tup, isi_bool, DL.abs_int, is_non, isnot_non, true_and, and_true, dBM, wipeD, mti_append, mti_lpop, mti_clear, mti_reverse, mti_get, mti_dpop, mti_setdefault, sFor]
  rw [ival_te]
  try simp only [decide_true, decide_false, Bool.not_true, Bool.not_false, startD, Nat.reduceLeDiff, List.map_cons, List.map_nil, List.length_cons, List.length_nil, Nat.reduceAdd, Nat.reduceSub, List.replicate, List.cons_append, List.nil_append, List.append_nil, sSeq, sRet, sRetN, sAsg, sDrop, sIf, sNext, sBreak, sCont, dOp, dVar, dC, dTup, dLst, aCons, aNil, dCB, dCall, dTest, dNotT, dAndT, dOrT, dAnd, dOr, dNot, dNeg, gNameD, gTupD, gsOf, gsCons, gsNil, gSubD, dSl, oNone, oSome, endsF, DEnds.kx, List.getElem?_cons_zero, List.getElem?_cons_succ, List.set_cons_zero, List.set_cons_succ, onS_some, add_int, sub_int, iad_int, mul_int, div_int, mod_int, pow_int, ban_int, bor_int, bxr_int, shl_int, shr_int, le_int', gt_int', ge_int', lt_int', eq_int', ne_int', dix_c0, dix_c1, dix_t0, dix_t1, sq_c, sq_t, isi_int, isi_int_bool, isi_tup, isi_bool, DL.abs_int, is_non, isnot_non, true_and, and_true, dBM, wipeD, mti_append, mti_lpop, mti_clear, mti_reverse, mti_get, mti_dpop, mti_setdefault]
  rw [it_ls hit]
  have hdN : ∀ c, (mvOf c).dep ≤ NM := fun c => Nat.le_trans (mvOf_dep c) (by decide)
  refine for_inv (e := D.int) (fun todo σ M' => ∃ (x4 : Option D), σ = [some (.ref x), some (.int (2 * 10 ^ Int.toNat 57 + 1)), some (cD p), some (.ref w), x4, none, none, none, none, none] ∧ Le M1 M') ?_ ?_ cs _ _ ⟨none, rfl, Le.refl⟩
  · rintro c todo σ M' ⟨x4, rfl, le⟩ N hN
    refine ⟨ls_le le hit, ?_⟩
    try simp only [decide_true, decide_false, Bool.not_true, Bool.not_false, startD, Nat.reduceLeDiff, List.map_cons, List.map_nil, List.length_cons, List.length_nil, Nat.reduceAdd, Nat.reduceSub, List.replicate, List.cons_append, List.nil_append, List.append_nil, sSeq, sRet, sRetN, sAsg, sDrop, sIf, sNext, sBreak, sCont, dOp, dVar, dC, dTup, dLst, aCons, aNil, dCB, dCall, dTest, dNotT, dAndT, dOrT, dAnd, dOr, dNot, dNeg, gNameD, gTupD, gsOf, gsCons, gsNil, gSubD, dSl, oNone, oSome, endsF, DEnds.kx, List.getElem?_cons_zero, List.getElem?_cons_succ, List.set_cons_zero, List.set_cons_succ, onS_some, add_int, sub_int, iad_int, mul_int, div_int, mod_int, pow_int, ban_int, bor_int, bxr_int, shl_int, shr_int, le_int', gt_int', ge_int', lt_int', eq_int', ne_int', dix_c0, dix_c1, dix_t0, dix_t1, sq_c, sq_t, isi_int, isi_int_bool, isi_tup, isi_bool, DL.abs_int, is_non, isnot_non, true_and, and_true, dBM, wipeD, mti_append, mti_lpop, mti_clear, mti_reverse, mti_get, mti_dpop, mti_setdefault]
    refine ⟨c, rfl, fun M2 a le2 ha => ?_⟩
    try simp only [decide_true, decide_false, Bool.not_true, Bool.not_false, startD, Nat.reduceLeDiff, List.map_cons, List.map_nil, List.length_cons, List.length_nil, Nat.reduceAdd, Nat.reduceSub, List.replicate, List.cons_append, List.nil_append, List.append_nil, sSeq, sRet, sRetN, sAsg, sDrop, sIf, sNext, sBreak, sCont, dOp, dVar, dC, dTup, dLst, aCons, aNil, dCB, dCall, dTest, dNotT, dAndT, dOrT, dAnd, dOr, dNot, dNeg, gNameD, gTupD, gsOf, gsCons, gsNil, gSubD, dSl, oNone, oSome, endsF, DEnds.kx, List.getElem?_cons_zero, List.getElem?_cons_succ, List.set_cons_zero, List.set_cons_succ, onS_some, add_int, sub_int, iad_int, mul_int, div_int, mod_int, pow_int, ban_int, bor_int, bxr_int, shl_int, shr_int, le_int', gt_int', ge_int', lt_int', eq_int', ne_int', dix_c0, dix_c1, dix_t0, dix_t1, sq_c, sq_t, isi_int, isi_int_bool, isi_tup, isi_bool, DL.abs_int, is_non, isnot_non, true_and, and_true, dBM, wipeD, mti_append, mti_lpop, mti_clear, mti_reverse, mti_get, mti_dpop, mti_setdefault]
    refine ⟨c, p, rfl, ?_⟩
    try simp only [decide_true, decide_false, Bool.not_true, Bool.not_false, startD, Nat.reduceLeDiff, List.map_cons, List.map_nil, List.length_cons, List.length_nil, Nat.reduceAdd, Nat.reduceSub, List.replicate, List.cons_append, List.nil_append, List.append_nil, sSeq, sRet, sRetN, sAsg, sDrop, sIf, sNext, sBreak, sCont, dOp, dVar, dC, dTup, dLst, aCons, aNil, dCB, dCall, dTest, dNotT, dAndT, dOrT, dAnd, dOr, dNot, dNeg, gNameD, gTupD, gsOf, gsCons, gsNil, gSubD, dSl, oNone, oSome, endsF, DEnds.kx, List.getElem?_cons_zero, List.getElem?_cons_succ, List.set_cons_zero, List.set_cons_succ, onS_some, add_int, sub_int, iad_int, mul_int, div_int, mod_int, pow_int, ban_int, bor_int, bxr_int, shl_int, shr_int, le_int', gt_int', ge_int', lt_int', eq_int', ne_int', dix_c0, dix_c1, dix_t0, dix_t1, sq_c, sq_t, isi_int, isi_int_bool, isi_tup, isi_bool, DL.abs_int, is_non, isnot_non, true_and, and_true, dBM, wipeD, mti_append, mti_lpop, mti_clear, mti_reverse, mti_get, mti_dpop, mti_setdefault]
    refine ⟨a, mvOf c, p, _, rfl, ha, hdN c, rfl, ?_⟩
    try simp only [decide_true, decide_false, Bool.not_true, Bool.not_false, startD, Nat.reduceLeDiff, List.map_cons, List.map_nil, List.length_cons, List.length_nil, Nat.reduceAdd, Nat.reduceSub, List.replicate, List.cons_append, List.nil_append, List.append_nil, sSeq, sRet, sRetN, sAsg, sDrop, sIf, sNext, sBreak, sCont, dOp, dVar, dC, dTup, dLst, aCons, aNil, dCB, dCall, dTest, dNotT, dAndT, dOrT, dAnd, dOr, dNot, dNeg, gNameD, gTupD, gsOf, gsCons, gsNil, gSubD, dSl, oNone, oSome, endsF, DEnds.kx, List.getElem?_cons_zero, List.getElem?_cons_succ, List.set_cons_zero, List.set_cons_succ, onS_some, add_int, sub_int, iad_int, mul_int, div_int, mod_int, pow_int, ban_int, bor_int, bxr_int, shl_int, shr_int, le_int', gt_int', ge_int', lt_int', eq_int', ne_int', dix_c0, dix_c1, dix_t0, dix_t1, sq_c, sq_t, isi_int, isi_int_bool, isi_tup, isi_bool, DL.abs_int, is_non, isnot_non, true_and, and_true, dBM, wipeD, mti_append, mti_lpop, mti_clear, mti_reverse, mti_get, mti_dpop, mti_setdefault, j1_law]
    refine ⟨c, rfl, fun M3 b le3 hb => ?_⟩
    try simp only [decide_true, decide_false, Bool.not_true, Bool.not_false, startD, Nat.reduceLeDiff, List.map_cons, List.map_nil, List.length_cons, List.length_nil, Nat.reduceAdd, Nat.reduceSub, List.replicate, List.cons_append, List.nil_append, List.append_nil, sSeq, sRet, sRetN, sAsg, sDrop, sIf, sNext, sBreak, sCont, dOp, dVar, dC, dTup, dLst, aCons, aNil, dCB, dCall, dTest, dNotT, dAndT, dOrT, dAnd, dOr, dNot, dNeg, gNameD, gTupD, gsOf, gsCons, gsNil, gSubD, dSl, oNone, oSome, endsF, DEnds.kx, List.getElem?_cons_zero, List.getElem?_cons_succ, List.set_cons_zero, List.set_cons_succ, onS_some, add_int, sub_int, iad_int, mul_int, div_int, mod_int, pow_int, ban_int, bor_int, bxr_int, shl_int, shr_int, le_int', gt_int', ge_int', lt_int', eq_int', ne_int', dix_c0, dix_c1, dix_t0, dix_t1, sq_c, sq_t, isi_int, isi_int_bool, isi_tup, isi_bool, DL.abs_int, is_non, isnot_non, true_and, and_true, dBM, wipeD, mti_append, mti_lpop, mti_clear, mti_reverse, mti_get, mti_dpop, mti_setdefault]
    refine ⟨c, p, rfl, ?_⟩
    try simp only [decide_true, decide_false, Bool.not_true, Bool.not_false, startD, Nat.reduceLeDiff, List.map_cons, List.map_nil, List.length_cons, List.length_nil, Nat.reduceAdd, Nat.reduceSub, List.replicate, List.cons_append, List.nil_append, List.append_nil, sSeq, sRet, sRetN, sAsg, sDrop, sIf, sNext, sBreak, sCont, dOp, dVar, dC, dTup, dLst, aCons, aNil, dCB, dCall, dTest, dNotT, dAndT, dOrT, dAnd, dOr, dNot, dNeg, gNameD, gTupD, gsOf, gsCons, gsNil, gSubD, dSl, oNone, oSome, endsF, DEnds.kx, List.getElem?_cons_zero, List.getElem?_cons_succ, List.set_cons_zero, List.set_cons_succ, onS_some, add_int, sub_int, iad_int, mul_int, div_int, mod_int, pow_int, ban_int, bor_int, bxr_int, shl_int, shr_int, le_int', gt_int', ge_int', lt_int', eq_int', ne_int', dix_c0, dix_c1, dix_t0, dix_t1, sq_c, sq_t, isi_int, isi_int_bool, isi_tup, isi_bool, DL.abs_int, is_non, isnot_non, true_and, and_true, dBM, wipeD, mti_append, mti_lpop, mti_clear, mti_reverse, mti_get, mti_dpop, mti_setdefault]
    refine ⟨b, mvOf c, p, _, rfl, hb, hdN c, rfl, fun M4 le4 => ?_⟩
    try simp only [decide_true, decide_false, Bool.not_true, Bool.not_false, startD, Nat.reduceLeDiff, List.map_cons, List.map_nil, List.length_cons, List.length_nil, Nat.reduceAdd, Nat.reduceSub, List.replicate, List.cons_append, List.nil_append, List.append_nil, sSeq, sRet, sRetN, sAsg, sDrop, sIf, sNext, sBreak, sCont, dOp, dVar, dC, dTup, dLst, aCons, aNil, dCB, dCall, dTest, dNotT, dAndT, dOrT, dAnd, dOr, dNot, dNeg, gNameD, gTupD, gsOf, gsCons, gsNil, gSubD, dSl, oNone, oSome, endsF, DEnds.kx, List.getElem?_cons_zero, List.getElem?_cons_succ, List.set_cons_zero, List.set_cons_succ, onS_some, add_int, sub_int, iad_int, mul_int, div_int, mod_int, pow_int, ban_int, bor_int, bxr_int, shl_int, shr_int, le_int', gt_int', ge_int', lt_int', eq_int', ne_int', dix_c0, dix_c1, dix_t0, dix_t1, sq_c, sq_t, isi_int, isi_int_bool, isi_tup, isi_bool, DL.abs_int, is_non, isnot_non, true_and, and_true, dBM, wipeD, mti_append, mti_lpop, mti_clear, mti_reverse, mti_get, mti_dpop, mti_setdefault]
    exact hN _ _ ⟨_, rfl, ((le.trans le2).trans le3).trans le4⟩
  · rintro σ M' ⟨x4, rfl, le⟩
    refine ⟨ls_le le hit, ?_⟩
    try simp only [decide_true, decide_false, Bool.not_true, Bool.not_false, startD, Nat.reduceLeDiff, List.map_cons, List.map_nil, List.length_cons, List.length_nil, Nat.reduceAdd, Nat.reduceSub, List.replicate, List.cons_append, List.nil_append, List.append_nil, sSeq, sRet, sRetN, sAsg, sDrop, sIf, sNext, sBreak, sCont, dOp, dVar, dC, dTup, dLst, aCons, aNil, dCB, dCall, dTest, dNotT, dAndT, dOrT, dAnd, dOr, dNot, dNeg, gNameD, gTupD, gsOf, gsCons, gsNil, gSubD, dSl, oNone, oSome, endsF, DEnds.kx, List.getElem?_cons_zero, List.getElem?_cons_succ, List.set_cons_zero, List.set_cons_succ, onS_some, add_int, sub_int, iad_int, mul_int, div_int, mod_int, pow_int, ban_int, bor_int, bxr_int, shl_int, shr_int, le_int', gt_int', ge_int', lt_int', eq_int', ne_int', dix_c0, dix_c1, dix_t0, dix_t1, sq_c, sq_t, isi_int, isi_int_bool, isi_tup, isi_bool, DL.abs_int, is_non, isnot_non, true_and, and_true, dBM, wipeD, mti_append, mti_lpop, mti_clear, mti_reverse, mti_get, mti_dpop, mti_setdefault, j4_law]
    refine mk_shift (d := 1) (r := 0) (M1 := M') (fun Q q => q) Le.refl fun a M2 le2 ha => ?_
    try simp only [decide_true, decide_false, Bool.not_true, Bool.not_false, startD, Nat.reduceLeDiff, List.map_cons, List.map_nil, List.length_cons, List.length_nil, Nat.reduceAdd, Nat.reduceSub, List.replicate, List.cons_append, List.nil_append, List.append_nil, sSeq, sRet, sRetN, sAsg, sDrop, sIf, sNext, sBreak, sCont, dOp, dVar, dC, dTup, dLst, aCons, aNil, dCB, dCall, dTest, dNotT, dAndT, dOrT, dAnd, dOr, dNot, dNeg, gNameD, gTupD, gsOf, gsCons, gsNil, gSubD, dSl, oNone, oSome, endsF, DEnds.kx, List.getElem?_cons_zero, List.getElem?_cons_succ, List.set_cons_zero, List.set_cons_succ, onS_some, add_int, sub_int, iad_int, mul_int, div_int, mod_int, pow_int, ban_int, bor_int, bxr_int, shl_int, shr_int, le_int', gt_int', ge_int', lt_int', eq_int', ne_int', dix_c0, dix_c1, dix_t0, dix_t1, sq_c, sq_t, isi_int, isi_int_bool, isi_tup, isi_bool, DL.abs_int, is_non, isnot_non, true_and, and_true, dBM, wipeD, mti_append, mti_lpop, mti_clear, mti_reverse, mti_get, mti_dpop, mti_setdefault, sFor]
    unfold iRng
    try simp only [decide_true, decide_false, Bool.not_true, Bool.not_false, startD, Nat.reduceLeDiff, List.map_cons, List.map_nil, List.length_cons, List.length_nil, Nat.reduceAdd, Nat.reduceSub, List.replicate, List.cons_append, List.nil_append, List.append_nil, sSeq, sRet, sRetN, sAsg, sDrop, sIf, sNext, sBreak, sCont, dOp, dVar, dC, dTup, dLst, aCons, aNil, dCB, dCall, dTest, dNotT, dAndT, dOrT, dAnd, dOr, dNot, dNeg, gNameD, gTupD, gsOf, gsCons, gsNil, gSubD, dSl, oNone, oSome, endsF, DEnds.kx, List.getElem?_cons_zero, List.getElem?_cons_succ, List.set_cons_zero, List.set_cons_succ, onS_some, add_int, sub_int, iad_int, mul_int, div_int, mod_int, pow_int, ban_int, bor_int, bxr_int, shl_int, shr_int, le_int', gt_int', ge_int', lt_int', eq_int', ne_int', dix_c0, dix_c1, dix_t0, dix_t1, sq_c, sq_t, isi_int, isi_int_bool, isi_tup, isi_bool, DL.abs_int, is_non, isnot_non, true_and, and_true, dBM, wipeD, mti_append, mti_lpop, mti_clear, mti_reverse, mti_get, mti_dpop, mti_setdefault]
    refine ⟨by decide, by decide, ?_⟩
    have hx2 : lsOf M2 (.ref x) = some (ns.map .int) := ls_le ((lew.trans le).trans le2) hx
    have base := le.trans le2
    unfold rngD
    refine for_inv (e := fun i : Nat => D.int (0 + (i : Int))) (fun todo σ M3 => ∃ (b : Addr) (m : Mv) (k : Nat) (x6 x7 : Option D), todo = (List.range 59).drop k ∧ σ = [some (.ref x), some (.int (2 * 10 ^ Int.toNat 57 + 1)), some (cD p), some (.ref w), x4, some (.ref b), x6, x7, none, none] ∧ Le M2 M3 ∧ MvAt M3 b m ∧ m.dep = k + 1 ∧ k ≤ 59 ∧ ∀ q : Cell, m.f q = (q.1 + (k + 1 : Nat), q.2)) ?_ ?_ (List.range 59) _ _
      ⟨a, .shift 1 0, 0, none, none, rfl, rfl, Le.refl, ha, rfl, by decide, fun q => by show (q.1 + 1, q.2 + 0) = _; rw [Int.add_zero]; rfl⟩
    · rintro i todo σ M3 ⟨b, m, k, x6, x7, ht, rfl, le3, hb, hd, hk, hf⟩ N hN
      refine ⟨trivial, ?_⟩
      have hk' : k < 59 := by
        have := congrArg List.length ht
        rw [List.length_drop, List.length_range] at this
        simp only [List.length_cons] at this
        omega
      have ht' : todo = (List.range 59).drop (k + 1) := by
        rw [← List.drop_drop, ← ht]; rfl
      try simp only [decide_true, decide_false, Bool.not_true, Bool.not_false, startD, Nat.reduceLeDiff, List.map_cons, List.map_nil, List.length_cons, List.length_nil, Nat.reduceAdd, Nat.reduceSub, List.replicate, List.cons_append, List.nil_append, List.append_nil, sSeq, sRet, sRetN, sAsg, sDrop, sIf, sNext, sBreak, sCont, dOp, dVar, dC, dTup, dLst, aCons, aNil, dCB, dCall, dTest, dNotT, dAndT, dOrT, dAnd, dOr, dNot, dNeg, gNameD, gTupD, gsOf, gsCons, gsNil, gSubD, dSl, oNone, oSome, endsF, DEnds.kx, List.getElem?_cons_zero, List.getElem?_cons_succ, List.set_cons_zero, List.set_cons_succ, onS_some, add_int, sub_int, iad_int, mul_int, div_int, mod_int, pow_int, ban_int, bor_int, bxr_int, shl_int, shr_int, le_int', gt_int', ge_int', lt_int', eq_int', ne_int', dix_c0, dix_c1, dix_t0, dix_t1, sq_c, sq_t, isi_int, isi_int_bool, isi_tup, isi_bool, DL.abs_int, is_non, isnot_non, true_and, and_true, dBM, wipeD, mti_append, mti_lpop, mti_clear, mti_reverse, mti_get, mti_dpop, mti_setdefault]
      refine ⟨x, ns, 2, rfl, ls_le le3 hx2, ?_⟩
      try simp only [decide_true, decide_false, Bool.not_true, Bool.not_false, startD, Nat.reduceLeDiff, List.map_cons, List.map_nil, List.length_cons, List.length_nil, Nat.reduceAdd, Nat.reduceSub, List.replicate, List.cons_append, List.nil_append, List.append_nil, sSeq, sRet, sRetN, sAsg, sDrop, sIf, sNext, sBreak, sCont, dOp, dVar, dC, dTup, dLst, aCons, aNil, dCB, dCall, dTest, dNotT, dAndT, dOrT, dAnd, dOr, dNot, dNeg, gNameD, gTupD, gsOf, gsCons, gsNil, gSubD, dSl, oNone, oSome, endsF, DEnds.kx, List.getElem?_cons_zero, List.getElem?_cons_succ, List.set_cons_zero, List.set_cons_succ, onS_some, add_int, sub_int, iad_int, mul_int, div_int, mod_int, pow_int, ban_int, bor_int, bxr_int, shl_int, shr_int, le_int', gt_int', ge_int', lt_int', eq_int', ne_int', dix_c0, dix_c1, dix_t0, dix_t1, sq_c, sq_t, isi_int, isi_int_bool, isi_tup, isi_bool, DL.abs_int, is_non, isnot_non, true_and, and_true, dBM, wipeD, mti_append, mti_lpop, mti_clear, mti_reverse, mti_get, mti_dpop, mti_setdefault]
      refine ⟨by decide, x, ns, 3, rfl, ls_le le3 hx2, ?_⟩
      try simp only [decide_true, decide_false, Bool.not_true, Bool.not_false, startD, Nat.reduceLeDiff, List.map_cons, List.map_nil, List.length_cons, List.length_nil, Nat.reduceAdd, Nat.reduceSub, List.replicate, List.cons_append, List.nil_append, List.append_nil, sSeq, sRet, sRetN, sAsg, sDrop, sIf, sNext, sBreak, sCont, dOp, dVar, dC, dTup, dLst, aCons, aNil, dCB, dCall, dTest, dNotT, dAndT, dOrT, dAnd, dOr, dNot, dNeg, gNameD, gTupD, gsOf, gsCons, gsNil, gSubD, dSl, oNone, oSome, endsF, DEnds.kx, List.getElem?_cons_zero, List.getElem?_cons_succ, List.set_cons_zero, List.set_cons_succ, onS_some, add_int, sub_int, iad_int, mul_int, div_int, mod_int, pow_int, ban_int, bor_int, bxr_int, shl_int, shr_int, le_int', gt_int', ge_int', lt_int', eq_int', ne_int', dix_c0, dix_c1, dix_t0, dix_t1, sq_c, sq_t, isi_int, isi_int_bool, isi_tup, isi_bool, DL.abs_int, is_non, isnot_non, true_and, and_true, dBM, wipeD, mti_append, mti_lpop, mti_clear, mti_reverse, mti_get, mti_dpop, mti_setdefault]
      have a1 := Int.fmod_nonneg_of_pos (cellAt ns 3) (show (0 : Int) < 2 by decide)
      have a2 := Int.fmod_lt_of_pos (cellAt ns 3) (show (0 : Int) < 2 by decide)
      refine ⟨by decide, mulOk_of (.inr ⟨by omega, by omega⟩), by decide, ?_⟩
      unfold dMk
      try simp only [decide_true, decide_false, Bool.not_true, Bool.not_false, startD, Nat.reduceLeDiff, List.map_cons, List.map_nil, List.length_cons, List.length_nil, Nat.reduceAdd, Nat.reduceSub, List.replicate, List.cons_append, List.nil_append, List.append_nil, sSeq, sRet, sRetN, sAsg, sDrop, sIf, sNext, sBreak, sCont, dOp, dVar, dC, dTup, dLst, aCons, aNil, dCB, dCall, dTest, dNotT, dAndT, dOrT, dAnd, dOr, dNot, dNeg, gNameD, gTupD, gsOf, gsCons, gsNil, gSubD, dSl, oNone, oSome, endsF, DEnds.kx, List.getElem?_cons_zero, List.getElem?_cons_succ, List.set_cons_zero, List.set_cons_succ, onS_some, add_int, sub_int, iad_int, mul_int, div_int, mod_int, pow_int, ban_int, bor_int, bxr_int, shl_int, shr_int, le_int', gt_int', ge_int', lt_int', eq_int', ne_int', dix_c0, dix_c1, dix_t0, dix_t1, sq_c, sq_t, isi_int, isi_int_bool, isi_tup, isi_bool, DL.abs_int, is_non, isnot_non, true_and, and_true, dBM, wipeD, mti_append, mti_lpop, mti_clear, mti_reverse, mti_get, mti_dpop, mti_setdefault]
      refine fun s hs => ⟨s, 1, 0, rfl, up_same, rfl, ?_⟩
      rw [up_up]
      try simp only [decide_true, decide_false, Bool.not_true, Bool.not_false, startD, Nat.reduceLeDiff, List.map_cons, List.map_nil, List.length_cons, List.length_nil, Nat.reduceAdd, Nat.reduceSub, List.replicate, List.cons_append, List.nil_append, List.append_nil, sSeq, sRet, sRetN, sAsg, sDrop, sIf, sNext, sBreak, sCont, dOp, dVar, dC, dTup, dLst, aCons, aNil, dCB, dCall, dTest, dNotT, dAndT, dOrT, dAnd, dOr, dNot, dNeg, gNameD, gTupD, gsOf, gsCons, gsNil, gSubD, dSl, oNone, oSome, endsF, DEnds.kx, List.getElem?_cons_zero, List.getElem?_cons_succ, List.set_cons_zero, List.set_cons_succ, onS_some, add_int, sub_int, iad_int, mul_int, div_int, mod_int, pow_int, ban_int, bor_int, bxr_int, shl_int, shr_int, le_int', gt_int', ge_int', lt_int', eq_int', ne_int', dix_c0, dix_c1, dix_t0, dix_t1, sq_c, sq_t, isi_int, isi_int_bool, isi_tup, isi_bool, DL.abs_int, is_non, isnot_non, true_and, and_true, dBM, wipeD, mti_append, mti_lpop, mti_clear, mti_reverse, mti_get, mti_dpop, mti_setdefault]
      refine fun z hz => ⟨z, b, s, rfl, up_same, rfl, ?_⟩
      rw [up_up]
      try simp only [decide_true, decide_false, Bool.not_true, Bool.not_false, startD, Nat.reduceLeDiff, List.map_cons, List.map_nil, List.length_cons, List.length_nil, Nat.reduceAdd, Nat.reduceSub, List.replicate, List.cons_append, List.nil_append, List.append_nil, sSeq, sRet, sRetN, sAsg, sDrop, sIf, sNext, sBreak, sCont, dOp, dVar, dC, dTup, dLst, aCons, aNil, dCB, dCall, dTest, dNotT, dAndT, dOrT, dAnd, dOr, dNot, dNeg, gNameD, gTupD, gsOf, gsCons, gsNil, gSubD, dSl, oNone, oSome, endsF, DEnds.kx, List.getElem?_cons_zero, List.getElem?_cons_succ, List.set_cons_zero, List.set_cons_succ, onS_some, add_int, sub_int, iad_int, mul_int, div_int, mod_int, pow_int, ban_int, bor_int, bxr_int, shl_int, shr_int, le_int', gt_int', ge_int', lt_int', eq_int', ne_int', dix_c0, dix_c1, dix_t0, dix_t1, sq_c, sq_t, isi_int, isi_int_bool, isi_tup, isi_bool, DL.abs_int, is_non, isnot_non, true_and, and_true, dBM, wipeD, mti_append, mti_lpop, mti_clear, mti_reverse, mti_get, mti_dpop, mti_setdefault]
      refine fun s2 hs2 => ⟨s2, 1, 0, rfl, up_same, rfl, ?_⟩
      rw [up_up]
      try simp only [decide_true, decide_false, Bool.not_true, Bool.not_false, startD, Nat.reduceLeDiff, List.map_cons, List.map_nil, List.length_cons, List.length_nil, Nat.reduceAdd, Nat.reduceSub, List.replicate, List.cons_append, List.nil_append, List.append_nil, sSeq, sRet, sRetN, sAsg, sDrop, sIf, sNext, sBreak, sCont, dOp, dVar, dC, dTup, dLst, aCons, aNil, dCB, dCall, dTest, dNotT, dAndT, dOrT, dAnd, dOr, dNot, dNeg, gNameD, gTupD, gsOf, gsCons, gsNil, gSubD, dSl, oNone, oSome, endsF, DEnds.kx, List.getElem?_cons_zero, List.getElem?_cons_succ, List.set_cons_zero, List.set_cons_succ, onS_some, add_int, sub_int, iad_int, mul_int, div_int, mod_int, pow_int, ban_int, bor_int, bxr_int, shl_int, shr_int, le_int', gt_int', ge_int', lt_int', eq_int', ne_int', dix_c0, dix_c1, dix_t0, dix_t1, sq_c, sq_t, isi_int, isi_int_bool, isi_tup, isi_bool, DL.abs_int, is_non, isnot_non, true_and, and_true, dBM, wipeD, mti_append, mti_lpop, mti_clear, mti_reverse, mti_get, mti_dpop, mti_setdefault]
      refine fun z2 hz2 => ⟨z2, s2, b, rfl, up_same, rfl, ?_⟩
      rw [up_up]
      try simp only [decide_true, decide_false, Bool.not_true, Bool.not_false, startD, Nat.reduceLeDiff, List.map_cons, List.map_nil, List.length_cons, List.length_nil, Nat.reduceAdd, Nat.reduceSub, List.replicate, List.cons_append, List.nil_append, List.append_nil, sSeq, sRet, sRetN, sAsg, sDrop, sIf, sNext, sBreak, sCont, dOp, dVar, dC, dTup, dLst, aCons, aNil, dCB, dCall, dTest, dNotT, dAndT, dOrT, dAnd, dOr, dNot, dNeg, gNameD, gTupD, gsOf, gsCons, gsNil, gSubD, dSl, oNone, oSome, endsF, DEnds.kx, List.getElem?_cons_zero, List.getElem?_cons_succ, List.set_cons_zero, List.set_cons_succ, onS_some, add_int, sub_int, iad_int, mul_int, div_int, mod_int, pow_int, ban_int, bor_int, bxr_int, shl_int, shr_int, le_int', gt_int', ge_int', lt_int', eq_int', ne_int', dix_c0, dix_c1, dix_t0, dix_t1, sq_c, sq_t, isi_int, isi_int_bool, isi_tup, isi_bool, DL.abs_int, is_non, isnot_non, true_and, and_true, dBM, wipeD, mti_append, mti_lpop, mti_clear, mti_reverse, mti_get, mti_dpop, mti_setdefault]
      intro l hl
      have lA := le_up (o := .ins "Shift" [("down", .int 1), ("right", .int 0)]) hs
      have lB := le_up (o := .ins "Chain" [("first", .ref b), ("second", .ref s)]) hz
      have lC := le_up (o := .ins "Shift" [("down", .int 1), ("right", .int 0)]) hs2
      have lD := le_up (o := .ins "Chain" [("first", .ref s2), ("second", .ref b)]) hz2
      have lE := le_up (o := .lst [.ref z, .ref z2]) hl
      have hz' := ((lC.trans lD).trans lE) _ _ (up_same (a := z) (o := .ins "Chain" [("first", .ref b), ("second", .ref s)]))
      have hs' := (((lB.trans lC).trans lD).trans lE) _ _ (up_same (a := s) (o := .ins "Shift" [("down", .int 1), ("right", .int 0)]))
      have hs2' := (lD.trans lE) _ _ (up_same (a := s2) (o := .ins "Shift" [("down", .int 1), ("right", .int 0)]))
      have hz2' := lE _ _ (up_same (a := z2) (o := .ins "Chain" [("first", .ref s2), ("second", .ref b)]))
      have lF := (((lA.trans lB).trans lC).trans lD).trans lE
      have hb' := hb.le lF
      have b1 := Int.fmod_nonneg_of_pos ((cellAt ns 2).fmod 2 + (0 + (i : Int)) * (cellAt ns 3).fmod 2) (show (0 : Int) < 2 by decide)
      have b2 := Int.fmod_lt_of_pos ((cellAt ns 2).fmod 2 + (0 + (i : Int)) * (cellAt ns 3).fmod 2) (show (0 : Int) < 2 by decide)
      generalize ((cellAt ns 2).fmod 2 + (0 + (i : Int)) * (cellAt ns 3).fmod 2).fmod 2 = side at *
      rcases (show side = 0 ∨ side = 1 by omega) with rfl | rfl
      · rw [dix_0 ls_up rfl]
        refine hN _ _ ⟨z, .chain m (.shift 1 0), k + 1, _, _, ht', rfl, le3.trans lF, ⟨b, s, hz', hb', hs'⟩, ?_, by omega, fun q => ?_⟩
        · show max m.dep 1 + 1 = _
          omega
        · show ((m.f q).1 + 1, (m.f q).2 + 0) = _
          rw [hf, Int.add_zero]
          dsimp only
          congr 1
          omega
      · rw [dix_1 ls_up rfl]
        refine hN _ _ ⟨z2, .chain (.shift 1 0) m, k + 1, _, _, ht', rfl, le3.trans lF, ⟨s2, b, hz2', hs2', hb'⟩, ?_, by omega, fun q => ?_⟩
        · show max 1 m.dep + 1 = _
          omega
        · show m.f (q.1 + 1, q.2 + 0) = _
          rw [hf, Int.add_zero]
          dsimp only
          congr 1
          omega
    · rintro σ M3 ⟨b, m, k, x6, x7, ht, rfl, le3, hb, hd, hk, hf⟩
      refine ⟨trivial, ?_⟩
      have hk' : k = 59 := by
        have := congrArg List.length ht
        rw [List.length_drop, List.length_range] at this
        simp only [List.length_nil] at this
        omega
      subst hk'
      try simp only [decide_true, decide_false, Bool.not_true, Bool.not_false, startD, Nat.reduceLeDiff, List.map_cons, List.map_nil, List.length_cons, List.length_nil, Nat.reduceAdd, Nat.reduceSub, List.replicate, List.cons_append, List.nil_append, List.append_nil, sSeq, sRet, sRetN, sAsg, sDrop, sIf, sNext, sBreak, sCont, dOp, dVar, dC, dTup, dLst, aCons, aNil, dCB, dCall, dTest, dNotT, dAndT, dOrT, dAnd, dOr, dNot, dNeg, gNameD, gTupD, gsOf, gsCons, gsNil, gSubD, dSl, oNone, oSome, endsF, DEnds.kx, List.getElem?_cons_zero, List.getElem?_cons_succ, List.set_cons_zero, List.set_cons_succ, onS_some, add_int, sub_int, iad_int, mul_int, div_int, mod_int, pow_int, ban_int, bor_int, bxr_int, shl_int, shr_int, le_int', gt_int', ge_int', lt_int', eq_int', ne_int', dix_c0, dix_c1, dix_t0, dix_t1, sq_c, sq_t, isi_int, isi_int_bool, isi_tup, isi_bool, DL.abs_int, is_non, isnot_non, true_and, and_true, dBM, wipeD, mti_append, mti_lpop, mti_clear, mti_reverse, mti_get, mti_dpop, mti_setdefault, j3_law]
      have hfp : m.f p = (p.1 + 60, p.2) := hf p
      have hdm : m.dep ≤ NM := by rw [hd]; decide
      rw [eC]
      refine ⟨b, m, p, (p.1 + 60, p.2), rfl, hb, hdm, hfp, ?_⟩
      try simp only [decide_true, decide_false, Bool.not_true, Bool.not_false, startD, Nat.reduceLeDiff, List.map_cons, List.map_nil, List.length_cons, List.length_nil, Nat.reduceAdd, Nat.reduceSub, List.replicate, List.cons_append, List.nil_append, List.append_nil, sSeq, sRet, sRetN, sAsg, sDrop, sIf, sNext, sBreak, sCont, dOp, dVar, dC, dTup, dLst, aCons, aNil, dCB, dCall, dTest, dNotT, dAndT, dOrT, dAnd, dOr, dNot, dNeg, gNameD, gTupD, gsOf, gsCons, gsNil, gSubD, dSl, oNone, oSome, endsF, DEnds.kx, List.getElem?_cons_zero, List.getElem?_cons_succ, List.set_cons_zero, List.set_cons_succ, onS_some, add_int, sub_int, iad_int, mul_int, div_int, mod_int, pow_int, ban_int, bor_int, bxr_int, shl_int, shr_int, le_int', gt_int', ge_int', lt_int', eq_int', ne_int', dix_c0, dix_c1, dix_t0, dix_t1, sq_c, sq_t, isi_int, isi_int_bool, isi_tup, isi_bool, DL.abs_int, is_non, isnot_non, true_and, and_true, dBM, wipeD, mti_append, mti_lpop, mti_clear, mti_reverse, mti_get, mti_dpop, mti_setdefault]
      refine ⟨b, m, p, (p.1 + 60, p.2), rfl, hb, hdm, hfp, fun M4 le4 => ?_⟩
      try simp only [decide_true, decide_false, Bool.not_true, Bool.not_false, startD, Nat.reduceLeDiff, List.map_cons, List.map_nil, List.length_cons, List.length_nil, Nat.reduceAdd, Nat.reduceSub, List.replicate, List.cons_append, List.nil_append, List.append_nil, sSeq, sRet, sRetN, sAsg, sDrop, sIf, sNext, sBreak, sCont, dOp, dVar, dC, dTup, dLst, aCons, aNil, dCB, dCall, dTest, dNotT, dAndT, dOrT, dAnd, dOr, dNot, dNeg, gNameD, gTupD, gsOf, gsCons, gsNil, gSubD, dSl, oNone, oSome, endsF, DEnds.kx, List.getElem?_cons_zero, List.getElem?_cons_succ, List.set_cons_zero, List.set_cons_succ, onS_some, add_int, sub_int, iad_int, mul_int, div_int, mod_int, pow_int, ban_int, bor_int, bxr_int, shl_int, shr_int, le_int', gt_int', ge_int', lt_int', eq_int', ne_int', dix_c0, dix_c1, dix_t0, dix_t1, sq_c, sq_t, isi_int, isi_int_bool, isi_tup, isi_bool, DL.abs_int, is_non, isnot_non, true_and, and_true, dBM, wipeD, mti_append, mti_lpop, mti_clear, mti_reverse, mti_get, mti_dpop, mti_setdefault, j2_law]
      unfold dMk
      try simp only [decide_true, decide_false, Bool.not_true, Bool.not_false, startD, Nat.reduceLeDiff, List.map_cons, List.map_nil, List.length_cons, List.length_nil, Nat.reduceAdd, Nat.reduceSub, List.replicate, List.cons_append, List.nil_append, List.append_nil, sSeq, sRet, sRetN, sAsg, sDrop, sIf, sNext, sBreak, sCont, dOp, dVar, dC, dTup, dLst, aCons, aNil, dCB, dCall, dTest, dNotT, dAndT, dOrT, dAnd, dOr, dNot, dNeg, gNameD, gTupD, gsOf, gsCons, gsNil, gSubD, dSl, oNone, oSome, endsF, DEnds.kx, List.getElem?_cons_zero, List.getElem?_cons_succ, List.set_cons_zero, List.set_cons_succ, onS_some, add_int, sub_int, iad_int, mul_int, div_int, mod_int, pow_int, ban_int, bor_int, bxr_int, shl_int, shr_int, le_int', gt_int', ge_int', lt_int', eq_int', ne_int', dix_c0, dix_c1, dix_t0, dix_t1, sq_c, sq_t, isi_int, isi_int_bool, isi_tup, isi_bool, DL.abs_int, is_non, isnot_non, true_and, and_true, dBM, wipeD, mti_append, mti_lpop, mti_clear, mti_reverse, mti_get, mti_dpop, mti_setdefault]
      refine mk_cls fun q1 M5 le5 h1 => ?_
      try simp only [decide_true, decide_false, Bool.not_true, Bool.not_false, startD, Nat.reduceLeDiff, List.map_cons, List.map_nil, List.length_cons, List.length_nil, Nat.reduceAdd, Nat.reduceSub, List.replicate, List.cons_append, List.nil_append, List.append_nil, sSeq, sRet, sRetN, sAsg, sDrop, sIf, sNext, sBreak, sCont, dOp, dVar, dC, dTup, dLst, aCons, aNil, dCB, dCall, dTest, dNotT, dAndT, dOrT, dAnd, dOr, dNot, dNeg, gNameD, gTupD, gsOf, gsCons, gsNil, gSubD, dSl, oNone, oSome, endsF, DEnds.kx, List.getElem?_cons_zero, List.getElem?_cons_succ, List.set_cons_zero, List.set_cons_succ, onS_some, add_int, sub_int, iad_int, mul_int, div_int, mod_int, pow_int, ban_int, bor_int, bxr_int, shl_int, shr_int, le_int', gt_int', ge_int', lt_int', eq_int', ne_int', dix_c0, dix_c1, dix_t0, dix_t1, sq_c, sq_t, isi_int, isi_int_bool, isi_tup, isi_bool, DL.abs_int, is_non, isnot_non, true_and, and_true, dBM, wipeD, mti_append, mti_lpop, mti_clear, mti_reverse, mti_get, mti_dpop, mti_setdefault]
      refine mk_cls fun q2 M6 le6 h2 => ?_
      try simp only [decide_true, decide_false, Bool.not_true, Bool.not_false, startD, Nat.reduceLeDiff, List.map_cons, List.map_nil, List.length_cons, List.length_nil, Nat.reduceAdd, Nat.reduceSub, List.replicate, List.cons_append, List.nil_append, List.append_nil, sSeq, sRet, sRetN, sAsg, sDrop, sIf, sNext, sBreak, sCont, dOp, dVar, dC, dTup, dLst, aCons, aNil, dCB, dCall, dTest, dNotT, dAndT, dOrT, dAnd, dOr, dNot, dNeg, gNameD, gTupD, gsOf, gsCons, gsNil, gSubD, dSl, oNone, oSome, endsF, DEnds.kx, List.getElem?_cons_zero, List.getElem?_cons_succ, List.set_cons_zero, List.set_cons_succ, onS_some, add_int, sub_int, iad_int, mul_int, div_int, mod_int, pow_int, ban_int, bor_int, bxr_int, shl_int, shr_int, le_int', gt_int', ge_int', lt_int', eq_int', ne_int', dix_c0, dix_c1, dix_t0, dix_t1, sq_c, sq_t, isi_int, isi_int_bool, isi_tup, isi_bool, DL.abs_int, is_non, isnot_non, true_and, and_true, dBM, wipeD, mti_append, mti_lpop, mti_clear, mti_reverse, mti_get, mti_dpop, mti_setdefault]
      refine fun c1 hc1 => ⟨c1, q1, q2, rfl, up_same, rfl, ?_⟩
      rw [up_up]
      try simp only [decide_true, decide_false, Bool.not_true, Bool.not_false, startD, Nat.reduceLeDiff, List.map_cons, List.map_nil, List.length_cons, List.length_nil, Nat.reduceAdd, Nat.reduceSub, List.replicate, List.cons_append, List.nil_append, List.append_nil, sSeq, sRet, sRetN, sAsg, sDrop, sIf, sNext, sBreak, sCont, dOp, dVar, dC, dTup, dLst, aCons, aNil, dCB, dCall, dTest, dNotT, dAndT, dOrT, dAnd, dOr, dNot, dNeg, gNameD, gTupD, gsOf, gsCons, gsNil, gSubD, dSl, oNone, oSome, endsF, DEnds.kx, List.getElem?_cons_zero, List.getElem?_cons_succ, List.set_cons_zero, List.set_cons_succ, onS_some, add_int, sub_int, iad_int, mul_int, div_int, mod_int, pow_int, ban_int, bor_int, bxr_int, shl_int, shr_int, le_int', gt_int', ge_int', lt_int', eq_int', ne_int', dix_c0, dix_c1, dix_t0, dix_t1, sq_c, sq_t, isi_int, isi_int_bool, isi_tup, isi_bool, DL.abs_int, is_non, isnot_non, true_and, and_true, dBM, wipeD, mti_append, mti_lpop, mti_clear, mti_reverse, mti_get, mti_dpop, mti_setdefault]
      refine mk_cls fun q3 M7 le7 h3 => ?_
      try simp only [decide_true, decide_false, Bool.not_true, Bool.not_false, startD, Nat.reduceLeDiff, List.map_cons, List.map_nil, List.length_cons, List.length_nil, Nat.reduceAdd, Nat.reduceSub, List.replicate, List.cons_append, List.nil_append, List.append_nil, sSeq, sRet, sRetN, sAsg, sDrop, sIf, sNext, sBreak, sCont, dOp, dVar, dC, dTup, dLst, aCons, aNil, dCB, dCall, dTest, dNotT, dAndT, dOrT, dAnd, dOr, dNot, dNeg, gNameD, gTupD, gsOf, gsCons, gsNil, gSubD, dSl, oNone, oSome, endsF, DEnds.kx, List.getElem?_cons_zero, List.getElem?_cons_succ, List.set_cons_zero, List.set_cons_succ, onS_some, add_int, sub_int, iad_int, mul_int, div_int, mod_int, pow_int, ban_int, bor_int, bxr_int, shl_int, shr_int, le_int', gt_int', ge_int', lt_int', eq_int', ne_int', dix_c0, dix_c1, dix_t0, dix_t1, sq_c, sq_t, isi_int, isi_int_bool, isi_tup, isi_bool, DL.abs_int, is_non, isnot_non, true_and, and_true, dBM, wipeD, mti_append, mti_lpop, mti_clear, mti_reverse, mti_get, mti_dpop, mti_setdefault]
      refine mk_cls fun q4 M8 le8 h4 => ?_
      try simp only [decide_true, decide_false, Bool.not_true, Bool.not_false, startD, Nat.reduceLeDiff, List.map_cons, List.map_nil, List.length_cons, List.length_nil, Nat.reduceAdd, Nat.reduceSub, List.replicate, List.cons_append, List.nil_append, List.append_nil, sSeq, sRet, sRetN, sAsg, sDrop, sIf, sNext, sBreak, sCont, dOp, dVar, dC, dTup, dLst, aCons, aNil, dCB, dCall, dTest, dNotT, dAndT, dOrT, dAnd, dOr, dNot, dNeg, gNameD, gTupD, gsOf, gsCons, gsNil, gSubD, dSl, oNone, oSome, endsF, DEnds.kx, List.getElem?_cons_zero, List.getElem?_cons_succ, List.set_cons_zero, List.set_cons_succ, onS_some, add_int, sub_int, iad_int, mul_int, div_int, mod_int, pow_int, ban_int, bor_int, bxr_int, shl_int, shr_int, le_int', gt_int', ge_int', lt_int', eq_int', ne_int', dix_c0, dix_c1, dix_t0, dix_t1, sq_c, sq_t, isi_int, isi_int_bool, isi_tup, isi_bool, DL.abs_int, is_non, isnot_non, true_and, and_true, dBM, wipeD, mti_append, mti_lpop, mti_clear, mti_reverse, mti_get, mti_dpop, mti_setdefault]
      refine fun c2 hc2 => ⟨c2, q3, q4, rfl, up_same, rfl, ?_⟩
      rw [up_up]
      try simp only [decide_true, decide_false, Bool.not_true, Bool.not_false, startD, Nat.reduceLeDiff, List.map_cons, List.map_nil, List.length_cons, List.length_nil, Nat.reduceAdd, Nat.reduceSub, List.replicate, List.cons_append, List.nil_append, List.append_nil, sSeq, sRet, sRetN, sAsg, sDrop, sIf, sNext, sBreak, sCont, dOp, dVar, dC, dTup, dLst, aCons, aNil, dCB, dCall, dTest, dNotT, dAndT, dOrT, dAnd, dOr, dNot, dNeg, gNameD, gTupD, gsOf, gsCons, gsNil, gSubD, dSl, oNone, oSome, endsF, DEnds.kx, List.getElem?_cons_zero, List.getElem?_cons_succ, List.set_cons_zero, List.set_cons_succ, onS_some, add_int, sub_int, iad_int, mul_int, div_int, mod_int, pow_int, ban_int, bor_int, bxr_int, shl_int, shr_int, le_int', gt_int', ge_int', lt_int', eq_int', ne_int', dix_c0, dix_c1, dix_t0, dix_t1, sq_c, sq_t, isi_int, isi_int_bool, isi_tup, isi_bool, DL.abs_int, is_non, isnot_non, true_and, and_true, dBM, wipeD, mti_append, mti_lpop, mti_clear, mti_reverse, mti_get, mti_dpop, mti_setdefault]
      refine fun c3 hc3 => ⟨c3, c1, c2, rfl, up_same, rfl, ?_⟩
      rw [up_up]
      try simp only [decide_true, decide_false, Bool.not_true, Bool.not_false, startD, Nat.reduceLeDiff, List.map_cons, List.map_nil, List.length_cons, List.length_nil, Nat.reduceAdd, Nat.reduceSub, List.replicate, List.cons_append, List.nil_append, List.append_nil, sSeq, sRet, sRetN, sAsg, sDrop, sIf, sNext, sBreak, sCont, dOp, dVar, dC, dTup, dLst, aCons, aNil, dCB, dCall, dTest, dNotT, dAndT, dOrT, dAnd, dOr, dNot, dNeg, gNameD, gTupD, gsOf, gsCons, gsNil, gSubD, dSl, oNone, oSome, endsF, DEnds.kx, List.getElem?_cons_zero, List.getElem?_cons_succ, List.set_cons_zero, List.set_cons_succ, onS_some, add_int, sub_int, iad_int, mul_int, div_int, mod_int, pow_int, ban_int, bor_int, bxr_int, shl_int, shr_int, le_int', gt_int', ge_int', lt_int', eq_int', ne_int', dix_c0, dix_c1, dix_t0, dix_t1, sq_c, sq_t, isi_int, isi_int_bool, isi_tup, isi_bool, DL.abs_int, is_non, isnot_non, true_and, and_true, dBM, wipeD, mti_append, mti_lpop, mti_clear, mti_reverse, mti_get, mti_dpop, mti_setdefault]
      have l1 := le_up (o := .ins "Chain" [("first", .ref q1), ("second", .ref q2)]) hc1
      have l2 := le_up (o := .ins "Chain" [("first", .ref q3), ("second", .ref q4)]) hc2
      have l3 := le_up (o := .ins "Chain" [("first", .ref c1), ("second", .ref c2)]) hc3
      have lz := (l1.trans (le7.trans le8)).trans (l2.trans l3)
      have m1 : MvAt (up (up M8 c2 (.ins "Chain" [("first", .ref q3), ("second", .ref q4)])) c3 (.ins "Chain" [("first", .ref c1), ("second", .ref c2)])) c3 (.chain (.chain .quarter .quarter) (.chain .quarter .quarter)) :=
        ⟨c1, c2, up_same, ⟨q1, q2, (((le7.trans le8).trans l2).trans l3) _ _ up_same, lz _ _ (le6 _ _ h1), lz _ _ h2⟩, q3, q4, l3 _ _ up_same, (l2.trans l3) _ _ (le8 _ _ h3), (l2.trans l3) _ _ h4⟩
      have e4 : (Mv.chain (.chain .quarter .quarter) (.chain .quarter .quarter)).f p = p := by
        show ((0 : Int) - (0 - p.1), (0 : Int) - (0 - p.2)) = p
        rw [show (0 : Int) - (0 - p.1) = p.1 by omega, show (0 : Int) - (0 - p.2) = p.2 by omega]
      refine ⟨c3, _, p, p, rfl, m1, by decide, e4, ?_⟩
      try simp only [decide_true, decide_false, Bool.not_true, Bool.not_false, startD, Nat.reduceLeDiff, List.map_cons, List.map_nil, List.length_cons, List.length_nil, Nat.reduceAdd, Nat.reduceSub, List.replicate, List.cons_append, List.nil_append, List.append_nil, sSeq, sRet, sRetN, sAsg, sDrop, sIf, sNext, sBreak, sCont, dOp, dVar, dC, dTup, dLst, aCons, aNil, dCB, dCall, dTest, dNotT, dAndT, dOrT, dAnd, dOr, dNot, dNeg, gNameD, gTupD, gsOf, gsCons, gsNil, gSubD, dSl, oNone, oSome, endsF, DEnds.kx, List.getElem?_cons_zero, List.getElem?_cons_succ, List.set_cons_zero, List.set_cons_succ, onS_some, add_int, sub_int, iad_int, mul_int, div_int, mod_int, pow_int, ban_int, bor_int, bxr_int, shl_int, shr_int, le_int', gt_int', ge_int', lt_int', eq_int', ne_int', dix_c0, dix_c1, dix_t0, dix_t1, sq_c, sq_t, isi_int, isi_int_bool, isi_tup, isi_bool, DL.abs_int, is_non, isnot_non, true_and, and_true, dBM, wipeD, mti_append, mti_lpop, mti_clear, mti_reverse, mti_get, mti_dpop, mti_setdefault]
      refine mk_cls fun q5 M9 le9 h5 => ?_
      try simp only [decide_true, decide_false, Bool.not_true, Bool.not_false, startD, Nat.reduceLeDiff, List.map_cons, List.map_nil, List.length_cons, List.length_nil, Nat.reduceAdd, Nat.reduceSub, List.replicate, List.cons_append, List.nil_append, List.append_nil, sSeq, sRet, sRetN, sAsg, sDrop, sIf, sNext, sBreak, sCont, dOp, dVar, dC, dTup, dLst, aCons, aNil, dCB, dCall, dTest, dNotT, dAndT, dOrT, dAnd, dOr, dNot, dNeg, gNameD, gTupD, gsOf, gsCons, gsNil, gSubD, dSl, oNone, oSome, endsF, DEnds.kx, List.getElem?_cons_zero, List.getElem?_cons_succ, List.set_cons_zero, List.set_cons_succ, onS_some, add_int, sub_int, iad_int, mul_int, div_int, mod_int, pow_int, ban_int, bor_int, bxr_int, shl_int, shr_int, le_int', gt_int', ge_int', lt_int', eq_int', ne_int', dix_c0, dix_c1, dix_t0, dix_t1, sq_c, sq_t, isi_int, isi_int_bool, isi_tup, isi_bool, DL.abs_int, is_non, isnot_non, true_and, and_true, dBM, wipeD, mti_append, mti_lpop, mti_clear, mti_reverse, mti_get, mti_dpop, mti_setdefault]
      refine ⟨q5, .plain, p, p, rfl, h5, by decide, rfl, ?_⟩
      try simp only [decide_true, decide_false, Bool.not_true, Bool.not_false, startD, Nat.reduceLeDiff, List.map_cons, List.map_nil, List.length_cons, List.length_nil, Nat.reduceAdd, Nat.reduceSub, List.replicate, List.cons_append, List.nil_append, List.append_nil, sSeq, sRet, sRetN, sAsg, sDrop, sIf, sNext, sBreak, sCont, dOp, dVar, dC, dTup, dLst, aCons, aNil, dCB, dCall, dTest, dNotT, dAndT, dOrT, dAnd, dOr, dNot, dNeg, gNameD, gTupD, gsOf, gsCons, gsNil, gSubD, dSl, oNone, oSome, endsF, DEnds.kx, List.getElem?_cons_zero, List.getElem?_cons_succ, List.set_cons_zero, List.set_cons_succ, onS_some, add_int, sub_int, iad_int, mul_int, div_int, mod_int, pow_int, ban_int, bor_int, bxr_int, shl_int, shr_int, le_int', gt_int', ge_int', lt_int', eq_int', ne_int', dix_c0, dix_c1, dix_t0, dix_t1, sq_c, sq_t, isi_int, isi_int_bool, isi_tup, isi_bool, DL.abs_int, is_non, isnot_non, true_and, and_true, dBM, wipeD, mti_append, mti_lpop, mti_clear, mti_reverse, mti_get, mti_dpop, mti_setdefault]
      have lAll := (((base.trans le3).trans le4).trans (le5.trans le6)).trans (lz.trans le9)
      refine ⟨w, cs, p, rfl, ls_le lAll hit, hc0, hc20, fun M10 le10 => ?_⟩
      try simp only [decide_true, decide_false, Bool.not_true, Bool.not_false, startD, Nat.reduceLeDiff, List.map_cons, List.map_nil, List.length_cons, List.length_nil, Nat.reduceAdd, Nat.reduceSub, List.replicate, List.cons_append, List.nil_append, List.append_nil, sSeq, sRet, sRetN, sAsg, sDrop, sIf, sNext, sBreak, sCont, dOp, dVar, dC, dTup, dLst, aCons, aNil, dCB, dCall, dTest, dNotT, dAndT, dOrT, dAnd, dOr, dNot, dNeg, gNameD, gTupD, gsOf, gsCons, gsNil, gSubD, dSl, oNone, oSome, endsF, DEnds.kx, List.getElem?_cons_zero, List.getElem?_cons_succ, List.set_cons_zero, List.set_cons_succ, onS_some, add_int, sub_int, iad_int, mul_int, div_int, mod_int, pow_int, ban_int, bor_int, bxr_int, shl_int, shr_int, le_int', gt_int', ge_int', lt_int', eq_int', ne_int', dix_c0, dix_c1, dix_t0, dix_t1, sq_c, sq_t, isi_int, isi_int_bool, isi_tup, isi_bool, DL.abs_int, is_non, isnot_non, true_and, and_true, dBM, wipeD, mti_append, mti_lpop, mti_clear, mti_reverse, mti_get, mti_dpop, mti_setdefault]
      exact h _
end DL
namespace DL
open PySem PySem.Spec PyProof.Rows L2
def top (i : Nat) : Stmt := PySem.Challenge.pw_floortwos_k62_moves_of_cells.main.body.getD i (.Pass ⟨0, 0, 0, 0⟩)
def mthS (i : Nat) (m : Str) : Stmt := match top i with
  | .ClassDef _ _ _ body _ _ _ _ _ _ _ => (body.find? fun b => match b with
    | .FunctionDef n _ _ _ _ _ _ _ _ _ => decide (n = m)
    | _ => false).getD (.Pass ⟨0, 0, 0, 0⟩)
  | _ => .Pass ⟨0, 0, 0, 0⟩
def blN : List Str := ["range", "len", "isinstance", "int", "bool", "tuple"]
def exN : List Str := []
def ecN : List Str := []
theorem sc_Shift___init__ : FnScope ["self", "down", "right"] ["self", "down", "right"] (defScope (mthS 3 "__init__")) := ⟨rfl, rfl, rfl, by decide +kernel, rfl, by decide +kernel, by decide +kernel⟩
def gl_Shift___init__ : List (Str × GE) := []
theorem rd_Shift___init__ : (fun n : Nat => (rdN 40).S ⟨["self", "down", "right"], defScope (mthS 3 "__init__"), glOf gl_Shift___init__, blN, fun _ => true, true, exN, ecN, csI⟩ (defBody (mthS 3 "__init__"))) = fun _ => t_Shift___init__ := by kernel_rfl
theorem sc_Chain___init__ : FnScope ["self", "first", "second"] ["self", "first", "second"] (defScope (mthS 7 "__init__")) := ⟨rfl, rfl, rfl, by decide +kernel, rfl, by decide +kernel, by decide +kernel⟩
def gl_Chain___init__ : List (Str × GE) := []
theorem rd_Chain___init__ : (fun n : Nat => (rdN 40).S ⟨["self", "first", "second"], defScope (mthS 7 "__init__"), glOf gl_Chain___init__, blN, fun _ => true, true, exN, ecN, csI⟩ (defBody (mthS 7 "__init__"))) = fun _ => t_Chain___init__ := by kernel_rfl
theorem sc_law_cell_at : FnScope ["_law_script", "_law_k"] ["_law_script", "_law_k"] (defScope (top 9)) := ⟨rfl, rfl, rfl, by decide +kernel, rfl, by decide +kernel, by decide +kernel⟩
def gl_law_cell_at : List (Str × GE) := []
theorem rd_law_cell_at : (rdN 40).S ⟨["_law_script", "_law_k"], defScope (top 9), glOf gl_law_cell_at, blN, fun _ => true, true, exN, ecN, .no⟩ (defBody (top 9)) = t_law_cell_at := by kernel_rfl
theorem sc_law_whole : FnScope ["_law_found"] ["_law_found"] (defScope (top 10)) := ⟨rfl, rfl, rfl, by decide +kernel, rfl, by decide +kernel, by decide +kernel⟩
def gl_law_whole : List (Str × GE) := []
theorem rd_law_whole : (rdN 40).S ⟨["_law_found"], defScope (top 10), glOf gl_law_whole, blN, fun _ => true, true, exN, ecN, .no⟩ (defBody (top 10)) = t_law_whole := by kernel_rfl
theorem sc_law_far : FnScope ["_law_cell"] ["_law_cell"] (defScope (top 11)) := ⟨rfl, rfl, rfl, by decide +kernel, rfl, by decide +kernel, by decide +kernel⟩
def gl_law_far : List (Str × GE) := []
theorem rd_law_far : (rdN 40).S ⟨["_law_cell"], defScope (top 11), glOf gl_law_far, blN, fun _ => true, true, exN, ecN, .no⟩ (defBody (top 11)) = t_law_far := by kernel_rfl
theorem sc_Move_on_cell : FnScope ["self", "cell"] ["self", "cell"] (defScope (mthS 2 "on_cell")) := ⟨rfl, rfl, rfl, by decide +kernel, rfl, by decide +kernel, by decide +kernel⟩
def gl_Move_on_cell : List (Str × GE) := []
theorem rd_Move_on_cell : (fun n : Nat => (rdN 40).S ⟨["self", "cell"], defScope (mthS 2 "on_cell"), glOf gl_Move_on_cell, blN, fun _ => true, true, exN, ecN, (csN n)⟩ (defBody (mthS 2 "on_cell"))) = fun _ => t_Move_on_cell := by kernel_rfl
theorem sc_Move_back : FnScope ["self"] ["self"] (defScope (mthS 2 "back")) := ⟨rfl, rfl, rfl, by decide +kernel, rfl, by decide +kernel, by decide +kernel⟩
def gl_Move_back : List (Str × GE) := []
theorem rd_Move_back : (fun n : Nat => (rdN 40).S ⟨["self"], defScope (mthS 2 "back"), glOf gl_Move_back, blN, fun _ => true, true, exN, ecN, (csN n)⟩ (defBody (mthS 2 "back"))) = fun _ => t_Move_back := by kernel_rfl
theorem sc_Shift_on_cell : FnScope ["self", "cell"] ["self", "cell"] (defScope (mthS 3 "on_cell")) := ⟨rfl, rfl, rfl, by decide +kernel, rfl, by decide +kernel, by decide +kernel⟩
def gl_Shift_on_cell : List (Str × GE) := []
theorem rd_Shift_on_cell : (fun n : Nat => (rdN 40).S ⟨["self", "cell"], defScope (mthS 3 "on_cell"), glOf gl_Shift_on_cell, blN, fun _ => true, true, exN, ecN, (csN n)⟩ (defBody (mthS 3 "on_cell"))) = fun _ => t_Shift_on_cell := by kernel_rfl
theorem sc_Shift_back : FnScope ["self"] ["self"] (defScope (mthS 3 "back")) := ⟨rfl, rfl, rfl, by decide +kernel, rfl, by decide +kernel, by decide +kernel⟩
def gl_Shift_back : List (Str × GE) := []
theorem rd_Shift_back : (fun n : Nat => (rdN 40).S ⟨["self"], defScope (mthS 3 "back"), glOf gl_Shift_back, blN, fun _ => true, true, exN, ecN, (csN n)⟩ (defBody (mthS 3 "back"))) = fun _ => t_Shift_back := by kernel_rfl
theorem sc_Quarter_on_cell : FnScope ["self", "cell"] ["self", "cell"] (defScope (mthS 4 "on_cell")) := ⟨rfl, rfl, rfl, by decide +kernel, rfl, by decide +kernel, by decide +kernel⟩
def gl_Quarter_on_cell : List (Str × GE) := []
theorem rd_Quarter_on_cell : (fun n : Nat => (rdN 40).S ⟨["self", "cell"], defScope (mthS 4 "on_cell"), glOf gl_Quarter_on_cell, blN, fun _ => true, true, exN, ecN, (csN n)⟩ (defBody (mthS 4 "on_cell"))) = fun _ => t_Quarter_on_cell := by kernel_rfl
theorem sc_Quarter_back : FnScope ["self"] ["self"] (defScope (mthS 4 "back")) := ⟨rfl, rfl, rfl, by decide +kernel, rfl, by decide +kernel, by decide +kernel⟩
def gl_Quarter_back : List (Str × GE) := []
theorem rd_Quarter_back : (fun n : Nat => (rdN 40).S ⟨["self"], defScope (mthS 4 "back"), glOf gl_Quarter_back, blN, fun _ => true, true, exN, ecN, (csN n)⟩ (defBody (mthS 4 "back"))) = fun _ => t_Quarter_back := by kernel_rfl
theorem sc_QuarterBack_on_cell : FnScope ["self", "cell"] ["self", "cell"] (defScope (mthS 5 "on_cell")) := ⟨rfl, rfl, rfl, by decide +kernel, rfl, by decide +kernel, by decide +kernel⟩
def gl_QuarterBack_on_cell : List (Str × GE) := []
theorem rd_QuarterBack_on_cell : (fun n : Nat => (rdN 40).S ⟨["self", "cell"], defScope (mthS 5 "on_cell"), glOf gl_QuarterBack_on_cell, blN, fun _ => true, true, exN, ecN, (csN n)⟩ (defBody (mthS 5 "on_cell"))) = fun _ => t_QuarterBack_on_cell := by kernel_rfl
theorem sc_QuarterBack_back : FnScope ["self"] ["self"] (defScope (mthS 5 "back")) := ⟨rfl, rfl, rfl, by decide +kernel, rfl, by decide +kernel, by decide +kernel⟩
def gl_QuarterBack_back : List (Str × GE) := []
theorem rd_QuarterBack_back : (fun n : Nat => (rdN 40).S ⟨["self"], defScope (mthS 5 "back"), glOf gl_QuarterBack_back, blN, fun _ => true, true, exN, ecN, (csN n)⟩ (defBody (mthS 5 "back"))) = fun _ => t_QuarterBack_back := by kernel_rfl
theorem sc_Mirror_on_cell : FnScope ["self", "cell"] ["self", "cell"] (defScope (mthS 6 "on_cell")) := ⟨rfl, rfl, rfl, by decide +kernel, rfl, by decide +kernel, by decide +kernel⟩
def gl_Mirror_on_cell : List (Str × GE) := []
theorem rd_Mirror_on_cell : (fun n : Nat => (rdN 40).S ⟨["self", "cell"], defScope (mthS 6 "on_cell"), glOf gl_Mirror_on_cell, blN, fun _ => true, true, exN, ecN, (csN n)⟩ (defBody (mthS 6 "on_cell"))) = fun _ => t_Mirror_on_cell := by kernel_rfl
theorem sc_Mirror_back : FnScope ["self"] ["self"] (defScope (mthS 6 "back")) := ⟨rfl, rfl, rfl, by decide +kernel, rfl, by decide +kernel, by decide +kernel⟩
def gl_Mirror_back : List (Str × GE) := []
theorem rd_Mirror_back : (fun n : Nat => (rdN 40).S ⟨["self"], defScope (mthS 6 "back"), glOf gl_Mirror_back, blN, fun _ => true, true, exN, ecN, (csN n)⟩ (defBody (mthS 6 "back"))) = fun _ => t_Mirror_back := by kernel_rfl
theorem sc_Chain_on_cell : FnScope ["self", "cell"] ["self", "cell"] (defScope (mthS 7 "on_cell")) := ⟨rfl, rfl, rfl, by decide +kernel, rfl, by decide +kernel, by decide +kernel⟩
def gl_Chain_on_cell : List (Str × GE) := []
theorem rd_Chain_on_cell : (fun n : Nat => (rdN 40).S ⟨["self", "cell"], defScope (mthS 7 "on_cell"), glOf gl_Chain_on_cell, blN, fun _ => true, true, exN, ecN, (csN n)⟩ (defBody (mthS 7 "on_cell"))) = t_Chain_on_cell := by kernel_rfl
theorem sc_Chain_back : FnScope ["self"] ["self"] (defScope (mthS 7 "back")) := ⟨rfl, rfl, rfl, by decide +kernel, rfl, by decide +kernel, by decide +kernel⟩
def gl_Chain_back : List (Str × GE) := []
theorem rd_Chain_back : (fun n : Nat => (rdN 40).S ⟨["self"], defScope (mthS 7 "back"), glOf gl_Chain_back, blN, fun _ => true, true, exN, ecN, (csN n)⟩ (defBody (mthS 7 "back"))) = t_Chain_back := by kernel_rfl
theorem sc_law_to : FnScope ["_law_cell", "_law_spot", "_law_kind", "_law_row", "_law_column"] ["_law_cell", "_law_spot"] (defScope (top 13)) := ⟨rfl, rfl, rfl, by decide +kernel, rfl, by decide +kernel, by decide +kernel⟩
def gl_law_to : List (Str × GE) := [("_law_far", .fn 1 [] sp_law_far)]
theorem rd_law_to : (rdN 40).S ⟨["_law_cell", "_law_spot", "_law_kind", "_law_row", "_law_column"], defScope (top 13), glOf gl_law_to, blN, fun _ => true, true, exN, ecN, .no⟩ (defBody (top 13)) = t_law_to := by kernel_rfl
theorem sc_law_is_cell : FnScope ["_law_found"] ["_law_found"] (defScope (top 14)) := ⟨rfl, rfl, rfl, by decide +kernel, rfl, by decide +kernel, by decide +kernel⟩
def gl_law_is_cell : List (Str × GE) := [("_law_whole", .fn 1 [] sp_law_whole)]
theorem rd_law_is_cell : (rdN 40).S ⟨["_law_found"], defScope (top 14), glOf gl_law_is_cell, blN, fun _ => true, true, exN, ecN, .no⟩ (defBody (top 14)) = t_law_is_cell := by kernel_rfl
theorem sc_law_move : FnScope ["_law_cell", "_law_kind"] ["_law_cell"] (defScope (top 12)) := ⟨rfl, rfl, rfl, by decide +kernel, rfl, by decide +kernel, by decide +kernel⟩
def gl_law_move : List (Str × GE) := [("_law_far", .fn 1 [] sp_law_far)]
theorem rd_law_move : (fun n : Nat => (rdN 40).S ⟨["_law_cell", "_law_kind"], defScope (top 12), glOf gl_law_move, blN, fun _ => true, true, exN, ecN, (csN n)⟩ (defBody (top 12))) = fun _ => t_law_move := by kernel_rfl
theorem sc_law_there : FnScope ["_law_move_here", "_law_spot", "_law_due", "_law_found"] ["_law_move_here", "_law_spot", "_law_due"] (defScope (top 15)) := ⟨rfl, rfl, rfl, by decide +kernel, rfl, by decide +kernel, by decide +kernel⟩
def gl_law_there : List (Str × GE) := [("_law_is_cell", .fn 1 [] sp_law_is_cell)]
theorem rd_law_there : (fun n : Nat => (rdN 40).S ⟨["_law_move_here", "_law_spot", "_law_due", "_law_found"], defScope (top 15), glOf gl_law_there, blN, fun _ => true, true, exN, ecN, (csN n)⟩ (defBody (top 15))) = t_law_there := by kernel_rfl
theorem sc_law_back : FnScope ["_law_move_here", "_law_spot", "_law_due", "_law_back_here"] ["_law_move_here", "_law_spot", "_law_due"] (defScope (top 16)) := ⟨rfl, rfl, rfl, by decide +kernel, rfl, by decide +kernel, by decide +kernel⟩
def gl_law_back : List (Str × GE) := [("_law_there", .fn 3 [] sp_law_there)]
theorem rd_law_back : (fun n : Nat => (rdN 40).S ⟨["_law_move_here", "_law_spot", "_law_due", "_law_back_here"], defScope (top 16), glOf gl_law_back, blN, fun _ => true, true, exN, ecN, (csN n)⟩ (defBody (top 16))) = t_law_back := by kernel_rfl
theorem sc_law_chained : FnScope ["_law_cells", "_law_spot", "_law_chain", "_law_order", "_law_cell", "_law_one", "_law_due"] ["_law_cells", "_law_spot"] (defScope (top 17)) := ⟨rfl, rfl, rfl, by decide +kernel, rfl, by decide +kernel, by decide +kernel⟩
def gl_law_chained : List (Str × GE) := [("_law_move", .fn 1 [] sp_law_move), ("_law_to", .fn 2 [] sp_law_to), ("_law_there", .fn 3 [] sp_law_there), ("_law_back", .fn 3 [] sp_law_back)]
theorem rd_law_chained : (fun n : Nat => (rdN 40).S ⟨["_law_cells", "_law_spot", "_law_chain", "_law_order", "_law_cell", "_law_one", "_law_due"], defScope (top 17), glOf gl_law_chained, blN, fun _ => true, true, exN, ecN, (csN n)⟩ (defBody (top 17))) = fun _ => t_law_chained := by kernel_rfl
theorem sc_law : FnScope ["_law_script", "_law_size", "_law_spot", "_law_cells", "_law_cell", "_law_many", "_law_k", "_law_side", "_law_due", "_law_four"] ["_law_script"] (defScope (top 18)) := ⟨rfl, rfl, rfl, by decide +kernel, rfl, by decide +kernel, by decide +kernel⟩
def gl_law : List (Str × GE) := [("_law_cell_at", .fn 2 [] sp_law_cell_at), ("_law_there", .fn 3 [] sp_law_there), ("_law_move", .fn 1 [] sp_law_move), ("_law_to", .fn 2 [] sp_law_to), ("_law_back", .fn 3 [] sp_law_back), ("_law_chained", .fn 2 [] sp_law_chained)]
theorem rd_law : (fun n : Nat => (rdN 40).S ⟨["_law_script", "_law_size", "_law_spot", "_law_cells", "_law_cell", "_law_many", "_law_k", "_law_side", "_law_due", "_law_four"], defScope (top 18), glOf gl_law, blN, fun _ => true, true, exN, ecN, (csN n)⟩ (defBody (top 18))) = fun _ => t_law := by kernel_rfl
section
variable {P : Program} {w : World} {K : PySem.W.Frag} {mg : Str → Option Value} {base : Heap} {f : Addr} {fd : FuncData}
theorem ok_Shift___init__ (F : FunD K "__init__" "Shift.__init__" (defArgs (mthS 3 "__init__")) (defBody (mthS 3 "__init__")) (defScope (mthS 3 "__init__")) [] [] f fd) (XO : XOk K mg exN ecN) (hb : ∀ x ∈ blN, mg x = none)   (CS : CsOk P w K mg base 0 csI) : FnOk P w K mg base (L2.CX P w) 1 f fd ["self", "down", "right"] (toSp P w K 3 sp_Shift___init__) :=
  def_okC (k := 0) F sc_Shift___init__ (gok_nil hb : GOk P w K mg base 0 (glOf gl_Shift___init__) blN) XO CS (congrFun rd_Shift___init__ 64) fun ds M K KX _ h => p_Shift___init__ ds M K KX h
theorem ok_Chain___init__ (F : FunD K "__init__" "Chain.__init__" (defArgs (mthS 7 "__init__")) (defBody (mthS 7 "__init__")) (defScope (mthS 7 "__init__")) [] [] f fd) (XO : XOk K mg exN ecN) (hb : ∀ x ∈ blN, mg x = none)   (CS : CsOk P w K mg base 0 csI) : FnOk P w K mg base (L2.CX P w) 1 f fd ["self", "first", "second"] (toSp P w K 3 sp_Chain___init__) :=
  def_okC (k := 0) F sc_Chain___init__ (gok_nil hb : GOk P w K mg base 0 (glOf gl_Chain___init__) blN) XO CS (congrFun rd_Chain___init__ 64) fun ds M K KX _ h => p_Chain___init__ ds M K KX h
theorem ok_law_cell_at (F : FunD K "_law_cell_at" "_law_cell_at" (defArgs (top 9)) (defBody (top 9)) (defScope (top 9)) [] [] f fd) (XO : XOk K mg exN ecN) (hb : ∀ x ∈ blN, mg x = none)   : FnOk P w K mg base (L2.CX P w) 1 f fd ["_law_script", "_law_k"] (toSp P w K 2 sp_law_cell_at) :=
  def_ok (k := 0) F sc_law_cell_at (gok_nil hb : GOk P w K mg base 0 (glOf gl_law_cell_at) blN) XO rd_law_cell_at fun ds M K KX _ h => p_law_cell_at ds M K KX h
theorem ok_law_whole (F : FunD K "_law_whole" "_law_whole" (defArgs (top 10)) (defBody (top 10)) (defScope (top 10)) [] [] f fd) (XO : XOk K mg exN ecN) (hb : ∀ x ∈ blN, mg x = none)   : FnOk P w K mg base (L2.CX P w) 1 f fd ["_law_found"] (toSp P w K 1 sp_law_whole) :=
  def_ok (k := 0) F sc_law_whole (gok_nil hb : GOk P w K mg base 0 (glOf gl_law_whole) blN) XO rd_law_whole fun ds M K KX _ h => p_law_whole ds M K KX h
theorem ok_law_far (F : FunD K "_law_far" "_law_far" (defArgs (top 11)) (defBody (top 11)) (defScope (top 11)) [] [] f fd) (XO : XOk K mg exN ecN) (hb : ∀ x ∈ blN, mg x = none)   : FnOk P w K mg base (L2.CX P w) 1 f fd ["_law_cell"] (toSp P w K 1 sp_law_far) :=
  def_ok (k := 0) F sc_law_far (gok_nil hb : GOk P w K mg base 0 (glOf gl_law_far) blN) XO rd_law_far fun ds M K KX _ h => p_law_far ds M K KX h
theorem ok_Move_on_cell {k n : Nat} {C : Str} (F : FunD K "on_cell" "Move.on_cell" (defArgs (mthS 2 "on_cell")) (defBody (mthS 2 "on_cell")) (defScope (mthS 2 "on_cell")) [] [] f fd) (XO : XOk K mg exN ecN) (hb : ∀ x ∈ blN, mg x = none)   (CS : CsOk P w K mg base k (csN n)) (hC : C = "Move") : FnOk P w K mg base (L2.CX P w) (k + 1) f fd ["self", "cell"] (toSp P w K 2 (sp_on_cell (n + 1) C)) :=
  def_okC (k := k) F sc_Move_on_cell (gok_nil hb : GOk P w K mg base k (glOf gl_Move_on_cell) blN) XO CS (congrFun rd_Move_on_cell n) fun ds M K KX _ h => p_Move_on_cell n ds M K KX (by subst hC; exact h)
theorem ok_Move_back {k n : Nat} {C : Str} (F : FunD K "back" "Move.back" (defArgs (mthS 2 "back")) (defBody (mthS 2 "back")) (defScope (mthS 2 "back")) [] [] f fd) (XO : XOk K mg exN ecN) (hb : ∀ x ∈ blN, mg x = none)   (CS : CsOk P w K mg base k (csN n)) (hC : C = "Move") : FnOk P w K mg base (L2.CX P w) (k + 1) f fd ["self"] (toSp P w K 1 (sp_back (n + 1) C)) :=
  def_okC (k := k) F sc_Move_back (gok_nil hb : GOk P w K mg base k (glOf gl_Move_back) blN) XO CS (congrFun rd_Move_back n) fun ds M K KX _ h => p_Move_back n ds M K KX (by subst hC; exact h)
theorem ok_Shift_on_cell {k n : Nat} {C : Str} (F : FunD K "on_cell" "Shift.on_cell" (defArgs (mthS 3 "on_cell")) (defBody (mthS 3 "on_cell")) (defScope (mthS 3 "on_cell")) [] [] f fd) (XO : XOk K mg exN ecN) (hb : ∀ x ∈ blN, mg x = none)   (CS : CsOk P w K mg base k (csN n)) (hC : C = "Shift") : FnOk P w K mg base (L2.CX P w) (k + 1) f fd ["self", "cell"] (toSp P w K 2 (sp_on_cell (n + 1) C)) :=
  def_okC (k := k) F sc_Shift_on_cell (gok_nil hb : GOk P w K mg base k (glOf gl_Shift_on_cell) blN) XO CS (congrFun rd_Shift_on_cell n) fun ds M K KX _ h => p_Shift_on_cell n ds M K KX (by subst hC; exact h)
theorem ok_Shift_back {k n : Nat} {C : Str} (F : FunD K "back" "Shift.back" (defArgs (mthS 3 "back")) (defBody (mthS 3 "back")) (defScope (mthS 3 "back")) [] [] f fd) (XO : XOk K mg exN ecN) (hb : ∀ x ∈ blN, mg x = none)   (CS : CsOk P w K mg base k (csN n)) (hC : C = "Shift") : FnOk P w K mg base (L2.CX P w) (k + 1) f fd ["self"] (toSp P w K 1 (sp_back (n + 1) C)) :=
  def_okC (k := k) F sc_Shift_back (gok_nil hb : GOk P w K mg base k (glOf gl_Shift_back) blN) XO CS (congrFun rd_Shift_back n) fun ds M K KX _ h => p_Shift_back n ds M K KX (by subst hC; exact h)
theorem ok_Quarter_on_cell {k n : Nat} {C : Str} (F : FunD K "on_cell" "Quarter.on_cell" (defArgs (mthS 4 "on_cell")) (defBody (mthS 4 "on_cell")) (defScope (mthS 4 "on_cell")) [] [] f fd) (XO : XOk K mg exN ecN) (hb : ∀ x ∈ blN, mg x = none)   (CS : CsOk P w K mg base k (csN n)) (hC : C = "Quarter") : FnOk P w K mg base (L2.CX P w) (k + 1) f fd ["self", "cell"] (toSp P w K 2 (sp_on_cell (n + 1) C)) :=
  def_okC (k := k) F sc_Quarter_on_cell (gok_nil hb : GOk P w K mg base k (glOf gl_Quarter_on_cell) blN) XO CS (congrFun rd_Quarter_on_cell n) fun ds M K KX _ h => p_Quarter_on_cell n ds M K KX (by subst hC; exact h)
theorem ok_Quarter_back {k n : Nat} {C : Str} (F : FunD K "back" "Quarter.back" (defArgs (mthS 4 "back")) (defBody (mthS 4 "back")) (defScope (mthS 4 "back")) [] [] f fd) (XO : XOk K mg exN ecN) (hb : ∀ x ∈ blN, mg x = none)   (CS : CsOk P w K mg base k (csN n)) (hC : C = "Quarter") : FnOk P w K mg base (L2.CX P w) (k + 1) f fd ["self"] (toSp P w K 1 (sp_back (n + 1) C)) :=
  def_okC (k := k) F sc_Quarter_back (gok_nil hb : GOk P w K mg base k (glOf gl_Quarter_back) blN) XO CS (congrFun rd_Quarter_back n) fun ds M K KX _ h => p_Quarter_back n ds M K KX (by subst hC; exact h)
theorem ok_QuarterBack_on_cell {k n : Nat} {C : Str} (F : FunD K "on_cell" "QuarterBack.on_cell" (defArgs (mthS 5 "on_cell")) (defBody (mthS 5 "on_cell")) (defScope (mthS 5 "on_cell")) [] [] f fd) (XO : XOk K mg exN ecN) (hb : ∀ x ∈ blN, mg x = none)   (CS : CsOk P w K mg base k (csN n)) (hC : C = "QuarterBack") : FnOk P w K mg base (L2.CX P w) (k + 1) f fd ["self", "cell"] (toSp P w K 2 (sp_on_cell (n + 1) C)) :=
  def_okC (k := k) F sc_QuarterBack_on_cell (gok_nil hb : GOk P w K mg base k (glOf gl_QuarterBack_on_cell) blN) XO CS (congrFun rd_QuarterBack_on_cell n) fun ds M K KX _ h => p_QuarterBack_on_cell n ds M K KX (by subst hC; exact h)
theorem ok_QuarterBack_back {k n : Nat} {C : Str} (F : FunD K "back" "QuarterBack.back" (defArgs (mthS 5 "back")) (defBody (mthS 5 "back")) (defScope (mthS 5 "back")) [] [] f fd) (XO : XOk K mg exN ecN) (hb : ∀ x ∈ blN, mg x = none)   (CS : CsOk P w K mg base k (csN n)) (hC : C = "QuarterBack") : FnOk P w K mg base (L2.CX P w) (k + 1) f fd ["self"] (toSp P w K 1 (sp_back (n + 1) C)) :=
  def_okC (k := k) F sc_QuarterBack_back (gok_nil hb : GOk P w K mg base k (glOf gl_QuarterBack_back) blN) XO CS (congrFun rd_QuarterBack_back n) fun ds M K KX _ h => p_QuarterBack_back n ds M K KX (by subst hC; exact h)
theorem ok_Mirror_on_cell {k n : Nat} {C : Str} (F : FunD K "on_cell" "Mirror.on_cell" (defArgs (mthS 6 "on_cell")) (defBody (mthS 6 "on_cell")) (defScope (mthS 6 "on_cell")) [] [] f fd) (XO : XOk K mg exN ecN) (hb : ∀ x ∈ blN, mg x = none)   (CS : CsOk P w K mg base k (csN n)) (hC : C = "Mirror") : FnOk P w K mg base (L2.CX P w) (k + 1) f fd ["self", "cell"] (toSp P w K 2 (sp_on_cell (n + 1) C)) :=
  def_okC (k := k) F sc_Mirror_on_cell (gok_nil hb : GOk P w K mg base k (glOf gl_Mirror_on_cell) blN) XO CS (congrFun rd_Mirror_on_cell n) fun ds M K KX _ h => p_Mirror_on_cell n ds M K KX (by subst hC; exact h)
theorem ok_Mirror_back {k n : Nat} {C : Str} (F : FunD K "back" "Mirror.back" (defArgs (mthS 6 "back")) (defBody (mthS 6 "back")) (defScope (mthS 6 "back")) [] [] f fd) (XO : XOk K mg exN ecN) (hb : ∀ x ∈ blN, mg x = none)   (CS : CsOk P w K mg base k (csN n)) (hC : C = "Mirror") : FnOk P w K mg base (L2.CX P w) (k + 1) f fd ["self"] (toSp P w K 1 (sp_back (n + 1) C)) :=
  def_okC (k := k) F sc_Mirror_back (gok_nil hb : GOk P w K mg base k (glOf gl_Mirror_back) blN) XO CS (congrFun rd_Mirror_back n) fun ds M K KX _ h => p_Mirror_back n ds M K KX (by subst hC; exact h)
theorem ok_Chain_on_cell {k n : Nat} {C : Str} (F : FunD K "on_cell" "Chain.on_cell" (defArgs (mthS 7 "on_cell")) (defBody (mthS 7 "on_cell")) (defScope (mthS 7 "on_cell")) [] [] f fd) (XO : XOk K mg exN ecN) (hb : ∀ x ∈ blN, mg x = none)   (CS : CsOk P w K mg base k (csN n)) (hC : C = "Chain") : FnOk P w K mg base (L2.CX P w) (k + 1) f fd ["self", "cell"] (toSp P w K 2 (sp_on_cell (n + 1) C)) :=
  def_okC (k := k) F sc_Chain_on_cell (gok_nil hb : GOk P w K mg base k (glOf gl_Chain_on_cell) blN) XO CS (congrFun rd_Chain_on_cell n) fun ds M K KX _ h => p_Chain_on_cell n ds M K KX (by subst hC; exact h)
theorem ok_Chain_back {k n : Nat} {C : Str} (F : FunD K "back" "Chain.back" (defArgs (mthS 7 "back")) (defBody (mthS 7 "back")) (defScope (mthS 7 "back")) [] [] f fd) (XO : XOk K mg exN ecN) (hb : ∀ x ∈ blN, mg x = none)   (CS : CsOk P w K mg base k (csN n)) (hC : C = "Chain") : FnOk P w K mg base (L2.CX P w) (k + 1) f fd ["self"] (toSp P w K 1 (sp_back (n + 1) C)) :=
  def_okC (k := k) F sc_Chain_back (gok_nil hb : GOk P w K mg base k (glOf gl_Chain_back) blN) XO CS (congrFun rd_Chain_back n) fun ds M K KX _ h => p_Chain_back n ds M K KX (by subst hC; exact h)
theorem ok_law_to (F : FunD K "_law_to" "_law_to" (defArgs (top 13)) (defBody (top 13)) (defScope (top 13)) [] [] f fd) (XO : XOk K mg exN ecN) (hb : ∀ x ∈ blN, mg x = none) (h_law_far : FnE P w K mg base 1 "_law_far" 1 [] sp_law_far)  : FnOk P w K mg base (L2.CX P w) 2 f fd ["_law_cell", "_law_spot"] (toSp P w K 2 sp_law_to) :=
  def_ok (k := 1) F sc_law_to (gok_fn (gok_nil hb) (h_law_far.mono (by decide)) : GOk P w K mg base 1 (glOf gl_law_to) blN) XO rd_law_to fun ds M K KX _ h => p_law_to ds M K KX h
theorem ok_law_is_cell (F : FunD K "_law_is_cell" "_law_is_cell" (defArgs (top 14)) (defBody (top 14)) (defScope (top 14)) [] [] f fd) (XO : XOk K mg exN ecN) (hb : ∀ x ∈ blN, mg x = none) (h_law_whole : FnE P w K mg base 1 "_law_whole" 1 [] sp_law_whole)  : FnOk P w K mg base (L2.CX P w) 2 f fd ["_law_found"] (toSp P w K 1 sp_law_is_cell) :=
  def_ok (k := 1) F sc_law_is_cell (gok_fn (gok_nil hb) (h_law_whole.mono (by decide)) : GOk P w K mg base 1 (glOf gl_law_is_cell) blN) XO rd_law_is_cell fun ds M K KX _ h => p_law_is_cell ds M K KX h
theorem ok_law_move (F : FunD K "_law_move" "_law_move" (defArgs (top 12)) (defBody (top 12)) (defScope (top 12)) [] [] f fd) (XO : XOk K mg exN ecN) (hb : ∀ x ∈ blN, mg x = none) (h_law_far : FnE P w K mg base 1 "_law_far" 1 [] sp_law_far)  (CS : CsOk P w K mg base 66 (csN 64)) : FnOk P w K mg base (L2.CX P w) 67 f fd ["_law_cell"] (toSp P w K 1 sp_law_move) :=
  def_okC (k := 66) F sc_law_move (gok_fn (gok_nil hb) (h_law_far.mono (by decide)) : GOk P w K mg base 66 (glOf gl_law_move) blN) XO CS (congrFun rd_law_move 64) fun ds M K KX _ h => p_law_move ds M K KX h
theorem ok_law_there (F : FunD K "_law_there" "_law_there" (defArgs (top 15)) (defBody (top 15)) (defScope (top 15)) [] [] f fd) (XO : XOk K mg exN ecN) (hb : ∀ x ∈ blN, mg x = none) (h_law_is_cell : FnE P w K mg base 2 "_law_is_cell" 1 [] sp_law_is_cell)  (CS : CsOk P w K mg base 66 (csN 64)) : FnOk P w K mg base (L2.CX P w) 67 f fd ["_law_move_here", "_law_spot", "_law_due"] (toSp P w K 3 sp_law_there) :=
  def_okC (k := 66) F sc_law_there (gok_fn (gok_nil hb) (h_law_is_cell.mono (by decide)) : GOk P w K mg base 66 (glOf gl_law_there) blN) XO CS (congrFun rd_law_there 64) fun ds M K KX _ h => p_law_there ds M K KX h
theorem ok_law_back (F : FunD K "_law_back" "_law_back" (defArgs (top 16)) (defBody (top 16)) (defScope (top 16)) [] [] f fd) (XO : XOk K mg exN ecN) (hb : ∀ x ∈ blN, mg x = none) (h_law_there : FnE P w K mg base 67 "_law_there" 3 [] sp_law_there)  (CS : CsOk P w K mg base 67 (csN 64)) : FnOk P w K mg base (L2.CX P w) 68 f fd ["_law_move_here", "_law_spot", "_law_due"] (toSp P w K 3 sp_law_back) :=
  def_okC (k := 67) F sc_law_back (gok_fn (gok_nil hb) (h_law_there.mono (by decide)) : GOk P w K mg base 67 (glOf gl_law_back) blN) XO CS (congrFun rd_law_back 64) fun ds M K KX _ h => p_law_back ds M K KX h
theorem ok_law_chained (F : FunD K "_law_chained" "_law_chained" (defArgs (top 17)) (defBody (top 17)) (defScope (top 17)) [] [] f fd) (XO : XOk K mg exN ecN) (hb : ∀ x ∈ blN, mg x = none) (h_law_move : FnE P w K mg base 67 "_law_move" 1 [] sp_law_move) (h_law_to : FnE P w K mg base 2 "_law_to" 2 [] sp_law_to) (h_law_there : FnE P w K mg base 67 "_law_there" 3 [] sp_law_there) (h_law_back : FnE P w K mg base 68 "_law_back" 3 [] sp_law_back)  (CS : CsOk P w K mg base 68 (csN 64)) : FnOk P w K mg base (L2.CX P w) 69 f fd ["_law_cells", "_law_spot"] (toSp P w K 2 sp_law_chained) :=
  def_okC (k := 68) F sc_law_chained (gok_fn (gok_fn (gok_fn (gok_fn (gok_nil hb) (h_law_back.mono (by decide))) (h_law_there.mono (by decide))) (h_law_to.mono (by decide))) (h_law_move.mono (by decide)) : GOk P w K mg base 68 (glOf gl_law_chained) blN) XO CS (congrFun rd_law_chained 64) fun ds M K KX _ h => p_law_chained ds M K KX h
theorem ok_law (F : FunD K "law" "law" (defArgs (top 18)) (defBody (top 18)) (defScope (top 18)) [] [] f fd) (XO : XOk K mg exN ecN) (hb : ∀ x ∈ blN, mg x = none) (h_law_cell_at : FnE P w K mg base 1 "_law_cell_at" 2 [] sp_law_cell_at) (h_law_there : FnE P w K mg base 67 "_law_there" 3 [] sp_law_there) (h_law_move : FnE P w K mg base 67 "_law_move" 1 [] sp_law_move) (h_law_to : FnE P w K mg base 2 "_law_to" 2 [] sp_law_to) (h_law_back : FnE P w K mg base 68 "_law_back" 3 [] sp_law_back) (h_law_chained : FnE P w K mg base 69 "_law_chained" 2 [] sp_law_chained)  (CS : CsOk P w K mg base 69 (csN 64)) : FnOk P w K mg base (L2.CX P w) 70 f fd ["_law_script"] (toSp P w K 1 sp_law) :=
  def_okC (k := 69) F sc_law (gok_fn (gok_fn (gok_fn (gok_fn (gok_fn (gok_fn (gok_nil hb) (h_law_chained.mono (by decide))) (h_law_back.mono (by decide))) (h_law_to.mono (by decide))) (h_law_move.mono (by decide))) (h_law_there.mono (by decide))) (h_law_cell_at.mono (by decide)) : GOk P w K mg base 69 (glOf gl_law) blN) XO CS (congrFun rd_law 64) fun ds M K KX _ h => p_law ds M K KX h
end
def dd_Shift___init__ : He.DefD := ⟨("Shift", some "__init__"), "__init__", "Shift.__init__", defArgs (mthS 3 "__init__"), defBody (mthS 3 "__init__"), defScope (mthS 3 "__init__"), [], []⟩
def dd_Chain___init__ : He.DefD := ⟨("Chain", some "__init__"), "__init__", "Chain.__init__", defArgs (mthS 7 "__init__"), defBody (mthS 7 "__init__"), defScope (mthS 7 "__init__"), [], []⟩
def dd_law_cell_at : He.DefD := ⟨("_law_cell_at", none), "_law_cell_at", "_law_cell_at", defArgs (top 9), defBody (top 9), defScope (top 9), [], []⟩
def dd_law_whole : He.DefD := ⟨("_law_whole", none), "_law_whole", "_law_whole", defArgs (top 10), defBody (top 10), defScope (top 10), [], []⟩
def dd_law_far : He.DefD := ⟨("_law_far", none), "_law_far", "_law_far", defArgs (top 11), defBody (top 11), defScope (top 11), [], []⟩
def dd_Move_on_cell : He.DefD := ⟨("Move", some "on_cell"), "on_cell", "Move.on_cell", defArgs (mthS 2 "on_cell"), defBody (mthS 2 "on_cell"), defScope (mthS 2 "on_cell"), [], []⟩
def dd_Move_back : He.DefD := ⟨("Move", some "back"), "back", "Move.back", defArgs (mthS 2 "back"), defBody (mthS 2 "back"), defScope (mthS 2 "back"), [], []⟩
def dd_Shift_on_cell : He.DefD := ⟨("Shift", some "on_cell"), "on_cell", "Shift.on_cell", defArgs (mthS 3 "on_cell"), defBody (mthS 3 "on_cell"), defScope (mthS 3 "on_cell"), [], []⟩
def dd_Shift_back : He.DefD := ⟨("Shift", some "back"), "back", "Shift.back", defArgs (mthS 3 "back"), defBody (mthS 3 "back"), defScope (mthS 3 "back"), [], []⟩
def dd_Quarter_on_cell : He.DefD := ⟨("Quarter", some "on_cell"), "on_cell", "Quarter.on_cell", defArgs (mthS 4 "on_cell"), defBody (mthS 4 "on_cell"), defScope (mthS 4 "on_cell"), [], []⟩
def dd_Quarter_back : He.DefD := ⟨("Quarter", some "back"), "back", "Quarter.back", defArgs (mthS 4 "back"), defBody (mthS 4 "back"), defScope (mthS 4 "back"), [], []⟩
def dd_QuarterBack_on_cell : He.DefD := ⟨("QuarterBack", some "on_cell"), "on_cell", "QuarterBack.on_cell", defArgs (mthS 5 "on_cell"), defBody (mthS 5 "on_cell"), defScope (mthS 5 "on_cell"), [], []⟩
def dd_QuarterBack_back : He.DefD := ⟨("QuarterBack", some "back"), "back", "QuarterBack.back", defArgs (mthS 5 "back"), defBody (mthS 5 "back"), defScope (mthS 5 "back"), [], []⟩
def dd_Mirror_on_cell : He.DefD := ⟨("Mirror", some "on_cell"), "on_cell", "Mirror.on_cell", defArgs (mthS 6 "on_cell"), defBody (mthS 6 "on_cell"), defScope (mthS 6 "on_cell"), [], []⟩
def dd_Mirror_back : He.DefD := ⟨("Mirror", some "back"), "back", "Mirror.back", defArgs (mthS 6 "back"), defBody (mthS 6 "back"), defScope (mthS 6 "back"), [], []⟩
def dd_Chain_on_cell : He.DefD := ⟨("Chain", some "on_cell"), "on_cell", "Chain.on_cell", defArgs (mthS 7 "on_cell"), defBody (mthS 7 "on_cell"), defScope (mthS 7 "on_cell"), [], []⟩
def dd_Chain_back : He.DefD := ⟨("Chain", some "back"), "back", "Chain.back", defArgs (mthS 7 "back"), defBody (mthS 7 "back"), defScope (mthS 7 "back"), [], []⟩
def dd_law_to : He.DefD := ⟨("_law_to", none), "_law_to", "_law_to", defArgs (top 13), defBody (top 13), defScope (top 13), [], []⟩
def dd_law_is_cell : He.DefD := ⟨("_law_is_cell", none), "_law_is_cell", "_law_is_cell", defArgs (top 14), defBody (top 14), defScope (top 14), [], []⟩
def dd_law_move : He.DefD := ⟨("_law_move", none), "_law_move", "_law_move", defArgs (top 12), defBody (top 12), defScope (top 12), [], []⟩
def dd_law_there : He.DefD := ⟨("_law_there", none), "_law_there", "_law_there", defArgs (top 15), defBody (top 15), defScope (top 15), [], []⟩
def dd_law_back : He.DefD := ⟨("_law_back", none), "_law_back", "_law_back", defArgs (top 16), defBody (top 16), defScope (top 16), [], []⟩
def dd_law_chained : He.DefD := ⟨("_law_chained", none), "_law_chained", "_law_chained", defArgs (top 17), defBody (top 17), defScope (top 17), [], []⟩
def dd_law : He.DefD := ⟨("law", none), "law", "law", defArgs (top 18), defBody (top 18), defScope (top 18), [], []⟩
def fnL : List He.DefD := [dd_Shift___init__, dd_Chain___init__, dd_law_cell_at, dd_law_whole, dd_law_far, dd_Move_on_cell, dd_Move_back, dd_Shift_on_cell, dd_Shift_back, dd_Quarter_on_cell, dd_Quarter_back, dd_QuarterBack_on_cell, dd_QuarterBack_back, dd_Mirror_on_cell, dd_Mirror_back, dd_Chain_on_cell, dd_Chain_back, dd_law_to, dd_law_is_cell, dd_law_move, dd_law_there, dd_law_back, dd_law_chained, dd_law]
def faL : List He.Fa := [.glo "_law_cell_at", .glo "_law_whole", .glo "_law_far", .glo "_law_to", .glo "_law_is_cell", .glo "_law_move", .glo "_law_there", .glo "_law_back", .glo "_law_chained", .glo "law", .free "range", .free "len", .free "isinstance", .free "int", .free "bool", .free "tuple"]
abbrev R : PySem.W.OpenRow := PySem.W.OpenLaw.row PySem.Challenge.rw_floortwos_k62_moves_of_cells
def clsM : ClsL := ⟨clsL, fldL, [("Move", "back"), ("Move", "on_cell"), ("Shift", "back"), ("Shift", "on_cell"), ("Quarter", "back"), ("Quarter", "on_cell"), ("QuarterBack", "back"), ("QuarterBack", "on_cell"), ("Mirror", "back"), ("Mirror", "on_cell"), ("Chain", "back"), ("Chain", "on_cell")], [], ["Shift", "Chain"], ["Move", "Quarter", "QuarterBack", "Mirror"], [("Move", "Move", true), ("Shift", "Move", true), ("Quarter", "Move", true), ("QuarterBack", "Move", true), ("Mirror", "Move", true), ("Chain", "Move", true)]⟩
def pX (K : PySem.W.Frag) : Bool := exB K exN ecN && clsB K clsM
abbrev hk : PySem.W.Hook := hookX 5 pX faL fnL
def ob (s : PySem.W.SharedT) : AlX := obsXG 5 pX faL fnL (HandSHeadRun.getT s)
theorem ob_eq (s : PySem.W.SharedT) : ob s = hk.obs s.abs := obsXG_eq (HandSHeadRun.getT_eq s)
theorem run (w : World) : HandSHeadRun.RunEq R (PySem.W.view R.prog [18]) hk ob 4000 ((["_wall", "Move", "Shift", "Quarter", "QuarterBack", "Mirror", "Chain", "_law_cell_at", "_law_whole", "_law_far", "_law_move", "_law_to", "_law_is_cell", "_law_there", "_law_back", "_law_chained"] : List PySem.Str)) w := by
  intro os
  kernel_rfl
theorem facts {P : Program} {w : World} {K : PySem.W.Frag} {h : Heap} {mg : Str → Option Value} {f : Addr} (X : K.In h) (G : h.Ns mainGlobals mg) (hfa : mg ("law" : Str) = some (.ref f)) (cx : SaysX pX faL fnL K) :
    ∃ fd : FuncData, (∀ (s : Shared) (v : Value), BindsTo s fd ⟨[v], []⟩ [("_law_script", v)]) ∧ ∀ base : Heap, K.In base → base.Ns mainGlobals mg → FnOk P w K mg base (L2.CX P w) 70 f fd ["_law_script"] (toSp P w K 1 sp_law) := by
  have c := cx.s
  obtain ⟨cp1, cp2⟩ := He.ba cx.p
  have XO := exB_ok X G cp1
  have CL := clsB_ok X G cp2
  have CLi : ∀ C ∈ clsL, IscE K C "Move" true := fun C hC => CL.isc (C, "Move", true) (by rcases mem_clsL hC with e | e | e | e | e | e <;> rw [e] <;> decide) hC
  obtain ⟨fd_Shift___init__, F_Shift___init__⟩ := c.def_ 0 (d := dd_Shift___init__) rfl
  obtain ⟨fd_Chain___init__, F_Chain___init__⟩ := c.def_ 1 (d := dd_Chain___init__) rfl
  obtain ⟨fd_law_cell_at, F_law_cell_at⟩ := c.def_ 2 (d := dd_law_cell_at) rfl
  have g_law_cell_at := He.glo_ok X G (c.fact 0 (f := .glo "_law_cell_at") rfl)
  obtain ⟨fd_law_whole, F_law_whole⟩ := c.def_ 3 (d := dd_law_whole) rfl
  have g_law_whole := He.glo_ok X G (c.fact 1 (f := .glo "_law_whole") rfl)
  obtain ⟨fd_law_far, F_law_far⟩ := c.def_ 4 (d := dd_law_far) rfl
  have g_law_far := He.glo_ok X G (c.fact 2 (f := .glo "_law_far") rfl)
  obtain ⟨fd_Move_on_cell, F_Move_on_cell⟩ := c.def_ 5 (d := dd_Move_on_cell) rfl
  obtain ⟨fd_Move_back, F_Move_back⟩ := c.def_ 6 (d := dd_Move_back) rfl
  obtain ⟨fd_Shift_on_cell, F_Shift_on_cell⟩ := c.def_ 7 (d := dd_Shift_on_cell) rfl
  obtain ⟨fd_Shift_back, F_Shift_back⟩ := c.def_ 8 (d := dd_Shift_back) rfl
  obtain ⟨fd_Quarter_on_cell, F_Quarter_on_cell⟩ := c.def_ 9 (d := dd_Quarter_on_cell) rfl
  obtain ⟨fd_Quarter_back, F_Quarter_back⟩ := c.def_ 10 (d := dd_Quarter_back) rfl
  obtain ⟨fd_QuarterBack_on_cell, F_QuarterBack_on_cell⟩ := c.def_ 11 (d := dd_QuarterBack_on_cell) rfl
  obtain ⟨fd_QuarterBack_back, F_QuarterBack_back⟩ := c.def_ 12 (d := dd_QuarterBack_back) rfl
  obtain ⟨fd_Mirror_on_cell, F_Mirror_on_cell⟩ := c.def_ 13 (d := dd_Mirror_on_cell) rfl
  obtain ⟨fd_Mirror_back, F_Mirror_back⟩ := c.def_ 14 (d := dd_Mirror_back) rfl
  obtain ⟨fd_Chain_on_cell, F_Chain_on_cell⟩ := c.def_ 15 (d := dd_Chain_on_cell) rfl
  obtain ⟨fd_Chain_back, F_Chain_back⟩ := c.def_ 16 (d := dd_Chain_back) rfl
  obtain ⟨fd_law_to, F_law_to⟩ := c.def_ 17 (d := dd_law_to) rfl
  have g_law_to := He.glo_ok X G (c.fact 3 (f := .glo "_law_to") rfl)
  obtain ⟨fd_law_is_cell, F_law_is_cell⟩ := c.def_ 18 (d := dd_law_is_cell) rfl
  have g_law_is_cell := He.glo_ok X G (c.fact 4 (f := .glo "_law_is_cell") rfl)
  obtain ⟨fd_law_move, F_law_move⟩ := c.def_ 19 (d := dd_law_move) rfl
  have g_law_move := He.glo_ok X G (c.fact 5 (f := .glo "_law_move") rfl)
  obtain ⟨fd_law_there, F_law_there⟩ := c.def_ 20 (d := dd_law_there) rfl
  have g_law_there := He.glo_ok X G (c.fact 6 (f := .glo "_law_there") rfl)
  obtain ⟨fd_law_back, F_law_back⟩ := c.def_ 21 (d := dd_law_back) rfl
  have g_law_back := He.glo_ok X G (c.fact 7 (f := .glo "_law_back") rfl)
  obtain ⟨fd_law_chained, F_law_chained⟩ := c.def_ 22 (d := dd_law_chained) rfl
  have g_law_chained := He.glo_ok X G (c.fact 8 (f := .glo "_law_chained") rfl)
  obtain ⟨fd_law, F_law⟩ := c.def_ 23 (d := dd_law) rfl
  have g_law := He.glo_ok X G (c.fact 9 (f := .glo "law") rfl)
  have hb : ∀ x ∈ blN, mg x = none := by
    intro x hx
    simp only [blN, List.mem_cons, List.not_mem_nil, or_false] at hx
    rcases hx with rfl | rfl | rfl | rfl | rfl | rfl
    · exact He.free_ok X G (c.fact 10 (f := .free "range") rfl)
    · exact He.free_ok X G (c.fact 11 (f := .free "len") rfl)
    · exact He.free_ok X G (c.fact 12 (f := .free "isinstance") rfl)
    · exact He.free_ok X G (c.fact 13 (f := .free "int") rfl)
    · exact He.free_ok X G (c.fact 14 (f := .free "bool") rfl)
    · exact He.free_ok X G (c.fact 15 (f := .free "tuple") rfl)
  have e := hfa.symm.trans g_law
  cases e
  have b := FunD.bindsA (ps := ["_law_script"]) F_law fun _ _ _ _ _ _ us hl => match us, hl with | [_], _ => rfl
  refine ⟨fd_law, fun s v => b s [v] rfl, fun base _ _ => ?_⟩
  have o_Shift___init__ := ok_Shift___init__ (P := P) (w := w) (base := base) F_Shift___init__ XO hb   (csok_I CL.cls CL.fld)
  have mk_Shift___init__ : MkE P w K mg base 1 "Shift" 3 sp_Shift___init__ := ⟨CL.mk1 _ (by decide), (CL.cls _ (by decide)).1, fd_Shift___init__, ["self", "down", "right"], rfl, o_Shift___init__, F_Shift___init__.bindsN fun _ _ _ _ _ _ us hl => match us, hl with | [_, _, _], _ => rfl⟩
  have o_Chain___init__ := ok_Chain___init__ (P := P) (w := w) (base := base) F_Chain___init__ XO hb   (csok_I CL.cls CL.fld)
  have mk_Chain___init__ : MkE P w K mg base 1 "Chain" 3 sp_Chain___init__ := ⟨CL.mk1 _ (by decide), (CL.cls _ (by decide)).1, fd_Chain___init__, ["self", "first", "second"], rfl, o_Chain___init__, F_Chain___init__.bindsN fun _ _ _ _ _ _ us hl => match us, hl with | [_, _, _], _ => rfl⟩
  have o_law_cell_at := ok_law_cell_at (P := P) (w := w) (base := base) F_law_cell_at XO hb  
  have e_law_cell_at := fne_of (st := top 9) F_law_cell_at o_law_cell_at g_law_cell_at fun _ _ _ _ _ _ us hl => match us, hl with | [_, _], _ => rfl
  have o_law_whole := ok_law_whole (P := P) (w := w) (base := base) F_law_whole XO hb  
  have e_law_whole := fne_of (st := top 10) F_law_whole o_law_whole g_law_whole fun _ _ _ _ _ _ us hl => match us, hl with | [_], _ => rfl
  have o_law_far := ok_law_far (P := P) (w := w) (base := base) F_law_far XO hb  
  have e_law_far := fne_of (st := top 11) F_law_far o_law_far g_law_far fun _ _ _ _ _ _ us hl => match us, hl with | [_], _ => rfl
  have all : ∀ n, MthsOk P w K mg base (2 + n) n := by
    intro n
    induction n with
    | zero =>
      refine ⟨fun C hC => ?_⟩
      have hC := mem_clsL hC
      rcases hC with rfl | rfl | rfl | rfl | rfl | rfl
      · exact ⟨⟨(CL.cls _ (by decide)).2, CL.mth ("Move", "on_cell") (by decide), fd_Move_on_cell, ["self", "cell"], rfl, fnok_no (ps := ["self", "cell"]) on_cell_no, F_Move_on_cell.bindsN fun _ _ _ _ _ _ us hl => match us, hl with | [_, _], _ => rfl⟩,
          ⟨(CL.cls _ (by decide)).2, CL.mth ("Move", "back") (by decide), fd_Move_back, ["self"], rfl, fnok_no (ps := ["self"]) back_no, F_Move_back.bindsN fun _ _ _ _ _ _ us hl => match us, hl with | [_], _ => rfl⟩⟩
      · exact ⟨⟨(CL.cls _ (by decide)).2, CL.mth ("Shift", "on_cell") (by decide), fd_Shift_on_cell, ["self", "cell"], rfl, fnok_no (ps := ["self", "cell"]) on_cell_no, F_Shift_on_cell.bindsN fun _ _ _ _ _ _ us hl => match us, hl with | [_, _], _ => rfl⟩,
          ⟨(CL.cls _ (by decide)).2, CL.mth ("Shift", "back") (by decide), fd_Shift_back, ["self"], rfl, fnok_no (ps := ["self"]) back_no, F_Shift_back.bindsN fun _ _ _ _ _ _ us hl => match us, hl with | [_], _ => rfl⟩⟩
      · exact ⟨⟨(CL.cls _ (by decide)).2, CL.mth ("Quarter", "on_cell") (by decide), fd_Quarter_on_cell, ["self", "cell"], rfl, fnok_no (ps := ["self", "cell"]) on_cell_no, F_Quarter_on_cell.bindsN fun _ _ _ _ _ _ us hl => match us, hl with | [_, _], _ => rfl⟩,
          ⟨(CL.cls _ (by decide)).2, CL.mth ("Quarter", "back") (by decide), fd_Quarter_back, ["self"], rfl, fnok_no (ps := ["self"]) back_no, F_Quarter_back.bindsN fun _ _ _ _ _ _ us hl => match us, hl with | [_], _ => rfl⟩⟩
      · exact ⟨⟨(CL.cls _ (by decide)).2, CL.mth ("QuarterBack", "on_cell") (by decide), fd_QuarterBack_on_cell, ["self", "cell"], rfl, fnok_no (ps := ["self", "cell"]) on_cell_no, F_QuarterBack_on_cell.bindsN fun _ _ _ _ _ _ us hl => match us, hl with | [_, _], _ => rfl⟩,
          ⟨(CL.cls _ (by decide)).2, CL.mth ("QuarterBack", "back") (by decide), fd_QuarterBack_back, ["self"], rfl, fnok_no (ps := ["self"]) back_no, F_QuarterBack_back.bindsN fun _ _ _ _ _ _ us hl => match us, hl with | [_], _ => rfl⟩⟩
      · exact ⟨⟨(CL.cls _ (by decide)).2, CL.mth ("Mirror", "on_cell") (by decide), fd_Mirror_on_cell, ["self", "cell"], rfl, fnok_no (ps := ["self", "cell"]) on_cell_no, F_Mirror_on_cell.bindsN fun _ _ _ _ _ _ us hl => match us, hl with | [_, _], _ => rfl⟩,
          ⟨(CL.cls _ (by decide)).2, CL.mth ("Mirror", "back") (by decide), fd_Mirror_back, ["self"], rfl, fnok_no (ps := ["self"]) back_no, F_Mirror_back.bindsN fun _ _ _ _ _ _ us hl => match us, hl with | [_], _ => rfl⟩⟩
      · exact ⟨⟨(CL.cls _ (by decide)).2, CL.mth ("Chain", "on_cell") (by decide), fd_Chain_on_cell, ["self", "cell"], rfl, fnok_no (ps := ["self", "cell"]) on_cell_no, F_Chain_on_cell.bindsN fun _ _ _ _ _ _ us hl => match us, hl with | [_, _], _ => rfl⟩,
          ⟨(CL.cls _ (by decide)).2, CL.mth ("Chain", "back") (by decide), fd_Chain_back, ["self"], rfl, fnok_no (ps := ["self"]) back_no, F_Chain_back.bindsN fun _ _ _ _ _ _ us hl => match us, hl with | [_], _ => rfl⟩⟩
    | succ n ih =>
      have CS := csok_N CL.cls CL.fld CL.mk0 CLi mk_Shift___init__ mk_Chain___init__ (by omega) ih
      refine ⟨fun C hC => ?_⟩
      have hC := mem_clsL hC
      rcases hC with rfl | rfl | rfl | rfl | rfl | rfl
      · exact ⟨⟨(CL.cls _ (by decide)).2, CL.mth ("Move", "on_cell") (by decide), fd_Move_on_cell, ["self", "cell"], rfl, ok_Move_on_cell (C := "Move") F_Move_on_cell XO hb   CS rfl, F_Move_on_cell.bindsN fun _ _ _ _ _ _ us hl => match us, hl with | [_, _], _ => rfl⟩,
          ⟨(CL.cls _ (by decide)).2, CL.mth ("Move", "back") (by decide), fd_Move_back, ["self"], rfl, ok_Move_back (C := "Move") F_Move_back XO hb   CS rfl, F_Move_back.bindsN fun _ _ _ _ _ _ us hl => match us, hl with | [_], _ => rfl⟩⟩
      · exact ⟨⟨(CL.cls _ (by decide)).2, CL.mth ("Shift", "on_cell") (by decide), fd_Shift_on_cell, ["self", "cell"], rfl, ok_Shift_on_cell (C := "Shift") F_Shift_on_cell XO hb   CS rfl, F_Shift_on_cell.bindsN fun _ _ _ _ _ _ us hl => match us, hl with | [_, _], _ => rfl⟩,
          ⟨(CL.cls _ (by decide)).2, CL.mth ("Shift", "back") (by decide), fd_Shift_back, ["self"], rfl, ok_Shift_back (C := "Shift") F_Shift_back XO hb   CS rfl, F_Shift_back.bindsN fun _ _ _ _ _ _ us hl => match us, hl with | [_], _ => rfl⟩⟩
      · exact ⟨⟨(CL.cls _ (by decide)).2, CL.mth ("Quarter", "on_cell") (by decide), fd_Quarter_on_cell, ["self", "cell"], rfl, ok_Quarter_on_cell (C := "Quarter") F_Quarter_on_cell XO hb   CS rfl, F_Quarter_on_cell.bindsN fun _ _ _ _ _ _ us hl => match us, hl with | [_, _], _ => rfl⟩,
          ⟨(CL.cls _ (by decide)).2, CL.mth ("Quarter", "back") (by decide), fd_Quarter_back, ["self"], rfl, ok_Quarter_back (C := "Quarter") F_Quarter_back XO hb   CS rfl, F_Quarter_back.bindsN fun _ _ _ _ _ _ us hl => match us, hl with | [_], _ => rfl⟩⟩
      · exact ⟨⟨(CL.cls _ (by decide)).2, CL.mth ("QuarterBack", "on_cell") (by decide), fd_QuarterBack_on_cell, ["self", "cell"], rfl, ok_QuarterBack_on_cell (C := "QuarterBack") F_QuarterBack_on_cell XO hb   CS rfl, F_QuarterBack_on_cell.bindsN fun _ _ _ _ _ _ us hl => match us, hl with | [_, _], _ => rfl⟩,
          ⟨(CL.cls _ (by decide)).2, CL.mth ("QuarterBack", "back") (by decide), fd_QuarterBack_back, ["self"], rfl, ok_QuarterBack_back (C := "QuarterBack") F_QuarterBack_back XO hb   CS rfl, F_QuarterBack_back.bindsN fun _ _ _ _ _ _ us hl => match us, hl with | [_], _ => rfl⟩⟩
      · exact ⟨⟨(CL.cls _ (by decide)).2, CL.mth ("Mirror", "on_cell") (by decide), fd_Mirror_on_cell, ["self", "cell"], rfl, ok_Mirror_on_cell (C := "Mirror") F_Mirror_on_cell XO hb   CS rfl, F_Mirror_on_cell.bindsN fun _ _ _ _ _ _ us hl => match us, hl with | [_, _], _ => rfl⟩,
          ⟨(CL.cls _ (by decide)).2, CL.mth ("Mirror", "back") (by decide), fd_Mirror_back, ["self"], rfl, ok_Mirror_back (C := "Mirror") F_Mirror_back XO hb   CS rfl, F_Mirror_back.bindsN fun _ _ _ _ _ _ us hl => match us, hl with | [_], _ => rfl⟩⟩
      · exact ⟨⟨(CL.cls _ (by decide)).2, CL.mth ("Chain", "on_cell") (by decide), fd_Chain_on_cell, ["self", "cell"], rfl, ok_Chain_on_cell (C := "Chain") F_Chain_on_cell XO hb   CS rfl, F_Chain_on_cell.bindsN fun _ _ _ _ _ _ us hl => match us, hl with | [_, _], _ => rfl⟩,
          ⟨(CL.cls _ (by decide)).2, CL.mth ("Chain", "back") (by decide), fd_Chain_back, ["self"], rfl, ok_Chain_back (C := "Chain") F_Chain_back XO hb   CS rfl, F_Chain_back.bindsN fun _ _ _ _ _ _ us hl => match us, hl with | [_], _ => rfl⟩⟩
  have CSN := csok_N CL.cls CL.fld CL.mk0 CLi mk_Shift___init__ mk_Chain___init__ (by decide) (all 64)
  have o_law_to := ok_law_to (P := P) (w := w) (base := base) F_law_to XO hb e_law_far 
  have e_law_to := fne_of (st := top 13) F_law_to o_law_to g_law_to fun _ _ _ _ _ _ us hl => match us, hl with | [_, _], _ => rfl
  have o_law_is_cell := ok_law_is_cell (P := P) (w := w) (base := base) F_law_is_cell XO hb e_law_whole 
  have e_law_is_cell := fne_of (st := top 14) F_law_is_cell o_law_is_cell g_law_is_cell fun _ _ _ _ _ _ us hl => match us, hl with | [_], _ => rfl
  have o_law_move := ok_law_move (P := P) (w := w) (base := base) F_law_move XO hb e_law_far  (CSN.mono (by decide))
  have e_law_move := fne_of (st := top 12) F_law_move o_law_move g_law_move fun _ _ _ _ _ _ us hl => match us, hl with | [_], _ => rfl
  have o_law_there := ok_law_there (P := P) (w := w) (base := base) F_law_there XO hb e_law_is_cell  (CSN.mono (by decide))
  have e_law_there := fne_of (st := top 15) F_law_there o_law_there g_law_there fun _ _ _ _ _ _ us hl => match us, hl with | [_, _, _], _ => rfl
  have o_law_back := ok_law_back (P := P) (w := w) (base := base) F_law_back XO hb e_law_there  (CSN.mono (by decide))
  have e_law_back := fne_of (st := top 16) F_law_back o_law_back g_law_back fun _ _ _ _ _ _ us hl => match us, hl with | [_, _, _], _ => rfl
  have o_law_chained := ok_law_chained (P := P) (w := w) (base := base) F_law_chained XO hb e_law_move e_law_to e_law_there e_law_back  (CSN.mono (by decide))
  have e_law_chained := fne_of (st := top 17) F_law_chained o_law_chained g_law_chained fun _ _ _ _ _ _ us hl => match us, hl with | [_, _], _ => rfl
  have o_law := ok_law (P := P) (w := w) (base := base) F_law XO hb e_law_cell_at e_law_there e_law_move e_law_to e_law_back e_law_chained  (CSN.mono (by decide))
  exact o_law
end DL
open PySem PySem.W PySem.Calls PyProof.Rows
theorem PySem.Challenge.cw_floortwos_k62_moves_of_cells_holds : PySem.Challenge.rw_floortwos_k62_moves_of_cells.Holds := by
  w_on; o_law
  refine HandSHeadRun.head_any (r := OpenLaw.row PySem.Challenge.rw_floortwos_k62_moves_of_cells) (q := view (OpenLaw.row PySem.Challenge.rw_floortwos_k62_moves_of_cells).prog [18]) (H := DL.hk) (ob := DL.ob) (M := 4000) (loose := ((["_wall", "Move", "Shift", "Quarter", "QuarterBack", "Mirror", "Chain", "_law_cell_at", "_law_whole", "_law_far", "_law_move", "_law_to", "_law_is_cell", "_law_there", "_law_back", "_law_chained"] : List PySem.Str))) (d := HandSHeadRun.topDef (OpenLaw.row PySem.Challenge.rw_floortwos_k62_moves_of_cells).prog 18) (kwd := []) DL.ob_eq
    (by kernel_rfl) (fun s => by kernel_rfl) DL.run (by kernel_rfl) (by kernel_rfl) (by kernel_rfl) (by rfl) (by first | assumption | decide +kernel) (by decide +kernel) ⟨rfl, rfl, rfl, rfl, rfl, by decide +kernel⟩ ?hw ?hc
  case hw => w_witness2
  case hc =>
    refine DL.walk_d (l := PySem.Challenge.rw_floortwos_k62_moves_of_cells) (n := 63) (k := 70) (x := "_law_script") rfl (by decide) (by kernel_rfl) ⟨rfl, by decide, by decide⟩ ?F
    intro w mg fa h Y G hmg0
    obtain ⟨K, KX, c⟩ := Y
    have hmg : mg ("law" : PySem.Str) = some (.ref fa) := by
      have e : (HandSHeadRun.topDef (OpenLaw.row PySem.Challenge.rw_floortwos_k62_moves_of_cells).prog 18).name = ("law" : PySem.Str) := by kernel_rfl
      rw [← e]
      exact hmg0
    obtain ⟨fd, hb, hF⟩ := DL.facts (P := (PySem.Challenge.rw_floortwos_k62_moves_of_cells).prog) (w := w) KX G hmg c
    exact ⟨K, fd, DL.sp_law, KX, hb, fun a ns hl M hM => ⟨a, ns, rfl, DL.ls_ro hM, hl, fun _ => rfl⟩, hF⟩
