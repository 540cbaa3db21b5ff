import PyProof.Rows.All
import Wide.All
import OpenK.AllK
import Wide.FinOn
import PySem.Challenge.RW_runheaps_k05_heaps_compared
import HandS.ForMost
import HandS.Lambda
import HandS.Flow
import HandS.TupAny
import HandS.Wide
import HandS.WideBits
import HandS.Deep
import HandS.IsInst
import HandS.RaiseMore
import HandS.Small
import HandS.Zip
import KE.GoesMore
import KE.GoesEnum
import HandS.ForExc
import HandS.Property
import HandS.Defaults
import HandS.TryMany
import HandS.ExcCtx
import HandS.HotCalls
import KE.DatumIndex
import HandS.FStr
import HandS.WordsDict
import KE.KTupSum
import HandS.Ends
import HandS.HeadEnd
import HandS.HeadHook4
import HandS.EndBits
import HandS.MakeKw
import HandS.MakeKwOnly
import HandS.ClsMeth
import HandS.HeadNt
import KE.KCallOwn
import OpenK.KOps
import HandS.HeadHook2
import HandS.Head2
import HandS.Iter
import HandS.Dict
import HandS.SortInts
import HandS.SortRule
import HandS.SortKw
import HandS.More
import HandS.ListItems
import KE.KDictPairs
import KE.KItemsList
import KE.KDictWalk
import KE.KPairComp
import HandS.NoneIn
import HandS.TupLe
import HandS.Style
import KE.IntTextLaws
import KE.KIntText
import KE.KxText
import HandS.Text
import PyProof.Rows.StrBin
import PyProof.Rows.ReprOcc
import PyProof.Rows.StrSplitJoin
import PyProof.Rows.StrItems
import PyProof.ReprLen
import HandS.SetFor
import HandS.Strs
import PyProof.StrOps2
import HandS.ExcInit
import HandS.ExcField
import KE.KExcInit
import HandS.ExcOwn
import PyProof.Rows.TupAssign
import HandS.EndTab
import PyProof.NeKinds
import PyProof.EqKinds
import PyProof.FactsAll.dict_1
import PyProof.FactsAll.dict_2
import PyProof.FactsAll.subtypes_3
import PyProof.FactsAll.subtypes_4
set_option Elab.async false
set_option linter.all false
set_option autoImplicit false
set_option maxRecDepth 100000
set_option maxHeartbeats 2000000
/-! DL0: data without addresses over the hand layer: pure values, the small heap of what changes, frames, liftings. -/
namespace Rh
open PySem PySem.Spec PyProof.Rows L2

/-- a datum: what never changes stands in it whole; ref: an object that may change; tup: a tuple, its object known to bear no dict; tpl: a tuple of which that is not told -/
inductive D where
  | non | bl (b : Bool) | int (i : Int) | str (x : Str) | ref (a : Addr) | ty (n : String)
  | scr (ns : List Int) | tup (ds : List D) | tpl (ds : List D) | lst (ds : List D) | dic (ks : List Key) (ds : List D) | obj (C : Addr) (ns : List Str) (ds : List D)

/-- a tuple's own object -/
abbrev tupO (us : List Value) : Obj := { cls := .type "tuple", data := .seq us.toArray }
def TupF (H : Hp) (a : Addr) (vs : List V) : Prop := ∃ us : List Value, H a = some (.frz (tupO us) (.tup vs))
/-- a lambda of the text: its maker's qualified name and names, its own code -/
structure LamDesc where
  q : Str
  params : Arguments
  body : Expr
  scope : Scope
  N : List Str
/-- what stands at an address that may change; lam: the i-th lambda of the text, the slots that it captured and their cells; cel: a cell -/
inductive DO where
  | lst (ds : List D)
  | dK (ks : List Key) (ds : List D)
  | ins (C : Addr) (ns : List Str) (ds : List D)
  | tab (q : Str)
  | dT (ks : List (List Key)) (ds : List D)
  | fT (od : Obj) (vs : List V) (ks : List (List Key)) (ds : List D)
  | lam (L : LamDesc) (i : Nat) (cs : List (Nat × Addr))
  | cel (d : D)
  | fK (od : Obj) (vs : List V) (ks : List Key) (ds : List D)

instance : Inhabited LamDesc := ⟨⟨"", default, default, default, []⟩⟩
abbrev DHp := Addr → Option DO
def up (M : DHp) (a : Addr) (o : DO) : DHp := fun b => if b = a then some o else M b
theorem up_same {M : DHp} {a : Addr} {o : DO} : up M a o a = some o := by unfold up; rw [if_pos rfl]
theorem up_ne {M : DHp} {a b : Addr} {o : DO} (h : b ≠ a) : up M a o b = M b := by unfold up; rw [if_neg h]
theorem up_up {M : DHp} {a : Addr} {o u : DO} : up (up M a o) a u = up M a u := by
  funext b; unfold up; split <;> rfl
theorem ne_up {M : DHp} {a b : Addr} {o : DO} (h : M a = some o) (h' : M b = none) : a ≠ b := by
  intro e; subst e; rw [h] at h'; cases h'
/-- fewer things told -/
def Sub (M N : DHp) : Prop := ∀ a o, M a = some o → N a = some o
theorem Sub.refl (M : DHp) : Sub M M := fun _ _ h => h
theorem Sub.trans {M N O : DHp} (a : Sub M N) (b : Sub N O) : Sub M O := fun _ _ h => b _ _ (a _ _ h)
theorem Sub.up {M N : DHp} {p : Addr} {o : DO} (s : Sub M N) (h : M p = none) : Sub M (up N p o) := fun a u e => by
  rw [up_ne (ne_up e h)]; exact s a u e
theorem Sub.none {M N : DHp} (s : Sub M N) {a : Addr} (h : N a = Option.none) : M a = Option.none := by
  cases e : M a with
  | none => rfl
  | some o => rw [s a o e] at h; cases h
section
variable (K : PySem.W.Frag)
/-- a list that nothing changes any more -/
def KL (H : Hp) (M : DHp) (a : Addr) (vs : List V) : Prop :=
  (M a = none ∧ Rd H a (.lst vs)) ∨
    ∃ (o : Obj) (its : Array Value) (n : Nat), K.lookup a = some o ∧ o.cls = .type "list" ∧ o.dict = none ∧ o.data = .seq its n ∧ its.size ≤ sizeLine ∧ Vals vs its.toList
theorem KL.sq {H : Hp} {M : DHp} {a : Addr} {vs : List V} (h : KL K H M a vs) : SqL K H a vs := h.elim (fun q => .inl q.2) .inr
mutual
/-- the value v bears the datum -/
def Has (H : Hp) (M : DHp) : D → V → Prop
  | .non, v => v = .non
  | .bl b, v => v = .bl b
  | .int i, v => v = .int i
  | .str x, v => v = .str x
  | .ref a, v => v = .ref a
  | .ty n, v => v = .ty n
  | .scr ns, v => ∃ a, v = .ref a ∧ KL K H M a (ns.map V.int)
  | .tup ds, v => ∃ a vs, v = .ref a ∧ M a = none ∧ TupF H a vs ∧ HasL H M ds vs
  | .tpl ds, v => ∃ a vs, v = .ref a ∧ M a = none ∧ H a = some (.tup vs) ∧ HasL H M ds vs
  | .lst ds, v => ∃ a vs, v = .ref a ∧ M a = none ∧ H a = some (.lst vs) ∧ HasL H M ds vs
  | .dic ks ds, v => ∃ a vs, v = .ref a ∧ M a = none ∧ H a = some (.dK (ks.zip vs)) ∧ ks.length = ds.length ∧ HasL H M ds vs
  | .obj C ns ds, v => ∃ a dx vs, v = .ref a ∧ M a = none ∧ H a = some (.ins C dx (ns.zip vs)) ∧ ns.length = ds.length ∧ HasL H M ds vs
def HasL (H : Hp) (M : DHp) : List D → List V → Prop
  | [], vs => vs = []
  | d :: ds, vs => ∃ v r, vs = v :: r ∧ Has H M d v ∧ HasL H M ds r
end
end

/-- what is not in the small heap stays as it is -/
structure Fr (H : Hp) (M : DHp) (H' : Hp) (M' : DHp) : Prop where
  eq : ∀ a o, H a = some o → M a = none → H' a = some o
  un : ∀ a o, H a = some o → M a = none → M' a = none
theorem Fr.refl (H : Hp) (M : DHp) : Fr H M H M := ⟨fun _ _ h _ => h, fun _ _ _ h => h⟩
theorem Fr.trans {H H1 H2 : Hp} {M M1 M2 : DHp} (a : Fr H M H1 M1) (b : Fr H1 M1 H2 M2) : Fr H M H2 M2 :=
  ⟨fun c o h n => b.eq c o (a.eq c o h n) (a.un c o h n), fun c o h n => b.un c o (a.eq c o h n) (a.un c o h n)⟩
theorem Fr.less {H H1 : Hp} {M M1 M2 : DHp} (a : Fr H M H1 M1) (s : Sub M2 M1) : Fr H M H1 M2 :=
  ⟨a.eq, fun c o h n => s.none (a.un c o h n)⟩
/-- a new object that is told, that is not told -/
theorem Fr.newT {H : Hp} {M : DHp} {p : Addr} {o : HO} {u : DO} (h : H p = none) : Fr H M (upd H p o) (up M p u) :=
  ⟨fun a x e _ => by rw [upd_ne (ne_of_none e h)]; exact e, fun a x e n => by rw [up_ne (ne_of_none e h)]; exact n⟩
theorem Fr.new {H : Hp} {M : DHp} {p : Addr} {o : HO} (h : H p = none) : Fr H M (upd H p o) M :=
  ⟨fun a x e _ => by rw [upd_ne (ne_of_none e h)]; exact e, fun _ _ _ n => n⟩
/-- a told object is changed -/
theorem Fr.put {H : Hp} {M : DHp} {p : Addr} {o : HO} {u u0 : DO} (h : M p = some u0) : Fr H M (upd H p o) (up M p u) :=
  ⟨fun a x e n => by rw [upd_ne (by intro z; subst z; rw [h] at n; cases n)]; exact e, fun a x e n => by rw [up_ne (by intro z; subst z; rw [h] at n; cases n)]; exact n⟩

section
variable {K : PySem.W.Frag} {H H' : Hp} {M M' : DHp}
theorem Rd.some {H : Hp} {a : Addr} {u : HO} (r : Rd H a u) : ∃ o, H a = some o := r.elim (fun h => ⟨_, h⟩) (fun ⟨_, h⟩ => ⟨_, h⟩)
theorem TupF.sq {H : Hp} {a : Addr} {vs : List V} (h : TupF H a vs) : SqT K H a vs := .inl (h.elim fun _ e => .inr ⟨_, e⟩)
theorem TupF.some {H : Hp} {a : Addr} {vs : List V} (h : TupF H a vs) : ∃ o, H a = some o := h.elim fun _ e => ⟨_, e⟩
theorem TupF.fr {a : Addr} {vs : List V} (h : TupF H a vs) (f : Fr H M H' M') (n : M a = none) : TupF H' a vs := h.elim fun us e => ⟨us, f.eq _ _ e n⟩
theorem TupF.un {a : Addr} {vs : List V} (h : TupF H a vs) (f : Fr H M H' M') (n : M a = none) : M' a = none := h.elim fun us e => f.un _ _ e n
theorem KL.fr {a : Addr} {vs : List V} (f : Fr H M H' M') (h : KL K H M a vs) : KL K H' M' a vs := by
  rcases h with ⟨n, r⟩ | h
  · obtain ⟨o, e⟩ := Rd.some r
    refine .inl ⟨f.un a o e n, ?_⟩
    rcases r with r | ⟨x, r⟩
    · exact .inl (f.eq _ _ r n)
    · exact .inr ⟨x, f.eq _ _ r n⟩
  · exact .inr h
mutual
theorem Has.fr (f : Fr H M H' M') : ∀ {d : D} {v : V}, Has K H M d v → Has K H' M' d v
  | .non, _, h => h
  | .bl _, _, h => h
  | .int _, _, h => h
  | .str _, _, h => h
  | .ref _, _, h => h
  | .ty _, _, h => h
  | .scr ns, _, h => by
    obtain ⟨a, e, t⟩ := h
    exact ⟨a, e, t.fr f⟩
  | .tup ds, _, h => by
    obtain ⟨a, vs, e, n, ⟨us, t⟩, r⟩ := h
    exact ⟨a, vs, e, f.un _ _ t n, ⟨us, f.eq _ _ t n⟩, HasL.fr f r⟩
  | .tpl ds, _, h => by
    obtain ⟨a, vs, e, n, t, r⟩ := h
    exact ⟨a, vs, e, f.un _ _ t n, f.eq _ _ t n, HasL.fr f r⟩
  | .lst ds, _, h => by
    obtain ⟨a, vs, e, n, t, r⟩ := h
    exact ⟨a, vs, e, f.un _ _ t n, f.eq _ _ t n, HasL.fr f r⟩
  | .dic ks ds, _, h => by
    obtain ⟨a, vs, e, n, t, l, r⟩ := h
    exact ⟨a, vs, e, f.un _ _ t n, f.eq _ _ t n, l, HasL.fr f r⟩
  | .obj C ns ds, _, h => by
    obtain ⟨a, dx, vs, e, n, t, l, r⟩ := h
    exact ⟨a, dx, vs, e, f.un _ _ t n, f.eq _ _ t n, l, HasL.fr f r⟩
theorem HasL.fr (f : Fr H M H' M') : ∀ {ds : List D} {vs : List V}, HasL K H M ds vs → HasL K H' M' ds vs
  | [], _, h => h
  | d :: ds, _, h => by
    obtain ⟨v, r, e, h1, h2⟩ := h
    exact ⟨v, r, e, Has.fr f h1, HasL.fr f h2⟩
end
theorem HasL.len : ∀ {ds : List D} {vs : List V}, HasL K H M ds vs → vs.length = ds.length
  | [], _, h => by rw [show _ = ([] : List V) from h]; rfl
  | d :: ds, _, h => by
    obtain ⟨v, r, rfl, _, h2⟩ := h
    rw [List.length_cons, List.length_cons, h2.len]
theorem HasL.get : ∀ {ds : List D} {vs : List V} {i : Nat} {d : D}, HasL K H M ds vs → ds[i]? = some d → ∃ v, vs[i]? = some v ∧ Has K H M d v
  | [], _, _, _, _, e => by simp at e
  | d :: ds, _, i, d', h, e => by
    obtain ⟨v, r, rfl, h1, h2⟩ := h
    cases i with
    | zero =>
      rw [List.getElem?_cons_zero] at e
      cases e
      exact ⟨v, rfl, h1⟩
    | succ i =>
      rw [List.getElem?_cons_succ] at e
      obtain ⟨w, hw, r⟩ := HasL.get h2 e
      exact ⟨w, by rw [List.getElem?_cons_succ]; exact hw, r⟩
theorem HasL.get' : ∀ {ds : List D} {vs : List V} {i : Nat} {v : V}, HasL K H M ds vs → vs[i]? = some v → ∃ d, ds[i]? = some d ∧ Has K H M d v
  | [], _, _, _, h, e => by rw [show _ = ([] : List V) from h] at e; simp at e
  | d :: ds, _, i, v', h, e => by
    obtain ⟨v, r, rfl, h1, h2⟩ := h
    cases i with
    | zero =>
      rw [List.getElem?_cons_zero] at e
      cases e
      exact ⟨d, rfl, h1⟩
    | succ i =>
      rw [List.getElem?_cons_succ] at e
      obtain ⟨w, hw, r⟩ := HasL.get' h2 e
      exact ⟨w, by rw [List.getElem?_cons_succ]; exact hw, r⟩
theorem HasL.app : ∀ {ds es : List D} {vs ws : List V}, HasL K H M ds vs → HasL K H M es ws → HasL K H M (ds ++ es) (vs ++ ws)
  | [], _, _, _, h, h' => by rw [show _ = ([] : List V) from h]; exact h'
  | d :: ds, _, _, _, h, h' => by
    obtain ⟨v, r, rfl, h1, h2⟩ := h
    exact ⟨v, _, rfl, h1, HasL.app h2 h'⟩
theorem HasL.one {d : D} {v : V} (h : Has K H M d v) : HasL K H M [d] [v] := ⟨v, [], rfl, h, rfl⟩
theorem HasL.nil : HasL K H M [] [] := rfl
theorem HasL.cons {d : D} {v : V} {ds : List D} {vs : List V} (h : Has K H M d v) (t : HasL K H M ds vs) : HasL K H M (d :: ds) (v :: vs) := ⟨v, vs, rfl, h, t⟩
theorem HasL.drop : ∀ {ds : List D} {vs : List V} (n : Nat), HasL K H M ds vs → HasL K H M (ds.drop n) (vs.drop n)
  | _, _, 0, h => h
  | [], _, n + 1, h => by rw [show _ = ([] : List V) from h]; rfl
  | d :: ds, _, n + 1, h => by
    obtain ⟨v, r, rfl, _, h2⟩ := h
    exact HasL.drop n h2
theorem HasL.take : ∀ {ds : List D} {vs : List V} (n : Nat), HasL K H M ds vs → HasL K H M (ds.take n) (vs.take n)
  | _, _, 0, h => by rw [List.take_zero, List.take_zero]; rfl
  | [], _, n + 1, h => by rw [show _ = ([] : List V) from h]; rfl
  | d :: ds, _, n + 1, h => by
    obtain ⟨v, r, rfl, h1, h2⟩ := h
    exact ⟨v, _, rfl, h1, HasL.take n h2⟩
theorem HasL.set {d : D} {v : V} (h : Has K H M d v) : ∀ {ds : List D} {vs : List V} (n : Nat), HasL K H M ds vs → HasL K H M (ds.set n d) (vs.set n v)
  | [], _, _, q => by rw [show _ = ([] : List V) from q]; rfl
  | e :: ds, _, 0, q => by
    obtain ⟨w, r, rfl, h1, h2⟩ := q
    exact ⟨v, r, rfl, h, h2⟩
  | e :: ds, _, n + 1, q => by
    obtain ⟨w, r, rfl, h1, h2⟩ := q
    exact ⟨w, _, rfl, h1, HasL.set h n h2⟩
end

/-- a thing known to its object -/
abbrev anyO : HO := .ext fun _ => True
/-- the cells of a lambda's closure are those of the captured slots -/
structure ClOk (L : LamDesc) (cs : List (Nat × Addr)) (cl : List (Str × Addr)) : Prop where
  free : ∀ y, L.scope.names.lookup y = some .free → ∃ c, cl.lookup y = some c
  inj : ∀ y z c, cl.lookup y = some c → cl.lookup z = some c → y = z
  to : ∀ y c, cl.lookup y = some c → ∃ j, L.N[j]? = some y ∧ (j, c) ∈ cs
  fro : ∀ j c, (j, c) ∈ cs → ∃ y, L.N[j]? = some y ∧ cl.lookup y = some c
/-- what is told of an address -/
def HasO (K : PySem.W.Frag) (H : Hp) (M : DHp) (a : Addr) : DO → Prop
  | .lst ds => ∃ vs, H a = some (.lst vs) ∧ HasL K H M ds vs
  | .dK ks ds => ∃ vs, H a = some (.dK (ks.zip vs)) ∧ ks.length = ds.length ∧ HasL K H M ds vs
  | .ins C ns ds => ∃ dx vs, H a = some (.ins C dx (ns.zip vs)) ∧ ns.length = ds.length ∧ HasL K H M ds vs
  | .dT ks ds => ∃ vs, H a = some (.dT (ks.zip vs)) ∧ ks.length = ds.length ∧ HasL K H M ds vs
  | .fT od vs ks ds => H a = some (.frz od (.dT (ks.zip vs))) ∧ ks.length = ds.length ∧ HasL K H M ds vs
  | .lam L i cs => ∃ (cl : List (Str × Addr)) (pm ctv : Value) (c' : Addr), H a = some (.frz (PySem.W.kla_obj "<lambda>" L.q L.params L.body L.scope cl pm c' ctv) anyO) ∧ ClOk L cs cl ∧ H c' = some (LamX.CodeO c' L.q) ∧ M c' = none
  | .cel d => ∃ (o : Obj) (u : Value) (v : V), H a = some (.frz o anyO) ∧ o.data = .cell (some u) ∧ RelV v u ∧ Has K H M d v
  | .fK od vs ks ds => H a = some (.frz od (.dK (ks.zip vs))) ∧ ks.length = ds.length ∧ HasL K H M ds vs
  | .tab q => ∃ ps : Array Value, H a = some (.tbl ps) ∧ TriplesOk ps.toList ∧ ∀ (pos : Pos) (cv : Value), codeAmong pos ps.toList = some cv → ∃ b, cv = .ref b ∧ M b = none ∧ H b = some (LamX.CodeO b q)
theorem HasO.at {K : PySem.W.Frag} {H : Hp} {M : DHp} {a : Addr} {o : DO} (h : HasO K H M a o) : ∃ u, H a = some u := by
  cases o with
  | lst ds => obtain ⟨vs, e, _⟩ := h; exact ⟨_, e⟩
  | dK ks ds => obtain ⟨vs, e, _⟩ := h; exact ⟨_, e⟩
  | ins C ns ds => obtain ⟨dx, vs, e, _⟩ := h; exact ⟨_, e⟩
  | tab q => obtain ⟨ps, e, _⟩ := h; exact ⟨_, e⟩
  | dT ks ds => obtain ⟨vs, e, _⟩ := h; exact ⟨_, e⟩
  | fT od vs ks ds => obtain ⟨e, _⟩ := h; exact ⟨_, e⟩
  | lam L i cs => obtain ⟨_, _, _, _, e, _⟩ := h; exact ⟨_, e⟩
  | cel d => obtain ⟨_, _, _, e, _⟩ := h; exact ⟨_, e⟩
  | fK od vs ks ds => obtain ⟨e, _⟩ := h; exact ⟨_, e⟩
theorem HasO.fr {K : PySem.W.Frag} {H H' : Hp} {M M' : DHp} {a : Addr} {o : DO} (f : Fr H M H' M') (e : H' a = H a) (h : HasO K H M a o) : HasO K H' M' a o := by
  cases o with
  | lst ds => obtain ⟨vs, q, r⟩ := h; exact ⟨vs, e.trans q, r.fr f⟩
  | dK ks ds => obtain ⟨vs, q, l, r⟩ := h; exact ⟨vs, e.trans q, l, r.fr f⟩
  | ins C ns ds => obtain ⟨dx, vs, q, l, r⟩ := h; exact ⟨dx, vs, e.trans q, l, r.fr f⟩
  | dT ks ds => obtain ⟨vs, q, l, r⟩ := h; exact ⟨vs, e.trans q, l, r.fr f⟩
  | fT od vs ks ds => obtain ⟨q, l, r⟩ := h; exact ⟨e.trans q, l, r.fr f⟩
  | lam L i cs => obtain ⟨cl, pm, ctv, c', q, k, g, n⟩ := h; exact ⟨cl, pm, ctv, c', e.trans q, k, f.eq _ _ g n, f.un _ _ g n⟩
  | cel d => obtain ⟨o, u, v, q, k, g, r⟩ := h; exact ⟨o, u, v, e.trans q, k, g, r.fr f⟩
  | fK od vs ks ds => obtain ⟨q, l, r⟩ := h; exact ⟨e.trans q, l, r.fr f⟩
  | tab q =>
    obtain ⟨ps, z, k, g⟩ := h
    refine ⟨ps, e.trans z, k, fun pos cv y => ?_⟩
    obtain ⟨b, e1, n, e2⟩ := g pos cv y
    exact ⟨b, e1, f.un _ _ e2 n, f.eq _ _ e2 n⟩
def AbH (K : PySem.W.Frag) (H : Hp) (M : DHp) : Prop := ∀ a o, M a = some o → HasO K H M a o
abbrev DSt := List (Option D)
structure AbS (K : PySem.W.Frag) (H : Hp) (M : DHp) (τ : DSt) (σ : L2.St) : Prop where
  len : τ.length = σ.length
  get : ∀ (i : Nat) (d : D), τ[i]? = some (some d) → ∃ v, σ[i]? = some (some v) ∧ Has K H M d v
section
variable {K : PySem.W.Frag} {H H' : Hp} {M M' : DHp} {τ : DSt} {σ : L2.St}
theorem AbH.fresh (A : AbH K H M) {p : Addr} (h : H p = none) : M p = none := by
  cases e : M p with
  | none => rfl
  | some o =>
    obtain ⟨u, q⟩ := (A p o e).at
    rw [q] at h; cases h
theorem AbH.less (A : AbH K H M) (s : Sub M' M) : AbH K H M' := fun a o e => by
  have f : Fr H M H M' := (Fr.refl H M).less s
  exact (A a o (s a o e)).fr f rfl
theorem AbS.less (A : AbS K H M τ σ) (s : Sub M' M) : AbS K H M' τ σ :=
  ⟨A.len, fun i d e => let ⟨v, q, r⟩ := A.get i d e; ⟨v, q, r.fr ((Fr.refl H M).less s)⟩⟩
theorem AbS.fr (f : Fr H M H' M') (A : AbS K H M τ σ) : AbS K H' M' τ σ :=
  ⟨A.len, fun i d e => let ⟨v, q, r⟩ := A.get i d e; ⟨v, q, r.fr f⟩⟩
theorem AbH.new (A : AbH K H M) {p : Addr} {o : HO} (h : H p = none) : AbH K (upd H p o) M := fun a u e => by
  obtain ⟨x, q⟩ := (A a u e).at
  exact (A a u e).fr (Fr.new h) (upd_ne (ne_of_none q h))
theorem AbH.newT (A : AbH K H M) {p : Addr} {o : HO} {u : DO} (h : H p = none) (n : HasO K (upd H p o) (up M p u) p u) : AbH K (upd H p o) (up M p u) := fun a w e => by
  by_cases z : a = p
  · subst z; rw [up_same] at e; cases e; exact n
  · rw [up_ne z] at e
    exact (A a w e).fr (Fr.newT h) (upd_ne z)
theorem AbH.put (A : AbH K H M) {p : Addr} {o : HO} {u u0 : DO} (h : M p = some u0) (n : HasO K (upd H p o) (up M p u) p u) : AbH K (upd H p o) (up M p u) := fun a w e => by
  by_cases z : a = p
  · subst z; rw [up_same] at e; cases e; exact n
  · rw [up_ne z] at e
    exact (A a w e).fr (Fr.put h) (upd_ne z)
theorem AbS.set (A : AbS K H M τ σ) {d : D} {v : V} (h : Has K H M d v) (i : Nat) : AbS K H M (τ.set i (some d)) (σ.set i (some v)) := by
  refine ⟨by rw [List.length_set, List.length_set]; exact A.len, fun j e q => ?_⟩
  by_cases z : i = j
  · subst z
    by_cases l : i < τ.length
    · rw [List.getElem?_set_self l] at q
      cases q
      exact ⟨v, List.getElem?_set_self (by rw [← A.len]; exact l), h⟩
    · rw [List.getElem?_eq_none (by rw [List.length_set]; omega)] at q
      cases q
  · rw [List.getElem?_set_ne z] at q
    rw [List.getElem?_set_ne z]
    exact A.get j e q
/-- fewer slots told -/
def SubS (τ' τ : DSt) : Prop := τ'.length = τ.length ∧ ∀ (i : Nat) (d : D), τ'[i]? = some (some d) → τ[i]? = some (some d)
theorem SubS.refl (τ : DSt) : SubS τ τ := ⟨rfl, fun _ _ h => h⟩
theorem AbS.lessS {τ' : DSt} (A : AbS K H M τ σ) (s : SubS τ' τ) : AbS K H M τ' σ := ⟨s.1.trans A.len, fun i d e => A.get i d (s.2 i d e)⟩
end
end Rh
/-! DL1: liftings; names, constants, operators, tests, displays. -/
namespace Rh
open PySem PySem.Spec PyProof.Rows L2

structure Org where
  H : Hp
  M : DHp
abbrev DVK := D → DHp → Prop
abbrev DTE := DSt → DHp → DVK → Prop
abbrev DTT := DSt → DHp → (Bool → DHp → Prop) → Prop
structure DEnds where
  nx : DSt → DHp → Prop
  rt : DVK
abbrev DTS := DEnds → DSt → DHp → Prop

/-- what follows, told of data, gives what follows, told of values -/
def Post (K : PySem.W.Frag) (H : Hp) (M : DHp) (Q' : DVK) (Q : VK) : Prop := ∀ d M' v H', Q' d M' → Fr H M H' M' → AbH K H' M' → Has K H' M' d v → Q v H'
def PostB (K : PySem.W.Frag) (H : Hp) (M : DHp) (Q' : Bool → DHp → Prop) (Q : Bool → Hp → Prop) : Prop := ∀ b M' H', Q' b M' → Fr H M H' M' → AbH K H' M' → Q b H'
def PostL (K : PySem.W.Frag) (H : Hp) (M : DHp) (Q' : List D → DHp → Prop) (Q : List V → Hp → Prop) : Prop := ∀ ds M' vs H', Q' ds M' → Fr H M H' M' → AbH K H' M' → HasL K H' M' ds vs → Q vs H'
def PostN (K : PySem.W.Frag) (H : Hp) (M : DHp) (Q' : DSt → DHp → Prop) (Q : L2.St → Hp → Prop) : Prop := ∀ τ M' σ H', Q' τ M' → Fr H M H' M' → AbH K H' M' → AbS K H' M' τ σ → Q σ H'
section
variable {K : PySem.W.Frag} {H H1 : Hp} {M M1 : DHp}
theorem Post.tr {Q' : DVK} {Q : VK} (p : Post K H M Q' Q) (f : Fr H M H1 M1) : Post K H1 M1 Q' Q := fun d M' v H' q g => p d M' v H' q (f.trans g)
theorem PostB.tr {Q' : Bool → DHp → Prop} {Q : Bool → Hp → Prop} (p : PostB K H M Q' Q) (f : Fr H M H1 M1) : PostB K H1 M1 Q' Q := fun d M' H' q g => p d M' H' q (f.trans g)
theorem PostL.tr {Q' : List D → DHp → Prop} {Q : List V → Hp → Prop} (p : PostL K H M Q' Q) (f : Fr H M H1 M1) : PostL K H1 M1 Q' Q := fun d M' v H' q g => p d M' v H' q (f.trans g)
theorem PostN.tr {Q' : DSt → DHp → Prop} {Q : L2.St → Hp → Prop} (p : PostN K H M Q' Q) (f : Fr H M H1 M1) : PostN K H1 M1 Q' Q := fun τ M' σ H' q g => p τ M' σ H' q (f.trans g)
/-- the value stands and nothing else is told of the change -/
theorem Post.same {Q' : DVK} {Q : VK} (p : Post K H M Q' Q) {d : D} {v : V} (A : AbH K H M) (q : Q' d M) (h : Has K H M d v) : Q v H := p d M v H q (Fr.refl H M) A h
end

section
variable (K : PySem.W.Frag) (O : Org)
/-- what every lifting begins with -/
structure Beg (H : Hp) (M : DHp) (τ : DSt) (σ : L2.St) : Prop where
  fr : Fr O.H O.M H M
  s : AbS K H M τ σ
  h : AbH K H M
def liftE (t : DTE) : TE := fun σ H Q => ∃ (τ : DSt) (M : DHp) (Q' : DVK), Beg K O H M τ σ ∧ t τ M Q' ∧ Post K H M Q' Q
def liftT (t : DTT) : TT := fun σ H Q => ∃ (τ : DSt) (M : DHp) (Q' : Bool → DHp → Prop), Beg K O H M τ σ ∧ t τ M Q' ∧ PostB K H M Q' Q
def liftS (t : DTS) : TS := fun D σ H => ∃ (τ : DSt) (M : DHp) (E : DEnds), Beg K O H M τ σ ∧ t E τ M ∧ PostN K H M E.nx D.nx ∧ Post K H M E.rt D.rt
end
theorem Beg.step {K : PySem.W.Frag} {O : Org} {H H1 : Hp} {M M1 : DHp} {τ : DSt} {σ : L2.St} (b : Beg K O H M τ σ) (f : Fr H M H1 M1) (a : AbH K H1 M1) : Beg K O H1 M1 τ σ := ⟨b.fr.trans f, b.s.fr f, a⟩

abbrev DE (X : Cx) (O : Org) (e : Expr) (t : DTE) : Prop := PE X e (liftE X.K O t)
abbrev DT (X : Cx) (O : Org) (e : Expr) (t : DTT) : Prop := PT X e (liftT X.K O t)
abbrev DW (X : Cx) (O : Org) (e : Expr) (t : DTT) : Prop := PW X e (liftT X.K O t)
abbrev DS (X : Cx) (O : Org) (st : Stmt) (t : DTS) : Prop := PS X st (liftS X.K O t)
abbrev DSs (X : Cx) (O : Org) (st : List Stmt) (t : DTS) : Prop := PSs X st (liftS X.K O t)
section
variable {X : Cx}
theorem _root_.L2.PE.wk {e : Expr} {t t' : TE} (h : PE X e t) (i : ∀ σ H Q, t' σ H Q → t σ H Q) : PE X e t' := ⟨fun pins s σ H Q I q => h.run pins s σ H Q I (i σ H Q q)⟩
theorem _root_.L2.PT.wk {e : Expr} {t t' : TT} (h : PT X e t) (i : ∀ σ H Q, t' σ H Q → t σ H Q) : PT X e t' := ⟨fun pins s σ H Q I q => h.run pins s σ H Q I (i σ H Q q)⟩
theorem _root_.L2.PW.wk {e : Expr} {t t' : TT} (h : PW X e t) (i : ∀ σ H Q, t' σ H Q → t σ H Q) : PW X e t' := ⟨fun wh pins s σ H Q I q => h.run wh pins s σ H Q I (i σ H Q q)⟩
theorem _root_.L2.PA.wk {es : List Expr} {t t' : TA} (h : PA X es t) (i : ∀ σ H Q, t' σ H Q → t σ H Q) : PA X es t' := ⟨fun pos pins s σ H Q I q => h.run pos pins s σ H Q I (i σ H Q q)⟩
theorem _root_.L2.PS.wk {e : Stmt} {t t' : TS} (h : PS X e t) (i : ∀ D σ H, t' D σ H → t D σ H) : PS X e t' := ⟨fun pins s σ H D I q => h.run pins s σ H D I (i D σ H q)⟩
theorem _root_.L2.PSs.wk {e : List Stmt} {t t' : TS} (h : PSs X e t) (i : ∀ D σ H, t' D σ H → t D σ H) : PSs X e t' := ⟨fun pins s σ H D I q => h.run pins s σ H D I (i D σ H q)⟩
end

/-! ### names, constants -/
def sl : DSt → Nat → Option D
  | [], _ => none
  | x :: _, 0 => x
  | _ :: r, n + 1 => sl r n
theorem sl_get : ∀ {τ : DSt} {i : Nat} {d : D}, sl τ i = some d → τ[i]? = some (some d)
  | [], _, _, e => by cases e
  | x :: r, 0, d, e => by
    have e' : x = some d := e
    rw [List.getElem?_cons_zero, e']
  | x :: r, n + 1, d, e => by
    rw [List.getElem?_cons_succ]
    exact sl_get (τ := r) e
/-- a datum that is there -/
def wth {α : Type} (o : Option α) (k : α → Prop) : Prop := match o with
  | some a => k a
  | none => False
theorem wth_of {α : Type} {o : Option α} {k : α → Prop} (h : wth o k) : ∃ a, o = some a ∧ k a := by
  cases o with
  | none => exact h.elim
  | some a => exact ⟨a, rfl, h⟩
theorem wth_some {α : Type} {o : Option α} {k : α → Prop} {a : α} (e : o = some a) (h : k a) : wth o k := by
  rw [e]; exact h
def dVar (i : Nat) : DTE := fun τ M Q => wth (sl τ i) fun d => Q d M
def dC (d : D) : DTE := fun _ M Q => Q d M
/-- constants: of each the one value -/
def cV : D → Option V
  | .non => some .non
  | .bl b => some (.bl b)
  | .int i => some (.int i)
  | .str x => some (.str x)
  | .ref a => some (.ref a)
  | .ty n => some (.ty n)
  | _ => none
theorem cV_has {K : PySem.W.Frag} {H : Hp} {M : DHp} {d : D} {v : V} (h : cV d = some v) : Has K H M d v := by
  cases d <;> first | (cases h; rfl) | cases h
section
variable {X : Cx} {O : Org} {pos : Pos}
theorem de_var {i : Nat} {x : Str} (h : PE X (.Name x pos) (tVar i)) : DE X O (.Name x pos) (dVar i) := h.wk fun σ H Q ⟨τ, M, Q', b, t, p⟩ => by
  obtain ⟨d, e, q⟩ := wth_of t
  obtain ⟨v, e', r⟩ := b.s.get i d (sl_get e)
  exact ⟨v, e', p.same b.h q r⟩
theorem de_c {e : Expr} {v : V} {d : D} (h : PE X e (tC v)) (c : cV d = some v) : DE X O e (dC d) := h.wk fun σ H Q ⟨τ, M, Q', b, t, p⟩ => p.same b.h t (cV_has c)

/-! ### operators -/
abbrev DR2 := D → D → DHp → DVK → Prop
def Ref2 (K : PySem.W.Frag) (r : R2) (r' : DR2) : Prop := ∀ (H : Hp) (M : DHp) (x y : V) (dx dy : D) (Q : VK) (Q' : DVK), AbH K H M → Has K H M dx x → Has K H M dy y → r' dx dy M Q' → Post K H M Q' Q → r x y H Q
def dOp (r : DR2) (ta tb : DTE) : DTE := fun τ M Q => ta τ M fun x M1 => tb τ M1 fun y M2 => r x y M2 Q
theorem lift2 {K : PySem.W.Frag} {O : Org} {r : R2} {r' : DR2} {ta tb : DTE} (hr : Ref2 K r r') : ∀ σ H Q, liftE K O (dOp r' ta tb) σ H Q → tOp r (liftE K O ta) (liftE K O tb) σ H Q := fun σ H Q ⟨τ, M, Q', b, t, p⟩ =>
  ⟨τ, M, _, b, t, fun d M1 x H1 q f1 a1 h1 => ⟨τ, M1, _, b.step f1 a1, q, fun e M2 y H2 q2 f2 a2 h2 => hr H2 M2 x y d e Q Q' a2 (h1.fr f2) h2 q2 (p.tr (f1.trans f2))⟩⟩
variable {a c : Expr} {ta tb : DTE}
theorem de_op {op : Operator} {r : R2} {r' : DR2} (ho : OpR X (binaryOp op) r) (hr : Ref2 X.K r r') (ha : DE X O a ta) (hb : DE X O c tb) : DE X O (.BinOp a op c pos) (dOp r' ta tb) := (pe_op ho ha hb).wk (lift2 hr)
theorem de_cmp {op : CmpOp} {r : R2} {r' : DR2} (ho : OpR X (compareOp op) r) (hr : Ref2 X.K r r') (ha : DE X O a ta) (hb : DE X O c tb) (hm : behindInMarks op c = false) : DE X O (.Compare a [op] [c] pos) (dOp r' ta tb) := (pe_cmpR ho ha hb hm).wk (lift2 hr)
/-- a value that is a bool, as a test -/
def dTst (t : DTE) : DTT := fun τ M Q => t τ M fun x M1 => match x with
  | .bl b => Q b M1
  | _ => False
theorem liftTst {K : PySem.W.Frag} {O : Org} {t : DTE} : ∀ σ H Q, liftT K O (dTst t) σ H Q → tTest (liftE K O t) σ H Q := fun σ H Q ⟨τ, M, Q', b, t, p⟩ =>
  ⟨τ, M, _, b, t, fun d M1 x H1 q f1 a1 h1 => by
    cases d with
    | bl k =>
      rw [show x = .bl k from h1]
      exact ⟨k, rfl, p k M1 H1 q f1 a1⟩
    | _ => exact q.elim⟩
theorem dt_cmp {op : CmpOp} {r : R2} {r' : DR2} (ho : OpR X (compareOp op) r) (hr : Ref2 X.K r r') (ha : DE X O a ta) (hb : DE X O c tb) (hm : behindInMarks op c = false) : DT X O (.Compare a [op] [c] pos) (dTst (dOp r' ta tb)) :=
  (pt_cmpR ho ha hb hm).wk fun σ H Q h => lift2 hr σ H _ (liftTst σ H Q h)
end
end Rh
/-! DL1T: tuples whose own object is known: displays, sums, slices, tuple(..). -/
namespace Rh
open PySem PySem.Spec PyProof.Rows L2

section
variable {X : Cx} {pos : Pos}
abbrev frT (us : List Value) (xs : List V) : HO := .frz (tupO us) (.tup xs)
theorem laidT {pins : List (Addr × Obj)} {σ : L2.St} {H : Hp} {s : Shared} {us : List Value} {xs : List V} (I : Inv X pins σ H s) (r : Vals xs us) (z : xs.length ≤ sizeLine) :
    H s.heap.objs.size = none ∧ Inv X pins σ (upd H s.heap.objs.size (frT us xs)) { s with heap := s.heap.push (tupO us) } :=
  ⟨I.hok.fresh (Nat.le_refl _), I.laid (t' := s.toks) (fun b u e => Heap.get?_push_of_some _ e) (Nat.le_refl _) ⟨Heap.get?_push_size _ rfl, z, us, r, IsTup.new _ _⟩⟩
def tTupF (t : TA) : TE := fun σ H Q => t σ H fun xs H1 => xs.length ≤ sizeLine ∧ ∀ z us, H1 z = none → Q (.ref z) (upd H1 z (frT us xs))
theorem pe_tupF {es : List Expr} {t : TA} {x1 : Nat} (h : PA X es t) : PE X (.Tuple es x1 pos) (tTupF t) :=
  ⟨fun pins s σ H Q I hq => wpAny_Tuple_spliced (thn (h.run pos pins s σ H _ I hq) fun us s1 ⟨xs, H1, I1, r, z, q⟩ => ⟨by rw [← r.length]; exact z, ⟨.ref _, _, (laidT I1 r z).2, rfl, q _ us (laidT I1 r z).1⟩⟩)⟩
/-- tuple(x) of a list or tuple -/
def rTupF (K : PySem.W.Frag) : List V → Hp → VK → Prop := fun xs H Q => ∃ p ys, xs = [.ref p] ∧ ((SqL K H p ys ∧ ∀ l us, H l = none → Q (.ref l) (upd H l (frT us ys))) ∨ (SqT K H p ys ∧ Q (.ref p) H))
theorem call_tupleF : CallR X (.type "tuple") (rTupF X.K) := by
  rintro pins s σ H xs us Q I r ⟨p, ys, rfl, ⟨hq, q⟩ | ⟨hq, q⟩⟩
  · obtain ⟨u, rfl, rx⟩ := vals1 r
    cases rx
    obtain ⟨its, r', pl, hz⟩ := I.list hq
    refine call_tuple_list pl.isList (fun h' kp => ?_) (by rw [List.size_toArray, ← r'.length]; exact hz)
    have I1 : Inv X pins σ H { s with heap := h' } := I.kept (t' := s.toks) kp
    exact ⟨.ref _, _, (laidT I1 r' hz).2, rfl, q _ its (laidT I1 r' hz).1⟩
  · exact call_tuple_of pins s σ H _ us Q I r ⟨p, ys, rfl, .inr ⟨hq, q⟩⟩
/-- t + u -/
def rCatF (K : PySem.W.Frag) : R2 := fun x y H Q => ∃ a b xs ys, x = .ref a ∧ y = .ref b ∧ SqT K H a xs ∧ SqT K H b ys ∧ xs.length + ys.length ≤ sizeLine ∧
  (xs = [] → Q (.ref b) H) ∧ (xs ≠ [] → ys = [] → Q (.ref a) H) ∧ (xs ≠ [] → ys ≠ [] → ∀ p us, H p = none → Q (.ref p) (upd H p (frT us (xs ++ ys))))
theorem op_catF : OpR X (binaryOp .Add) (rCatF X.K) := by
  rintro pins s σ H x y v u Q I rx ry ⟨a, b, xs, ys, rfl, rfl, ha, hb, hz, q0, q1, q2⟩
  by_cases hx : xs = []
  · exact op_catA pins s σ H _ _ v u Q I rx ry ⟨a, b, xs, ys, rfl, rfl, ha, hb, hz, q0, q1, fun n => absurd hx n⟩
  by_cases hy : ys = []
  · exact op_catA pins s σ H _ _ v u Q I rx ry ⟨a, b, xs, ys, rfl, rfl, ha, hb, hz, q0, q1, fun _ n => absurd hy n⟩
  cases rx
  cases ry
  obtain ⟨its, r1, p1, _⟩ := I.tuple ha
  obtain ⟨its2, r2, p2, _⟩ := I.tuple hb
  have hz2 : (xs ++ ys).length ≤ sizeLine := by rw [List.length_append]; exact hz
  refine HT.cat_tup p1 p2 (fun z => hx (r1.nil_iff.mp z)) (fun z => absurd (r2.nil_iff.mp z) hy) (fun z => ?_) (by rw [← r1.length, ← r2.length]; exact hz)
  exact ⟨.ref _, _, (laidT I (r1.append r2) hz2).2, rfl, q2 hx hy _ _ (laidT I (r1.append r2) hz2).1⟩
/-- t[lo:hi] -/
def rSlF (K : PySem.W.Frag) : V → Option Int → Option Int → Hp → VK → Prop := fun x lo hi H Q => ∃ a xs, x = .ref a ∧ SqT K H a xs ∧
  (HT.sIx xs.length 0 lo = 0 ∧ HT.sIx xs.length xs.length hi = xs.length → Q (.ref a) H) ∧ (¬ (HT.sIx xs.length 0 lo = 0 ∧ HT.sIx xs.length xs.length hi = xs.length) → ∀ p us, H p = none → Q (.ref p) (upd H p (frT us (cutV xs lo hi))))
theorem sl_tupF : SlR X (rSlF X.K) := by
  rintro pins s σ H x v vl vu lo hi sl Q I rx hs pl pu ⟨a, xs, rfl, hx, q1, q2⟩
  by_cases hw : HT.sIx xs.length 0 lo = 0 ∧ HT.sIx xs.length xs.length hi = xs.length
  · exact sl_tupA pins s σ H _ v vl vu lo hi sl Q I rx hs pl pu ⟨a, xs, rfl, hx, q1, fun n => absurd hw n⟩
  cases rx
  obtain ⟨its, r, ht, hz⟩ := I.tuple hx
  have hlen : its.toArray.size = xs.length := by rw [List.size_toArray, r.length]
  have r2 : Vals (cutV xs lo hi) _ := (r.drop (HT.sIx xs.length 0 lo)).take (HT.sIx xs.length xs.length hi - HT.sIx xs.length 0 lo)
  have z2 : (cutV xs lo hi).length ≤ sizeLine := Nat.le_trans (cutV_length xs lo hi) hz
  refine ⟨"tuple", _, PyProof.Rows.slot_tuple_getitem.lookup, ht.typeIs, HT.getItem_tuple_cut ht hs pl pu (by rw [hlen]; exact hw) ?_ (by rw [hlen]; exact hz)⟩
  rw [hlen]
  exact ⟨.ref _, _, (laidT I r2 z2).2, rfl, q2 hw _ _ (laidT I r2 z2).1⟩
end
end Rh
/-! DL2: operators, truth, tests, displays, subscripts, slices. -/
namespace Rh
open PySem PySem.Spec PyProof.Rows L2

/-! ### what a datum is -/
def mlst (x : D) (M : DHp) : Option (List D) := match x with
  | .lst ds => some ds
  | .ref a => match M a with
    | some (.lst ds) => some ds
    | _ => none
  | _ => none
def lstOf (x : D) (M : DHp) : Option (List D) := match x with
  | .scr ns => some (ns.map D.int)
  | x => mlst x M
def tupOf (x : D) : Option (List D) := match x with
  | .tup ds => some ds
  | _ => none
section
variable {K : PySem.W.Frag} {H : Hp} {M : DHp} {x : D} {v : V} {ds : List D}
theorem mlst_at (A : AbH K H M) (h : Has K H M x v) (e : mlst x M = some ds) : ∃ a vs, v = .ref a ∧ H a = some (.lst vs) ∧ HasL K H M ds vs := by
  cases x with
  | lst es =>
    cases e
    obtain ⟨a, vs, e1, _, e2, r⟩ := h
    exact ⟨a, vs, e1, e2, r⟩
  | ref a =>
    cases q : M a with
    | none => simp only [mlst, q] at e; cases e
    | some o =>
      cases o with
      | lst es =>
        simp only [mlst, q] at e
        cases e
        obtain ⟨vs, e2, r⟩ := A a _ q
        exact ⟨a, vs, h, e2, r⟩
      | _ => simp only [mlst, q] at e; cases e
  | _ => cases e
theorem hasL_ints (K : PySem.W.Frag) (H : Hp) (M : DHp) : ∀ ns : List Int, HasL K H M (ns.map D.int) (ns.map V.int)
  | [] => rfl
  | n :: ns => ⟨_, _, rfl, rfl, hasL_ints K H M ns⟩
theorem lstOf_at (A : AbH K H M) (h : Has K H M x v) (e : lstOf x M = some ds) : ∃ a vs, v = .ref a ∧ SqL K H a vs ∧ HasL K H M ds vs := by
  cases x with
  | scr ns =>
    cases e
    obtain ⟨a, e1, r⟩ := h
    exact ⟨a, _, e1, r.sq, hasL_ints K H M ns⟩
  | lst es =>
    obtain ⟨a, vs, e1, e2, r⟩ := mlst_at A h (show mlst (.lst es) M = some ds from e)
    exact ⟨a, vs, e1, SqL.of e2, r⟩
  | ref b =>
    obtain ⟨a, vs, e1, e2, r⟩ := mlst_at A h (show mlst (.ref b) M = some ds from e)
    exact ⟨a, vs, e1, SqL.of e2, r⟩
  | _ => cases e
theorem tupOf_at (h : Has K H M x v) (e : tupOf x = some ds) : ∃ a vs, v = .ref a ∧ TupF H a vs ∧ HasL K H M ds vs := by
  cases x with
  | tup es =>
    cases e
    obtain ⟨a, vs, e1, _, e2, r⟩ := h
    exact ⟨a, vs, e1, e2, r⟩
  | _ => cases e
end
/-- a new list, tuple -/
def dNew (mu : Bool) (ds : List D) (M : DHp) (Q : DVK) : Prop := match mu with
  | false => Q (.lst ds) M
  | true => ∀ p, M p = none → Q (.ref p) (up M p (.lst ds))
section
variable {K : PySem.W.Frag} {H : Hp} {M : DHp} {ds : List D} {vs : List V} {Q : VK} {Q' : DVK}
theorem new_list {mu : Bool} (A : AbH K H M) (h : HasL K H M ds vs) (q : dNew mu ds M Q') (P : Post K H M Q' Q) {p : Addr} (np : H p = none) : Q (.ref p) (upd H p (.lst vs)) := by
  have nm := A.fresh np
  cases mu with
  | false => exact P _ M _ _ q (Fr.new np) (A.new np) ⟨p, vs, rfl, nm, upd_same, h.fr (Fr.new np)⟩
  | true => exact P _ _ _ _ (q p nm) (Fr.newT np) (A.newT np ⟨vs, upd_same, h.fr (Fr.newT np)⟩) rfl
theorem new_tup (A : AbH K H M) (h : HasL K H M ds vs) (q : Q' (.tup ds) M) (P : Post K H M Q' Q) {p : Addr} {us : List Value} (np : H p = none) : Q (.ref p) (upd H p (frT us vs)) :=
  P _ M _ _ q (Fr.new np) (A.new np) ⟨p, vs, rfl, A.fresh np, ⟨us, upd_same⟩, h.fr (Fr.new np)⟩
theorem new_tpl (A : AbH K H M) (h : HasL K H M ds vs) (q : Q' (.tpl ds) M) (P : Post K H M Q' Q) {p : Addr} (np : H p = none) : Q (.ref p) (upd H p (.tup vs)) :=
  P _ M _ _ q (Fr.new np) (A.new np) ⟨p, vs, rfl, A.fresh np, upd_same, h.fr (Fr.new np)⟩
end

/-! ### binary operators -/
def rI2 (C : Int → Int → Prop) (f : Int → Int → Int) : DR2 := fun x y M Q => match x, y with
  | .int i, .int j => C i j ∧ Q (.int (f i j)) M
  | _, _ => False
theorem ref_I {K : PySem.W.Frag} {C : Int → Int → Prop} {f : Int → Int → Int} : Ref2 K (rI C fun i j => .int (f i j)) (rI2 C f) := fun H M x y dx dy Q Q' A hx hy t P => by
  cases dx <;> first | exact t.elim | skip
  cases dy <;> first | exact t.elim | skip
  exact ⟨_, _, hx, hy, t.1, P.same A t.2 rfl⟩
def rB2 (f : Int → Int → Bool) : DR2 := fun x y M Q => match x, y with
  | .int i, .int j => Q (.bl (f i j)) M
  | _, _ => False
theorem ref_B {K : PySem.W.Frag} {f : Int → Int → Bool} : Ref2 K (rI0 fun i j => .bl (f i j)) (rB2 f) := fun H M x y dx dy Q Q' A hx hy t P => by
  cases dx <;> first | exact t.elim | skip
  cases dy <;> first | exact t.elim | skip
  exact ⟨_, _, hx, hy, P.same A t rfl⟩
/-- + of ints, texts, tuples, lists -/
def rAddAll (K : PySem.W.Frag) : R2 := fun x y H Q => rI0 (fun i j => .int (i + j)) x y H Q ∨ ((∃ i j, x = .str i ∧ y = .str j ∧ i.length + j.length ≤ sizeLine ∧ Q (.str (i ++ j)) H) ∨ (rCatF K x y H Q ∨ rCat x y H Q))
theorem op_addAll {X : Cx} : OpR X (binaryOp .Add) (rAddAll X.K) := OpR.or op_add (OpR.or op_add_str (OpR.or op_catF op_cat))
def rAddD (mu : Bool) : DR2 := fun x y M Q => match x, y with
  | .int i, .int j => Q (.int (i + j)) M
  | .str a, .str b => a.length + b.length ≤ sizeLine ∧ Q (.str (a ++ b)) M
  | .tup a, .tup b => a.length + b.length ≤ sizeLine ∧ Q (.tup (a ++ b)) M
  | x, y => wth (mlst x M) fun a => wth (mlst y M) fun b => a.length + b.length ≤ sizeLine ∧ dNew mu (a ++ b) M Q
theorem ref_add {K : PySem.W.Frag} {mu : Bool} : Ref2 K (rAddAll K) (rAddD mu) := fun H M x y dx dy Q Q' A hx hy t P => by
  have key : ∀ (dx dy : D), Has K H M dx x → Has K H M dy y → (wth (mlst dx M) fun a => wth (mlst dy M) fun b => a.length + b.length ≤ sizeLine ∧ dNew mu (a ++ b) M Q') → rAddAll K x y H Q := fun dx dy hx hy t => by
    obtain ⟨a, e1, t⟩ := wth_of t
    obtain ⟨b, e2, l, t⟩ := wth_of t
    obtain ⟨p, vs, rfl, h1, r1⟩ := mlst_at A hx e1
    obtain ⟨q, ws, rfl, h2, r2⟩ := mlst_at A hy e2
    exact .inr (.inr (.inr ⟨p, q, vs, ws, rfl, rfl, h1, h2, by rw [r1.len, r2.len]; exact l, fun z nz => new_list A (r1.app r2) t P nz⟩))
  unfold rAddD at t
  split at t
  · exact .inl ⟨_, _, hx, hy, P.same A t rfl⟩
  · exact .inr (.inl ⟨_, _, hx, hy, t.1, P.same A t.2 rfl⟩)
  · rename_i a b
    obtain ⟨p, vs, rfl, n1, h1, r1⟩ := hx
    obtain ⟨q, ws, rfl, n2, h2, r2⟩ := hy
    refine .inr (.inr (.inl ⟨p, q, vs, ws, rfl, rfl, h1.sq, h2.sq, by rw [r1.len, r2.len]; exact t.1, fun e => ?_, fun e1 e2 => ?_, fun _ _ z us nz => new_tup A (r1.app r2) t.2 P nz⟩))
    · subst e
      have e' : a = [] := by have := r1.len; cases a with | nil => rfl | cons _ _ => simp at this
      subst e'
      exact P.same A t.2 ⟨q, ws, rfl, n2, h2, r2⟩
    · subst e2
      have e' : b = [] := by have := r2.len; cases b with | nil => rfl | cons _ _ => simp at this
      subst e'
      refine P.same A t.2 ⟨p, vs, rfl, n1, h1, ?_⟩
      rw [List.append_nil]; exact r1
  · exact key _ _ hx hy t
/-- list * int (pure), int * int -/

def CMulW (i j : Int) : Prop := i.natAbs.log2 + j.natAbs.log2 < 100000000
theorem CMulW.ok {i j : Int} (h : CMulW i j) : IntMulOk i j := by
  have b : ∀ x : Int, Builtin.Int.intBits x ≤ x.natAbs.log2 + 1 := fun x => by
    unfold Builtin.Int.intBits
    split <;> omega
  have h1 := b i
  have h2 := b j
  have h3 : i.natAbs.log2 + j.natAbs.log2 < 100000000 := h
  have e : bitsLine = 134217728 := by decide
  unfold IntMulOk
  intro z
  rw [Bool.and_eq_true] at z
  have z2 := z.2
  unfold Builtin.Int.intTooBig at z2
  have z3 := of_decide_eq_true z2
  rw [e] at z3
  omega
theorem op_mulX {X : Cx} : OpR X (binaryOp .Mult) (rI CMulW fun i j => .int (i * j)) := opI fun _ _ _ _ _ _ _ hc q => mul_int q hc.ok
def rMulAll (K : PySem.W.Frag) : R2 := fun x y H Q => rI CMulW (fun i j => .int (i * j)) x y H Q ∨ rRep x y H Q
theorem op_mulAll {X : Cx} : OpR X (binaryOp .Mult) (rMulAll X.K) := OpR.or op_mulX op_rep
def rMulD (mu : Bool) : DR2 := fun x y M Q => match x, y with
  | .int i, .int j => CMulW i j ∧ Q (.int (i * j)) M
  | x, .int k => wth (mlst x M) fun a => -(2 ^ 63) ≤ k ∧ k < 2 ^ 63 ∧ a.length * k.toNat ≤ sizeLine ∧ dNew mu (List.replicate k.toNat a).flatten M Q
  | _, _ => False
theorem hasL_flat {K : PySem.W.Frag} {H : Hp} {M : DHp} {a : List D} {vs : List V} (h : HasL K H M a vs) : ∀ n : Nat, HasL K H M (List.replicate n a).flatten (List.replicate n vs).flatten
  | 0 => rfl
  | n + 1 => by
    rw [List.replicate_succ, List.replicate_succ, List.flatten_cons, List.flatten_cons]
    exact h.app (hasL_flat h n)
theorem ref_mul {K : PySem.W.Frag} {mu : Bool} : Ref2 K (rMulAll K) (rMulD mu) := fun H M x y dx dy Q Q' A hx hy t P => by
  have key : ∀ (dx : D) (k : Int), Has K H M dx x → y = .int k → (wth (mlst dx M) fun a => -(2 ^ 63) ≤ k ∧ k < 2 ^ 63 ∧ a.length * k.toNat ≤ sizeLine ∧ dNew mu (List.replicate k.toNat a).flatten M Q') → rMulAll K x y H Q := fun dx k hx hy t => by
    obtain ⟨a, e1, l1, l2, l3, t⟩ := wth_of t
    obtain ⟨p, vs, rfl, h1, r1⟩ := mlst_at A hx e1
    exact .inr ⟨p, k, vs, rfl, hy, h1, l1, l2, by rw [r1.len]; exact l3, fun z nz => new_list A (hasL_flat r1 _) t P nz⟩
  unfold rMulD at t
  split at t
  · exact .inl ⟨_, _, hx, hy, t.1, P.same A t.2 rfl⟩
  · exact key _ _ hx hy t
  · exact t.elim
theorem ref_div {K : PySem.W.Frag} : Ref2 K (rI CDivW fun i j => .int (i / j)) (rI2 CDivW fun i j => i / j) := ref_I
theorem ref_mod {K : PySem.W.Frag} : Ref2 K (rI (fun _ j => 0 < j) fun i j => .int (i % j)) (rI2 (fun _ j => 0 < j) fun i j => i % j) := ref_I
theorem ref_pow {K : PySem.W.Frag} : Ref2 K (rI CPow fun i j => .int (i ^ j.toNat)) (rI2 CPow fun i j => i ^ j.toNat) := ref_I
/-! ### == of data -/
mutual
def py : D → PyData
  | .non => .none
  | .bl b => .bool b
  | .int i => .int i
  | .str x => .str x
  | .scr ns => .list (ns.map PyData.int)
  | .tup ds => .tuple (pyL ds)
  | .lst ds => .list (pyL ds)
  | .ref _ => .dict []
  | .tpl _ => .dict []
  | .ty _ => .dict []
  | .dic _ _ => .dict []
  | .obj _ _ _ => .dict []
def pyL : List D → List PyData
  | [] => []
  | d :: ds => py d :: pyL ds
end
def pyM (M : DHp) (x : D) : PyData := match x with
  | .ref a => match M a with
    | some (.lst ds) => .list (pyL ds)
    | _ => .dict []
  | x => py x
theorem dpAll_ints {K : PySem.W.Frag} {H : Hp} : ∀ ns : List Int, DpAll K H (ns.map V.int) (ns.map PyData.int)
  | [] => .nil
  | n :: ns => .cons (.int n) (dpAll_ints ns)
section
variable {K : PySem.W.Frag} {H : Hp} {M : DHp}
mutual
theorem Has.dp : ∀ {d : D} {v : V}, Has K H M d v → PyData.canLay0 (py d) = true → Dp K H v (py d)
  | .non, _, h, _ => by rw [show _ = V.non from h]; exact .non
  | .bl b, _, h, _ => by rw [show _ = V.bl b from h]; exact .bl b
  | .int i, _, h, _ => by rw [show _ = V.int i from h]; exact .int i
  | .str x, _, h, _ => by rw [show _ = V.str x from h]; exact .str x
  | .scr ns, _, h, _ => by
    obtain ⟨a, rfl, t⟩ := h
    exact .lst t.sq (dpAll_ints ns)
  | .tup ds, _, h, c => by
    obtain ⟨a, vs, rfl, _, t, r⟩ := h
    exact .tup t.sq (HasL.dp r c)
  | .lst ds, _, h, c => by
    obtain ⟨a, vs, rfl, _, t, r⟩ := h
    exact .lst (SqL.of t) (HasL.dp r c)
  | .ref _, _, _, c => by cases c
  | .tpl _, _, _, c => by cases c
  | .ty _, _, _, c => by cases c
  | .dic _ _, _, _, c => by cases c
  | .obj _ _ _, _, _, c => by cases c
theorem HasL.dp : ∀ {ds : List D} {vs : List V}, HasL K H M ds vs → PyData.canLayAll0 (pyL ds) = true → DpAll K H vs (pyL ds)
  | [], _, h, _ => by rw [show _ = ([] : List V) from h]; exact .nil
  | d :: ds, _, h, c => by
    obtain ⟨v, r, rfl, h1, h2⟩ := h
    obtain ⟨c1, c2⟩ := Bool.and_eq_true_iff.mp (show (PyData.canLay0 (py d) && PyData.canLayAll0 (pyL ds)) = true from c)
    exact .cons (Has.dp h1 c1) (HasL.dp h2 c2)
end
theorem Has.dpM (A : AbH K H M) {d : D} {v : V} (h : Has K H M d v) (s : SeqAt.shaped (pyM M d) = true) : Dp K H v (pyM M d) := by
  have c := SeqAt.canLay_of_shaped s
  cases d with
  | ref a =>
    cases q : M a with
    | none => simp only [pyM, q] at c; cases c
    | some o =>
      cases o with
      | lst es =>
        simp only [pyM, q] at c ⊢
        obtain ⟨vs, e2, r⟩ := A a _ q
        rw [show v = .ref a from h]
        exact .lst (SqL.of e2) (HasL.dp r c)
      | _ => simp only [pyM, q] at c; cases c
  | _ => exact Has.dp h c
end
def rEqDD (neg : Bool) : DR2 := fun x y M Q => match x, y with
  | .str a, .str b => Q (.bl (neg != (a == b))) M
  | x, y => SeqAt.shaped (pyM M x) = true ∧ SeqAt.shaped (pyM M y) = true ∧ Q (.bl (neg != PyData.eqv (pyM M x) (pyM M y))) M
def rEqA (K : PySem.W.Frag) : R2 := fun x y H Q => rEq x y H Q ∨ rEqD K x y H Q
def rNeA (K : PySem.W.Frag) : R2 := fun x y H Q => rNe x y H Q ∨ rNeD K x y H Q
theorem op_eqA {X : Cx} (hu : X.A.units + 64 < cLine) : OpR X (compareOp .Eq) (rEqA X.K) := OpR.or op_eq (op_eqD hu)
theorem op_neA {X : Cx} (hu : X.A.units + 64 < cLine) : OpR X (compareOp .NotEq) (rNeA X.K) := OpR.or op_ne (op_neD hu)
theorem dec_strs {a b : Str} : decide (V.str a = V.str b) = (a == b) := by
  by_cases h : a = b
  · subst h; simp
  · have h2 : V.str a ≠ V.str b := fun e => h (V.str.inj e)
    rw [decide_eq_false h2, beq_eq_false_iff_ne.mpr h]
theorem ref_eq {K : PySem.W.Frag} : Ref2 K (rEqA K) (rEqDD false) := fun H M x y dx dy Q Q' A hx hy t P => by
  unfold rEqDD at t
  split at t
  · rw [show x = _ from hx, show y = _ from hy]
    exact .inl ⟨rfl, P.same A t (by show V.bl _ = V.bl _; rw [Bool.false_bne, dec_strs])⟩
  · exact .inr ⟨_, _, hx.dpM A t.1, hy.dpM A t.2.1, t.1, t.2.1, P.same A t.2.2 (by show V.bl _ = V.bl _; rw [Bool.false_bne])⟩
theorem ref_ne {K : PySem.W.Frag} : Ref2 K (rNeA K) (rEqDD true) := fun H M x y dx dy Q Q' A hx hy t P => by
  unfold rEqDD at t
  split at t
  · rw [show x = _ from hx, show y = _ from hy]
    exact .inl ⟨rfl, P.same A t (by show V.bl _ = V.bl _; rw [Bool.true_bne, dec_strs])⟩
  · exact .inr ⟨_, _, hx.dpM A t.1, hy.dpM A t.2.1, t.1, t.2.1, P.same A t.2.2 (by show V.bl _ = V.bl _; rw [Bool.true_bne])⟩

/-! ### in -/
def flatD : D → Bool
  | .non => true
  | .bl _ => true
  | .int _ => true
  | .str _ => true
  | _ => false
def eqD : D → D → Bool
  | .non, .non => true
  | .bl a, .bl b => a == b
  | .bl a, .int b => (if a then 1 else 0) == b
  | .int a, .bl b => a == (if b then 1 else 0)
  | .int a, .int b => a == b
  | .str a, .str b => a == b
  | _, _ => false
def seqOf (x : D) (M : DHp) : Option (List D) := match x with
  | .tup ds => some ds
  | x => lstOf x M
theorem seqOf_at {K : PySem.W.Frag} {H : Hp} {M : DHp} {x : D} {v : V} {ds : List D} (A : AbH K H M) (h : Has K H M x v) (e : seqOf x M = some ds) : ∃ a vs, v = .ref a ∧ (SqL K H a vs ∨ SqT K H a vs) ∧ HasL K H M ds vs := by
  cases x with
  | tup es =>
    obtain ⟨a, vs, e1, e2, r⟩ := tupOf_at h (show tupOf (.tup es) = some ds from e)
    exact ⟨a, vs, e1, .inr e2.sq, r⟩
  | _ =>
    obtain ⟨a, vs, e1, e2, r⟩ := lstOf_at A h (show lstOf _ M = some ds from e)
    exact ⟨a, vs, e1, .inl e2, r⟩
theorem flat_has {K : PySem.W.Frag} {H : Hp} {M : DHp} {d : D} {v : V} (h : Has K H M d v) (f : flatD d = true) : flatV v = true ∧ ∀ {e : D} {w : V}, Has K H M e w → flatD e = true → eqV w v = eqD e d := by
  cases d <;> first | (cases f; done) | (
    rw [show v = _ from h]
    refine ⟨rfl, fun {e w} h' f' => ?_⟩
    cases e <;> first | (cases f'; done) | (rw [show w = _ from h']; rfl))
theorem flat_hasL {K : PySem.W.Frag} {H : Hp} {M : DHp} {x : D} {v : V} (h : Has K H M x v) (f : flatD x = true) : ∀ {ds : List D} {vs : List V}, HasL K H M ds vs → ds.all flatD = true → vs.all flatV = true ∧ inV v vs = ds.any fun e => eqD e x
  | [], _, r, _ => by rw [show _ = ([] : List V) from r]; exact ⟨rfl, rfl⟩
  | d :: ds, _, r, c => by
    obtain ⟨w, ws, rfl, h1, h2⟩ := r
    rw [List.all_cons, Bool.and_eq_true_iff] at c
    obtain ⟨i1, i2⟩ := flat_hasL h f h2 c.2
    refine ⟨by rw [List.all_cons, (flat_has h1 c.1).1, i1]; rfl, ?_⟩
    show (List.any (w :: ws) fun y => eqV y v) = _
    rw [List.any_cons, List.any_cons, (flat_has h f).2 h1 c.1]
    congr 1
/-- one sign in a text, a flat thing in a list or tuple -/
def rInAll (K : PySem.W.Frag) (neg : Bool) : R2 := fun x y H Q => (∃ (c : Nat) (z : Str), x = .str ⟨#[c]⟩ ∧ y = .str z ∧ Q (.bl (neg != decide (c ∈ z.cps.toList))) H) ∨ rIn K neg x y H Q
theorem op_inAll {X : Cx} : OpR X (compareOp .In) (rInAll X.K false) := OpR.or (by
  intro pins s σ H x y v u Q I rx ry h
  obtain ⟨c, z, e1, e2, q⟩ := h
  exact op_in_sign pins s σ H x y v u Q I rx ry ⟨c, z, e1, e2, by rw [Bool.false_bne] at q; exact q⟩) op_in_seq
def rInD (neg : Bool) : DR2 := fun x y M Q => match y with
  | .str z => (match x with
    | .str s => ∃ c, s = ⟨#[c]⟩ ∧ Q (.bl (neg != decide (c ∈ z.cps.toList))) M
    | _ => False)
  | y => wth (seqOf y M) fun ds => flatD x = true ∧ ds.all flatD = true ∧ Q (.bl (neg != ds.any fun e => eqD e x)) M
theorem ref_in {K : PySem.W.Frag} {neg : Bool} : Ref2 K (rInAll K neg) (rInD neg) := fun H M x y dx dy Q Q' A hx hy t P => by
  have key : ∀ (dy : D), Has K H M dy y → (wth (seqOf dy M) fun ds => flatD dx = true ∧ ds.all flatD = true ∧ Q' (.bl (neg != ds.any fun e => eqD e dx)) M) → rInAll K neg x y H Q := fun dy hy t => by
    obtain ⟨ds, e, f, g, q⟩ := wth_of t
    obtain ⟨a, vs, rfl, sq, r⟩ := seqOf_at A hy e
    obtain ⟨i1, i2⟩ := flat_hasL hx f r g
    refine .inr ⟨a, vs, rfl, sq, (flat_has hx f).1, i1, ?_⟩
    rw [i2]
    refine P.same A q ?_
    cases neg <;> simp [Has]
  cases dy with
  | str z =>
    cases dx <;> first | exact t.elim | skip
    obtain ⟨c, e, q⟩ := t
    subst e
    exact .inl ⟨c, z, hx, hy, P.same A q rfl⟩
  | _ => exact key _ hy t
/-! ### is None -/
def isNonD : D → Bool
  | .non => true
  | _ => false
def rIsN (neg : Bool) : DR2 := fun x y M Q => match y with
  | .non => Q (.bl (neg != isNonD x)) M
  | _ => False
theorem has_non {K : PySem.W.Frag} {H : Hp} {M : DHp} : ∀ {x : D} {v : V}, Has K H M x v → decide (v = .non) = isNonD x
  | .non, _, h => by rw [show _ = V.non from h]; rfl
  | .bl b, _, h => by rw [show _ = V.bl b from h]; rfl
  | .int b, _, h => by rw [show _ = V.int b from h]; rfl
  | .str b, _, h => by rw [show _ = V.str b from h]; rfl
  | .ref b, _, h => by rw [show _ = V.ref b from h]; rfl
  | .ty b, _, h => by rw [show _ = V.ty b from h]; rfl
  | .scr _, _, h => by obtain ⟨a, rfl, _⟩ := h; rfl
  | .tup _, _, h => by obtain ⟨a, vs, rfl, _⟩ := h; rfl
  | .tpl _, _, h => by obtain ⟨a, vs, rfl, _⟩ := h; rfl
  | .lst _, _, h => by obtain ⟨a, vs, rfl, _⟩ := h; rfl
  | .dic _ _, _, h => by obtain ⟨a, vs, rfl, _⟩ := h; rfl
  | .obj _ _ _, _, h => by obtain ⟨a, dx, vs, rfl, _⟩ := h; rfl
theorem ref_isN {K : PySem.W.Frag} : Ref2 K (fun x y H Q => y = .non ∧ Q (.bl (decide (x = .non))) H) (rIsN false) := fun H M x y dx dy Q Q' A hx hy t P => by
  cases dy <;> first | exact t.elim | skip
  refine ⟨hy, ?_⟩
  rw [has_non hx]
  exact P.same A t (by rw [Bool.false_bne]; rfl)
end Rh
/-! DL3: truth, tests, arguments, displays, subscripts, slices, built-in calls. -/
namespace Rh
open PySem PySem.Spec PyProof.Rows L2

/-! ### truth -/
def truD (x : D) (M : DHp) : Option Bool := match x with
  | .non => some false
  | .bl b => some b
  | .int i => some (i != 0)
  | .str y => if y.length ≤ sizeLine then some ((y.length : Int) != 0) else none
  | .tup ds => some (!ds.isEmpty)
  | .dic ks _ => some (!ks.isEmpty)
  | .ref a => (match M a with
    | some (.lst ds) => some (!ds.isEmpty)
    | some (.dK ks _) => some (!ks.isEmpty)
    | _ => none)
  | .lst ds => some (!ds.isEmpty)
  | .scr ns => some (!ns.isEmpty)
  | _ => none
theorem empty_len {α β : Type} {a : List α} {b : List β} (h : a.length = b.length) : a.isEmpty = b.isEmpty := by
  cases a <;> cases b <;> first | rfl | (simp at h)
theorem zip_empty {α : Type} {ks : List Key} {vs : List V} (h : ks.length = vs.length) : (ks.zip vs).isEmpty = ks.isEmpty := by
  cases ks <;> cases vs <;> first | rfl | (simp at h)
theorem tru_has {K : PySem.W.Frag} {H : Hp} {M : DHp} {x : D} {v : V} {k : Bool} (A : AbH K H M) (h : Has K H M x v) (e : truD x M = some k) : TruV K v H k := by
  cases x with
  | non => cases e; rw [show v = _ from h]; rfl
  | bl b => cases e; rw [show v = _ from h]; rfl
  | int i => cases e; rw [show v = _ from h]; rfl
  | str y =>
    rw [show v = _ from h]
    simp only [truD] at e
    split at e
    · cases e; exact ⟨by assumption, rfl⟩
    · cases e
  | ty n => cases e
  | obj C ns ds => cases e
  | tpl ds => cases e
  | scr ns =>
    cases e
    obtain ⟨a, rfl, t⟩ := h
    exact .inl ⟨_, t.sq, by rw [empty_len (a := ns) (b := ns.map V.int) (by simp)]⟩
  | tup ds =>
    cases e
    obtain ⟨a, vs, rfl, _, t, r⟩ := h
    exact .inr (.inl ⟨_, t.sq, by rw [empty_len r.len]⟩)
  | lst ds =>
    cases e
    obtain ⟨a, vs, rfl, _, t, r⟩ := h
    exact .inl ⟨_, SqL.of t, by rw [empty_len r.len]⟩
  | dic ks ds =>
    cases e
    obtain ⟨a, vs, rfl, _, t, l, r⟩ := h
    exact .inr (.inr ⟨_, t, by rw [zip_empty (α := Nat) (l.trans r.len.symm)]⟩)
  | ref a =>
    rw [show v = _ from h]
    cases q : M a with
    | none => simp only [truD, q] at e; cases e
    | some o =>
      cases o with
      | lst ds =>
        simp only [truD, q] at e
        cases e
        obtain ⟨vs, t, r⟩ := A a _ q
        exact .inl ⟨_, SqL.of t, by rw [empty_len r.len]⟩
      | dK ks ds =>
        simp only [truD, q] at e
        cases e
        obtain ⟨vs, t, l, r⟩ := A a _ q
        exact .inr (.inr ⟨_, t, by rw [zip_empty (α := Nat) (l.trans r.len.symm)]⟩)
      | _ => simp only [truD, q] at e; cases e

section
variable {X : Cx} {O : Org} {pos : Pos} {a b c : Expr} {ta tb : DTE} {tA tB : DTT} {rest : List Expr}
def dTru (t : DTE) : DTT := fun τ M Q => t τ M fun x M1 => wth (truD x M1) fun k => Q k M1
theorem liftTru {K : PySem.W.Frag} {O : Org} {t : DTE} {σ : L2.St} {H : Hp} {Q : Bool → Hp → Prop} {R : V → Hp → Prop} (hR : ∀ x H' k, TruV K x H' k → Q k H' → R x H') (h : liftT K O (dTru t) σ H Q) : liftE K O t σ H R := by
  obtain ⟨τ, M, Q', b, t, p⟩ := h
  exact ⟨τ, M, _, b, t, fun d M1 x H1 q f1 a1 h1 => by
    obtain ⟨k, e, q⟩ := wth_of q
    exact hR x H1 k (tru_has a1 h1 e) (p k M1 H1 q f1 a1)⟩
theorem dt_truth (ha : DE X O a ta) (he : ∀ whole, isTrue a X.env whole = (do let v ← whole; standAt a.pos; holding [v] (truthy v)) := by intro _; rfl) : DT X O a (dTru ta) :=
  (pt_truth ha he).wk fun σ H Q h => liftTru (fun x H' k e q => ⟨k, e, q⟩) h
def dNot (t : DTT) : DTT := fun τ M Q => t τ M fun k M1 => Q (!k) M1
theorem dt_not (ha : DT X O a tA) : DT X O (.UnaryOp .Not a pos) (dNot tA) := (pt_not ha).wk fun σ H Q ⟨τ, M, Q', b, t, p⟩ => ⟨τ, M, _, b, t, fun k M1 H1 q f a => p _ M1 H1 q f a⟩
def dOr (t u : DTT) : DTT := fun τ M Q => t τ M fun k M1 => match k with
  | true => Q true M1
  | false => u τ M1 Q
theorem dw_or1 (ha : DT X O a tA) : DW X O (.BoolOp .Or [a] pos) tA := pw_or1 ha
theorem dw_or (ha : DT X O a tA) (hb : DW X O (.BoolOp .Or (b :: rest) pos) tB) : DW X O (.BoolOp .Or (a :: b :: rest) pos) (dOr tA tB) := (pw_or ha hb).wk fun σ H Q ⟨τ, M, Q', b, t, p⟩ =>
  ⟨τ, M, _, b, t, fun k M1 H1 q f a => by
    cases k with
    | false => rw [if_neg Bool.false_ne_true]; exact ⟨τ, M1, Q', b.step f a, q, p.tr f⟩
    | true => rw [if_pos rfl]; exact p _ M1 H1 q f a⟩
theorem dw (h : DW X O a tA) : DT X O a tA := PW.pt h
/-- as values -/
def dAndV (ta tb : DTE) : DTE := fun τ M Q => ta τ M fun x M1 => wth (truD x M1) fun k => match k with
  | true => tb τ M1 Q
  | false => Q x M1
def dNotV (ta : DTE) : DTE := fun τ M Q => ta τ M fun x M1 => wth (truD x M1) fun k => Q (.bl (!k)) M1
theorem de_one {op : BoolOp} (ha : DE X O a ta) : DE X O (.BoolOp op [a] pos) ta := pe_one ha
theorem de_and (ha : DE X O a ta) (hb : DE X O (.BoolOp .And (b :: rest) pos) tb) : DE X O (.BoolOp .And (a :: b :: rest) pos) (dAndV ta tb) := (pe_andT ha hb).wk fun σ H Q ⟨τ, M, Q', b, t, p⟩ =>
  ⟨τ, M, _, b, t, fun d M1 x H1 q f a h => by
    obtain ⟨k, e, q⟩ := wth_of q
    refine ⟨k, tru_has a h e, ?_⟩
    cases k with
    | true => rw [if_pos rfl]; exact ⟨τ, M1, Q', b.step f a, q, p.tr f⟩
    | false => rw [if_neg Bool.false_ne_true]; exact p _ M1 _ H1 q f a h⟩
theorem de_not (ha : DE X O a ta) : DE X O (.UnaryOp .Not a pos) (dNotV ta) := (pe_notT ha).wk fun σ H Q ⟨τ, M, Q', b, t, p⟩ =>
  ⟨τ, M, _, b, t, fun d M1 x H1 q f a h => by
    obtain ⟨k, e, q⟩ := wth_of q
    exact ⟨k, tru_has a h e, p _ M1 _ H1 q f a rfl⟩⟩
def dIf (t : DTT) (ta tb : DTE) : DTE := fun τ M Q => t τ M fun k M1 => match k with
  | true => ta τ M1 Q
  | false => tb τ M1 Q
theorem de_if (hc : DT X O c tA) (ha : DE X O a ta) (hb : DE X O b tb) : DE X O (.IfExp c a b pos) (dIf tA ta tb) := (pe_ifExp hc ha hb).wk fun σ H Q ⟨τ, M, Q', b, t, p⟩ =>
  ⟨τ, M, _, b, t, fun k M1 H1 q f a => by
    cases k with
    | true => rw [if_pos rfl]; exact ⟨τ, M1, Q', b.step f a, q, p.tr f⟩
    | false => rw [if_neg Bool.false_ne_true]; exact ⟨τ, M1, Q', b.step f a, q, p.tr f⟩⟩
/-- a op b op' c -/
def dChain (r r' : DR2) (ta tb tc : DTE) : DTE := fun τ M Q => ta τ M fun x M1 => tb τ M1 fun y M2 => r x y M2 fun z M3 => match z with
  | .bl true => tc τ M3 fun w M4 => r' y w M4 Q
  | .bl false => Q (.bl false) M3
  | _ => False
theorem liftChain {K : PySem.W.Frag} {O : Org} {r r2 : R2} {r' r2' : DR2} {ta tb tc : DTE} (h1 : Ref2 K r r') (h2 : Ref2 K r2 r2') : ∀ σ H Q, liftE K O (dChain r' r2' ta tb tc) σ H Q → tChain r r2 (liftE K O ta) (liftE K O tb) (liftE K O tc) σ H Q := fun σ H Q ⟨τ, M, Q', b, t, p⟩ =>
  ⟨τ, M, _, b, t, fun d M1 x H1 q f1 a1 g1 => ⟨τ, M1, _, b.step f1 a1, q, fun e M2 y H2 q2 f2 a2 g2 => h1 H2 M2 x y d e _ _ a2 (g1.fr f2) g2 q2 fun z M3 v H3 q3 f3 a3 g3 => by
    cases z <;> first | exact q3.elim | skip
    rename_i k
    refine ⟨k, g3, ?_⟩
    cases k with
    | true => rw [if_pos rfl]; exact ⟨τ, M3, _, ((b.step f1 a1).step f2 a2).step f3 a3, q3, fun w M4 wv H4 q4 f4 a4 g4 => h2 H4 M4 y wv e w Q Q' a4 (g2.fr (f3.trans f4)) g4 q4 (p.tr (f1.trans (f2.trans (f3.trans f4))))⟩
    | false => rw [if_neg Bool.false_ne_true]; exact p _ M3 _ H3 q3 (f1.trans (f2.trans f3)) a3 rfl⟩⟩
theorem de_chain {op op' : CmpOp} {r r2 : R2} {r' r2' : DR2} {tc : DTE} (ho : OpR X (compareOp op) r) (h1 : Ref2 X.K r r') (ho' : OpR X (compareOp op') r2) (h2 : Ref2 X.K r2 r2') (ha : DE X O a ta) (hb : DE X O b tb) (hc : DE X O c tc) (hm : lastMarks [op, op'] [b, c] = false := by with_unfolding_all rfl) : DE X O (.Compare a [op, op'] [b, c] pos) (dChain r' r2' ta tb tc) := (pe_chain ho ho' ha hb hc hm).wk (liftChain h1 h2)
/-! ### arguments, displays -/
def dArgs : List DTE → DSt → DHp → (List D → DHp → Prop) → Prop
  | [], _, M, Q => Q [] M
  | t :: ts, τ, M, Q => t τ M fun x M1 => dArgs ts τ M1 fun xs M2 => Q (x :: xs) M2
def tArgs (K : PySem.W.Frag) (O : Org) : List DTE → TA
  | [] => tNil
  | t :: ts => tCons (liftE K O t) (tArgs K O ts)
abbrev DAs (X : Cx) (O : Org) (es : List Expr) (ts : List DTE) : Prop := PA X es (tArgs X.K O ts)
theorem das_nil : DAs X O [] [] := pa_nil
theorem das_cons {e : Expr} {es : List Expr} {t : DTE} {ts : List DTE} (h : DE X O e t) (r : DAs X O es ts) (hs : starEach (e :: es) X.env = (false, eval e X.env) :: starEach es X.env := by rfl) : DAs X O (e :: es) (t :: ts) := pa_cons h r hs
theorem args_lift {K : PySem.W.Frag} {O : Org} : ∀ {ts : List DTE} {σ : L2.St} {H : Hp} {Q : List V → Hp → Prop} {τ : DSt} {M : DHp} {Q' : List D → DHp → Prop}, Beg K O H M τ σ → dArgs ts τ M Q' →
    (∀ ds M' vs H', Q' ds M' → ds.length = ts.length → Fr H M H' M' → AbH K H' M' → HasL K H' M' ds vs → Q vs H') → tArgs K O ts σ H Q
  | [], σ, H, Q, τ, M, Q', b, t, p => p [] M [] H t rfl (Fr.refl H M) b.h rfl
  | t0 :: ts, σ, H, Q, τ, M, Q', b, t, p => ⟨τ, M, _, b, t, fun d M1 x H1 q f a h => args_lift (b.step f a) q fun ds M2 vs H2 q2 l f2 a2 h2 => p (d :: ds) M2 (x :: vs) H2 q2 (by rw [List.length_cons, List.length_cons, l]) (f.trans f2) a2 ⟨x, vs, rfl, h.fr f2, h2⟩⟩
theorem small_line {n : Nat} (h : n ≤ 1000) : n ≤ sizeLine := Nat.le_trans h (by decide)
def dTup (ts : List DTE) : DTE := fun τ M Q => dArgs ts τ M fun ds M1 => Q (.tup ds) M1
def dLst (mu : Bool) (ts : List DTE) : DTE := fun τ M Q => dArgs ts τ M fun ds M1 => dNew mu ds M1 Q
theorem de_tup {es : List Expr} {ts : List DTE} {x1 : Nat} (h : DAs X O es ts) (hl : ts.length ≤ 1000 := by exact Nat.le_of_ble_eq_true rfl) : DE X O (.Tuple es x1 pos) (dTup ts) := (pe_tupF h).wk fun σ H Q ⟨τ, M, Q', b, t, p⟩ =>
  args_lift b t fun ds M' vs H' q l f a h => ⟨by rw [h.len, l]; exact small_line hl, fun z us nz => new_tup a h q (p.tr f) nz⟩
theorem de_lst {es : List Expr} {ts : List DTE} (mu : Bool) (h : DAs X O es ts) (hl : ts.length ≤ 1000 := by exact Nat.le_of_ble_eq_true rfl) : DE X O (.List es pos) (dLst mu ts) := (pe_lst h).wk fun σ H Q ⟨τ, M, Q', b, t, p⟩ =>
  args_lift b t fun ds M' vs H' q l f a h => ⟨by rw [h.len, l]; exact small_line hl, fun z nz => new_list a h q (p.tr f) nz⟩

/-! ### -x -/
def dNeg (ta : DTE) : DTE := fun τ M Q => ta τ M fun x M1 => match x with
  | .int i => Q (.int (-i)) M1
  | _ => False
theorem de_neg (ha : DE X O a ta) : DE X O (.UnaryOp .USub a pos) (dNeg ta) := (pe_un un_neg ha).wk fun σ H Q ⟨τ, M, Q', b, t, p⟩ =>
  ⟨τ, M, _, b, t, fun d M1 x H1 q f a h => by
    cases d <;> first | exact q.elim | skip
    exact ⟨_, h, p _ M1 _ H1 q f a rfl⟩⟩

/-! ### subscripts, slices -/
def rIxAll (K : PySem.W.Frag) : V → V → Hp → VK → Prop := fun x y H Q => rIxL K x y H Q ∨ (rIxT K x y H Q ∨ rIxS x y H Q)
theorem ixAll : IxR X (rIxAll X.K) := IxR.or ix_list (IxR.or ix_tup ix_str)
def rIxD : DR2 := fun x y M Q => match y with
  | .int k => (match x with
    | .str z => z.length ≤ sizeLine ∧ wth (atI z.cps.toList k) fun c => Q (.str ⟨#[c]⟩) M
    | .tpl ds => wth (atI ds k) fun d => Q d M
    | x => wth (seqOf x M) fun ds => wth (atI ds k) fun d => Q d M)
  | _ => False
theorem atI_has {K : PySem.W.Frag} {H : Hp} {M : DHp} {ds : List D} {vs : List V} {k : Int} {d : D} (r : HasL K H M ds vs) (e : atI ds k = some d) : ∃ v, atI vs k = some v ∧ Has K H M d v := by
  unfold atI at e ⊢
  rw [r.len]
  cases q : ixN ds.length k with
  | none => rw [q] at e; cases e
  | some j =>
    rw [q] at e
    exact r.get e
theorem ref_ix {K : PySem.W.Frag} : Ref2 K (rIxAll K) rIxD := fun H M x y dx dy Q Q' A hx hy t P => by
  cases dy <;> first | exact t.elim | skip
  rename_i k
  have key : ∀ (dx : D), Has K H M dx x → (wth (seqOf dx M) fun ds => wth (atI ds k) fun d => Q' d M) → rIxAll K x y H Q := fun dx hx t => by
    obtain ⟨ds, e, t⟩ := wth_of t
    obtain ⟨d, e2, t⟩ := wth_of t
    obtain ⟨p, vs, rfl, sq, r⟩ := seqOf_at A hx e
    obtain ⟨v, e3, hv⟩ := atI_has r e2
    rcases sq with sq | sq
    · exact .inl ⟨p, vs, k, v, rfl, hy, sq, e3, P.same A t hv⟩
    · exact .inr (.inl ⟨p, vs, k, v, rfl, hy, sq, e3, P.same A t hv⟩)
  cases dx with
  | str z =>
    obtain ⟨l, t⟩ := t
    obtain ⟨c, e, t⟩ := wth_of t
    exact .inr (.inr ⟨z, k, c, hx, hy, l, e, P.same A t rfl⟩)
  | tpl ds =>
    obtain ⟨d, e2, t⟩ := wth_of t
    obtain ⟨p, vs, rfl, _, sq, r⟩ := hx
    obtain ⟨v, e3, hv⟩ := atI_has r e2
    exact .inr (.inl ⟨p, vs, k, v, rfl, hy, SqT.of sq, e3, P.same A t hv⟩)
  | _ => exact key _ hx t
theorem de_ix (ha : DE X O a ta) (hb : DE X O b tb) (hs : PlainIx b) : DE X O (.Subscript a b pos) (dOp rIxD ta tb) := (pe_ix ixAll ha hb hs).wk (lift2 ref_ix)
abbrev DTO := DSt → DHp → (Option Int → DHp → Prop) → Prop
def liftO (K : PySem.W.Frag) (O : Org) (t : DTO) : TO := fun σ H Q => ∃ (τ : DSt) (M : DHp) (Q' : Option Int → DHp → Prop), Beg K O H M τ σ ∧ t τ M Q' ∧ ∀ o M' H', Q' o M' → Fr H M H' M' → AbH K H' M' → Q o H'
abbrev DO_ (X : Cx) (O : Org) (e : Option Expr) (t : DTO) : Prop := PO X e (liftO X.K O t)
theorem _root_.L2.PO.wk {e : Option Expr} {t t' : TO} (h : PO X e t) (i : ∀ σ H Q, t' σ H Q → t σ H Q) : PO X e t' := ⟨fun pins s σ H Q I q => h.run pins s σ H Q I (i σ H Q q)⟩
def dNoPart : DTO := fun _ M Q => Q none M
def dPart (t : DTE) : DTO := fun τ M Q => t τ M fun x M1 => match x with
  | .int i => Q (some i) M1
  | _ => False
theorem do_none : DO_ X O none dNoPart := (po_none (X := X)).wk fun σ H Q ⟨τ, M, Q', b, t, p⟩ => p _ M H t (Fr.refl H M) b.h
theorem do_some (h : DE X O a ta) : DO_ X O (some a) (dPart ta) := (po_some h).wk fun σ H Q ⟨τ, M, Q', b, t, p⟩ =>
  ⟨τ, M, _, b, t, fun d M1 x H1 q f a h => by
    cases d <;> first | exact q.elim | skip
    exact ⟨_, h, p _ M1 H1 q f a⟩⟩
def cutD (ds : List D) (lo hi : Option Int) : List D := (ds.drop (HT.sIx ds.length 0 lo)).take (HT.sIx ds.length ds.length hi - HT.sIx ds.length 0 lo)
theorem cut_has {K : PySem.W.Frag} {H : Hp} {M : DHp} {ds : List D} {vs : List V} (r : HasL K H M ds vs) (lo hi : Option Int) : HasL K H M (cutD ds lo hi) (cutV vs lo hi) := by
  unfold cutD cutV
  rw [r.len]
  exact (r.drop _).take _
def rSlAll (K : PySem.W.Frag) : V → Option Int → Option Int → Hp → VK → Prop := fun x lo hi H Q => rSlL K x lo hi H Q ∨ (rSlF K x lo hi H Q ∨ rSlS x lo hi H Q)
theorem slAll : SlR X (rSlAll X.K) := SlR.or sl_list (SlR.or sl_tupF sl_str)
def rSlD (mu : Bool) (x : D) (lo hi : Option Int) (M : DHp) (Q : DVK) : Prop := match x with
  | .str z => z.length ≤ sizeLine ∧ Q (.str (cutS z lo hi)) M
  | .tup ds => Q (.tup (cutD ds lo hi)) M
  | x => wth (lstOf x M) fun ds => dNew mu (cutD ds lo hi) M Q
def dSl (mu : Bool) (te : DTE) (tl th : DTO) : DTE := fun τ M Q => te τ M fun x M1 => tl τ M1 fun l M2 => th τ M2 fun u M3 => rSlD mu x l u M3 Q
theorem ref_sl {K : PySem.W.Frag} {mu : Bool} {H : Hp} {M : DHp} {x : V} {dx : D} {lo hi : Option Int} {Q : VK} {Q' : DVK} (A : AbH K H M) (hx : Has K H M dx x) (t : rSlD mu dx lo hi M Q') (P : Post K H M Q' Q) : rSlAll K x lo hi H Q := by
  have key : ∀ (dx : D), Has K H M dx x → (wth (lstOf dx M) fun ds => dNew mu (cutD ds lo hi) M Q') → rSlAll K x lo hi H Q := fun dx hx t => by
    obtain ⟨ds, e, t⟩ := wth_of t
    obtain ⟨p, vs, rfl, sq, r⟩ := lstOf_at A hx e
    exact .inl ⟨p, vs, rfl, sq, fun z nz => new_list A (cut_has r lo hi) t P nz⟩
  cases dx with
  | str z => exact .inr (.inr ⟨z, hx, t.1, P.same A t.2 rfl⟩)
  | tup ds =>
    obtain ⟨p, vs, rfl, n, sq, r⟩ := hx
    refine .inr (.inl ⟨p, vs, rfl, sq.sq, fun e => ?_, fun _ z us nz => new_tup A (cut_has r lo hi) t P nz⟩)
    have e' : cutD ds lo hi = ds := by
      unfold cutD
      rw [← r.len, e.1, e.2, List.drop_zero, Nat.sub_zero, r.len, List.take_length]
    rw [show rSlD mu (.tup ds) lo hi M Q' = Q' (.tup (cutD ds lo hi)) M from rfl, e'] at t
    exact P.same A t ⟨p, vs, rfl, n, sq, r⟩
  | _ => exact key _ hx t
theorem de_slice {lo hi : Option Expr} {tl th : DTO} {p2 : Pos} (mu : Bool) (ha : DE X O a ta) (hl : DO_ X O lo tl) (hh : DO_ X O hi th) : DE X O (.Subscript a (.Slice lo hi none p2) pos) (dSl mu ta tl th) := (pe_slice slAll ha hl hh).wk fun σ H Q ⟨τ, M, Q', b, t, p⟩ =>
  ⟨τ, M, _, b, t, fun d M1 x H1 q f a h => ⟨τ, M1, _, b.step f a, q, fun l M2 H2 q2 f2 a2 => ⟨τ, M2, _, (b.step f a).step f2 a2, q2, fun u M3 H3 q3 f3 a3 => ref_sl a3 (h.fr (f2.trans f3)) q3 (p.tr (f.trans (f2.trans f3)))⟩⟩⟩

/-! ### built-in calls -/
abbrev DR := List D → DHp → DVK → Prop
abbrev R1 := List V → Hp → VK → Prop
def RefL (K : PySem.W.Frag) (r : R1) (r' : DR) : Prop := ∀ (H : Hp) (M : DHp) (xs : List V) (ds : List D) (Q : VK) (Q' : DVK), AbH K H M → HasL K H M ds xs → r' ds M Q' → Post K H M Q' Q → r xs H Q
def dCB (r : DR) (ts : List DTE) : DTE := fun τ M Q => dArgs ts τ M fun ds M1 => r ds M1 Q
theorem liftCB {K : PySem.W.Frag} {O : Org} {r : R1} {r' : DR} {ts : List DTE} (hr : RefL K r r') : ∀ σ H Q, liftE K O (dCB r' ts) σ H Q → tCB r (tArgs K O ts) σ H Q := fun σ H Q ⟨τ, M, Q', b, t, p⟩ =>
  args_lift b t fun ds M' vs H' q l f a h => hr H' M' vs ds Q Q' a h q (p.tr f)
theorem de_callB {x : Str} {p : Pos} {es : List Expr} {id : String} {r : R1} {r' : DR} {ts : List DTE} (hc : CallR X (.builtin id) r) (hr : RefL X.K r r') (hg : Gl X x) (hm : X.mg x = none) (hv : bootBuiltins x = some (.builtin id)) (ha : DAs X O (a :: es) ts)
    (hn : x ≠ "__name__" := by decide) (hd : (x == ("__debug__" : Str)) = false := by decide) (he : starEach (a :: es) X.env = (false, eval a X.env) :: starEach es X.env := by rfl) (hpl : (backTo pos (starEach es X.env)).any (·.1) = false := by rfl) :
    DE X O (.Call (.Name x p) (a :: es) [] pos) (dCB r' ts) := PE.wk (pe_callB hc hg hm hv ha hn hd he hpl) (liftCB hr)
theorem de_callTy {x : Str} {p : Pos} {es : List Expr} {T : String} {r : R1} {r' : DR} {ts : List DTE} (hc : CallR X (.type T) r) (hr : RefL X.K r r') (hg : Gl X x) (hm : X.mg x = none) (hv : bootBuiltins x = some (.type T)) (ha : DAs X O (a :: es) ts)
    (hn : x ≠ "__name__" := by decide) (hd : (x == ("__debug__" : Str)) = false := by decide) (he : starEach (a :: es) X.env = (false, eval a X.env) :: starEach es X.env := by rfl) (hpl : (backTo pos (starEach es X.env)).any (·.1) = false := by rfl) :
    DE X O (.Call (.Name x p) (a :: es) [] pos) (dCB r' ts) := PE.wk (pe_callTy hc hg hm hv ha hn hd he hpl) (liftCB hr)
end
end Rh
/-! DL4: statements, targets, what is walked, for, while, list comprehensions. -/
namespace Rh
open PySem PySem.Spec PyProof.Rows L2

section
variable {X : Cx} {O : Org} {pos : Pos} {st : Stmt} {rest : List Stmt} {t u : DTS} {e : Expr} {te : DTE}
def dNext : DTS := fun E τ M => E.nx τ M
def dSeq (t u : DTS) : DTS := fun E τ M => t { E with nx := u E } τ M
theorem dss_nil : DSs X O [] dNext := (pss_nil (X := X)).wk fun D σ H ⟨τ, M, E, b, t, pn, pr⟩ => pn τ M σ H t (Fr.refl H M) b.h b.s
theorem dss_cons (h1 : DS X O st t) (h2 : DSs X O rest u) : DSs X O (st :: rest) (dSeq t u) := (pss_cons h1 h2).wk fun D σ H ⟨τ, M, E, b, t, pn, pr⟩ =>
  ⟨τ, M, _, b, t, fun τ1 M1 σ1 H1 q f a s => ⟨τ1, M1, E, ⟨b.fr.trans f, s, a⟩, q, pn.tr f, pr.tr f⟩, pr⟩
theorem dss_one (h1 : DS X O st t) : DSs X O [st] t := pss_one h1
def dDrop (te : DTE) : DTS := fun E τ M => te τ M fun _ M1 => E.nx τ M1
theorem ds_expr (he : DE X O e te) (hs : swapsWith e none pos.line X.env = pure false := by rfl) : DS X O (.Expr e pos) (dDrop te) := (ps_expr he hs).wk fun D σ H ⟨τ, M, E, b, t, pn, pr⟩ =>
  ⟨τ, M, _, b, t, fun d M1 v H1 q f a h => pn τ M1 σ H1 q f a (b.s.fr f)⟩
def dRet (te : DTE) : DTS := fun E τ M => te τ M E.rt
theorem ds_ret (he : DE X O e te) : DS X O (.Return (some e) pos) (dRet te) := (ps_ret he).wk fun D σ H ⟨τ, M, E, b, t, pn, pr⟩ => ⟨τ, M, _, b, t, pr⟩
def dIfS (c : DTT) (t u : DTS) : DTS := fun E τ M => c τ M fun k M1 => match k with
  | true => t E τ M1
  | false => u E τ M1
theorem ds_if {c : Expr} {a b : List Stmt} {tc : DTT} (hc : DT X O c tc) (ha : DSs X O a t) (hb : DSs X O b u) : DS X O (.If c a b pos) (dIfS tc t u) := (ps_if hc ha hb).wk fun D σ H ⟨τ, M, E, b, t, pn, pr⟩ =>
  ⟨τ, M, _, b, t, fun k M1 H1 q f a => by
    cases k with
    | true => rw [if_pos rfl]; exact ⟨τ, M1, E, b.step f a, q, pn.tr f, pr.tr f⟩
    | false => rw [if_neg Bool.false_ne_true]; exact ⟨τ, M1, E, b.step f a, q, pn.tr f, pr.tr f⟩⟩
def dNever : DTS := fun _ _ _ => False
theorem ds_never : DS X O st dNever := (ps_never (X := X)).wk fun D σ H ⟨τ, M, E, b, t, pn, pr⟩ => t
end

/-! ### targets -/
abbrev DTG := D → DSt → DHp → (DSt → DHp → Prop) → Prop
/-- the target's reading; the slots vs alone may change -/
def RefG (K : PySem.W.Frag) (O : Org) (vs : List Nat) (g : TG) (dg : DTG) : Prop := ∀ (v : V) (d : D) (σ : L2.St) (H : Hp) (τ : DSt) (M : DHp) (Q : L2.St → Hp → Prop) (Q' : DSt → DHp → Prop), Beg K O H M τ σ → Has K H M d v → dg d τ M Q' →
  (∀ τ' M' σ' H', Q' τ' M' → Fr H M H' M' → AbH K H' M' → AbS K H' M' τ' σ' → wipe σ' vs = wipe σ vs → Q σ' H') → g v σ H Q
theorem wipe_set {σ : L2.St} {i : Nat} {x : Option V} : ∀ {vs : List Nat}, i ∈ vs → wipe (σ.set i x) vs = wipe σ vs
  | v :: vs, h => by
    unfold wipe
    by_cases z : i ∈ vs
    · rw [wipe_set z]
    · have e : v = i := by
        rcases List.mem_cons.mp h with q | q
        · exact q.symm
        · exact absurd q z
      subst e
      have key : ∀ ws : List Nat, v ∉ ws → wipe (σ.set v x) ws = (wipe σ ws).set v x := by
        intro ws
        induction ws with
        | nil => intro _; rfl
        | cons w ws ih =>
          intro hn
          unfold wipe
          rw [ih fun q => hn (List.mem_cons_of_mem _ q)]
          exact List.set_comm _ _ fun q => hn (by rw [q]; exact List.mem_cons_self)
      rw [key vs z, List.set_set]
def dgName (i : Nat) : DTG := fun d τ M Q => Q (τ.set i (some d)) M
theorem ref_gName {K : PySem.W.Frag} {O : Org} {vs : List Nat} {i : Nat} (h : i ∈ vs) : RefG K O vs (gName i) (dgName i) := fun v d σ H τ M Q Q' b hv t p =>
  p _ M _ H t (Fr.refl H M) b.h (b.s.set hv i) (wipe_set h)
def dgAll : List DTG → List D → DSt → DHp → (DSt → DHp → Prop) → Prop
  | [], [], τ, M, Q => Q τ M
  | g :: gs, d :: ds, τ, M, Q => g d τ M fun τ' M' => dgAll gs ds τ' M' Q
  | _, _, _, _, _ => False
def RefGs (K : PySem.W.Frag) (O : Org) (vs : List Nat) (g : TGs) (dgs : List DTG) : Prop := ∀ (ws : List V) (ds : List D) (σ : L2.St) (H : Hp) (τ : DSt) (M : DHp) (Q : L2.St → Hp → Prop) (Q' : DSt → DHp → Prop), Beg K O H M τ σ → HasL K H M ds ws → dgAll dgs ds τ M Q' →
  (∀ τ' M' σ' H', Q' τ' M' → Fr H M H' M' → AbH K H' M' → AbS K H' M' τ' σ' → wipe σ' vs = wipe σ vs → Q σ' H') → g ws σ H Q
theorem ref_gNil {K : PySem.W.Frag} {O : Org} {vs : List Nat} : RefGs K O vs gNil [] := fun ws ds σ H τ M Q Q' b hv t p => by
  cases ds with
  | nil => exact ⟨hv, p τ M σ H t (Fr.refl H M) b.h b.s rfl⟩
  | cons d ds => exact t.elim
theorem ref_gCons {K : PySem.W.Frag} {O : Org} {vs : List Nat} {g : TG} {gs : TGs} {dg : DTG} {dgs : List DTG} (h : RefG K O vs g dg) (r : RefGs K O vs gs dgs) : RefGs K O vs (gCons g gs) (dg :: dgs) := fun ws ds σ H τ M Q Q' b hv t p => by
  cases ds with
  | nil => exact t.elim
  | cons d ds =>
    obtain ⟨v, ws', rfl, h1, h2⟩ := hv
    exact ⟨v, ws', rfl, h v d σ H τ M _ _ b h1 t fun τ1 M1 σ1 H1 q f a s w => r ws' ds σ1 H1 τ1 M1 Q Q' ⟨b.fr.trans f, s, a⟩ (h2.fr f) q fun τ2 M2 σ2 H2 q2 f2 a2 s2 w2 => p τ2 M2 σ2 H2 q2 (f.trans f2) a2 s2 (w2.trans w)⟩
/-- the tuple's length told apart -/
def dgTupN (n : Nat) (gs : List DTG) : DTG := fun d τ M Q => match d with
  | .tup ds => ds.length = n ∧ dgAll gs ds τ M Q
  | .tpl ds => ds.length = n ∧ dgAll gs ds τ M Q
  | _ => False
theorem ref_gTup {K : PySem.W.Frag} {O : Org} {vs : List Nat} {n : Nat} {gs : TGs} {dgs : List DTG} (r : RefGs K O vs gs dgs) : RefG K O vs (gTup K n gs) (dgTupN n dgs) := fun v d σ H τ M Q Q' b hv t p => by
  cases d <;> first | exact t.elim | skip
  · obtain ⟨a, ws, rfl, _, hq, hr⟩ := hv
    exact ⟨a, ws, rfl, hq.sq, by rw [hr.len]; exact t.1, r ws _ σ H τ M Q Q' b hr t.2 p⟩
  · obtain ⟨a, ws, rfl, _, hq, hr⟩ := hv
    exact ⟨a, ws, rfl, SqT.of hq, by rw [hr.len]; exact t.1, r ws _ σ H τ M Q Q' b hr t.2 p⟩

section
variable {X : Cx} {O : Org} {pos : Pos} {e : Expr} {te : DTE}
def dAsg (te : DTE) (g : DTG) : DTS := fun E τ M => te τ M fun x M1 => g x τ M1 E.nx
theorem liftAsg {K : PySem.W.Frag} {te : DTE} {g : TG} {dg : DTG} {vs : List Nat} (hr : RefG K O vs g dg) : ∀ D σ H, liftS K O (dAsg te dg) D σ H → tAsg (liftE K O te) g D σ H := fun D σ H ⟨τ, M, E, b, t, pn, pr⟩ =>
  ⟨τ, M, _, b, t, fun d M1 v H1 q f a h => hr v d σ H1 τ M1 _ _ (b.step f a) h q fun τ2 M2 σ2 H2 q2 f2 a2 s2 _ => pn τ2 M2 σ2 H2 q2 (f.trans f2) a2 s2⟩
theorem ds_asg {tg : Expr} {g : TG} {dg : DTG} {vs : List Nat} (he : DE X O e te) (hg : PG X tg g) (hr : RefG X.K O vs g dg) (hs : swapsWithSole [tg] e pos.line X.env = pure false := by rfl) (hw : swappedStores [tg] e X.env = pure none := by rfl)
    (h1 : (assignEach [tg] X.env).map (·.2) = [assign tg X.env] := by rfl) : DS X O (.Assign [tg] e pos) (dAsg te dg) := (ps_asg he hg hs hw h1).wk (liftAsg hr)
/-- name = value -/
theorem ds_set {i : Nat} {x : Str} {pos' : Pos} (hN : X.N.Nodup) (hi : X.N[i]? = some x) (hx : Loc X.env.scope x) (he : DE X O e te) (hs : swapsWith e (some (.Name x pos')) pos.line X.env = pure false := by rfl) (hf : X.fn x = true ∨ X.env.scope.names.lookup x = some .local := by first | exact .inl rfl | exact .inr rfl | assumption) :
    DS X O (.Assign [.Name x pos'] e pos) (dAsg te (dgName i)) := (ps_set hN hi hx he hs hf).wk (liftAsg (vs := [i]) (ref_gName List.mem_cons_self))
/-- a, b = x, y, plain names -/
def dPar (i j : Nat) (ta tb : DTE) : DTS := fun E τ M => ta τ M fun x M1 => tb τ M1 fun y M2 => E.nx ((τ.set i (some x)).set j (some y)) M2
theorem ds_par {i j : Nat} {x y : Str} {a b : Expr} {ta tb : DTE} {px py pt : Pos} {kt k2 : Nat} {pt2 : Pos} (hc : X.calm = true) (hN : X.N.Nodup) (hi : X.N[i]? = some x) (hj : X.N[j]? = some y) (hij : i ≠ j)
    (hx : X.env.scope.names.lookup x = some .local) (hy : X.env.scope.names.lookup y = some .local) (ha : DE X O a ta) (hb : DE X O b tb)
    (hw : swappedStores [.Tuple [.Name x px, .Name y py] kt pt] (.Tuple [a, b] k2 pt2) X.env = pure (some [x, y]))
    (hs : swapsWithSole [.Tuple [.Name x px, .Name y py] kt pt] (.Tuple [a, b] k2 pt2) pos.line X.env = pure false := by rfl)
    (h1 : starEach (a :: [b]) X.env = (false, eval a X.env) :: starEach [b] X.env := by rfl) (h2 : starEach (b :: []) X.env = (false, eval b X.env) :: starEach [] X.env := by rfl) :
    DS X O (.Assign [.Tuple [.Name x px, .Name y py] kt pt] (.Tuple [a, b] k2 pt2) pos) (dPar i j ta tb) :=
  (ps_par hc hN hi hj hij hx hy (das_cons (O := O) ha (das_cons hb das_nil h2) h1) hw hs).wk fun D σ H ⟨τ, M, E, b, t, pn, pr⟩ =>
    ⟨τ, M, _, b, t, fun d M1 v H1 q f a h => ⟨τ, M1, _, b.step f a, q, fun d2 M2 v2 H2 q2 f2 a2 h2 => ⟨v, v2, rfl, pn _ M2 _ H2 q2 (f.trans f2) a2 (((b.s.fr (f.trans f2)).set (h.fr f2) i).set h2 j)⟩⟩⟩
end

/-! ### what is walked -/
abbrev DTI := DSt → DHp → (List D → (DHp → Prop) → DHp → Prop) → Prop
structure ItOk (K : PySem.W.Frag) (J : It) (items : List D) (ok : DHp → Prop) (H1 : Hp) (M1 : DHp) : Prop where
  small : items.length ≤ sizeLine
  stop : ∀ H M, Fr H1 M1 H M → AbH K H M → ok M → J.stop items.length H
  go : ∀ i H M, Fr H1 M1 H M → AbH K H M → ok M → i < items.length → J.go i H
  yld : ∀ i H M x H', Fr H1 M1 H M → AbH K H M → ok M → i < items.length → J.yld i H x H' → Fr H M H' M ∧ AbH K H' M ∧ ∃ d, items[i]? = some d ∧ Has K H' M d x
def liftI (K : PySem.W.Frag) (O : Org) (t : DTI) : TI := fun σ H R => ∃ (τ : DSt) (M : DHp) (R' : List D → (DHp → Prop) → DHp → Prop), Beg K O H M τ σ ∧ t τ M R' ∧
  ∀ items ok M' H' J, R' items ok M' → Fr H M H' M' → AbH K H' M' → ItOk K J items ok H' M' → R J H'
abbrev DI (X : Cx) (O : Org) (tg iter : Expr) (t : DTI) : Prop := PI X tg iter (liftI X.K O t)
theorem _root_.L2.PI.wk {X : Cx} {tg iter : Expr} {t t' : TI} (h : PI X tg iter t) (i : ∀ σ H R, t' σ H R → t σ H R) : PI X tg iter t' := ⟨fun pins s σ H R I q => h.run pins s σ H R I (i σ H R q)⟩

/-- a list, a tuple, a text -/
def iSeqV (K : PySem.W.Frag) (tl : TE) : TI := fun σ H R => tl σ H fun x H1 =>
  (∃ a xs, x = .ref a ∧ SqL K H1 a xs ∧ (xs.length ≤ sizeLine → R (Itl K a) H1)) ∨ (∃ a xs, x = .ref a ∧ SqT K H1 a xs ∧ (xs.length ≤ sizeLine → R (Itt K a) H1))
theorem pi_seqV {X : Cx} {tg l : Expr} {tl : TE} (hl : PE X l tl) : PI X tg l (iSeqV X.K tl) := by
  refine ⟨fun pins s σ H R I h => ?_⟩
  refine thn (hl.run pins s σ H _ I h) fun v s1 ⟨x, H1, I1, r1, q1⟩ => ?_
  rcases q1 with ⟨a, xs, e, hq, q⟩ | ⟨a, xs, e, hq, q⟩
  · subst e
    cases r1
    obtain ⟨its, rv, p, hz⟩ := I1.list hq
    refine wpAny_pyIter_list p.isList ?_
    refine ⟨s1.heap.objs.size, [s1.heap.objs.size], _, _, H1, rfl, I1.kept (t' := s1.toks) fun b o e => Heap.get?_push_of_some _ e, turn_list a _, ⟨_, Heap.get?_push_size _ rfl, rfl, rfl⟩, fun b hb => ?_, q hz⟩
    have e : b = s1.heap.objs.size := by simpa using hb
    subst e
    exact I1.fpOk (Nat.le_refl _) (I1.hok.fresh (Nat.le_refl _))
  · subst e
    cases r1
    obtain ⟨its, rv, p, hz⟩ := I1.tuple hq
    refine wpAny_pyIter_tuple (show s1.heap.IsTuple a its.toArray from p) ?_
    refine ⟨s1.heap.objs.size, [s1.heap.objs.size], _, _, H1, rfl, I1.kept (t' := s1.toks) fun b o e => Heap.get?_push_of_some _ e, turn_tuple a _, ⟨_, Heap.get?_push_size _ rfl, rfl, rfl⟩, fun b hb => ?_, q hz⟩
    have e : b = s1.heap.objs.size := by simpa using hb
    subst e
    exact I1.fpOk (Nat.le_refl _) (I1.hok.fresh (Nat.le_refl _))
/-- a list that stands through the loop -/
def stands (x : D) (ds : List D) : DHp → Prop := fun M => match x with
  | .ref a => M a = some (.lst ds)
  | _ => True
def diSeq (te : DTE) : DTI := fun τ M R => te τ M fun x M1 => wth (seqOf x M1) fun ds => R ds (stands x ds) M1
theorem KL.inj {K : PySem.W.Frag} {H : Hp} {a : Addr} {vs ws : List V} (u : ∀ b, (K.lookup b).isSome = true → H b = none) (h : SqL K H a vs) (h' : SqL K H a ws) : vs = ws := by
  rcases h with (h | ⟨o, h⟩) | ⟨o, its, n, h1, h2, h3, h4, h5, h6⟩
  · rcases h' with (h' | ⟨o', h'⟩) | ⟨o', its', n', g1, _⟩
    · rw [h] at h'; cases h'; rfl
    · rw [h] at h'; cases h'
    · have z := u a (by rw [g1]; rfl); rw [h] at z; cases z
  · rcases h' with (h' | ⟨o', h'⟩) | ⟨o', its', n', g1, _⟩
    · rw [h] at h'; cases h'
    · rw [h] at h'; cases h'; rfl
    · have z := u a (by rw [g1]; rfl); rw [h] at z; cases z
  · rcases h' with (h' | ⟨o', h'⟩) | ⟨o', its', n', g1, g2, g3, g4, g5, g6⟩
    · have z := u a (by rw [h1]; rfl); rw [h'] at z; cases z
    · have z := u a (by rw [h1]; rfl); rw [h'] at z; cases z
    · rw [h1] at g1; cases g1
      rw [h4] at g4; cases g4
      exact h6.inj g6
end Rh
/-! DL5: sources that are walked, for, while, list comprehensions. -/
namespace Rh
open PySem PySem.Spec PyProof.Rows L2

/-! ### enumerate over a tuple -/
section
open PySem.F
variable {prog : Program} {w : World} {A : Around} {E : Value → Shared → Prop} {s : Shared}
theorem begins_tuple_enum (t : Addr) (items : Array Value) :
    Meets (Builtin.«enumerate.__new__» ⟨[.type "enumerate", .ref t], []⟩) (fun _ R s => s.heap.IsTuple t items ∧
      R (.ok (.ret (.ref (s.heap.push { cls := .type "tuple_iterator", data := .fields #[.ref t, .int 0 0] }).objs.size)))
        { s with heap := (s.heap.push { cls := .type "tuple_iterator", data := .fields #[.ref t, .int 0 0] }).push { cls := .type "enumerate", data := .fields #[.none, .bool false, .ref s.heap.objs.size, rawInt 0, .none, .none] } }) :=
  .of_wp fun prog w A R s hyp => by
    obtain ⟨hp, gg, dd, tt, oo⟩ := s
    obtain ⟨ht, hR⟩ := hyp
    have hs := sub_enumerate
    have tp : Heap.IsTuple (Shared.heap ⟨hp, gg, dd, tt, oo⟩) t items := ht
    wp_walk
    refine wpAny_stack_any fun st => wpAny_pure ?_
    split
    · rename_i cc _ _ _ _ _
      cases (cc == Value.type "enumerate") <;> (wp_walk using wpAny_pyIter_tuple tp; exact ⟨_, rfl, hR⟩)
    · wp_walk using wpAny_pyIter_tuple tp
      exact ⟨_, rfl, hR⟩
theorem call_enum_tuple {t : Addr} {items : Array Value} {Q : Value → Shared → Prop} (ht : s.heap.IsTuple t items)
    (k : ∀ h', IsEnum h' (s.heap.objs.size + 1) s.heap.objs.size 0 .none → h'.IsTupleIter s.heap.objs.size t 0 → (∀ b o, s.heap.get? b = some o → h'.get? b = some o) → Q (.ref (s.heap.objs.size + 1)) { s with heap := h' }) :
    wpAny (model prog w) A (call (.type "enumerate") [.ref t]) Q E s := by
  refine callType_new called_enumerate (by decide) (typeCall_enumerate_1 _) (newCall_enumerate_1 _) (fun obj => args_object_init_2 obj _) entry_enumerate_new (begins_tuple_enum t items) ⟨ht, ?_⟩
  generalize ho : ({ cls := .type "tuple_iterator", data := .fields #[.ref t, .int 0 0] } : Obj) = oi
  have z : (s.heap.push oi).objs.size = s.heap.objs.size + 1 := Heap.size_push ..
  show _ ∧ _
  rw [z]
  have at1 : IsEnum ((s.heap.push oi).push { cls := .type "enumerate", data := .fields #[.none, .bool false, .ref s.heap.objs.size, rawInt 0, .none, .none] }) (s.heap.objs.size + 1) s.heap.objs.size 0 .none := by
    have q := Heap.get?_push_size (s.heap.push oi) (o := { cls := .type "enumerate", data := .fields #[.none, .bool false, .ref s.heap.objs.size, rawInt 0, .none, .none] }) rfl
    rw [z] at q
    exact q
  refine ⟨⟨_, at1, rfl⟩, k _ at1 ⟨_, Heap.get?_push_of_some _ (Heap.get?_push_size _ (by rw [← ho] <;> rfl)), by rw [← ho], by rw [← ho] <;> rfl⟩ fun b o x => Heap.get?_push_of_some _ (Heap.get?_push_of_some _ x)⟩
end
/-- the tuple at a, each item in a new pair -/
def IteT (K : PySem.W.Frag) (a : Addr) : It :=
  ⟨fun i H => ∃ (xs : List V) (x : V), SqT K H a xs ∧ xs[i]? = some x, fun i H v H' => ∃ T x, v = .ref T ∧ H T = none ∧ H' = upd H T (.tup [.int (i : Nat), x]) ∧ ∀ xs, SqT K H a xs → xs[i]? = some x, fun i H => ∃ xs : List V, SqT K H a xs ∧ xs.length ≤ i⟩
theorem turn_enumT {P : Program} {w : World} {K : PySem.W.Frag} {elts : List Expr} {kk : Nat} {tpos : Pos} (a e it : Addr) (ae : a ≠ e) (ai : a ≠ it) :
    Turn P w K (.Tuple elts kk tpos) (IteT K a) [e, it] e (fun i h => (∃ old, IsEnum h e it ((i : Nat) : Int) old) ∧ h.IsTupleIter it a i ∧ e ≠ it) where
  mem := by simp
  obj := fun i h st b hb => by
    obtain ⟨⟨old, q1⟩, ⟨o, q2, _, q3⟩, _⟩ := st
    rcases List.mem_cons.mp hb with z | hb
    · rw [z]; exact ⟨_, q1, fun v q => nomatch q⟩
    · rw [List.mem_singleton.mp hb]; exact ⟨o, q2, fun v q => by rw [q3] at q; cases q⟩
  keep := fun i h h' st k => let ⟨⟨old, q1⟩, q2, q3⟩ := st; ⟨⟨old, k e (by simp) _ q1⟩, q2.at fun o q => k it (by simp) o q, q3⟩
  item := by
    intro X hP hw hK hc i pins s σ H E I hf st hg
    subst hP hw hK
    obtain ⟨⟨old, q1⟩, q2, q3⟩ := st
    obtain ⟨xs, x, sq, gx⟩ := hg
    obtain ⟨its, rv, p, _⟩ := I.tuple sq
    obtain ⟨u, gu, ru⟩ := rv.get gx
    have le : e < s.heap.objs.size := Heap.lt_size q1
    have li : it < s.heap.objs.size := by obtain ⟨_, q, _⟩ := q2; exact Heap.lt_size q
    have ilt : i < its.toArray.size := by
      rw [List.size_toArray]
      exact (List.getElem?_eq_some_iff.mp gu).1
    have D := Draws.tuple (prog := X.prog) (w := X.w) (A := X.A.in1) (I.ok.hd hc) it a ai its.toArray
    refine wpAny_pyNext_enum_itemD D q1 ⟨q2, p⟩ ilt q3 (by simp [q3, Ne.symm ae]) fun y h' tk hy ho hst hT _ hk => ?_
    have ey : y = u := by
      have hy' : its.toArray[i]? = some y := hy
      rw [List.getElem?_toArray, gu] at hy'
      exact (Option.some.inj hy').symm
    subst ey
    refine ⟨_, rfl, wpAny_letOwnedTupleGo_enum (s := { s with heap := h', toks := tk + 1 }) ho fun h'' he' sb => ?_⟩
    have hT2 : h''.get? s.heap.objs.size = some { cls := .type "tuple", data := .seq #[.int i tk, y] } := (sb.2 _ (Nat.ne_of_gt le)).trans hT
    have new : ObjOk X.prog X.w (upd H s.heap.objs.size (.tup [.int (i : Nat), x])) h'' s.heap.objs.size (.tup [.int (i : Nat), x]) :=
      ⟨by show 2 ≤ sizeLine; decide, [.int i tk, y], .cons ⟨_, rfl⟩ (.cons ru .nil), ⟨_, hT2, rfl, _, rfl⟩⟩
    have I1 : Inv X pins σ (upd H s.heap.objs.size (.tup [.int (i : Nat), x])) { s with heap := h'', toks := tk + 1 } :=
      I.turnedNew (ch := [e, it]) (fun b ob hb q => (sb.2 b (fun z => hb (by simp [z]))).trans (hk b ob (fun z => hb (by simp [z])) (fun z => hb (by simp [z])) q)) hf (Nat.le_refl _) new
    refine ⟨.ref s.heap.objs.size, _, I1, rfl, ⟨_, x, rfl, I.hok.fresh (Nat.le_refl _), rfl, fun ys hy => by rw [I.tuple_inj hy sq]; exact gx⟩, ⟨⟨y, ?_⟩, hst.1.at fun o q => (sb.2 it (Ne.symm q3)).trans q, q3⟩, fun b hb => ?_⟩
    · rw [show ((i + 1 : Nat) : Int) = (i : Int) + 1 from by omega]
      exact he'
    · have hb' : b < s.heap.objs.size := by
        rcases List.mem_cons.mp hb with z | hb
        · rw [z]; exact le
        · rw [List.mem_singleton.mp hb]; exact li
      rw [upd_ne (Nat.ne_of_lt hb')]
      exact (hf b hb).1
  done := by
    intro X hP hw hK hc i pins s σ H E I hf st hg
    subst hP hw hK
    obtain ⟨⟨old, q1⟩, q2, q3⟩ := st
    obtain ⟨xs, sq, gx⟩ := hg
    obtain ⟨its, rv, p, _⟩ := I.tuple sq
    obtain ⟨f0, f1, f2, f3, f4, f5⟩ := hf it (by simp)
    have hl := rv.length
    have hT : s.TypeIs (.ref e) "enumerate" := ⟨_, q1, rfl⟩
    unfold pyNext
    refine wpAny_bind (wpAny_attempt (wpAny_callSpecial?_slot (name := Str.ofString "__next__") hT F.slot_enumerate_next (wpAny_call_entry F.slot_enumerate_next hT F.entry_enumerate_next ?_ (F.args_enumerate_next_1 _))))
    show wpAny _ _ (field (.ref e) 2 >>= _) _ _ _
    refine wpAny_bind (wpAny_field q1 rfl (x := .ref it) rfl ?_)
    refine wpAny_bind (wpAny_nextOf_tuple_end (I.ok.hd hc) q2 p (by simp; omega) fun h' xe eb hx => ?_)
    obtain ⟨o, ho, hcl⟩ := hx
    refine wpAny_bind (wpAny_isInstance (T := "StopIteration") (b := true) ⟨o, ho, hcl⟩ isSubtype_stop ?_)
    exact wpAny_pure ⟨rfl, I.turned (t' := s.toks) (fun b o hb q => eb b o hb q) f0 f1 f3 f4 f5⟩
  self := fun A i s Q E st h => let ⟨⟨_, he⟩, _⟩ := st; wpAny_pyIter_enum he h
/-- enumerate of a list, of a tuple -/
def iEnumA (K : PySem.W.Frag) (ta : TA) : TI := fun σ H R => ta σ H fun vs H1 =>
  (∃ a xs, vs = [.ref a] ∧ SqL K H1 a xs ∧ (xs.length ≤ sizeLine → R (Ite K a) H1)) ∨ (∃ a xs, vs = [.ref a] ∧ SqT K H1 a xs ∧ (xs.length ≤ sizeLine → R (IteT K a) H1))
theorem pi_enumA {X : Cx} {e : Expr} {ta : TA} {p pos tpos : Pos} {elts : List Expr} {kk : Nat} (hg : Gl X "enumerate") (hm : X.mg "enumerate" = none) (hp : PA X [e] ta) (hs : starEach [e] X.env = [(false, eval e X.env)] := by rfl) :
    PI X (.Tuple elts kk tpos) (.Call (.Name "enumerate" p) [e] [] pos) (iEnumA X.K ta) := by
  refine ⟨fun pins s σ H R I h => ?_⟩
  refine Call_ (ld_blt I hg hm boot_enumerate (PyProof.Rows.callWith_type1 (thn (hp.run pos pins s σ H _ I h) fun us s1 ⟨vs, H1, I1, r1, q1⟩ => ?_) hs rfl))
  rcases q1 with ⟨a, xs, ev, hq, q⟩ | ⟨a, xs, ev, hq, q⟩
  · subst ev
    cases r1 with
    | cons r rr =>
      cases rr
      cases r
      obtain ⟨its, rv, p', hz⟩ := I1.list hq
      refine call_enumerate_list p'.isList fun h' he hit hsz hk => wpAny_pyIter_enum he ?_
      have I2 : Inv X pins σ H1 { s1 with heap := h' } := I1.kept (t' := s1.toks) hk
      refine ⟨s1.heap.objs.size + 1, [s1.heap.objs.size + 1, s1.heap.objs.size], _, _, H1, rfl, I2, turn_enum a (s1.heap.objs.size + 1) s1.heap.objs.size, ⟨⟨.none, he⟩, hit, Nat.succ_ne_self _⟩, fun b hb => ?_, q hz⟩
      have hle : s1.heap.objs.size ≤ b := by
        rcases List.mem_cons.mp hb with z | hb
        · rw [z]; exact Nat.le_succ _
        · rw [List.mem_singleton.mp hb]; exact Nat.le_refl _
      exact I1.fpOk hle (I1.hok.fresh hle)
  · subst ev
    cases r1 with
    | cons r rr =>
      cases rr
      cases r
      obtain ⟨its, rv, p', hz⟩ := I1.tuple hq
      have la : a < s1.heap.objs.size := p'.lt
      refine call_enum_tuple (show s1.heap.IsTuple a its.toArray from p') fun h' he hit hk => wpAny_pyIter_enum he ?_
      have I2 : Inv X pins σ H1 { s1 with heap := h' } := I1.kept (t' := s1.toks) hk
      refine ⟨s1.heap.objs.size + 1, [s1.heap.objs.size + 1, s1.heap.objs.size], _, _, H1, rfl, I2, turn_enumT a (s1.heap.objs.size + 1) s1.heap.objs.size (Nat.ne_of_lt (Nat.lt_succ_of_lt la)) (Nat.ne_of_lt la), ⟨⟨.none, he⟩, hit, Nat.succ_ne_self _⟩, fun b hb => ?_, q hz⟩
      have hle : s1.heap.objs.size ≤ b := by
        rcases List.mem_cons.mp hb with z | hb
        · rw [z]; exact Nat.le_succ _
        · rw [List.mem_singleton.mp hb]; exact Nat.le_refl _
      exact I1.fpOk hle (I1.hok.fresh hle)
end Rh
/-! DL6: sources over data; for, while, list comprehensions. -/
namespace Rh
open PySem PySem.Spec PyProof.Rows L2

/-! ### sources -/
theorem seq_it {K : PySem.W.Frag} {a : Addr} {ds : List D} {ok : DHp → Prop} {H1 : Hp} {M1 : DHp} (sm : ds.length ≤ sizeLine) (k : ∀ H M, Fr H1 M1 H M → AbH K H M → ok M → ∃ vs, SqL K H a vs ∧ HasL K H M ds vs) : ItOk K (Itl K a) ds ok H1 M1 where
  small := sm
  stop := fun H M f A o => let ⟨vs, s, r⟩ := k H M f A o; ⟨vs, s, Nat.le_of_eq r.len⟩
  go := fun i H M f A o hi => by
    obtain ⟨vs, s, r⟩ := k H M f A o
    obtain ⟨v, e, _⟩ := r.get (i := i) (List.getElem?_eq_getElem hi)
    exact ⟨vs, v, s, e⟩
  yld := fun i H M x H' f A o hi y => by
    obtain ⟨vs, s, r⟩ := k H M f A o
    obtain ⟨rfl, y⟩ := y
    obtain ⟨d, e, h⟩ := r.get' (y vs s)
    exact ⟨Fr.refl _ M, A, d, e, h⟩
theorem tup_it {K : PySem.W.Frag} {a : Addr} {ds : List D} {ok : DHp → Prop} {H1 : Hp} {M1 : DHp} (sm : ds.length ≤ sizeLine) (k : ∀ H M, Fr H1 M1 H M → AbH K H M → ok M → ∃ vs, SqT K H a vs ∧ HasL K H M ds vs) : ItOk K (Itt K a) ds ok H1 M1 where
  small := sm
  stop := fun H M f A o => let ⟨vs, s, r⟩ := k H M f A o; ⟨vs, s, Nat.le_of_eq r.len⟩
  go := fun i H M f A o hi => by
    obtain ⟨vs, s, r⟩ := k H M f A o
    obtain ⟨v, e, _⟩ := r.get (i := i) (List.getElem?_eq_getElem hi)
    exact ⟨vs, v, s, e⟩
  yld := fun i H M x H' f A o hi y => by
    obtain ⟨vs, s, r⟩ := k H M f A o
    obtain ⟨rfl, y⟩ := y
    obtain ⟨d, e, h⟩ := r.get' (y vs s)
    exact ⟨Fr.refl _ M, A, d, e, h⟩
/-- what a list, a tuple is, at each later heap -/
theorem seq_later {K : PySem.W.Frag} {H1 : Hp} {M1 : DHp} {x : D} {v : V} {ds : List D} (A : AbH K H1 M1) (h : Has K H1 M1 x v) (e : seqOf x M1 = some ds) :
    ∃ a, v = .ref a ∧ ((∃ xs, SqL K H1 a xs ∧ xs.length = ds.length) ∧ (∀ H M, Fr H1 M1 H M → AbH K H M → stands x ds M → ∃ vs, SqL K H a vs ∧ HasL K H M ds vs) ∨
      (∃ xs, SqT K H1 a xs ∧ xs.length = ds.length) ∧ ∀ H M, Fr H1 M1 H M → AbH K H M → stands x ds M → ∃ vs, SqT K H a vs ∧ HasL K H M ds vs) := by
  cases x with
  | tup es =>
    have ee : es = ds := Option.some.inj e
    subst ee
    obtain ⟨a, vs, rfl, n, t, r⟩ := h
    exact ⟨a, rfl, .inr ⟨⟨vs, t.sq, r.len⟩, fun H M f _ _ => ⟨vs, (t.fr f n).sq, r.fr f⟩⟩⟩
  | lst es =>
    have ee : es = ds := Option.some.inj e
    subst ee
    obtain ⟨a, vs, rfl, n, t, r⟩ := h
    exact ⟨a, rfl, .inl ⟨⟨vs, SqL.of t, r.len⟩, fun H M f _ _ => ⟨vs, SqL.of (f.eq _ _ t n), r.fr f⟩⟩⟩
  | scr ns =>
    have ee : ns.map D.int = ds := Option.some.inj e
    subst ee
    obtain ⟨a, rfl, t⟩ := h
    exact ⟨a, rfl, .inl ⟨⟨_, t.sq, by simp⟩, fun H M f _ _ => ⟨_, (t.fr f).sq, hasL_ints K H M ns⟩⟩⟩
  | ref b =>
    obtain ⟨a, vs, e1, t, r⟩ := mlst_at A h (show mlst (.ref b) M1 = some ds from e)
    have eb : v = .ref b := h
    rw [eb] at e1
    cases e1
    refine ⟨b, eb, .inl ⟨⟨vs, SqL.of t, r.len⟩, fun H M f A' o => ?_⟩⟩
    obtain ⟨ws, t', r'⟩ := A' b _ (show M b = some (.lst ds) from o)
    exact ⟨ws, SqL.of t', r'⟩
  | _ => cases e
section
variable {X : Cx} {O : Org} {pos : Pos} {tg e : Expr} {te : DTE}
theorem di_seq (he : DE X O e te) : DI X O tg e (diSeq te) := (pi_seqV he).wk fun σ H R ⟨τ, M, R', b, t, p⟩ =>
  ⟨τ, M, _, b, t, fun d M1 v H1 q f a h => by
    obtain ⟨ds, e, q⟩ := wth_of q
    obtain ⟨ad, rfl, z⟩ := seq_later a h e
    rcases z with ⟨⟨xs, s, l⟩, k⟩ | ⟨⟨xs, s, l⟩, k⟩
    · exact .inl ⟨ad, xs, rfl, s, fun sm => p ds _ M1 H1 _ q f a (seq_it (by rw [← l]; exact sm) k)⟩
    · exact .inr ⟨ad, xs, rfl, s, fun sm => p ds _ M1 H1 _ q f a (tup_it (by rw [← l]; exact sm) k)⟩⟩
def pairs (i : Nat) : List D → List D
  | [] => []
  | d :: ds => .tpl [.int (i : Int), d] :: pairs (i + 1) ds
theorem pairs_len : ∀ (i : Nat) (ds : List D), (pairs i ds).length = ds.length
  | _, [] => rfl
  | i, d :: ds => by show (pairs (i + 1) ds).length + 1 = ds.length + 1; rw [pairs_len]
theorem pairs_at : ∀ (i j : Nat) (ds : List D), (pairs i ds)[j]? = (ds[j]?).map fun d => .tpl [.int ((i + j : Nat) : Int), d]
  | _, _, [] => by simp [pairs]
  | i, 0, d :: ds => by simp [pairs]
  | i, j + 1, d :: ds => by
    show (pairs (i + 1) ds)[j]? = _
    rw [pairs_at, List.getElem?_cons_succ]
    simp only [Nat.add_assoc, Nat.add_comm 1 j]
def diEnum (te : DTE) : DTI := fun τ M R => te τ M fun x M1 => wth (seqOf x M1) fun ds => R (pairs 0 ds) (stands x ds) M1
/-- a new pair that nothing else holds -/
theorem pair_new {K : PySem.W.Frag} {H : Hp} {M : DHp} {T : Addr} {x y : V} {d e : D} (A : AbH K H M) (nt : H T = none) (h1 : Has K H M d x) (h2 : Has K H M e y) :
    Fr H M (upd H T (.tup [x, y])) M ∧ AbH K (upd H T (.tup [x, y])) M ∧ Has K (upd H T (.tup [x, y])) M (.tpl [d, e]) (.ref T) :=
  ⟨Fr.new nt, A.new nt, ⟨T, [x, y], rfl, A.fresh nt, upd_same, ⟨x, [y], rfl, h1.fr (Fr.new nt), y, [], rfl, h2.fr (Fr.new nt), rfl⟩⟩⟩
theorem di_enum {p tpos : Pos} {elts : List Expr} {kk : Nat} (hg : Gl X "enumerate") (hm : X.mg "enumerate" = none) (he : DE X O e te) (hs : starEach [e] X.env = [(false, eval e X.env)] := by rfl) :
    DI X O (.Tuple elts kk tpos) (.Call (.Name "enumerate" p) [e] [] pos) (diEnum te) := (pi_enumA hg hm (das_cons (O := O) he das_nil hs) hs).wk fun σ H R ⟨τ, M, R', b, t, p⟩ =>
  ⟨τ, M, _, b, t, fun d M1 v H1 q f a h => by
    obtain ⟨ds, e, q⟩ := wth_of q
    obtain ⟨ad, rfl, z⟩ := seq_later a h e
    rcases z with ⟨⟨xs, s, l⟩, k⟩ | ⟨⟨xs, s, l⟩, k⟩
    · refine .inl ⟨ad, xs, rfl, s, fun sm => p (pairs 0 ds) _ M1 H1 _ q f a { small := by rw [pairs_len, ← l]; exact sm, stop := ?_, go := ?_, yld := ?_ }⟩
      · intro H M f A o
        obtain ⟨vs, s, r⟩ := k H M f A o
        exact ⟨vs, s, by rw [pairs_len, r.len]; exact Nat.le_refl _⟩
      · intro i H M f A o hi
        obtain ⟨vs, s, r⟩ := k H M f A o
        rw [pairs_len] at hi
        obtain ⟨v, e, _⟩ := r.get (i := i) (List.getElem?_eq_getElem hi)
        exact ⟨vs, v, s, e⟩
      · intro i H M x H' f A o hi y
        obtain ⟨vs, s, r⟩ := k H M f A o
        obtain ⟨T, y0, rfl, nt, rfl, y⟩ := y
        obtain ⟨d, e, hd⟩ := r.get' (y vs s)
        obtain ⟨f1, a1, h1⟩ := pair_new A nt (show Has X.K H M (.int (i : Int)) (.int (i : Int)) from rfl) hd
        exact ⟨f1, a1, _, by rw [pairs_at, e, Nat.zero_add]; rfl, h1⟩
    · refine .inr ⟨ad, xs, rfl, s, fun sm => p (pairs 0 ds) _ M1 H1 _ q f a { small := by rw [pairs_len, ← l]; exact sm, stop := ?_, go := ?_, yld := ?_ }⟩
      · intro H M f A o
        obtain ⟨vs, s, r⟩ := k H M f A o
        exact ⟨vs, s, by rw [pairs_len, r.len]; exact Nat.le_refl _⟩
      · intro i H M f A o hi
        obtain ⟨vs, s, r⟩ := k H M f A o
        rw [pairs_len] at hi
        obtain ⟨v, e, _⟩ := r.get (i := i) (List.getElem?_eq_getElem hi)
        exact ⟨vs, v, s, e⟩
      · intro i H M x H' f A o hi y
        obtain ⟨vs, s, r⟩ := k H M f A o
        obtain ⟨T, y0, rfl, nt, rfl, y⟩ := y
        obtain ⟨d, e, hd⟩ := r.get' (y vs s)
        obtain ⟨f1, a1, h1⟩ := pair_new A nt (show Has X.K H M (.int (i : Int)) (.int (i : Int)) from rfl) hd
        exact ⟨f1, a1, _, by rw [pairs_at, e, Nat.zero_add]; rfl, h1⟩⟩
/-- lo, lo + 1, ..: n of them -/
def nums (lo : Int) : Nat → List D
  | 0 => []
  | n + 1 => .int lo :: nums (lo + 1) n
theorem nums_len : ∀ (lo : Int) (n : Nat), (nums lo n).length = n
  | _, 0 => rfl
  | lo, n + 1 => by show (nums (lo + 1) n).length + 1 = n + 1; rw [nums_len]
theorem nums_at : ∀ (lo : Int) (n i : Nat), i < n → (nums lo n)[i]? = some (.int (lo + i))
  | _, 0, _, h => absurd h (Nat.not_lt_zero _)
  | lo, n + 1, 0, _ => by show some (D.int lo) = some (.int (lo + ((0 : Nat) : Int))); rw [Int.natCast_zero, Int.add_zero]
  | lo, n + 1, i + 1, h => by
    show (nums (lo + 1) n)[i]? = _
    rw [nums_at (lo + 1) n i (Nat.lt_of_succ_lt_succ h)]
    congr 2
    omega
theorem rng_it {K : PySem.W.Frag} {lo : Int} {n : Nat} {H1 : Hp} {M1 : DHp} (h : n ≤ sizeLine) : ItOk K (Itr lo n) (nums lo n) (fun _ => True) H1 M1 where
  small := by rw [nums_len]; exact h
  stop := fun H M f A o => by show n ≤ _; rw [nums_len]; exact Nat.le_refl _
  go := fun i H M f A o hi => by rw [nums_len] at hi; exact hi
  yld := fun i H M x H' f A o hi y => by
    rw [nums_len] at hi
    obtain ⟨rfl, rfl⟩ := y
    exact ⟨Fr.refl _ M, A, _, nums_at lo n i hi, rfl⟩
def diRng1 (te : DTE) : DTI := fun τ M R => te τ M fun x M1 => match x with
  | .int j => j ≤ 1000000 ∧ -(2 ^ 62) ≤ j ∧ R (nums 0 j.toNat) (fun _ => True) M1
  | _ => False
theorem toNat_line {j : Int} (h : j ≤ 1000000) : j.toNat ≤ sizeLine := Nat.le_trans (show j.toNat ≤ 1000000 by omega) (by decide)
theorem di_range1 {p : Pos} (hg : Gl X "range") (hm : X.mg "range" = none) (he : DE X O e te) (hs : starEach [e] X.env = [(false, eval e X.env)] := by rfl) : DI X O tg (.Call (.Name "range" p) [e] [] pos) (diRng1 te) :=
  (pi_range1 hg hm (das_cons (O := O) he das_nil hs) hs).wk fun σ H R ⟨τ, M, R', b, t, p⟩ =>
    ⟨τ, M, _, b, t, fun d M1 v H1 q f a h => by
      cases d with
      | int j => exact ⟨j, by rw [show v = .int j from h], q.2.1, by have := q.1; omega, p _ _ M1 H1 _ q.2.2 f a (rng_it (toNat_line q.1))⟩
      | _ => exact q.elim⟩
end
end Rh
/-! DL7: for, while, list comprehensions. -/
namespace Rh
open PySem PySem.Spec PyProof.Rows L2

/-! ### for -/
def forR (ok : DHp → Prop) (g : DTG) (tb : DTS) (E : DEnds) : List D → DSt → DHp → Prop
  | [], τ, M => ok M ∧ E.nx τ M
  | x :: xs, τ, M => ok M ∧ g x τ M fun τ1 M1 => tb { E with nx := fun τ2 M2 => ∃ τ3 M3, SubS τ3 τ2 ∧ Sub M3 M2 ∧ forR ok g tb E xs τ3 M3 } τ1 M1
def dFor (di : DTI) (g : DTG) (tb : DTS) : DTS := fun E τ M => di τ M fun items ok M1 => forR ok g tb E items τ M1
theorem drop_cons {α : Type} {l : List α} {i : Nat} {x : α} (h : l[i]? = some x) : l.drop i = x :: l.drop (i + 1) := by
  obtain ⟨hi, e⟩ := List.getElem?_eq_some_iff.mp h
  rw [List.drop_eq_getElem_cons hi, e]
theorem liftFor {K : PySem.W.Frag} {O : Org} {di : DTI} {g : TG} {dg : DTG} {tb : DTS} {vs : List Nat} (hr : RefG K O vs g dg) : ∀ D σ H, liftS K O (dFor di dg tb) D σ H → tFor (liftI K O di) g (liftS K O tb) D σ H := fun D σ H ⟨τ, M, E, b, t, pn, pr⟩ =>
  ⟨τ, M, _, b, t, fun items ok M1 H1 J q f a io => by
    refine ⟨fun i m σ' H' => ∃ τ' M', m = items.length - i ∧ i ≤ items.length ∧ Fr H1 M1 H' M' ∧ AbH K H' M' ∧ AbS K H' M' τ' σ' ∧ forR ok dg tb E (items.drop i) τ' M', ⟨items.length, τ, M1, by omega, Nat.zero_le _, Fr.refl _ _, a, b.s.fr f, q⟩, ?_⟩
    rintro i m σ' H' ⟨τ', M', rfl, hi, f', a', s', w⟩
    by_cases hl : i < items.length
    · have e := drop_cons (List.getElem?_eq_getElem hl)
      rw [e] at w
      obtain ⟨o, w⟩ := w
      refine .inr ⟨io.go i H' M' f' a' o hl, fun σ2 H2 => ∃ τ2 M2, i + 1 ≤ items.length ∧ Fr H1 M1 H2 M2 ∧ AbH K H2 M2 ∧ AbS K H2 M2 τ2 σ2 ∧ forR ok dg tb E (items.drop (i + 1)) τ2 M2, fun σ2 H2 ⟨τ2, M2, h1, h2, h3, h4, h5⟩ => ⟨items.length - (i + 1), by omega, τ2, M2, rfl, h1, h2, h3, h4, h5⟩, fun x H2 y => ?_⟩
      obtain ⟨f2, a2, d, ed, hd⟩ := io.yld i H' M' x H2 f' a' o hl y
      rw [List.getElem?_eq_getElem hl] at ed
      cases ed
      have fO : Fr O.H O.M H2 M' := b.fr.trans (f.trans (f'.trans f2))
      refine hr x _ σ' H2 τ' M' _ _ ⟨fO, s'.fr f2, a2⟩ hd w fun τ3 M3 σ3 H3 q3 f3 a3 s3 _ => ?_
      refine ⟨τ3, M3, _, ⟨fO.trans f3, s3, a3⟩, q3, fun τ4 M4 σ4 H4 q4 f4 a4 s4 => ?_, fun d M4 v H4 q4 f4 a4 h4 => pr d M4 v H4 q4 (f.trans (f'.trans (f2.trans (f3.trans f4)))) a4 h4⟩
      obtain ⟨τ5, M5, z1, z2, z3⟩ := q4
      exact ⟨τ5, M5, hl, (f'.trans (f2.trans (f3.trans f4))).less z2, a4.less z2, (s4.less z2).lessS z1, z3⟩
    · have ei : i = items.length := by omega
      subst ei
      rw [List.drop_length] at w
      exact .inl ⟨io.stop H' M' f' a' w.1, pn _ _ _ _ w.2 (f.trans f') a' s'⟩⟩
section
variable {X : Cx} {O : Org} {pos : Pos}
theorem ds_for {tg iter : Expr} {body : List Stmt} {di : DTI} {g : TG} {dg : DTG} {tb : DTS} {vs : List Nat} (hp : PassesOwn (model X.prog X.w) X.A X.env X.xe) (hc : X.calm = true) (hi : DI X O tg iter di) (hg : PG X tg g) (hr : RefG X.K O vs g dg) (hb : DSs X O body tb)
    (hs : ∀ x, foldedSetIterable iter X.env x = pure x := by intro _; rfl) : DS X O (.For tg iter body [] pos) (dFor di dg tb) := (ps_for hp hc hi hg hb hs).wk (liftFor hr)
end
/-! ### while -/
section
variable {X : Cx} {O : Org} {pos : Pos}
end

/-! ### list comprehensions -/
def wipeD (τ : DSt) : List Nat → DSt
  | [] => τ
  | v :: vs => (wipeD τ vs).set v none
theorem AbS.wipe {K : PySem.W.Frag} {H : Hp} {M : DHp} {τ : DSt} {σ : L2.St} (s : AbS K H M τ σ) : ∀ vs : List Nat, AbS K H M (wipeD τ vs) (wipe σ vs)
  | [] => s
  | v :: vs => by
    have ih := AbS.wipe s vs
    refine ⟨by unfold wipeD L2.wipe; rw [List.length_set, List.length_set]; exact ih.len, fun i d e => ?_⟩
    unfold wipeD at e
    unfold L2.wipe
    by_cases z : v = i
    · subst z
      by_cases l : v < (wipeD τ vs).length
      · rw [List.getElem?_set_self l] at e; cases e
      · rw [List.getElem?_eq_none (by rw [List.length_set]; omega)] at e; cases e
    · rw [List.getElem?_set_ne z] at e ⊢
      exact ih.get i d e
/-- one turn of a comprehension: the item x, at the heap where the list stands -/
def lcTurn (g : DTG) (tt : DTT) (te : DTE) (x : D) (τ : DSt) (M : DHp) (Q : Option D → DHp → Prop) : Prop :=
  g x τ M fun τ2 M2 => tt τ2 M2 fun b M3 => match b with
    | true => te τ2 M3 fun y M4 => Q (some y) M4
    | false => Q none M3
def addO (acc : List D) : Option D → List D
  | some y => acc ++ [y]
  | none => acc
def lcR (ok : DHp → Prop) (g : DTG) (tt : DTT) (te : DTE) (τ : DSt) (p : Addr) : List D → List D → DHp → (List D → DHp → Prop) → Prop
  | [], acc, M, Q => ok (up M p (.lst acc)) ∧ Q acc M
  | x :: xs, acc, M, Q => ok (up M p (.lst acc)) ∧ lcTurn g tt te x τ (up M p (.lst acc)) fun y M4 => ∃ M5, Sub (up M5 p (.lst acc)) M4 ∧ M5 p = none ∧ lcR ok g tt te τ p xs (addO acc y) M5 Q
def lcEnd (mu : Bool) (p : Addr) (Q : DVK) (ys : List D) (M2 : DHp) : Prop := match mu with
  | false => Q (.lst ys) M2
  | true => Q (.ref p) (up M2 p (.lst ys))
theorem wipe_none {σ : L2.St} : ∀ {vs : List Nat} {v : Nat}, v ∈ vs → ((wipe σ vs)[v]? = none ∨ (wipe σ vs)[v]? = some none) := fun {vs v} hv => by
  cases hx : (wipe σ vs)[v]? with
  | none => exact .inl rfl
  | some o =>
    cases o with
    | none => exact .inr rfl
    | some y => exact absurd hv (wipe_some hx).2
theorem wipe_wipe {σ : L2.St} {vs : List Nat} : ∀ {ws : List Nat}, (∀ v ∈ ws, v ∈ vs) → wipe (wipe σ vs) ws = wipe σ vs
  | [], _ => rfl
  | v :: ws, h => by
    show (wipe (wipe σ vs) ws).set v none = wipe σ vs
    rw [wipe_wipe fun z hz => h z (List.mem_cons_of_mem _ hz)]
    apply List.ext_getElem?
    intro j
    by_cases z : v = j
    · subst z
      have lt := wipe_none (σ := σ) (h v List.mem_cons_self)
      rw [List.getElem?_set_self']
      rcases lt with e | e <;> rw [e] <;> rfl
    · rw [List.getElem?_set_ne z]
def dLc (mu : Bool) (di : DTI) (g : DTG) (tt : DTT) (te : DTE) (vs : List Nat) : DTE := fun τ M Q => di τ M fun items ok M1 => ∀ p, M1 p = none → lcR ok g tt te (wipeD τ vs) p items [] M1 (lcEnd mu p Q)
/-- a comprehension over what is walked, once that has come -/
def LcGo (J : It) (g : TG) (tt : TT) (te : TE) (vs : List Nat) (σ : L2.St) (H1 : Hp) (Q : VK) (D : Addr) : Prop := ∃ W : Nat → Nat → Hp → Prop, (∃ m, W 0 m (upd H1 D (.lst []))) ∧ ∀ i m H, W i m H →
  (J.stop i H ∧ Q (.ref D) H) ∨ (J.go i H ∧ ∃ Nx : Hp → Prop, (∀ H', Nx H' → ∃ m', m' < m ∧ W (i + 1) m' H') ∧ ∀ x H', J.yld i H x H' → g x (wipe σ vs) H' fun σ2 H2 => wipe σ2 vs = wipe σ vs ∧ tt σ2 H2 fun b H3 =>
    if b = true then te σ2 H3 fun y H4 => ∃ acc, H4 D = some (.lst acc) ∧ acc.length < sizeLine ∧ Nx (upd H4 D (.lst (acc ++ [y]))) else Nx H3)
theorem lcBody {K : PySem.W.Frag} {O : Org} {mu : Bool} {g : TG} {dg : DTG} {tt : DTT} {te : DTE} {vs : List Nat} (hr : RefG K O vs g dg) {σ : L2.St} {H : Hp} {M : DHp} {τ : DSt} {Q : VK} {Q' : DVK} (b : Beg K O H M τ σ) (P : Post K H M Q' Q)
    {items : List D} {ok : DHp → Prop} {M1 : DHp} {H1 : Hp} {J : It} (f : Fr H M H1 M1) (a : AbH K H1 M1) (io : ItOk K J items ok H1 M1) {p : Addr} (np : H1 p = none) (q : M1 p = none → lcR ok dg tt te (wipeD τ vs) p items [] M1 (lcEnd mu p Q')) : LcGo J g (liftT K O tt) (liftE K O te) vs σ H1 Q p := by
    have np1 := a.fresh np
    have q := q np1
    refine ⟨fun i m H' => ∃ M' acc, m = items.length - i ∧ i ≤ items.length ∧ acc.length ≤ i ∧ M' p = none ∧ Fr H1 M1 H' (up M' p (.lst acc)) ∧ AbH K H' (up M' p (.lst acc)) ∧ lcR ok dg tt te (wipeD τ vs) p (items.drop i) acc M' (lcEnd mu p Q'), ⟨items.length, M1, [], by omega, Nat.zero_le _, Nat.le_refl _, np1, Fr.newT np, a.newT np ⟨[], upd_same, rfl⟩, q⟩, ?_⟩
    rintro i m H' ⟨M', acc, rfl, hi, hacc, n', f', a', w⟩
    have sσ : AbS K H' (up M' p (.lst acc)) (wipeD τ vs) (wipe σ vs) := (b.s.fr (f.trans f')).wipe vs
    have fO : Fr O.H O.M H' (up M' p (.lst acc)) := b.fr.trans (f.trans f')
    by_cases hl : i < items.length
    · have e := drop_cons (List.getElem?_eq_getElem hl)
      rw [e] at w
      obtain ⟨o, w⟩ := w
      refine .inr ⟨io.go i H' _ f' a' o hl, fun H2 => ∃ M2 acc2, i + 1 ≤ items.length ∧ acc2.length ≤ i + 1 ∧ M2 p = none ∧ Fr H1 M1 H2 (up M2 p (.lst acc2)) ∧ AbH K H2 (up M2 p (.lst acc2)) ∧ lcR ok dg tt te (wipeD τ vs) p (items.drop (i + 1)) acc2 M2 _, fun H2 ⟨M2, acc2, h1, h2, h3, h4, h5, h6⟩ => ⟨items.length - (i + 1), by omega, M2, acc2, rfl, h1, h2, h3, h4, h5, h6⟩, fun x H2 y => ?_⟩
      obtain ⟨f2, a2, d, ed, hd⟩ := io.yld i H' _ x H2 f' a' o hl y
      rw [List.getElem?_eq_getElem hl] at ed
      cases ed
      refine hr x _ _ H2 (wipeD τ vs) _ _ _ ⟨fO.trans f2, sσ.fr f2, a2⟩ hd w fun τ3 M3 σ3 H3 q3 f3 a3 s3 w3 => ?_
      have ew : wipe (wipe σ vs) vs = wipe σ vs := wipe_wipe fun _ h => h
      refine ⟨w3.trans ew, ?_⟩
      have b3 : Beg K O H3 M3 τ3 σ3 := ⟨(fO.trans f2).trans f3, s3, a3⟩
      refine ⟨τ3, M3, _, b3, q3, fun k M4 H4 q4 f4 a4 => ?_⟩
      cases k with
      | true =>
        rw [if_pos rfl]
        refine ⟨τ3, M4, _, b3.step f4 a4, q4, fun y M5 v H5 q5 f5 a5 h5 => ?_⟩
        obtain ⟨M6, z1, z2, z3⟩ := q5
        have a6 := a5.less z1
        obtain ⟨accv, e1, r1⟩ := a6 p _ up_same
        have h6 : Has K H5 (up M6 p (.lst acc)) y v := h5.fr ((Fr.refl H5 M5).less z1)
        have fr6 : Fr H1 M1 H5 (up M6 p (.lst acc)) := (f'.trans (f2.trans (f3.trans (f4.trans f5)))).less z1
        have fp : Fr H5 (up M6 p (.lst acc)) (upd H5 p (.lst (accv ++ [v]))) (up M6 p (.lst (acc ++ [y]))) := by
          have := Fr.put (H := H5) (M := up M6 p (.lst acc)) (p := p) (o := .lst (accv ++ [v])) (u := .lst (acc ++ [y])) up_same
          rw [up_up] at this
          exact this
        have ap : AbH K (upd H5 p (.lst (accv ++ [v]))) (up M6 p (.lst (acc ++ [y]))) := by
          have := AbH.put (p := p) (o := .lst (accv ++ [v])) (u := .lst (acc ++ [y])) a6 up_same (by rw [up_up]; exact ⟨accv ++ [v], upd_same, (r1.fr fp).app (HasL.one (h6.fr fp))⟩)
          rw [up_up] at this
          exact this
        have l1 : accv.length = acc.length := r1.len
        refine ⟨accv, e1, ?_, M6, acc ++ [y], hl, by rw [List.length_append]; exact Nat.add_le_add_right hacc 1, z2, fr6.trans fp, ap, z3⟩
        exact Nat.lt_of_le_of_lt (by rw [l1]; exact hacc) (Nat.lt_of_lt_of_le hl io.small)
      | false =>
        rw [if_neg Bool.false_ne_true]
        obtain ⟨M6, z1, z2, z3⟩ := q4
        exact ⟨M6, acc, hl, Nat.le_succ_of_le hacc, z2, (f'.trans (f2.trans (f3.trans f4))).less z1, a4.less z1, z3⟩
    · have ei : i = items.length := by omega
      subst ei
      rw [List.drop_length] at w
      obtain ⟨o, w⟩ := w
      refine .inl ⟨io.stop H' _ f' a' o, ?_⟩
      obtain ⟨accv, e1, r1⟩ := a' p _ up_same
      have sm : Sub M' (up M' p (.lst acc)) := (Sub.refl M').up n'
      cases mu with
      | false => exact P _ M' _ H' w ((f.trans f').less sm) (a'.less sm) ⟨p, accv, rfl, n', e1, r1.fr ((Fr.refl H' _).less sm)⟩
      | true => exact P _ _ _ H' w (f.trans f') a' rfl
theorem liftLc {K : PySem.W.Frag} {O : Org} {mu : Bool} {di : DTI} {g : TG} {dg : DTG} {tt : DTT} {te : DTE} {vs : List Nat} (hr : RefG K O vs g dg) : ∀ σ H Q, liftE K O (dLc mu di dg tt te vs) σ H Q → tLc (liftI K O di) g (liftT K O tt) (liftE K O te) vs σ H Q := fun σ H Q ⟨τ, M, Q', b, t, P⟩ =>
  ⟨τ, M, _, b, t, fun items ok M1 H1 J q f a io p np => lcBody hr b P f a io np (q p)⟩
section
variable {X : Cx} {O : Org} {pos : Pos}
abbrev DTs (X : Cx) (O : Org) (ifs : List Expr) (t : DTT) : Prop := PTs X ifs (liftT X.K O t)
theorem _root_.L2.PTs.wk {ifs : List Expr} {t t' : TT} (h : PTs X ifs t) (i : ∀ σ H Q, t' σ H Q → t σ H Q) : PTs X ifs t' := ⟨fun pins s σ H Q I q => h.run pins s σ H Q I (i σ H Q q)⟩
def dYes : DTT := fun _ M Q => Q true M
theorem dts_nil : DTs X O [] dYes := (pts_nil (X := X)).wk fun σ H Q ⟨τ, M, Q', b, t, p⟩ => p true M H t (Fr.refl H M) b.h
theorem de_lc {elt tg iter : Expr} {ifs : List Expr} {scope : Scope} {own : List (Str × Nat)} {di : DTI} {g : TG} {dg : DTG} {tt : DTT} {te : DTE} (mu : Bool) (hc : X.calm = true) (hN : X.N.Nodup) (hi : DI X O tg iter di) (ok : BlkOk X.N X.env.scope scope own)
    (hg : ∀ (s : Shared) (H : Hp) (C : Addr) (cl : List (Str × Addr)) (fp : List Addr), PG (X.blk s H scope (compEnvC scope cl C X.env) fp) tg g) (hr : RefG X.K O (own.map (·.2)) g dg) (ht : ∀ (s : Shared) (H : Hp) (C : Addr) (cl : List (Str × Addr)) (fp : List Addr), DTs (X.blk s H scope (compEnvC scope cl C X.env) fp) O ifs tt)
    (he : ∀ (s : Shared) (H : Hp) (C : Addr) (cl : List (Str × Addr)) (fp : List Addr), DE (X.blk s H scope (compEnvC scope cl C X.env) fp) O elt te) (hs : ∀ x, foldedSetIterable iter X.env x = pure x := by intro _; rfl) :
    DE X O (.ListComp elt [⟨tg, iter, ifs, 0⟩] scope pos) (dLc mu di dg tt te (own.map (·.2))) := PE.wk (pe_lc hc hN hi ok hg ht he hs) (liftLc hr)
end
/-- a comprehension whose element is a plain function of the item -/
theorem lcR_pure {g : DTG} {tt : DTT} {te : DTE} {τ : DSt} {p : Addr} {f : D → Option D} {ok : DHp → Prop} {Q : List D → DHp → Prop} : ∀ {items acc : List D} {M : DHp}, (∀ acc, ok (up M p (.lst acc))) → M p = none → (∀ x ∈ items, ∀ acc (R : Option D → DHp → Prop), R (f x) (up M p (.lst acc)) → lcTurn g tt te x τ (up M p (.lst acc)) R) → Q (acc ++ items.filterMap f) M → lcR ok g tt te τ p items acc M Q
  | [], acc, M, o, _, _, q => ⟨o acc, by rw [List.filterMap_nil, List.append_nil] at q; exact q⟩
  | x :: xs, acc, M, o, n, h, q => by
    refine ⟨o acc, h x List.mem_cons_self acc _ ⟨M, Sub.refl _, n, lcR_pure o n (fun y hy => h y (List.mem_cons_of_mem _ hy)) ?_⟩⟩
    rw [List.filterMap_cons] at q
    cases e : f x with
    | none => rw [e] at q; exact q
    | some y => rw [e] at q; show Q ((acc ++ [y]) ++ _) M; rw [List.append_assoc]; exact q
theorem lcR_map {g : DTG} {te : DTE} {τ : DSt} {p : Addr} {f : D → D} {ok : DHp → Prop} {Q : List D → DHp → Prop} {items acc : List D} {M : DHp} (o : ∀ acc, ok (up M p (.lst acc))) (n : M p = none) (h : ∀ x ∈ items, ∀ acc (R : D → DHp → Prop), R (f x) (up M p (.lst acc)) → g x τ (up M p (.lst acc)) fun τ2 M2 => te τ2 M2 R) (q : Q (acc ++ items.map f) M) : lcR ok g dYes te τ p items acc M Q := by
  refine lcR_pure (f := fun x => some (f x)) o n (fun x hx acc R r => h x hx acc (fun y M4 => R (some y) M4) r) ?_
  rw [show (fun x => some (f x)) = some ∘ f from rfl, List.filterMap_eq_map]
  exact q
end Rh
/-! DL8: defs, their promises over data; calls; objects. -/
namespace Rh
open PySem PySem.Spec PyProof.Rows L2

/-- nothing comes out -/
theorem passN {X : Cx} : Passes (L2N.CX X.prog X.w) X E0 := fun _ _ _ _ _ _ _ h => by
  obtain ⟨_, _, _, _, _, _, _, _, _, _, _, _, z⟩ := h
  exact z.elim
/-! ### promises -/
/-- what is wanted of an exception: its class, its fields -/
abbrev DXK := Addr → List Str → List D → DHp → Prop
abbrev DWX := Addr → List Str → List D → DSt → DHp → Prop
abbrev DSp := List D → DHp → DVK → DXK → Prop
abbrev noX : DXK := fun _ _ _ _ => False
def XdIs (K : PySem.W.Frag) (H : Hp) (M : DHp) (ns : List Str) (ds : List D) : Option Addr → Prop
  | none => ns = [] ∧ ds = []
  | some dx => ∃ vs, H dx = some (.xd (ns.zip vs)) ∧ M dx = none ∧ ns.length = ds.length ∧ HasL K H M ds vs
theorem XdIs.fr {K : PySem.W.Frag} {H H' : Hp} {M M' : DHp} {ns : List Str} {ds : List D} {d : Option Addr} (f : Fr H M H' M') (h : XdIs K H M ns ds d) : XdIs K H' M' ns ds d := by
  cases d with
  | none => exact h
  | some dx =>
    obtain ⟨vs, e, n, l, r⟩ := h
    exact ⟨vs, f.eq _ _ e n, f.un _ _ e n, l, r.fr f⟩
def PostX (K : PySem.W.Frag) (H : Hp) (M : DHp) (E' : DXK) (E : XK) : Prop := ∀ C ns ds M' d H', E' C ns ds M' → Fr H M H' M' → AbH K H' M' → XdIs K H' M' ns ds d → E (.ref C) d H'
theorem PostX.no {K : PySem.W.Frag} {H : Hp} {M : DHp} {E : XK} : PostX K H M noX E := fun _ _ _ _ _ _ h => h.elim
def liftSp (K : PySem.W.Frag) (sp : DSp) : Sp := fun vs H Q E => ∃ (ds : List D) (M : DHp) (Q' : DVK) (E' : DXK), AbH K H M ∧ HasL K H M ds vs ∧ sp ds M Q' E' ∧ Post K H M Q' Q ∧ PostX K H M E' E
def liftW (K : PySem.W.Frag) (O : Org) (W : DWX) : WX := fun cls d σ H => ∃ C ns ds τ M, cls = .ref C ∧ Beg K O H M τ σ ∧ XdIs K H M ns ds d ∧ W C ns ds τ M
def startD (N : List Str) (ds : List D) : DSt := ds.map some ++ List.replicate (N.length - ds.length) none
theorem start_has {K : PySem.W.Frag} {H : Hp} {M : DHp} {ds : List D} {vs : List V} (r : HasL K H M ds vs) (N : List Str) : AbS K H M (startD N ds) (L2.start N vs) := by
  unfold startD L2.start
  rw [r.len]
  refine ⟨by simp [r.len], fun i d e => ?_⟩
  by_cases h : i < ds.length
  · rw [List.getElem?_append_left (by simpa using h), List.getElem?_map] at e
    cases q : ds[i]? with
    | none => rw [q] at e; cases e
    | some d' =>
      rw [q] at e
      have e' : d' = d := by simpa using e
      subst e'
      obtain ⟨v, hv, hh⟩ := r.get q
      exact ⟨v, by rw [List.getElem?_append_left (by rw [List.length_map, r.len]; exact h), List.getElem?_map, hv]; rfl, hh⟩
  · rw [List.getElem?_append_right (by simpa using h), List.getElem?_replicate] at e
    split at e <;> cases e
/-- a def's end: what is new and told no more falls away -/
def fnEnds (Q : DVK) : DEnds := ⟨fun _ M' => ∃ M2, Sub M2 M' ∧ Q .non M2, fun d M' => ∃ M2, Sub M2 M' ∧ Q d M2⟩
def fnW (E : DXK) : DWX := fun C ns ds _ M' => ∃ M2, Sub M2 M' ∧ E C ns ds M2
section
variable {P : Program} {w : World} {K : PySem.W.Frag} {mg : Str → Option Value} {base : Heap}
abbrev DFn (P : Program) (w : World) (K : PySem.W.Frag) (mg : Str → Option Value) (base : Heap) (k : Nat) (f : Addr) (fd : FuncData) (ps : List Str) (sp : DSp) : Prop := FnOk P w K mg base (L2N.CX P w) k f fd ps (liftSp K sp)
end

/-! ### calls -/
/-- the values of written defaults -/
def constL : List D → Option (List V)
  | [] => some []
  | d :: ds => match cV d, constL ds with
    | some v, some vs => some (v :: vs)
    | _, _ => none
theorem constL_has {K : PySem.W.Frag} {H : Hp} {M : DHp} : ∀ {ds : List D} {vs : List V}, constL ds = some vs → HasL K H M ds vs
  | [], _, h => by cases h; rfl
  | d :: ds, _, h => by
    unfold constL at h
    split at h
    · rename_i v vs h1 h2
      cases h
      exact ⟨v, vs, rfl, cV_has h1, constL_has h2⟩
    · cases h
section
variable {X : Cx} {O : Org} {x : Str} {p pos : Pos} {e : Expr} {es : List Expr} {k : Nat} {f : Addr} {fd : FuncData} {ps : List Str} {sp : DSp} {dds : List D} {dvs : List V} {dus : List Value} {ts : List DTE}
end

/-! ### objects -/
/-- the field f -/
def look (f : Str) : List Str → List D → Option D
  | n :: ns, d :: ds => if f = n then some d else look f ns ds
  | _, _ => none
theorem look_at {K : PySem.W.Frag} {H : Hp} {M : DHp} {f : Str} {d : D} : ∀ {ns : List Str} {ds : List D} {vs : List V}, HasL K H M ds vs → look f ns ds = some d → ∃ v, (ns.zip vs).lookup f = some v ∧ Has K H M d v
  | [], _, _, _, e => by cases e
  | n :: ns, [], _, _, e => by cases e
  | n :: ns, d' :: ds, _, r, e => by
    obtain ⟨v, vs, rfl, h1, h2⟩ := r
    unfold look at e
    show ∃ v_1, List.lookup f ((n, v) :: ns.zip vs) = some v_1 ∧ _
    by_cases z : f = n
    · rw [if_pos z] at e
      cases e
      exact ⟨v, by simp [List.lookup, z], h1⟩
    · rw [if_neg z] at e
      obtain ⟨w, e2, h⟩ := look_at h2 e
      have zz : (f == n) = false := by simpa using z
      exact ⟨w, by simp [List.lookup, zz]; exact e2, h⟩
/-- the class and the fields of an object -/
def insOf (x : D) (M : DHp) : Option (Addr × List Str × List D) := match x with
  | .obj C ns ds => some (C, ns, ds)
  | .ref a => (match M a with
    | some (.ins C ns ds) => some (C, ns, ds)
    | _ => none)
  | _ => none
theorem insOf_at {K : PySem.W.Frag} {H : Hp} {M : DHp} {x : D} {v : V} {C : Addr} {ns : List Str} {ds : List D} (A : AbH K H M) (h : Has K H M x v) (e : insOf x M = some (C, ns, ds)) : ∃ a dx vs, v = .ref a ∧ H a = some (.ins C dx (ns.zip vs)) ∧ ns.length = ds.length ∧ HasL K H M ds vs := by
  cases x with
  | obj C' ns' ds' =>
    cases e
    obtain ⟨a, dx, vs, e1, _, e2, l, r⟩ := h
    exact ⟨a, dx, vs, e1, e2, l, r⟩
  | ref a =>
    cases q : M a with
    | none => simp only [insOf, q] at e; cases e
    | some o =>
      cases o with
      | ins C' ns' ds' =>
        simp only [insOf, q] at e
        cases e
        obtain ⟨dx, vs, e2, l, r⟩ := A a _ q
        exact ⟨a, dx, vs, h, e2, l, r⟩
      | _ => simp only [insOf, q] at e; cases e
  | _ => cases e
/-- x.f, a field; the class is one that PC tells of -/
def dFld (PC : Addr → Prop) (f : Str) (ta : DTE) : DTE := fun τ M Q => ta τ M fun x M1 => wth (insOf x M1) fun c => PC c.1 ∧ wth (look f c.2.1 c.2.2) fun d => Q d M1
section
variable {X : Cx} {O : Org} {pos p : Pos} {e o : Expr} {ta te : DTE} {PC : Addr → Prop} {f : Str}
theorem de_fld (h : ∀ C, PC C → Cls X.K C ∧ NoAttr X.K C f) (he : DE X O e ta) (hb : attributeBase e f X.env (eval e X.env) = eval e X.env := by rfl) : DE X O (.Attribute e f pos) (dFld PC f ta) := PE.wk (pe_fld he hb) fun σ H Q ⟨τ, M, Q', b, t, P⟩ =>
  ⟨τ, M, _, b, t, fun d M1 x H1 q f a hx => by
    obtain ⟨⟨C, ns, ds⟩, e1, pc, q⟩ := wth_of q
    obtain ⟨d2, e2, q⟩ := wth_of q
    obtain ⟨ad, dx, vs, rfl, e3, l, r⟩ := insOf_at a hx e1
    obtain ⟨v, e4, hv⟩ := look_at r e2
    exact ⟨ad, C, dx, _, v, rfl, e3, (h C pc).1, (h C pc).2, e4, P _ M1 _ H1 q f a hv⟩⟩
/-- o.f = e -/
def putN (f : Str) (d : D) : List Str → List D → List Str × List D
  | n :: ns, x :: xs => if n = f then (n :: ns, d :: xs) else let r := putN f d ns xs; (n :: r.1, x :: r.2)
  | _, _ => ([f], [d])
theorem putN_at {K : PySem.W.Frag} {H : Hp} {M : DHp} {f : Str} {d : D} {v : V} (h : Has K H M d v) : ∀ {ns : List Str} {ds : List D} {vs : List V}, ns.length = ds.length → HasL K H M ds vs →
    ∃ ws, putF f v (ns.zip vs) = (putN f d ns ds).1.zip ws ∧ (putN f d ns ds).1.length = (putN f d ns ds).2.length ∧ HasL K H M (putN f d ns ds).2 ws
  | [], [], _, _, r => by
    rw [show _ = ([] : List V) from r]
    exact ⟨[v], rfl, rfl, HasL.one h⟩
  | n :: ns, [], _, l, _ => by cases l
  | [], _ :: _, _, l, _ => by cases l
  | n :: ns, x :: xs, _, l, r => by
    obtain ⟨y, ys, rfl, h1, h2⟩ := r
    unfold putN
    by_cases z : n = f
    · rw [if_pos z]
      exact ⟨v :: ys, by show putF f v ((n, y) :: ns.zip ys) = _; unfold putF; rw [if_pos z] <;> rfl, l, ⟨v, ys, rfl, h, h2⟩⟩
    · rw [if_neg z]
      obtain ⟨ws, e, l2, r2⟩ := putN_at h (Nat.succ.inj l) h2
      exact ⟨y :: ws, by show putF f v ((n, y) :: ns.zip ys) = _; unfold putF; rw [if_neg z, e] <;> rfl, by show _ + 1 = _ + 1; rw [l2], ⟨y, ws, rfl, h1, r2⟩⟩
def sFldD (PC : Addr → Prop) (f : Str) (ta te : DTE) : DTS := fun E τ M => te τ M fun y M1 => ta τ M1 fun x M2 => match x with
  | .ref a => wth (M2 a) fun o => (match o with
    | .ins C ns ds => PC C ∧ ns.length ≤ 900 ∧ E.nx τ (up M2 a (.ins C (putN f y ns ds).1 (putN f y ns ds).2))
    | _ => False)
  | _ => False
theorem ds_fld (h : ∀ C, PC C → Cls X.K C ∧ NoAttr X.K C f) (ho : DE X O o ta) (he : DE X O e te) (hs : swapsWith e (some (.Attribute o f p)) pos.line X.env = pure false := by rfl) : DS X O (.Assign [.Attribute o f p] e pos) (sFldD PC f ta te) := PS.wk (ps_fld ho he hs) fun D σ H ⟨τ, M, E, b, t, pn, pr⟩ =>
  ⟨τ, M, _, b, t, fun d M1 v H1 q f1 a1 hv => ⟨τ, M1, _, b.step f1 a1, q, fun d2 M2 x H2 q2 f2 a2 hx => by
    cases d2 <;> first | exact q2.elim | skip
    rename_i ad
    obtain ⟨o, eo, q2⟩ := wth_of q2
    cases o <;> first | exact q2.elim | skip
    rename_i C ns ds
    obtain ⟨pc, ln, q2⟩ := q2
    obtain ⟨dx, vs, e3, l, r⟩ := a2 ad _ eo
    have z := hv.fr f2
    obtain ⟨ws, e4, l4, r4⟩ := putN_at (f := f) z l r
    refine ⟨ad, C, dx, _, hx, e3, (h C pc).1, (h C pc).2, by rw [List.length_zip]; omega, ?_⟩
    refine pn τ _ σ _ q2 (f1.trans (f2.trans (Fr.put eo))) (a2.put eo ⟨dx, ws, by rw [upd_same, e4], l4, r4.fr (Fr.put eo)⟩) (b.s.fr (f1.trans (f2.trans (Fr.put eo))))⟩⟩
variable {x m : Str} {es : List Expr} {k : Nat} {g : Addr} {fd : FuncData} {ps : List Str} {sp : DSp} {dds : List D} {dvs : List V} {dus : List Value} {ts : List DTE} {C : Addr} {apos : Pos}
end
end Rh
/-! DL9: defs that are called where no repr is under way (the guards are known), repr of data, a law's end. -/
namespace Rh
open PySem PySem.Spec PyProof.Rows L2

/-- as FnOk, for callers that know the guards -/
structure FnG (P : Program) (w : World) (K : PySem.W.Frag) (mg : Str → Option Value) (base : Heap) (C : CXT) (k : Nat) (f : Addr) (fd : FuncData) (ps : List Str) (sp : Sp) : Prop where
  len : ∀ vs H Q E, sp vs H Q E → vs.length = ps.length
  run : ∀ (A : Around) (out : List Env) (s : Shared) (H : Hp) (as : Args) (us : List Value) (vs : List V) (Q : VK) (E : XK),
    A.guards = some [] → Room k A → Env0 P w K mg base A out s H → BindsTo s fd as (ps.zip us) → Vals vs us → sp vs H Q E →
      codeAny (model P w) A (.call (.ref f) as) (CR C out P w H s Q E) s
section
variable {P : Program} {w : World} {K : PySem.W.Frag} {mg : Str → Option Value} {base : Heap}
theorem FnG.of {C : CXT} {k : Nat} {f : Addr} {fd : FuncData} {ps : List Str} {sp : Sp} (F : FnOk P w K mg base C k f fd ps sp) : FnG P w K mg base C k f fd ps sp :=
  ⟨F.len, fun A out s H as us vs Q E _ hr => F.run A out s H as us vs Q E hr⟩
theorem FnG.mono {C : CXT} {j k : Nat} {f : Addr} {fd : FuncData} {ps : List Str} {sp : Sp} (F : FnG P w K mg base C j f fd ps sp) (h : j ≤ k) : FnG P w K mg base C k f fd ps sp :=
  ⟨F.len, fun A out s H as us vs Q E g hr => F.run A out s H as us vs Q E g (hr.mono h)⟩
/-- the body's end is the call's end -/
theorem flow_end {X : Cx} {out : List Env} {s s' : Shared} {H : Hp} {Q : VK} {E : XK} {C : CXT} {fl : Flow} (ho : X.outer = out) (hp : X.prog = P) (hw : X.w = w) (hs : X.s_0 = s) (hH : X.H_0 = H) (hx : X.ex = [])
    (h : SP X [] { nx := fun _ H' => Q .non H', rt := Q } fl s') : CR C out P w H s Q E (match fl with
      | .ret u => .ok (.ret u)
      | _ => .ok (.ret .none)) s' := by
  subst ho hp hw hs hH
  cases fl with
  | ret u =>
    obtain ⟨v, σ', H', J, rv, q⟩ := h
    exact ⟨v, H', J.os, J.bare, by have := J.base; rw [hx] at this; exact this, J.hok, rv, q⟩
  | next =>
    obtain ⟨σ', H', J, q⟩ := h
    exact ⟨.non, H', J.os, J.bare, by have := J.base; rw [hx] at this; exact this, J.hok, rfl, q⟩
  | brk => obtain ⟨_, _, _, q⟩ := h; exact q.elim
  | cont => obtain ⟨_, _, _, q⟩ := h; exact q.elim
theorem FnG.mk_ {C : CXT} {x qual : Str} {params : Arguments} {body : List Stmt} {scope : Scope} {dvs : List V} {kws : List (Str × V)} {f : Addr} {fd : FuncData} {N ps : List Str} {k : Nat} {sp : Sp} (F : FunD K x qual params body scope dvs kws f fd) (S : FnScope N ps scope) (len : ∀ vs H Q E, sp vs H Q E → vs.length = ps.length)
    (hbody : ∀ (cdv : Value) (A : Around) (out : List Env) (s : Shared) (H : Hp) (vs : List V) (Q : VK) (E : XK), A.guards = some [] → Room k (A.deeper (envOfC qual scope s.heap.objs.size f cdv)) → sp vs H Q E →
      ∃ t, PSs (cxOf C P w K mg base N qual scope f cdv A out s H E) body t ∧ t { nx := fun _ H' => Q .non H', rt := Q } (L2.start N vs) H) : FnG P w K mg base C (k + 1) f fd ps sp := by
  obtain ⟨oc, od, dV, kV, doc, pm, an, cdv, ct, osl, rfl, lk, hcd, _, _⟩ := F.ex
  refine ⟨len, fun A out s H as us vs Q E hG hr e0 hb r hsp => ?_⟩
  have KX : K.In s.heap := e0.mod.kin.keeps fun b o e => (e0.bs b o e).1
  have lim : s.heap.NoLimit := e0.mod.nolimit.keeps fun b o e => (e0.bs b o e).1
  have loc : ∀ y ∈ ps.zip us, scope.names.lookup y.1 = some .local ∨ (scope.names.lookup y.1 = some .cell ∧ ((cellsFrom (s.heap.objs.size + 1) scope.names []).lookup y.1).isSome = true) := by
    rintro ⟨n, v⟩ hy
    exact (S.par n (List.of_mem_zip hy).1).imp id fun q => ⟨q, PySem.W.cellsFrom_some _ _ _ (.inl q)⟩
  refine codeAny_call_function hr.depth (KX _ _ lk) rfl S.co S.gen rfl (PySem.W.codeRec_of KX hcd) (hb _ _ _ _ ?_)
  refine wpAny_newFunctionEnv_cells S.kind loc fun env he s1 x => ?_
  subst he
  refine ⟨lim.keeps x.toInCall.keep, codeAny_func ?_⟩
  obtain ⟨t, ht, hq⟩ := hbody cdv A out s H vs Q E hG (hr.deeper _) hsp
  refine wpAny_mono (ht.run [] s1 (L2.start N vs) H _ (inv_start S hr.hd e0 (len _ _ _ _ hsp) r x) hq) (fun fl s' hs => ?_) fun e s' hs => hs
  have z := flow_end (P := P) (w := w) (C := C) (E := E) rfl rfl rfl rfl rfl rfl hs
  cases fl with
  | ret u => exact z
  | next => exact z
  | brk => obtain ⟨_, _, _, q⟩ := hs; exact q.elim
  | cont => obtain ⟨_, _, _, q⟩ := hs; exact q.elim
abbrev DFnG (P : Program) (w : World) (K : PySem.W.Frag) (mg : Str → Option Value) (base : Heap) (k : Nat) (f : Addr) (fd : FuncData) (ps : List Str) (sp : DSp) : Prop := FnG P w K mg base (L2N.CX P w) k f fd ps (liftSp K sp)
theorem dfnG_ok {x qual : Str} {params : Arguments} {body : List Stmt} {scope : Scope} {dvs : List V} {kws : List (Str × V)} {f : Addr} {fd : FuncData} {N ps : List Str} {k : Nat} {sp : DSp} (F : FunD K x qual params body scope dvs kws f fd) (S : FnScope N ps scope) (len : ∀ ds M Q E, sp ds M Q E → ds.length = ps.length)
    (hbody : ∀ (cdv : Value) (A : Around) (outer : List Env) (s : Shared) (H : Hp) (E : XK) (O : Org) (W : DWX), A.guards = some [] → Room k (A.deeper (envOfC qual scope s.heap.objs.size f cdv)) →
      L2N.Takes (cxOf (L2N.CX P w) P w K mg base N qual scope f cdv A outer s H E) (liftW K O W) →
      ∃ t : DTS, DSs (cxOf (L2N.CX P w) P w K mg base N qual scope f cdv A outer s H E) O body t ∧ ∀ ds M Q E', sp ds M Q E' → W = fnW E' → t (fnEnds Q) (startD N ds) M) :
    DFnG P w K mg base (k + 1) f fd ps sp := by
  refine FnG.mk_ F S (fun vs H Q E h => ?_) (fun cdv A outer s H vs Q E hG hr h => ?_)
  · obtain ⟨ds, M, Q', E', _, r, q, _⟩ := h
    rw [r.len]; exact len _ _ _ _ q
  · obtain ⟨ds, M, Q', E', ah, r, q, p, px⟩ := h
    have tk0 : L2N.Takes (cxOf (L2N.CX P w) P w K mg base N qual scope f cdv A outer s H E) (fun cls d _ H => E cls d H) := L2N.takes_of rfl rfl rfl rfl
    have tk : L2N.Takes (cxOf (L2N.CX P w) P w K mg base N qual scope f cdv A outer s H E) (liftW K ⟨H, M⟩ (fnW E')) := tk0.imp fun c d σ H1 hw => by
      obtain ⟨C, ns, es, τ, M1, rfl, b, x, M2, z, y⟩ := hw
      exact px C ns es M2 d H1 y (b.fr.less z) (b.h.less z) (x.fr ((Fr.refl H1 M1).less z))
    obtain ⟨t, ht, hp⟩ := hbody cdv A outer s H E ⟨H, M⟩ (fnW E') hG hr tk
    refine ⟨_, ht, startD N ds, M, fnEnds Q', ⟨Fr.refl _ _, start_has r N, ah⟩, hp ds M Q' E' q rfl, fun τ M1 σ H1 q1 f1 a1 _ => ?_, fun d M1 v H1 q1 f1 a1 h1 => ?_⟩
    · obtain ⟨M2, z, q1⟩ := q1
      exact p _ M2 _ H1 q1 (f1.less z) (a1.less z) rfl
    · obtain ⟨M2, z, q1⟩ := q1
      exact p _ M2 _ H1 q1 (f1.less z) (a1.less z) (h1.fr ((Fr.refl H1 M1).less z))
end
section
variable {X : Cx} {O : Org} {x : Str} {p pos : Pos} {e : Expr} {es : List Expr} {k : Nat} {f : Addr} {fd : FuncData} {ps : List Str} {sp : Sp} {t : TA} {dus : List Value} {dvs : List V} {E : XK} {C : CXT}
/-! ### repr of data -/
def rRepr (K : PySem.W.Frag) : R1 := fun xs H Q => ∃ x d, xs = [x] ∧ Dp K H x d ∧ d.showable = true ∧ d.hasDict = false ∧ d.depth ≤ 60 ∧ d.shown.length ≤ sizeLine ∧ Q (.str d.shown) H
theorem call_reprD {k : Nat} (hG : X.A.guards = some []) (hr : Room k X.A) : CallR X (.builtin "repr") (rRepr X.K) := by
  intro pins s σ H xs us Q I r h
  obtain ⟨x, d, rfl, dp, h1, h2, h3, h4, q⟩ := h
  obtain ⟨u, rfl, ru⟩ := vals1 r
  have fin : ∀ tk t, EP X pins σ Q (.str d.shown t) { s with toks := tk } := fun tk t => ⟨.str d.shown, H, I.tok tk, ⟨t, rfl⟩, q⟩
  have ref : ∀ a, u = .ref a → wpAny (model X.prog X.w) X.A (call (.builtin "repr") [u]) (EP X pins σ Q) X.xe s := fun a e => by
    obtain ⟨as, rd⟩ := Dp.reads I d x u dp ru
    subst e
    refine repr_of_reads' rd h1 (fun z => by rw [h2] at z; cases z) hG (by have := hr.un; omega) (fun _ _ z => z) (fun h' t tk hk => ?_) h4
    exact ⟨.str d.shown, H, I.kept (t' := tk) hk, ⟨t, rfl⟩, q⟩
  cases dp with
  | non => cases ru; exact PySem.P.repr_of_none (fin _ _)
  | bl b => cases ru; exact PySem.P.repr_of_bool (fin _ _)
  | int i => obtain ⟨t, rfl⟩ := ru; exact PySem.P.repr_of_int (of_decide_eq_true h1) (fin _ _)
  | str y => obtain ⟨t, rfl⟩ := ru; exact PySem.P.repr_of_str (fin _ _) h4
  | lst _ _ => exact ref _ ru
  | tup _ _ => exact ref _ ru
end
end Rh
/-! DL10: built-in functions, methods, stores over data. -/
namespace Rh
open PySem PySem.Spec PyProof.Rows L2

/-! ### lists of ints, of bools, of texts -/
def intsOf : List D → Option (List Int)
  | [] => some []
  | .int i :: ds => (intsOf ds).map (i :: ·)
  | _ :: _ => none
def blsOf : List D → Option (List Bool)
  | [] => some []
  | .bl i :: ds => (blsOf ds).map (i :: ·)
  | _ :: _ => none
def strsOf : List D → Option (List Str)
  | [] => some []
  | .str i :: ds => (strsOf ds).map (i :: ·)
  | _ :: _ => none
theorem intsOf_map : ∀ ns : List Int, intsOf (ns.map D.int) = some ns
  | [] => rfl
  | n :: ns => by show (intsOf (ns.map D.int)).map (n :: ·) = _; rw [intsOf_map ns]; rfl
theorem blsOf_map : ∀ ns : List Bool, blsOf (ns.map D.bl) = some ns
  | [] => rfl
  | n :: ns => by show (blsOf (ns.map D.bl)).map (n :: ·) = _; rw [blsOf_map ns]; rfl
theorem strsOf_map : ∀ ns : List Str, strsOf (ns.map D.str) = some ns
  | [] => rfl
  | n :: ns => by show (strsOf (ns.map D.str)).map (n :: ·) = _; rw [strsOf_map ns]; rfl
section
variable {K : PySem.W.Frag} {H : Hp} {M : DHp}
theorem intsOf_has : ∀ {ds : List D} {vs : List V} {ns : List Int}, HasL K H M ds vs → intsOf ds = some ns → vs = ns.map V.int
  | [], _, _, r, e => by cases e; exact r
  | d :: ds, _, ns, r, e => by
    obtain ⟨v, vs, rfl, h1, h2⟩ := r
    cases d with
    | int i =>
      cases q : intsOf ds with
      | none => simp only [intsOf, q] at e; cases e
      | some ms =>
        simp only [intsOf, q] at e
        cases e
        rw [intsOf_has h2 q, show v = .int i from h1]
        rfl
    | _ => cases e
theorem blsOf_has : ∀ {ds : List D} {vs : List V} {ns : List Bool}, HasL K H M ds vs → blsOf ds = some ns → vs = ns.map V.bl
  | [], _, _, r, e => by cases e; exact r
  | d :: ds, _, ns, r, e => by
    obtain ⟨v, vs, rfl, h1, h2⟩ := r
    cases d with
    | bl i =>
      cases q : blsOf ds with
      | none => simp only [blsOf, q] at e; cases e
      | some ms =>
        simp only [blsOf, q] at e
        cases e
        rw [blsOf_has h2 q, show v = .bl i from h1]
        rfl
    | _ => cases e
theorem strsOf_has : ∀ {ds : List D} {vs : List V} {ns : List Str}, HasL K H M ds vs → strsOf ds = some ns → vs = ns.map V.str
  | [], _, _, r, e => by cases e; exact r
  | d :: ds, _, ns, r, e => by
    obtain ⟨v, vs, rfl, h1, h2⟩ := r
    cases d with
    | str i =>
      cases q : strsOf ds with
      | none => simp only [strsOf, q] at e; cases e
      | some ms =>
        simp only [strsOf, q] at e
        cases e
        rw [strsOf_has h2 q, show v = .str i from h1]
        rfl
    | _ => cases e
theorem hasL1 {d : D} {xs : List V} (h : HasL K H M [d] xs) : ∃ x, xs = [x] ∧ Has K H M d x := by
  obtain ⟨v, r, rfl, h1, h2⟩ := h
  rw [show r = [] from h2]
  exact ⟨v, rfl, h1⟩
theorem hasL2 {d e : D} {xs : List V} (h : HasL K H M [d, e] xs) : ∃ x y, xs = [x, y] ∧ Has K H M d x ∧ Has K H M e y := by
  obtain ⟨v, r, rfl, h1, h2⟩ := h
  obtain ⟨y, rfl, h3⟩ := hasL1 h2
  exact ⟨v, y, rfl, h1, h3⟩
end
/-- a call of one argument -/
def rOne (r : D → DHp → DVK → Prop) : DR := fun ds M Q => match ds with
  | [d] => r d M Q
  | _ => False
def rTwo (r : D → D → DHp → DVK → Prop) : DR := fun ds M Q => match ds with
  | [d, e] => r d e M Q
  | _ => False
theorem ref_one {K : PySem.W.Frag} {r : R1} {r' : D → DHp → DVK → Prop} (h : ∀ (H : Hp) (M : DHp) (x : V) (d : D) (Q : VK) (Q' : DVK), AbH K H M → Has K H M d x → r' d M Q' → Post K H M Q' Q → r [x] H Q) : RefL K r (rOne r') := fun H M xs ds Q Q' A hx t P => by
  match ds, t, hx with
  | [d], t, hx =>
    obtain ⟨x, rfl, h1⟩ := hasL1 hx
    exact h H M x d Q Q' A h1 t P
theorem ref_two {K : PySem.W.Frag} {r : R1} {r' : D → D → DHp → DVK → Prop} (h : ∀ (H : Hp) (M : DHp) (x y : V) (d e : D) (Q : VK) (Q' : DVK), AbH K H M → Has K H M d x → Has K H M e y → r' d e M Q' → Post K H M Q' Q → r [x, y] H Q) : RefL K r (rTwo r') := fun H M xs ds Q Q' A hx t P => by
  match ds, t, hx with
  | [d, e], t, hx =>
    obtain ⟨x, y, rfl, h1, h2⟩ := hasL2 hx
    exact h H M x y d e Q Q' A h1 h2 t P

/-! ### len -/
def lenD (x : D) (M : DHp) : Option Nat := match x with
  | .str y => if y.length ≤ sizeLine then some y.length else none
  | .dic ks _ => some ks.length
  | .ref a => (match M a with
    | some (.lst ds) => some ds.length
    | some (.dK ks _) => some ks.length
    | _ => none)
  | .tup ds => some ds.length
  | .tpl ds => some ds.length
  | .lst ds => some ds.length
  | .scr ns => some ns.length
  | _ => none
def rLenAll (K : PySem.W.Frag) : R1 := fun xs H Q => (∃ x n, xs = [x] ∧ LenV K x H n ∧ Q (.int n) H) ∨ (∃ a kvs, xs = [V.ref a] ∧ H a = some (.dK kvs) ∧ Q (.int kvs.length) H)
theorem len_all {X : Cx} : CallR X (.builtin "len") (rLenAll X.K) := CallR.or call_len call_lenD
theorem ref_len {K : PySem.W.Frag} : RefL K (rLenAll K) (rOne fun d M Q => wth (lenD d M) fun n => Q (.int n) M) := ref_one fun H M x d Q Q' A hx t P => by
  obtain ⟨n, e, q⟩ := wth_of t
  have fin : Q (.int n) H := P.same A q rfl
  have zl : ∀ (ks : List Key) (vs : List V), ks.length = vs.length → (ks.zip vs).length = ks.length := fun ks vs h => by rw [List.length_zip]; omega
  cases d with
  | str y =>
    simp only [lenD] at e
    split at e
    · cases e
      exact .inl ⟨x, _, rfl, by rw [show x = _ from hx]; exact ⟨by assumption, rfl⟩, fin⟩
    · cases e
  | dic ks ds =>
    cases e
    obtain ⟨a, vs, rfl, _, e2, l, r⟩ := hx
    exact .inr ⟨a, _, rfl, e2, by rw [zl _ _ (l.trans r.len.symm)]; exact fin⟩
  | tup ds =>
    cases e
    obtain ⟨a, vs, rfl, _, e2, r⟩ := hx
    exact .inl ⟨_, _, rfl, .inr ⟨vs, e2.sq, r.len.symm⟩, fin⟩
  | tpl ds =>
    cases e
    obtain ⟨a, vs, rfl, _, e2, r⟩ := hx
    exact .inl ⟨_, _, rfl, .inr ⟨vs, SqT.of e2, r.len.symm⟩, fin⟩
  | lst ds =>
    cases e
    obtain ⟨a, vs, rfl, _, e2, r⟩ := hx
    exact .inl ⟨_, _, rfl, .inl ⟨vs, SqL.of e2, r.len.symm⟩, fin⟩
  | scr ns =>
    cases e
    obtain ⟨a, rfl, t⟩ := hx
    exact .inl ⟨_, _, rfl, .inl ⟨_, t.sq, by simp⟩, fin⟩
  | ref a =>
    have ex : x = .ref a := hx
    subst ex
    cases qa : M a with
    | none => simp only [lenD, qa] at e; cases e
    | some o =>
      cases o with
      | lst ds =>
        simp only [lenD, qa] at e
        cases e
        obtain ⟨vs, e2, r⟩ := A a _ qa
        exact .inl ⟨_, _, rfl, .inl ⟨vs, SqL.of e2, r.len.symm⟩, fin⟩
      | dK ks ds =>
        simp only [lenD, qa] at e
        cases e
        obtain ⟨vs, e2, l, r⟩ := A a _ qa
        exact .inr ⟨a, _, rfl, e2, by rw [zl _ _ (l.trans r.len.symm)]; exact fin⟩
      | _ => simp only [lenD, qa] at e; cases e
  | _ => cases e

/-! ### numbers -/
def rAbsD : DR := rOne fun d M Q => match d with
  | .int i => Q (.int (if i < 0 then -i else i)) M
  | _ => False
theorem ref_abs {K : PySem.W.Frag} : RefL K (fun xs H Q => ∃ i, xs = [.int i] ∧ Q (.int (if i < 0 then -i else i)) H) rAbsD := ref_one fun H M x d Q Q' A hx t P => by
  cases d <;> first | exact t.elim | skip
  exact ⟨_, by rw [show x = _ from hx], P.same A t rfl⟩
def rMax2 : DR := rTwo fun d e M Q => match d, e with
  | .int i, .int j => Q (.int (if j > i then j else i)) M
  | _, _ => False
def rMin2 : DR := rTwo fun d e M Q => match d, e with
  | .int i, .int j => Q (.int (if j < i then j else i)) M
  | _, _ => False
theorem ref_max2 {K : PySem.W.Frag} : RefL K (fun xs H Q => ∃ i j, xs = [.int i, .int j] ∧ Q (.int (if j > i then j else i)) H) rMax2 := ref_two fun H M x y d e Q Q' A hx hy t P => by
  cases d <;> first | exact t.elim | skip
  cases e <;> first | exact t.elim | skip
  exact ⟨_, _, by rw [show x = _ from hx, show y = _ from hy], P.same A t rfl⟩
theorem ref_min2 {K : PySem.W.Frag} : RefL K (fun xs H Q => ∃ i j, xs = [.int i, .int j] ∧ Q (.int (if j < i then j else i)) H) rMin2 := ref_two fun H M x y d e Q Q' A hx hy t P => by
  cases d <;> first | exact t.elim | skip
  cases e <;> first | exact t.elim | skip
  exact ⟨_, _, by rw [show x = _ from hx, show y = _ from hy], P.same A t rfl⟩
def rIntAll : R1 := fun xs H Q => ((∃ i, xs = [.int i] ∧ Q (.int i) H) ∨ ∃ k, xs = [.bl k] ∧ Q (.int (if k then 1 else 0)) H) ∨ (∃ a n, xs = [.str a] ∧ PySem.intText? a = some n ∧ a.length ≤ 640 ∧ Q (.int n) H)
theorem int_all {X : Cx} : CallR X (.type "int") rIntAll := CallR.or call_int1 call_int_str
def rIntD : DR := rOne fun d M Q => match d with
  | .int i => Q (.int i) M
  | .str a => a.length ≤ 640 ∧ wth (PySem.intText? a) fun n => Q (.int n) M
  | _ => False
theorem ref_int {K : PySem.W.Frag} : RefL K rIntAll rIntD := ref_one fun H M x d Q Q' A hx t P => by
  cases d <;> first | exact t.elim | skip
  · exact .inl (.inl ⟨_, by rw [show x = _ from hx], P.same A t rfl⟩)
  · obtain ⟨l, t⟩ := t
    obtain ⟨n, e, t⟩ := wth_of t
    exact .inr ⟨_, n, by rw [show x = _ from hx], e, l, P.same A t rfl⟩
def rStrAll : R1 := fun xs H Q => (∃ i, xs = [.int i] ∧ i.natAbs.log2 < 1920 ∧ Q (.str (toString i)) H) ∨ (∃ a, xs = [.str a] ∧ Q (.str a) H)
theorem str_all {X : Cx} : CallR X (.type "str") rStrAll := CallR.or call_str_int SkE.call_str_str
def rStrD : DR := rOne fun d M Q => match d with
  | .int i => i.natAbs.log2 < 1920 ∧ Q (.str (toString i)) M
  | .str a => Q (.str a) M
  | _ => False
theorem ref_str {K : PySem.W.Frag} : RefL K rStrAll rStrD := ref_one fun H M x d Q Q' A hx t P => by
  cases d <;> first | exact t.elim | skip
  · exact .inl ⟨_, by rw [show x = _ from hx], t.1, P.same A t.2 rfl⟩
  · exact .inr ⟨_, by rw [show x = _ from hx], P.same A t rfl⟩
def rDivmodD : DR := rTwo fun d e M Q => match d, e with
  | .int i, .int j => CDivP i j ∧ Q (.tpl [.int (i / j), .int (i % j)]) M
  | _, _ => False
theorem ref_divmod {K : PySem.W.Frag} : RefL K (fun xs H Q => ∃ i j, xs = [.int i, .int j] ∧ CDivP i j ∧ ∀ p, H p = none → Q (.ref p) (upd H p (.tup [.int (i / j), .int (i % j)]))) rDivmodD := ref_two fun H M x y d e Q Q' A hx hy t P => by
  cases d <;> first | exact t.elim | skip
  cases e <;> first | exact t.elim | skip
  exact ⟨_, _, by rw [show x = _ from hx, show y = _ from hy], t.1, fun p np => new_tpl A (HasL.cons (show Has K H M (.int _) (.int _) from rfl) (HasL.one (show Has K H M (.int _) (.int _) from rfl))) t.2 P np⟩

/-! ### over lists -/
def rSumT (K : PySem.W.Frag) : R1 := fun vs H Q => ∃ (a : Addr) (ns : List Int), vs = [V.ref a] ∧ SqT K H a (ns.map V.int) ∧ Q (.int ns.sum) H
theorem cr_sumT {X : Cx} (hc : X.calm = true) : CallR X (.builtin "sum") (rSumT X.K) := by
  intro pins s σ H vs us Q I r h
  obtain ⟨a, ns, rfl, hs, q⟩ := h
  obtain ⟨its, rv, hl, _⟩ := I.tuple hs
  rw [Vals.ref1 r]
  have hi := rv.ints
  obtain ⟨xs, e⟩ := hi.allInts.items
  have hn : numsOf (intItems xs).toList = ns := by rw [← e]; exact hi.numsOf
  rw [nums_intItems] at hn
  rw [e] at hl
  have ht : s.heap.IsTuple a (intItems xs) := hl
  refine PySem.W.ktm_sumG (I.ok.hd hc) ht fun h' tk t' hk => ?_
  rw [preSum_eq, List.take_of_length_le (by simp), hn]
  exact ⟨.int _, H, I.kept hk, ⟨_, rfl⟩, q⟩
def rSumA (K : PySem.W.Frag) : R1 := fun vs H Q => rSum K vs H Q ∨ rSumT K vs H Q
theorem cr_sumA {X : Cx} (hc : X.calm = true) : CallR X (.builtin "sum") (rSumA X.K) := CallR.or (cr_sum hc) (cr_sumT hc)
def rSumD : DR := rOne fun d M Q => match d with
  | .tup ds => wth (intsOf ds) fun ns => Q (.int ns.sum) M
  | d => wth (lstOf d M) fun ds => wth (intsOf ds) fun ns => Q (.int ns.sum) M
theorem ref_sum {K : PySem.W.Frag} : RefL K (rSumA K) rSumD := ref_one fun H M x d Q Q' A hx t P => by
  have key : ∀ d : D, Has K H M d x → (wth (lstOf d M) fun ds => wth (intsOf ds) fun ns => Q' (.int ns.sum) M) → rSumA K [x] H Q := fun d hx t => by
    obtain ⟨ds, e, t⟩ := wth_of t
    obtain ⟨ns, e2, t⟩ := wth_of t
    obtain ⟨a, vs, rfl, s, r⟩ := lstOf_at A hx e
    rw [intsOf_has r e2] at s
    exact .inl ⟨a, ns, rfl, s, P.same A t rfl⟩
  cases d with
  | tup ds =>
    obtain ⟨ns, e2, t⟩ := wth_of t
    obtain ⟨a, vs, rfl, n, s, r⟩ := hx
    rw [intsOf_has r e2] at s
    exact .inr ⟨a, ns, rfl, s.sq, P.same A t rfl⟩
  | _ => exact key _ hx t
def rAllD : DR := rOne fun d M Q => wth (lstOf d M) fun ds => wth (blsOf ds) fun ns => Q (.bl (ns.all id)) M
theorem ref_all {K : PySem.W.Frag} : RefL K (rAll K) rAllD := ref_one fun H M x d Q Q' A hx t P => by
  obtain ⟨ds, e, t⟩ := wth_of t
  obtain ⟨ns, e2, t⟩ := wth_of t
  obtain ⟨a, vs, rfl, s, r⟩ := lstOf_at A hx e
  rw [blsOf_has r e2] at s
  exact ⟨a, ns, rfl, s, P.same A t rfl⟩
def rTupleD : DR := rOne fun d M Q => wth (seqOf d M) fun ds => Q (.tup ds) M
theorem ref_tuple {K : PySem.W.Frag} : RefL K (rTupF K) rTupleD := ref_one fun H M x d Q Q' A hx t P => by
  obtain ⟨ds, e, q⟩ := wth_of t
  cases d with
  | tup es =>
    obtain rfl : es = ds := Option.some.inj e
    obtain ⟨a, vs, rfl, n, e2, r⟩ := hx
    exact ⟨a, vs, rfl, .inr ⟨e2.sq, P.same A q ⟨a, vs, rfl, n, e2, r⟩⟩⟩
  | _ =>
    obtain ⟨a, vs, rfl, s, r⟩ := lstOf_at A hx (show lstOf _ M = some ds from e)
    exact ⟨a, vs, rfl, .inl ⟨s, fun l us nl => new_tup A r q P nl⟩⟩
def rReprD : DR := rOne fun d M Q => (SeqAt.shaped (pyM M d) = true ∧ (pyM M d).showable = true ∧ (pyM M d).depth ≤ 60 ∧ (pyM M d).shown.length ≤ sizeLine) ∧ Q (.str (pyM M d).shown) M
mutual
theorem noDict : ∀ d : PyData, d.canLay0 = true → d.hasDict = false
  | .none, _ => rfl
  | .bool _, _ => rfl
  | .int _, _ => rfl
  | .str _, _ => rfl
  | .list xs, h => noDictAll xs h
  | .tuple xs, h => noDictAll xs h
  | .dict _, h => by cases h
theorem noDictAll : ∀ ds : List PyData, PyData.canLayAll0 ds = true → PyData.hasDictAll ds = false
  | [], _ => rfl
  | d :: ds, h => by
    obtain ⟨h1, h2⟩ := Bool.and_eq_true_iff.mp (show (PyData.canLay0 d && PyData.canLayAll0 ds) = true from h)
    show (PyData.hasDict d || PyData.hasDictAll ds) = false
    rw [noDict d h1, noDictAll ds h2]; rfl
end
theorem ref_repr {K : PySem.W.Frag} : RefL K (rRepr K) rReprD := ref_one fun H M x d Q Q' A hx t P => by
  obtain ⟨⟨h1, h2, h3, h4⟩, t⟩ := t
  exact ⟨x, _, rfl, hx.dpM A h1, h2, noDict _ (SeqAt.canLay_of_shaped h1), h3, h4, P.same A t rfl⟩

/-! ### methods of lists, texts -/
section
variable {X : Cx} {O : Org} {pos apos p : Pos} {o e : Expr} {to te : DTE} {es : List Expr} {ts : List DTE}
def rAppD : D → List D → DHp → DVK → Prop := fun x ds M Q => match x, ds with
  | .ref a, [d] => wth (M a) fun o => (match o with
    | .lst es => es.length < sizeLine ∧ Q .non (up M a (.lst (es ++ [d])))
    | _ => False)
  | _, _ => False
/-- x.append(e): x is a list ahead of the argument too -/
def dApp (to te : DTE) : DTE := fun τ M Q => to τ M fun x M1 => (∃ a es, x = .ref a ∧ M1 a = some (.lst es)) ∧ te τ M1 fun d M2 => rAppD x [d] M2 Q
theorem de_append (ho : DE X O o to) (he : DE X O e te) (hb : attributeBase o "append" X.env (eval o X.env) = eval o X.env := by rfl)
    (hf : ((backTo pos (starEach (e :: []) X.env)).all (fun x => !x.1) && (backToKw pos (keywordEach [] X.env)).all (fun x => x.1.isSome) && decide ((e :: []).length + ([] : List Keyword).length + (if ([] : List Keyword).isEmpty then 0 else 1) < 30)) = true := by rfl)
    (hl : (apos.endLine == pos.line) = true := by rfl) (hs : starEach (e :: []) X.env = (false, eval e X.env) :: starEach [] X.env := by rfl) (hp : (backTo pos (starEach [] X.env)).any (·.1) = false := by rfl) :
    DE X O (.Call (.Attribute o "append" apos) [e] [] pos) (dApp to te) := PE.wk (pe_bm PySem.F.plainAttrs_list PySem.F.slot_list_append PySem.F.type_list_append mt_append ho (das_cons (O := O) he das_nil hs) hb hf hl hs hp) fun σ H Q ⟨τ, M, Q', b, t, P⟩ =>
  ⟨τ, M, _, b, t, fun x M1 xv H1 q f1 a1 hx => by
    obtain ⟨⟨a, es, rfl, e0⟩, q⟩ := q
    have exv : xv = .ref a := hx
    subst exv
    obtain ⟨vs, e1, r1⟩ := a1 a _ e0
    refine ⟨.inl ⟨rfl, _, SqL.of e1⟩, τ, M1, _, b.step f1 a1, q, fun d M2 y H2 q2 f2 a2 hy => ?_⟩
    obtain ⟨o, e2, q2⟩ := wth_of (show wth (M2 a) _ from q2)
    cases o with
    | lst es2 =>
      obtain ⟨l2, q2⟩ := q2
      obtain ⟨ws, e3, r3⟩ := a2 a _ e2
      exact ⟨a, ws, y, rfl, rfl, e3, by rw [r3.len]; exact l2, P _ _ _ _ q2 (f1.trans (f2.trans (Fr.put e2))) (a2.put e2 ⟨ws ++ [y], upd_same, (r3.fr (Fr.put e2)).app (HasL.one (hy.fr (Fr.put e2)))⟩) rfl⟩
    | _ => exact q2.elim⟩
/-- s.split(sep) -/
def dSplit (mu : Bool) (to te : DTE) : DTE := fun τ M Q => to τ M fun x M1 => match x with
  | .str a => te τ M1 fun y M2 => (match y with
    | .str b => (b.length == 0) = false ∧ a.length + 2 ≤ sizeLine ∧ dNew mu ((Txt.split a b).map D.str) M2 Q
    | _ => False)
  | _ => False
theorem hasL_strs (K : PySem.W.Frag) (H : Hp) (M : DHp) : ∀ ns : List Str, HasL K H M (ns.map D.str) (ns.map V.str)
  | [] => rfl
  | n :: ns => ⟨_, _, rfl, rfl, hasL_strs K H M ns⟩
theorem de_split (mu : Bool) (h : PE X (.Call (.Attribute o "split" apos) [e] [] pos) (tM1 (fun x xs H Q => ∃ a b, x = .str a ∧ xs = [.str b] ∧ (b.length == 0) = false ∧ a.length + 2 ≤ sizeLine ∧ rNewStrs (Txt.split a b) H Q) (liftE X.K O to) (liftE X.K O te))) :
    DE X O (.Call (.Attribute o "split" apos) [e] [] pos) (dSplit mu to te) := h.wk fun σ H Q ⟨τ, M, Q', b, t, P⟩ =>
  ⟨τ, M, _, b, t, fun x M1 xv H1 q f1 a1 hx => by
    cases x <;> first | exact q.elim | skip
    rename_i a
    refine ⟨⟨a, hx⟩, τ, M1, _, b.step f1 a1, q, fun y M2 yv H2 q2 f2 a2 hy => ?_⟩
    cases y <;> first | exact q2.elim | skip
    rename_i c
    exact ⟨a, c, hx, by rw [show yv = _ from hy], q2.1, q2.2.1, fun z nz => new_list a2 (hasL_strs X.K H2 M2 _) q2.2.2 (P.tr (f1.trans f2)) nz⟩⟩
/-- sep.join(list or tuple of texts) -/
def dJoin (to te : DTE) : DTE := fun τ M Q => to τ M fun x M1 => match x with
  | .str a => te τ M1 fun y M2 => wth (seqOf y M2) fun ds => wth (strsOf ds) fun ys => (ys.map (·.length)).sum + ys.length * a.length ≤ 16777216 ∧ Q (.str (Txt.join a ys)) M2
  | _ => False
theorem de_join (h : PE X (.Call (.Attribute o "join" apos) [e] [] pos) (tM1 (fun x xs H Q => ∃ a p, ∃ ys : List Str, x = .str a ∧ xs = [.ref p] ∧ (SqL X.K H p (ys.map V.str) ∨ SqT X.K H p (ys.map V.str)) ∧ (ys.map (·.length)).sum + ys.length * a.length ≤ 16777216 ∧ Q (.str (Txt.join a ys)) H) (liftE X.K O to) (liftE X.K O te))) :
    DE X O (.Call (.Attribute o "join" apos) [e] [] pos) (dJoin to te) := h.wk fun σ H Q ⟨τ, M, Q', b, t, P⟩ =>
  ⟨τ, M, _, b, t, fun x M1 xv H1 q f1 a1 hx => by
    cases x <;> first | exact q.elim | skip
    rename_i a
    refine ⟨⟨a, hx⟩, τ, M1, _, b.step f1 a1, q, fun y M2 yv H2 q2 f2 a2 hy => ?_⟩
    obtain ⟨ds, e1, q2⟩ := wth_of q2
    obtain ⟨ys, e2, l, q2⟩ := wth_of q2
    obtain ⟨ad, vs, rfl, s, r⟩ := seqOf_at a2 hy e1
    rw [strsOf_has r e2] at s
    exact ⟨a, ad, ys, hx, rfl, s, l, P _ M2 _ H2 q2 (f1.trans f2) a2 rfl⟩⟩

/-! ### f-strings -/
def dFmt (te : DTE) : DTE := fun τ M Q => te τ M fun x M1 => match x with
  | .str y => y.length ≤ sizeLine ∧ Q (.str y) M1
  | .int i => i.natAbs.log2 < 1920 ∧ Q (.str (toString i)) M1
  | _ => False
theorem de_fmt (he : DE X O e te) : DE X O (.FormattedValue e (-1) none pos) (dFmt te) := (pe_fmt he).wk fun σ H Q ⟨τ, M, Q', b, t, P⟩ =>
  ⟨τ, M, _, b, t, fun x M1 xv H1 q f1 a1 hx => by
    cases x <;> first | exact q.elim | skip
    · exact .inr ⟨_, hx, q.1, P _ M1 _ H1 q.2 f1 a1 rfl⟩
    · exact .inl ⟨_, hx, q.1, P _ M1 _ H1 q.2 f1 a1 rfl⟩⟩
inductive DJ (X : Cx) (O : Org) : List Expr → List DTE → Prop where
  | nil : DJ X O [] []
  | cons {e : Expr} {t : DTE} {es : List Expr} {ts : List DTE} (h : DE X O e t) (r : DJ X O es ts) : DJ X O (e :: es) (t :: ts)
theorem DJ.pj {es : List Expr} {ts : List DTE} (h : DJ X O es ts) : PJ X es (ts.map (liftE X.K O)) := by
  induction h with
  | nil => exact .nil
  | cons h _ ih => exact .cons h ih
def dJs : List DTE → Str → DSt → DHp → (Str → DHp → Prop) → Prop
  | [], acc, _, M, Q => Q acc M
  | t :: ts, acc, τ, M, Q => t τ M fun x M1 => match x with
    | .str y => (acc ++ y).length ≤ sizeLine ∧ dJs ts (acc ++ y) τ M1 Q
    | _ => False
theorem lift_js {K : PySem.W.Frag} : ∀ {ts : List DTE} {acc : Str} {σ : L2.St} {H : Hp} {τ : DSt} {M : DHp} {Q : Str → Hp → Prop} {Q' : Str → DHp → Prop}, Beg K O H M τ σ → dJs ts acc τ M Q' → (∀ y M' H', Q' y M' → Fr H M H' M' → AbH K H' M' → Q y H') → tJs (ts.map (liftE K O)) acc σ H Q
  | [], acc, σ, H, τ, M, Q, Q', b, t, p => p acc M H t (Fr.refl H M) b.h
  | t0 :: ts, acc, σ, H, τ, M, Q, Q', b, t, p => ⟨τ, M, _, b, t, fun x M1 v H1 q f a h => by
    cases x <;> first | exact q.elim | skip
    rename_i y
    exact ⟨y, h, q.1, lift_js (b.step f a) q.2 fun z M' H' q2 f2 a2 => p z M' H' q2 (f.trans f2) a2⟩⟩
def dJoined (ts : List DTE) : DTE := fun τ M Q => dJs ts Str.empty τ M fun out M1 => Q (.str out) M1
theorem de_joined {v1 v2 : Expr} {rest : List Expr} {ts : List DTE} (h : DJ X O (v1 :: v2 :: rest) ts) : DE X O (.JoinedStr (v1 :: v2 :: rest) pos) (dJoined ts) := PE.wk (pe_joined h.pj) fun σ H Q ⟨τ, M, Q', b, t, P⟩ =>
  lift_js b t fun y M' H' q f a => P _ M' _ H' q f a rfl

/-! ### stores -/
def dgSub (to ti : DTE) : DTG := fun d τ M Q => to τ M fun x M1 => ti τ M1 fun y M2 => match x, y with
  | .ref a, .int k => wth (M2 a) fun o => (match o with
    | .lst ds => wth (ixN ds.length k) fun j => Q τ (up M2 a (.lst (ds.set j d)))
    | _ => False)
  | _, _ => False
theorem ref_gSub {K : PySem.W.Frag} {to ti : DTE} {vs : List Nat} : RefG K O vs (gSub (liftE K O to) (liftE K O ti) rSetL) (dgSub to ti) := fun v d σ H τ M Q Q' b hv t p =>
  ⟨τ, M, _, b, t, fun x M1 xv H1 q f1 a1 hx => ⟨τ, M1, _, b.step f1 a1, q, fun y M2 yv H2 q2 f2 a2 hy => by
    cases x <;> first | exact q2.elim | skip
    cases y <;> first | exact q2.elim | skip
    rename_i a k
    obtain ⟨o, e, q2⟩ := wth_of q2
    cases o <;> first | exact q2.elim | skip
    rename_i ds
    obtain ⟨j, ej, q2⟩ := wth_of q2
    obtain ⟨ws, e3, r3⟩ := a2 a _ e
    refine ⟨a, ws, k, j, by rw [show xv = _ from hx.fr f2], hy, e3, by rw [r3.len]; exact ej, ?_⟩
    have fz : Fr H M (upd H2 a (.lst (ws.set j v))) (up M2 a (.lst (ds.set j d))) := f1.trans (f2.trans (Fr.put e))
    exact p τ _ σ _ q2 fz (a2.put e ⟨ws.set j v, upd_same, HasL.set (hv.fr fz) j (r3.fr (Fr.put e))⟩) (b.s.fr fz) rfl⟩⟩

/-! ### try, whose body raises nothing -/
theorem ds_thru {body : List Stmt} {h0 : ExceptHandler} {hs : List ExceptHandler} {t : DTS} (hb : DSs X.nox O body t) : DS X O (.Try body (h0 :: hs) [] [] pos) t := ps_try_thru0 hb
end
end Rh
/-! DL11: short readings, isinstance, calls by packages, a law's end where the guards are known. -/
namespace Rh
open PySem PySem.Spec PyProof.Rows L2

/-! ### short readings -/
def rLtD : DR2 := rB2 fun i j => decide (i < j)
def rLeD : DR2 := rB2 fun i j => decide (i ≤ j)
def rGtD : DR2 := rB2 fun i j => decide (j < i)
def rGeD : DR2 := rB2 fun i j => decide (j ≤ i)
def rDivD : DR2 := rI2 CDivW fun i j => i / j
def rModD : DR2 := rI2 (fun _ j => 0 < j) fun i j => i % j
def rPowD : DR2 := rI2 CPow fun i j => i ^ j.toNat
section
variable {K : PySem.W.Frag}
theorem ref_lt : Ref2 K (rI0 fun i j => .bl (decide (i < j))) rLtD := ref_B (f := fun i j => decide (i < j))
theorem ref_le : Ref2 K (rI0 fun i j => .bl (decide (i ≤ j))) rLeD := ref_B (f := fun i j => decide (i ≤ j))
theorem ref_gt : Ref2 K (rI0 fun i j => .bl (decide (j < i))) rGtD := ref_B (f := fun i j => decide (j < i))
theorem ref_ge : Ref2 K (rI0 fun i j => .bl (decide (j ≤ i))) rGeD := ref_B (f := fun i j => decide (j ≤ i))
end
theorem hu64 {k : Nat} {A : Around} (r : Room k A) : A.units + 64 < cLine := by have := r.un; omega
theorem bt_len : bootBuiltins "len" = some (.builtin "len") := by decide +kernel
theorem bt_abs : bootBuiltins "abs" = some (.builtin "abs") := by decide +kernel
theorem bt_divmod : bootBuiltins "divmod" = some (.builtin "divmod") := by decide +kernel
theorem bt_sum : bootBuiltins "sum" = some (.builtin "sum") := by decide +kernel
theorem bt_all : bootBuiltins "all" = some (.builtin "all") := by decide +kernel
theorem bt_repr : bootBuiltins "repr" = some (.builtin "repr") := by decide +kernel
theorem bt_max : bootBuiltins "max" = some (.builtin "max") := by decide +kernel
theorem bt_min : bootBuiltins "min" = some (.builtin "min") := by decide +kernel
theorem bt_isinstance : bootBuiltins "isinstance" = some (.builtin "isinstance") := by decide +kernel
theorem bt_int : bootBuiltins "int" = some (.type "int") := by decide +kernel
theorem bt_bool : bootBuiltins "bool" = some (.type "bool") := by decide +kernel
theorem bt_str : bootBuiltins "str" = some (.type "str") := by decide +kernel
theorem bt_tuple : bootBuiltins "tuple" = some (.type "tuple") := by decide +kernel
/-! ### constants of the module -/
section
variable {X : Cx} {x : Str} {pos : Pos}
theorem pe_gi {i : Int} (hg : Gl X x) (h : ∃ t, X.mg x = some (.int i t)) (hd : (x == ("__debug__" : Str)) = false := by decide) : PE X (.Name x pos) (tC (.int i)) :=
  h.elim fun t e => pe_glob hg e ⟨t, rfl⟩ hd
theorem pe_gs {z : Str} (hg : Gl X x) (h : ∃ t, X.mg x = some (.str z t)) (hd : (x == ("__debug__" : Str)) = false := by decide) : PE X (.Name x pos) (tC (.str z)) :=
  h.elim fun t e => pe_glob hg e ⟨t, rfl⟩ hd
end

/-! ### isinstance -/
inductive Ty0 where
  | non | bl | int | str | lst | tup | dic
def Ty0.nm : Ty0 → String
  | .non => "NoneType"
  | .bl => "bool"
  | .int => "int"
  | .str => "str"
  | .lst => "list"
  | .tup => "tuple"
  | .dic => "dict"
/-- one is the other or under it -/
def Ty0.is : Ty0 → Ty0 → Bool
  | .non, .non => true
  | .bl, .bl => true
  | .bl, .int => true
  | .int, .int => true
  | .str, .str => true
  | .lst, .lst => true
  | .tup, .tup => true
  | .dic, .dic => true
  | _, _ => false
theorem kit0 (a b : Ty0) : kitB a.nm b.nm = some (a.is b) := by
  cases a <;> cases b <;> decide +kernel
/-- a datum's type; its own class -/
def tyD (x : D) (M : DHp) : Option (Ty0 ⊕ Addr) := match x with
  | .non => some (.inl .non)
  | .bl _ => some (.inl .bl)
  | .int _ => some (.inl .int)
  | .str _ => some (.inl .str)
  | .tup _ => some (.inl .tup)
  | .lst _ => some (.inl .lst)
  | .scr _ => some (.inl .lst)
  | .dic _ _ => some (.inl .dic)
  | .obj C _ _ => some (.inr C)
  | .ref a => (match M a with
    | some (.lst _) => some (.inl .lst)
    | some (.dK _ _) => some (.inl .dic)
    | some (.ins C _ _) => some (.inr C)
    | _ => none)
  | .ty _ => none
  | .tpl _ => none
/-- what is asked of an own class -/
structure OwnC (K : PySem.W.Frag) (C : Addr) : Prop where
  cl : Cls K C
  ha : PySem.W.findIn K (.ref C) "__class__" = some (some (.builtin "object.__class__"))
  hn : PySem.W.specialIn K (.builtin "object.__class__") "__get__" = some (some (.builtin "getset_descriptor.__get__"))
  htk : PySem.W.takesIn K (.builtin "object.__class__") = some true
  hm : PySem.W.mroIn K C (.type "object") = some true
theorem kl_ty {K : PySem.W.Frag} {H : Hp} {M : DHp} {a : Addr} {vs : List V} (h : KL K H M a vs) : TyX K H (.ref a) (.type "list") := by
  rcases h with ⟨_, r⟩ | ⟨o, _, _, e, c, _⟩
  · rcases r with r | ⟨x, r⟩
    · exact .base (.lst r)
    · exact .base (.frz r)
  · exact .kList e c
theorem ty_base {K : PySem.W.Frag} {H : Hp} {M : DHp} {x : D} {v : V} {t : Ty0} (A : AbH K H M) (h : Has K H M x v) (e : tyD x M = some (.inl t)) : TyX K H v (.type t.nm) := by
  cases x with
  | non => cases e; rw [show v = _ from h]; exact .base .non
  | bl b => cases e; rw [show v = _ from h]; exact .base (.bl b)
  | int b => cases e; rw [show v = _ from h]; exact .base (.int b)
  | str b => cases e; rw [show v = _ from h]; exact .base (.str b)
  | ty n => cases e
  | obj C ns ds => cases e
  | scr ns =>
    cases e
    obtain ⟨a, rfl, k⟩ := h
    exact kl_ty k
  | tup ds =>
    cases e
    obtain ⟨a, vs, rfl, _, ⟨us, q⟩, _⟩ := h
    exact .fTuple q
  | tpl ds => cases e
  | lst ds =>
    cases e
    obtain ⟨a, vs, rfl, _, q, _⟩ := h
    exact .base (.lst q)
  | dic ks ds =>
    cases e
    obtain ⟨a, vs, rfl, _, q, _⟩ := h
    exact .base (.dK q)
  | ref a =>
    rw [show v = .ref a from h]
    cases q : M a with
    | none => simp only [tyD, q] at e; cases e
    | some o =>
      cases o with
      | lst es =>
        simp only [tyD, q] at e; cases e
        obtain ⟨vs, e2, _⟩ := A a _ q
        exact .base (.lst e2)
      | dK ks es =>
        simp only [tyD, q] at e; cases e
        obtain ⟨vs, e2, _⟩ := A a _ q
        exact .base (.dK e2)
      | ins C ns ds => simp only [tyD, q] at e; cases e
      | tab _ => simp only [tyD, q] at e; cases e
      | dT _ _ => simp only [tyD, q] at e; cases e
      | fT _ _ _ _ => simp only [tyD, q] at e; cases e
      | lam _ _ _ => simp only [tyD, q] at e; cases e
      | cel _ => simp only [tyD, q] at e; cases e
      | fK _ _ _ _ => simp only [tyD, q] at e; cases e
theorem ty_own {K : PySem.W.Frag} {H : Hp} {M : DHp} {x : D} {v : V} {C : Addr} (c : OwnC K C) (A : AbH K H M) (h : Has K H M x v) (e : tyD x M = some (.inr C)) : TyX K H v (.ref C) := by
  cases x with
  | obj C' ns ds =>
    cases e
    obtain ⟨a, dx, vs, rfl, _, q, _⟩ := h
    exact .base (.ins q c.cl c.ha c.hn c.htk c.hm)
  | ref a =>
    rw [show v = .ref a from h]
    cases q : M a with
    | none => simp only [tyD, q] at e; cases e
    | some o =>
      cases o with
      | ins C' ns ds =>
        simp only [tyD, q] at e; cases e
        obtain ⟨dx, vs, e2, _⟩ := A a _ q
        exact .base (.ins e2 c.cl c.ha c.hn c.htk c.hm)
      | _ => simp only [tyD, q] at e; cases e
  | _ => cases e
/-- isinstance(x, T), T built in; OC: the own classes that are known, none of which is under T -/
def dIsi (T : Ty0) (OC : Addr → Prop) (te : DTE) : DTE := fun τ M Q => te τ M fun x M1 => wth (tyD x M1) fun
  | .inl t => Q (.bl (t.is T)) M1
  | .inr C => OC C ∧ Q (.bl false) M1
/-- isinstance(x, C), C an own class; OC: the own classes that are known, with the answer -/
def dIsiC (OC : Addr → Option Bool) (te : DTE) : DTE := fun τ M Q => te τ M fun x M1 => wth (tyD x M1) fun
  | .inl _ => Q (.bl false) M1
  | .inr C => wth (OC C) fun b => Q (.bl b) M1
section
variable {X : Cx} {O : Org} {pos p p2 : Pos} {e : Expr} {te : DTE}
theorem de_isi {T : Ty0} {OC : Addr → Prop} {y : Str} (hg : Gl X "isinstance") (hm : X.mg "isinstance" = none) (hg2 : Gl X y) (hm2 : X.mg y = none) (hv2 : bootBuiltins y = some (.type T.nm)) (he : DE X O e te) (oc : ∀ C, OC C → OwnC X.K C ∧ PySem.W.kitOne X.K (.ref C) (.type T.nm) = some false)
    (hs : starEach [e, .Name y p2] X.env = (false, eval e X.env) :: starEach [.Name y p2] X.env := by rfl) (hn2 : y ≠ "__name__" := by decide) (hd2 : (y == ("__debug__" : Str)) = false := by decide) : DE X O (.Call (.Name "isinstance" p) [e, .Name y p2] [] pos) (dIsi T OC te) :=
  PE.wk (pe_callB call_isi hg hm bt_isinstance (das_cons (O := O) he (das_cons (O := O) (de_c (d := .ty T.nm) (pe_bltn (v := .ty T.nm) hg2 hm2 hv2 rfl hn2 hd2) rfl) das_nil) hs) (he := hs)) fun σ H Q ⟨τ, M, Q', b, t, P⟩ => by
    refine ⟨τ, M, _, b, t, fun x M1 v H1 q f a hx => ?_⟩
    refine ⟨τ, M1, _, b.step f a, (show dC (.ty T.nm) τ M1 (fun c M2 => c = .ty T.nm ∧ M2 = M1) from ⟨rfl, rfl⟩), fun c M2 w H2 q2 f2 a2 hc => ?_⟩
    obtain ⟨rfl, rfl⟩ := q2
    obtain ⟨ty, e1, q⟩ := wth_of q
    have fz := f.trans f2
    have hx2 := hx.fr f2
    show rIsi X.K [v, w] H2 Q
    rw [show w = .ty T.nm from hc]
    cases ty with
    | inl t0 => exact ⟨v, _, _, _, t0.is T, rfl, .ty _, ty_base a2 hx2 e1, kit_ty (kit0 t0 T), P _ M2 _ H2 q fz a2 rfl⟩
    | inr C => exact ⟨v, _, _, _, false, rfl, .ty _, ty_own (oc C q.1).1 a2 hx2 e1, (oc C q.1).2, P _ M2 _ H2 q.2 fz a2 rfl⟩
theorem de_isiC {C0 : Addr} {OC : Addr → Option Bool} {y : Str} (hg : Gl X "isinstance") (hm : X.mg "isinstance" = none) (hg2 : Gl X y) (hm2 : X.mg y = some (.ref C0)) (he : DE X O e te) (ob : ∀ t : Ty0, PySem.W.kitOne X.K (.type t.nm) (.ref C0) = some false) (oc : ∀ C b, OC C = some b → OwnC X.K C ∧ PySem.W.kitOne X.K (.ref C) (.ref C0) = some b)
    (hs : starEach [e, .Name y p2] X.env = (false, eval e X.env) :: starEach [.Name y p2] X.env := by rfl) (hd2 : (y == ("__debug__" : Str)) = false := by decide) : DE X O (.Call (.Name "isinstance" p) [e, .Name y p2] [] pos) (dIsiC OC te) :=
  PE.wk (pe_callB call_isi hg hm bt_isinstance (das_cons (O := O) he (das_cons (O := O) (de_c (d := .ref C0) (pe_glob (v := .ref C0) hg2 hm2 rfl hd2) rfl) das_nil) hs) (he := hs)) fun σ H Q ⟨τ, M, Q', b, t, P⟩ => by
    refine ⟨τ, M, _, b, t, fun x M1 v H1 q f a hx => ?_⟩
    refine ⟨τ, M1, _, b.step f a, (show dC (.ref C0) τ M1 (fun c M2 => c = .ref C0 ∧ M2 = M1) from ⟨rfl, rfl⟩), fun c M2 w H2 q2 f2 a2 hc => ?_⟩
    obtain ⟨rfl, rfl⟩ := q2
    obtain ⟨ty, e1, q⟩ := wth_of q
    have fz := f.trans f2
    have hx2 := hx.fr f2
    show rIsi X.K [v, w] H2 Q
    rw [show w = .ref C0 from hc]
    cases ty with
    | inl t0 => exact ⟨v, _, _, _, false, rfl, .own _, ty_base a2 hx2 e1, ob t0, P _ M2 _ H2 q fz a2 rfl⟩
    | inr C =>
      obtain ⟨k, e2, q⟩ := wth_of q
      exact ⟨v, _, _, _, k, rfl, .own _, ty_own (oc C k e2).1 a2 hx2 e1, (oc C k e2).2, P _ M2 _ H2 q fz a2 rfl⟩
end

/-! ### calls by packages -/
/-- the def x: its promise, what it takes where dds fill up -/
def DCal (P : Program) (w : World) (K : PySem.W.Frag) (mg : Str → Option Value) (base : Heap) (k : Nat) (x : Str) (ps : List Str) (dds : List D) (sp : DSp) : Prop :=
  ∃ f fd dus dvs, DFn P w K mg base k f fd ps sp ∧ mg x = some (.ref f) ∧ PySem.W.keepIn K (.ref f) = true ∧ Binds K fd ps dus ∧ Vals dvs dus ∧ constL dds = some dvs
def DCalG (P : Program) (w : World) (K : PySem.W.Frag) (mg : Str → Option Value) (base : Heap) (k : Nat) (x : Str) (ps : List Str) (dds : List D) (sp : DSp) : Prop :=
  ∃ f fd dus dvs, DFnG P w K mg base k f fd ps sp ∧ mg x = some (.ref f) ∧ PySem.W.keepIn K (.ref f) = true ∧ Binds K fd ps dus ∧ Vals dvs dus ∧ constL dds = some dvs
section
variable {P : Program} {w : World} {K : PySem.W.Frag} {mg : Str → Option Value} {base : Heap} {j k : Nat} {x : Str} {ps : List Str} {dds : List D} {sp : DSp}
theorem DCal.mono (c : DCal P w K mg base j x ps dds sp) (h : j ≤ k) : DCal P w K mg base k x ps dds sp :=
  let ⟨f, fd, dus, dvs, F, r⟩ := c; ⟨f, fd, dus, dvs, F.mono h, r⟩
theorem DCalG.mono (c : DCalG P w K mg base j x ps dds sp) (h : j ≤ k) : DCalG P w K mg base k x ps dds sp :=
  let ⟨f, fd, dus, dvs, F, r⟩ := c; ⟨f, fd, dus, dvs, F.mono h, r⟩
end
section
variable {X : Cx} {O : Org} {x : Str} {p pos : Pos} {e : Expr} {es : List Expr} {k j : Nat} {ps : List Str} {sp : DSp} {dds : List D} {ts : List DTE}
end
end Rh
/-! DL12: a law's end for promises that know the guards. -/
namespace Rh
open PySem PySem.Spec PyProof.Rows L2

/-- the script's own object -/
abbrev scO (us : List Value) : Obj := { cls := .type "list", data := .seq us.toArray }
/-- nothing is tracked but the script, if it is no object of the written part -/
def scH (K : PySem.W.Frag) (p : Addr) (us : List Value) (ns : List Int) : Hp := fun b => if b = p ∧ K.lookup p = none then some (.frz (scO us) (.lst (ns.map V.int))) else none
section
variable {P : Program} {w : World} {K : PySem.W.Frag} {mg mb : Str → Option Value} {p : Addr} {us : List Value} {ns : List Int} {st : Shared}
theorem scH_some {b : Addr} {u : HO} (h : scH K p us ns b = some u) : b = p ∧ K.lookup p = none ∧ u = .frz (scO us) (.lst (ns.map V.int)) := by
  unfold scH at h
  split at h
  · rename_i c
    exact ⟨c.1, c.2, (Option.some.inj h).symm⟩
  · cases h
theorem scH_no {b : Addr} (h : b ≠ p ∨ K.lookup p ≠ none) : scH K p us ns b = none := by
  unfold scH
  refine if_neg fun c => ?_
  rcases h with h | h
  · exact h c.1
  · exact h c.2
theorem scH_kl (KX : K.In st.heap) (at_ : st.heap.get? p = some (scO us)) (hi : IntsAre us ns) (sm : ns.length ≤ sizeLine) : KL K (scH K p us ns) (fun _ => none) p (ns.map V.int) := by
  cases e : K.lookup p with
  | none => exact .inl ⟨rfl, .inr ⟨scO us, by unfold scH; exact if_pos ⟨rfl, e⟩⟩⟩
  | some o =>
    have e2 := KX p o e
    rw [at_] at e2
    obtain rfl : scO us = o := Option.some.inj e2
    exact .inr ⟨_, us.toArray, _, e, rfl, rfl, rfl, by rw [List.size_toArray, hi.length]; exact sm, by simpa using vals_ints hi⟩
theorem scH_ok (at_ : st.heap.get? p = some (scO us)) (hi : IntsAre us ns) (sm : ns.length ≤ sizeLine) : HOk P w (scH K p us ns) st.heap := fun b u z => by
  obtain ⟨rfl, _, rfl⟩ := scH_some z
  exact ⟨at_, by rw [List.length_map]; exact sm, us, _, vals_ints hi, at_⟩
/-- what is not the script stands in the base -/
theorem scH_base {b : Addr} {o : Obj} (at_ : st.heap.get? p = some (scO us)) (e : st.heap.get? b = some o) (h : o ≠ scO us ∨ K.lookup b = some o) : (hidT st.heap (scH K p us ns)).get? b = some o := by
  refine hidT_get e ?_
  by_cases hb : b = p
  · subst hb
    rw [at_] at e
    rcases h with h | h
    · exact absurd (Option.some.inj e).symm h
    · exact scH_no (.inr (by rw [h]; exact fun z => nomatch z))
  · exact scH_no (.inl hb)
theorem scH_ns {m : Str → Option Value} {b : Addr} (at_ : st.heap.get? p = some (scO us)) (h : st.heap.Ns b m) : (hidT st.heap (scH K p us ns)).Ns b m := by
  obtain ⟨o, es, ep, e, d, r⟩ := h
  refine ⟨o, es, ep, scH_base at_ e (.inl fun z => ?_), d, r⟩
  rw [z] at d
  cases (show Data.seq us.toArray _ = Data.dict es ep from d)
theorem scH_mod (KX : K.In st.heap) (at_ : st.heap.get? p = some (scO us)) (hns : st.heap.Ns mainGlobals mg) (hb : st.heap.Ns builtinsNs mb) (hbb : ∀ x : Str, x ≠ "__name__" → mb x = bootBuiltins x) (hlim : st.heap.NoLimit) : Mod K mg (hidT st.heap (scH K p us ns)) := by
  refine ⟨fun b o e => scH_base at_ (KX b o e) (.inr e), scH_ns at_ hns, ⟨mb, scH_ns at_ hb, hbb⟩, ?_⟩
  obtain ⟨mc, h1, h2⟩ := hlim
  exact ⟨mc, scH_ns at_ h1, h2⟩
/-- the law's call, by a promise that knows that no repr is under way -/
theorem law_callG {k : Nat} {f : Addr} {fd : FuncData} {x : Str} {sp : DSp} (KX : K.In st.heap) (hns : st.heap.Ns mainGlobals mg) (hb : st.heap.Ns builtinsNs mb) (hbb : ∀ x : Str, x ≠ "__name__" → mb x = bootBuiltins x) (hlim : st.heap.NoLimit) (hg : st.gens = #[])
    (at_ : st.heap.get? p = some (scO us)) (hi : IntsAre us ns) (sm : ns.length ≤ sizeLine) (hr : Room k callerA) (F : ∀ base : Heap, K.In base → base.Ns mainGlobals mg → DFnG P w K mg base k f fd [x] sp)
    (hbind : ∀ (s : Shared) (u : Value), BindsTo s fd ⟨[u], []⟩ [(x, u)]) (hsp : ∀ Q : DVK, (∀ M, Q (.bl true) M) → sp [.scr ns] (fun _ => none) Q noX) :
    codeAny (model P w) callerA (.call (.ref f) ⟨[.ref p], []⟩) (fun r s' => r = .ok (.ret (.bool true)) ∧ OldK st.heap s'.heap ∧ s'.os = st.os ∧ AllBare s'.gens) st := by
  have M0 : Mod K mg (hidT st.heap (scH K p us ns)) := scH_mod KX at_ hns hb hbb hlim
  have H0 : HOk P w (scH K p us ns) st.heap := scH_ok at_ hi sm
  have E0_ : Env0 P w K mg (hidT st.heap (scH K p us ns)) callerA [] st (scH K p us ns) :=
    { frames := rfl, mod := M0, bs := fun b o => of_hidT, bsz := Nat.le_of_eq (hidT_size _ _), funs := trivial, frf := fun b hb => by simp [frs] at hb, hok := H0, bare := .of_eq hg }
  have pre : liftSp K sp [.ref p] (scH K p us ns) (fun v _ => v = .bl true) (fun _ _ _ => False) := by
    have q0 : sp [.scr ns] (fun _ => none) (fun d _ => d = .bl true) noX := hsp _ fun _ => rfl
    refine ⟨[.scr ns], fun _ => none, fun d _ => d = .bl true, noX, fun a o e => (nomatch (show (none : Option DO) = some o from e)), HasL.one ⟨p, rfl, scH_kl KX at_ hi sm⟩, q0, fun d M' v H' q _ _ h => ?_, PostX.no⟩
    · rw [show d = .bl true from q] at h
      exact h
  refine codeAny_mono ((F _ M0.kin M0.glob).run callerA [] st (scH K p us ns) ⟨[.ref p], []⟩ [.ref p] [.ref p] _ _ rfl hr E0_ (hbind st (.ref p)) (.cons rfl .nil) pre) fun r s' z => ?_
  match r, z with
  | .error ex, z =>
    obtain ⟨_, _, _, _, _, _, _, _, _, _, _, _, no⟩ := (show L2N.CX P w [] (scH K p us ns) st (fun _ _ _ => False) ex s' from z)
    exact no.elim
  | .ok (.ret u), z =>
    obtain ⟨v, H1, os, bare, un, ok1, rv, q⟩ := z
    obtain rfl : v = .bl true := q
    obtain rfl : u = Value.bool true := rv
    refine ⟨rfl, OldK.of_keep fun b o e => ?_, os, bare⟩
    cases eb : scH K p us ns b with
    | none => exact un.keep b o e eb (by simp [frs]) (by simp)
    | some hb =>
      obtain ⟨rfl, _, rfl⟩ := scH_some eb
      have z2 := ok1 b _ (un.frzs b _ _ eb)
      rw [at_] at e
      obtain rfl : scO us = o := Option.some.inj e
      exact z2.1
end
/-- what the head leaves, from the law's promise over data -/
theorem walk_ofG {l : PySem.W.OpenLaw} {n k : Nat} {q : Program} {loose : List Str} {XP : (Str → Option Value) → Heap → Prop} {YP : World → Heap → Prop} {d : DefRec} {x : Str} (hn : l.most = some n) (hn2 : n ≤ sizeLine) (hdf : d.params.defaults = []) (hr : Room k callerA)
    (F : ∀ (w : World) (mg : Str → Option Value) (f : Addr) (h : Heap), YP w h → h.Ns mainGlobals mg → mg d.name = some (.ref f) → ∃ (K : PySem.W.Frag) (fd : FuncData) (sp : DSp), K.In h ∧ (∀ (s : Shared) (u : Value), BindsTo s fd ⟨[u], []⟩ [(x, u)]) ∧
      (∀ ns : List Int, ns.length ≤ n → (∀ i ∈ ns, Builtin.Int.intBits i ≤ 1048576) → ∀ Q : DVK, (∀ M, Q (.bl true) M) → sp [.scr ns] (fun _ => none) Q noX) ∧ ∀ base : Heap, K.In base → base.Ns mainGlobals mg → DFnG l.prog w K mg base k f fd [x] sp) :
    PySem.W.WalkO q loose XP YP l.row.toRowW d [] (fun f vs => PySem.call f vs) := by
  refine Att.attach_callB hn hdf fun w s₀ st mg mb f o pm cd doc p us ns G Y _ _ _ hmg at_ hi hl bits hg => ?_
  obtain ⟨K, fd, sp, KX, hb, hsp, hF⟩ := F w mg f _ Y G.T.g hmg
  exact law_callG KX G.T.g G.T.b G.T.builtins G.T.nolimit hg at_ hi (Nat.le_trans hl hn2) hr hF hb (hsp ns hl bits)
end Rh
/-! DL13: own objects in built-in calls: len, str, bool, truth, ==. -/
namespace Rh
open PySem PySem.Spec PyProof.Rows L2

section
variable {X : Cx} {k : Nat} {f : Addr} {fd : FuncData} {ps : List Str} {sp : Sp} {pins : List (Addr × Obj)} {σ : L2.St} {H : Hp} {s : Shared} {us : List Value} {vs : List V} {Q : VK} {E' : Value → Shared → Prop}
/-- an own def called from within a built-in one -/
theorem run_at {A : Around} (F : FnG X.prog X.w X.K X.mg X.base (L2N.CX X.prog X.w) k f fd ps sp) (hG : A.guards = some []) (hr : Room k A) (hE : ∀ {H : Hp} {s : Shared}, Env0 X.prog X.w X.K X.mg X.base X.A X.stack s H → Env0 X.prog X.w X.K X.mg X.base A X.stack s H) (hb : Binds X.K fd ps []) (I : Inv X pins σ H s) (r : Vals vs us) (h : sp vs H Q E0) :
    wpAny (model X.prog X.w) A (call (.ref f) us) (EP X pins σ Q) E' s := by
  have l1 : (us ++ []).length = ps.length := by rw [List.append_nil, ← r.length, F.len _ _ _ _ h]
  have b1 := hb s us I.kIn l1
  rw [List.append_nil] at b1
  refine wpAny_call (codeAny_mono (F.run A X.stack s H ⟨us, []⟩ us vs Q E0 hG hr (hE I.env0) b1 r h) fun res s' z => ?_)
  match res, z with
  | .error ex, z => exact False.elim (passN (X := X.nox) pins σ H s ex s' (I.wish _) z)
  | .ok (.ret u), z => exact I.after z
end
theorem env0_in1 {P : Program} {w : World} {K : PySem.W.Frag} {mg : Str → Option Value} {base : Heap} {A : Around} {out : List Env} {s : Shared} {H : Hp} (e : Env0 P w K mg base A out s H) : Env0 P w K mg base A.in1 out s H := e.in1
section
variable {X : Cx} {k : Nat} {f C : Addr} {fd : FuncData} {ps : List Str} {sp : Sp}
/-- an own class's special method -/
structure Dun (P : Program) (w : World) (K : PySem.W.Frag) (mg : Str → Option Value) (base : Heap) (k : Nat) (C : Addr) (m : Str) (sp : Sp) : Prop where
  ex : ∃ f fd ps, PySem.W.findIn K (.ref C) m = some (some (.ref f)) ∧ PySem.W.isFn K (.ref f) = true ∧ FnG P w K mg base (L2N.CX P w) k f fd ps sp ∧ Binds K fd ps []
theorem ins_at {pins : List (Addr × Obj)} {σ : L2.St} {H : Hp} {s : Shared} {a C dx : Addr} {fs : List (Str × V)} (I : Inv X pins σ H s) (e : H a = some (.ins C dx fs)) : ∃ ox od, PySem.W.InstAt s.heap a ox C (some od) := by
  obtain ⟨mA, O, _⟩ := ins_get I.hok e
  obtain ⟨od, J, _⟩ := O.look
  exact ⟨_, od, J⟩
def rLenO (S : Addr → Option Sp) : R1 := fun xs H Q => ∃ a C dx fs sp, xs = [.ref a] ∧ H a = some (.ins C dx fs) ∧ S C = some sp ∧ sp [.ref a] H (fun v H' => ∃ n : Int, v = .int n ∧ 0 ≤ n ∧ n < 2 ^ 63 ∧ Q (.int n) H') E0
theorem call_lenO {S : Addr → Option Sp} (d : ∀ C sp, S C = some sp → Dun X.prog X.w X.K X.mg X.base k C "__len__" sp) (hG : X.A.guards = some []) (hr : Room (k + 1) X.A) : CallR X (.builtin "len") (rLenO S) := by
  intro pins s σ H xs us Q I r h
  obtain ⟨a, C, dx, fs, sp, rfl, ea, eS, q⟩ := h
  obtain ⟨u, rfl, ru⟩ := vals1 r
  obtain rfl : u = Value.ref a := ru
  obtain ⟨f, fd, ps, hs, hf, F, hb⟩ := (d C sp eS).ex
  obtain ⟨ox, od, J⟩ := ins_at I ea
  refine Calls.call_function_entry kind_len plain_len entry_len (args_len1 _) ?_
  unfold Builtin.«len»
  refine wpAny_bind (wpAny_pure ?_)
  refine wpAny_bind (m := callSpecial? (.ref a) (Str.ofString "__len__")) (PySem.W.special_fn I.kIn J hs (beq_iff_eq.mp hf) (thn (run_at F hG hr.in1 env0_in1 hb I (vs := [.ref a]) (.cons rfl .nil) q) fun v s' z => ?_))
  obtain ⟨x, H1, I1, rx, n, rfl, n0, n1, q1⟩ := z
  obtain ⟨tk, rfl⟩ := (show ∃ t, v = Value.int n t from rx)
  refine wpAny_bind (wpAny_holding (wpAny_pure ?_))
  refine wpAny_bind (wpAny_letGo ?_)
  show wpAny _ _ (if n < 0 then _ else _) _ _ _
  rw [if_neg (by omega)]
  show wpAny _ _ (if n ≥ 2 ^ 63 then _ else _) _ _ _
  rw [if_neg (by omega)]
  exact wpAny_bind (wpAny_mkInt (wpAny_pure ⟨_, rfl, ⟨.int n, H1, I1.tok _, ⟨_, rfl⟩, q1⟩⟩))
def rStrO (S : Addr → Option Sp) : R1 := fun xs H Q => ∃ a C dx fs sp, xs = [.ref a] ∧ H a = some (.ins C dx fs) ∧ S C = some sp ∧ sp [.ref a] H (fun v H' => ∃ y : Str, v = .str y ∧ Q (.str y) H') E0
theorem call_strO {S : Addr → Option Sp} (d : ∀ C sp, S C = some sp → Dun X.prog X.w X.K X.mg X.base k C "__str__" sp) (hG : X.A.guards = some []) (hr : Room (k + 2) X.A) : CallR X (.type "str") (rStrO S) := by
  intro pins s σ H xs us Q I r h
  obtain ⟨a, C, dx, fs, sp, rfl, ea, eS, q⟩ := h
  obtain ⟨u, rfl, ru⟩ := vals1 r
  obtain rfl : u = Value.ref a := ru
  obtain ⟨f, fd, ps, hs, hf, F, hb⟩ := (d C sp eS).ex
  obtain ⟨ox, od, J⟩ := ins_at I ea
  refine PySem.W.kso_call (by have := hr.un; show X.A.units + 1 + 1 < _; omega) I.kIn J hs hf (thn (run_at F hG (hr.in1 (k := k + 1)).in1 (fun e => e.in1.in1) hb I (vs := [.ref a]) (.cons rfl .nil) q) fun v s' z => ?_)
  obtain ⟨x, H1, I1, rx, y, rfl, q1⟩ := z
  obtain ⟨tk, rfl⟩ := (show ∃ t, v = Value.str y t from rx)
  exact ⟨.str y, H1, I1, ⟨tk, rfl⟩, q1⟩
end
end Rh
/-! DL14: calls of own defs, classes, methods, classmethods with values and keywords; properties. -/
namespace Rh
open PySem PySem.Spec PyProof.Rows L2

/-! ### values put in the parameters' order -/
def pickL {α : Type} (ixs : List Nat) (l : List α) : List α := ixs.filterMap fun i => l[i]?
theorem pick_vals {xs : List V} {us : List Value} (r : Vals xs us) : ∀ ixs : List Nat, Vals (pickL ixs xs) (pickL ixs us)
  | [] => .nil
  | i :: is => by
    unfold pickL
    rw [List.filterMap_cons, List.filterMap_cons]
    cases e : xs[i]? with
    | none =>
      have e2 : us[i]? = none := List.getElem?_eq_none (by have := List.getElem?_eq_none_iff.mp e; rw [← r.length]; exact this)
      rw [e2]
      exact pick_vals r is
    | some x =>
      obtain ⟨u, e2, ru⟩ := r.get e
      rw [e2]
      exact .cons ru (pick_vals r is)
theorem pick_has {K : PySem.W.Frag} {H : Hp} {M : DHp} {ds : List D} {vs : List V} (r : HasL K H M ds vs) : ∀ ixs : List Nat, HasL K H M (pickL ixs ds) (pickL ixs vs)
  | [] => rfl
  | i :: is => by
    unfold pickL
    rw [List.filterMap_cons, List.filterMap_cons]
    cases e : ds[i]? with
    | none =>
      have e2 : vs[i]? = none := List.getElem?_eq_none (by have := List.getElem?_eq_none_iff.mp e; rw [r.len]; exact this)
      rw [e2]
      exact pick_has r is
    | some x =>
      obtain ⟨u, e2, ru⟩ := r.get e
      rw [e2]
      exact ⟨u, _, rfl, ru, pick_has r is⟩
abbrev KB (K : PySem.W.Frag) (fd : FuncData) (ps : List Str) (n : Nat) (ks : List Str) (ixs : List Nat) (dvs : List V) (dus : List Value) : Prop :=
  KBn K fd ps n ks (fun us ws => pickL ixs (us ++ ws ++ dus)) (fun vs zs => pickL ixs (vs ++ zs ++ dvs))
section
variable {K : PySem.W.Frag} {x qual : Str} {params : Arguments} {body : List Stmt} {scope : Scope} {dvs : List V} {kws : List (Str × V)} {f : Addr} {fd : FuncData} {ps : List Str}
theorem kb_of (F : FunD K x qual params body scope [] kws f fd) (n : Nat) (ks : List Str) (ixs : List Nat)
    (h : ∀ (kV doc pm : Value) (an : Option Addr) (cdv ct : Value) (us ws : List Value), us.length = n → ws.length = ks.length → bindArgs (PySem.W.fnOf x qual params body scope .none kV doc pm an cdv ct) ⟨us, ks.zip ws⟩ = pure (ps.zip (pickL ixs (us ++ ws ++ [])))) :
    KB K fd ps n ks ixs [] [] := by
  obtain ⟨oc, od, dV, kV, doc, pm, an, cdv, ct, osl, rfl, _, _, hD, _⟩ := F.ex
  rcases hD with ⟨_, rfl⟩ | ⟨e, _⟩
  · exact ⟨fun s us ws _ l1 l2 => .of_eq (h kV doc pm an cdv ct us ws l1 l2), fun r1 r2 => pick_vals ((r1.append r2).append .nil) ixs⟩
  · exact absurd rfl e
end

/-! ### a def as it is called -/
/-- the def at f, with n values and keywords ks; dds fill up; ixs: the parameters' order -/
def Pk (P : Program) (w : World) (K : PySem.W.Frag) (mg : Str → Option Value) (base : Heap) (k : Nat) (f : Addr) (n : Nat) (ks : List Str) (ixs : List Nat) (dds : List D) (sp : DSp) : Prop :=
  ∃ fd ps dus dvs, DFnG P w K mg base k f fd ps sp ∧ KB K fd ps n ks ixs dvs dus ∧ constL dds = some dvs
theorem Pk.mono {P : Program} {w : World} {K : PySem.W.Frag} {mg : Str → Option Value} {base : Heap} {j k n : Nat} {f : Addr} {ks : List Str} {ixs : List Nat} {dds : List D} {sp : DSp} (c : Pk P w K mg base j f n ks ixs dds sp) (h : j ≤ k) : Pk P w K mg base k f n ks ixs dds sp :=
  let ⟨fd, ps, dus, dvs, F, r⟩ := c; ⟨fd, ps, dus, dvs, F.mono h, r⟩
def noW : DWX := fun _ _ _ _ _ => False
section
variable {X : Cx} {O : Org} {k j n : Nat} {f C : Addr} {ks : List Str} {ixs : List Nat} {dds : List D} {sp : DSp} {pins : List (Addr × Obj)} {σ : L2.St} {H : Hp} {s : Shared} {us ws : List Value} {vs zs : List V} {ds es : List D} {M : DHp} {Q : VK} {Q' : DVK} {W : DWX} {τ : DSt}
theorem takes_no : L2N.Takes X (liftW X.K O noW) := fun e s' h => by
  obtain ⟨_, _, _, _, _, _, _, _, _, _, _, _, _, _, _, _, z⟩ := h
  obtain ⟨_, _, _, _, _, _, _, _, z⟩ := z
  exact z.elim
/-- it runs -/
theorem run_pk {A : Around} (c : Pk X.prog X.w X.K X.mg X.base k f n ks ixs dds sp) (hG : A.guards = some []) (hr : Room k A) (hE : ∀ {H : Hp} {s : Shared}, Env0 X.prog X.w X.K X.mg X.base X.A X.stack s H → Env0 X.prog X.w X.K X.mg X.base A X.stack s H) (tk : L2N.Takes X (liftW X.K O W))
    (I : Inv X pins σ H s) (b : Beg X.K O H M τ σ) (rv : Vals vs us) (rz : Vals zs ws) (l1 : us.length = n) (l2 : ws.length = ks.length) (hd : HasL X.K H M ds vs) (he : HasL X.K H M es zs) (q : sp (pickL ixs (ds ++ es ++ dds)) M Q' (fun C ns es M2 => W C ns es τ M2)) (P : Post X.K H M Q' Q) :
    codeAny (model X.prog X.w) A (.call (.ref f) ⟨us, ks.zip ws⟩) (fun r s' => match r with | .ok (.ret u) => EP X pins σ Q u s' | .ok _ => False | .error e => X.xe e s') s := by
  obtain ⟨fd, ps, dus, dvs, F, kb, hc⟩ := c
  have r2 := kb.rel rv rz
  have hh : HasL X.K H M (pickL ixs (ds ++ es ++ dds)) (pickL ixs (vs ++ zs ++ dvs)) := pick_has ((hd.app he).app (constL_has hc)) ixs
  refine codeAny_mono (F.run A X.stack s H ⟨us, ks.zip ws⟩ _ _ Q (WE (liftW X.K O W) σ) hG hr (hE I.env0) (kb.to s us ws I.kIn l1 l2) r2 ⟨_, M, Q', _, b.h, hh, q, P, fun C ns es M2 d H2 y f2 a2 xd => ⟨C, ns, es, τ, M2, rfl, b.step f2 a2, xd, y⟩⟩) fun r s' z => ?_
  match r, z with
  | .error ex, z => exact L2N.passAt tk σ pins H s ex s' I z
  | .ok (.ret u), z => exact I.after z
/-! ### the arguments of a call -/
/-- values and keywords of a call that stands at pos -/
structure AK (X : Cx) (pos : Pos) (es : List Expr) (kws : List Keyword) (ks : List Str) (t tk : TA) : Prop where
  run : ∀ (pins : List (Addr × Obj)) (s : Shared) (σ : L2.St) (H : Hp) (Q : List V → List V → Hp → Prop) (f : Value), Inv X pins σ H s → t σ H (fun vs H1 => tk σ H1 fun zs H2 => Q vs zs H2) →
    wpAny (model X.prog X.w) X.A (evalArgs f true (backTo pos (starEach es X.env)) (backToKw pos (keywordEach kws X.env))) (fun a s' => ∃ vs zs us ws H', Inv X pins σ H' s' ∧ Vals vs us ∧ Vals zs ws ∧ a = ⟨us, ks.zip ws⟩ ∧ Q vs zs H') X.xe s
  plain : ((backTo pos (starEach es X.env)).any (·.1) || (backToKw pos (keywordEach kws X.env)).any (·.1.isNone)) = false
abbrev DKs (X : Cx) (O : Org) (kws : List Keyword) (ts : List DTE) : Prop := PK X kws (tArgs X.K O ts)
theorem dks_nil : DKs X O [] [] := pk_nil
abbrev DAK (X : Cx) (O : Org) (pos : Pos) (es : List Expr) (kws : List Keyword) (ks : List Str) (ts tks : List DTE) : Prop := AK X pos es kws ks (tArgs X.K O ts) (tArgs X.K O tks)
theorem dak {pos : Pos} {e : Expr} {es : List Expr} {kws : List Keyword} {ts tks : List DTE} (ha : DAs X O (e :: es) ts) (hk : DKs X O kws tks) (hall : (backToKw pos (keywordEach kws X.env)).all (·.1.isSome) = true := by rfl) (hks : (backToKw pos (keywordEach kws X.env)).filterMap (·.1) = ks := by rfl)
    (hpl : ((backTo pos (starEach (e :: es) X.env)).any (·.1) || (backToKw pos (keywordEach kws X.env)).any (·.1.isNone)) = false := by rfl) (hst : starEach (e :: es) X.env = (false, eval e X.env) :: starEach es X.env := by rfl) : DAK X O pos (e :: es) kws ks ts tks := by
  refine ⟨fun pins s σ H Q f I h => ?_, hpl⟩
  refine evalArgs_kw2 hall (thn (ha.run pos pins s σ H _ I h) fun us s1 ⟨vs, H1, I1, rv, q1⟩ => thn (hk.run pos pins s1 σ H1 _ I1 q1) fun ws s2 ⟨zs, H2, I2, rz, q2⟩ => ?_) hst
  rw [hks]
  exact ⟨vs, zs, us, ws, H2, I2, rv, rz, rfl, q2⟩
/-- both lists of arguments, over data -/
def dBoth (ts tks : List DTE) (τ : DSt) (M : DHp) (Q : List D → List D → DHp → Prop) : Prop := dArgs ts τ M fun ds M1 => dArgs tks τ M1 fun es M2 => Q ds es M2
theorem both_run {pos : Pos} {es' : List Expr} {kws : List Keyword} {ts tks : List DTE} {Q2 : List D → List D → DHp → Prop} {F : Args → Shared → Prop} {fv : Value} (ha : DAK X O pos es' kws ks ts tks) (I : Inv X pins σ H s) (b : Beg X.K O H M τ σ) (t : dBoth ts tks τ M Q2)
    (k : ∀ ds es M' vs zs us ws H' s', Q2 ds es M' → ds.length = ts.length → es.length = tks.length → Fr H M H' M' → AbH X.K H' M' → HasL X.K H' M' ds vs → HasL X.K H' M' es zs → Inv X pins σ H' s' → Vals vs us → Vals zs ws → F ⟨us, ks.zip ws⟩ s') :
    wpAny (model X.prog X.w) X.A (evalArgs fv true (backTo pos (starEach es' X.env)) (backToKw pos (keywordEach kws X.env))) F X.xe s := by
  refine thn (ha.run pins s σ H (fun vs zs H' => ∃ ds es M', Q2 ds es M' ∧ ds.length = ts.length ∧ es.length = tks.length ∧ Fr H M H' M' ∧ AbH X.K H' M' ∧ HasL X.K H' M' ds vs ∧ HasL X.K H' M' es zs) fv I ?_) fun a s' ⟨vs, zs, us, ws, H', I', rv, rz, ea, ds, es, M', q, l1, l2, f, aa, h1, h2⟩ => ?_
  · exact args_lift b t fun ds M1 vs H1 q l f a h => args_lift (b.step f a) q fun es M2 zs H2 q2 l2 f2 a2 h2 => ⟨ds, es, M2, q2, l, l2, f.trans f2, a2, h.fr f2, h2⟩
  · rw [ea]
    exact k ds es M' vs zs us ws H' s' q l1 l2 f aa h1 h2 I' rv rz
/-! ### a def of the module -/
def dOwn (ixs : List Nat) (dds : List D) (sp : DSp) (W : DWX) (ts tks : List DTE) : DTE := fun τ M Q => dBoth ts tks τ M fun ds es M2 => sp (pickL ixs (ds ++ es ++ dds)) M2 Q (fun C ns es M' => W C ns es τ M')
theorem de_own {x : Str} {p pos : Pos} {es' : List Expr} {kws : List Keyword} {ts tks : List DTE} (hm : X.mg x = some (.ref f)) (hkp : PySem.W.keepIn X.K (.ref f) = true) (c : Pk X.prog X.w X.K X.mg X.base j f n ks ixs dds sp) (hG : X.A.guards = some []) (hr : Room k X.A) (hj : j ≤ k) (hg : Gl X x) (tk : L2N.Takes X (liftW X.K O W)) (ha : DAK X O pos es' kws ks ts tks)
    (hn : ts.length = n := by rfl) (hn2 : tks.length = ks.length := by rfl) (hdb : (x == ("__debug__" : Str)) = false := by decide) : DE X O (.Call (.Name x p) es' kws pos) (dOwn ixs dds sp W ts tks) := ⟨fun pins s σ H Q I h => by
  obtain ⟨τ, M, Q', b, t, P⟩ := h
  refine wpAny_Call_Name_kw (ld_glob I hg hm ?_ hdb)
  refine PySem.W.callWith_of (P := X.K.In) ha.plain (PySem.W.keeps_K hkp) (both_run ha I b t fun ds es M' vs zs us ws H' s' q l1 l2 f' a' h1 h2 I' rv rz => ⟨I'.kIn, ?_⟩)
  exact wpAny_call (run_pk (c.mono hj) hG hr (fun e => e) tk I' (b.step f' a') rv rz (rv.length.symm.trans (h1.len.trans (l1.trans hn))) (rz.length.symm.trans (h2.len.trans (l2.trans hn2))) h1 h2 q (P.tr f'))⟩
/-! ### a class of the module -/
def dMk (fz : Bool) (C : Addr) (ixs : List Nat) (dds : List D) (sp : DSp) (W : DWX) (ts tks : List DTE) : DTE := fun τ M Q => dBoth ts tks τ M fun ds es M1 => ∀ x, M1 x = none → sp (pickL ixs (.ref x :: ds ++ es ++ dds)) (up M1 x (.ins C [] [])) (fun v M2 => v = .non ∧ match fz with
  | false => Q (.ref x) M2
  | true => ∃ M3 ns es, Sub (up M3 x (.ins C ns es)) M2 ∧ M3 x = none ∧ Q (.obj C ns es) M3) (fun C' ns es' M2 => ∃ M3, Sub M3 M2 ∧ W C' ns es' τ M3)
theorem run_mk {fz : Bool} (Mk_ : Mk X.K C f) (c : Pk X.prog X.w X.K X.mg X.base k f (n + 1) ks ixs dds sp) (hG : X.A.guards = some []) (hr : Room (k + 1) X.A) (tk : L2N.Takes X (liftW X.K O W)) (I : Inv X pins σ H s) (b : Beg X.K O H M τ σ) (rv : Vals vs us) (rz : Vals zs ws) (l1 : us.length = n) (l2 : ws.length = ks.length)
    (hd : HasL X.K H M ds vs) (he : HasL X.K H M es zs) (P : Post X.K H M Q' Q) (q : ∀ x, M x = none → sp (pickL ixs (.ref x :: ds ++ es ++ dds)) (up M x (.ins C [] [])) (fun v M2 => v = .non ∧ match fz with
      | false => Q' (.ref x) M2
      | true => ∃ M3 ns es, Sub (up M3 x (.ins C ns es)) M2 ∧ M3 x = none ∧ Q' (.obj C ns es) M3) (fun C' ns es' M2 => ∃ M3, Sub M3 M2 ∧ W C' ns es' τ M3)) :
    wpAny (model X.prog X.w) X.A (call (.ref C) us (ks.zip ws)) (EP X pins σ Q) X.xe s := by
  have n1 : H (s.heap.objs.size + 1) = none := I.hok.fresh (Nat.le_succ _)
  have n0 : H s.heap.objs.size = none := I.hok.fresh (Nat.le_refl _)
  have ne : s.heap.objs.size ≠ s.heap.objs.size + 1 := Nat.ne_of_lt (Nat.lt_succ_self _)
  have I2 := Inv.made (C := C) I
  have nd : (upd H s.heap.objs.size (.own (s.heap.objs.size + 1))) (s.heap.objs.size + 1) = none := by rw [upd_ne (Ne.symm ne)]; exact n1
  have f2 : Fr H M (upd (upd H s.heap.objs.size (.own (s.heap.objs.size + 1))) (s.heap.objs.size + 1) (.ins C s.heap.objs.size [])) (up M (s.heap.objs.size + 1) (.ins C [] [])) := (Fr.new n0).trans (Fr.newT nd)
  have a2 : AbH X.K (upd (upd H s.heap.objs.size (.own (s.heap.objs.size + 1))) (s.heap.objs.size + 1) (.ins C s.heap.objs.size [])) (up M (s.heap.objs.size + 1) (.ins C [] [])) := (b.h.new n0).newT nd ⟨s.heap.objs.size, [], upd_same, rfl, rfl⟩
  have hx : HasL X.K _ _ (D.ref (s.heap.objs.size + 1) :: ds) (V.ref (s.heap.objs.size + 1) :: vs) := HasL.cons (show Has X.K _ (up M (s.heap.objs.size + 1) (.ins C [] [])) (.ref _) (.ref _) from rfl) (hd.fr f2)
  refine wpAny_call (make_map (f := f) I.kIn Mk_.makes Mk_.init (beq_iff_eq.mp Mk_.fn) ?_)
  refine codeAny_mono (run_pk (vs := V.ref (s.heap.objs.size + 1) :: vs) (Q := fun v H3 => v = .non ∧ Q (.ref (s.heap.objs.size + 1)) H3) (W := fun C' ns es' τ M2 => ∃ M3, Sub M3 M2 ∧ W C' ns es' τ M3) (τ := τ) c hG (hr.make C us (ks.zip ws)) (fun e => e.make C us (ks.zip ws)) ?_ I2 (b.step f2 a2) (.cons rfl rv) rz (by rw [List.length_cons, l1]) l2 hx (he.fr f2) (q _ (b.h.fresh n1)) ?_) fun r s' z => ?_
  · refine tk.imp fun cls d σ H1 ⟨C', ns, es', τ', M1, e1, b1, x1, M3, z, w1⟩ => ⟨C', ns, es', τ', M3, e1, ⟨b1.fr.less z, b1.s.less z, b1.h.less z⟩, x1.fr ((Fr.refl H1 M1).less z), w1⟩
  · intro d M3 v H3 q3 f3 a3 h3
    obtain ⟨rfl, q3⟩ := q3
    refine ⟨h3, ?_⟩
    cases fz with
    | false => exact P _ M3 _ H3 q3 (f2.trans f3) a3 rfl
    | true =>
      obtain ⟨M4, ns, es, z1, z2, z3⟩ := q3
      obtain ⟨dx', ws, e1, le1, r1⟩ := a3 _ _ (z1 _ _ up_same)
      have s4 : Sub M4 M3 := Sub.trans ((Sub.refl M4).up z2) z1
      exact P _ M4 _ H3 z3 ((f2.trans f3).less s4) (a3.less s4) ⟨_, dx', ws, rfl, z2, e1, le1, r1.fr ((Fr.refl H3 M3).less s4)⟩
  · match r, z with
    | .error ex, z => exact z
    | .ok (.ret u), z =>
      obtain ⟨v, H', I3, rv3, ev, q3⟩ := z
      subst ev
      exact ⟨rv3, ⟨V.ref (s.heap.objs.size + 1), H', I3, rfl, q3⟩⟩
theorem de_mk {x : Str} {p pos : Pos} {es' : List Expr} {kws : List Keyword} {ts tks : List DTE} (fz : Bool) (Mk_ : Mk X.K C f) (hm : X.mg x = some (.ref C)) (c : Pk X.prog X.w X.K X.mg X.base j f (n + 1) ks ixs dds sp) (hG : X.A.guards = some []) (hr : Room k X.A) (hj : j + 1 ≤ k) (hg : Gl X x) (tk : L2N.Takes X (liftW X.K O W)) (ha : DAK X O pos es' kws ks ts tks)
    (hn : ts.length = n := by rfl) (hn2 : tks.length = ks.length := by rfl) (hdb : (x == ("__debug__" : Str)) = false := by decide) : DE X O (.Call (.Name x p) es' kws pos) (dMk fz C ixs dds sp W ts tks) := ⟨fun pins s σ H Q I h => by
  obtain ⟨τ, M, Q', b, t, P⟩ := h
  refine wpAny_Call_Name_kw (ld_glob I hg hm ?_ hdb)
  refine PySem.W.callWith_of (P := X.K.In) ha.plain (PySem.W.keeps_K Mk_.kp) (both_run ha I b t fun ds es M' vs zs us ws H' s' q l1 l2 f' a' h1 h2 I' rv rz => ⟨I'.kIn, ?_⟩)
  exact run_mk (fz := fz) Mk_ c hG (hr.mono hj) tk I' (b.step f' a') rv rz (rv.length.symm.trans (h1.len.trans (l1.trans hn))) (rz.length.symm.trans (h2.len.trans (l2.trans hn2))) h1 h2 (P.tr f') q⟩
/-- the class stands in a local name -/
def dMkV (fz : Bool) (i : Nat) (C : Addr) (ixs : List Nat) (dds : List D) (sp : DSp) (W : DWX) (ts tks : List DTE) : DTE := fun τ M Q => sl τ i = some (.ref C) ∧ dMk fz C ixs dds sp W ts tks τ M Q
theorem de_mkV {i : Nat} {x : Str} {p pos : Pos} {es' : List Expr} {kws : List Keyword} {ts tks : List DTE} (fz : Bool) (hv : PE X (.Name x p) (tVar i)) (Mk_ : Mk X.K C f) (c : Pk X.prog X.w X.K X.mg X.base j f (n + 1) ks ixs dds sp) (hG : X.A.guards = some []) (hr : Room k X.A) (hj : j + 1 ≤ k) (tk : L2N.Takes X (liftW X.K O W)) (ha : DAK X O pos es' kws ks ts tks)
    (hn : ts.length = n := by rfl) (hn2 : tks.length = ks.length := by rfl) : DE X O (.Call (.Name x p) es' kws pos) (dMkV fz i C ixs dds sp W ts tks) := ⟨fun pins s σ H Q I h => by
  obtain ⟨τ, M, Q', b, ⟨ei, t⟩, P⟩ := h
  obtain ⟨v0, e0, r0⟩ := b.s.get i _ (sl_get ei)
  obtain rfl : v0 = .ref C := r0
  refine wpAny_Call_Name_kw (thn (hv.run pins s σ H (fun v H1 => v = .ref C ∧ H1 = H) I ⟨.ref C, e0, rfl, rfl⟩) fun u s1 ⟨v, H1, I1, r1, e1, e2⟩ => ?_)
  subst e1 e2
  obtain rfl : u = Value.ref C := r1
  refine PySem.W.callWith_of (P := X.K.In) ha.plain (PySem.W.keeps_K Mk_.kp) (both_run ha I1 b t fun ds es M' vs zs us ws H' s' q l1 l2 f' a' h1 h2 I' rv rz => ⟨I'.kIn, ?_⟩)
  exact run_mk (fz := fz) Mk_ c hG (hr.mono hj) tk I' (b.step f' a') rv rz (rv.length.symm.trans (h1.len.trans (l1.trans hn))) (rz.length.symm.trans (h2.len.trans (l2.trans hn2))) h1 h2 (P.tr f') q⟩
end
end Rh
/-! DL15: methods, classmethods, properties; len, str, bool of own objects, over data. -/
namespace Rh
open PySem PySem.Spec PyProof.Rows L2

section
variable {X : Cx} {O : Org} {k j n : Nat} {f C : Addr} {ks : List Str} {ixs : List Nat} {dds : List D} {sp : DSp} {W : DWX}
/-! ### methods -/
/-! ### classmethods -/
def dCm (C : Addr) (ixs : List Nat) (dds : List D) (sp : DSp) (W : DWX) (to : DTE) (ts tks : List DTE) : DTE := fun τ M Q => to τ M fun x M1 => x = .ref C ∧ dBoth ts tks τ M1 fun ds es M2 => sp (pickL ixs (.ref C :: ds ++ es ++ dds)) M2 Q (fun C' ns es' M' => W C' ns es' τ M')
theorem de_cm {m : Str} {mc : Value} {p0 : Addr} {o : Expr} {to : DTE} {apos pos : Pos} {es' : List Expr} {kws : List Keyword} {ts tks : List DTE} {pl : Sem Bool} (ho : DE X O o to) (hR : ClX.CRead X.K C mc) (hM : ClX.CMet X.K C mc m p0 f) (c : Pk X.prog X.w X.K X.mg X.base j f (n + 1) ks ixs dds sp) (hG : X.A.guards = some []) (hr : Room k X.A) (hj : j ≤ k) (tk : L2N.Takes X (liftW X.K O W)) (ha : DAK X O pos es' kws ks ts tks)
    (hn : ts.length = n := by rfl) (hn2 : tks.length = ks.length := by rfl)
    (ht : eval (.Call (.Attribute o m apos) es' kws pos) X.env = (do let ov ← eval o X.env; standAt apos.atName; let (f, first) ← holding [ov] (getMethod ov m pl); callWith pos f first (backTo pos (starEach es' X.env)) (backToKw pos (keywordEach kws X.env))) := by rfl) :
    DE X O (.Call (.Attribute o m apos) es' kws pos) (dCm C ixs dds sp W to ts tks) := ⟨fun pins s σ H Q I h => by
  obtain ⟨τ, M, Q', b, t, P⟩ := h
  refine PySem.W.methodCall_KW (pl := pl) (thn (ho.run pins s σ H (fun v H1 => ∃ M1, Fr H M H1 M1 ∧ AbH X.K H1 M1 ∧ v = .ref C ∧ dBoth ts tks τ M1 fun ds es M2 => sp (pickL ixs (.ref C :: ds ++ es ++ dds)) M2 Q' (fun C' ns es' M' => W C' ns es' τ M')) I
    ⟨τ, M, _, b, t, fun x M1 v H1 q f a hx => ?_⟩) fun u s1 ⟨v, H1, I1, rx, M1, f1, a1, ev, q⟩ => ?_) ht
  · obtain ⟨rfl, q⟩ := q
    exact ⟨M1, f, a, hx, q⟩
  subst ev
  obtain rfl : u = Value.ref C := rx
  refine ClX.getmethcm_ok I1 hR hM fun s2 I2 => ?_
  refine PySem.W.callWith_of (P := PySem.W.MethP X.K s1.heap.objs.size f (.ref C)) ha.plain (PySem.W.keeps_M hM.fi) (both_run ha I2 (b.step f1 a1) q fun ds es M' vs zs us ws H' s' q l1 l2 f' a' h1 h2 I' rv rz => ⟨⟨ClX.pin_at I', I'.kIn⟩, ?_⟩)
  refine wpAny_call (PySem.W.method_call (ClX.pin_at I') (codeAny_mono (run_pk (us := Value.ref C :: us) (vs := V.ref C :: vs) (ds := .ref C :: ds) (c.mono hj) hG hr (fun e => e) tk I' ((b.step f1 a1).step f' a') (.cons rfl rv) rz (congrArg Nat.succ (rv.length.symm.trans (h1.len.trans (l1.trans hn)))) (rz.length.symm.trans (h2.len.trans (l2.trans hn2))) (HasL.cons rfl h1) h2 q (P.tr (f1.trans f'))) fun r s' z => ?_))
  match r, z with
  | .error ex, z => exact z
  | .ok (.ret u), z => exact ClX.unpinE z⟩
/-! ### properties -/
def PrOk (P : Program) (w : World) (K : PySem.W.Frag) (mg : Str → Option Value) (base : Heap) (k : Nat) (m : Str) (S : Addr → Option DSp) : Prop := ∀ C sp, S C = some sp → Cls K C ∧ ∃ p g, PropOf K C m p g ∧ Pk P w K mg base k g 1 [] [0] [] sp
def dPr (S : Addr → Option DSp) (to : DTE) : DTE := fun τ M Q => to τ M fun x M1 => wth (insOf x M1) fun c => wth (S c.1) fun sp => sp [x] M1 Q noX
theorem de_pr {m : Str} {S : Addr → Option DSp} {e : Expr} {te : DTE} {pos : Pos} (he : DE X O e te) (hS : PrOk X.prog X.w X.K X.mg X.base j m S) (hG : X.A.guards = some []) (hr : Room k X.A) (hj : j + 1 ≤ k) (hab : attributeBase e m X.env (eval e X.env) = eval e X.env := by rfl) : DE X O (.Attribute e m pos) (dPr S te) := ⟨fun pins s σ H Q I h => by
  obtain ⟨τ, M, Q', b, t, P⟩ := h
  refine attr_of hab (thn (he.run pins s σ H (fun v H1 => ∃ x M1, Fr H M H1 M1 ∧ AbH X.K H1 M1 ∧ Has X.K H1 M1 x v ∧ wth (insOf x M1) fun c => wth (S c.1) fun sp => sp [x] M1 Q' noX) I ⟨τ, M, _, b, t, fun x M1 v H1 q f a hx => ⟨x, M1, f, a, hx, q⟩⟩) fun u s1 ⟨v, H1, I1, rx, x, M1, f1, a1, hx, q⟩ => ?_)
  obtain ⟨⟨C, ns, dd⟩, e1, q⟩ := wth_of q
  obtain ⟨sp, e2, q⟩ := wth_of q
  obtain ⟨ad, dx, vs0, rfl, e3, l0, r0⟩ := insOf_at a1 hx e1
  obtain rfl : u = Value.ref ad := rx
  obtain ⟨c, p, g, hp, pk⟩ := hS C sp e2
  obtain ⟨ox, od, J⟩ := ins_at I1 e3
  obtain ⟨rest, hrec⟩ := hp.rec_
  have I2 := I1.tok (s1.toks + 1)
  have hc : (PySem.W.clsIn X.K C).isSome = true := by
    obtain ⟨cd, hc, _⟩ := PySem.W.any_some c.hd
    rw [hc] <;> rfl
  refine PySem.W.get_bind I1.kIn J (PySem.W.plainGet_of (c.get m)).1 (PySem.W.findObj_data hc hp.at_ hp.get hp.tak) (PySem.W.plainGet_of (c.get m)).2 (wpAny_call (PySem.W.prop_get (s := { s1 with toks := s1.toks + 1 }) I1.kIn hrec ?_))
  refine codeAny_mono (run_pk (X := X.nox) (A := X.A.in1) (W := noW) (us := [Value.ref ad]) (vs := [V.ref ad]) (ws := []) (zs := []) (ks := []) (ds := [x]) (es := []) (τ := τ) (pk.mono (Nat.le_refl j)) hG ((hr.mono hj).in1 (k := j)) (fun e => e.in1) takes_no (I2.wish _) (b.step f1 a1) (.cons rfl .nil) .nil rfl rfl (HasL.one hx) HasL.nil q (P.tr f1)) fun r s' z => ?_
  match r, z with
  | .error ex, z => exact False.elim z
  | .ok (.ret u), z =>
    obtain ⟨v, H', I3, rv, q3⟩ := z
    have I3 : Inv X pins σ H' s' := I3.wish X.xe
    show wpAny _ _ (handedOut u) _ _ _
    rw [PySem.W.handedOut_of (handed_of rv)]
    exact wpAny_pure ⟨v, H', I3, rv, q3⟩⟩
/-! ### len, str, bool -/
def DnOk (P : Program) (w : World) (K : PySem.W.Frag) (mg : Str → Option Value) (base : Heap) (k : Nat) (m : Str) (S : Addr → Option DSp) : Prop := ∀ C sp, S C = some sp → Dun P w K mg base k C m (liftSp K sp)
def liftTab (K : PySem.W.Frag) (S : Addr → Option DSp) : Addr → Option Sp := fun C => (S C).map (liftSp K)
theorem DnOk.up {m : Str} {S : Addr → Option DSp} (h : DnOk X.prog X.w X.K X.mg X.base k m S) : ∀ C sp, liftTab X.K S C = some sp → Dun X.prog X.w X.K X.mg X.base k C m sp := fun C sp e => by
  unfold liftTab at e
  cases q : S C with
  | none => rw [q] at e; cases e
  | some s0 =>
    rw [q] at e
    cases e
    exact h C s0 q
/-- what a special method of an own object gives -/
def ownD (S : Addr → Option DSp) (g : D → DHp → DVK → Prop) (els : D → DHp → DVK → Prop) : DR := rOne fun d M Q => match insOf d M with
  | some c => wth (S c.1) fun sp => sp [d] M (fun e M' => g e M' Q) noX
  | none => els d M Q
def gInt : D → DHp → DVK → Prop := fun e M Q => match e with
  | .int n => 0 ≤ n ∧ n < 2 ^ 63 ∧ Q (.int n) M
  | _ => False
def gStr : D → DHp → DVK → Prop := fun e M Q => match e with
  | .str n => Q (.str n) M
  | _ => False
def lenEl : D → DHp → DVK → Prop := fun d M Q => wth (lenD d M) fun n => Q (.int n) M
def rLenD (S : Addr → Option DSp) : DR := ownD S gInt lenEl
def rLenA (K : PySem.W.Frag) (S : Addr → Option DSp) : R1 := fun xs H Q => rLenAll K xs H Q ∨ rLenO (liftTab K S) xs H Q
theorem len_own {S : Addr → Option DSp} (h : DnOk X.prog X.w X.K X.mg X.base j "__len__" S) (hG : X.A.guards = some []) (hr : Room k X.A) (hj : j + 1 ≤ k) : CallR X (.builtin "len") (rLenA X.K S) := CallR.or len_all (call_lenO h.up hG (hr.mono hj))
theorem ref_lenO {K : PySem.W.Frag} {S : Addr → Option DSp} : RefL K (rLenA K S) (rLenD S) := fun H M xs ds Q Q' A hx t P => by
  match ds, t, hx with
  | [d], t, hx =>
    obtain ⟨x, rfl, h1⟩ := hasL1 hx
    change (match insOf d M with | some c => _ | none => _) at t
    split at t
    · rename_i c e
      obtain ⟨sp, e2, t⟩ := wth_of t
      obtain ⟨ad, dx, vs, rfl, e3, l, r⟩ := insOf_at A h1 (C := c.1) (ns := c.2.1) (ds := c.2.2) e
      exact .inr ⟨ad, c.1, dx, _, liftSp K sp, rfl, e3, by unfold liftTab; rw [e2] <;> rfl, [d], M, _, noX, A, hx, t, fun e M' v H' q f a hv => by
        cases e <;> first | exact q.elim | skip
        exact ⟨_, hv, q.1, q.2.1, P _ M' _ H' q.2.2 f a rfl⟩, PostX.no⟩
    · exact .inl (ref_len H M [x] [d] Q Q' A hx t P)
def strEl : D → DHp → DVK → Prop := fun d M Q => rStrD [d] M Q
def rStrDO (S : Addr → Option DSp) : DR := ownD S gStr strEl
def rStrA (K : PySem.W.Frag) (S : Addr → Option DSp) : R1 := fun xs H Q => rStrAll xs H Q ∨ rStrO (liftTab K S) xs H Q
theorem str_own {S : Addr → Option DSp} (h : DnOk X.prog X.w X.K X.mg X.base j "__str__" S) (hG : X.A.guards = some []) (hr : Room k X.A) (hj : j + 2 ≤ k) : CallR X (.type "str") (rStrA X.K S) := CallR.or str_all (call_strO h.up hG (hr.mono hj))
theorem ref_strO {K : PySem.W.Frag} {S : Addr → Option DSp} : RefL K (rStrA K S) (rStrDO S) := fun H M xs ds Q Q' A hx t P => by
  match ds, t, hx with
  | [d], t, hx =>
    obtain ⟨x, rfl, h1⟩ := hasL1 hx
    change (match insOf d M with | some c => _ | none => _) at t
    split at t
    · rename_i c e
      obtain ⟨sp, e2, t⟩ := wth_of t
      obtain ⟨ad, dx, vs, rfl, e3, l, r⟩ := insOf_at A h1 (C := c.1) (ns := c.2.1) (ds := c.2.2) e
      exact .inr ⟨ad, c.1, dx, _, liftSp K sp, rfl, e3, by unfold liftTab; rw [e2] <;> rfl, [d], M, _, noX, A, hx, t, fun e M' v H' q f a hv => by
        cases e <;> first | exact q.elim | skip
        exact ⟨_, hv, P _ M' _ H' q f a rfl⟩, PostX.no⟩
    · exact .inl (ref_str H M [x] [d] Q Q' A hx t P)
end
end Rh
/-! DL16: the head's facts: Bools of the written part, defs wherever they stand. -/
namespace Rh
open PySem PySem.Spec PyProof.Rows L2

/-! ### the Hook -/
abbrev FB := PySem.W.Frag → Bool
abbrev AlR : Type := He.AlD × Bool
def obsR (n : Nat) (ex : List FB) (fn : List He5.DefA) (g : Addr → Option Obj) : AlR := (He5.obsAG n [] fn g, ex.all fun b => b (He.frG g (He5.asA g n)))
structure SaysR (ex : List FB) (fn : List He5.DefA) (K : PySem.W.Frag) : Prop where
  d : He5.SaysA [] fn K
  more : ex.all (fun b => b K) = true
def hookR (n : Nat) (ex : List FB) (fn : List He5.DefA) : PySem.W.Hook :=
  { α := AlR, obs := fun s => obsR n ex fn s.heap.get?, val := fun _ => (He5.valA fn, true), says := fun _ h => ∃ K : PySem.W.Frag, K.In h ∧ SaysR ex fn K,
    of := fun _ _ e => ⟨_, He.frG_in, ⟨congrArg (fun z : AlR => z.1) e, congrArg (fun z : AlR => z.2) e⟩⟩,
    keeps := fun _ _ _ ⟨K, i, c⟩ k => ⟨K, i.keeps k, c⟩ }
theorem obsR_eq {n : Nat} {ex : List FB} {fn : List He5.DefA} {g : Addr → Option Obj} {s : Shared} (h : ∀ a, g a = s.heap.get? a) : obsR n ex fn g = (hookR n ex fn).obs s := by
  obtain rfl : g = s.heap.get? := funext h
  rfl
section
variable {ex : List FB} {fn : List He5.DefA} {K : PySem.W.Frag}
theorem SaysR.fact (c : SaysR ex fn K) (i : Nat) {b : FB} (h : ex[i]? = some b := by rfl) : b K = true := List.all_eq_true.mp c.more b (List.mem_of_getElem? h)
theorem SaysR.def_ (c : SaysR ex fn K) (i : Nat) {d : He5.DefA} (h : fn[i]? = some d := by rfl) : ∃ fd, FunD K d.name d.qual d.params d.body d.scope (d.dvs K) (d.kws K) (d.at_ K) fd := c.d.def_ i h
end
/-! ### facts -/
def bF (f : He.Fa) : FB := fun K => f.ok K
/-- C's property m -/
def bPr (C m : Str) : FB := fun K => He.eqO (PySem.W.findIn K (.ref (He.ga K C)) m) (some (some (.ref (He.ma K (He.ga K C) m)))) && (He.eqO (PySem.W.specialIn K (.ref (He.ma K (He.ga K C) m)) "__get__") (some (some (.builtin "property.__get__"))) && (decide (PySem.W.takesIn K (.ref (He.ma K (He.ga K C) m)) = some true) && match PySem.W.recIn K (He.ma K (He.ga K C) m) "property" with
  | some (.ref _ :: _) => true
  | _ => false))
/-- what an own class must have for isinstance -/
def bOwn (C : Str) : FB := fun K => He.eqO (PySem.W.findIn K (.ref (He.ga K C)) "__class__") (some (some (.builtin "object.__class__"))) && (He.eqO (PySem.W.specialIn K (.builtin "object.__class__") "__get__") (some (some (.builtin "getset_descriptor.__get__"))) && (decide (PySem.W.takesIn K (.builtin "object.__class__") = some true) && decide (PySem.W.mroIn K (He.ga K C) (.type "object") = some true)))
/-- C's classmethod m; C is read as classes are -/
def bCm (C m : Str) : FB := fun K => He5.wrapB K (He.ga K C) "classmethod" "classmethod.__get__" m && PySem.W.fnIn K (He5.wf K (He.ga K C) "classmethod" m)
def bRd (C : Str) : FB := fun K => PySem.W.readsIn K (He.ga K C) (.type "type") && He.eqO (PySem.W.specialIn K (.ref (He.ga K C)) "__getattribute__") (some (some (.builtin "type.__getattribute__")))
/-- an instance of a is one of c -/
def bKit (a c : PySem.W.Frag → Value) (b : Bool) : FB := fun K => decide (PySem.W.kitOne K (a K) (c K) = some b)
/-- the built-in types' values are none of C -/
def bNo (C : Str) : FB := fun K => [Ty0.non, .bl, .int, .str, .lst, .tup, .dic].all fun t => decide (PySem.W.kitOne K (.type t.nm) (.ref (He.ga K C)) = some false)
section
variable {K : PySem.W.Frag} {C m : Str}
theorem bPr_ok (h : bPr C m K = true) : PropOf K (He.ga K C) m (He.ma K (He.ga K C) m) (He5.wf K (He.ga K C) "property" m) := by
  obtain ⟨h1, h⟩ := He.ba h
  obtain ⟨h2, h⟩ := He.ba h
  obtain ⟨h3, h4⟩ := He.ba h
  refine ⟨He.eqO_ok h1, He.eqO_ok h2, of_decide_eq_true h3, ?_⟩
  clear h1 h2 h3
  unfold He5.wf
  split at h4
  · rename_i f r e
    exact ⟨r, by rw [e]⟩
  · cases h4
theorem bOwn_ok (h : bOwn C K = true) (c : Cls K (He.ga K C)) : OwnC K (He.ga K C) := by
  obtain ⟨h1, h⟩ := He.ba h
  obtain ⟨h2, h⟩ := He.ba h
  obtain ⟨h3, h4⟩ := He.ba h
  exact ⟨c, He.eqO_ok h1, He.eqO_ok h2, of_decide_eq_true h3, of_decide_eq_true h4⟩
theorem bCm_ok (h : bCm C m K = true) : ClX.CMet K (He.ga K C) (.type "type") m (He.ma K (He.ga K C) m) (He5.wf K (He.ga K C) "classmethod" m) := let ⟨h1, h2⟩ := He.ba h; He5.cmet_of h1 h2
theorem bRd_ok (h : bRd C K = true) : ClX.CRead K (He.ga K C) (.type "type") := let ⟨h1, h2⟩ := He.ba h; ⟨h1, He.eqO_ok h2⟩
theorem bKit_ok {a c : PySem.W.Frag → Value} {b : Bool} (h : bKit a c b K = true) : PySem.W.kitOne K (a K) (c K) = some b := of_decide_eq_true h
theorem bNo_ok (h : bNo C K = true) (t : Ty0) : PySem.W.kitOne K (.type t.nm) (.ref (He.ga K C)) = some false := of_decide_eq_true (List.all_eq_true.mp h t (by cases t <;> simp))
end
end Rh
/-! DL17: packages of callees, tables, what the printed texts use. -/
namespace Rh
open PySem PySem.Spec PyProof.Rows L2

/-- the own classes' objects -/
structure CT where
  Heaps : Addr
  Yard : Addr
  Book : Addr
  WrongValue : Addr
  WrongName : Addr
  NoAnswer : Addr
  InvalidText : Addr
  InvalidKinds : Addr
  NotHeaps : Addr
  InvalidNumber : Addr
  InvalidTable : Addr
  InvalidRow : Addr
  InvalidHighs : Addr
  InvalidDepths : Addr
  NoPlan : Addr
  Run : Addr
  Mark : Addr
  Trial : Addr
  Attempt : Addr
  InvalidName : Addr
  InvalidWish : Addr
  InvalidIndex : Addr
  UnknownName : Addr
  TooFew : Addr
  NothingToUndo : Addr
  Broken : Addr
  other : Str → Addr
  lamd : Nat → LamDesc
/-- a table of one class -/
def tab1 {α : Type} (C : Addr) (x : α) : Addr → Option α := fun a => if a = C then some x else none
theorem tab1_self {α : Type} (C : Addr) (x : α) : tab1 C x C = some x := by unfold tab1; exact if_pos rfl
theorem tab1_of {α : Type} {C D : Addr} {x y : α} (h : tab1 C x D = some y) : D = C ∧ y = x := by
  unfold tab1 at h
  split at h
  · rename_i e; cases h; exact ⟨e, rfl⟩
  · cases h
section
variable (P : Program) (w : World) (K : PySem.W.Frag) (mg : Str → Option Value) (base : Heap)
def OwnP (j : Nat) (x : Str) (n : Nat) (ks : List Str) (ixs : List Nat) (dds : List D) (sp : DSp) : Prop := ∃ f, mg x = some (.ref f) ∧ PySem.W.keepIn K (.ref f) = true ∧ Pk P w K mg base j f n ks ixs dds sp
def MkP (j : Nat) (C : Addr) (n : Nat) (ks : List Str) (ixs : List Nat) (dds : List D) (sp : DSp) : Prop := ∃ f, Mk K C f ∧ Pk P w K mg base j f (n + 1) ks ixs dds sp
def CmP (j : Nat) (C : Addr) (m : Str) (n : Nat) (ks : List Str) (ixs : List Nat) (dds : List D) (sp : DSp) : Prop := ∃ mc p f, ClX.CRead K C mc ∧ ClX.CMet K C mc m p f ∧ Pk P w K mg base j f (n + 1) ks ixs dds sp
end
section
variable {P : Program} {w : World} {K : PySem.W.Frag} {mg : Str → Option Value} {base : Heap} {j n : Nat} {f C : Addr} {fd : FuncData} {ps ks : List Str} {ixs : List Nat} {sp : DSp} {m x : Str}
theorem pk_of (F : DFnG P w K mg base j f fd ps sp) (b : KB K fd ps n ks ixs [] []) : Pk P w K mg base j f n ks ixs [] sp := ⟨fd, ps, [], [], F, b, rfl⟩
theorem pr_of {p : Addr} (c : Cls K C) (h : PropOf K C m p f) (b : Pk P w K mg base j f 1 [] [0] [] sp) : PrOk P w K mg base j m (tab1 C sp) := fun D z e => by
  obtain ⟨rfl, rfl⟩ := tab1_of e
  exact ⟨c, p, f, h, b⟩
theorem dn_of (h : Meth K C m f) (F : DFnG P w K mg base j f fd ps sp) (b : Binds K fd ps []) : DnOk P w K mg base j m (tab1 C sp) := fun D z e => by
  obtain ⟨rfl, rfl⟩ := tab1_of e
  exact ⟨f, fd, ps, h.at_, h.fn, F, b⟩
end
section
variable {X : Cx} {O : Org} {k j n : Nat} {C : Addr} {ks : List Str} {ixs : List Nat} {dds : List D} {sp : DSp} {W : DWX} {x m : Str} {p pos apos : Pos} {es' : List Expr} {kws : List Keyword} {ts tks : List DTE} {o : Expr} {to : DTE}
theorem de_ownP (c : OwnP X.prog X.w X.K X.mg X.base j x n ks ixs dds sp) (hG : X.A.guards = some []) (hr : Room k X.A) (hj : j ≤ k) (hg : Gl X x) (tk : L2N.Takes X (liftW X.K O W)) (ha : DAK X O pos es' kws ks ts tks)
    (hn : ts.length = n := by rfl) (hn2 : tks.length = ks.length := by rfl) (hdb : (x == ("__debug__" : Str)) = false := by decide) : DE X O (.Call (.Name x p) es' kws pos) (dOwn ixs dds sp W ts tks) :=
  let ⟨_, h1, h2, h3⟩ := c; de_own h1 h2 h3 hG hr hj hg tk ha hn hn2 hdb
theorem de_mkP (fz : Bool) (c : MkP X.prog X.w X.K X.mg X.base j C n ks ixs dds sp) (hm : X.mg x = some (.ref C)) (hG : X.A.guards = some []) (hr : Room k X.A) (hj : j + 1 ≤ k) (hg : Gl X x) (tk : L2N.Takes X (liftW X.K O W)) (ha : DAK X O pos es' kws ks ts tks)
    (hn : ts.length = n := by rfl) (hn2 : tks.length = ks.length := by rfl) (hdb : (x == ("__debug__" : Str)) = false := by decide) : DE X O (.Call (.Name x p) es' kws pos) (dMk fz C ixs dds sp W ts tks) :=
  let ⟨_, h1, h2⟩ := c; de_mk fz h1 hm h2 hG hr hj hg tk ha hn hn2 hdb
theorem de_mkVP {i : Nat} (fz : Bool) (hv : PE X (.Name x p) (tVar i)) (c : MkP X.prog X.w X.K X.mg X.base j C n ks ixs dds sp) (hG : X.A.guards = some []) (hr : Room k X.A) (hj : j + 1 ≤ k) (tk : L2N.Takes X (liftW X.K O W)) (ha : DAK X O pos es' kws ks ts tks)
    (hn : ts.length = n := by rfl) (hn2 : tks.length = ks.length := by rfl) : DE X O (.Call (.Name x p) es' kws pos) (dMkV fz i C ixs dds sp W ts tks) :=
  let ⟨_, h1, h2⟩ := c; de_mkV fz hv h1 h2 hG hr hj tk ha hn hn2
theorem de_cmP {pl : Sem Bool} (ho : DE X O o to) (c : CmP X.prog X.w X.K X.mg X.base j C m n ks ixs dds sp) (hG : X.A.guards = some []) (hr : Room k X.A) (hj : j ≤ k) (tk : L2N.Takes X (liftW X.K O W)) (ha : DAK X O pos es' kws ks ts tks)
    (hn : ts.length = n := by rfl) (hn2 : tks.length = ks.length := by rfl)
    (ht : eval (.Call (.Attribute o m apos) es' kws pos) X.env = (do let ov ← eval o X.env; standAt apos.atName; let (f, first) ← holding [ov] (getMethod ov m pl); callWith pos f first (backTo pos (starEach es' X.env)) (backToKw pos (keywordEach kws X.env))) := by rfl) :
    DE X O (.Call (.Attribute o m apos) es' kws pos) (dCm C ixs dds sp W to ts tks) :=
  let ⟨_, _, _, h1, h2, h3⟩ := c; de_cm ho h1 h2 h3 hG hr hj tk ha hn hn2 ht
/-- an own class as a value -/
theorem de_cls (hm : X.mg x = some (.ref C)) (hg : Gl X x) (hd : (x == ("__debug__" : Str)) = false := by decide) : DE X O (.Name x p) (dC (.ref C)) := de_c (pe_glob (v := .ref C) hg hm rfl hd) rfl
end
end Rh
/-! DL18: texts that are walked; short names that the printed texts use. -/
namespace Rh
open PySem PySem.Spec PyProof.Rows L2

def signs (y : Str) : List D := y.cps.toList.map fun c => D.str ⟨#[c]⟩
def diStr (te : DTE) : DTI := fun τ M R => te τ M fun x M1 => match x with
  | .str y => y.cps.size ≤ sizeLine ∧ R (signs y) (fun _ => True) M1
  | _ => False
section
variable {X : Cx} {O : Org} {tg e : Expr} {te : DTE}
theorem di_str (he : DE X O e te) : DI X O tg e (diStr te) := (pi_str he).wk fun σ H R ⟨τ, M, R', b, t, p⟩ =>
  ⟨τ, M, _, b, t, fun d M1 v H1 q f a h => by
    cases d <;> first | exact q.elim | skip
    rename_i y
    have len : (signs y).length = y.cps.size := by unfold signs; rw [List.length_map]; rfl
    refine ⟨y, h, p _ _ M1 H1 _ q.2 f a ⟨by rw [len]; exact q.1, fun H M _ _ _ => ?_, fun i H M _ _ _ hi => ?_, fun i H M x H' _ a' _ hi y' => ?_⟩⟩
    · show y.cps.size ≤ (signs y).length
      rw [len]; exact Nat.le_refl _
    · show i < y.cps.size
      rw [← len]; exact hi
    · obtain ⟨rfl, c, e1, rfl⟩ := y'
      refine ⟨Fr.refl _ M, a', .str ⟨#[c]⟩, ?_, rfl⟩
      unfold signs
      rw [List.getElem?_map, Array.getElem?_toList, e1] <;> rfl⟩
end
/-- len of what is no own object -/
def rLen0D : DR := rOne fun d M Q => wth (lenD d M) fun n => Q (.int n) M
/-- the own classes whose objects may be asked what they are -/
def kno (c : CT) : Addr → Prop := fun C => C = c.Heaps
end Rh
/-! DL19: == of own objects. -/
namespace Rh
open PySem PySem.Spec PyProof.Rows L2

section
variable {X : Cx} {k j : Nat}
end
end Rh
/-! DL20: dicts whose keys are ints or texts. -/
namespace Rh
open PySem PySem.Spec PyProof.Rows L2

/-! ### tables -/
section
variable {X : Cx} {O : Org} {pos pos' apos cpos : Pos} {o i e f value : Expr} {to ti te tf tv : DTE} {k : Nat}
/-- {} -/
def dDnew : DTE := fun _ M Q => ∀ p, M p = none → Q (.ref p) (up M p (.dK [] []))
theorem de_dnew : DE X O (.Dict [] [] pos) dDnew := PE.wk pe_dnewK fun σ H Q ⟨τ, M, Q', b, t, P⟩ p np =>
  P _ _ _ _ (t p (b.h.fresh np)) (Fr.newT np) (b.h.newT np ⟨[], upd_same, rfl, rfl⟩) rfl
end
end Rh
/-! DL20S: sorted of pairs, of a dict, of its items; dict of pairs; list of a dict's items. -/
namespace Rh
open PySem PySem.Spec PyProof.Rows L2

section
variable {X : Cx}
/-! ### dict(x) of pairs -/
/-! ### the items of a dict, laid as tuples -/
def uOf (h : Heap) (a : Addr) : List Value := match h.get? a with
  | some o => (match o.data with | .seq xs _ => xs.toList | _ => [])
  | none => []
def putF (h : Heap) (H : Hp) (as : List Addr) (kvs : List (Key × V)) : Hp := fun b => match (as.zip kvs).lookup b with
  | some q => some (frT (uOf h b) [kV q.1, q.2])
  | none => H b
variable {e : Expr} {te : TE} {p apos cpos pos : Pos}
/-! ### the view d.items() -/
end
end Rh
/-! DL20T: a dict's items walked into one name. -/
namespace Rh
open PySem PySem.Calls PySem.Spec PyProof.Rows PyProof.V L2 PySem.W

section
variable {prog : Program} {w : World} {K : Type} [DecidableEq K] {knd : KeyKind prog w K} {A : Around} {E : Value → Shared → Prop} {s : Shared}
end
section
variable {X : Cx} {e : Expr} {td : TE} {apos cpos py : Pos} {y : Str}
end
end Rh
/-! DL21: sorted, list of a dict, op= of names, zip. -/
namespace Rh
open PySem PySem.Spec PyProof.Rows L2

/-! ### sorted -/
section
variable {X : Cx} {O : Org} {pos p kpos : Pos} {e tg : Expr} {te : DTE} {k : Nat}
/-! ### list(d) -/
/-! ### x op= e -/
end
/-! ### zip -/
section
variable {X : Cx} {O : Org} {pos p tpos : Pos} {e e2 : Expr} {ta tb : DTE} {elts : List Expr} {kk : Nat}
end
end Rh
/-! DL22: unpacking a list. -/
namespace Rh
open PySem PySem.Spec PyProof.Rows L2
end Rh
/-! DL23: dict(x), list(d.items()), sorted(d.items()), comprehensions over d.items(). -/
namespace Rh
open PySem PySem.Spec PyProof.Rows L2

/-! ### dict(x) -/
/-! ### the items of a dict -/
section
variable {X : Cx} {O : Org} {pos p apos cpos py : Pos} {e : Expr} {te : DTE} {k : Nat}
/-! ### [.. for x in d.items() ..], d a name -/
def er (M : DHp) (a : Addr) : DHp := fun b => if b = a then none else M b
/-- what is told without a locked dict stays -/
def Unl (H : Hp) (M : DHp) (H' : Hp) (M' : DHp) : Prop := ∀ b o, H b = some o → M b = none → (∀ od kvs, o ≠ .frz od (.dK kvs)) → H' b = some o ∧ M' b = none
theorem KL.unl {K : PySem.W.Frag} {H H' : Hp} {M M' : DHp} {a : Addr} {vs : List V} (f : Unl H M H' M') (h : KL K H M a vs) : KL K H' M' a vs := by
  rcases h with ⟨n, r⟩ | h
  · rcases r with r | ⟨x, r⟩
    · obtain ⟨h1, h2⟩ := f _ _ r n (fun _ _ z => nomatch z)
      exact .inl ⟨h2, .inl h1⟩
    · obtain ⟨h1, h2⟩ := f _ _ r n (fun _ _ z => nomatch z)
      exact .inl ⟨h2, .inr ⟨x, h1⟩⟩
  · exact .inr h
mutual
theorem Has.unl {K : PySem.W.Frag} {H H' : Hp} {M M' : DHp} (f : Unl H M H' M') : ∀ {d : D} {v : V}, Has K H M d v → Has K H' M' d v
  | .non, _, h => h
  | .bl _, _, h => h
  | .int _, _, h => h
  | .str _, _, h => h
  | .ref _, _, h => h
  | .ty _, _, h => h
  | .scr ns, _, ⟨a, e, t⟩ => ⟨a, e, t.unl f⟩
  | .tup ds, _, ⟨a, vs, e, n, ⟨us, t⟩, r⟩ =>
    have z := f _ _ t n (fun _ _ z => nomatch z)
    ⟨a, vs, e, z.2, ⟨us, z.1⟩, HasL.unl f r⟩
  | .tpl ds, _, ⟨a, vs, e, n, t, r⟩ =>
    have z := f _ _ t n (fun _ _ z => nomatch z)
    ⟨a, vs, e, z.2, z.1, HasL.unl f r⟩
  | .lst ds, _, ⟨a, vs, e, n, t, r⟩ =>
    have z := f _ _ t n (fun _ _ z => nomatch z)
    ⟨a, vs, e, z.2, z.1, HasL.unl f r⟩
  | .dic ks ds, _, ⟨a, vs, e, n, t, l, r⟩ =>
    have z := f _ _ t n (fun _ _ z => nomatch z)
    ⟨a, vs, e, z.2, z.1, l, HasL.unl f r⟩
  | .obj C ns ds, _, ⟨a, dx, vs, e, n, t, l, r⟩ =>
    have z := f _ _ t n (fun _ _ z => nomatch z)
    ⟨a, dx, vs, e, z.2, z.1, l, HasL.unl f r⟩
theorem HasL.unl {K : PySem.W.Frag} {H H' : Hp} {M M' : DHp} (f : Unl H M H' M') : ∀ {ds : List D} {vs : List V}, HasL K H M ds vs → HasL K H' M' ds vs
  | [], _, h => h
  | d :: ds, _, ⟨v, r, e, h1, h2⟩ => ⟨v, r, e, Has.unl f h1, HasL.unl f h2⟩
end
theorem HasO.unl {K : PySem.W.Frag} {H H' : Hp} {M M' : DHp} {a : Addr} {o : DO} (f : Unl H M H' M') (e : H' a = H a) (h : HasO K H M a o) : HasO K H' M' a o := by
  cases o with
  | lst ds => obtain ⟨vs, q, r⟩ := h; exact ⟨vs, e.trans q, r.unl f⟩
  | dK ks ds => obtain ⟨vs, q, l, r⟩ := h; exact ⟨vs, e.trans q, l, r.unl f⟩
  | ins C ns ds => obtain ⟨dx, vs, q, l, r⟩ := h; exact ⟨dx, vs, e.trans q, l, r.unl f⟩
  | dT ks ds => obtain ⟨vs, q, l, r⟩ := h; exact ⟨vs, e.trans q, l, r.unl f⟩
  | fT od vs ks ds => obtain ⟨q, l, r⟩ := h; exact ⟨e.trans q, l, r.unl f⟩
  | lam L i cs =>
    obtain ⟨cl, pm, ctv, c', q, k, g, n⟩ := h
    have u := f _ _ g n (fun _ _ z => by cases (show HO.ext _ = HO.frz _ _ from z))
    exact ⟨cl, pm, ctv, c', e.trans q, k, u.1, u.2⟩
  | cel d => obtain ⟨o, u, v, q, k, g, r⟩ := h; exact ⟨o, u, v, e.trans q, k, g, r.unl f⟩
  | fK od vs ks ds => obtain ⟨q, l, r⟩ := h; exact ⟨e.trans q, l, r.unl f⟩
  | tab q =>
    obtain ⟨ps, z, k, g⟩ := h
    refine ⟨ps, e.trans z, k, fun pos cv y => ?_⟩
    obtain ⟨b, e1, n, e2⟩ := g pos cv y
    have u := f _ _ e2 n (fun _ _ z => by cases (show HO.ext _ = HO.frz _ _ from z))
    exact ⟨b, e1, u.2, u.1⟩
end
end Rh
/-! DL24: is True, is False; bit_length; xs[i] op= e. -/
namespace Rh
open PySem PySem.Spec PyProof.Rows L2
section
variable {X : Cx} {O : Org} {pos apos : Pos} {o : Expr} {to : DTE}
end
end Rh
/-! DL25: a, b, c = x, y, z. -/
namespace Rh
open PySem PySem.Spec PyProof.Rows L2
section
variable {X : Cx} {O : Org} {pos : Pos}
end
end Rh
/-! DL26: defs that are never called. -/
namespace Rh
open PySem PySem.Spec PyProof.Rows L2
section
variable {P : Program} {w : World} {K : PySem.W.Frag} {mg : Str → Option Value} {base : Heap} {j : Nat} {f : Addr} {x qual : Str} {params : Arguments} {body : List Stmt} {scope : Scope} {dvs : List V} {kws : List (Str × V)} {fd : FuncData} {ps : List Str} {sp : DSp}
end
end Rh
/-! DL27: x[::-1] of a list, of a tuple. -/
namespace Rh
open PySem PySem.Spec PyProof.Rows L2 HT
section
variable {prog : Program} {w : World} {A : Around} {E : Value → Shared → Prop} {s : Shared}
end
section
variable {X : Cx} {O : Org}
end
end Rh
/-! DL39: i.bit_length(); xs[i] += n of a list. -/
namespace Rh
open PySem PySem.Spec PyProof.Rows L2
section
variable {X : Cx} {O : Org} {pos apos tpos : Pos} {o i e : Expr} {to ti te : DTE}
end
end Rh
/-! P0: plain tools. -/
namespace Rh
open PySem PySem.Spec PyProof.Rows L2
/-- promises of 0, 1, 2, 3, 4 arguments -/
def sp1 (g : D → DHp → DVK → DXK → Prop) : DSp := fun ds M Q E => match ds with
  | [a] => g a M Q E
  | _ => False
def sp2 (g : D → D → DHp → DVK → DXK → Prop) : DSp := fun ds M Q E => match ds with
  | [a, b] => g a b M Q E
  | _ => False
def sp3 (g : D → D → D → DHp → DVK → DXK → Prop) : DSp := fun ds M Q E => match ds with
  | [a, b, c] => g a b c M Q E
  | _ => False
theorem sp1_len {g : D → DHp → DVK → DXK → Prop} (ds : List D) (M : DHp) (Q : DVK) (E : DXK) (z : sp1 g ds M Q E) : ds.length = 1 := match ds, z with
  | [_], _ => rfl
theorem sp2_len {g : D → D → DHp → DVK → DXK → Prop} (ds : List D) (M : DHp) (Q : DVK) (E : DXK) (z : sp2 g ds M Q E) : ds.length = 2 := match ds, z with
  | [_, _], _ => rfl
theorem sp3_len {g : D → D → D → DHp → DVK → DXK → Prop} (ds : List D) (M : DHp) (Q : DVK) (E : DXK) (z : sp3 g ds M Q E) : ds.length = 3 := match ds, z with
  | [_, _, _], _ => rfl
theorem sp1_of {g : D → DHp → DVK → DXK → Prop} {R : List D → DHp → DVK → DXK → Prop} (h : ∀ a M Q E, g a M Q E → R [a] M Q E) (ds : List D) (M : DHp) (Q : DVK) (E : DXK) (z : sp1 g ds M Q E) : R ds M Q E := match ds, z with
  | [a], z => h a M Q E z
theorem sp2_of {g : D → D → DHp → DVK → DXK → Prop} {R : List D → DHp → DVK → DXK → Prop} (h : ∀ a b M Q E, g a b M Q E → R [a, b] M Q E) (ds : List D) (M : DHp) (Q : DVK) (E : DXK) (z : sp2 g ds M Q E) : R ds M Q E := match ds, z with
  | [a, b], z => h a b M Q E z
theorem sp3_of {g : D → D → D → DHp → DVK → DXK → Prop} {R : List D → DHp → DVK → DXK → Prop} (h : ∀ a b c M Q E, g a b c M Q E → R [a, b, c] M Q E) (ds : List D) (M : DHp) (Q : DVK) (E : DXK) (z : sp3 g ds M Q E) : R ds M Q E := match ds, z with
  | [a, b, c], z => h a b c M Q E z
/-- a def's end -/
theorem fn_rt {Q : DVK} {d : D} {M : DHp} (h : Q d M) : (fnEnds Q).rt d M := ⟨M, Sub.refl M, h⟩
/-- what may be asked what it is -/
def known (c : CT) (a : D) (M : DHp) : Prop := match tyD a M with
  | some (.inl _) => True
  | some (.inr C) => kno c C
  | none => False
theorem seq_ref {M : DHp} {a : Addr} {ds : List D} (h : M a = some (.lst ds)) : seqOf (.ref a) M = some ds := by simp only [seqOf, lstOf, mlst, h]
theorem len_str {M : DHp} {y : Str} (h : y.length ≤ sizeLine) : lenD (.str y) M = some y.length := if_pos h
theorem lg_le {i : Int} {k : Nat} (h : i.natAbs < 2 ^ k) : i.natAbs.log2 ≤ k := by
  by_cases z : i.natAbs = 0
  · rw [z]; exact Nat.zero_le _
  · exact Nat.le_of_lt ((Nat.log2_lt z).mpr h)
/-- two factors of less than 200 bits each -/
theorem mulW {i j : Int} (h : i.natAbs < 2 ^ 200) (h' : j.natAbs < 2 ^ 200) : CMulW i j := by
  have := lg_le h
  have := lg_le h'
  show _ + _ < _
  omega
/-- a loop by what holds of the items to come -/
theorem forR_inv {ok : DHp → Prop} {g : DTG} {tb : DTS} {E : DEnds} (I : List D → DSt → DHp → Prop) (h0 : ∀ τ M, I [] τ M → ok M ∧ E.nx τ M)
    (h1 : ∀ x xs τ M (R : DSt → DHp → Prop), I (x :: xs) τ M → (∀ τ3 M3 τ2 M2, I xs τ3 M3 → SubS τ3 τ2 → Sub M3 M2 → R τ2 M2) → ok M ∧ g x τ M fun τ1 M1 => tb { E with nx := R } τ1 M1) : ∀ items τ M, I items τ M → forR ok g tb E items τ M
  | [], τ, M, h => h0 τ M h
  | x :: xs, τ, M, h => h1 x xs τ M _ h fun τ3 M3 τ2 M2 i z1 z2 => ⟨τ3, M3, z1, z2, forR_inv I h0 h1 xs τ3 M3 i⟩
theorem at_nn {α : Type} {xs : List α} {k : Nat} {x : α} (h : xs[k]? = some x) : atI xs (k : Int) = some x := by
  have l : k < xs.length := (List.getElem?_eq_some_iff.mp h).1
  unfold atI ixN
  rw [if_pos (Int.natCast_nonneg k), if_pos (by omega)]
  exact h
theorem at_int {ns : List Int} {k : Int} (h0 : 0 ≤ k) (h1 : k < ns.length) : ∃ i, atI (ns.map D.int) k = some (.int i) := by
  obtain ⟨n, rfl⟩ := Int.eq_ofNat_of_zero_le h0
  have l : n < ns.length := by omega
  exact ⟨ns[n], at_nn (by rw [List.getElem?_map, List.getElem?_eq_getElem l] <;> rfl)⟩
theorem cut_mem {ds : List D} {lo hi : Option Int} {x : D} (h : x ∈ cutD ds lo hi) : x ∈ ds := List.mem_of_mem_drop (List.mem_of_mem_take h)
theorem cut_len {ds : List D} {lo hi : Option Int} : (cutD ds lo hi).length ≤ ds.length := by
  unfold cutD
  rw [List.length_take, List.length_drop]
  omega
theorem line_1000 {n : Nat} (h : n ≤ 1000) : n ≤ sizeLine := Nat.le_trans h (by decide)
theorem for_nums {g : DTG} {tb : DTS} {E : DEnds} (J : Nat → DSt → DHp → Prop) : ∀ {n : Nat} {lo : Int} {τ : DSt} {M : DHp}, (∀ τ M, J n τ M → E.nx τ M) →
    (∀ i τ M (R : DSt → DHp → Prop), i < n → J i τ M → (∀ τ3 M3 τ2 M2, J (i + 1) τ3 M3 → SubS τ3 τ2 → Sub M3 M2 → R τ2 M2) → g (.int (lo + (i : Nat))) τ M fun τ1 M1 => tb { E with nx := R } τ1 M1) → J 0 τ M → forR (fun _ => True) g tb E (nums lo n) τ M := by
  intro n
  induction n generalizing J with
  | zero => intro lo τ M h0 _ h; exact ⟨trivial, h0 τ M h⟩
  | succ n ih =>
    intro lo τ M h0 h1 h
    refine ⟨trivial, ?_⟩
    have z := h1 0 τ M (fun τ2 M2 => ∃ τ3 M3, SubS τ3 τ2 ∧ Sub M3 M2 ∧ forR (fun _ => True) g tb E (nums (lo + 1) n) τ3 M3) (Nat.succ_pos n) h fun τ3 M3 τ2 M2 j z1 z2 => ⟨τ3, M3, z1, z2, ih (fun i => J (i + 1)) (fun τ M j => h0 τ M j) (fun i τ M R hi j k => ?_) j⟩
    · rw [Int.natCast_zero, Int.add_zero] at z
      exact z
    · have y := h1 (i + 1) τ M R (Nat.succ_lt_succ hi) j k
      rw [show lo + ((i + 1 : Nat) : Int) = lo + 1 + (i : Int) by omega] at y
      exact y
theorem up_swap {M : DHp} {a p : Addr} {o u v : DO} (h : a ≠ p) : up (up (up M a o) p u) a v = up (up M a v) p u := by
  funext b
  unfold up
  by_cases e : b = a
  · subst e; rw [if_pos rfl, if_neg h, if_pos rfl]
  · rw [if_neg e, if_neg e]
    split <;> rfl
theorem up_at {M : DHp} {a p : Addr} {o u : DO} (h : a ≠ p) : up (up M a o) p u a = some o := by rw [up_ne h, up_same]
theorem up_self {M : DHp} {a : Addr} {o : DO} (h : M a = some o) : up M a o = M := by
  funext b
  unfold up
  split
  · rename_i e; rw [e, h]
  · rfl
theorem sub_up {M : DHp} {p : Addr} {u : DO} (h : M p = none) : Sub M (up M p u) := (Sub.refl M).up h

/-! ### kinds -/
def pairD (p : Int × Int) : D := .tup [.int p.1, .int p.2]
def kD (kz : List (Int × Int)) : D := .tup (kz.map pairD)
/-- kinds above b: sizes ascend up to top -/
def KsOk (top : Int) : Int → List (Int × Int) → Prop
  | _, [] => True
  | b, p :: r => b < p.1 ∧ p.1 ≤ top ∧ 1 ≤ p.2 ∧ p.2 ≤ 10 ^ 30 ∧ KsOk top p.1 r
def lastS : Int → List (Int × Int) → Int
  | b, [] => b
  | _, p :: r => lastS p.1 r
theorem KsOk.snoc {top : Int} {p : Int × Int} : ∀ {b : Int} {kz : List (Int × Int)}, KsOk top b kz → lastS b kz < p.1 → p.1 ≤ top → 1 ≤ p.2 → p.2 ≤ 10 ^ 30 → KsOk top b (kz ++ [p])
  | b, [], _, h1, h2, h3, h4 => ⟨h1, h2, h3, h4, trivial⟩
  | b, q :: r, h, h1, h2, h3, h4 => ⟨h.1, h.2.1, h.2.2.1, h.2.2.2.1, KsOk.snoc h.2.2.2.2 h1 h2 h3 h4⟩
theorem lastS_snoc {p : Int × Int} : ∀ {b : Int} {kz : List (Int × Int)}, lastS b (kz ++ [p]) = p.1
  | b, [] => rfl
  | b, q :: r => lastS_snoc (b := q.1) (kz := r)
theorem KsOk.more {top top' : Int} (h : top ≤ top') : ∀ {b : Int} {kz : List (Int × Int)}, KsOk top b kz → KsOk top' b kz
  | _, [], _ => trivial
  | _, p :: r, k => ⟨k.1, Int.le_trans k.2.1 h, k.2.2.1, k.2.2.2.1, k.2.2.2.2.more h⟩
theorem KsOk.take {top : Int} : ∀ (n : Nat) {b : Int} {kz : List (Int × Int)}, KsOk top b kz → KsOk top b (kz.take n)
  | 0, _, _, _ => by rw [List.take_zero]; trivial
  | n + 1, _, [], _ => trivial
  | n + 1, _, p :: r, k => ⟨k.1, k.2.1, k.2.2.1, k.2.2.2.1, k.2.2.2.2.take n⟩
theorem KsOk.last {top : Int} : ∀ {b : Int} {kz : List (Int × Int)}, b ≤ top → KsOk top b kz → lastS b kz ≤ top
  | _, [], h, _ => h
  | _, p :: r, _, k => KsOk.last (b := p.1) k.2.1 k.2.2.2.2
/-- kinds that heaps are made of -/
structure Kinds (kz : List (Int × Int)) : Prop where
  ne : kz ≠ []
  len : kz.length ≤ 12
  ok : KsOk (10 ^ 30) 0 kz
/-- drawn ones: with room above -/
structure Drawn (kz : List (Int × Int)) : Prop where
  ne : kz ≠ []
  len : kz.length ≤ 12
  ok : KsOk (10 ^ 29 * 2) 0 kz
end Rh
/-! P1: texts of numbers, of kinds. -/
namespace Rh
open PySem PySem.Spec PyProof.Rows L2 PySem.NumText

theorem sh_int {M : DHp} {y : Int} : SeqAt.shaped (pyM M (.int y)) = true := rfl
abbrev numT (n : Int) : Str := Str.ofString (toString n)
def isDig (c : Nat) : Bool := decide (48 ≤ c) && decide (c ≤ 57)
theorem allDig {l : List Nat} (h : l.all isDig = true) : AllDigits l := fun c hc => by
  have := List.all_eq_true.mp h c hc
  simp only [isDig, Bool.and_eq_true, decide_eq_true_eq] at this
  exact this
theorem digAll {l : List Nat} (h : AllDigits l) : l.all isDig = true := List.all_eq_true.mpr fun c hc => by
  simp only [isDig, Bool.and_eq_true, decide_eq_true_eq]
  exact h c hc
theorem digits_mem (c : Nat) : decide (c ∈ (("0123456789" : Str)).cps.toList) = isDig c := by
  have e : (("0123456789" : Str)).cps.toList = [48, 49, 50, 51, 52, 53, 54, 55, 56, 57] := by decide +kernel
  rw [e]
  simp only [isDig, List.mem_cons, List.not_mem_nil, or_false, Bool.decide_and]
  rw [← Bool.decide_and]
  exact decide_eq_decide.mpr ⟨by omega, by omega⟩
theorem num_digs {n : Int} (h : 0 ≤ n) : AllDigits (numT n).cps.toList := by
  obtain ⟨m, rfl⟩ := Int.eq_ofNat_of_zero_le h
  intro c hc
  rw [PySem.W.KIN.signs_num] at hc
  obtain ⟨ch, hch, e⟩ := List.mem_map.mp hc
  rw [← e]
  exact digit_range (Nat.isDigit_of_mem_toDigits (by decide) (by decide) hch)
theorem num_ne {n : Int} (h : 0 ≤ n) : (numT n).cps.toList ≠ [] := by
  obtain ⟨m, rfl⟩ := Int.eq_ofNat_of_zero_le h
  rw [PySem.W.KIN.signs_num]
  intro e
  have z := toDigits_len_ge 10 m
  rw [List.map_eq_nil_iff.mp e] at z
  exact absurd z (by decide)
theorem num_val {n : Int} (h : 0 ≤ n) : ((digitsVal (numT n).cps.toList : Nat) : Int) = n := by
  obtain ⟨m, rfl⟩ := Int.eq_ofNat_of_zero_le h
  rw [PySem.W.KIN.signs_num, PySem.W.KIN.val_back]
theorem num_len {n : Int} (h0 : 0 ≤ n) (h : n ≤ 10 ^ 60) : (numT n).length ≤ 61 := toString_length_le h0 (by decide) (by omega)
/-- what read_number makes of a word -/
def readN (w : Str) : D := if w.cps.toList = [] ∨ 80 < w.length ∨ w.cps.toList.all isDig = false then .non else if numT (digitsVal w.cps.toList) = w then .int (digitsVal w.cps.toList) else .non
theorem readN_num {n : Int} (h0 : 0 ≤ n) (h : n ≤ 10 ^ 60) : readN (numT n) = .int n := by
  unfold readN
  rw [if_neg, num_val h0, if_pos rfl]
  rintro (e | e | e)
  · exact num_ne h0 e
  · have := num_len h0 h
    omega
  · rw [digAll (num_digs h0)] at e
    cases e
theorem val_lt {l : List Nat} (h : AllDigits l) : digitsVal l < 10 ^ l.length := by
  have key : ∀ (l : List Nat) (a : Nat), AllDigits l → l.foldl (fun acc c => acc * 10 + (c - 48)) a < (a + 1) * 10 ^ l.length := by
    intro l
    induction l with
    | nil => intro a _; simp
    | cons c l ih =>
      intro a h
      have := ih (a * 10 + (c - 48)) h.tail
      have hc := h.head
      rw [List.foldl_cons, List.length_cons, Nat.pow_succ]
      refine Nat.lt_of_lt_of_le this ?_
      rw [Nat.mul_comm (10 ^ l.length) 10, ← Nat.mul_assoc]
      exact Nat.mul_le_mul_right _ (by omega)
  have := key l 0 h
  rw [Nat.zero_add, Nat.one_mul] at this
  exact this

/-! ### kinds, judged -/
def withinB (a : D) (i j : Int) : Bool := match a with
  | .int v => decide (i ≤ v) && decide (v ≤ j)
  | _ => false
/-- the size of a right kind at this place above b -/
def wkOne (i : Nat) (b : Int) (e : D) : Option Int := match e with
  | .tup [.int s, m] => if decide (i < 12) && (withinB (.int s) (b + 1) (10 ^ 30) && withinB m 1 (10 ^ 30)) then some s else none
  | _ => none
def wkGo : Nat → Int → List D → Option Nat
  | _, _, [] => none
  | i, b, e :: es => match wkOne i b e with
    | some s => wkGo (i + 1) s es
    | none => some i
/-- what wrong_kind answers -/
def wkD (a : D) : D := match a with
  | .tup [] => .tup [.non]
  | .tup es => (match wkGo 0 0 es with
    | some i => .tup [.int (i : Nat)]
    | none => .tup [])
  | _ => .tup [.non]
def knownK (c : CT) (a : D) (M : DHp) : Prop := known c a M ∧ ∀ es, a = .tup es → es.length ≤ sizeLine ∧ ∀ e ∈ es, known c e M ∧ ∀ x y, e = .tup [x, y] → known c x M ∧ known c y M
theorem tup_or (a : D) : (∃ es, a = .tup es) ∨ ∀ es, a ≠ .tup es := by
  cases a <;> first | exact .inl ⟨_, rfl⟩ | exact .inr fun _ e => nomatch e
theorem not_tup {c : CT} {a : D} {M : DHp} (k : known c a M) (h : ∀ es, a ≠ .tup es) : (∃ t : Ty0, tyD a M = some (.inl t) ∧ t.is .tup = false) ∨ ∃ C, tyD a M = some (.inr C) ∧ kno c C := by
  unfold known at k
  cases a with
  | tup es => exact absurd rfl (h es)
  | ref p =>
    cases e : M p with
    | none => simp only [tyD, e] at k
    | some o => cases o <;> simp only [tyD, e] at k ⊢ <;> first | exact .inl ⟨_, rfl, rfl⟩ | exact .inr ⟨_, rfl, k⟩
  | obj C ns ds => exact .inr ⟨C, rfl, k⟩
  | ty n => exact k.elim
  | tpl ds => exact k.elim
  | _ => exact .inl ⟨_, rfl, rfl⟩
theorem wkGo_ok : ∀ {kz : List (Int × Int)} {b : Int} {i : Nat}, KsOk (10 ^ 30) b kz → i + kz.length ≤ 12 → wkGo i b (kz.map pairD) = none
  | [], _, _, _, _ => rfl
  | p :: r, b, i, k, h => by
    obtain ⟨h1, h2, h3, h4, h5⟩ := k
    rw [List.length_cons] at h
    have e : wkOne i b (pairD p) = some p.1 := by
      show (if decide (i < 12) && (withinB (.int p.1) (b + 1) (10 ^ 30) && withinB (.int p.2) 1 (10 ^ 30)) then some p.1 else none) = _
      rw [if_pos]
      simp only [withinB, Bool.and_eq_true, decide_eq_true_eq]
      omega
    show (match wkOne i b (pairD p) with | some s => wkGo (i + 1) s (r.map pairD) | none => some i) = none
    rw [e]
    exact wkGo_ok h5 (by omega)
theorem wk_ok {kz : List (Int × Int)} (k : Kinds kz) : wkD (kD kz) = .tup [] := by
  have h := wkGo_ok k.ok (i := 0) (by have := k.len; omega)
  cases kz with
  | nil => exact absurd rfl k.ne
  | cons p r =>
    show (match wkGo 0 0 ((p :: r).map pairD) with | some i => D.tup [.int (i : Nat)] | none => .tup []) = _
    rw [h]
theorem known_kinds {c : CT} {M : DHp} (kz : List (Int × Int)) (h : kz.length ≤ 1000) : knownK c (kD kz) M := by
  refine ⟨trivial, fun es e => ?_⟩
  cases e
  refine ⟨by rw [List.length_map]; exact line_1000 h, fun e he => ?_⟩
  obtain ⟨p, _, rfl⟩ := List.mem_map.mp he
  exact ⟨trivial, fun x y z => by cases z; exact ⟨trivial, trivial⟩⟩
end Rh
/-! P2: words, pages of kinds, read back. -/
namespace Rh
open PySem PySem.Spec PyProof.Rows L2 PySem.NumText
def wordT (p : Int × Int) : Str := numT p.2 ++ ("x" : Str) ++ numT p.1
def pageT (kz : List (Int × Int)) : Str := Txt.join (" " : Str) (kz.map wordT)
def readK (w : Str) : D := match Txt.split w ("x" : Str) with
  | [p, q] => .tup [readN q, readN p]
  | _ => .non
def isU (d : D) : Bool := match d with
  | .tup [] => true
  | _ => false
def kindsOf (w : Str) : D := .tup ((Txt.split w (" " : Str)).map readK)
/-- what read_heaps makes of a thing -/
def readH (d : D) : D := match d with
  | .str w => if isU (wkD (kindsOf w)) then kindsOf w else .non
  | _ => .non
theorem tl_x : TL.tl ("x" : Str) = [120] := by decide +kernel
theorem tl_sp : TL.tl (" " : Str) = [32] := by decide +kernel
theorem ok_x : ("x" : Str).cps.all (· < 256) = true := by decide +kernel
theorem ok_sp : (" " : Str).cps.all (· < 256) = true := by decide +kernel
theorem num_no {n : Int} (h : 0 ≤ n) {k : Nat} (hk : 57 < k ∨ k < 48) : k ∉ TL.tl (numT n) := fun hm => by
  have := num_digs h k hm
  omega
theorem word_join (p : Int × Int) : wordT p = Txt.join ("x" : Str) [numT p.2, numT p.1] := by rw [TL.join_eq]; rfl
theorem split_word {p : Int × Int} (h1 : 0 ≤ p.1) (h2 : 0 ≤ p.2) : Txt.split (wordT p) ("x" : Str) = [numT p.2, numT p.1] := by
  rw [word_join]
  refine TL.split_join (s := 120) (S := []) tl_x ok_x (by simp) fun q hq => ?_
  rcases List.mem_cons.mp hq with rfl | hq
  · exact num_no h2 (.inl (by decide))
  · rw [List.mem_singleton.mp hq]
    exact num_no h1 (.inl (by decide))
theorem readK_word {p : Int × Int} (h1 : 0 ≤ p.1) (h2 : 0 ≤ p.2) (b1 : p.1 ≤ 10 ^ 60) (b2 : p.2 ≤ 10 ^ 60) : readK (wordT p) = pairD p := by
  unfold readK
  rw [split_word h1 h2]
  show D.tup [readN (numT p.1), readN (numT p.2)] = _
  rw [readN_num h1 b1, readN_num h2 b2] <;> rfl
theorem word_no {p : Int × Int} (h1 : 0 ≤ p.1) (h2 : 0 ≤ p.2) : 32 ∉ TL.tl (wordT p) := by
  unfold wordT
  rw [TL.tl_append, TL.tl_append, tl_x]
  intro h
  rcases List.mem_append.mp h with h | h
  · rcases List.mem_append.mp h with h | h
    · exact num_no h2 (.inr (by decide)) h
    · exact absurd h (by decide)
  · exact num_no h1 (.inr (by decide)) h
theorem KsOk.mem {top : Int} : ∀ {b : Int} {kz : List (Int × Int)}, KsOk top b kz → ∀ p ∈ kz, b < p.1 ∧ p.1 ≤ top ∧ 1 ≤ p.2 ∧ p.2 ≤ 10 ^ 30
  | b, q :: r, k, p, h => by
    rcases List.mem_cons.mp h with rfl | h
    · exact ⟨k.1, k.2.1, k.2.2.1, k.2.2.2.1⟩
    · have := KsOk.mem k.2.2.2.2 p h
      have := k.1
      exact ⟨by omega, by omega, by omega, by omega⟩
theorem Kinds.mem {kz : List (Int × Int)} (k : Kinds kz) (p : Int × Int) (h : p ∈ kz) : 0 < p.1 ∧ p.1 ≤ 10 ^ 30 ∧ 1 ≤ p.2 ∧ p.2 ≤ 10 ^ 30 := KsOk.mem k.ok p h
theorem split_page {kz : List (Int × Int)} (ne : kz ≠ []) (h : ∀ p ∈ kz, 0 ≤ p.1 ∧ 0 ≤ p.2) : Txt.split (pageT kz) (" " : Str) = kz.map wordT := by
  refine TL.split_join (s := 32) (S := []) tl_sp ok_sp (fun e => ne (List.map_eq_nil_iff.mp e)) fun q hq => ?_
  obtain ⟨p, hp, rfl⟩ := List.mem_map.mp hq
  exact word_no (h p hp).1 (h p hp).2
theorem kinds_page {kz : List (Int × Int)} (k : Kinds kz) : kindsOf (pageT kz) = kD kz := by
  unfold kindsOf kD
  rw [split_page k.ne fun p hp => by have := k.mem p hp; omega, List.map_map]
  congr 1
  refine List.map_congr_left fun p hp => ?_
  have := k.mem p hp
  exact readK_word (by omega) (by omega) (by omega) (by omega)
theorem readH_page {kz : List (Int × Int)} (k : Kinds kz) : readH (.str (pageT kz)) = kD kz := by
  show (if isU (wkD (kindsOf (pageT kz))) = true then kindsOf (pageT kz) else .non) = _
  rw [kinds_page k, wk_ok k]
  rfl
theorem app_len (a b : Str) : (a ++ b).length = a.length + b.length := by rw [TL.len_tl, TL.tl_append, List.length_append, ← TL.len_tl, ← TL.len_tl]
theorem len_x : ("x" : Str).length = 1 := by decide +kernel
theorem len_sp : (" " : Str).length = 1 := by decide +kernel
theorem word_len {p : Int × Int} (h1 : 0 ≤ p.1) (h2 : 0 ≤ p.2) (b1 : p.1 ≤ 10 ^ 60) (b2 : p.2 ≤ 10 ^ 60) : (wordT p).length ≤ 123 := by
  unfold wordT
  rw [app_len, app_len, len_x]
  have := num_len h1 b1
  have := num_len h2 b2
  omega
theorem mem_sum : ∀ {l : List Nat} {n : Nat}, n ∈ l → n ≤ l.sum
  | a :: l, n, h => by
    rw [List.sum_cons]
    rcases List.mem_cons.mp h with rfl | h
    · omega
    · have := mem_sum h
      omega
theorem part_len {w y p : Str} (hy : 1 ≤ y.length) (h : p ∈ Txt.split w y) : p.length ≤ w.length := by
  have a := split_weight w y hy
  have b : p.length ≤ ((Txt.split w y).map (·.length)).sum := mem_sum (List.mem_map_of_mem h)
  have c : 1 ≤ (Txt.split w y).length := List.length_pos_of_mem h
  omega
end Rh
/-! P3: repr of data: what it asks. -/
namespace Rh
open PySem PySem.Spec PyProof.Rows L2 PySem.NumText
/-- may be shown: of weight w, n deep -/
structure Shw (d : PyData) (w n : Nat) : Prop where
  lay : PyData.canLay0 d = true
  short : PyData.leavesShort 80 d = true
  able : PyData.showable d = true
  weight : PyData.weight d ≤ w
  depth : PyData.depth d ≤ n
structure ShwAll (ds : List PyData) (w n : Nat) : Prop where
  lay : PyData.canLayAll0 ds = true
  short : PyData.leavesShortAll 80 ds = true
  able : PyData.showableAll ds = true
  weight : PyData.weightAll ds ≤ w
  depth : PyData.depthAll ds ≤ n
theorem Shw.int {i : Int} {n : Nat} (h : i.natAbs < 2 ^ 230) : Shw (.int i) 231 n := by
  have l := lg_le h
  refine ⟨rfl, ?_, ?_, ?_, Nat.zero_le n⟩
  · show decide ((Str.ofString (toString i)).length ≤ 80) = true
    refine decide_eq_true ?_
    have := int_text_length_le10 (a := i) (k := 70) (by decide) (Nat.lt_of_lt_of_le h (by decide))
    rw [PySem.ofString_length]
    omega
  · exact decide_eq_true (Nat.lt_of_le_of_lt l (by decide))
  · show (if (i == 0) = true then 0 else i.natAbs.log2 + 1) ≤ 231
    split <;> omega
theorem Shw.bl {b : Bool} {n : Nat} : Shw (.bool b) 0 n := ⟨rfl, rfl, rfl, Nat.le_refl 0, Nat.zero_le n⟩
theorem Shw.non {n : Nat} : Shw .none 0 n := ⟨rfl, rfl, rfl, Nat.le_refl 0, Nat.zero_le n⟩
theorem Shw.str {x : Str} {w n : Nat} (h : ∀ c ∈ x.cps.toList, c ≤ 127) (l : x.length ≤ w) : Shw (.str x) w n := by
  refine ⟨?_, ?_, rfl, l, Nat.zero_le n⟩
  · show x.cps.all _ = true
    rw [← Array.all_toList, List.all_eq_true]
    intro c hc
    have := h c hc
    exact decide_eq_true (by omega)
  · show x.cps.toList.all _ = true
    rw [List.all_eq_true]
    intro c hc
    have := h c hc
    exact decide_eq_true (by omega)
theorem ShwAll.nil {n : Nat} : ShwAll [] 0 n := ⟨rfl, rfl, rfl, Nat.le_refl 0, Nat.zero_le n⟩
theorem ShwAll.cons {d : PyData} {ds : List PyData} {w v n : Nat} (h : Shw d w n) (t : ShwAll ds v n) : ShwAll (d :: ds) (w + 1 + v) n := by
  refine ⟨?_, ?_, ?_, ?_, Nat.max_le.mpr ⟨h.depth, t.depth⟩⟩
  · show (PyData.canLay0 d && PyData.canLayAll0 ds) = true
    rw [h.lay, t.lay] <;> rfl
  · show (PyData.leavesShort 80 d && PyData.leavesShortAll 80 ds) = true
    rw [h.short, t.short] <;> rfl
  · show (PyData.showable d && PyData.showableAll ds) = true
    rw [h.able, t.able] <;> rfl
  · show PyData.weight d + 1 + PyData.weightAll ds ≤ _
    have := h.weight
    have := t.weight
    omega
theorem Shw.list {ds : List PyData} {w n : Nat} (h : ShwAll ds w n) : Shw (.list ds) w (n + 1) := ⟨h.lay, h.short, h.able, h.weight, Nat.succ_le_succ h.depth⟩
theorem Shw.tup {ds : List PyData} {w n : Nat} (h : ShwAll ds w n) : Shw (.tuple ds) w (n + 1) := ⟨h.lay, h.short, h.able, h.weight, Nat.succ_le_succ h.depth⟩
theorem Shw.more {d : PyData} {w v n m : Nat} (h : Shw d w n) (hw : w ≤ v) (hn : n ≤ m) : Shw d v m := ⟨h.lay, h.short, h.able, Nat.le_trans h.weight hw, Nat.le_trans h.depth hn⟩
theorem ShwAll.of {α : Type} {f : α → PyData} {w n : Nat} : ∀ {l : List α}, (∀ x ∈ l, Shw (f x) w n) → ShwAll (l.map f) ((w + 1) * l.length) n
  | [], _ => ShwAll.nil
  | x :: l, h => by
    have := ShwAll.cons (h x List.mem_cons_self) (ShwAll.of fun y hy => h y (List.mem_cons_of_mem _ hy))
    rw [List.length_cons, Nat.mul_succ, Nat.add_comm]
    exact this
theorem Shw.ok {d : PyData} {w n : Nat} (h : Shw d w n) (hw : w ≤ 200000) (hn : n ≤ 60) : SeqAt.shaped d = true ∧ d.showable = true ∧ d.depth ≤ 60 ∧ d.shown.length ≤ sizeLine := by
  have dp := Nat.le_trans h.depth hn
  refine ⟨?_, h.able, dp, ?_⟩
  · show (d.canLay0 && decide (d.depth ≤ 64)) = true
    rw [h.lay, decide_eq_true (by omega : d.depth ≤ 64)] <;> rfl
  · have := PyData.shown_le 80 (by decide) d h.short
    have hw2 := Nat.le_trans h.weight hw
    have : (80 + 2) * d.weight ≤ 82 * 200000 := Nat.mul_le_mul_left 82 hw2
    rw [sizeLine_eq]
    omega
theorem pyL_map (f : Int × Int → D) : ∀ kz : List (Int × Int), pyL (kz.map f) = kz.map fun p => py (f p)
  | [] => rfl
  | p :: r => by
    show py (f p) :: pyL (r.map f) = _
    rw [pyL_map f r] <;> rfl
theorem shw_kinds {kz : List (Int × Int)} {n : Nat} (k : Kinds kz) : Shw (py (kD kz)) 5592 (n + 2) := by
  show Shw (.tuple (pyL (kz.map pairD))) _ _
  rw [pyL_map]
  refine (Shw.tup (ShwAll.of (w := 465) fun p hp => ?_)).more ?_ (Nat.le_refl _)
  · have := k.mem p hp
    exact (Shw.tup (ShwAll.cons (Shw.int (by omega)) (ShwAll.cons (Shw.int (by omega)) (ShwAll.nil (n := n))))).more (by decide) (Nat.le_refl _)
  · have := k.len
    omega
theorem page_len {kz : List (Int × Int)} (k : Kinds kz) : (pageT kz).length ≤ 8004 := by
  unfold pageT
  refine Nat.le_trans (len_join_le (n := 2000) ?_ (by rw [len_sp]; decide)) (by decide)
  have key : ∀ l : List (Int × Int), (∀ p ∈ l, (wordT p).length ≤ 123) → ((l.map wordT).map (·.length)).sum ≤ 123 * l.length := by
    intro l
    induction l with
    | nil => intro _; simp
    | cons p l ih =>
      intro h
      have h1 := h p List.mem_cons_self
      have h2 := ih fun q hq => h q (List.mem_cons_of_mem _ hq)
      simp only [List.map_cons, List.sum_cons, List.length_cons]
      omega
  have := key kz fun p hp => by
    have := k.mem p hp
    exact word_len (by omega) (by omega) (by omega) (by omega)
  have := k.len
  show ((kz.map wordT).map (·.length)).sum + (kz.map wordT).length ≤ 2000 + 1
  rw [List.length_map]
  omega
theorem cut_take {ds : List D} {n : Nat} : cutD ds none (some (n : Int)) = ds.take n := by
  unfold cutD
  rw [HT.sIx_none, HT.sIx_nat, List.drop_zero, Nat.sub_zero]
  by_cases h : n ≤ ds.length
  · rw [Nat.min_eq_left h]
  · rw [Nat.min_eq_right (by omega), List.take_of_length_le (Nat.le_refl _), List.take_of_length_le (by omega)]
theorem Drawn.kinds {kz : List (Int × Int)} (d : Drawn kz) : Kinds kz := ⟨d.ne, d.len, d.ok.more (by decide)⟩
theorem sums {kz : List (Int × Int)} (k : ∀ p ∈ kz, 0 < p.1 ∧ p.1 ≤ 10 ^ 30 ∧ 1 ≤ p.2 ∧ p.2 ≤ 10 ^ 30) : 0 ≤ (kz.map (·.2)).sum ∧ (kz.map (·.2)).sum ≤ kz.length * 10 ^ 30 ∧ 0 ≤ (kz.map fun p => p.1 * p.2).sum ∧ (kz.map fun p => p.1 * p.2).sum ≤ kz.length * 10 ^ 60 := by
  induction kz with
  | nil => exact ⟨Int.le_refl 0, Int.le_refl 0, Int.le_refl 0, Int.le_refl 0⟩
  | cons p l ih =>
    obtain ⟨a1, a2, a3, a4⟩ := ih fun q hq => k q (List.mem_cons_of_mem _ hq)
    obtain ⟨b1, b2, b3, b4⟩ := k p List.mem_cons_self
    have c1 : 0 ≤ p.1 * p.2 := Int.mul_nonneg (by omega) (by omega)
    have c2 : p.1 * p.2 ≤ 10 ^ 30 * 10 ^ 30 := Int.mul_le_mul b2 b4 (by omega) (by decide)
    simp only [List.map_cons, List.sum_cons, List.length_cons]
    rw [show (((l.length + 1 : Nat)) : Int) * 10 ^ 30 = l.length * 10 ^ 30 + 10 ^ 30 by rw [Int.natCast_add, Int.add_mul]; rfl, show (((l.length + 1 : Nat)) : Int) * 10 ^ 60 = l.length * 10 ^ 60 + 10 ^ 60 by rw [Int.natCast_add, Int.add_mul]; rfl]
    omega
/-- a pot that scoops may be taken from -/
def PotI (x y z : Int) : Prop := 0 ≤ x ∧ 0 ≤ y ∧ y < 2147483648 ∧ 0 ≤ z
theorem nums_mem {x : D} : ∀ {lo : Int} {n : Nat}, x ∈ nums lo n → ∃ k : Int, x = .int k ∧ lo ≤ k ∧ k < lo + n
  | _, 0, h => by cases h
  | lo, n + 1, h => by
    rcases List.mem_cons.mp (show x ∈ D.int lo :: nums (lo + 1) n from h) with rfl | h
    · exact ⟨lo, rfl, Int.le_refl _, by omega⟩
    · obtain ⟨k, e, h1, h2⟩ := nums_mem h
      exact ⟨k, e, by omega, by omega⟩
/-- a comprehension whose element leaves new things behind -/
theorem lcR_mapS {g : DTG} {te : DTE} {τ : DSt} {p : Addr} {f : D → D} {ok : DHp → Prop} {Q : List D → DHp → Prop} : ∀ {items acc : List D} {M : DHp}, (∀ acc, ok (up M p (.lst acc))) → M p = none →
    (∀ x ∈ items, ∀ acc (R : D → DHp → Prop), (∀ M', Sub (up M p (.lst acc)) M' → R (f x) M') → g x τ (up M p (.lst acc)) fun τ2 M2 => te τ2 M2 R) → Q (acc ++ items.map f) M → lcR ok g dYes te τ p items acc M Q
  | [], acc, M, o, _, _, q => ⟨o acc, by rw [List.map_nil, List.append_nil] at q; exact q⟩
  | x :: xs, acc, M, o, n, h, q => by
    refine ⟨o acc, h x List.mem_cons_self acc (fun y M4 => ∃ M5, Sub (up M5 p (.lst acc)) M4 ∧ M5 p = none ∧ lcR ok g dYes te τ p xs (addO acc (some y)) M5 Q) fun M' s => ⟨M, s, n, lcR_mapS o n (fun y hy => h y (List.mem_cons_of_mem _ hy)) ?_⟩⟩
    rw [List.map_cons] at q
    show Q ((acc ++ [f x]) ++ _) M
    rw [List.append_assoc]
    exact q
/-! ### equal kinds -/
theorem eqv_pairs : ∀ a b : List (Int × Int), PyData.eqvAll (a.map fun p => py (pairD p)) (b.map fun p => py (pairD p)) = decide (a = b)
  | [], [] => rfl
  | [], _ :: _ => rfl
  | _ :: _, [] => rfl
  | p :: a, q :: b => by
    have e : PyData.eqvAll ((p :: a).map fun p => py (pairD p)) ((q :: b).map fun p => py (pairD p)) = (((p.1 == q.1) && ((p.2 == q.2) && true)) && PyData.eqvAll (a.map fun p => py (pairD p)) (b.map fun p => py (pairD p))) := rfl
    rw [e, eqv_pairs a b, Bool.and_true]
    rw [Bool.eq_iff_iff]
    simp only [Bool.and_eq_true, beq_iff_eq, decide_eq_true_eq, List.cons.injEq, Prod.ext_iff]
theorem eqv_kinds (a b : List (Int × Int)) : PyData.eqv (py (kD a)) (py (kD b)) = decide (a = b) := by
  show PyData.eqvAll (pyL (a.map pairD)) (pyL (b.map pairD)) = _
  rw [pyL_map, pyL_map]
  exact eqv_pairs a b
theorem shaped_kinds {kz : List (Int × Int)} (k : Kinds kz) : SeqAt.shaped (py (kD kz)) = true := ((shw_kinds (n := 0) k).ok (by decide) (by decide)).1
mutual
theorem eqv_me : ∀ d : PyData, d.canLay0 = true → PyData.eqv d d = true
  | .none, _ => rfl
  | .bool b, _ => by show (b == b) = true; simp
  | .int i, _ => by show (i == i) = true; simp
  | .str x, _ => by show (x == x) = true; simp
  | .list xs, h => eqv_meAll xs h
  | .tuple xs, h => eqv_meAll xs h
  | .dict _, h => by cases h
theorem eqv_meAll : ∀ ds : List PyData, PyData.canLayAll0 ds = true → PyData.eqvAll ds ds = true
  | [], _ => rfl
  | d :: ds, h => by
    obtain ⟨h1, h2⟩ := Bool.and_eq_true_iff.mp (show (PyData.canLay0 d && PyData.canLayAll0 ds) = true from h)
    show (PyData.eqv d d && PyData.eqvAll ds ds) = true
    rw [eqv_me d h1, eqv_meAll ds h2] <;> rfl
end
theorem Kinds.one {kz : List (Int × Int)} (k : Kinds kz) {p : Int × Int} (h : p ∈ kz) : Kinds [p] := by
  have := k.mem p h
  exact ⟨by simp, by simp, ⟨this.1, this.2.1, this.2.2.1, this.2.2.2, trivial⟩⟩
theorem join_fits {kz : List (Int × Int)} (k : Kinds kz) : ((kz.map wordT).map (·.length)).sum + (kz.map wordT).length * (" " : Str).length ≤ 16777216 := by
  have key : ∀ l : List (Int × Int), (∀ p ∈ l, (wordT p).length ≤ 123) → ((l.map wordT).map (·.length)).sum ≤ 123 * l.length := by
    intro l
    induction l with
    | nil => intro _; simp
    | cons p l ih =>
      intro h
      have h1 := h p List.mem_cons_self
      have h2 := ih fun q hq => h q (List.mem_cons_of_mem _ hq)
      simp only [List.map_cons, List.sum_cons, List.length_cons]
      omega
  have := key kz fun p hp => by
    have := k.mem p hp
    exact word_len (by omega) (by omega) (by omega) (by omega)
  have := k.len
  rw [len_sp, List.length_map]
  omega
end Rh
/-! DL28: sorted(set(x)) of ints. -/
namespace Rh
open PySem PySem.Spec PyProof.Rows L2
section
variable {P : Program} {w : World} {A : Around} {E : Value → Shared → Prop} {s : Shared}
end
section
variable {X : Cx} {O : Org} {pos : Pos}
end
end Rh
/-! DL29: a text so many times. -/
namespace Rh
open PySem PySem.Spec PyProof.Rows L2
end Rh
/-! DL30: own exceptions over any of three built-in bases, whose __init__ keeps its one argument: made, raised. -/
namespace Rh
open PySem PySem.Spec PyProof.Rows L2
open Builtin Builtin.ObjectAttr

/-- what the written part says of such a class -/
structure XcG (K : PySem.W.Frag) (C : Addr) : Prop where
  base : ∃ (B newId initId : String) (bmB : List Value), ExcBaseFacts B newId initId bmB ∧ StoreFacts B bmB "object.__setattr__" "object" ∧ PySem.W.excInitIn K C bmB newId = true ∧ PySem.W.excOver K C bmB = true
  sa : PySem.W.findIn K (.ref C) "__setattr__" = some (some (.builtin "object.__setattr__"))
  hd : PySem.W.hasDictIn K C = true
  ex : PySem.W.subIn K (.ref C) (.type "BaseException") = some true
  ty : PySem.W.typeIn K (.ref C) = some (.type "type")
  kp : PySem.W.keepIn K (.ref C) = true
section
variable {X : Cx} {pins : List (Addr × Obj)} {σ : L2.St} {H : Hp} {s : Shared} {a C : Addr} {f : Str} {y : V} {u : Value} {Q : Unit → Shared → Prop} {E : Value → Shared → Prop} {A : Around}
end
/-- self.f = given: what such an __init__ does -/
def spXi (K : PySem.W.Frag) (f : Str) : Sp := fun vs H Q _ => ∃ (a C : Addr) (v : V), vs = [.ref a, v] ∧ XcG K C ∧ PySem.W.takerIn K C f = some none ∧ H a = some (exo a C none) ∧
  ∀ b, H b = none → b ≠ a → Q .non (upd (upd H b (exd b [(f, v)])) a (exo a C (some b)))
section
variable {P : Program} {w : World} {K : PySem.W.Frag} {mg : Str → Option Value} {base : Heap} {CX : CXT}
/-- what is known of an own exception class that keeps its one argument -/
structure XcP (P : Program) (w : World) (K : PySem.W.Frag) (mg : Str → Option Value) (base : Heap) (C : Addr) (f : Str) : Prop where
  g : XcG K C
  nf : PySem.W.takerIn K C f = some none
  made : ∃ (fI : Addr) (fd : FuncData), PySem.W.findIn K (.ref C) "__init__" = some (some (.ref fI)) ∧ PySem.W.typeIn K (.ref fI) = some (.type "function") ∧ FnOk P w K mg base (L2N.CX P w) 1 fI fd ["self", f] (spXi K f) ∧ Binds K fd ["self", f] []
end
section
variable {X : Cx} {O : Org} {x f : Str} {C : Addr} {e : Expr} {te : DTE} {p pos pos' : Pos} {W : DWX}
end
end Rh
/-! DL31: try with several clauses, each with a name for the exception or without; the exception's fields. -/
namespace Rh
open PySem PySem.Spec PyProof.Rows L2

abbrev HC := Value × Option Nat × (Addr → Value → Option Addr → TS)
/-- a clause's name and its slot -/
def NamOk (X : Cx) : Option Str → Option Nat → Prop
  | none, none => True
  | some n, some i => X.N[i]? = some n ∧ X.env.kindOf n = some .local
  | _, _ => False
inductive HdsMix (X : Cx) : List ExceptHandler → List HC → Prop
  | nil : HdsMix X [] []
  | cons {x : Str} {c : Value} {on : Option Str} {i : Option Nat} {ts : Addr → Value → Option Addr → TS} {b0 : Stmt} {su : List Stmt} {np hp : Pos} {hds : List ExceptHandler} {l : List HC} (hc : Names X x c) (hn : NamOk X on i)
      (hsu : ∀ (a : Addr) (oe : Obj) (cls : Value) (d : Option Addr) (pn : List (Addr × Obj)), L2N.Zn cls d oe → (∃ vs, oe.data = .fields vs) → PSs (X.suite a ((a, oe) :: pn)) (b0 :: su) (ts a cls d)) (r : HdsMix X hds l) :
      HdsMix X (.ExceptHandler (some (.Name x np)) on (b0 :: su) hp :: hds) ((c, i, ts) :: l)
section
variable {X : Cx} {body : List Stmt} {h0 : ExceptHandler} {hds : List ExceptHandler} {l : List HC} {pos : Pos} {tb : WX → TS} {Wout : WX}
end
/-! ### over data -/
abbrev DHand := Addr × Option Nat × (Addr → List Str → List D → DTS)
section
variable {X : Cx} {O : Org} {body : List Stmt} {h0 : ExceptHandler} {hds : List ExceptHandler} {l : List DHand} {pos : Pos} {tb : DWX → DTS}
inductive HdsD (X : Cx) (O : Org) : List ExceptHandler → List DHand → Prop
  | nil : HdsD X O [] []
  | cons {x : Str} {C : Addr} {on : Option Str} {i : Option Nat} {t : Addr → List Str → List D → DTS} {b0 : Stmt} {su : List Stmt} {np hp : Pos} {hds : List ExceptHandler} {l : List DHand} (hg : Gl X x) (hm : X.mg x = some (.ref C)) (hn : NamOk X on i)
      (hsu : ∀ (a : Addr) (oe : Obj) (d : Option Addr) (pn : List (Addr × Obj)) (O' : Org) (ns : List Str) (ds : List D), L2N.Zn (.ref C) d oe → (∃ vs, oe.data = .fields vs) → XdIs X.K O'.H O'.M ns ds d → DSs (X.suite a ((a, oe) :: pn)) O' (b0 :: su) (t a ns ds)) (r : HdsD X O hds l)
      (hdb : (x == ("__debug__" : Str)) = false := by decide) :
      HdsD X O (.ExceptHandler (some (.Name x np)) on (b0 :: su) hp :: hds) ((C, i, t) :: l)
end
end Rh
/-! DL31H: a, b = x, y within an except suite. -/
namespace Rh
open PySem PySem.Spec PyProof.Rows L2 HotX L2H

section
variable {prog : Program} {w : World} {A : Around} {E : Value → Shared → Prop} {s : Shared}
end
end Rh
/-! DL32: a lambda without parameters, handed to a def that calls it. -/
namespace Rh
open PySem PySem.Spec PyProof.Rows L2 LamX

section
variable {X : Cx} {pins : List (Addr × Obj)} {σ : L2.St} {H : Hp} {s : Shared} {M : DHp}
end
/-! ### over data -/
end Rh
/-! DL33: the head and the end of a law whose defs make lambdas: tables of code objects. -/
namespace Rh
open PySem PySem.Spec PyProof.Rows L2 LamX

/-! ### what the head looks at -/
/-- a def's code object, its table -/
def codC (K : PySem.W.Frag) (f : Addr) : Addr := match K.lookup f with
  | some ⟨_, _, .func fd, _⟩ => (match fd.code with
    | .ref c => c
    | _ => 0)
  | _ => 0
def tabP (K : PySem.W.Frag) (f : Addr) : Addr := match K.lookup (codC K f) with
  | some ⟨_, _, .fields vs, _⟩ => (match vs.getD 11 .none with
    | .ref p => p
    | _ => 0)
  | _ => 0
def fnCode (K : PySem.W.Frag) (f : Addr) : Bool := match K.lookup f with
  | some ⟨_, _, .func fd, _⟩ => fd.code == .ref (codC K f)
  | _ => false
/-- the table of the def at f is there, empty, and not of the written part -/
structure TabAt (h : Heap) (K : PySem.W.Frag) (f : Addr) : Prop where
  code : fnCode K f = true
  hd : PySem.W.CodeHd h (codC K f) (tabP K f)
  no : K.lookup (tabP K f) = none
  emp : h.get? (tabP K f) = some { cls := .none, data := .fields #[] }
theorem TabAt.keeps {h h' : Heap} {K : PySem.W.Frag} {f : Addr} (t : TabAt h K f) (k : ∀ b o, h.get? b = some o → h'.get? b = some o) : TabAt h' K f := ⟨t.code, t.hd.keeps k, t.no, k _ _ t.emp⟩
/-! ### the hook -/
abbrev FA := PySem.W.Frag → Addr
/-! ### the end -/
section
variable {P : Program} {w : World} {K : PySem.W.Frag} {mg mb : Str → Option Value} {p : Addr} {us : List Value} {ns : List Int} {st : Shared} {cs : List (Addr × Addr × Str)}
end
end Rh
/-! DL34: packages and facts for raising, catching, lambdas. -/
namespace Rh
open PySem PySem.Spec PyProof.Rows L2 LamX

/-! ### a def that makes lambdas: its code object is known -/
section
variable {P : Program} {w : World} {K : PySem.W.Frag} {mg : Str → Option Value} {base : Heap}
end
/-! ### a def that gets a lambda -/
/-! ### facts -/
def bases : List (String × List Value) := [("ValueError", [.type "ValueError", .type "Exception", .type "BaseException", .type "object"]), ("LookupError", [.type "LookupError", .type "Exception", .type "BaseException", .type "object"]), ("ArithmeticError", [.type "ArithmeticError", .type "Exception", .type "BaseException", .type "object"])]
section
variable {P : Program} {w : World} {K : PySem.W.Frag} {mg : Str → Option Value} {base : Heap} {C f : Str}
end
/-! ### the tables of a law -/
section
variable {K : PySem.W.Frag} {h : Heap} {tn : List FA} {qs : List Str}
end
end Rh
/-! DL35: calls that give every value of a def with defaults. -/
namespace Rh
open PySem PySem.Spec PyProof.Rows L2
section
variable {K : PySem.W.Frag} {x qual : Str} {params : Arguments} {body : List Stmt} {scope : Scope} {dvs : List V} {kws : List (Str × V)} {f : Addr} {fd : FuncData} {ps : List Str}
end
end Rh
/-! DL36: the last item of a list taken out. -/
namespace Rh
open PySem PySem.Spec PyProof.Rows L2
section
variable {X : Cx} {O : Org} {pos apos p : Pos} {o e : Expr} {to te : DTE}
end
end Rh
/-! DL37: == of two objects of a class without an __eq__ of its own. -/
namespace Rh
open PySem PySem.Spec PyProof PyProof.Rows L2
section
variable {M : Model} {prog : Program} {w : World} {A : Around} {E : Value → Shared → Prop} {s : Shared} {K : PySem.W.Frag} {x y C : Addr} {ox oy : Obj} {od od2 : Option Obj}
end
section
variable {X : Cx}
end
end Rh
/-! DL44: == and != of anything plain with a text. -/
namespace Rh
open PySem PySem.Spec PyProof.Rows L2
open MeetsSeq SeqAt
open AutoSeq1 (wpAny_loadPart')
section
variable {A : Around} {s : Shared}
end
/-! ### over values: a tuple, a list, a dict -/
section
variable {X : Cx}
end
end Rh
/-! DL57: ==, != of objects of a class without an __eq__ of its own: the same one, two. -/
namespace Rh
open PySem PySem.Spec PyProof PyProof.Rows L2
section
variable {M : Model} {prog : Program} {w : World} {A : Around} {E : Value → Shared → Prop} {s : Shared} {K : PySem.W.Frag} {x y C : Addr} {ox oy : Obj} {od od2 : Option Obj}
theorem ifBound_objNe {args : List Value} {Q : Option Value → Shared → Prop} (X : K.In s.heap) (I : PySem.W.InstAt s.heap x ox C od) (hs : PySem.W.findIn K (.ref C) "__ne__" = some (some (.builtin "object.__ne__")))
    (h : wpAny M A (call (.builtin "object.__ne__") (.ref x :: args)) (fun v => Q (some v)) E s) : wpAny M A (callSpecialIfBound? (.ref x) "__ne__" args) Q E s := by
  simp only [callSpecialIfBound?, bindSpecialIfBound?]
  refine wpAny_holding (wpAny_bind (wpAny_bind (wpAny_bind (I.type.here ((PySem.W.looks_findIn X hs).here ?_)))))
  refine wpAny_bind (wpAny_askSetting (wpAny_ite ?_))
  have fin : wpAny M A (call (.builtin "object.__ne__") ([.ref x] ++ args) >>= fun v => pure (some v)) Q E s := wpAny_bind (wpAny_mono h (fun v s' h' => wpAny_pure h') fun _ _ h' => h')
  split
  · exact wpAny_bind (wpAny_of_eq (F.cmp_object.ne.bind _) (wpAny_pure (by exact fin)))
  · exact wpAny_tryCatch (wpAny_bind (wpAny_of_eq (F.cmp_object.ne.bind _) (wpAny_pure (by exact fin))))
theorem call_ne {b : Value} {Q : Value → Shared → Prop} (X : K.In s.heap) (I : PySem.W.InstAt s.heap x ox C od) (hm : PySem.W.mroIn K C (.type "object") = some true)
    (h : ∀ E : Value → Shared → Prop, wpAny (model prog w) A.in1 (Builtin.«object.__ne__» ⟨[.ref x, b], []⟩) (fun v s' => ∃ r, v = .done (.ret r) ∧ Q r s') E s) :
    wpAny (model prog w) A (call (.builtin "object.__ne__") [.ref x, b]) Q E s :=
  wpAny_call (codeAny_call_builtin F.cmp_object.ne.plain F.cmpEntry_ne (PySem.W.check_slot F.cmpKind_ne F.cmpSplit_ne (I.type.andThen (PySem.W.looks_mroIn X hm)) (F.cmpArgs_ne _ _) (wpAny_mono (h _) (fun v s' z => by
    obtain ⟨r, rfl, q⟩ := z
    exact q) fun _ _ e => e)))
/-- a's own way declines -/
def Dec (prog : Program) (w : World) (A : Around) (s : Shared) (a : Value) (nm : Str) (b : Value) : Prop := ∀ (E : Value → Shared → Prop), wpAny (model prog w) A (tryCompare a nm b) (fun r s' => r = none ∧ s' = s) E s
end
section
variable {X : Cx}
end
end Rh
/-! DL63: ==, != of an object with an __eq__ of its own and anything plain, from both sides; != of two such objects. -/
namespace Rh
open PySem PySem.Spec PyProof PyProof.Rows L2
open AutoSeq1 (wpAny_loadPart')

/-- the kinds of plain things -/
inductive PT where
  | non | bl | int | str | tup | lst | dic
def PT.nm : PT → String
  | .non => "NoneType"
  | .bl => "bool"
  | .int => "int"
  | .str => "str"
  | .tup => "tuple"
  | .lst => "list"
  | .dic => "dict"
/-- a class of its own: no subclass of a plain one, its != is object's -/
structure OwnCmp (K : PySem.W.Frag) (C : Addr) : Prop where
  obj : PySem.W.mroIn K C (.type "object") = some true
  no : ∀ t : PT, PySem.W.mroIn K C (.type t.nm) = some false
  ne : PySem.W.findIn K (.ref C) "__ne__" = some (some (.builtin "object.__ne__"))
def bOc (C : Str) : FB := fun K => decide (PySem.W.mroIn K (He.ga K C) (.type "object") = some true) && [PT.non, .bl, .int, .str, .tup, .lst, .dic].all (fun t => decide (PySem.W.mroIn K (He.ga K C) (.type t.nm) = some false)) && He.eqO (PySem.W.findIn K (.ref (He.ga K C)) "__ne__") (some (some (.builtin "object.__ne__")))
theorem bOc_ok {K : PySem.W.Frag} {C : Str} (h : bOc C K = true) : OwnCmp K (He.ga K C) := by
  obtain ⟨h12, h3⟩ := He.ba h
  obtain ⟨h1, h2⟩ := He.ba h12
  refine ⟨of_decide_eq_true h1, fun t => ?_, He.eqO_ok h3⟩
  have z := List.all_eq_true.mp h2
  cases t <;> exact of_decide_eq_true (z _ (by simp))
/-- the value at hand is a plain one of this kind -/
def PV (h : Heap) : PT → Value → Prop
  | .non, v => v = .none
  | .bl, v => ∃ b, v = .bool b
  | .int, v => ∃ i t, v = .int i t
  | .str, v => ∃ x t, v = .str x t
  | .tup, v => ∃ l its n dd sl, v = .ref l ∧ h.get? l = some { cls := .type "tuple", dict := dd, data := .seq its n, slots := sl }
  | .lst, v => ∃ l its n dd sl, v = .ref l ∧ h.get? l = some { cls := .type "list", dict := dd, data := .seq its n, slots := sl }
  | .dic, v => ∃ l es ep dd sl, v = .ref l ∧ h.get? l = some { cls := .type "dict", dict := dd, data := .dict es ep, slots := sl }
section
variable {M : Model} {prog : Program} {w : World} {A : Around} {E : Value → Shared → Prop} {s : Shared} {K : PySem.W.Frag} {x C : Addr} {ox : Obj} {od : Option Obj} {T : PT} {v b : Value}
theorem PV.ty (h : PV s.heap T v) : s.TypeIs v T.nm := by
  cases T with
  | non => obtain rfl := (show v = .none from h); rfl
  | bl => obtain ⟨b, rfl⟩ := h; rfl
  | int => obtain ⟨i, t, rfl⟩ := h; exact typeIs_int s i t
  | str => obtain ⟨i, t, rfl⟩ := h; exact typeIs_str s i t
  | tup => obtain ⟨l, its, n, dd, sl, rfl, e⟩ := h; exact ⟨_, e, rfl⟩
  | lst => obtain ⟨l, its, n, dd, sl, rfl, e⟩ := h; exact ⟨_, e, rfl⟩
  | dic => obtain ⟨l, its, n, dd, sl, rfl, e⟩ := h; exact ⟨_, e, rfl⟩
theorem PV.looks (h : PV s.heap T v) : PySem.W.Looks M s.heap (typeOf v) (.type T.nm) := by
  cases T with
  | non => obtain rfl := (show v = .none from h); exact .of_pure rfl
  | bl => obtain ⟨b, rfl⟩ := h; exact .of_pure rfl
  | int => obtain ⟨i, t, rfl⟩ := h; exact .of_pure rfl
  | str => obtain ⟨i, t, rfl⟩ := h; exact .of_pure rfl
  | tup => obtain ⟨l, its, n, dd, sl, rfl, e⟩ := h; exact (PySem.W.Looks.ld e).andThen .now
  | lst => obtain ⟨l, its, n, dd, sl, rfl, e⟩ := h; exact (PySem.W.Looks.ld e).andThen .now
  | dic => obtain ⟨l, its, n, dd, sl, rfl, e⟩ := h; exact (PySem.W.Looks.ld e).andThen .now
/-- an instance is none of these -/
theorem sub_no {n : String} (X : K.In s.heap) (o : PySem.W.mroIn K C (.type n) = some false) {Q : Bool → Shared → Prop} (h : Q false s) : wpAny (model prog w) A (isSubtype (.ref C) (.type n)) Q E s := (PySem.W.looks_subIn (t := .ref C) X o).here h
/-- the instance's object bears nothing of a built-in class -/
def Plain (ox : Obj) : Prop := ox.data = .plain
theorem dec_of {id : String} {B : Builtin} {nm : Str} (hT : PV s.heap T v) (sl : Slot T.nm nm id) (en : entryFor table id = some B) (ar : argsOk id ⟨[v, b], []⟩)
    (h : ∀ (A : Around) (E : Value → Shared → Prop) (Q : Fin → Shared → Prop), Q (.done (.ret .notImplemented)) s → wpAny (model prog w) A (B ⟨[v, b], []⟩) Q E s) : Dec prog w A s v nm b := fun E =>
  wpAny_tryCompare_declines hT.ty sl (wpAny_call (codeAny_call_builtin sl.plain en (sl.check _ _ _ _ _ _ _ _ hT.ty ar (h _ _ _ ⟨rfl, rfl, rfl⟩))))
theorem dec_eqB (X : K.In s.heap) (I : PySem.W.InstAt s.heap x ox C od) (o : OwnCmp K C) (pl : Plain ox) (hT : PV s.heap T v) : Dec prog w A s v "__eq__" (.ref x) := by
  cases T with
  | non =>
    obtain rfl := (show v = .none from hT)
    refine dec_of hT F.slot_NoneType_eq F.entry_NoneType_eq (F.args_NoneType_eq_2 _ _) fun A E Q h => ?_
    obtain ⟨hp, g, d, tk, os⟩ := s
    wp_walk
    exact h
  | bl =>
    obtain ⟨b, rfl⟩ := hT
    refine dec_of (T := .bl) ⟨b, rfl⟩ F.slot_bool_eq F.entry_int_eq (F.args_int_eq_2 _ _) fun A E Q h => ?_
    obtain ⟨oc, odi, oda, osl⟩ := ox
    obtain rfl : oda = .plain := pl
    have e := I.at_
    obtain ⟨hp, g, d, tk, os⟩ := s
    wp_walk using wpAny_load e
    exact h
  | int =>
    obtain ⟨i, u, rfl⟩ := hT
    refine dec_of (T := .int) ⟨i, u, rfl⟩ F.slot_int_eq F.entry_int_eq (F.args_int_eq_2 _ _) fun A E Q h => ?_
    obtain ⟨oc, odi, oda, osl⟩ := ox
    obtain rfl : oda = .plain := pl
    have e := I.at_
    obtain ⟨hp, g, d, tk, os⟩ := s
    wp_walk using wpAny_load e
    exact h
  | str =>
    obtain ⟨i, u, rfl⟩ := hT
    refine dec_of (T := .str) ⟨i, u, rfl⟩ F.slot_str_eq F.entry_str_eq (F.args_str_eq_2 _ _) fun A E Q h => ?_
    obtain ⟨oc, odi, oda, osl⟩ := ox
    obtain rfl : oda = .plain := pl
    have e := I.at_
    obtain ⟨hp, g, d, tk, os⟩ := s
    wp_walk using wpAny_load e
    exact h
  | tup =>
    refine dec_of hT F.slot_tuple_eq F.entry_tuple_eq (F.args_tuple_eq_2 _ _) fun A E Q h => ?_
    have no := (show PySem.W.mroIn K C (.type "tuple") = some false from o.no .tup)
    obtain ⟨oc, odi, oda, osl⟩ := ox
    obtain rfl : oc = .ref C := I.cls
    have ex := I.at_
    unfold Builtin.«tuple.__eq__»
    repeat (first | with_reducible refine wpAny_loadPart' ex ?_ | with_reducible refine sub_no X no ?_ | wp_step)
    exact h
  | lst =>
    refine dec_of hT F.slot_list_eq F.entry_list_eq (F.args_list_eq_2 _ _) fun A E Q h => ?_
    have no := (show PySem.W.mroIn K C (.type "list") = some false from o.no .lst)
    obtain ⟨oc, odi, oda, osl⟩ := ox
    obtain rfl : oc = .ref C := I.cls
    have ex := I.at_
    unfold Builtin.«list.__eq__»
    repeat (first | with_reducible refine wpAny_loadPart' ex ?_ | with_reducible refine sub_no X no ?_ | wp_step)
    exact h
  | dic =>
    obtain ⟨l, es, ep, dd, sl, rfl, e⟩ := hT
    refine dec_of (T := .dic) ⟨l, es, ep, dd, sl, rfl, e⟩ F.slot_dict_eq F.entry_dict_eq (F.args_dict_eq_2 _ _) fun A E Q h => ?_
    have no := (show PySem.W.mroIn K C (.type "dict") = some false from o.no .dic)
    obtain ⟨oc, odi, oda, osl⟩ := ox
    obtain rfl : oc = .ref C := I.cls
    have ex := I.at_
    unfold Builtin.«dict.__eq__»
    repeat (first | with_reducible refine wpAny_loadPart' ex ?_ | with_reducible refine sub_no X no ?_ | with_reducible refine wpAny_loadPart' e ?_ | wp_step)
    exact h
theorem dec_neB (X : K.In s.heap) (I : PySem.W.InstAt s.heap x ox C od) (o : OwnCmp K C) (pl : Plain ox) (hT : PV s.heap T v) : Dec prog w A s v "__ne__" (.ref x) := by
  cases T with
  | non =>
    obtain rfl := (show v = .none from hT)
    refine dec_of hT F.slot_NoneType_ne F.entry_NoneType_ne (F.args_NoneType_ne_2 _ _) fun A E Q h => ?_
    obtain ⟨hp, g, d, tk, os⟩ := s
    wp_walk
    exact h
  | bl =>
    obtain ⟨b, rfl⟩ := hT
    refine dec_of (T := .bl) ⟨b, rfl⟩ F.slot_bool_ne F.entry_int_ne (F.args_int_ne_2 _ _) fun A E Q h => ?_
    obtain ⟨oc, odi, oda, osl⟩ := ox
    obtain rfl : oda = .plain := pl
    have e := I.at_
    obtain ⟨hp, g, d, tk, os⟩ := s
    wp_walk using wpAny_load e
    exact h
  | int =>
    obtain ⟨i, u, rfl⟩ := hT
    refine dec_of (T := .int) ⟨i, u, rfl⟩ F.slot_int_ne F.entry_int_ne (F.args_int_ne_2 _ _) fun A E Q h => ?_
    obtain ⟨oc, odi, oda, osl⟩ := ox
    obtain rfl : oda = .plain := pl
    have e := I.at_
    obtain ⟨hp, g, d, tk, os⟩ := s
    wp_walk using wpAny_load e
    exact h
  | str =>
    obtain ⟨i, u, rfl⟩ := hT
    refine dec_of (T := .str) ⟨i, u, rfl⟩ F.slot_str_ne F.entry_str_ne (F.args_str_ne_2 _ _) fun A E Q h => ?_
    obtain ⟨oc, odi, oda, osl⟩ := ox
    obtain rfl : oda = .plain := pl
    have e := I.at_
    obtain ⟨hp, g, d, tk, os⟩ := s
    wp_walk using wpAny_load e
    exact h
  | tup =>
    refine dec_of hT F.slot_tuple_ne F.entry_tuple_ne (F.args_tuple_ne_2 _ _) fun A E Q h => ?_
    have no := (show PySem.W.mroIn K C (.type "tuple") = some false from o.no .tup)
    obtain ⟨oc, odi, oda, osl⟩ := ox
    obtain rfl : oc = .ref C := I.cls
    have ex := I.at_
    unfold Builtin.«tuple.__ne__»
    repeat (first | with_reducible refine wpAny_loadPart' ex ?_ | with_reducible refine sub_no X no ?_ | wp_step)
    exact h
  | lst =>
    refine dec_of hT F.slot_list_ne F.entry_list_ne (F.args_list_ne_2 _ _) fun A E Q h => ?_
    have no := (show PySem.W.mroIn K C (.type "list") = some false from o.no .lst)
    obtain ⟨oc, odi, oda, osl⟩ := ox
    obtain rfl : oc = .ref C := I.cls
    have ex := I.at_
    unfold Builtin.«list.__ne__»
    repeat (first | with_reducible refine wpAny_loadPart' ex ?_ | with_reducible refine sub_no X no ?_ | wp_step)
    exact h
  | dic =>
    obtain ⟨l, es, ep, dd, sl, rfl, e⟩ := hT
    refine dec_of (T := .dic) ⟨l, es, ep, dd, sl, rfl, e⟩ F.slot_dict_ne F.entry_dict_ne (F.args_dict_ne_2 _ _) fun A E Q h => ?_
    have no := (show PySem.W.mroIn K C (.type "dict") = some false from o.no .dic)
    obtain ⟨oc, odi, oda, osl⟩ := ox
    obtain rfl : oc = .ref C := I.cls
    have ex := I.at_
    unfold Builtin.«dict.__ne__»
    repeat (first | with_reducible refine wpAny_loadPart' ex ?_ | with_reducible refine sub_no X no ?_ | with_reducible refine wpAny_loadPart' e ?_ | wp_step)
    exact h
/-- the instance's own == is asked -/
theorem try_eqK {f : Addr} {P : Bool → Shared → Prop} (X : K.In s.heap) (I : PySem.W.InstAt s.heap x ox C od) (hs : PySem.W.findIn K (.ref C) "__eq__" = some (some (.ref f))) (hf : PySem.W.isFn K (.ref f) = true)
    (h : wpAny (model prog w) A (call (.ref f) [.ref x, b]) (fun v s' => ∃ k, v = .bool k ∧ P k s') E s) : wpAny (model prog w) A (tryCompare (.ref x) "__eq__" b) (fun r s' => ∃ k, r = some (.bool k) ∧ P k s') E s := by
  unfold tryCompare
  refine wpAny_bind (PySem.W.ifBound_K X I hs hf (wpAny_mono h (fun v s' z => ?_) fun _ _ e => e))
  obtain ⟨k, rfl, p⟩ := z
  exact wpAny_pure ⟨k, rfl, p⟩
theorem try_neK {f : Addr} {P : Bool → Shared → Prop} (X : K.In s.heap) (I : PySem.W.InstAt s.heap x ox C od) (o : OwnCmp K C) (hu : A.units + 1 < cLine) (hs : PySem.W.findIn K (.ref C) "__eq__" = some (some (.ref f))) (hf : PySem.W.isFn K (.ref f) = true)
    (h : ∀ E : Value → Shared → Prop, wpAny (model prog w) A.in1 (call (.ref f) [.ref x, b]) (fun v s' => ∃ k, v = .bool k ∧ P k s') E s) : wpAny (model prog w) A (tryCompare (.ref x) "__ne__" b) (fun r s' => ∃ k, r = some (.bool (!k)) ∧ P k s') E s := by
  have hu1 : A.in1.units < cLine := hu
  unfold tryCompare
  refine wpAny_bind (ifBound_objNe X I o.ne (wpAny_mono (call_ne (Q := fun v s' => ∃ k, v = .bool (!k) ∧ P k s') X I o.obj fun E2 => ?_) (fun v s' z => ?_) fun _ _ e => e))
  · have sp : wpAny (model prog w) A.in1 (callSpecialIfBound? (.ref x) "__eq__" [b]) (fun r s' => ∃ k, r = some (.bool k) ∧ P k s') E2 s := PySem.W.ifBound_K X I hs hf (wpAny_mono (h _) (fun v s' z => by obtain ⟨k, rfl, p⟩ := z; exact ⟨k, rfl, p⟩) fun _ _ e => e)
    unfold Builtin.«object.__ne__»
    repeat (first | with_reducible refine wpAny_cRoomFor hu1 ?_ | with_reducible refine wpAny_mono sp (fun r s' z => ?_) (fun _ _ e => e) | wp_step)
    obtain ⟨k, rfl, p⟩ := z
    repeat wp_step
    exact ⟨_, rfl, k, rfl, p⟩
  · obtain ⟨k, rfl, p⟩ := z
    exact wpAny_pure ⟨k, rfl, p⟩
/-- the first one asked answers -/
theorem rc_one {op : CmpOp} (hop : op = .Eq ∨ op = .NotEq) {a b ta tb : Value} (nt : oneThing? op a b = none) (hu : A.units < cLine) (la : PySem.W.Looks (model prog w) s.heap (typeOf a) ta) (lb : PySem.W.Looks (model prog w) s.heap (typeOf b) tb) (sub : ta = tb ∨ PySem.W.Looks (model prog w) s.heap (isSubtype tb ta) false) {Q : Value → Shared → Prop}
    (one : wpAny (model prog w) A (tryCompare a (cmpInfo op).2.1 b) (fun r s' => ∃ v, r = some v ∧ Q v s') E s) : wpAny (model prog w) A (richCompare op a b) Q E s := by
  unfold richCompare
  simp only [nt]
  refine wpAny_holding (wpAny_bind (wpAny_cRoomFor hu ?_))
  refine wpAny_bind (la.here ?_)
  refine wpAny_bind (lb.here ?_)
  split
  · rename_i q
    rcases sub with e | e
    · rw [e] at q; exact absurd q (by simp)
    · refine wpAny_bind (e.here ?_)
      simp only [Bool.false_eq_true, if_false]
      refine wpAny_bind (wpAny_mono one (fun r s' z => ?_) fun _ _ e => e)
      obtain ⟨v, rfl, hq⟩ := z
      exact wpAny_pure hq
  · refine wpAny_bind (wpAny_pure ?_)
    simp only [Bool.false_eq_true, if_false]
    refine wpAny_bind (wpAny_mono one (fun r s' z => ?_) fun _ _ e => e)
    obtain ⟨v, rfl, hq⟩ := z
    exact wpAny_pure hq
/-- the first one asked declines, the second one answers -/
theorem rc_two2 {op : CmpOp} (hop : op = .Eq ∨ op = .NotEq) {a b ta tb : Value} (nt : oneThing? op a b = none) (hu : A.units < cLine) (la : PySem.W.Looks (model prog w) s.heap (typeOf a) ta) (lb : PySem.W.Looks (model prog w) s.heap (typeOf b) tb) (sub : ta = tb ∨ PySem.W.Looks (model prog w) s.heap (isSubtype tb ta) false) {Q : Value → Shared → Prop}
    (d1 : Dec prog w A s a (cmpInfo op).2.1 b) (two : wpAny (model prog w) A (tryCompare b (cmpInfo op).2.2 a) (fun r s' => ∃ v, r = some v ∧ Q v s') E s) : wpAny (model prog w) A (richCompare op a b) Q E s := by
  unfold richCompare
  simp only [nt]
  refine wpAny_holding (wpAny_bind (wpAny_cRoomFor hu ?_))
  refine wpAny_bind (la.here ?_)
  refine wpAny_bind (lb.here ?_)
  split
  · rename_i q
    rcases sub with e | e
    · rw [e] at q; exact absurd q (by simp)
    · refine wpAny_bind (e.here ?_)
      simp only [Bool.false_eq_true, if_false, Bool.not_false, if_true]
      refine wpAny_bind (m := tryCompare a _ b) (wpAny_mono (d1 _) (fun r s1 z => ?_) fun _ _ e => e)
      obtain ⟨rfl, rfl⟩ := z
      refine wpAny_bind (m := tryCompare b _ a) (wpAny_mono two (fun r s' z => ?_) fun _ _ e => e)
      obtain ⟨v, rfl, hq⟩ := z
      exact wpAny_pure hq
  · refine wpAny_bind (wpAny_pure ?_)
    simp only [Bool.false_eq_true, if_false, Bool.not_false, if_true]
    refine wpAny_bind (m := tryCompare a _ b) (wpAny_mono (d1 _) (fun r s1 z => ?_) fun _ _ e => e)
    obtain ⟨rfl, rfl⟩ := z
    refine wpAny_bind (m := tryCompare b _ a) (wpAny_mono two (fun r s' z => ?_) fun _ _ e => e)
    obtain ⟨v, rfl, hq⟩ := z
    exact wpAny_pure hq
end
/-! ### over values -/
/-- plain values: what stands in them is not looked at -/
inductive BlV (K : PySem.W.Frag) (H : Hp) : V → Prop
  | non : BlV K H .non
  | bl (b : Bool) : BlV K H (.bl b)
  | int (i : Int) : BlV K H (.int i)
  | str (x : Str) : BlV K H (.str x)
  | tup {a : Addr} {xs : List V} (h : SqT K H a xs) : BlV K H (.ref a)
  | lst {a : Addr} {xs : List V} (h : SqL K H a xs) : BlV K H (.ref a)
  | dic {a : Addr} {kvs : List (Key × V)} (h : H a = some (.dK kvs)) : BlV K H (.ref a)
section
variable {X : Cx} {pins : List (Addr × Obj)} {σ : L2.St} {H : Hp} {s : Shared} {k : Nat}
theorem BlV.pv (I : Inv X pins σ H s) {v : V} {u : Value} (h : BlV X.K H v) (r : RelV v u) : ∃ T, PV s.heap T u := by
  cases h with
  | non => cases r; exact ⟨.non, rfl⟩
  | bl b => cases r; exact ⟨.bl, _, rfl⟩
  | int i => obtain ⟨t, rfl⟩ := r; exact ⟨.int, _, _, rfl⟩
  | str i => obtain ⟨t, rfl⟩ := r; exact ⟨.str, _, _, rfl⟩
  | tup h =>
    cases r
    obtain ⟨its, _, ⟨⟨c, d, da, sl⟩, ho, hc, n, hd⟩, _⟩ := I.tuple h
    obtain rfl : c = _ := hc
    obtain rfl : da = _ := hd
    exact ⟨.tup, _, _, _, _, _, rfl, ho⟩
  | lst h =>
    cases r
    obtain ⟨its, _, ⟨⟨c, d, da, sl⟩, n, ho, hc, _, hd⟩, _⟩ := I.list h
    obtain rfl : c = _ := hc
    obtain rfl : da = _ := hd
    exact ⟨.lst, _, _, _, _, _, rfl, ho⟩
  | dic h =>
    cases r
    obtain ⟨_, _, ws, _, ⟨c, d, da, sl⟩, es, ep, ho, hx, hd, _⟩ := I.hok _ _ h
    obtain rfl : c = _ := hx.1
    obtain rfl : da = _ := hd
    exact ⟨.dic, _, _, _, _, _, rfl, ho⟩
theorem ins_pl {a C dx : Addr} {fs : List (Str × V)} (I : Inv X pins σ H s) (e : H a = some (.ins C dx fs)) : ∃ ox od, PySem.W.InstAt s.heap a ox C (some od) ∧ Plain ox := by
  obtain ⟨ox, od, J⟩ := ins_at I e
  obtain ⟨_, _, _, e2, _⟩ := (show ObjOk X.prog X.w H s.heap a (.ins C dx fs) from I.hok a _ e)
  refine ⟨ox, od, J, ?_⟩
  have z := J.at_
  rw [e2] at z
  cases z
  rfl
/-- == (neg: !=) where one side is an instance with an == of its own -/
theorem sub_pt {K : PySem.W.Frag} {M : Model} {h : Heap} {C : Addr} (X : K.In h) (T : PT) : PySem.W.Looks M h (isSubtype (.type T.nm) (.ref C)) false := PySem.W.looks_subIn (t := .type T.nm) X (by cases T <;> rfl)
def rCmpO (K : PySem.W.Frag) (S : Addr → Option Sp) (neg : Bool) : R2 := fun x y H Q => ∃ (a C dx : Addr) (fs : List (Str × V)) (sp : Sp), H a = some (.ins C dx fs) ∧ S C = some sp ∧
  ((x = .ref a ∧ (BlV K H y ∨ ∃ b dy gs, y = .ref b ∧ H b = some (.ins C dy gs)) ∧ sp [x, y] H (fun v H' => ∃ k : Bool, v = .bl k ∧ Q (.bl (neg != k)) H') E0) ∨
   (y = .ref a ∧ BlV K H x ∧ sp [y, x] H (fun v H' => ∃ k : Bool, v = .bl k ∧ Q (.bl (neg != k)) H') E0))
theorem nt_pv {h : Heap} {T : PT} {v b : Value} {op : CmpOp} {s : Shared} (e : s.heap = h) (p : PV h T v) : oneThing? op v b = none := by subst e; exact p.ty.oneThing_none op b
theorem op_eqB {S : Addr → Option Sp} (d : ∀ C sp, S C = some sp → Dun X.prog X.w X.K X.mg X.base k C "__eq__" sp ∧ OwnCmp X.K C) (hG : X.A.guards = some []) (hr : Room (k + 1) X.A) : OpR X (compareOp .Eq) (rCmpO X.K S false) := by
  intro pins s σ H x y v u Q I rx ry h
  obtain ⟨a, C, dx, fs, sp, ha, eS, h⟩ := h
  obtain ⟨dn, oc⟩ := d C sp eS
  obtain ⟨f, fd, ps, hs, hf, F, bd⟩ := dn.ex
  obtain ⟨ox, od, J, pl⟩ := ins_pl I ha
  have hr0 : Room k X.A := hr.mono (Nat.le_succ _)
  rcases h with ⟨rfl, hy, q⟩ | ⟨rfl, hx, q⟩
  · obtain rfl : v = Value.ref a := rx
    have one : wpAny (model X.prog X.w) X.A (tryCompare (.ref a) "__eq__" u) (fun r s' => ∃ v, r = some v ∧ EP X pins σ Q v s') X.xe s := by
      refine wpAny_mono (try_eqK (P := fun k s' => EP X pins σ Q (.bool k) s') I.kIn J hs hf (thn (run_at F hG hr0 (fun e => e) bd I (vs := [.ref a, y]) (.cons rfl (.cons ry .nil)) q) fun w s' z => ?_)) (fun r s' z => ?_) fun _ _ e => e
      · obtain ⟨v, H1, I1, rv, k, rfl, q1⟩ := z
        obtain rfl : w = Value.bool k := rv
        exact ⟨k, rfl, .bl k, H1, I1, rfl, by cases k <;> exact q1⟩
      · obtain ⟨k, rfl, z⟩ := z
        exact ⟨_, rfl, z⟩
    rcases hy with hy | ⟨b, dy, gs, rfl, hb⟩
    · obtain ⟨T, p⟩ := hy.pv I ry
      exact rc_one (op := .Eq) (.inl rfl) (oneThing_ref _ _ _) hr.units0 J.type p.looks (.inr (sub_pt I.kIn T)) one
    · obtain rfl : u = Value.ref b := ry
      obtain ⟨oy, od2, J2⟩ := ins_at I hb
      exact rc_one (op := .Eq) (.inl rfl) (oneThing_ref _ _ _) hr.units0 J.type J2.type (.inl rfl) one
  · obtain rfl : u = Value.ref a := ry
    obtain ⟨T, p⟩ := hx.pv I rx
    have two : wpAny (model X.prog X.w) X.A (tryCompare (.ref a) "__eq__" v) (fun r s' => ∃ v, r = some v ∧ EP X pins σ Q v s') X.xe s := by
      refine wpAny_mono (try_eqK (P := fun k s' => EP X pins σ Q (.bool k) s') I.kIn J hs hf (thn (run_at F hG hr0 (fun e => e) bd I (vs := [.ref a, x]) (.cons rfl (.cons rx .nil)) q) fun w s' z => ?_)) (fun r s' z => ?_) fun _ _ e => e
      · obtain ⟨v, H1, I1, rv, k, rfl, q1⟩ := z
        obtain rfl : w = Value.bool k := rv
        exact ⟨k, rfl, .bl k, H1, I1, rfl, by cases k <;> exact q1⟩
      · obtain ⟨k, rfl, z⟩ := z
        exact ⟨_, rfl, z⟩
    exact rc_two2 (op := .Eq) (.inl rfl) (nt_pv rfl p) hr.units0 p.looks J.type (.inr (PySem.W.looks_subIn (t := .ref C) I.kIn (oc.no T))) (dec_eqB I.kIn J oc pl p) two
theorem op_neB {S : Addr → Option Sp} (d : ∀ C sp, S C = some sp → Dun X.prog X.w X.K X.mg X.base k C "__eq__" sp ∧ OwnCmp X.K C) (hG : X.A.guards = some []) (hr : Room (k + 1) X.A) : OpR X (compareOp .NotEq) (rCmpO X.K S true) := by
  intro pins s σ H x y v u Q I rx ry h
  obtain ⟨a, C, dx, fs, sp, ha, eS, h⟩ := h
  obtain ⟨dn, oc⟩ := d C sp eS
  obtain ⟨f, fd, ps, hs, hf, F, bd⟩ := dn.ex
  obtain ⟨ox, od, J, pl⟩ := ins_pl I ha
  have hr0 : Room k X.A := hr.mono (Nat.le_succ _)
  rcases h with ⟨rfl, hy, q⟩ | ⟨rfl, hx, q⟩
  · obtain rfl : v = Value.ref a := rx
    have one : wpAny (model X.prog X.w) X.A (tryCompare (.ref a) "__ne__" u) (fun r s' => ∃ v, r = some v ∧ EP X pins σ Q v s') X.xe s := by
      refine wpAny_mono (try_neK (P := fun k s' => EP X pins σ Q (.bool (!k)) s') I.kIn J oc (by have := hr.un; omega) hs hf fun E => (thn (run_at F hG hr.in1 env0_in1 bd I (vs := [.ref a, y]) (.cons rfl (.cons ry .nil)) q) fun w s' z => ?_)) (fun r s' z => ?_) fun _ _ e => e
      · obtain ⟨v, H1, I1, rv, k, rfl, q1⟩ := z
        obtain rfl : w = Value.bool k := rv
        exact ⟨k, rfl, .bl (!k), H1, I1, rfl, by cases k <;> exact q1⟩
      · obtain ⟨k, rfl, z⟩ := z
        exact ⟨_, rfl, z⟩
    rcases hy with hy | ⟨b, dy, gs, rfl, hb⟩
    · obtain ⟨T, p⟩ := hy.pv I ry
      exact rc_one (op := .NotEq) (.inr rfl) (oneThing_ref _ _ _) hr.units0 J.type p.looks (.inr (sub_pt I.kIn T)) one
    · obtain rfl : u = Value.ref b := ry
      obtain ⟨oy, od2, J2⟩ := ins_at I hb
      exact rc_one (op := .NotEq) (.inr rfl) (oneThing_ref _ _ _) hr.units0 J.type J2.type (.inl rfl) one
  · obtain rfl : u = Value.ref a := ry
    obtain ⟨T, p⟩ := hx.pv I rx
    have two : wpAny (model X.prog X.w) X.A (tryCompare (.ref a) "__ne__" v) (fun r s' => ∃ v, r = some v ∧ EP X pins σ Q v s') X.xe s := by
      refine wpAny_mono (try_neK (P := fun k s' => EP X pins σ Q (.bool (!k)) s') I.kIn J oc (by have := hr.un; omega) hs hf fun E => (thn (run_at F hG hr.in1 env0_in1 bd I (vs := [.ref a, x]) (.cons rfl (.cons rx .nil)) q) fun w s' z => ?_)) (fun r s' z => ?_) fun _ _ e => e
      · obtain ⟨v, H1, I1, rv, k, rfl, q1⟩ := z
        obtain rfl : w = Value.bool k := rv
        exact ⟨k, rfl, .bl (!k), H1, I1, rfl, by cases k <;> exact q1⟩
      · obtain ⟨k, rfl, z⟩ := z
        exact ⟨_, rfl, z⟩
    exact rc_two2 (op := .NotEq) (.inr rfl) (nt_pv rfl p) hr.units0 p.looks J.type (.inr (PySem.W.looks_subIn (t := .ref C) I.kIn (oc.no T))) (dec_neB I.kIn J oc pl p) two
/-! ### over data -/
def blD (x : D) (M : DHp) : Bool := match x with
  | .non => true
  | .bl _ => true
  | .int _ => true
  | .str _ => true
  | .scr _ => true
  | .tup _ => true
  | .tpl _ => true
  | .lst _ => true
  | .dic _ _ => true
  | .ref a => (match M a with
    | some (.lst _) => true
    | some (.dK _ _) => true
    | _ => false)
  | _ => false
theorem blD_at {K : PySem.W.Frag} {H : Hp} {M : DHp} {x : D} {v : V} (A : AbH K H M) (h : Has K H M x v) (e : blD x M = true) : BlV K H v := by
  cases x with
  | non => rw [show v = .non from h]; exact .non
  | bl b => rw [show v = .bl b from h]; exact .bl b
  | int i => rw [show v = .int i from h]; exact .int i
  | str i => rw [show v = .str i from h]; exact .str i
  | scr ns =>
    obtain ⟨a, rfl, t⟩ := h
    exact .lst t.sq
  | tup ds =>
    obtain ⟨a, vs, rfl, _, t, _⟩ := h
    exact .tup t.sq
  | tpl ds =>
    obtain ⟨a, vs, rfl, _, t, _⟩ := h
    exact .tup (.inl (.inl t))
  | lst ds =>
    obtain ⟨a, vs, rfl, _, t, _⟩ := h
    exact .lst (SqL.of t)
  | dic ks ds =>
    obtain ⟨a, vs, rfl, _, t, _, _⟩ := h
    exact .dic t
  | ref a =>
    rw [show v = .ref a from h]
    cases q : M a with
    | none => simp only [blD, q] at e; cases e
    | some o =>
      cases o with
      | lst es =>
        obtain ⟨vs, e2, r⟩ := A a _ q
        exact .lst (SqL.of e2)
      | dK ks es =>
        obtain ⟨vs, e2, l, r⟩ := A a _ q
        exact .dic e2
      | _ => simp only [blD, q] at e; cases e
  | ty n => cases e
  | obj C ns ds => cases e
/-- the answer's way -/
def gCmp (neg : Bool) (e : D) (M' : DHp) (Q : DVK) : Prop := match e with
  | .bl k => Q (.bl (neg != k)) M'
  | _ => False
def rCmpOD (S : Addr → Option DSp) (neg : Bool) : DR2 := fun x y M Q => match insOf x M with
  | some c => wth (S c.1) fun sp => (blD y M = true ∨ ∃ c2, insOf y M = some c2 ∧ c2.1 = c.1) ∧ sp [x, y] M (fun e M' => gCmp neg e M' Q) noX
  | none => (match insOf y M with
    | some c => wth (S c.1) fun sp => blD x M = true ∧ sp [y, x] M (fun e M' => gCmp neg e M' Q) noX
    | none => rEqDD neg x y M Q)
def rCmpOA (K : PySem.W.Frag) (S : Addr → Option DSp) (neg : Bool) : R2 := fun x y H Q => (if neg = true then rNeA K x y H Q else rEqA K x y H Q) ∨ rCmpO K (liftTab K S) neg x y H Q
theorem op_eqBA {j : Nat} {S : Addr → Option DSp} (h : DnOk X.prog X.w X.K X.mg X.base j "__eq__" S) (oc : ∀ C sp, S C = some sp → OwnCmp X.K C) (hG : X.A.guards = some []) (hr : Room k X.A) (hj : j + 1 ≤ k) : OpR X (compareOp .Eq) (rCmpOA X.K S false) := OpR.or (op_eqA (hu64 hr)) (op_eqB (k := j) (fun C sp e => ⟨h.up C sp e, by
  unfold liftTab at e
  cases q : S C with
  | none => rw [q] at e; cases e
  | some sp0 => exact oc C sp0 q⟩) hG (hr.mono hj))
theorem op_neBA {j : Nat} {S : Addr → Option DSp} (h : DnOk X.prog X.w X.K X.mg X.base j "__eq__" S) (oc : ∀ C sp, S C = some sp → OwnCmp X.K C) (hG : X.A.guards = some []) (hr : Room k X.A) (hj : j + 1 ≤ k) : OpR X (compareOp .NotEq) (rCmpOA X.K S true) := OpR.or (op_neA (hu64 hr)) (op_neB (k := j) (fun C sp e => ⟨h.up C sp e, by
  unfold liftTab at e
  cases q : S C with
  | none => rw [q] at e; cases e
  | some sp0 => exact oc C sp0 q⟩) hG (hr.mono hj))
theorem ref_cmpO {K : PySem.W.Frag} {S : Addr → Option DSp} {neg : Bool} : Ref2 K (rCmpOA K S neg) (rCmpOD S neg) := fun H M x y dx dy Q Q' A hx hy t P => by
  have post : ∀ {v : V} {H' : Hp} {e : D} {M' : DHp}, gCmp neg e M' Q' → Fr H M H' M' → AbH K H' M' → Has K H' M' e v → ∃ k : Bool, v = .bl k ∧ Q (.bl (neg != k)) H' := fun {v H' e M'} q f a hv => by
    cases e <;> first | exact q.elim | skip
    exact ⟨_, hv, P _ M' _ H' q f a rfl⟩
  unfold rCmpOD at t
  split at t
  · rename_i c e
    obtain ⟨sp, e3, hy2, t⟩ := wth_of t
    obtain ⟨ad, d1, vs, rfl, h1, l1, r1⟩ := insOf_at A hx (C := c.1) (ns := c.2.1) (ds := c.2.2) e
    refine .inr ⟨ad, c.1, d1, _, liftSp K sp, h1, by unfold liftTab; rw [e3] <;> rfl, .inl ⟨rfl, ?_, [dx, dy], M, _, noX, A, HasL.cons hx (HasL.one hy), t, fun e M' v H' q f a hv => post q f a hv, PostX.no⟩⟩
    rcases hy2 with hb | ⟨c2, e2, ec⟩
    · exact .inl (blD_at A hy hb)
    · obtain ⟨bd, d2, ws, rfl, h2, l2, r2⟩ := insOf_at A hy (C := c2.1) (ns := c2.2.1) (ds := c2.2.2) e2
      rw [ec] at h2
      exact .inr ⟨bd, d2, _, rfl, h2⟩
  · split at t
    · rename_i c e
      obtain ⟨sp, e3, hb, t⟩ := wth_of t
      obtain ⟨ad, d1, vs, rfl, h1, l1, r1⟩ := insOf_at A hy (C := c.1) (ns := c.2.1) (ds := c.2.2) e
      exact .inr ⟨ad, c.1, d1, _, liftSp K sp, h1, by unfold liftTab; rw [e3] <;> rfl, .inr ⟨rfl, blD_at A hx hb, [dy, dx], M, _, noX, A, HasL.cons hy (HasL.one hx), t, fun e M' v H' q f a hv => post q f a hv, PostX.no⟩⟩
    · cases neg with
      | false => exact .inl (ref_eq H M x y dx dy Q Q' A hx hy t P)
      | true => exact .inl (ref_ne H M x y dx dy Q Q' A hx hy t P)
end
end Rh
/-! P4: plain tools for tables of depths. -/
namespace Rh
open PySem PySem.Spec PyProof.Rows L2
/-- the sum of depths times numbers -/
def dsum (ps : List (Int × Int)) : Int := (ps.map fun p => p.1 * p.2).sum
end Rh
/-! P5: dicts of int keys and int values, as lists of pairs; sums over them. -/
namespace Rh
open PySem PySem.Spec PyProof.Rows L2
def dGet : List (Int × Int) → Int → Option Int
  | [], _ => none
  | p :: r, d => if p.1 = d then some p.2 else dGet r d
def dPut (es : List (Int × Int)) (d n : Int) : List (Int × Int) := match dGet es d with
  | some _ => es.map fun p => if p.1 = d then (p.1, n) else p
  | none => es ++ [(d, n)]
theorem keys_repl (d n : Int) (es : List (Int × Int)) : (es.map fun p => if p.1 = d then (p.1, n) else p).map (·.1) = es.map (·.1) := by
  rw [List.map_map]
  refine List.map_congr_left fun p _ => ?_
  show (if p.1 = d then (p.1, n) else p).1 = p.1
  split <;> rfl
def keysI (es : List (Int × Int)) : List Int := es.map (·.1)
theorem get_none : ∀ {es : List (Int × Int)} {d : Int}, dGet es d = none ↔ d ∉ keysI es
  | [], _ => ⟨fun _ h => (nomatch h), fun _ => rfl⟩
  | p :: r, d => by
    unfold dGet
    show _ ↔ d ∉ p.1 :: keysI r
    by_cases h : p.1 = d
    · rw [if_pos h]
      exact ⟨fun e => (nomatch e), fun e => absurd (List.mem_cons.mpr (.inl h.symm)) e⟩
    · rw [if_neg h, get_none, List.mem_cons]
      exact ⟨fun e z => z.elim (fun z => h z.symm) e, fun e z => e (.inr z)⟩
theorem get_mem : ∀ {es : List (Int × Int)} {d m : Int}, dGet es d = some m → (d, m) ∈ es
  | [], _, _, e => nomatch e
  | p :: r, d, m, e => by
    unfold dGet at e
    by_cases h : p.1 = d
    · rw [if_pos h] at e
      cases e
      exact List.mem_cons.mpr (.inl (by rw [← h]))
    · rw [if_neg h] at e
      exact List.mem_cons.mpr (.inr (get_mem e))
theorem get_some {es : List (Int × Int)} {d : Int} (h : d ∈ keysI es) : ∃ m, dGet es d = some m := by
  cases e : dGet es d with
  | none => exact absurd h (get_none.mp e)
  | some m => exact ⟨m, rfl⟩
theorem put_keys {es : List (Int × Int)} {d n : Int} : keysI (dPut es d n) = if d ∈ keysI es then keysI es else keysI es ++ [d] := by
  unfold dPut
  cases e : dGet es d with
  | none => rw [if_neg (get_none.mp e)]; unfold keysI; rw [List.map_append] <;> rfl
  | some m =>
    rw [if_pos (by
      by_cases h : d ∈ keysI es
      · exact h
      · rw [get_none.mpr h] at e; cases e)]
    exact keys_repl d n es
theorem put_nodup {es : List (Int × Int)} {d n : Int} (h : (keysI es).Nodup) : (keysI (dPut es d n)).Nodup := by
  rw [put_keys]
  split
  · exact h
  · rename_i z
    exact List.nodup_append.mpr ⟨h, (by simp), fun a ha b hb e => z (by rw [List.mem_singleton] at hb; rw [← hb, ← e]; exact ha)⟩
theorem put_mem {es : List (Int × Int)} {d n : Int} {p : Int × Int} (h : p ∈ dPut es d n) : p ∈ es ∨ p = (d, n) := by
  unfold dPut at h
  split at h
  · obtain ⟨q, hq, rfl⟩ := List.mem_map.mp h
    split
    · rename_i z; exact .inr (by rw [z])
    · exact .inl hq
  · rcases List.mem_append.mp h with h | h
    · exact .inl h
    · exact .inr (List.mem_singleton.mp h)
theorem put_len {es : List (Int × Int)} {d n : Int} : (dPut es d n).length ≤ es.length + 1 := by
  unfold dPut
  split
  · rw [List.length_map]; omega
  · rw [List.length_append] <;> exact Nat.le_refl _
/-- the sum of the values, each with its key's weight -/
def gsum (g : Int → Int) (es : List (Int × Int)) : Int := (es.map fun p => p.2 * g p.1).sum
theorem gsum_nil (g : Int → Int) : gsum g [] = 0 := rfl
theorem gsum_cons (g : Int → Int) (p : Int × Int) (r : List (Int × Int)) : gsum g (p :: r) = p.2 * g p.1 + gsum g r := by
  unfold gsum
  rw [List.map_cons, List.sum_cons]
theorem gsum_app (g : Int → Int) (a b : List (Int × Int)) : gsum g (a ++ b) = gsum g a + gsum g b := by
  unfold gsum
  rw [List.map_append, List.sum_append]
theorem repl_out (d n : Int) : ∀ (es : List (Int × Int)), d ∉ keysI es → (es.map fun p => if p.1 = d then (p.1, n) else p) = es
  | [], _ => rfl
  | p :: r, h => by
    rw [List.map_cons, repl_out d n r (fun z => h (List.mem_cons.mpr (.inr z))), if_neg (fun z => h (List.mem_cons.mpr (.inl z.symm)))]
theorem gsum_repl (g : Int → Int) (d n : Int) : ∀ (es : List (Int × Int)) (m : Int), (keysI es).Nodup → dGet es d = some m → gsum g (es.map fun p => if p.1 = d then (p.1, n) else p) = gsum g es + (n - m) * g d
  | [], _, _, e => nomatch e
  | p :: r, m, hn, e => by
    have hn : (p.1 :: keysI r).Nodup := hn
    obtain ⟨h1, h2⟩ := List.nodup_cons.mp hn
    unfold dGet at e
    rw [List.map_cons, gsum_cons, gsum_cons]
    by_cases h : p.1 = d
    · rw [if_pos h] at e ⊢
      cases e
      rw [repl_out d n r (by rw [← h]; exact h1)]
      show n * g p.1 + gsum g r = p.2 * g p.1 + gsum g r + (n - p.2) * g d
      rw [← h, Int.sub_mul]
      omega
    · rw [if_neg h] at e ⊢
      rw [gsum_repl g d n r m h2 e]
      omega
theorem gsum_put (g : Int → Int) {d n : Int} {es : List (Int × Int)} (hn : (keysI es).Nodup) : gsum g (dPut es d n) = gsum g es + (n - (dGet es d).getD 0) * g d := by
  unfold dPut
  cases e : dGet es d with
  | none =>
    show gsum g (es ++ [(d, n)]) = _
    rw [gsum_app, gsum_cons, gsum_nil]
    show gsum g es + (n * g d + 0) = gsum g es + (n - 0) * g d
    rw [Int.sub_zero, Int.add_zero]
  | some m => exact gsum_repl g d n es m hn e
theorem perm_sum {a b : List Int} (h : a.Perm b) : a.sum = b.sum := by
  induction h with
  | nil => rfl
  | cons x _ ih => rw [List.sum_cons, List.sum_cons, ih]
  | swap x y l => rw [List.sum_cons, List.sum_cons, List.sum_cons, List.sum_cons]; omega
  | trans _ _ h1 h2 => rw [h1, h2]
/-- by its keys, in any order -/
theorem gsum_keys (g : Int → Int) : ∀ (es : List (Int × Int)), (keysI es).Nodup → gsum g es = ((keysI es).map fun y => (dGet es y).getD 0 * g y).sum
  | [], _ => rfl
  | p :: r, hn => by
    have hn : (p.1 :: keysI r).Nodup := hn
    obtain ⟨h1, h2⟩ := List.nodup_cons.mp hn
    show _ = ((p.1 :: keysI r).map fun y => (dGet (p :: r) y).getD 0 * g y).sum
    rw [gsum_cons, List.map_cons, List.sum_cons, gsum_keys g r h2]
    congr 1
    · unfold dGet
      rw [if_pos rfl] <;> rfl
    · congr 1
      refine List.map_congr_left fun y hy => ?_
      rw [show dGet (p :: r) y = dGet r y from if_neg (fun e => h1 (by rw [e]; exact hy))]
theorem gsum_perm (g : Int → Int) {es : List (Int × Int)} (hn : (keysI es).Nodup) {ys : List Int} (h : ys.Perm (keysI es)) : gsum g es = (ys.map fun y => (dGet es y).getD 0 * g y).sum := by
  rw [gsum_keys g es hn]
  exact (perm_sum (h.map _)).symm
def wt (n : Nat) (d : Int) : Int := 2 ^ (n - d.toNat)
/-- entries of a table of depths -/
def Ent (n : Nat) (es : List (Int × Int)) : Prop := ∀ p ∈ es, 0 ≤ p.1 ∧ p.1 ≤ (n : Int) ∧ 1 ≤ p.2
/-- what the dict of numbers keeps while it is filled -/
structure Cnt (n : Nat) (es rest : List (Int × Int)) (tot : Int) : Prop where
  nd : (keysI es).Nodup
  ok : Ent n es
  ok2 : Ent n rest
  len : es.length + rest.length ≤ 1000000
  sum : gsum (wt n) es + gsum (wt n) rest = tot
theorem Cnt.step {n : Nat} {es rest : List (Int × Int)} {p : Int × Int} {tot : Int} (h : Cnt n es (p :: rest) tot) : Cnt n (dPut es p.1 ((dGet es p.1).getD 0 + p.2)) rest tot := by
  have hp := h.ok2 p (List.mem_cons.mpr (.inl rfl))
  have g0 : 0 ≤ (dGet es p.1).getD 0 := by
    cases e : dGet es p.1 with
    | none => exact Int.le_refl _
    | some m => have := (h.ok _ (get_mem e)).2.2; show 0 ≤ m; omega
  refine ⟨put_nodup h.nd, fun q hq => ?_, fun q hq => h.ok2 q (List.mem_cons.mpr (.inr hq)), ?_, ?_⟩
  · rcases put_mem hq with hq | rfl
    · exact h.ok q hq
    · exact ⟨hp.1, hp.2.1, by show 1 ≤ _ + _; omega⟩
  · have l := h.len
    have := put_len (es := es) (d := p.1) (n := (dGet es p.1).getD 0 + p.2)
    rw [List.length_cons] at l
    omega
  · rw [gsum_put _ h.nd, ← h.sum, gsum_cons, show (dGet es p.1).getD 0 + p.2 - (dGet es p.1).getD 0 = p.2 by omega]
    omega
/-! ### halves -/
/-- so many halves of all depths make one -/
def wholeAt (n : Nat) (es : List (Int × Int)) : Bool := decide (gsum (wt n) es = 2 ^ n)
end Rh
/-! P6: levels of a plan by halving. -/
namespace Rh
open PySem PySem.Spec PyProof.Rows L2
/-- the dict of levels behind i turns -/
structure Lv (i : Nat) (es : List (Int × Int)) : Prop where
  nd : (keysI es).Nodup
  ok : ∀ p ∈ es, 0 ≤ p.1 ∧ p.1 ≤ 60 * (i : Int) ∧ 0 ≤ p.2
  len : es.length ≤ 2 * i + 1
  one : gsum (fun _ => 1) es ≤ 1 + (i : Int) * 10 ^ 28
  sum : gsum (wt 1200) es = 2 ^ 1200
theorem Lv.start : Lv 0 [(0, 1)] := ⟨by decide, fun p h => by
  rw [List.mem_singleton] at h
  subst h
  exact ⟨by decide, by decide, by decide⟩, by decide, by decide, by decide +kernel⟩
theorem Lv.more {i j : Nat} {es : List (Int × Int)} (h : Lv i es) (l : i ≤ j) : Lv j es := ⟨h.nd, fun p hp => by have := h.ok p hp; omega, by have := h.len; omega, by have := h.one; omega, h.sum⟩
theorem get0 {es : List (Int × Int)} (h : ∀ p ∈ es, 0 ≤ p.2) (d : Int) : 0 ≤ (dGet es d).getD 0 := by
  cases e : dGet es d with
  | none => exact Int.le_refl _
  | some m => exact h _ (get_mem e)
theorem Lv.step {i : Nat} {es : List (Int × Int)} {d m t part : Int} (h : Lv i es) (em : dGet es d = some m) (t0 : 1 ≤ t) (t1 : t ≤ 60) (p0 : 1 ≤ part) (p1 : part ≤ m) (hp : part * 2 ^ t.toNat < 10 ^ 28) (hi : i < 20) :
    Lv (i + 1) (dPut (dPut es d (m - part)) (d + t) ((dGet (dPut es d (m - part)) (d + t)).getD 0 + part * 2 ^ t.toNat)) := by
  have hd := h.ok _ (get_mem em)
  have pw : 0 < (2 : Int) ^ t.toNat := Int.pow_pos (by decide)
  have pp : 0 ≤ part * 2 ^ t.toNat := Int.mul_nonneg (by omega) (by omega)
  have nd1 : (keysI (dPut es d (m - part))).Nodup := put_nodup h.nd
  have ok1 : ∀ p ∈ dPut es d (m - part), 0 ≤ p.1 ∧ p.1 ≤ 60 * (i : Int) ∧ 0 ≤ p.2 := fun p hp => by
    rcases put_mem hp with hp | rfl
    · exact h.ok p hp
    · exact ⟨hd.1, hd.2.1, by show 0 ≤ m - part; omega⟩
  have g0 := get0 (fun p hp => (ok1 p hp).2.2) (d + t)
  refine ⟨put_nodup nd1, fun p hp => ?_, ?_, ?_, ?_⟩
  · rcases put_mem hp with hp | rfl
    · have := ok1 p hp
      omega
    · exact ⟨by show 0 ≤ d + t; omega, by show d + t ≤ _; omega, by show 0 ≤ _ + _; omega⟩
  · have l1 := put_len (es := es) (d := d) (n := m - part)
    have l2 := put_len (es := dPut es d (m - part)) (d := d + t) (n := (dGet (dPut es d (m - part)) (d + t)).getD 0 + part * 2 ^ t.toNat)
    have := h.len
    omega
  · rw [gsum_put _ nd1, gsum_put _ h.nd, em]
    show gsum (fun _ => 1) es + (m - part - m) * 1 + _ * 1 ≤ _
    have := h.one
    omega
  · rw [gsum_put _ nd1, gsum_put _ h.nd, em, h.sum]
    show 2 ^ 1200 + (m - part - m) * wt 1200 d + ((dGet (dPut es d (m - part)) (d + t)).getD 0 + part * 2 ^ t.toNat - (dGet (dPut es d (m - part)) (d + t)).getD 0) * wt 1200 (d + t) = 2 ^ 1200
    rw [show m - part - m = -part by omega, show ∀ a b : Int, a + b - a = b from fun a b => by omega]
    have e : wt 1200 d = 2 ^ t.toNat * wt 1200 (d + t) := by
      unfold wt
      rw [← Int.pow_add, show t.toNat + (1200 - (d + t).toNat) = 1200 - d.toNat by omega]
    rw [e, Int.neg_mul, Int.mul_assoc, Int.add_assoc, Int.add_left_neg, Int.add_zero]
/-- the keys with a number -/
def posK (es : List (Int × Int)) (ys : List Int) : List Int := ys.filter fun y => decide (0 < (dGet es y).getD 0)
/-- levels that a law drew -/
structure Levels (es : List (Int × Int)) : Prop where
  asc : (keysI es).Pairwise (· < ·)
  ok : Ent 1200 es
  len : es.length ≤ 41
  one : gsum (fun _ => 1) es ≤ 4 * 10 ^ 29
  sum : gsum (wt 1200) es = 2 ^ 1200
def outL (es : List (Int × Int)) (ys : List Int) : List (Int × Int) := (posK es ys).map fun y => (y, (dGet es y).getD 0)
theorem out_sum {i : Nat} {es : List (Int × Int)} (h : Lv i es) (g : Int → Int) : ∀ ys : List Int, gsum g (outL es ys) = (ys.map fun y => (dGet es y).getD 0 * g y).sum
  | [] => rfl
  | y :: ys => by
    have ih := out_sum h g ys
    unfold outL posK at ih ⊢
    rw [List.filter_cons, List.map_cons, List.sum_cons, ← ih]
    split
    · rw [List.map_cons, gsum_cons]
    · rename_i hn
      have g0 := get0 (fun p hp => (h.ok p hp).2.2) y
      have : (dGet es y).getD 0 = 0 := by
        have : ¬ 0 < (dGet es y).getD 0 := fun z => hn (decide_eq_true z)
        omega
      rw [this] <;> omega
theorem Lv.out {es : List (Int × Int)} {ys : List Int} (h : Lv 20 es) (hp : ys.Perm (keysI es)) (hs : ys.Pairwise (· ≤ ·)) : Levels (outL es ys) := by
  have nd : ys.Nodup := hp.nodup_iff.mpr h.nd
  have asc : ys.Pairwise (· < ·) := by
    have h2 : ys.Pairwise (· ≠ ·) := nd
    exact (hs.and h2).imp fun {a b} h => by have := h.1; have := h.2; omega
  have ek : keysI (outL es ys) = posK es ys := by
    unfold keysI outL
    rw [List.map_map]
    exact List.map_id' _
  refine ⟨?_, fun p hp' => ?_, ?_, ?_, ?_⟩
  · rw [ek]
    exact asc.filter _
  · obtain ⟨y, hy, rfl⟩ := List.mem_map.mp hp'
    obtain ⟨hy, hpos⟩ := List.mem_filter.mp hy
    have hpos := of_decide_eq_true hpos
    obtain ⟨m, em⟩ := get_some (hp.mem_iff.mp hy)
    have := h.ok _ (get_mem em)
    refine ⟨this.1, ?_, ?_⟩
    · show y ≤ ((1200 : Nat) : Int)
      have := this.2.1
      have e : ((20 : Nat) : Int) = 20 := rfl
      have e2 : ((1200 : Nat) : Int) = 1200 := rfl
      have : y ≤ 60 * ((20 : Nat) : Int) := this
      omega
    · show 1 ≤ (dGet es y).getD 0
      omega
  · unfold outL
    rw [List.length_map]
    have l1 : (posK es ys).length ≤ ys.length := List.length_filter_le _ _
    have l2 := hp.length_eq
    have l3 := h.len
    unfold keysI at l2
    rw [List.length_map] at l2
    omega
  · rw [out_sum h, ← gsum_perm _ h.nd hp]
    have := h.one
    have e : ((20 : Nat) : Int) = 20 := rfl
    rw [e] at this
    omega
  · rw [out_sum h, ← gsum_perm _ h.nd hp]
    exact h.sum
theorem one_nn : ∀ {es : List (Int × Int)}, (∀ p ∈ es, 0 ≤ p.2) → 0 ≤ gsum (fun _ => 1) es
  | [], _ => Int.le_refl _
  | p :: r, h => by
    have := one_nn (es := r) fun q hq => h q (List.mem_cons.mpr (.inr hq))
    have := h p (List.mem_cons.mpr (.inl rfl))
    rw [gsum_cons]
    omega
end Rh
/-! P7: levels shared among kinds. -/
namespace Rh
open PySem PySem.Spec PyProof.Rows L2
structure RowOk (d : Int) (n : Nat) (row : List (Int × Int)) : Prop where
  asc : (keysI row).Pairwise (· < ·)
  ok : ∀ p ∈ row, 0 ≤ p.1 ∧ p.1 < d ∧ 1 ≤ p.2
  len : row.length ≤ n
theorem RowOk.more {d d' : Int} {n n' : Nat} {row : List (Int × Int)} (h : RowOk d n row) (hd : d ≤ d') (hn : n ≤ n') : RowOk d' n' row :=
  ⟨h.asc, fun p hp => by have := h.ok p hp; omega, Nat.le_trans h.len hn⟩
theorem RowOk.snoc {d m : Int} {n : Nat} {row : List (Int × Int)} (h : RowOk d n row) (d0 : 0 ≤ d) (hm : 1 ≤ m) : RowOk (d + 1) (n + 1) (row ++ [(d, m)]) := by
  refine ⟨?_, fun p hp => ?_, ?_⟩
  · unfold keysI
    rw [List.map_append]
    refine List.pairwise_append.mpr ⟨h.asc, List.pairwise_singleton _ _, fun a ha b hb => ?_⟩
    obtain ⟨q, hq, rfl⟩ := List.mem_map.mp ha
    obtain rfl : b = d := List.mem_singleton.mp hb
    exact (h.ok q hq).2.1
  · rcases List.mem_append.mp hp with hp | hp
    · have := h.ok p hp
      omega
    · rw [List.mem_singleton] at hp
      subst hp
      exact ⟨d0, by show d < d + 1; omega, hm⟩
  · rw [List.length_append]
    have := h.len
    show _ + 1 ≤ _
    omega
theorem gsum_set (g : Int → Int) : ∀ {F : List (List (Int × Int))} {j : Nat} {row row' : List (Int × Int)}, F[j]? = some row → gsum g (F.set j row').flatten + gsum g row = gsum g F.flatten + gsum g row'
  | [], _, _, _, e => by rw [List.getElem?_nil] at e; cases e
  | r :: F, 0, row, row', e => by
    rw [List.getElem?_cons_zero] at e
    cases e
    rw [List.set_cons_zero, List.flatten_cons, List.flatten_cons, gsum_app, gsum_app]
    omega
  | r :: F, j + 1, row, row', e => by
    rw [List.getElem?_cons_succ] at e
    have := gsum_set g (row' := row') e
    rw [List.set_cons_succ, List.flatten_cons, List.flatten_cons, gsum_app, gsum_app]
    omega
/-- rows behind n levels below d -/
structure Sh (K n : Nat) (d : Int) (F : List (List (Int × Int))) (tot : (Int → Int) → Int) : Prop where
  len : F.length = K
  rows : ∀ row ∈ F, RowOk d n row
  sum : ∀ g, gsum g F.flatten = tot g
/-- within the level d, behind j rows -/
structure Si (K n j : Nat) (d : Int) (F : List (List (Int × Int))) (left : Int) (tot : (Int → Int) → Int) : Prop where
  len : F.length = K
  rows : ∀ i row, F[i]? = some row → if i < j then RowOk (d + 1) (n + 1) row else RowOk d n row
  sum : ∀ g, gsum g F.flatten + left * g d = tot g
  nn : 0 ≤ left
  last : j = K → left = 0
theorem Si.start {K n : Nat} {d m : Int} {F : List (List (Int × Int))} {tot : (Int → Int) → Int} (h : Sh K n d F tot) (hK : 0 < K) (hm : 0 ≤ m) : Si K n 0 d F m (fun g => tot g + m * g d) :=
  ⟨h.len, fun i row e => by rw [if_neg (Nat.not_lt_zero i)]; exact h.rows row (List.mem_of_getElem? e), fun g => by rw [h.sum g], hm, fun e => by omega⟩
theorem Si.fin {K n : Nat} {d : Int} {F : List (List (Int × Int))} {left : Int} {tot : (Int → Int) → Int} (h : Si K n K d F left tot) : Sh K (n + 1) (d + 1) F tot :=
  ⟨h.len, fun row hr => by
    obtain ⟨i, hi, e⟩ := List.getElem_of_mem hr
    have := h.rows i row (by rw [List.getElem?_eq_getElem hi, e])
    rw [if_pos (by have := h.len; omega)] at this
    exact this, fun g => by have := h.sum g; rw [h.last rfl, Int.zero_mul, Int.add_zero] at this; exact this⟩
def addP (d part : Int) : List (Int × Int) := if 0 < part then [(d, part)] else []
theorem Si.step {K n j : Nat} {d part left : Int} {F : List (List (Int × Int))} {row : List (Int × Int)} {tot : (Int → Int) → Int} (h : Si K n j d F left tot) (e : F[j]? = some row) (d0 : 0 ≤ d) (p0 : 0 ≤ part) (p1 : part ≤ left) (pl : j + 1 = K → part = left) :
    Si K n (j + 1) d (F.set j (row ++ addP d part)) (left - part) tot := by
  have jl : j < F.length := (List.getElem?_eq_some_iff.mp e).1
  have hr := h.rows j row e
  rw [if_neg (Nat.lt_irrefl j)] at hr
  refine ⟨by rw [List.length_set]; exact h.len, fun i r ei => ?_, fun g => ?_, by omega, fun z => by have := pl z; omega⟩
  · by_cases hij : j = i
    · subst hij
      rw [List.getElem?_set_self jl] at ei
      cases ei
      rw [if_pos (Nat.lt_succ_self j)]
      unfold addP
      split
      · exact hr.snoc d0 (by omega)
      · rw [List.append_nil]
        exact hr.more (by omega) (by omega)
    · rw [List.getElem?_set_ne hij] at ei
      have := h.rows i r ei
      by_cases hl : i < j
      · rw [if_pos hl] at this
        rw [if_pos (by omega)]
        exact this
      · rw [if_neg hl] at this
        rw [if_neg (by omega)]
        exact this
  · have a := gsum_set g (row' := row ++ addP d part) e
    have b := h.sum g
    rw [gsum_app] at a
    have c : gsum g (addP d part) = part * g d := by
      unfold addP
      split
      · rw [gsum_cons, gsum_nil, Int.add_zero]
      · rw [gsum_nil, show part = 0 by omega, Int.zero_mul]
    rw [c] at a
    rw [Int.sub_mul]
    omega
theorem Sh.more {K n : Nat} {d d' : Int} {F : List (List (Int × Int))} {tot : (Int → Int) → Int} (h : Sh K n d F tot) (hd : d ≤ d') : Sh K n d' F tot :=
  ⟨h.len, fun row hr => (h.rows row hr).more hd (Nat.le_refl _), h.sum⟩
theorem Sh.start (K : Nat) : Sh K 0 0 (List.replicate K []) (fun g => gsum g []) := by
  refine ⟨List.length_replicate, fun row hr => ?_, fun g => ?_⟩
  · rw [(List.mem_replicate.mp hr).2]
    exact ⟨List.Pairwise.nil, fun p hp => (nomatch hp), Nat.le_refl _⟩
  · rw [gsum_nil]
    induction K with
    | zero => rfl
    | succ K ih => rw [List.replicate_succ, List.flatten_cons, List.nil_append]; exact ih
/-- the table of a plan that a law drew -/
structure Tabs (T : List (List (Int × Int))) : Prop where
  len : T.length ≤ 8
  rows : ∀ ps ∈ T, ps ≠ [] ∧ RowOk 1201 41 ps
  one : gsum (fun _ => 1) T.flatten ≤ 4 * 10 ^ 29
  sum : gsum (wt 1200) T.flatten = 2 ^ 1200
end Rh
/-! P8: drawn tables are tables. -/
namespace Rh
open PySem PySem.Spec PyProof.Rows L2
theorem nums_nn : ∀ {ps : List (Int × Int)}, (∀ p ∈ ps, 1 ≤ p.2) → 0 ≤ (ps.map (·.2)).sum
  | [], _ => Int.le_refl _
  | p :: r, h => by
    have a := nums_nn (ps := r) fun q hq => h q (List.mem_cons.mpr (.inr hq))
    have b := h p (List.mem_cons.mpr (.inl rfl))
    rw [List.map_cons, List.sum_cons]
    omega
theorem Tabs.ent {T : List (List (Int × Int))} (h : Tabs T) : Ent 1200 T.flatten := fun p hp => by
  obtain ⟨ps, h1, h2⟩ := List.mem_flatten.mp hp
  have := (h.rows ps h1).2.ok p h2
  have e : ((1200 : Nat) : Int) = 1200 := rfl
  omega
theorem Tabs.whole {T : List (List (Int × Int))} (h : Tabs T) : wholeAt 1200 T.flatten = true := decide_eq_true h.sum
theorem Tabs.ne {T : List (List (Int × Int))} (h : Tabs T) : T ≠ [] := fun e => by
  have := h.sum
  rw [e, List.flatten_nil, gsum_nil] at this
  have := Int.pow_pos (n := (2 : Int)) (m := 1200) (by decide)
  omega
theorem ks_of {top : Int} : ∀ {kz : List (Int × Int)} {b : Int}, (kz.map (·.1)).Pairwise (· < ·) → (∀ k ∈ kz, b < k.1 ∧ k.1 ≤ top ∧ 1 ≤ k.2 ∧ k.2 ≤ 10 ^ 30) → KsOk top b kz
  | [], _, _, _ => trivial
  | p :: r, b, hs, h => by
    rw [List.map_cons] at hs
    obtain ⟨h1, h2⟩ := List.pairwise_cons.mp hs
    have hp := h p (List.mem_cons.mpr (.inl rfl))
    exact ⟨hp.1, hp.2.1, hp.2.2.1, hp.2.2.2, ks_of h2 fun q hq => ⟨h1 q.1 (List.mem_map_of_mem (f := fun x : Int × Int => x.1) hq), (h q (List.mem_cons.mpr (.inr hq))).2⟩⟩
theorem one_sum (ps : List (Int × Int)) : gsum (fun _ => 1) ps = (ps.map (·.2)).sum := by
  unfold gsum
  congr 1
  exact List.map_congr_left fun p _ => Int.mul_one p.2
theorem row_le : ∀ {T : List (List (Int × Int))} {ps : List (Int × Int)}, (∀ p ∈ T.flatten, 0 ≤ p.2) → ps ∈ T → gsum (fun _ => 1) ps ≤ gsum (fun _ => 1) T.flatten
  | [], _, _, h => nomatch h
  | t :: T, ps, h, hp => by
    rw [List.flatten_cons] at h ⊢
    rw [gsum_app]
    have a := one_nn (es := t) fun q hq => h q (List.mem_append.mpr (.inl hq))
    have b := one_nn (es := T.flatten) fun q hq => h q (List.mem_append.mpr (.inr hq))
    rcases List.mem_cons.mp hp with rfl | hp
    · omega
    · have := row_le (T := T) (fun q hq => h q (List.mem_append.mpr (.inr hq))) hp
      omega
theorem row_pos : ∀ {ps : List (Int × Int)}, ps ≠ [] → (∀ p ∈ ps, 1 ≤ p.2) → 1 ≤ (ps.map (·.2)).sum
  | [], h, _ => absurd rfl h
  | p :: r, _, h => by
    have a := nums_nn (ps := r) fun q hq => h q (List.mem_cons.mpr (.inr hq))
    have b := h p (List.mem_cons.mpr (.inl rfl))
    rw [List.map_cons, List.sum_cons]
    omega
/-- the numbers of a drawn table's kinds -/
theorem Tabs.cnt {T : List (List (Int × Int))} (h : Tabs T) : ∀ ps ∈ T, 1 ≤ (ps.map (·.2)).sum ∧ (ps.map (·.2)).sum ≤ 10 ^ 30 := fun ps hps => by
  have r := h.rows ps hps
  have a := row_pos r.1 fun p hp => (r.2.ok p hp).2.2
  have b := row_le (fun p hp => by have := (h.ent p hp).2.2; omega) hps
  rw [one_sum] at b
  have := h.one
  omega
theorem dsum_bound : ∀ {ps : List (Int × Int)}, (∀ p ∈ ps, 0 ≤ p.1 ∧ p.1 ≤ 1200 ∧ 0 ≤ p.2) → 0 ≤ dsum ps ∧ dsum ps ≤ 1200 * (ps.map (·.2)).sum
  | [], _ => ⟨Int.le_refl _, by decide⟩
  | p :: r, h => by
    have a := dsum_bound (ps := r) fun q hq => h q (List.mem_cons.mpr (.inr hq))
    have b := h p (List.mem_cons.mpr (.inl rfl))
    have e : dsum (p :: r) = p.1 * p.2 + dsum r := by
      unfold dsum
      rw [List.map_cons, List.sum_cons]
    rw [e, List.map_cons, List.sum_cons]
    have c1 : 0 ≤ p.1 * p.2 := Int.mul_nonneg b.1 b.2.2
    have c2 : p.1 * p.2 ≤ 1200 * p.2 := Int.mul_le_mul_of_nonneg_right b.2.1 b.2.2
    omega
theorem Tabs.dsum {T : List (List (Int × Int))} (h : Tabs T) : ∀ ps ∈ T, 0 ≤ dsum ps ∧ dsum ps ≤ 1200 * 10 ^ 30 := fun ps hps => by
  have r := (h.rows ps hps).2
  have a := dsum_bound (ps := ps) fun p hp => by have := r.ok p hp; omega
  have := (h.cnt ps hps).2
  omega
end Rh
/-! P9: plain tools: loops and comprehensions over told lists; slots forgotten. -/
namespace Rh
open PySem PySem.Spec PyProof.Rows L2 PySem.NumText
theorem forR_map {α : Type} {ok : DHp → Prop} {g : DTG} {tb : DTS} {E : DEnds} (f : α → D) (I : List α → DSt → DHp → Prop) (h0 : ∀ τ M, I [] τ M → ok M ∧ E.nx τ M)
    (h1 : ∀ x xs τ M (R : DSt → DHp → Prop), I (x :: xs) τ M → (∀ τ3 M3 τ2 M2, I xs τ3 M3 → SubS τ3 τ2 → Sub M3 M2 → R τ2 M2) → ok M ∧ g (f x) τ M fun τ1 M1 => tb { E with nx := R } τ1 M1) : ∀ L τ M, I L τ M → forR ok g tb E (L.map f) τ M
  | [], τ, M, h => h0 τ M h
  | x :: xs, τ, M, h => h1 x xs τ M _ h fun τ3 M3 τ2 M2 i z1 z2 => ⟨τ3, M3, z1, z2, forR_map f I h0 h1 xs τ3 M3 i⟩
end Rh
/-! P10: plain tools: first ones found by two loops; int dicts of pairs; rows of a table changed. -/
namespace Rh
open PySem PySem.Spec PyProof.Rows L2 PySem.NumText
theorem at_last {α : Type} {xs : List α} (h : xs ≠ []) : atI xs (-1) = some (xs.getLast h) := by
  have l : 0 < xs.length := List.length_pos_iff.mpr h
  unfold atI ixN
  rw [if_neg (by decide), if_pos (by omega)]
  show xs[((-1 : Int) + xs.length).toNat]? = _
  rw [show ((-1 : Int) + xs.length).toNat = xs.length - 1 by omega, List.getLast_eq_getElem]
  exact List.getElem?_eq_getElem _
/-! ### int dicts of pairs -/
/-! ### is a list empty -/
end Rh
/-! P12: drawn kinds in two parts; both joined. -/
namespace Rh
open PySem PySem.Spec PyProof.Rows L2 PySem.NumText
theorem ks_asc {top : Int} : ∀ {b : Int} {kz : List (Int × Int)}, KsOk top b kz → (keysI kz).Pairwise (· < ·)
  | _, [], _ => List.Pairwise.nil
  | b, p :: r, h => by
    refine List.pairwise_cons.mpr ⟨fun x hx => ?_, ks_asc h.2.2.2.2⟩
    obtain ⟨q, hq, rfl⟩ := List.mem_map.mp hx
    exact (KsOk.mem h.2.2.2.2 q hq).1
/-- drawn kinds: at most 10, sizes up to 10 ^ 29 -/
structure Dr6 (kz : List (Int × Int)) : Prop where
  ne : kz ≠ []
  len : kz.length ≤ 10
  asc : (keysI kz).Pairwise (· < ·)
  ok : ∀ p ∈ kz, 1 ≤ p.1 ∧ p.1 ≤ 10 ^ 29 ∧ 1 ≤ p.2 ∧ p.2 ≤ 2 * 10 ^ 29
/-- a part of kinds -/
structure Pt (kz o : List (Int × Int)) : Prop where
  sub : (keysI o).Sublist (keysI kz)
  ok : ∀ p ∈ o, 1 ≤ p.2 ∧ p.2 ≤ 2 * 10 ^ 29
theorem Pt.nil {kz : List (Int × Int)} : Pt kz [] := ⟨List.nil_sublist _, fun _ h => by cases h⟩
theorem Pt.skip {kz o : List (Int × Int)} {p : Int × Int} (h : Pt kz o) : Pt (kz ++ [p]) o := ⟨by
  unfold keysI
  rw [List.map_append]
  exact h.sub.trans (List.sublist_append_left _ _), h.ok⟩
theorem Pt.snoc {kz o : List (Int × Int)} {p : Int × Int} {n : Int} (h : Pt kz o) (h1 : 1 ≤ n) (h2 : n ≤ 2 * 10 ^ 29) : Pt (kz ++ [p]) (o ++ [(p.1, n)]) := ⟨by
  unfold keysI
  rw [List.map_append, List.map_append]
  exact h.sub.append (List.Sublist.refl _), fun q hq => by
    rcases List.mem_append.mp hq with hq | hq
    · exact h.ok q hq
    · obtain rfl := List.mem_singleton.mp hq
      exact ⟨h1, h2⟩⟩
theorem Pt.take {kz o : List (Int × Int)} (n : Nat) (h : Pt kz o) : Pt kz (o.take n) := ⟨((List.take_sublist n o).map _).trans h.sub, fun p hp => h.ok p (List.mem_of_mem_take hp)⟩
theorem Pt.asc {kz o : List (Int × Int)} (h : Pt kz o) (d : Dr6 kz) : (keysI o).Pairwise (· < ·) := d.asc.sublist h.sub
theorem Pt.len {kz o : List (Int × Int)} (h : Pt kz o) : o.length ≤ kz.length := by
  have := h.sub.length_le
  unfold keysI at this
  rwa [List.length_map, List.length_map] at this
theorem Pt.size {kz o : List (Int × Int)} (h : Pt kz o) (d : Dr6 kz) : ∀ p ∈ o, 1 ≤ p.1 ∧ p.1 ≤ 10 ^ 29 := fun p hp => by
  have : p.1 ∈ keysI kz := h.sub.subset (List.mem_map_of_mem (f := fun x : Int × Int => x.1) hp)
  obtain ⟨q, hq, e⟩ := List.mem_map.mp this
  have := d.ok q hq
  have e : q.1 = p.1 := e
  omega
theorem Pt.kinds {kz o : List (Int × Int)} (h : Pt kz o) (d : Dr6 kz) (ne : o ≠ []) : Kinds o := ⟨ne, by
  have := h.len
  have := d.len
  omega, ks_of (h.asc d) fun p hp => by
    have := h.size d p hp
    have := h.ok p hp
    omega⟩
/-- of two parts each that is empty is taken from the other one -/
def orTake (o t : List (Int × Int)) : List (Int × Int) := if o = [] then t.take 1 else o
theorem Pt.orTake {kz o t : List (Int × Int)} (h : Pt kz o) (h' : Pt kz t) : Pt kz (orTake o t) := by
  unfold Rh.orTake
  split
  · exact h'.take 1
  · exact h
theorem cut_dr (l : List D) (k : Nat) : cutD l (some (k : Int)) none = l.drop k := by
  unfold cutD
  rw [HT.sIx_none, HT.sIx_nat]
  by_cases h : k ≤ l.length
  · rw [Nat.min_eq_left h]
    exact List.take_of_length_le (by rw [List.length_drop]; exact Nat.le_refl _)
  · rw [Nat.min_eq_right (by omega), Nat.sub_self, List.take_zero, List.drop_of_length_le (by omega)]
theorem set_keys {l : List (Int × Int)} {i : Nat} {x y : Int × Int} (e : l[i]? = some x) (h : y.1 = x.1) : keysI (l.set i y) = keysI l := by
  unfold keysI
  rw [List.map_set]
  refine List.ext_getElem? fun k => ?_
  rw [List.getElem?_set]
  split
  · subst i
    rw [List.getElem?_map, e, List.length_map]
    have : k < l.length := (List.getElem?_eq_some_iff.mp e).1
    rw [if_pos this, h]
    rfl
  · rfl
/-- one heap more of a kind -/
theorem Pt.more {kz o : List (Int × Int)} {i : Nat} {x : Int × Int} (h : Pt kz o) (d : Dr6 kz) (e : o[i]? = some x) : Kinds (o.set i (x.1, x.2 + 1)) := by
  have hx := h.ok x (List.mem_of_getElem? e)
  have sx := h.size d x (List.mem_of_getElem? e)
  refine ⟨fun z => ?_, by rw [List.length_set]; have := h.len; have := d.len; omega, ks_of (by rw [show (o.set i (x.1, x.2 + 1)).map (·.1) = keysI o from set_keys e rfl]; exact h.asc d) fun p hp => ?_⟩
  · have := congrArg List.length z
    rw [List.length_set] at this
    have := (List.getElem?_eq_some_iff.mp e).1
    rw [List.length_nil] at *
    omega
  · rcases List.mem_or_eq_of_mem_set hp with hp | rfl
    · have := h.ok p hp
      have := h.size d p hp
      omega
    · show 0 < x.1 ∧ x.1 ≤ 10 ^ 30 ∧ 1 ≤ x.2 + 1 ∧ x.2 + 1 ≤ 10 ^ 30
      omega
/-- all sizes times so much -/
theorem Pt.times {kz o : List (Int × Int)} (h : Pt kz o) (d : Dr6 kz) (ne : o ≠ []) {b : Int} (b0 : 1 ≤ b) (b1 : b ≤ 9) : Kinds (o.map fun p => (p.1 * b, p.2)) := by
  refine ⟨fun z => ne (List.map_eq_nil_iff.mp z), by rw [List.length_map]; have := h.len; have := d.len; omega, ks_of ?_ fun p hp => ?_⟩
  · rw [List.map_map]
    have : (o.map ((fun p : Int × Int => p.1) ∘ fun p => (p.1 * b, p.2))) = (keysI o).map (· * b) := by unfold keysI; rw [List.map_map] <;> rfl
    rw [this]
    exact List.Pairwise.map _ (fun x y h => Int.mul_lt_mul_of_pos_right h (by omega)) (h.asc d)
  · obtain ⟨q, hq, rfl⟩ := List.mem_map.mp hp
    have a1 := h.ok q hq
    have a2 := h.size d q hq
    have c1 : 0 < q.1 * b := Int.mul_pos (by omega) (by omega)
    have c2 : q.1 * b ≤ q.1 * 9 := Int.mul_le_mul_of_nonneg_left b1 (by omega)
    show 0 < q.1 * b ∧ q.1 * b ≤ 10 ^ 30 ∧ 1 ≤ q.2 ∧ q.2 ≤ 10 ^ 30
    omega
end Rh
/-! ### the defs of this law: promises, readings -/
namespace Rh
open PySem PySem.Spec PyProof.Rows L2 PySem.NumText
def isIntD : D → Bool
  | .int _ => true
  | _ => false
def sp_is_integer (c : CT) : DSp := sp1 fun a M Q _ => known c a M ∧ Q (.bl (isIntD a)) M
/-- is_integer: 0 value -/
def N_is_integer : List Str := ["value"]
def t_is_integer (c : CT) (W : DWX) : DTS :=
  dRet (dAndV (dIsi .int (kno c) (dVar 0)) (dNotV (dIsi .bl (kno c) (dVar 0))))
theorem len_is_integer (c : CT) : ∀ ds M Q E, sp_is_integer c ds M Q E → ds.length = ["value"].length := sp1_len
theorem pure_is_integer (c : CT) : ∀ ds M Q E, sp_is_integer c ds M Q E → t_is_integer c (fnW E) (fnEnds Q) (startD N_is_integer ds) M := sp1_of fun a M Q E ⟨k, q⟩ => by
  show t_is_integer c (fnW E) (fnEnds Q) [some a] M
  simp only [t_is_integer, dRet, dAndV, dIsi, dVar, sl, wth, dNotV]
  have q' := fn_rt q
  cases a with
  | ref p =>
    unfold known at k
    cases e : M p with
    | none => simp only [tyD, e] at k
    | some o => cases o <;> simp only [tyD, e] at k ⊢ <;> first | exact q' | exact ⟨k, q'⟩
  | obj C ns ds => exact ⟨k, q'⟩
  | ty n => exact k.elim
  | tpl ds => exact k.elim
  | _ => exact q'

def sp_is_within (c : CT) : DSp := sp3 fun a l m M Q _ => ∃ i j, l = .int i ∧ m = .int j ∧ known c a M ∧ Q (.bl (withinB a i j)) M
/-- is_within: 0 value, 1 least, 2 most -/
def N_is_within : List Str := ["value", "least", "most"]
def t_is_within (c : CT) (W : DWX) : DTS :=
  dRet (dAndV (dOwn [0] [] (sp_is_integer c) noW [dVar 0] []) (dChain rLeD rLeD (dVar 1) (dVar 0) (dVar 2)))
theorem len_is_within (c : CT) : ∀ ds M Q E, sp_is_within c ds M Q E → ds.length = ["value", "least", "most"].length := sp3_len
theorem pure_is_within (c : CT) : ∀ ds M Q E, sp_is_within c ds M Q E → t_is_within c (fnW E) (fnEnds Q) (startD N_is_within ds) M := sp3_of fun a l m M Q E ⟨i, j, e1, e2, k, q⟩ => by
  subst e1 e2
  show t_is_within c (fnW E) (fnEnds Q) [some a, some (.int i), some (.int j)] M
  refine ⟨k, ?_⟩
  have q' := fn_rt q
  unfold withinB at q'
  cases a with
  | int v =>
    show dChain rLeD rLeD (dVar 1) (dVar 0) (dVar 2) [some (.int v), some (.int i), some (.int j)] M (fnEnds Q).rt
    simp only [dChain, dVar, sl, wth, rLeD, rB2]
    cases h : decide (i ≤ v) with
    | true => simp only [h, Bool.true_and] at q'; exact q'
    | false => simp only [h, Bool.false_and] at q'; exact q'
  | _ => exact q'

def sp_read_number (c : CT) : DSp := sp1 fun a M Q _ => ∃ w : Str, a = .str w ∧ w.length ≤ sizeLine ∧ Q (readN w) M
/-- read_number: 0 word, 1 number, 2 sign -/
def N_read_number : List Str := ["word", "number", "sign"]
def t_read_number (c : CT) (W : DWX) : DTS :=
  dSeq (dIfS (dOr (dTst (dOp (rEqDD false) (dVar 0) (dC (.str "")))) (dOr (dTst (dOp rGtD (dCB rLen0D [dVar 0]) (dC (.int 80)))) (dNot (dTru (dCB rAllD [dLc false (diStr (dVar 0)) (dgName 2) dYes (dOp (rInD false) (dVar 2) (dC (.str "0123456789"))) [2]]))))) (dRet (dC .non)) (dNext))
  (dSeq (dAsg (dCB rIntD [dVar 0]) (dgName 1))
  (dRet (dIf (dTst (dOp (rEqDD false) (dCB rStrD [dVar 1]) (dVar 0))) (dVar 1) (dC .non))))
theorem len_read_number (c : CT) : ∀ ds M Q E, sp_read_number c ds M Q E → ds.length = ["word"].length := sp1_len
theorem pure_read_number (c : CT) : ∀ ds M Q E, sp_read_number c ds M Q E → t_read_number c (fnW E) (fnEnds Q) (startD N_read_number ds) M := sp1_of fun a M Q E h => by
  obtain ⟨w, rfl, wl, q⟩ := h
  show t_read_number c (fnW E) (fnEnds Q) [some (.str w), none, none] M
  have q0 : (w.cps.toList = [] ∨ 80 < w.length ∨ w.cps.toList.all isDig = false) → (fnEnds Q).rt .non M := fun h => fn_rt (by
    unfold readN at q
    rw [if_pos h] at q
    exact q)
  conv => whnf
  split
  · rename_i h
    refine q0 (.inl ?_)
    have e : (w == ("" : Str)) = true := by rw [Bool.false_bne] at h; exact h
    rw [beq_iff_eq.mp e]
    decide +kernel
  · rename_i h
    have wn : w.cps.toList ≠ [] := fun e => by
      have e2 : w = ("" : Str) := TL.ext_tl (e.trans (by decide +kernel))
      rw [e2] at h
      revert h
      decide +kernel
    conv => whnf
    rw [len_str wl]
    conv => whnf
    split
    · rename_i h2
      have h3 : ((80 : Int) < ((w.length : Nat) : Int)) := of_decide_eq_true h2
      exact q0 (.inr (.inl (by omega)))
    · rename_i h2
      have h3 : ¬ ((80 : Int) < ((w.length : Nat) : Int)) := of_decide_eq_false h2
      have l80 : w.length ≤ 80 := by omega
      conv => whnf
      refine ⟨wl, fun p np => ?_⟩
      refine lcR_map (f := fun d => match d with | .str s => .bl (decide (s.cps.getD 0 0 ∈ (("0123456789" : Str)).cps.toList)) | d => d) (fun _ => trivial) np ?_ ?_
      · intro x hx acc R r
        obtain ⟨k, _, rfl⟩ := List.mem_map.mp hx
        exact ⟨k, rfl, by rw [Bool.false_bne]; exact r⟩
      · have e1 : [] ++ (signs w).map (fun d => match d with | .str s => D.bl (decide (s.cps.getD 0 0 ∈ (("0123456789" : Str)).cps.toList)) | d => d) = (w.cps.toList.map isDig).map D.bl := by
          unfold signs
          rw [List.nil_append, List.map_map, List.map_map]
          refine List.map_congr_left fun k _ => ?_
          exact congrArg D.bl (digits_mem k)
        rw [e1]
        conv => whnf
        rw [blsOf_map]
        conv => whnf
        split
        · rename_i h4
          have h5 : (w.cps.toList.map isDig).all id = false := by
            cases e : (w.cps.toList.map isDig).all id with
            | false => rfl
            | true => rw [e] at h4; cases h4
          have h5 : w.cps.toList.all isDig = false := by rw [List.all_map] at h5; exact h5
          exact q0 (.inr (.inr h5))
        · rename_i h4
          have h5 : (w.cps.toList.map isDig).all id = true := by
            cases e : (w.cps.toList.map isDig).all id with
            | true => rfl
            | false => rw [e] at h4; cases h4
          have h5 : w.cps.toList.all isDig = true := by rw [List.all_map] at h5; exact h5
          have ad := allDig h5
          have rd := intText_digits ad wn (by omega)
          have q1 : Q (if numT (digitsVal w.cps.toList) = w then .int (digitsVal w.cps.toList) else .non) M := by
            unfold readN at q
            rw [if_neg (by rintro (e | e | e); exact wn e; omega; rw [h5] at e; cases e)] at q
            exact q
          conv => whnf
          refine ⟨by omega, ?_⟩
          rw [rd]
          conv => whnf
          have vl := val_lt ad
          have l2 : digitsVal w.cps.toList < 10 ^ 80 := Nat.lt_of_lt_of_le vl (Nat.pow_le_pow_right (by decide) (by rw [← TL.len_tl]; exact l80))
          refine ⟨Nat.lt_of_le_of_lt (lg_le (k := 300) (Nat.lt_of_lt_of_le (by show (((digitsVal w.cps.toList : Nat) : Int)).natAbs < 10 ^ 80; rw [Int.natAbs_natCast]; exact l2) (by decide))) (by decide), ?_⟩
          conv => whnf
          split
          · rename_i h6
            have e : (numT (digitsVal w.cps.toList) == w) = true := by rw [Bool.false_bne] at h6; exact h6
            rw [if_pos (beq_iff_eq.mp e)] at q1
            exact fn_rt q1
          · rename_i h6
            have e : (numT (digitsVal w.cps.toList) == w) = false := by rw [Bool.false_bne] at h6; exact h6
            rw [if_neg (by simpa using e)] at q1
            exact fn_rt q1

def sp_wrong_kind (c : CT) : DSp := sp1 fun a M Q _ => knownK c a M ∧ Q (wkD a) M
/-- wrong_kind: 0 kinds, 1 before, 2 at, 3 kind -/
def N_wrong_kind : List Str := ["kinds", "before", "at", "kind"]
def t_wrong_kind (c : CT) (W : DWX) : DTS :=
  dSeq (dIfS (dOr (dNot (dTru (dIsi .tup (kno c) (dVar 0)))) (dTst (dOp (rEqDD false) (dCB rLen0D [dVar 0]) (dC (.int 0))))) (dRet (dTup [dC .non])) (dNext))
  (dSeq (dAsg (dC (.int 0)) (dgName 1))
  (dSeq (dFor (diEnum (dVar 0)) (dgTupN 2 [dgName 2, dgName 3])
  (dSeq (dIfS (dOr (dNot (dTru (dIsi .tup (kno c) (dVar 3)))) (dOr (dTst (dOp (rEqDD true) (dCB rLen0D [dVar 3]) (dC (.int 2)))) (dTst (dOp rGeD (dVar 2) (dC (.int 12)))))) (dRet (dTup [dVar 2])) (dNext))
  (dSeq (dIfS (dOr (dNot (dTru (dOwn [0, 1, 2] [] (sp_is_within c) noW [dOp rIxD (dVar 3) (dC (.int 0)), dOp (rAddD false) (dVar 1) (dC (.int 1)), dC (.int 1000000000000000000000000000000)] []))) (dNot (dTru (dOwn [0, 1, 2] [] (sp_is_within c) noW [dOp rIxD (dVar 3) (dC (.int 1)), dC (.int 1), dC (.int 1000000000000000000000000000000)] [])))) (dRet (dTup [dVar 2])) (dNext))
  (dAsg (dOp rIxD (dVar 3) (dC (.int 0))) (dgName 1)))))
  (dRet (dTup []))))
theorem len_wrong_kind (c : CT) : ∀ ds M Q E, sp_wrong_kind c ds M Q E → ds.length = ["kinds"].length := sp1_len
theorem pure_wrong_kind (c : CT) : ∀ ds M Q E, sp_wrong_kind c ds M Q E → t_wrong_kind c (fnW E) (fnEnds Q) (startD N_wrong_kind ds) M := sp1_of fun a M Q E h => by
  obtain ⟨⟨k0, k1⟩, q⟩ := h
  have q := fn_rt q
  show t_wrong_kind c (fnW E) (fnEnds Q) [some a, none, none, none] M
  rcases tup_or a with ⟨es, rfl⟩ | ht
  · obtain ⟨esl, ke⟩ := k1 es rfl
    conv => whnf
    refine ⟨sh_int, sh_int, ?_⟩
    cases es with
    | nil => exact q
    | cons e0 er =>
      clear k1
      have q2 : (fnEnds Q).rt (match wkGo 0 0 (e0 :: er) with | some i => .tup [.int (i : Nat)] | none => .tup []) M := q
      show forR _ _ _ _ (pairs 0 (e0 :: er)) [some (.tup (e0 :: er)), some (.int 0), none, none] M
      generalize e0 :: er = es at *
      refine forR_inv (fun xs τ M' => M' = M ∧ ∃ i rest b o2 o3, xs = pairs i rest ∧ (∀ e ∈ rest, known c e M ∧ ∀ x y, e = .tup [x, y] → known c x M ∧ known c y M) ∧ wkGo i b rest = wkGo 0 0 es ∧ τ = [some (.tup es), some (.int b), o2, o3]) ?_ ?_ _ _ _ ⟨rfl, 0, es, 0, none, none, rfl, ke, rfl, rfl⟩
      · rintro τ M' ⟨rfl, i, rest, b, o2, o3, ex, _, eg, rfl⟩
        refine ⟨trivial, ?_⟩
        cases rest with
        | cons _ _ => cases ex
        | nil =>
          rw [← eg] at q2
          exact q2
      · rintro x xs τ M' R ⟨rfl, i, rest, b, o2, o3, ex, kr, eg, rfl⟩ hR
        cases rest with
        | nil => cases ex
        | cons e rest =>
          cases ex
          refine ⟨trivial, ?_⟩
          have out : wkOne i b e = none → (fnEnds Q).rt (.tup [.int (i : Nat)]) M' := fun hn => by
            have e2 : wkGo i b (e :: rest) = some i := by unfold wkGo; rw [hn]
            rw [← eg, e2] at q2
            exact q2
          have go : ∀ s, wkOne i b e = some s → wkGo (i + 1) s rest = wkGo 0 0 es := fun s hn => by
            have e2 : wkGo i b (e :: rest) = wkGo (i + 1) s rest := by rw [wkGo, hn]
            rw [← eg, e2]
          obtain ⟨ke1, ke2⟩ := kr e List.mem_cons_self
          conv => whnf
          refine ⟨rfl, ?_⟩
          rcases tup_or e with ⟨fs, rfl⟩ | hne
          · conv => whnf
            refine ⟨sh_int, sh_int, ?_⟩
            conv => whnf
            split
            · rename_i h
              have h' : ¬ fs.length = 2 := by
                intro z
                rw [z] at h
                have h2 : (true != ((2 : Int) == 2)) = true := h
                revert h2
                decide
              refine out ?_
              unfold wkOne
              split
              · rename_i e2
                cases e2
                exact absurd rfl h'
              · rfl
            · rename_i h
              have h' : fs.length = 2 := by
                have h2 : (true != ((((fs.length : Nat) : Int)) == 2)) = false := h
                rw [Bool.true_bne, Bool.not_eq_false'] at h2
                have := beq_iff_eq.mp h2
                omega
              match fs, h' with
              | [s, m], _ =>
                obtain ⟨ks, km⟩ := ke2 s m rfl
                conv => whnf
                split
                · rename_i h3
                  have h4 : (12 : Int) ≤ (i : Nat) := of_decide_eq_true h3
                  refine out ?_
                  unfold wkOne
                  split
                  · rw [if_neg]
                    simp only [Bool.and_eq_true, decide_eq_true_eq, not_and]
                    intro z
                    omega
                  · rfl
                · rename_i h3
                  have h4 : ¬ (12 : Int) ≤ (i : Nat) := of_decide_eq_false h3
                  have i12 : i < 12 := by omega
                  conv => whnf
                  refine ⟨_, _, rfl, rfl, ks, ?_⟩
                  conv => whnf
                  split
                  · rename_i h5
                    refine out ?_
                    have w1 : withinB s (b + 1) (10 ^ 30) = false := by
                      cases z : withinB s (b + 1) (10 ^ 30) with
                      | false => rfl
                      | true =>
                        have h6 : (!withinB s (b + 1) (10 ^ 30)) = true := h5
                        rw [z] at h6; cases h6
                    unfold wkOne
                    split
                    · rename_i e2
                      cases e2
                      rw [w1, Bool.false_and, Bool.and_false, if_neg (by decide)]
                    · rfl
                  · rename_i h5
                    have w1 : withinB s (b + 1) (10 ^ 30) = true := by
                      cases z : withinB s (b + 1) (10 ^ 30) with
                      | true => rfl
                      | false =>
                        have h6 : (!withinB s (b + 1) (10 ^ 30)) = false := h5
                        rw [z] at h6; cases h6
                    obtain ⟨sv, rfl⟩ : ∃ v, s = D.int v := by cases s <;> first | exact ⟨_, rfl⟩ | (cases w1)
                    conv => whnf
                    refine ⟨_, _, rfl, rfl, km, ?_⟩
                    conv => whnf
                    split
                    · rename_i h7
                      refine out ?_
                      have w2 : withinB m 1 (10 ^ 30) = false := by
                        cases z : withinB m 1 (10 ^ 30) with
                        | false => rfl
                        | true =>
                          have h6 : (!withinB m 1 (10 ^ 30)) = true := h7
                          rw [z] at h6; cases h6
                      show (if (decide (i < 12) && (withinB (.int sv) (b + 1) (10 ^ 30) && withinB m 1 (10 ^ 30))) = true then some sv else none) = _
                      rw [w2, Bool.and_false, Bool.and_false, if_neg (by decide)]
                    · rename_i h7
                      have w2 : withinB m 1 (10 ^ 30) = true := by
                        cases z : withinB m 1 (10 ^ 30) with
                        | true => rfl
                        | false =>
                          have h6 : (!withinB m 1 (10 ^ 30)) = false := h7
                          rw [z] at h6; cases h6
                      conv => whnf
                      refine hR _ _ _ _ ⟨rfl, i + 1, rest, sv, _, _, rfl, fun e he => kr e (List.mem_cons_of_mem _ he), go sv ?_, rfl⟩ (SubS.refl _) (Sub.refl _)
                      show (if (decide (i < 12) && (withinB (.int sv) (b + 1) (10 ^ 30) && withinB m 1 (10 ^ 30))) = true then some sv else none) = _
                      rw [w1, w2, decide_eq_true i12]; rfl
          · have on : wkOne i b e = none := by
              unfold wkOne
              split
              · exact absurd rfl (hne _)
              · rfl
            rcases not_tup ke1 hne with ⟨t, e1, e2⟩ | ⟨C, e1, e2⟩
            · conv => whnf
              rw [e1]
              conv => whnf
              rw [e2]
              exact out on
            · conv => whnf
              rw [e1]
              exact ⟨e2, out on⟩
  · have q3 : (fnEnds Q).rt (.tup [.non]) M := by
      unfold wkD at q
      split at q
      · exact q
      · exact absurd rfl (ht _)
      · exact q
    rcases not_tup k0 ht with ⟨t, e1, e2⟩ | ⟨C, e1, e2⟩
    · conv => whnf
      rw [e1]
      conv => whnf
      rw [e2]
      exact q3
    · conv => whnf
      rw [e1]
      exact ⟨e2, q3⟩

def sp_read_kind (c : CT) : DSp := sp1 fun a M Q _ => ∃ w : Str, a = .str w ∧ w.length + 2 ≤ sizeLine ∧ Q (readK w) M
/-- read_kind: 0 word, 1 parts -/
def N_read_kind : List Str := ["word", "parts"]
def t_read_kind (c : CT) (W : DWX) : DTS :=
  dSeq (dAsg (dSplit false (dVar 0) (dC (.str "x"))) (dgName 1))
  (dRet (dIf (dTst (dOp (rEqDD false) (dCB rLen0D [dVar 1]) (dC (.int 2)))) (dTup [dOwn [0] [] (sp_read_number c) noW [dOp rIxD (dVar 1) (dC (.int 1))] [], dOwn [0] [] (sp_read_number c) noW [dOp rIxD (dVar 1) (dC (.int 0))] []]) (dC .non)))
theorem len_read_kind (c : CT) : ∀ ds M Q E, sp_read_kind c ds M Q E → ds.length = ["word"].length := sp1_len
theorem pure_read_kind (c : CT) : ∀ ds M Q E, sp_read_kind c ds M Q E → t_read_kind c (fnW E) (fnEnds Q) (startD N_read_kind ds) M := sp1_of fun a M Q E h => by
  obtain ⟨w, rfl, wl, q⟩ := h
  have q := fn_rt q
  show t_read_kind c (fnW E) (fnEnds Q) [some (.str w), none] M
  have pl : ∀ p ∈ Txt.split w ("x" : Str), p.length ≤ sizeLine := fun p hp => by
    have := part_len (by rw [len_x]; exact Nat.le_refl 1) hp
    omega
  unfold readK at q
  conv => whnf
  refine ⟨by decide +kernel, wl, ?_⟩
  generalize Txt.split w ("x" : Str) = ps at *
  conv => whnf
  refine ⟨sh_int, sh_int, ?_⟩
  match ps, pl, q with
  | [], _, q => exact q
  | [_], _, q => exact q
  | [p0, p1], pl, q =>
    conv => whnf
    refine ⟨p1, rfl, pl p1 (by simp), ?_⟩
    conv => whnf
    refine ⟨p0, rfl, pl p0 (by simp), ?_⟩
    exact q
  | p0 :: p1 :: p2 :: r, _, q => exact q

theorem wk_form (a : D) : (wkD a = .tup [] ∧ isU (wkD a) = true) ∨ ((∃ i, wkD a = .tup [.int i]) ∧ isU (wkD a) = false) ∨ (wkD a = .tup [.non] ∧ isU (wkD a) = false) := by
  unfold wkD
  split
  · exact .inr (.inr ⟨rfl, rfl⟩)
  · split
    · exact .inr (.inl ⟨⟨_, rfl⟩, rfl⟩)
    · exact .inl ⟨rfl, rfl⟩
  · exact .inr (.inr ⟨rfl, rfl⟩)
def sp_read_heaps (c : CT) : DSp := sp1 fun a M Q _ => known c a M ∧ (∀ w, a = .str w → w.length + 4 ≤ sizeLine) ∧ Q (readH a) M
/-- read_heaps: 0 text, 1 kinds, 2 word -/
def N_read_heaps : List Str := ["text", "kinds", "word"]
def t_read_heaps (c : CT) (W : DWX) : DTS :=
  dSeq (dIfS (dNot (dTru (dIsi .str (kno c) (dVar 0)))) (dRet (dC .non)) (dNext))
  (dSeq (dAsg (dCB rTupleD [dLc false (diSeq (dSplit false (dVar 0) (dC (.str " ")))) (dgName 2) dYes (dOwn [0] [] (sp_read_kind c) noW [dVar 2] []) [2]]) (dgName 1))
  (dRet (dIf (dTst (dOp (rEqDD false) (dOwn [0] [] (sp_wrong_kind c) noW [dVar 1] []) (dTup []))) (dVar 1) (dC .non))))
theorem len_read_heaps (c : CT) : ∀ ds M Q E, sp_read_heaps c ds M Q E → ds.length = ["text"].length := sp1_len
theorem readN_known (c : CT) (w : Str) (M : DHp) : known c (readN w) M := by
  unfold readN
  split
  · trivial
  · split <;> trivial
theorem readK_known (c : CT) (w : Str) (M : DHp) : known c (readK w) M ∧ ∀ x y, readK w = .tup [x, y] → known c x M ∧ known c y M := by
  unfold readK
  split
  · refine ⟨trivial, fun x y e => ?_⟩
    cases e
    exact ⟨readN_known c _ M, readN_known c _ M⟩
  · exact ⟨trivial, fun x y e => nomatch e⟩
theorem pure_read_heaps (c : CT) : ∀ ds M Q E, sp_read_heaps c ds M Q E → t_read_heaps c (fnW E) (fnEnds Q) (startD N_read_heaps ds) M := sp1_of fun a M Q E h => by
  obtain ⟨kn, wl, q⟩ := h
  have q := fn_rt q
  show t_read_heaps c (fnW E) (fnEnds Q) [some a, none, none] M
  have key : (∀ w, a ≠ .str w) → t_read_heaps c (fnW E) (fnEnds Q) [some a, none, none] M := fun hn => by
    have q2 : (fnEnds Q).rt .non M := by
      unfold readH at q
      split at q
      · exact absurd rfl (hn _)
      · exact q
    unfold known at kn
    cases a with
    | str w => exact absurd rfl (hn w)
    | ref p =>
      conv => whnf
      cases e : M p with
      | none => simp only [tyD, e] at kn
      | some o => cases o <;> simp only [tyD, e] at kn ⊢ <;> first | exact q2 | exact ⟨kn, q2⟩
    | obj C ns ds => exact ⟨kn, q2⟩
    | ty n => exact kn.elim
    | tpl ds => exact kn.elim
    | _ => exact q2
  by_cases hs : ∀ w, a ≠ .str w
  · exact key hs
  · clear key
    obtain ⟨w, rfl⟩ : ∃ w, a = .str w := by
      cases a <;> first | exact ⟨_, rfl⟩ | exact absurd (fun w e => nomatch e) hs
    have wl := wl w rfl
    have sl := split_le w (" " : Str)
    conv => whnf
    refine ⟨by decide +kernel, by omega, ?_⟩
    show ∀ p, M p = none → _
    intro p np
    refine lcR_map (f := fun d => match d with | .str s => readK s | d => d) (fun _ => trivial) np ?_ ?_
    · intro x hx acc R r
      obtain ⟨k, hk, rfl⟩ := List.mem_map.mp hx
      have := part_len (by rw [len_sp]; exact Nat.le_refl 1) hk
      exact ⟨k, rfl, by omega, r⟩
    · have e1 : [] ++ ((Txt.split w (" " : Str)).map D.str).map (fun d => match d with | .str s => readK s | d => d) = (Txt.split w (" " : Str)).map readK := by
        rw [List.nil_append, List.map_map]
        rfl
      rw [e1]
      conv => whnf
      refine ⟨⟨trivial, fun es e => ?_⟩, ?_⟩
      · cases e
        refine ⟨by rw [List.length_map]; omega, fun e he => ?_⟩
        obtain ⟨k, _, rfl⟩ := List.mem_map.mp he
        exact readK_known c k M
      · have q2 : (fnEnds Q).rt (if isU (wkD (kindsOf w)) then kindsOf w else .non) M := q
        rcases wk_form (kindsOf w) with ⟨e, u⟩ | ⟨⟨i, e⟩, u⟩ | ⟨e, u⟩
        · rw [u] at q2
          rw [show wkD (D.tup ((Txt.split w (" " : Str)).map readK)) = _ from e]
          exact ⟨rfl, rfl, q2⟩
        · rw [u] at q2
          rw [show wkD (D.tup ((Txt.split w (" " : Str)).map readK)) = _ from e]
          exact ⟨rfl, rfl, q2⟩
        · rw [u] at q2
          rw [show wkD (D.tup ((Txt.split w (" " : Str)).map readK)) = _ from e]
          exact ⟨rfl, rfl, q2⟩

/-- heaps, as an object that changes no more -/
def hpD (c : CT) (k : D) : D := .obj c.Heaps ["rows"] [k]
theorem look_self {f : Str} {ns : List Str} {d : D} {ds : List D} : look f (f :: ns) (d :: ds) = some d := if_pos rfl
def sp_Heaps___init__ (c : CT) : DSp := sp2 fun s k M Q _ => ∃ x, s = .ref x ∧ M x = some (.ins c.Heaps [] []) ∧ knownK c k M ∧ wkD k = .tup [] ∧ Q .non (up M x (.ins c.Heaps ["rows"] [k]))
/-- Heaps.__init__: 0 self, 1 kinds, 2 wrong -/
def N_Heaps___init__ : List Str := ["self", "kinds", "wrong"]
def t_Heaps___init__ (c : CT) (W : DWX) : DTS :=
  dSeq (dAsg (dOwn [0] [] (sp_wrong_kind c) noW [dVar 1] []) (dgName 2))
  (dSeq (dIfS (dTst (dOp (rEqDD true) (dVar 2) (dTup []))) (dNever) (dNext))
  (sFldD (fun C => C = c.Heaps) "rows" (dVar 0) (dVar 1)))
theorem len_Heaps___init__ (c : CT) : ∀ ds M Q E, sp_Heaps___init__ c ds M Q E → ds.length = ["self", "kinds"].length := sp2_len
theorem pure_Heaps___init__ (c : CT) : ∀ ds M Q E, sp_Heaps___init__ c ds M Q E → t_Heaps___init__ c (fnW E) (fnEnds Q) (startD N_Heaps___init__ ds) M := sp2_of fun s k M Q E h => by
  obtain ⟨x, rfl, ex, kk, ew, q⟩ := h
  show t_Heaps___init__ c (fnW E) (fnEnds Q) [some (.ref x), some k, none] M
  conv => whnf
  refine ⟨kk, ?_⟩
  rw [ew]
  conv => whnf
  refine ⟨rfl, rfl, ?_⟩
  conv => whnf
  rw [ex]
  conv => whnf
  exact ⟨rfl, by decide, ⟨_, Sub.refl _, q⟩⟩

def sp_Heaps_read (c : CT) : DSp := sp2 fun s t M Q _ => s = .ref c.Heaps ∧ known c t M ∧ (∀ w, t = .str w → w.length + 4 ≤ sizeLine) ∧ ∃ kz, readH t = kD kz ∧ Kinds kz ∧ Q (hpD c (kD kz)) M
/-- Heaps.read: 0 cls, 1 text, 2 found -/
def N_Heaps_read : List Str := ["cls", "text", "found"]
def t_Heaps_read (c : CT) (W : DWX) : DTS :=
  dSeq (dAsg (dOwn [0] [] (sp_read_heaps c) noW [dVar 1] []) (dgName 2))
  (dSeq (dIfS (dTst (dOp (rIsN false) (dVar 2) (dC .non))) (dNever) (dNext))
  (dRet (dMkV true 0 c.Heaps [0, 1] [] (sp_Heaps___init__ c) noW [dVar 2] [])))
theorem len_Heaps_read (c : CT) : ∀ ds M Q E, sp_Heaps_read c ds M Q E → ds.length = ["cls", "text"].length := sp2_len
theorem pure_Heaps_read (c : CT) : ∀ ds M Q E, sp_Heaps_read c ds M Q E → t_Heaps_read c (fnW E) (fnEnds Q) (startD N_Heaps_read ds) M := sp2_of fun s t M Q E h => by
  obtain ⟨rfl, kn, wl, kz, er, kk, q⟩ := h
  show t_Heaps_read c (fnW E) (fnEnds Q) [some (.ref c.Heaps), some t, none] M
  conv => whnf
  refine ⟨kn, wl, ?_⟩
  rw [er]
  conv => whnf
  refine ⟨rfl, ?_⟩
  conv => whnf
  intro x nx
  refine ⟨x, rfl, up_same, known_kinds kz (by have := kk.len; omega), wk_ok kk, rfl, M, ["rows"], [kD kz], ?_, nx, ⟨M, Sub.refl M, q⟩⟩
  rw [up_up]
  exact Sub.refl _

def sp_Heaps_kinds (c : CT) : DSp := sp1 fun s M Q _ => ∃ k, s = hpD c k ∧ Q k M
/-- Heaps.kinds: 0 self -/
def N_Heaps_kinds : List Str := ["self"]
def t_Heaps_kinds (c : CT) (W : DWX) : DTS :=
  dRet (dFld (fun C => C = c.Heaps) "rows" (dVar 0))
theorem len_Heaps_kinds (c : CT) : ∀ ds M Q E, sp_Heaps_kinds c ds M Q E → ds.length = ["self"].length := sp1_len
theorem pure_Heaps_kinds (c : CT) : ∀ ds M Q E, sp_Heaps_kinds c ds M Q E → t_Heaps_kinds c (fnW E) (fnEnds Q) (startD N_Heaps_kinds ds) M := sp1_of fun s M Q E h => by
  obtain ⟨k, rfl, q⟩ := h
  exact ⟨rfl, wth_some look_self (fn_rt q)⟩

def manyOf (kz : List (Int × Int)) : Int := (kz.map (·.2)).sum
def sp_Heaps_many (c : CT) : DSp := sp1 fun s M Q _ => ∃ kz, s = hpD c (kD kz) ∧ Q (.int (manyOf kz)) M
/-- Heaps.many: 0 self, 1 size, 2 many -/
def N_Heaps_many : List Str := ["self", "size", "many"]
def t_Heaps_many (c : CT) (W : DWX) : DTS :=
  dRet (dCB rSumD [dLc false (diSeq (dFld (fun C => C = c.Heaps) "rows" (dVar 0))) (dgTupN 2 [dgName 1, dgName 2]) dYes (dVar 2) [1, 2]])
theorem len_Heaps_many (c : CT) : ∀ ds M Q E, sp_Heaps_many c ds M Q E → ds.length = ["self"].length := sp1_len
theorem pure_Heaps_many (c : CT) : ∀ ds M Q E, sp_Heaps_many c ds M Q E → t_Heaps_many c (fnW E) (fnEnds Q) (startD N_Heaps_many ds) M := sp1_of fun s M Q E h => by
  obtain ⟨kz, rfl, q⟩ := h
  refine ⟨rfl, wth_some look_self ?_⟩
  show ∀ p, M p = none → _
  intro p np
  refine lcR_map (f := fun d => match d with | .tup [_, m] => m | d => d) (fun _ => trivial) np ?_ ?_
  · intro x hx acc R r
    obtain ⟨k, hk, rfl⟩ := List.mem_map.mp hx
    exact ⟨rfl, r⟩
  · have e1 : [] ++ (kz.map pairD).map (fun d => match d with | .tup [_, m] => m | d => d) = (kz.map (·.2)).map D.int := by
      rw [List.nil_append, List.map_map, List.map_map]
      rfl
    rw [e1]
    conv => whnf
    rw [intsOf_map]
    exact fn_rt q

def sp_Heaps___len__ (c : CT) : DSp := sp1 fun s M Q _ => ∃ kz, s = hpD c (kD kz) ∧ Q (.int (kz.length : Nat)) M
/-- Heaps.__len__: 0 self -/
def N_Heaps___len__ : List Str := ["self"]
def t_Heaps___len__ (c : CT) (W : DWX) : DTS :=
  dRet (dCB rLen0D [dFld (fun C => C = c.Heaps) "rows" (dVar 0)])
theorem len_Heaps___len__ (c : CT) : ∀ ds M Q E, sp_Heaps___len__ c ds M Q E → ds.length = ["self"].length := sp1_len
theorem pure_Heaps___len__ (c : CT) : ∀ ds M Q E, sp_Heaps___len__ c ds M Q E → t_Heaps___len__ c (fnW E) (fnEnds Q) (startD N_Heaps___len__ ds) M := sp1_of fun s M Q E h => by
  obtain ⟨kz, rfl, q⟩ := h
  refine ⟨rfl, wth_some look_self ?_⟩
  refine fn_rt (?_ : Q (.int (((kz.map pairD).length : Nat) : Int)) M)
  rw [List.length_map]
  exact q

/-- what == of heaps answers -/
def eqH (ka : D) (b : D) : Bool := match b with
  | .obj _ _ [kb] => PyData.eqv (py ka) (py kb)
  | _ => false
/-- what heaps may be compared with: other heaps, or no object of an own class -/
def mateOk (c : CT) (b : D) (M : DHp) : Prop := (∃ kb, b = hpD c kb ∧ (∃ ds, kb = .tup ds) ∧ SeqAt.shaped (py kb) = true) ∨ ∃ t, tyD b M = some (.inl t)
def sp_Heaps___eq__ (c : CT) : DSp := sp2 fun a b M Q _ => ∃ ds, a = hpD c (.tup ds) ∧ SeqAt.shaped (py (.tup ds)) = true ∧ mateOk c b M ∧ Q (.bl (eqH (.tup ds) b)) M
/-- Heaps.__eq__: 0 self, 1 other -/
def N_Heaps___eq__ : List Str := ["self", "other"]
def t_Heaps___eq__ (c : CT) (W : DWX) : DTS :=
  dRet (dAndV (dIsiC (tab1 c.Heaps true) (dVar 1)) (dOp (rEqDD false) (dFld (fun C => C = c.Heaps) "rows" (dVar 0)) (dFld (fun C => C = c.Heaps) "rows" (dVar 1))))
theorem len_Heaps___eq__ (c : CT) : ∀ ds M Q E, sp_Heaps___eq__ c ds M Q E → ds.length = ["self", "other"].length := sp2_len
theorem pure_Heaps___eq__ (c : CT) : ∀ ds M Q E, sp_Heaps___eq__ c ds M Q E → t_Heaps___eq__ c (fnW E) (fnEnds Q) (startD N_Heaps___eq__ ds) M := sp2_of fun a b M Q E h => by
  obtain ⟨ds, rfl, sa, mb, q⟩ := h
  have q := fn_rt q
  show t_Heaps___eq__ c (fnW E) (fnEnds Q) [some (hpD c (.tup ds)), some b] M
  rcases mb with ⟨kb, rfl, ⟨es, rfl⟩, sb⟩ | ⟨t, et⟩
  · conv => whnf
    refine wth_some (tab1_self _ _) ?_
    conv => whnf
    refine ⟨rfl, wth_some look_self ?_⟩
    conv => whnf
    refine ⟨rfl, wth_some look_self ?_⟩
    refine ⟨sa, sb, ?_⟩
    show (fnEnds Q).rt (.bl (false != PyData.eqv (py (.tup ds)) (py (.tup es)))) M
    rw [Bool.false_bne]
    exact q
  · conv => whnf
    rw [et]
    have e : eqH (.tup ds) b = false := by
      unfold eqH
      split
      · cases et
      · rfl
    rw [e] at q
    exact q

def sp_Heaps___str__ (c : CT) : DSp := sp1 fun s M Q _ => ∃ kz, s = hpD c (kD kz) ∧ Kinds kz ∧ Q (.str (pageT kz)) M
/-- Heaps.__str__: 0 self, 1 size, 2 many -/
def N_Heaps___str__ : List Str := ["self", "size", "many"]
def t_Heaps___str__ (c : CT) (W : DWX) : DTS :=
  dRet (dJoin (dC (.str " ")) (dLc false (diSeq (dFld (fun C => C = c.Heaps) "rows" (dVar 0))) (dgTupN 2 [dgName 1, dgName 2]) dYes (dJoined [dFmt (dVar 2), dC (.str "x"), dFmt (dVar 1)]) [1, 2]))
theorem len_Heaps___str__ (c : CT) : ∀ ds M Q E, sp_Heaps___str__ c ds M Q E → ds.length = ["self"].length := sp1_len
theorem pure_Heaps___str__ (c : CT) : ∀ ds M Q E, sp_Heaps___str__ c ds M Q E → t_Heaps___str__ c (fnW E) (fnEnds Q) (startD N_Heaps___str__ ds) M := sp1_of fun s M Q E h => by
  obtain ⟨kz, rfl, kk, q⟩ := h
  refine ⟨rfl, wth_some look_self ?_⟩
  show ∀ p, M p = none → _
  intro p np
  refine lcR_map (f := fun d => match d with | .tup [.int s, .int m] => .str (wordT (s, m)) | d => d) (fun _ => trivial) np ?_ ?_
  · intro x hx acc R r
    obtain ⟨k, hk, rfl⟩ := List.mem_map.mp hx
    have km := kk.mem k hk
    have l1 := num_len (n := k.1) (by omega) (by omega)
    have l2 := num_len (n := k.2) (by omega) (by omega)
    have lg1 : k.1.natAbs.log2 < 1920 := Nat.lt_of_le_of_lt (lg_le (k := 200) (by omega)) (by decide)
    have lg2 : k.2.natAbs.log2 < 1920 := Nat.lt_of_le_of_lt (lg_le (k := 200) (by omega)) (by decide)
    conv => whnf
    refine ⟨rfl, ?_⟩
    conv => whnf
    refine ⟨lg2, ?_⟩
    conv => whnf
    refine ⟨line_1000 (by rw [PySem.W.KT.empty_app]; show (numT k.2).length ≤ 1000; omega), ?_⟩
    conv => whnf
    refine ⟨line_1000 (by rw [PySem.W.KT.empty_app, app_len, len_x]; show (numT k.2).length + 1 ≤ 1000; omega), ?_⟩
    conv => whnf
    refine ⟨lg1, ?_⟩
    conv => whnf
    refine ⟨line_1000 (by rw [PySem.W.KT.empty_app, app_len, app_len, len_x]; show (numT k.2).length + 1 + (numT k.1).length ≤ 1000; omega), ?_⟩
    show R (.str (Str.empty ++ numT k.2 ++ ("x" : Str) ++ numT k.1)) _
    rw [PySem.W.KT.empty_app]
    exact r
  · have e1 : [] ++ (kz.map pairD).map (fun d => match d with | .tup [.int s, .int m] => .str (wordT (s, m)) | d => d) = (kz.map wordT).map D.str := by
      rw [List.nil_append, List.map_map, List.map_map]
      rfl
    rw [e1]
    conv => whnf
    rw [strsOf_map]
    conv => whnf
    exact ⟨join_fits kk, fn_rt q⟩

def sp__law_pot (c : CT) : DSp := sp2 fun s t M Q _ => ∃ ns k, s = .scr ns ∧ t = .int k ∧ 0 ≤ k ∧ k ≤ 100 ∧ ns.length ≤ 63 ∧ ∀ p x y, M p = none → PotI x y 0 → Q (.ref p) (up M p (.lst [.int x, .int y, .int 0]))
/-- _law_pot: 0 _law_script, 1 _law_turn, 2 _law_figure, 3 _law_seed, 4 _law_each -/
def N__law_pot : List Str := ["_law_script", "_law_turn", "_law_figure", "_law_seed", "_law_each"]
def t__law_pot (c : CT) (W : DWX) : DTS :=
  dSeq (dAsg (dIf (dTst (dOp rLtD (dVar 1) (dCB rLen0D [dVar 0]))) (dOp rIxD (dVar 0) (dVar 1)) (dOp (rAddD false) (dOp (rMulD false) (dC (.int 37)) (dVar 1)) (dC (.int 4)))) (dgName 2))
  (dSeq (dAsg (dOp (rAddD false) (dC (.int 141650939)) (dOp (rMulD false) (dC (.int 39019)) (dVar 1))) (dgName 3))
  (dSeq (dFor (diSeq (dOp (rAddD false) (dLst false [dVar 2]) (dSl false (dVar 0) (dNoPart) (dPart (dC (.int 6)))))) (dgName 4)
  (dAsg (dOp rModD (dCB rIntD [dOp (rAddD false) (dOp (rMulD false) (dVar 3) (dC (.int 49069))) (dVar 4)]) (dC (.int 2147483423))) (dgName 3)))
  (dRet (dLst true [dIf (dTst (dOp rGeD (dCB rAbsD [dVar 2]) (dOp rPowD (dC (.int 10)) (dC (.int 18))))) (dCB rAbsD [dVar 2]) (dC (.int 0)), dVar 3, dC (.int 0)]))))
theorem len__law_pot (c : CT) : ∀ ds M Q E, sp__law_pot c ds M Q E → ds.length = ["_law_script", "_law_turn"].length := sp2_len
theorem pure__law_pot (c : CT) : ∀ ds M Q E, sp__law_pot c ds M Q E → t__law_pot c (fnW E) (fnEnds Q) (startD N__law_pot ds) M := sp2_of fun s t M Q E ⟨ns, k, e1, e2, k0, k1, nl, q⟩ => by
  subst e1 e2
  have fig : ∀ (i : Int), (dSeq (dAsg (dOp (rAddD false) (dC (.int 141650939)) (dOp (rMulD false) (dC (.int 39019)) (dVar 1))) (dgName 3))
  (dSeq (dFor (diSeq (dOp (rAddD false) (dLst false [dVar 2]) (dSl false (dVar 0) (dNoPart) (dPart (dC (.int 6)))))) (dgName 4)
  (dAsg (dOp rModD (dCB rIntD [dOp (rAddD false) (dOp (rMulD false) (dVar 3) (dC (.int 49069))) (dVar 4)]) (dC (.int 2147483423))) (dgName 3)))
  (dRet (dLst true [dIf (dTst (dOp rGeD (dCB rAbsD [dVar 2]) (dOp rPowD (dC (.int 10)) (dC (.int 18))))) (dCB rAbsD [dVar 2]) (dC (.int 0)), dVar 3, dC (.int 0)])))) (fnEnds Q) [some (.scr ns), some (.int k), some (.int i), none, none] M := fun i => by
    conv => whnf
    refine ⟨mulW (by decide) (by omega), ?_⟩
    conv => whnf
    refine ⟨line_1000 ?_, ?_⟩
    · show 1 + (cutD (ns.map D.int) none (some 6)).length ≤ 1000
      have := cut_len (ds := ns.map D.int) (lo := none) (hi := some 6)
      rw [List.length_map] at this
      omega
    show forR _ _ _ _ ([D.int i] ++ cutD (ns.map D.int) none (some 6)) _ _
    refine forR_inv (fun xs τ M' => M' = M ∧ (∀ x ∈ xs, ∃ j, x = D.int j) ∧ ∃ y z, 0 ≤ y ∧ y < 2147483648 ∧ τ = [some (.scr ns), some (.int k), some (.int i), some (.int y), z]) ?_ ?_ _ _ _ ⟨rfl, ?_, _, none, ?_, ?_, rfl⟩
    · rintro τ M' ⟨rfl, _, y, z, y0, y1, rfl⟩
      refine ⟨trivial, ?_⟩
      conv => whnf
      refine ⟨by unfold CPow; decide, ?_⟩
      conv => whnf
      split
      · conv => whnf
        exact fun p np => ⟨_, Sub.refl _, q p _ _ np ⟨(by split <;> omega : (0 : Int) ≤ if i < 0 then -i else i), y0, y1, Int.le_refl 0⟩⟩
      · conv => whnf
        exact fun p np => ⟨_, Sub.refl _, q p _ _ np ⟨Int.le_refl 0, y0, y1, Int.le_refl 0⟩⟩
    · rintro x xs τ M' R ⟨rfl, hx, y, z, y0, y1, rfl⟩ hR
      obtain ⟨j, rfl⟩ := hx x List.mem_cons_self
      refine ⟨trivial, ?_⟩
      conv => whnf
      refine ⟨mulW (by omega) (by decide), ?_⟩
      conv => whnf
      refine ⟨(by decide : (0 : Int) < 2147483423), ?_⟩
      conv => whnf
      exact hR _ _ _ _ ⟨rfl, fun x hx' => hx x (List.mem_cons_of_mem _ hx'), _, _, Int.emod_nonneg _ (by decide), Int.lt_trans (Int.emod_lt_of_pos _ (by decide)) (by decide), rfl⟩ (SubS.refl _) (Sub.refl _)
    · intro x hx
      rcases List.mem_append.mp hx with h | h
      · exact ⟨i, List.mem_singleton.mp h⟩
      · obtain ⟨j, _, rfl⟩ := List.mem_map.mp (cut_mem h)
        exact ⟨j, rfl⟩
    · show (0 : Int) ≤ 141650939 + 39019 * k
      omega
    · show (141650939 + 39019 * k : Int) < 2147483648
      omega
  show t__law_pot c (fnW E) (fnEnds Q) [some (.scr ns), some (.int k), none, none, none] M
  conv => whnf
  split
  · rename_i h
    have h1 : k < (ns.length : Nat) := of_decide_eq_true h
    obtain ⟨i, e⟩ := at_int k0 h1
    conv => whnf
    rw [e]
    exact fig i
  · conv => whnf
    refine ⟨mulW (by decide) (by omega), ?_⟩
    exact fig _

def sp__law_scoop (c : CT) : DSp := sp2 fun p w M Q _ => ∃ a x y z k, p = .ref a ∧ w = .int k ∧ 0 < k ∧ k ≤ 10 ^ 30 ∧ M a = some (.lst [.int x, .int y, .int z]) ∧ PotI x y z ∧ z ≤ 10 ^ 9 ∧
  ∀ d x' y' z', 0 ≤ d → d < k → PotI x' y' z' → z' ≤ z + 1 → Q (.int d) (up M a (.lst [.int x', .int y', .int z']))
/-- _law_scoop: 0 _law_pot_here, 1 _law_many_ways, 2 _law_digit -/
def N__law_scoop : List Str := ["_law_pot_here", "_law_many_ways", "_law_digit"]
def t__law_scoop (c : CT) (W : DWX) : DTS :=
  dSeq (dIfS (dTst (dOp rGtD (dOp rIxD (dVar 0) (dC (.int 0))) (dC (.int 0)))) (dSeq (dAsg (dCB rDivmodD [dOp rIxD (dVar 0) (dC (.int 0)), dVar 1]) (dgTupN 2 [dgSub (dVar 0) (dC (.int 0)), dgName 2]))
  (dRet (dVar 2))) (dNext))
  (dSeq (dAsg (dOp (rAddD false) (dOp rIxD (dVar 0) (dC (.int 2))) (dC (.int 1))) (dgSub (dVar 0) (dC (.int 2))))
  (dSeq (dAsg (dOp rModD (dCB rIntD [dOp (rAddD false) (dOp (rMulD false) (dOp rIxD (dVar 0) (dC (.int 1))) (dC (.int 44017))) (dOp (rMulD false) (dC (.int 24007)) (dOp rIxD (dVar 0) (dC (.int 2))))]) (dC (.int 2147483423))) (dgSub (dVar 0) (dC (.int 1))))
  (dRet (dOp rModD (dCB rIntD [dOp rDivD (dOp rIxD (dVar 0) (dC (.int 1))) (dC (.int 1024))]) (dVar 1)))))
theorem len__law_scoop (c : CT) : ∀ ds M Q E, sp__law_scoop c ds M Q E → ds.length = ["_law_pot_here", "_law_many_ways"].length := sp2_len
theorem pure__law_scoop (c : CT) : ∀ ds M Q E, sp__law_scoop c ds M Q E → t__law_scoop c (fnW E) (fnEnds Q) (startD N__law_scoop ds) M := sp2_of fun p w M Q E ⟨a, x, y, z, k, e1, e2, k0, k1, em, P, zb, q⟩ => by
  subst e1 e2
  show t__law_scoop c (fnW E) (fnEnds Q) [some (.ref a), some (.int k), none] M
  obtain ⟨P1, P2, P3, P4⟩ := P
  have dv : CDivP x k := ⟨k0, by
    unfold Builtin.divisionGoesByPylong
    have h1 : k.natAbs.log2 ≤ 100 := lg_le (Nat.lt_of_le_of_lt (by omega : k.natAbs ≤ 10 ^ 30) (by decide))
    have h2 : (if (k == 0) = true then 0 else k.natAbs.log2 / 30 + 1) ≤ 300 := by split <;> omega
    simp only [Bool.and_eq_false_iff, decide_eq_false_iff_not]
    exact .inl (by omega)⟩
  conv => whnf
  rw [seq_ref em]
  conv => whnf
  split
  · rename_i h
    have hx : 0 < x := of_decide_eq_true h
    conv => whnf
    rw [seq_ref em]
    conv => whnf
    refine ⟨dv, ?_⟩
    conv => whnf
    refine ⟨rfl, ?_⟩
    conv => whnf
    rw [em]
    conv => whnf
    exact ⟨_, Sub.refl _, q _ _ _ _ (Int.emod_nonneg _ (by omega)) (Int.emod_lt_of_pos _ k0) ⟨Int.ediv_nonneg P1 (by omega), P2, P3, P4⟩ (by omega)⟩
  · conv => whnf
    rw [seq_ref em]
    conv => whnf
    rw [em]
    conv => whnf
    rw [seq_ref up_same]
    conv => whnf
    refine ⟨mulW (by omega) (by decide), ?_⟩
    conv => whnf
    rw [seq_ref up_same]
    conv => whnf
    refine ⟨mulW (by decide) (by omega), ?_⟩
    conv => whnf
    refine ⟨(by decide : (0 : Int) < 2147483423), ?_⟩
    conv => whnf
    rw [up_same]
    conv => whnf
    rw [up_up, seq_ref up_same]
    conv => whnf
    refine ⟨⟨by decide, by decide⟩, ?_⟩
    conv => whnf
    refine ⟨k0, ?_⟩
    conv => whnf
    exact ⟨_, Sub.refl _, q _ _ _ _ (Int.emod_nonneg _ (by omega)) (Int.emod_lt_of_pos _ k0) ⟨P1, Int.emod_nonneg _ (by decide), Int.lt_trans (Int.emod_lt_of_pos _ (by decide)) (by decide), by omega⟩ (Int.le_refl _)⟩

def sp__law_few (c : CT) : DSp := sp3 fun p w t M Q _ => ∃ a x y z k h, p = .ref a ∧ w = .int k ∧ t = .int h ∧ 0 < k ∧ k ≤ 12 ∧ 0 < h ∧ h ≤ 10 ^ 29 ∧ M a = some (.lst [.int x, .int y, .int z]) ∧ PotI x y z ∧ z ≤ 10 ^ 8 ∧
  ∀ kz x' y' z', Drawn kz → (∀ p ∈ kz, p.2 ≤ h) → PotI x' y' z' → z' ≤ z + 40 → Q (kD kz) (up M a (.lst [.int x', .int y', .int z']))
/-- _law_few: 0 _law_pot_here, 1 _law_high, 2 _law_top, 3 _law_found, 4 _law_size_here, 5 _law_turn -/
def N__law_few : List Str := ["_law_pot_here", "_law_high", "_law_top", "_law_found", "_law_size_here", "_law_turn"]
def t__law_few (c : CT) (W : DWX) : DTS :=
  dSeq (dPar 3 4 (dLst true []) (dC (.int 0)))
  (dSeq (dFor (diRng1 (dOp (rAddD false) (dC (.int 1)) (dOwn [0, 1] [] (sp__law_scoop c) noW [dVar 0, dVar 1] []))) (dgName 5)
  (dSeq (dAsg (dOp (rAddD false) (dOp (rAddD false) (dVar 4) (dC (.int 1))) (dOwn [0, 1] [] (sp__law_scoop c) noW [dVar 0, dC (.int 4)] [])) (dgName 4))
  (dDrop (dApp (dVar 3) (dTup [dVar 4, dOp (rAddD false) (dC (.int 1)) (dOwn [0, 1] [] (sp__law_scoop c) noW [dVar 0, dVar 2] [])])))))
  (dRet (dCB rTupleD [dVar 3])))
theorem len__law_few (c : CT) : ∀ ds M Q E, sp__law_few c ds M Q E → ds.length = ["_law_pot_here", "_law_high", "_law_top"].length := sp3_len
theorem pure__law_few (c : CT) : ∀ ds M Q E, sp__law_few c ds M Q E → t__law_few c (fnW E) (fnEnds Q) (startD N__law_few ds) M := sp3_of fun p w t M Q E h => by
  obtain ⟨a, x, y, z, k, h, rfl, rfl, rfl, k0, k1, h0, h1, em, P, zb, q⟩ := h
  show t__law_few c (fnW E) (fnEnds Q) [some (.ref a), some (.int k), some (.int h), none, none, none] M
  conv => whnf
  intro f nf
  have ne : a ≠ f := ne_up em nf
  conv => whnf
  refine ⟨a, _, _, _, _, rfl, rfl, k0, by omega, (up_ne ne).trans em, P, by omega, fun d x1 y1 z1 d0 d1 P1 b1 => ?_⟩
  have sw : ∀ o u v, up (up (up M a o) f u) a v = up (up M a v) f u := fun _ _ _ => up_swap ne
  rw [show up (up M f (.lst [])) a (.lst [.int x1, .int y1, .int z1]) = up (up M a (.lst [.int x1, .int y1, .int z1])) f (.lst []) by
    have := sw (.lst [.int x, .int y, .int z]) (.lst []) (.lst [.int x1, .int y1, .int z1])
    rw [up_self em] at this
    exact this]
  conv => whnf
  refine ⟨by omega, by omega, ?_⟩
  refine for_nums (fun i τ M' => ∃ kz x y z sz o5, kz.length = i ∧ KsOk (10 ^ 29 * 2) 0 kz ∧ (∀ p ∈ kz, p.2 ≤ h) ∧ sz = lastS 0 kz ∧ sz ≤ i * 4 ∧ PotI x y z ∧ z ≤ z1 + 3 * i ∧
    M' = up (up M a (.lst [.int x, .int y, .int z])) f (.lst (kz.map pairD)) ∧ τ = [some (.ref a), some (.int k), some (.int h), some (.ref f), some (.int sz), o5]) ?_ ?_ ⟨[], x1, y1, z1, 0, none, rfl, trivial, (fun p hp => by cases hp), rfl, by omega, P1, by omega, rfl, rfl⟩
  · rintro τ M' ⟨kz, x, y, z, sz, o5, kl, ks, kh, es, sb, P', zb', rfl, rfl⟩
    conv => whnf
    rw [seq_ref up_same]
    conv => whnf
    refine ⟨_, sub_up ((up_ne (Ne.symm ne)).trans nf), q kz _ _ _ ⟨?_, by omega, ks⟩ kh P' (by omega)⟩
    intro e
    rw [e] at kl
    simp at kl
    omega
  · rintro i τ M' R hi ⟨kz, x, y, z, sz, o5, kl, ks, kh, es, sb, P', zb', rfl, rfl⟩ hR
    have i12 : i < 12 := by omega
    conv => whnf
    refine ⟨a, _, _, _, _, rfl, rfl, by decide, by decide, up_at ne, P', by omega, fun d x2 y2 z2 d0 d1 P2 b2 => ?_⟩
    rw [sw]
    conv => whnf
    refine ⟨⟨f, _, rfl, up_same⟩, ?_⟩
    conv => whnf
    refine ⟨a, _, _, _, _, rfl, rfl, h0, by omega, up_at ne, P2, by omega, fun d3 x4 y4 z4 d30 d31 P4 b4 => ?_⟩
    rw [sw]
    conv => whnf
    rw [up_same]
    conv => whnf
    refine ⟨by rw [List.length_map]; exact Nat.lt_of_lt_of_le (by omega : kz.length < 1000) (by decide), ?_⟩
    refine hR _ _ _ _ ⟨kz ++ [(sz + 1 + d, 1 + d3)], x4, y4, z4, sz + 1 + d, _, by rw [List.length_append, kl]; rfl, ks.snoc (by rw [← es]; show sz < sz + 1 + d; omega) ?_ (by show 1 ≤ 1 + d3; omega) (by show 1 + d3 ≤ 10 ^ 30; omega), (fun p hp => (List.mem_append.mp hp).elim (kh p) fun hp => by rw [List.mem_singleton.mp hp]; show 1 + d3 ≤ h; omega), (lastS_snoc (p := (sz + 1 + d, 1 + d3)) (b := 0) (kz := kz)).symm, ?_, P4, ?_, ?_, rfl⟩ (SubS.refl _) (Sub.refl _)
    · show sz + 1 + d ≤ 10 ^ 29 * 2
      omega
    · show sz + 1 + d ≤ ((i + 1 : Nat) : Int) * 4
      omega
    · show z4 ≤ z1 + 3 * ((i + 1 : Nat) : Int)
      omega
    · rw [up_up, List.map_append] <;> rfl

def sp__law_page (c : CT) : DSp := sp1 fun s M Q _ => ∃ kz, s = kD kz ∧ Kinds kz ∧ Q (.str (pageT kz)) M
/-- _law_page: 0 _law_kinds_here, 1 _law_size_here, 2 _law_count -/
def N__law_page : List Str := ["_law_kinds_here", "_law_size_here", "_law_count"]
def t__law_page (c : CT) (W : DWX) : DTS :=
  dRet (dJoin (dC (.str " ")) (dLc false (diSeq (dVar 0)) (dgTupN 2 [dgName 1, dgName 2]) dYes (dOp (rAddD false) (dOp (rAddD false) (dCB rStrD [dVar 2]) (dC (.str "x"))) (dCB rStrD [dVar 1])) [1, 2]))
theorem len__law_page (c : CT) : ∀ ds M Q E, sp__law_page c ds M Q E → ds.length = ["_law_kinds_here"].length := sp1_len
theorem pure__law_page (c : CT) : ∀ ds M Q E, sp__law_page c ds M Q E → t__law_page c (fnW E) (fnEnds Q) (startD N__law_page ds) M := sp1_of fun s M Q E h => by
  obtain ⟨kz, rfl, kk, q⟩ := h
  show ∀ p, M p = none → _
  intro p np
  refine lcR_map (f := fun d => match d with | .tup [.int s, .int m] => .str (wordT (s, m)) | d => d) (fun _ => trivial) np ?_ ?_
  · intro x hx acc R r
    obtain ⟨k, hk, rfl⟩ := List.mem_map.mp hx
    have km := kk.mem k hk
    have l1 := num_len (n := k.1) (by omega) (by omega)
    have l2 := num_len (n := k.2) (by omega) (by omega)
    have lg1 : k.1.natAbs.log2 < 1920 := Nat.lt_of_le_of_lt (lg_le (k := 200) (by omega)) (by decide)
    have lg2 : k.2.natAbs.log2 < 1920 := Nat.lt_of_le_of_lt (lg_le (k := 200) (by omega)) (by decide)
    conv => whnf
    refine ⟨rfl, ?_⟩
    conv => whnf
    refine ⟨lg2, ?_⟩
    conv => whnf
    refine ⟨line_1000 (by rw [len_x]; show (numT k.2).length + 1 ≤ 1000; omega), ?_⟩
    conv => whnf
    refine ⟨lg1, ?_⟩
    conv => whnf
    refine ⟨line_1000 (by rw [app_len, len_x]; show (numT k.2).length + 1 + (numT k.1).length ≤ 1000; omega), ?_⟩
    exact r
  · have e1 : [] ++ (kz.map pairD).map (fun d => match d with | .tup [.int s, .int m] => .str (wordT (s, m)) | d => d) = (kz.map wordT).map D.str := by
      rw [List.nil_append, List.map_map, List.map_map]
      rfl
    rw [e1]
    conv => whnf
    rw [strsOf_map]
    conv => whnf
    exact ⟨join_fits kk, fn_rt q⟩

def sp__law_pair_right (c : CT) : DSp := sp3 fun a b d M Q _ => ∃ kz, a = hpD c (kD kz) ∧ Kinds kz ∧ ((∃ k2, b = hpD c (kD k2) ∧ Kinds k2 ∧ d = .bl (decide (k2 = kz))) ∨ (blD b M = true ∧ insOf b M = none ∧ (∃ t, tyD b M = some (.inl t)) ∧ d = .bl false)) ∧ Q (.bl true) M
/-- _law_pair_right: 0 _law_mine, 1 _law_mate, 2 _law_due -/
def N__law_pair_right : List Str := ["_law_mine", "_law_mate", "_law_due"]
def t__law_pair_right (c : CT) (W : DWX) : DTS :=
  dRet (dOp (rEqDD false) (dCB rReprD [dLst false [dOp (rCmpOD (tab1 c.Heaps (sp_Heaps___eq__ c)) false) (dVar 0) (dVar 1), dOp (rCmpOD (tab1 c.Heaps (sp_Heaps___eq__ c)) false) (dVar 1) (dVar 0), dOp (rCmpOD (tab1 c.Heaps (sp_Heaps___eq__ c)) true) (dVar 0) (dVar 1), dOp (rCmpOD (tab1 c.Heaps (sp_Heaps___eq__ c)) true) (dVar 1) (dVar 0)]]) (dCB rReprD [dLst false [dVar 2, dVar 2, dNotV (dVar 2), dNotV (dVar 2)]]))
theorem len__law_pair_right (c : CT) : ∀ ds M Q E, sp__law_pair_right c ds M Q E → ds.length = ["_law_mine", "_law_mate", "_law_due"].length := sp3_len
theorem cmp_heaps {c : CT} {k1 k2 : List (Int × Int)} (K1 : Kinds k1) (K2 : Kinds k2) {neg : Bool} {M : DHp} {Q : DVK} (q : Q (.bl (neg != decide (k1 = k2))) M) : rCmpOD (tab1 c.Heaps (sp_Heaps___eq__ c)) neg (hpD c (kD k1)) (hpD c (kD k2)) M Q := by
  show wth (tab1 c.Heaps (sp_Heaps___eq__ c) c.Heaps) _
  refine wth_some (tab1_self _ _) ⟨.inr ⟨_, rfl, rfl⟩, _, rfl, shaped_kinds K1, .inl ⟨_, rfl, ⟨_, rfl⟩, shaped_kinds K2⟩, ?_⟩
  show gCmp neg (.bl (PyData.eqv (py (kD k1)) (py (kD k2)))) M Q
  rw [eqv_kinds]
  exact q
theorem cmp_plain {c : CT} {k1 : List (Int × Int)} (K1 : Kinds k1) {b : D} {M : DHp} (hb : blD b M = true) (ho : insOf b M = none) (ty : ∃ t, tyD b M = some (.inl t)) {neg : Bool} {Q : DVK} (q : Q (.bl neg) M) : rCmpOD (tab1 c.Heaps (sp_Heaps___eq__ c)) neg (hpD c (kD k1)) b M Q ∧ rCmpOD (tab1 c.Heaps (sp_Heaps___eq__ c)) neg b (hpD c (kD k1)) M Q := by
  have e : eqH (kD k1) b = false := by
    unfold eqH
    split
    · cases ho
    · rfl
  have g : gCmp neg (.bl (eqH (kD k1) b)) M Q := by
    rw [e]
    show Q (.bl (neg != false)) M
    rw [Bool.bne_false]
    exact q
  constructor
  · show wth (tab1 c.Heaps (sp_Heaps___eq__ c) c.Heaps) _
    exact wth_some (tab1_self _ _) ⟨.inl hb, _, rfl, shaped_kinds K1, .inr ty, g⟩
  · unfold rCmpOD
    rw [ho]
    show wth (tab1 c.Heaps (sp_Heaps___eq__ c) c.Heaps) _
    exact wth_some (tab1_self _ _) ⟨hb, _, rfl, shaped_kinds K1, .inr ty, g⟩
theorem four_ok (M : DHp) (a b d e : Bool) : SeqAt.shaped (pyM M (.lst [.bl a, .bl b, .bl d, .bl e])) = true ∧ (pyM M (.lst [.bl a, .bl b, .bl d, .bl e])).showable = true ∧ (pyM M (.lst [.bl a, .bl b, .bl d, .bl e])).depth ≤ 60 ∧ (pyM M (.lst [.bl a, .bl b, .bl d, .bl e])).shown.length ≤ sizeLine := by
  show SeqAt.shaped (py (.lst [.bl a, .bl b, .bl d, .bl e])) = true ∧ (py (.lst [.bl a, .bl b, .bl d, .bl e])).showable = true ∧ (py (.lst [.bl a, .bl b, .bl d, .bl e])).depth ≤ 60 ∧ (py (.lst [.bl a, .bl b, .bl d, .bl e])).shown.length ≤ sizeLine
  revert a b d e
  decide +kernel
theorem pure__law_pair_right (c : CT) : ∀ ds M Q E, sp__law_pair_right c ds M Q E → t__law_pair_right c (fnW E) (fnEnds Q) (startD N__law_pair_right ds) M := sp3_of fun a b d M Q E h => by
  obtain ⟨kz, rfl, K, h, q⟩ := h
  have q := fn_rt q
  show t__law_pair_right c (fnW E) (fnEnds Q) [some (hpD c (kD kz)), some b, some d] M
  generalize fnEnds Q = EE at q ⊢
  rcases h with ⟨k2, rfl, K2, rfl⟩ | ⟨hb, ho, ty, rfl⟩
  · by_cases z : k2 = kz
    · subst z
      rw [decide_eq_true rfl]
      refine cmp_heaps K K ?_
      refine cmp_heaps K K ?_
      refine cmp_heaps K K ?_
      refine cmp_heaps K K ?_
      rw [decide_eq_true rfl]
      conv => whnf
      refine ⟨four_ok _ _ _ _ _, ?_⟩
      conv => whnf
      refine ⟨four_ok _ _ _ _ _, ?_⟩
      conv => whnf
      exact q
    · rw [decide_eq_false z]
      refine cmp_heaps K K2 ?_
      refine cmp_heaps K2 K ?_
      refine cmp_heaps K K2 ?_
      refine cmp_heaps K2 K ?_
      rw [decide_eq_false z, decide_eq_false (Ne.symm z)]
      conv => whnf
      refine ⟨four_ok _ _ _ _ _, ?_⟩
      conv => whnf
      refine ⟨four_ok _ _ _ _ _, ?_⟩
      conv => whnf
      exact q
  · refine (cmp_plain K hb ho ty ?_).1
    refine (cmp_plain K hb ho ty ?_).2
    refine (cmp_plain K hb ho ty ?_).1
    refine (cmp_plain K hb ho ty ?_).2
    conv => whnf
    refine ⟨four_ok _ _ _ _ _, ?_⟩
    conv => whnf
    refine ⟨four_ok _ _ _ _ _, ?_⟩
    conv => whnf
    exact q

def sp__law_others (c : CT) : DSp := sp2 fun p k M Q _ => ∃ a x y z kz, p = .ref a ∧ k = kD kz ∧ Drawn kz ∧ (∀ p ∈ kz, p.2 ≤ 4) ∧ M a = some (.lst [.int x, .int y, .int z]) ∧ PotI x y z ∧ z ≤ 10 ^ 8 ∧
  ∀ (ks : List (List (Int × Int))) x' y' z', ks.length ≤ 20 → (∀ k ∈ ks, Kinds k) → PotI x' y' z' → z' ≤ z + 1 → Q (.lst (ks.map kD)) (up M a (.lst [.int x', .int y', .int z']))
def t__law_others_c1 (c : CT) (W : DWX) : DTS :=
  dRet (dOp (rAddD false) (dVar 3) (dIf (dTst (dOp rGtD (dCB rLen0D [dVar 1]) (dC (.int 1)))) (dLst false [dSl false (dVar 1) (dPart (dC (.int 1))) (dNoPart), dSl false (dVar 1) (dNoPart) (dPart (dNeg (dC (.int 1))))]) (dLst false [])))
def t__law_others_c2 (c : CT) (W : DWX) : DTS :=
  dSeq (dDrop (dApp (dVar 3) (dOp (rAddD false) (dTup [dTup [dOp rIxD (dOp rIxD (dVar 1) (dC (.int 0))) (dC (.int 0)), dOp (rAddD false) (dOp rIxD (dOp rIxD (dVar 1) (dC (.int 0))) (dC (.int 1))) (dOp rPowD (dC (.int 10)) (dC (.int 20)))]]) (dSl false (dVar 1) (dPart (dC (.int 1))) (dNoPart)))))
  (t__law_others_c1 c W)
def t__law_others_c3 (c : CT) (W : DWX) : DTS :=
  dSeq (dDrop (dApp (dVar 3) (dCB rTupleD [dLc false (diSeq (dVar 1)) (dgTupN 2 [dgName 6, dgName 7]) dYes (dTup [dOp (rAddD false) (dVar 6) (dC (.int 1)), dVar 7]) [6, 7]])))
  (t__law_others_c2 c W)
def t__law_others_c4 (c : CT) (W : DWX) : DTS :=
  dSeq (dDrop (dApp (dVar 3) (dOp (rAddD false) (dSl false (dVar 1) (dNoPart) (dPart (dNeg (dC (.int 1))))) (dTup [dTup [dOp (rAddD false) (dOp rIxD (dOp rIxD (dVar 1) (dNeg (dC (.int 1)))) (dC (.int 0))) (dC (.int 1)), dOp rIxD (dOp rIxD (dVar 1) (dNeg (dC (.int 1)))) (dC (.int 1))]]))))
  (t__law_others_c3 c W)
def t__law_others_c5 (c : CT) (W : DWX) : DTS :=
  dSeq (dDrop (dApp (dVar 3) (dOp (rAddD false) (dOp (rAddD false) (dSl false (dVar 1) (dNoPart) (dPart (dVar 2))) (dTup [dTup [dVar 4, dOp (rAddD false) (dVar 5) (dC (.int 1))]])) (dSl false (dVar 1) (dPart (dOp (rAddD false) (dVar 2) (dC (.int 1)))) (dNoPart)))))
  (t__law_others_c4 c W)
def t__law_others_c6 (c : CT) (W : DWX) : DTS :=
  dSeq (dAsg (dOp rIxD (dVar 1) (dVar 2)) (dgTupN 2 [dgName 4, dgName 5]))
  (t__law_others_c5 c W)
/-- _law_others: 0 _law_pot_here, 1 _law_kinds_here, 2 _law_at, 3 _law_found, 4 _law_size_here, 5 _law_count, 6 _law_size, 7 _law_number -/
def N__law_others : List Str := ["_law_pot_here", "_law_kinds_here", "_law_at", "_law_found", "_law_size_here", "_law_count", "_law_size", "_law_number"]
def t__law_others (c : CT) (W : DWX) : DTS :=
  dSeq (dPar 2 3 (dOwn [0, 1] [] (sp__law_scoop c) noW [dVar 0, dCB rLen0D [dVar 1]] []) (dLst true [dVar 1]))
  (t__law_others_c6 c W)
theorem len__law_others (c : CT) : ∀ ds M Q E, sp__law_others c ds M Q E → ds.length = ["_law_pot_here", "_law_kinds_here"].length := sp2_len
theorem kin_of {l : List (Int × Int)} (ne : l ≠ []) (ln : l.length ≤ 12) (pw : (l.map (·.1)).Pairwise (· < ·)) (ok : ∀ p ∈ l, 1 ≤ p.1 ∧ p.1 ≤ 10 ^ 30 ∧ 1 ≤ p.2 ∧ p.2 ≤ 10 ^ 30) : Kinds l := ⟨ne, ln, ks_of pw fun k hk => by have := ok k hk; omega⟩
theorem ap_step {te : DTE} {E : DEnds} {τ : DSt} {M : DHp} {r : Addr} {es : List D} {d : D} {k : DTS} (ts : sl τ 3 = some (.ref r)) (er : M r = some (.lst es)) (hl : es.length < 100) (h : ∀ Q : DVK, Q d M → te τ M Q) (next : k E τ (up M r (.lst (es ++ [d])))) : dSeq (dDrop (dApp (dVar 3) te)) k E τ M := by
  conv => whnf
  refine wth_some ts ?_
  refine ⟨⟨r, _, rfl, er⟩, h _ ?_⟩
  exact wth_some er ⟨Nat.lt_of_lt_of_le hl (by decide), next⟩
theorem cut_init (l : List D) (h : l ≠ []) : cutD l none (some (-1)) = l.dropLast := by
  have hl : 1 ≤ l.length := List.length_pos_iff.mpr h
  have e : HT.sIx l.length l.length (some (-1)) = l.length - 1 := by
    unfold HT.sIx
    simp
    omega
  unfold cutD
  rw [HT.sIx_none, e, Nat.sub_zero, List.drop_zero, List.dropLast_eq_take]
theorem mlst_rf {r : Addr} {M : DHp} {es : List D} (e : M r = some (.lst es)) : mlst (.ref r) M = some es := by
  show (match M r with | some (.lst ds) => some ds | _ => none) = _
  rw [e]
theorem few_line {n : Nat} (h : n ≤ 100) : n ≤ sizeLine := Nat.le_trans h (by decide)
section
variable {c : CT} {W : DWX} {E : DEnds} {a r : Addr} {kz : List (Int × Int)} {i : Nat} {s m : Int} {M : DHp} {o2 o4 o5 o6 o7 : Option D} {Q : DVK}
theorem oth_t5 (i : Nat) (hl : kz.length ≤ 12) (q : Q (kD (kz.take i ++ [(s, m + 1)] ++ kz.drop (i + 1))) M) :
    dOp (rAddD false) (dOp (rAddD false) (dSl false (dVar 1) dNoPart (dPart (dVar 2))) (dTup [dTup [dVar 4, dOp (rAddD false) (dVar 5) (dC (D.int 1))]])) (dSl false (dVar 1) (dPart (dOp (rAddD false) (dVar 2) (dC (D.int 1)))) dNoPart)
      [some (D.ref a), some (kD kz), some (D.int (i : Nat)), some (D.ref r), some (D.int s), some (D.int m), o6, o7] M Q := by
  have l1 : (cutD (kz.map pairD) none (some (i : Int))).length ≤ 12 := Nat.le_trans cut_len (by rw [List.length_map]; exact hl)
  have l2 : (cutD (kz.map pairD) (some ((i : Int) + 1)) none).length ≤ 12 := Nat.le_trans cut_len (by rw [List.length_map]; exact hl)
  conv => whnf
  refine ⟨few_line (by show _ + 1 ≤ _; omega), ?_⟩
  conv => whnf
  refine ⟨few_line (by rw [List.length_append]; show _ + 1 + _ ≤ _; omega), ?_⟩
  rw [cut_take, show ((i : Int) + 1) = ((i + 1 : Nat) : Int) from rfl, cut_dr, ← List.map_take, ← List.map_drop]
  rw [show (List.map pairD (List.take i kz) ++ [D.tup [D.int s, D.int (m + 1)]] ++ List.map pairD (List.drop (i + 1) kz)) = (kz.take i ++ [(s, m + 1)] ++ kz.drop (i + 1)).map pairD from by rw [List.map_append, List.map_append]; rfl]
  exact q
theorem oth_t4 {l : List (Int × Int)} {p : Int × Int} (e : kz = l ++ [p]) (hl : kz.length ≤ 12) (q : Q (kD (l ++ [(p.1 + 1, p.2)])) M) :
    dOp (rAddD false) (dSl false (dVar 1) (dNoPart) (dPart (dNeg (dC (.int 1))))) (dTup [dTup [dOp (rAddD false) (dOp rIxD (dOp rIxD (dVar 1) (dNeg (dC (.int 1)))) (dC (.int 0))) (dC (.int 1)), dOp rIxD (dOp rIxD (dVar 1) (dNeg (dC (.int 1)))) (dC (.int 1))]])
      [some (D.ref a), some (kD kz), o2, some (D.ref r), o4, o5, o6, o7] M Q := by
  subst e
  have l1 : (cutD ((l ++ [p]).map pairD) none (some (-1))).length ≤ 12 := Nat.le_trans cut_len (by rw [List.length_map]; exact hl)
  have ea : atI ((l ++ [p]).map pairD) (-1) = some (pairD p) := by
    rw [at_last (xs := (l ++ [p]).map pairD) (by simp)]
    simp
  have ec : cutD ((l ++ [p]).map pairD) none (some (-1)) = l.map pairD := by
    rw [cut_init _ (by simp), List.map_append]
    exact List.dropLast_concat
  conv => whnf
  refine wth_some ea ?_
  conv => whnf
  refine wth_some ea ?_
  conv => whnf
  refine ⟨few_line (by show _ + 1 ≤ _; omega), ?_⟩
  rw [ec]
  rw [show List.map pairD l ++ [D.tup [D.int (p.1 + 1), D.int p.2]] = (l ++ [(p.1 + 1, p.2)]).map pairD from by rw [List.map_append]; rfl]
  exact q
theorem oth_t3 (q : Q (kD (kz.map fun p => (p.1 + 1, p.2))) M) :
    dCB rTupleD [dLc false (diSeq (dVar 1)) (dgTupN 2 [dgName 6, dgName 7]) dYes (dTup [dOp (rAddD false) (dVar 6) (dC (.int 1)), dVar 7]) [6, 7]]
      [some (D.ref a), some (kD kz), o2, some (D.ref r), o4, o5, o6, o7] M Q := by
  conv => whnf
  intro p np
  refine lcR_map (f := fun d => match d with | .tup [.int s, .int m] => .tup [.int (s + 1), .int m] | d => d) (fun _ => trivial) np ?_ ?_
  · intro x hx acc R t
    obtain ⟨k, _, rfl⟩ := List.mem_map.mp hx
    conv => whnf
    refine ⟨rfl, ?_⟩
    conv => whnf
    exact t
  · conv => whnf
    rw [List.map_map, show ((fun d => match d with | .tup [.int s, .int m] => .tup [.int (s + 1), .int m] | d => d) ∘ pairD : Int × Int → D) = pairD ∘ (fun p => (p.1 + 1, p.2)) from rfl, ← List.map_map]
    exact q
theorem oth_t2 {l : List (Int × Int)} {p : Int × Int} (e : kz = p :: l) (hl : kz.length ≤ 12) (q : Q (kD ((p.1, p.2 + 10 ^ 20) :: l)) M) :
    dOp (rAddD false) (dTup [dTup [dOp rIxD (dOp rIxD (dVar 1) (dC (.int 0))) (dC (.int 0)), dOp (rAddD false) (dOp rIxD (dOp rIxD (dVar 1) (dC (.int 0))) (dC (.int 1))) (dOp rPowD (dC (.int 10)) (dC (.int 20)))]]) (dSl false (dVar 1) (dPart (dC (.int 1))) (dNoPart))
      [some (D.ref a), some (kD kz), o2, some (D.ref r), o4, o5, o6, o7] M Q := by
  subst e
  have l1 : (cutD ((p :: l).map pairD) (some 1) none).length ≤ 12 := Nat.le_trans cut_len (by rw [List.length_map]; exact hl)
  have ea : atI ((p :: l).map pairD) 0 = some (pairD p) := at_nn (k := 0) rfl
  conv => whnf
  refine wth_some ea ?_
  conv => whnf
  refine wth_some ea ?_
  conv => whnf
  refine ⟨by unfold CPow; decide, ?_⟩
  conv => whnf
  refine ⟨few_line (by show 1 + _ ≤ _; omega), ?_⟩
  rw [show (some 1 : Option Int) = some ((1 : Nat) : Int) from rfl, cut_dr]
  exact q
theorem oth_c1 {ks : List (List (Int × Int))} (er : M r = some (.lst (ks.map kD))) (hk : ks.length ≤ 10) (ne : kz ≠ []) (hl : kz.length ≤ 12) (q : ∀ ls : List (List (Int × Int)), ls = (if 1 < kz.length then [kz.drop 1, kz.dropLast] else []) → E.rt (.lst ((ks ++ ls).map kD)) M) :
    t__law_others_c1 c W E [some (D.ref a), some (kD kz), o2, some (D.ref r), o4, o5, o6, o7] M := by
  have nm : kz.map pairD ≠ [] := fun h => ne (List.map_eq_nil_iff.mp h)
  conv => whnf
  rw [List.length_map]
  by_cases z : 1 < kz.length
  · rw [show (fun i j : Int => decide (j < i)) (kz.length : Nat) 1 = true from decide_eq_true (by omega)]
    conv => whnf
    refine wth_some (mlst_rf er) ?_
    conv => whnf
    refine ⟨few_line (by rw [List.length_map]; show _ + 2 ≤ _; omega), ?_⟩
    rw [show (some 1 : Option Int) = some ((1 : Nat) : Int) from rfl, cut_dr, cut_init _ nm, ← List.map_drop, ← List.map_dropLast]
    have z2 := q _ (if_pos z).symm
    rw [List.map_append] at z2
    exact z2
  · rw [show (fun i j : Int => decide (j < i)) (kz.length : Nat) 1 = false from decide_eq_false (by omega)]
    conv => whnf
    refine wth_some (mlst_rf er) ?_
    conv => whnf
    refine ⟨few_line (by rw [List.length_map]; show _ + 0 ≤ _; omega), ?_⟩
    have z2 := q _ (if_neg z).symm
    rw [List.map_append] at z2
    exact z2
end
theorem oth_keys {kz : List (Int × Int)} {i : Nat} {s m n : Int} (e : kz[i]? = some (s, m)) : (kz.take i ++ [(s, n)] ++ kz.drop (i + 1)).map (·.1) = kz.map (·.1) := by
  have hi := (List.getElem?_eq_some_iff.mp e).1
  have h2 : kz = kz.take i ++ [(s, m)] ++ kz.drop (i + 1) := by
    have z : kz[i] = (s, m) := (List.getElem?_eq_some_iff.mp e).2
    rw [← z, List.append_assoc, List.singleton_append, List.getElem_cons_drop, List.take_append_drop]
  have h3 : kz.map (·.1) = (kz.take i ++ [(s, m)] ++ kz.drop (i + 1)).map (·.1) := congrArg (List.map (·.1)) h2
  rw [h3, List.map_append, List.map_append, List.map_append, List.map_append]
  rfl
theorem oth_kin {kz : List (Int × Int)} (dr : Drawn kz) (c4 : ∀ p ∈ kz, p.2 ≤ 4) : (∀ (i : Nat) (s m : Int), kz[i]? = some (s, m) → Kinds (kz.take i ++ [(s, m + 1)] ++ kz.drop (i + 1))) ∧
    (∀ (l : List (Int × Int)) (p : Int × Int), kz = l ++ [p] → Kinds (l ++ [(p.1 + 1, p.2)])) ∧ Kinds (kz.map fun p => (p.1 + 1, p.2)) ∧ (∀ (l : List (Int × Int)) (p : Int × Int), kz = p :: l → Kinds ((p.1, p.2 + 10 ^ 20) :: l)) ∧
    (1 < kz.length → Kinds (kz.drop 1) ∧ Kinds kz.dropLast) := by
  have hl := dr.len
  have mem : ∀ p ∈ kz, 1 ≤ p.1 ∧ p.1 ≤ 10 ^ 29 * 2 ∧ 1 ≤ p.2 ∧ p.2 ≤ 4 := fun p hp => by
    have := KsOk.mem dr.ok p hp
    have := c4 p hp
    omega
  have asc : (kz.map (·.1)).Pairwise (· < ·) := ks_asc dr.ok
  refine ⟨fun i s m e => ?_, fun l p e => ?_, ?_, fun l p e => ?_, fun h => ⟨?_, ?_⟩⟩
  · have hi := (List.getElem?_eq_some_iff.mp e).1
    have sm := mem _ (List.mem_of_getElem? e)
    have sk := oth_keys (n := m + 1) e
    have ln : (kz.take i ++ [(s, m + 1)] ++ kz.drop (i + 1)).length = kz.length := by
      have := congrArg List.length sk
      rw [List.length_map, List.length_map] at this
      exact this
    refine kin_of (by simp) (by omega) (by rw [sk]; exact asc) fun p hp => ?_
    rcases List.mem_append.mp hp with hp | hp
    · rcases List.mem_append.mp hp with hp | hp
      · have := mem p (List.mem_of_mem_take hp)
        omega
      · obtain rfl := List.mem_singleton.mp hp
        have sm : 1 ≤ s ∧ s ≤ 10 ^ 29 * 2 ∧ 1 ≤ m ∧ m ≤ 4 := sm
        show 1 ≤ s ∧ s ≤ 10 ^ 30 ∧ 1 ≤ m + 1 ∧ m + 1 ≤ 10 ^ 30
        omega
    · have := mem p (List.mem_of_mem_drop hp)
      omega
  · subst e
    rw [List.map_append, List.pairwise_append] at asc
    rw [List.length_append] at hl
    have mp := mem p (List.mem_append_right _ List.mem_cons_self)
    refine kin_of (by simp) (by rw [List.length_append]; exact hl) ?_ fun q hq => ?_
    · rw [List.map_append, List.pairwise_append]
      refine ⟨asc.1, List.pairwise_singleton _ _, fun x hx y hy => ?_⟩
      obtain rfl := List.mem_singleton.mp hy
      have := asc.2.2 x hx p.1 List.mem_cons_self
      show x < p.1 + 1
      omega
    · rcases List.mem_append.mp hq with hq | hq
      · have := mem q (List.mem_append_left _ hq)
        omega
      · obtain rfl := List.mem_singleton.mp hq
        show 1 ≤ p.1 + 1 ∧ p.1 + 1 ≤ 10 ^ 30 ∧ 1 ≤ p.2 ∧ p.2 ≤ 10 ^ 30
        omega
  · refine kin_of (fun h => dr.ne (List.map_eq_nil_iff.mp h)) (by rw [List.length_map]; exact hl) ?_ fun q hq => ?_
    · rw [List.map_map, show ((·.1) ∘ fun p : Int × Int => (p.1 + 1, p.2)) = (· + 1) ∘ (·.1) from rfl, ← List.map_map]
      exact List.Pairwise.map _ (fun a b h => by omega) asc
    · obtain ⟨p, hp, rfl⟩ := List.mem_map.mp hq
      have := mem p hp
      show 1 ≤ p.1 + 1 ∧ p.1 + 1 ≤ 10 ^ 30 ∧ 1 ≤ p.2 ∧ p.2 ≤ 10 ^ 30
      omega
  · subst e
    have mp := mem p List.mem_cons_self
    refine kin_of (by simp) hl asc fun q hq => ?_
    rcases List.mem_cons.mp hq with rfl | hq
    · show 1 ≤ p.1 ∧ p.1 ≤ 10 ^ 30 ∧ 1 ≤ p.2 + 10 ^ 20 ∧ p.2 + 10 ^ 20 ≤ 10 ^ 30
      omega
    · have := mem q (List.mem_cons_of_mem _ hq)
      omega
  · refine kin_of (fun h => ?_) (by rw [List.length_drop]; omega) (by rw [List.map_drop]; exact asc.sublist (List.drop_sublist _ _)) fun q hq => ?_
    · have := congrArg List.length h
      rw [List.length_drop, List.length_nil] at this
      omega
    · have := mem q (List.mem_of_mem_drop hq)
      omega
  · refine kin_of (fun h => ?_) (by rw [List.length_dropLast]; omega) (by rw [List.map_dropLast]; exact asc.sublist (List.dropLast_sublist _)) fun q hq => ?_
    · have := congrArg List.length h
      rw [List.length_dropLast, List.length_nil] at this
      omega
    · have := mem q ((List.dropLast_sublist _).subset hq)
      omega
theorem pure__law_others (c : CT) : ∀ ds M Q E, sp__law_others c ds M Q E → t__law_others c (fnW E) (fnEnds Q) (startD N__law_others ds) M := sp2_of fun p k M Q E h => by
  obtain ⟨a, x, y, z, kz, rfl, rfl, dr, c4, em, P, zb, q⟩ := h
  show t__law_others c (fnW E) (fnEnds Q) [some (.ref a), some (kD kz), none, none, none, none, none, none] M
  have hl := dr.len
  have kinK : Kinds kz := ⟨dr.ne, dr.len, KsOk.more (by decide) dr.ok⟩
  obtain ⟨k1, k2, k3, k4, k5⟩ := oth_kin dr c4
  conv => whnf
  refine ⟨a, x, y, z, (kz.length : Nat), rfl, by rw [List.length_map], by have := List.length_pos_iff.mpr dr.ne; omega, by omega, em, P, by omega, fun d x1 y1 z1 d0 d1 P1 b1 => ?_⟩
  have qq := fun (ks : List (List (Int × Int))) hk hl => q ks x1 y1 z1 hk hl P1 b1
  generalize up M a (.lst [.int x1, .int y1, .int z1]) = M1 at qq ⊢
  obtain ⟨i, rfl⟩ := Int.eq_ofNat_of_zero_le d0
  have hi : i < kz.length := by omega
  have ei : kz[i]? = some (kz[i].1, kz[i].2) := List.getElem?_eq_getElem hi
  conv => whnf
  intro r nr
  have ea : atI (kz.map pairD) (i : Nat) = some (pairD kz[i]) := at_nn (k := (i : Nat)) (by rw [List.getElem?_map, ei]; rfl)
  conv => whnf
  refine wth_some ea ?_
  conv => whnf
  refine ⟨rfl, ?_⟩
  show t__law_others_c5 c (fnW E) (fnEnds Q) [some (.ref a), some (kD kz), some (.int (i : Nat)), some (.ref r), some (.int kz[i].1), some (.int kz[i].2), none, none] (up M1 r (.lst ([kz].map kD)))
  obtain ⟨l, p, el⟩ : ∃ l p, kz = l ++ [p] := ⟨kz.dropLast, kz.getLast dr.ne, (List.dropLast_concat_getLast dr.ne).symm⟩
  obtain ⟨p0, l0, e0⟩ := List.exists_cons_of_ne_nil dr.ne
  unfold t__law_others_c5
  refine ap_step rfl up_same (show 1 < 100 by omega) (fun Q q => oth_t5 i hl q) ?_
  rw [up_up]
  unfold t__law_others_c4
  refine ap_step rfl up_same (show 2 < 100 by omega) (fun Q q => oth_t4 el hl q) ?_
  rw [up_up]
  unfold t__law_others_c3
  refine ap_step rfl up_same (show 3 < 100 by omega) (fun Q q => oth_t3 q) ?_
  rw [up_up]
  unfold t__law_others_c2
  refine ap_step rfl up_same (show 4 < 100 by omega) (fun Q q => oth_t2 e0 hl q) ?_
  rw [up_up]
  refine oth_c1 (ks := [kz, kz.take i ++ [(kz[i].1, kz[i].2 + 1)] ++ kz.drop (i + 1), l ++ [(p.1 + 1, p.2)], kz.map fun p => (p.1 + 1, p.2), (p0.1, p0.2 + 10 ^ 20) :: l0]) up_same (by show 5 ≤ 10; omega) dr.ne hl fun ls els => ⟨M1, sub_up nr, ?_⟩
  refine qq _ ?_ fun k hk => ?_
  · rw [List.length_append, els]
    show 5 + _ ≤ 20
    split
    · show 5 + 2 ≤ 20; omega
    · show 5 + 0 ≤ 20; omega
  · rcases List.mem_append.mp hk with hk | hk
    · rcases List.mem_cons.mp hk with rfl | hk
      · exact kinK
      rcases List.mem_cons.mp hk with rfl | hk
      · exact k1 i _ _ ei
      rcases List.mem_cons.mp hk with rfl | hk
      · exact k2 _ _ el
      rcases List.mem_cons.mp hk with rfl | hk
      · exact k3
      · obtain rfl := List.mem_singleton.mp hk
        exact k4 _ _ e0
    · rw [els] at hk
      split at hk
      · rename_i h1
        rcases List.mem_cons.mp hk with rfl | hk
        · exact (k5 h1).1
        · obtain rfl := List.mem_singleton.mp hk
          exact (k5 h1).2
      · cases hk

def sp__law_right (c : CT) : DSp := sp1 fun p M Q _ => ∃ a x y z, p = .ref a ∧ M a = some (.lst [.int x, .int y, .int z]) ∧ PotI x y z ∧ z ≤ 10 ^ 6 ∧ ∀ o, Q (.bl true) (up M a o)
def t__law_right_c1 (c : CT) (W : DWX) : DTS :=
  dIfS (dOr (dNot (dTru (dOwn [0, 1, 2] [] (sp__law_pair_right c) noW [dVar 2, dMk true c.Heaps [0, 1] [] (sp_Heaps___init__ c) noW [dVar 4] [], dOp (rEqDD false) (dVar 4) (dVar 1)] []))) (dTst (dOp (rEqDD true) (dCB (rStrDO (tab1 c.Heaps (sp_Heaps___str__ c))) [dVar 2]) (dVar 3)))) (dRet (dC (.bl false))) (dNext)
def t__law_right_c2 (c : CT) (W : DWX) : DTS :=
  dIfS (dNot (dTru (dOwn [0, 1, 2] [] (sp__law_pair_right c) noW [dVar 2, dVar 5, dC (.bl false)] []))) (dRet (dC (.bl false))) (dNext)
def t__law_right_c3 (c : CT) (W : DWX) : DTS :=
  dRet (dOp (rEqDD false) (dPr (tab1 c.Heaps (sp_Heaps_kinds c)) (dVar 2)) (dVar 1))
def t__law_right_c4 (c : CT) (W : DWX) : DTS :=
  dSeq (dFor (diSeq (dLst false [dVar 3, dVar 1, dC .non, dC (.bl true), dCB (rLenD (tab1 c.Heaps (sp_Heaps___len__ c))) [dVar 1], dPr (tab1 c.Heaps (sp_Heaps_many c)) (dVar 2), dDnew, dLst false [dVar 2], dTup [dVar 2], dC (.str "")])) (dgName 5)
  (t__law_right_c2 c W))
  (t__law_right_c3 c W)
def t__law_right_c5 (c : CT) (W : DWX) : DTS :=
  dSeq (dIfS (dNot (dTru (dOwn [0, 1, 2] [] (sp__law_pair_right c) noW [dVar 2, dCm c.Heaps [0, 1] [] (sp_Heaps_read c) noW (dC (.ref c.Heaps)) [dVar 3] [], dC (.bl true)] []))) (dRet (dC (.bl false))) (dNext))
  (t__law_right_c4 c W)
def t__law_right_c6 (c : CT) (W : DWX) : DTS :=
  dSeq (dFor (diSeq (dOwn [0, 1] [] (sp__law_others c) noW [dVar 0, dVar 1] [])) (dgName 4)
  (t__law_right_c1 c W))
  (t__law_right_c5 c W)
def t__law_right_c7 (c : CT) (W : DWX) : DTS :=
  dSeq (dPar 2 3 (dMk true c.Heaps [0, 1] [] (sp_Heaps___init__ c) noW [dVar 1] []) (dOwn [0] [] (sp__law_page c) noW [dVar 1] []))
  (t__law_right_c6 c W)
/-- _law_right: 0 _law_pot_here, 1 _law_kinds_here, 2 _law_mine, 3 _law_page_here, 4 _law_some, 5 _law_thing -/
def N__law_right : List Str := ["_law_pot_here", "_law_kinds_here", "_law_mine", "_law_page_here", "_law_some", "_law_thing"]
def t__law_right (c : CT) (W : DWX) : DTS :=
  dSeq (dAsg (dOwn [0, 1, 2] [] (sp__law_few c) noW [dVar 0, dC (.int 6), dC (.int 4)] []) (dgName 1))
  (t__law_right_c7 c W)
theorem len__law_right (c : CT) : ∀ ds M Q E, sp__law_right c ds M Q E → ds.length = ["_law_pot_here"].length := sp1_len
theorem k05_c1 {c : CT} {W : DWX} {E : DEnds} {a : Addr} {kz k2 : List (Int × Int)} {M : DHp} {o5 : Option D} (K : Kinds kz) (K2 : Kinds k2) (next : E.nx [some (.ref a), some (kD kz), some (hpD c (kD kz)), some (.str (pageT kz)), some (kD k2), o5] M) :
    t__law_right_c1 c W E [some (.ref a), some (kD kz), some (hpD c (kD kz)), some (.str (pageT kz)), some (kD k2), o5] M := by
  conv => whnf
  intro u nu
  refine ⟨u, rfl, up_same, known_kinds k2 (Nat.le_trans K2.len (by decide)), wk_ok K2, rfl, _, ["rows"], [kD k2], by rw [up_up]; exact Sub.refl _, nu, ?_⟩
  clear u nu
  conv => whnf
  refine ⟨shaped_kinds K2, shaped_kinds K, ?_⟩
  conv => whnf
  refine ⟨kz, rfl, K, .inl ⟨k2, rfl, K2, ?_⟩, ?_⟩
  · show D.bl (false != PyData.eqv (py (kD k2)) (py (kD kz))) = _
    rw [Bool.false_bne, eqv_kinds]
  conv => whnf
  refine wth_some (tab1_self _ _) ?_
  refine ⟨kz, rfl, K, ?_⟩
  conv => whnf
  rw [beq_self_eq_true]
  conv => whnf
  exact next
theorem k05_c2 {c : CT} {W : DWX} {E : DEnds} {kz : List (Int × Int)} {v : D} {M : DHp} {o0 o1 o3 o4 : Option D} (K : Kinds kz) (hb : blD v M = true) (ho : insOf v M = none) (ty : ∃ t, tyD v M = some (.inl t)) (next : E.nx [o0, o1, some (hpD c (kD kz)), o3, o4, some v] M) :
    t__law_right_c2 c W E [o0, o1, some (hpD c (kD kz)), o3, o4, some v] M := by
  conv => whnf
  refine ⟨kz, rfl, K, .inr ⟨hb, ho, ty, rfl⟩, ?_⟩
  conv => whnf
  exact next
theorem args_var {j : Nat} {ts : List DTE} {τ : DSt} {M : DHp} {Q : List D → DHp → Prop} (d : D) (h : sl τ j = some d) (q : dArgs ts τ M fun xs M2 => Q (d :: xs) M2) : dArgs (dVar j :: ts) τ M Q := wth_some h q
theorem args_one {t : DTE} {ts : List DTE} {τ : DSt} {M : DHp} {Q : List D → DHp → Prop} (d : D) (h : ∀ R : DVK, R d M → t τ M R) (q : dArgs ts τ M fun xs M2 => Q (d :: xs) M2) : dArgs (t :: ts) τ M Q := h _ q
theorem args_new {ts : List DTE} {τ : DSt} {M : DHp} {Q : List D → DHp → Prop} (h : ∀ p, M p = none → dArgs ts τ (up M p (.dK [] [])) fun xs M2 => Q (.ref p :: xs) M2) : dArgs (dDnew :: ts) τ M Q := h
theorem args_nil {τ : DSt} {M : DHp} {Q : List D → DHp → Prop} (h : Q [] M) : dArgs [] τ M Q := h
theorem for_lst {ts : List DTE} {g : DTG} {b : DTS} {E : DEnds} {τ : DSt} {M : DHp} (h : dArgs ts τ M fun ds M1 => forR (stands (.lst ds) ds) g b E ds τ M1) : dFor (diSeq (dLst false ts)) g b E τ M := h
theorem dseq_of {t u : DTS} {E : DEnds} {τ : DSt} {M : DHp} (h : t { E with nx := u E } τ M) : dSeq t u E τ M := h
theorem k05_c4 {c : CT} {W : DWX} {Q : DVK} {a : Addr} {kz : List (Int × Int)} {M M0 : DHp} {o4 o5 : Option D} (K : Kinds kz) (s0 : Sub M0 M) (q : Q (.bl true) M0) :
    t__law_right_c4 c W (fnEnds Q) [some (.ref a), some (kD kz), some (hpD c (kD kz)), some (.str (pageT kz)), o4, o5] M := by
  unfold t__law_right_c4
  refine dseq_of (for_lst (args_var _ rfl (args_var _ rfl (args_one .non (fun R r => r) (args_one (.bl true) (fun R r => r) (args_one (.int (kz.length : Nat)) (fun R r => ?_) (args_one (.int (manyOf kz)) (fun R r => ?_) (args_new fun f nf => args_one (.lst [hpD c (kD kz)]) (fun R r => r) (args_one (.tup [hpD c (kD kz)]) (fun R r => r) (args_one (.str "") (fun R r => r) (args_nil ?_)))))))))))
  · conv => whnf
    rw [List.length_map]
    exact r
  · conv => whnf
    refine wth_some (tab1_self _ _) ?_
    exact ⟨kz, rfl, r⟩
  refine forR_inv (fun xs τ M' => M' = up M f (.dK [] []) ∧ (∀ v ∈ xs, v ∈ [D.str (pageT kz), kD kz, .non, .bl true, .int (kz.length : Nat), .int (manyOf kz), .ref f, .lst [hpD c (kD kz)], .tup [hpD c (kD kz)], .str ""]) ∧ ∃ o5, τ = [some (.ref a), some (kD kz), some (hpD c (kD kz)), some (.str (pageT kz)), o4, o5]) ?_ ?_ _ _ _ ⟨rfl, fun v hv => hv, o5, rfl⟩
  · rintro τ M' ⟨rfl, _, o5, rfl⟩
    refine ⟨trivial, ?_⟩
    conv => whnf
    refine wth_some (tab1_self _ _) ?_
    refine ⟨_, rfl, ?_⟩
    conv => whnf
    refine ⟨shaped_kinds K, shaped_kinds K, ?_⟩
    refine ⟨M0, s0.trans (sub_up nf), ?_⟩
    show Q (.bl (false != PyData.eqv (py (kD kz)) (py (kD kz)))) M0
    rw [Bool.false_bne, eqv_kinds, decide_eq_true rfl]
    exact q
  · rintro x xs τ M' R ⟨rfl, hx, o5, rfl⟩ hR
    refine ⟨trivial, ?_⟩
    have nx : R [some (.ref a), some (kD kz), some (hpD c (kD kz)), some (.str (pageT kz)), o4, some x] (up M f (.dK [] [])) := hR _ _ _ _ ⟨rfl, fun v hv => hx v (List.mem_cons_of_mem _ hv), some x, rfl⟩ (SubS.refl _) (Sub.refl _)
    have hv := hx x List.mem_cons_self
    have go : blD x (up M f (.dK [] [])) = true → insOf x (up M f (.dK [] [])) = none → (∃ t, tyD x (up M f (.dK [] [])) = some (.inl t)) → t__law_right_c2 c W { fnEnds Q with nx := R } [some (.ref a), some (kD kz), some (hpD c (kD kz)), some (.str (pageT kz)), o4, some x] (up M f (.dK [] [])) := fun h1 h2 h3 => k05_c2 K h1 h2 h3 nx
    have all : blD x (up M f (.dK [] [])) = true ∧ insOf x (up M f (.dK [] [])) = none ∧ ∃ t, tyD x (up M f (.dK [] [])) = some (.inl t) := by
      simp only [List.mem_cons, List.not_mem_nil, or_false] at hv
      rcases hv with rfl | rfl | rfl | rfl | rfl | rfl | rfl | rfl | rfl | rfl
      · exact ⟨rfl, rfl, _, rfl⟩
      · exact ⟨rfl, rfl, _, rfl⟩
      · exact ⟨rfl, rfl, _, rfl⟩
      · exact ⟨rfl, rfl, _, rfl⟩
      · exact ⟨rfl, rfl, _, rfl⟩
      · exact ⟨rfl, rfl, _, rfl⟩
      · refine ⟨by simp only [blD, up_same], ?_, .dic, by simp only [tyD, up_same]⟩
        show (match up M f (.dK [] []) f with | some (.ins C ns ds) => some (C, ns, ds) | _ => none) = none
        rw [up_same]
      · exact ⟨rfl, rfl, _, rfl⟩
      · exact ⟨rfl, rfl, _, rfl⟩
      · exact ⟨rfl, rfl, _, rfl⟩
    exact go all.1 all.2.1 all.2.2
theorem pure__law_right (c : CT) : ∀ ds M Q E, sp__law_right c ds M Q E → t__law_right c (fnW E) (fnEnds Q) (startD N__law_right ds) M := sp1_of fun p M Q E h => by
  obtain ⟨a, x, y, z, rfl, em, P, zb, q⟩ := h
  show t__law_right c (fnW E) (fnEnds Q) [some (.ref a), none, none, none, none, none] M
  conv => whnf
  refine ⟨a, x, y, z, 6, 4, rfl, rfl, rfl, by decide, by decide, by decide, by decide, em, P, by omega, fun kz x1 y1 z1 dr b4 P1 z2 => ?_⟩
  have K : Kinds kz := ⟨dr.ne, dr.len, KsOk.more (by decide) dr.ok⟩
  conv => whnf
  intro u nu
  refine ⟨u, rfl, up_same, known_kinds kz (Nat.le_trans K.len (by decide)), wk_ok K, rfl, _, ["rows"], [kD kz], by rw [up_up]; exact Sub.refl _, nu, ?_⟩
  clear u nu
  conv => whnf
  refine ⟨kz, rfl, K, ?_⟩
  conv => whnf
  refine ⟨a, x1, y1, z1, kz, rfl, rfl, dr, b4, up_same, P1, by omega, fun ks x2 y2 z2 kl hk P2 z3 => ?_⟩
  rw [up_up]
  have qq := q (.lst [.int x2, .int y2, .int z2])
  generalize up M a (.lst [.int x2, .int y2, .int z2]) = M2 at qq ⊢
  conv => whnf
  refine forR_map kD (fun r τ M' => M' = M2 ∧ (∀ k ∈ r, Kinds k) ∧ ∃ o4 o5, τ = [some (.ref a), some (kD kz), some (hpD c (kD kz)), some (.str (pageT kz)), o4, o5]) ?_ ?_ ks _ _ ⟨rfl, hk, none, none, rfl⟩
  · rintro τ M' ⟨rfl, _, o4, o5, rfl⟩
    refine ⟨trivial, ?_⟩
    have pl := page_len K
    have rd : ∀ w, D.str (pageT kz) = .str w → w.length + 4 ≤ sizeLine := fun w e => by
      cases e
      exact Nat.le_trans (Nat.add_le_add_right pl 4) (by decide)
    have c4 := k05_c4 (c := c) (W := fnW E) (Q := Q) (a := a) (o4 := o4) (o5 := o5) K (Sub.refl _) qq
    have c5 : t__law_right_c5 c (fnW E) (fnEnds Q) [some (.ref a), some (kD kz), some (hpD c (kD kz)), some (.str (pageT kz)), o4, o5] M' := ?_
    · exact c5
    unfold t__law_right_c5
    generalize t__law_right_c4 c (fnW E) = k4 at c4 ⊢
    conv => whnf
    refine ⟨rfl, rfl, trivial, rd, kz, readH_page K, K, ?_⟩
    conv => whnf
    refine ⟨kz, rfl, K, .inl ⟨kz, rfl, K, by rw [decide_eq_true rfl]⟩, ?_⟩
    conv => whnf
    exact c4
  · rintro k2 xs τ M' R ⟨rfl, hk2, o4, o5, rfl⟩ hR
    refine ⟨trivial, ?_⟩
    exact k05_c1 (W := fnW E) (E := { fnEnds Q with nx := R }) K (hk2 k2 List.mem_cons_self) (hR _ _ _ _ ⟨rfl, fun k hk => hk2 k (List.mem_cons_of_mem _ hk), _, _, rfl⟩ (SubS.refl _) (Sub.refl _))

def sp__law_quiet (c : CT) : DSp := sp1 fun p M Q _ => ∃ a x y z, p = .ref a ∧ M a = some (.lst [.int x, .int y, .int z]) ∧ PotI x y z ∧ z ≤ 10 ^ 6 ∧ ∀ o, Q (.bl true) (up M a o)
/-- _law_quiet: 0 _law_pot_here, 1 _law_is_right -/
def N__law_quiet : List Str := ["_law_pot_here", "_law_is_right"]
def t__law_quiet (c : CT) (W : DWX) : DTS :=
  dSeq (dAsg (dOwn [0] [] (sp__law_right c) noW [dVar 0] []) (dgName 1))
  (dRet (dVar 1))
theorem len__law_quiet (c : CT) : ∀ ds M Q E, sp__law_quiet c ds M Q E → ds.length = ["_law_pot_here"].length := sp1_len
theorem pure__law_quiet (c : CT) : ∀ ds M Q E, sp__law_quiet c ds M Q E → t__law_quiet c (fnW E) (fnEnds Q) (startD N__law_quiet ds) M := sp1_of fun p M Q E h => by
  obtain ⟨a, x, y, z, rfl, em, P, zb, q⟩ := h
  show t__law_quiet c (fnW E) (fnEnds Q) [some (.ref a), none] M
  conv => whnf
  exact ⟨a, x, y, z, rfl, em, P, zb, fun o => fn_rt (q o)⟩

def sp_law (c : CT) : DSp := sp1 fun s M Q _ => ∃ ns, s = .scr ns ∧ ns.length ≤ 63 ∧ Q (.bl true) M
/-- law: 0 _law_script, 1 _law_turn -/
def N_law : List Str := ["_law_script", "_law_turn"]
def t_law (c : CT) (W : DWX) : DTS :=
  dRet (dCB rAllD [dLc false (diRng1 (dCB rMax2 [dC (.int 2), dCB rMin2 [dCB rLen0D [dVar 0], dC (.int 5)]])) (dgName 1) dYes (dOwn [0] [] (sp__law_quiet c) noW [dOwn [0, 1] [] (sp__law_pot c) noW [dVar 0, dVar 1] []] []) [1]])
theorem len_law (c : CT) : ∀ ds M Q E, sp_law c ds M Q E → ds.length = ["_law_script"].length := sp1_len
theorem pure_law (c : CT) : ∀ ds M Q E, sp_law c ds M Q E → t_law c (fnW E) (fnEnds Q) (startD N_law ds) M := sp1_of fun s M Q E h => by
  obtain ⟨ns, rfl, nl, q⟩ := h
  show t_law c (fnW E) (fnEnds Q) [some (.scr ns), none] M
  conv => whnf
  have top : ∀ n : Int, n ≤ 100 → -(2 ^ 62) ≤ n → n ≤ 1000000 ∧ -(2 ^ 62) ≤ n ∧ ∀ p, M p = none → lcR (fun _ => True) (dgName 1) dYes (dOwn [0] [] (sp__law_quiet c) noW [dOwn [0, 1] [] (sp__law_pot c) noW [dVar 0, dVar 1] []] []) [some (.scr ns), none] p (nums 0 n.toNat) [] M (lcEnd false p fun x M1 => dArgs [] [some (.scr ns), none] M1 fun ds M2 => rAllD (x :: ds) M2 (fnEnds Q).rt) := fun n n1 n0 => by
    refine ⟨by omega, n0, fun p np => lcR_mapS (f := fun _ => .bl true) (fun _ => trivial) np ?_ ?_⟩
    · intro x hx acc R r
      obtain ⟨k, rfl, k0, k1⟩ := nums_mem hx
      conv => whnf
      refine ⟨ns, k, rfl, rfl, k0, by omega, nl, fun u x1 y1 nu P1 => ?_⟩
      conv => whnf
      refine ⟨u, x1, y1, 0, rfl, up_same, P1, by decide, fun o => ?_⟩
      exact r _ (by rw [up_up]; exact sub_up nu)
    · have e1 : [] ++ (nums 0 n.toNat).map (fun _ => D.bl true) = ((nums 0 n.toNat).map fun _ => true).map D.bl := by
        rw [List.nil_append, List.map_map]
        rfl
      rw [e1]
      conv => whnf
      rw [blsOf_map]
      have e2 : ((nums 0 n.toNat).map fun _ => true).all id = true := by
        rw [List.all_map]
        exact List.all_eq_true.mpr fun _ _ => rfl
      show (fnEnds Q).rt (.bl (((nums 0 n.toNat).map fun _ => true).all id)) M
      rw [e2]
      exact fn_rt q
  exact top _ (by split <;> split <;> omega) (by split <;> split <;> omega)
theorem law_starts (c : CT) (ns : List Int) (hl : ns.length ≤ 63) (_ : ∀ i ∈ ns, Builtin.Int.intBits i ≤ 1048576) (Q : DVK) (hQ : ∀ M, Q (.bl true) M) : sp_law c [.scr ns] (fun _ => none) Q noX := ⟨ns, rfl, hl, hQ _⟩

end Rh
/-! ### the walk -/
namespace Rh
open PySem PySem.Spec PyProof.Rows L2
def topS (i : Nat) : Stmt := PySem.Challenge.pw_runheaps_k05_heaps_compared.main.body.getD i (.Pass ⟨0, 0, 0, 0⟩)
def inC (s : Stmt) (j : Nat) : Stmt := match s with
  | .ClassDef _ _ _ body _ _ _ _ _ _ _ => body.getD j (.Pass ⟨0, 0, 0, 0⟩)
  | _ => .Pass ⟨0, 0, 0, 0⟩
/-- what the walk uses of the written part -/
structure TF (K : PySem.W.Frag) (mg : Str → Option Value) (c : CT) : Prop where
  b_abs : mg "abs" = none
  b_all : mg "all" = none
  b_bool : mg "bool" = none
  b_divmod : mg "divmod" = none
  b_enumerate : mg "enumerate" = none
  b_int : mg "int" = none
  b_isinstance : mg "isinstance" = none
  b_len : mg "len" = none
  b_max : mg "max" = none
  b_min : mg "min" = none
  b_range : mg "range" = none
  b_repr : mg "repr" = none
  b_str : mg "str" = none
  b_sum : mg "sum" = none
  b_tuple : mg "tuple" = none
  c_DIGITS : ∃ t, mg "DIGITS" = some (.str "0123456789" t)
  c_MOST_KINDS : ∃ t, mg "MOST_KINDS" = some (.int 12 t)
  c_MOST_MANY : ∃ t, mg "MOST_MANY" = some (.int 1000000000000000000000000000000 t)
  c_MOST_SIZE : ∃ t, mg "MOST_SIZE" = some (.int 1000000000000000000000000000000 t)
  g_Heaps : mg "Heaps" = some (.ref c.Heaps)
  f_Heaps_rows : ∀ C, C = c.Heaps → Cls K C ∧ NoAttr K C "rows"
  i_int : ∀ C, kno c C → OwnC K C ∧ PySem.W.kitOne K (.ref C) (.type "int") = some false
  i_bool : ∀ C, kno c C → OwnC K C ∧ PySem.W.kitOne K (.ref C) (.type "bool") = some false
  i_tuple : ∀ C, kno c C → OwnC K C ∧ PySem.W.kitOne K (.ref C) (.type "tuple") = some false
  i_str : ∀ C, kno c C → OwnC K C ∧ PySem.W.kitOne K (.ref C) (.type "str") = some false
  io_Heaps : ∀ t : Ty0, PySem.W.kitOne K (.type t.nm) (.ref c.Heaps) = some false
  ic_Heaps : ∀ C b, tab1 c.Heaps true C = some b → OwnC K C ∧ PySem.W.kitOne K (.ref C) (.ref c.Heaps) = some b
  oc_Heaps : OwnCmp K c.Heaps
abbrev s_is_integer : Stmt := topS 12
theorem S_is_integer : FnScope N_is_integer ["value"] (defScope s_is_integer) := ⟨rfl, rfl, rfl, by decide +kernel, rfl, by decide +kernel, by decide +kernel⟩
theorem dv_is_integer {P : Program} {w : World} {K : PySem.W.Frag} {mg : Str → Option Value} {base : Heap} {f : Addr} {cdv : Value} {A : Around} {outer : List Env} {s : Shared} {H : Hp} {E : XK} {O : Org} {W : DWX} {c : CT} (T : TF K mg c)
    (hG : A.guards = some []) (hr : Room 0 (A.deeper (envOfC "is_integer" (defScope s_is_integer) s.heap.objs.size f cdv))) (tk : L2N.Takes (cxOf (L2N.CX P w) P w K mg base N_is_integer "is_integer" (defScope s_is_integer) f cdv A outer s H E) (liftW K O W)) :
    DSs (cxOf (L2N.CX P w) P w K mg base N_is_integer "is_integer" (defScope s_is_integer) f cdv A outer s H E) O (defBody s_is_integer) (t_is_integer c W) :=
  dss_one (ds_ret (de_and (de_isi (T := .int) (by rfl) T.b_isinstance (by rfl) T.b_int bt_int (de_var (pv 0)) (T.i_int)) (de_one (de_not (de_isi (T := .bl) (by rfl) T.b_isinstance (by rfl) T.b_bool bt_bool (de_var (pv 0)) (T.i_bool))))))
theorem ok_is_integer {P : Program} {w : World} {K : PySem.W.Frag} {mg : Str → Option Value} {base : Heap} {f : Addr} {fd : FuncData} {c : CT} (F : FunD K "is_integer" "is_integer" (defArgs s_is_integer) (defBody s_is_integer) (defScope s_is_integer) [] [] f fd) (T : TF K mg c) :
    DFnG P w K mg base 1 f fd ["value"] (sp_is_integer c) :=
  dfnG_ok F S_is_integer (len_is_integer c) fun cdv A outer s H E O W hG hr tk => ⟨t_is_integer c W, dv_is_integer T hG hr tk, fun ds M Q E' h e => e ▸ pure_is_integer c ds M Q E' h⟩
abbrev s_is_within : Stmt := topS 13
theorem S_is_within : FnScope N_is_within ["value", "least", "most"] (defScope s_is_within) := ⟨rfl, rfl, rfl, by decide +kernel, rfl, by decide +kernel, by decide +kernel⟩
theorem dv_is_within {P : Program} {w : World} {K : PySem.W.Frag} {mg : Str → Option Value} {base : Heap} {f : Addr} {cdv : Value} {A : Around} {outer : List Env} {s : Shared} {H : Hp} {E : XK} {O : Org} {W : DWX} {c : CT} (T : TF K mg c) (c_is_integer_1 : OwnP P w K mg base 1 "is_integer" 1 [] [0] [] (sp_is_integer c))
    (hG : A.guards = some []) (hr : Room 1 (A.deeper (envOfC "is_within" (defScope s_is_within) s.heap.objs.size f cdv))) (tk : L2N.Takes (cxOf (L2N.CX P w) P w K mg base N_is_within "is_within" (defScope s_is_within) f cdv A outer s H E) (liftW K O W)) :
    DSs (cxOf (L2N.CX P w) P w K mg base N_is_within "is_within" (defScope s_is_within) f cdv A outer s H E) O (defBody s_is_within) (t_is_within c W) :=
  dss_one (ds_ret (de_and (de_ownP c_is_integer_1 hG hr (by decide) (by rfl) takes_no (dak (das_cons (de_var (pv 0)) (das_nil)) (dks_nil))) (de_one (de_chain op_le ref_le op_le ref_le (de_var (pv 1)) (de_var (pv 0)) (de_var (pv 2))))))
theorem ok_is_within {P : Program} {w : World} {K : PySem.W.Frag} {mg : Str → Option Value} {base : Heap} {f : Addr} {fd : FuncData} {c : CT} (F : FunD K "is_within" "is_within" (defArgs s_is_within) (defBody s_is_within) (defScope s_is_within) [] [] f fd) (T : TF K mg c) (c_is_integer_1 : OwnP P w K mg base 1 "is_integer" 1 [] [0] [] (sp_is_integer c)) :
    DFnG P w K mg base 2 f fd ["value", "least", "most"] (sp_is_within c) :=
  dfnG_ok F S_is_within (len_is_within c) fun cdv A outer s H E O W hG hr tk => ⟨t_is_within c W, dv_is_within T c_is_integer_1 hG hr tk, fun ds M Q E' h e => e ▸ pure_is_within c ds M Q E' h⟩
abbrev s_read_number : Stmt := topS 14
theorem S_read_number : FnScope N_read_number ["word"] (defScope s_read_number) := ⟨rfl, rfl, rfl, by decide +kernel, rfl, by decide +kernel, by decide +kernel⟩
theorem dv_read_number {P : Program} {w : World} {K : PySem.W.Frag} {mg : Str → Option Value} {base : Heap} {f : Addr} {cdv : Value} {A : Around} {outer : List Env} {s : Shared} {H : Hp} {E : XK} {O : Org} {W : DWX} {c : CT} (T : TF K mg c)
    (hG : A.guards = some []) (hr : Room 0 (A.deeper (envOfC "read_number" (defScope s_read_number) s.heap.objs.size f cdv))) (tk : L2N.Takes (cxOf (L2N.CX P w) P w K mg base N_read_number "read_number" (defScope s_read_number) f cdv A outer s H E) (liftW K O W)) :
    DSs (cxOf (L2N.CX P w) P w K mg base N_read_number "read_number" (defScope s_read_number) f cdv A outer s H E) O (defBody s_read_number) (t_read_number c W) :=
  dss_cons (ds_if (dw (dw_or (dt_cmp (op_eqA (hu64 hr)) ref_eq (de_var (pv 0)) (de_c pe_str rfl) (nomark _)) (dw_or (dt_cmp op_gt ref_gt (de_callB len_all ref_len (by rfl) T.b_len bt_len (das_cons (de_var (pv 0)) (das_nil))) (de_c pe_int rfl) (nomark _)) (dw_or1 (dt_not (dt_truth (de_callB (cr_all rfl) ref_all (by rfl) T.b_all bt_all (das_cons (de_lc (own := [("sign", 2)]) false rfl S_read_number.nd (di_str (de_var (pv 0))) (blkOk_by (N := N_read_number) (sc := defScope s_read_number) (by decide +kernel)) (fun _ _ _ _ _ => pg_name (i := 2) S_read_number.nd rfl (.inl rfl)) (ref_gName (by decide)) (fun _ _ _ _ _ => dts_nil) (fun _ _ _ _ _ => de_cmp op_inAll (ref_in (neg := false)) (de_var (pv 2)) (de_c (pe_gs (by rfl) T.c_DIGITS) rfl) (by rfl))) (das_nil))))))))) (dss_one (ds_ret (de_c pe_non rfl))) (dss_nil))
      (dss_cons (ds_set (i := 1) S_read_number.nd rfl (.inl rfl) (de_callTy int_all ref_int (by rfl) T.b_int bt_int (das_cons (de_var (pv 0)) (das_nil))))
      (dss_one (ds_ret (de_if (dt_cmp (op_eqA (hu64 hr)) ref_eq (de_callTy str_all ref_str (by rfl) T.b_str bt_str (das_cons (de_var (pv 1)) (das_nil))) (de_var (pv 0)) (nomark _)) (de_var (pv 1)) (de_c pe_non rfl)))))
theorem ok_read_number {P : Program} {w : World} {K : PySem.W.Frag} {mg : Str → Option Value} {base : Heap} {f : Addr} {fd : FuncData} {c : CT} (F : FunD K "read_number" "read_number" (defArgs s_read_number) (defBody s_read_number) (defScope s_read_number) [] [] f fd) (T : TF K mg c) :
    DFnG P w K mg base 1 f fd ["word"] (sp_read_number c) :=
  dfnG_ok F S_read_number (len_read_number c) fun cdv A outer s H E O W hG hr tk => ⟨t_read_number c W, dv_read_number T hG hr tk, fun ds M Q E' h e => e ▸ pure_read_number c ds M Q E' h⟩
abbrev s_wrong_kind : Stmt := topS 16
theorem S_wrong_kind : FnScope N_wrong_kind ["kinds"] (defScope s_wrong_kind) := ⟨rfl, rfl, rfl, by decide +kernel, rfl, by decide +kernel, by decide +kernel⟩
theorem dv_wrong_kind {P : Program} {w : World} {K : PySem.W.Frag} {mg : Str → Option Value} {base : Heap} {f : Addr} {cdv : Value} {A : Around} {outer : List Env} {s : Shared} {H : Hp} {E : XK} {O : Org} {W : DWX} {c : CT} (T : TF K mg c) (c_is_within_3 : OwnP P w K mg base 2 "is_within" 3 [] [0, 1, 2] [] (sp_is_within c))
    (hG : A.guards = some []) (hr : Room 2 (A.deeper (envOfC "wrong_kind" (defScope s_wrong_kind) s.heap.objs.size f cdv))) (tk : L2N.Takes (cxOf (L2N.CX P w) P w K mg base N_wrong_kind "wrong_kind" (defScope s_wrong_kind) f cdv A outer s H E) (liftW K O W)) :
    DSs (cxOf (L2N.CX P w) P w K mg base N_wrong_kind "wrong_kind" (defScope s_wrong_kind) f cdv A outer s H E) O (defBody s_wrong_kind) (t_wrong_kind c W) :=
  dss_cons (ds_if (dw (dw_or (dt_not (dt_truth (de_isi (T := .tup) (by rfl) T.b_isinstance (by rfl) T.b_tuple bt_tuple (de_var (pv 0)) (T.i_tuple)))) (dw_or1 (dt_cmp (op_eqA (hu64 hr)) ref_eq (de_callB len_all ref_len (by rfl) T.b_len bt_len (das_cons (de_var (pv 0)) (das_nil))) (de_c pe_int rfl) (nomark _))))) (dss_one (ds_ret (de_tup (das_cons (de_c pe_non rfl) (das_nil))))) (dss_nil))
      (dss_cons (ds_set (i := 1) S_wrong_kind.nd rfl (.inl rfl) (de_c pe_int rfl))
      (dss_cons (ds_for (vs := [2, 3]) (by first | exact PassesOwn.never | exact passes_of rfl) rfl (di_enum (by rfl) T.b_enumerate (de_var (pv 0))) (pg_tup rfl (pgs_cons (pg_name (i := 2) S_wrong_kind.nd rfl (.inl rfl)) (pgs_cons (pg_name (i := 3) S_wrong_kind.nd rfl (.inl rfl)) (pgs_nil)))) (ref_gTup (ref_gCons (ref_gName (by decide)) (ref_gCons (ref_gName (by decide)) (ref_gNil)))) (dss_cons (ds_if (dw (dw_or (dt_not (dt_truth (de_isi (T := .tup) (by rfl) T.b_isinstance (by rfl) T.b_tuple bt_tuple (de_var (pv 3)) (T.i_tuple)))) (dw_or (dt_cmp (op_neA (hu64 hr)) ref_ne (de_callB len_all ref_len (by rfl) T.b_len bt_len (das_cons (de_var (pv 3)) (das_nil))) (de_c pe_int rfl) (nomark _)) (dw_or1 (dt_cmp op_ge ref_ge (de_var (pv 2)) (de_c (pe_gi (by rfl) T.c_MOST_KINDS) rfl) (nomark _)))))) (dss_one (ds_ret (de_tup (das_cons (de_var (pv 2)) (das_nil))))) (dss_nil))
      (dss_cons (ds_if (dw (dw_or (dt_not (dt_truth (de_ownP c_is_within_3 hG hr (by decide) (by rfl) takes_no (dak (das_cons (de_ix (de_var (pv 3)) (de_c pe_int rfl) (fun _ _ => rfl)) (das_cons (de_op op_addAll (ref_add (mu := false)) (de_var (pv 1)) (de_c pe_int rfl)) (das_cons (de_c (pe_gi (by rfl) T.c_MOST_SIZE) rfl) (das_nil)))) (dks_nil))))) (dw_or1 (dt_not (dt_truth (de_ownP c_is_within_3 hG hr (by decide) (by rfl) takes_no (dak (das_cons (de_ix (de_var (pv 3)) (de_c pe_int rfl) (fun _ _ => rfl)) (das_cons (de_c pe_int rfl) (das_cons (de_c (pe_gi (by rfl) T.c_MOST_MANY) rfl) (das_nil)))) (dks_nil)))))))) (dss_one (ds_ret (de_tup (das_cons (de_var (pv 2)) (das_nil))))) (dss_nil))
      (dss_one (ds_set (i := 1) S_wrong_kind.nd rfl (.inl rfl) (de_ix (de_var (pv 3)) (de_c pe_int rfl) (fun _ _ => rfl)))))))
      (dss_one (ds_ret (de_tup (das_nil))))))
theorem ok_wrong_kind {P : Program} {w : World} {K : PySem.W.Frag} {mg : Str → Option Value} {base : Heap} {f : Addr} {fd : FuncData} {c : CT} (F : FunD K "wrong_kind" "wrong_kind" (defArgs s_wrong_kind) (defBody s_wrong_kind) (defScope s_wrong_kind) [] [] f fd) (T : TF K mg c) (c_is_within_3 : OwnP P w K mg base 2 "is_within" 3 [] [0, 1, 2] [] (sp_is_within c)) :
    DFnG P w K mg base 3 f fd ["kinds"] (sp_wrong_kind c) :=
  dfnG_ok F S_wrong_kind (len_wrong_kind c) fun cdv A outer s H E O W hG hr tk => ⟨t_wrong_kind c W, dv_wrong_kind T c_is_within_3 hG hr tk, fun ds M Q E' h e => e ▸ pure_wrong_kind c ds M Q E' h⟩
abbrev s_read_kind : Stmt := topS 17
theorem S_read_kind : FnScope N_read_kind ["word"] (defScope s_read_kind) := ⟨rfl, rfl, rfl, by decide +kernel, rfl, by decide +kernel, by decide +kernel⟩
theorem dv_read_kind {P : Program} {w : World} {K : PySem.W.Frag} {mg : Str → Option Value} {base : Heap} {f : Addr} {cdv : Value} {A : Around} {outer : List Env} {s : Shared} {H : Hp} {E : XK} {O : Org} {W : DWX} {c : CT} (T : TF K mg c) (c_read_number_1 : OwnP P w K mg base 1 "read_number" 1 [] [0] [] (sp_read_number c))
    (hG : A.guards = some []) (hr : Room 1 (A.deeper (envOfC "read_kind" (defScope s_read_kind) s.heap.objs.size f cdv))) (tk : L2N.Takes (cxOf (L2N.CX P w) P w K mg base N_read_kind "read_kind" (defScope s_read_kind) f cdv A outer s H E) (liftW K O W)) :
    DSs (cxOf (L2N.CX P w) P w K mg base N_read_kind "read_kind" (defScope s_read_kind) f cdv A outer s H E) O (defBody s_read_kind) (t_read_kind c W) :=
  dss_cons (ds_set (i := 1) S_read_kind.nd rfl (.inl rfl) (de_split false (pe_split (de_var (pv 0)) (de_c pe_str rfl))))
      (dss_one (ds_ret (de_if (dt_cmp (op_eqA (hu64 hr)) ref_eq (de_callB len_all ref_len (by rfl) T.b_len bt_len (das_cons (de_var (pv 1)) (das_nil))) (de_c pe_int rfl) (nomark _)) (de_tup (das_cons (de_ownP c_read_number_1 hG hr (by decide) (by rfl) takes_no (dak (das_cons (de_ix (de_var (pv 1)) (de_c pe_int rfl) (fun _ _ => rfl)) (das_nil)) (dks_nil))) (das_cons (de_ownP c_read_number_1 hG hr (by decide) (by rfl) takes_no (dak (das_cons (de_ix (de_var (pv 1)) (de_c pe_int rfl) (fun _ _ => rfl)) (das_nil)) (dks_nil))) (das_nil)))) (de_c pe_non rfl))))
theorem ok_read_kind {P : Program} {w : World} {K : PySem.W.Frag} {mg : Str → Option Value} {base : Heap} {f : Addr} {fd : FuncData} {c : CT} (F : FunD K "read_kind" "read_kind" (defArgs s_read_kind) (defBody s_read_kind) (defScope s_read_kind) [] [] f fd) (T : TF K mg c) (c_read_number_1 : OwnP P w K mg base 1 "read_number" 1 [] [0] [] (sp_read_number c)) :
    DFnG P w K mg base 2 f fd ["word"] (sp_read_kind c) :=
  dfnG_ok F S_read_kind (len_read_kind c) fun cdv A outer s H E O W hG hr tk => ⟨t_read_kind c W, dv_read_kind T c_read_number_1 hG hr tk, fun ds M Q E' h e => e ▸ pure_read_kind c ds M Q E' h⟩
abbrev s_read_heaps : Stmt := topS 18
theorem S_read_heaps : FnScope N_read_heaps ["text"] (defScope s_read_heaps) := ⟨rfl, rfl, rfl, by decide +kernel, rfl, by decide +kernel, by decide +kernel⟩
theorem dv_read_heaps {P : Program} {w : World} {K : PySem.W.Frag} {mg : Str → Option Value} {base : Heap} {f : Addr} {cdv : Value} {A : Around} {outer : List Env} {s : Shared} {H : Hp} {E : XK} {O : Org} {W : DWX} {c : CT} (T : TF K mg c) (c_read_kind_1 : OwnP P w K mg base 2 "read_kind" 1 [] [0] [] (sp_read_kind c)) (c_wrong_kind_1 : OwnP P w K mg base 3 "wrong_kind" 1 [] [0] [] (sp_wrong_kind c))
    (hG : A.guards = some []) (hr : Room 3 (A.deeper (envOfC "read_heaps" (defScope s_read_heaps) s.heap.objs.size f cdv))) (tk : L2N.Takes (cxOf (L2N.CX P w) P w K mg base N_read_heaps "read_heaps" (defScope s_read_heaps) f cdv A outer s H E) (liftW K O W)) :
    DSs (cxOf (L2N.CX P w) P w K mg base N_read_heaps "read_heaps" (defScope s_read_heaps) f cdv A outer s H E) O (defBody s_read_heaps) (t_read_heaps c W) :=
  dss_cons (ds_if (dt_not (dt_truth (de_isi (T := .str) (by rfl) T.b_isinstance (by rfl) T.b_str bt_str (de_var (pv 0)) (T.i_str)))) (dss_one (ds_ret (de_c pe_non rfl))) (dss_nil))
      (dss_cons (ds_set (i := 1) S_read_heaps.nd rfl (.inl rfl) (de_callTy call_tupleF ref_tuple (by rfl) T.b_tuple bt_tuple (das_cons (de_lc (own := [("word", 2)]) false rfl S_read_heaps.nd (di_seq (de_split false (pe_split (de_var (pv 0)) (de_c pe_str rfl)))) (blkOk_by (N := N_read_heaps) (sc := defScope s_read_heaps) (by decide +kernel)) (fun _ _ _ _ _ => pg_name (i := 2) S_read_heaps.nd rfl (.inl rfl)) (ref_gName (by decide)) (fun _ _ _ _ _ => dts_nil) (fun _ _ _ _ _ => de_ownP c_read_kind_1 hG hr (by decide) (by rfl) takes_no (dak (das_cons (de_var (pv 2)) (das_nil)) (dks_nil)))) (das_nil))))
      (dss_one (ds_ret (de_if (dt_cmp (op_eqA (hu64 hr)) ref_eq (de_ownP c_wrong_kind_1 hG hr (by decide) (by rfl) takes_no (dak (das_cons (de_var (pv 1)) (das_nil)) (dks_nil))) (de_tup (das_nil)) (nomark _)) (de_var (pv 1)) (de_c pe_non rfl)))))
theorem ok_read_heaps {P : Program} {w : World} {K : PySem.W.Frag} {mg : Str → Option Value} {base : Heap} {f : Addr} {fd : FuncData} {c : CT} (F : FunD K "read_heaps" "read_heaps" (defArgs s_read_heaps) (defBody s_read_heaps) (defScope s_read_heaps) [] [] f fd) (T : TF K mg c) (c_read_kind_1 : OwnP P w K mg base 2 "read_kind" 1 [] [0] [] (sp_read_kind c)) (c_wrong_kind_1 : OwnP P w K mg base 3 "wrong_kind" 1 [] [0] [] (sp_wrong_kind c)) :
    DFnG P w K mg base 4 f fd ["text"] (sp_read_heaps c) :=
  dfnG_ok F S_read_heaps (len_read_heaps c) fun cdv A outer s H E O W hG hr tk => ⟨t_read_heaps c W, dv_read_heaps T c_read_kind_1 c_wrong_kind_1 hG hr tk, fun ds M Q E' h e => e ▸ pure_read_heaps c ds M Q E' h⟩
abbrev s_Heaps___init__ : Stmt := inC (topS 19) 0
theorem S_Heaps___init__ : FnScope N_Heaps___init__ ["self", "kinds"] (defScope s_Heaps___init__) := ⟨rfl, rfl, rfl, by decide +kernel, rfl, by decide +kernel, by decide +kernel⟩
theorem dv_Heaps___init__ {P : Program} {w : World} {K : PySem.W.Frag} {mg : Str → Option Value} {base : Heap} {f : Addr} {cdv : Value} {A : Around} {outer : List Env} {s : Shared} {H : Hp} {E : XK} {O : Org} {W : DWX} {c : CT} (T : TF K mg c) (c_wrong_kind_1 : OwnP P w K mg base 3 "wrong_kind" 1 [] [0] [] (sp_wrong_kind c))
    (hG : A.guards = some []) (hr : Room 3 (A.deeper (envOfC "Heaps.__init__" (defScope s_Heaps___init__) s.heap.objs.size f cdv))) (tk : L2N.Takes (cxOf (L2N.CX P w) P w K mg base N_Heaps___init__ "Heaps.__init__" (defScope s_Heaps___init__) f cdv A outer s H E) (liftW K O W)) :
    DSs (cxOf (L2N.CX P w) P w K mg base N_Heaps___init__ "Heaps.__init__" (defScope s_Heaps___init__) f cdv A outer s H E) O (defBody s_Heaps___init__) (t_Heaps___init__ c W) :=
  dss_cons (ds_set (i := 2) S_Heaps___init__.nd rfl (.inl rfl) (de_ownP c_wrong_kind_1 hG hr (by decide) (by rfl) takes_no (dak (das_cons (de_var (pv 1)) (das_nil)) (dks_nil))))
      (dss_cons (ds_if (dt_cmp (op_neA (hu64 hr)) ref_ne (de_var (pv 2)) (de_tup (das_nil)) (nomark _)) (dss_one (ds_never)) (dss_nil))
      (dss_one (ds_fld (PC := fun C => C = c.Heaps) T.f_Heaps_rows (de_var (pv 0)) (de_var (pv 1)))))
theorem ok_Heaps___init__ {P : Program} {w : World} {K : PySem.W.Frag} {mg : Str → Option Value} {base : Heap} {f : Addr} {fd : FuncData} {c : CT} (F : FunD K "__init__" "Heaps.__init__" (defArgs s_Heaps___init__) (defBody s_Heaps___init__) (defScope s_Heaps___init__) [] [] f fd) (T : TF K mg c) (c_wrong_kind_1 : OwnP P w K mg base 3 "wrong_kind" 1 [] [0] [] (sp_wrong_kind c)) :
    DFnG P w K mg base 4 f fd ["self", "kinds"] (sp_Heaps___init__ c) :=
  dfnG_ok F S_Heaps___init__ (len_Heaps___init__ c) fun cdv A outer s H E O W hG hr tk => ⟨t_Heaps___init__ c W, dv_Heaps___init__ T c_wrong_kind_1 hG hr tk, fun ds M Q E' h e => e ▸ pure_Heaps___init__ c ds M Q E' h⟩
abbrev s_Heaps_read : Stmt := inC (topS 19) 1
theorem S_Heaps_read : FnScope N_Heaps_read ["cls", "text"] (defScope s_Heaps_read) := ⟨rfl, rfl, rfl, by decide +kernel, rfl, by decide +kernel, by decide +kernel⟩
theorem dv_Heaps_read {P : Program} {w : World} {K : PySem.W.Frag} {mg : Str → Option Value} {base : Heap} {f : Addr} {cdv : Value} {A : Around} {outer : List Env} {s : Shared} {H : Hp} {E : XK} {O : Org} {W : DWX} {c : CT} (T : TF K mg c) (c_read_heaps_1 : OwnP P w K mg base 4 "read_heaps" 1 [] [0] [] (sp_read_heaps c)) (k_Heaps_1 : MkP P w K mg base 4 c.Heaps 1 [] [0, 1] [] (sp_Heaps___init__ c))
    (hG : A.guards = some []) (hr : Room 5 (A.deeper (envOfC "Heaps.read" (defScope s_Heaps_read) s.heap.objs.size f cdv))) (tk : L2N.Takes (cxOf (L2N.CX P w) P w K mg base N_Heaps_read "Heaps.read" (defScope s_Heaps_read) f cdv A outer s H E) (liftW K O W)) :
    DSs (cxOf (L2N.CX P w) P w K mg base N_Heaps_read "Heaps.read" (defScope s_Heaps_read) f cdv A outer s H E) O (defBody s_Heaps_read) (t_Heaps_read c W) :=
  dss_cons (ds_set (i := 2) S_Heaps_read.nd rfl (.inl rfl) (de_ownP c_read_heaps_1 hG hr (by decide) (by rfl) takes_no (dak (das_cons (de_var (pv 1)) (das_nil)) (dks_nil))))
      (dss_cons (ds_if (dt_cmp op_isN ref_isN (de_var (pv 2)) (de_c pe_non rfl) (nomark _)) (dss_one (ds_never)) (dss_nil))
      (dss_one (ds_ret (de_mkVP true (pv 0) k_Heaps_1 hG hr (by decide) takes_no (dak (das_cons (de_var (pv 2)) (das_nil)) (dks_nil))))))
theorem ok_Heaps_read {P : Program} {w : World} {K : PySem.W.Frag} {mg : Str → Option Value} {base : Heap} {f : Addr} {fd : FuncData} {c : CT} (F : FunD K "read" "Heaps.read" (defArgs s_Heaps_read) (defBody s_Heaps_read) (defScope s_Heaps_read) [] [] f fd) (T : TF K mg c) (c_read_heaps_1 : OwnP P w K mg base 4 "read_heaps" 1 [] [0] [] (sp_read_heaps c)) (k_Heaps_1 : MkP P w K mg base 4 c.Heaps 1 [] [0, 1] [] (sp_Heaps___init__ c)) :
    DFnG P w K mg base 6 f fd ["cls", "text"] (sp_Heaps_read c) :=
  dfnG_ok F S_Heaps_read (len_Heaps_read c) fun cdv A outer s H E O W hG hr tk => ⟨t_Heaps_read c W, dv_Heaps_read T c_read_heaps_1 k_Heaps_1 hG hr tk, fun ds M Q E' h e => e ▸ pure_Heaps_read c ds M Q E' h⟩
abbrev s_Heaps_kinds : Stmt := inC (topS 19) 2
theorem S_Heaps_kinds : FnScope N_Heaps_kinds ["self"] (defScope s_Heaps_kinds) := ⟨rfl, rfl, rfl, by decide +kernel, rfl, by decide +kernel, by decide +kernel⟩
theorem dv_Heaps_kinds {P : Program} {w : World} {K : PySem.W.Frag} {mg : Str → Option Value} {base : Heap} {f : Addr} {cdv : Value} {A : Around} {outer : List Env} {s : Shared} {H : Hp} {E : XK} {O : Org} {W : DWX} {c : CT} (T : TF K mg c)
    (hG : A.guards = some []) (hr : Room 0 (A.deeper (envOfC "Heaps.kinds" (defScope s_Heaps_kinds) s.heap.objs.size f cdv))) (tk : L2N.Takes (cxOf (L2N.CX P w) P w K mg base N_Heaps_kinds "Heaps.kinds" (defScope s_Heaps_kinds) f cdv A outer s H E) (liftW K O W)) :
    DSs (cxOf (L2N.CX P w) P w K mg base N_Heaps_kinds "Heaps.kinds" (defScope s_Heaps_kinds) f cdv A outer s H E) O (defBody s_Heaps_kinds) (t_Heaps_kinds c W) :=
  dss_one (ds_ret (de_fld (PC := fun C => C = c.Heaps) T.f_Heaps_rows (de_var (pv 0))))
theorem ok_Heaps_kinds {P : Program} {w : World} {K : PySem.W.Frag} {mg : Str → Option Value} {base : Heap} {f : Addr} {fd : FuncData} {c : CT} (F : FunD K "kinds" "Heaps.kinds" (defArgs s_Heaps_kinds) (defBody s_Heaps_kinds) (defScope s_Heaps_kinds) [] [] f fd) (T : TF K mg c) :
    DFnG P w K mg base 1 f fd ["self"] (sp_Heaps_kinds c) :=
  dfnG_ok F S_Heaps_kinds (len_Heaps_kinds c) fun cdv A outer s H E O W hG hr tk => ⟨t_Heaps_kinds c W, dv_Heaps_kinds T hG hr tk, fun ds M Q E' h e => e ▸ pure_Heaps_kinds c ds M Q E' h⟩
abbrev s_Heaps_many : Stmt := inC (topS 19) 3
theorem S_Heaps_many : FnScope N_Heaps_many ["self"] (defScope s_Heaps_many) := ⟨rfl, rfl, rfl, by decide +kernel, rfl, by decide +kernel, by decide +kernel⟩
theorem dv_Heaps_many {P : Program} {w : World} {K : PySem.W.Frag} {mg : Str → Option Value} {base : Heap} {f : Addr} {cdv : Value} {A : Around} {outer : List Env} {s : Shared} {H : Hp} {E : XK} {O : Org} {W : DWX} {c : CT} (T : TF K mg c)
    (hG : A.guards = some []) (hr : Room 0 (A.deeper (envOfC "Heaps.many" (defScope s_Heaps_many) s.heap.objs.size f cdv))) (tk : L2N.Takes (cxOf (L2N.CX P w) P w K mg base N_Heaps_many "Heaps.many" (defScope s_Heaps_many) f cdv A outer s H E) (liftW K O W)) :
    DSs (cxOf (L2N.CX P w) P w K mg base N_Heaps_many "Heaps.many" (defScope s_Heaps_many) f cdv A outer s H E) O (defBody s_Heaps_many) (t_Heaps_many c W) :=
  dss_one (ds_ret (de_callB (cr_sumA rfl) ref_sum (by rfl) T.b_sum bt_sum (das_cons (de_lc (own := [("size", 1), ("many", 2)]) false rfl S_Heaps_many.nd (di_seq (de_fld (PC := fun C => C = c.Heaps) T.f_Heaps_rows (de_var (pv 0)))) (blkOk_by (N := N_Heaps_many) (sc := defScope s_Heaps_many) (by decide +kernel)) (fun _ _ _ _ _ => pg_tup rfl (pgs_cons (pg_name (i := 1) S_Heaps_many.nd rfl (.inl rfl)) (pgs_cons (pg_name (i := 2) S_Heaps_many.nd rfl (.inl rfl)) (pgs_nil)))) (ref_gTup (ref_gCons (ref_gName (by decide)) (ref_gCons (ref_gName (by decide)) (ref_gNil)))) (fun _ _ _ _ _ => dts_nil) (fun _ _ _ _ _ => de_var (pv 2))) (das_nil))))
theorem ok_Heaps_many {P : Program} {w : World} {K : PySem.W.Frag} {mg : Str → Option Value} {base : Heap} {f : Addr} {fd : FuncData} {c : CT} (F : FunD K "many" "Heaps.many" (defArgs s_Heaps_many) (defBody s_Heaps_many) (defScope s_Heaps_many) [] [] f fd) (T : TF K mg c) :
    DFnG P w K mg base 1 f fd ["self"] (sp_Heaps_many c) :=
  dfnG_ok F S_Heaps_many (len_Heaps_many c) fun cdv A outer s H E O W hG hr tk => ⟨t_Heaps_many c W, dv_Heaps_many T hG hr tk, fun ds M Q E' h e => e ▸ pure_Heaps_many c ds M Q E' h⟩
abbrev s_Heaps___len__ : Stmt := inC (topS 19) 5
theorem S_Heaps___len__ : FnScope N_Heaps___len__ ["self"] (defScope s_Heaps___len__) := ⟨rfl, rfl, rfl, by decide +kernel, rfl, by decide +kernel, by decide +kernel⟩
theorem dv_Heaps___len__ {P : Program} {w : World} {K : PySem.W.Frag} {mg : Str → Option Value} {base : Heap} {f : Addr} {cdv : Value} {A : Around} {outer : List Env} {s : Shared} {H : Hp} {E : XK} {O : Org} {W : DWX} {c : CT} (T : TF K mg c)
    (hG : A.guards = some []) (hr : Room 0 (A.deeper (envOfC "Heaps.__len__" (defScope s_Heaps___len__) s.heap.objs.size f cdv))) (tk : L2N.Takes (cxOf (L2N.CX P w) P w K mg base N_Heaps___len__ "Heaps.__len__" (defScope s_Heaps___len__) f cdv A outer s H E) (liftW K O W)) :
    DSs (cxOf (L2N.CX P w) P w K mg base N_Heaps___len__ "Heaps.__len__" (defScope s_Heaps___len__) f cdv A outer s H E) O (defBody s_Heaps___len__) (t_Heaps___len__ c W) :=
  dss_one (ds_ret (de_callB len_all ref_len (by rfl) T.b_len bt_len (das_cons (de_fld (PC := fun C => C = c.Heaps) T.f_Heaps_rows (de_var (pv 0))) (das_nil))))
theorem ok_Heaps___len__ {P : Program} {w : World} {K : PySem.W.Frag} {mg : Str → Option Value} {base : Heap} {f : Addr} {fd : FuncData} {c : CT} (F : FunD K "__len__" "Heaps.__len__" (defArgs s_Heaps___len__) (defBody s_Heaps___len__) (defScope s_Heaps___len__) [] [] f fd) (T : TF K mg c) :
    DFnG P w K mg base 1 f fd ["self"] (sp_Heaps___len__ c) :=
  dfnG_ok F S_Heaps___len__ (len_Heaps___len__ c) fun cdv A outer s H E O W hG hr tk => ⟨t_Heaps___len__ c W, dv_Heaps___len__ T hG hr tk, fun ds M Q E' h e => e ▸ pure_Heaps___len__ c ds M Q E' h⟩
abbrev s_Heaps___eq__ : Stmt := inC (topS 19) 7
theorem S_Heaps___eq__ : FnScope N_Heaps___eq__ ["self", "other"] (defScope s_Heaps___eq__) := ⟨rfl, rfl, rfl, by decide +kernel, rfl, by decide +kernel, by decide +kernel⟩
theorem dv_Heaps___eq__ {P : Program} {w : World} {K : PySem.W.Frag} {mg : Str → Option Value} {base : Heap} {f : Addr} {cdv : Value} {A : Around} {outer : List Env} {s : Shared} {H : Hp} {E : XK} {O : Org} {W : DWX} {c : CT} (T : TF K mg c)
    (hG : A.guards = some []) (hr : Room 0 (A.deeper (envOfC "Heaps.__eq__" (defScope s_Heaps___eq__) s.heap.objs.size f cdv))) (tk : L2N.Takes (cxOf (L2N.CX P w) P w K mg base N_Heaps___eq__ "Heaps.__eq__" (defScope s_Heaps___eq__) f cdv A outer s H E) (liftW K O W)) :
    DSs (cxOf (L2N.CX P w) P w K mg base N_Heaps___eq__ "Heaps.__eq__" (defScope s_Heaps___eq__) f cdv A outer s H E) O (defBody s_Heaps___eq__) (t_Heaps___eq__ c W) :=
  dss_one (ds_ret (de_and (de_isiC (by rfl) T.b_isinstance (by rfl) T.g_Heaps (de_var (pv 1)) T.io_Heaps T.ic_Heaps) (de_one (de_cmp (op_eqA (hu64 hr)) ref_eq (de_fld (PC := fun C => C = c.Heaps) T.f_Heaps_rows (de_var (pv 0))) (de_fld (PC := fun C => C = c.Heaps) T.f_Heaps_rows (de_var (pv 1))) (nomark _)))))
theorem ok_Heaps___eq__ {P : Program} {w : World} {K : PySem.W.Frag} {mg : Str → Option Value} {base : Heap} {f : Addr} {fd : FuncData} {c : CT} (F : FunD K "__eq__" "Heaps.__eq__" (defArgs s_Heaps___eq__) (defBody s_Heaps___eq__) (defScope s_Heaps___eq__) [] [] f fd) (T : TF K mg c) :
    DFnG P w K mg base 1 f fd ["self", "other"] (sp_Heaps___eq__ c) :=
  dfnG_ok F S_Heaps___eq__ (len_Heaps___eq__ c) fun cdv A outer s H E O W hG hr tk => ⟨t_Heaps___eq__ c W, dv_Heaps___eq__ T hG hr tk, fun ds M Q E' h e => e ▸ pure_Heaps___eq__ c ds M Q E' h⟩
abbrev s_Heaps___str__ : Stmt := inC (topS 19) 8
theorem S_Heaps___str__ : FnScope N_Heaps___str__ ["self"] (defScope s_Heaps___str__) := ⟨rfl, rfl, rfl, by decide +kernel, rfl, by decide +kernel, by decide +kernel⟩
theorem dv_Heaps___str__ {P : Program} {w : World} {K : PySem.W.Frag} {mg : Str → Option Value} {base : Heap} {f : Addr} {cdv : Value} {A : Around} {outer : List Env} {s : Shared} {H : Hp} {E : XK} {O : Org} {W : DWX} {c : CT} (T : TF K mg c)
    (hG : A.guards = some []) (hr : Room 0 (A.deeper (envOfC "Heaps.__str__" (defScope s_Heaps___str__) s.heap.objs.size f cdv))) (tk : L2N.Takes (cxOf (L2N.CX P w) P w K mg base N_Heaps___str__ "Heaps.__str__" (defScope s_Heaps___str__) f cdv A outer s H E) (liftW K O W)) :
    DSs (cxOf (L2N.CX P w) P w K mg base N_Heaps___str__ "Heaps.__str__" (defScope s_Heaps___str__) f cdv A outer s H E) O (defBody s_Heaps___str__) (t_Heaps___str__ c W) :=
  dss_one (ds_ret (de_join (pe_join (de_c pe_str rfl) (de_lc (own := [("size", 1), ("many", 2)]) false rfl S_Heaps___str__.nd (di_seq (de_fld (PC := fun C => C = c.Heaps) T.f_Heaps_rows (de_var (pv 0)))) (blkOk_by (N := N_Heaps___str__) (sc := defScope s_Heaps___str__) (by decide +kernel)) (fun _ _ _ _ _ => pg_tup rfl (pgs_cons (pg_name (i := 1) S_Heaps___str__.nd rfl (.inl rfl)) (pgs_cons (pg_name (i := 2) S_Heaps___str__.nd rfl (.inl rfl)) (pgs_nil)))) (ref_gTup (ref_gCons (ref_gName (by decide)) (ref_gCons (ref_gName (by decide)) (ref_gNil)))) (fun _ _ _ _ _ => dts_nil) (fun _ _ _ _ _ => de_joined (.cons (de_fmt (de_var (pv 2))) (.cons (de_c pe_str rfl) (.cons (de_fmt (de_var (pv 1))) (DJ.nil)))))))))
theorem ok_Heaps___str__ {P : Program} {w : World} {K : PySem.W.Frag} {mg : Str → Option Value} {base : Heap} {f : Addr} {fd : FuncData} {c : CT} (F : FunD K "__str__" "Heaps.__str__" (defArgs s_Heaps___str__) (defBody s_Heaps___str__) (defScope s_Heaps___str__) [] [] f fd) (T : TF K mg c) :
    DFnG P w K mg base 1 f fd ["self"] (sp_Heaps___str__ c) :=
  dfnG_ok F S_Heaps___str__ (len_Heaps___str__ c) fun cdv A outer s H E O W hG hr tk => ⟨t_Heaps___str__ c W, dv_Heaps___str__ T hG hr tk, fun ds M Q E' h e => e ▸ pure_Heaps___str__ c ds M Q E' h⟩
abbrev s__law_pot : Stmt := topS 21
theorem S__law_pot : FnScope N__law_pot ["_law_script", "_law_turn"] (defScope s__law_pot) := ⟨rfl, rfl, rfl, by decide +kernel, rfl, by decide +kernel, by decide +kernel⟩
theorem dv__law_pot {P : Program} {w : World} {K : PySem.W.Frag} {mg : Str → Option Value} {base : Heap} {f : Addr} {cdv : Value} {A : Around} {outer : List Env} {s : Shared} {H : Hp} {E : XK} {O : Org} {W : DWX} {c : CT} (T : TF K mg c)
    (hG : A.guards = some []) (hr : Room 0 (A.deeper (envOfC "_law_pot" (defScope s__law_pot) s.heap.objs.size f cdv))) (tk : L2N.Takes (cxOf (L2N.CX P w) P w K mg base N__law_pot "_law_pot" (defScope s__law_pot) f cdv A outer s H E) (liftW K O W)) :
    DSs (cxOf (L2N.CX P w) P w K mg base N__law_pot "_law_pot" (defScope s__law_pot) f cdv A outer s H E) O (defBody s__law_pot) (t__law_pot c W) :=
  dss_cons (ds_set (i := 2) S__law_pot.nd rfl (.inl rfl) (de_if (dt_cmp op_lt ref_lt (de_var (pv 1)) (de_callB len_all ref_len (by rfl) T.b_len bt_len (das_cons (de_var (pv 0)) (das_nil))) (nomark _)) (de_ix (de_var (pv 0)) (de_var (pv 1)) (fun _ _ => rfl)) (de_op op_addAll (ref_add (mu := false)) (de_op op_mulAll (ref_mul (mu := false)) (de_c pe_int rfl) (de_var (pv 1))) (de_c pe_int rfl))))
      (dss_cons (ds_set (i := 3) S__law_pot.nd rfl (.inl rfl) (de_op op_addAll (ref_add (mu := false)) (de_c pe_int rfl) (de_op op_mulAll (ref_mul (mu := false)) (de_c pe_int rfl) (de_var (pv 1)))))
      (dss_cons (ds_for (vs := [4]) (by first | exact PassesOwn.never | exact passes_of rfl) rfl (di_seq (de_op op_addAll (ref_add (mu := false)) (de_lst false (das_cons (de_var (pv 2)) (das_nil))) (de_slice false (de_var (pv 0)) (do_none) (do_some (de_c pe_int rfl))))) (pg_name (i := 4) S__law_pot.nd rfl (.inl rfl)) (ref_gName (by decide)) (dss_one (ds_set (i := 3) S__law_pot.nd rfl (.inl rfl) (de_op op_mod ref_mod (de_callTy int_all ref_int (by rfl) T.b_int bt_int (das_cons (de_op op_addAll (ref_add (mu := false)) (de_op op_mulAll (ref_mul (mu := false)) (de_var (pv 3)) (de_c pe_int rfl)) (de_var (pv 4))) (das_nil))) (de_c pe_int rfl)))))
      (dss_one (ds_ret (de_lst true (das_cons (de_if (dt_cmp op_ge ref_ge (de_callB call_abs ref_abs (by rfl) T.b_abs bt_abs (das_cons (de_var (pv 2)) (das_nil))) (de_op op_pow ref_pow (de_c pe_int rfl) (de_c pe_int rfl)) (nomark _)) (de_callB call_abs ref_abs (by rfl) T.b_abs bt_abs (das_cons (de_var (pv 2)) (das_nil))) (de_c pe_int rfl)) (das_cons (de_var (pv 3)) (das_cons (de_c pe_int rfl) (das_nil)))))))))
theorem ok__law_pot {P : Program} {w : World} {K : PySem.W.Frag} {mg : Str → Option Value} {base : Heap} {f : Addr} {fd : FuncData} {c : CT} (F : FunD K "_law_pot" "_law_pot" (defArgs s__law_pot) (defBody s__law_pot) (defScope s__law_pot) [] [] f fd) (T : TF K mg c) :
    DFnG P w K mg base 1 f fd ["_law_script", "_law_turn"] (sp__law_pot c) :=
  dfnG_ok F S__law_pot (len__law_pot c) fun cdv A outer s H E O W hG hr tk => ⟨t__law_pot c W, dv__law_pot T hG hr tk, fun ds M Q E' h e => e ▸ pure__law_pot c ds M Q E' h⟩
abbrev s__law_scoop : Stmt := topS 22
theorem S__law_scoop : FnScope N__law_scoop ["_law_pot_here", "_law_many_ways"] (defScope s__law_scoop) := ⟨rfl, rfl, rfl, by decide +kernel, rfl, by decide +kernel, by decide +kernel⟩
theorem dv__law_scoop {P : Program} {w : World} {K : PySem.W.Frag} {mg : Str → Option Value} {base : Heap} {f : Addr} {cdv : Value} {A : Around} {outer : List Env} {s : Shared} {H : Hp} {E : XK} {O : Org} {W : DWX} {c : CT} (T : TF K mg c)
    (hG : A.guards = some []) (hr : Room 0 (A.deeper (envOfC "_law_scoop" (defScope s__law_scoop) s.heap.objs.size f cdv))) (tk : L2N.Takes (cxOf (L2N.CX P w) P w K mg base N__law_scoop "_law_scoop" (defScope s__law_scoop) f cdv A outer s H E) (liftW K O W)) :
    DSs (cxOf (L2N.CX P w) P w K mg base N__law_scoop "_law_scoop" (defScope s__law_scoop) f cdv A outer s H E) O (defBody s__law_scoop) (t__law_scoop c W) :=
  dss_cons (ds_if (dt_cmp op_gt ref_gt (de_ix (de_var (pv 0)) (de_c pe_int rfl) (fun _ _ => rfl)) (de_c pe_int rfl) (nomark _)) (dss_cons (ds_asg (vs := [2]) (de_callB call_divmodW ref_divmod (by rfl) T.b_divmod bt_divmod (das_cons (de_ix (de_var (pv 0)) (de_c pe_int rfl) (fun _ _ => rfl)) (das_cons (de_var (pv 1)) (das_nil)))) (pg_tup rfl (pgs_cons (pg_sub (de_var (pv 0)) (de_c pe_int rfl) set_list) (pgs_cons (pg_name (i := 2) S__law_scoop.nd rfl (.inl rfl)) (pgs_nil)))) (ref_gTup (ref_gCons (ref_gSub) (ref_gCons (ref_gName (by decide)) (ref_gNil)))))
      (dss_one (ds_ret (de_var (pv 2))))) (dss_nil))
      (dss_cons (ds_asg (vs := []) (de_op op_addAll (ref_add (mu := false)) (de_ix (de_var (pv 0)) (de_c pe_int rfl) (fun _ _ => rfl)) (de_c pe_int rfl)) (pg_sub (de_var (pv 0)) (de_c pe_int rfl) set_list) (ref_gSub))
      (dss_cons (ds_asg (vs := []) (de_op op_mod ref_mod (de_callTy int_all ref_int (by rfl) T.b_int bt_int (das_cons (de_op op_addAll (ref_add (mu := false)) (de_op op_mulAll (ref_mul (mu := false)) (de_ix (de_var (pv 0)) (de_c pe_int rfl) (fun _ _ => rfl)) (de_c pe_int rfl)) (de_op op_mulAll (ref_mul (mu := false)) (de_c pe_int rfl) (de_ix (de_var (pv 0)) (de_c pe_int rfl) (fun _ _ => rfl)))) (das_nil))) (de_c pe_int rfl)) (pg_sub (de_var (pv 0)) (de_c pe_int rfl) set_list) (ref_gSub))
      (dss_one (ds_ret (de_op op_mod ref_mod (de_callTy int_all ref_int (by rfl) T.b_int bt_int (das_cons (de_op op_fdivW ref_div (de_ix (de_var (pv 0)) (de_c pe_int rfl) (fun _ _ => rfl)) (de_c pe_int rfl)) (das_nil))) (de_var (pv 1)))))))
theorem ok__law_scoop {P : Program} {w : World} {K : PySem.W.Frag} {mg : Str → Option Value} {base : Heap} {f : Addr} {fd : FuncData} {c : CT} (F : FunD K "_law_scoop" "_law_scoop" (defArgs s__law_scoop) (defBody s__law_scoop) (defScope s__law_scoop) [] [] f fd) (T : TF K mg c) :
    DFnG P w K mg base 1 f fd ["_law_pot_here", "_law_many_ways"] (sp__law_scoop c) :=
  dfnG_ok F S__law_scoop (len__law_scoop c) fun cdv A outer s H E O W hG hr tk => ⟨t__law_scoop c W, dv__law_scoop T hG hr tk, fun ds M Q E' h e => e ▸ pure__law_scoop c ds M Q E' h⟩
abbrev s__law_few : Stmt := topS 23
theorem S__law_few : FnScope N__law_few ["_law_pot_here", "_law_high", "_law_top"] (defScope s__law_few) := ⟨rfl, rfl, rfl, by decide +kernel, rfl, by decide +kernel, by decide +kernel⟩
theorem dv__law_few {P : Program} {w : World} {K : PySem.W.Frag} {mg : Str → Option Value} {base : Heap} {f : Addr} {cdv : Value} {A : Around} {outer : List Env} {s : Shared} {H : Hp} {E : XK} {O : Org} {W : DWX} {c : CT} (T : TF K mg c) (c__law_scoop_2 : OwnP P w K mg base 1 "_law_scoop" 2 [] [0, 1] [] (sp__law_scoop c))
    (hG : A.guards = some []) (hr : Room 1 (A.deeper (envOfC "_law_few" (defScope s__law_few) s.heap.objs.size f cdv))) (tk : L2N.Takes (cxOf (L2N.CX P w) P w K mg base N__law_few "_law_few" (defScope s__law_few) f cdv A outer s H E) (liftW K O W)) :
    DSs (cxOf (L2N.CX P w) P w K mg base N__law_few "_law_few" (defScope s__law_few) f cdv A outer s H E) O (defBody s__law_few) (t__law_few c W) :=
  dss_cons (ds_par (i := 3) (j := 4) rfl S__law_few.nd rfl rfl (by decide) rfl rfl (de_lst true (das_nil)) (de_c pe_int rfl) (by rfl))
      (dss_cons (ds_for (vs := [5]) (by first | exact PassesOwn.never | exact passes_of rfl) rfl (di_range1 (by rfl) T.b_range (de_op op_addAll (ref_add (mu := false)) (de_c pe_int rfl) (de_ownP c__law_scoop_2 hG hr (by decide) (by rfl) takes_no (dak (das_cons (de_var (pv 0)) (das_cons (de_var (pv 1)) (das_nil))) (dks_nil))))) (pg_name (i := 5) S__law_few.nd rfl (.inl rfl)) (ref_gName (by decide)) (dss_cons (ds_set (i := 4) S__law_few.nd rfl (.inl rfl) (de_op op_addAll (ref_add (mu := false)) (de_op op_addAll (ref_add (mu := false)) (de_var (pv 4)) (de_c pe_int rfl)) (de_ownP c__law_scoop_2 hG hr (by decide) (by rfl) takes_no (dak (das_cons (de_var (pv 0)) (das_cons (de_c pe_int rfl) (das_nil))) (dks_nil)))))
      (dss_one (ds_expr (de_append (de_var (pv 3)) (de_tup (das_cons (de_var (pv 4)) (das_cons (de_op op_addAll (ref_add (mu := false)) (de_c pe_int rfl) (de_ownP c__law_scoop_2 hG hr (by decide) (by rfl) takes_no (dak (das_cons (de_var (pv 0)) (das_cons (de_var (pv 2)) (das_nil))) (dks_nil)))) (das_nil)))))))))
      (dss_one (ds_ret (de_callTy call_tupleF ref_tuple (by rfl) T.b_tuple bt_tuple (das_cons (de_var (pv 3)) (das_nil))))))
theorem ok__law_few {P : Program} {w : World} {K : PySem.W.Frag} {mg : Str → Option Value} {base : Heap} {f : Addr} {fd : FuncData} {c : CT} (F : FunD K "_law_few" "_law_few" (defArgs s__law_few) (defBody s__law_few) (defScope s__law_few) [] [] f fd) (T : TF K mg c) (c__law_scoop_2 : OwnP P w K mg base 1 "_law_scoop" 2 [] [0, 1] [] (sp__law_scoop c)) :
    DFnG P w K mg base 2 f fd ["_law_pot_here", "_law_high", "_law_top"] (sp__law_few c) :=
  dfnG_ok F S__law_few (len__law_few c) fun cdv A outer s H E O W hG hr tk => ⟨t__law_few c W, dv__law_few T c__law_scoop_2 hG hr tk, fun ds M Q E' h e => e ▸ pure__law_few c ds M Q E' h⟩
abbrev s__law_page : Stmt := topS 24
theorem S__law_page : FnScope N__law_page ["_law_kinds_here"] (defScope s__law_page) := ⟨rfl, rfl, rfl, by decide +kernel, rfl, by decide +kernel, by decide +kernel⟩
theorem dv__law_page {P : Program} {w : World} {K : PySem.W.Frag} {mg : Str → Option Value} {base : Heap} {f : Addr} {cdv : Value} {A : Around} {outer : List Env} {s : Shared} {H : Hp} {E : XK} {O : Org} {W : DWX} {c : CT} (T : TF K mg c)
    (hG : A.guards = some []) (hr : Room 0 (A.deeper (envOfC "_law_page" (defScope s__law_page) s.heap.objs.size f cdv))) (tk : L2N.Takes (cxOf (L2N.CX P w) P w K mg base N__law_page "_law_page" (defScope s__law_page) f cdv A outer s H E) (liftW K O W)) :
    DSs (cxOf (L2N.CX P w) P w K mg base N__law_page "_law_page" (defScope s__law_page) f cdv A outer s H E) O (defBody s__law_page) (t__law_page c W) :=
  dss_one (ds_ret (de_join (pe_join (de_c pe_str rfl) (de_lc (own := [("_law_size_here", 1), ("_law_count", 2)]) false rfl S__law_page.nd (di_seq (de_var (pv 0))) (blkOk_by (N := N__law_page) (sc := defScope s__law_page) (by decide +kernel)) (fun _ _ _ _ _ => pg_tup rfl (pgs_cons (pg_name (i := 1) S__law_page.nd rfl (.inl rfl)) (pgs_cons (pg_name (i := 2) S__law_page.nd rfl (.inl rfl)) (pgs_nil)))) (ref_gTup (ref_gCons (ref_gName (by decide)) (ref_gCons (ref_gName (by decide)) (ref_gNil)))) (fun _ _ _ _ _ => dts_nil) (fun _ _ _ _ _ => de_op op_addAll (ref_add (mu := false)) (de_op op_addAll (ref_add (mu := false)) (de_callTy str_all ref_str (by rfl) T.b_str bt_str (das_cons (de_var (pv 2)) (das_nil))) (de_c pe_str rfl)) (de_callTy str_all ref_str (by rfl) T.b_str bt_str (das_cons (de_var (pv 1)) (das_nil))))))))
theorem ok__law_page {P : Program} {w : World} {K : PySem.W.Frag} {mg : Str → Option Value} {base : Heap} {f : Addr} {fd : FuncData} {c : CT} (F : FunD K "_law_page" "_law_page" (defArgs s__law_page) (defBody s__law_page) (defScope s__law_page) [] [] f fd) (T : TF K mg c) :
    DFnG P w K mg base 1 f fd ["_law_kinds_here"] (sp__law_page c) :=
  dfnG_ok F S__law_page (len__law_page c) fun cdv A outer s H E O W hG hr tk => ⟨t__law_page c W, dv__law_page T hG hr tk, fun ds M Q E' h e => e ▸ pure__law_page c ds M Q E' h⟩
abbrev s__law_pair_right : Stmt := topS 25
theorem S__law_pair_right : FnScope N__law_pair_right ["_law_mine", "_law_mate", "_law_due"] (defScope s__law_pair_right) := ⟨rfl, rfl, rfl, by decide +kernel, rfl, by decide +kernel, by decide +kernel⟩
theorem dv__law_pair_right {P : Program} {w : World} {K : PySem.W.Frag} {mg : Str → Option Value} {base : Heap} {f : Addr} {cdv : Value} {A : Around} {outer : List Env} {s : Shared} {H : Hp} {E : XK} {O : Org} {W : DWX} {c : CT} (T : TF K mg c) (n_eq : DnOk P w K mg base 1 "__eq__" (tab1 c.Heaps (sp_Heaps___eq__ c)))
    (hG : A.guards = some []) (hr : Room 2 (A.deeper (envOfC "_law_pair_right" (defScope s__law_pair_right) s.heap.objs.size f cdv))) (tk : L2N.Takes (cxOf (L2N.CX P w) P w K mg base N__law_pair_right "_law_pair_right" (defScope s__law_pair_right) f cdv A outer s H E) (liftW K O W)) :
    DSs (cxOf (L2N.CX P w) P w K mg base N__law_pair_right "_law_pair_right" (defScope s__law_pair_right) f cdv A outer s H E) O (defBody s__law_pair_right) (t__law_pair_right c W) :=
  dss_one (ds_ret (de_cmp (op_eqA (hu64 hr)) ref_eq (de_callB (call_reprD hG hr) ref_repr (by rfl) T.b_repr bt_repr (das_cons (de_lst false (das_cons (de_cmp (op_eqBA n_eq (fun C z e => by obtain ⟨rfl, _⟩ := tab1_of e; exact T.oc_Heaps) hG hr (by decide)) ref_cmpO (de_var (pv 0)) (de_var (pv 1)) (nomark _)) (das_cons (de_cmp (op_eqBA n_eq (fun C z e => by obtain ⟨rfl, _⟩ := tab1_of e; exact T.oc_Heaps) hG hr (by decide)) ref_cmpO (de_var (pv 1)) (de_var (pv 0)) (nomark _)) (das_cons (de_cmp (op_neBA n_eq (fun C z e => by obtain ⟨rfl, _⟩ := tab1_of e; exact T.oc_Heaps) hG hr (by decide)) ref_cmpO (de_var (pv 0)) (de_var (pv 1)) (nomark _)) (das_cons (de_cmp (op_neBA n_eq (fun C z e => by obtain ⟨rfl, _⟩ := tab1_of e; exact T.oc_Heaps) hG hr (by decide)) ref_cmpO (de_var (pv 1)) (de_var (pv 0)) (nomark _)) (das_nil)))))) (das_nil))) (de_callB (call_reprD hG hr) ref_repr (by rfl) T.b_repr bt_repr (das_cons (de_lst false (das_cons (de_var (pv 2)) (das_cons (de_var (pv 2)) (das_cons (de_not (de_var (pv 2))) (das_cons (de_not (de_var (pv 2))) (das_nil)))))) (das_nil))) (nomark _)))
theorem ok__law_pair_right {P : Program} {w : World} {K : PySem.W.Frag} {mg : Str → Option Value} {base : Heap} {f : Addr} {fd : FuncData} {c : CT} (F : FunD K "_law_pair_right" "_law_pair_right" (defArgs s__law_pair_right) (defBody s__law_pair_right) (defScope s__law_pair_right) [] [] f fd) (T : TF K mg c) (n_eq : DnOk P w K mg base 1 "__eq__" (tab1 c.Heaps (sp_Heaps___eq__ c))) :
    DFnG P w K mg base 3 f fd ["_law_mine", "_law_mate", "_law_due"] (sp__law_pair_right c) :=
  dfnG_ok F S__law_pair_right (len__law_pair_right c) fun cdv A outer s H E O W hG hr tk => ⟨t__law_pair_right c W, dv__law_pair_right T n_eq hG hr tk, fun ds M Q E' h e => e ▸ pure__law_pair_right c ds M Q E' h⟩
abbrev s__law_others : Stmt := topS 26
theorem S__law_others : FnScope N__law_others ["_law_pot_here", "_law_kinds_here"] (defScope s__law_others) := ⟨rfl, rfl, rfl, by decide +kernel, rfl, by decide +kernel, by decide +kernel⟩
theorem dv__law_others {P : Program} {w : World} {K : PySem.W.Frag} {mg : Str → Option Value} {base : Heap} {f : Addr} {cdv : Value} {A : Around} {outer : List Env} {s : Shared} {H : Hp} {E : XK} {O : Org} {W : DWX} {c : CT} (T : TF K mg c) (c__law_scoop_2 : OwnP P w K mg base 1 "_law_scoop" 2 [] [0, 1] [] (sp__law_scoop c))
    (hG : A.guards = some []) (hr : Room 1 (A.deeper (envOfC "_law_others" (defScope s__law_others) s.heap.objs.size f cdv))) (tk : L2N.Takes (cxOf (L2N.CX P w) P w K mg base N__law_others "_law_others" (defScope s__law_others) f cdv A outer s H E) (liftW K O W)) :
    DSs (cxOf (L2N.CX P w) P w K mg base N__law_others "_law_others" (defScope s__law_others) f cdv A outer s H E) O (defBody s__law_others) (t__law_others c W) :=
  dss_cons (ds_par (i := 2) (j := 3) rfl S__law_others.nd rfl rfl (by decide) rfl rfl (de_ownP c__law_scoop_2 hG hr (by decide) (by rfl) takes_no (dak (das_cons (de_var (pv 0)) (das_cons (de_callB len_all ref_len (by rfl) T.b_len bt_len (das_cons (de_var (pv 1)) (das_nil))) (das_nil))) (dks_nil))) (de_lst true (das_cons (de_var (pv 1)) (das_nil))) (by rfl))
      (dss_cons (ds_asg (vs := [4, 5]) (de_ix (de_var (pv 1)) (de_var (pv 2)) (fun _ _ => rfl)) (pg_tup rfl (pgs_cons (pg_name (i := 4) S__law_others.nd rfl (.inl rfl)) (pgs_cons (pg_name (i := 5) S__law_others.nd rfl (.inl rfl)) (pgs_nil)))) (ref_gTup (ref_gCons (ref_gName (by decide)) (ref_gCons (ref_gName (by decide)) (ref_gNil)))))
      (dss_cons (ds_expr (de_append (de_var (pv 3)) (de_op op_addAll (ref_add (mu := false)) (de_op op_addAll (ref_add (mu := false)) (de_slice false (de_var (pv 1)) (do_none) (do_some (de_var (pv 2)))) (de_tup (das_cons (de_tup (das_cons (de_var (pv 4)) (das_cons (de_op op_addAll (ref_add (mu := false)) (de_var (pv 5)) (de_c pe_int rfl)) (das_nil)))) (das_nil)))) (de_slice false (de_var (pv 1)) (do_some (de_op op_addAll (ref_add (mu := false)) (de_var (pv 2)) (de_c pe_int rfl))) (do_none)))))
      (dss_cons (ds_expr (de_append (de_var (pv 3)) (de_op op_addAll (ref_add (mu := false)) (de_slice false (de_var (pv 1)) (do_none) (do_some (de_neg (de_c pe_int rfl)))) (de_tup (das_cons (de_tup (das_cons (de_op op_addAll (ref_add (mu := false)) (de_ix (de_ix (de_var (pv 1)) (de_neg (de_c pe_int rfl)) (fun _ _ => rfl)) (de_c pe_int rfl) (fun _ _ => rfl)) (de_c pe_int rfl)) (das_cons (de_ix (de_ix (de_var (pv 1)) (de_neg (de_c pe_int rfl)) (fun _ _ => rfl)) (de_c pe_int rfl) (fun _ _ => rfl)) (das_nil)))) (das_nil))))))
      (dss_cons (ds_expr (de_append (de_var (pv 3)) (de_callTy call_tupleF ref_tuple (by rfl) T.b_tuple bt_tuple (das_cons (de_lc (own := [("_law_size", 6), ("_law_number", 7)]) false rfl S__law_others.nd (di_seq (de_var (pv 1))) (blkOk_by (N := N__law_others) (sc := defScope s__law_others) (by decide +kernel)) (fun _ _ _ _ _ => pg_tup rfl (pgs_cons (pg_name (i := 6) S__law_others.nd rfl (.inl rfl)) (pgs_cons (pg_name (i := 7) S__law_others.nd rfl (.inl rfl)) (pgs_nil)))) (ref_gTup (ref_gCons (ref_gName (by decide)) (ref_gCons (ref_gName (by decide)) (ref_gNil)))) (fun _ _ _ _ _ => dts_nil) (fun _ _ _ _ _ => de_tup (das_cons (de_op op_addAll (ref_add (mu := false)) (de_var (pv 6)) (de_c pe_int rfl)) (das_cons (de_var (pv 7)) (das_nil))))) (das_nil)))))
      (dss_cons (ds_expr (de_append (de_var (pv 3)) (de_op op_addAll (ref_add (mu := false)) (de_tup (das_cons (de_tup (das_cons (de_ix (de_ix (de_var (pv 1)) (de_c pe_int rfl) (fun _ _ => rfl)) (de_c pe_int rfl) (fun _ _ => rfl)) (das_cons (de_op op_addAll (ref_add (mu := false)) (de_ix (de_ix (de_var (pv 1)) (de_c pe_int rfl) (fun _ _ => rfl)) (de_c pe_int rfl) (fun _ _ => rfl)) (de_op op_pow ref_pow (de_c pe_int rfl) (de_c pe_int rfl))) (das_nil)))) (das_nil))) (de_slice false (de_var (pv 1)) (do_some (de_c pe_int rfl)) (do_none)))))
      (dss_one (ds_ret (de_op op_addAll (ref_add (mu := false)) (de_var (pv 3)) (de_if (dt_cmp op_gt ref_gt (de_callB len_all ref_len (by rfl) T.b_len bt_len (das_cons (de_var (pv 1)) (das_nil))) (de_c pe_int rfl) (nomark _)) (de_lst false (das_cons (de_slice false (de_var (pv 1)) (do_some (de_c pe_int rfl)) (do_none)) (das_cons (de_slice false (de_var (pv 1)) (do_none) (do_some (de_neg (de_c pe_int rfl)))) (das_nil)))) (de_lst false (das_nil)))))))))))
theorem ok__law_others {P : Program} {w : World} {K : PySem.W.Frag} {mg : Str → Option Value} {base : Heap} {f : Addr} {fd : FuncData} {c : CT} (F : FunD K "_law_others" "_law_others" (defArgs s__law_others) (defBody s__law_others) (defScope s__law_others) [] [] f fd) (T : TF K mg c) (c__law_scoop_2 : OwnP P w K mg base 1 "_law_scoop" 2 [] [0, 1] [] (sp__law_scoop c)) :
    DFnG P w K mg base 2 f fd ["_law_pot_here", "_law_kinds_here"] (sp__law_others c) :=
  dfnG_ok F S__law_others (len__law_others c) fun cdv A outer s H E O W hG hr tk => ⟨t__law_others c W, dv__law_others T c__law_scoop_2 hG hr tk, fun ds M Q E' h e => e ▸ pure__law_others c ds M Q E' h⟩
abbrev s__law_right : Stmt := topS 27
theorem S__law_right : FnScope N__law_right ["_law_pot_here"] (defScope s__law_right) := ⟨rfl, rfl, rfl, by decide +kernel, rfl, by decide +kernel, by decide +kernel⟩
theorem dv__law_right {P : Program} {w : World} {K : PySem.W.Frag} {mg : Str → Option Value} {base : Heap} {f : Addr} {cdv : Value} {A : Around} {outer : List Env} {s : Shared} {H : Hp} {E : XK} {O : Org} {W : DWX} {c : CT} (T : TF K mg c) (c__law_few_3 : OwnP P w K mg base 2 "_law_few" 3 [] [0, 1, 2] [] (sp__law_few c)) (c__law_others_2 : OwnP P w K mg base 2 "_law_others" 2 [] [0, 1] [] (sp__law_others c)) (c__law_page_1 : OwnP P w K mg base 1 "_law_page" 1 [] [0] [] (sp__law_page c)) (c__law_pair_right_3 : OwnP P w K mg base 3 "_law_pair_right" 3 [] [0, 1, 2] [] (sp__law_pair_right c)) (k_Heaps_1 : MkP P w K mg base 4 c.Heaps 1 [] [0, 1] [] (sp_Heaps___init__ c)) (m_Heaps_read_1 : CmP P w K mg base 6 c.Heaps "read" 1 [] [0, 1] [] (sp_Heaps_read c)) (n_len : DnOk P w K mg base 1 "__len__" (tab1 c.Heaps (sp_Heaps___len__ c))) (n_str : DnOk P w K mg base 1 "__str__" (tab1 c.Heaps (sp_Heaps___str__ c))) (p_kinds : PrOk P w K mg base 1 "kinds" (tab1 c.Heaps (sp_Heaps_kinds c))) (p_many : PrOk P w K mg base 1 "many" (tab1 c.Heaps (sp_Heaps_many c)))
    (hG : A.guards = some []) (hr : Room 6 (A.deeper (envOfC "_law_right" (defScope s__law_right) s.heap.objs.size f cdv))) (tk : L2N.Takes (cxOf (L2N.CX P w) P w K mg base N__law_right "_law_right" (defScope s__law_right) f cdv A outer s H E) (liftW K O W)) :
    DSs (cxOf (L2N.CX P w) P w K mg base N__law_right "_law_right" (defScope s__law_right) f cdv A outer s H E) O (defBody s__law_right) (t__law_right c W) :=
  dss_cons (ds_set (i := 1) S__law_right.nd rfl (.inl rfl) (de_ownP c__law_few_3 hG hr (by decide) (by rfl) takes_no (dak (das_cons (de_var (pv 0)) (das_cons (de_c pe_int rfl) (das_cons (de_c pe_int rfl) (das_nil)))) (dks_nil))))
      (dss_cons (ds_par (i := 2) (j := 3) rfl S__law_right.nd rfl rfl (by decide) rfl rfl (de_mkP true k_Heaps_1 T.g_Heaps hG hr (by decide) (by rfl) takes_no (dak (das_cons (de_var (pv 1)) (das_nil)) (dks_nil))) (de_ownP c__law_page_1 hG hr (by decide) (by rfl) takes_no (dak (das_cons (de_var (pv 1)) (das_nil)) (dks_nil))) (by rfl))
      (dss_cons (ds_for (vs := [4]) (by first | exact PassesOwn.never | exact passes_of rfl) rfl (di_seq (de_ownP c__law_others_2 hG hr (by decide) (by rfl) takes_no (dak (das_cons (de_var (pv 0)) (das_cons (de_var (pv 1)) (das_nil))) (dks_nil)))) (pg_name (i := 4) S__law_right.nd rfl (.inl rfl)) (ref_gName (by decide)) (dss_one (ds_if (dw (dw_or (dt_not (dt_truth (de_ownP c__law_pair_right_3 hG hr (by decide) (by rfl) takes_no (dak (das_cons (de_var (pv 2)) (das_cons (de_mkP true k_Heaps_1 T.g_Heaps hG hr (by decide) (by rfl) takes_no (dak (das_cons (de_var (pv 4)) (das_nil)) (dks_nil))) (das_cons (de_cmp (op_eqA (hu64 hr)) ref_eq (de_var (pv 4)) (de_var (pv 1)) (nomark _)) (das_nil)))) (dks_nil))))) (dw_or1 (dt_cmp (op_neA (hu64 hr)) ref_ne (de_callTy (str_own n_str hG hr (by decide)) ref_strO (by rfl) T.b_str bt_str (das_cons (de_var (pv 2)) (das_nil))) (de_var (pv 3)) (nomark _))))) (dss_one (ds_ret (de_c pe_bl rfl))) (dss_nil))))
      (dss_cons (ds_if (dt_not (dt_truth (de_ownP c__law_pair_right_3 hG hr (by decide) (by rfl) takes_no (dak (das_cons (de_var (pv 2)) (das_cons (de_cmP (de_cls T.g_Heaps (by rfl)) m_Heaps_read_1 hG hr (by decide) takes_no (dak (das_cons (de_var (pv 3)) (das_nil)) (dks_nil))) (das_cons (de_c pe_bl rfl) (das_nil)))) (dks_nil))))) (dss_one (ds_ret (de_c pe_bl rfl))) (dss_nil))
      (dss_cons (ds_for (vs := [5]) (by first | exact PassesOwn.never | exact passes_of rfl) rfl (di_seq (de_lst false (das_cons (de_var (pv 3)) (das_cons (de_var (pv 1)) (das_cons (de_c pe_non rfl) (das_cons (de_c pe_bl rfl) (das_cons (de_callB (len_own n_len hG hr (by decide)) ref_lenO (by rfl) T.b_len bt_len (das_cons (de_var (pv 1)) (das_nil))) (das_cons (de_pr (de_var (pv 2)) p_many hG hr (by decide)) (das_cons (de_dnew) (das_cons (de_lst false (das_cons (de_var (pv 2)) (das_nil))) (das_cons (de_tup (das_cons (de_var (pv 2)) (das_nil))) (das_cons (de_c pe_str rfl) (das_nil))))))))))))) (pg_name (i := 5) S__law_right.nd rfl (.inl rfl)) (ref_gName (by decide)) (dss_one (ds_if (dt_not (dt_truth (de_ownP c__law_pair_right_3 hG hr (by decide) (by rfl) takes_no (dak (das_cons (de_var (pv 2)) (das_cons (de_var (pv 5)) (das_cons (de_c pe_bl rfl) (das_nil)))) (dks_nil))))) (dss_one (ds_ret (de_c pe_bl rfl))) (dss_nil))))
      (dss_one (ds_ret (de_cmp (op_eqA (hu64 hr)) ref_eq (de_pr (de_var (pv 2)) p_kinds hG hr (by decide)) (de_var (pv 1)) (nomark _))))))))
theorem ok__law_right {P : Program} {w : World} {K : PySem.W.Frag} {mg : Str → Option Value} {base : Heap} {f : Addr} {fd : FuncData} {c : CT} (F : FunD K "_law_right" "_law_right" (defArgs s__law_right) (defBody s__law_right) (defScope s__law_right) [] [] f fd) (T : TF K mg c) (c__law_few_3 : OwnP P w K mg base 2 "_law_few" 3 [] [0, 1, 2] [] (sp__law_few c)) (c__law_others_2 : OwnP P w K mg base 2 "_law_others" 2 [] [0, 1] [] (sp__law_others c)) (c__law_page_1 : OwnP P w K mg base 1 "_law_page" 1 [] [0] [] (sp__law_page c)) (c__law_pair_right_3 : OwnP P w K mg base 3 "_law_pair_right" 3 [] [0, 1, 2] [] (sp__law_pair_right c)) (k_Heaps_1 : MkP P w K mg base 4 c.Heaps 1 [] [0, 1] [] (sp_Heaps___init__ c)) (m_Heaps_read_1 : CmP P w K mg base 6 c.Heaps "read" 1 [] [0, 1] [] (sp_Heaps_read c)) (n_len : DnOk P w K mg base 1 "__len__" (tab1 c.Heaps (sp_Heaps___len__ c))) (n_str : DnOk P w K mg base 1 "__str__" (tab1 c.Heaps (sp_Heaps___str__ c))) (p_kinds : PrOk P w K mg base 1 "kinds" (tab1 c.Heaps (sp_Heaps_kinds c))) (p_many : PrOk P w K mg base 1 "many" (tab1 c.Heaps (sp_Heaps_many c))) :
    DFnG P w K mg base 7 f fd ["_law_pot_here"] (sp__law_right c) :=
  dfnG_ok F S__law_right (len__law_right c) fun cdv A outer s H E O W hG hr tk => ⟨t__law_right c W, dv__law_right T c__law_few_3 c__law_others_2 c__law_page_1 c__law_pair_right_3 k_Heaps_1 m_Heaps_read_1 n_len n_str p_kinds p_many hG hr tk, fun ds M Q E' h e => e ▸ pure__law_right c ds M Q E' h⟩
abbrev s__law_quiet : Stmt := topS 28
theorem S__law_quiet : FnScope N__law_quiet ["_law_pot_here"] (defScope s__law_quiet) := ⟨rfl, rfl, rfl, by decide +kernel, rfl, by decide +kernel, by decide +kernel⟩
theorem dv__law_quiet {P : Program} {w : World} {K : PySem.W.Frag} {mg : Str → Option Value} {base : Heap} {f : Addr} {cdv : Value} {A : Around} {outer : List Env} {s : Shared} {H : Hp} {E : XK} {O : Org} {W : DWX} {c : CT} (T : TF K mg c) (c__law_right_1 : OwnP P w K mg base 7 "_law_right" 1 [] [0] [] (sp__law_right c))
    (hG : A.guards = some []) (hr : Room 7 (A.deeper (envOfC "_law_quiet" (defScope s__law_quiet) s.heap.objs.size f cdv))) (tk : L2N.Takes (cxOf (L2N.CX P w) P w K mg base N__law_quiet "_law_quiet" (defScope s__law_quiet) f cdv A outer s H E) (liftW K O W)) :
    DSs (cxOf (L2N.CX P w) P w K mg base N__law_quiet "_law_quiet" (defScope s__law_quiet) f cdv A outer s H E) O (defBody s__law_quiet) (t__law_quiet c W) :=
  dss_cons (ds_thru (dss_one (ds_set (i := 1) S__law_quiet.nd rfl (.inl rfl) (de_ownP c__law_right_1 hG hr (by decide) (by rfl) takes_no (dak (das_cons (de_var (pv 0)) (das_nil)) (dks_nil))))))
      (dss_one (ds_ret (de_var (pv 1))))
theorem ok__law_quiet {P : Program} {w : World} {K : PySem.W.Frag} {mg : Str → Option Value} {base : Heap} {f : Addr} {fd : FuncData} {c : CT} (F : FunD K "_law_quiet" "_law_quiet" (defArgs s__law_quiet) (defBody s__law_quiet) (defScope s__law_quiet) [] [] f fd) (T : TF K mg c) (c__law_right_1 : OwnP P w K mg base 7 "_law_right" 1 [] [0] [] (sp__law_right c)) :
    DFnG P w K mg base 8 f fd ["_law_pot_here"] (sp__law_quiet c) :=
  dfnG_ok F S__law_quiet (len__law_quiet c) fun cdv A outer s H E O W hG hr tk => ⟨t__law_quiet c W, dv__law_quiet T c__law_right_1 hG hr tk, fun ds M Q E' h e => e ▸ pure__law_quiet c ds M Q E' h⟩
abbrev s_law : Stmt := topS 29
theorem S_law : FnScope N_law ["_law_script"] (defScope s_law) := ⟨rfl, rfl, rfl, by decide +kernel, rfl, by decide +kernel, by decide +kernel⟩
theorem dv_law {P : Program} {w : World} {K : PySem.W.Frag} {mg : Str → Option Value} {base : Heap} {f : Addr} {cdv : Value} {A : Around} {outer : List Env} {s : Shared} {H : Hp} {E : XK} {O : Org} {W : DWX} {c : CT} (T : TF K mg c) (c__law_pot_2 : OwnP P w K mg base 1 "_law_pot" 2 [] [0, 1] [] (sp__law_pot c)) (c__law_quiet_1 : OwnP P w K mg base 8 "_law_quiet" 1 [] [0] [] (sp__law_quiet c))
    (hG : A.guards = some []) (hr : Room 8 (A.deeper (envOfC "law" (defScope s_law) s.heap.objs.size f cdv))) (tk : L2N.Takes (cxOf (L2N.CX P w) P w K mg base N_law "law" (defScope s_law) f cdv A outer s H E) (liftW K O W)) :
    DSs (cxOf (L2N.CX P w) P w K mg base N_law "law" (defScope s_law) f cdv A outer s H E) O (defBody s_law) (t_law c W) :=
  dss_one (ds_ret (de_callB (cr_all rfl) ref_all (by rfl) T.b_all bt_all (das_cons (de_lc (own := [("_law_turn", 1)]) false rfl S_law.nd (di_range1 (by rfl) T.b_range (de_callB (call_max2 rfl) ref_max2 (by rfl) T.b_max bt_max (das_cons (de_c pe_int rfl) (das_cons (de_callB (call_min2 rfl) ref_min2 (by rfl) T.b_min bt_min (das_cons (de_callB len_all ref_len (by rfl) T.b_len bt_len (das_cons (de_var (pv 0)) (das_nil))) (das_cons (de_c pe_int rfl) (das_nil)))) (das_nil))))) (blkOk_by (N := N_law) (sc := defScope s_law) (by decide +kernel)) (fun _ _ _ _ _ => pg_name (i := 1) S_law.nd rfl (.inl rfl)) (ref_gName (by decide)) (fun _ _ _ _ _ => dts_nil) (fun _ _ _ _ _ => de_ownP c__law_quiet_1 hG hr (by decide) (by rfl) takes_no (dak (das_cons (de_ownP c__law_pot_2 hG hr (by decide) (by rfl) takes_no (dak (das_cons (de_var (pv 0)) (das_cons (de_var (pv 1)) (das_nil))) (dks_nil))) (das_nil)) (dks_nil)))) (das_nil))))
theorem ok_law {P : Program} {w : World} {K : PySem.W.Frag} {mg : Str → Option Value} {base : Heap} {f : Addr} {fd : FuncData} {c : CT} (F : FunD K "law" "law" (defArgs s_law) (defBody s_law) (defScope s_law) [] [] f fd) (T : TF K mg c) (c__law_pot_2 : OwnP P w K mg base 1 "_law_pot" 2 [] [0, 1] [] (sp__law_pot c)) (c__law_quiet_1 : OwnP P w K mg base 8 "_law_quiet" 1 [] [0] [] (sp__law_quiet c)) :
    DFnG P w K mg base 9 f fd ["_law_script"] (sp_law c) :=
  dfnG_ok F S_law (len_law c) fun cdv A outer s H E O W hG hr tk => ⟨t_law c W, dv_law T c__law_pot_2 c__law_quiet_1 hG hr tk, fun ds M Q E' h e => e ▸ pure_law c ds M Q E' h⟩
/-! ### the head -/
def ctK (K : PySem.W.Frag) : CT := ⟨He.ga K "Heaps", He.ga K "Yard", He.ga K "Book", He.ga K "WrongValue", He.ga K "WrongName", He.ga K "NoAnswer", He.ga K "InvalidText", He.ga K "InvalidKinds", He.ga K "NotHeaps", He.ga K "InvalidNumber", He.ga K "InvalidTable", He.ga K "InvalidRow", He.ga K "InvalidHighs", He.ga K "InvalidDepths", He.ga K "NoPlan", He.ga K "Run", He.ga K "Mark", He.ga K "Trial", He.ga K "Attempt", He.ga K "InvalidName", He.ga K "InvalidWish", He.ga K "InvalidIndex", He.ga K "UnknownName", He.ga K "TooFew", He.ga K "NothingToUndo", He.ga K "Broken", fun x => He.ga K x, fun _ => default⟩
def exF : List FB := [bF (.free "abs"),
  bF (.free "all"),
  bF (.free "bool"),
  bF (.free "divmod"),
  bF (.free "enumerate"),
  bF (.free "int"),
  bF (.free "isinstance"),
  bF (.free "len"),
  bF (.free "max"),
  bF (.free "min"),
  bF (.free "range"),
  bF (.free "repr"),
  bF (.free "str"),
  bF (.free "sum"),
  bF (.free "tuple"),
  bF (.str "DIGITS" "0123456789"),
  bF (.int "MOST_KINDS" 12),
  bF (.int "MOST_MANY" 1000000000000000000000000000000),
  bF (.int "MOST_SIZE" 1000000000000000000000000000000),
  bF (.glo "Heaps"),
  bF (.cls "Heaps"),
  bF (.noat "Heaps" "rows"),
  bOwn "Heaps",
  bKit (fun K => .ref (He.ga K "Heaps")) (fun _ => .type "int") false,
  bKit (fun K => .ref (He.ga K "Heaps")) (fun _ => .type "bool") false,
  bKit (fun K => .ref (He.ga K "Heaps")) (fun _ => .type "tuple") false,
  bKit (fun K => .ref (He.ga K "Heaps")) (fun _ => .type "str") false,
  bNo "Heaps",
  bKit (fun K => .ref (He.ga K "Heaps")) (fun K => .ref (He.ga K "Heaps")) true,
  bOc "Heaps",
  bF (.glo "is_integer"),
  bF (.glo "is_within"),
  bF (.glo "read_number"),
  bF (.glo "wrong_kind"),
  bF (.glo "read_kind"),
  bF (.glo "read_heaps"),
  bF (.mkr "Heaps"),
  bRd "Heaps",
  bCm "Heaps" "read",
  bPr "Heaps" "kinds",
  bPr "Heaps" "many",
  bF (.meth "Heaps" "__len__"),
  bF (.meth "Heaps" "__eq__"),
  bF (.meth "Heaps" "__str__"),
  bF (.glo "_law_pot"),
  bF (.glo "_law_scoop"),
  bF (.glo "_law_few"),
  bF (.glo "_law_page"),
  bF (.glo "_law_pair_right"),
  bF (.glo "_law_others"),
  bF (.glo "_law_right"),
  bF (.glo "_law_quiet"),
  bF (.glo "law")]
def fnF : List He5.DefA := [⟨fun K => He.ga K "is_integer", "is_integer", "is_integer", defArgs s_is_integer, defBody s_is_integer, defScope s_is_integer, [], []⟩,
  ⟨fun K => He.ga K "is_within", "is_within", "is_within", defArgs s_is_within, defBody s_is_within, defScope s_is_within, [], []⟩,
  ⟨fun K => He.ga K "read_number", "read_number", "read_number", defArgs s_read_number, defBody s_read_number, defScope s_read_number, [], []⟩,
  ⟨fun K => He.ga K "wrong_kind", "wrong_kind", "wrong_kind", defArgs s_wrong_kind, defBody s_wrong_kind, defScope s_wrong_kind, [], []⟩,
  ⟨fun K => He.ga K "read_kind", "read_kind", "read_kind", defArgs s_read_kind, defBody s_read_kind, defScope s_read_kind, [], []⟩,
  ⟨fun K => He.ga K "read_heaps", "read_heaps", "read_heaps", defArgs s_read_heaps, defBody s_read_heaps, defScope s_read_heaps, [], []⟩,
  ⟨fun K => He.ma K (He.ga K "Heaps") "__init__", "__init__", "Heaps.__init__", defArgs s_Heaps___init__, defBody s_Heaps___init__, defScope s_Heaps___init__, [], []⟩,
  ⟨fun K => He5.wf K (He.ga K "Heaps") "classmethod" "read", "read", "Heaps.read", defArgs s_Heaps_read, defBody s_Heaps_read, defScope s_Heaps_read, [], []⟩,
  ⟨fun K => He5.wf K (He.ga K "Heaps") "property" "kinds", "kinds", "Heaps.kinds", defArgs s_Heaps_kinds, defBody s_Heaps_kinds, defScope s_Heaps_kinds, [], []⟩,
  ⟨fun K => He5.wf K (He.ga K "Heaps") "property" "many", "many", "Heaps.many", defArgs s_Heaps_many, defBody s_Heaps_many, defScope s_Heaps_many, [], []⟩,
  ⟨fun K => He.ma K (He.ga K "Heaps") "__len__", "__len__", "Heaps.__len__", defArgs s_Heaps___len__, defBody s_Heaps___len__, defScope s_Heaps___len__, [], []⟩,
  ⟨fun K => He.ma K (He.ga K "Heaps") "__eq__", "__eq__", "Heaps.__eq__", defArgs s_Heaps___eq__, defBody s_Heaps___eq__, defScope s_Heaps___eq__, [], []⟩,
  ⟨fun K => He.ma K (He.ga K "Heaps") "__str__", "__str__", "Heaps.__str__", defArgs s_Heaps___str__, defBody s_Heaps___str__, defScope s_Heaps___str__, [], []⟩,
  ⟨fun K => He.ga K "_law_pot", "_law_pot", "_law_pot", defArgs s__law_pot, defBody s__law_pot, defScope s__law_pot, [], []⟩,
  ⟨fun K => He.ga K "_law_scoop", "_law_scoop", "_law_scoop", defArgs s__law_scoop, defBody s__law_scoop, defScope s__law_scoop, [], []⟩,
  ⟨fun K => He.ga K "_law_few", "_law_few", "_law_few", defArgs s__law_few, defBody s__law_few, defScope s__law_few, [], []⟩,
  ⟨fun K => He.ga K "_law_page", "_law_page", "_law_page", defArgs s__law_page, defBody s__law_page, defScope s__law_page, [], []⟩,
  ⟨fun K => He.ga K "_law_pair_right", "_law_pair_right", "_law_pair_right", defArgs s__law_pair_right, defBody s__law_pair_right, defScope s__law_pair_right, [], []⟩,
  ⟨fun K => He.ga K "_law_others", "_law_others", "_law_others", defArgs s__law_others, defBody s__law_others, defScope s__law_others, [], []⟩,
  ⟨fun K => He.ga K "_law_right", "_law_right", "_law_right", defArgs s__law_right, defBody s__law_right, defScope s__law_right, [], []⟩,
  ⟨fun K => He.ga K "_law_quiet", "_law_quiet", "_law_quiet", defArgs s__law_quiet, defBody s__law_quiet, defScope s__law_quiet, [], []⟩,
  ⟨fun K => He.ga K "law", "law", "law", defArgs s_law, defBody s_law, defScope s_law, [], []⟩]
set_option maxHeartbeats 0 in
theorem facts {P : Program} {w : World} {K : PySem.W.Frag} {h : Heap} {mg : Str → Option Value} {f : Addr} (KX : K.In h) (G : h.Ns mainGlobals mg) (hfa : mg "law" = some (.ref f)) (s : SaysR exF fnF K) :
    ∃ fd : FuncData, (∀ (st : Shared) (v : Value), BindsTo st fd ⟨[v], []⟩ [("_law_script", v)]) ∧ ∀ base : Heap, K.In base → base.Ns mainGlobals mg → DFnG P w K mg base 9 f fd ["_law_script"] (sp_law (ctK K)) := by
  have T : TF K mg (ctK K) := ⟨He.free_ok KX G (s.fact 0),
    He.free_ok KX G (s.fact 1),
    He.free_ok KX G (s.fact 2),
    He.free_ok KX G (s.fact 3),
    He.free_ok KX G (s.fact 4),
    He.free_ok KX G (s.fact 5),
    He.free_ok KX G (s.fact 6),
    He.free_ok KX G (s.fact 7),
    He.free_ok KX G (s.fact 8),
    He.free_ok KX G (s.fact 9),
    He.free_ok KX G (s.fact 10),
    He.free_ok KX G (s.fact 11),
    He.free_ok KX G (s.fact 12),
    He.free_ok KX G (s.fact 13),
    He.free_ok KX G (s.fact 14),
    He.str_ok KX G (s.fact 15),
    He.int_ok KX G (s.fact 16),
    He.int_ok KX G (s.fact 17),
    He.int_ok KX G (s.fact 18),
    He.glo_ok KX G (s.fact 19),
    (fun C e => e ▸ ⟨(He.cls_ok (s.fact 20)), He.noat_ok (s.fact 21)⟩),
    (fun C e => (show C = He.ga K "Heaps" from e) ▸ ⟨(bOwn_ok (s.fact 22) (He.cls_ok (s.fact 20))), bKit_ok (a := fun K => .ref (He.ga K "Heaps")) (c := fun _ => .type "int") (s.fact 23)⟩),
    (fun C e => (show C = He.ga K "Heaps" from e) ▸ ⟨(bOwn_ok (s.fact 22) (He.cls_ok (s.fact 20))), bKit_ok (a := fun K => .ref (He.ga K "Heaps")) (c := fun _ => .type "bool") (s.fact 24)⟩),
    (fun C e => (show C = He.ga K "Heaps" from e) ▸ ⟨(bOwn_ok (s.fact 22) (He.cls_ok (s.fact 20))), bKit_ok (a := fun K => .ref (He.ga K "Heaps")) (c := fun _ => .type "tuple") (s.fact 25)⟩),
    (fun C e => (show C = He.ga K "Heaps" from e) ▸ ⟨(bOwn_ok (s.fact 22) (He.cls_ok (s.fact 20))), bKit_ok (a := fun K => .ref (He.ga K "Heaps")) (c := fun _ => .type "str") (s.fact 26)⟩),
    (fun t => bNo_ok (s.fact 27) t),
    (fun C b e => by obtain ⟨rfl, rfl⟩ := tab1_of e; exact ⟨(bOwn_ok (s.fact 22) (He.cls_ok (s.fact 20))), bKit_ok (a := fun K => .ref (He.ga K "Heaps")) (c := fun K => .ref (He.ga K "Heaps")) (s.fact 28)⟩),
    bOc_ok (s.fact 29)⟩
  obtain rfl : f = He.ga K "law" := by have e := hfa.symm.trans (He.glo_ok KX G (s.fact 52)); injection e with e; injection e
  obtain ⟨fd_is_integer, F_is_integer⟩ := s.def_ 0
  obtain ⟨fd_is_within, F_is_within⟩ := s.def_ 1
  obtain ⟨fd_read_number, F_read_number⟩ := s.def_ 2
  obtain ⟨fd_wrong_kind, F_wrong_kind⟩ := s.def_ 3
  obtain ⟨fd_read_kind, F_read_kind⟩ := s.def_ 4
  obtain ⟨fd_read_heaps, F_read_heaps⟩ := s.def_ 5
  obtain ⟨fd_Heaps___init__, F_Heaps___init__⟩ := s.def_ 6
  obtain ⟨fd_Heaps_read, F_Heaps_read⟩ := s.def_ 7
  obtain ⟨fd_Heaps_kinds, F_Heaps_kinds⟩ := s.def_ 8
  obtain ⟨fd_Heaps_many, F_Heaps_many⟩ := s.def_ 9
  obtain ⟨fd_Heaps___len__, F_Heaps___len__⟩ := s.def_ 10
  obtain ⟨fd_Heaps___eq__, F_Heaps___eq__⟩ := s.def_ 11
  obtain ⟨fd_Heaps___str__, F_Heaps___str__⟩ := s.def_ 12
  obtain ⟨fd__law_pot, F__law_pot⟩ := s.def_ 13
  obtain ⟨fd__law_scoop, F__law_scoop⟩ := s.def_ 14
  obtain ⟨fd__law_few, F__law_few⟩ := s.def_ 15
  obtain ⟨fd__law_page, F__law_page⟩ := s.def_ 16
  obtain ⟨fd__law_pair_right, F__law_pair_right⟩ := s.def_ 17
  obtain ⟨fd__law_others, F__law_others⟩ := s.def_ 18
  obtain ⟨fd__law_right, F__law_right⟩ := s.def_ 19
  obtain ⟨fd__law_quiet, F__law_quiet⟩ := s.def_ 20
  obtain ⟨fd_law, F_law⟩ := s.def_ 21
  have o_is_integer := fun base => ok_is_integer (P := P) (w := w) (base := base) F_is_integer T
  have c_is_integer_1 : ∀ base : Heap, OwnP P w K mg base 1 "is_integer" 1 [] [0] [] (sp_is_integer (ctK K)) := fun base => ⟨_, He.glo_ok KX G (s.fact 30), F_is_integer.kp, pk_of (o_is_integer base) (kb_of F_is_integer 1 [] [0] fun kV doc pm an cdv ct us ws h1 h2 => match us, h1, ws, h2 with | [_], _, [], _ => rfl)⟩
  have o_is_within := fun base => ok_is_within (P := P) (w := w) (base := base) F_is_within T (c_is_integer_1 base)
  have c_is_within_3 : ∀ base : Heap, OwnP P w K mg base 2 "is_within" 3 [] [0, 1, 2] [] (sp_is_within (ctK K)) := fun base => ⟨_, He.glo_ok KX G (s.fact 31), F_is_within.kp, pk_of (o_is_within base) (kb_of F_is_within 3 [] [0, 1, 2] fun kV doc pm an cdv ct us ws h1 h2 => match us, h1, ws, h2 with | [_, _, _], _, [], _ => rfl)⟩
  have o_read_number := fun base => ok_read_number (P := P) (w := w) (base := base) F_read_number T
  have c_read_number_1 : ∀ base : Heap, OwnP P w K mg base 1 "read_number" 1 [] [0] [] (sp_read_number (ctK K)) := fun base => ⟨_, He.glo_ok KX G (s.fact 32), F_read_number.kp, pk_of (o_read_number base) (kb_of F_read_number 1 [] [0] fun kV doc pm an cdv ct us ws h1 h2 => match us, h1, ws, h2 with | [_], _, [], _ => rfl)⟩
  have o_wrong_kind := fun base => ok_wrong_kind (P := P) (w := w) (base := base) F_wrong_kind T (c_is_within_3 base)
  have c_wrong_kind_1 : ∀ base : Heap, OwnP P w K mg base 3 "wrong_kind" 1 [] [0] [] (sp_wrong_kind (ctK K)) := fun base => ⟨_, He.glo_ok KX G (s.fact 33), F_wrong_kind.kp, pk_of (o_wrong_kind base) (kb_of F_wrong_kind 1 [] [0] fun kV doc pm an cdv ct us ws h1 h2 => match us, h1, ws, h2 with | [_], _, [], _ => rfl)⟩
  have o_read_kind := fun base => ok_read_kind (P := P) (w := w) (base := base) F_read_kind T (c_read_number_1 base)
  have c_read_kind_1 : ∀ base : Heap, OwnP P w K mg base 2 "read_kind" 1 [] [0] [] (sp_read_kind (ctK K)) := fun base => ⟨_, He.glo_ok KX G (s.fact 34), F_read_kind.kp, pk_of (o_read_kind base) (kb_of F_read_kind 1 [] [0] fun kV doc pm an cdv ct us ws h1 h2 => match us, h1, ws, h2 with | [_], _, [], _ => rfl)⟩
  have o_read_heaps := fun base => ok_read_heaps (P := P) (w := w) (base := base) F_read_heaps T (c_read_kind_1 base) (c_wrong_kind_1 base)
  have c_read_heaps_1 : ∀ base : Heap, OwnP P w K mg base 4 "read_heaps" 1 [] [0] [] (sp_read_heaps (ctK K)) := fun base => ⟨_, He.glo_ok KX G (s.fact 35), F_read_heaps.kp, pk_of (o_read_heaps base) (kb_of F_read_heaps 1 [] [0] fun kV doc pm an cdv ct us ws h1 h2 => match us, h1, ws, h2 with | [_], _, [], _ => rfl)⟩
  have o_Heaps___init__ := fun base => ok_Heaps___init__ (P := P) (w := w) (base := base) F_Heaps___init__ T (c_wrong_kind_1 base)
  have k_Heaps_1 : ∀ base : Heap, MkP P w K mg base 4 (ctK K).Heaps 1 [] [0, 1] [] (sp_Heaps___init__ (ctK K)) := fun base => ⟨_, He.mkr_ok (s.fact 36), pk_of (o_Heaps___init__ base) (kb_of F_Heaps___init__ 2 [] [0, 1] fun kV doc pm an cdv ct us ws h1 h2 => match us, h1, ws, h2 with | [_, _], _, [], _ => rfl)⟩
  have o_Heaps_read := fun base => ok_Heaps_read (P := P) (w := w) (base := base) F_Heaps_read T (c_read_heaps_1 base) (k_Heaps_1 base)
  have m_Heaps_read_1 : ∀ base : Heap, CmP P w K mg base 6 (ctK K).Heaps "read" 1 [] [0, 1] [] (sp_Heaps_read (ctK K)) := fun base => ⟨_, _, _, bRd_ok (s.fact 37), bCm_ok (s.fact 38), pk_of (o_Heaps_read base) (kb_of F_Heaps_read 2 [] [0, 1] fun kV doc pm an cdv ct us ws h1 h2 => match us, h1, ws, h2 with | [_, _], _, [], _ => rfl)⟩
  have o_Heaps_kinds := fun base => ok_Heaps_kinds (P := P) (w := w) (base := base) F_Heaps_kinds T
  have p_kinds : ∀ base : Heap, PrOk P w K mg base 1 "kinds" (tab1 (ctK K).Heaps (sp_Heaps_kinds (ctK K))) := fun base => pr_of (He.cls_ok (s.fact 20)) (bPr_ok (s.fact 39)) (pk_of (o_Heaps_kinds base) (kb_of F_Heaps_kinds 1 [] [0] fun kV doc pm an cdv ct us ws h1 h2 => match us, h1, ws, h2 with | [_], _, [], _ => rfl))
  have o_Heaps_many := fun base => ok_Heaps_many (P := P) (w := w) (base := base) F_Heaps_many T
  have p_many : ∀ base : Heap, PrOk P w K mg base 1 "many" (tab1 (ctK K).Heaps (sp_Heaps_many (ctK K))) := fun base => pr_of (He.cls_ok (s.fact 20)) (bPr_ok (s.fact 40)) (pk_of (o_Heaps_many base) (kb_of F_Heaps_many 1 [] [0] fun kV doc pm an cdv ct us ws h1 h2 => match us, h1, ws, h2 with | [_], _, [], _ => rfl))
  have o_Heaps___len__ := fun base => ok_Heaps___len__ (P := P) (w := w) (base := base) F_Heaps___len__ T
  have n_len : ∀ base : Heap, DnOk P w K mg base 1 "__len__" (tab1 (ctK K).Heaps (sp_Heaps___len__ (ctK K))) := fun base => dn_of (He.meth_ok (s.fact 41)) (o_Heaps___len__ base) (F_Heaps___len__.bindsN fun _ _ _ _ _ _ us hl => match us, hl with | [_], _ => rfl)
  have o_Heaps___eq__ := fun base => ok_Heaps___eq__ (P := P) (w := w) (base := base) F_Heaps___eq__ T
  have n_eq : ∀ base : Heap, DnOk P w K mg base 1 "__eq__" (tab1 (ctK K).Heaps (sp_Heaps___eq__ (ctK K))) := fun base => dn_of (He.meth_ok (s.fact 42)) (o_Heaps___eq__ base) (F_Heaps___eq__.bindsN fun _ _ _ _ _ _ us hl => match us, hl with | [_, _], _ => rfl)
  have o_Heaps___str__ := fun base => ok_Heaps___str__ (P := P) (w := w) (base := base) F_Heaps___str__ T
  have n_str : ∀ base : Heap, DnOk P w K mg base 1 "__str__" (tab1 (ctK K).Heaps (sp_Heaps___str__ (ctK K))) := fun base => dn_of (He.meth_ok (s.fact 43)) (o_Heaps___str__ base) (F_Heaps___str__.bindsN fun _ _ _ _ _ _ us hl => match us, hl with | [_], _ => rfl)
  have o__law_pot := fun base => ok__law_pot (P := P) (w := w) (base := base) F__law_pot T
  have c__law_pot_2 : ∀ base : Heap, OwnP P w K mg base 1 "_law_pot" 2 [] [0, 1] [] (sp__law_pot (ctK K)) := fun base => ⟨_, He.glo_ok KX G (s.fact 44), F__law_pot.kp, pk_of (o__law_pot base) (kb_of F__law_pot 2 [] [0, 1] fun kV doc pm an cdv ct us ws h1 h2 => match us, h1, ws, h2 with | [_, _], _, [], _ => rfl)⟩
  have o__law_scoop := fun base => ok__law_scoop (P := P) (w := w) (base := base) F__law_scoop T
  have c__law_scoop_2 : ∀ base : Heap, OwnP P w K mg base 1 "_law_scoop" 2 [] [0, 1] [] (sp__law_scoop (ctK K)) := fun base => ⟨_, He.glo_ok KX G (s.fact 45), F__law_scoop.kp, pk_of (o__law_scoop base) (kb_of F__law_scoop 2 [] [0, 1] fun kV doc pm an cdv ct us ws h1 h2 => match us, h1, ws, h2 with | [_, _], _, [], _ => rfl)⟩
  have o__law_few := fun base => ok__law_few (P := P) (w := w) (base := base) F__law_few T (c__law_scoop_2 base)
  have c__law_few_3 : ∀ base : Heap, OwnP P w K mg base 2 "_law_few" 3 [] [0, 1, 2] [] (sp__law_few (ctK K)) := fun base => ⟨_, He.glo_ok KX G (s.fact 46), F__law_few.kp, pk_of (o__law_few base) (kb_of F__law_few 3 [] [0, 1, 2] fun kV doc pm an cdv ct us ws h1 h2 => match us, h1, ws, h2 with | [_, _, _], _, [], _ => rfl)⟩
  have o__law_page := fun base => ok__law_page (P := P) (w := w) (base := base) F__law_page T
  have c__law_page_1 : ∀ base : Heap, OwnP P w K mg base 1 "_law_page" 1 [] [0] [] (sp__law_page (ctK K)) := fun base => ⟨_, He.glo_ok KX G (s.fact 47), F__law_page.kp, pk_of (o__law_page base) (kb_of F__law_page 1 [] [0] fun kV doc pm an cdv ct us ws h1 h2 => match us, h1, ws, h2 with | [_], _, [], _ => rfl)⟩
  have o__law_pair_right := fun base => ok__law_pair_right (P := P) (w := w) (base := base) F__law_pair_right T (n_eq base)
  have c__law_pair_right_3 : ∀ base : Heap, OwnP P w K mg base 3 "_law_pair_right" 3 [] [0, 1, 2] [] (sp__law_pair_right (ctK K)) := fun base => ⟨_, He.glo_ok KX G (s.fact 48), F__law_pair_right.kp, pk_of (o__law_pair_right base) (kb_of F__law_pair_right 3 [] [0, 1, 2] fun kV doc pm an cdv ct us ws h1 h2 => match us, h1, ws, h2 with | [_, _, _], _, [], _ => rfl)⟩
  have o__law_others := fun base => ok__law_others (P := P) (w := w) (base := base) F__law_others T (c__law_scoop_2 base)
  have c__law_others_2 : ∀ base : Heap, OwnP P w K mg base 2 "_law_others" 2 [] [0, 1] [] (sp__law_others (ctK K)) := fun base => ⟨_, He.glo_ok KX G (s.fact 49), F__law_others.kp, pk_of (o__law_others base) (kb_of F__law_others 2 [] [0, 1] fun kV doc pm an cdv ct us ws h1 h2 => match us, h1, ws, h2 with | [_, _], _, [], _ => rfl)⟩
  have o__law_right := fun base => ok__law_right (P := P) (w := w) (base := base) F__law_right T (c__law_few_3 base) (c__law_others_2 base) (c__law_page_1 base) (c__law_pair_right_3 base) (k_Heaps_1 base) (m_Heaps_read_1 base) (n_len base) (n_str base) (p_kinds base) (p_many base)
  have c__law_right_1 : ∀ base : Heap, OwnP P w K mg base 7 "_law_right" 1 [] [0] [] (sp__law_right (ctK K)) := fun base => ⟨_, He.glo_ok KX G (s.fact 50), F__law_right.kp, pk_of (o__law_right base) (kb_of F__law_right 1 [] [0] fun kV doc pm an cdv ct us ws h1 h2 => match us, h1, ws, h2 with | [_], _, [], _ => rfl)⟩
  have o__law_quiet := fun base => ok__law_quiet (P := P) (w := w) (base := base) F__law_quiet T (c__law_right_1 base)
  have c__law_quiet_1 : ∀ base : Heap, OwnP P w K mg base 8 "_law_quiet" 1 [] [0] [] (sp__law_quiet (ctK K)) := fun base => ⟨_, He.glo_ok KX G (s.fact 51), F__law_quiet.kp, pk_of (o__law_quiet base) (kb_of F__law_quiet 1 [] [0] fun kV doc pm an cdv ct us ws h1 h2 => match us, h1, ws, h2 with | [_], _, [], _ => rfl)⟩
  refine ⟨fd_law, fun st v => F_law.bindsA (ps := ["_law_script"]) (fun _ _ _ _ _ _ us hl => match us, hl with | [_], _ => rfl) st [v] rfl, fun base _ _ => ?_⟩
  exact ok_law F_law T (c__law_pot_2 base) (c__law_quiet_1 base)
abbrev Rw : PySem.W.OpenRow := PySem.W.OpenLaw.row PySem.Challenge.rw_runheaps_k05_heaps_compared
abbrev hk : PySem.W.Hook := hookR 6 exF fnF
def obF (s : PySem.W.SharedT) : AlR := obsR 6 exF fnF (HandSHeadRun.getT s)
theorem obF_eq (s : PySem.W.SharedT) : obF s = hk.obs s.abs := obsR_eq (HandSHeadRun.getT_eq s)
def looseF : List Str := (["_wall", "WrongValue", "InvalidText", "InvalidKinds", "WrongName", "NoAnswer", "MOST_KINDS", "MOST_SIZE", "MOST_MANY", "DIGITS", "is_integer", "is_within", "read_number", "wrong_kind", "read_kind", "read_heaps"] : List Str) ++ (["Heaps", "_law_pot", "_law_scoop", "_law_few", "_law_page", "_law_pair_right", "_law_others", "_law_right", "_law_quiet"] : List Str)
set_option maxHeartbeats 0 in
theorem run (w : World) : HandSHeadRun.RunEq Rw (PySem.W.view Rw.prog [29]) hk obF 12000 looseF w := by
  intro os
  kernel_rfl
end Rh
open PySem PySem.W PySem.Calls PyProof.Rows
set_option maxHeartbeats 0 in
theorem PySem.Challenge.cw_runheaps_k05_heaps_compared_holds : PySem.Challenge.rw_runheaps_k05_heaps_compared.Holds := by
  w_on; o_law
  refine HandSHeadRun.head_any (r := OpenLaw.row PySem.Challenge.rw_runheaps_k05_heaps_compared) (q := view (OpenLaw.row PySem.Challenge.rw_runheaps_k05_heaps_compared).prog [29]) (H := Rh.hk) (ob := Rh.obF) (M := 12000) (loose := Rh.looseF) (d := HandSHeadRun.topDef (OpenLaw.row PySem.Challenge.rw_runheaps_k05_heaps_compared).prog 29) (kwd := []) Rh.obF_eq
    (by kernel_rfl) (fun s => by kernel_rfl) Rh.run (by kernel_rfl) (by kernel_rfl) (by kernel_rfl) (by rfl) (by first | assumption | decide +kernel) (by decide +kernel) ⟨rfl, rfl, rfl, rfl, rfl, by decide +kernel⟩ ?hw ?hc
  case hw => w_witness2
  case hc =>
    refine Rh.walk_ofG (l := PySem.Challenge.rw_runheaps_k05_heaps_compared) (n := 63) (k := 9) (x := "_law_script") rfl (by decide) (by kernel_rfl) ⟨rfl, by decide, by decide⟩ ?F
    intro w mg fa h Y G hmg0
    obtain ⟨K, KX, s⟩ := Y
    have hmg : mg ("law" : PySem.Str) = some (.ref fa) := by
      have e : (HandSHeadRun.topDef (OpenLaw.row PySem.Challenge.rw_runheaps_k05_heaps_compared).prog 29).name = ("law" : PySem.Str) := by kernel_rfl
      exact (congrArg mg e).symm.trans hmg0
    obtain ⟨fd, hb, hF⟩ := Rh.facts (P := (PySem.Challenge.rw_runheaps_k05_heaps_compared).prog) (w := w) KX G hmg s
    exact ⟨K, fd, Rh.sp_law (Rh.ctK K), KX, hb, fun ns hl hbits Q hQ => Rh.law_starts (Rh.ctK K) ns hl hbits Q hQ, hF⟩

