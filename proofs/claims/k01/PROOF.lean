import PyProof.Rows.All
import Wide.All
import OpenK.AllK
import Wide.FinOn
import PySem.Challenge.RW_runheaps_k01_limits_and_errors
import HandS.ForMost
import HandS.Lambda
import HandS.Flow
import HandS.TupAny
import HandS.Wide
import HandS.WideBits
import HandS.Deep
import HandS.IsInst
import HandS.RaiseMore
import HandS.Small
import HandS.Zip
import KE.GoesMore
import KE.GoesEnum
import HandS.ForExc
import HandS.Property
import HandS.Defaults
import HandS.TryMany
import HandS.ExcCtx
import HandS.HotCalls
import KE.DatumIndex
import HandS.FStr
import HandS.WordsDict
import KE.KTupSum
import HandS.Ends
import HandS.HeadEnd
import HandS.HeadHook4
import HandS.EndBits
import HandS.MakeKw
import HandS.MakeKwOnly
import HandS.ClsMeth
import HandS.HeadNt
import KE.KCallOwn
import OpenK.KOps
import HandS.HeadHook2
import HandS.Head2
import HandS.Iter
import HandS.Dict
import HandS.SortInts
import HandS.SortRule
import HandS.SortKw
import HandS.More
import HandS.ListItems
import KE.KDictPairs
import KE.KItemsList
import KE.KDictWalk
import KE.KPairComp
import HandS.NoneIn
import HandS.TupLe
import HandS.Style
import KE.IntTextLaws
import KE.KIntText
import KE.KxText
import HandS.Text
import PyProof.Rows.StrBin
import PyProof.Rows.ReprOcc
import PyProof.Rows.StrSplitJoin
import PyProof.Rows.StrItems
import PyProof.ReprLen
import HandS.SetFor
import HandS.Strs
import PyProof.StrOps2
import HandS.ExcInit
import HandS.ExcField
import KE.KExcInit
import HandS.ExcOwn
import PyProof.Rows.TupAssign
import HandS.EndTab
import KE.KTryMore
import PyProof.NeKinds
import PyProof.EqKinds
import PyProof.FactsAll.dict_1
import PyProof.FactsAll.dict_2
import PyProof.FactsAll.subtypes_3
import PyProof.FactsAll.subtypes_4
import PyProof.ReprRoads
import HandS.ExcIs
import HandS.ExcValue
set_option Elab.async false
set_option linter.all false
set_option autoImplicit false
set_option maxRecDepth 100000
set_option maxHeartbeats 2000000
/-! DL0: data without addresses over the hand layer: pure values, the small heap of what changes, frames, liftings. -/
namespace Rh
open PySem PySem.Spec PyProof.Rows L2

/-- a datum: what never changes stands in it whole; ref: an object that may change; tup: a tuple, its object known to bear no dict; tpl: a tuple of which that is not told -/
inductive D where
  | non | bl (b : Bool) | int (i : Int) | str (x : Str) | ref (a : Addr) | ty (n : String)
  | scr (ns : List Int) | tup (ds : List D) | tpl (ds : List D) | lst (ds : List D) | dic (ks : List Key) (ds : List D) | obj (C : Addr) (ns : List Str) (ds : List D)

/-- a tuple's own object -/
abbrev tupO (us : List Value) : Obj := { cls := .type "tuple", data := .seq us.toArray }
def TupF (H : Hp) (a : Addr) (vs : List V) : Prop := ∃ us : List Value, H a = some (.frz (tupO us) (.tup vs))
/-- a lambda of the text: its maker's qualified name and names, its own code -/
structure LamDesc where
  q : Str
  params : Arguments
  body : Expr
  scope : Scope
  N : List Str
/-- what stands at an address that may change; lam: the i-th lambda of the text, the slots that it captured and their cells; cel: a cell -/
inductive DO where
  | lst (ds : List D)
  | dK (ks : List Key) (ds : List D)
  | ins (C : Addr) (ns : List Str) (ds : List D)
  | tab (q : Str)
  | dT (ks : List (List Key)) (ds : List D)
  | fT (od : Obj) (vs : List V) (ks : List (List Key)) (ds : List D)
  | lam (L : LamDesc) (i : Nat) (cs : List (Nat × Addr))
  | cel (d : D)
  | fK (od : Obj) (vs : List V) (ks : List Key) (ds : List D)
  | exc (C : Addr) (ns : List Str) (ds : List D)

instance : Inhabited LamDesc := ⟨⟨"", default, default, default, []⟩⟩
abbrev DHp := Addr → Option DO
def up (M : DHp) (a : Addr) (o : DO) : DHp := fun b => if b = a then some o else M b
theorem up_same {M : DHp} {a : Addr} {o : DO} : up M a o a = some o := by unfold up; rw [if_pos rfl]
theorem up_ne {M : DHp} {a b : Addr} {o : DO} (h : b ≠ a) : up M a o b = M b := by unfold up; rw [if_neg h]
theorem up_up {M : DHp} {a : Addr} {o u : DO} : up (up M a o) a u = up M a u := by
  funext b; unfold up; split <;> rfl
theorem ne_up {M : DHp} {a b : Addr} {o : DO} (h : M a = some o) (h' : M b = none) : a ≠ b := by
  intro e; subst e; rw [h] at h'; cases h'
/-- fewer things told -/
def Sub (M N : DHp) : Prop := ∀ a o, M a = some o → N a = some o
theorem Sub.refl (M : DHp) : Sub M M := fun _ _ h => h
theorem Sub.trans {M N O : DHp} (a : Sub M N) (b : Sub N O) : Sub M O := fun _ _ h => b _ _ (a _ _ h)
theorem Sub.up {M N : DHp} {p : Addr} {o : DO} (s : Sub M N) (h : M p = none) : Sub M (up N p o) := fun a u e => by
  rw [up_ne (ne_up e h)]; exact s a u e
theorem Sub.none {M N : DHp} (s : Sub M N) {a : Addr} (h : N a = Option.none) : M a = Option.none := by
  cases e : M a with
  | none => rfl
  | some o => rw [s a o e] at h; cases h
section
variable (K : PySem.W.Frag)
/-- a list that nothing changes any more -/
def KL (H : Hp) (M : DHp) (a : Addr) (vs : List V) : Prop :=
  (M a = none ∧ Rd H a (.lst vs)) ∨
    ∃ (o : Obj) (its : Array Value) (n : Nat), K.lookup a = some o ∧ o.cls = .type "list" ∧ o.dict = none ∧ o.data = .seq its n ∧ its.size ≤ sizeLine ∧ Vals vs its.toList
theorem KL.sq {H : Hp} {M : DHp} {a : Addr} {vs : List V} (h : KL K H M a vs) : SqL K H a vs := h.elim (fun q => .inl q.2) .inr
mutual
/-- the value v bears the datum -/
def Has (H : Hp) (M : DHp) : D → V → Prop
  | .non, v => v = .non
  | .bl b, v => v = .bl b
  | .int i, v => v = .int i
  | .str x, v => v = .str x
  | .ref a, v => v = .ref a
  | .ty n, v => v = .ty n
  | .scr ns, v => ∃ a, v = .ref a ∧ KL K H M a (ns.map V.int)
  | .tup ds, v => ∃ a vs, v = .ref a ∧ M a = none ∧ TupF H a vs ∧ HasL H M ds vs
  | .tpl ds, v => ∃ a vs, v = .ref a ∧ M a = none ∧ H a = some (.tup vs) ∧ HasL H M ds vs
  | .lst ds, v => ∃ a vs, v = .ref a ∧ M a = none ∧ H a = some (.lst vs) ∧ HasL H M ds vs
  | .dic ks ds, v => ∃ a vs, v = .ref a ∧ M a = none ∧ H a = some (.dK (ks.zip vs)) ∧ ks.length = ds.length ∧ HasL H M ds vs
  | .obj C ns ds, v => ∃ a dx vs, v = .ref a ∧ M a = none ∧ H a = some (.ins C dx (ns.zip vs)) ∧ ns.length = ds.length ∧ HasL H M ds vs
def HasL (H : Hp) (M : DHp) : List D → List V → Prop
  | [], vs => vs = []
  | d :: ds, vs => ∃ v r, vs = v :: r ∧ Has H M d v ∧ HasL H M ds r
end
end

/-- what is not in the small heap stays as it is -/
structure Fr (H : Hp) (M : DHp) (H' : Hp) (M' : DHp) : Prop where
  eq : ∀ a o, H a = some o → M a = none → H' a = some o
  un : ∀ a o, H a = some o → M a = none → M' a = none
theorem Fr.refl (H : Hp) (M : DHp) : Fr H M H M := ⟨fun _ _ h _ => h, fun _ _ _ h => h⟩
theorem Fr.trans {H H1 H2 : Hp} {M M1 M2 : DHp} (a : Fr H M H1 M1) (b : Fr H1 M1 H2 M2) : Fr H M H2 M2 :=
  ⟨fun c o h n => b.eq c o (a.eq c o h n) (a.un c o h n), fun c o h n => b.un c o (a.eq c o h n) (a.un c o h n)⟩
theorem Fr.less {H H1 : Hp} {M M1 M2 : DHp} (a : Fr H M H1 M1) (s : Sub M2 M1) : Fr H M H1 M2 :=
  ⟨a.eq, fun c o h n => s.none (a.un c o h n)⟩
/-- a new object that is told, that is not told -/
theorem Fr.newT {H : Hp} {M : DHp} {p : Addr} {o : HO} {u : DO} (h : H p = none) : Fr H M (upd H p o) (up M p u) :=
  ⟨fun a x e _ => by rw [upd_ne (ne_of_none e h)]; exact e, fun a x e n => by rw [up_ne (ne_of_none e h)]; exact n⟩
theorem Fr.new {H : Hp} {M : DHp} {p : Addr} {o : HO} (h : H p = none) : Fr H M (upd H p o) M :=
  ⟨fun a x e _ => by rw [upd_ne (ne_of_none e h)]; exact e, fun _ _ _ n => n⟩
/-- a told object is changed -/
theorem Fr.put {H : Hp} {M : DHp} {p : Addr} {o : HO} {u u0 : DO} (h : M p = some u0) : Fr H M (upd H p o) (up M p u) :=
  ⟨fun a x e n => by rw [upd_ne (by intro z; subst z; rw [h] at n; cases n)]; exact e, fun a x e n => by rw [up_ne (by intro z; subst z; rw [h] at n; cases n)]; exact n⟩

section
variable {K : PySem.W.Frag} {H H' : Hp} {M M' : DHp}
theorem Rd.some {H : Hp} {a : Addr} {u : HO} (r : Rd H a u) : ∃ o, H a = some o := r.elim (fun h => ⟨_, h⟩) (fun ⟨_, h⟩ => ⟨_, h⟩)
theorem TupF.sq {H : Hp} {a : Addr} {vs : List V} (h : TupF H a vs) : SqT K H a vs := .inl (h.elim fun _ e => .inr ⟨_, e⟩)
theorem TupF.some {H : Hp} {a : Addr} {vs : List V} (h : TupF H a vs) : ∃ o, H a = some o := h.elim fun _ e => ⟨_, e⟩
theorem TupF.fr {a : Addr} {vs : List V} (h : TupF H a vs) (f : Fr H M H' M') (n : M a = none) : TupF H' a vs := h.elim fun us e => ⟨us, f.eq _ _ e n⟩
theorem TupF.un {a : Addr} {vs : List V} (h : TupF H a vs) (f : Fr H M H' M') (n : M a = none) : M' a = none := h.elim fun us e => f.un _ _ e n
theorem KL.fr {a : Addr} {vs : List V} (f : Fr H M H' M') (h : KL K H M a vs) : KL K H' M' a vs := by
  rcases h with ⟨n, r⟩ | h
  · obtain ⟨o, e⟩ := Rd.some r
    refine .inl ⟨f.un a o e n, ?_⟩
    rcases r with r | ⟨x, r⟩
    · exact .inl (f.eq _ _ r n)
    · exact .inr ⟨x, f.eq _ _ r n⟩
  · exact .inr h
mutual
theorem Has.fr (f : Fr H M H' M') : ∀ {d : D} {v : V}, Has K H M d v → Has K H' M' d v
  | .non, _, h => h
  | .bl _, _, h => h
  | .int _, _, h => h
  | .str _, _, h => h
  | .ref _, _, h => h
  | .ty _, _, h => h
  | .scr ns, _, h => by
    obtain ⟨a, e, t⟩ := h
    exact ⟨a, e, t.fr f⟩
  | .tup ds, _, h => by
    obtain ⟨a, vs, e, n, ⟨us, t⟩, r⟩ := h
    exact ⟨a, vs, e, f.un _ _ t n, ⟨us, f.eq _ _ t n⟩, HasL.fr f r⟩
  | .tpl ds, _, h => by
    obtain ⟨a, vs, e, n, t, r⟩ := h
    exact ⟨a, vs, e, f.un _ _ t n, f.eq _ _ t n, HasL.fr f r⟩
  | .lst ds, _, h => by
    obtain ⟨a, vs, e, n, t, r⟩ := h
    exact ⟨a, vs, e, f.un _ _ t n, f.eq _ _ t n, HasL.fr f r⟩
  | .dic ks ds, _, h => by
    obtain ⟨a, vs, e, n, t, l, r⟩ := h
    exact ⟨a, vs, e, f.un _ _ t n, f.eq _ _ t n, l, HasL.fr f r⟩
  | .obj C ns ds, _, h => by
    obtain ⟨a, dx, vs, e, n, t, l, r⟩ := h
    exact ⟨a, dx, vs, e, f.un _ _ t n, f.eq _ _ t n, l, HasL.fr f r⟩
theorem HasL.fr (f : Fr H M H' M') : ∀ {ds : List D} {vs : List V}, HasL K H M ds vs → HasL K H' M' ds vs
  | [], _, h => h
  | d :: ds, _, h => by
    obtain ⟨v, r, e, h1, h2⟩ := h
    exact ⟨v, r, e, Has.fr f h1, HasL.fr f h2⟩
end
theorem HasL.len : ∀ {ds : List D} {vs : List V}, HasL K H M ds vs → vs.length = ds.length
  | [], _, h => by rw [show _ = ([] : List V) from h]; rfl
  | d :: ds, _, h => by
    obtain ⟨v, r, rfl, _, h2⟩ := h
    rw [List.length_cons, List.length_cons, h2.len]
theorem HasL.get : ∀ {ds : List D} {vs : List V} {i : Nat} {d : D}, HasL K H M ds vs → ds[i]? = some d → ∃ v, vs[i]? = some v ∧ Has K H M d v
  | [], _, _, _, _, e => by simp at e
  | d :: ds, _, i, d', h, e => by
    obtain ⟨v, r, rfl, h1, h2⟩ := h
    cases i with
    | zero =>
      rw [List.getElem?_cons_zero] at e
      cases e
      exact ⟨v, rfl, h1⟩
    | succ i =>
      rw [List.getElem?_cons_succ] at e
      obtain ⟨w, hw, r⟩ := HasL.get h2 e
      exact ⟨w, by rw [List.getElem?_cons_succ]; exact hw, r⟩
theorem HasL.get' : ∀ {ds : List D} {vs : List V} {i : Nat} {v : V}, HasL K H M ds vs → vs[i]? = some v → ∃ d, ds[i]? = some d ∧ Has K H M d v
  | [], _, _, _, h, e => by rw [show _ = ([] : List V) from h] at e; simp at e
  | d :: ds, _, i, v', h, e => by
    obtain ⟨v, r, rfl, h1, h2⟩ := h
    cases i with
    | zero =>
      rw [List.getElem?_cons_zero] at e
      cases e
      exact ⟨d, rfl, h1⟩
    | succ i =>
      rw [List.getElem?_cons_succ] at e
      obtain ⟨w, hw, r⟩ := HasL.get' h2 e
      exact ⟨w, by rw [List.getElem?_cons_succ]; exact hw, r⟩
theorem HasL.app : ∀ {ds es : List D} {vs ws : List V}, HasL K H M ds vs → HasL K H M es ws → HasL K H M (ds ++ es) (vs ++ ws)
  | [], _, _, _, h, h' => by rw [show _ = ([] : List V) from h]; exact h'
  | d :: ds, _, _, _, h, h' => by
    obtain ⟨v, r, rfl, h1, h2⟩ := h
    exact ⟨v, _, rfl, h1, HasL.app h2 h'⟩
theorem HasL.one {d : D} {v : V} (h : Has K H M d v) : HasL K H M [d] [v] := ⟨v, [], rfl, h, rfl⟩
theorem HasL.nil : HasL K H M [] [] := rfl
theorem HasL.cons {d : D} {v : V} {ds : List D} {vs : List V} (h : Has K H M d v) (t : HasL K H M ds vs) : HasL K H M (d :: ds) (v :: vs) := ⟨v, vs, rfl, h, t⟩
theorem HasL.drop : ∀ {ds : List D} {vs : List V} (n : Nat), HasL K H M ds vs → HasL K H M (ds.drop n) (vs.drop n)
  | _, _, 0, h => h
  | [], _, n + 1, h => by rw [show _ = ([] : List V) from h]; rfl
  | d :: ds, _, n + 1, h => by
    obtain ⟨v, r, rfl, _, h2⟩ := h
    exact HasL.drop n h2
theorem HasL.take : ∀ {ds : List D} {vs : List V} (n : Nat), HasL K H M ds vs → HasL K H M (ds.take n) (vs.take n)
  | _, _, 0, h => by rw [List.take_zero, List.take_zero]; rfl
  | [], _, n + 1, h => by rw [show _ = ([] : List V) from h]; rfl
  | d :: ds, _, n + 1, h => by
    obtain ⟨v, r, rfl, h1, h2⟩ := h
    exact ⟨v, _, rfl, h1, HasL.take n h2⟩
theorem HasL.set {d : D} {v : V} (h : Has K H M d v) : ∀ {ds : List D} {vs : List V} (n : Nat), HasL K H M ds vs → HasL K H M (ds.set n d) (vs.set n v)
  | [], _, _, q => by rw [show _ = ([] : List V) from q]; rfl
  | e :: ds, _, 0, q => by
    obtain ⟨w, r, rfl, h1, h2⟩ := q
    exact ⟨v, r, rfl, h, h2⟩
  | e :: ds, _, n + 1, q => by
    obtain ⟨w, r, rfl, h1, h2⟩ := q
    exact ⟨w, _, rfl, h1, HasL.set h n h2⟩
end

/-- a thing known to its object -/
abbrev anyO : HO := .ext fun _ => True
/-- the cells of a lambda's closure are those of the captured slots -/
structure ClOk (L : LamDesc) (cs : List (Nat × Addr)) (cl : List (Str × Addr)) : Prop where
  free : ∀ y, L.scope.names.lookup y = some .free → ∃ c, cl.lookup y = some c
  inj : ∀ y z c, cl.lookup y = some c → cl.lookup z = some c → y = z
  to : ∀ y c, cl.lookup y = some c → ∃ j, L.N[j]? = some y ∧ (j, c) ∈ cs
  fro : ∀ j c, (j, c) ∈ cs → ∃ y, L.N[j]? = some y ∧ cl.lookup y = some c
/-- an exception's dict -/
def XdO (K : PySem.W.Frag) (H : Hp) (M : DHp) (ns : List Str) (ds : List D) : Option Addr → Prop
  | none => ns = [] ∧ ds = []
  | some dx => ∃ vs, H dx = some (.xd (ns.zip vs)) ∧ M dx = none ∧ ns.length = ds.length ∧ HasL K H M ds vs
theorem XdO.fr {K : PySem.W.Frag} {H H' : Hp} {M M' : DHp} {ns : List Str} {ds : List D} {d : Option Addr} (f : Fr H M H' M') (h : XdO K H M ns ds d) : XdO K H' M' ns ds d := by
  cases d with
  | none => exact h
  | some dx =>
    obtain ⟨vs, e, n, l, r⟩ := h
    exact ⟨vs, f.eq _ _ e n, f.un _ _ e n, l, r.fr f⟩
/-- what is told of an address -/
def HasO (K : PySem.W.Frag) (H : Hp) (M : DHp) (a : Addr) : DO → Prop
  | .lst ds => ∃ vs, H a = some (.lst vs) ∧ HasL K H M ds vs
  | .dK ks ds => ∃ vs, H a = some (.dK (ks.zip vs)) ∧ ks.length = ds.length ∧ HasL K H M ds vs
  | .ins C ns ds => ∃ dx vs, H a = some (.ins C dx (ns.zip vs)) ∧ ns.length = ds.length ∧ HasL K H M ds vs
  | .dT ks ds => ∃ vs, H a = some (.dT (ks.zip vs)) ∧ ks.length = ds.length ∧ HasL K H M ds vs
  | .fT od vs ks ds => H a = some (.frz od (.dT (ks.zip vs))) ∧ ks.length = ds.length ∧ HasL K H M ds vs
  | .lam L i cs => ∃ (cl : List (Str × Addr)) (pm ctv : Value) (c' : Addr), H a = some (.frz (PySem.W.kla_obj "<lambda>" L.q L.params L.body L.scope cl pm c' ctv) anyO) ∧ ClOk L cs cl ∧ H c' = some (LamX.CodeO c' L.q) ∧ M c' = none
  | .cel d => ∃ (o : Obj) (u : Value) (v : V), H a = some (.frz o anyO) ∧ o.data = .cell (some u) ∧ RelV v u ∧ Has K H M d v
  | .fK od vs ks ds => H a = some (.frz od (.dK (ks.zip vs))) ∧ ks.length = ds.length ∧ HasL K H M ds vs
  | .exc C ns ds => ∃ (oe : Obj) (d : Option Addr), H a = some (.frz oe anyO) ∧ (oe.cls = .ref C ∧ oe.dict = d) ∧ (∃ vs, oe.data = .fields vs) ∧ XdO K H M ns ds d
  | .tab q => ∃ ps : Array Value, H a = some (.tbl ps) ∧ TriplesOk ps.toList ∧ ∀ (pos : Pos) (cv : Value), codeAmong pos ps.toList = some cv → ∃ b, cv = .ref b ∧ M b = none ∧ H b = some (LamX.CodeO b q)
theorem HasO.at {K : PySem.W.Frag} {H : Hp} {M : DHp} {a : Addr} {o : DO} (h : HasO K H M a o) : ∃ u, H a = some u := by
  cases o with
  | lst ds => obtain ⟨vs, e, _⟩ := h; exact ⟨_, e⟩
  | dK ks ds => obtain ⟨vs, e, _⟩ := h; exact ⟨_, e⟩
  | ins C ns ds => obtain ⟨dx, vs, e, _⟩ := h; exact ⟨_, e⟩
  | tab q => obtain ⟨ps, e, _⟩ := h; exact ⟨_, e⟩
  | dT ks ds => obtain ⟨vs, e, _⟩ := h; exact ⟨_, e⟩
  | fT od vs ks ds => obtain ⟨e, _⟩ := h; exact ⟨_, e⟩
  | lam L i cs => obtain ⟨_, _, _, _, e, _⟩ := h; exact ⟨_, e⟩
  | cel d => obtain ⟨_, _, _, e, _⟩ := h; exact ⟨_, e⟩
  | fK od vs ks ds => obtain ⟨e, _⟩ := h; exact ⟨_, e⟩
  | exc C ns ds => obtain ⟨oe, d, e, _⟩ := h; exact ⟨_, e⟩
theorem HasO.fr {K : PySem.W.Frag} {H H' : Hp} {M M' : DHp} {a : Addr} {o : DO} (f : Fr H M H' M') (e : H' a = H a) (h : HasO K H M a o) : HasO K H' M' a o := by
  cases o with
  | lst ds => obtain ⟨vs, q, r⟩ := h; exact ⟨vs, e.trans q, r.fr f⟩
  | dK ks ds => obtain ⟨vs, q, l, r⟩ := h; exact ⟨vs, e.trans q, l, r.fr f⟩
  | ins C ns ds => obtain ⟨dx, vs, q, l, r⟩ := h; exact ⟨dx, vs, e.trans q, l, r.fr f⟩
  | dT ks ds => obtain ⟨vs, q, l, r⟩ := h; exact ⟨vs, e.trans q, l, r.fr f⟩
  | fT od vs ks ds => obtain ⟨q, l, r⟩ := h; exact ⟨e.trans q, l, r.fr f⟩
  | lam L i cs => obtain ⟨cl, pm, ctv, c', q, k, g, n⟩ := h; exact ⟨cl, pm, ctv, c', e.trans q, k, f.eq _ _ g n, f.un _ _ g n⟩
  | cel d => obtain ⟨o, u, v, q, k, g, r⟩ := h; exact ⟨o, u, v, e.trans q, k, g, r.fr f⟩
  | fK od vs ks ds => obtain ⟨q, l, r⟩ := h; exact ⟨e.trans q, l, r.fr f⟩
  | exc C ns ds => obtain ⟨oe, d, q, g, l, r⟩ := h; exact ⟨oe, d, e.trans q, g, l, r.fr f⟩
  | tab q =>
    obtain ⟨ps, z, k, g⟩ := h
    refine ⟨ps, e.trans z, k, fun pos cv y => ?_⟩
    obtain ⟨b, e1, n, e2⟩ := g pos cv y
    exact ⟨b, e1, f.un _ _ e2 n, f.eq _ _ e2 n⟩
def AbH (K : PySem.W.Frag) (H : Hp) (M : DHp) : Prop := ∀ a o, M a = some o → HasO K H M a o
abbrev DSt := List (Option D)
structure AbS (K : PySem.W.Frag) (H : Hp) (M : DHp) (τ : DSt) (σ : L2.St) : Prop where
  len : τ.length = σ.length
  get : ∀ (i : Nat) (d : D), τ[i]? = some (some d) → ∃ v, σ[i]? = some (some v) ∧ Has K H M d v
section
variable {K : PySem.W.Frag} {H H' : Hp} {M M' : DHp} {τ : DSt} {σ : L2.St}
theorem AbH.fresh (A : AbH K H M) {p : Addr} (h : H p = none) : M p = none := by
  cases e : M p with
  | none => rfl
  | some o =>
    obtain ⟨u, q⟩ := (A p o e).at
    rw [q] at h; cases h
theorem AbH.less (A : AbH K H M) (s : Sub M' M) : AbH K H M' := fun a o e => by
  have f : Fr H M H M' := (Fr.refl H M).less s
  exact (A a o (s a o e)).fr f rfl
theorem AbS.less (A : AbS K H M τ σ) (s : Sub M' M) : AbS K H M' τ σ :=
  ⟨A.len, fun i d e => let ⟨v, q, r⟩ := A.get i d e; ⟨v, q, r.fr ((Fr.refl H M).less s)⟩⟩
theorem AbS.fr (f : Fr H M H' M') (A : AbS K H M τ σ) : AbS K H' M' τ σ :=
  ⟨A.len, fun i d e => let ⟨v, q, r⟩ := A.get i d e; ⟨v, q, r.fr f⟩⟩
theorem AbH.new (A : AbH K H M) {p : Addr} {o : HO} (h : H p = none) : AbH K (upd H p o) M := fun a u e => by
  obtain ⟨x, q⟩ := (A a u e).at
  exact (A a u e).fr (Fr.new h) (upd_ne (ne_of_none q h))
theorem AbH.newT (A : AbH K H M) {p : Addr} {o : HO} {u : DO} (h : H p = none) (n : HasO K (upd H p o) (up M p u) p u) : AbH K (upd H p o) (up M p u) := fun a w e => by
  by_cases z : a = p
  · subst z; rw [up_same] at e; cases e; exact n
  · rw [up_ne z] at e
    exact (A a w e).fr (Fr.newT h) (upd_ne z)
theorem AbH.put (A : AbH K H M) {p : Addr} {o : HO} {u u0 : DO} (h : M p = some u0) (n : HasO K (upd H p o) (up M p u) p u) : AbH K (upd H p o) (up M p u) := fun a w e => by
  by_cases z : a = p
  · subst z; rw [up_same] at e; cases e; exact n
  · rw [up_ne z] at e
    exact (A a w e).fr (Fr.put h) (upd_ne z)
theorem AbS.set (A : AbS K H M τ σ) {d : D} {v : V} (h : Has K H M d v) (i : Nat) : AbS K H M (τ.set i (some d)) (σ.set i (some v)) := by
  refine ⟨by rw [List.length_set, List.length_set]; exact A.len, fun j e q => ?_⟩
  by_cases z : i = j
  · subst z
    by_cases l : i < τ.length
    · rw [List.getElem?_set_self l] at q
      cases q
      exact ⟨v, List.getElem?_set_self (by rw [← A.len]; exact l), h⟩
    · rw [List.getElem?_eq_none (by rw [List.length_set]; omega)] at q
      cases q
  · rw [List.getElem?_set_ne z] at q
    rw [List.getElem?_set_ne z]
    exact A.get j e q
/-- fewer slots told -/
def SubS (τ' τ : DSt) : Prop := τ'.length = τ.length ∧ ∀ (i : Nat) (d : D), τ'[i]? = some (some d) → τ[i]? = some (some d)
theorem SubS.refl (τ : DSt) : SubS τ τ := ⟨rfl, fun _ _ h => h⟩
theorem AbS.lessS {τ' : DSt} (A : AbS K H M τ σ) (s : SubS τ' τ) : AbS K H M τ' σ := ⟨s.1.trans A.len, fun i d e => A.get i d (s.2 i d e)⟩
end
end Rh
/-! DL1: liftings; names, constants, operators, tests, displays. -/
namespace Rh
open PySem PySem.Spec PyProof.Rows L2

structure Org where
  H : Hp
  M : DHp
abbrev DVK := D → DHp → Prop
abbrev DTE := DSt → DHp → DVK → Prop
abbrev DTT := DSt → DHp → (Bool → DHp → Prop) → Prop
structure DEnds where
  nx : DSt → DHp → Prop
  rt : DVK
abbrev DTS := DEnds → DSt → DHp → Prop

/-- what follows, told of data, gives what follows, told of values -/
def Post (K : PySem.W.Frag) (H : Hp) (M : DHp) (Q' : DVK) (Q : VK) : Prop := ∀ d M' v H', Q' d M' → Fr H M H' M' → AbH K H' M' → Has K H' M' d v → Q v H'
def PostB (K : PySem.W.Frag) (H : Hp) (M : DHp) (Q' : Bool → DHp → Prop) (Q : Bool → Hp → Prop) : Prop := ∀ b M' H', Q' b M' → Fr H M H' M' → AbH K H' M' → Q b H'
def PostL (K : PySem.W.Frag) (H : Hp) (M : DHp) (Q' : List D → DHp → Prop) (Q : List V → Hp → Prop) : Prop := ∀ ds M' vs H', Q' ds M' → Fr H M H' M' → AbH K H' M' → HasL K H' M' ds vs → Q vs H'
def PostN (K : PySem.W.Frag) (H : Hp) (M : DHp) (Q' : DSt → DHp → Prop) (Q : L2.St → Hp → Prop) : Prop := ∀ τ M' σ H', Q' τ M' → Fr H M H' M' → AbH K H' M' → AbS K H' M' τ σ → Q σ H'
section
variable {K : PySem.W.Frag} {H H1 : Hp} {M M1 : DHp}
theorem Post.tr {Q' : DVK} {Q : VK} (p : Post K H M Q' Q) (f : Fr H M H1 M1) : Post K H1 M1 Q' Q := fun d M' v H' q g => p d M' v H' q (f.trans g)
theorem PostB.tr {Q' : Bool → DHp → Prop} {Q : Bool → Hp → Prop} (p : PostB K H M Q' Q) (f : Fr H M H1 M1) : PostB K H1 M1 Q' Q := fun d M' H' q g => p d M' H' q (f.trans g)
theorem PostL.tr {Q' : List D → DHp → Prop} {Q : List V → Hp → Prop} (p : PostL K H M Q' Q) (f : Fr H M H1 M1) : PostL K H1 M1 Q' Q := fun d M' v H' q g => p d M' v H' q (f.trans g)
theorem PostN.tr {Q' : DSt → DHp → Prop} {Q : L2.St → Hp → Prop} (p : PostN K H M Q' Q) (f : Fr H M H1 M1) : PostN K H1 M1 Q' Q := fun τ M' σ H' q g => p τ M' σ H' q (f.trans g)
/-- the value stands and nothing else is told of the change -/
theorem Post.same {Q' : DVK} {Q : VK} (p : Post K H M Q' Q) {d : D} {v : V} (A : AbH K H M) (q : Q' d M) (h : Has K H M d v) : Q v H := p d M v H q (Fr.refl H M) A h
end

section
variable (K : PySem.W.Frag) (O : Org)
/-- what every lifting begins with -/
structure Beg (H : Hp) (M : DHp) (τ : DSt) (σ : L2.St) : Prop where
  fr : Fr O.H O.M H M
  s : AbS K H M τ σ
  h : AbH K H M
def liftE (t : DTE) : TE := fun σ H Q => ∃ (τ : DSt) (M : DHp) (Q' : DVK), Beg K O H M τ σ ∧ t τ M Q' ∧ Post K H M Q' Q
def liftT (t : DTT) : TT := fun σ H Q => ∃ (τ : DSt) (M : DHp) (Q' : Bool → DHp → Prop), Beg K O H M τ σ ∧ t τ M Q' ∧ PostB K H M Q' Q
def liftS (t : DTS) : TS := fun D σ H => ∃ (τ : DSt) (M : DHp) (E : DEnds), Beg K O H M τ σ ∧ t E τ M ∧ PostN K H M E.nx D.nx ∧ Post K H M E.rt D.rt
end
theorem Beg.step {K : PySem.W.Frag} {O : Org} {H H1 : Hp} {M M1 : DHp} {τ : DSt} {σ : L2.St} (b : Beg K O H M τ σ) (f : Fr H M H1 M1) (a : AbH K H1 M1) : Beg K O H1 M1 τ σ := ⟨b.fr.trans f, b.s.fr f, a⟩

abbrev DE (X : Cx) (O : Org) (e : Expr) (t : DTE) : Prop := PE X e (liftE X.K O t)
abbrev DT (X : Cx) (O : Org) (e : Expr) (t : DTT) : Prop := PT X e (liftT X.K O t)
abbrev DS (X : Cx) (O : Org) (st : Stmt) (t : DTS) : Prop := PS X st (liftS X.K O t)
abbrev DSs (X : Cx) (O : Org) (st : List Stmt) (t : DTS) : Prop := PSs X st (liftS X.K O t)
section
variable {X : Cx}
theorem _root_.L2.PE.wk {e : Expr} {t t' : TE} (h : PE X e t) (i : ∀ σ H Q, t' σ H Q → t σ H Q) : PE X e t' := ⟨fun pins s σ H Q I q => h.run pins s σ H Q I (i σ H Q q)⟩
theorem _root_.L2.PT.wk {e : Expr} {t t' : TT} (h : PT X e t) (i : ∀ σ H Q, t' σ H Q → t σ H Q) : PT X e t' := ⟨fun pins s σ H Q I q => h.run pins s σ H Q I (i σ H Q q)⟩
theorem _root_.L2.PW.wk {e : Expr} {t t' : TT} (h : PW X e t) (i : ∀ σ H Q, t' σ H Q → t σ H Q) : PW X e t' := ⟨fun wh pins s σ H Q I q => h.run wh pins s σ H Q I (i σ H Q q)⟩
theorem _root_.L2.PA.wk {es : List Expr} {t t' : TA} (h : PA X es t) (i : ∀ σ H Q, t' σ H Q → t σ H Q) : PA X es t' := ⟨fun pos pins s σ H Q I q => h.run pos pins s σ H Q I (i σ H Q q)⟩
theorem _root_.L2.PS.wk {e : Stmt} {t t' : TS} (h : PS X e t) (i : ∀ D σ H, t' D σ H → t D σ H) : PS X e t' := ⟨fun pins s σ H D I q => h.run pins s σ H D I (i D σ H q)⟩
theorem _root_.L2.PSs.wk {e : List Stmt} {t t' : TS} (h : PSs X e t) (i : ∀ D σ H, t' D σ H → t D σ H) : PSs X e t' := ⟨fun pins s σ H D I q => h.run pins s σ H D I (i D σ H q)⟩
end

/-! ### names, constants -/
def sl : DSt → Nat → Option D
  | [], _ => none
  | x :: _, 0 => x
  | _ :: r, n + 1 => sl r n
theorem sl_get : ∀ {τ : DSt} {i : Nat} {d : D}, sl τ i = some d → τ[i]? = some (some d)
  | [], _, _, e => by cases e
  | x :: r, 0, d, e => by
    have e' : x = some d := e
    rw [List.getElem?_cons_zero, e']
  | x :: r, n + 1, d, e => by
    rw [List.getElem?_cons_succ]
    exact sl_get (τ := r) e
/-- a datum that is there -/
def wth {α : Type} (o : Option α) (k : α → Prop) : Prop := match o with
  | some a => k a
  | none => False
theorem wth_of {α : Type} {o : Option α} {k : α → Prop} (h : wth o k) : ∃ a, o = some a ∧ k a := by
  cases o with
  | none => exact h.elim
  | some a => exact ⟨a, rfl, h⟩
theorem wth_some {α : Type} {o : Option α} {k : α → Prop} {a : α} (e : o = some a) (h : k a) : wth o k := by
  rw [e]; exact h
def dVar (i : Nat) : DTE := fun τ M Q => wth (sl τ i) fun d => Q d M
def dC (d : D) : DTE := fun _ M Q => Q d M
/-- constants: of each the one value -/
def cV : D → Option V
  | .non => some .non
  | .bl b => some (.bl b)
  | .int i => some (.int i)
  | .str x => some (.str x)
  | .ref a => some (.ref a)
  | .ty n => some (.ty n)
  | _ => none
theorem cV_has {K : PySem.W.Frag} {H : Hp} {M : DHp} {d : D} {v : V} (h : cV d = some v) : Has K H M d v := by
  cases d <;> first | (cases h; rfl) | cases h
section
variable {X : Cx} {O : Org} {pos : Pos}
theorem de_var {i : Nat} {x : Str} (h : PE X (.Name x pos) (tVar i)) : DE X O (.Name x pos) (dVar i) := h.wk fun σ H Q ⟨τ, M, Q', b, t, p⟩ => by
  obtain ⟨d, e, q⟩ := wth_of t
  obtain ⟨v, e', r⟩ := b.s.get i d (sl_get e)
  exact ⟨v, e', p.same b.h q r⟩
theorem de_c {e : Expr} {v : V} {d : D} (h : PE X e (tC v)) (c : cV d = some v) : DE X O e (dC d) := h.wk fun σ H Q ⟨τ, M, Q', b, t, p⟩ => p.same b.h t (cV_has c)

/-! ### operators -/
abbrev DR2 := D → D → DHp → DVK → Prop
def Ref2 (K : PySem.W.Frag) (r : R2) (r' : DR2) : Prop := ∀ (H : Hp) (M : DHp) (x y : V) (dx dy : D) (Q : VK) (Q' : DVK), AbH K H M → Has K H M dx x → Has K H M dy y → r' dx dy M Q' → Post K H M Q' Q → r x y H Q
def dOp (r : DR2) (ta tb : DTE) : DTE := fun τ M Q => ta τ M fun x M1 => tb τ M1 fun y M2 => r x y M2 Q
theorem lift2 {K : PySem.W.Frag} {O : Org} {r : R2} {r' : DR2} {ta tb : DTE} (hr : Ref2 K r r') : ∀ σ H Q, liftE K O (dOp r' ta tb) σ H Q → tOp r (liftE K O ta) (liftE K O tb) σ H Q := fun σ H Q ⟨τ, M, Q', b, t, p⟩ =>
  ⟨τ, M, _, b, t, fun d M1 x H1 q f1 a1 h1 => ⟨τ, M1, _, b.step f1 a1, q, fun e M2 y H2 q2 f2 a2 h2 => hr H2 M2 x y d e Q Q' a2 (h1.fr f2) h2 q2 (p.tr (f1.trans f2))⟩⟩
variable {a c : Expr} {ta tb : DTE}
theorem de_op {op : Operator} {r : R2} {r' : DR2} (ho : OpR X (binaryOp op) r) (hr : Ref2 X.K r r') (ha : DE X O a ta) (hb : DE X O c tb) : DE X O (.BinOp a op c pos) (dOp r' ta tb) := (pe_op ho ha hb).wk (lift2 hr)
theorem de_cmp {op : CmpOp} {r : R2} {r' : DR2} (ho : OpR X (compareOp op) r) (hr : Ref2 X.K r r') (ha : DE X O a ta) (hb : DE X O c tb) (hm : behindInMarks op c = false) : DE X O (.Compare a [op] [c] pos) (dOp r' ta tb) := (pe_cmpR ho ha hb hm).wk (lift2 hr)
/-- a value that is a bool, as a test -/
def dTst (t : DTE) : DTT := fun τ M Q => t τ M fun x M1 => match x with
  | .bl b => Q b M1
  | _ => False
theorem liftTst {K : PySem.W.Frag} {O : Org} {t : DTE} : ∀ σ H Q, liftT K O (dTst t) σ H Q → tTest (liftE K O t) σ H Q := fun σ H Q ⟨τ, M, Q', b, t, p⟩ =>
  ⟨τ, M, _, b, t, fun d M1 x H1 q f1 a1 h1 => by
    cases d with
    | bl k =>
      rw [show x = .bl k from h1]
      exact ⟨k, rfl, p k M1 H1 q f1 a1⟩
    | _ => exact q.elim⟩
theorem dt_cmp {op : CmpOp} {r : R2} {r' : DR2} (ho : OpR X (compareOp op) r) (hr : Ref2 X.K r r') (ha : DE X O a ta) (hb : DE X O c tb) (hm : behindInMarks op c = false) : DT X O (.Compare a [op] [c] pos) (dTst (dOp r' ta tb)) :=
  (pt_cmpR ho ha hb hm).wk fun σ H Q h => lift2 hr σ H _ (liftTst σ H Q h)
end
end Rh
/-! DL1T: tuples whose own object is known: displays, sums, slices, tuple(..). -/
namespace Rh
open PySem PySem.Spec PyProof.Rows L2

section
variable {X : Cx} {pos : Pos}
abbrev frT (us : List Value) (xs : List V) : HO := .frz (tupO us) (.tup xs)
theorem laidT {pins : List (Addr × Obj)} {σ : L2.St} {H : Hp} {s : Shared} {us : List Value} {xs : List V} (I : Inv X pins σ H s) (r : Vals xs us) (z : xs.length ≤ sizeLine) :
    H s.heap.objs.size = none ∧ Inv X pins σ (upd H s.heap.objs.size (frT us xs)) { s with heap := s.heap.push (tupO us) } :=
  ⟨I.hok.fresh (Nat.le_refl _), I.laid (t' := s.toks) (fun b u e => Heap.get?_push_of_some _ e) (Nat.le_refl _) ⟨Heap.get?_push_size _ rfl, z, us, r, IsTup.new _ _⟩⟩
def tTupF (t : TA) : TE := fun σ H Q => t σ H fun xs H1 => xs.length ≤ sizeLine ∧ ∀ z us, H1 z = none → Q (.ref z) (upd H1 z (frT us xs))
theorem pe_tupF {es : List Expr} {t : TA} {x1 : Nat} (h : PA X es t) : PE X (.Tuple es x1 pos) (tTupF t) :=
  ⟨fun pins s σ H Q I hq => wpAny_Tuple_spliced (thn (h.run pos pins s σ H _ I hq) fun us s1 ⟨xs, H1, I1, r, z, q⟩ => ⟨by rw [← r.length]; exact z, ⟨.ref _, _, (laidT I1 r z).2, rfl, q _ us (laidT I1 r z).1⟩⟩)⟩
/-- t + u -/
def rCatF (K : PySem.W.Frag) : R2 := fun x y H Q => ∃ a b xs ys, x = .ref a ∧ y = .ref b ∧ SqT K H a xs ∧ SqT K H b ys ∧ xs.length + ys.length ≤ sizeLine ∧
  (xs = [] → Q (.ref b) H) ∧ (xs ≠ [] → ys = [] → Q (.ref a) H) ∧ (xs ≠ [] → ys ≠ [] → ∀ p us, H p = none → Q (.ref p) (upd H p (frT us (xs ++ ys))))
theorem op_catF : OpR X (binaryOp .Add) (rCatF X.K) := by
  rintro pins s σ H x y v u Q I rx ry ⟨a, b, xs, ys, rfl, rfl, ha, hb, hz, q0, q1, q2⟩
  by_cases hx : xs = []
  · exact op_catA pins s σ H _ _ v u Q I rx ry ⟨a, b, xs, ys, rfl, rfl, ha, hb, hz, q0, q1, fun n => absurd hx n⟩
  by_cases hy : ys = []
  · exact op_catA pins s σ H _ _ v u Q I rx ry ⟨a, b, xs, ys, rfl, rfl, ha, hb, hz, q0, q1, fun _ n => absurd hy n⟩
  cases rx
  cases ry
  obtain ⟨its, r1, p1, _⟩ := I.tuple ha
  obtain ⟨its2, r2, p2, _⟩ := I.tuple hb
  have hz2 : (xs ++ ys).length ≤ sizeLine := by rw [List.length_append]; exact hz
  refine HT.cat_tup p1 p2 (fun z => hx (r1.nil_iff.mp z)) (fun z => absurd (r2.nil_iff.mp z) hy) (fun z => ?_) (by rw [← r1.length, ← r2.length]; exact hz)
  exact ⟨.ref _, _, (laidT I (r1.append r2) hz2).2, rfl, q2 hx hy _ _ (laidT I (r1.append r2) hz2).1⟩
/-- t[lo:hi] -/
def rSlF (K : PySem.W.Frag) : V → Option Int → Option Int → Hp → VK → Prop := fun x lo hi H Q => ∃ a xs, x = .ref a ∧ SqT K H a xs ∧
  (HT.sIx xs.length 0 lo = 0 ∧ HT.sIx xs.length xs.length hi = xs.length → Q (.ref a) H) ∧ (¬ (HT.sIx xs.length 0 lo = 0 ∧ HT.sIx xs.length xs.length hi = xs.length) → ∀ p us, H p = none → Q (.ref p) (upd H p (frT us (cutV xs lo hi))))
theorem sl_tupF : SlR X (rSlF X.K) := by
  rintro pins s σ H x v vl vu lo hi sl Q I rx hs pl pu ⟨a, xs, rfl, hx, q1, q2⟩
  by_cases hw : HT.sIx xs.length 0 lo = 0 ∧ HT.sIx xs.length xs.length hi = xs.length
  · exact sl_tupA pins s σ H _ v vl vu lo hi sl Q I rx hs pl pu ⟨a, xs, rfl, hx, q1, fun n => absurd hw n⟩
  cases rx
  obtain ⟨its, r, ht, hz⟩ := I.tuple hx
  have hlen : its.toArray.size = xs.length := by rw [List.size_toArray, r.length]
  have r2 : Vals (cutV xs lo hi) _ := (r.drop (HT.sIx xs.length 0 lo)).take (HT.sIx xs.length xs.length hi - HT.sIx xs.length 0 lo)
  have z2 : (cutV xs lo hi).length ≤ sizeLine := Nat.le_trans (cutV_length xs lo hi) hz
  refine ⟨"tuple", _, PyProof.Rows.slot_tuple_getitem.lookup, ht.typeIs, HT.getItem_tuple_cut ht hs pl pu (by rw [hlen]; exact hw) ?_ (by rw [hlen]; exact hz)⟩
  rw [hlen]
  exact ⟨.ref _, _, (laidT I r2 z2).2, rfl, q2 hw _ _ (laidT I r2 z2).1⟩
end
end Rh
/-! DL2: operators, truth, tests, displays, subscripts, slices. -/
namespace Rh
open PySem PySem.Spec PyProof.Rows L2

/-! ### what a datum is -/
def mlst (x : D) (M : DHp) : Option (List D) := match x with
  | .lst ds => some ds
  | .ref a => match M a with
    | some (.lst ds) => some ds
    | _ => none
  | _ => none
def lstOf (x : D) (M : DHp) : Option (List D) := match x with
  | .scr ns => some (ns.map D.int)
  | x => mlst x M
def tupOf (x : D) : Option (List D) := match x with
  | .tup ds => some ds
  | _ => none
section
variable {K : PySem.W.Frag} {H : Hp} {M : DHp} {x : D} {v : V} {ds : List D}
theorem mlst_at (A : AbH K H M) (h : Has K H M x v) (e : mlst x M = some ds) : ∃ a vs, v = .ref a ∧ H a = some (.lst vs) ∧ HasL K H M ds vs := by
  cases x with
  | lst es =>
    cases e
    obtain ⟨a, vs, e1, _, e2, r⟩ := h
    exact ⟨a, vs, e1, e2, r⟩
  | ref a =>
    cases q : M a with
    | none => simp only [mlst, q] at e; cases e
    | some o =>
      cases o with
      | lst es =>
        simp only [mlst, q] at e
        cases e
        obtain ⟨vs, e2, r⟩ := A a _ q
        exact ⟨a, vs, h, e2, r⟩
      | _ => simp only [mlst, q] at e; cases e
  | _ => cases e
theorem hasL_ints (K : PySem.W.Frag) (H : Hp) (M : DHp) : ∀ ns : List Int, HasL K H M (ns.map D.int) (ns.map V.int)
  | [] => rfl
  | n :: ns => ⟨_, _, rfl, rfl, hasL_ints K H M ns⟩
theorem lstOf_at (A : AbH K H M) (h : Has K H M x v) (e : lstOf x M = some ds) : ∃ a vs, v = .ref a ∧ SqL K H a vs ∧ HasL K H M ds vs := by
  cases x with
  | scr ns =>
    cases e
    obtain ⟨a, e1, r⟩ := h
    exact ⟨a, _, e1, r.sq, hasL_ints K H M ns⟩
  | lst es =>
    obtain ⟨a, vs, e1, e2, r⟩ := mlst_at A h (show mlst (.lst es) M = some ds from e)
    exact ⟨a, vs, e1, SqL.of e2, r⟩
  | ref b =>
    obtain ⟨a, vs, e1, e2, r⟩ := mlst_at A h (show mlst (.ref b) M = some ds from e)
    exact ⟨a, vs, e1, SqL.of e2, r⟩
  | _ => cases e
theorem tupOf_at (h : Has K H M x v) (e : tupOf x = some ds) : ∃ a vs, v = .ref a ∧ TupF H a vs ∧ HasL K H M ds vs := by
  cases x with
  | tup es =>
    cases e
    obtain ⟨a, vs, e1, _, e2, r⟩ := h
    exact ⟨a, vs, e1, e2, r⟩
  | _ => cases e
end
/-- a new list, tuple -/
def dNew (mu : Bool) (ds : List D) (M : DHp) (Q : DVK) : Prop := match mu with
  | false => Q (.lst ds) M
  | true => ∀ p, M p = none → Q (.ref p) (up M p (.lst ds))
section
variable {K : PySem.W.Frag} {H : Hp} {M : DHp} {ds : List D} {vs : List V} {Q : VK} {Q' : DVK}
theorem new_list {mu : Bool} (A : AbH K H M) (h : HasL K H M ds vs) (q : dNew mu ds M Q') (P : Post K H M Q' Q) {p : Addr} (np : H p = none) : Q (.ref p) (upd H p (.lst vs)) := by
  have nm := A.fresh np
  cases mu with
  | false => exact P _ M _ _ q (Fr.new np) (A.new np) ⟨p, vs, rfl, nm, upd_same, h.fr (Fr.new np)⟩
  | true => exact P _ _ _ _ (q p nm) (Fr.newT np) (A.newT np ⟨vs, upd_same, h.fr (Fr.newT np)⟩) rfl
theorem new_tup (A : AbH K H M) (h : HasL K H M ds vs) (q : Q' (.tup ds) M) (P : Post K H M Q' Q) {p : Addr} {us : List Value} (np : H p = none) : Q (.ref p) (upd H p (frT us vs)) :=
  P _ M _ _ q (Fr.new np) (A.new np) ⟨p, vs, rfl, A.fresh np, ⟨us, upd_same⟩, h.fr (Fr.new np)⟩
theorem new_tpl (A : AbH K H M) (h : HasL K H M ds vs) (q : Q' (.tpl ds) M) (P : Post K H M Q' Q) {p : Addr} (np : H p = none) : Q (.ref p) (upd H p (.tup vs)) :=
  P _ M _ _ q (Fr.new np) (A.new np) ⟨p, vs, rfl, A.fresh np, upd_same, h.fr (Fr.new np)⟩
end

/-! ### binary operators -/
def rI2 (C : Int → Int → Prop) (f : Int → Int → Int) : DR2 := fun x y M Q => match x, y with
  | .int i, .int j => C i j ∧ Q (.int (f i j)) M
  | _, _ => False
theorem ref_I {K : PySem.W.Frag} {C : Int → Int → Prop} {f : Int → Int → Int} : Ref2 K (rI C fun i j => .int (f i j)) (rI2 C f) := fun H M x y dx dy Q Q' A hx hy t P => by
  cases dx <;> first | exact t.elim | skip
  cases dy <;> first | exact t.elim | skip
  exact ⟨_, _, hx, hy, t.1, P.same A t.2 rfl⟩
def rB2 (f : Int → Int → Bool) : DR2 := fun x y M Q => match x, y with
  | .int i, .int j => Q (.bl (f i j)) M
  | _, _ => False
theorem ref_B {K : PySem.W.Frag} {f : Int → Int → Bool} : Ref2 K (rI0 fun i j => .bl (f i j)) (rB2 f) := fun H M x y dx dy Q Q' A hx hy t P => by
  cases dx <;> first | exact t.elim | skip
  cases dy <;> first | exact t.elim | skip
  exact ⟨_, _, hx, hy, P.same A t rfl⟩
/-- + of ints, texts, tuples, lists -/
def rAddAll (K : PySem.W.Frag) : R2 := fun x y H Q => rI0 (fun i j => .int (i + j)) x y H Q ∨ ((∃ i j, x = .str i ∧ y = .str j ∧ i.length + j.length ≤ sizeLine ∧ Q (.str (i ++ j)) H) ∨ (rCatF K x y H Q ∨ rCat x y H Q))
theorem op_addAll {X : Cx} : OpR X (binaryOp .Add) (rAddAll X.K) := OpR.or op_add (OpR.or op_add_str (OpR.or op_catF op_cat))
def rAddD (mu : Bool) : DR2 := fun x y M Q => match x, y with
  | .int i, .int j => Q (.int (i + j)) M
  | .str a, .str b => a.length + b.length ≤ sizeLine ∧ Q (.str (a ++ b)) M
  | .tup a, .tup b => a.length + b.length ≤ sizeLine ∧ Q (.tup (a ++ b)) M
  | x, y => wth (mlst x M) fun a => wth (mlst y M) fun b => a.length + b.length ≤ sizeLine ∧ dNew mu (a ++ b) M Q
theorem ref_add {K : PySem.W.Frag} {mu : Bool} : Ref2 K (rAddAll K) (rAddD mu) := fun H M x y dx dy Q Q' A hx hy t P => by
  have key : ∀ (dx dy : D), Has K H M dx x → Has K H M dy y → (wth (mlst dx M) fun a => wth (mlst dy M) fun b => a.length + b.length ≤ sizeLine ∧ dNew mu (a ++ b) M Q') → rAddAll K x y H Q := fun dx dy hx hy t => by
    obtain ⟨a, e1, t⟩ := wth_of t
    obtain ⟨b, e2, l, t⟩ := wth_of t
    obtain ⟨p, vs, rfl, h1, r1⟩ := mlst_at A hx e1
    obtain ⟨q, ws, rfl, h2, r2⟩ := mlst_at A hy e2
    exact .inr (.inr (.inr ⟨p, q, vs, ws, rfl, rfl, h1, h2, by rw [r1.len, r2.len]; exact l, fun z nz => new_list A (r1.app r2) t P nz⟩))
  unfold rAddD at t
  split at t
  · exact .inl ⟨_, _, hx, hy, P.same A t rfl⟩
  · exact .inr (.inl ⟨_, _, hx, hy, t.1, P.same A t.2 rfl⟩)
  · rename_i a b
    obtain ⟨p, vs, rfl, n1, h1, r1⟩ := hx
    obtain ⟨q, ws, rfl, n2, h2, r2⟩ := hy
    refine .inr (.inr (.inl ⟨p, q, vs, ws, rfl, rfl, h1.sq, h2.sq, by rw [r1.len, r2.len]; exact t.1, fun e => ?_, fun e1 e2 => ?_, fun _ _ z us nz => new_tup A (r1.app r2) t.2 P nz⟩))
    · subst e
      have e' : a = [] := by have := r1.len; cases a with | nil => rfl | cons _ _ => simp at this
      subst e'
      exact P.same A t.2 ⟨q, ws, rfl, n2, h2, r2⟩
    · subst e2
      have e' : b = [] := by have := r2.len; cases b with | nil => rfl | cons _ _ => simp at this
      subst e'
      refine P.same A t.2 ⟨p, vs, rfl, n1, h1, ?_⟩
      rw [List.append_nil]; exact r1
  · exact key _ _ hx hy t
/-- list * int (pure), int * int -/

def CMulW (i j : Int) : Prop := i.natAbs.log2 + j.natAbs.log2 < 100000000
theorem CMulW.ok {i j : Int} (h : CMulW i j) : IntMulOk i j := by
  have b : ∀ x : Int, Builtin.Int.intBits x ≤ x.natAbs.log2 + 1 := fun x => by
    unfold Builtin.Int.intBits
    split <;> omega
  have h1 := b i
  have h2 := b j
  have h3 : i.natAbs.log2 + j.natAbs.log2 < 100000000 := h
  have e : bitsLine = 134217728 := by decide
  unfold IntMulOk
  intro z
  rw [Bool.and_eq_true] at z
  have z2 := z.2
  unfold Builtin.Int.intTooBig at z2
  have z3 := of_decide_eq_true z2
  rw [e] at z3
  omega
theorem op_mulX {X : Cx} : OpR X (binaryOp .Mult) (rI CMulW fun i j => .int (i * j)) := opI fun _ _ _ _ _ _ _ hc q => mul_int q hc.ok
def rMulAll (K : PySem.W.Frag) : R2 := fun x y H Q => rI CMulW (fun i j => .int (i * j)) x y H Q ∨ rRep x y H Q
theorem op_mulAll {X : Cx} : OpR X (binaryOp .Mult) (rMulAll X.K) := OpR.or op_mulX op_rep
def rMulD (mu : Bool) : DR2 := fun x y M Q => match x, y with
  | .int i, .int j => CMulW i j ∧ Q (.int (i * j)) M
  | x, .int k => wth (mlst x M) fun a => -(2 ^ 63) ≤ k ∧ k < 2 ^ 63 ∧ a.length * k.toNat ≤ sizeLine ∧ dNew mu (List.replicate k.toNat a).flatten M Q
  | _, _ => False
theorem hasL_flat {K : PySem.W.Frag} {H : Hp} {M : DHp} {a : List D} {vs : List V} (h : HasL K H M a vs) : ∀ n : Nat, HasL K H M (List.replicate n a).flatten (List.replicate n vs).flatten
  | 0 => rfl
  | n + 1 => by
    rw [List.replicate_succ, List.replicate_succ, List.flatten_cons, List.flatten_cons]
    exact h.app (hasL_flat h n)
theorem ref_mul {K : PySem.W.Frag} {mu : Bool} : Ref2 K (rMulAll K) (rMulD mu) := fun H M x y dx dy Q Q' A hx hy t P => by
  have key : ∀ (dx : D) (k : Int), Has K H M dx x → y = .int k → (wth (mlst dx M) fun a => -(2 ^ 63) ≤ k ∧ k < 2 ^ 63 ∧ a.length * k.toNat ≤ sizeLine ∧ dNew mu (List.replicate k.toNat a).flatten M Q') → rMulAll K x y H Q := fun dx k hx hy t => by
    obtain ⟨a, e1, l1, l2, l3, t⟩ := wth_of t
    obtain ⟨p, vs, rfl, h1, r1⟩ := mlst_at A hx e1
    exact .inr ⟨p, k, vs, rfl, hy, h1, l1, l2, by rw [r1.len]; exact l3, fun z nz => new_list A (hasL_flat r1 _) t P nz⟩
  unfold rMulD at t
  split at t
  · exact .inl ⟨_, _, hx, hy, t.1, P.same A t.2 rfl⟩
  · exact key _ _ hx hy t
  · exact t.elim
theorem ref_div {K : PySem.W.Frag} : Ref2 K (rI CDivW fun i j => .int (i / j)) (rI2 CDivW fun i j => i / j) := ref_I
theorem ref_mod {K : PySem.W.Frag} : Ref2 K (rI (fun _ j => 0 < j) fun i j => .int (i % j)) (rI2 (fun _ j => 0 < j) fun i j => i % j) := ref_I
theorem ref_pow {K : PySem.W.Frag} : Ref2 K (rI CPow fun i j => .int (i ^ j.toNat)) (rI2 CPow fun i j => i ^ j.toNat) := ref_I
/-! ### == of data -/
mutual
def py : D → PyData
  | .non => .none
  | .bl b => .bool b
  | .int i => .int i
  | .str x => .str x
  | .scr ns => .list (ns.map PyData.int)
  | .tup ds => .tuple (pyL ds)
  | .lst ds => .list (pyL ds)
  | .ref _ => .dict []
  | .tpl _ => .dict []
  | .ty _ => .dict []
  | .dic _ _ => .dict []
  | .obj _ _ _ => .dict []
def pyL : List D → List PyData
  | [] => []
  | d :: ds => py d :: pyL ds
end
def pyM (M : DHp) (x : D) : PyData := match x with
  | .ref a => match M a with
    | some (.lst ds) => .list (pyL ds)
    | _ => .dict []
  | x => py x
theorem dpAll_ints {K : PySem.W.Frag} {H : Hp} : ∀ ns : List Int, DpAll K H (ns.map V.int) (ns.map PyData.int)
  | [] => .nil
  | n :: ns => .cons (.int n) (dpAll_ints ns)
section
variable {K : PySem.W.Frag} {H : Hp} {M : DHp}
mutual
theorem Has.dp : ∀ {d : D} {v : V}, Has K H M d v → PyData.canLay0 (py d) = true → Dp K H v (py d)
  | .non, _, h, _ => by rw [show _ = V.non from h]; exact .non
  | .bl b, _, h, _ => by rw [show _ = V.bl b from h]; exact .bl b
  | .int i, _, h, _ => by rw [show _ = V.int i from h]; exact .int i
  | .str x, _, h, _ => by rw [show _ = V.str x from h]; exact .str x
  | .scr ns, _, h, _ => by
    obtain ⟨a, rfl, t⟩ := h
    exact .lst t.sq (dpAll_ints ns)
  | .tup ds, _, h, c => by
    obtain ⟨a, vs, rfl, _, t, r⟩ := h
    exact .tup t.sq (HasL.dp r c)
  | .lst ds, _, h, c => by
    obtain ⟨a, vs, rfl, _, t, r⟩ := h
    exact .lst (SqL.of t) (HasL.dp r c)
  | .ref _, _, _, c => by cases c
  | .tpl _, _, _, c => by cases c
  | .ty _, _, _, c => by cases c
  | .dic _ _, _, _, c => by cases c
  | .obj _ _ _, _, _, c => by cases c
theorem HasL.dp : ∀ {ds : List D} {vs : List V}, HasL K H M ds vs → PyData.canLayAll0 (pyL ds) = true → DpAll K H vs (pyL ds)
  | [], _, h, _ => by rw [show _ = ([] : List V) from h]; exact .nil
  | d :: ds, _, h, c => by
    obtain ⟨v, r, rfl, h1, h2⟩ := h
    obtain ⟨c1, c2⟩ := Bool.and_eq_true_iff.mp (show (PyData.canLay0 (py d) && PyData.canLayAll0 (pyL ds)) = true from c)
    exact .cons (Has.dp h1 c1) (HasL.dp h2 c2)
end
theorem Has.dpM (A : AbH K H M) {d : D} {v : V} (h : Has K H M d v) (s : SeqAt.shaped (pyM M d) = true) : Dp K H v (pyM M d) := by
  have c := SeqAt.canLay_of_shaped s
  cases d with
  | ref a =>
    cases q : M a with
    | none => simp only [pyM, q] at c; cases c
    | some o =>
      cases o with
      | lst es =>
        simp only [pyM, q] at c ⊢
        obtain ⟨vs, e2, r⟩ := A a _ q
        rw [show v = .ref a from h]
        exact .lst (SqL.of e2) (HasL.dp r c)
      | _ => simp only [pyM, q] at c; cases c
  | _ => exact Has.dp h c
end
def rEqDD (neg : Bool) : DR2 := fun x y M Q => match x, y with
  | .str a, .str b => Q (.bl (neg != (a == b))) M
  | x, y => SeqAt.shaped (pyM M x) = true ∧ SeqAt.shaped (pyM M y) = true ∧ Q (.bl (neg != PyData.eqv (pyM M x) (pyM M y))) M
def rEqA (K : PySem.W.Frag) : R2 := fun x y H Q => rEq x y H Q ∨ rEqD K x y H Q
def rNeA (K : PySem.W.Frag) : R2 := fun x y H Q => rNe x y H Q ∨ rNeD K x y H Q
theorem op_eqA {X : Cx} (hu : X.A.units + 64 < cLine) : OpR X (compareOp .Eq) (rEqA X.K) := OpR.or op_eq (op_eqD hu)
theorem op_neA {X : Cx} (hu : X.A.units + 64 < cLine) : OpR X (compareOp .NotEq) (rNeA X.K) := OpR.or op_ne (op_neD hu)
theorem dec_strs {a b : Str} : decide (V.str a = V.str b) = (a == b) := by
  by_cases h : a = b
  · subst h; simp
  · have h2 : V.str a ≠ V.str b := fun e => h (V.str.inj e)
    rw [decide_eq_false h2, beq_eq_false_iff_ne.mpr h]
theorem ref_eq {K : PySem.W.Frag} : Ref2 K (rEqA K) (rEqDD false) := fun H M x y dx dy Q Q' A hx hy t P => by
  unfold rEqDD at t
  split at t
  · rw [show x = _ from hx, show y = _ from hy]
    exact .inl ⟨rfl, P.same A t (by show V.bl _ = V.bl _; rw [Bool.false_bne, dec_strs])⟩
  · exact .inr ⟨_, _, hx.dpM A t.1, hy.dpM A t.2.1, t.1, t.2.1, P.same A t.2.2 (by show V.bl _ = V.bl _; rw [Bool.false_bne])⟩
theorem ref_ne {K : PySem.W.Frag} : Ref2 K (rNeA K) (rEqDD true) := fun H M x y dx dy Q Q' A hx hy t P => by
  unfold rEqDD at t
  split at t
  · rw [show x = _ from hx, show y = _ from hy]
    exact .inl ⟨rfl, P.same A t (by show V.bl _ = V.bl _; rw [Bool.true_bne, dec_strs])⟩
  · exact .inr ⟨_, _, hx.dpM A t.1, hy.dpM A t.2.1, t.1, t.2.1, P.same A t.2.2 (by show V.bl _ = V.bl _; rw [Bool.true_bne])⟩

/-! ### in -/
def flatD : D → Bool
  | .non => true
  | .bl _ => true
  | .int _ => true
  | .str _ => true
  | _ => false
def eqD : D → D → Bool
  | .non, .non => true
  | .bl a, .bl b => a == b
  | .bl a, .int b => (if a then 1 else 0) == b
  | .int a, .bl b => a == (if b then 1 else 0)
  | .int a, .int b => a == b
  | .str a, .str b => a == b
  | _, _ => false
def seqOf (x : D) (M : DHp) : Option (List D) := match x with
  | .tup ds => some ds
  | x => lstOf x M
theorem seqOf_at {K : PySem.W.Frag} {H : Hp} {M : DHp} {x : D} {v : V} {ds : List D} (A : AbH K H M) (h : Has K H M x v) (e : seqOf x M = some ds) : ∃ a vs, v = .ref a ∧ (SqL K H a vs ∨ SqT K H a vs) ∧ HasL K H M ds vs := by
  cases x with
  | tup es =>
    obtain ⟨a, vs, e1, e2, r⟩ := tupOf_at h (show tupOf (.tup es) = some ds from e)
    exact ⟨a, vs, e1, .inr e2.sq, r⟩
  | _ =>
    obtain ⟨a, vs, e1, e2, r⟩ := lstOf_at A h (show lstOf _ M = some ds from e)
    exact ⟨a, vs, e1, .inl e2, r⟩
theorem flat_has {K : PySem.W.Frag} {H : Hp} {M : DHp} {d : D} {v : V} (h : Has K H M d v) (f : flatD d = true) : flatV v = true ∧ ∀ {e : D} {w : V}, Has K H M e w → flatD e = true → eqV w v = eqD e d := by
  cases d <;> first | (cases f; done) | (
    rw [show v = _ from h]
    refine ⟨rfl, fun {e w} h' f' => ?_⟩
    cases e <;> first | (cases f'; done) | (rw [show w = _ from h']; rfl))
theorem flat_hasL {K : PySem.W.Frag} {H : Hp} {M : DHp} {x : D} {v : V} (h : Has K H M x v) (f : flatD x = true) : ∀ {ds : List D} {vs : List V}, HasL K H M ds vs → ds.all flatD = true → vs.all flatV = true ∧ inV v vs = ds.any fun e => eqD e x
  | [], _, r, _ => by rw [show _ = ([] : List V) from r]; exact ⟨rfl, rfl⟩
  | d :: ds, _, r, c => by
    obtain ⟨w, ws, rfl, h1, h2⟩ := r
    rw [List.all_cons, Bool.and_eq_true_iff] at c
    obtain ⟨i1, i2⟩ := flat_hasL h f h2 c.2
    refine ⟨by rw [List.all_cons, (flat_has h1 c.1).1, i1]; rfl, ?_⟩
    show (List.any (w :: ws) fun y => eqV y v) = _
    rw [List.any_cons, List.any_cons, (flat_has h f).2 h1 c.1]
    congr 1
/-- one sign in a text, a flat thing in a list or tuple -/
def rInAll (K : PySem.W.Frag) (neg : Bool) : R2 := fun x y H Q => (∃ (c : Nat) (z : Str), x = .str ⟨#[c]⟩ ∧ y = .str z ∧ Q (.bl (neg != decide (c ∈ z.cps.toList))) H) ∨ rIn K neg x y H Q
theorem op_inAll {X : Cx} : OpR X (compareOp .In) (rInAll X.K false) := OpR.or (by
  intro pins s σ H x y v u Q I rx ry h
  obtain ⟨c, z, e1, e2, q⟩ := h
  exact op_in_sign pins s σ H x y v u Q I rx ry ⟨c, z, e1, e2, by rw [Bool.false_bne] at q; exact q⟩) op_in_seq
def rInD (neg : Bool) : DR2 := fun x y M Q => match y with
  | .str z => (match x with
    | .str s => ∃ c, s = ⟨#[c]⟩ ∧ Q (.bl (neg != decide (c ∈ z.cps.toList))) M
    | _ => False)
  | y => wth (seqOf y M) fun ds => flatD x = true ∧ ds.all flatD = true ∧ Q (.bl (neg != ds.any fun e => eqD e x)) M
theorem ref_in {K : PySem.W.Frag} {neg : Bool} : Ref2 K (rInAll K neg) (rInD neg) := fun H M x y dx dy Q Q' A hx hy t P => by
  have key : ∀ (dy : D), Has K H M dy y → (wth (seqOf dy M) fun ds => flatD dx = true ∧ ds.all flatD = true ∧ Q' (.bl (neg != ds.any fun e => eqD e dx)) M) → rInAll K neg x y H Q := fun dy hy t => by
    obtain ⟨ds, e, f, g, q⟩ := wth_of t
    obtain ⟨a, vs, rfl, sq, r⟩ := seqOf_at A hy e
    obtain ⟨i1, i2⟩ := flat_hasL hx f r g
    refine .inr ⟨a, vs, rfl, sq, (flat_has hx f).1, i1, ?_⟩
    rw [i2]
    refine P.same A q ?_
    cases neg <;> simp [Has]
  cases dy with
  | str z =>
    cases dx <;> first | exact t.elim | skip
    obtain ⟨c, e, q⟩ := t
    subst e
    exact .inl ⟨c, z, hx, hy, P.same A q rfl⟩
  | _ => exact key _ hy t
/-! ### is None -/
end Rh
/-! DL3: truth, tests, arguments, displays, subscripts, slices, built-in calls. -/
namespace Rh
open PySem PySem.Spec PyProof.Rows L2

/-! ### truth -/
section
variable {X : Cx} {O : Org} {pos : Pos} {a b c : Expr} {ta tb : DTE} {tA tB : DTT} {rest : List Expr}
def dIf (t : DTT) (ta tb : DTE) : DTE := fun τ M Q => t τ M fun k M1 => match k with
  | true => ta τ M1 Q
  | false => tb τ M1 Q
theorem de_if (hc : DT X O c tA) (ha : DE X O a ta) (hb : DE X O b tb) : DE X O (.IfExp c a b pos) (dIf tA ta tb) := (pe_ifExp hc ha hb).wk fun σ H Q ⟨τ, M, Q', b, t, p⟩ =>
  ⟨τ, M, _, b, t, fun k M1 H1 q f a => by
    cases k with
    | true => rw [if_pos rfl]; exact ⟨τ, M1, Q', b.step f a, q, p.tr f⟩
    | false => rw [if_neg Bool.false_ne_true]; exact ⟨τ, M1, Q', b.step f a, q, p.tr f⟩⟩
/-! ### arguments, displays -/
def dArgs : List DTE → DSt → DHp → (List D → DHp → Prop) → Prop
  | [], _, M, Q => Q [] M
  | t :: ts, τ, M, Q => t τ M fun x M1 => dArgs ts τ M1 fun xs M2 => Q (x :: xs) M2
def tArgs (K : PySem.W.Frag) (O : Org) : List DTE → TA
  | [] => tNil
  | t :: ts => tCons (liftE K O t) (tArgs K O ts)
abbrev DAs (X : Cx) (O : Org) (es : List Expr) (ts : List DTE) : Prop := PA X es (tArgs X.K O ts)
theorem das_nil : DAs X O [] [] := pa_nil
theorem das_cons {e : Expr} {es : List Expr} {t : DTE} {ts : List DTE} (h : DE X O e t) (r : DAs X O es ts) (hs : starEach (e :: es) X.env = (false, eval e X.env) :: starEach es X.env := by rfl) : DAs X O (e :: es) (t :: ts) := pa_cons h r hs
theorem args_lift {K : PySem.W.Frag} {O : Org} : ∀ {ts : List DTE} {σ : L2.St} {H : Hp} {Q : List V → Hp → Prop} {τ : DSt} {M : DHp} {Q' : List D → DHp → Prop}, Beg K O H M τ σ → dArgs ts τ M Q' →
    (∀ ds M' vs H', Q' ds M' → ds.length = ts.length → Fr H M H' M' → AbH K H' M' → HasL K H' M' ds vs → Q vs H') → tArgs K O ts σ H Q
  | [], σ, H, Q, τ, M, Q', b, t, p => p [] M [] H t rfl (Fr.refl H M) b.h rfl
  | t0 :: ts, σ, H, Q, τ, M, Q', b, t, p => ⟨τ, M, _, b, t, fun d M1 x H1 q f a h => args_lift (b.step f a) q fun ds M2 vs H2 q2 l f2 a2 h2 => p (d :: ds) M2 (x :: vs) H2 q2 (by rw [List.length_cons, List.length_cons, l]) (f.trans f2) a2 ⟨x, vs, rfl, h.fr f2, h2⟩⟩
theorem small_line {n : Nat} (h : n ≤ 1000) : n ≤ sizeLine := Nat.le_trans h (by decide)
def dTup (ts : List DTE) : DTE := fun τ M Q => dArgs ts τ M fun ds M1 => Q (.tup ds) M1
def dLst (mu : Bool) (ts : List DTE) : DTE := fun τ M Q => dArgs ts τ M fun ds M1 => dNew mu ds M1 Q
theorem de_tup {es : List Expr} {ts : List DTE} {x1 : Nat} (h : DAs X O es ts) (hl : ts.length ≤ 1000 := by exact Nat.le_of_ble_eq_true rfl) : DE X O (.Tuple es x1 pos) (dTup ts) := (pe_tupF h).wk fun σ H Q ⟨τ, M, Q', b, t, p⟩ =>
  args_lift b t fun ds M' vs H' q l f a h => ⟨by rw [h.len, l]; exact small_line hl, fun z us nz => new_tup a h q (p.tr f) nz⟩
theorem de_lst {es : List Expr} {ts : List DTE} (mu : Bool) (h : DAs X O es ts) (hl : ts.length ≤ 1000 := by exact Nat.le_of_ble_eq_true rfl) : DE X O (.List es pos) (dLst mu ts) := (pe_lst h).wk fun σ H Q ⟨τ, M, Q', b, t, p⟩ =>
  args_lift b t fun ds M' vs H' q l f a h => ⟨by rw [h.len, l]; exact small_line hl, fun z nz => new_list a h q (p.tr f) nz⟩

/-! ### -x -/
def dNeg (ta : DTE) : DTE := fun τ M Q => ta τ M fun x M1 => match x with
  | .int i => Q (.int (-i)) M1
  | _ => False
theorem de_neg (ha : DE X O a ta) : DE X O (.UnaryOp .USub a pos) (dNeg ta) := (pe_un un_neg ha).wk fun σ H Q ⟨τ, M, Q', b, t, p⟩ =>
  ⟨τ, M, _, b, t, fun d M1 x H1 q f a h => by
    cases d <;> first | exact q.elim | skip
    exact ⟨_, h, p _ M1 _ H1 q f a rfl⟩⟩

/-! ### subscripts, slices -/
def rIxAll (K : PySem.W.Frag) : V → V → Hp → VK → Prop := fun x y H Q => rIxL K x y H Q ∨ (rIxT K x y H Q ∨ rIxS x y H Q)
theorem ixAll : IxR X (rIxAll X.K) := IxR.or ix_list (IxR.or ix_tup ix_str)
def rIxD : DR2 := fun x y M Q => match y with
  | .int k => (match x with
    | .str z => z.length ≤ sizeLine ∧ wth (atI z.cps.toList k) fun c => Q (.str ⟨#[c]⟩) M
    | .tpl ds => wth (atI ds k) fun d => Q d M
    | x => wth (seqOf x M) fun ds => wth (atI ds k) fun d => Q d M)
  | _ => False
theorem atI_has {K : PySem.W.Frag} {H : Hp} {M : DHp} {ds : List D} {vs : List V} {k : Int} {d : D} (r : HasL K H M ds vs) (e : atI ds k = some d) : ∃ v, atI vs k = some v ∧ Has K H M d v := by
  unfold atI at e ⊢
  rw [r.len]
  cases q : ixN ds.length k with
  | none => rw [q] at e; cases e
  | some j =>
    rw [q] at e
    exact r.get e
theorem ref_ix {K : PySem.W.Frag} : Ref2 K (rIxAll K) rIxD := fun H M x y dx dy Q Q' A hx hy t P => by
  cases dy <;> first | exact t.elim | skip
  rename_i k
  have key : ∀ (dx : D), Has K H M dx x → (wth (seqOf dx M) fun ds => wth (atI ds k) fun d => Q' d M) → rIxAll K x y H Q := fun dx hx t => by
    obtain ⟨ds, e, t⟩ := wth_of t
    obtain ⟨d, e2, t⟩ := wth_of t
    obtain ⟨p, vs, rfl, sq, r⟩ := seqOf_at A hx e
    obtain ⟨v, e3, hv⟩ := atI_has r e2
    rcases sq with sq | sq
    · exact .inl ⟨p, vs, k, v, rfl, hy, sq, e3, P.same A t hv⟩
    · exact .inr (.inl ⟨p, vs, k, v, rfl, hy, sq, e3, P.same A t hv⟩)
  cases dx with
  | str z =>
    obtain ⟨l, t⟩ := t
    obtain ⟨c, e, t⟩ := wth_of t
    exact .inr (.inr ⟨z, k, c, hx, hy, l, e, P.same A t rfl⟩)
  | tpl ds =>
    obtain ⟨d, e2, t⟩ := wth_of t
    obtain ⟨p, vs, rfl, _, sq, r⟩ := hx
    obtain ⟨v, e3, hv⟩ := atI_has r e2
    exact .inr (.inl ⟨p, vs, k, v, rfl, hy, SqT.of sq, e3, P.same A t hv⟩)
  | _ => exact key _ hx t
theorem de_ix (ha : DE X O a ta) (hb : DE X O b tb) (hs : PlainIx b) : DE X O (.Subscript a b pos) (dOp rIxD ta tb) := (pe_ix ixAll ha hb hs).wk (lift2 ref_ix)
abbrev DTO := DSt → DHp → (Option Int → DHp → Prop) → Prop
def liftO (K : PySem.W.Frag) (O : Org) (t : DTO) : TO := fun σ H Q => ∃ (τ : DSt) (M : DHp) (Q' : Option Int → DHp → Prop), Beg K O H M τ σ ∧ t τ M Q' ∧ ∀ o M' H', Q' o M' → Fr H M H' M' → AbH K H' M' → Q o H'
abbrev DO_ (X : Cx) (O : Org) (e : Option Expr) (t : DTO) : Prop := PO X e (liftO X.K O t)
theorem _root_.L2.PO.wk {e : Option Expr} {t t' : TO} (h : PO X e t) (i : ∀ σ H Q, t' σ H Q → t σ H Q) : PO X e t' := ⟨fun pins s σ H Q I q => h.run pins s σ H Q I (i σ H Q q)⟩
def dNoPart : DTO := fun _ M Q => Q none M
def dPart (t : DTE) : DTO := fun τ M Q => t τ M fun x M1 => match x with
  | .int i => Q (some i) M1
  | _ => False
theorem do_none : DO_ X O none dNoPart := (po_none (X := X)).wk fun σ H Q ⟨τ, M, Q', b, t, p⟩ => p _ M H t (Fr.refl H M) b.h
theorem do_some (h : DE X O a ta) : DO_ X O (some a) (dPart ta) := (po_some h).wk fun σ H Q ⟨τ, M, Q', b, t, p⟩ =>
  ⟨τ, M, _, b, t, fun d M1 x H1 q f a h => by
    cases d <;> first | exact q.elim | skip
    exact ⟨_, h, p _ M1 H1 q f a⟩⟩
def cutD (ds : List D) (lo hi : Option Int) : List D := (ds.drop (HT.sIx ds.length 0 lo)).take (HT.sIx ds.length ds.length hi - HT.sIx ds.length 0 lo)
theorem cut_has {K : PySem.W.Frag} {H : Hp} {M : DHp} {ds : List D} {vs : List V} (r : HasL K H M ds vs) (lo hi : Option Int) : HasL K H M (cutD ds lo hi) (cutV vs lo hi) := by
  unfold cutD cutV
  rw [r.len]
  exact (r.drop _).take _
def rSlAll (K : PySem.W.Frag) : V → Option Int → Option Int → Hp → VK → Prop := fun x lo hi H Q => rSlL K x lo hi H Q ∨ (rSlF K x lo hi H Q ∨ rSlS x lo hi H Q)
theorem slAll : SlR X (rSlAll X.K) := SlR.or sl_list (SlR.or sl_tupF sl_str)
def rSlD (mu : Bool) (x : D) (lo hi : Option Int) (M : DHp) (Q : DVK) : Prop := match x with
  | .str z => z.length ≤ sizeLine ∧ Q (.str (cutS z lo hi)) M
  | .tup ds => Q (.tup (cutD ds lo hi)) M
  | x => wth (lstOf x M) fun ds => dNew mu (cutD ds lo hi) M Q
def dSl (mu : Bool) (te : DTE) (tl th : DTO) : DTE := fun τ M Q => te τ M fun x M1 => tl τ M1 fun l M2 => th τ M2 fun u M3 => rSlD mu x l u M3 Q
theorem ref_sl {K : PySem.W.Frag} {mu : Bool} {H : Hp} {M : DHp} {x : V} {dx : D} {lo hi : Option Int} {Q : VK} {Q' : DVK} (A : AbH K H M) (hx : Has K H M dx x) (t : rSlD mu dx lo hi M Q') (P : Post K H M Q' Q) : rSlAll K x lo hi H Q := by
  have key : ∀ (dx : D), Has K H M dx x → (wth (lstOf dx M) fun ds => dNew mu (cutD ds lo hi) M Q') → rSlAll K x lo hi H Q := fun dx hx t => by
    obtain ⟨ds, e, t⟩ := wth_of t
    obtain ⟨p, vs, rfl, sq, r⟩ := lstOf_at A hx e
    exact .inl ⟨p, vs, rfl, sq, fun z nz => new_list A (cut_has r lo hi) t P nz⟩
  cases dx with
  | str z => exact .inr (.inr ⟨z, hx, t.1, P.same A t.2 rfl⟩)
  | tup ds =>
    obtain ⟨p, vs, rfl, n, sq, r⟩ := hx
    refine .inr (.inl ⟨p, vs, rfl, sq.sq, fun e => ?_, fun _ z us nz => new_tup A (cut_has r lo hi) t P nz⟩)
    have e' : cutD ds lo hi = ds := by
      unfold cutD
      rw [← r.len, e.1, e.2, List.drop_zero, Nat.sub_zero, r.len, List.take_length]
    rw [show rSlD mu (.tup ds) lo hi M Q' = Q' (.tup (cutD ds lo hi)) M from rfl, e'] at t
    exact P.same A t ⟨p, vs, rfl, n, sq, r⟩
  | _ => exact key _ hx t
theorem de_slice {lo hi : Option Expr} {tl th : DTO} {p2 : Pos} (mu : Bool) (ha : DE X O a ta) (hl : DO_ X O lo tl) (hh : DO_ X O hi th) : DE X O (.Subscript a (.Slice lo hi none p2) pos) (dSl mu ta tl th) := (pe_slice slAll ha hl hh).wk fun σ H Q ⟨τ, M, Q', b, t, p⟩ =>
  ⟨τ, M, _, b, t, fun d M1 x H1 q f a h => ⟨τ, M1, _, b.step f a, q, fun l M2 H2 q2 f2 a2 => ⟨τ, M2, _, (b.step f a).step f2 a2, q2, fun u M3 H3 q3 f3 a3 => ref_sl a3 (h.fr (f2.trans f3)) q3 (p.tr (f.trans (f2.trans f3)))⟩⟩⟩

/-! ### built-in calls -/
abbrev DR := List D → DHp → DVK → Prop
abbrev R1 := List V → Hp → VK → Prop
def RefL (K : PySem.W.Frag) (r : R1) (r' : DR) : Prop := ∀ (H : Hp) (M : DHp) (xs : List V) (ds : List D) (Q : VK) (Q' : DVK), AbH K H M → HasL K H M ds xs → r' ds M Q' → Post K H M Q' Q → r xs H Q
def dCB (r : DR) (ts : List DTE) : DTE := fun τ M Q => dArgs ts τ M fun ds M1 => r ds M1 Q
theorem liftCB {K : PySem.W.Frag} {O : Org} {r : R1} {r' : DR} {ts : List DTE} (hr : RefL K r r') : ∀ σ H Q, liftE K O (dCB r' ts) σ H Q → tCB r (tArgs K O ts) σ H Q := fun σ H Q ⟨τ, M, Q', b, t, p⟩ =>
  args_lift b t fun ds M' vs H' q l f a h => hr H' M' vs ds Q Q' a h q (p.tr f)
theorem de_callB {x : Str} {p : Pos} {es : List Expr} {id : String} {r : R1} {r' : DR} {ts : List DTE} (hc : CallR X (.builtin id) r) (hr : RefL X.K r r') (hg : Gl X x) (hm : X.mg x = none) (hv : bootBuiltins x = some (.builtin id)) (ha : DAs X O (a :: es) ts)
    (hn : x ≠ "__name__" := by decide) (hd : (x == ("__debug__" : Str)) = false := by decide) (he : starEach (a :: es) X.env = (false, eval a X.env) :: starEach es X.env := by rfl) (hpl : (backTo pos (starEach es X.env)).any (·.1) = false := by rfl) :
    DE X O (.Call (.Name x p) (a :: es) [] pos) (dCB r' ts) := PE.wk (pe_callB hc hg hm hv ha hn hd he hpl) (liftCB hr)
theorem de_callTy {x : Str} {p : Pos} {es : List Expr} {T : String} {r : R1} {r' : DR} {ts : List DTE} (hc : CallR X (.type T) r) (hr : RefL X.K r r') (hg : Gl X x) (hm : X.mg x = none) (hv : bootBuiltins x = some (.type T)) (ha : DAs X O (a :: es) ts)
    (hn : x ≠ "__name__" := by decide) (hd : (x == ("__debug__" : Str)) = false := by decide) (he : starEach (a :: es) X.env = (false, eval a X.env) :: starEach es X.env := by rfl) (hpl : (backTo pos (starEach es X.env)).any (·.1) = false := by rfl) :
    DE X O (.Call (.Name x p) (a :: es) [] pos) (dCB r' ts) := PE.wk (pe_callTy hc hg hm hv ha hn hd he hpl) (liftCB hr)
end
end Rh
/-! DL4: statements, targets, what is walked, for, while, list comprehensions. -/
namespace Rh
open PySem PySem.Spec PyProof.Rows L2

section
variable {X : Cx} {O : Org} {pos : Pos} {st : Stmt} {rest : List Stmt} {t u : DTS} {e : Expr} {te : DTE}
def dNext : DTS := fun E τ M => E.nx τ M
def dSeq (t u : DTS) : DTS := fun E τ M => t { E with nx := u E } τ M
theorem dss_nil : DSs X O [] dNext := (pss_nil (X := X)).wk fun D σ H ⟨τ, M, E, b, t, pn, pr⟩ => pn τ M σ H t (Fr.refl H M) b.h b.s
theorem dss_cons (h1 : DS X O st t) (h2 : DSs X O rest u) : DSs X O (st :: rest) (dSeq t u) := (pss_cons h1 h2).wk fun D σ H ⟨τ, M, E, b, t, pn, pr⟩ =>
  ⟨τ, M, _, b, t, fun τ1 M1 σ1 H1 q f a s => ⟨τ1, M1, E, ⟨b.fr.trans f, s, a⟩, q, pn.tr f, pr.tr f⟩, pr⟩
theorem dss_one (h1 : DS X O st t) : DSs X O [st] t := pss_one h1
def dRet (te : DTE) : DTS := fun E τ M => te τ M E.rt
theorem ds_ret (he : DE X O e te) : DS X O (.Return (some e) pos) (dRet te) := (ps_ret he).wk fun D σ H ⟨τ, M, E, b, t, pn, pr⟩ => ⟨τ, M, _, b, t, pr⟩
def dIfS (c : DTT) (t u : DTS) : DTS := fun E τ M => c τ M fun k M1 => match k with
  | true => t E τ M1
  | false => u E τ M1
theorem ds_if {c : Expr} {a b : List Stmt} {tc : DTT} (hc : DT X O c tc) (ha : DSs X O a t) (hb : DSs X O b u) : DS X O (.If c a b pos) (dIfS tc t u) := (ps_if hc ha hb).wk fun D σ H ⟨τ, M, E, b, t, pn, pr⟩ =>
  ⟨τ, M, _, b, t, fun k M1 H1 q f a => by
    cases k with
    | true => rw [if_pos rfl]; exact ⟨τ, M1, E, b.step f a, q, pn.tr f, pr.tr f⟩
    | false => rw [if_neg Bool.false_ne_true]; exact ⟨τ, M1, E, b.step f a, q, pn.tr f, pr.tr f⟩⟩
end

/-! ### targets -/
abbrev DTG := D → DSt → DHp → (DSt → DHp → Prop) → Prop
/-- the target's reading; the slots vs alone may change -/
def RefG (K : PySem.W.Frag) (O : Org) (vs : List Nat) (g : TG) (dg : DTG) : Prop := ∀ (v : V) (d : D) (σ : L2.St) (H : Hp) (τ : DSt) (M : DHp) (Q : L2.St → Hp → Prop) (Q' : DSt → DHp → Prop), Beg K O H M τ σ → Has K H M d v → dg d τ M Q' →
  (∀ τ' M' σ' H', Q' τ' M' → Fr H M H' M' → AbH K H' M' → AbS K H' M' τ' σ' → wipe σ' vs = wipe σ vs → Q σ' H') → g v σ H Q
theorem wipe_set {σ : L2.St} {i : Nat} {x : Option V} : ∀ {vs : List Nat}, i ∈ vs → wipe (σ.set i x) vs = wipe σ vs
  | v :: vs, h => by
    unfold wipe
    by_cases z : i ∈ vs
    · rw [wipe_set z]
    · have e : v = i := by
        rcases List.mem_cons.mp h with q | q
        · exact q.symm
        · exact absurd q z
      subst e
      have key : ∀ ws : List Nat, v ∉ ws → wipe (σ.set v x) ws = (wipe σ ws).set v x := by
        intro ws
        induction ws with
        | nil => intro _; rfl
        | cons w ws ih =>
          intro hn
          unfold wipe
          rw [ih fun q => hn (List.mem_cons_of_mem _ q)]
          exact List.set_comm _ _ fun q => hn (by rw [q]; exact List.mem_cons_self)
      rw [key vs z, List.set_set]
def dgName (i : Nat) : DTG := fun d τ M Q => Q (τ.set i (some d)) M
theorem ref_gName {K : PySem.W.Frag} {O : Org} {vs : List Nat} {i : Nat} (h : i ∈ vs) : RefG K O vs (gName i) (dgName i) := fun v d σ H τ M Q Q' b hv t p =>
  p _ M _ H t (Fr.refl H M) b.h (b.s.set hv i) (wipe_set h)
def dgAll : List DTG → List D → DSt → DHp → (DSt → DHp → Prop) → Prop
  | [], [], τ, M, Q => Q τ M
  | g :: gs, d :: ds, τ, M, Q => g d τ M fun τ' M' => dgAll gs ds τ' M' Q
  | _, _, _, _, _ => False
def RefGs (K : PySem.W.Frag) (O : Org) (vs : List Nat) (g : TGs) (dgs : List DTG) : Prop := ∀ (ws : List V) (ds : List D) (σ : L2.St) (H : Hp) (τ : DSt) (M : DHp) (Q : L2.St → Hp → Prop) (Q' : DSt → DHp → Prop), Beg K O H M τ σ → HasL K H M ds ws → dgAll dgs ds τ M Q' →
  (∀ τ' M' σ' H', Q' τ' M' → Fr H M H' M' → AbH K H' M' → AbS K H' M' τ' σ' → wipe σ' vs = wipe σ vs → Q σ' H') → g ws σ H Q
theorem ref_gNil {K : PySem.W.Frag} {O : Org} {vs : List Nat} : RefGs K O vs gNil [] := fun ws ds σ H τ M Q Q' b hv t p => by
  cases ds with
  | nil => exact ⟨hv, p τ M σ H t (Fr.refl H M) b.h b.s rfl⟩
  | cons d ds => exact t.elim
theorem ref_gCons {K : PySem.W.Frag} {O : Org} {vs : List Nat} {g : TG} {gs : TGs} {dg : DTG} {dgs : List DTG} (h : RefG K O vs g dg) (r : RefGs K O vs gs dgs) : RefGs K O vs (gCons g gs) (dg :: dgs) := fun ws ds σ H τ M Q Q' b hv t p => by
  cases ds with
  | nil => exact t.elim
  | cons d ds =>
    obtain ⟨v, ws', rfl, h1, h2⟩ := hv
    exact ⟨v, ws', rfl, h v d σ H τ M _ _ b h1 t fun τ1 M1 σ1 H1 q f a s w => r ws' ds σ1 H1 τ1 M1 Q Q' ⟨b.fr.trans f, s, a⟩ (h2.fr f) q fun τ2 M2 σ2 H2 q2 f2 a2 s2 w2 => p τ2 M2 σ2 H2 q2 (f.trans f2) a2 s2 (w2.trans w)⟩
/-- the tuple's length told apart -/
def dgTupN (n : Nat) (gs : List DTG) : DTG := fun d τ M Q => match d with
  | .tup ds => ds.length = n ∧ dgAll gs ds τ M Q
  | .tpl ds => ds.length = n ∧ dgAll gs ds τ M Q
  | _ => False
theorem ref_gTup {K : PySem.W.Frag} {O : Org} {vs : List Nat} {n : Nat} {gs : TGs} {dgs : List DTG} (r : RefGs K O vs gs dgs) : RefG K O vs (gTup K n gs) (dgTupN n dgs) := fun v d σ H τ M Q Q' b hv t p => by
  cases d <;> first | exact t.elim | skip
  · obtain ⟨a, ws, rfl, _, hq, hr⟩ := hv
    exact ⟨a, ws, rfl, hq.sq, by rw [hr.len]; exact t.1, r ws _ σ H τ M Q Q' b hr t.2 p⟩
  · obtain ⟨a, ws, rfl, _, hq, hr⟩ := hv
    exact ⟨a, ws, rfl, SqT.of hq, by rw [hr.len]; exact t.1, r ws _ σ H τ M Q Q' b hr t.2 p⟩

section
variable {X : Cx} {O : Org} {pos : Pos} {e : Expr} {te : DTE}
def dAsg (te : DTE) (g : DTG) : DTS := fun E τ M => te τ M fun x M1 => g x τ M1 E.nx
theorem liftAsg {K : PySem.W.Frag} {te : DTE} {g : TG} {dg : DTG} {vs : List Nat} (hr : RefG K O vs g dg) : ∀ D σ H, liftS K O (dAsg te dg) D σ H → tAsg (liftE K O te) g D σ H := fun D σ H ⟨τ, M, E, b, t, pn, pr⟩ =>
  ⟨τ, M, _, b, t, fun d M1 v H1 q f a h => hr v d σ H1 τ M1 _ _ (b.step f a) h q fun τ2 M2 σ2 H2 q2 f2 a2 s2 _ => pn τ2 M2 σ2 H2 q2 (f.trans f2) a2 s2⟩
theorem ds_asg {tg : Expr} {g : TG} {dg : DTG} {vs : List Nat} (he : DE X O e te) (hg : PG X tg g) (hr : RefG X.K O vs g dg) (hs : swapsWithSole [tg] e pos.line X.env = pure false := by rfl) (hw : swappedStores [tg] e X.env = pure none := by rfl)
    (h1 : (assignEach [tg] X.env).map (·.2) = [assign tg X.env] := by rfl) : DS X O (.Assign [tg] e pos) (dAsg te dg) := (ps_asg he hg hs hw h1).wk (liftAsg hr)
/-- name = value -/
theorem ds_set {i : Nat} {x : Str} {pos' : Pos} (hN : X.N.Nodup) (hi : X.N[i]? = some x) (hx : Loc X.env.scope x) (he : DE X O e te) (hs : swapsWith e (some (.Name x pos')) pos.line X.env = pure false := by rfl) (hf : X.fn x = true ∨ X.env.scope.names.lookup x = some .local := by first | exact .inl rfl | exact .inr rfl | assumption) :
    DS X O (.Assign [.Name x pos'] e pos) (dAsg te (dgName i)) := (ps_set hN hi hx he hs hf).wk (liftAsg (vs := [i]) (ref_gName List.mem_cons_self))
end

/-! ### what is walked -/
abbrev DTI := DSt → DHp → (List D → (DHp → Prop) → DHp → Prop) → Prop
structure ItOk (K : PySem.W.Frag) (J : It) (items : List D) (ok : DHp → Prop) (H1 : Hp) (M1 : DHp) : Prop where
  small : items.length ≤ sizeLine
  stop : ∀ H M, Fr H1 M1 H M → AbH K H M → ok M → J.stop items.length H
  go : ∀ i H M, Fr H1 M1 H M → AbH K H M → ok M → i < items.length → J.go i H
  yld : ∀ i H M x H', Fr H1 M1 H M → AbH K H M → ok M → i < items.length → J.yld i H x H' → Fr H M H' M ∧ AbH K H' M ∧ ∃ d, items[i]? = some d ∧ Has K H' M d x
def liftI (K : PySem.W.Frag) (O : Org) (t : DTI) : TI := fun σ H R => ∃ (τ : DSt) (M : DHp) (R' : List D → (DHp → Prop) → DHp → Prop), Beg K O H M τ σ ∧ t τ M R' ∧
  ∀ items ok M' H' J, R' items ok M' → Fr H M H' M' → AbH K H' M' → ItOk K J items ok H' M' → R J H'
abbrev DI (X : Cx) (O : Org) (tg iter : Expr) (t : DTI) : Prop := PI X tg iter (liftI X.K O t)
theorem _root_.L2.PI.wk {X : Cx} {tg iter : Expr} {t t' : TI} (h : PI X tg iter t) (i : ∀ σ H R, t' σ H R → t σ H R) : PI X tg iter t' := ⟨fun pins s σ H R I q => h.run pins s σ H R I (i σ H R q)⟩

/-- a list, a tuple, a text -/
def iSeqV (K : PySem.W.Frag) (tl : TE) : TI := fun σ H R => tl σ H fun x H1 =>
  (∃ a xs, x = .ref a ∧ SqL K H1 a xs ∧ (xs.length ≤ sizeLine → R (Itl K a) H1)) ∨ (∃ a xs, x = .ref a ∧ SqT K H1 a xs ∧ (xs.length ≤ sizeLine → R (Itt K a) H1))
theorem pi_seqV {X : Cx} {tg l : Expr} {tl : TE} (hl : PE X l tl) : PI X tg l (iSeqV X.K tl) := by
  refine ⟨fun pins s σ H R I h => ?_⟩
  refine thn (hl.run pins s σ H _ I h) fun v s1 ⟨x, H1, I1, r1, q1⟩ => ?_
  rcases q1 with ⟨a, xs, e, hq, q⟩ | ⟨a, xs, e, hq, q⟩
  · subst e
    cases r1
    obtain ⟨its, rv, p, hz⟩ := I1.list hq
    refine wpAny_pyIter_list p.isList ?_
    refine ⟨s1.heap.objs.size, [s1.heap.objs.size], _, _, H1, rfl, I1.kept (t' := s1.toks) fun b o e => Heap.get?_push_of_some _ e, turn_list a _, ⟨_, Heap.get?_push_size _ rfl, rfl, rfl⟩, fun b hb => ?_, q hz⟩
    have e : b = s1.heap.objs.size := by simpa using hb
    subst e
    exact I1.fpOk (Nat.le_refl _) (I1.hok.fresh (Nat.le_refl _))
  · subst e
    cases r1
    obtain ⟨its, rv, p, hz⟩ := I1.tuple hq
    refine wpAny_pyIter_tuple (show s1.heap.IsTuple a its.toArray from p) ?_
    refine ⟨s1.heap.objs.size, [s1.heap.objs.size], _, _, H1, rfl, I1.kept (t' := s1.toks) fun b o e => Heap.get?_push_of_some _ e, turn_tuple a _, ⟨_, Heap.get?_push_size _ rfl, rfl, rfl⟩, fun b hb => ?_, q hz⟩
    have e : b = s1.heap.objs.size := by simpa using hb
    subst e
    exact I1.fpOk (Nat.le_refl _) (I1.hok.fresh (Nat.le_refl _))
/-- a list that stands through the loop -/
def stands (x : D) (ds : List D) : DHp → Prop := fun M => match x with
  | .ref a => M a = some (.lst ds)
  | _ => True
def diSeq (te : DTE) : DTI := fun τ M R => te τ M fun x M1 => wth (seqOf x M1) fun ds => R ds (stands x ds) M1
theorem KL.inj {K : PySem.W.Frag} {H : Hp} {a : Addr} {vs ws : List V} (u : ∀ b, (K.lookup b).isSome = true → H b = none) (h : SqL K H a vs) (h' : SqL K H a ws) : vs = ws := by
  rcases h with (h | ⟨o, h⟩) | ⟨o, its, n, h1, h2, h3, h4, h5, h6⟩
  · rcases h' with (h' | ⟨o', h'⟩) | ⟨o', its', n', g1, _⟩
    · rw [h] at h'; cases h'; rfl
    · rw [h] at h'; cases h'
    · have z := u a (by rw [g1]; rfl); rw [h] at z; cases z
  · rcases h' with (h' | ⟨o', h'⟩) | ⟨o', its', n', g1, _⟩
    · rw [h] at h'; cases h'
    · rw [h] at h'; cases h'; rfl
    · have z := u a (by rw [g1]; rfl); rw [h] at z; cases z
  · rcases h' with (h' | ⟨o', h'⟩) | ⟨o', its', n', g1, g2, g3, g4, g5, g6⟩
    · have z := u a (by rw [h1]; rfl); rw [h'] at z; cases z
    · have z := u a (by rw [h1]; rfl); rw [h'] at z; cases z
    · rw [h1] at g1; cases g1
      rw [h4] at g4; cases g4
      exact h6.inj g6
end Rh
/-! DL5: sources that are walked, for, while, list comprehensions. -/
namespace Rh
open PySem PySem.Spec PyProof.Rows L2

/-! ### enumerate over a tuple -/
section
open PySem.F
variable {prog : Program} {w : World} {A : Around} {E : Value → Shared → Prop} {s : Shared}
end
end Rh
/-! DL6: sources over data; for, while, list comprehensions. -/
namespace Rh
open PySem PySem.Spec PyProof.Rows L2

/-! ### sources -/
theorem seq_it {K : PySem.W.Frag} {a : Addr} {ds : List D} {ok : DHp → Prop} {H1 : Hp} {M1 : DHp} (sm : ds.length ≤ sizeLine) (k : ∀ H M, Fr H1 M1 H M → AbH K H M → ok M → ∃ vs, SqL K H a vs ∧ HasL K H M ds vs) : ItOk K (Itl K a) ds ok H1 M1 where
  small := sm
  stop := fun H M f A o => let ⟨vs, s, r⟩ := k H M f A o; ⟨vs, s, Nat.le_of_eq r.len⟩
  go := fun i H M f A o hi => by
    obtain ⟨vs, s, r⟩ := k H M f A o
    obtain ⟨v, e, _⟩ := r.get (i := i) (List.getElem?_eq_getElem hi)
    exact ⟨vs, v, s, e⟩
  yld := fun i H M x H' f A o hi y => by
    obtain ⟨vs, s, r⟩ := k H M f A o
    obtain ⟨rfl, y⟩ := y
    obtain ⟨d, e, h⟩ := r.get' (y vs s)
    exact ⟨Fr.refl _ M, A, d, e, h⟩
theorem tup_it {K : PySem.W.Frag} {a : Addr} {ds : List D} {ok : DHp → Prop} {H1 : Hp} {M1 : DHp} (sm : ds.length ≤ sizeLine) (k : ∀ H M, Fr H1 M1 H M → AbH K H M → ok M → ∃ vs, SqT K H a vs ∧ HasL K H M ds vs) : ItOk K (Itt K a) ds ok H1 M1 where
  small := sm
  stop := fun H M f A o => let ⟨vs, s, r⟩ := k H M f A o; ⟨vs, s, Nat.le_of_eq r.len⟩
  go := fun i H M f A o hi => by
    obtain ⟨vs, s, r⟩ := k H M f A o
    obtain ⟨v, e, _⟩ := r.get (i := i) (List.getElem?_eq_getElem hi)
    exact ⟨vs, v, s, e⟩
  yld := fun i H M x H' f A o hi y => by
    obtain ⟨vs, s, r⟩ := k H M f A o
    obtain ⟨rfl, y⟩ := y
    obtain ⟨d, e, h⟩ := r.get' (y vs s)
    exact ⟨Fr.refl _ M, A, d, e, h⟩
/-- what a list, a tuple is, at each later heap -/
theorem seq_later {K : PySem.W.Frag} {H1 : Hp} {M1 : DHp} {x : D} {v : V} {ds : List D} (A : AbH K H1 M1) (h : Has K H1 M1 x v) (e : seqOf x M1 = some ds) :
    ∃ a, v = .ref a ∧ ((∃ xs, SqL K H1 a xs ∧ xs.length = ds.length) ∧ (∀ H M, Fr H1 M1 H M → AbH K H M → stands x ds M → ∃ vs, SqL K H a vs ∧ HasL K H M ds vs) ∨
      (∃ xs, SqT K H1 a xs ∧ xs.length = ds.length) ∧ ∀ H M, Fr H1 M1 H M → AbH K H M → stands x ds M → ∃ vs, SqT K H a vs ∧ HasL K H M ds vs) := by
  cases x with
  | tup es =>
    have ee : es = ds := Option.some.inj e
    subst ee
    obtain ⟨a, vs, rfl, n, t, r⟩ := h
    exact ⟨a, rfl, .inr ⟨⟨vs, t.sq, r.len⟩, fun H M f _ _ => ⟨vs, (t.fr f n).sq, r.fr f⟩⟩⟩
  | lst es =>
    have ee : es = ds := Option.some.inj e
    subst ee
    obtain ⟨a, vs, rfl, n, t, r⟩ := h
    exact ⟨a, rfl, .inl ⟨⟨vs, SqL.of t, r.len⟩, fun H M f _ _ => ⟨vs, SqL.of (f.eq _ _ t n), r.fr f⟩⟩⟩
  | scr ns =>
    have ee : ns.map D.int = ds := Option.some.inj e
    subst ee
    obtain ⟨a, rfl, t⟩ := h
    exact ⟨a, rfl, .inl ⟨⟨_, t.sq, by simp⟩, fun H M f _ _ => ⟨_, (t.fr f).sq, hasL_ints K H M ns⟩⟩⟩
  | ref b =>
    obtain ⟨a, vs, e1, t, r⟩ := mlst_at A h (show mlst (.ref b) M1 = some ds from e)
    have eb : v = .ref b := h
    rw [eb] at e1
    cases e1
    refine ⟨b, eb, .inl ⟨⟨vs, SqL.of t, r.len⟩, fun H M f A' o => ?_⟩⟩
    obtain ⟨ws, t', r'⟩ := A' b _ (show M b = some (.lst ds) from o)
    exact ⟨ws, SqL.of t', r'⟩
  | _ => cases e
section
variable {X : Cx} {O : Org} {pos : Pos} {tg e : Expr} {te : DTE}
theorem di_seq (he : DE X O e te) : DI X O tg e (diSeq te) := (pi_seqV he).wk fun σ H R ⟨τ, M, R', b, t, p⟩ =>
  ⟨τ, M, _, b, t, fun d M1 v H1 q f a h => by
    obtain ⟨ds, e, q⟩ := wth_of q
    obtain ⟨ad, rfl, z⟩ := seq_later a h e
    rcases z with ⟨⟨xs, s, l⟩, k⟩ | ⟨⟨xs, s, l⟩, k⟩
    · exact .inl ⟨ad, xs, rfl, s, fun sm => p ds _ M1 H1 _ q f a (seq_it (by rw [← l]; exact sm) k)⟩
    · exact .inr ⟨ad, xs, rfl, s, fun sm => p ds _ M1 H1 _ q f a (tup_it (by rw [← l]; exact sm) k)⟩⟩
def pairs (i : Nat) : List D → List D
  | [] => []
  | d :: ds => .tpl [.int (i : Int), d] :: pairs (i + 1) ds
/-- lo, lo + 1, ..: n of them -/
def nums (lo : Int) : Nat → List D
  | 0 => []
  | n + 1 => .int lo :: nums (lo + 1) n
theorem nums_len : ∀ (lo : Int) (n : Nat), (nums lo n).length = n
  | _, 0 => rfl
  | lo, n + 1 => by show (nums (lo + 1) n).length + 1 = n + 1; rw [nums_len]
theorem nums_at : ∀ (lo : Int) (n i : Nat), i < n → (nums lo n)[i]? = some (.int (lo + i))
  | _, 0, _, h => absurd h (Nat.not_lt_zero _)
  | lo, n + 1, 0, _ => by show some (D.int lo) = some (.int (lo + ((0 : Nat) : Int))); rw [Int.natCast_zero, Int.add_zero]
  | lo, n + 1, i + 1, h => by
    show (nums (lo + 1) n)[i]? = _
    rw [nums_at (lo + 1) n i (Nat.lt_of_succ_lt_succ h)]
    congr 2
    omega
theorem rng_it {K : PySem.W.Frag} {lo : Int} {n : Nat} {H1 : Hp} {M1 : DHp} (h : n ≤ sizeLine) : ItOk K (Itr lo n) (nums lo n) (fun _ => True) H1 M1 where
  small := by rw [nums_len]; exact h
  stop := fun H M f A o => by show n ≤ _; rw [nums_len]; exact Nat.le_refl _
  go := fun i H M f A o hi => by rw [nums_len] at hi; exact hi
  yld := fun i H M x H' f A o hi y => by
    rw [nums_len] at hi
    obtain ⟨rfl, rfl⟩ := y
    exact ⟨Fr.refl _ M, A, _, nums_at lo n i hi, rfl⟩
def diRng1 (te : DTE) : DTI := fun τ M R => te τ M fun x M1 => match x with
  | .int j => j ≤ 1000000 ∧ -(2 ^ 62) ≤ j ∧ R (nums 0 j.toNat) (fun _ => True) M1
  | _ => False
theorem toNat_line {j : Int} (h : j ≤ 1000000) : j.toNat ≤ sizeLine := Nat.le_trans (show j.toNat ≤ 1000000 by omega) (by decide)
theorem di_range1 {p : Pos} (hg : Gl X "range") (hm : X.mg "range" = none) (he : DE X O e te) (hs : starEach [e] X.env = [(false, eval e X.env)] := by rfl) : DI X O tg (.Call (.Name "range" p) [e] [] pos) (diRng1 te) :=
  (pi_range1 hg hm (das_cons (O := O) he das_nil hs) hs).wk fun σ H R ⟨τ, M, R', b, t, p⟩ =>
    ⟨τ, M, _, b, t, fun d M1 v H1 q f a h => by
      cases d with
      | int j => exact ⟨j, by rw [show v = .int j from h], q.2.1, by have := q.1; omega, p _ _ M1 H1 _ q.2.2 f a (rng_it (toNat_line q.1))⟩
      | _ => exact q.elim⟩
end
end Rh
/-! DL7: for, while, list comprehensions. -/
namespace Rh
open PySem PySem.Spec PyProof.Rows L2

/-! ### for -/
def forR (ok : DHp → Prop) (g : DTG) (tb : DTS) (E : DEnds) : List D → DSt → DHp → Prop
  | [], τ, M => ok M ∧ E.nx τ M
  | x :: xs, τ, M => ok M ∧ g x τ M fun τ1 M1 => tb { E with nx := fun τ2 M2 => ∃ τ3 M3, SubS τ3 τ2 ∧ Sub M3 M2 ∧ forR ok g tb E xs τ3 M3 } τ1 M1
def dFor (di : DTI) (g : DTG) (tb : DTS) : DTS := fun E τ M => di τ M fun items ok M1 => forR ok g tb E items τ M1
theorem drop_cons {α : Type} {l : List α} {i : Nat} {x : α} (h : l[i]? = some x) : l.drop i = x :: l.drop (i + 1) := by
  obtain ⟨hi, e⟩ := List.getElem?_eq_some_iff.mp h
  rw [List.drop_eq_getElem_cons hi, e]
theorem liftFor {K : PySem.W.Frag} {O : Org} {di : DTI} {g : TG} {dg : DTG} {tb : DTS} {vs : List Nat} (hr : RefG K O vs g dg) : ∀ D σ H, liftS K O (dFor di dg tb) D σ H → tFor (liftI K O di) g (liftS K O tb) D σ H := fun D σ H ⟨τ, M, E, b, t, pn, pr⟩ =>
  ⟨τ, M, _, b, t, fun items ok M1 H1 J q f a io => by
    refine ⟨fun i m σ' H' => ∃ τ' M', m = items.length - i ∧ i ≤ items.length ∧ Fr H1 M1 H' M' ∧ AbH K H' M' ∧ AbS K H' M' τ' σ' ∧ forR ok dg tb E (items.drop i) τ' M', ⟨items.length, τ, M1, by omega, Nat.zero_le _, Fr.refl _ _, a, b.s.fr f, q⟩, ?_⟩
    rintro i m σ' H' ⟨τ', M', rfl, hi, f', a', s', w⟩
    by_cases hl : i < items.length
    · have e := drop_cons (List.getElem?_eq_getElem hl)
      rw [e] at w
      obtain ⟨o, w⟩ := w
      refine .inr ⟨io.go i H' M' f' a' o hl, fun σ2 H2 => ∃ τ2 M2, i + 1 ≤ items.length ∧ Fr H1 M1 H2 M2 ∧ AbH K H2 M2 ∧ AbS K H2 M2 τ2 σ2 ∧ forR ok dg tb E (items.drop (i + 1)) τ2 M2, fun σ2 H2 ⟨τ2, M2, h1, h2, h3, h4, h5⟩ => ⟨items.length - (i + 1), by omega, τ2, M2, rfl, h1, h2, h3, h4, h5⟩, fun x H2 y => ?_⟩
      obtain ⟨f2, a2, d, ed, hd⟩ := io.yld i H' M' x H2 f' a' o hl y
      rw [List.getElem?_eq_getElem hl] at ed
      cases ed
      have fO : Fr O.H O.M H2 M' := b.fr.trans (f.trans (f'.trans f2))
      refine hr x _ σ' H2 τ' M' _ _ ⟨fO, s'.fr f2, a2⟩ hd w fun τ3 M3 σ3 H3 q3 f3 a3 s3 _ => ?_
      refine ⟨τ3, M3, _, ⟨fO.trans f3, s3, a3⟩, q3, fun τ4 M4 σ4 H4 q4 f4 a4 s4 => ?_, fun d M4 v H4 q4 f4 a4 h4 => pr d M4 v H4 q4 (f.trans (f'.trans (f2.trans (f3.trans f4)))) a4 h4⟩
      obtain ⟨τ5, M5, z1, z2, z3⟩ := q4
      exact ⟨τ5, M5, hl, (f'.trans (f2.trans (f3.trans f4))).less z2, a4.less z2, (s4.less z2).lessS z1, z3⟩
    · have ei : i = items.length := by omega
      subst ei
      rw [List.drop_length] at w
      exact .inl ⟨io.stop H' M' f' a' w.1, pn _ _ _ _ w.2 (f.trans f') a' s'⟩⟩
section
variable {X : Cx} {O : Org} {pos : Pos}
theorem ds_for {tg iter : Expr} {body : List Stmt} {di : DTI} {g : TG} {dg : DTG} {tb : DTS} {vs : List Nat} (hp : PassesOwn (model X.prog X.w) X.A X.env X.xe) (hc : X.calm = true) (hi : DI X O tg iter di) (hg : PG X tg g) (hr : RefG X.K O vs g dg) (hb : DSs X O body tb)
    (hs : ∀ x, foldedSetIterable iter X.env x = pure x := by intro _; rfl) : DS X O (.For tg iter body [] pos) (dFor di dg tb) := (ps_for hp hc hi hg hb hs).wk (liftFor hr)
end
/-! ### while -/
section
variable {X : Cx} {O : Org} {pos : Pos}
end

/-! ### list comprehensions -/
def wipeD (τ : DSt) : List Nat → DSt
  | [] => τ
  | v :: vs => (wipeD τ vs).set v none
theorem AbS.wipe {K : PySem.W.Frag} {H : Hp} {M : DHp} {τ : DSt} {σ : L2.St} (s : AbS K H M τ σ) : ∀ vs : List Nat, AbS K H M (wipeD τ vs) (wipe σ vs)
  | [] => s
  | v :: vs => by
    have ih := AbS.wipe s vs
    refine ⟨by unfold wipeD L2.wipe; rw [List.length_set, List.length_set]; exact ih.len, fun i d e => ?_⟩
    unfold wipeD at e
    unfold L2.wipe
    by_cases z : v = i
    · subst z
      by_cases l : v < (wipeD τ vs).length
      · rw [List.getElem?_set_self l] at e; cases e
      · rw [List.getElem?_eq_none (by rw [List.length_set]; omega)] at e; cases e
    · rw [List.getElem?_set_ne z] at e ⊢
      exact ih.get i d e
/-- one turn of a comprehension: the item x, at the heap where the list stands -/
def lcTurn (g : DTG) (tt : DTT) (te : DTE) (x : D) (τ : DSt) (M : DHp) (Q : Option D → DHp → Prop) : Prop :=
  g x τ M fun τ2 M2 => tt τ2 M2 fun b M3 => match b with
    | true => te τ2 M3 fun y M4 => Q (some y) M4
    | false => Q none M3
def addO (acc : List D) : Option D → List D
  | some y => acc ++ [y]
  | none => acc
def lcR (ok : DHp → Prop) (g : DTG) (tt : DTT) (te : DTE) (τ : DSt) (p : Addr) : List D → List D → DHp → (List D → DHp → Prop) → Prop
  | [], acc, M, Q => ok (up M p (.lst acc)) ∧ Q acc M
  | x :: xs, acc, M, Q => ok (up M p (.lst acc)) ∧ lcTurn g tt te x τ (up M p (.lst acc)) fun y M4 => ∃ M5, Sub (up M5 p (.lst acc)) M4 ∧ M5 p = none ∧ lcR ok g tt te τ p xs (addO acc y) M5 Q
def lcEnd (mu : Bool) (p : Addr) (Q : DVK) (ys : List D) (M2 : DHp) : Prop := match mu with
  | false => Q (.lst ys) M2
  | true => Q (.ref p) (up M2 p (.lst ys))
theorem wipe_none {σ : L2.St} : ∀ {vs : List Nat} {v : Nat}, v ∈ vs → ((wipe σ vs)[v]? = none ∨ (wipe σ vs)[v]? = some none) := fun {vs v} hv => by
  cases hx : (wipe σ vs)[v]? with
  | none => exact .inl rfl
  | some o =>
    cases o with
    | none => exact .inr rfl
    | some y => exact absurd hv (wipe_some hx).2
theorem wipe_wipe {σ : L2.St} {vs : List Nat} : ∀ {ws : List Nat}, (∀ v ∈ ws, v ∈ vs) → wipe (wipe σ vs) ws = wipe σ vs
  | [], _ => rfl
  | v :: ws, h => by
    show (wipe (wipe σ vs) ws).set v none = wipe σ vs
    rw [wipe_wipe fun z hz => h z (List.mem_cons_of_mem _ hz)]
    apply List.ext_getElem?
    intro j
    by_cases z : v = j
    · subst z
      have lt := wipe_none (σ := σ) (h v List.mem_cons_self)
      rw [List.getElem?_set_self']
      rcases lt with e | e <;> rw [e] <;> rfl
    · rw [List.getElem?_set_ne z]
def dLc (mu : Bool) (di : DTI) (g : DTG) (tt : DTT) (te : DTE) (vs : List Nat) : DTE := fun τ M Q => di τ M fun items ok M1 => ∀ p, M1 p = none → lcR ok g tt te (wipeD τ vs) p items [] M1 (lcEnd mu p Q)
/-- a comprehension over what is walked, once that has come -/
def LcGo (J : It) (g : TG) (tt : TT) (te : TE) (vs : List Nat) (σ : L2.St) (H1 : Hp) (Q : VK) (D : Addr) : Prop := ∃ W : Nat → Nat → Hp → Prop, (∃ m, W 0 m (upd H1 D (.lst []))) ∧ ∀ i m H, W i m H →
  (J.stop i H ∧ Q (.ref D) H) ∨ (J.go i H ∧ ∃ Nx : Hp → Prop, (∀ H', Nx H' → ∃ m', m' < m ∧ W (i + 1) m' H') ∧ ∀ x H', J.yld i H x H' → g x (wipe σ vs) H' fun σ2 H2 => wipe σ2 vs = wipe σ vs ∧ tt σ2 H2 fun b H3 =>
    if b = true then te σ2 H3 fun y H4 => ∃ acc, H4 D = some (.lst acc) ∧ acc.length < sizeLine ∧ Nx (upd H4 D (.lst (acc ++ [y]))) else Nx H3)
theorem lcBody {K : PySem.W.Frag} {O : Org} {mu : Bool} {g : TG} {dg : DTG} {tt : DTT} {te : DTE} {vs : List Nat} (hr : RefG K O vs g dg) {σ : L2.St} {H : Hp} {M : DHp} {τ : DSt} {Q : VK} {Q' : DVK} (b : Beg K O H M τ σ) (P : Post K H M Q' Q)
    {items : List D} {ok : DHp → Prop} {M1 : DHp} {H1 : Hp} {J : It} (f : Fr H M H1 M1) (a : AbH K H1 M1) (io : ItOk K J items ok H1 M1) {p : Addr} (np : H1 p = none) (q : M1 p = none → lcR ok dg tt te (wipeD τ vs) p items [] M1 (lcEnd mu p Q')) : LcGo J g (liftT K O tt) (liftE K O te) vs σ H1 Q p := by
    have np1 := a.fresh np
    have q := q np1
    refine ⟨fun i m H' => ∃ M' acc, m = items.length - i ∧ i ≤ items.length ∧ acc.length ≤ i ∧ M' p = none ∧ Fr H1 M1 H' (up M' p (.lst acc)) ∧ AbH K H' (up M' p (.lst acc)) ∧ lcR ok dg tt te (wipeD τ vs) p (items.drop i) acc M' (lcEnd mu p Q'), ⟨items.length, M1, [], by omega, Nat.zero_le _, Nat.le_refl _, np1, Fr.newT np, a.newT np ⟨[], upd_same, rfl⟩, q⟩, ?_⟩
    rintro i m H' ⟨M', acc, rfl, hi, hacc, n', f', a', w⟩
    have sσ : AbS K H' (up M' p (.lst acc)) (wipeD τ vs) (wipe σ vs) := (b.s.fr (f.trans f')).wipe vs
    have fO : Fr O.H O.M H' (up M' p (.lst acc)) := b.fr.trans (f.trans f')
    by_cases hl : i < items.length
    · have e := drop_cons (List.getElem?_eq_getElem hl)
      rw [e] at w
      obtain ⟨o, w⟩ := w
      refine .inr ⟨io.go i H' _ f' a' o hl, fun H2 => ∃ M2 acc2, i + 1 ≤ items.length ∧ acc2.length ≤ i + 1 ∧ M2 p = none ∧ Fr H1 M1 H2 (up M2 p (.lst acc2)) ∧ AbH K H2 (up M2 p (.lst acc2)) ∧ lcR ok dg tt te (wipeD τ vs) p (items.drop (i + 1)) acc2 M2 _, fun H2 ⟨M2, acc2, h1, h2, h3, h4, h5, h6⟩ => ⟨items.length - (i + 1), by omega, M2, acc2, rfl, h1, h2, h3, h4, h5, h6⟩, fun x H2 y => ?_⟩
      obtain ⟨f2, a2, d, ed, hd⟩ := io.yld i H' _ x H2 f' a' o hl y
      rw [List.getElem?_eq_getElem hl] at ed
      cases ed
      refine hr x _ _ H2 (wipeD τ vs) _ _ _ ⟨fO.trans f2, sσ.fr f2, a2⟩ hd w fun τ3 M3 σ3 H3 q3 f3 a3 s3 w3 => ?_
      have ew : wipe (wipe σ vs) vs = wipe σ vs := wipe_wipe fun _ h => h
      refine ⟨w3.trans ew, ?_⟩
      have b3 : Beg K O H3 M3 τ3 σ3 := ⟨(fO.trans f2).trans f3, s3, a3⟩
      refine ⟨τ3, M3, _, b3, q3, fun k M4 H4 q4 f4 a4 => ?_⟩
      cases k with
      | true =>
        rw [if_pos rfl]
        refine ⟨τ3, M4, _, b3.step f4 a4, q4, fun y M5 v H5 q5 f5 a5 h5 => ?_⟩
        obtain ⟨M6, z1, z2, z3⟩ := q5
        have a6 := a5.less z1
        obtain ⟨accv, e1, r1⟩ := a6 p _ up_same
        have h6 : Has K H5 (up M6 p (.lst acc)) y v := h5.fr ((Fr.refl H5 M5).less z1)
        have fr6 : Fr H1 M1 H5 (up M6 p (.lst acc)) := (f'.trans (f2.trans (f3.trans (f4.trans f5)))).less z1
        have fp : Fr H5 (up M6 p (.lst acc)) (upd H5 p (.lst (accv ++ [v]))) (up M6 p (.lst (acc ++ [y]))) := by
          have := Fr.put (H := H5) (M := up M6 p (.lst acc)) (p := p) (o := .lst (accv ++ [v])) (u := .lst (acc ++ [y])) up_same
          rw [up_up] at this
          exact this
        have ap : AbH K (upd H5 p (.lst (accv ++ [v]))) (up M6 p (.lst (acc ++ [y]))) := by
          have := AbH.put (p := p) (o := .lst (accv ++ [v])) (u := .lst (acc ++ [y])) a6 up_same (by rw [up_up]; exact ⟨accv ++ [v], upd_same, (r1.fr fp).app (HasL.one (h6.fr fp))⟩)
          rw [up_up] at this
          exact this
        have l1 : accv.length = acc.length := r1.len
        refine ⟨accv, e1, ?_, M6, acc ++ [y], hl, by rw [List.length_append]; exact Nat.add_le_add_right hacc 1, z2, fr6.trans fp, ap, z3⟩
        exact Nat.lt_of_le_of_lt (by rw [l1]; exact hacc) (Nat.lt_of_lt_of_le hl io.small)
      | false =>
        rw [if_neg Bool.false_ne_true]
        obtain ⟨M6, z1, z2, z3⟩ := q4
        exact ⟨M6, acc, hl, Nat.le_succ_of_le hacc, z2, (f'.trans (f2.trans (f3.trans f4))).less z1, a4.less z1, z3⟩
    · have ei : i = items.length := by omega
      subst ei
      rw [List.drop_length] at w
      obtain ⟨o, w⟩ := w
      refine .inl ⟨io.stop H' _ f' a' o, ?_⟩
      obtain ⟨accv, e1, r1⟩ := a' p _ up_same
      have sm : Sub M' (up M' p (.lst acc)) := (Sub.refl M').up n'
      cases mu with
      | false => exact P _ M' _ H' w ((f.trans f').less sm) (a'.less sm) ⟨p, accv, rfl, n', e1, r1.fr ((Fr.refl H' _).less sm)⟩
      | true => exact P _ _ _ H' w (f.trans f') a' rfl
theorem liftLc {K : PySem.W.Frag} {O : Org} {mu : Bool} {di : DTI} {g : TG} {dg : DTG} {tt : DTT} {te : DTE} {vs : List Nat} (hr : RefG K O vs g dg) : ∀ σ H Q, liftE K O (dLc mu di dg tt te vs) σ H Q → tLc (liftI K O di) g (liftT K O tt) (liftE K O te) vs σ H Q := fun σ H Q ⟨τ, M, Q', b, t, P⟩ =>
  ⟨τ, M, _, b, t, fun items ok M1 H1 J q f a io p np => lcBody hr b P f a io np (q p)⟩
section
variable {X : Cx} {O : Org} {pos : Pos}
abbrev DTs (X : Cx) (O : Org) (ifs : List Expr) (t : DTT) : Prop := PTs X ifs (liftT X.K O t)
theorem _root_.L2.PTs.wk {ifs : List Expr} {t t' : TT} (h : PTs X ifs t) (i : ∀ σ H Q, t' σ H Q → t σ H Q) : PTs X ifs t' := ⟨fun pins s σ H Q I q => h.run pins s σ H Q I (i σ H Q q)⟩
def dYes : DTT := fun _ M Q => Q true M
theorem dts_nil : DTs X O [] dYes := (pts_nil (X := X)).wk fun σ H Q ⟨τ, M, Q', b, t, p⟩ => p true M H t (Fr.refl H M) b.h
theorem de_lc {elt tg iter : Expr} {ifs : List Expr} {scope : Scope} {own : List (Str × Nat)} {di : DTI} {g : TG} {dg : DTG} {tt : DTT} {te : DTE} (mu : Bool) (hc : X.calm = true) (hN : X.N.Nodup) (hi : DI X O tg iter di) (ok : BlkOk X.N X.env.scope scope own)
    (hg : ∀ (s : Shared) (H : Hp) (C : Addr) (cl : List (Str × Addr)) (fp : List Addr), PG (X.blk s H scope (compEnvC scope cl C X.env) fp) tg g) (hr : RefG X.K O (own.map (·.2)) g dg) (ht : ∀ (s : Shared) (H : Hp) (C : Addr) (cl : List (Str × Addr)) (fp : List Addr), DTs (X.blk s H scope (compEnvC scope cl C X.env) fp) O ifs tt)
    (he : ∀ (s : Shared) (H : Hp) (C : Addr) (cl : List (Str × Addr)) (fp : List Addr), DE (X.blk s H scope (compEnvC scope cl C X.env) fp) O elt te) (hs : ∀ x, foldedSetIterable iter X.env x = pure x := by intro _; rfl) :
    DE X O (.ListComp elt [⟨tg, iter, ifs, 0⟩] scope pos) (dLc mu di dg tt te (own.map (·.2))) := PE.wk (pe_lc hc hN hi ok hg ht he hs) (liftLc hr)
end
/-- a comprehension whose element is a plain function of the item -/
theorem lcR_pure {g : DTG} {tt : DTT} {te : DTE} {τ : DSt} {p : Addr} {f : D → Option D} {ok : DHp → Prop} {Q : List D → DHp → Prop} : ∀ {items acc : List D} {M : DHp}, (∀ acc, ok (up M p (.lst acc))) → M p = none → (∀ x ∈ items, ∀ acc (R : Option D → DHp → Prop), R (f x) (up M p (.lst acc)) → lcTurn g tt te x τ (up M p (.lst acc)) R) → Q (acc ++ items.filterMap f) M → lcR ok g tt te τ p items acc M Q
  | [], acc, M, o, _, _, q => ⟨o acc, by rw [List.filterMap_nil, List.append_nil] at q; exact q⟩
  | x :: xs, acc, M, o, n, h, q => by
    refine ⟨o acc, h x List.mem_cons_self acc _ ⟨M, Sub.refl _, n, lcR_pure o n (fun y hy => h y (List.mem_cons_of_mem _ hy)) ?_⟩⟩
    rw [List.filterMap_cons] at q
    cases e : f x with
    | none => rw [e] at q; exact q
    | some y => rw [e] at q; show Q ((acc ++ [y]) ++ _) M; rw [List.append_assoc]; exact q
theorem lcR_map {g : DTG} {te : DTE} {τ : DSt} {p : Addr} {f : D → D} {ok : DHp → Prop} {Q : List D → DHp → Prop} {items acc : List D} {M : DHp} (o : ∀ acc, ok (up M p (.lst acc))) (n : M p = none) (h : ∀ x ∈ items, ∀ acc (R : D → DHp → Prop), R (f x) (up M p (.lst acc)) → g x τ (up M p (.lst acc)) fun τ2 M2 => te τ2 M2 R) (q : Q (acc ++ items.map f) M) : lcR ok g dYes te τ p items acc M Q := by
  refine lcR_pure (f := fun x => some (f x)) o n (fun x hx acc R r => h x hx acc (fun y M4 => R (some y) M4) r) ?_
  rw [show (fun x => some (f x)) = some ∘ f from rfl, List.filterMap_eq_map]
  exact q
end Rh
/-! DL8: defs, their promises over data; calls; objects. -/
namespace Rh
open PySem PySem.Spec PyProof.Rows L2

/-- nothing comes out -/
theorem passN {X : Cx} : Passes (L2N.CX X.prog X.w) X E0 := fun _ _ _ _ _ _ _ h => by
  obtain ⟨_, _, _, _, _, _, _, _, _, _, _, _, z⟩ := h
  exact z.elim
/-! ### promises -/
/-- what is wanted of an exception: its class, its fields -/
abbrev DXK := Addr → List Str → List D → DHp → Prop
abbrev DWX := Addr → List Str → List D → DSt → DHp → Prop
abbrev DSp := List D → DHp → DVK → DXK → Prop
abbrev noX : DXK := fun _ _ _ _ => False
def XdIs (K : PySem.W.Frag) (H : Hp) (M : DHp) (ns : List Str) (ds : List D) : Option Addr → Prop
  | none => ns = [] ∧ ds = []
  | some dx => ∃ vs, H dx = some (.xd (ns.zip vs)) ∧ M dx = none ∧ ns.length = ds.length ∧ HasL K H M ds vs
theorem XdIs.fr {K : PySem.W.Frag} {H H' : Hp} {M M' : DHp} {ns : List Str} {ds : List D} {d : Option Addr} (f : Fr H M H' M') (h : XdIs K H M ns ds d) : XdIs K H' M' ns ds d := by
  cases d with
  | none => exact h
  | some dx =>
    obtain ⟨vs, e, n, l, r⟩ := h
    exact ⟨vs, f.eq _ _ e n, f.un _ _ e n, l, r.fr f⟩
def PostX (K : PySem.W.Frag) (H : Hp) (M : DHp) (E' : DXK) (E : XK) : Prop := ∀ C ns ds M' d H', E' C ns ds M' → Fr H M H' M' → AbH K H' M' → XdIs K H' M' ns ds d → E (.ref C) d H'
theorem PostX.no {K : PySem.W.Frag} {H : Hp} {M : DHp} {E : XK} : PostX K H M noX E := fun _ _ _ _ _ _ h => h.elim
def liftSp (K : PySem.W.Frag) (sp : DSp) : Sp := fun vs H Q E => ∃ (ds : List D) (M : DHp) (Q' : DVK) (E' : DXK), AbH K H M ∧ HasL K H M ds vs ∧ sp ds M Q' E' ∧ Post K H M Q' Q ∧ PostX K H M E' E
def liftW (K : PySem.W.Frag) (O : Org) (W : DWX) : WX := fun cls d σ H => ∃ C ns ds τ M, cls = .ref C ∧ Beg K O H M τ σ ∧ XdIs K H M ns ds d ∧ W C ns ds τ M
def startD (N : List Str) (ds : List D) : DSt := ds.map some ++ List.replicate (N.length - ds.length) none
theorem start_has {K : PySem.W.Frag} {H : Hp} {M : DHp} {ds : List D} {vs : List V} (r : HasL K H M ds vs) (N : List Str) : AbS K H M (startD N ds) (L2.start N vs) := by
  unfold startD L2.start
  rw [r.len]
  refine ⟨by simp [r.len], fun i d e => ?_⟩
  by_cases h : i < ds.length
  · rw [List.getElem?_append_left (by simpa using h), List.getElem?_map] at e
    cases q : ds[i]? with
    | none => rw [q] at e; cases e
    | some d' =>
      rw [q] at e
      have e' : d' = d := by simpa using e
      subst e'
      obtain ⟨v, hv, hh⟩ := r.get q
      exact ⟨v, by rw [List.getElem?_append_left (by rw [List.length_map, r.len]; exact h), List.getElem?_map, hv]; rfl, hh⟩
  · rw [List.getElem?_append_right (by simpa using h), List.getElem?_replicate] at e
    split at e <;> cases e
/-- a def's end: what is new and told no more falls away -/
def fnEnds (Q : DVK) : DEnds := ⟨fun _ M' => ∃ M2, Sub M2 M' ∧ Q .non M2, fun d M' => ∃ M2, Sub M2 M' ∧ Q d M2⟩
def fnW (E : DXK) : DWX := fun C ns ds _ M' => ∃ M2, Sub M2 M' ∧ E C ns ds M2
section
variable {P : Program} {w : World} {K : PySem.W.Frag} {mg : Str → Option Value} {base : Heap}
abbrev DFn (P : Program) (w : World) (K : PySem.W.Frag) (mg : Str → Option Value) (base : Heap) (k : Nat) (f : Addr) (fd : FuncData) (ps : List Str) (sp : DSp) : Prop := FnOk P w K mg base (L2N.CX P w) k f fd ps (liftSp K sp)
end

/-! ### calls -/
/-- the values of written defaults -/
def constL : List D → Option (List V)
  | [] => some []
  | d :: ds => match cV d, constL ds with
    | some v, some vs => some (v :: vs)
    | _, _ => none
theorem constL_has {K : PySem.W.Frag} {H : Hp} {M : DHp} : ∀ {ds : List D} {vs : List V}, constL ds = some vs → HasL K H M ds vs
  | [], _, h => by cases h; rfl
  | d :: ds, _, h => by
    unfold constL at h
    split at h
    · rename_i v vs h1 h2
      cases h
      exact ⟨v, vs, rfl, cV_has h1, constL_has h2⟩
    · cases h
section
variable {X : Cx} {O : Org} {x : Str} {p pos : Pos} {e : Expr} {es : List Expr} {k : Nat} {f : Addr} {fd : FuncData} {ps : List Str} {sp : DSp} {dds : List D} {dvs : List V} {dus : List Value} {ts : List DTE}
end

/-! ### objects -/
section
variable {X : Cx} {O : Org} {pos p : Pos} {e o : Expr} {ta te : DTE} {PC : Addr → Prop} {f : Str}
variable {x m : Str} {es : List Expr} {k : Nat} {g : Addr} {fd : FuncData} {ps : List Str} {sp : DSp} {dds : List D} {dvs : List V} {dus : List Value} {ts : List DTE} {C : Addr} {apos : Pos}
end
end Rh
/-! DL9: defs that are called where no repr is under way (the guards are known), repr of data, a law's end. -/
namespace Rh
open PySem PySem.Spec PyProof.Rows L2

/-- as FnOk, for callers that know the guards -/
structure FnG (P : Program) (w : World) (K : PySem.W.Frag) (mg : Str → Option Value) (base : Heap) (C : CXT) (k : Nat) (f : Addr) (fd : FuncData) (ps : List Str) (sp : Sp) : Prop where
  len : ∀ vs H Q E, sp vs H Q E → vs.length = ps.length
  run : ∀ (A : Around) (out : List Env) (s : Shared) (H : Hp) (as : Args) (us : List Value) (vs : List V) (Q : VK) (E : XK),
    A.guards = some [] → Room k A → Env0 P w K mg base A out s H → BindsTo s fd as (ps.zip us) → Vals vs us → sp vs H Q E →
      codeAny (model P w) A (.call (.ref f) as) (CR C out P w H s Q E) s
section
variable {P : Program} {w : World} {K : PySem.W.Frag} {mg : Str → Option Value} {base : Heap}
theorem FnG.of {C : CXT} {k : Nat} {f : Addr} {fd : FuncData} {ps : List Str} {sp : Sp} (F : FnOk P w K mg base C k f fd ps sp) : FnG P w K mg base C k f fd ps sp :=
  ⟨F.len, fun A out s H as us vs Q E _ hr => F.run A out s H as us vs Q E hr⟩
theorem FnG.mono {C : CXT} {j k : Nat} {f : Addr} {fd : FuncData} {ps : List Str} {sp : Sp} (F : FnG P w K mg base C j f fd ps sp) (h : j ≤ k) : FnG P w K mg base C k f fd ps sp :=
  ⟨F.len, fun A out s H as us vs Q E g hr => F.run A out s H as us vs Q E g (hr.mono h)⟩
/-- the body's end is the call's end -/
theorem flow_end {X : Cx} {out : List Env} {s s' : Shared} {H : Hp} {Q : VK} {E : XK} {C : CXT} {fl : Flow} (ho : X.outer = out) (hp : X.prog = P) (hw : X.w = w) (hs : X.s_0 = s) (hH : X.H_0 = H) (hx : X.ex = [])
    (h : SP X [] { nx := fun _ H' => Q .non H', rt := Q } fl s') : CR C out P w H s Q E (match fl with
      | .ret u => .ok (.ret u)
      | _ => .ok (.ret .none)) s' := by
  subst ho hp hw hs hH
  cases fl with
  | ret u =>
    obtain ⟨v, σ', H', J, rv, q⟩ := h
    exact ⟨v, H', J.os, J.bare, by have := J.base; rw [hx] at this; exact this, J.hok, rv, q⟩
  | next =>
    obtain ⟨σ', H', J, q⟩ := h
    exact ⟨.non, H', J.os, J.bare, by have := J.base; rw [hx] at this; exact this, J.hok, rfl, q⟩
  | brk => obtain ⟨_, _, _, q⟩ := h; exact q.elim
  | cont => obtain ⟨_, _, _, q⟩ := h; exact q.elim
theorem FnG.mk_ {C : CXT} {x qual : Str} {params : Arguments} {body : List Stmt} {scope : Scope} {dvs : List V} {kws : List (Str × V)} {f : Addr} {fd : FuncData} {N ps : List Str} {k : Nat} {sp : Sp} (F : FunD K x qual params body scope dvs kws f fd) (S : FnScope N ps scope) (len : ∀ vs H Q E, sp vs H Q E → vs.length = ps.length)
    (hbody : ∀ (cdv : Value) (A : Around) (out : List Env) (s : Shared) (H : Hp) (vs : List V) (Q : VK) (E : XK), A.guards = some [] → Room k (A.deeper (envOfC qual scope s.heap.objs.size f cdv)) → sp vs H Q E →
      ∃ t, PSs (cxOf C P w K mg base N qual scope f cdv A out s H E) body t ∧ t { nx := fun _ H' => Q .non H', rt := Q } (L2.start N vs) H) : FnG P w K mg base C (k + 1) f fd ps sp := by
  obtain ⟨oc, od, dV, kV, doc, pm, an, cdv, ct, osl, rfl, lk, hcd, _, _⟩ := F.ex
  refine ⟨len, fun A out s H as us vs Q E hG hr e0 hb r hsp => ?_⟩
  have KX : K.In s.heap := e0.mod.kin.keeps fun b o e => (e0.bs b o e).1
  have lim : s.heap.NoLimit := e0.mod.nolimit.keeps fun b o e => (e0.bs b o e).1
  have loc : ∀ y ∈ ps.zip us, scope.names.lookup y.1 = some .local ∨ (scope.names.lookup y.1 = some .cell ∧ ((cellsFrom (s.heap.objs.size + 1) scope.names []).lookup y.1).isSome = true) := by
    rintro ⟨n, v⟩ hy
    exact (S.par n (List.of_mem_zip hy).1).imp id fun q => ⟨q, PySem.W.cellsFrom_some _ _ _ (.inl q)⟩
  refine codeAny_call_function hr.depth (KX _ _ lk) rfl S.co S.gen rfl (PySem.W.codeRec_of KX hcd) (hb _ _ _ _ ?_)
  refine wpAny_newFunctionEnv_cells S.kind loc fun env he s1 x => ?_
  subst he
  refine ⟨lim.keeps x.toInCall.keep, codeAny_func ?_⟩
  obtain ⟨t, ht, hq⟩ := hbody cdv A out s H vs Q E hG (hr.deeper _) hsp
  refine wpAny_mono (ht.run [] s1 (L2.start N vs) H _ (inv_start S hr.hd e0 (len _ _ _ _ hsp) r x) hq) (fun fl s' hs => ?_) fun e s' hs => hs
  have z := flow_end (P := P) (w := w) (C := C) (E := E) rfl rfl rfl rfl rfl rfl hs
  cases fl with
  | ret u => exact z
  | next => exact z
  | brk => obtain ⟨_, _, _, q⟩ := hs; exact q.elim
  | cont => obtain ⟨_, _, _, q⟩ := hs; exact q.elim
abbrev DFnG (P : Program) (w : World) (K : PySem.W.Frag) (mg : Str → Option Value) (base : Heap) (k : Nat) (f : Addr) (fd : FuncData) (ps : List Str) (sp : DSp) : Prop := FnG P w K mg base (L2N.CX P w) k f fd ps (liftSp K sp)
theorem dfnG_ok {x qual : Str} {params : Arguments} {body : List Stmt} {scope : Scope} {dvs : List V} {kws : List (Str × V)} {f : Addr} {fd : FuncData} {N ps : List Str} {k : Nat} {sp : DSp} (F : FunD K x qual params body scope dvs kws f fd) (S : FnScope N ps scope) (len : ∀ ds M Q E, sp ds M Q E → ds.length = ps.length)
    (hbody : ∀ (cdv : Value) (A : Around) (outer : List Env) (s : Shared) (H : Hp) (E : XK) (O : Org) (W : DWX), A.guards = some [] → Room k (A.deeper (envOfC qual scope s.heap.objs.size f cdv)) →
      L2N.Takes (cxOf (L2N.CX P w) P w K mg base N qual scope f cdv A outer s H E) (liftW K O W) →
      ∃ t : DTS, DSs (cxOf (L2N.CX P w) P w K mg base N qual scope f cdv A outer s H E) O body t ∧ ∀ ds M Q E', sp ds M Q E' → W = fnW E' → t (fnEnds Q) (startD N ds) M) :
    DFnG P w K mg base (k + 1) f fd ps sp := by
  refine FnG.mk_ F S (fun vs H Q E h => ?_) (fun cdv A outer s H vs Q E hG hr h => ?_)
  · obtain ⟨ds, M, Q', E', _, r, q, _⟩ := h
    rw [r.len]; exact len _ _ _ _ q
  · obtain ⟨ds, M, Q', E', ah, r, q, p, px⟩ := h
    have tk0 : L2N.Takes (cxOf (L2N.CX P w) P w K mg base N qual scope f cdv A outer s H E) (fun cls d _ H => E cls d H) := L2N.takes_of rfl rfl rfl rfl
    have tk : L2N.Takes (cxOf (L2N.CX P w) P w K mg base N qual scope f cdv A outer s H E) (liftW K ⟨H, M⟩ (fnW E')) := tk0.imp fun c d σ H1 hw => by
      obtain ⟨C, ns, es, τ, M1, rfl, b, x, M2, z, y⟩ := hw
      exact px C ns es M2 d H1 y (b.fr.less z) (b.h.less z) (x.fr ((Fr.refl H1 M1).less z))
    obtain ⟨t, ht, hp⟩ := hbody cdv A outer s H E ⟨H, M⟩ (fnW E') hG hr tk
    refine ⟨_, ht, startD N ds, M, fnEnds Q', ⟨Fr.refl _ _, start_has r N, ah⟩, hp ds M Q' E' q rfl, fun τ M1 σ H1 q1 f1 a1 _ => ?_, fun d M1 v H1 q1 f1 a1 h1 => ?_⟩
    · obtain ⟨M2, z, q1⟩ := q1
      exact p _ M2 _ H1 q1 (f1.less z) (a1.less z) rfl
    · obtain ⟨M2, z, q1⟩ := q1
      exact p _ M2 _ H1 q1 (f1.less z) (a1.less z) (h1.fr ((Fr.refl H1 M1).less z))
end
section
variable {X : Cx} {O : Org} {x : Str} {p pos : Pos} {e : Expr} {es : List Expr} {k : Nat} {f : Addr} {fd : FuncData} {ps : List Str} {sp : Sp} {t : TA} {dus : List Value} {dvs : List V} {E : XK} {C : CXT}
/-! ### repr of data -/
def rRepr (K : PySem.W.Frag) : R1 := fun xs H Q => ∃ x d, xs = [x] ∧ Dp K H x d ∧ d.showable = true ∧ d.hasDict = false ∧ d.depth ≤ 60 ∧ d.shown.length ≤ sizeLine ∧ Q (.str d.shown) H
theorem call_reprD {k : Nat} (hG : X.A.guards = some []) (hr : Room k X.A) : CallR X (.builtin "repr") (rRepr X.K) := by
  intro pins s σ H xs us Q I r h
  obtain ⟨x, d, rfl, dp, h1, h2, h3, h4, q⟩ := h
  obtain ⟨u, rfl, ru⟩ := vals1 r
  have fin : ∀ tk t, EP X pins σ Q (.str d.shown t) { s with toks := tk } := fun tk t => ⟨.str d.shown, H, I.tok tk, ⟨t, rfl⟩, q⟩
  have ref : ∀ a, u = .ref a → wpAny (model X.prog X.w) X.A (call (.builtin "repr") [u]) (EP X pins σ Q) X.xe s := fun a e => by
    obtain ⟨as, rd⟩ := Dp.reads I d x u dp ru
    subst e
    refine repr_of_reads' rd h1 (fun z => by rw [h2] at z; cases z) hG (by have := hr.un; omega) (fun _ _ z => z) (fun h' t tk hk => ?_) h4
    exact ⟨.str d.shown, H, I.kept (t' := tk) hk, ⟨t, rfl⟩, q⟩
  cases dp with
  | non => cases ru; exact PySem.P.repr_of_none (fin _ _)
  | bl b => cases ru; exact PySem.P.repr_of_bool (fin _ _)
  | int i => obtain ⟨t, rfl⟩ := ru; exact PySem.P.repr_of_int (of_decide_eq_true h1) (fin _ _)
  | str y => obtain ⟨t, rfl⟩ := ru; exact PySem.P.repr_of_str (fin _ _) h4
  | lst _ _ => exact ref _ ru
  | tup _ _ => exact ref _ ru
end
end Rh
/-! DL10: built-in functions, methods, stores over data. -/
namespace Rh
open PySem PySem.Spec PyProof.Rows L2

/-! ### lists of ints, of bools, of texts -/
def blsOf : List D → Option (List Bool)
  | [] => some []
  | .bl i :: ds => (blsOf ds).map (i :: ·)
  | _ :: _ => none
theorem blsOf_map : ∀ ns : List Bool, blsOf (ns.map D.bl) = some ns
  | [] => rfl
  | n :: ns => by show (blsOf (ns.map D.bl)).map (n :: ·) = _; rw [blsOf_map ns]; rfl
section
variable {K : PySem.W.Frag} {H : Hp} {M : DHp}
theorem blsOf_has : ∀ {ds : List D} {vs : List V} {ns : List Bool}, HasL K H M ds vs → blsOf ds = some ns → vs = ns.map V.bl
  | [], _, _, r, e => by cases e; exact r
  | d :: ds, _, ns, r, e => by
    obtain ⟨v, vs, rfl, h1, h2⟩ := r
    cases d with
    | bl i =>
      cases q : blsOf ds with
      | none => simp only [blsOf, q] at e; cases e
      | some ms =>
        simp only [blsOf, q] at e
        cases e
        rw [blsOf_has h2 q, show v = .bl i from h1]
        rfl
    | _ => cases e
theorem hasL1 {d : D} {xs : List V} (h : HasL K H M [d] xs) : ∃ x, xs = [x] ∧ Has K H M d x := by
  obtain ⟨v, r, rfl, h1, h2⟩ := h
  rw [show r = [] from h2]
  exact ⟨v, rfl, h1⟩
theorem hasL2 {d e : D} {xs : List V} (h : HasL K H M [d, e] xs) : ∃ x y, xs = [x, y] ∧ Has K H M d x ∧ Has K H M e y := by
  obtain ⟨v, r, rfl, h1, h2⟩ := h
  obtain ⟨y, rfl, h3⟩ := hasL1 h2
  exact ⟨v, y, rfl, h1, h3⟩
end
/-- a call of one argument -/
def rOne (r : D → DHp → DVK → Prop) : DR := fun ds M Q => match ds with
  | [d] => r d M Q
  | _ => False
def rTwo (r : D → D → DHp → DVK → Prop) : DR := fun ds M Q => match ds with
  | [d, e] => r d e M Q
  | _ => False
theorem ref_one {K : PySem.W.Frag} {r : R1} {r' : D → DHp → DVK → Prop} (h : ∀ (H : Hp) (M : DHp) (x : V) (d : D) (Q : VK) (Q' : DVK), AbH K H M → Has K H M d x → r' d M Q' → Post K H M Q' Q → r [x] H Q) : RefL K r (rOne r') := fun H M xs ds Q Q' A hx t P => by
  match ds, t, hx with
  | [d], t, hx =>
    obtain ⟨x, rfl, h1⟩ := hasL1 hx
    exact h H M x d Q Q' A h1 t P
theorem ref_two {K : PySem.W.Frag} {r : R1} {r' : D → D → DHp → DVK → Prop} (h : ∀ (H : Hp) (M : DHp) (x y : V) (d e : D) (Q : VK) (Q' : DVK), AbH K H M → Has K H M d x → Has K H M e y → r' d e M Q' → Post K H M Q' Q → r [x, y] H Q) : RefL K r (rTwo r') := fun H M xs ds Q Q' A hx t P => by
  match ds, t, hx with
  | [d, e], t, hx =>
    obtain ⟨x, y, rfl, h1, h2⟩ := hasL2 hx
    exact h H M x y d e Q Q' A h1 h2 t P

/-! ### len -/
def lenD (x : D) (M : DHp) : Option Nat := match x with
  | .str y => if y.length ≤ sizeLine then some y.length else none
  | .dic ks _ => some ks.length
  | .ref a => (match M a with
    | some (.lst ds) => some ds.length
    | some (.dK ks _) => some ks.length
    | _ => none)
  | .tup ds => some ds.length
  | .tpl ds => some ds.length
  | .lst ds => some ds.length
  | .scr ns => some ns.length
  | _ => none
def rLenAll (K : PySem.W.Frag) : R1 := fun xs H Q => (∃ x n, xs = [x] ∧ LenV K x H n ∧ Q (.int n) H) ∨ (∃ a kvs, xs = [V.ref a] ∧ H a = some (.dK kvs) ∧ Q (.int kvs.length) H)
theorem len_all {X : Cx} : CallR X (.builtin "len") (rLenAll X.K) := CallR.or call_len call_lenD
theorem ref_len {K : PySem.W.Frag} : RefL K (rLenAll K) (rOne fun d M Q => wth (lenD d M) fun n => Q (.int n) M) := ref_one fun H M x d Q Q' A hx t P => by
  obtain ⟨n, e, q⟩ := wth_of t
  have fin : Q (.int n) H := P.same A q rfl
  have zl : ∀ (ks : List Key) (vs : List V), ks.length = vs.length → (ks.zip vs).length = ks.length := fun ks vs h => by rw [List.length_zip]; omega
  cases d with
  | str y =>
    simp only [lenD] at e
    split at e
    · cases e
      exact .inl ⟨x, _, rfl, by rw [show x = _ from hx]; exact ⟨by assumption, rfl⟩, fin⟩
    · cases e
  | dic ks ds =>
    cases e
    obtain ⟨a, vs, rfl, _, e2, l, r⟩ := hx
    exact .inr ⟨a, _, rfl, e2, by rw [zl _ _ (l.trans r.len.symm)]; exact fin⟩
  | tup ds =>
    cases e
    obtain ⟨a, vs, rfl, _, e2, r⟩ := hx
    exact .inl ⟨_, _, rfl, .inr ⟨vs, e2.sq, r.len.symm⟩, fin⟩
  | tpl ds =>
    cases e
    obtain ⟨a, vs, rfl, _, e2, r⟩ := hx
    exact .inl ⟨_, _, rfl, .inr ⟨vs, SqT.of e2, r.len.symm⟩, fin⟩
  | lst ds =>
    cases e
    obtain ⟨a, vs, rfl, _, e2, r⟩ := hx
    exact .inl ⟨_, _, rfl, .inl ⟨vs, SqL.of e2, r.len.symm⟩, fin⟩
  | scr ns =>
    cases e
    obtain ⟨a, rfl, t⟩ := hx
    exact .inl ⟨_, _, rfl, .inl ⟨_, t.sq, by simp⟩, fin⟩
  | ref a =>
    have ex : x = .ref a := hx
    subst ex
    cases qa : M a with
    | none => simp only [lenD, qa] at e; cases e
    | some o =>
      cases o with
      | lst ds =>
        simp only [lenD, qa] at e
        cases e
        obtain ⟨vs, e2, r⟩ := A a _ qa
        exact .inl ⟨_, _, rfl, .inl ⟨vs, SqL.of e2, r.len.symm⟩, fin⟩
      | dK ks ds =>
        simp only [lenD, qa] at e
        cases e
        obtain ⟨vs, e2, l, r⟩ := A a _ qa
        exact .inr ⟨a, _, rfl, e2, by rw [zl _ _ (l.trans r.len.symm)]; exact fin⟩
      | _ => simp only [lenD, qa] at e; cases e
  | _ => cases e

/-! ### numbers -/
def rAbsD : DR := rOne fun d M Q => match d with
  | .int i => Q (.int (if i < 0 then -i else i)) M
  | _ => False
theorem ref_abs {K : PySem.W.Frag} : RefL K (fun xs H Q => ∃ i, xs = [.int i] ∧ Q (.int (if i < 0 then -i else i)) H) rAbsD := ref_one fun H M x d Q Q' A hx t P => by
  cases d <;> first | exact t.elim | skip
  exact ⟨_, by rw [show x = _ from hx], P.same A t rfl⟩
def rMax2 : DR := rTwo fun d e M Q => match d, e with
  | .int i, .int j => Q (.int (if j > i then j else i)) M
  | _, _ => False
def rMin2 : DR := rTwo fun d e M Q => match d, e with
  | .int i, .int j => Q (.int (if j < i then j else i)) M
  | _, _ => False
theorem ref_max2 {K : PySem.W.Frag} : RefL K (fun xs H Q => ∃ i j, xs = [.int i, .int j] ∧ Q (.int (if j > i then j else i)) H) rMax2 := ref_two fun H M x y d e Q Q' A hx hy t P => by
  cases d <;> first | exact t.elim | skip
  cases e <;> first | exact t.elim | skip
  exact ⟨_, _, by rw [show x = _ from hx, show y = _ from hy], P.same A t rfl⟩
theorem ref_min2 {K : PySem.W.Frag} : RefL K (fun xs H Q => ∃ i j, xs = [.int i, .int j] ∧ Q (.int (if j < i then j else i)) H) rMin2 := ref_two fun H M x y d e Q Q' A hx hy t P => by
  cases d <;> first | exact t.elim | skip
  cases e <;> first | exact t.elim | skip
  exact ⟨_, _, by rw [show x = _ from hx, show y = _ from hy], P.same A t rfl⟩
def rIntAll : R1 := fun xs H Q => ((∃ i, xs = [.int i] ∧ Q (.int i) H) ∨ ∃ k, xs = [.bl k] ∧ Q (.int (if k then 1 else 0)) H) ∨ (∃ a n, xs = [.str a] ∧ PySem.intText? a = some n ∧ a.length ≤ 640 ∧ Q (.int n) H)
theorem int_all {X : Cx} : CallR X (.type "int") rIntAll := CallR.or call_int1 call_int_str
def rIntD : DR := rOne fun d M Q => match d with
  | .int i => Q (.int i) M
  | .str a => a.length ≤ 640 ∧ wth (PySem.intText? a) fun n => Q (.int n) M
  | _ => False
theorem ref_int {K : PySem.W.Frag} : RefL K rIntAll rIntD := ref_one fun H M x d Q Q' A hx t P => by
  cases d <;> first | exact t.elim | skip
  · exact .inl (.inl ⟨_, by rw [show x = _ from hx], P.same A t rfl⟩)
  · obtain ⟨l, t⟩ := t
    obtain ⟨n, e, t⟩ := wth_of t
    exact .inr ⟨_, n, by rw [show x = _ from hx], e, l, P.same A t rfl⟩
def rDivmodD : DR := rTwo fun d e M Q => match d, e with
  | .int i, .int j => CDivP i j ∧ Q (.tpl [.int (i / j), .int (i % j)]) M
  | _, _ => False
theorem ref_divmod {K : PySem.W.Frag} : RefL K (fun xs H Q => ∃ i j, xs = [.int i, .int j] ∧ CDivP i j ∧ ∀ p, H p = none → Q (.ref p) (upd H p (.tup [.int (i / j), .int (i % j)]))) rDivmodD := ref_two fun H M x y d e Q Q' A hx hy t P => by
  cases d <;> first | exact t.elim | skip
  cases e <;> first | exact t.elim | skip
  exact ⟨_, _, by rw [show x = _ from hx, show y = _ from hy], t.1, fun p np => new_tpl A (HasL.cons (show Has K H M (.int _) (.int _) from rfl) (HasL.one (show Has K H M (.int _) (.int _) from rfl))) t.2 P np⟩

/-! ### over lists -/
def rAllD : DR := rOne fun d M Q => wth (lstOf d M) fun ds => wth (blsOf ds) fun ns => Q (.bl (ns.all id)) M
theorem ref_all {K : PySem.W.Frag} : RefL K (rAll K) rAllD := ref_one fun H M x d Q Q' A hx t P => by
  obtain ⟨ds, e, t⟩ := wth_of t
  obtain ⟨ns, e2, t⟩ := wth_of t
  obtain ⟨a, vs, rfl, s, r⟩ := lstOf_at A hx e
  rw [blsOf_has r e2] at s
  exact ⟨a, ns, rfl, s, P.same A t rfl⟩
def rReprD : DR := rOne fun d M Q => (SeqAt.shaped (pyM M d) = true ∧ (pyM M d).showable = true ∧ (pyM M d).depth ≤ 60 ∧ (pyM M d).shown.length ≤ sizeLine) ∧ Q (.str (pyM M d).shown) M
mutual
theorem noDict : ∀ d : PyData, d.canLay0 = true → d.hasDict = false
  | .none, _ => rfl
  | .bool _, _ => rfl
  | .int _, _ => rfl
  | .str _, _ => rfl
  | .list xs, h => noDictAll xs h
  | .tuple xs, h => noDictAll xs h
  | .dict _, h => by cases h
theorem noDictAll : ∀ ds : List PyData, PyData.canLayAll0 ds = true → PyData.hasDictAll ds = false
  | [], _ => rfl
  | d :: ds, h => by
    obtain ⟨h1, h2⟩ := Bool.and_eq_true_iff.mp (show (PyData.canLay0 d && PyData.canLayAll0 ds) = true from h)
    show (PyData.hasDict d || PyData.hasDictAll ds) = false
    rw [noDict d h1, noDictAll ds h2]; rfl
end
theorem ref_repr {K : PySem.W.Frag} : RefL K (rRepr K) rReprD := ref_one fun H M x d Q Q' A hx t P => by
  obtain ⟨⟨h1, h2, h3, h4⟩, t⟩ := t
  exact ⟨x, _, rfl, hx.dpM A h1, h2, noDict _ (SeqAt.canLay_of_shaped h1), h3, h4, P.same A t rfl⟩

/-! ### methods of lists, texts -/
section
variable {X : Cx} {O : Org} {pos apos p : Pos} {o e : Expr} {to te : DTE} {es : List Expr} {ts : List DTE}
/-! ### f-strings -/
inductive DJ (X : Cx) (O : Org) : List Expr → List DTE → Prop where
  | nil : DJ X O [] []
  | cons {e : Expr} {t : DTE} {es : List Expr} {ts : List DTE} (h : DE X O e t) (r : DJ X O es ts) : DJ X O (e :: es) (t :: ts)
/-! ### stores -/
def dgSub (to ti : DTE) : DTG := fun d τ M Q => to τ M fun x M1 => ti τ M1 fun y M2 => match x, y with
  | .ref a, .int k => wth (M2 a) fun o => (match o with
    | .lst ds => wth (ixN ds.length k) fun j => Q τ (up M2 a (.lst (ds.set j d)))
    | _ => False)
  | _, _ => False
theorem ref_gSub {K : PySem.W.Frag} {to ti : DTE} {vs : List Nat} : RefG K O vs (gSub (liftE K O to) (liftE K O ti) rSetL) (dgSub to ti) := fun v d σ H τ M Q Q' b hv t p =>
  ⟨τ, M, _, b, t, fun x M1 xv H1 q f1 a1 hx => ⟨τ, M1, _, b.step f1 a1, q, fun y M2 yv H2 q2 f2 a2 hy => by
    cases x <;> first | exact q2.elim | skip
    cases y <;> first | exact q2.elim | skip
    rename_i a k
    obtain ⟨o, e, q2⟩ := wth_of q2
    cases o <;> first | exact q2.elim | skip
    rename_i ds
    obtain ⟨j, ej, q2⟩ := wth_of q2
    obtain ⟨ws, e3, r3⟩ := a2 a _ e
    refine ⟨a, ws, k, j, by rw [show xv = _ from hx.fr f2], hy, e3, by rw [r3.len]; exact ej, ?_⟩
    have fz : Fr H M (upd H2 a (.lst (ws.set j v))) (up M2 a (.lst (ds.set j d))) := f1.trans (f2.trans (Fr.put e))
    exact p τ _ σ _ q2 fz (a2.put e ⟨ws.set j v, upd_same, HasL.set (hv.fr fz) j (r3.fr (Fr.put e))⟩) (b.s.fr fz) rfl⟩⟩

/-! ### try, whose body raises nothing -/
end
end Rh
/-! DL11: short readings, isinstance, calls by packages, a law's end where the guards are known. -/
namespace Rh
open PySem PySem.Spec PyProof.Rows L2

/-! ### short readings -/
def rLtD : DR2 := rB2 fun i j => decide (i < j)
def rGtD : DR2 := rB2 fun i j => decide (j < i)
def rGeD : DR2 := rB2 fun i j => decide (j ≤ i)
def rDivD : DR2 := rI2 CDivW fun i j => i / j
def rModD : DR2 := rI2 (fun _ j => 0 < j) fun i j => i % j
def rPowD : DR2 := rI2 CPow fun i j => i ^ j.toNat
section
variable {K : PySem.W.Frag}
theorem ref_lt : Ref2 K (rI0 fun i j => .bl (decide (i < j))) rLtD := ref_B (f := fun i j => decide (i < j))
theorem ref_gt : Ref2 K (rI0 fun i j => .bl (decide (j < i))) rGtD := ref_B (f := fun i j => decide (j < i))
theorem ref_ge : Ref2 K (rI0 fun i j => .bl (decide (j ≤ i))) rGeD := ref_B (f := fun i j => decide (j ≤ i))
end
theorem hu64 {k : Nat} {A : Around} (r : Room k A) : A.units + 64 < cLine := by have := r.un; omega
theorem bt_len : bootBuiltins "len" = some (.builtin "len") := by decide +kernel
theorem bt_abs : bootBuiltins "abs" = some (.builtin "abs") := by decide +kernel
theorem bt_divmod : bootBuiltins "divmod" = some (.builtin "divmod") := by decide +kernel
theorem bt_all : bootBuiltins "all" = some (.builtin "all") := by decide +kernel
theorem bt_repr : bootBuiltins "repr" = some (.builtin "repr") := by decide +kernel
theorem bt_max : bootBuiltins "max" = some (.builtin "max") := by decide +kernel
theorem bt_min : bootBuiltins "min" = some (.builtin "min") := by decide +kernel
theorem bt_isinstance : bootBuiltins "isinstance" = some (.builtin "isinstance") := by decide +kernel
theorem bt_int : bootBuiltins "int" = some (.type "int") := by decide +kernel
/-! ### constants of the module -/
section
variable {X : Cx} {x : Str} {pos : Pos}
theorem pe_gi {i : Int} (hg : Gl X x) (h : ∃ t, X.mg x = some (.int i t)) (hd : (x == ("__debug__" : Str)) = false := by decide) : PE X (.Name x pos) (tC (.int i)) :=
  h.elim fun t e => pe_glob hg e ⟨t, rfl⟩ hd
end

/-! ### isinstance -/
inductive Ty0 where
  | non | bl | int | str | lst | tup | dic
def Ty0.nm : Ty0 → String
  | .non => "NoneType"
  | .bl => "bool"
  | .int => "int"
  | .str => "str"
  | .lst => "list"
  | .tup => "tuple"
  | .dic => "dict"
/-- one is the other or under it -/
def Ty0.is : Ty0 → Ty0 → Bool
  | .non, .non => true
  | .bl, .bl => true
  | .bl, .int => true
  | .int, .int => true
  | .str, .str => true
  | .lst, .lst => true
  | .tup, .tup => true
  | .dic, .dic => true
  | _, _ => false
/-- a datum's type; its own class -/
def tyD (x : D) (M : DHp) : Option (Ty0 ⊕ Addr) := match x with
  | .non => some (.inl .non)
  | .bl _ => some (.inl .bl)
  | .int _ => some (.inl .int)
  | .str _ => some (.inl .str)
  | .tup _ => some (.inl .tup)
  | .lst _ => some (.inl .lst)
  | .scr _ => some (.inl .lst)
  | .dic _ _ => some (.inl .dic)
  | .obj C _ _ => some (.inr C)
  | .ref a => (match M a with
    | some (.lst _) => some (.inl .lst)
    | some (.dK _ _) => some (.inl .dic)
    | some (.ins C _ _) => some (.inr C)
    | _ => none)
  | .ty _ => none
  | .tpl _ => none
/-- what is asked of an own class -/
structure OwnC (K : PySem.W.Frag) (C : Addr) : Prop where
  cl : Cls K C
  ha : PySem.W.findIn K (.ref C) "__class__" = some (some (.builtin "object.__class__"))
  hn : PySem.W.specialIn K (.builtin "object.__class__") "__get__" = some (some (.builtin "getset_descriptor.__get__"))
  htk : PySem.W.takesIn K (.builtin "object.__class__") = some true
  hm : PySem.W.mroIn K C (.type "object") = some true
section
variable {X : Cx} {O : Org} {pos p p2 : Pos} {e : Expr} {te : DTE}
end

/-! ### calls by packages -/
/-- the def x: its promise, what it takes where dds fill up -/
def DCal (P : Program) (w : World) (K : PySem.W.Frag) (mg : Str → Option Value) (base : Heap) (k : Nat) (x : Str) (ps : List Str) (dds : List D) (sp : DSp) : Prop :=
  ∃ f fd dus dvs, DFn P w K mg base k f fd ps sp ∧ mg x = some (.ref f) ∧ PySem.W.keepIn K (.ref f) = true ∧ Binds K fd ps dus ∧ Vals dvs dus ∧ constL dds = some dvs
def DCalG (P : Program) (w : World) (K : PySem.W.Frag) (mg : Str → Option Value) (base : Heap) (k : Nat) (x : Str) (ps : List Str) (dds : List D) (sp : DSp) : Prop :=
  ∃ f fd dus dvs, DFnG P w K mg base k f fd ps sp ∧ mg x = some (.ref f) ∧ PySem.W.keepIn K (.ref f) = true ∧ Binds K fd ps dus ∧ Vals dvs dus ∧ constL dds = some dvs
section
variable {P : Program} {w : World} {K : PySem.W.Frag} {mg : Str → Option Value} {base : Heap} {j k : Nat} {x : Str} {ps : List Str} {dds : List D} {sp : DSp}
theorem DCal.mono (c : DCal P w K mg base j x ps dds sp) (h : j ≤ k) : DCal P w K mg base k x ps dds sp :=
  let ⟨f, fd, dus, dvs, F, r⟩ := c; ⟨f, fd, dus, dvs, F.mono h, r⟩
theorem DCalG.mono (c : DCalG P w K mg base j x ps dds sp) (h : j ≤ k) : DCalG P w K mg base k x ps dds sp :=
  let ⟨f, fd, dus, dvs, F, r⟩ := c; ⟨f, fd, dus, dvs, F.mono h, r⟩
end
section
variable {X : Cx} {O : Org} {x : Str} {p pos : Pos} {e : Expr} {es : List Expr} {k j : Nat} {ps : List Str} {sp : DSp} {dds : List D} {ts : List DTE}
end
end Rh
/-! DL12: a law's end for promises that know the guards. -/
namespace Rh
open PySem PySem.Spec PyProof.Rows L2

/-- the script's own object -/
abbrev scO (us : List Value) : Obj := { cls := .type "list", data := .seq us.toArray }
/-- nothing is tracked but the script, if it is no object of the written part -/
def scH (K : PySem.W.Frag) (p : Addr) (us : List Value) (ns : List Int) : Hp := fun b => if b = p ∧ K.lookup p = none then some (.frz (scO us) (.lst (ns.map V.int))) else none
section
variable {P : Program} {w : World} {K : PySem.W.Frag} {mg mb : Str → Option Value} {p : Addr} {us : List Value} {ns : List Int} {st : Shared}
theorem scH_some {b : Addr} {u : HO} (h : scH K p us ns b = some u) : b = p ∧ K.lookup p = none ∧ u = .frz (scO us) (.lst (ns.map V.int)) := by
  unfold scH at h
  split at h
  · rename_i c
    exact ⟨c.1, c.2, (Option.some.inj h).symm⟩
  · cases h
theorem scH_no {b : Addr} (h : b ≠ p ∨ K.lookup p ≠ none) : scH K p us ns b = none := by
  unfold scH
  refine if_neg fun c => ?_
  rcases h with h | h
  · exact h c.1
  · exact h c.2
theorem scH_kl (KX : K.In st.heap) (at_ : st.heap.get? p = some (scO us)) (hi : IntsAre us ns) (sm : ns.length ≤ sizeLine) : KL K (scH K p us ns) (fun _ => none) p (ns.map V.int) := by
  cases e : K.lookup p with
  | none => exact .inl ⟨rfl, .inr ⟨scO us, by unfold scH; exact if_pos ⟨rfl, e⟩⟩⟩
  | some o =>
    have e2 := KX p o e
    rw [at_] at e2
    obtain rfl : scO us = o := Option.some.inj e2
    exact .inr ⟨_, us.toArray, _, e, rfl, rfl, rfl, by rw [List.size_toArray, hi.length]; exact sm, by simpa using vals_ints hi⟩
theorem scH_ok (at_ : st.heap.get? p = some (scO us)) (hi : IntsAre us ns) (sm : ns.length ≤ sizeLine) : HOk P w (scH K p us ns) st.heap := fun b u z => by
  obtain ⟨rfl, _, rfl⟩ := scH_some z
  exact ⟨at_, by rw [List.length_map]; exact sm, us, _, vals_ints hi, at_⟩
/-- what is not the script stands in the base -/
theorem scH_base {b : Addr} {o : Obj} (at_ : st.heap.get? p = some (scO us)) (e : st.heap.get? b = some o) (h : o ≠ scO us ∨ K.lookup b = some o) : (hidT st.heap (scH K p us ns)).get? b = some o := by
  refine hidT_get e ?_
  by_cases hb : b = p
  · subst hb
    rw [at_] at e
    rcases h with h | h
    · exact absurd (Option.some.inj e).symm h
    · exact scH_no (.inr (by rw [h]; exact fun z => nomatch z))
  · exact scH_no (.inl hb)
theorem scH_ns {m : Str → Option Value} {b : Addr} (at_ : st.heap.get? p = some (scO us)) (h : st.heap.Ns b m) : (hidT st.heap (scH K p us ns)).Ns b m := by
  obtain ⟨o, es, ep, e, d, r⟩ := h
  refine ⟨o, es, ep, scH_base at_ e (.inl fun z => ?_), d, r⟩
  rw [z] at d
  cases (show Data.seq us.toArray _ = Data.dict es ep from d)
theorem scH_mod (KX : K.In st.heap) (at_ : st.heap.get? p = some (scO us)) (hns : st.heap.Ns mainGlobals mg) (hb : st.heap.Ns builtinsNs mb) (hbb : ∀ x : Str, x ≠ "__name__" → mb x = bootBuiltins x) (hlim : st.heap.NoLimit) : Mod K mg (hidT st.heap (scH K p us ns)) := by
  refine ⟨fun b o e => scH_base at_ (KX b o e) (.inr e), scH_ns at_ hns, ⟨mb, scH_ns at_ hb, hbb⟩, ?_⟩
  obtain ⟨mc, h1, h2⟩ := hlim
  exact ⟨mc, scH_ns at_ h1, h2⟩
/-- the law's call, by a promise that knows that no repr is under way -/
theorem law_callG {k : Nat} {f : Addr} {fd : FuncData} {x : Str} {sp : DSp} (KX : K.In st.heap) (hns : st.heap.Ns mainGlobals mg) (hb : st.heap.Ns builtinsNs mb) (hbb : ∀ x : Str, x ≠ "__name__" → mb x = bootBuiltins x) (hlim : st.heap.NoLimit) (hg : st.gens = #[])
    (at_ : st.heap.get? p = some (scO us)) (hi : IntsAre us ns) (sm : ns.length ≤ sizeLine) (hr : Room k callerA) (F : ∀ base : Heap, K.In base → base.Ns mainGlobals mg → DFnG P w K mg base k f fd [x] sp)
    (hbind : ∀ (s : Shared) (u : Value), BindsTo s fd ⟨[u], []⟩ [(x, u)]) (hsp : ∀ Q : DVK, (∀ M, Q (.bl true) M) → sp [.scr ns] (fun _ => none) Q noX) :
    codeAny (model P w) callerA (.call (.ref f) ⟨[.ref p], []⟩) (fun r s' => r = .ok (.ret (.bool true)) ∧ OldK st.heap s'.heap ∧ s'.os = st.os ∧ AllBare s'.gens) st := by
  have M0 : Mod K mg (hidT st.heap (scH K p us ns)) := scH_mod KX at_ hns hb hbb hlim
  have H0 : HOk P w (scH K p us ns) st.heap := scH_ok at_ hi sm
  have E0_ : Env0 P w K mg (hidT st.heap (scH K p us ns)) callerA [] st (scH K p us ns) :=
    { frames := rfl, mod := M0, bs := fun b o => of_hidT, bsz := Nat.le_of_eq (hidT_size _ _), funs := trivial, frf := fun b hb => by simp [frs] at hb, hok := H0, bare := .of_eq hg }
  have pre : liftSp K sp [.ref p] (scH K p us ns) (fun v _ => v = .bl true) (fun _ _ _ => False) := by
    have q0 : sp [.scr ns] (fun _ => none) (fun d _ => d = .bl true) noX := hsp _ fun _ => rfl
    refine ⟨[.scr ns], fun _ => none, fun d _ => d = .bl true, noX, fun a o e => (nomatch (show (none : Option DO) = some o from e)), HasL.one ⟨p, rfl, scH_kl KX at_ hi sm⟩, q0, fun d M' v H' q _ _ h => ?_, PostX.no⟩
    · rw [show d = .bl true from q] at h
      exact h
  refine codeAny_mono ((F _ M0.kin M0.glob).run callerA [] st (scH K p us ns) ⟨[.ref p], []⟩ [.ref p] [.ref p] _ _ rfl hr E0_ (hbind st (.ref p)) (.cons rfl .nil) pre) fun r s' z => ?_
  match r, z with
  | .error ex, z =>
    obtain ⟨_, _, _, _, _, _, _, _, _, _, _, _, no⟩ := (show L2N.CX P w [] (scH K p us ns) st (fun _ _ _ => False) ex s' from z)
    exact no.elim
  | .ok (.ret u), z =>
    obtain ⟨v, H1, os, bare, un, ok1, rv, q⟩ := z
    obtain rfl : v = .bl true := q
    obtain rfl : u = Value.bool true := rv
    refine ⟨rfl, OldK.of_keep fun b o e => ?_, os, bare⟩
    cases eb : scH K p us ns b with
    | none => exact un.keep b o e eb (by simp [frs]) (by simp)
    | some hb =>
      obtain ⟨rfl, _, rfl⟩ := scH_some eb
      have z2 := ok1 b _ (un.frzs b _ _ eb)
      rw [at_] at e
      obtain rfl : scO us = o := Option.some.inj e
      exact z2.1
end
/-- what the head leaves, from the law's promise over data -/
theorem walk_ofG {l : PySem.W.OpenLaw} {n k : Nat} {q : Program} {loose : List Str} {XP : (Str → Option Value) → Heap → Prop} {YP : World → Heap → Prop} {d : DefRec} {x : Str} (hn : l.most = some n) (hn2 : n ≤ sizeLine) (hdf : d.params.defaults = []) (hr : Room k callerA)
    (F : ∀ (w : World) (mg : Str → Option Value) (f : Addr) (h : Heap), YP w h → h.Ns mainGlobals mg → mg d.name = some (.ref f) → ∃ (K : PySem.W.Frag) (fd : FuncData) (sp : DSp), K.In h ∧ (∀ (s : Shared) (u : Value), BindsTo s fd ⟨[u], []⟩ [(x, u)]) ∧
      (∀ ns : List Int, ns.length ≤ n → (∀ i ∈ ns, Builtin.Int.intBits i ≤ 1048576) → ∀ Q : DVK, (∀ M, Q (.bl true) M) → sp [.scr ns] (fun _ => none) Q noX) ∧ ∀ base : Heap, K.In base → base.Ns mainGlobals mg → DFnG l.prog w K mg base k f fd [x] sp) :
    PySem.W.WalkO q loose XP YP l.row.toRowW d [] (fun f vs => PySem.call f vs) := by
  refine Att.attach_callB hn hdf fun w s₀ st mg mb f o pm cd doc p us ns G Y _ _ _ hmg at_ hi hl bits hg => ?_
  obtain ⟨K, fd, sp, KX, hb, hsp, hF⟩ := F w mg f _ Y G.T.g hmg
  exact law_callG KX G.T.g G.T.b G.T.builtins G.T.nolimit hg at_ hi (Nat.le_trans hl hn2) hr hF hb (hsp ns hl bits)
end Rh
/-! DL13: own objects in built-in calls: len, str, bool, truth, ==. -/
namespace Rh
open PySem PySem.Spec PyProof.Rows L2

section
variable {X : Cx} {k : Nat} {f : Addr} {fd : FuncData} {ps : List Str} {sp : Sp} {pins : List (Addr × Obj)} {σ : L2.St} {H : Hp} {s : Shared} {us : List Value} {vs : List V} {Q : VK} {E' : Value → Shared → Prop}
end
section
variable {X : Cx} {k : Nat} {f C : Addr} {fd : FuncData} {ps : List Str} {sp : Sp}
/-- an own class's special method -/
structure Dun (P : Program) (w : World) (K : PySem.W.Frag) (mg : Str → Option Value) (base : Heap) (k : Nat) (C : Addr) (m : Str) (sp : Sp) : Prop where
  ex : ∃ f fd ps, PySem.W.findIn K (.ref C) m = some (some (.ref f)) ∧ PySem.W.isFn K (.ref f) = true ∧ FnG P w K mg base (L2N.CX P w) k f fd ps sp ∧ Binds K fd ps []
end
end Rh
/-! DL14: calls of own defs, classes, methods, classmethods with values and keywords; properties. -/
namespace Rh
open PySem PySem.Spec PyProof.Rows L2

/-! ### values put in the parameters' order -/
def pickL {α : Type} (ixs : List Nat) (l : List α) : List α := ixs.filterMap fun i => l[i]?
theorem pick_vals {xs : List V} {us : List Value} (r : Vals xs us) : ∀ ixs : List Nat, Vals (pickL ixs xs) (pickL ixs us)
  | [] => .nil
  | i :: is => by
    unfold pickL
    rw [List.filterMap_cons, List.filterMap_cons]
    cases e : xs[i]? with
    | none =>
      have e2 : us[i]? = none := List.getElem?_eq_none (by have := List.getElem?_eq_none_iff.mp e; rw [← r.length]; exact this)
      rw [e2]
      exact pick_vals r is
    | some x =>
      obtain ⟨u, e2, ru⟩ := r.get e
      rw [e2]
      exact .cons ru (pick_vals r is)
theorem pick_has {K : PySem.W.Frag} {H : Hp} {M : DHp} {ds : List D} {vs : List V} (r : HasL K H M ds vs) : ∀ ixs : List Nat, HasL K H M (pickL ixs ds) (pickL ixs vs)
  | [] => rfl
  | i :: is => by
    unfold pickL
    rw [List.filterMap_cons, List.filterMap_cons]
    cases e : ds[i]? with
    | none =>
      have e2 : vs[i]? = none := List.getElem?_eq_none (by have := List.getElem?_eq_none_iff.mp e; rw [r.len]; exact this)
      rw [e2]
      exact pick_has r is
    | some x =>
      obtain ⟨u, e2, ru⟩ := r.get e
      rw [e2]
      exact ⟨u, _, rfl, ru, pick_has r is⟩
abbrev KB (K : PySem.W.Frag) (fd : FuncData) (ps : List Str) (n : Nat) (ks : List Str) (ixs : List Nat) (dvs : List V) (dus : List Value) : Prop :=
  KBn K fd ps n ks (fun us ws => pickL ixs (us ++ ws ++ dus)) (fun vs zs => pickL ixs (vs ++ zs ++ dvs))
section
variable {K : PySem.W.Frag} {x qual : Str} {params : Arguments} {body : List Stmt} {scope : Scope} {dvs : List V} {kws : List (Str × V)} {f : Addr} {fd : FuncData} {ps : List Str}
theorem kb_of (F : FunD K x qual params body scope [] kws f fd) (n : Nat) (ks : List Str) (ixs : List Nat)
    (h : ∀ (kV doc pm : Value) (an : Option Addr) (cdv ct : Value) (us ws : List Value), us.length = n → ws.length = ks.length → bindArgs (PySem.W.fnOf x qual params body scope .none kV doc pm an cdv ct) ⟨us, ks.zip ws⟩ = pure (ps.zip (pickL ixs (us ++ ws ++ [])))) :
    KB K fd ps n ks ixs [] [] := by
  obtain ⟨oc, od, dV, kV, doc, pm, an, cdv, ct, osl, rfl, _, _, hD, _⟩ := F.ex
  rcases hD with ⟨_, rfl⟩ | ⟨e, _⟩
  · exact ⟨fun s us ws _ l1 l2 => .of_eq (h kV doc pm an cdv ct us ws l1 l2), fun r1 r2 => pick_vals ((r1.append r2).append .nil) ixs⟩
  · exact absurd rfl e
end

/-! ### a def as it is called -/
/-- the def at f, with n values and keywords ks; dds fill up; ixs: the parameters' order -/
def Pk (P : Program) (w : World) (K : PySem.W.Frag) (mg : Str → Option Value) (base : Heap) (k : Nat) (f : Addr) (n : Nat) (ks : List Str) (ixs : List Nat) (dds : List D) (sp : DSp) : Prop :=
  ∃ fd ps dus dvs, DFnG P w K mg base k f fd ps sp ∧ KB K fd ps n ks ixs dvs dus ∧ constL dds = some dvs
theorem Pk.mono {P : Program} {w : World} {K : PySem.W.Frag} {mg : Str → Option Value} {base : Heap} {j k n : Nat} {f : Addr} {ks : List Str} {ixs : List Nat} {dds : List D} {sp : DSp} (c : Pk P w K mg base j f n ks ixs dds sp) (h : j ≤ k) : Pk P w K mg base k f n ks ixs dds sp :=
  let ⟨fd, ps, dus, dvs, F, r⟩ := c; ⟨fd, ps, dus, dvs, F.mono h, r⟩
def noW : DWX := fun _ _ _ _ _ => False
section
variable {X : Cx} {O : Org} {k j n : Nat} {f C : Addr} {ks : List Str} {ixs : List Nat} {dds : List D} {sp : DSp} {pins : List (Addr × Obj)} {σ : L2.St} {H : Hp} {s : Shared} {us ws : List Value} {vs zs : List V} {ds es : List D} {M : DHp} {Q : VK} {Q' : DVK} {W : DWX} {τ : DSt}
theorem takes_no : L2N.Takes X (liftW X.K O noW) := fun e s' h => by
  obtain ⟨_, _, _, _, _, _, _, _, _, _, _, _, _, _, _, _, z⟩ := h
  obtain ⟨_, _, _, _, _, _, _, _, z⟩ := z
  exact z.elim
/-- it runs -/
theorem run_pk {A : Around} (c : Pk X.prog X.w X.K X.mg X.base k f n ks ixs dds sp) (hG : A.guards = some []) (hr : Room k A) (hE : ∀ {H : Hp} {s : Shared}, Env0 X.prog X.w X.K X.mg X.base X.A X.stack s H → Env0 X.prog X.w X.K X.mg X.base A X.stack s H) (tk : L2N.Takes X (liftW X.K O W))
    (I : Inv X pins σ H s) (b : Beg X.K O H M τ σ) (rv : Vals vs us) (rz : Vals zs ws) (l1 : us.length = n) (l2 : ws.length = ks.length) (hd : HasL X.K H M ds vs) (he : HasL X.K H M es zs) (q : sp (pickL ixs (ds ++ es ++ dds)) M Q' (fun C ns es M2 => W C ns es τ M2)) (P : Post X.K H M Q' Q) :
    codeAny (model X.prog X.w) A (.call (.ref f) ⟨us, ks.zip ws⟩) (fun r s' => match r with | .ok (.ret u) => EP X pins σ Q u s' | .ok _ => False | .error e => X.xe e s') s := by
  obtain ⟨fd, ps, dus, dvs, F, kb, hc⟩ := c
  have r2 := kb.rel rv rz
  have hh : HasL X.K H M (pickL ixs (ds ++ es ++ dds)) (pickL ixs (vs ++ zs ++ dvs)) := pick_has ((hd.app he).app (constL_has hc)) ixs
  refine codeAny_mono (F.run A X.stack s H ⟨us, ks.zip ws⟩ _ _ Q (WE (liftW X.K O W) σ) hG hr (hE I.env0) (kb.to s us ws I.kIn l1 l2) r2 ⟨_, M, Q', _, b.h, hh, q, P, fun C ns es M2 d H2 y f2 a2 xd => ⟨C, ns, es, τ, M2, rfl, b.step f2 a2, xd, y⟩⟩) fun r s' z => ?_
  match r, z with
  | .error ex, z => exact L2N.passAt tk σ pins H s ex s' I z
  | .ok (.ret u), z => exact I.after z
/-! ### the arguments of a call -/
/-- values and keywords of a call that stands at pos -/
structure AK (X : Cx) (pos : Pos) (es : List Expr) (kws : List Keyword) (ks : List Str) (t tk : TA) : Prop where
  run : ∀ (pins : List (Addr × Obj)) (s : Shared) (σ : L2.St) (H : Hp) (Q : List V → List V → Hp → Prop) (f : Value), Inv X pins σ H s → t σ H (fun vs H1 => tk σ H1 fun zs H2 => Q vs zs H2) →
    wpAny (model X.prog X.w) X.A (evalArgs f true (backTo pos (starEach es X.env)) (backToKw pos (keywordEach kws X.env))) (fun a s' => ∃ vs zs us ws H', Inv X pins σ H' s' ∧ Vals vs us ∧ Vals zs ws ∧ a = ⟨us, ks.zip ws⟩ ∧ Q vs zs H') X.xe s
  plain : ((backTo pos (starEach es X.env)).any (·.1) || (backToKw pos (keywordEach kws X.env)).any (·.1.isNone)) = false
abbrev DKs (X : Cx) (O : Org) (kws : List Keyword) (ts : List DTE) : Prop := PK X kws (tArgs X.K O ts)
theorem dks_nil : DKs X O [] [] := pk_nil
theorem dks_cons {e : Expr} {t : DTE} {kws : List Keyword} {ts : List DTE} {nm : Option Str} {kpos : Pos} (h : DE X O e t) (r : DKs X O kws ts) : DKs X O (⟨nm, e, kpos⟩ :: kws) (t :: ts) := pk_cons h r
abbrev DAK (X : Cx) (O : Org) (pos : Pos) (es : List Expr) (kws : List Keyword) (ks : List Str) (ts tks : List DTE) : Prop := AK X pos es kws ks (tArgs X.K O ts) (tArgs X.K O tks)
theorem dak0 {pos : Pos} {kws : List Keyword} {tks : List DTE} (hk : DKs X O kws tks) (hall : (backToKw pos (keywordEach kws X.env)).all (·.1.isSome) = true := by rfl) (hks : (backToKw pos (keywordEach kws X.env)).filterMap (·.1) = ks := by rfl)
    (hpl : ((backTo pos (starEach [] X.env)).any (·.1) || (backToKw pos (keywordEach kws X.env)).any (·.1.isNone)) = false := by rfl) : DAK X O pos [] kws ks [] tks := by
  refine ⟨fun pins s σ H Q f I h => evalArgs_kw2_nil hall (thn (hk.run pos pins s σ H _ I h) fun ws s2 ⟨zs, H2, I2, rz, q2⟩ => ?_), hpl⟩
  rw [hks]
  exact ⟨[], zs, [], ws, H2, I2, .nil, rz, rfl, q2⟩
theorem dak {pos : Pos} {e : Expr} {es : List Expr} {kws : List Keyword} {ts tks : List DTE} (ha : DAs X O (e :: es) ts) (hk : DKs X O kws tks) (hall : (backToKw pos (keywordEach kws X.env)).all (·.1.isSome) = true := by rfl) (hks : (backToKw pos (keywordEach kws X.env)).filterMap (·.1) = ks := by rfl)
    (hpl : ((backTo pos (starEach (e :: es) X.env)).any (·.1) || (backToKw pos (keywordEach kws X.env)).any (·.1.isNone)) = false := by rfl) (hst : starEach (e :: es) X.env = (false, eval e X.env) :: starEach es X.env := by rfl) : DAK X O pos (e :: es) kws ks ts tks := by
  refine ⟨fun pins s σ H Q f I h => ?_, hpl⟩
  refine evalArgs_kw2 hall (thn (ha.run pos pins s σ H _ I h) fun us s1 ⟨vs, H1, I1, rv, q1⟩ => thn (hk.run pos pins s1 σ H1 _ I1 q1) fun ws s2 ⟨zs, H2, I2, rz, q2⟩ => ?_) hst
  rw [hks]
  exact ⟨vs, zs, us, ws, H2, I2, rv, rz, rfl, q2⟩
/-- both lists of arguments, over data -/
def dBoth (ts tks : List DTE) (τ : DSt) (M : DHp) (Q : List D → List D → DHp → Prop) : Prop := dArgs ts τ M fun ds M1 => dArgs tks τ M1 fun es M2 => Q ds es M2
theorem both_run {pos : Pos} {es' : List Expr} {kws : List Keyword} {ts tks : List DTE} {Q2 : List D → List D → DHp → Prop} {F : Args → Shared → Prop} {fv : Value} (ha : DAK X O pos es' kws ks ts tks) (I : Inv X pins σ H s) (b : Beg X.K O H M τ σ) (t : dBoth ts tks τ M Q2)
    (k : ∀ ds es M' vs zs us ws H' s', Q2 ds es M' → ds.length = ts.length → es.length = tks.length → Fr H M H' M' → AbH X.K H' M' → HasL X.K H' M' ds vs → HasL X.K H' M' es zs → Inv X pins σ H' s' → Vals vs us → Vals zs ws → F ⟨us, ks.zip ws⟩ s') :
    wpAny (model X.prog X.w) X.A (evalArgs fv true (backTo pos (starEach es' X.env)) (backToKw pos (keywordEach kws X.env))) F X.xe s := by
  refine thn (ha.run pins s σ H (fun vs zs H' => ∃ ds es M', Q2 ds es M' ∧ ds.length = ts.length ∧ es.length = tks.length ∧ Fr H M H' M' ∧ AbH X.K H' M' ∧ HasL X.K H' M' ds vs ∧ HasL X.K H' M' es zs) fv I ?_) fun a s' ⟨vs, zs, us, ws, H', I', rv, rz, ea, ds, es, M', q, l1, l2, f, aa, h1, h2⟩ => ?_
  · exact args_lift b t fun ds M1 vs H1 q l f a h => args_lift (b.step f a) q fun es M2 zs H2 q2 l2 f2 a2 h2 => ⟨ds, es, M2, q2, l, l2, f.trans f2, a2, h.fr f2, h2⟩
  · rw [ea]
    exact k ds es M' vs zs us ws H' s' q l1 l2 f aa h1 h2 I' rv rz
/-! ### a def of the module -/
def dOwn (ixs : List Nat) (dds : List D) (sp : DSp) (W : DWX) (ts tks : List DTE) : DTE := fun τ M Q => dBoth ts tks τ M fun ds es M2 => sp (pickL ixs (ds ++ es ++ dds)) M2 Q (fun C ns es M' => W C ns es τ M')
theorem de_own {x : Str} {p pos : Pos} {es' : List Expr} {kws : List Keyword} {ts tks : List DTE} (hm : X.mg x = some (.ref f)) (hkp : PySem.W.keepIn X.K (.ref f) = true) (c : Pk X.prog X.w X.K X.mg X.base j f n ks ixs dds sp) (hG : X.A.guards = some []) (hr : Room k X.A) (hj : j ≤ k) (hg : Gl X x) (tk : L2N.Takes X (liftW X.K O W)) (ha : DAK X O pos es' kws ks ts tks)
    (hn : ts.length = n := by rfl) (hn2 : tks.length = ks.length := by rfl) (hdb : (x == ("__debug__" : Str)) = false := by decide) : DE X O (.Call (.Name x p) es' kws pos) (dOwn ixs dds sp W ts tks) := ⟨fun pins s σ H Q I h => by
  obtain ⟨τ, M, Q', b, t, P⟩ := h
  refine wpAny_Call_Name_kw (ld_glob I hg hm ?_ hdb)
  refine PySem.W.callWith_of (P := X.K.In) ha.plain (PySem.W.keeps_K hkp) (both_run ha I b t fun ds es M' vs zs us ws H' s' q l1 l2 f' a' h1 h2 I' rv rz => ⟨I'.kIn, ?_⟩)
  exact wpAny_call (run_pk (c.mono hj) hG hr (fun e => e) tk I' (b.step f' a') rv rz (rv.length.symm.trans (h1.len.trans (l1.trans hn))) (rz.length.symm.trans (h2.len.trans (l2.trans hn2))) h1 h2 q (P.tr f'))⟩
/-! ### a class of the module -/
end
end Rh
/-! DL15: methods, classmethods, properties; len, str, bool of own objects, over data. -/
namespace Rh
open PySem PySem.Spec PyProof.Rows L2

section
variable {X : Cx} {O : Org} {k j n : Nat} {f C : Addr} {ks : List Str} {ixs : List Nat} {dds : List D} {sp : DSp} {W : DWX}
/-! ### methods -/
/-! ### classmethods -/
/-! ### properties -/
/-! ### len, str, bool -/
def DnOk (P : Program) (w : World) (K : PySem.W.Frag) (mg : Str → Option Value) (base : Heap) (k : Nat) (m : Str) (S : Addr → Option DSp) : Prop := ∀ C sp, S C = some sp → Dun P w K mg base k C m (liftSp K sp)
def liftTab (K : PySem.W.Frag) (S : Addr → Option DSp) : Addr → Option Sp := fun C => (S C).map (liftSp K)
theorem DnOk.up {m : Str} {S : Addr → Option DSp} (h : DnOk X.prog X.w X.K X.mg X.base k m S) : ∀ C sp, liftTab X.K S C = some sp → Dun X.prog X.w X.K X.mg X.base k C m sp := fun C sp e => by
  unfold liftTab at e
  cases q : S C with
  | none => rw [q] at e; cases e
  | some s0 =>
    rw [q] at e
    cases e
    exact h C s0 q
end
end Rh
/-! DL16: the head's facts: Bools of the written part, defs wherever they stand. -/
namespace Rh
open PySem PySem.Spec PyProof.Rows L2

/-! ### the Hook -/
abbrev FB := PySem.W.Frag → Bool
abbrev AlR : Type := He.AlD × Bool
def obsR (n : Nat) (ex : List FB) (fn : List He5.DefA) (g : Addr → Option Obj) : AlR := (He5.obsAG n [] fn g, ex.all fun b => b (He.frG g (He5.asA g n)))
structure SaysR (ex : List FB) (fn : List He5.DefA) (K : PySem.W.Frag) : Prop where
  d : He5.SaysA [] fn K
  more : ex.all (fun b => b K) = true
def hookR (n : Nat) (ex : List FB) (fn : List He5.DefA) : PySem.W.Hook :=
  { α := AlR, obs := fun s => obsR n ex fn s.heap.get?, val := fun _ => (He5.valA fn, true), says := fun _ h => ∃ K : PySem.W.Frag, K.In h ∧ SaysR ex fn K,
    of := fun _ _ e => ⟨_, He.frG_in, ⟨congrArg (fun z : AlR => z.1) e, congrArg (fun z : AlR => z.2) e⟩⟩,
    keeps := fun _ _ _ ⟨K, i, c⟩ k => ⟨K, i.keeps k, c⟩ }
theorem obsR_eq {n : Nat} {ex : List FB} {fn : List He5.DefA} {g : Addr → Option Obj} {s : Shared} (h : ∀ a, g a = s.heap.get? a) : obsR n ex fn g = (hookR n ex fn).obs s := by
  obtain rfl : g = s.heap.get? := funext h
  rfl
section
variable {ex : List FB} {fn : List He5.DefA} {K : PySem.W.Frag}
theorem SaysR.fact (c : SaysR ex fn K) (i : Nat) {b : FB} (h : ex[i]? = some b := by rfl) : b K = true := List.all_eq_true.mp c.more b (List.mem_of_getElem? h)
theorem SaysR.def_ (c : SaysR ex fn K) (i : Nat) {d : He5.DefA} (h : fn[i]? = some d := by rfl) : ∃ fd, FunD K d.name d.qual d.params d.body d.scope (d.dvs K) (d.kws K) (d.at_ K) fd := c.d.def_ i h
end
/-! ### facts -/
def bF (f : He.Fa) : FB := fun K => f.ok K
section
variable {K : PySem.W.Frag} {C m : Str}
end
end Rh
/-! DL17: packages of callees, tables, what the printed texts use. -/
namespace Rh
open PySem PySem.Spec PyProof.Rows L2

/-- the own classes' objects -/
structure CT where
  Heaps : Addr
  Yard : Addr
  Book : Addr
  WrongValue : Addr
  WrongName : Addr
  NoAnswer : Addr
  InvalidText : Addr
  InvalidKinds : Addr
  NotHeaps : Addr
  InvalidNumber : Addr
  InvalidTable : Addr
  InvalidRow : Addr
  InvalidHighs : Addr
  InvalidDepths : Addr
  NoPlan : Addr
  Run : Addr
  Mark : Addr
  Trial : Addr
  Attempt : Addr
  InvalidName : Addr
  InvalidWish : Addr
  InvalidIndex : Addr
  UnknownName : Addr
  TooFew : Addr
  NothingToUndo : Addr
  Broken : Addr
  other : Str → Addr
  lamd : Nat → LamDesc
section
variable (P : Program) (w : World) (K : PySem.W.Frag) (mg : Str → Option Value) (base : Heap)
def OwnP (j : Nat) (x : Str) (n : Nat) (ks : List Str) (ixs : List Nat) (dds : List D) (sp : DSp) : Prop := ∃ f, mg x = some (.ref f) ∧ PySem.W.keepIn K (.ref f) = true ∧ Pk P w K mg base j f n ks ixs dds sp
end
section
variable {P : Program} {w : World} {K : PySem.W.Frag} {mg : Str → Option Value} {base : Heap} {j n : Nat} {f C : Addr} {fd : FuncData} {ps ks : List Str} {ixs : List Nat} {sp : DSp} {m x : Str}
theorem pk_of (F : DFnG P w K mg base j f fd ps sp) (b : KB K fd ps n ks ixs [] []) : Pk P w K mg base j f n ks ixs [] sp := ⟨fd, ps, [], [], F, b, rfl⟩
end
section
variable {X : Cx} {O : Org} {k j n : Nat} {C : Addr} {ks : List Str} {ixs : List Nat} {dds : List D} {sp : DSp} {W : DWX} {x m : Str} {p pos apos : Pos} {es' : List Expr} {kws : List Keyword} {ts tks : List DTE} {o : Expr} {to : DTE}
theorem de_ownP (c : OwnP X.prog X.w X.K X.mg X.base j x n ks ixs dds sp) (hG : X.A.guards = some []) (hr : Room k X.A) (hj : j ≤ k) (hg : Gl X x) (tk : L2N.Takes X (liftW X.K O W)) (ha : DAK X O pos es' kws ks ts tks)
    (hn : ts.length = n := by rfl) (hn2 : tks.length = ks.length := by rfl) (hdb : (x == ("__debug__" : Str)) = false := by decide) : DE X O (.Call (.Name x p) es' kws pos) (dOwn ixs dds sp W ts tks) :=
  let ⟨_, h1, h2, h3⟩ := c; de_own h1 h2 h3 hG hr hj hg tk ha hn hn2 hdb
end
end Rh
/-! DL18: texts that are walked; short names that the printed texts use. -/
namespace Rh
open PySem PySem.Spec PyProof.Rows L2

section
variable {X : Cx} {O : Org} {tg e : Expr} {te : DTE}
end
/-- len of what is no own object -/
def rLen0D : DR := rOne fun d M Q => wth (lenD d M) fun n => Q (.int n) M
/-- the own classes whose objects may be asked what they are -/
def kno (c : CT) : Addr → Prop := fun C => C = c.Heaps
end Rh
/-! DL19: == of own objects. -/
namespace Rh
open PySem PySem.Spec PyProof.Rows L2

section
variable {X : Cx} {k j : Nat}
end
end Rh
/-! DL20: dicts whose keys are ints or texts. -/
namespace Rh
open PySem PySem.Spec PyProof.Rows L2

/-! ### tables -/
def kOf : D → Option Key
  | .int i => some (.inl i)
  | .str x => some (.inr x)
  | _ => none
theorem kOf_has {K : PySem.W.Frag} {H : Hp} {M : DHp} {d : D} {v : V} {k : Key} (h : Has K H M d v) (e : kOf d = some k) : v = kV k := by
  cases d <;> first | (cases e; exact h) | cases e
section
variable {X : Cx} {O : Org} {pos pos' apos cpos : Pos} {o i e f value : Expr} {to ti te tf tv : DTE} {k : Nat}
/-- {} -/
def dDnew : DTE := fun _ M Q => ∀ p, M p = none → Q (.ref p) (up M p (.dK [] []))
theorem de_dnew : DE X O (.Dict [] [] pos) dDnew := PE.wk pe_dnewK fun σ H Q ⟨τ, M, Q', b, t, P⟩ p np =>
  P _ _ _ _ (t p (b.h.fresh np)) (Fr.newT np) (b.h.newT np ⟨[], upd_same, rfl, rfl⟩) rfl
/-- {k: v} -/
def dDone (tk tv : DTE) : DTE := fun τ M Q => ∀ p, M p = none → tk τ (up M p (.dK [] [])) fun x M1 => tv τ M1 fun y M2 => M2 p = some (.dK [] []) ∧ wth (kOf x) fun k => Q (.ref p) (up M2 p (.dK [k] [y]))
theorem de_done {ke ve : Expr} {tk tv : DTE} (hk : DE X O ke tk) (hv : DE X O ve tv) : DE X O (.Dict [some ke] [ve] pos) (dDone tk tv) := PE.wk (pe_disp (pps_cons (trs := []) hk hv pps_nil) rfl rfl (by simp) (by show 1 ≤ 15; decide)) fun σ H Q ⟨τ, M, Q', b, t, P⟩ p np => by
  have f0 : Fr H M (upd H p (.dK [])) (up M p (.dK [] [])) := Fr.newT np
  have a0 : AbH X.K (upd H p (.dK [])) (up M p (.dK [] [])) := b.h.newT np ⟨[], upd_same, rfl, rfl⟩
  refine ⟨τ, _, _, b.step f0 a0, t p (b.h.fresh np), fun x M1 v H1 q f1 a1 hx => ⟨τ, M1, _, (b.step f0 a0).step f1 a1, q, fun y M2 w H2 q2 f2 a2 hy => ?_⟩⟩
  obtain ⟨ep, q2⟩ := q2
  obtain ⟨k, ek, q2⟩ := wth_of q2
  obtain ⟨vs, h1, l, r⟩ := a2 p _ ep
  have ev : vs = [] := r
  subst ev
  refine ⟨h1, [(k, w)], by rw [kOf_has hx ek] <;> rfl, by show 1 ≤ 15; decide, ?_⟩
  have e0 : mergeK [] [(k, w)] = [(k, w)] := putK_new w valV_nil
  rw [e0]
  have fz := Fr.put (o := .dK [(k, w)]) (u := .dK [k] [y]) (H := H2) ep
  exact P _ _ _ _ q2 (f0.trans (f1.trans (f2.trans fz))) (a2.put ep ⟨[w], upd_same, rfl, HasL.one (hy.fr fz)⟩) rfl
end
end Rh
/-! DL20S: sorted of pairs, of a dict, of its items; dict of pairs; list of a dict's items. -/
namespace Rh
open PySem PySem.Spec PyProof.Rows L2

section
variable {X : Cx}
/-! ### dict(x) of pairs -/
/-! ### the items of a dict, laid as tuples -/
variable {e : Expr} {te : TE} {p apos cpos pos : Pos}
/-! ### the view d.items() -/
end
end Rh
/-! DL20T: a dict's items walked into one name. -/
namespace Rh
open PySem PySem.Calls PySem.Spec PyProof.Rows PyProof.V L2 PySem.W

section
variable {prog : Program} {w : World} {K : Type} [DecidableEq K] {knd : KeyKind prog w K} {A : Around} {E : Value → Shared → Prop} {s : Shared}
end
section
variable {X : Cx} {e : Expr} {td : TE} {apos cpos py : Pos} {y : Str}
end
end Rh
/-! DL21: sorted, list of a dict, op= of names, zip. -/
namespace Rh
open PySem PySem.Spec PyProof.Rows L2

/-! ### sorted -/
section
variable {X : Cx} {O : Org} {pos p kpos : Pos} {e tg : Expr} {te : DTE} {k : Nat}
/-! ### list(d) -/
/-! ### x op= e -/
end
/-! ### zip -/
section
variable {X : Cx} {O : Org} {pos p tpos : Pos} {e e2 : Expr} {ta tb : DTE} {elts : List Expr} {kk : Nat}
end
end Rh
/-! DL22: unpacking a list. -/
namespace Rh
open PySem PySem.Spec PyProof.Rows L2
end Rh
/-! DL23: dict(x), list(d.items()), sorted(d.items()), comprehensions over d.items(). -/
namespace Rh
open PySem PySem.Spec PyProof.Rows L2

/-! ### dict(x) -/
/-! ### the items of a dict -/
section
variable {X : Cx} {O : Org} {pos p apos cpos py : Pos} {e : Expr} {te : DTE} {k : Nat}
/-! ### [.. for x in d.items() ..], d a name -/
def er (M : DHp) (a : Addr) : DHp := fun b => if b = a then none else M b
/-- what is told without a locked dict stays -/
def Unl (H : Hp) (M : DHp) (H' : Hp) (M' : DHp) : Prop := ∀ b o, H b = some o → M b = none → (∀ od kvs, o ≠ .frz od (.dK kvs)) → H' b = some o ∧ M' b = none
theorem KL.unl {K : PySem.W.Frag} {H H' : Hp} {M M' : DHp} {a : Addr} {vs : List V} (f : Unl H M H' M') (h : KL K H M a vs) : KL K H' M' a vs := by
  rcases h with ⟨n, r⟩ | h
  · rcases r with r | ⟨x, r⟩
    · obtain ⟨h1, h2⟩ := f _ _ r n (fun _ _ z => nomatch z)
      exact .inl ⟨h2, .inl h1⟩
    · obtain ⟨h1, h2⟩ := f _ _ r n (fun _ _ z => nomatch z)
      exact .inl ⟨h2, .inr ⟨x, h1⟩⟩
  · exact .inr h
mutual
theorem Has.unl {K : PySem.W.Frag} {H H' : Hp} {M M' : DHp} (f : Unl H M H' M') : ∀ {d : D} {v : V}, Has K H M d v → Has K H' M' d v
  | .non, _, h => h
  | .bl _, _, h => h
  | .int _, _, h => h
  | .str _, _, h => h
  | .ref _, _, h => h
  | .ty _, _, h => h
  | .scr ns, _, ⟨a, e, t⟩ => ⟨a, e, t.unl f⟩
  | .tup ds, _, ⟨a, vs, e, n, ⟨us, t⟩, r⟩ =>
    have z := f _ _ t n (fun _ _ z => nomatch z)
    ⟨a, vs, e, z.2, ⟨us, z.1⟩, HasL.unl f r⟩
  | .tpl ds, _, ⟨a, vs, e, n, t, r⟩ =>
    have z := f _ _ t n (fun _ _ z => nomatch z)
    ⟨a, vs, e, z.2, z.1, HasL.unl f r⟩
  | .lst ds, _, ⟨a, vs, e, n, t, r⟩ =>
    have z := f _ _ t n (fun _ _ z => nomatch z)
    ⟨a, vs, e, z.2, z.1, HasL.unl f r⟩
  | .dic ks ds, _, ⟨a, vs, e, n, t, l, r⟩ =>
    have z := f _ _ t n (fun _ _ z => nomatch z)
    ⟨a, vs, e, z.2, z.1, l, HasL.unl f r⟩
  | .obj C ns ds, _, ⟨a, dx, vs, e, n, t, l, r⟩ =>
    have z := f _ _ t n (fun _ _ z => nomatch z)
    ⟨a, dx, vs, e, z.2, z.1, l, HasL.unl f r⟩
theorem HasL.unl {K : PySem.W.Frag} {H H' : Hp} {M M' : DHp} (f : Unl H M H' M') : ∀ {ds : List D} {vs : List V}, HasL K H M ds vs → HasL K H' M' ds vs
  | [], _, h => h
  | d :: ds, _, ⟨v, r, e, h1, h2⟩ => ⟨v, r, e, Has.unl f h1, HasL.unl f h2⟩
end
theorem XdO.unl {K : PySem.W.Frag} {H H' : Hp} {M M' : DHp} {ns : List Str} {ds : List D} {d : Option Addr} (f : Unl H M H' M') (h : XdO K H M ns ds d) : XdO K H' M' ns ds d := by
  cases d with
  | none => exact h
  | some dx =>
    obtain ⟨vs, e, n, l, r⟩ := h
    have u := f _ _ e n (fun _ _ z => by cases z)
    exact ⟨vs, u.1, u.2, l, r.unl f⟩
theorem HasO.unl {K : PySem.W.Frag} {H H' : Hp} {M M' : DHp} {a : Addr} {o : DO} (f : Unl H M H' M') (e : H' a = H a) (h : HasO K H M a o) : HasO K H' M' a o := by
  cases o with
  | lst ds => obtain ⟨vs, q, r⟩ := h; exact ⟨vs, e.trans q, r.unl f⟩
  | dK ks ds => obtain ⟨vs, q, l, r⟩ := h; exact ⟨vs, e.trans q, l, r.unl f⟩
  | ins C ns ds => obtain ⟨dx, vs, q, l, r⟩ := h; exact ⟨dx, vs, e.trans q, l, r.unl f⟩
  | dT ks ds => obtain ⟨vs, q, l, r⟩ := h; exact ⟨vs, e.trans q, l, r.unl f⟩
  | fT od vs ks ds => obtain ⟨q, l, r⟩ := h; exact ⟨e.trans q, l, r.unl f⟩
  | lam L i cs =>
    obtain ⟨cl, pm, ctv, c', q, k, g, n⟩ := h
    have u := f _ _ g n (fun _ _ z => by cases (show HO.ext _ = HO.frz _ _ from z))
    exact ⟨cl, pm, ctv, c', e.trans q, k, u.1, u.2⟩
  | cel d => obtain ⟨o, u, v, q, k, g, r⟩ := h; exact ⟨o, u, v, e.trans q, k, g, r.unl f⟩
  | fK od vs ks ds => obtain ⟨q, l, r⟩ := h; exact ⟨e.trans q, l, r.unl f⟩
  | exc C ns ds => obtain ⟨oe, d, q, g, l, r⟩ := h; exact ⟨oe, d, e.trans q, g, l, r.unl f⟩
  | tab q =>
    obtain ⟨ps, z, k, g⟩ := h
    refine ⟨ps, e.trans z, k, fun pos cv y => ?_⟩
    obtain ⟨b, e1, n, e2⟩ := g pos cv y
    have u := f _ _ e2 n (fun _ _ z => by cases (show HO.ext _ = HO.frz _ _ from z))
    exact ⟨b, e1, u.2, u.1⟩
end
end Rh
/-! DL24: is True, is False; bit_length; xs[i] op= e. -/
namespace Rh
open PySem PySem.Spec PyProof.Rows L2
section
variable {X : Cx} {O : Org} {pos apos : Pos} {o : Expr} {to : DTE}
end
end Rh
/-! DL25: a, b, c = x, y, z. -/
namespace Rh
open PySem PySem.Spec PyProof.Rows L2
section
variable {X : Cx} {O : Org} {pos : Pos}
end
end Rh
/-! DL26: defs that are never called. -/
namespace Rh
open PySem PySem.Spec PyProof.Rows L2
section
variable {P : Program} {w : World} {K : PySem.W.Frag} {mg : Str → Option Value} {base : Heap} {j : Nat} {f : Addr} {x qual : Str} {params : Arguments} {body : List Stmt} {scope : Scope} {dvs : List V} {kws : List (Str × V)} {fd : FuncData} {ps : List Str} {sp : DSp}
end
end Rh
/-! DL27: x[::-1] of a list, of a tuple. -/
namespace Rh
open PySem PySem.Spec PyProof.Rows L2 HT
section
variable {prog : Program} {w : World} {A : Around} {E : Value → Shared → Prop} {s : Shared}
end
section
variable {X : Cx} {O : Org}
end
end Rh
/-! DL39: i.bit_length(); xs[i] += n of a list. -/
namespace Rh
open PySem PySem.Spec PyProof.Rows L2
section
variable {X : Cx} {O : Org} {pos apos tpos : Pos} {o i e : Expr} {to ti te : DTE}
end
end Rh
/-! P0: plain tools. -/
namespace Rh
open PySem PySem.Spec PyProof.Rows L2
/-- promises of 0, 1, 2, 3, 4 arguments -/
def sp1 (g : D → DHp → DVK → DXK → Prop) : DSp := fun ds M Q E => match ds with
  | [a] => g a M Q E
  | _ => False
def sp2 (g : D → D → DHp → DVK → DXK → Prop) : DSp := fun ds M Q E => match ds with
  | [a, b] => g a b M Q E
  | _ => False
theorem sp1_len {g : D → DHp → DVK → DXK → Prop} (ds : List D) (M : DHp) (Q : DVK) (E : DXK) (z : sp1 g ds M Q E) : ds.length = 1 := match ds, z with
  | [_], _ => rfl
theorem sp2_len {g : D → D → DHp → DVK → DXK → Prop} (ds : List D) (M : DHp) (Q : DVK) (E : DXK) (z : sp2 g ds M Q E) : ds.length = 2 := match ds, z with
  | [_, _], _ => rfl
theorem sp1_of {g : D → DHp → DVK → DXK → Prop} {R : List D → DHp → DVK → DXK → Prop} (h : ∀ a M Q E, g a M Q E → R [a] M Q E) (ds : List D) (M : DHp) (Q : DVK) (E : DXK) (z : sp1 g ds M Q E) : R ds M Q E := match ds, z with
  | [a], z => h a M Q E z
theorem sp2_of {g : D → D → DHp → DVK → DXK → Prop} {R : List D → DHp → DVK → DXK → Prop} (h : ∀ a b M Q E, g a b M Q E → R [a, b] M Q E) (ds : List D) (M : DHp) (Q : DVK) (E : DXK) (z : sp2 g ds M Q E) : R ds M Q E := match ds, z with
  | [a, b], z => h a b M Q E z
/-- a def's end -/
theorem fn_rt {Q : DVK} {d : D} {M : DHp} (h : Q d M) : (fnEnds Q).rt d M := ⟨M, Sub.refl M, h⟩
/-- what may be asked what it is -/
def known (c : CT) (a : D) (M : DHp) : Prop := match tyD a M with
  | some (.inl _) => True
  | some (.inr C) => kno c C
  | none => False
theorem seq_ref {M : DHp} {a : Addr} {ds : List D} (h : M a = some (.lst ds)) : seqOf (.ref a) M = some ds := by simp only [seqOf, lstOf, mlst, h]
theorem lg_le {i : Int} {k : Nat} (h : i.natAbs < 2 ^ k) : i.natAbs.log2 ≤ k := by
  by_cases z : i.natAbs = 0
  · rw [z]; exact Nat.zero_le _
  · exact Nat.le_of_lt ((Nat.log2_lt z).mpr h)
/-- two factors of less than 200 bits each -/
theorem mulW {i j : Int} (h : i.natAbs < 2 ^ 200) (h' : j.natAbs < 2 ^ 200) : CMulW i j := by
  have := lg_le h
  have := lg_le h'
  show _ + _ < _
  omega
/-- a loop by what holds of the items to come -/
theorem forR_inv {ok : DHp → Prop} {g : DTG} {tb : DTS} {E : DEnds} (I : List D → DSt → DHp → Prop) (h0 : ∀ τ M, I [] τ M → ok M ∧ E.nx τ M)
    (h1 : ∀ x xs τ M (R : DSt → DHp → Prop), I (x :: xs) τ M → (∀ τ3 M3 τ2 M2, I xs τ3 M3 → SubS τ3 τ2 → Sub M3 M2 → R τ2 M2) → ok M ∧ g x τ M fun τ1 M1 => tb { E with nx := R } τ1 M1) : ∀ items τ M, I items τ M → forR ok g tb E items τ M
  | [], τ, M, h => h0 τ M h
  | x :: xs, τ, M, h => h1 x xs τ M _ h fun τ3 M3 τ2 M2 i z1 z2 => ⟨τ3, M3, z1, z2, forR_inv I h0 h1 xs τ3 M3 i⟩
theorem at_nn {α : Type} {xs : List α} {k : Nat} {x : α} (h : xs[k]? = some x) : atI xs (k : Int) = some x := by
  have l : k < xs.length := (List.getElem?_eq_some_iff.mp h).1
  unfold atI ixN
  rw [if_pos (Int.natCast_nonneg k), if_pos (by omega)]
  exact h
theorem at_int {ns : List Int} {k : Int} (h0 : 0 ≤ k) (h1 : k < ns.length) : ∃ i, atI (ns.map D.int) k = some (.int i) := by
  obtain ⟨n, rfl⟩ := Int.eq_ofNat_of_zero_le h0
  have l : n < ns.length := by omega
  exact ⟨ns[n], at_nn (by rw [List.getElem?_map, List.getElem?_eq_getElem l] <;> rfl)⟩
theorem cut_mem {ds : List D} {lo hi : Option Int} {x : D} (h : x ∈ cutD ds lo hi) : x ∈ ds := List.mem_of_mem_drop (List.mem_of_mem_take h)
theorem cut_len {ds : List D} {lo hi : Option Int} : (cutD ds lo hi).length ≤ ds.length := by
  unfold cutD
  rw [List.length_take, List.length_drop]
  omega
theorem line_1000 {n : Nat} (h : n ≤ 1000) : n ≤ sizeLine := Nat.le_trans h (by decide)
theorem for_nums {g : DTG} {tb : DTS} {E : DEnds} (J : Nat → DSt → DHp → Prop) : ∀ {n : Nat} {lo : Int} {τ : DSt} {M : DHp}, (∀ τ M, J n τ M → E.nx τ M) →
    (∀ i τ M (R : DSt → DHp → Prop), i < n → J i τ M → (∀ τ3 M3 τ2 M2, J (i + 1) τ3 M3 → SubS τ3 τ2 → Sub M3 M2 → R τ2 M2) → g (.int (lo + (i : Nat))) τ M fun τ1 M1 => tb { E with nx := R } τ1 M1) → J 0 τ M → forR (fun _ => True) g tb E (nums lo n) τ M := by
  intro n
  induction n generalizing J with
  | zero => intro lo τ M h0 _ h; exact ⟨trivial, h0 τ M h⟩
  | succ n ih =>
    intro lo τ M h0 h1 h
    refine ⟨trivial, ?_⟩
    have z := h1 0 τ M (fun τ2 M2 => ∃ τ3 M3, SubS τ3 τ2 ∧ Sub M3 M2 ∧ forR (fun _ => True) g tb E (nums (lo + 1) n) τ3 M3) (Nat.succ_pos n) h fun τ3 M3 τ2 M2 j z1 z2 => ⟨τ3, M3, z1, z2, ih (fun i => J (i + 1)) (fun τ M j => h0 τ M j) (fun i τ M R hi j k => ?_) j⟩
    · rw [Int.natCast_zero, Int.add_zero] at z
      exact z
    · have y := h1 (i + 1) τ M R (Nat.succ_lt_succ hi) j k
      rw [show lo + ((i + 1 : Nat) : Int) = lo + 1 + (i : Int) by omega] at y
      exact y
theorem sub_up {M : DHp} {p : Addr} {u : DO} (h : M p = none) : Sub M (up M p u) := (Sub.refl M).up h

/-! ### kinds -/
/-- kinds above b: sizes ascend up to top -/
def KsOk (top : Int) : Int → List (Int × Int) → Prop
  | _, [] => True
  | b, p :: r => b < p.1 ∧ p.1 ≤ top ∧ 1 ≤ p.2 ∧ p.2 ≤ 10 ^ 30 ∧ KsOk top p.1 r
def lastS : Int → List (Int × Int) → Int
  | b, [] => b
  | _, p :: r => lastS p.1 r
theorem KsOk.more {top top' : Int} (h : top ≤ top') : ∀ {b : Int} {kz : List (Int × Int)}, KsOk top b kz → KsOk top' b kz
  | _, [], _ => trivial
  | _, p :: r, k => ⟨k.1, Int.le_trans k.2.1 h, k.2.2.1, k.2.2.2.1, k.2.2.2.2.more h⟩
theorem KsOk.take {top : Int} : ∀ (n : Nat) {b : Int} {kz : List (Int × Int)}, KsOk top b kz → KsOk top b (kz.take n)
  | 0, _, _, _ => by rw [List.take_zero]; trivial
  | n + 1, _, [], _ => trivial
  | n + 1, _, p :: r, k => ⟨k.1, k.2.1, k.2.2.1, k.2.2.2.1, k.2.2.2.2.take n⟩
theorem KsOk.last {top : Int} : ∀ {b : Int} {kz : List (Int × Int)}, b ≤ top → KsOk top b kz → lastS b kz ≤ top
  | _, [], h, _ => h
  | _, p :: r, _, k => KsOk.last (b := p.1) k.2.1 k.2.2.2.2
/-- kinds that heaps are made of -/
structure Kinds (kz : List (Int × Int)) : Prop where
  ne : kz ≠ []
  len : kz.length ≤ 12
  ok : KsOk (10 ^ 30) 0 kz
/-- drawn ones: with room above -/
structure Drawn (kz : List (Int × Int)) : Prop where
  ne : kz ≠ []
  len : kz.length ≤ 12
  ok : KsOk (10 ^ 29 * 2) 0 kz
end Rh
/-! P1: texts of numbers, of kinds. -/
namespace Rh
open PySem PySem.Spec PyProof.Rows L2 PySem.NumText

/-! ### kinds, judged -/
end Rh
/-! P2: words, pages of kinds, read back. -/
namespace Rh
open PySem PySem.Spec PyProof.Rows L2 PySem.NumText
theorem KsOk.mem {top : Int} : ∀ {b : Int} {kz : List (Int × Int)}, KsOk top b kz → ∀ p ∈ kz, b < p.1 ∧ p.1 ≤ top ∧ 1 ≤ p.2 ∧ p.2 ≤ 10 ^ 30
  | b, q :: r, k, p, h => by
    rcases List.mem_cons.mp h with rfl | h
    · exact ⟨k.1, k.2.1, k.2.2.1, k.2.2.2.1⟩
    · have := KsOk.mem k.2.2.2.2 p h
      have := k.1
      exact ⟨by omega, by omega, by omega, by omega⟩
theorem Kinds.mem {kz : List (Int × Int)} (k : Kinds kz) (p : Int × Int) (h : p ∈ kz) : 0 < p.1 ∧ p.1 ≤ 10 ^ 30 ∧ 1 ≤ p.2 ∧ p.2 ≤ 10 ^ 30 := KsOk.mem k.ok p h
end Rh
/-! P3: repr of data: what it asks. -/
namespace Rh
open PySem PySem.Spec PyProof.Rows L2 PySem.NumText
/-- may be shown: of weight w, n deep -/
structure Shw (d : PyData) (w n : Nat) : Prop where
  lay : PyData.canLay0 d = true
  short : PyData.leavesShort 80 d = true
  able : PyData.showable d = true
  weight : PyData.weight d ≤ w
  depth : PyData.depth d ≤ n
structure ShwAll (ds : List PyData) (w n : Nat) : Prop where
  lay : PyData.canLayAll0 ds = true
  short : PyData.leavesShortAll 80 ds = true
  able : PyData.showableAll ds = true
  weight : PyData.weightAll ds ≤ w
  depth : PyData.depthAll ds ≤ n
theorem Shw.int {i : Int} {n : Nat} (h : i.natAbs < 2 ^ 230) : Shw (.int i) 231 n := by
  have l := lg_le h
  refine ⟨rfl, ?_, ?_, ?_, Nat.zero_le n⟩
  · show decide ((Str.ofString (toString i)).length ≤ 80) = true
    refine decide_eq_true ?_
    have := int_text_length_le10 (a := i) (k := 70) (by decide) (Nat.lt_of_lt_of_le h (by decide))
    rw [PySem.ofString_length]
    omega
  · exact decide_eq_true (Nat.lt_of_le_of_lt l (by decide))
  · show (if (i == 0) = true then 0 else i.natAbs.log2 + 1) ≤ 231
    split <;> omega
theorem Shw.bl {b : Bool} {n : Nat} : Shw (.bool b) 0 n := ⟨rfl, rfl, rfl, Nat.le_refl 0, Nat.zero_le n⟩
theorem Shw.non {n : Nat} : Shw .none 0 n := ⟨rfl, rfl, rfl, Nat.le_refl 0, Nat.zero_le n⟩
theorem Shw.str {x : Str} {w n : Nat} (h : ∀ c ∈ x.cps.toList, c ≤ 127) (l : x.length ≤ w) : Shw (.str x) w n := by
  refine ⟨?_, ?_, rfl, l, Nat.zero_le n⟩
  · show x.cps.all _ = true
    rw [← Array.all_toList, List.all_eq_true]
    intro c hc
    have := h c hc
    exact decide_eq_true (by omega)
  · show x.cps.toList.all _ = true
    rw [List.all_eq_true]
    intro c hc
    have := h c hc
    exact decide_eq_true (by omega)
theorem ShwAll.nil {n : Nat} : ShwAll [] 0 n := ⟨rfl, rfl, rfl, Nat.le_refl 0, Nat.zero_le n⟩
theorem ShwAll.cons {d : PyData} {ds : List PyData} {w v n : Nat} (h : Shw d w n) (t : ShwAll ds v n) : ShwAll (d :: ds) (w + 1 + v) n := by
  refine ⟨?_, ?_, ?_, ?_, Nat.max_le.mpr ⟨h.depth, t.depth⟩⟩
  · show (PyData.canLay0 d && PyData.canLayAll0 ds) = true
    rw [h.lay, t.lay] <;> rfl
  · show (PyData.leavesShort 80 d && PyData.leavesShortAll 80 ds) = true
    rw [h.short, t.short] <;> rfl
  · show (PyData.showable d && PyData.showableAll ds) = true
    rw [h.able, t.able] <;> rfl
  · show PyData.weight d + 1 + PyData.weightAll ds ≤ _
    have := h.weight
    have := t.weight
    omega
theorem Shw.list {ds : List PyData} {w n : Nat} (h : ShwAll ds w n) : Shw (.list ds) w (n + 1) := ⟨h.lay, h.short, h.able, h.weight, Nat.succ_le_succ h.depth⟩
theorem Shw.tup {ds : List PyData} {w n : Nat} (h : ShwAll ds w n) : Shw (.tuple ds) w (n + 1) := ⟨h.lay, h.short, h.able, h.weight, Nat.succ_le_succ h.depth⟩
theorem Shw.more {d : PyData} {w v n m : Nat} (h : Shw d w n) (hw : w ≤ v) (hn : n ≤ m) : Shw d v m := ⟨h.lay, h.short, h.able, Nat.le_trans h.weight hw, Nat.le_trans h.depth hn⟩
theorem ShwAll.of {α : Type} {f : α → PyData} {w n : Nat} : ∀ {l : List α}, (∀ x ∈ l, Shw (f x) w n) → ShwAll (l.map f) ((w + 1) * l.length) n
  | [], _ => ShwAll.nil
  | x :: l, h => by
    have := ShwAll.cons (h x List.mem_cons_self) (ShwAll.of fun y hy => h y (List.mem_cons_of_mem _ hy))
    rw [List.length_cons, Nat.mul_succ, Nat.add_comm]
    exact this
theorem Shw.ok {d : PyData} {w n : Nat} (h : Shw d w n) (hw : w ≤ 200000) (hn : n ≤ 60) : SeqAt.shaped d = true ∧ d.showable = true ∧ d.depth ≤ 60 ∧ d.shown.length ≤ sizeLine := by
  have dp := Nat.le_trans h.depth hn
  refine ⟨?_, h.able, dp, ?_⟩
  · show (d.canLay0 && decide (d.depth ≤ 64)) = true
    rw [h.lay, decide_eq_true (by omega : d.depth ≤ 64)] <;> rfl
  · have := PyData.shown_le 80 (by decide) d h.short
    have hw2 := Nat.le_trans h.weight hw
    have : (80 + 2) * d.weight ≤ 82 * 200000 := Nat.mul_le_mul_left 82 hw2
    rw [sizeLine_eq]
    omega
theorem Drawn.kinds {kz : List (Int × Int)} (d : Drawn kz) : Kinds kz := ⟨d.ne, d.len, d.ok.more (by decide)⟩
theorem sums {kz : List (Int × Int)} (k : ∀ p ∈ kz, 0 < p.1 ∧ p.1 ≤ 10 ^ 30 ∧ 1 ≤ p.2 ∧ p.2 ≤ 10 ^ 30) : 0 ≤ (kz.map (·.2)).sum ∧ (kz.map (·.2)).sum ≤ kz.length * 10 ^ 30 ∧ 0 ≤ (kz.map fun p => p.1 * p.2).sum ∧ (kz.map fun p => p.1 * p.2).sum ≤ kz.length * 10 ^ 60 := by
  induction kz with
  | nil => exact ⟨Int.le_refl 0, Int.le_refl 0, Int.le_refl 0, Int.le_refl 0⟩
  | cons p l ih =>
    obtain ⟨a1, a2, a3, a4⟩ := ih fun q hq => k q (List.mem_cons_of_mem _ hq)
    obtain ⟨b1, b2, b3, b4⟩ := k p List.mem_cons_self
    have c1 : 0 ≤ p.1 * p.2 := Int.mul_nonneg (by omega) (by omega)
    have c2 : p.1 * p.2 ≤ 10 ^ 30 * 10 ^ 30 := Int.mul_le_mul b2 b4 (by omega) (by decide)
    simp only [List.map_cons, List.sum_cons, List.length_cons]
    rw [show (((l.length + 1 : Nat)) : Int) * 10 ^ 30 = l.length * 10 ^ 30 + 10 ^ 30 by rw [Int.natCast_add, Int.add_mul]; rfl, show (((l.length + 1 : Nat)) : Int) * 10 ^ 60 = l.length * 10 ^ 60 + 10 ^ 60 by rw [Int.natCast_add, Int.add_mul]; rfl]
    omega
/-- a pot that scoops may be taken from -/
def PotI (x y z : Int) : Prop := 0 ≤ x ∧ 0 ≤ y ∧ y < 2147483648 ∧ 0 ≤ z
theorem nums_mem {x : D} : ∀ {lo : Int} {n : Nat}, x ∈ nums lo n → ∃ k : Int, x = .int k ∧ lo ≤ k ∧ k < lo + n
  | _, 0, h => by cases h
  | lo, n + 1, h => by
    rcases List.mem_cons.mp (show x ∈ D.int lo :: nums (lo + 1) n from h) with rfl | h
    · exact ⟨lo, rfl, Int.le_refl _, by omega⟩
    · obtain ⟨k, e, h1, h2⟩ := nums_mem h
      exact ⟨k, e, by omega, by omega⟩
/-- a comprehension whose element leaves new things behind -/
theorem lcR_mapS {g : DTG} {te : DTE} {τ : DSt} {p : Addr} {f : D → D} {ok : DHp → Prop} {Q : List D → DHp → Prop} : ∀ {items acc : List D} {M : DHp}, (∀ acc, ok (up M p (.lst acc))) → M p = none →
    (∀ x ∈ items, ∀ acc (R : D → DHp → Prop), (∀ M', Sub (up M p (.lst acc)) M' → R (f x) M') → g x τ (up M p (.lst acc)) fun τ2 M2 => te τ2 M2 R) → Q (acc ++ items.map f) M → lcR ok g dYes te τ p items acc M Q
  | [], acc, M, o, _, _, q => ⟨o acc, by rw [List.map_nil, List.append_nil] at q; exact q⟩
  | x :: xs, acc, M, o, n, h, q => by
    refine ⟨o acc, h x List.mem_cons_self acc (fun y M4 => ∃ M5, Sub (up M5 p (.lst acc)) M4 ∧ M5 p = none ∧ lcR ok g dYes te τ p xs (addO acc (some y)) M5 Q) fun M' s => ⟨M, s, n, lcR_mapS o n (fun y hy => h y (List.mem_cons_of_mem _ hy)) ?_⟩⟩
    rw [List.map_cons] at q
    show Q ((acc ++ [f x]) ++ _) M
    rw [List.append_assoc]
    exact q
/-! ### equal kinds -/
mutual
theorem eqv_me : ∀ d : PyData, d.canLay0 = true → PyData.eqv d d = true
  | .none, _ => rfl
  | .bool b, _ => by show (b == b) = true; simp
  | .int i, _ => by show (i == i) = true; simp
  | .str x, _ => by show (x == x) = true; simp
  | .list xs, h => eqv_meAll xs h
  | .tuple xs, h => eqv_meAll xs h
  | .dict _, h => by cases h
theorem eqv_meAll : ∀ ds : List PyData, PyData.canLayAll0 ds = true → PyData.eqvAll ds ds = true
  | [], _ => rfl
  | d :: ds, h => by
    obtain ⟨h1, h2⟩ := Bool.and_eq_true_iff.mp (show (PyData.canLay0 d && PyData.canLayAll0 ds) = true from h)
    show (PyData.eqv d d && PyData.eqvAll ds ds) = true
    rw [eqv_me d h1, eqv_meAll ds h2] <;> rfl
end
theorem Kinds.one {kz : List (Int × Int)} (k : Kinds kz) {p : Int × Int} (h : p ∈ kz) : Kinds [p] := by
  have := k.mem p h
  exact ⟨by simp, by simp, ⟨this.1, this.2.1, this.2.2.1, this.2.2.2, trivial⟩⟩
end Rh
/-! DL28: sorted(set(x)) of ints. -/
namespace Rh
open PySem PySem.Spec PyProof.Rows L2
section
variable {P : Program} {w : World} {A : Around} {E : Value → Shared → Prop} {s : Shared}
end
section
variable {X : Cx} {O : Org} {pos : Pos}
end
end Rh
/-! DL29: a text so many times. -/
namespace Rh
open PySem PySem.Spec PyProof.Rows L2
end Rh
/-! DL30: own exceptions over any of three built-in bases, whose __init__ keeps its one argument: made, raised. -/
namespace Rh
open PySem PySem.Spec PyProof.Rows L2
open Builtin Builtin.ObjectAttr

/-- what the written part says of such a class -/
structure XcG (K : PySem.W.Frag) (C : Addr) : Prop where
  base : ∃ (B newId initId : String) (bmB : List Value), ExcBaseFacts B newId initId bmB ∧ StoreFacts B bmB "object.__setattr__" "object" ∧ PySem.W.excInitIn K C bmB newId = true ∧ PySem.W.excOver K C bmB = true
  sa : PySem.W.findIn K (.ref C) "__setattr__" = some (some (.builtin "object.__setattr__"))
  hd : PySem.W.hasDictIn K C = true
  ex : PySem.W.subIn K (.ref C) (.type "BaseException") = some true
  ty : PySem.W.typeIn K (.ref C) = some (.type "type")
  kp : PySem.W.keepIn K (.ref C) = true
section
variable {X : Cx} {pins : List (Addr × Obj)} {σ : L2.St} {H : Hp} {s : Shared} {a C : Addr} {f : Str} {y : V} {u : Value} {Q : Unit → Shared → Prop} {E : Value → Shared → Prop} {A : Around}
theorem xst_new (T : XcG X.K C) (I : Inv X pins σ H s) (ea : H a = some (exo a C none)) (hno : PySem.W.takerIn X.K C f = some none) (ry : RelV y u)
    (h : ∀ b s', H b = none → b ≠ a → Inv X pins σ (upd (upd H b (exd b [(f, y)])) a (exo a C (some b))) s' → Q () s') : wpAny (model X.prog X.w) A (setAttr (.ref a) f u) Q E s := by
  obtain ⟨B, newId, initId, bmB, FB, SF, ei, ov⟩ := T.base
  obtain ⟨cd, hcl, hh⟩ := PySem.W.any_some T.hd
  obtain ⟨t1, ho⟩ := exo_at I.hok ea
  obtain ⟨hp, g, d, t, os⟩ := s
  have J0 : PySem.W.InstAt hp a { cls := .ref C, dict := none, data := .fields #[.ref t1, .none, .none, .none, .bool false, .none] } C none := ⟨ho, rfl, rfl, trivial⟩
  refine PySem.W.set_plain I.kIn J0 T.sa ?_
  refine PySem.W.osa_openX SF I.kIn J0 ov hno fun onT => ?_
  have hnew : a ≠ hp.objs.size := Nat.ne_of_lt (Heap.lt_size ho)
  have hcls : PySem.W.Looks (model X.prog X.w) hp (classData C) cd := PySem.W.looks_clsIn I.kIn hcl
  obtain ⟨c1, c2, c3, c4, c5, c6, c7, c8, c9, c10, c11⟩ := cd
  dsimp only at hh
  subst hh
  show wpAny _ _ (storeInOwnDict (.ref a) (.ref C) (.str f _) f u onT) _ _ _
  unfold storeInOwnDict ownDictForStores
  repeat (first | with_reducible refine PySem.HandSPX.store_in_new ?_ ?_ | with_reducible refine wpAny_loadPart_at ho ?_ | with_reducible refine hcls.at ?_ | wp_step)
  · exact ⟨_, #[], _, (Heap.get?_update_ne _ _ _ _ hnew.symm).trans (Heap.get?_push_at rfl rfl), rfl, fun e he => absurd he (by simp), fun _ => rfl⟩
  · intro h' tk' hn' hs
    have hx1 : (hp.push { cls := .type "dict", data := .dict #[] }).get? a = some { cls := .ref C, data := .fields #[.ref t1, .none, .none, .none, .bool false, .none] } := Heap.get?_push_of_some _ ho
    have k : ∀ b o, b ≠ a → hp.get? b = some o → h'.get? b = some o := fun b o hb ho => (hs.2 b (Nat.ne_of_lt (Heap.lt_size ho))).trans ((Heap.get?_update_ne _ _ _ _ hb).trans (Heap.get?_push_of_some _ ho))
    have hx : h'.get? a = some { cls := .ref C, dict := some hp.objs.size, data := .fields #[.ref t1, .none, .none, .none, .bool false, .none] } := (hs.2 a hnew).trans (Heap.get?_update_self _ hx1 rfl)
    have hnd : H hp.objs.size = none := I.hok.fresh (Nat.le_refl _)
    have nd : ∀ {b : Addr} {o : Obj}, hp.get? b = some o → b ≠ hp.objs.size := fun {b o} q => Nat.ne_of_lt (Heap.lt_size q)
    have na : ∀ {b : Addr}, H b = none → b ≠ a := fun {b} n z => by rw [z, ea] at n; cases n
    have U : Un X.fs [] H (upd (upd H hp.objs.size (exd hp.objs.size [(f, y)])) a (exo a C (some hp.objs.size))) hp h' := {
      keep := fun b o q n _ _ => k b o (na n) q
      slot := fun b o q n _ _ => ⟨o.slots, k b o (na n) q⟩
      free := fun b o q n _ => (upd_ne (na n)).trans ((upd_ne (nd q)).trans n)
      there := fun b o q _ => (Classical.em (b = a)).elim (fun e => ⟨_, e ▸ hx⟩) fun e => ⟨o, k b o e q⟩
      tups := fun b xs q => (upd_ne (at_ne ea q exo_tup)).trans ((upd_ne (ne_of_none q hnd)).trans q)
      frzs := fun b o v q => (upd_ne (at_ne ea q exo_frz)).trans ((upd_ne (ne_of_none q hnd)).trans q)
      tbls := fun b ps q => ⟨#[], by rw [upd_ne (at_ne ea q exo_tbl), upd_ne (ne_of_none q hnd), q, Array.append_empty]⟩ }
    refine h hp.objs.size _ hnd hnew.symm (I.un (t' := tk') U fun b o q => ?_)
    by_cases hb : b = a
    · subst hb
      rw [upd_same] at q
      cases q
      exact exo_ok hx
    rw [upd_ne hb] at q
    by_cases e1 : b = hp.objs.size
    · subst e1
      rw [upd_same] at q
      cases q
      exact exd_ok hn' (relO_put (fs := []) ry fun g => True.intro)
    rw [upd_ne e1] at q
    refine (I.hok b o q).stay (fun c v hc z => k c v (hc.elim (fun e => e ▸ hb) fun e => at_ne ea e exo_own) z) (fun c hc => ?_) fun c xs hc => ?_
    · rw [upd_ne (at_ne ea hc exo_own), upd_ne (ne_of_none hc hnd)]; exact hc
    · rw [upd_ne (at_ne ea hc exo_tup), upd_ne (ne_of_none hc hnd)]; exact hc
end
/-- self.f = given: what such an __init__ does -/
def spXi (K : PySem.W.Frag) (f : Str) : Sp := fun vs H Q _ => ∃ (a C : Addr) (v : V), vs = [.ref a, v] ∧ XcG K C ∧ PySem.W.takerIn K C f = some none ∧ H a = some (exo a C none) ∧
  ∀ b, H b = none → b ≠ a → Q .non (upd (upd H b (exd b [(f, v)])) a (exo a C (some b)))
def tXst (K : PySem.W.Frag) (f : Str) (to te : TE) : TS := fun D σ H => te σ H fun y H1 => to σ H1 fun x H2 => ∃ a C : Addr, x = .ref a ∧ XcG K C ∧ PySem.W.takerIn K C f = some none ∧ H2 a = some (exo a C none) ∧
  ∀ b, H2 b = none → b ≠ a → D.nx σ (upd (upd H2 b (exd b [(f, y)])) a (exo a C (some b)))
theorem ps_xst {X : Cx} {o e : Expr} {to te : TE} {f : Str} {p pos : Pos} (ho : PE X o to) (he : PE X e te) (hs : swapsWith e (some (.Attribute o f p)) pos.line X.env = pure false := by rfl) : PS X (.Assign [.Attribute o f p] e pos) (tXst X.K f to te) := by
  refine ⟨fun pins s σ H D I h => plainObj_wpAny_Assign_Attribute (thn (he.run pins s σ H _ I h) ?_) hs⟩
  rintro v s1 ⟨y, H1, I1, ry, q1⟩
  refine thn (ho.run pins s1 σ H1 _ I1 q1) ?_
  rintro u s2 ⟨x, H2, I2, rx, a, C, ex, T, nf, ea, q⟩
  subst ex
  obtain rfl : u = Value.ref a := rx
  exact xst_new T I2 ea nf ry fun b s' n ne J => ⟨σ, _, J, q b n ne⟩
section
variable {P : Program} {w : World} {K : PySem.W.Frag} {mg : Str → Option Value} {base : Heap} {CX : CXT}
theorem ok_xinit {qual f : Str} {params : Arguments} {scope : Scope} {p1 p2 p3 p4 : Pos} {fI : Addr} {fd : FuncData} (F : FunD K "__init__" qual params [.Assign [.Attribute (.Name "self" p1) f p2] (.Name f p3) p4] scope [] [] fI fd) (S : FnScope ["self", f] ["self", f] scope)
    (v0 : scope.names.lookup ("self" : Str) = some .local) (v1 : scope.names.lookup f = some .local) (hf : (f == ("__debug__" : Str)) = false) (hf2 : (f == ("__classdict__" : Str)) = false) : FnOk P w K mg base CX 1 fI fd ["self", f] (spXi K f) := by
  refine F.ok (k := 0) S (fun vs H Q E h => ?_) (fun cdv A outer s H vs Q E hr h => ?_)
  · obtain ⟨a, C, v, rfl, _⟩ := h
    rfl
  · obtain ⟨a, C, v, rfl, T, nf, ea, q⟩ := h
    refine ⟨_, pss_one (ps_xst (pe_var (i := 0) rfl (.inl v0)) (pe_var (i := 1) rfl (.inl v1) hf hf2) (by rfl)), ?_⟩
    exact ⟨v, rfl, .ref a, rfl, a, C, rfl, T, nf, ea, q⟩
/-- what is known of an own exception class that keeps its one argument -/
structure XcP (P : Program) (w : World) (K : PySem.W.Frag) (mg : Str → Option Value) (base : Heap) (C : Addr) (f : Str) : Prop where
  g : XcG K C
  nf : PySem.W.takerIn K C f = some none
  made : ∃ (fI : Addr) (fd : FuncData), PySem.W.findIn K (.ref C) "__init__" = some (some (.ref fI)) ∧ PySem.W.typeIn K (.ref fI) = some (.type "function") ∧ FnOk P w K mg base (L2N.CX P w) 1 fI fd ["self", f] (spXi K f) ∧ Binds K fd ["self", f] []
end
/-- what is known of an own exception class without __init__ -/
def XnP (K : PySem.W.Frag) (C : Addr) : Prop := (∃ (B newId initId : String) (bmB : List Value), ExcBaseFacts B newId initId bmB ∧ PySem.W.excIn K C bmB newId = true) ∧ PySem.W.keepIn K (.ref C) = true ∧ PySem.W.subIn K (.ref C) (.type "BaseException") = some true ∧ PySem.W.typeIn K (.ref C) = some (.type "type")
section
variable {X : Cx} {O : Org} {x f : Str} {C : Addr} {e : Expr} {te : DTE} {p pos pos' : Pos} {W : DWX}
end
end Rh
/-! DL31: try with several clauses, each with a name for the exception or without; the exception's fields. -/
namespace Rh
open PySem PySem.Spec PyProof.Rows L2

abbrev HC := Value × Option Nat × (Addr → Value → Option Addr → TS)
/-- a clause's name and its slot -/
def NamOk (X : Cx) : Option Str → Option Nat → Prop
  | none, none => True
  | some n, some i => X.N[i]? = some n ∧ X.env.kindOf n = some .local
  | _, _ => False
inductive HdsMix (X : Cx) : List ExceptHandler → List HC → Prop
  | nil : HdsMix X [] []
  | cons {x : Str} {c : Value} {on : Option Str} {i : Option Nat} {ts : Addr → Value → Option Addr → TS} {b0 : Stmt} {su : List Stmt} {np hp : Pos} {hds : List ExceptHandler} {l : List HC} (hc : Names X x c) (hn : NamOk X on i)
      (hsu : ∀ (a : Addr) (oe : Obj) (cls : Value) (d : Option Addr) (pn : List (Addr × Obj)), L2N.Zn cls d oe → (∃ vs, oe.data = .fields vs) → PSs (X.suite a ((a, oe) :: pn)) (b0 :: su) (ts a cls d)) (r : HdsMix X hds l) :
      HdsMix X (.ExceptHandler (some (.Name x np)) on (b0 :: su) hp :: hds) ((c, i, ts) :: l)
section
variable {X : Cx} {body : List Stmt} {h0 : ExceptHandler} {hds : List ExceptHandler} {l : List HC} {pos : Pos} {tb : WX → TS} {Wout : WX}
end
/-! ### over data -/
abbrev DHand := Addr × Option Nat × (Addr → List Str → List D → DTS)
section
variable {X : Cx} {O : Org} {body : List Stmt} {h0 : ExceptHandler} {hds : List ExceptHandler} {l : List DHand} {pos : Pos} {tb : DWX → DTS}
inductive HdsD (X : Cx) (O : Org) : List ExceptHandler → List DHand → Prop
  | nil : HdsD X O [] []
  | cons {x : Str} {C : Addr} {on : Option Str} {i : Option Nat} {t : Addr → List Str → List D → DTS} {b0 : Stmt} {su : List Stmt} {np hp : Pos} {hds : List ExceptHandler} {l : List DHand} (hg : Gl X x) (hm : X.mg x = some (.ref C)) (hn : NamOk X on i)
      (hsu : ∀ (a : Addr) (oe : Obj) (d : Option Addr) (pn : List (Addr × Obj)) (O' : Org) (ns : List Str) (ds : List D), L2N.Zn (.ref C) d oe → (∃ vs, oe.data = .fields vs) → XdIs X.K O'.H O'.M ns ds d → DSs (X.suite a ((a, oe) :: pn)) O' (b0 :: su) (t a ns ds)) (r : HdsD X O hds l)
      (hdb : (x == ("__debug__" : Str)) = false := by decide) :
      HdsD X O (.ExceptHandler (some (.Name x np)) on (b0 :: su) hp :: hds) ((C, i, t) :: l)
end
end Rh
/-! DL31H: a, b = x, y within an except suite. -/
namespace Rh
open PySem PySem.Spec PyProof.Rows L2 HotX L2H

section
variable {prog : Program} {w : World} {A : Around} {E : Value → Shared → Prop} {s : Shared}
end
end Rh
/-! DL32: a lambda without parameters, handed to a def that calls it. -/
namespace Rh
open PySem PySem.Spec PyProof.Rows L2 LamX

section
variable {X : Cx} {pins : List (Addr × Obj)} {σ : L2.St} {H : Hp} {s : Shared} {M : DHp}
end
/-! ### over data -/
end Rh
/-! DL33: the head and the end of a law whose defs make lambdas: tables of code objects. -/
namespace Rh
open PySem PySem.Spec PyProof.Rows L2 LamX

/-! ### what the head looks at -/
/-- a def's code object, its table -/
def codC (K : PySem.W.Frag) (f : Addr) : Addr := match K.lookup f with
  | some ⟨_, _, .func fd, _⟩ => (match fd.code with
    | .ref c => c
    | _ => 0)
  | _ => 0
def tabP (K : PySem.W.Frag) (f : Addr) : Addr := match K.lookup (codC K f) with
  | some ⟨_, _, .fields vs, _⟩ => (match vs.getD 11 .none with
    | .ref p => p
    | _ => 0)
  | _ => 0
def fnCode (K : PySem.W.Frag) (f : Addr) : Bool := match K.lookup f with
  | some ⟨_, _, .func fd, _⟩ => fd.code == .ref (codC K f)
  | _ => false
/-- the table of the def at f is there, empty, and not of the written part -/
structure TabAt (h : Heap) (K : PySem.W.Frag) (f : Addr) : Prop where
  code : fnCode K f = true
  hd : PySem.W.CodeHd h (codC K f) (tabP K f)
  no : K.lookup (tabP K f) = none
  emp : h.get? (tabP K f) = some { cls := .none, data := .fields #[] }
theorem TabAt.keeps {h h' : Heap} {K : PySem.W.Frag} {f : Addr} (t : TabAt h K f) (k : ∀ b o, h.get? b = some o → h'.get? b = some o) : TabAt h' K f := ⟨t.code, t.hd.keeps k, t.no, k _ _ t.emp⟩
/-! ### the hook -/
abbrev FA := PySem.W.Frag → Addr
/-! ### the end -/
section
variable {P : Program} {w : World} {K : PySem.W.Frag} {mg mb : Str → Option Value} {p : Addr} {us : List Value} {ns : List Int} {st : Shared} {cs : List (Addr × Addr × Str)}
end
end Rh
/-! DL34: packages and facts for raising, catching, lambdas. -/
namespace Rh
open PySem PySem.Spec PyProof.Rows L2 LamX

/-! ### a def that makes lambdas: its code object is known -/
section
variable {P : Program} {w : World} {K : PySem.W.Frag} {mg : Str → Option Value} {base : Heap}
end
/-! ### a def that gets a lambda -/
/-! ### facts -/
def bases : List (String × List Value) := [("ValueError", [.type "ValueError", .type "Exception", .type "BaseException", .type "object"]), ("LookupError", [.type "LookupError", .type "Exception", .type "BaseException", .type "object"]), ("ArithmeticError", [.type "ArithmeticError", .type "Exception", .type "BaseException", .type "object"])]
def bBase (K : PySem.W.Frag) (C : Addr) : Bool := bases.any fun b => PySem.W.excInitIn K C b.2 (b.1 ++ ".__new__") && PySem.W.excOver K C b.2
def bBaseN (K : PySem.W.Frag) (C : Addr) : Bool := bases.any fun b => PySem.W.excIn K C b.2 (b.1 ++ ".__new__")
def bRs (K : PySem.W.Frag) (C : Addr) : Bool := PySem.W.keepIn K (.ref C) && (decide (PySem.W.subIn K (.ref C) (.type "BaseException") = some true) && decide (PySem.W.typeIn K (.ref C) = some (.type "type")))
def noTk : Option (Option Value) → Bool
  | some none => true
  | _ => false
def bXc (C f : Str) : FB := fun K => bBase K (He.ga K C) && (bRs K (He.ga K C) && (He.eqO (PySem.W.findIn K (.ref (He.ga K C)) "__setattr__") (some (some (.builtin "object.__setattr__"))) && (PySem.W.hasDictIn K (He.ga K C) && (noTk (PySem.W.takerIn K (He.ga K C) f) &&
  (He.eqO (PySem.W.findIn K (.ref (He.ga K C)) "__init__") (some (some (.ref (He.ma K (He.ga K C) "__init__")))) && decide (PySem.W.typeIn K (.ref (He.ma K (He.ga K C) "__init__")) = some (.type "function")))))))
def bXn (C : Str) : FB := fun K => bBaseN K (He.ga K C) && bRs K (He.ga K C)
def bXf (C f : Str) : FB := fun K => xfB K (He.ga K C) && decide (PySem.W.findIn K (.ref (He.ga K C)) f = some none)
section
variable {P : Program} {w : World} {K : PySem.W.Frag} {mg : Str → Option Value} {base : Heap} {C f : Str}
theorem bBase_ok {C : Addr} (h : bBase K C = true) : ∃ (B newId initId : String) (bmB : List Value), ExcBaseFacts B newId initId bmB ∧ StoreFacts B bmB "object.__setattr__" "object" ∧ PySem.W.excInitIn K C bmB newId = true ∧ PySem.W.excOver K C bmB = true := by
  obtain ⟨b, hb, h⟩ := List.any_eq_true.mp h
  obtain ⟨h1, h2⟩ := He.ba h
  rcases List.mem_cons.mp hb with rfl | hb
  · exact ⟨_, _, _, _, F.excBase_ValueError, F.store_ValueError, h1, h2⟩
  rcases List.mem_cons.mp hb with rfl | hb
  · exact ⟨_, _, _, _, F.excBase_LookupError, F.store_LookupError, h1, h2⟩
  obtain rfl := List.mem_singleton.mp hb
  exact ⟨_, _, _, _, F.excBase_ArithmeticError, F.store_ArithmeticError, h1, h2⟩
theorem bBaseN_ok {C : Addr} (h : bBaseN K C = true) : ∃ (B newId initId : String) (bmB : List Value), ExcBaseFacts B newId initId bmB ∧ PySem.W.excIn K C bmB newId = true := by
  obtain ⟨b, hb, h⟩ := List.any_eq_true.mp h
  rcases List.mem_cons.mp hb with rfl | hb
  · exact ⟨_, _, _, _, F.excBase_ValueError, h⟩
  rcases List.mem_cons.mp hb with rfl | hb
  · exact ⟨_, _, _, _, F.excBase_LookupError, h⟩
  obtain rfl := List.mem_singleton.mp hb
  exact ⟨_, _, _, _, F.excBase_ArithmeticError, h⟩
theorem bRs_ok {C : Addr} (h : bRs K C = true) : PySem.W.keepIn K (.ref C) = true ∧ PySem.W.subIn K (.ref C) (.type "BaseException") = some true ∧ PySem.W.typeIn K (.ref C) = some (.type "type") := by
  obtain ⟨h1, h⟩ := He.ba h
  obtain ⟨h2, h3⟩ := He.ba h
  exact ⟨h1, of_decide_eq_true h2, of_decide_eq_true h3⟩
theorem noTk_ok {o : Option (Option Value)} (h : noTk o = true) : o = some none := by
  unfold noTk at h
  split at h
  · rfl
  · cases h
theorem bXc_ok {fd : FuncData} (h : bXc C f K = true) (F1 : FnOk P w K mg base (L2N.CX P w) 1 (He.ma K (He.ga K C) "__init__") fd ["self", f] (spXi K f)) (hb : L2.Binds K fd ["self", f] []) : XcP P w K mg base (He.ga K C) f := by
  obtain ⟨h1, h⟩ := He.ba h
  obtain ⟨h2, h⟩ := He.ba h
  obtain ⟨h3, h⟩ := He.ba h
  obtain ⟨h4, h⟩ := He.ba h
  obtain ⟨h5, h⟩ := He.ba h
  obtain ⟨h6, h7⟩ := He.ba h
  obtain ⟨r1, r2, r3⟩ := bRs_ok h2
  exact ⟨⟨bBase_ok h1, He.eqO_ok h3, h4, r2, r3, r1⟩, noTk_ok h5, _, fd, He.eqO_ok h6, of_decide_eq_true h7, F1, hb⟩
theorem bXn_ok (h : bXn C K = true) : XnP K (He.ga K C) := by
  obtain ⟨h1, h2⟩ := He.ba h
  obtain ⟨r1, r2, r3⟩ := bRs_ok h2
  exact ⟨bBaseN_ok h1, r1, r2, r3⟩
theorem bXf_ok (h : bXf C f K = true) : XfC K (He.ga K C) ∧ PySem.W.findIn K (.ref (He.ga K C)) f = some none := let ⟨h1, h2⟩ := He.ba h; ⟨xfB_ok h1, of_decide_eq_true h2⟩
end
/-! ### the tables of a law -/
section
variable {K : PySem.W.Frag} {h : Heap} {tn : List FA} {qs : List Str}
end
end Rh
/-! DL35: calls that give every value of a def with defaults. -/
namespace Rh
open PySem PySem.Spec PyProof.Rows L2
section
variable {K : PySem.W.Frag} {x qual : Str} {params : Arguments} {body : List Stmt} {scope : Scope} {dvs : List V} {kws : List (Str × V)} {f : Addr} {fd : FuncData} {ps : List Str}
end
end Rh
/-! DL36: the last item of a list taken out. -/
namespace Rh
open PySem PySem.Spec PyProof.Rows L2
section
variable {X : Cx} {O : Org} {pos apos p : Pos} {o e : Expr} {to te : DTE}
end
end Rh
/-! DL37: == of two objects of a class without an __eq__ of its own. -/
namespace Rh
open PySem PySem.Spec PyProof PyProof.Rows L2
section
variable {M : Model} {prog : Program} {w : World} {A : Around} {E : Value → Shared → Prop} {s : Shared} {K : PySem.W.Frag} {x y C : Addr} {ox oy : Obj} {od od2 : Option Obj}
end
section
variable {X : Cx}
end
end Rh
/-! DL38: an item of a list taken out by its index. -/
namespace Rh
open PySem PySem.Spec PyProof.Rows L2
section
variable {X : Cx} {O : Org} {pos apos p : Pos} {o e : Expr} {to te : DTE}
end
end Rh
/-! DL41: try whose first clause names four classes in a tuple, and lets the exception pass on to the next clauses. -/
namespace Rh
open PySem PySem.Spec PyProof.Rows L2
section
variable {X : Cx} {body : List Stmt} {h0 : ExceptHandler} {hds : List ExceptHandler} {l : List HC} {pos : Pos} {tb : WX → TS} {Wout : WX} {x1 x2 x3 x4 : Str} {c1 c2 c3 c4 : Value} {p1 p2 p3 p4 tpos hp : Pos} {kk : Nat} {on : Option Str} {b0 : Stmt} {su : List Stmt}
end
section
variable {X : Cx} {O : Org} {body : List Stmt} {h0 : ExceptHandler} {hds : List ExceptHandler} {l : List DHand} {pos : Pos} {tb : DWX → DTS} {x1 x2 x3 x4 : Str} {c1 c2 c3 c4 : Addr} {p1 p2 p3 p4 tpos hp : Pos} {kk : Nat} {on : Option Str} {b0 : Stmt} {su : List Stmt}
end
end Rh
/-! DL44: == and != of anything plain with a text. -/
namespace Rh
open PySem PySem.Spec PyProof.Rows L2
open MeetsSeq SeqAt
open AutoSeq1 (wpAny_loadPart')
section
variable {A : Around} {s : Shared}
end
/-! ### over values: a tuple, a list, a dict -/
section
variable {X : Cx}
end
end Rh
/-! DL62: repr of data that holds dicts; of a dict alone its address must not be that of sys.modules. -/
namespace Rh
open PySem PySem.Spec PyProof.Rows L2

mutual
inductive RdX (h : Heap) : Value → PyData → Prop
  | none : RdX h .none .none
  | bool (b : Bool) : RdX h (.bool b) (.bool b)
  | int (i : Int) (t : Tok) : RdX h (.int i t) (.int i)
  | str (x : Str) (t : Tok) : RdX h (.str x t) (.str x)
  | list {a : Addr} {o : Obj} {vs : Array Value} {n : Nat} {xs : List PyData} (h1 : h.get? a = some o) (h2 : o.cls = .type "list") (h3 : o.data = .seq vs n) (h4 : RdXs h vs.toList xs) : RdX h (.ref a) (.list xs)
  | tuple {a : Addr} {o : Obj} {vs : Array Value} {n : Nat} {xs : List PyData} (h1 : h.get? a = some o) (h2 : o.cls = .type "tuple") (h3 : o.data = .seq vs n) (h4 : RdXs h vs.toList xs) : RdX h (.ref a) (.tuple xs)
  | dict {a : Addr} {o : Obj} {es : Array DictEntry} {n : Nat} {kvs : List (PyData × PyData)} (h0 : a ≠ sysModules) (h1 : h.get? a = some o) (h2 : o.cls = .type "dict") (h3 : o.data = .dict es n) (h4 : RdXs h (es.toList.map (·.key)) (kvs.map (·.1)))
      (h5 : RdXs h (es.toList.map (·.val)) (kvs.map (·.2))) : RdX h (.ref a) (.dict kvs)
inductive RdXs (h : Heap) : List Value → List PyData → Prop
  | nil : RdXs h [] []
  | cons {v : Value} {vs : List Value} {d : PyData} {ds : List PyData} (h1 : RdX h v d) (h2 : RdXs h vs ds) : RdXs h (v :: vs) (d :: ds)
end
section
variable {prog : Program} {w : World} {h : Heap}
mutual
theorem RdX.reads : ∀ {v : Value} {d : PyData}, RdX h v d → ∃ as, Reads h v d as
  | _, _, .none => ⟨_, .none⟩
  | _, _, .bool b => ⟨_, .bool b⟩
  | _, _, .int i t => ⟨_, .int i t⟩
  | _, _, .str x t => ⟨_, .str x t⟩
  | _, _, .list a b c r => let ⟨_, q⟩ := r.reads; ⟨_, .list a b c q⟩
  | _, _, .tuple a b c r => let ⟨_, q⟩ := r.reads; ⟨_, .tuple a b c q⟩
  | _, _, .dict _ a b c r r2 => let ⟨_, q⟩ := r.reads; let ⟨_, q2⟩ := r2.reads; ⟨_, .dict a b c q q2⟩
theorem RdXs.reads : ∀ {vs : List Value} {ds : List PyData}, RdXs h vs ds → ∃ as, ReadsAll h vs ds as
  | _, _, .nil => ⟨_, .nil⟩
  | _, _, .cons r r2 => let ⟨_, q⟩ := r.reads; let ⟨_, q2⟩ := r2.reads; ⟨_, .cons q q2⟩
end
/-- what is shown below a level -/
def ShK (prog : Program) (w : World) (h : Heap) (v : Value) (d : PyData) : Prop := ∃ bs, ReadAtMost h d.depth bs ∧ ReprK prog w bs h d.depth v d.shown
def ShKs (prog : Program) (w : World) (h : Heap) (vs : List Value) (ds : List PyData) : Prop := ∃ bs, ReadAtMost h (PyData.depthAll ds) bs ∧ ReprAllK prog w bs h (PyData.depthAll ds) vs (PyData.shownAll ds)
theorem ShKs.nil : ShKs prog w h [] [] := ⟨[], (fun _ z => nomatch z), .nil⟩
theorem ShKs.cons {v : Value} {vs : List Value} {d : PyData} {ds : List PyData} : ShK prog w h v d → ShKs prog w h vs ds → ShKs prog w h (v :: vs) (d :: ds) := fun ⟨b1, r1, k1⟩ ⟨b2, r2, k2⟩ => by
  have l1 : d.depth ≤ PyData.depthAll (d :: ds) := Nat.le_max_left _ _
  have l2 : PyData.depthAll ds ≤ PyData.depthAll (d :: ds) := Nat.le_max_right _ _
  exact ⟨b1 ++ b2, (r1.mono l1).append (r2.mono l2), .cons ((k1.more fun b z => List.mem_append_left _ z).level_le l1) (k2.more_le (fun b z => List.mem_append_right _ z) l2)⟩
theorem inList {t : Str} {ts : List Str} {n : Nat} (z : t ∈ ts) (l : (listText ts).length ≤ n) : t.length ≤ n := Nat.le_trans (listText_mem_le z) l
theorem inTuple {t : Str} {ts : List Str} {n : Nat} (z : t ∈ ts) (l : (tupleText ts).length ≤ n) : t.length ≤ n := Nat.le_trans (tupleText_mem_le z) l
theorem inKeys {t : Str} {kvs : List (PyData × PyData)} {n : Nat} (z : t ∈ PyData.shownAll (kvs.map (·.1))) (l : (dictText (PyData.shownKv kvs)).length ≤ n) : t.length ≤ n := by
  obtain ⟨p, hp, q⟩ := PyData.shownKv_key_le kvs t z
  have := dictText_mem_le hp
  omega
theorem inVals {t : Str} {kvs : List (PyData × PyData)} {n : Nat} (z : t ∈ PyData.shownAll (kvs.map (·.2))) (l : (dictText (PyData.shownKv kvs)).length ≤ n) : t.length ≤ n := by
  obtain ⟨p, hp, q⟩ := PyData.shownKv_val_le kvs t z
  have := dictText_mem_le hp
  omega
/-- the two columns of a dict -/
theorem two_cols {es : Array DictEntry} {kvs : List (PyData × PyData)} (k : ShKs prog w h (es.toList.map (·.key)) (kvs.map (·.1))) (v : ShKs prog w h (es.toList.map (·.val)) (kvs.map (·.2))) :
    ∃ bs, ReadAtMost h (PyData.depthKv kvs) bs ∧ ReprEntriesK prog w bs h (PyData.depthKv kvs) es.toList (PyData.shownKv kvs) := by
  obtain ⟨b1, r1, k1⟩ := k
  obtain ⟨b2, r2, k2⟩ := v
  have l1 := PyData.depthAll_keys_le kvs
  have l2 := PyData.depthAll_vals_le kvs
  refine ⟨b1 ++ b2, (r1.mono l1).append (r2.mono l2), ?_⟩
  rw [PyData.shownKv_eq]
  exact .of_two _ _ _ (k1.more_le (fun b z => List.mem_append_left _ z) l1) (k2.more_le (fun b z => List.mem_append_right _ z) l2)
mutual
theorem RdX.k : ∀ {v : Value} {d : PyData}, RdX h v d → d.showable = true → d.shown.length ≤ sizeLine → ShK prog w h v d
  | _, _, .none, _, _ => ⟨[], fun _ z => (nomatch z), .of_is .none _ _ _⟩
  | _, _, .bool b, _, _ => ⟨[], fun _ z => (nomatch z), .of_is (.bool b) _ _ _⟩
  | _, _, .int i t, s, _ => ⟨[], fun _ z => (nomatch z), .of_is (.int t (of_decide_eq_true s)) _ _ _⟩
  | _, _, .str x t, _, l => ⟨[], fun _ z => (nomatch z), .of_is (.str x t l) _ _ _⟩
  | _, _, .list (vs := ⟨its⟩) (xs := xs) h1 h2 h3 h4, s, l => by
    have l' : (listText (PyData.shownAll xs)).length ≤ sizeLine := l
    obtain ⟨bs, hb, hk⟩ := RdXs.k h4 s fun t z => inList z l'
    obtain ⟨as, q⟩ := (RdX.list h1 h2 h3 h4).reads
    refine ⟨_ :: bs, .cons q (Nat.le_succ _) hb, ?_⟩
    cases its with
    | nil =>
      cases h4
      exact .listEmpty h1 h2 h3
    | cons x its => exact .list h1 h2 h3 (not_mem_of_deeper q (Nat.lt_succ_self _) hb) (by have := hk.length_eq; simpa using this) fun i y e => hk.item i y (by simpa using e)
  | _, _, .tuple (xs := xs) h1 h2 h3 h4, s, l => by
    have l' : (tupleText (PyData.shownAll xs)).length ≤ sizeLine := l
    obtain ⟨bs, hb, hk⟩ := RdXs.k h4 s fun t z => inTuple z l'
    obtain ⟨as, q⟩ := (RdX.tuple h1 h2 h3 h4).reads
    exact ⟨_ :: bs, .cons q (Nat.le_succ _) hb, .tuple h1 h2 h3 (not_mem_of_deeper q (Nat.lt_succ_self _) hb) hk⟩
  | _, _, .dict (kvs := kvs) h0 h1 h2 h3 h4 h5, s, l => by
    have l' : (dictText (PyData.shownKv kvs)).length ≤ sizeLine := l
    obtain ⟨s1, s2⟩ := PyData.showableKv_split kvs s
    obtain ⟨bs, hb, hk⟩ := two_cols (RdXs.k h4 s1 fun t z => inKeys z l') (RdXs.k h5 s2 fun t z => inVals z l')
    obtain ⟨as, q⟩ := (RdX.dict h0 h1 h2 h3 h4 h5).reads
    exact ⟨_ :: bs, .cons q (Nat.le_succ _) hb, .dict h1 h2 h3 (beq_eq_false_iff_ne.mpr h0) (not_mem_of_deeper q (Nat.lt_succ_self _) hb) hk⟩
theorem RdXs.k : ∀ {vs : List Value} {ds : List PyData}, RdXs h vs ds → PyData.showableAll ds = true → (∀ t ∈ PyData.shownAll ds, t.length ≤ sizeLine) → ShKs prog w h vs ds
  | _, _, .nil, _, _ => .nil
  | _, _, .cons (d := d) (ds := ds) r1 r2, s, l => by
    obtain ⟨s1, s2⟩ := Bool.and_eq_true_iff.mp (show (PyData.showable d && PyData.showableAll ds) = true from s)
    exact .cons (r1.k s1 (l _ List.mem_cons_self)) (r2.k s2 fun t z => l t (List.mem_cons_of_mem _ z))
end
/-- by which slot it is shown -/
theorem RdX.shows {a : Addr} {d : PyData} (r : RdX h (.ref a) d) (s : d.showable = true) (l : d.shown.length ≤ sizeLine) : ∃ T idr, ShowsBy prog w h a d T idr := by
  obtain ⟨as, q⟩ := r.reads
  cases r with
  | list h1 h2 h3 h4 =>
    rename_i o vs n xs
    have l' : (listText (PyData.shownAll xs)).length ≤ sizeLine := l
    obtain ⟨bs, hb, hk⟩ := RdXs.k (prog := prog) (w := w) h4 s fun t z => inList z l'
    refine ⟨"list", "list.__repr__", F.slot_list_repr.toG, F.slot_list_str, F.slot_list_format, fun _ k0 => ⟨o, k0 _ _ h1, h2⟩, fun A E st Q g u k0 e => ?_⟩
    obtain ⟨its⟩ := vs
    cases its with
    | nil =>
      cases h4
      exact call_list_repr_empty ⟨o, k0 _ _ h1, h2⟩ (k0 _ _ h1) h3 (e st.heap _ _ fun _ _ z => z)
    | cons x its => exact call_list_reprK h1 h2 h3 (not_mem_of_deeper q (Nat.lt_succ_self _) hb) (by have := hk.length_eq; simpa using this) (fun i y z => hk.item i y (by simpa using z)) g (fun b _ => .nil b) u k0 e l'
  | tuple h1 h2 h3 h4 =>
    rename_i o vs n xs
    have l' : (tupleText (PyData.shownAll xs)).length ≤ sizeLine := l
    obtain ⟨bs, hb, hk⟩ := RdXs.k (prog := prog) (w := w) h4 s fun t z => inTuple z l'
    exact ⟨"tuple", "tuple.__repr__", F.slot_tuple_repr, F.slot_tuple_str, F.slot_tuple_format, fun _ k0 => ⟨o, k0 _ _ h1, h2⟩, fun A E st Q g u k0 e => call_tuple_reprK h1 h2 h3 (not_mem_of_deeper q (Nat.lt_succ_self _) hb) hk g (fun b _ => .nil b) u k0 e l'⟩
  | dict h0 h1 h2 h3 h4 h5 =>
    rename_i o es n kvs
    have l' : (dictText (PyData.shownKv kvs)).length ≤ sizeLine := l
    obtain ⟨s1, s2⟩ := PyData.showableKv_split kvs s
    obtain ⟨bs, hb, hk⟩ := two_cols (RdXs.k (prog := prog) (w := w) h4 s1 fun t z => inKeys z l') (RdXs.k h5 s2 fun t z => inVals z l')
    exact ⟨"dict", "dict.__repr__", F.slot_dict_repr, F.slot_dict_str, F.slot_dict_format, fun _ k0 => ⟨o, k0 _ _ h1, h2⟩, fun A E st Q g u k0 e => call_dict_reprK h1 h2 h3 (beq_eq_false_iff_ne.mpr h0) (not_mem_of_deeper q (Nat.lt_succ_self _) hb) hk g (fun b _ => .nil b) u k0 e l'⟩
end
/-! ### over values -/
def keyPy : Key → PyData
  | .inl i => .int i
  | .inr x => .str x
mutual
inductive DpX (K : PySem.W.Frag) (H : Hp) : V → PyData → Prop
  | non : DpX K H .non .none
  | bl (b : Bool) : DpX K H (.bl b) (.bool b)
  | int (i : Int) : DpX K H (.int i) (.int i)
  | str (x : Str) : DpX K H (.str x) (.str x)
  | lst {a : Addr} {xs : List V} {ds : List PyData} (h1 : SqL K H a xs) (h2 : DpXs K H xs ds) : DpX K H (.ref a) (.list ds)
  | tup {a : Addr} {xs : List V} {ds : List PyData} (h1 : SqT K H a xs) (h2 : DpXs K H xs ds) : DpX K H (.ref a) (.tuple ds)
  | dic {a : Addr} {ks : List Key} {vs : List V} {ds : List PyData} (h1 : H a = some (.dK (ks.zip vs))) (h3 : ks.length = vs.length) (h2 : DpXs K H vs ds) : DpX K H (.ref a) (.dict ((ks.map keyPy).zip ds))
inductive DpXs (K : PySem.W.Frag) (H : Hp) : List V → List PyData → Prop
  | nil : DpXs K H [] []
  | cons {v : V} {vs : List V} {d : PyData} {ds : List PyData} (h1 : DpX K H v d) (h2 : DpXs K H vs ds) : DpXs K H (v :: vs) (d :: ds)
end
theorem DpXs.len {K : PySem.W.Frag} {H : Hp} : ∀ {vs : List V} {ds : List PyData}, DpXs K H vs ds → vs.length = ds.length
  | _, _, .nil => rfl
  | _, _, .cons _ r => congrArg (· + 1) r.len
section
variable {X : Cx} {pins : List (Addr × Obj)} {σ : L2.St} {H : Hp} {s : Shared}
theorem cols_of {P : Program} {w : World} {h : Heap} : ∀ {ks : List Key} {vs : List V} {ws : List (Key × Value)} {es : List DictEntry}, ks.length = vs.length → KV (ks.zip vs) ws → Pairs (mixKind P w) es ws →
    RdXs h (es.map (·.key)) (ks.map keyPy) ∧ Vals vs (es.map (·.val))
  | [], [], _, _, _, k, p => by
    cases k
    cases p
    exact ⟨.nil, .nil⟩
  | [], v :: vs, _, _, l, _, _ => by cases l
  | k :: ks, [], _, _, l, _, _ => by cases l
  | k :: ks, v :: vs, _, _, l, kv, p => by
    cases kv with
    | cons e r =>
      cases p with
      | cons i1 i2 pr =>
        rename_i q qs en es
        obtain ⟨e1, e2⟩ := e
        obtain ⟨c1, c2⟩ := cols_of (h := h) (Nat.succ.inj l) r pr
        refine ⟨.cons ?_ c1, .cons (by show RelV v en.val; rw [i2]; exact e2) c2⟩
        rw [← e1] at i1
        show RdX h en.key (keyPy k)
        rcases keyIs_shape (show keyIs k en.key = true from i1) with ⟨i, t, rfl, z⟩ | ⟨x, t, rfl, z⟩
        · rw [z]; exact .int i t
        · rw [z]; exact .str x t
mutual
theorem DpX.rd (I : Inv X pins σ H s) : ∀ {d : PyData} {v : V} {u : Value}, DpX X.K H v d → RelV v u → RdX s.heap u d
  | _, _, _, .non, r => by cases r; exact .none
  | _, _, _, .bl b, r => by cases r; exact .bool b
  | _, _, _, .int i, r => by obtain ⟨t, rfl⟩ := r; exact .int i t
  | _, _, _, .str x, r => by obtain ⟨t, rfl⟩ := r; exact .str x t
  | _, _, _, .lst h1 h2, r => by
    cases r
    obtain ⟨its, rv, ⟨o, n, ho, hc, _, hd⟩, _⟩ := I.list h1
    exact .list ho hc hd (DpXs.rd I h2 rv)
  | _, _, _, .tup h1 h2, r => by
    cases r
    obtain ⟨its, rv, ⟨o, ho, hc, n, hd⟩, _⟩ := I.tuple h1
    exact .tuple ho hc hd (DpXs.rd I h2 rv)
  | _, _, _, .dic (ds := ds) h1 h3 h2, r => by
    cases r
    obtain ⟨_, ns, ws, kv, o, es, ep, ho, hx, hd, _, pr, _⟩ := I.hok _ _ h1
    obtain ⟨c1, c2⟩ := cols_of (h := s.heap) h3 kv pr
    have l := h2.len
    have e1 : ((List.map keyPy _).zip ds).map (·.1) = List.map keyPy _ := List.map_fst_zip (by rw [List.length_map, h3, l]; exact Nat.le_refl _)
    have e2 : ((List.map keyPy _).zip ds).map (·.2) = ds := List.map_snd_zip (by rw [List.length_map, h3, l]; exact Nat.le_refl _)
    exact .dict (beq_eq_false_iff_ne.mp ns) ho hx.1 hd (by rw [e1]; exact c1) (by rw [e2]; exact DpXs.rd I h2 c2)
theorem DpXs.rd (I : Inv X pins σ H s) : ∀ {ds : List PyData} {vs : List V} {us : List Value}, DpXs X.K H vs ds → Vals vs us → RdXs s.heap us ds
  | _, _, _, .nil, r => by cases r; exact .nil
  | _, _, _, .cons h1 h2, r => by
    cases r with
    | cons a b => exact .cons (h1.rd I a) (h2.rd I b)
end
def rReprX (K : PySem.W.Frag) : R1 := fun xs H Q => ∃ x d, xs = [x] ∧ DpX K H x d ∧ d.showable = true ∧ d.depth ≤ 60 ∧ d.shown.length ≤ sizeLine ∧ Q (.str d.shown) H
theorem call_reprX {k : Nat} (hG : X.A.guards = some []) (hr : Room k X.A) : CallR X (.builtin "repr") (rReprX X.K) := by
  intro pins s σ H xs us Q I r h
  obtain ⟨x, d, rfl, dp, h1, h3, h4, q⟩ := h
  obtain ⟨u, rfl, ru⟩ := vals1 r
  have fin : ∀ tk t, EP X pins σ Q (.str d.shown t) { s with toks := tk } := fun tk t => ⟨.str d.shown, H, I.tok tk, ⟨t, rfl⟩, q⟩
  have ref : ∀ a, u = .ref a → wpAny (model X.prog X.w) X.A (call (.builtin "repr") [u]) (EP X pins σ Q) X.xe s := fun a e => by
    subst e
    obtain ⟨T, idr, S⟩ := (dp.rd I ru).shows (prog := X.prog) (w := X.w) h1 h4
    have un := hr.un
    refine call_repr_slot (by omega) (S.typeIs s fun _ _ z => z) S.slotRepr (S.call X.A.in1 _ s _ hG (by show X.A.units + 1 + d.depth < cLine; omega) (fun _ _ z => z) fun h' t tk hk => ?_)
    exact ⟨d.shown, t, rfl, .str d.shown, H, I.kept (t' := tk) hk, ⟨t, rfl⟩, q⟩
  cases dp with
  | non => cases ru; exact PySem.P.repr_of_none (fin _ _)
  | bl b => cases ru; exact PySem.P.repr_of_bool (fin _ _)
  | int i => obtain ⟨t, rfl⟩ := ru; exact PySem.P.repr_of_int (of_decide_eq_true h1) (fin _ _)
  | str y => obtain ⟨t, rfl⟩ := ru; exact PySem.P.repr_of_str (fin _ _) h4
  | lst _ _ => exact ref _ ru
  | tup _ _ => exact ref _ ru
  | dic _ _ _ => exact ref _ ru
end
/-! ### over data -/
mutual
/-- the datum is plain: nothing that may change but empty dicts, no object of a class -/
def okX (M : DHp) : D → Bool
  | .non => true
  | .bl _ => true
  | .int _ => true
  | .str _ => true
  | .scr _ => true
  | .tup ds => okXs M ds
  | .tpl ds => okXs M ds
  | .lst ds => okXs M ds
  | .dic _ ds => okXs M ds
  | .ref a => (match M a with
    | some (.dK [] _) => true
    | _ => false)
  | .ty _ => false
  | .obj _ _ _ => false
def okXs (M : DHp) : List D → Bool
  | [] => true
  | d :: ds => okX M d && okXs M ds
end
mutual
def pyX (M : DHp) : D → PyData
  | .non => .none
  | .bl b => .bool b
  | .int i => .int i
  | .str x => .str x
  | .scr ns => .list (ns.map PyData.int)
  | .tup ds => .tuple (pyXs M ds)
  | .tpl ds => .tuple (pyXs M ds)
  | .lst ds => .list (pyXs M ds)
  | .dic ks ds => .dict ((ks.map keyPy).zip (pyXs M ds))
  | .ref a => (match M a with
    | some (.dK [] _) => .dict []
    | _ => .none)
  | .ty _ => .none
  | .obj _ _ _ => .none
def pyXs (M : DHp) : List D → List PyData
  | [] => []
  | d :: ds => pyX M d :: pyXs M ds
end
def okXM (M : DHp) (x : D) : Bool := match x with
  | .ref a => (match M a with
    | some (.lst ds) => okXs M ds
    | some (.dK _ ds) => okXs M ds
    | _ => false)
  | x => okX M x
def pyXM (M : DHp) (x : D) : PyData := match x with
  | .ref a => (match M a with
    | some (.lst ds) => .list (pyXs M ds)
    | some (.dK ks ds) => .dict ((ks.map keyPy).zip (pyXs M ds))
    | _ => .none)
  | x => pyX M x
section
variable {K : PySem.W.Frag} {H : Hp} {M : DHp}
theorem dpx_ints : ∀ ns : List Int, DpXs K H (ns.map V.int) (ns.map PyData.int)
  | [] => .nil
  | n :: ns => .cons (.int n) (dpx_ints ns)
theorem dpx_nil (A : AbH K H M) {a : Addr} (c : okX M (.ref a) = true) : DpX K H (.ref a) (pyX M (.ref a)) := by
  cases q : M a with
  | none => simp only [okX, q] at c; cases c
  | some o =>
    cases o with
    | dK ks es =>
      cases ks with
      | nil =>
        obtain ⟨vs, e2, l, r⟩ := A a _ q
        cases es with
        | nil =>
          obtain rfl : vs = [] := r
          simp only [pyX, q]
          exact .dic (ks := []) e2 rfl .nil
        | cons d es => cases l
      | cons k ks => simp only [okX, q] at c; cases c
    | _ => simp only [okX, q] at c; cases c
mutual
theorem Has.dpx (A : AbH K H M) : ∀ {d : D} {v : V}, Has K H M d v → okX M d = true → DpX K H v (pyX M d)
  | .non, _, h, _ => by rw [show _ = V.non from h]; exact .non
  | .bl b, _, h, _ => by rw [show _ = V.bl b from h]; exact .bl b
  | .int i, _, h, _ => by rw [show _ = V.int i from h]; exact .int i
  | .str x, _, h, _ => by rw [show _ = V.str x from h]; exact .str x
  | .scr ns, _, h, _ => by
    obtain ⟨a, rfl, t⟩ := h
    exact .lst t.sq (dpx_ints ns)
  | .tup ds, _, h, c => by
    obtain ⟨a, vs, rfl, _, t, r⟩ := h
    exact .tup t.sq (HasL.dpx A r c)
  | .tpl ds, _, h, c => by
    obtain ⟨a, vs, rfl, _, t, r⟩ := h
    exact .tup (.inl (.inl t)) (HasL.dpx A r c)
  | .lst ds, _, h, c => by
    obtain ⟨a, vs, rfl, _, t, r⟩ := h
    exact .lst (SqL.of t) (HasL.dpx A r c)
  | .dic ks ds, _, h, c => by
    obtain ⟨a, vs, rfl, _, t, l, r⟩ := h
    exact .dic t (l.trans r.len.symm) (HasL.dpx A r c)
  | .ref a, _, h, c => by
    rw [show _ = V.ref a from h]
    exact dpx_nil A c
  | .ty _, _, _, c => by cases c
  | .obj _ _ _, _, _, c => by cases c
theorem HasL.dpx (A : AbH K H M) : ∀ {ds : List D} {vs : List V}, HasL K H M ds vs → okXs M ds = true → DpXs K H vs (pyXs M ds)
  | [], _, h, _ => by rw [show _ = ([] : List V) from h]; exact .nil
  | d :: ds, _, h, c => by
    obtain ⟨v, r, rfl, h1, h2⟩ := h
    obtain ⟨c1, c2⟩ := Bool.and_eq_true_iff.mp (show (okX M d && okXs M ds) = true from c)
    exact .cons (Has.dpx A h1 c1) (HasL.dpx A h2 c2)
end
theorem Has.dpxM (A : AbH K H M) {d : D} {v : V} (h : Has K H M d v) (c : okXM M d = true) : DpX K H v (pyXM M d) := by
  cases d with
  | ref a =>
    cases q : M a with
    | none => simp only [okXM, q] at c; cases c
    | some o =>
      cases o with
      | lst es =>
        simp only [okXM, pyXM, q] at c ⊢
        obtain ⟨vs, e2, r⟩ := A a _ q
        rw [show v = .ref a from h]
        exact .lst (SqL.of e2) (HasL.dpx A r c)
      | dK ks es =>
        simp only [okXM, pyXM, q] at c ⊢
        obtain ⟨vs, e2, l, r⟩ := A a _ q
        rw [show v = .ref a from h]
        exact .dic e2 (l.trans r.len.symm) (HasL.dpx A r c)
      | _ => simp only [okXM, q] at c; cases c
  | _ => exact Has.dpx A h c
end
def rReprXD : DR := rOne fun d M Q => (okXM M d = true ∧ (pyXM M d).showable = true ∧ (pyXM M d).depth ≤ 60 ∧ (pyXM M d).shown.length ≤ sizeLine) ∧ Q (.str (pyXM M d).shown) M
theorem ref_reprX {K : PySem.W.Frag} : RefL K (rReprX K) rReprXD := ref_one fun H M x d Q Q' A hx t P => by
  obtain ⟨⟨h1, h2, h3, h4⟩, t⟩ := t
  exact ⟨x, _, rfl, hx.dpxM A h1, h2, h3, h4, P.same A t rfl⟩
end Rh
/-! DL67: isinstance of an own exception that keeps something. -/
namespace Rh
open PySem PySem.Spec PySem.Calls PyProof.Rows L2
section
variable {prog : Program} {w : World} {A : Around} {E : Value → Shared → Prop} {s : Shared} {K : PySem.W.Frag} {x D : Addr} {ox : Obj} {od : Option Obj}
theorem isx_found {g a : Value} {n : Str} (kc : (PySem.W.clsIn K D).isSome = true) (k1 : PySem.W.findIn K (.ref D) n = some (some a)) (k2 : PySem.W.specialIn K a "__get__" = some (some g)) (k3 : PySem.W.takesIn K a = some true) : PySem.W.findObj K D od n = some (.bind g a) := by
  cases kq : PySem.W.clsIn K D with
  | none => rw [kq] at kc; cases kc
  | some c0 =>
    unfold PySem.W.findObj
    rw [kq, Option.bind_some, k1, Option.bind_some]
    simp [k2, k3]
theorem isx_class {Q : Option Value → Shared → Prop} (T : L2.ExcC K D) (kin : K.In s.heap) (J : PySem.W.InstAt s.heap x ox D od) (q : Q (some (.ref D)) { s with toks := s.toks + 1 }) :
    wpAny (model prog w) A (getAttr? (.ref x) "__class__") Q E s := by
  have sm : (PySem.W.clsIn K D).isSome = true := by
    obtain ⟨c0, h0, _⟩ := PySem.W.any_some T.hd
    rw [h0]; rfl
  have fnd := isx_found (od := od) sm T.ha T.hn T.ht
  obtain ⟨hp, gn, dr, tk, om⟩ := s
  have k0 := J.type (M := model prog w)
  have k1 := PySem.W.looks_findIn (M := model prog w) kin T.hg
  have k2 := PySem.W.looks_findIn (M := model prog w) kin T.hk
  have k3 := PySem.W.looks_find (M := model prog w) kin J fnd
  have isB : PySem.W.Looks (model prog w) hp (isInstance (.ref x) (.type "BaseException")) true := k0.andThen (PySem.W.looks_subIn kin T.hs)
  have n2 : (Value.builtin "BaseException.__getattribute__" == Value.builtin "object.__getattribute__") = false := by decide +kernel
  have n1 : (onTheHeap (Value.ref D) && Value.builtin "BaseException.__getattribute__" == Value.builtin "object.__getattribute__") = false := by rw [n2]; rfl
  unfold getAttr? getAttrBy? getAttrBy
  refine wpAny_bind (wpAny_mkText ?_)
  refine wpAny_bind (wpAny_attempt ?_)
  refine wpAny_holding (wpAny_bind (k0.at (wpAny_bind (k1.at ?_))))
  show wpAny _ _ (if (onTheHeap (Value.ref D) && Value.builtin "BaseException.__getattribute__" == Value.builtin "object.__getattribute__") = true then _ else _) _ _ _
  rw [n1, if_neg Bool.false_ne_true]
  unfold getAttrByItsOwn hookBefore
  refine wpAny_bind ?_
  rw [if_pos (show onTheHeap (Value.ref D) = true from rfl)]
  refine k2.at ?_
  refine wpAny_bind (wpAny_attempt ?_)
  refine wpAny_holding ?_
  unfold callGetattribute
  rw [show (false && onTheHeap (Value.builtin "BaseException.__getattribute__")) = false from rfl, if_neg Bool.false_ne_true]
  unfold boundAndCalled
  rw [PySem.F.excAttr_ValueError.ga.bind (.ref x)]
  refine wpAny_bind (wpAny_pure ?_)
  show wpAny _ _ (call (.builtin "BaseException.__getattribute__") [.ref x, .str "__class__" tk]) _ _ _
  refine wpAny_call (codeAny_call_builtin PySem.F.excAttr_ValueError.ga.plain PySem.F.entry_bexc_ga ?_)
  refine @PySem.W.check_slot (model prog w) _ _ ⟨hp, gn, dr, tk + 1, om⟩ "BaseException.__getattribute__" "BaseException" "__getattribute__" (.ref x) [.str "__class__" tk] [] _ (by decide +kernel) (by decide +kernel) isB (PySem.F.args_bexc_ga (.ref x) (.str "__class__" tk)) ?_
  unfold Builtin.«object.__getattribute__»
  refine wpAny_bind (wpAny_of_eq (a := ((Value.ref x : Value), [Value.str "__class__" tk])) (by first | rfl | (simp only [slotArgs]; rfl)) ?_)
  refine wpAny_bind (wpAny_pure (wpAny_bind ?_))
  refine k0.at (wpAny_bind (k3.at ?_))
  show wpAny _ _ (holding [Value.builtin "object.__class__"] (call (.builtin "getset_descriptor.__get__") [.builtin "object.__class__", .ref x, .ref D]) >>= ret) _ _ _
  refine wpAny_bind (wpAny_holding (wpAny_call ?_))
  refine PySem.W.class_get (s := ⟨hp, gn, dr, tk + 1, om⟩) (ox := ox) (od := od) kin J T.hm ?_
  refine wpAny_pure ?_
  show wpAny _ _ (handedOut (.ref D)) _ _ _
  rw [PySem.W.handedOut_of (v := .ref D) rfl]
  first
    | exact wpAny_pure (wpAny_pure q)
    | exact wpAny_pure q
    | exact wpAny_pure (wpAny_bind (wpAny_pure (wpAny_pure q)))
theorem isx_kit (T : L2.ExcC K D) : PySem.W.KitX K (.ref x) (.ref D) (fun h => PySem.W.InstAt h x ox D od) := by
  obtain ⟨c0, h0, _⟩ := PySem.W.any_some T.hd
  have dc : ∃ oc, K.lookup D = some oc ∧ ∃ c1, oc.data = .cls c1 := by
    unfold PySem.W.clsIn at h0
    split at h0
    · rename_i a b c d ho
      exact ⟨_, ho, _, rfl⟩
    · cases h0
  obtain ⟨oc, ho, c1, hd1⟩ := dc
  refine ⟨fun _ _ _ J => J.type, fun M h kin _ A' Q' E' s' k q => ?_, fun h tp dd its n sl kin htp => ?_, fun kin J q => isx_class T kin J q⟩
  · obtain ⟨oc1, oc2, oc3, oc4⟩ := oc
    dsimp only at hd1
    subst hd1
    unfold isType loadHead
    exact wpAny_bind (wpAny_loadPart (k _ _ (kin _ _ ho)) (wpAny_pure q))
  · refine Bool.eq_false_iff.mpr fun z => ?_
    obtain rfl : D = tp := Value.ref.inj (beq_iff_eq.mp z)
    have := (kin _ _ ho).symm.trans htp
    rw [Option.some.inj this] at hd1
    cases hd1
end
end Rh
/-! DL80: own exceptions made with a keyword. -/
namespace PySem
namespace HandSPX
open Builtin Builtin.ObjectAttr
section
variable {M : Model} {A : Around} {E : Value → Shared → Prop} {h : Heap} {g : Array GenState} {d : Drawn} {t : Nat} {os : OsState}
variable {nm q : Str} {C N : Addr} {bs bm bmB : List Value} {hdct : Bool} {sn : List Str} {sub : List Value} {ab : Bool} {col : Option Bool} {dd : Option Addr} {k0 k1 k2 k3 k5 : Option Value} {B newId initId : String}
theorem check_new_ownK (F : ExcBaseFacts B newId initId bmB) (hT : ∀ X : String, bm.contains (.type X) = bmB.contains (.type X)) {rest : List Value} {kw : List (Str × Value)} {Q : Unit → Shared → Prop}
    (hC : h.get? C = some (excClassObj nm q C N bs bm hdct sn sub ab col dd k0 k1 k2 k3 k5 newId)) (hq : Q () ⟨h, g, d, t, os⟩) : wpAny M A (checkBuiltinCall newId ⟨.ref C :: rest, kw⟩) Q E ⟨h, g, d, t, os⟩ := by
  have hcont : (Value.ref C :: bm).contains (.type B) = true := by rw [List.contains_cons, hT, F.hasB, Bool.or_true]
  have hstar := F.noStar
  simp only [checkBuiltinCall, F.newKind, F.newSplit, F.newRow]
  repeat (first | refine wpAny_loadPart_at hC ?_ | (refine wpAny_isSubtype_exc hC ?_; rw [hcont]) | refine wpAny_staticBase_exc hC ?_ | refine wpAny_madeBy_exc hC ?_ | simp only [bne_self_eq_false, Bool.false_eq_true, if_false] | wp_step)
  exact hq
theorem check_typeK {rest : List Value} {kw : List (Str × Value)} {Q : Unit → Shared → Prop} (hC : h.get? C = some (excClassObj nm q C N bs bm hdct sn sub ab col dd k0 k1 k2 k3 k5 newId))
    (hq : Q () ⟨h, g, d, t, os⟩) : wpAny M A (checkBuiltinCall "type.__call__" ⟨.ref C :: rest, kw⟩) Q E ⟨h, g, d, t, os⟩ := by
  have f3 := tc_sub
  have hT : (⟨h, g, d, t, os⟩ : Shared).TypeIs (.ref C) "type" := ⟨_, hC, rfl⟩
  simp only [checkBuiltinCall, tc_kind, tc_split]
  repeat (any_goals (first | assumption | with_reducible refine wpAny_loadPart_at hC ?_ | with_reducible refine wpAny_onRaise ?_ | with_reducible refine wpAny_map ?_ | wp_step))
end
section
variable {prog : Program} {w : World} {A : Around} {E : Value → Shared → Prop} {R : Result → Shared → Prop} {h : Heap} {g : Array GenState} {d : Drawn} {t : Nat} {os : OsState}
variable {nm q : Str} {C N : Addr} {bs bm bmB : List Value} {hdct : Bool} {sn : List Str} {sub : List Value} {ab : Bool} {col : Option Bool} {dd : Option Addr} {k0 k1 k2 k3 k5 : Option Value} {B newId initId : String}
theorem new_ownK (F : ExcBaseFacts B newId initId bmB) (hT : ∀ X : String, bm.contains (.type X) = bmB.contains (.type X)) {rest : List Value} {kw : List (Str × Value)}
    (hC : h.get? C = some (excClassObj nm q C N bs bm hdct sn sub ab col dd k0 k1 k2 k3 k5 newId))
    (hq : R (.ok (.ret (.ref (h.objs.size + 1)))) ⟨(h.push { cls := .type "tuple", data := .seq rest.toArray }).push
      { cls := .ref C, data := .fields #[.ref h.objs.size, .none, .none, .none, .bool false, .none] }, g, d, t, os⟩) (hrest : rest.length ≤ sizeLine) :
    codeAny (model prog w) A (.builtin newId ⟨.ref C :: rest, kw⟩) R ⟨h, g, d, t, os⟩ := by
  have hends := F.ends
  have hcB : (Value.ref C :: bm).contains (.type B) = true := by rw [List.contains_cons, hT, F.hasB, Bool.or_true]
  have hcA : (Value.ref C :: bm).contains (.type "AttributeError") = false := by rw [List.contains_cons, hT, F.noAttr]; rfl
  have hcN : (Value.ref C :: bm).contains (.type "NameError") = false := by rw [List.contains_cons, hT, F.noName]; rfl
  refine codeAny_builtinAt F.entry ?_
  unfold Builtin.«BaseException.__new__»
  refine wpAt_bind ?_
  show wpAt _ _ _ (stack >>= _) _ _ _
  refine wpAt_bind (wpAt_stack fun p below => wpAt_of_wpAny ?_)
  wp_walk
  refine wpAt_of_wpAny ?_
  rw [F.owner]
  repeat (first | with_reducible refine wpAny_madeHere_exc F.canon hC ?_ | with_reducible refine wpAny_loadPart_at hC ?_ | (with_reducible refine wpAny_isSubtype_exc hC ?_; first | rw [hcB] | rw [hcA] | rw [hcN]) | wp_step)
  show R _ _
  rw [Heap.size_push]
  exact hq
theorem type_call_ownK (F : ExcBaseFacts B newId initId bmB) (hT : ∀ X : String, bm.contains (.type X) = bmB.contains (.type X)) {rest : List Value} {kw : List (Str × Value)} {fI : Addr} {Q : Fin → Shared → Prop}
    (hC : h.get? C = some (excClassObj nm q C N bs bm hdct sn sub ab col dd k0 k1 k2 k3 k5 newId))
    (hi : W.Looks (model prog w) h (typeLookup (.ref C) "__init__") (some (.ref fI))) (hb : ∀ self, W.Looks (model prog w) h (bindSpecial (.ref fI) self) (.ref fI, [self])) (hrest : rest.length ≤ sizeLine)
    (hq : codeAny (model prog w) A (.call (.ref fI) ⟨.ref (h.objs.size + 1) :: rest, kw⟩)
      (fun r s' => match r with | .ok (.ret v) => v = .none ∧ Q (.done (.ret (.ref (h.objs.size + 1)))) s' | .ok _ => False | .error e => E e s')
      ⟨(h.push (W.kdv_tup rest)).push (excO C h.objs.size), g, d, t, os⟩) :
    wpAny (model prog w) A (Builtin.«type.__call__» ⟨.ref C :: rest, kw⟩) Q E ⟨h, g, d, t, os⟩ := by
  repeat (first | with_reducible refine wpAny_loadPart_at hC ?_ | with_reducible refine wpAny_madeBy_exc hC ?_ | wp_step)
  refine codeAny_call_builtin_code (Code.quiet_builtin _ F.quiet) (check_new_ownK F hT hC ?_)
  refine new_ownK F hT hC ?_ hrest
  show wpAny _ _ _ _ _ _
  have k : ∀ b o, h.get? b = some o → ((h.push (W.kdv_tup rest)).push (excO C h.objs.size)).get? b = some o := fun b o e => Heap.get?_push_of_some _ (Heap.get?_push_of_some _ e)
  have hC₁ := k _ _ hC
  have hget : ((h.push (W.kdv_tup rest)).push (excO C h.objs.size)).get? (h.objs.size + 1) = some (excO C h.objs.size) := by heap_get
  have hcC : (Value.ref C :: bm).contains (.ref C) = true := by simp
  have i1 := hi.keeps k
  have b1 := (hb (.ref (h.objs.size + 1))).keeps k
  unfold isInstance
  repeat (first | with_reducible refine wpAny_loadPart_at hget ?_ | (with_reducible refine wpAny_isSubtype_exc hC₁ ?_; rw [hcC]) | wp_step)
  show wpAny _ _ (typeLookup (.ref C) _) _ _ _
  refine i1.at ?_
  refine wpAny_holding (wpAny_bind (b1.at ?_))
  refine wpAny_bind (wpAny_call (codeAny_mono hq fun r s' z => ?_))
  rcases r with e | (v | _ | _ | _) <;> first | exact z | exact z.elim | skip
  obtain ⟨rfl, z⟩ := z
  first
    | exact wpAny_pure (wpAny_pure z)
    | (wp_walk; exact z)
theorem call_ownK (F : ExcBaseFacts B newId initId bmB) (hT : ∀ X : String, bm.contains (.type X) = bmB.contains (.type X)) {rest : List Value} {kw : List (Str × Value)} {fI : Addr}
    (hC : h.get? C = some (excClassObj nm q C N bs bm hdct sn sub ab col dd k0 k1 k2 k3 k5 newId))
    (hi : W.Looks (model prog w) h (typeLookup (.ref C) "__init__") (some (.ref fI))) (hb : ∀ self, W.Looks (model prog w) h (bindSpecial (.ref fI) self) (.ref fI, [self])) (hrest : rest.length ≤ sizeLine)
    (hq : codeAny (model prog w) (A.under (.builtin "type.__call__" ⟨.ref C :: rest, kw⟩)) (.call (.ref fI) ⟨.ref (h.objs.size + 1) :: rest, kw⟩) (W.InitBack (h.objs.size + 1) R)
      ⟨(h.push (W.kdv_tup rest)).push (excO C h.objs.size), g, d, t, os⟩) :
    codeAny (model prog w) A (.call (.ref C) ⟨rest, kw⟩) R ⟨h, g, d, t, os⟩ := by
  have f1 := tc_lookup
  have f2 := tc_bind (.ref C)
  have hTy : (⟨h, g, d, t, os⟩ : Shared).TypeIs (.ref C) "type" := ⟨_, hC, rfl⟩
  refine codeAny_of_tree ?_
  show wpAny _ _ (callAny (.ref C) _) _ _ _
  repeat (any_goals (first | assumption | with_reducible refine wpAny_loadPart_at hC ?_ | wp_step))
  refine ⟨rfl, ?_⟩
  refine codeAny_call_builtin_at (Code.quiet_builtin _ (by decide +kernel)) entry_typeCall (check_typeK hC (type_call_ownK F hT hC hi hb hrest ?_))
  refine codeAny_mono hq fun r s' z => ?_
  rcases r with e | (v | _ | _ | _) <;> exact z
end
end HandSPX
end PySem
/-! DL81: own exceptions as values: made by position and by name, asked for their class, their field read. -/
namespace Rh
open PySem PySem.Spec PyProof.Rows L2
open Builtin Builtin.ObjectAttr

/-- an own exception class that keeps its one argument, called with n values and the keywords ks -/
structure XcK (P : Program) (w : World) (K : PySem.W.Frag) (mg : Str → Option Value) (base : Heap) (C : Addr) (f : Str) (n : Nat) (ks : List Str) : Prop where
  g : XcG K C
  nf : PySem.W.takerIn K C f = some none
  made : ∃ (fI : Addr) (fd : FuncData), PySem.W.findIn K (.ref C) "__init__" = some (some (.ref fI)) ∧ PySem.W.typeIn K (.ref fI) = some (.type "function") ∧ FnOk P w K mg base (L2N.CX P w) 1 fI fd ["self", f] (spXi K f) ∧ KB K fd ["self", f] (n + 1) ks [0, 1] [] []
/-- the object of such an exception -/
abbrev exObj (C : Addr) (t1 : Addr) (d : Option Addr) : Obj := { cls := .ref C, dict := d, data := .fields #[.ref t1, .none, .none, .none, .bool false, .none] }
def dMkX (C : Addr) (f : Str) (ts tks : List DTE) : DTE := fun τ M Q => dBoth ts tks τ M fun ds es M1 => ∃ d, ds ++ es = [d] ∧ ∀ a, M1 a = none → Q (.ref a) (up M1 a (.exc C [f] [d]))
def dMkX0 (C : Addr) : DTE := fun τ M Q => ∀ a, M a = none → Q (.ref a) (up M a (.exc C [] []))
/-- the exception and its dict stand from now on -/
theorem mk_endF {X : Cx} {pins : List (Addr × Obj)} {σ : L2.St} {H1 : Hp} {hp hp2 h2 : Heap} {g1 g2 : Array GenState} {d1 d2 : PySem.Drawn} {t1 t2 : Nat} {os1 os2 : OsState} {a C d : Addr} {fs : List (Str × V)} (I1 : Inv X pins σ H1 ⟨hp, g1, d1, t1, os1⟩)
    (ha : hp.objs.size ≤ a) (k : ∀ b o, hp.get? b = some o → hp2.get? b = some o) (hd1 : H1 d = none) (hda : d ≠ a) (un : Un (frs X.stack) [] (upd H1 a (exo a C none)) (upd (upd (upd H1 a (exo a C none)) d (exd d fs)) a (exo a C (some d))) hp2 h2)
    (hok : HOk X.prog X.w (upd (upd (upd H1 a (exo a C none)) d (exd d fs)) a (exo a C (some d))) h2) (ho : os2 = os1) (hb : AllBare g2) :
    ∃ t0 : Addr, Inv X pins σ (upd (upd H1 d (.xd fs)) a (.frz (exObj C t0 (some d)) anyO)) ⟨h2, g2, d2, t2, os2⟩ := by
  have hn : H1 a = none := I1.hok.fresh ha
  generalize eH : (upd (upd (upd H1 a (exo a C none)) d (exd d fs)) a (exo a C (some d))) = H2 at un hok
  have ea : H2 a = some (exo a C (some d)) := by rw [← eH]; exact upd_same
  have ed : H2 d = some (exd d fs) := by rw [← eH]; exact (upd_ne hda).trans upd_same
  have eo : ∀ b, b ≠ a → b ≠ d → H2 b = H1 b := fun b h1 h2 => by rw [← eH, upd_ne h1, upd_ne h2, upd_ne h1]
  obtain ⟨t0, hoe⟩ := exo_at hok ea
  obtain ⟨mA, hns, rel⟩ := exd_at hok ed
  have nha : ∀ {b : Addr} {o : Obj}, hp.get? b = some o → b ≠ a := fun {b o} z => Nat.ne_of_lt (Nat.lt_of_lt_of_le (Heap.lt_size z) ha)
  have up : ∀ {b : Addr}, b ≠ a → H1 b = none → upd H1 a (exo a C none) b = none := fun {b} hb n => by rw [upd_ne hb]; exact n
  have nd : ∀ {b : Addr} {o : Obj}, hp.get? b = some o → H1 b = none → b ≠ d := fun {b o} z n e => by
    have y := un.free b o (k b o z) (up (nha z) n) (by simp)
    rw [e, ed] at y
    cases y
  have at2 : ∀ {b : Addr}, b ≠ a → b ≠ d → (upd (upd H1 d (.xd fs)) a (.frz (exObj C t0 (some d)) anyO)) b = H1 b := fun h1 h2 => by rw [upd_ne h1, upd_ne h2]
  have U : Un (frs X.stack) [] H1 (upd (upd H1 d (.xd fs)) a (.frz (exObj C t0 (some d)) anyO)) hp h2 := {
    keep := fun b o z n hf hx => un.keep b o (k b o z) (up (nha z) n) hf hx
    slot := fun b o z n hf hx => un.slot b o (k b o z) (up (nha z) n) hf hx
    free := fun b o z n hx => (at2 (nha z) (nd z n)).trans n
    there := fun b o z hx => un.there b o (k b o z) hx
    tups := fun b xs z => (at2 (ne_of_none z hn) (ne_of_none z hd1)).trans z
    frzs := fun b o v z => (at2 (ne_of_none z hn) (ne_of_none z hd1)).trans z
    tbls := fun b ps z => ⟨#[], by rw [at2 (ne_of_none z hn) (ne_of_none z hd1), z, Array.append_empty]⟩ }
  refine ⟨t0, I1.call' (ch := []) ho U (fun b o z => ?_) hb (fun b z => absurd z (by simp))⟩
  by_cases hba : b = a
  · subst hba
    rw [upd_same] at z
    cases z
    exact ⟨hoe, trivial, ⟨_, hoe⟩, fun _ _ _ _ => trivial⟩
  by_cases hbd : b = d
  · subst hbd
    rw [upd_ne hba, upd_same] at z
    cases z
    exact ⟨mA, hns, rel⟩
  rw [at2 hba hbd] at z
  refine (hok b o ((eo b hba hbd).trans z)).stay (fun _ _ _ y => y) (fun c hc => ?_) fun c xs hc => ?_
  · have c1 : c ≠ a := at_ne ea hc exo_own
    have c2 : c ≠ d := at_ne ed hc exd_own
    rw [at2 c1 c2, ← eo c c1 c2]; exact hc
  · have c1 : c ≠ a := at_ne ea hc exo_tup
    have c2 : c ≠ d := at_ne ed hc exd_tup
    rw [at2 c1 c2, ← eo c c1 c2]; exact hc
section
variable {X : Cx} {O : Org} {x f : Str} {C : Addr} {n : Nat} {ks : List Str} {p pos : Pos}
theorem de_mkX {es' : List Expr} {kws : List Keyword} {ts tks : List DTE} (T : XcK X.prog X.w X.K X.mg X.base C f n ks) (hr : Room 2 X.A) (hg : Gl X x) (hm : X.mg x = some (.ref C)) (ha : DAK X O pos es' kws ks ts tks)
    (hn : ts.length = n := by rfl) (hn2 : tks.length = ks.length := by rfl) (hdb : (x == ("__debug__" : Str)) = false := by decide) : DE X O (.Call (.Name x p) es' kws pos) (dMkX C f ts tks) := ⟨fun pins s σ H Q I h => by
  obtain ⟨τ, M, Q', b, t, P⟩ := h
  obtain ⟨G, nf, fI, fd, iC, tI, F1, hb⟩ := T
  obtain ⟨B, newId, initId, bmB, FB, SF, ei, ov⟩ := G.base
  refine wpAny_Call_Name_kw (ld_glob I hg hm ?_ hdb)
  refine PySem.W.callWith_of (P := X.K.In) ha.plain (PySem.W.keeps_K G.kp) (both_run ha I b t fun ds es M1 vs zs us ws H1 s1 q l1 l2 f1 a1 h1 h2 I1 rv rz => ⟨I1.kIn, ?_⟩)
  obtain ⟨d, ede, q⟩ := q
  obtain ⟨v, evz, hv⟩ : ∃ v, vs ++ zs = [v] ∧ Has X.K H1 M1 d v := by
    have hh := h1.app h2
    rw [ede] at hh
    obtain ⟨v, r, e, hv, hr⟩ := hh
    rw [show r = [] from hr] at e
    exact ⟨v, e, hv⟩
  obtain ⟨nm, N', qn, bs, bm, hdct, sn, sub, ab, col, dd, k0, k1, k2, k3, k5, hC, hT⟩ := PySem.W.excInit_of I1.kIn ei
  obtain ⟨hp, g, dr, tk, os⟩ := s1
  have hsz : hp.objs.size ≤ hp.objs.size + 1 := Nat.le_succ _
  have hN : H1 (hp.objs.size + 1) = none := I1.hok.fresh hsz
  have kk : ∀ b o, hp.get? b = some o → ((hp.push (PySem.W.kdv_tup us)).push (PySem.HandSPX.excO C hp.objs.size)).get? b = some o := fun b o z => Heap.get?_push_of_some _ (Heap.get?_push_of_some _ z)
  have hget : ((hp.push (PySem.W.kdv_tup us)).push (PySem.HandSPX.excO C hp.objs.size)).get? (hp.objs.size + 1) = some (PySem.HandSPX.excO C hp.objs.size) := by heap_get
  have I2 : Inv X pins σ (upd H1 (hp.objs.size + 1) (exo (hp.objs.size + 1) C none)) ⟨(hp.push (PySem.W.kdv_tup us)).push (PySem.HandSPX.excO C hp.objs.size), g, dr, tk, os⟩ := I1.laid kk hsz (exo_ok hget)
  have lus : us.length = n := rv.length.symm.trans (h1.len.trans (l1.trans hn))
  have lws : ws.length = ks.length := rz.length.symm.trans (h2.len.trans (l2.trans hn2))
  have lvz : vs.length + zs.length = 1 := by rw [← List.length_append, evz]; rfl
  have hus : us.length ≤ sizeLine := by
    have := rv.length
    rw [sizeLine_eq]
    omega
  have bd := hb.to ⟨(hp.push (PySem.W.kdv_tup us)).push (PySem.HandSPX.excO C hp.objs.size), g, dr, tk, os⟩ (Value.ref (hp.objs.size + 1) :: us) ws I2.kIn (by rw [List.length_cons, lus]) lws
  have rS : Vals (V.ref (hp.objs.size + 1) :: vs) (Value.ref (hp.objs.size + 1) :: us) := Paired.cons rfl rv
  have r2 := hb.rel rS rz
  have e2 : pickL [0, 1] ((V.ref (hp.objs.size + 1) :: vs) ++ zs ++ []) = [V.ref (hp.objs.size + 1), v] := by
    rw [List.append_nil, List.cons_append, evz]; rfl
  have r3 := e2 ▸ r2
  have hq : spXi X.K f [.ref (hp.objs.size + 1), v] (upd H1 (hp.objs.size + 1) (exo (hp.objs.size + 1) C none)) (fun u H2 => u = .non ∧ ∃ b, H1 b = none ∧ b ≠ hp.objs.size + 1 ∧ H2 = upd (upd (upd H1 (hp.objs.size + 1) (exo (hp.objs.size + 1) C none)) b (exd b [(f, v)])) (hp.objs.size + 1) (exo (hp.objs.size + 1) C (some b))) (fun _ _ _ => False) := by
    refine ⟨_, C, v, rfl, G, nf, upd_same, fun b nb ne => ⟨rfl, b, ?_, ne, rfl⟩⟩
    rw [upd_ne ne] at nb
    exact nb
  refine wpAny_call (PySem.HandSPX.call_ownK FB hT hC (PySem.W.looks_findIn I1.kIn iC) (fun self => PySem.W.bind_fn I1.kIn self tI) hus
    (codeAny_mono (F1.run _ X.stack _ _ ⟨Value.ref (hp.objs.size + 1) :: us, ks.zip ws⟩ _ _ _ (fun _ _ _ => False) (hr.make C us (ks.zip ws)) (I2.env0.make C us (ks.zip ws)) bd r3 hq) fun r s' hq' => ?_))
  cases r with
  | error er => exact passN (X := X) pins σ _ _ er s' I2 hq'
  | ok fl =>
    cases fl with
    | ret u =>
      obtain ⟨v', H2, os2, bare2, un2, hok2, rv', ev, b', nb, ne, eH⟩ := hq'
      subst ev
      subst eH
      obtain ⟨h2', g2, d2, t2, os'⟩ := s'
      obtain ⟨t0, J⟩ := mk_endF (d2 := d2) (t2 := t2) I1 hsz kk nb ne un2 hok2 os2 bare2
      refine ⟨rv', V.ref (hp.objs.size + 1), _, J, rfl, ?_⟩
      have nx : (upd H1 b' (.xd [(f, v)])) (hp.objs.size + 1) = none := (upd_ne (Ne.symm ne)).trans hN
      have aM : M1 (hp.objs.size + 1) = none := a1.fresh hN
      have bM : M1 b' = none := a1.fresh nb
      have f2 : Fr H1 M1 (upd (upd H1 b' (.xd [(f, v)])) (hp.objs.size + 1) (.frz (exObj C t0 (some b')) anyO)) (up M1 (hp.objs.size + 1) (.exc C [f] [d])) := (Fr.new nb).trans (Fr.newT nx)
      refine P _ _ (.ref (hp.objs.size + 1)) _ (q (hp.objs.size + 1) aM) (f1.trans f2) ((a1.new nb).newT nx ⟨_, some b', upd_same, ⟨rfl, rfl⟩, ⟨_, rfl⟩, [v], (upd_ne ne).trans upd_same, (up_ne ne).trans bM, rfl, HasL.one (hv.fr f2)⟩) rfl
    | next => exact False.elim hq'
    | brk => exact False.elim hq'
    | cont => exact False.elim hq'⟩
theorem de_mkX0 (T : XnP X.K C) (hg : Gl X x) (hm : X.mg x = some (.ref C)) (hdb : (x == ("__debug__" : Str)) = false := by decide) : DE X O (.Call (.Name x p) [] [] pos) (dMkX0 C) := ⟨fun pins s σ H Q I h => by
  obtain ⟨τ, M, Q', b, t, P⟩ := h
  obtain ⟨⟨B, newId, initId, bmB, FB, ei⟩, kp, ex, ty⟩ := T
  refine wpAny_Call_Name_kw (ld_glob I hg hm ?_ hdb)
  refine PySem.W.callWith_K0 I.kIn kp ?_
  show wpAny _ _ (call (.ref C) []) _ _ _
  obtain ⟨bm, N', nm, qn, bs, hdct, sn, sub, ab, col, dd, k0, k1, k2, k3, k5, mN, hC, hN, hni, ot⟩ := exc_obj I.kIn ei
  refine wpAny_call_exc_subT FB ot hC hN hni (fun h' e hm => ?_) (Nat.zero_le _)
  obtain ⟨t0, he, _, _⟩ := hm.there
  have hn : H e = none := I.hok.gone hm.new
  have J := Inv.laidN (t' := s.toks) (o := .frz (exObj C t0 none) anyO) I hm.keeps hm.new hn ⟨he, trivial, ⟨_, he⟩, fun _ _ _ _ => trivial⟩
  exact ⟨V.ref e, _, J, rfl, P _ _ (.ref e) _ (t e (b.h.fresh hn)) (Fr.newT hn) (b.h.newT hn ⟨_, none, upd_same, ⟨rfl, rfl⟩, ⟨_, rfl⟩, rfl, rfl⟩) rfl⟩⟩
end
/-! ### its class, its field -/
theorem exc_inst {K : PySem.W.Frag} {P : Program} {w : World} {H : Hp} {h : Heap} {M : DHp} {a C : Addr} {ns : List Str} {ds : List D} (A : AbH K H M) (hok : HOk P w H h) (e : M a = some (.exc C ns ds)) :
    ∃ (oe : Obj) (od : Option Obj), PySem.W.InstAt h a oe C od ∧ (∀ (f : Str) (d : D), ns = [f] → ds = [d] → ∃ (oo : Obj) (u : Value) (v : V), od = some oo ∧ PySem.W.lookIn f oo = some (some u) ∧ RelV v u ∧ Has K H M d v) := by
  obtain ⟨oe, dd, ea, ⟨h1, h2⟩, ⟨vs, hv⟩, xd⟩ := A _ _ e
  have ho : h.get? a = some oe := (hok _ _ ea).1
  obtain ⟨o1, o2, o3, o4⟩ := oe
  dsimp only at h1 h2 hv
  subst h1 h2 hv
  cases o2 with
  | none =>
    refine ⟨_, none, ⟨ho, rfl, rfl, trivial⟩, fun f d e1 _ => ?_⟩
    obtain ⟨z, _⟩ := xd
    rw [z] at e1; cases e1
  | some dx =>
    obtain ⟨us, ex, nx, l, hd⟩ := xd
    obtain ⟨mA, nm, rel⟩ := hok _ _ ex
    obtain ⟨od, eo, hl⟩ := lookIn_ns nm
    refine ⟨_, some od, ⟨ho, rfl, rfl, eo⟩, fun f d e1 e2 => ?_⟩
    subst e1 e2
    obtain ⟨v, r, eu, hv, hr⟩ := hd
    rw [show r = [] from hr] at eu
    subst eu
    have := rel f
    rw [show ([f].zip [v] : List (Str × V)).lookup f = some v from by simp [List.lookup]] at this
    obtain ⟨u, hu, ru⟩ := RelO.some_of (v := v) (o := mA f) this
    exact ⟨od, u, v, rfl, by rw [hl, hu], ru, hv⟩
/-- isinstance(e, c): e an exception of one of the classes Cs, bs the answers -/
def dIsE (Cs : List Addr) (bs : List Bool) (te : DTE) : DTE := fun τ M Q => te τ M fun d M1 => ∃ (a C : Addr) (ns : List Str) (ds : List D) (j : Nat) (b : Bool), d = .ref a ∧ M1 a = some (.exc C ns ds) ∧ Cs[j]? = some C ∧ bs[j]? = some b ∧ Q (.bl b) M1
def rIsEV (K : PySem.W.Frag) (cv : Value) : List V → Hp → VK → Prop := fun xs H Q => ∃ (a C : Addr) (ns : List Str) (ds : List D) (M : DHp) (c : V) (b : Bool), xs = [.ref a, c] ∧ (∀ u, RelV c u → u = cv) ∧ AbH K H M ∧ M a = some (.exc C ns ds) ∧ L2.ExcC K C ∧ PySem.W.kitOne K (.ref C) cv = some b ∧ Q (.bl b) H
theorem call_isEV {X : Cx} {cv : Value} : CallR X (.builtin "isinstance") (rIsEV X.K cv) := by
  intro pins s σ H xs us Q I r h
  obtain ⟨a, C, ns, ds, M, c, b, rfl, hcv, A, ea, T, e, q⟩ := h
  cases r with
  | cons rx rr =>
    cases rr with
    | cons rt rr =>
      cases rr
      cases rx
      obtain rfl := hcv _ rt
      obtain ⟨oe, od, J, _⟩ := exc_inst A I.hok ea
      exact PySem.W.kia_one (isx_kit T) I.kIn J e (fun z => nomatch z) fun tk => ⟨.bl b, H, I.kept (t' := tk) fun _ _ z => z, rfl, q⟩
section
variable {X : Cx} {O : Org} {y f : Str} {C0 : Addr} {e : Expr} {te : DTE} {p p2 pos : Pos} {Cs : List Addr} {bs : List Bool}
theorem de_isE (hg : Gl X "isinstance") (hm : X.mg "isinstance" = none) (hg2 : Gl X y) (hm2 : X.mg y = some (.ref C0)) (oc : ∀ (j : Nat) (C : Addr) (b : Bool), Cs[j]? = some C → bs[j]? = some b → L2.ExcC X.K C ∧ PySem.W.kitOne X.K (.ref C) (.ref C0) = some b) (he : DE X O e te)
    (hs : starEach [e, .Name y p2] X.env = (false, eval e X.env) :: starEach [.Name y p2] X.env := by rfl) (hd2 : (y == ("__debug__" : Str)) = false := by decide) : DE X O (.Call (.Name "isinstance" p) [e, .Name y p2] [] pos) (dIsE Cs bs te) :=
  PE.wk (pe_callB (call_isEV (cv := .ref C0)) hg hm bt_isinstance (das_cons (O := O) he (das_cons (O := O) (de_c (d := .ref C0) (pe_glob (v := .ref C0) hg2 hm2 rfl hd2) rfl) das_nil) hs) (he := hs)) fun σ H Q ⟨τ, M, Q', b0, t, P⟩ => by
  refine ⟨τ, M, _, b0, t, fun x M1 v H1 q f a1 hx => ?_⟩
  obtain ⟨a, C, ns, ds, j, b, rfl, ea, e1, e2, q⟩ := q
  refine ⟨τ, M1, _, b0.step f a1, (show dC (.ref C0) τ M1 (fun c M2 => c = .ref C0 ∧ M2 = M1) from ⟨rfl, rfl⟩), fun c M2 w H2 q2 f2 a2 hc => ?_⟩
  obtain ⟨rfl, rfl⟩ := q2
  obtain rfl : v = .ref a := hx
  obtain rfl : w = .ref C0 := hc
  exact ⟨a, C, ns, ds, _, .ref C0, b, rfl, fun u hu => hu, a2, ea, (oc j C b e1 e2).1, (oc j C b e1 e2).2, P _ M2 _ H2 q (f.trans f2) a2 rfl⟩
theorem de_isT {T : String} (hg : Gl X "isinstance") (hm : X.mg "isinstance" = none) (hg2 : Gl X y) (hm2 : X.mg y = none) (hv2 : bootBuiltins y = some (.type T)) (oc : ∀ (j : Nat) (C : Addr) (b : Bool), Cs[j]? = some C → bs[j]? = some b → L2.ExcC X.K C ∧ PySem.W.kitOne X.K (.ref C) (.type T) = some b) (he : DE X O e te)
    (hs : starEach [e, .Name y p2] X.env = (false, eval e X.env) :: starEach [.Name y p2] X.env := by rfl) (hn2 : y ≠ "__name__" := by decide) (hd2 : (y == ("__debug__" : Str)) = false := by decide) : DE X O (.Call (.Name "isinstance" p) [e, .Name y p2] [] pos) (dIsE Cs bs te) :=
  PE.wk (pe_callB (call_isEV (cv := .type T)) hg hm bt_isinstance (das_cons (O := O) he (das_cons (O := O) (de_c (d := .ty T) (pe_bltn (v := .ty T) hg2 hm2 hv2 rfl hn2 hd2) rfl) das_nil) hs) (he := hs)) fun σ H Q ⟨τ, M, Q', b0, t, P⟩ => by
  refine ⟨τ, M, _, b0, t, fun x M1 v H1 q f a1 hx => ?_⟩
  obtain ⟨a, C, ns, ds, j, b, rfl, ea, e1, e2, q⟩ := q
  refine ⟨τ, M1, _, b0.step f a1, (show dC (.ty T) τ M1 (fun c M2 => c = .ty T ∧ M2 = M1) from ⟨rfl, rfl⟩), fun c M2 w H2 q2 f2 a2 hc => ?_⟩
  obtain ⟨rfl, rfl⟩ := q2
  obtain rfl : v = .ref a := hx
  obtain rfl : w = .ty T := hc
  exact ⟨a, C, ns, ds, _, .ty T, b, rfl, fun u hu => hu, a2, ea, (oc j C b e1 e2).1, (oc j C b e1 e2).2, P _ M2 _ H2 q (f.trans f2) a2 rfl⟩
/-- e.f of such an exception -/
def dXfv (f : Str) (Cs : List Addr) (te : DTE) : DTE := fun τ M Q => te τ M fun d M1 => ∃ a C x, d = .ref a ∧ M1 a = some (.exc C [f] [x]) ∧ C ∈ Cs ∧ Q x M1
theorem de_xfv (T : ∀ C ∈ Cs, XfC X.K C ∧ PySem.W.findIn X.K (.ref C) f = some none) (he : DE X O e te) (hb : attributeBase e f X.env (eval e X.env) = eval e X.env := by rfl) : DE X O (.Attribute e f pos) (dXfv f Cs te) := ⟨fun pins s σ H Q I h => by
  obtain ⟨τ, M, Q', b, t, P⟩ := h
  refine attr_of hb (thn (he.run pins s σ H (fun v H1 => ∃ a C x M1, v = .ref a ∧ M1 a = some (.exc C [f] [x]) ∧ C ∈ Cs ∧ Q' x M1 ∧ Fr H M H1 M1 ∧ AbH X.K H1 M1) I ⟨τ, M, _, b, t, fun d M1 v H1 q f1 a1 hx => ?_⟩) fun u s1 ⟨v, H1, I1, rv, a, C, x, M1, ev, ea, hC, q, f1, a1⟩ => ?_)
  · obtain ⟨a, C, x, rfl, ea, hC, q⟩ := q
    exact ⟨a, C, x, M1, hx, ea, hC, q, f1, a1⟩
  · subst ev
    obtain rfl : u = Value.ref a := rv
    obtain ⟨oe, od, J, hh⟩ := exc_inst a1 I1.hok ea
    obtain ⟨oo, u, y, rfl, hl, ru, hy⟩ := hh f x rfl rfl
    obtain ⟨T1, hno⟩ := T C hC
    exact HandSPX.exc_get I1.kIn J T1.ga T1.gg T1.exC (PySem.W.findObj_own T1.hdC hno rfl hl) (handed_of ru) ⟨y, H1, I1.tok _, ru, P _ M1 _ H1 q f1 a1 hy⟩⟩
end
end Rh
/-! DL82: facts for exceptions as values. -/
namespace Rh
open PySem PySem.Spec PyProof.Rows L2

/-- the errors, in the order in which a law lists them -/
def exN : List Str := ["InvalidText", "InvalidNumber", "InvalidName", "InvalidWish", "InvalidIndex", "NotHeaps", "InvalidKinds", "InvalidTable", "InvalidRow", "InvalidHighs", "InvalidDepths", "UnknownName", "NoPlan", "TooFew", "NothingToUndo", "Broken"]
def exC (c : CT) : List Addr := [c.InvalidText, c.InvalidNumber, c.InvalidName, c.InvalidWish, c.InvalidIndex, c.NotHeaps, c.InvalidKinds, c.InvalidTable, c.InvalidRow, c.InvalidHighs, c.InvalidDepths, c.UnknownName, c.NoPlan, c.TooFew, c.NothingToUndo, c.Broken]
def bEcV (C : Str) : FB := fun K => let D := He.ga K C
  He.eqO (PySem.W.findIn K (.ref D) "__getattribute__") (some (some (.builtin "BaseException.__getattribute__"))) && (decide (PySem.W.findIn K (.ref D) "__getattr__" = some none) && (decide (PySem.W.subIn K (.ref D) (.type "BaseException") = some true) && (PySem.W.hasDictIn K D &&
  (He.eqO (PySem.W.findIn K (.ref D) "__class__") (some (some (.builtin "object.__class__"))) && (He.eqO (PySem.W.specialIn K (.builtin "object.__class__") "__get__") (some (some (.builtin "getset_descriptor.__get__"))) && (decide (PySem.W.takesIn K (.builtin "object.__class__") = some true) && decide (PySem.W.mroIn K D (.type "object") = some true)))))))
def bExV : FB := fun K => exN.all fun C => bEcV C K
def bKitV (t : PySem.W.Frag → Value) (bs : List Bool) : FB := fun K => (exN.zip bs).all fun p => decide (PySem.W.kitOne K (.ref (He.ga K p.1)) (t K) = some p.2)
def bXfV (Cs : List Str) (f : Str) : FB := fun K => Cs.all fun C => bXf C f K
section
variable {P : Program} {w : World} {K : PySem.W.Frag} {mg : Str → Option Value} {base : Heap} {C f : Str} {n : Nat} {ks : List Str}
theorem bEcV_ok (h : bEcV C K = true) : L2.ExcC K (He.ga K C) := by
  obtain ⟨h1, h⟩ := He.ba h
  obtain ⟨h2, h⟩ := He.ba h
  obtain ⟨h3, h⟩ := He.ba h
  obtain ⟨h4, h⟩ := He.ba h
  obtain ⟨h5, h⟩ := He.ba h
  obtain ⟨h6, h⟩ := He.ba h
  obtain ⟨h7, h8⟩ := He.ba h
  exact ⟨He.eqO_ok h1, of_decide_eq_true h2, of_decide_eq_true h3, h4, He.eqO_ok h5, He.eqO_ok h6, of_decide_eq_true h7, of_decide_eq_true h8⟩
theorem bIe_ok {t : PySem.W.Frag → Value} {bs : List Bool} (hx : bExV K = true) (h : bKitV t bs K = true) : ∀ (j : Nat) (D : Addr) (b : Bool), (exN.map fun C => He.ga K C)[j]? = some D → bs[j]? = some b → L2.ExcC K D ∧ PySem.W.kitOne K (.ref D) (t K) = some b := fun j D b h1 h2 => by
  rw [List.getElem?_map] at h1
  cases e : exN[j]? with
  | none => rw [e] at h1; cases h1
  | some N =>
    rw [e] at h1
    cases h1
    refine ⟨bEcV_ok (List.all_eq_true.mp hx N (List.mem_of_getElem? e)), ?_⟩
    have m : (N, b) ∈ exN.zip bs := List.mem_of_getElem? (i := j) (by rw [List.getElem?_zip_eq_some]; exact ⟨e, h2⟩)
    exact of_decide_eq_true (List.all_eq_true.mp h _ m)
theorem bXfV_ok {Cs : List Str} (h : bXfV Cs f K = true) : ∀ D ∈ Cs.map fun C => He.ga K C, XfC K D ∧ PySem.W.findIn K (.ref D) f = some none := fun D hD => by
  obtain ⟨C, hC, rfl⟩ := List.mem_map.mp hD
  exact bXf_ok (List.all_eq_true.mp h C hC)
theorem bXcK_ok {fd : FuncData} (h : bXc C f K = true) (F1 : FnOk P w K mg base (L2N.CX P w) 1 (He.ma K (He.ga K C) "__init__") fd ["self", f] (spXi K f)) (kb : KB K fd ["self", f] (n + 1) ks [0, 1] [] []) : XcK P w K mg base (He.ga K C) f n ks := by
  obtain ⟨h1, h⟩ := He.ba h
  obtain ⟨h2, h⟩ := He.ba h
  obtain ⟨h3, h⟩ := He.ba h
  obtain ⟨h4, h⟩ := He.ba h
  obtain ⟨h5, h⟩ := He.ba h
  obtain ⟨h6, h7⟩ := He.ba h
  obtain ⟨r1, r2, r3⟩ := bRs_ok h2
  exact ⟨⟨bBase_ok h1, He.eqO_ok h3, h4, r2, r3, r1⟩, noTk_ok h5, _, fd, He.eqO_ok h6, of_decide_eq_true h7, F1, kb⟩
end
theorem bt_ValueErrorV : bootBuiltins "ValueError" = some (.type "ValueError") := by decide +kernel
theorem bt_LookupErrorV : bootBuiltins "LookupError" = some (.type "LookupError") := by decide +kernel
theorem bt_ArithmeticErrorV : bootBuiltins "ArithmeticError" = some (.type "ArithmeticError") := by decide +kernel
end Rh
/-! P84: lists of exceptions as values: made, asked. -/
namespace Rh
open PySem PySem.Spec PyProof.Rows L2

/-- all but a goes on being told -/
def Kp (a : Addr) (M M' : DHp) : Prop := ∀ b o, b ≠ a → M b = some o → M' b = some o
theorem Kp.refl (a : Addr) (M : DHp) : Kp a M M := fun _ _ _ h => h
theorem Kp.trans {a : Addr} {M1 M2 M3 : DHp} (h : Kp a M1 M2) (h' : Kp a M2 M3) : Kp a M1 M3 := fun b o n e => h' b o n (h b o n e)
theorem Kp.put {a : Addr} {M : DHp} {o : DO} : Kp a M (up M a o) := fun b u n e => by rw [up_ne n]; exact e
theorem Kp.more {a : Addr} {M M1 M2 : DHp} (h : Kp a M M1) (s : Sub M1 M2) : Kp a M M2 := fun b o n e => s b o (h b o n e)
theorem Kp.sub {a : Addr} {M M' : DHp} {o : DO} (h : Kp a M M') (e : M' a = some o) : Sub (up M a o) M' := fun b u q => by
  by_cases z : b = a
  · subst z
    rw [up_same] at q
    cases q
    exact e
  · rw [up_ne z] at q
    exact h b u z q
/-- the values stand for told things -/
inductive RefsAt (M : DHp) : List D → List DO → Prop
  | nil : RefsAt M [] []
  | cons {a : Addr} {o : DO} {es : List D} {os : List DO} (h : M a = some o) (t : RefsAt M es os) : RefsAt M (.ref a :: es) (o :: os)
section
variable {M M1 : DHp} {es fs : List D} {os us : List DO}
theorem RefsAt.sub (s : Sub M M1) (h : RefsAt M es os) : RefsAt M1 es os := by
  induction h with
  | nil => exact .nil
  | cons h _ ih => exact .cons (s _ _ h) ih
theorem RefsAt.app (h : RefsAt M es os) (g : RefsAt M fs us) : RefsAt M (es ++ fs) (os ++ us) := by
  induction h with
  | nil => exact g
  | cons h _ ih => exact .cons h ih
theorem RefsAt.len (h : RefsAt M es os) : es.length = os.length := by
  induction h with
  | nil => rfl
  | cons h _ ih => rw [List.length_cons, List.length_cons, ih]
theorem RefsAt.get (h : RefsAt M es os) : ∀ {j : Nat} {o : DO}, os[j]? = some o → ∃ a, es[j]? = some (.ref a) ∧ M a = some o := by
  induction h with
  | nil => intro j o e; simp at e
  | @cons a o es os h _ ih =>
    intro j o' e
    cases j with
    | zero =>
      rw [List.getElem?_cons_zero] at e ⊢
      cases e
      exact ⟨_, rfl, h⟩
    | succ j =>
      rw [List.getElem?_cons_succ] at e ⊢
      exact ih e
end
/-- te makes a new thing, told as o -/
def Makes (τ : DSt) (te : DTE) (o : DO) : Prop := ∀ (M : DHp) (Q : DVK), (∀ a M1, Sub M M1 → M1 a = some o → Q (.ref a) M1) → te τ M Q
inductive MakesL (τ : DSt) : List DTE → List DO → Prop
  | nil : MakesL τ [] []
  | cons {te : DTE} {o : DO} {tes : List DTE} {os : List DO} (h : Makes τ te o) (t : MakesL τ tes os) : MakesL τ (te :: tes) (o :: os)
section
variable {τ : DSt} {tes : List DTE} {os : List DO} {c : CT}
theorem argsMk (h : MakesL τ tes os) : ∀ {M : DHp} {R : List D → DHp → Prop}, (∀ es M1, Sub M M1 → RefsAt M1 es os → R es M1) → dArgs tes τ M R := by
  induction h with
  | nil => intro M R r; exact r [] M (Sub.refl M) .nil
  | cons h _ ih =>
    intro M R r
    refine h M _ fun a M1 s1 e1 => ih fun es M2 s2 r2 => ?_
    exact r _ M2 (s1.trans s2) (.cons (s2 _ _ e1) r2)
theorem mk_pos {C : Addr} {f : Str} {i : Nat} {t : D} (h : sl τ i = some t) : Makes τ (dMkX C f [dVar i] []) (.exc C [f] [t]) := fun M Q q =>
  show wth (sl τ i) _ from wth_some h ⟨t, rfl, fun a n => q a _ (sub_up n) up_same⟩
theorem mk_kw {C : Addr} {f : Str} {i : Nat} {t : D} (h : sl τ i = some t) : Makes τ (dMkX C f [] [dVar i]) (.exc C [f] [t]) := fun M Q q =>
  show wth (sl τ i) _ from wth_some h ⟨t, rfl, fun a n => q a _ (sub_up n) up_same⟩
theorem mk_0 {C : Addr} : Makes τ (dMkX0 C) (.exc C [] []) := fun M Q q a n => q a _ (sub_up n) up_same
/-- x = [.., ..] -/
theorem st_lst {i : Nat} {rest : DTS} {E : DEnds} {M : DHp} (h : MakesL τ tes os) (r : ∀ es M1, Sub M M1 → RefsAt M1 es os → rest E (τ.set i (some (.lst es))) M1) : dSeq (dAsg (dLst false tes) (dgName i)) rest E τ M :=
  argsMk h fun es M1 s1 r1 => r es M1 s1 r1
/-- x + [.., ..] -/
theorem e_add {i : Nat} {M : DHp} {Q : DVK} {es0 : List D} (e : sl τ i = some (.lst es0)) (l : es0.length ≤ 30) (l2 : os.length ≤ 30) (h : MakesL τ tes os) (r : ∀ es M1, Sub M M1 → RefsAt M1 es os → Q (.lst (es0 ++ es)) M1) : dOp (rAddD false) (dVar i) (dLst false tes) τ M Q :=
  show wth (sl τ i) _ from wth_some e (argsMk h fun es M1 s1 r1 => by
    refine ⟨?_, r es M1 s1 r1⟩
    have := r1.len
    exact line_1000 (by omega))
theorem st_add {i : Nat} {rest : DTS} {E : DEnds} {M : DHp} {es0 : List D} (e : sl τ i = some (.lst es0)) (l : es0.length ≤ 30) (l2 : os.length ≤ 30) (h : MakesL τ tes os) (r : ∀ es M1, Sub M M1 → RefsAt M1 es os → rest E (τ.set i (some (.lst (es0 ++ es)))) M1) : dSeq (dAsg (dOp (rAddD false) (dVar i) (dLst false tes)) (dgName i)) rest E τ M :=
  e_add (Q := fun d M1 => dgName i d τ M1 (rest E)) e l l2 h fun es M1 s1 r1 => r es M1 s1 r1
theorem ret_two {i : Nat} {x : D} {te : DTE} {E : DEnds} {M : DHp} (e : sl τ i = some x) (h : te τ M fun y M1 => E.rt (.lst [x, y]) M1) : dRet (dLst false [dVar i, te]) E τ M :=
  show wth (sl τ i) _ from wth_some e h
/-! ### values that are told as they stand -/
def ArgV (τ : DSt) (M : DHp) (tes : List DTE) (ds : List D) : Prop := ∀ R : List D → DHp → Prop, R ds M → dArgs tes τ M R
theorem av_nil {M : DHp} : ArgV τ M [] [] := fun _ r => r
theorem av_cons {M : DHp} {te : DTE} {d : D} {ds : List D} (h : ∀ Q : DVK, Q d M → te τ M Q) (t : ArgV τ M tes ds) : ArgV τ M (te :: tes) (d :: ds) := fun R r => h _ (t _ r)
theorem sv_lst {i : Nat} {rest : DTS} {E : DEnds} {M : DHp} {ds : List D} (h : ArgV τ M tes ds) (r : rest E (τ.set i (some (.lst ds))) M) : dSeq (dAsg (dLst false tes) (dgName i)) rest E τ M := h _ r
theorem ev_add {i : Nat} {M : DHp} {Q : DVK} {es0 ds : List D} (e : sl τ i = some (.lst es0)) (h : ArgV τ M tes ds) (l : es0.length + ds.length ≤ 100) (r : Q (.lst (es0 ++ ds)) M) : dOp (rAddD false) (dVar i) (dLst false tes) τ M Q :=
  show wth (sl τ i) _ from wth_some e (h _ ⟨line_1000 (Nat.le_trans l (by decide)), r⟩)
theorem sv_add {i : Nat} {rest : DTS} {E : DEnds} {M : DHp} {es0 ds : List D} (e : sl τ i = some (.lst es0)) (h : ArgV τ M tes ds) (l : es0.length + ds.length ≤ 100) (r : rest E (τ.set i (some (.lst (es0 ++ ds)))) M) : dSeq (dAsg (dOp (rAddD false) (dVar i) (dLst false tes)) (dgName i)) rest E τ M :=
  ev_add (Q := fun d M1 => dgName i d τ M1 (rest E)) e h l r
theorem is_at {M : DHp} {i a j : Nat} {C : Addr} {ns : List Str} {ds : List D} {bs : List Bool} {f : Nat → Bool} (e : sl τ i = some (.ref a)) (em : M a = some (.exc C ns ds)) (ej : (exC c)[j]? = some C) (hj : j < 16) (h : ∀ j, j < 16 → bs[j]? = some (f j)) : ∀ Q : DVK, Q (.bl (f j)) M → dIsE (exC c) bs (dVar i) τ M Q :=
  fun Q q => show wth (sl τ i) _ from wth_some e ⟨a, C, ns, ds, j, f j, rfl, em, ej, h j hj, q⟩
end
/-- the errors that a law makes with t -/
def errL (c : CT) (t : D) : List DO := [.exc c.InvalidText ["given"] [t], .exc c.InvalidNumber ["given"] [t], .exc c.InvalidName ["given"] [t], .exc c.InvalidWish ["given"] [t], .exc c.InvalidIndex ["given"] [t], .exc c.NotHeaps ["given"] [t], .exc c.InvalidKinds ["index"] [t], .exc c.InvalidTable ["index"] [t],
  .exc c.InvalidRow ["index"] [t], .exc c.InvalidHighs ["index"] [t], .exc c.InvalidDepths ["index"] [t], .exc c.UnknownName ["given"] [t], .exc c.NoPlan [] [], .exc c.TooFew ["given"] [t], .exc c.NothingToUndo [] [], .exc c.Broken ["index"] [t]]
theorem j16 {j : Nat} (h : j < 16) : j = 0 ∨ j = 1 ∨ j = 2 ∨ j = 3 ∨ j = 4 ∨ j = 5 ∨ j = 6 ∨ j = 7 ∨ j = 8 ∨ j = 9 ∨ j = 10 ∨ j = 11 ∨ j = 12 ∨ j = 13 ∨ j = 14 ∨ j = 15 := by omega
theorem err_at {c : CT} {t : D} {j : Nat} (h : j < 16) : ∃ C ns ds, (errL c t)[j]? = some (.exc C ns ds) ∧ (exC c)[j]? = some C := by
  rcases j16 h with h | h | h | h | h | h | h | h | h | h | h | h | h | h | h | h <;> subst h <;> exact ⟨_, _, _, rfl, rfl⟩
def sortsL (j : Nat) : List D := [.bl (j == 0), .bl (j == 1), .bl (j == 2), .bl (j == 3), .bl (j == 4), .bl (j == 5), .bl (j == 6), .bl (j == 7), .bl (j == 8), .bl (j == 9), .bl (j == 10), .bl (j == 11), .bl (j == 12), .bl (j == 13), .bl (j == 14), .bl (j == 15)]
def basesL (j : Nat) : List D := [.bl (decide (j < 11)), .bl (j == 11), .bl (decide (11 < j))]
def keptD (j : Nat) (t : D) : D := if j = 12 ∨ j = 14 then .non else t
/-- what repr needs of a value -/
def RepP (M : DHp) (d : D) : Prop := okXM M d = true ∧ (pyXM M d).showable = true ∧ (pyXM M d).depth ≤ 60 ∧ (pyXM M d).shown.length ≤ sizeLine
end Rh
/-! P85: readings step by step: calls, comparisons, comprehensions of bools; values for repr. -/
namespace Rh
open PySem PySem.Spec PyProof.Rows L2
section
variable {τ : DSt} {M : DHp} {E : DEnds} {W : DWX}
theorem own1 {sp : DSp} {te : DTE} {Q : DVK} {x : D} (h : ∀ R : DVK, R x M → te τ M R) (s : sp [x] M Q (fun C ns es M' => W C ns es τ M')) : dOwn [0] [] sp W [te] [] τ M Q := h _ s
theorem own2 {sp : DSp} {te tf : DTE} {Q : DVK} {x y : D} (h : ∀ R : DVK, R x M → te τ M R) (h2 : ∀ R : DVK, R y M → tf τ M R) (s : sp [x, y] M Q (fun C ns es M' => W C ns es τ M')) : dOwn [0, 1] [] sp W [te, tf] [] τ M Q := h _ (h2 _ s)
theorem e_var {i : Nat} {x : D} {R : DVK} (e : sl τ i = some x) (r : R x M) : dVar i τ M R := wth_some e r
theorem e_ix {i k j : Nat} {es : List D} {d : D} {R : DVK} (e1 : sl τ i = some (.lst es)) (e2 : sl τ k = some (.int (j : Nat))) (e3 : es[j]? = some d) (r : R d M) : dOp rIxD (dVar i) (dVar k) τ M R :=
  wth_some e1 (wth_some e2 (show wth (seqOf (.lst es) M) (fun ds => wth (atI ds (j : Int)) fun d => R d M) from wth_some (a := es) rfl (wth_some (at_nn e3) r)))
theorem ifs_same {te1 te2 : DTE} {ds : List D} (sh : SeqAt.shaped (pyM M (.lst ds)) = true) (h1 : ∀ R : DVK, R (.lst ds) M → te1 τ M R) (h2 : ∀ R : DVK, R (.lst ds) M → te2 τ M R) (next : E.nx τ M) :
    dIfS (dTst (dOp (rEqDD true) te1 te2)) (dRet (dC (.bl false))) dNext E τ M := by
  have e : (true != PyData.eqv (pyM M (.lst ds)) (pyM M (.lst ds))) = false := by rw [eqv_me _ (SeqAt.canLay_of_shaped sh)]; rfl
  have key : ∀ b : Bool, b = false → (match D.bl b with | .bl b => (match b with | true => dRet (dC (.bl false)) E τ M | false => dNext E τ M) | _ => False) := fun b h => by subst h; exact next
  exact h1 _ (h2 _ ⟨sh, sh, key _ e⟩)
theorem ifs_rep {te1 te2 : DTE} {x : D} (rp : RepP M x) (h1 : ∀ R : DVK, R x M → te1 τ M R) (h2 : ∀ R : DVK, R x M → te2 τ M R) (next : E.nx τ M) :
    dIfS (dTst (dOp (rEqDD true) (dCB rReprXD [te1]) (dCB rReprXD [te2]))) (dRet (dC (.bl false))) dNext E τ M := by
  have e : (true != ((pyXM M x).shown == (pyXM M x).shown)) = false := by rw [beq_self_eq_true]; rfl
  have key : ∀ b : Bool, b = false → (match D.bl b with | .bl b => (match b with | true => dRet (dC (.bl false)) E τ M | false => dNext E τ M) | _ => False) := fun b h => by subst h; exact next
  exact h1 _ ⟨rp, h2 _ ⟨rp, key _ e⟩⟩
def eqL (n : Nat) (b : Int) : List D := (nums 0 n).map fun x => match x with
  | .int k => .bl (decide (k = b))
  | _ => .non
theorem lc_eq {n : Nat} {b : Int} {i : Nat} {R : DVK} (hn : n ≤ 1000) (e7 : ∀ k : Int, sl ((wipeD τ [7]).set 7 (some (.int k))) 7 = some (.int k)) (e : ∀ k : Int, sl ((wipeD τ [7]).set 7 (some (.int k))) i = some (.int b)) (r : R (.lst (eqL n b)) M) :
    dLc false (diRng1 (dC (.int (n : Nat)))) (dgName 7) dYes (dOp (rEqDD false) (dVar 7) (dVar i)) [7] τ M R := by
  refine ⟨by omega, by omega, fun p np => lcR_map (f := fun x => match x with | .int k => .bl (decide (k = b)) | _ => .non) (fun _ => trivial) np ?_ ?_⟩
  · intro x hx acc R r
    obtain ⟨k, rfl, _, _⟩ := nums_mem hx
    refine wth_some (e7 k) (wth_some (e k) ⟨rfl, rfl, ?_⟩)
    show R (.bl (false != decide (k = b))) _
    rw [Bool.false_bne]
    exact r
  · exact r
theorem e_mul2 {te : DTE} {a : List D} {R : DVK} (h : ∀ R : DVK, R (.lst a) M → te τ M R) (l : a.length ≤ 100) (r : R (.lst (List.replicate 2 a).flatten) M) : dOp (rMulD false) te (dC (.int 2)) τ M R :=
  h _ (show wth (mlst (.lst a) M) (fun a => -(2 ^ 63) ≤ (2 : Int) ∧ (2 : Int) < 2 ^ 63 ∧ a.length * (2 : Int).toNat ≤ sizeLine ∧ dNew false (List.replicate (2 : Int).toNat a).flatten M R) from wth_some (a := a) rfl ⟨by decide, by decide, line_1000 (show a.length * 2 ≤ 1000 by omega), r⟩)
end
def baseI (j : Nat) : Int := if j < 11 then 0 else if j = 11 then 1 else 2
theorem sorts_eq {j : Nat} (h : j < 16) : eqL 16 (j : Int) = sortsL j := by
  rcases j16 h with h | h | h | h | h | h | h | h | h | h | h | h | h | h | h | h <;> subst h <;> rfl
theorem bases_eq {j : Nat} (h : j < 16) : (List.replicate 2 (eqL 3 (baseI j))).flatten = basesL j ++ basesL j := by
  rcases j16 h with h | h | h | h | h | h | h | h | h | h | h | h | h | h | h | h <;> subst h <;> rfl
theorem sorts_sh {M : DHp} {j : Nat} (h : j < 16) : SeqAt.shaped (pyM M (.lst (sortsL j))) = true := by
  rcases j16 h with h | h | h | h | h | h | h | h | h | h | h | h | h | h | h | h <;> subst h <;> rfl
theorem bases_sh {M : DHp} {j : Nat} (h : j < 16) : SeqAt.shaped (pyM M (.lst (basesL j ++ basesL j))) = true := by
  rcases j16 h with h | h | h | h | h | h | h | h | h | h | h | h | h | h | h | h <;> subst h <;> rfl
/-! ### values for repr -/
theorem rep_of {d : D} (P : PyData) (h1 : ∀ M, okXM M d = true) (h2 : ∀ M, pyXM M d = P) (h3 : P.showable = true) (h4 : P.depth ≤ 60) (h5 : P.shown.length ≤ 1000) : ∀ M, RepP M d := fun M => by
  refine ⟨h1 M, ?_, ?_, ?_⟩
  · rw [h2]; exact h3
  · rw [h2]; exact h4
  · rw [h2]; exact line_1000 h5
theorem rep_dK {M : DHp} {p : Addr} {ks : List Key} {ds : List D} (e : M p = some (.dK ks ds)) (P : PyData) (h1 : okXs M ds = true) (h2 : PyData.dict ((ks.map keyPy).zip (pyXs M ds)) = P) (h3 : P.showable = true) (h4 : P.depth ≤ 60) (h5 : P.shown.length ≤ 1000) : RepP M (.ref p) := by
  have e1 : okXM M (.ref p) = okXs M ds := by unfold okXM; simp only [e]
  have e2 : pyXM M (.ref p) = P := by unfold pyXM; simp only [e]; exact h2
  refine ⟨e1.trans h1, ?_, ?_, ?_⟩
  · rw [e2]; exact h3
  · rw [e2]; exact h4
  · rw [e2]; exact line_1000 h5
/-- te tells a value that repr can tell, now and later, whatever becomes of a -/
def Th (a : Addr) (τ : DSt) (te : DTE) : Prop := ∀ (M : DHp) (Q : DVK), (∃ o, M a = some o) → (∀ d M1, Sub M M1 → (∀ M2, Kp a M1 M2 → RepP M2 d) → Q d M1) → te τ M Q
inductive ThL (a : Addr) (τ : DSt) : List DTE → Prop
  | nil : ThL a τ []
  | cons {te : DTE} {tes : List DTE} (h : Th a τ te) (t : ThL a τ tes) : ThL a τ (te :: tes)
section
variable {a : Addr} {τ : DSt} {tes : List DTE}
theorem argsTh (h : ThL a τ tes) : ∀ {M : DHp} {R : List D → DHp → Prop}, (∃ o, M a = some o) → (∀ ds M1, Sub M M1 → (∀ d ∈ ds, ∀ M2, Kp a M1 M2 → RepP M2 d) → ds.length = tes.length → R ds M1) → dArgs tes τ M R := by
  induction h with
  | nil => intro M R _ r; exact r [] M (Sub.refl M) (fun _ h => nomatch h) rfl
  | cons h _ ih =>
    intro M R ho r
    refine h M _ ho fun d M1 s1 p1 => ih (let ⟨o, e⟩ := ho; ⟨o, s1 _ _ e⟩) fun ds M2 s2 p2 l => ?_
    refine r _ M2 (s1.trans s2) (fun x hx => ?_) (by rw [List.length_cons, List.length_cons, l])
    rcases List.mem_cons.mp hx with rfl | hx
    · exact fun M3 k => p1 M3 (((Kp.refl a M1).more s2).trans k)
    · exact p2 x hx
theorem st_th {i : Nat} {rest : DTS} {E : DEnds} {M : DHp} (h : ThL a τ tes) (ho : ∃ o, M a = some o) (r : ∀ ds M1, Sub M M1 → (∀ d ∈ ds, ∀ M2, Kp a M1 M2 → RepP M2 d) → ds.length = tes.length → rest E (τ.set i (some (.lst ds))) M1) : dSeq (dAsg (dLst false tes) (dgName i)) rest E τ M := argsTh h ho r
theorem th_v {te : DTE} {d : D} (h : ∀ (M : DHp) (Q : DVK), Q d M → te τ M Q) (p : ∀ M, RepP M d) : Th a τ te := fun M Q _ q => h M Q (q d M (Sub.refl M) fun M2 _ => p M2)
theorem th_new : Th a τ dDnew := fun M Q ho q p np => by
  obtain ⟨o, eo⟩ := ho
  have ne : p ≠ a := fun z => by rw [z, eo] at np; cases np
  exact q _ _ (sub_up np) fun M2 k => rep_dK (k p _ ne up_same) (.dict []) rfl rfl (by decide +kernel) (by decide +kernel) (by decide +kernel)
theorem th_one : Th a τ (dDone (dC (.str "a")) (dC (.int 1))) := fun M Q ho q p np => by
  obtain ⟨o, eo⟩ := ho
  have ne : p ≠ a := fun z => by rw [z, eo] at np; cases np
  refine ⟨up_same, wth_some (a := Sum.inr "a") rfl ?_⟩
  rw [up_up]
  exact q _ _ (sub_up np) fun M2 k => rep_dK (k p _ ne up_same) (.dict [(.str "a", .int 1)]) rfl rfl (by decide +kernel) (by decide +kernel) (by decide +kernel)
end
end Rh
/-! ### the defs of this law: promises, readings -/
namespace Rh
open PySem PySem.Spec PyProof.Rows L2 PySem.NumText
def sp__law_pot (c : CT) : DSp := sp2 fun s t M Q _ => ∃ ns k, s = .scr ns ∧ t = .int k ∧ 0 ≤ k ∧ k ≤ 100 ∧ ns.length ≤ 63 ∧ ∀ p x y, M p = none → PotI x y 0 → Q (.ref p) (up M p (.lst [.int x, .int y, .int 0]))
/-- _law_pot: 0 _law_script, 1 _law_turn, 2 _law_figure, 3 _law_seed, 4 _law_each -/
def N__law_pot : List Str := ["_law_script", "_law_turn", "_law_figure", "_law_seed", "_law_each"]
def t__law_pot (c : CT) (W : DWX) : DTS :=
  dSeq (dAsg (dIf (dTst (dOp rLtD (dVar 1) (dCB rLen0D [dVar 0]))) (dOp rIxD (dVar 0) (dVar 1)) (dOp (rAddD false) (dOp (rMulD false) (dC (.int 37)) (dVar 1)) (dC (.int 4)))) (dgName 2))
  (dSeq (dAsg (dOp (rAddD false) (dC (.int 141650939)) (dOp (rMulD false) (dC (.int 39019)) (dVar 1))) (dgName 3))
  (dSeq (dFor (diSeq (dOp (rAddD false) (dLst false [dVar 2]) (dSl false (dVar 0) (dNoPart) (dPart (dC (.int 6)))))) (dgName 4)
  (dAsg (dOp rModD (dCB rIntD [dOp (rAddD false) (dOp (rMulD false) (dVar 3) (dC (.int 49069))) (dVar 4)]) (dC (.int 2147483423))) (dgName 3)))
  (dRet (dLst true [dIf (dTst (dOp rGeD (dCB rAbsD [dVar 2]) (dOp rPowD (dC (.int 10)) (dC (.int 18))))) (dCB rAbsD [dVar 2]) (dC (.int 0)), dVar 3, dC (.int 0)]))))
theorem len__law_pot (c : CT) : ∀ ds M Q E, sp__law_pot c ds M Q E → ds.length = ["_law_script", "_law_turn"].length := sp2_len
theorem pure__law_pot (c : CT) : ∀ ds M Q E, sp__law_pot c ds M Q E → t__law_pot c (fnW E) (fnEnds Q) (startD N__law_pot ds) M := sp2_of fun s t M Q E ⟨ns, k, e1, e2, k0, k1, nl, q⟩ => by
  subst e1 e2
  have fig : ∀ (i : Int), (dSeq (dAsg (dOp (rAddD false) (dC (.int 141650939)) (dOp (rMulD false) (dC (.int 39019)) (dVar 1))) (dgName 3))
  (dSeq (dFor (diSeq (dOp (rAddD false) (dLst false [dVar 2]) (dSl false (dVar 0) (dNoPart) (dPart (dC (.int 6)))))) (dgName 4)
  (dAsg (dOp rModD (dCB rIntD [dOp (rAddD false) (dOp (rMulD false) (dVar 3) (dC (.int 49069))) (dVar 4)]) (dC (.int 2147483423))) (dgName 3)))
  (dRet (dLst true [dIf (dTst (dOp rGeD (dCB rAbsD [dVar 2]) (dOp rPowD (dC (.int 10)) (dC (.int 18))))) (dCB rAbsD [dVar 2]) (dC (.int 0)), dVar 3, dC (.int 0)])))) (fnEnds Q) [some (.scr ns), some (.int k), some (.int i), none, none] M := fun i => by
    conv => whnf
    refine ⟨mulW (by decide) (by omega), ?_⟩
    conv => whnf
    refine ⟨line_1000 ?_, ?_⟩
    · show 1 + (cutD (ns.map D.int) none (some 6)).length ≤ 1000
      have := cut_len (ds := ns.map D.int) (lo := none) (hi := some 6)
      rw [List.length_map] at this
      omega
    show forR _ _ _ _ ([D.int i] ++ cutD (ns.map D.int) none (some 6)) _ _
    refine forR_inv (fun xs τ M' => M' = M ∧ (∀ x ∈ xs, ∃ j, x = D.int j) ∧ ∃ y z, 0 ≤ y ∧ y < 2147483648 ∧ τ = [some (.scr ns), some (.int k), some (.int i), some (.int y), z]) ?_ ?_ _ _ _ ⟨rfl, ?_, _, none, ?_, ?_, rfl⟩
    · rintro τ M' ⟨rfl, _, y, z, y0, y1, rfl⟩
      refine ⟨trivial, ?_⟩
      conv => whnf
      refine ⟨by unfold CPow; decide, ?_⟩
      conv => whnf
      split
      · conv => whnf
        exact fun p np => ⟨_, Sub.refl _, q p _ _ np ⟨(by split <;> omega : (0 : Int) ≤ if i < 0 then -i else i), y0, y1, Int.le_refl 0⟩⟩
      · conv => whnf
        exact fun p np => ⟨_, Sub.refl _, q p _ _ np ⟨Int.le_refl 0, y0, y1, Int.le_refl 0⟩⟩
    · rintro x xs τ M' R ⟨rfl, hx, y, z, y0, y1, rfl⟩ hR
      obtain ⟨j, rfl⟩ := hx x List.mem_cons_self
      refine ⟨trivial, ?_⟩
      conv => whnf
      refine ⟨mulW (by omega) (by decide), ?_⟩
      conv => whnf
      refine ⟨(by decide : (0 : Int) < 2147483423), ?_⟩
      conv => whnf
      exact hR _ _ _ _ ⟨rfl, fun x hx' => hx x (List.mem_cons_of_mem _ hx'), _, _, Int.emod_nonneg _ (by decide), Int.lt_trans (Int.emod_lt_of_pos _ (by decide)) (by decide), rfl⟩ (SubS.refl _) (Sub.refl _)
    · intro x hx
      rcases List.mem_append.mp hx with h | h
      · exact ⟨i, List.mem_singleton.mp h⟩
      · obtain ⟨j, _, rfl⟩ := List.mem_map.mp (cut_mem h)
        exact ⟨j, rfl⟩
    · show (0 : Int) ≤ 141650939 + 39019 * k
      omega
    · show (141650939 + 39019 * k : Int) < 2147483648
      omega
  show t__law_pot c (fnW E) (fnEnds Q) [some (.scr ns), some (.int k), none, none, none] M
  conv => whnf
  split
  · rename_i h
    have h1 : k < (ns.length : Nat) := of_decide_eq_true h
    obtain ⟨i, e⟩ := at_int k0 h1
    conv => whnf
    rw [e]
    exact fig i
  · conv => whnf
    refine ⟨mulW (by decide) (by omega), ?_⟩
    exact fig _

def sp__law_scoop (c : CT) : DSp := sp2 fun p w M Q _ => ∃ a x y z k, p = .ref a ∧ w = .int k ∧ 0 < k ∧ k ≤ 10 ^ 30 ∧ M a = some (.lst [.int x, .int y, .int z]) ∧ PotI x y z ∧ z ≤ 10 ^ 9 ∧
  ∀ d x' y' z', 0 ≤ d → d < k → PotI x' y' z' → z' ≤ z + 1 → Q (.int d) (up M a (.lst [.int x', .int y', .int z']))
/-- _law_scoop: 0 _law_pot_here, 1 _law_many_ways, 2 _law_digit -/
def N__law_scoop : List Str := ["_law_pot_here", "_law_many_ways", "_law_digit"]
def t__law_scoop (c : CT) (W : DWX) : DTS :=
  dSeq (dIfS (dTst (dOp rGtD (dOp rIxD (dVar 0) (dC (.int 0))) (dC (.int 0)))) (dSeq (dAsg (dCB rDivmodD [dOp rIxD (dVar 0) (dC (.int 0)), dVar 1]) (dgTupN 2 [dgSub (dVar 0) (dC (.int 0)), dgName 2]))
  (dRet (dVar 2))) (dNext))
  (dSeq (dAsg (dOp (rAddD false) (dOp rIxD (dVar 0) (dC (.int 2))) (dC (.int 1))) (dgSub (dVar 0) (dC (.int 2))))
  (dSeq (dAsg (dOp rModD (dCB rIntD [dOp (rAddD false) (dOp (rMulD false) (dOp rIxD (dVar 0) (dC (.int 1))) (dC (.int 44017))) (dOp (rMulD false) (dC (.int 24007)) (dOp rIxD (dVar 0) (dC (.int 2))))]) (dC (.int 2147483423))) (dgSub (dVar 0) (dC (.int 1))))
  (dRet (dOp rModD (dCB rIntD [dOp rDivD (dOp rIxD (dVar 0) (dC (.int 1))) (dC (.int 1024))]) (dVar 1)))))
theorem len__law_scoop (c : CT) : ∀ ds M Q E, sp__law_scoop c ds M Q E → ds.length = ["_law_pot_here", "_law_many_ways"].length := sp2_len
theorem pure__law_scoop (c : CT) : ∀ ds M Q E, sp__law_scoop c ds M Q E → t__law_scoop c (fnW E) (fnEnds Q) (startD N__law_scoop ds) M := sp2_of fun p w M Q E ⟨a, x, y, z, k, e1, e2, k0, k1, em, P, zb, q⟩ => by
  subst e1 e2
  show t__law_scoop c (fnW E) (fnEnds Q) [some (.ref a), some (.int k), none] M
  obtain ⟨P1, P2, P3, P4⟩ := P
  have dv : CDivP x k := ⟨k0, by
    unfold Builtin.divisionGoesByPylong
    have h1 : k.natAbs.log2 ≤ 100 := lg_le (Nat.lt_of_le_of_lt (by omega : k.natAbs ≤ 10 ^ 30) (by decide))
    have h2 : (if (k == 0) = true then 0 else k.natAbs.log2 / 30 + 1) ≤ 300 := by split <;> omega
    simp only [Bool.and_eq_false_iff, decide_eq_false_iff_not]
    exact .inl (by omega)⟩
  conv => whnf
  rw [seq_ref em]
  conv => whnf
  split
  · rename_i h
    have hx : 0 < x := of_decide_eq_true h
    conv => whnf
    rw [seq_ref em]
    conv => whnf
    refine ⟨dv, ?_⟩
    conv => whnf
    refine ⟨rfl, ?_⟩
    conv => whnf
    rw [em]
    conv => whnf
    exact ⟨_, Sub.refl _, q _ _ _ _ (Int.emod_nonneg _ (by omega)) (Int.emod_lt_of_pos _ k0) ⟨Int.ediv_nonneg P1 (by omega), P2, P3, P4⟩ (by omega)⟩
  · conv => whnf
    rw [seq_ref em]
    conv => whnf
    rw [em]
    conv => whnf
    rw [seq_ref up_same]
    conv => whnf
    refine ⟨mulW (by omega) (by decide), ?_⟩
    conv => whnf
    rw [seq_ref up_same]
    conv => whnf
    refine ⟨mulW (by decide) (by omega), ?_⟩
    conv => whnf
    refine ⟨(by decide : (0 : Int) < 2147483423), ?_⟩
    conv => whnf
    rw [up_same]
    conv => whnf
    rw [up_up, seq_ref up_same]
    conv => whnf
    refine ⟨⟨by decide, by decide⟩, ?_⟩
    conv => whnf
    refine ⟨k0, ?_⟩
    conv => whnf
    exact ⟨_, Sub.refl _, q _ _ _ _ (Int.emod_nonneg _ (by omega)) (Int.emod_lt_of_pos _ k0) ⟨P1, Int.emod_nonneg _ (by decide), Int.lt_trans (Int.emod_lt_of_pos _ (by decide)) (by decide), by omega⟩ (Int.le_refl _)⟩

def sp__law_sorts (c : CT) : DSp := sp1 fun e M Q _ => ∃ a C ns ds j, e = .ref a ∧ M a = some (.exc C ns ds) ∧ (exC c)[j]? = some C ∧ j < 16 ∧ Q (.lst (sortsL j)) M
def t__law_sorts_c1 (c : CT) (W : DWX) : DTS :=
  dSeq (dAsg (dOp (rAddD false) (dVar 1) (dLst false [dIsE (exC c) [false, false, false, false, false, false, false, false, false, true, false, false, false, false, false, false] (dVar 0), dIsE (exC c) [false, false, false, false, false, false, false, false, false, false, true, false, false, false, false, false] (dVar 0), dIsE (exC c) [false, false, false, false, false, false, false, false, false, false, false, true, false, false, false, false] (dVar 0)])) (dgName 1))
  (dRet (dOp (rAddD false) (dVar 1) (dLst false [dIsE (exC c) [false, false, false, false, false, false, false, false, false, false, false, false, true, false, false, false] (dVar 0), dIsE (exC c) [false, false, false, false, false, false, false, false, false, false, false, false, false, true, false, false] (dVar 0), dIsE (exC c) [false, false, false, false, false, false, false, false, false, false, false, false, false, false, true, false] (dVar 0), dIsE (exC c) [false, false, false, false, false, false, false, false, false, false, false, false, false, false, false, true] (dVar 0)])))
def t__law_sorts_c2 (c : CT) (W : DWX) : DTS :=
  dSeq (dAsg (dOp (rAddD false) (dVar 1) (dLst false [dIsE (exC c) [false, false, false, false, false, false, true, false, false, false, false, false, false, false, false, false] (dVar 0), dIsE (exC c) [false, false, false, false, false, false, false, true, false, false, false, false, false, false, false, false] (dVar 0), dIsE (exC c) [false, false, false, false, false, false, false, false, true, false, false, false, false, false, false, false] (dVar 0)])) (dgName 1))
  (t__law_sorts_c1 c W)
def t__law_sorts_c3 (c : CT) (W : DWX) : DTS :=
  dSeq (dAsg (dOp (rAddD false) (dVar 1) (dLst false [dIsE (exC c) [false, false, false, true, false, false, false, false, false, false, false, false, false, false, false, false] (dVar 0), dIsE (exC c) [false, false, false, false, true, false, false, false, false, false, false, false, false, false, false, false] (dVar 0), dIsE (exC c) [false, false, false, false, false, true, false, false, false, false, false, false, false, false, false, false] (dVar 0)])) (dgName 1))
  (t__law_sorts_c2 c W)
/-- _law_sorts: 0 _law_e, 1 _law_found -/
def N__law_sorts : List Str := ["_law_e", "_law_found"]
def t__law_sorts (c : CT) (W : DWX) : DTS :=
  dSeq (dAsg (dLst false [dIsE (exC c) [true, false, false, false, false, false, false, false, false, false, false, false, false, false, false, false] (dVar 0), dIsE (exC c) [false, true, false, false, false, false, false, false, false, false, false, false, false, false, false, false] (dVar 0), dIsE (exC c) [false, false, true, false, false, false, false, false, false, false, false, false, false, false, false, false] (dVar 0)]) (dgName 1))
  (t__law_sorts_c3 c W)
theorem len__law_sorts (c : CT) : ∀ ds M Q E, sp__law_sorts c ds M Q E → ds.length = ["_law_e"].length := sp1_len
theorem pure__law_sorts (c : CT) : ∀ ds M Q E, sp__law_sorts c ds M Q E → t__law_sorts c (fnW E) (fnEnds Q) (startD N__law_sorts ds) M := sp1_of fun e M Q E h => by
  obtain ⟨a, C, ns, ds, j, rfl, em, ej, hj, q⟩ := h
  show t__law_sorts c (fnW E) (fnEnds Q) [some (.ref a), none] M
  unfold t__law_sorts
  refine sv_lst (ds := [.bl (j == 0), .bl (j == 1), .bl (j == 2)]) (av_cons (is_at (f := fun j => j == 0) rfl em ej hj (by decide)) (av_cons (is_at (f := fun j => j == 1) rfl em ej hj (by decide)) (av_cons (is_at (f := fun j => j == 2) rfl em ej hj (by decide)) av_nil))) ?_
  unfold t__law_sorts_c3
  refine sv_add (es0 := [.bl (j == 0), .bl (j == 1), .bl (j == 2)]) (ds := [.bl (j == 3), .bl (j == 4), .bl (j == 5)]) rfl (av_cons (is_at (f := fun j => j == 3) rfl em ej hj (by decide)) (av_cons (is_at (f := fun j => j == 4) rfl em ej hj (by decide)) (av_cons (is_at (f := fun j => j == 5) rfl em ej hj (by decide)) av_nil))) (Nat.le_of_ble_eq_true rfl) ?_
  unfold t__law_sorts_c2
  refine sv_add (es0 := [.bl (j == 0), .bl (j == 1), .bl (j == 2), .bl (j == 3), .bl (j == 4), .bl (j == 5)]) (ds := [.bl (j == 6), .bl (j == 7), .bl (j == 8)]) rfl (av_cons (is_at (f := fun j => j == 6) rfl em ej hj (by decide)) (av_cons (is_at (f := fun j => j == 7) rfl em ej hj (by decide)) (av_cons (is_at (f := fun j => j == 8) rfl em ej hj (by decide)) av_nil))) (Nat.le_of_ble_eq_true rfl) ?_
  unfold t__law_sorts_c1
  refine sv_add (es0 := [.bl (j == 0), .bl (j == 1), .bl (j == 2), .bl (j == 3), .bl (j == 4), .bl (j == 5), .bl (j == 6), .bl (j == 7), .bl (j == 8)]) (ds := [.bl (j == 9), .bl (j == 10), .bl (j == 11)]) rfl (av_cons (is_at (f := fun j => j == 9) rfl em ej hj (by decide)) (av_cons (is_at (f := fun j => j == 10) rfl em ej hj (by decide)) (av_cons (is_at (f := fun j => j == 11) rfl em ej hj (by decide)) av_nil))) (Nat.le_of_ble_eq_true rfl) ?_
  exact ev_add (es0 := [.bl (j == 0), .bl (j == 1), .bl (j == 2), .bl (j == 3), .bl (j == 4), .bl (j == 5), .bl (j == 6), .bl (j == 7), .bl (j == 8), .bl (j == 9), .bl (j == 10), .bl (j == 11)]) (ds := [.bl (j == 12), .bl (j == 13), .bl (j == 14), .bl (j == 15)]) rfl (av_cons (is_at (f := fun j => j == 12) rfl em ej hj (by decide)) (av_cons (is_at (f := fun j => j == 13) rfl em ej hj (by decide)) (av_cons (is_at (f := fun j => j == 14) rfl em ej hj (by decide)) (av_cons (is_at (f := fun j => j == 15) rfl em ej hj (by decide)) av_nil)))) (Nat.le_of_ble_eq_true rfl) (fn_rt q)

def sp__law_bases (c : CT) : DSp := sp1 fun e M Q _ => ∃ a C ns ds j, e = .ref a ∧ M a = some (.exc C ns ds) ∧ (exC c)[j]? = some C ∧ j < 16 ∧ Q (.lst (basesL j ++ basesL j)) M
/-- _law_bases: 0 _law_e, 1 _law_found -/
def N__law_bases : List Str := ["_law_e", "_law_found"]
def t__law_bases (c : CT) (W : DWX) : DTS :=
  dSeq (dAsg (dLst false [dIsE (exC c) [true, true, true, true, true, true, true, true, true, true, true, false, false, false, false, false] (dVar 0), dIsE (exC c) [false, false, false, false, false, false, false, false, false, false, false, true, false, false, false, false] (dVar 0), dIsE (exC c) [false, false, false, false, false, false, false, false, false, false, false, false, true, true, true, true] (dVar 0)]) (dgName 1))
  (dRet (dOp (rAddD false) (dVar 1) (dLst false [dIsE (exC c) [true, true, true, true, true, true, true, true, true, true, true, false, false, false, false, false] (dVar 0), dIsE (exC c) [false, false, false, false, false, false, false, false, false, false, false, true, false, false, false, false] (dVar 0), dIsE (exC c) [false, false, false, false, false, false, false, false, false, false, false, false, true, true, true, true] (dVar 0)])))
theorem len__law_bases (c : CT) : ∀ ds M Q E, sp__law_bases c ds M Q E → ds.length = ["_law_e"].length := sp1_len
theorem pure__law_bases (c : CT) : ∀ ds M Q E, sp__law_bases c ds M Q E → t__law_bases c (fnW E) (fnEnds Q) (startD N__law_bases ds) M := sp1_of fun e M Q E h => by
  obtain ⟨a, C, ns, ds, j, rfl, em, ej, hj, q⟩ := h
  show t__law_bases c (fnW E) (fnEnds Q) [some (.ref a), none] M
  unfold t__law_bases
  refine sv_lst (ds := basesL j) (av_cons (is_at (f := fun j => decide (j < 11)) rfl em ej hj (by decide)) (av_cons (is_at (f := fun j => j == 11) rfl em ej hj (by decide)) (av_cons (is_at (f := fun j => decide (11 < j)) rfl em ej hj (by decide)) av_nil))) ?_
  exact ev_add (es0 := basesL j) (ds := basesL j) rfl (av_cons (is_at (f := fun j => decide (j < 11)) rfl em ej hj (by decide)) (av_cons (is_at (f := fun j => j == 11) rfl em ej hj (by decide)) (av_cons (is_at (f := fun j => decide (11 < j)) rfl em ej hj (by decide)) av_nil))) (Nat.le_of_ble_eq_true rfl) (fn_rt q)

def sp__law_made (c : CT) : DSp := sp1 fun t M Q _ => ∀ M1 es fs, Sub M M1 → RefsAt M1 es (errL c t) → RefsAt M1 fs (errL c t) → Q (.lst [.lst es, .lst fs]) M1
def t__law_made_c1 (c : CT) (W : DWX) : DTS :=
  dSeq (dAsg (dOp (rAddD false) (dVar 2) (dLst false [dMkX c.InvalidDepths "index" [] [dVar 0], dMkX c.UnknownName "given" [] [dVar 0], dMkX0 c.NoPlan, dMkX c.TooFew "given" [] [dVar 0]])) (dgName 2))
  (dRet (dLst false [dVar 1, dOp (rAddD false) (dVar 2) (dLst false [dMkX0 c.NothingToUndo, dMkX c.Broken "index" [] [dVar 0]])]))
def t__law_made_c2 (c : CT) (W : DWX) : DTS :=
  dSeq (dAsg (dOp (rAddD false) (dVar 2) (dLst false [dMkX c.InvalidTable "index" [] [dVar 0], dMkX c.InvalidRow "index" [] [dVar 0], dMkX c.InvalidHighs "index" [] [dVar 0]])) (dgName 2))
  (t__law_made_c1 c W)
def t__law_made_c3 (c : CT) (W : DWX) : DTS :=
  dSeq (dAsg (dOp (rAddD false) (dVar 2) (dLst false [dMkX c.InvalidIndex "given" [] [dVar 0], dMkX c.NotHeaps "given" [] [dVar 0], dMkX c.InvalidKinds "index" [] [dVar 0]])) (dgName 2))
  (t__law_made_c2 c W)
def t__law_made_c4 (c : CT) (W : DWX) : DTS :=
  dSeq (dAsg (dLst false [dMkX c.InvalidText "given" [] [dVar 0], dMkX c.InvalidNumber "given" [] [dVar 0], dMkX c.InvalidName "given" [] [dVar 0], dMkX c.InvalidWish "given" [] [dVar 0]]) (dgName 2))
  (t__law_made_c3 c W)
def t__law_made_c5 (c : CT) (W : DWX) : DTS :=
  dSeq (dAsg (dOp (rAddD false) (dVar 1) (dLst false [dMkX c.InvalidDepths "index" [dVar 0] [], dMkX c.UnknownName "given" [dVar 0] [], dMkX0 c.NoPlan, dMkX c.TooFew "given" [dVar 0] [], dMkX0 c.NothingToUndo, dMkX c.Broken "index" [dVar 0] []])) (dgName 1))
  (t__law_made_c4 c W)
def t__law_made_c6 (c : CT) (W : DWX) : DTS :=
  dSeq (dAsg (dOp (rAddD false) (dVar 1) (dLst false [dMkX c.NotHeaps "given" [dVar 0] [], dMkX c.InvalidKinds "index" [dVar 0] [], dMkX c.InvalidTable "index" [dVar 0] [], dMkX c.InvalidRow "index" [dVar 0] [], dMkX c.InvalidHighs "index" [dVar 0] []])) (dgName 1))
  (t__law_made_c5 c W)
/-- _law_made: 0 _law_thing, 1 _law_found, 2 _law_some -/
def N__law_made : List Str := ["_law_thing", "_law_found", "_law_some"]
def t__law_made (c : CT) (W : DWX) : DTS :=
  dSeq (dAsg (dLst false [dMkX c.InvalidText "given" [dVar 0] [], dMkX c.InvalidNumber "given" [dVar 0] [], dMkX c.InvalidName "given" [dVar 0] [], dMkX c.InvalidWish "given" [dVar 0] [], dMkX c.InvalidIndex "given" [dVar 0] []]) (dgName 1))
  (t__law_made_c6 c W)
theorem len__law_made (c : CT) : ∀ ds M Q E, sp__law_made c ds M Q E → ds.length = ["_law_thing"].length := sp1_len
theorem pure__law_made (c : CT) : ∀ ds M Q E, sp__law_made c ds M Q E → t__law_made c (fnW E) (fnEnds Q) (startD N__law_made ds) M := sp1_of fun t M Q E q => by
  show t__law_made c (fnW E) (fnEnds Q) [some t, none, none] M
  unfold t__law_made
  refine st_lst (os := [.exc c.InvalidText ["given"] [t], .exc c.InvalidNumber ["given"] [t], .exc c.InvalidName ["given"] [t], .exc c.InvalidWish ["given"] [t], .exc c.InvalidIndex ["given"] [t]]) (.cons (mk_pos rfl) (.cons (mk_pos rfl) (.cons (mk_pos rfl) (.cons (mk_pos rfl) (.cons (mk_pos rfl) .nil))))) fun e1 M1 s1 r1 => ?_
  have l1 := r1.len
  unfold t__law_made_c6
  refine st_add (os := [.exc c.NotHeaps ["given"] [t], .exc c.InvalidKinds ["index"] [t], .exc c.InvalidTable ["index"] [t], .exc c.InvalidRow ["index"] [t], .exc c.InvalidHighs ["index"] [t]]) (es0 := e1) rfl (by rw [l1]; exact Nat.le_of_ble_eq_true rfl) (Nat.le_of_ble_eq_true rfl) (.cons (mk_pos rfl) (.cons (mk_pos rfl) (.cons (mk_pos rfl) (.cons (mk_pos rfl) (.cons (mk_pos rfl) .nil))))) fun e2 M2 s2 r2 => ?_
  have r12 := (r1.sub s2).app r2
  have l2 := r12.len
  generalize e1 ++ e2 = f2 at r12 l2 ⊢
  unfold t__law_made_c5
  refine st_add (os := [.exc c.InvalidDepths ["index"] [t], .exc c.UnknownName ["given"] [t], .exc c.NoPlan [] [], .exc c.TooFew ["given"] [t], .exc c.NothingToUndo [] [], .exc c.Broken ["index"] [t]]) (es0 := f2) rfl (by rw [l2]; exact Nat.le_of_ble_eq_true rfl) (Nat.le_of_ble_eq_true rfl) (.cons (mk_pos rfl) (.cons (mk_pos rfl) (.cons mk_0 (.cons (mk_pos rfl) (.cons mk_0 (.cons (mk_pos rfl) .nil)))))) fun e3 M3 s3 r3 => ?_
  have r13 : RefsAt M3 (f2 ++ e3) (errL c t) := (r12.sub s3).app r3
  have sA := (s1.trans s2).trans s3
  generalize f2 ++ e3 = f3 at r13 ⊢
  unfold t__law_made_c4
  refine st_lst (os := [.exc c.InvalidText ["given"] [t], .exc c.InvalidNumber ["given"] [t], .exc c.InvalidName ["given"] [t], .exc c.InvalidWish ["given"] [t]]) (.cons (mk_kw rfl) (.cons (mk_kw rfl) (.cons (mk_kw rfl) (.cons (mk_kw rfl) .nil)))) fun e1 M4 s4 r1 => ?_
  have l1 := r1.len
  unfold t__law_made_c3
  refine st_add (os := [.exc c.InvalidIndex ["given"] [t], .exc c.NotHeaps ["given"] [t], .exc c.InvalidKinds ["index"] [t]]) (es0 := e1) rfl (by rw [l1]; exact Nat.le_of_ble_eq_true rfl) (Nat.le_of_ble_eq_true rfl) (.cons (mk_kw rfl) (.cons (mk_kw rfl) (.cons (mk_kw rfl) .nil))) fun e2 M5 s5 r2 => ?_
  have q2 := (r1.sub s5).app r2
  have l2 := q2.len
  generalize e1 ++ e2 = g2 at q2 l2 ⊢
  unfold t__law_made_c2
  refine st_add (os := [.exc c.InvalidTable ["index"] [t], .exc c.InvalidRow ["index"] [t], .exc c.InvalidHighs ["index"] [t]]) (es0 := g2) rfl (by rw [l2]; exact Nat.le_of_ble_eq_true rfl) (Nat.le_of_ble_eq_true rfl) (.cons (mk_kw rfl) (.cons (mk_kw rfl) (.cons (mk_kw rfl) .nil))) fun e3 M6 s6 r3 => ?_
  have q3 := (q2.sub s6).app r3
  have l3 := q3.len
  generalize g2 ++ e3 = g3 at q3 l3 ⊢
  unfold t__law_made_c1
  refine st_add (os := [.exc c.InvalidDepths ["index"] [t], .exc c.UnknownName ["given"] [t], .exc c.NoPlan [] [], .exc c.TooFew ["given"] [t]]) (es0 := g3) rfl (by rw [l3]; exact Nat.le_of_ble_eq_true rfl) (Nat.le_of_ble_eq_true rfl) (.cons (mk_kw rfl) (.cons (mk_kw rfl) (.cons mk_0 (.cons (mk_kw rfl) .nil)))) fun e4 M7 s7 r4 => ?_
  have q4 := (q3.sub s7).app r4
  have l4 := q4.len
  generalize g3 ++ e4 = g4 at q4 l4 ⊢
  have sB := ((s4.trans s5).trans s6).trans s7
  refine ret_two (x := .lst f3) rfl ?_
  refine e_add (os := [.exc c.NothingToUndo [] [], .exc c.Broken ["index"] [t]]) (es0 := g4) rfl (by rw [l4]; exact Nat.le_of_ble_eq_true rfl) (Nat.le_of_ble_eq_true rfl) (.cons mk_0 (.cons (mk_kw rfl) .nil)) fun e5 M8 s8 r5 => ?_
  exact fn_rt (q M8 f3 (g4 ++ e5) ((sA.trans sB).trans s8) (r13.sub (sB.trans s8)) ((q4.sub s8).app r5))

def sp__law_kept (c : CT) : DSp := sp2 fun e w M Q _ => ∃ a j t, e = .ref a ∧ w = .int (j : Nat) ∧ j < 16 ∧ M a = (errL c t)[j]? ∧ Q (keptD j t) M
/-- _law_kept: 0 _law_e, 1 _law_at -/
def N__law_kept : List Str := ["_law_e", "_law_at"]
def t__law_kept (c : CT) (W : DWX) : DTS :=
  dSeq (dIfS (dTst (dOp (rInD false) (dVar 1) (dLst false [dC (.int 12), dC (.int 14)]))) (dRet (dC .non)) (dNext))
  (dRet (dIf (dTst (dOp (rInD false) (dVar 1) (dLst false [dC (.int 6), dC (.int 7), dC (.int 8), dC (.int 9), dC (.int 10), dC (.int 15)]))) (dXfv "index" [c.InvalidKinds, c.InvalidTable, c.InvalidRow, c.InvalidHighs, c.InvalidDepths, c.Broken] (dVar 0)) (dXfv "given" [c.InvalidText, c.InvalidNumber, c.InvalidName, c.InvalidWish, c.InvalidIndex, c.NotHeaps, c.UnknownName, c.TooFew] (dVar 0))))
theorem len__law_kept (c : CT) : ∀ ds M Q E, sp__law_kept c ds M Q E → ds.length = ["_law_e", "_law_at"].length := sp2_len
theorem pure__law_kept (c : CT) : ∀ ds M Q E, sp__law_kept c ds M Q E → t__law_kept c (fnW E) (fnEnds Q) (startD N__law_kept ds) M := sp2_of fun e w M Q E h => by
  obtain ⟨a, j, t, rfl, rfl, hj, em, q⟩ := h
  show t__law_kept c (fnW E) (fnEnds Q) [some (.ref a), some (.int (j : Nat))] M
  rcases j16 hj with h | h | h | h | h | h | h | h | h | h | h | h | h | h | h | h <;> subst h
  all_goals
    conv => whnf
    refine ⟨rfl, rfl, ?_⟩
    conv => whnf
    first
    | exact fn_rt q
    | skip
  all_goals
    refine ⟨rfl, rfl, ?_⟩
    conv => whnf
    exact ⟨_, _, _, rfl, em, by simp, fn_rt q⟩

def sp__law_right (c : CT) : DSp := sp1 fun p M Q _ => ∃ a x y z, p = .ref a ∧ M a = some (.lst [.int x, .int y, .int z]) ∧ PotI x y z ∧ z ≤ 10 ^ 6 ∧ ∀ o, Q (.bl true) (up M a o)
def t__law_right_c1 (c : CT) (W : DWX) : DTS :=
  dIfS (dTst (dOp (rEqDD true) (dCB rReprXD [dOwn [0, 1] [] (sp__law_kept c) noW [dOp rIxD (dVar 4) (dVar 5), dVar 5] []]) (dCB rReprXD [dIf (dTst (dOp (rInD false) (dVar 5) (dLst false [dC (.int 12), dC (.int 14)]))) (dC .non) (dVar 3)]))) (dRet (dC (.bl false))) (dNext)
def t__law_right_c2 (c : CT) (W : DWX) : DTS :=
  dSeq (dIfS (dTst (dOp (rEqDD true) (dOwn [0] [] (sp__law_bases c) noW [dOp rIxD (dVar 4) (dVar 5)] []) (dOp (rMulD false) (dLc false (diRng1 (dC (.int 3))) (dgName 7) dYes (dOp (rEqDD false) (dVar 7) (dVar 6)) [7]) (dC (.int 2))))) (dRet (dC (.bl false))) (dNext))
  (t__law_right_c1 c W)
def t__law_right_c3 (c : CT) (W : DWX) : DTS :=
  dSeq (dIfS (dTst (dOp (rEqDD true) (dOwn [0] [] (sp__law_sorts c) noW [dOp rIxD (dVar 4) (dVar 5)] []) (dLc false (diRng1 (dC (.int 16))) (dgName 7) dYes (dOp (rEqDD false) (dVar 7) (dVar 5)) [7]))) (dRet (dC (.bl false))) (dNext))
  (t__law_right_c2 c W)
def t__law_right_c4 (c : CT) (W : DWX) : DTS :=
  dSeq (dAsg (dIf (dTst (dOp rLtD (dVar 5) (dC (.int 11)))) (dC (.int 0)) (dIf (dTst (dOp (rEqDD false) (dVar 5) (dC (.int 11)))) (dC (.int 1)) (dC (.int 2)))) (dgName 6))
  (t__law_right_c3 c W)
def t__law_right_c5 (c : CT) (W : DWX) : DTS :=
  dFor (diRng1 (dC (.int 16))) (dgName 5)
  (t__law_right_c4 c W)
def t__law_right_c6 (c : CT) (W : DWX) : DTS :=
  dFor (diSeq (dOwn [0] [] (sp__law_made c) noW [dVar 3] [])) (dgName 4)
  (t__law_right_c5 c W)
def t__law_right_c7 (c : CT) (W : DWX) : DTS :=
  dSeq (dAsg (dOp rIxD (dVar 2) (dOwn [0, 1] [] (sp__law_scoop c) noW [dVar 0, dC (.int 15)] [])) (dgName 3))
  (t__law_right_c6 c W)
/-- _law_right: 0 _law_pot_here, 1 _law_turn, 2 _law_menu, 3 _law_thing, 4 _law_some, 5 _law_at, 6 _law_base, 7 _law_k -/
def N__law_right : List Str := ["_law_pot_here", "_law_turn", "_law_menu", "_law_thing", "_law_some", "_law_at", "_law_base", "_law_k"]
def t__law_right (c : CT) (W : DWX) : DTS :=
  dSeq (dFor (diRng1 (dC (.int 3))) (dgName 1)
  (dSeq (dAsg (dLst false [dC .non, dC (.bl true), dC (.int 0), dNeg (dC (.int 7)), dOp rPowD (dC (.int 10)) (dC (.int 30)), dC (.str ""), dC (.str "a b"), dTup [], dTup [dC (.int 1), dC (.str "x")], dLst false [], dLst false [dC .non], dDnew, dDone (dC (.str "a")) (dC (.int 1)), dTup [dC (.str "b"), dC (.str "a")], dC (.bl false)]) (dgName 2))
  (t__law_right_c7 c W)))
  (dRet (dC (.bl true)))
theorem len__law_right (c : CT) : ∀ ds M Q E, sp__law_right c ds M Q E → ds.length = ["_law_pot_here"].length := sp1_len
section
variable {c : CT} {W : DWX} {E : DEnds} {M : DHp} {es : List D} {t : D} {j : Nat} {o0 o1 o2 o4 o5 o6 o7 : Option D}
theorem rep_non : ∀ M, RepP M .non := rep_of .none (fun _ => rfl) (fun _ => rfl) (by decide +kernel) (by decide +kernel) (by decide +kernel)
theorem r1_c1 (hj : j < 16) (re : RefsAt M es (errL c t)) (rp : RepP M t) (next : E.nx [o0, o1, o2, some t, some (.lst es), some (.int (j : Nat)), o6, o7] M) : t__law_right_c1 c W E [o0, o1, o2, some t, some (.lst es), some (.int (j : Nat)), o6, o7] M := by
  obtain ⟨C, ns, ds, eo, ec⟩ := err_at (c := c) (t := t) hj
  obtain ⟨a, ea, em⟩ := re.get eo
  unfold t__law_right_c1
  refine ifs_rep (x := keptD j t) ?_ (fun R r => ?_) (fun R r => ?_) next
  · unfold keptD
    split
    · exact rep_non M
    · exact rp
  · exact own2 (fun R r => e_ix rfl rfl ea r) (fun R r => e_var rfl r) ⟨a, j, t, rfl, rfl, hj, em.trans eo.symm, r⟩
  · rcases j16 hj with h | h | h | h | h | h | h | h | h | h | h | h | h | h | h | h <;> subst h
    all_goals
      conv => whnf
      exact ⟨rfl, rfl, r⟩
theorem r1_c2 (hj : j < 16) (re : RefsAt M es (errL c t)) (rp : RepP M t) (next : E.nx [o0, o1, o2, some t, some (.lst es), some (.int (j : Nat)), some (.int (baseI j)), o7] M) : t__law_right_c2 c W E [o0, o1, o2, some t, some (.lst es), some (.int (j : Nat)), some (.int (baseI j)), o7] M := by
  obtain ⟨C, ns, ds, eo, ec⟩ := err_at (c := c) (t := t) hj
  obtain ⟨a, ea, em⟩ := re.get eo
  unfold t__law_right_c2
  refine ifs_same (E := { E with nx := t__law_right_c1 c W E }) (ds := basesL j ++ basesL j) (bases_sh hj) (fun R r => ?_) (fun R r => ?_) (r1_c1 (W := W) hj re rp next)
  · exact own1 (fun R r => e_ix rfl rfl ea r) ⟨a, C, ns, ds, j, rfl, em, ec, hj, r⟩
  · refine e_mul2 (a := eqL 3 (baseI j)) (fun R r => lc_eq (n := 3) (by decide) (fun _ => rfl) (fun _ => rfl) r) (Nat.le_of_ble_eq_true rfl) ?_
    rw [bases_eq hj]
    exact r
theorem r1_c3 (hj : j < 16) (re : RefsAt M es (errL c t)) (rp : RepP M t) (next : E.nx [o0, o1, o2, some t, some (.lst es), some (.int (j : Nat)), some (.int (baseI j)), o7] M) : t__law_right_c3 c W E [o0, o1, o2, some t, some (.lst es), some (.int (j : Nat)), some (.int (baseI j)), o7] M := by
  obtain ⟨C, ns, ds, eo, ec⟩ := err_at (c := c) (t := t) hj
  obtain ⟨a, ea, em⟩ := re.get eo
  unfold t__law_right_c3
  refine ifs_same (E := { E with nx := t__law_right_c2 c W E }) (ds := sortsL j) (sorts_sh hj) (fun R r => ?_) (fun R r => ?_) (r1_c2 (W := W) hj re rp next)
  · exact own1 (fun R r => e_ix rfl rfl ea r) ⟨a, C, ns, ds, j, rfl, em, ec, hj, r⟩
  · refine lc_eq (n := 16) (b := (j : Int)) (by decide) (fun _ => rfl) (fun _ => rfl) ?_
    rw [sorts_eq hj]
    exact r
theorem r1_c4 (hj : j < 16) (re : RefsAt M es (errL c t)) (rp : RepP M t) (next : E.nx [o0, o1, o2, some t, some (.lst es), some (.int (j : Nat)), some (.int (baseI j)), o7] M) : t__law_right_c4 c W E [o0, o1, o2, some t, some (.lst es), some (.int (j : Nat)), o6, o7] M := by
  have h := r1_c3 (W := W) hj re rp next
  unfold t__law_right_c4
  rcases j16 hj with e | e | e | e | e | e | e | e | e | e | e | e | e | e | e | e <;> subst e <;> first | exact h | exact ⟨rfl, rfl, h⟩
/-- the errors of one way of making -/
theorem r1_c5 (re : RefsAt M es (errL c t)) (rp : RepP M t) (next : ∀ o5 o6 o7, E.nx [o0, o1, o2, some t, some (.lst es), o5, o6, o7] M) : t__law_right_c5 c W E [o0, o1, o2, some t, some (.lst es), o5, o6, o7] M := by
  unfold t__law_right_c5
  refine ⟨by decide, by decide, for_nums (fun _ τ M1 => M1 = M ∧ ∃ o5 o6 o7, τ = [o0, o1, o2, some t, some (.lst es), o5, o6, o7]) (n := 16) (lo := 0) ?_ ?_ ⟨rfl, o5, o6, o7, rfl⟩⟩
  · rintro τ M1 ⟨rfl, o5, o6, o7, rfl⟩
    exact next o5 o6 o7
  · rintro i τ M1 R hi ⟨rfl, o5, o6, o7, rfl⟩ k
    rw [Int.zero_add]
    show t__law_right_c4 c W { E with nx := R } [o0, o1, o2, some t, some (.lst es), some (.int (i : Nat)), o6, o7] M1
    exact r1_c4 hi re rp (k _ M1 _ M1 ⟨rfl, _, _, _, rfl⟩ (SubS.refl _) (Sub.refl _))
theorem r1_c6 (rp : ∀ M1, Sub M M1 → RepP M1 t) (next : ∀ M1 o4 o5 o6 o7, Sub M M1 → E.nx [o0, o1, o2, some t, o4, o5, o6, o7] M1) : t__law_right_c6 c W E [o0, o1, o2, some t, o4, o5, o6, o7] M := by
  unfold t__law_right_c6
  refine own1 (x := t) (Q := fun x M1 => wth (seqOf x M1) fun ds => forR (stands x ds) (dgName 4) (t__law_right_c5 c W) E ds [o0, o1, o2, some t, o4, o5, o6, o7] M1) (fun R r => e_var rfl r) fun M1 es fs s1 re rf => ?_
  refine wth_some (a := [.lst es, .lst fs]) rfl ?_
  refine forR_inv (fun xs τ M2 => M2 = M1 ∧ (∀ x ∈ xs, ∃ es, x = .lst es ∧ RefsAt M1 es (errL c t)) ∧ ∃ o4 o5 o6 o7, τ = [o0, o1, o2, some t, o4, o5, o6, o7]) ?_ ?_ _ _ _ ⟨rfl, fun x hx => ?_, _, _, _, _, rfl⟩
  · rintro τ M2 ⟨rfl, _, o4, o5, o6, o7, rfl⟩
    exact ⟨trivial, next _ _ _ _ _ s1⟩
  · rintro x xs τ M2 R ⟨rfl, hx, o4, o5, o6, o7, rfl⟩ k
    obtain ⟨es, rfl, re⟩ := hx x List.mem_cons_self
    refine ⟨trivial, ?_⟩
    show t__law_right_c5 c W { E with nx := R } [o0, o1, o2, some t, some (.lst es), o5, o6, o7] M2
    exact r1_c5 re (rp _ s1) fun o5 o6 o7 => k _ M2 _ M2 ⟨rfl, fun y hy => hx y (List.mem_cons_of_mem _ hy), _, _, _, _, rfl⟩ (SubS.refl _) (Sub.refl _)
  · rcases List.mem_cons.mp hx with rfl | hx
    · exact ⟨es, rfl, re⟩
    · obtain rfl := List.mem_singleton.mp hx
      exact ⟨fs, rfl, rf⟩
theorem th_pow {a : Addr} {τ : DSt} : Th a τ (dOp rPowD (dC (.int 10)) (dC (.int 30))) := th_v (d := .int (10 ^ 30)) (fun M Q q => ⟨by unfold CPow; decide, q⟩) (rep_of (.int (10 ^ 30)) (fun _ => rfl) (fun _ => rfl) (by decide +kernel) (by decide +kernel) (by decide +kernel))
theorem r1_c7 {a : Addr} {x y z : Int} {ds : List D} {o3 : Option D} (em : M a = some (.lst [.int x, .int y, .int z])) (P : PotI x y z) (zb : z ≤ 10 ^ 7) (dl : ds.length = 15) (dp : ∀ d ∈ ds, ∀ M2, Kp a M M2 → RepP M2 d)
    (next : ∀ M1 x y z' o3 o4 o5 o6 o7, Kp a M M1 → M1 a = some (.lst [.int x, .int y, .int z']) → PotI x y z' → z' ≤ z + 1 → E.nx [some (.ref a), o1, some (.lst ds), o3, o4, o5, o6, o7] M1) : t__law_right_c7 c W E [some (.ref a), o1, some (.lst ds), o3, o4, o5, o6, o7] M := by
  unfold t__law_right_c7
  show wth (sl [some (.ref a), o1, some (.lst ds), o3, o4, o5, o6, o7] 2) (fun x => dOwn [0, 1] [] (sp__law_scoop c) noW [dVar 0, dC (.int 15)] [] [some (.ref a), o1, some (.lst ds), o3, o4, o5, o6, o7] M fun y M3 => rIxD x y M3 fun t M4 => t__law_right_c6 c W E [some (.ref a), o1, some (.lst ds), some t, o4, o5, o6, o7] M4)
  refine wth_some (a := D.lst ds) rfl ?_
  refine own2 (x := .ref a) (y := .int 15) (Q := fun y M3 => rIxD (.lst ds) y M3 fun t M4 => t__law_right_c6 c W E [some (.ref a), o1, some (.lst ds), some t, o4, o5, o6, o7] M4) (fun R r => e_var rfl r) (fun R r => r) ⟨a, x, y, z, 15, rfl, rfl, by decide, by decide, em, P, by omega, fun d x' y' z' d0 d1 P' z1 => ?_⟩
  obtain ⟨n, rfl⟩ := Int.eq_ofNat_of_zero_le d0
  have hn : n < ds.length := by omega
  show wth (seqOf (.lst ds) (up M a (.lst [.int x', .int y', .int z']))) (fun ds' => wth (atI ds' (n : Int)) fun t => t__law_right_c6 c W E [some (.ref a), o1, some (.lst ds), some t, o4, o5, o6, o7] (up M a (.lst [.int x', .int y', .int z'])))
  refine wth_some (a := ds) rfl (wth_some (at_nn (List.getElem?_eq_getElem hn)) ?_)
  refine r1_c6 (fun M1 s => dp _ (List.getElem_mem hn) M1 (Kp.put.more s)) fun M1 p4 p5 p6 p7 s => ?_
  exact next M1 x' y' z' _ _ _ _ _ (Kp.put.more s) (s _ _ up_same) P' z1
end
theorem pure__law_right (c : CT) : ∀ ds M Q E, sp__law_right c ds M Q E → t__law_right c (fnW E) (fnEnds Q) (startD N__law_right ds) M := sp1_of fun p M Q E h => by
  obtain ⟨a, x, y, z, rfl, em, P, zb, q⟩ := h
  show t__law_right c (fnW E) (fnEnds Q) [some (.ref a), none, none, none, none, none, none, none] M
  unfold t__law_right
  refine ⟨by decide, by decide, for_nums (fun i τ M1 => Kp a M M1 ∧ (∃ x y z : Int, M1 a = some (.lst [.int x, .int y, .int z]) ∧ PotI x y z ∧ z ≤ 10 ^ 6 + i) ∧ ∃ o1 o2 o3 o4 o5 o6 o7, τ = [some (.ref a), o1, o2, o3, o4, o5, o6, o7]) (n := 3) (lo := 0) ?_ ?_ ⟨Kp.refl a M, ⟨x, y, z, em, P, by omega⟩, _, _, _, _, _, _, _, rfl⟩⟩
  · rintro τ M1 ⟨kp, ⟨x1, y1, z1, e1, _, _⟩, _⟩
    exact ⟨_, kp.sub e1, q _⟩
  · rintro i τ M1 R hi ⟨kp, ⟨x1, y1, z1, e1, P1, b1⟩, o1, o2, o3, o4, o5, o6, o7, rfl⟩ k
    refine st_th (a := a) (.cons (th_v (d := .non) (fun M Q q => q) (rep_of (.none) (fun _ => rfl) (fun _ => rfl) (by decide +kernel) (by decide +kernel) (by decide +kernel))) (.cons (th_v (d := .bl true) (fun M Q q => q) (rep_of (.bool true) (fun _ => rfl) (fun _ => rfl) (by decide +kernel) (by decide +kernel) (by decide +kernel))) (.cons (th_v (d := .int 0) (fun M Q q => q) (rep_of (.int 0) (fun _ => rfl) (fun _ => rfl) (by decide +kernel) (by decide +kernel) (by decide +kernel))) (.cons (th_v (d := .int (-7)) (fun M Q q => q) (rep_of (.int (-7)) (fun _ => rfl) (fun _ => rfl) (by decide +kernel) (by decide +kernel) (by decide +kernel))) (.cons th_pow (.cons (th_v (d := .str "") (fun M Q q => q) (rep_of (.str "") (fun _ => rfl) (fun _ => rfl) (by decide +kernel) (by decide +kernel) (by decide +kernel))) (.cons (th_v (d := .str "a b") (fun M Q q => q) (rep_of (.str "a b") (fun _ => rfl) (fun _ => rfl) (by decide +kernel) (by decide +kernel) (by decide +kernel))) (.cons (th_v (d := .tup []) (fun M Q q => q) (rep_of (.tuple []) (fun _ => rfl) (fun _ => rfl) (by decide +kernel) (by decide +kernel) (by decide +kernel))) (.cons (th_v (d := .tup [.int 1, .str "x"]) (fun M Q q => q) (rep_of (.tuple [.int 1, .str "x"]) (fun _ => rfl) (fun _ => rfl) (by decide +kernel) (by decide +kernel) (by decide +kernel))) (.cons (th_v (d := .lst []) (fun M Q q => q) (rep_of (.list []) (fun _ => rfl) (fun _ => rfl) (by decide +kernel) (by decide +kernel) (by decide +kernel))) (.cons (th_v (d := .lst [.non]) (fun M Q q => q) (rep_of (.list [.none]) (fun _ => rfl) (fun _ => rfl) (by decide +kernel) (by decide +kernel) (by decide +kernel))) (.cons th_new (.cons th_one (.cons (th_v (d := .tup [.str "b", .str "a"]) (fun M Q q => q) (rep_of (.tuple [.str "b", .str "a"]) (fun _ => rfl) (fun _ => rfl) (by decide +kernel) (by decide +kernel) (by decide +kernel))) (.cons (th_v (d := .bl false) (fun M Q q => q) (rep_of (.bool false) (fun _ => rfl) (fun _ => rfl) (by decide +kernel) (by decide +kernel) (by decide +kernel))) .nil))))))))))))))) ⟨_, e1⟩ fun ds M2 s2 p2 l2 => ?_
    refine r1_c7 (s2 _ _ e1) P1 (by omega) l2 p2 fun M3 x2 y2 z2 o3 o4 o5 o6 o7 kp3 e3 P3 b3 => ?_
    exact k _ M3 _ M3 ⟨(kp.more s2).trans kp3, ⟨x2, y2, z2, e3, P3, by omega⟩, _, _, _, _, _, _, _, rfl⟩ (SubS.refl _) (Sub.refl _)

def sp_law (c : CT) : DSp := sp1 fun s M Q _ => ∃ ns, s = .scr ns ∧ ns.length ≤ 63 ∧ Q (.bl true) M
def t_law_c1 (c : CT) (W : DWX) : DTS :=
  dSeq (dIfS (dTst (dOp (rEqDD true) (dCB rReprD [dVar 1]) (dCB rReprD [dLst false [dC (.int 12), dOp rPowD (dC (.int 10)) (dC (.int 30)), dOp rPowD (dC (.int 10)) (dC (.int 30)), dC (.int 9), dC (.int 400), dC (.int 14), dC (.int 6)]]))) (dRet (dC (.bl false))) (dNext))
  (dRet (dCB rAllD [dLc false (diRng1 (dCB rMax2 [dC (.int 2), dCB rMin2 [dCB rLen0D [dVar 0], dC (.int 4)]])) (dgName 2) dYes (dOwn [0] [] (sp__law_right c) noW [dOwn [0, 1] [] (sp__law_pot c) noW [dVar 0, dVar 2] []] []) [2]]))
/-- law: 0 _law_script, 1 _law_limits_here, 2 _law_turn -/
def N_law : List Str := ["_law_script", "_law_limits_here", "_law_turn"]
def t_law (c : CT) (W : DWX) : DTS :=
  dSeq (dAsg (dLst false [dC (.int 12), dC (.int 1000000000000000000000000000000), dC (.int 1000000000000000000000000000000), dC (.int 9), dC (.int 400), dC (.int 14), dC (.int 6)]) (dgName 1))
  (t_law_c1 c W)
theorem len_law (c : CT) : ∀ ds M Q E, sp_law c ds M Q E → ds.length = ["_law_script"].length := sp1_len
theorem ifs_repD {τ : DSt} {M : DHp} {E : DEnds} {te1 te2 : DTE} {x : D} (rp : SeqAt.shaped (pyM M x) = true ∧ (pyM M x).showable = true ∧ (pyM M x).depth ≤ 60 ∧ (pyM M x).shown.length ≤ sizeLine) (h1 : ∀ R : DVK, R x M → te1 τ M R) (h2 : ∀ R : DVK, R x M → te2 τ M R) (next : E.nx τ M) :
    dIfS (dTst (dOp (rEqDD true) (dCB rReprD [te1]) (dCB rReprD [te2]))) (dRet (dC (.bl false))) dNext E τ M := by
  have e : (true != ((pyM M x).shown == (pyM M x).shown)) = false := by rw [beq_self_eq_true]; rfl
  have key : ∀ b : Bool, b = false → (match D.bl b with | .bl b => (match b with | true => dRet (dC (.bl false)) E τ M | false => dNext E τ M) | _ => False) := fun b h => by subst h; exact next
  exact h1 _ ⟨rp, h2 _ ⟨rp, key _ e⟩⟩
def limL : D := .lst [.int 12, .int 1000000000000000000000000000000, .int 1000000000000000000000000000000, .int 9, .int 400, .int 14, .int 6]
theorem lim_rep (M : DHp) : SeqAt.shaped (pyM M limL) = true ∧ (pyM M limL).showable = true ∧ (pyM M limL).depth ≤ 60 ∧ (pyM M limL).shown.length ≤ sizeLine := by
  rw [show pyM M limL = .list [.int 12, .int 1000000000000000000000000000000, .int 1000000000000000000000000000000, .int 9, .int 400, .int 14, .int 6] from rfl]
  exact ⟨by decide +kernel, by decide +kernel, by decide +kernel, line_1000 (by decide +kernel)⟩
theorem pow30 : (10 : Int) ^ (30 : Int).toNat = 1000000000000000000000000000000 := by decide +kernel
theorem pure_law (c : CT) : ∀ ds M Q E, sp_law c ds M Q E → t_law c (fnW E) (fnEnds Q) (startD N_law ds) M := sp1_of fun s M Q E h => by
  obtain ⟨ns, rfl, nl, q⟩ := h
  show t_law_c1 c (fnW E) (fnEnds Q) [some (.scr ns), some limL, none] M
  unfold t_law_c1
  refine ifs_repD (E := { fnEnds Q with nx := dRet _ (fnEnds Q) }) (lim_rep M) (fun R r => e_var rfl r) (fun R r => ?_) ?_
  · refine ⟨by unfold CPow; decide, ⟨by unfold CPow; decide, ?_⟩⟩
    have r : R (.lst [.int 12, .int ((10 : Int) ^ (30 : Int).toNat), .int ((10 : Int) ^ (30 : Int).toNat), .int 9, .int 400, .int 14, .int 6]) M := by rw [pow30]; exact r
    exact r
  generalize limL = L
  conv => whnf
  have top : ∀ n : Int, n ≤ 100 → -(2 ^ 62) ≤ n → n ≤ 1000000 ∧ -(2 ^ 62) ≤ n ∧ ∀ p, M p = none → lcR (fun _ => True) (dgName 2) dYes (dOwn [0] [] (sp__law_right c) noW [dOwn [0, 1] [] (sp__law_pot c) noW [dVar 0, dVar 2] []] []) [some (.scr ns), some L, none] p (nums 0 n.toNat) [] M (lcEnd false p fun x M1 => dArgs [] [some (.scr ns), some L, none] M1 fun ds M2 => rAllD (x :: ds) M2 (fnEnds Q).rt) := fun n n1 n0 => by
    refine ⟨by omega, n0, fun p np => lcR_mapS (f := fun _ => .bl true) (fun _ => trivial) np ?_ ?_⟩
    · intro x hx acc R r
      obtain ⟨k, rfl, k0, k1⟩ := nums_mem hx
      conv => whnf
      refine ⟨ns, k, rfl, rfl, k0, by omega, nl, fun u x1 y1 nu P1 => ?_⟩
      conv => whnf
      refine ⟨u, x1, y1, 0, rfl, up_same, P1, by decide, fun o => ?_⟩
      exact r _ (by rw [up_up]; exact sub_up nu)
    · have e1 : [] ++ (nums 0 n.toNat).map (fun _ => D.bl true) = ((nums 0 n.toNat).map fun _ => true).map D.bl := by
        rw [List.nil_append, List.map_map]
        rfl
      rw [e1]
      conv => whnf
      rw [blsOf_map]
      have e2 : ((nums 0 n.toNat).map fun _ => true).all id = true := by
        rw [List.all_map]
        exact List.all_eq_true.mpr fun _ _ => rfl
      show (fnEnds Q).rt (.bl (((nums 0 n.toNat).map fun _ => true).all id)) M
      rw [e2]
      exact fn_rt q
  exact top _ (by split <;> split <;> omega) (by split <;> split <;> omega)
theorem law_starts (c : CT) (ns : List Int) (hl : ns.length ≤ 63) (_ : ∀ i ∈ ns, Builtin.Int.intBits i ≤ 1048576) (Q : DVK) (hQ : ∀ M, Q (.bl true) M) : sp_law c [.scr ns] (fun _ => none) Q noX := ⟨ns, rfl, hl, hQ _⟩

end Rh
/-! ### the walk -/
namespace Rh
open PySem PySem.Spec PyProof.Rows L2
def topS (i : Nat) : Stmt := PySem.Challenge.pw_runheaps_k01_limits_and_errors.main.body.getD i (.Pass ⟨0, 0, 0, 0⟩)
def inC (s : Stmt) (j : Nat) : Stmt := match s with
  | .ClassDef _ _ _ body _ _ _ _ _ _ _ => body.getD j (.Pass ⟨0, 0, 0, 0⟩)
  | _ => .Pass ⟨0, 0, 0, 0⟩
/-- what the walk uses of the written part -/
structure TF (K : PySem.W.Frag) (mg : Str → Option Value) (c : CT) : Prop where
  b_ArithmeticError : mg "ArithmeticError" = none
  b_LookupError : mg "LookupError" = none
  b_ValueError : mg "ValueError" = none
  b_abs : mg "abs" = none
  b_all : mg "all" = none
  b_divmod : mg "divmod" = none
  b_int : mg "int" = none
  b_isinstance : mg "isinstance" = none
  b_len : mg "len" = none
  b_max : mg "max" = none
  b_min : mg "min" = none
  b_range : mg "range" = none
  b_repr : mg "repr" = none
  c_MOST_AT_ONCE : ∃ t, mg "MOST_AT_ONCE" = some (.int 9 t)
  c_MOST_DEPTH : ∃ t, mg "MOST_DEPTH" = some (.int 400 t)
  c_MOST_KINDS : ∃ t, mg "MOST_KINDS" = some (.int 12 t)
  c_MOST_MANY : ∃ t, mg "MOST_MANY" = some (.int 1000000000000000000000000000000 t)
  c_MOST_ROW : ∃ t, mg "MOST_ROW" = some (.int 14 t)
  c_MOST_SIZE : ∃ t, mg "MOST_SIZE" = some (.int 1000000000000000000000000000000 t)
  c_MOST_STRETCHED : ∃ t, mg "MOST_STRETCHED" = some (.int 6 t)
  g_Broken : mg "Broken" = some (.ref c.Broken)
  g_InvalidDepths : mg "InvalidDepths" = some (.ref c.InvalidDepths)
  g_InvalidHighs : mg "InvalidHighs" = some (.ref c.InvalidHighs)
  g_InvalidIndex : mg "InvalidIndex" = some (.ref c.InvalidIndex)
  g_InvalidKinds : mg "InvalidKinds" = some (.ref c.InvalidKinds)
  g_InvalidName : mg "InvalidName" = some (.ref c.InvalidName)
  g_InvalidNumber : mg "InvalidNumber" = some (.ref c.InvalidNumber)
  g_InvalidRow : mg "InvalidRow" = some (.ref c.InvalidRow)
  g_InvalidTable : mg "InvalidTable" = some (.ref c.InvalidTable)
  g_InvalidText : mg "InvalidText" = some (.ref c.InvalidText)
  g_InvalidWish : mg "InvalidWish" = some (.ref c.InvalidWish)
  g_NoAnswer : mg "NoAnswer" = some (.ref c.NoAnswer)
  g_NoPlan : mg "NoPlan" = some (.ref c.NoPlan)
  g_NotHeaps : mg "NotHeaps" = some (.ref c.NotHeaps)
  g_NothingToUndo : mg "NothingToUndo" = some (.ref c.NothingToUndo)
  g_TooFew : mg "TooFew" = some (.ref c.TooFew)
  g_UnknownName : mg "UnknownName" = some (.ref c.UnknownName)
  g_WrongName : mg "WrongName" = some (.ref c.WrongName)
  g_WrongValue : mg "WrongValue" = some (.ref c.WrongValue)
  xn_NoPlan : XnP K c.NoPlan
  xn_NothingToUndo : XnP K c.NothingToUndo
  xv_given : ∀ C ∈ [c.InvalidText, c.InvalidNumber, c.InvalidName, c.InvalidWish, c.InvalidIndex, c.NotHeaps, c.UnknownName, c.TooFew], XfC K C ∧ PySem.W.findIn K (.ref C) "given" = some none
  xv_index : ∀ C ∈ [c.InvalidKinds, c.InvalidTable, c.InvalidRow, c.InvalidHighs, c.InvalidDepths, c.Broken], XfC K C ∧ PySem.W.findIn K (.ref C) "index" = some none
  ie_ArithmeticError : ∀ (j : Nat) (C : Addr) (b : Bool), (exC c)[j]? = some C → [false, false, false, false, false, false, false, false, false, false, false, false, true, true, true, true][j]? = some b → L2.ExcC K C ∧ PySem.W.kitOne K (.ref C) (.type "ArithmeticError") = some b
  ie_Broken : ∀ (j : Nat) (C : Addr) (b : Bool), (exC c)[j]? = some C → [false, false, false, false, false, false, false, false, false, false, false, false, false, false, false, true][j]? = some b → L2.ExcC K C ∧ PySem.W.kitOne K (.ref C) (.ref c.Broken) = some b
  ie_InvalidDepths : ∀ (j : Nat) (C : Addr) (b : Bool), (exC c)[j]? = some C → [false, false, false, false, false, false, false, false, false, false, true, false, false, false, false, false][j]? = some b → L2.ExcC K C ∧ PySem.W.kitOne K (.ref C) (.ref c.InvalidDepths) = some b
  ie_InvalidHighs : ∀ (j : Nat) (C : Addr) (b : Bool), (exC c)[j]? = some C → [false, false, false, false, false, false, false, false, false, true, false, false, false, false, false, false][j]? = some b → L2.ExcC K C ∧ PySem.W.kitOne K (.ref C) (.ref c.InvalidHighs) = some b
  ie_InvalidIndex : ∀ (j : Nat) (C : Addr) (b : Bool), (exC c)[j]? = some C → [false, false, false, false, true, false, false, false, false, false, false, false, false, false, false, false][j]? = some b → L2.ExcC K C ∧ PySem.W.kitOne K (.ref C) (.ref c.InvalidIndex) = some b
  ie_InvalidKinds : ∀ (j : Nat) (C : Addr) (b : Bool), (exC c)[j]? = some C → [false, false, false, false, false, false, true, false, false, false, false, false, false, false, false, false][j]? = some b → L2.ExcC K C ∧ PySem.W.kitOne K (.ref C) (.ref c.InvalidKinds) = some b
  ie_InvalidName : ∀ (j : Nat) (C : Addr) (b : Bool), (exC c)[j]? = some C → [false, false, true, false, false, false, false, false, false, false, false, false, false, false, false, false][j]? = some b → L2.ExcC K C ∧ PySem.W.kitOne K (.ref C) (.ref c.InvalidName) = some b
  ie_InvalidNumber : ∀ (j : Nat) (C : Addr) (b : Bool), (exC c)[j]? = some C → [false, true, false, false, false, false, false, false, false, false, false, false, false, false, false, false][j]? = some b → L2.ExcC K C ∧ PySem.W.kitOne K (.ref C) (.ref c.InvalidNumber) = some b
  ie_InvalidRow : ∀ (j : Nat) (C : Addr) (b : Bool), (exC c)[j]? = some C → [false, false, false, false, false, false, false, false, true, false, false, false, false, false, false, false][j]? = some b → L2.ExcC K C ∧ PySem.W.kitOne K (.ref C) (.ref c.InvalidRow) = some b
  ie_InvalidTable : ∀ (j : Nat) (C : Addr) (b : Bool), (exC c)[j]? = some C → [false, false, false, false, false, false, false, true, false, false, false, false, false, false, false, false][j]? = some b → L2.ExcC K C ∧ PySem.W.kitOne K (.ref C) (.ref c.InvalidTable) = some b
  ie_InvalidText : ∀ (j : Nat) (C : Addr) (b : Bool), (exC c)[j]? = some C → [true, false, false, false, false, false, false, false, false, false, false, false, false, false, false, false][j]? = some b → L2.ExcC K C ∧ PySem.W.kitOne K (.ref C) (.ref c.InvalidText) = some b
  ie_InvalidWish : ∀ (j : Nat) (C : Addr) (b : Bool), (exC c)[j]? = some C → [false, false, false, true, false, false, false, false, false, false, false, false, false, false, false, false][j]? = some b → L2.ExcC K C ∧ PySem.W.kitOne K (.ref C) (.ref c.InvalidWish) = some b
  ie_LookupError : ∀ (j : Nat) (C : Addr) (b : Bool), (exC c)[j]? = some C → [false, false, false, false, false, false, false, false, false, false, false, true, false, false, false, false][j]? = some b → L2.ExcC K C ∧ PySem.W.kitOne K (.ref C) (.type "LookupError") = some b
  ie_NoAnswer : ∀ (j : Nat) (C : Addr) (b : Bool), (exC c)[j]? = some C → [false, false, false, false, false, false, false, false, false, false, false, false, true, true, true, true][j]? = some b → L2.ExcC K C ∧ PySem.W.kitOne K (.ref C) (.ref c.NoAnswer) = some b
  ie_NoPlan : ∀ (j : Nat) (C : Addr) (b : Bool), (exC c)[j]? = some C → [false, false, false, false, false, false, false, false, false, false, false, false, true, false, false, false][j]? = some b → L2.ExcC K C ∧ PySem.W.kitOne K (.ref C) (.ref c.NoPlan) = some b
  ie_NotHeaps : ∀ (j : Nat) (C : Addr) (b : Bool), (exC c)[j]? = some C → [false, false, false, false, false, true, false, false, false, false, false, false, false, false, false, false][j]? = some b → L2.ExcC K C ∧ PySem.W.kitOne K (.ref C) (.ref c.NotHeaps) = some b
  ie_NothingToUndo : ∀ (j : Nat) (C : Addr) (b : Bool), (exC c)[j]? = some C → [false, false, false, false, false, false, false, false, false, false, false, false, false, false, true, false][j]? = some b → L2.ExcC K C ∧ PySem.W.kitOne K (.ref C) (.ref c.NothingToUndo) = some b
  ie_TooFew : ∀ (j : Nat) (C : Addr) (b : Bool), (exC c)[j]? = some C → [false, false, false, false, false, false, false, false, false, false, false, false, false, true, false, false][j]? = some b → L2.ExcC K C ∧ PySem.W.kitOne K (.ref C) (.ref c.TooFew) = some b
  ie_UnknownName : ∀ (j : Nat) (C : Addr) (b : Bool), (exC c)[j]? = some C → [false, false, false, false, false, false, false, false, false, false, false, true, false, false, false, false][j]? = some b → L2.ExcC K C ∧ PySem.W.kitOne K (.ref C) (.ref c.UnknownName) = some b
  ie_ValueError : ∀ (j : Nat) (C : Addr) (b : Bool), (exC c)[j]? = some C → [true, true, true, true, true, true, true, true, true, true, true, false, false, false, false, false][j]? = some b → L2.ExcC K C ∧ PySem.W.kitOne K (.ref C) (.type "ValueError") = some b
  ie_WrongName : ∀ (j : Nat) (C : Addr) (b : Bool), (exC c)[j]? = some C → [false, false, false, false, false, false, false, false, false, false, false, true, false, false, false, false][j]? = some b → L2.ExcC K C ∧ PySem.W.kitOne K (.ref C) (.ref c.WrongName) = some b
  ie_WrongValue : ∀ (j : Nat) (C : Addr) (b : Bool), (exC c)[j]? = some C → [true, true, true, true, true, true, true, true, true, true, true, false, false, false, false, false][j]? = some b → L2.ExcC K C ∧ PySem.W.kitOne K (.ref C) (.ref c.WrongValue) = some b
abbrev s_Broken___init__ : Stmt := inC (topS 19) 0
theorem S_Broken___init__ : FnScope ["self", "index"] ["self", "index"] (defScope s_Broken___init__) := ⟨rfl, rfl, rfl, by decide +kernel, rfl, by decide +kernel, by decide +kernel⟩
abbrev s_InvalidDepths___init__ : Stmt := inC (topS 12) 0
theorem S_InvalidDepths___init__ : FnScope ["self", "index"] ["self", "index"] (defScope s_InvalidDepths___init__) := ⟨rfl, rfl, rfl, by decide +kernel, rfl, by decide +kernel, by decide +kernel⟩
abbrev s_InvalidHighs___init__ : Stmt := inC (topS 11) 0
theorem S_InvalidHighs___init__ : FnScope ["self", "index"] ["self", "index"] (defScope s_InvalidHighs___init__) := ⟨rfl, rfl, rfl, by decide +kernel, rfl, by decide +kernel, by decide +kernel⟩
abbrev s_InvalidIndex___init__ : Stmt := inC (topS 6) 0
theorem S_InvalidIndex___init__ : FnScope ["self", "given"] ["self", "given"] (defScope s_InvalidIndex___init__) := ⟨rfl, rfl, rfl, by decide +kernel, rfl, by decide +kernel, by decide +kernel⟩
abbrev s_InvalidKinds___init__ : Stmt := inC (topS 8) 0
theorem S_InvalidKinds___init__ : FnScope ["self", "index"] ["self", "index"] (defScope s_InvalidKinds___init__) := ⟨rfl, rfl, rfl, by decide +kernel, rfl, by decide +kernel, by decide +kernel⟩
abbrev s_InvalidName___init__ : Stmt := inC (topS 4) 0
theorem S_InvalidName___init__ : FnScope ["self", "given"] ["self", "given"] (defScope s_InvalidName___init__) := ⟨rfl, rfl, rfl, by decide +kernel, rfl, by decide +kernel, by decide +kernel⟩
abbrev s_InvalidNumber___init__ : Stmt := inC (topS 3) 0
theorem S_InvalidNumber___init__ : FnScope ["self", "given"] ["self", "given"] (defScope s_InvalidNumber___init__) := ⟨rfl, rfl, rfl, by decide +kernel, rfl, by decide +kernel, by decide +kernel⟩
abbrev s_InvalidRow___init__ : Stmt := inC (topS 10) 0
theorem S_InvalidRow___init__ : FnScope ["self", "index"] ["self", "index"] (defScope s_InvalidRow___init__) := ⟨rfl, rfl, rfl, by decide +kernel, rfl, by decide +kernel, by decide +kernel⟩
abbrev s_InvalidTable___init__ : Stmt := inC (topS 9) 0
theorem S_InvalidTable___init__ : FnScope ["self", "index"] ["self", "index"] (defScope s_InvalidTable___init__) := ⟨rfl, rfl, rfl, by decide +kernel, rfl, by decide +kernel, by decide +kernel⟩
abbrev s_InvalidText___init__ : Stmt := inC (topS 2) 0
theorem S_InvalidText___init__ : FnScope ["self", "given"] ["self", "given"] (defScope s_InvalidText___init__) := ⟨rfl, rfl, rfl, by decide +kernel, rfl, by decide +kernel, by decide +kernel⟩
abbrev s_InvalidWish___init__ : Stmt := inC (topS 5) 0
theorem S_InvalidWish___init__ : FnScope ["self", "given"] ["self", "given"] (defScope s_InvalidWish___init__) := ⟨rfl, rfl, rfl, by decide +kernel, rfl, by decide +kernel, by decide +kernel⟩
abbrev s_NotHeaps___init__ : Stmt := inC (topS 7) 0
theorem S_NotHeaps___init__ : FnScope ["self", "given"] ["self", "given"] (defScope s_NotHeaps___init__) := ⟨rfl, rfl, rfl, by decide +kernel, rfl, by decide +kernel, by decide +kernel⟩
abbrev s_TooFew___init__ : Stmt := inC (topS 17) 0
theorem S_TooFew___init__ : FnScope ["self", "given"] ["self", "given"] (defScope s_TooFew___init__) := ⟨rfl, rfl, rfl, by decide +kernel, rfl, by decide +kernel, by decide +kernel⟩
abbrev s_UnknownName___init__ : Stmt := inC (topS 14) 0
theorem S_UnknownName___init__ : FnScope ["self", "given"] ["self", "given"] (defScope s_UnknownName___init__) := ⟨rfl, rfl, rfl, by decide +kernel, rfl, by decide +kernel, by decide +kernel⟩
abbrev s__law_pot : Stmt := topS 28
theorem S__law_pot : FnScope N__law_pot ["_law_script", "_law_turn"] (defScope s__law_pot) := ⟨rfl, rfl, rfl, by decide +kernel, rfl, by decide +kernel, by decide +kernel⟩
theorem dv__law_pot {P : Program} {w : World} {K : PySem.W.Frag} {mg : Str → Option Value} {base : Heap} {f : Addr} {cdv : Value} {A : Around} {outer : List Env} {s : Shared} {H : Hp} {E : XK} {O : Org} {W : DWX} {c : CT} (T : TF K mg c)
    (hG : A.guards = some []) (hr : Room 0 (A.deeper (envOfC "_law_pot" (defScope s__law_pot) s.heap.objs.size f cdv))) (tk : L2N.Takes (cxOf (L2N.CX P w) P w K mg base N__law_pot "_law_pot" (defScope s__law_pot) f cdv A outer s H E) (liftW K O W)) :
    DSs (cxOf (L2N.CX P w) P w K mg base N__law_pot "_law_pot" (defScope s__law_pot) f cdv A outer s H E) O (defBody s__law_pot) (t__law_pot c W) :=
  dss_cons (ds_set (i := 2) S__law_pot.nd rfl (.inl rfl) (de_if (dt_cmp op_lt ref_lt (de_var (pv 1)) (de_callB len_all ref_len (by rfl) T.b_len bt_len (das_cons (de_var (pv 0)) (das_nil))) (nomark _)) (de_ix (de_var (pv 0)) (de_var (pv 1)) (fun _ _ => rfl)) (de_op op_addAll (ref_add (mu := false)) (de_op op_mulAll (ref_mul (mu := false)) (de_c pe_int rfl) (de_var (pv 1))) (de_c pe_int rfl))))
      (dss_cons (ds_set (i := 3) S__law_pot.nd rfl (.inl rfl) (de_op op_addAll (ref_add (mu := false)) (de_c pe_int rfl) (de_op op_mulAll (ref_mul (mu := false)) (de_c pe_int rfl) (de_var (pv 1)))))
      (dss_cons (ds_for (vs := [4]) (by first | exact PassesOwn.never | exact passes_of rfl) rfl (di_seq (de_op op_addAll (ref_add (mu := false)) (de_lst false (das_cons (de_var (pv 2)) (das_nil))) (de_slice false (de_var (pv 0)) (do_none) (do_some (de_c pe_int rfl))))) (pg_name (i := 4) S__law_pot.nd rfl (.inl rfl)) (ref_gName (by decide)) (dss_one (ds_set (i := 3) S__law_pot.nd rfl (.inl rfl) (de_op op_mod ref_mod (de_callTy int_all ref_int (by rfl) T.b_int bt_int (das_cons (de_op op_addAll (ref_add (mu := false)) (de_op op_mulAll (ref_mul (mu := false)) (de_var (pv 3)) (de_c pe_int rfl)) (de_var (pv 4))) (das_nil))) (de_c pe_int rfl)))))
      (dss_one (ds_ret (de_lst true (das_cons (de_if (dt_cmp op_ge ref_ge (de_callB call_abs ref_abs (by rfl) T.b_abs bt_abs (das_cons (de_var (pv 2)) (das_nil))) (de_op op_pow ref_pow (de_c pe_int rfl) (de_c pe_int rfl)) (nomark _)) (de_callB call_abs ref_abs (by rfl) T.b_abs bt_abs (das_cons (de_var (pv 2)) (das_nil))) (de_c pe_int rfl)) (das_cons (de_var (pv 3)) (das_cons (de_c pe_int rfl) (das_nil)))))))))
theorem ok__law_pot {P : Program} {w : World} {K : PySem.W.Frag} {mg : Str → Option Value} {base : Heap} {f : Addr} {fd : FuncData} {c : CT} (F : FunD K "_law_pot" "_law_pot" (defArgs s__law_pot) (defBody s__law_pot) (defScope s__law_pot) [] [] f fd) (T : TF K mg c) :
    DFnG P w K mg base 1 f fd ["_law_script", "_law_turn"] (sp__law_pot c) :=
  dfnG_ok F S__law_pot (len__law_pot c) fun cdv A outer s H E O W hG hr tk => ⟨t__law_pot c W, dv__law_pot T hG hr tk, fun ds M Q E' h e => e ▸ pure__law_pot c ds M Q E' h⟩
abbrev s__law_scoop : Stmt := topS 29
theorem S__law_scoop : FnScope N__law_scoop ["_law_pot_here", "_law_many_ways"] (defScope s__law_scoop) := ⟨rfl, rfl, rfl, by decide +kernel, rfl, by decide +kernel, by decide +kernel⟩
theorem dv__law_scoop {P : Program} {w : World} {K : PySem.W.Frag} {mg : Str → Option Value} {base : Heap} {f : Addr} {cdv : Value} {A : Around} {outer : List Env} {s : Shared} {H : Hp} {E : XK} {O : Org} {W : DWX} {c : CT} (T : TF K mg c)
    (hG : A.guards = some []) (hr : Room 0 (A.deeper (envOfC "_law_scoop" (defScope s__law_scoop) s.heap.objs.size f cdv))) (tk : L2N.Takes (cxOf (L2N.CX P w) P w K mg base N__law_scoop "_law_scoop" (defScope s__law_scoop) f cdv A outer s H E) (liftW K O W)) :
    DSs (cxOf (L2N.CX P w) P w K mg base N__law_scoop "_law_scoop" (defScope s__law_scoop) f cdv A outer s H E) O (defBody s__law_scoop) (t__law_scoop c W) :=
  dss_cons (ds_if (dt_cmp op_gt ref_gt (de_ix (de_var (pv 0)) (de_c pe_int rfl) (fun _ _ => rfl)) (de_c pe_int rfl) (nomark _)) (dss_cons (ds_asg (vs := [2]) (de_callB call_divmodW ref_divmod (by rfl) T.b_divmod bt_divmod (das_cons (de_ix (de_var (pv 0)) (de_c pe_int rfl) (fun _ _ => rfl)) (das_cons (de_var (pv 1)) (das_nil)))) (pg_tup rfl (pgs_cons (pg_sub (de_var (pv 0)) (de_c pe_int rfl) set_list) (pgs_cons (pg_name (i := 2) S__law_scoop.nd rfl (.inl rfl)) (pgs_nil)))) (ref_gTup (ref_gCons (ref_gSub) (ref_gCons (ref_gName (by decide)) (ref_gNil)))))
      (dss_one (ds_ret (de_var (pv 2))))) (dss_nil))
      (dss_cons (ds_asg (vs := []) (de_op op_addAll (ref_add (mu := false)) (de_ix (de_var (pv 0)) (de_c pe_int rfl) (fun _ _ => rfl)) (de_c pe_int rfl)) (pg_sub (de_var (pv 0)) (de_c pe_int rfl) set_list) (ref_gSub))
      (dss_cons (ds_asg (vs := []) (de_op op_mod ref_mod (de_callTy int_all ref_int (by rfl) T.b_int bt_int (das_cons (de_op op_addAll (ref_add (mu := false)) (de_op op_mulAll (ref_mul (mu := false)) (de_ix (de_var (pv 0)) (de_c pe_int rfl) (fun _ _ => rfl)) (de_c pe_int rfl)) (de_op op_mulAll (ref_mul (mu := false)) (de_c pe_int rfl) (de_ix (de_var (pv 0)) (de_c pe_int rfl) (fun _ _ => rfl)))) (das_nil))) (de_c pe_int rfl)) (pg_sub (de_var (pv 0)) (de_c pe_int rfl) set_list) (ref_gSub))
      (dss_one (ds_ret (de_op op_mod ref_mod (de_callTy int_all ref_int (by rfl) T.b_int bt_int (das_cons (de_op op_fdivW ref_div (de_ix (de_var (pv 0)) (de_c pe_int rfl) (fun _ _ => rfl)) (de_c pe_int rfl)) (das_nil))) (de_var (pv 1)))))))
theorem ok__law_scoop {P : Program} {w : World} {K : PySem.W.Frag} {mg : Str → Option Value} {base : Heap} {f : Addr} {fd : FuncData} {c : CT} (F : FunD K "_law_scoop" "_law_scoop" (defArgs s__law_scoop) (defBody s__law_scoop) (defScope s__law_scoop) [] [] f fd) (T : TF K mg c) :
    DFnG P w K mg base 1 f fd ["_law_pot_here", "_law_many_ways"] (sp__law_scoop c) :=
  dfnG_ok F S__law_scoop (len__law_scoop c) fun cdv A outer s H E O W hG hr tk => ⟨t__law_scoop c W, dv__law_scoop T hG hr tk, fun ds M Q E' h e => e ▸ pure__law_scoop c ds M Q E' h⟩
abbrev s__law_sorts : Stmt := topS 30
theorem S__law_sorts : FnScope N__law_sorts ["_law_e"] (defScope s__law_sorts) := ⟨rfl, rfl, rfl, by decide +kernel, rfl, by decide +kernel, by decide +kernel⟩
theorem dv__law_sorts {P : Program} {w : World} {K : PySem.W.Frag} {mg : Str → Option Value} {base : Heap} {f : Addr} {cdv : Value} {A : Around} {outer : List Env} {s : Shared} {H : Hp} {E : XK} {O : Org} {W : DWX} {c : CT} (T : TF K mg c)
    (hG : A.guards = some []) (hr : Room 0 (A.deeper (envOfC "_law_sorts" (defScope s__law_sorts) s.heap.objs.size f cdv))) (tk : L2N.Takes (cxOf (L2N.CX P w) P w K mg base N__law_sorts "_law_sorts" (defScope s__law_sorts) f cdv A outer s H E) (liftW K O W)) :
    DSs (cxOf (L2N.CX P w) P w K mg base N__law_sorts "_law_sorts" (defScope s__law_sorts) f cdv A outer s H E) O (defBody s__law_sorts) (t__law_sorts c W) :=
  dss_cons (ds_set (i := 1) S__law_sorts.nd rfl (.inl rfl) (de_lst false (das_cons (de_isE (by rfl) T.b_isinstance (by rfl) T.g_InvalidText T.ie_InvalidText (de_var (pv 0))) (das_cons (de_isE (by rfl) T.b_isinstance (by rfl) T.g_InvalidNumber T.ie_InvalidNumber (de_var (pv 0))) (das_cons (de_isE (by rfl) T.b_isinstance (by rfl) T.g_InvalidName T.ie_InvalidName (de_var (pv 0))) (das_nil))))))
      (dss_cons (ds_set (i := 1) S__law_sorts.nd rfl (.inl rfl) (de_op op_addAll (ref_add (mu := false)) (de_var (pv 1)) (de_lst false (das_cons (de_isE (by rfl) T.b_isinstance (by rfl) T.g_InvalidWish T.ie_InvalidWish (de_var (pv 0))) (das_cons (de_isE (by rfl) T.b_isinstance (by rfl) T.g_InvalidIndex T.ie_InvalidIndex (de_var (pv 0))) (das_cons (de_isE (by rfl) T.b_isinstance (by rfl) T.g_NotHeaps T.ie_NotHeaps (de_var (pv 0))) (das_nil)))))))
      (dss_cons (ds_set (i := 1) S__law_sorts.nd rfl (.inl rfl) (de_op op_addAll (ref_add (mu := false)) (de_var (pv 1)) (de_lst false (das_cons (de_isE (by rfl) T.b_isinstance (by rfl) T.g_InvalidKinds T.ie_InvalidKinds (de_var (pv 0))) (das_cons (de_isE (by rfl) T.b_isinstance (by rfl) T.g_InvalidTable T.ie_InvalidTable (de_var (pv 0))) (das_cons (de_isE (by rfl) T.b_isinstance (by rfl) T.g_InvalidRow T.ie_InvalidRow (de_var (pv 0))) (das_nil)))))))
      (dss_cons (ds_set (i := 1) S__law_sorts.nd rfl (.inl rfl) (de_op op_addAll (ref_add (mu := false)) (de_var (pv 1)) (de_lst false (das_cons (de_isE (by rfl) T.b_isinstance (by rfl) T.g_InvalidHighs T.ie_InvalidHighs (de_var (pv 0))) (das_cons (de_isE (by rfl) T.b_isinstance (by rfl) T.g_InvalidDepths T.ie_InvalidDepths (de_var (pv 0))) (das_cons (de_isE (by rfl) T.b_isinstance (by rfl) T.g_UnknownName T.ie_UnknownName (de_var (pv 0))) (das_nil)))))))
      (dss_one (ds_ret (de_op op_addAll (ref_add (mu := false)) (de_var (pv 1)) (de_lst false (das_cons (de_isE (by rfl) T.b_isinstance (by rfl) T.g_NoPlan T.ie_NoPlan (de_var (pv 0))) (das_cons (de_isE (by rfl) T.b_isinstance (by rfl) T.g_TooFew T.ie_TooFew (de_var (pv 0))) (das_cons (de_isE (by rfl) T.b_isinstance (by rfl) T.g_NothingToUndo T.ie_NothingToUndo (de_var (pv 0))) (das_cons (de_isE (by rfl) T.b_isinstance (by rfl) T.g_Broken T.ie_Broken (de_var (pv 0))) (das_nil))))))))))))
theorem ok__law_sorts {P : Program} {w : World} {K : PySem.W.Frag} {mg : Str → Option Value} {base : Heap} {f : Addr} {fd : FuncData} {c : CT} (F : FunD K "_law_sorts" "_law_sorts" (defArgs s__law_sorts) (defBody s__law_sorts) (defScope s__law_sorts) [] [] f fd) (T : TF K mg c) :
    DFnG P w K mg base 1 f fd ["_law_e"] (sp__law_sorts c) :=
  dfnG_ok F S__law_sorts (len__law_sorts c) fun cdv A outer s H E O W hG hr tk => ⟨t__law_sorts c W, dv__law_sorts T hG hr tk, fun ds M Q E' h e => e ▸ pure__law_sorts c ds M Q E' h⟩
abbrev s__law_bases : Stmt := topS 31
theorem S__law_bases : FnScope N__law_bases ["_law_e"] (defScope s__law_bases) := ⟨rfl, rfl, rfl, by decide +kernel, rfl, by decide +kernel, by decide +kernel⟩
theorem dv__law_bases {P : Program} {w : World} {K : PySem.W.Frag} {mg : Str → Option Value} {base : Heap} {f : Addr} {cdv : Value} {A : Around} {outer : List Env} {s : Shared} {H : Hp} {E : XK} {O : Org} {W : DWX} {c : CT} (T : TF K mg c)
    (hG : A.guards = some []) (hr : Room 0 (A.deeper (envOfC "_law_bases" (defScope s__law_bases) s.heap.objs.size f cdv))) (tk : L2N.Takes (cxOf (L2N.CX P w) P w K mg base N__law_bases "_law_bases" (defScope s__law_bases) f cdv A outer s H E) (liftW K O W)) :
    DSs (cxOf (L2N.CX P w) P w K mg base N__law_bases "_law_bases" (defScope s__law_bases) f cdv A outer s H E) O (defBody s__law_bases) (t__law_bases c W) :=
  dss_cons (ds_set (i := 1) S__law_bases.nd rfl (.inl rfl) (de_lst false (das_cons (de_isE (by rfl) T.b_isinstance (by rfl) T.g_WrongValue T.ie_WrongValue (de_var (pv 0))) (das_cons (de_isE (by rfl) T.b_isinstance (by rfl) T.g_WrongName T.ie_WrongName (de_var (pv 0))) (das_cons (de_isE (by rfl) T.b_isinstance (by rfl) T.g_NoAnswer T.ie_NoAnswer (de_var (pv 0))) (das_nil))))))
      (dss_one (ds_ret (de_op op_addAll (ref_add (mu := false)) (de_var (pv 1)) (de_lst false (das_cons (de_isT (by rfl) T.b_isinstance (by rfl) T.b_ValueError bt_ValueErrorV T.ie_ValueError (de_var (pv 0))) (das_cons (de_isT (by rfl) T.b_isinstance (by rfl) T.b_LookupError bt_LookupErrorV T.ie_LookupError (de_var (pv 0))) (das_cons (de_isT (by rfl) T.b_isinstance (by rfl) T.b_ArithmeticError bt_ArithmeticErrorV T.ie_ArithmeticError (de_var (pv 0))) (das_nil))))))))
theorem ok__law_bases {P : Program} {w : World} {K : PySem.W.Frag} {mg : Str → Option Value} {base : Heap} {f : Addr} {fd : FuncData} {c : CT} (F : FunD K "_law_bases" "_law_bases" (defArgs s__law_bases) (defBody s__law_bases) (defScope s__law_bases) [] [] f fd) (T : TF K mg c) :
    DFnG P w K mg base 1 f fd ["_law_e"] (sp__law_bases c) :=
  dfnG_ok F S__law_bases (len__law_bases c) fun cdv A outer s H E O W hG hr tk => ⟨t__law_bases c W, dv__law_bases T hG hr tk, fun ds M Q E' h e => e ▸ pure__law_bases c ds M Q E' h⟩
abbrev s__law_made : Stmt := topS 32
theorem S__law_made : FnScope N__law_made ["_law_thing"] (defScope s__law_made) := ⟨rfl, rfl, rfl, by decide +kernel, rfl, by decide +kernel, by decide +kernel⟩
theorem dv__law_made {P : Program} {w : World} {K : PySem.W.Frag} {mg : Str → Option Value} {base : Heap} {f : Addr} {cdv : Value} {A : Around} {outer : List Env} {s : Shared} {H : Hp} {E : XK} {O : Org} {W : DWX} {c : CT} (T : TF K mg c) (xk_Broken_0 : XcK P w K mg base c.Broken "index" 0 ["index"]) (xk_Broken_1 : XcK P w K mg base c.Broken "index" 1 []) (xk_InvalidDepths_0 : XcK P w K mg base c.InvalidDepths "index" 0 ["index"]) (xk_InvalidDepths_1 : XcK P w K mg base c.InvalidDepths "index" 1 []) (xk_InvalidHighs_0 : XcK P w K mg base c.InvalidHighs "index" 0 ["index"]) (xk_InvalidHighs_1 : XcK P w K mg base c.InvalidHighs "index" 1 []) (xk_InvalidIndex_0 : XcK P w K mg base c.InvalidIndex "given" 0 ["given"]) (xk_InvalidIndex_1 : XcK P w K mg base c.InvalidIndex "given" 1 []) (xk_InvalidKinds_0 : XcK P w K mg base c.InvalidKinds "index" 0 ["index"]) (xk_InvalidKinds_1 : XcK P w K mg base c.InvalidKinds "index" 1 []) (xk_InvalidName_0 : XcK P w K mg base c.InvalidName "given" 0 ["given"]) (xk_InvalidName_1 : XcK P w K mg base c.InvalidName "given" 1 []) (xk_InvalidNumber_0 : XcK P w K mg base c.InvalidNumber "given" 0 ["given"]) (xk_InvalidNumber_1 : XcK P w K mg base c.InvalidNumber "given" 1 []) (xk_InvalidRow_0 : XcK P w K mg base c.InvalidRow "index" 0 ["index"]) (xk_InvalidRow_1 : XcK P w K mg base c.InvalidRow "index" 1 []) (xk_InvalidTable_0 : XcK P w K mg base c.InvalidTable "index" 0 ["index"]) (xk_InvalidTable_1 : XcK P w K mg base c.InvalidTable "index" 1 []) (xk_InvalidText_0 : XcK P w K mg base c.InvalidText "given" 0 ["given"]) (xk_InvalidText_1 : XcK P w K mg base c.InvalidText "given" 1 []) (xk_InvalidWish_0 : XcK P w K mg base c.InvalidWish "given" 0 ["given"]) (xk_InvalidWish_1 : XcK P w K mg base c.InvalidWish "given" 1 []) (xk_NotHeaps_0 : XcK P w K mg base c.NotHeaps "given" 0 ["given"]) (xk_NotHeaps_1 : XcK P w K mg base c.NotHeaps "given" 1 []) (xk_TooFew_0 : XcK P w K mg base c.TooFew "given" 0 ["given"]) (xk_TooFew_1 : XcK P w K mg base c.TooFew "given" 1 []) (xk_UnknownName_0 : XcK P w K mg base c.UnknownName "given" 0 ["given"]) (xk_UnknownName_1 : XcK P w K mg base c.UnknownName "given" 1 [])
    (hG : A.guards = some []) (hr : Room 2 (A.deeper (envOfC "_law_made" (defScope s__law_made) s.heap.objs.size f cdv))) (tk : L2N.Takes (cxOf (L2N.CX P w) P w K mg base N__law_made "_law_made" (defScope s__law_made) f cdv A outer s H E) (liftW K O W)) :
    DSs (cxOf (L2N.CX P w) P w K mg base N__law_made "_law_made" (defScope s__law_made) f cdv A outer s H E) O (defBody s__law_made) (t__law_made c W) :=
  dss_cons (ds_set (i := 1) S__law_made.nd rfl (.inl rfl) (de_lst false (das_cons (de_mkX xk_InvalidText_1 (hr.mono (by decide)) (by rfl) T.g_InvalidText (dak (das_cons (de_var (pv 0)) (das_nil)) (dks_nil))) (das_cons (de_mkX xk_InvalidNumber_1 (hr.mono (by decide)) (by rfl) T.g_InvalidNumber (dak (das_cons (de_var (pv 0)) (das_nil)) (dks_nil))) (das_cons (de_mkX xk_InvalidName_1 (hr.mono (by decide)) (by rfl) T.g_InvalidName (dak (das_cons (de_var (pv 0)) (das_nil)) (dks_nil))) (das_cons (de_mkX xk_InvalidWish_1 (hr.mono (by decide)) (by rfl) T.g_InvalidWish (dak (das_cons (de_var (pv 0)) (das_nil)) (dks_nil))) (das_cons (de_mkX xk_InvalidIndex_1 (hr.mono (by decide)) (by rfl) T.g_InvalidIndex (dak (das_cons (de_var (pv 0)) (das_nil)) (dks_nil))) (das_nil))))))))
      (dss_cons (ds_set (i := 1) S__law_made.nd rfl (.inl rfl) (de_op op_addAll (ref_add (mu := false)) (de_var (pv 1)) (de_lst false (das_cons (de_mkX xk_NotHeaps_1 (hr.mono (by decide)) (by rfl) T.g_NotHeaps (dak (das_cons (de_var (pv 0)) (das_nil)) (dks_nil))) (das_cons (de_mkX xk_InvalidKinds_1 (hr.mono (by decide)) (by rfl) T.g_InvalidKinds (dak (das_cons (de_var (pv 0)) (das_nil)) (dks_nil))) (das_cons (de_mkX xk_InvalidTable_1 (hr.mono (by decide)) (by rfl) T.g_InvalidTable (dak (das_cons (de_var (pv 0)) (das_nil)) (dks_nil))) (das_cons (de_mkX xk_InvalidRow_1 (hr.mono (by decide)) (by rfl) T.g_InvalidRow (dak (das_cons (de_var (pv 0)) (das_nil)) (dks_nil))) (das_cons (de_mkX xk_InvalidHighs_1 (hr.mono (by decide)) (by rfl) T.g_InvalidHighs (dak (das_cons (de_var (pv 0)) (das_nil)) (dks_nil))) (das_nil)))))))))
      (dss_cons (ds_set (i := 1) S__law_made.nd rfl (.inl rfl) (de_op op_addAll (ref_add (mu := false)) (de_var (pv 1)) (de_lst false (das_cons (de_mkX xk_InvalidDepths_1 (hr.mono (by decide)) (by rfl) T.g_InvalidDepths (dak (das_cons (de_var (pv 0)) (das_nil)) (dks_nil))) (das_cons (de_mkX xk_UnknownName_1 (hr.mono (by decide)) (by rfl) T.g_UnknownName (dak (das_cons (de_var (pv 0)) (das_nil)) (dks_nil))) (das_cons (de_mkX0 T.xn_NoPlan (by rfl) T.g_NoPlan) (das_cons (de_mkX xk_TooFew_1 (hr.mono (by decide)) (by rfl) T.g_TooFew (dak (das_cons (de_var (pv 0)) (das_nil)) (dks_nil))) (das_cons (de_mkX0 T.xn_NothingToUndo (by rfl) T.g_NothingToUndo) (das_cons (de_mkX xk_Broken_1 (hr.mono (by decide)) (by rfl) T.g_Broken (dak (das_cons (de_var (pv 0)) (das_nil)) (dks_nil))) (das_nil))))))))))
      (dss_cons (ds_set (i := 2) S__law_made.nd rfl (.inl rfl) (de_lst false (das_cons (de_mkX xk_InvalidText_0 (hr.mono (by decide)) (by rfl) T.g_InvalidText (dak0 (dks_cons (de_var (pv 0)) (dks_nil)))) (das_cons (de_mkX xk_InvalidNumber_0 (hr.mono (by decide)) (by rfl) T.g_InvalidNumber (dak0 (dks_cons (de_var (pv 0)) (dks_nil)))) (das_cons (de_mkX xk_InvalidName_0 (hr.mono (by decide)) (by rfl) T.g_InvalidName (dak0 (dks_cons (de_var (pv 0)) (dks_nil)))) (das_cons (de_mkX xk_InvalidWish_0 (hr.mono (by decide)) (by rfl) T.g_InvalidWish (dak0 (dks_cons (de_var (pv 0)) (dks_nil)))) (das_nil)))))))
      (dss_cons (ds_set (i := 2) S__law_made.nd rfl (.inl rfl) (de_op op_addAll (ref_add (mu := false)) (de_var (pv 2)) (de_lst false (das_cons (de_mkX xk_InvalidIndex_0 (hr.mono (by decide)) (by rfl) T.g_InvalidIndex (dak0 (dks_cons (de_var (pv 0)) (dks_nil)))) (das_cons (de_mkX xk_NotHeaps_0 (hr.mono (by decide)) (by rfl) T.g_NotHeaps (dak0 (dks_cons (de_var (pv 0)) (dks_nil)))) (das_cons (de_mkX xk_InvalidKinds_0 (hr.mono (by decide)) (by rfl) T.g_InvalidKinds (dak0 (dks_cons (de_var (pv 0)) (dks_nil)))) (das_nil)))))))
      (dss_cons (ds_set (i := 2) S__law_made.nd rfl (.inl rfl) (de_op op_addAll (ref_add (mu := false)) (de_var (pv 2)) (de_lst false (das_cons (de_mkX xk_InvalidTable_0 (hr.mono (by decide)) (by rfl) T.g_InvalidTable (dak0 (dks_cons (de_var (pv 0)) (dks_nil)))) (das_cons (de_mkX xk_InvalidRow_0 (hr.mono (by decide)) (by rfl) T.g_InvalidRow (dak0 (dks_cons (de_var (pv 0)) (dks_nil)))) (das_cons (de_mkX xk_InvalidHighs_0 (hr.mono (by decide)) (by rfl) T.g_InvalidHighs (dak0 (dks_cons (de_var (pv 0)) (dks_nil)))) (das_nil)))))))
      (dss_cons (ds_set (i := 2) S__law_made.nd rfl (.inl rfl) (de_op op_addAll (ref_add (mu := false)) (de_var (pv 2)) (de_lst false (das_cons (de_mkX xk_InvalidDepths_0 (hr.mono (by decide)) (by rfl) T.g_InvalidDepths (dak0 (dks_cons (de_var (pv 0)) (dks_nil)))) (das_cons (de_mkX xk_UnknownName_0 (hr.mono (by decide)) (by rfl) T.g_UnknownName (dak0 (dks_cons (de_var (pv 0)) (dks_nil)))) (das_cons (de_mkX0 T.xn_NoPlan (by rfl) T.g_NoPlan) (das_cons (de_mkX xk_TooFew_0 (hr.mono (by decide)) (by rfl) T.g_TooFew (dak0 (dks_cons (de_var (pv 0)) (dks_nil)))) (das_nil))))))))
      (dss_one (ds_ret (de_lst false (das_cons (de_var (pv 1)) (das_cons (de_op op_addAll (ref_add (mu := false)) (de_var (pv 2)) (de_lst false (das_cons (de_mkX0 T.xn_NothingToUndo (by rfl) T.g_NothingToUndo) (das_cons (de_mkX xk_Broken_0 (hr.mono (by decide)) (by rfl) T.g_Broken (dak0 (dks_cons (de_var (pv 0)) (dks_nil)))) (das_nil))))) (das_nil))))))))))))
theorem ok__law_made {P : Program} {w : World} {K : PySem.W.Frag} {mg : Str → Option Value} {base : Heap} {f : Addr} {fd : FuncData} {c : CT} (F : FunD K "_law_made" "_law_made" (defArgs s__law_made) (defBody s__law_made) (defScope s__law_made) [] [] f fd) (T : TF K mg c) (xk_Broken_0 : XcK P w K mg base c.Broken "index" 0 ["index"]) (xk_Broken_1 : XcK P w K mg base c.Broken "index" 1 []) (xk_InvalidDepths_0 : XcK P w K mg base c.InvalidDepths "index" 0 ["index"]) (xk_InvalidDepths_1 : XcK P w K mg base c.InvalidDepths "index" 1 []) (xk_InvalidHighs_0 : XcK P w K mg base c.InvalidHighs "index" 0 ["index"]) (xk_InvalidHighs_1 : XcK P w K mg base c.InvalidHighs "index" 1 []) (xk_InvalidIndex_0 : XcK P w K mg base c.InvalidIndex "given" 0 ["given"]) (xk_InvalidIndex_1 : XcK P w K mg base c.InvalidIndex "given" 1 []) (xk_InvalidKinds_0 : XcK P w K mg base c.InvalidKinds "index" 0 ["index"]) (xk_InvalidKinds_1 : XcK P w K mg base c.InvalidKinds "index" 1 []) (xk_InvalidName_0 : XcK P w K mg base c.InvalidName "given" 0 ["given"]) (xk_InvalidName_1 : XcK P w K mg base c.InvalidName "given" 1 []) (xk_InvalidNumber_0 : XcK P w K mg base c.InvalidNumber "given" 0 ["given"]) (xk_InvalidNumber_1 : XcK P w K mg base c.InvalidNumber "given" 1 []) (xk_InvalidRow_0 : XcK P w K mg base c.InvalidRow "index" 0 ["index"]) (xk_InvalidRow_1 : XcK P w K mg base c.InvalidRow "index" 1 []) (xk_InvalidTable_0 : XcK P w K mg base c.InvalidTable "index" 0 ["index"]) (xk_InvalidTable_1 : XcK P w K mg base c.InvalidTable "index" 1 []) (xk_InvalidText_0 : XcK P w K mg base c.InvalidText "given" 0 ["given"]) (xk_InvalidText_1 : XcK P w K mg base c.InvalidText "given" 1 []) (xk_InvalidWish_0 : XcK P w K mg base c.InvalidWish "given" 0 ["given"]) (xk_InvalidWish_1 : XcK P w K mg base c.InvalidWish "given" 1 []) (xk_NotHeaps_0 : XcK P w K mg base c.NotHeaps "given" 0 ["given"]) (xk_NotHeaps_1 : XcK P w K mg base c.NotHeaps "given" 1 []) (xk_TooFew_0 : XcK P w K mg base c.TooFew "given" 0 ["given"]) (xk_TooFew_1 : XcK P w K mg base c.TooFew "given" 1 []) (xk_UnknownName_0 : XcK P w K mg base c.UnknownName "given" 0 ["given"]) (xk_UnknownName_1 : XcK P w K mg base c.UnknownName "given" 1 []) :
    DFnG P w K mg base 3 f fd ["_law_thing"] (sp__law_made c) :=
  dfnG_ok F S__law_made (len__law_made c) fun cdv A outer s H E O W hG hr tk => ⟨t__law_made c W, dv__law_made T xk_Broken_0 xk_Broken_1 xk_InvalidDepths_0 xk_InvalidDepths_1 xk_InvalidHighs_0 xk_InvalidHighs_1 xk_InvalidIndex_0 xk_InvalidIndex_1 xk_InvalidKinds_0 xk_InvalidKinds_1 xk_InvalidName_0 xk_InvalidName_1 xk_InvalidNumber_0 xk_InvalidNumber_1 xk_InvalidRow_0 xk_InvalidRow_1 xk_InvalidTable_0 xk_InvalidTable_1 xk_InvalidText_0 xk_InvalidText_1 xk_InvalidWish_0 xk_InvalidWish_1 xk_NotHeaps_0 xk_NotHeaps_1 xk_TooFew_0 xk_TooFew_1 xk_UnknownName_0 xk_UnknownName_1 hG hr tk, fun ds M Q E' h e => e ▸ pure__law_made c ds M Q E' h⟩
abbrev s__law_kept : Stmt := topS 33
theorem S__law_kept : FnScope N__law_kept ["_law_e", "_law_at"] (defScope s__law_kept) := ⟨rfl, rfl, rfl, by decide +kernel, rfl, by decide +kernel, by decide +kernel⟩
theorem dv__law_kept {P : Program} {w : World} {K : PySem.W.Frag} {mg : Str → Option Value} {base : Heap} {f : Addr} {cdv : Value} {A : Around} {outer : List Env} {s : Shared} {H : Hp} {E : XK} {O : Org} {W : DWX} {c : CT} (T : TF K mg c)
    (hG : A.guards = some []) (hr : Room 0 (A.deeper (envOfC "_law_kept" (defScope s__law_kept) s.heap.objs.size f cdv))) (tk : L2N.Takes (cxOf (L2N.CX P w) P w K mg base N__law_kept "_law_kept" (defScope s__law_kept) f cdv A outer s H E) (liftW K O W)) :
    DSs (cxOf (L2N.CX P w) P w K mg base N__law_kept "_law_kept" (defScope s__law_kept) f cdv A outer s H E) O (defBody s__law_kept) (t__law_kept c W) :=
  dss_cons (ds_if (dt_cmp op_inAll (ref_in (neg := false)) (de_var (pv 1)) (de_lst false (das_cons (de_c pe_int rfl) (das_cons (de_c pe_int rfl) (das_nil)))) (by rfl)) (dss_one (ds_ret (de_c pe_non rfl))) (dss_nil))
      (dss_one (ds_ret (de_if (dt_cmp op_inAll (ref_in (neg := false)) (de_var (pv 1)) (de_lst false (das_cons (de_c pe_int rfl) (das_cons (de_c pe_int rfl) (das_cons (de_c pe_int rfl) (das_cons (de_c pe_int rfl) (das_cons (de_c pe_int rfl) (das_cons (de_c pe_int rfl) (das_nil)))))))) (by rfl)) (de_xfv T.xv_index (de_var (pv 0))) (de_xfv T.xv_given (de_var (pv 0))))))
theorem ok__law_kept {P : Program} {w : World} {K : PySem.W.Frag} {mg : Str → Option Value} {base : Heap} {f : Addr} {fd : FuncData} {c : CT} (F : FunD K "_law_kept" "_law_kept" (defArgs s__law_kept) (defBody s__law_kept) (defScope s__law_kept) [] [] f fd) (T : TF K mg c) :
    DFnG P w K mg base 1 f fd ["_law_e", "_law_at"] (sp__law_kept c) :=
  dfnG_ok F S__law_kept (len__law_kept c) fun cdv A outer s H E O W hG hr tk => ⟨t__law_kept c W, dv__law_kept T hG hr tk, fun ds M Q E' h e => e ▸ pure__law_kept c ds M Q E' h⟩
abbrev s__law_right : Stmt := topS 34
theorem S__law_right : FnScope N__law_right ["_law_pot_here"] (defScope s__law_right) := ⟨rfl, rfl, rfl, by decide +kernel, rfl, by decide +kernel, by decide +kernel⟩
theorem dv__law_right {P : Program} {w : World} {K : PySem.W.Frag} {mg : Str → Option Value} {base : Heap} {f : Addr} {cdv : Value} {A : Around} {outer : List Env} {s : Shared} {H : Hp} {E : XK} {O : Org} {W : DWX} {c : CT} (T : TF K mg c) (c__law_bases_1 : OwnP P w K mg base 1 "_law_bases" 1 [] [0] [] (sp__law_bases c)) (c__law_kept_2 : OwnP P w K mg base 1 "_law_kept" 2 [] [0, 1] [] (sp__law_kept c)) (c__law_made_1 : OwnP P w K mg base 3 "_law_made" 1 [] [0] [] (sp__law_made c)) (c__law_scoop_2 : OwnP P w K mg base 1 "_law_scoop" 2 [] [0, 1] [] (sp__law_scoop c)) (c__law_sorts_1 : OwnP P w K mg base 1 "_law_sorts" 1 [] [0] [] (sp__law_sorts c))
    (hG : A.guards = some []) (hr : Room 3 (A.deeper (envOfC "_law_right" (defScope s__law_right) s.heap.objs.size f cdv))) (tk : L2N.Takes (cxOf (L2N.CX P w) P w K mg base N__law_right "_law_right" (defScope s__law_right) f cdv A outer s H E) (liftW K O W)) :
    DSs (cxOf (L2N.CX P w) P w K mg base N__law_right "_law_right" (defScope s__law_right) f cdv A outer s H E) O (defBody s__law_right) (t__law_right c W) :=
  dss_cons (ds_for (vs := [1]) (by first | exact PassesOwn.never | exact passes_of rfl) rfl (di_range1 (by rfl) T.b_range (de_c pe_int rfl)) (pg_name (i := 1) S__law_right.nd rfl (.inl rfl)) (ref_gName (by decide)) (dss_cons (ds_set (i := 2) S__law_right.nd rfl (.inl rfl) (de_lst false (das_cons (de_c pe_non rfl) (das_cons (de_c pe_bl rfl) (das_cons (de_c pe_int rfl) (das_cons (de_neg (de_c pe_int rfl)) (das_cons (de_op op_pow ref_pow (de_c pe_int rfl) (de_c pe_int rfl)) (das_cons (de_c pe_str rfl) (das_cons (de_c pe_str rfl) (das_cons (de_tup (das_nil)) (das_cons (de_tup (das_cons (de_c pe_int rfl) (das_cons (de_c pe_str rfl) (das_nil)))) (das_cons (de_lst false (das_nil)) (das_cons (de_lst false (das_cons (de_c pe_non rfl) (das_nil))) (das_cons (de_dnew) (das_cons (de_done (de_c pe_str rfl) (de_c pe_int rfl)) (das_cons (de_tup (das_cons (de_c pe_str rfl) (das_cons (de_c pe_str rfl) (das_nil)))) (das_cons (de_c pe_bl rfl) (das_nil))))))))))))))))))
      (dss_cons (ds_set (i := 3) S__law_right.nd rfl (.inl rfl) (de_ix (de_var (pv 2)) (de_ownP c__law_scoop_2 hG hr (by decide) (by rfl) takes_no (dak (das_cons (de_var (pv 0)) (das_cons (de_c pe_int rfl) (das_nil))) (dks_nil))) (fun _ _ => rfl)))
      (dss_one (ds_for (vs := [4]) (by first | exact PassesOwn.never | exact passes_of rfl) rfl (di_seq (de_ownP c__law_made_1 hG hr (by decide) (by rfl) takes_no (dak (das_cons (de_var (pv 3)) (das_nil)) (dks_nil)))) (pg_name (i := 4) S__law_right.nd rfl (.inl rfl)) (ref_gName (by decide)) (dss_one (ds_for (vs := [5]) (by first | exact PassesOwn.never | exact passes_of rfl) rfl (di_range1 (by rfl) T.b_range (de_c pe_int rfl)) (pg_name (i := 5) S__law_right.nd rfl (.inr rfl)) (ref_gName (by decide)) (dss_cons (ds_set (i := 6) S__law_right.nd rfl (.inr rfl) (de_if (dt_cmp op_lt ref_lt (de_var (pv 5)) (de_c pe_int rfl) (nomark _)) (de_c pe_int rfl) (de_if (dt_cmp (op_eqA (hu64 hr)) ref_eq (de_var (pv 5)) (de_c pe_int rfl) (nomark _)) (de_c pe_int rfl) (de_c pe_int rfl))))
      (dss_cons (ds_if (dt_cmp (op_neA (hu64 hr)) ref_ne (de_ownP c__law_sorts_1 hG hr (by decide) (by rfl) takes_no (dak (das_cons (de_ix (de_var (pv 4)) (de_var (pv 5)) (fun _ _ => rfl)) (das_nil)) (dks_nil))) (de_lc (own := [("_law_k", 7)]) false rfl S__law_right.nd (di_range1 (by rfl) T.b_range (de_c pe_int rfl)) (blkOk_by (N := N__law_right) (sc := defScope s__law_right) (by decide +kernel)) (fun _ _ _ _ _ => pg_name (i := 7) S__law_right.nd rfl (.inl rfl)) (ref_gName (by decide)) (fun _ _ _ _ _ => dts_nil) (fun _ _ _ _ _ => de_cmp (op_eqA (hu64 hr)) ref_eq (de_var (pv 7)) (de_var (pv 5)) (nomark _))) (nomark _)) (dss_one (ds_ret (de_c pe_bl rfl))) (dss_nil))
      (dss_cons (ds_if (dt_cmp (op_neA (hu64 hr)) ref_ne (de_ownP c__law_bases_1 hG hr (by decide) (by rfl) takes_no (dak (das_cons (de_ix (de_var (pv 4)) (de_var (pv 5)) (fun _ _ => rfl)) (das_nil)) (dks_nil))) (de_op op_mulAll (ref_mul (mu := false)) (de_lc (own := [("_law_k", 7)]) false rfl S__law_right.nd (di_range1 (by rfl) T.b_range (de_c pe_int rfl)) (blkOk_by (N := N__law_right) (sc := defScope s__law_right) (by decide +kernel)) (fun _ _ _ _ _ => pg_name (i := 7) S__law_right.nd rfl (.inl rfl)) (ref_gName (by decide)) (fun _ _ _ _ _ => dts_nil) (fun _ _ _ _ _ => de_cmp (op_eqA (hu64 hr)) ref_eq (de_var (pv 7)) (de_var (pv 6)) (nomark _))) (de_c pe_int rfl)) (nomark _)) (dss_one (ds_ret (de_c pe_bl rfl))) (dss_nil))
      (dss_one (ds_if (dt_cmp (op_neA (hu64 hr)) ref_ne (de_callB (call_reprX hG hr) ref_reprX (by rfl) T.b_repr bt_repr (das_cons (de_ownP c__law_kept_2 hG hr (by decide) (by rfl) takes_no (dak (das_cons (de_ix (de_var (pv 4)) (de_var (pv 5)) (fun _ _ => rfl)) (das_cons (de_var (pv 5)) (das_nil))) (dks_nil))) (das_nil))) (de_callB (call_reprX hG hr) ref_reprX (by rfl) T.b_repr bt_repr (das_cons (de_if (dt_cmp op_inAll (ref_in (neg := false)) (de_var (pv 5)) (de_lst false (das_cons (de_c pe_int rfl) (das_cons (de_c pe_int rfl) (das_nil)))) (by rfl)) (de_c pe_non rfl) (de_var (pv 3))) (das_nil))) (nomark _)) (dss_one (ds_ret (de_c pe_bl rfl))) (dss_nil)))))))))))))
      (dss_one (ds_ret (de_c pe_bl rfl)))
theorem ok__law_right {P : Program} {w : World} {K : PySem.W.Frag} {mg : Str → Option Value} {base : Heap} {f : Addr} {fd : FuncData} {c : CT} (F : FunD K "_law_right" "_law_right" (defArgs s__law_right) (defBody s__law_right) (defScope s__law_right) [] [] f fd) (T : TF K mg c) (c__law_bases_1 : OwnP P w K mg base 1 "_law_bases" 1 [] [0] [] (sp__law_bases c)) (c__law_kept_2 : OwnP P w K mg base 1 "_law_kept" 2 [] [0, 1] [] (sp__law_kept c)) (c__law_made_1 : OwnP P w K mg base 3 "_law_made" 1 [] [0] [] (sp__law_made c)) (c__law_scoop_2 : OwnP P w K mg base 1 "_law_scoop" 2 [] [0, 1] [] (sp__law_scoop c)) (c__law_sorts_1 : OwnP P w K mg base 1 "_law_sorts" 1 [] [0] [] (sp__law_sorts c)) :
    DFnG P w K mg base 4 f fd ["_law_pot_here"] (sp__law_right c) :=
  dfnG_ok F S__law_right (len__law_right c) fun cdv A outer s H E O W hG hr tk => ⟨t__law_right c W, dv__law_right T c__law_bases_1 c__law_kept_2 c__law_made_1 c__law_scoop_2 c__law_sorts_1 hG hr tk, fun ds M Q E' h e => e ▸ pure__law_right c ds M Q E' h⟩
abbrev s_law : Stmt := topS 35
theorem S_law : FnScope N_law ["_law_script"] (defScope s_law) := ⟨rfl, rfl, rfl, by decide +kernel, rfl, by decide +kernel, by decide +kernel⟩
theorem dv_law {P : Program} {w : World} {K : PySem.W.Frag} {mg : Str → Option Value} {base : Heap} {f : Addr} {cdv : Value} {A : Around} {outer : List Env} {s : Shared} {H : Hp} {E : XK} {O : Org} {W : DWX} {c : CT} (T : TF K mg c) (c__law_pot_2 : OwnP P w K mg base 1 "_law_pot" 2 [] [0, 1] [] (sp__law_pot c)) (c__law_right_1 : OwnP P w K mg base 4 "_law_right" 1 [] [0] [] (sp__law_right c))
    (hG : A.guards = some []) (hr : Room 4 (A.deeper (envOfC "law" (defScope s_law) s.heap.objs.size f cdv))) (tk : L2N.Takes (cxOf (L2N.CX P w) P w K mg base N_law "law" (defScope s_law) f cdv A outer s H E) (liftW K O W)) :
    DSs (cxOf (L2N.CX P w) P w K mg base N_law "law" (defScope s_law) f cdv A outer s H E) O (defBody s_law) (t_law c W) :=
  dss_cons (ds_set (i := 1) S_law.nd rfl (.inl rfl) (de_lst false (das_cons (de_c (pe_gi (by rfl) T.c_MOST_KINDS) rfl) (das_cons (de_c (pe_gi (by rfl) T.c_MOST_SIZE) rfl) (das_cons (de_c (pe_gi (by rfl) T.c_MOST_MANY) rfl) (das_cons (de_c (pe_gi (by rfl) T.c_MOST_AT_ONCE) rfl) (das_cons (de_c (pe_gi (by rfl) T.c_MOST_DEPTH) rfl) (das_cons (de_c (pe_gi (by rfl) T.c_MOST_ROW) rfl) (das_cons (de_c (pe_gi (by rfl) T.c_MOST_STRETCHED) rfl) (das_nil))))))))))
      (dss_cons (ds_if (dt_cmp (op_neA (hu64 hr)) ref_ne (de_callB (call_reprD hG hr) ref_repr (by rfl) T.b_repr bt_repr (das_cons (de_var (pv 1)) (das_nil))) (de_callB (call_reprD hG hr) ref_repr (by rfl) T.b_repr bt_repr (das_cons (de_lst false (das_cons (de_c pe_int rfl) (das_cons (de_op op_pow ref_pow (de_c pe_int rfl) (de_c pe_int rfl)) (das_cons (de_op op_pow ref_pow (de_c pe_int rfl) (de_c pe_int rfl)) (das_cons (de_c pe_int rfl) (das_cons (de_c pe_int rfl) (das_cons (de_c pe_int rfl) (das_cons (de_c pe_int rfl) (das_nil))))))))) (das_nil))) (nomark _)) (dss_one (ds_ret (de_c pe_bl rfl))) (dss_nil))
      (dss_one (ds_ret (de_callB (cr_all rfl) ref_all (by rfl) T.b_all bt_all (das_cons (de_lc (own := [("_law_turn", 2)]) false rfl S_law.nd (di_range1 (by rfl) T.b_range (de_callB (call_max2 rfl) ref_max2 (by rfl) T.b_max bt_max (das_cons (de_c pe_int rfl) (das_cons (de_callB (call_min2 rfl) ref_min2 (by rfl) T.b_min bt_min (das_cons (de_callB len_all ref_len (by rfl) T.b_len bt_len (das_cons (de_var (pv 0)) (das_nil))) (das_cons (de_c pe_int rfl) (das_nil)))) (das_nil))))) (blkOk_by (N := N_law) (sc := defScope s_law) (by decide +kernel)) (fun _ _ _ _ _ => pg_name (i := 2) S_law.nd rfl (.inl rfl)) (ref_gName (by decide)) (fun _ _ _ _ _ => dts_nil) (fun _ _ _ _ _ => de_ownP c__law_right_1 hG hr (by decide) (by rfl) takes_no (dak (das_cons (de_ownP c__law_pot_2 hG hr (by decide) (by rfl) takes_no (dak (das_cons (de_var (pv 0)) (das_cons (de_var (pv 2)) (das_nil))) (dks_nil))) (das_nil)) (dks_nil)))) (das_nil))))))
theorem ok_law {P : Program} {w : World} {K : PySem.W.Frag} {mg : Str → Option Value} {base : Heap} {f : Addr} {fd : FuncData} {c : CT} (F : FunD K "law" "law" (defArgs s_law) (defBody s_law) (defScope s_law) [] [] f fd) (T : TF K mg c) (c__law_pot_2 : OwnP P w K mg base 1 "_law_pot" 2 [] [0, 1] [] (sp__law_pot c)) (c__law_right_1 : OwnP P w K mg base 4 "_law_right" 1 [] [0] [] (sp__law_right c)) :
    DFnG P w K mg base 5 f fd ["_law_script"] (sp_law c) :=
  dfnG_ok F S_law (len_law c) fun cdv A outer s H E O W hG hr tk => ⟨t_law c W, dv_law T c__law_pot_2 c__law_right_1 hG hr tk, fun ds M Q E' h e => e ▸ pure_law c ds M Q E' h⟩
/-! ### the head -/
def ctK (K : PySem.W.Frag) : CT := ⟨He.ga K "WrongValue", He.ga K "Yard", He.ga K "Book", He.ga K "WrongValue", He.ga K "WrongName", He.ga K "NoAnswer", He.ga K "InvalidText", He.ga K "InvalidKinds", He.ga K "NotHeaps", He.ga K "InvalidNumber", He.ga K "InvalidTable", He.ga K "InvalidRow", He.ga K "InvalidHighs", He.ga K "InvalidDepths", He.ga K "NoPlan", He.ga K "Run", He.ga K "Mark", He.ga K "Trial", He.ga K "Attempt", He.ga K "InvalidName", He.ga K "InvalidWish", He.ga K "InvalidIndex", He.ga K "UnknownName", He.ga K "TooFew", He.ga K "NothingToUndo", He.ga K "Broken", fun x => He.ga K x, fun _ => default⟩
def exF : List FB := [bF (.free "ArithmeticError"),
  bF (.free "LookupError"),
  bF (.free "ValueError"),
  bF (.free "abs"),
  bF (.free "all"),
  bF (.free "divmod"),
  bF (.free "int"),
  bF (.free "isinstance"),
  bF (.free "len"),
  bF (.free "max"),
  bF (.free "min"),
  bF (.free "range"),
  bF (.free "repr"),
  bF (.int "MOST_AT_ONCE" 9),
  bF (.int "MOST_DEPTH" 400),
  bF (.int "MOST_KINDS" 12),
  bF (.int "MOST_MANY" 1000000000000000000000000000000),
  bF (.int "MOST_ROW" 14),
  bF (.int "MOST_SIZE" 1000000000000000000000000000000),
  bF (.int "MOST_STRETCHED" 6),
  bF (.glo "Broken"),
  bF (.glo "InvalidDepths"),
  bF (.glo "InvalidHighs"),
  bF (.glo "InvalidIndex"),
  bF (.glo "InvalidKinds"),
  bF (.glo "InvalidName"),
  bF (.glo "InvalidNumber"),
  bF (.glo "InvalidRow"),
  bF (.glo "InvalidTable"),
  bF (.glo "InvalidText"),
  bF (.glo "InvalidWish"),
  bF (.glo "NoAnswer"),
  bF (.glo "NoPlan"),
  bF (.glo "NotHeaps"),
  bF (.glo "NothingToUndo"),
  bF (.glo "TooFew"),
  bF (.glo "UnknownName"),
  bF (.glo "WrongName"),
  bF (.glo "WrongValue"),
  bXn "NoPlan",
  bXn "NothingToUndo",
  bXfV ["InvalidText", "InvalidNumber", "InvalidName", "InvalidWish", "InvalidIndex", "NotHeaps", "UnknownName", "TooFew"] "given",
  bXfV ["InvalidKinds", "InvalidTable", "InvalidRow", "InvalidHighs", "InvalidDepths", "Broken"] "index",
  bExV,
  bKitV (fun _ => .type "ArithmeticError") [false, false, false, false, false, false, false, false, false, false, false, false, true, true, true, true],
  bKitV (fun K => .ref (He.ga K "Broken")) [false, false, false, false, false, false, false, false, false, false, false, false, false, false, false, true],
  bKitV (fun K => .ref (He.ga K "InvalidDepths")) [false, false, false, false, false, false, false, false, false, false, true, false, false, false, false, false],
  bKitV (fun K => .ref (He.ga K "InvalidHighs")) [false, false, false, false, false, false, false, false, false, true, false, false, false, false, false, false],
  bKitV (fun K => .ref (He.ga K "InvalidIndex")) [false, false, false, false, true, false, false, false, false, false, false, false, false, false, false, false],
  bKitV (fun K => .ref (He.ga K "InvalidKinds")) [false, false, false, false, false, false, true, false, false, false, false, false, false, false, false, false],
  bKitV (fun K => .ref (He.ga K "InvalidName")) [false, false, true, false, false, false, false, false, false, false, false, false, false, false, false, false],
  bKitV (fun K => .ref (He.ga K "InvalidNumber")) [false, true, false, false, false, false, false, false, false, false, false, false, false, false, false, false],
  bKitV (fun K => .ref (He.ga K "InvalidRow")) [false, false, false, false, false, false, false, false, true, false, false, false, false, false, false, false],
  bKitV (fun K => .ref (He.ga K "InvalidTable")) [false, false, false, false, false, false, false, true, false, false, false, false, false, false, false, false],
  bKitV (fun K => .ref (He.ga K "InvalidText")) [true, false, false, false, false, false, false, false, false, false, false, false, false, false, false, false],
  bKitV (fun K => .ref (He.ga K "InvalidWish")) [false, false, false, true, false, false, false, false, false, false, false, false, false, false, false, false],
  bKitV (fun _ => .type "LookupError") [false, false, false, false, false, false, false, false, false, false, false, true, false, false, false, false],
  bKitV (fun K => .ref (He.ga K "NoAnswer")) [false, false, false, false, false, false, false, false, false, false, false, false, true, true, true, true],
  bKitV (fun K => .ref (He.ga K "NoPlan")) [false, false, false, false, false, false, false, false, false, false, false, false, true, false, false, false],
  bKitV (fun K => .ref (He.ga K "NotHeaps")) [false, false, false, false, false, true, false, false, false, false, false, false, false, false, false, false],
  bKitV (fun K => .ref (He.ga K "NothingToUndo")) [false, false, false, false, false, false, false, false, false, false, false, false, false, false, true, false],
  bKitV (fun K => .ref (He.ga K "TooFew")) [false, false, false, false, false, false, false, false, false, false, false, false, false, true, false, false],
  bKitV (fun K => .ref (He.ga K "UnknownName")) [false, false, false, false, false, false, false, false, false, false, false, true, false, false, false, false],
  bKitV (fun _ => .type "ValueError") [true, true, true, true, true, true, true, true, true, true, true, false, false, false, false, false],
  bKitV (fun K => .ref (He.ga K "WrongName")) [false, false, false, false, false, false, false, false, false, false, false, true, false, false, false, false],
  bKitV (fun K => .ref (He.ga K "WrongValue")) [true, true, true, true, true, true, true, true, true, true, true, false, false, false, false, false],
  bXc "Broken" "index",
  bXc "InvalidDepths" "index",
  bXc "InvalidHighs" "index",
  bXc "InvalidIndex" "given",
  bXc "InvalidKinds" "index",
  bXc "InvalidName" "given",
  bXc "InvalidNumber" "given",
  bXc "InvalidRow" "index",
  bXc "InvalidTable" "index",
  bXc "InvalidText" "given",
  bXc "InvalidWish" "given",
  bXc "NotHeaps" "given",
  bXc "TooFew" "given",
  bXc "UnknownName" "given",
  bF (.glo "_law_pot"),
  bF (.glo "_law_scoop"),
  bF (.glo "_law_sorts"),
  bF (.glo "_law_bases"),
  bF (.glo "_law_made"),
  bF (.glo "_law_kept"),
  bF (.glo "_law_right"),
  bF (.glo "law")]
def fnF : List He5.DefA := [⟨fun K => He.ma K (He.ga K "Broken") "__init__", "__init__", "Broken.__init__", defArgs s_Broken___init__, defBody s_Broken___init__, defScope s_Broken___init__, [], []⟩,
  ⟨fun K => He.ma K (He.ga K "InvalidDepths") "__init__", "__init__", "InvalidDepths.__init__", defArgs s_InvalidDepths___init__, defBody s_InvalidDepths___init__, defScope s_InvalidDepths___init__, [], []⟩,
  ⟨fun K => He.ma K (He.ga K "InvalidHighs") "__init__", "__init__", "InvalidHighs.__init__", defArgs s_InvalidHighs___init__, defBody s_InvalidHighs___init__, defScope s_InvalidHighs___init__, [], []⟩,
  ⟨fun K => He.ma K (He.ga K "InvalidIndex") "__init__", "__init__", "InvalidIndex.__init__", defArgs s_InvalidIndex___init__, defBody s_InvalidIndex___init__, defScope s_InvalidIndex___init__, [], []⟩,
  ⟨fun K => He.ma K (He.ga K "InvalidKinds") "__init__", "__init__", "InvalidKinds.__init__", defArgs s_InvalidKinds___init__, defBody s_InvalidKinds___init__, defScope s_InvalidKinds___init__, [], []⟩,
  ⟨fun K => He.ma K (He.ga K "InvalidName") "__init__", "__init__", "InvalidName.__init__", defArgs s_InvalidName___init__, defBody s_InvalidName___init__, defScope s_InvalidName___init__, [], []⟩,
  ⟨fun K => He.ma K (He.ga K "InvalidNumber") "__init__", "__init__", "InvalidNumber.__init__", defArgs s_InvalidNumber___init__, defBody s_InvalidNumber___init__, defScope s_InvalidNumber___init__, [], []⟩,
  ⟨fun K => He.ma K (He.ga K "InvalidRow") "__init__", "__init__", "InvalidRow.__init__", defArgs s_InvalidRow___init__, defBody s_InvalidRow___init__, defScope s_InvalidRow___init__, [], []⟩,
  ⟨fun K => He.ma K (He.ga K "InvalidTable") "__init__", "__init__", "InvalidTable.__init__", defArgs s_InvalidTable___init__, defBody s_InvalidTable___init__, defScope s_InvalidTable___init__, [], []⟩,
  ⟨fun K => He.ma K (He.ga K "InvalidText") "__init__", "__init__", "InvalidText.__init__", defArgs s_InvalidText___init__, defBody s_InvalidText___init__, defScope s_InvalidText___init__, [], []⟩,
  ⟨fun K => He.ma K (He.ga K "InvalidWish") "__init__", "__init__", "InvalidWish.__init__", defArgs s_InvalidWish___init__, defBody s_InvalidWish___init__, defScope s_InvalidWish___init__, [], []⟩,
  ⟨fun K => He.ma K (He.ga K "NotHeaps") "__init__", "__init__", "NotHeaps.__init__", defArgs s_NotHeaps___init__, defBody s_NotHeaps___init__, defScope s_NotHeaps___init__, [], []⟩,
  ⟨fun K => He.ma K (He.ga K "TooFew") "__init__", "__init__", "TooFew.__init__", defArgs s_TooFew___init__, defBody s_TooFew___init__, defScope s_TooFew___init__, [], []⟩,
  ⟨fun K => He.ma K (He.ga K "UnknownName") "__init__", "__init__", "UnknownName.__init__", defArgs s_UnknownName___init__, defBody s_UnknownName___init__, defScope s_UnknownName___init__, [], []⟩,
  ⟨fun K => He.ga K "_law_pot", "_law_pot", "_law_pot", defArgs s__law_pot, defBody s__law_pot, defScope s__law_pot, [], []⟩,
  ⟨fun K => He.ga K "_law_scoop", "_law_scoop", "_law_scoop", defArgs s__law_scoop, defBody s__law_scoop, defScope s__law_scoop, [], []⟩,
  ⟨fun K => He.ga K "_law_sorts", "_law_sorts", "_law_sorts", defArgs s__law_sorts, defBody s__law_sorts, defScope s__law_sorts, [], []⟩,
  ⟨fun K => He.ga K "_law_bases", "_law_bases", "_law_bases", defArgs s__law_bases, defBody s__law_bases, defScope s__law_bases, [], []⟩,
  ⟨fun K => He.ga K "_law_made", "_law_made", "_law_made", defArgs s__law_made, defBody s__law_made, defScope s__law_made, [], []⟩,
  ⟨fun K => He.ga K "_law_kept", "_law_kept", "_law_kept", defArgs s__law_kept, defBody s__law_kept, defScope s__law_kept, [], []⟩,
  ⟨fun K => He.ga K "_law_right", "_law_right", "_law_right", defArgs s__law_right, defBody s__law_right, defScope s__law_right, [], []⟩,
  ⟨fun K => He.ga K "law", "law", "law", defArgs s_law, defBody s_law, defScope s_law, [], []⟩]
set_option maxHeartbeats 0 in
theorem facts {P : Program} {w : World} {K : PySem.W.Frag} {h : Heap} {mg : Str → Option Value} {f : Addr} (KX : K.In h) (G : h.Ns mainGlobals mg) (hfa : mg "law" = some (.ref f)) (s : SaysR exF fnF K) :
    ∃ fd : FuncData, (∀ (st : Shared) (v : Value), BindsTo st fd ⟨[v], []⟩ [("_law_script", v)]) ∧ ∀ base : Heap, K.In base → base.Ns mainGlobals mg → DFnG P w K mg base 5 f fd ["_law_script"] (sp_law (ctK K)) := by
  have T : TF K mg (ctK K) := ⟨He.free_ok KX G (s.fact 0),
    He.free_ok KX G (s.fact 1),
    He.free_ok KX G (s.fact 2),
    He.free_ok KX G (s.fact 3),
    He.free_ok KX G (s.fact 4),
    He.free_ok KX G (s.fact 5),
    He.free_ok KX G (s.fact 6),
    He.free_ok KX G (s.fact 7),
    He.free_ok KX G (s.fact 8),
    He.free_ok KX G (s.fact 9),
    He.free_ok KX G (s.fact 10),
    He.free_ok KX G (s.fact 11),
    He.free_ok KX G (s.fact 12),
    He.int_ok KX G (s.fact 13),
    He.int_ok KX G (s.fact 14),
    He.int_ok KX G (s.fact 15),
    He.int_ok KX G (s.fact 16),
    He.int_ok KX G (s.fact 17),
    He.int_ok KX G (s.fact 18),
    He.int_ok KX G (s.fact 19),
    He.glo_ok KX G (s.fact 20),
    He.glo_ok KX G (s.fact 21),
    He.glo_ok KX G (s.fact 22),
    He.glo_ok KX G (s.fact 23),
    He.glo_ok KX G (s.fact 24),
    He.glo_ok KX G (s.fact 25),
    He.glo_ok KX G (s.fact 26),
    He.glo_ok KX G (s.fact 27),
    He.glo_ok KX G (s.fact 28),
    He.glo_ok KX G (s.fact 29),
    He.glo_ok KX G (s.fact 30),
    He.glo_ok KX G (s.fact 31),
    He.glo_ok KX G (s.fact 32),
    He.glo_ok KX G (s.fact 33),
    He.glo_ok KX G (s.fact 34),
    He.glo_ok KX G (s.fact 35),
    He.glo_ok KX G (s.fact 36),
    He.glo_ok KX G (s.fact 37),
    He.glo_ok KX G (s.fact 38),
    bXn_ok (s.fact 39),
    bXn_ok (s.fact 40),
    bXfV_ok (Cs := ["InvalidText", "InvalidNumber", "InvalidName", "InvalidWish", "InvalidIndex", "NotHeaps", "UnknownName", "TooFew"]) (f := "given") (s.fact 41),
    bXfV_ok (Cs := ["InvalidKinds", "InvalidTable", "InvalidRow", "InvalidHighs", "InvalidDepths", "Broken"]) (f := "index") (s.fact 42),
    bIe_ok (t := (fun _ => .type "ArithmeticError")) (bs := [false, false, false, false, false, false, false, false, false, false, false, false, true, true, true, true]) (s.fact 43) (s.fact 44),
    bIe_ok (t := (fun K => .ref (He.ga K "Broken"))) (bs := [false, false, false, false, false, false, false, false, false, false, false, false, false, false, false, true]) (s.fact 43) (s.fact 45),
    bIe_ok (t := (fun K => .ref (He.ga K "InvalidDepths"))) (bs := [false, false, false, false, false, false, false, false, false, false, true, false, false, false, false, false]) (s.fact 43) (s.fact 46),
    bIe_ok (t := (fun K => .ref (He.ga K "InvalidHighs"))) (bs := [false, false, false, false, false, false, false, false, false, true, false, false, false, false, false, false]) (s.fact 43) (s.fact 47),
    bIe_ok (t := (fun K => .ref (He.ga K "InvalidIndex"))) (bs := [false, false, false, false, true, false, false, false, false, false, false, false, false, false, false, false]) (s.fact 43) (s.fact 48),
    bIe_ok (t := (fun K => .ref (He.ga K "InvalidKinds"))) (bs := [false, false, false, false, false, false, true, false, false, false, false, false, false, false, false, false]) (s.fact 43) (s.fact 49),
    bIe_ok (t := (fun K => .ref (He.ga K "InvalidName"))) (bs := [false, false, true, false, false, false, false, false, false, false, false, false, false, false, false, false]) (s.fact 43) (s.fact 50),
    bIe_ok (t := (fun K => .ref (He.ga K "InvalidNumber"))) (bs := [false, true, false, false, false, false, false, false, false, false, false, false, false, false, false, false]) (s.fact 43) (s.fact 51),
    bIe_ok (t := (fun K => .ref (He.ga K "InvalidRow"))) (bs := [false, false, false, false, false, false, false, false, true, false, false, false, false, false, false, false]) (s.fact 43) (s.fact 52),
    bIe_ok (t := (fun K => .ref (He.ga K "InvalidTable"))) (bs := [false, false, false, false, false, false, false, true, false, false, false, false, false, false, false, false]) (s.fact 43) (s.fact 53),
    bIe_ok (t := (fun K => .ref (He.ga K "InvalidText"))) (bs := [true, false, false, false, false, false, false, false, false, false, false, false, false, false, false, false]) (s.fact 43) (s.fact 54),
    bIe_ok (t := (fun K => .ref (He.ga K "InvalidWish"))) (bs := [false, false, false, true, false, false, false, false, false, false, false, false, false, false, false, false]) (s.fact 43) (s.fact 55),
    bIe_ok (t := (fun _ => .type "LookupError")) (bs := [false, false, false, false, false, false, false, false, false, false, false, true, false, false, false, false]) (s.fact 43) (s.fact 56),
    bIe_ok (t := (fun K => .ref (He.ga K "NoAnswer"))) (bs := [false, false, false, false, false, false, false, false, false, false, false, false, true, true, true, true]) (s.fact 43) (s.fact 57),
    bIe_ok (t := (fun K => .ref (He.ga K "NoPlan"))) (bs := [false, false, false, false, false, false, false, false, false, false, false, false, true, false, false, false]) (s.fact 43) (s.fact 58),
    bIe_ok (t := (fun K => .ref (He.ga K "NotHeaps"))) (bs := [false, false, false, false, false, true, false, false, false, false, false, false, false, false, false, false]) (s.fact 43) (s.fact 59),
    bIe_ok (t := (fun K => .ref (He.ga K "NothingToUndo"))) (bs := [false, false, false, false, false, false, false, false, false, false, false, false, false, false, true, false]) (s.fact 43) (s.fact 60),
    bIe_ok (t := (fun K => .ref (He.ga K "TooFew"))) (bs := [false, false, false, false, false, false, false, false, false, false, false, false, false, true, false, false]) (s.fact 43) (s.fact 61),
    bIe_ok (t := (fun K => .ref (He.ga K "UnknownName"))) (bs := [false, false, false, false, false, false, false, false, false, false, false, true, false, false, false, false]) (s.fact 43) (s.fact 62),
    bIe_ok (t := (fun _ => .type "ValueError")) (bs := [true, true, true, true, true, true, true, true, true, true, true, false, false, false, false, false]) (s.fact 43) (s.fact 63),
    bIe_ok (t := (fun K => .ref (He.ga K "WrongName"))) (bs := [false, false, false, false, false, false, false, false, false, false, false, true, false, false, false, false]) (s.fact 43) (s.fact 64),
    bIe_ok (t := (fun K => .ref (He.ga K "WrongValue"))) (bs := [true, true, true, true, true, true, true, true, true, true, true, false, false, false, false, false]) (s.fact 43) (s.fact 65)⟩
  obtain rfl : f = He.ga K "law" := by have e := hfa.symm.trans (He.glo_ok KX G (s.fact 87)); injection e with e; injection e
  obtain ⟨fd_Broken___init__, F_Broken___init__⟩ := s.def_ 0
  obtain ⟨fd_InvalidDepths___init__, F_InvalidDepths___init__⟩ := s.def_ 1
  obtain ⟨fd_InvalidHighs___init__, F_InvalidHighs___init__⟩ := s.def_ 2
  obtain ⟨fd_InvalidIndex___init__, F_InvalidIndex___init__⟩ := s.def_ 3
  obtain ⟨fd_InvalidKinds___init__, F_InvalidKinds___init__⟩ := s.def_ 4
  obtain ⟨fd_InvalidName___init__, F_InvalidName___init__⟩ := s.def_ 5
  obtain ⟨fd_InvalidNumber___init__, F_InvalidNumber___init__⟩ := s.def_ 6
  obtain ⟨fd_InvalidRow___init__, F_InvalidRow___init__⟩ := s.def_ 7
  obtain ⟨fd_InvalidTable___init__, F_InvalidTable___init__⟩ := s.def_ 8
  obtain ⟨fd_InvalidText___init__, F_InvalidText___init__⟩ := s.def_ 9
  obtain ⟨fd_InvalidWish___init__, F_InvalidWish___init__⟩ := s.def_ 10
  obtain ⟨fd_NotHeaps___init__, F_NotHeaps___init__⟩ := s.def_ 11
  obtain ⟨fd_TooFew___init__, F_TooFew___init__⟩ := s.def_ 12
  obtain ⟨fd_UnknownName___init__, F_UnknownName___init__⟩ := s.def_ 13
  obtain ⟨fd__law_pot, F__law_pot⟩ := s.def_ 14
  obtain ⟨fd__law_scoop, F__law_scoop⟩ := s.def_ 15
  obtain ⟨fd__law_sorts, F__law_sorts⟩ := s.def_ 16
  obtain ⟨fd__law_bases, F__law_bases⟩ := s.def_ 17
  obtain ⟨fd__law_made, F__law_made⟩ := s.def_ 18
  obtain ⟨fd__law_kept, F__law_kept⟩ := s.def_ 19
  obtain ⟨fd__law_right, F__law_right⟩ := s.def_ 20
  obtain ⟨fd_law, F_law⟩ := s.def_ 21
  have x_Broken : ∀ base : Heap, XcP P w K mg base (ctK K).Broken "index" := fun base => bXc_ok (s.fact 66) (ok_xinit F_Broken___init__ S_Broken___init__ rfl rfl (by decide) (by decide)) (F_Broken___init__.bindsN fun _ _ _ _ _ _ us hl => match us, hl with | [_, _], _ => rfl)
  have x_InvalidDepths : ∀ base : Heap, XcP P w K mg base (ctK K).InvalidDepths "index" := fun base => bXc_ok (s.fact 67) (ok_xinit F_InvalidDepths___init__ S_InvalidDepths___init__ rfl rfl (by decide) (by decide)) (F_InvalidDepths___init__.bindsN fun _ _ _ _ _ _ us hl => match us, hl with | [_, _], _ => rfl)
  have x_InvalidHighs : ∀ base : Heap, XcP P w K mg base (ctK K).InvalidHighs "index" := fun base => bXc_ok (s.fact 68) (ok_xinit F_InvalidHighs___init__ S_InvalidHighs___init__ rfl rfl (by decide) (by decide)) (F_InvalidHighs___init__.bindsN fun _ _ _ _ _ _ us hl => match us, hl with | [_, _], _ => rfl)
  have x_InvalidIndex : ∀ base : Heap, XcP P w K mg base (ctK K).InvalidIndex "given" := fun base => bXc_ok (s.fact 69) (ok_xinit F_InvalidIndex___init__ S_InvalidIndex___init__ rfl rfl (by decide) (by decide)) (F_InvalidIndex___init__.bindsN fun _ _ _ _ _ _ us hl => match us, hl with | [_, _], _ => rfl)
  have x_InvalidKinds : ∀ base : Heap, XcP P w K mg base (ctK K).InvalidKinds "index" := fun base => bXc_ok (s.fact 70) (ok_xinit F_InvalidKinds___init__ S_InvalidKinds___init__ rfl rfl (by decide) (by decide)) (F_InvalidKinds___init__.bindsN fun _ _ _ _ _ _ us hl => match us, hl with | [_, _], _ => rfl)
  have x_InvalidName : ∀ base : Heap, XcP P w K mg base (ctK K).InvalidName "given" := fun base => bXc_ok (s.fact 71) (ok_xinit F_InvalidName___init__ S_InvalidName___init__ rfl rfl (by decide) (by decide)) (F_InvalidName___init__.bindsN fun _ _ _ _ _ _ us hl => match us, hl with | [_, _], _ => rfl)
  have x_InvalidNumber : ∀ base : Heap, XcP P w K mg base (ctK K).InvalidNumber "given" := fun base => bXc_ok (s.fact 72) (ok_xinit F_InvalidNumber___init__ S_InvalidNumber___init__ rfl rfl (by decide) (by decide)) (F_InvalidNumber___init__.bindsN fun _ _ _ _ _ _ us hl => match us, hl with | [_, _], _ => rfl)
  have x_InvalidRow : ∀ base : Heap, XcP P w K mg base (ctK K).InvalidRow "index" := fun base => bXc_ok (s.fact 73) (ok_xinit F_InvalidRow___init__ S_InvalidRow___init__ rfl rfl (by decide) (by decide)) (F_InvalidRow___init__.bindsN fun _ _ _ _ _ _ us hl => match us, hl with | [_, _], _ => rfl)
  have x_InvalidTable : ∀ base : Heap, XcP P w K mg base (ctK K).InvalidTable "index" := fun base => bXc_ok (s.fact 74) (ok_xinit F_InvalidTable___init__ S_InvalidTable___init__ rfl rfl (by decide) (by decide)) (F_InvalidTable___init__.bindsN fun _ _ _ _ _ _ us hl => match us, hl with | [_, _], _ => rfl)
  have x_InvalidText : ∀ base : Heap, XcP P w K mg base (ctK K).InvalidText "given" := fun base => bXc_ok (s.fact 75) (ok_xinit F_InvalidText___init__ S_InvalidText___init__ rfl rfl (by decide) (by decide)) (F_InvalidText___init__.bindsN fun _ _ _ _ _ _ us hl => match us, hl with | [_, _], _ => rfl)
  have x_InvalidWish : ∀ base : Heap, XcP P w K mg base (ctK K).InvalidWish "given" := fun base => bXc_ok (s.fact 76) (ok_xinit F_InvalidWish___init__ S_InvalidWish___init__ rfl rfl (by decide) (by decide)) (F_InvalidWish___init__.bindsN fun _ _ _ _ _ _ us hl => match us, hl with | [_, _], _ => rfl)
  have x_NotHeaps : ∀ base : Heap, XcP P w K mg base (ctK K).NotHeaps "given" := fun base => bXc_ok (s.fact 77) (ok_xinit F_NotHeaps___init__ S_NotHeaps___init__ rfl rfl (by decide) (by decide)) (F_NotHeaps___init__.bindsN fun _ _ _ _ _ _ us hl => match us, hl with | [_, _], _ => rfl)
  have x_TooFew : ∀ base : Heap, XcP P w K mg base (ctK K).TooFew "given" := fun base => bXc_ok (s.fact 78) (ok_xinit F_TooFew___init__ S_TooFew___init__ rfl rfl (by decide) (by decide)) (F_TooFew___init__.bindsN fun _ _ _ _ _ _ us hl => match us, hl with | [_, _], _ => rfl)
  have x_UnknownName : ∀ base : Heap, XcP P w K mg base (ctK K).UnknownName "given" := fun base => bXc_ok (s.fact 79) (ok_xinit F_UnknownName___init__ S_UnknownName___init__ rfl rfl (by decide) (by decide)) (F_UnknownName___init__.bindsN fun _ _ _ _ _ _ us hl => match us, hl with | [_, _], _ => rfl)
  have xk_Broken_0 : ∀ base : Heap, XcK P w K mg base (ctK K).Broken "index" 0 ["index"] := fun base => bXcK_ok (s.fact 66) (ok_xinit F_Broken___init__ S_Broken___init__ rfl rfl (by decide) (by decide)) (kb_of F_Broken___init__ 1 ["index"] [0, 1] fun kV doc pm an cdv ct us ws h1 h2 => match us, h1, ws, h2 with | [_], _, [_], _ => rfl)
  have xk_Broken_1 : ∀ base : Heap, XcK P w K mg base (ctK K).Broken "index" 1 [] := fun base => bXcK_ok (s.fact 66) (ok_xinit F_Broken___init__ S_Broken___init__ rfl rfl (by decide) (by decide)) (kb_of F_Broken___init__ 2 [] [0, 1] fun kV doc pm an cdv ct us ws h1 h2 => match us, h1, ws, h2 with | [_, _], _, [], _ => rfl)
  have xk_InvalidDepths_0 : ∀ base : Heap, XcK P w K mg base (ctK K).InvalidDepths "index" 0 ["index"] := fun base => bXcK_ok (s.fact 67) (ok_xinit F_InvalidDepths___init__ S_InvalidDepths___init__ rfl rfl (by decide) (by decide)) (kb_of F_InvalidDepths___init__ 1 ["index"] [0, 1] fun kV doc pm an cdv ct us ws h1 h2 => match us, h1, ws, h2 with | [_], _, [_], _ => rfl)
  have xk_InvalidDepths_1 : ∀ base : Heap, XcK P w K mg base (ctK K).InvalidDepths "index" 1 [] := fun base => bXcK_ok (s.fact 67) (ok_xinit F_InvalidDepths___init__ S_InvalidDepths___init__ rfl rfl (by decide) (by decide)) (kb_of F_InvalidDepths___init__ 2 [] [0, 1] fun kV doc pm an cdv ct us ws h1 h2 => match us, h1, ws, h2 with | [_, _], _, [], _ => rfl)
  have xk_InvalidHighs_0 : ∀ base : Heap, XcK P w K mg base (ctK K).InvalidHighs "index" 0 ["index"] := fun base => bXcK_ok (s.fact 68) (ok_xinit F_InvalidHighs___init__ S_InvalidHighs___init__ rfl rfl (by decide) (by decide)) (kb_of F_InvalidHighs___init__ 1 ["index"] [0, 1] fun kV doc pm an cdv ct us ws h1 h2 => match us, h1, ws, h2 with | [_], _, [_], _ => rfl)
  have xk_InvalidHighs_1 : ∀ base : Heap, XcK P w K mg base (ctK K).InvalidHighs "index" 1 [] := fun base => bXcK_ok (s.fact 68) (ok_xinit F_InvalidHighs___init__ S_InvalidHighs___init__ rfl rfl (by decide) (by decide)) (kb_of F_InvalidHighs___init__ 2 [] [0, 1] fun kV doc pm an cdv ct us ws h1 h2 => match us, h1, ws, h2 with | [_, _], _, [], _ => rfl)
  have xk_InvalidIndex_0 : ∀ base : Heap, XcK P w K mg base (ctK K).InvalidIndex "given" 0 ["given"] := fun base => bXcK_ok (s.fact 69) (ok_xinit F_InvalidIndex___init__ S_InvalidIndex___init__ rfl rfl (by decide) (by decide)) (kb_of F_InvalidIndex___init__ 1 ["given"] [0, 1] fun kV doc pm an cdv ct us ws h1 h2 => match us, h1, ws, h2 with | [_], _, [_], _ => rfl)
  have xk_InvalidIndex_1 : ∀ base : Heap, XcK P w K mg base (ctK K).InvalidIndex "given" 1 [] := fun base => bXcK_ok (s.fact 69) (ok_xinit F_InvalidIndex___init__ S_InvalidIndex___init__ rfl rfl (by decide) (by decide)) (kb_of F_InvalidIndex___init__ 2 [] [0, 1] fun kV doc pm an cdv ct us ws h1 h2 => match us, h1, ws, h2 with | [_, _], _, [], _ => rfl)
  have xk_InvalidKinds_0 : ∀ base : Heap, XcK P w K mg base (ctK K).InvalidKinds "index" 0 ["index"] := fun base => bXcK_ok (s.fact 70) (ok_xinit F_InvalidKinds___init__ S_InvalidKinds___init__ rfl rfl (by decide) (by decide)) (kb_of F_InvalidKinds___init__ 1 ["index"] [0, 1] fun kV doc pm an cdv ct us ws h1 h2 => match us, h1, ws, h2 with | [_], _, [_], _ => rfl)
  have xk_InvalidKinds_1 : ∀ base : Heap, XcK P w K mg base (ctK K).InvalidKinds "index" 1 [] := fun base => bXcK_ok (s.fact 70) (ok_xinit F_InvalidKinds___init__ S_InvalidKinds___init__ rfl rfl (by decide) (by decide)) (kb_of F_InvalidKinds___init__ 2 [] [0, 1] fun kV doc pm an cdv ct us ws h1 h2 => match us, h1, ws, h2 with | [_, _], _, [], _ => rfl)
  have xk_InvalidName_0 : ∀ base : Heap, XcK P w K mg base (ctK K).InvalidName "given" 0 ["given"] := fun base => bXcK_ok (s.fact 71) (ok_xinit F_InvalidName___init__ S_InvalidName___init__ rfl rfl (by decide) (by decide)) (kb_of F_InvalidName___init__ 1 ["given"] [0, 1] fun kV doc pm an cdv ct us ws h1 h2 => match us, h1, ws, h2 with | [_], _, [_], _ => rfl)
  have xk_InvalidName_1 : ∀ base : Heap, XcK P w K mg base (ctK K).InvalidName "given" 1 [] := fun base => bXcK_ok (s.fact 71) (ok_xinit F_InvalidName___init__ S_InvalidName___init__ rfl rfl (by decide) (by decide)) (kb_of F_InvalidName___init__ 2 [] [0, 1] fun kV doc pm an cdv ct us ws h1 h2 => match us, h1, ws, h2 with | [_, _], _, [], _ => rfl)
  have xk_InvalidNumber_0 : ∀ base : Heap, XcK P w K mg base (ctK K).InvalidNumber "given" 0 ["given"] := fun base => bXcK_ok (s.fact 72) (ok_xinit F_InvalidNumber___init__ S_InvalidNumber___init__ rfl rfl (by decide) (by decide)) (kb_of F_InvalidNumber___init__ 1 ["given"] [0, 1] fun kV doc pm an cdv ct us ws h1 h2 => match us, h1, ws, h2 with | [_], _, [_], _ => rfl)
  have xk_InvalidNumber_1 : ∀ base : Heap, XcK P w K mg base (ctK K).InvalidNumber "given" 1 [] := fun base => bXcK_ok (s.fact 72) (ok_xinit F_InvalidNumber___init__ S_InvalidNumber___init__ rfl rfl (by decide) (by decide)) (kb_of F_InvalidNumber___init__ 2 [] [0, 1] fun kV doc pm an cdv ct us ws h1 h2 => match us, h1, ws, h2 with | [_, _], _, [], _ => rfl)
  have xk_InvalidRow_0 : ∀ base : Heap, XcK P w K mg base (ctK K).InvalidRow "index" 0 ["index"] := fun base => bXcK_ok (s.fact 73) (ok_xinit F_InvalidRow___init__ S_InvalidRow___init__ rfl rfl (by decide) (by decide)) (kb_of F_InvalidRow___init__ 1 ["index"] [0, 1] fun kV doc pm an cdv ct us ws h1 h2 => match us, h1, ws, h2 with | [_], _, [_], _ => rfl)
  have xk_InvalidRow_1 : ∀ base : Heap, XcK P w K mg base (ctK K).InvalidRow "index" 1 [] := fun base => bXcK_ok (s.fact 73) (ok_xinit F_InvalidRow___init__ S_InvalidRow___init__ rfl rfl (by decide) (by decide)) (kb_of F_InvalidRow___init__ 2 [] [0, 1] fun kV doc pm an cdv ct us ws h1 h2 => match us, h1, ws, h2 with | [_, _], _, [], _ => rfl)
  have xk_InvalidTable_0 : ∀ base : Heap, XcK P w K mg base (ctK K).InvalidTable "index" 0 ["index"] := fun base => bXcK_ok (s.fact 74) (ok_xinit F_InvalidTable___init__ S_InvalidTable___init__ rfl rfl (by decide) (by decide)) (kb_of F_InvalidTable___init__ 1 ["index"] [0, 1] fun kV doc pm an cdv ct us ws h1 h2 => match us, h1, ws, h2 with | [_], _, [_], _ => rfl)
  have xk_InvalidTable_1 : ∀ base : Heap, XcK P w K mg base (ctK K).InvalidTable "index" 1 [] := fun base => bXcK_ok (s.fact 74) (ok_xinit F_InvalidTable___init__ S_InvalidTable___init__ rfl rfl (by decide) (by decide)) (kb_of F_InvalidTable___init__ 2 [] [0, 1] fun kV doc pm an cdv ct us ws h1 h2 => match us, h1, ws, h2 with | [_, _], _, [], _ => rfl)
  have xk_InvalidText_0 : ∀ base : Heap, XcK P w K mg base (ctK K).InvalidText "given" 0 ["given"] := fun base => bXcK_ok (s.fact 75) (ok_xinit F_InvalidText___init__ S_InvalidText___init__ rfl rfl (by decide) (by decide)) (kb_of F_InvalidText___init__ 1 ["given"] [0, 1] fun kV doc pm an cdv ct us ws h1 h2 => match us, h1, ws, h2 with | [_], _, [_], _ => rfl)
  have xk_InvalidText_1 : ∀ base : Heap, XcK P w K mg base (ctK K).InvalidText "given" 1 [] := fun base => bXcK_ok (s.fact 75) (ok_xinit F_InvalidText___init__ S_InvalidText___init__ rfl rfl (by decide) (by decide)) (kb_of F_InvalidText___init__ 2 [] [0, 1] fun kV doc pm an cdv ct us ws h1 h2 => match us, h1, ws, h2 with | [_, _], _, [], _ => rfl)
  have xk_InvalidWish_0 : ∀ base : Heap, XcK P w K mg base (ctK K).InvalidWish "given" 0 ["given"] := fun base => bXcK_ok (s.fact 76) (ok_xinit F_InvalidWish___init__ S_InvalidWish___init__ rfl rfl (by decide) (by decide)) (kb_of F_InvalidWish___init__ 1 ["given"] [0, 1] fun kV doc pm an cdv ct us ws h1 h2 => match us, h1, ws, h2 with | [_], _, [_], _ => rfl)
  have xk_InvalidWish_1 : ∀ base : Heap, XcK P w K mg base (ctK K).InvalidWish "given" 1 [] := fun base => bXcK_ok (s.fact 76) (ok_xinit F_InvalidWish___init__ S_InvalidWish___init__ rfl rfl (by decide) (by decide)) (kb_of F_InvalidWish___init__ 2 [] [0, 1] fun kV doc pm an cdv ct us ws h1 h2 => match us, h1, ws, h2 with | [_, _], _, [], _ => rfl)
  have xk_NotHeaps_0 : ∀ base : Heap, XcK P w K mg base (ctK K).NotHeaps "given" 0 ["given"] := fun base => bXcK_ok (s.fact 77) (ok_xinit F_NotHeaps___init__ S_NotHeaps___init__ rfl rfl (by decide) (by decide)) (kb_of F_NotHeaps___init__ 1 ["given"] [0, 1] fun kV doc pm an cdv ct us ws h1 h2 => match us, h1, ws, h2 with | [_], _, [_], _ => rfl)
  have xk_NotHeaps_1 : ∀ base : Heap, XcK P w K mg base (ctK K).NotHeaps "given" 1 [] := fun base => bXcK_ok (s.fact 77) (ok_xinit F_NotHeaps___init__ S_NotHeaps___init__ rfl rfl (by decide) (by decide)) (kb_of F_NotHeaps___init__ 2 [] [0, 1] fun kV doc pm an cdv ct us ws h1 h2 => match us, h1, ws, h2 with | [_, _], _, [], _ => rfl)
  have xk_TooFew_0 : ∀ base : Heap, XcK P w K mg base (ctK K).TooFew "given" 0 ["given"] := fun base => bXcK_ok (s.fact 78) (ok_xinit F_TooFew___init__ S_TooFew___init__ rfl rfl (by decide) (by decide)) (kb_of F_TooFew___init__ 1 ["given"] [0, 1] fun kV doc pm an cdv ct us ws h1 h2 => match us, h1, ws, h2 with | [_], _, [_], _ => rfl)
  have xk_TooFew_1 : ∀ base : Heap, XcK P w K mg base (ctK K).TooFew "given" 1 [] := fun base => bXcK_ok (s.fact 78) (ok_xinit F_TooFew___init__ S_TooFew___init__ rfl rfl (by decide) (by decide)) (kb_of F_TooFew___init__ 2 [] [0, 1] fun kV doc pm an cdv ct us ws h1 h2 => match us, h1, ws, h2 with | [_, _], _, [], _ => rfl)
  have xk_UnknownName_0 : ∀ base : Heap, XcK P w K mg base (ctK K).UnknownName "given" 0 ["given"] := fun base => bXcK_ok (s.fact 79) (ok_xinit F_UnknownName___init__ S_UnknownName___init__ rfl rfl (by decide) (by decide)) (kb_of F_UnknownName___init__ 1 ["given"] [0, 1] fun kV doc pm an cdv ct us ws h1 h2 => match us, h1, ws, h2 with | [_], _, [_], _ => rfl)
  have xk_UnknownName_1 : ∀ base : Heap, XcK P w K mg base (ctK K).UnknownName "given" 1 [] := fun base => bXcK_ok (s.fact 79) (ok_xinit F_UnknownName___init__ S_UnknownName___init__ rfl rfl (by decide) (by decide)) (kb_of F_UnknownName___init__ 2 [] [0, 1] fun kV doc pm an cdv ct us ws h1 h2 => match us, h1, ws, h2 with | [_, _], _, [], _ => rfl)
  have o__law_pot := fun base => ok__law_pot (P := P) (w := w) (base := base) F__law_pot T
  have c__law_pot_2 : ∀ base : Heap, OwnP P w K mg base 1 "_law_pot" 2 [] [0, 1] [] (sp__law_pot (ctK K)) := fun base => ⟨_, He.glo_ok KX G (s.fact 80), F__law_pot.kp, pk_of (o__law_pot base) (kb_of F__law_pot 2 [] [0, 1] fun kV doc pm an cdv ct us ws h1 h2 => match us, h1, ws, h2 with | [_, _], _, [], _ => rfl)⟩
  have o__law_scoop := fun base => ok__law_scoop (P := P) (w := w) (base := base) F__law_scoop T
  have c__law_scoop_2 : ∀ base : Heap, OwnP P w K mg base 1 "_law_scoop" 2 [] [0, 1] [] (sp__law_scoop (ctK K)) := fun base => ⟨_, He.glo_ok KX G (s.fact 81), F__law_scoop.kp, pk_of (o__law_scoop base) (kb_of F__law_scoop 2 [] [0, 1] fun kV doc pm an cdv ct us ws h1 h2 => match us, h1, ws, h2 with | [_, _], _, [], _ => rfl)⟩
  have o__law_sorts := fun base => ok__law_sorts (P := P) (w := w) (base := base) F__law_sorts T
  have c__law_sorts_1 : ∀ base : Heap, OwnP P w K mg base 1 "_law_sorts" 1 [] [0] [] (sp__law_sorts (ctK K)) := fun base => ⟨_, He.glo_ok KX G (s.fact 82), F__law_sorts.kp, pk_of (o__law_sorts base) (kb_of F__law_sorts 1 [] [0] fun kV doc pm an cdv ct us ws h1 h2 => match us, h1, ws, h2 with | [_], _, [], _ => rfl)⟩
  have o__law_bases := fun base => ok__law_bases (P := P) (w := w) (base := base) F__law_bases T
  have c__law_bases_1 : ∀ base : Heap, OwnP P w K mg base 1 "_law_bases" 1 [] [0] [] (sp__law_bases (ctK K)) := fun base => ⟨_, He.glo_ok KX G (s.fact 83), F__law_bases.kp, pk_of (o__law_bases base) (kb_of F__law_bases 1 [] [0] fun kV doc pm an cdv ct us ws h1 h2 => match us, h1, ws, h2 with | [_], _, [], _ => rfl)⟩
  have o__law_made := fun base => ok__law_made (P := P) (w := w) (base := base) F__law_made T (xk_Broken_0 base) (xk_Broken_1 base) (xk_InvalidDepths_0 base) (xk_InvalidDepths_1 base) (xk_InvalidHighs_0 base) (xk_InvalidHighs_1 base) (xk_InvalidIndex_0 base) (xk_InvalidIndex_1 base) (xk_InvalidKinds_0 base) (xk_InvalidKinds_1 base) (xk_InvalidName_0 base) (xk_InvalidName_1 base) (xk_InvalidNumber_0 base) (xk_InvalidNumber_1 base) (xk_InvalidRow_0 base) (xk_InvalidRow_1 base) (xk_InvalidTable_0 base) (xk_InvalidTable_1 base) (xk_InvalidText_0 base) (xk_InvalidText_1 base) (xk_InvalidWish_0 base) (xk_InvalidWish_1 base) (xk_NotHeaps_0 base) (xk_NotHeaps_1 base) (xk_TooFew_0 base) (xk_TooFew_1 base) (xk_UnknownName_0 base) (xk_UnknownName_1 base)
  have c__law_made_1 : ∀ base : Heap, OwnP P w K mg base 3 "_law_made" 1 [] [0] [] (sp__law_made (ctK K)) := fun base => ⟨_, He.glo_ok KX G (s.fact 84), F__law_made.kp, pk_of (o__law_made base) (kb_of F__law_made 1 [] [0] fun kV doc pm an cdv ct us ws h1 h2 => match us, h1, ws, h2 with | [_], _, [], _ => rfl)⟩
  have o__law_kept := fun base => ok__law_kept (P := P) (w := w) (base := base) F__law_kept T
  have c__law_kept_2 : ∀ base : Heap, OwnP P w K mg base 1 "_law_kept" 2 [] [0, 1] [] (sp__law_kept (ctK K)) := fun base => ⟨_, He.glo_ok KX G (s.fact 85), F__law_kept.kp, pk_of (o__law_kept base) (kb_of F__law_kept 2 [] [0, 1] fun kV doc pm an cdv ct us ws h1 h2 => match us, h1, ws, h2 with | [_, _], _, [], _ => rfl)⟩
  have o__law_right := fun base => ok__law_right (P := P) (w := w) (base := base) F__law_right T (c__law_bases_1 base) (c__law_kept_2 base) (c__law_made_1 base) (c__law_scoop_2 base) (c__law_sorts_1 base)
  have c__law_right_1 : ∀ base : Heap, OwnP P w K mg base 4 "_law_right" 1 [] [0] [] (sp__law_right (ctK K)) := fun base => ⟨_, He.glo_ok KX G (s.fact 86), F__law_right.kp, pk_of (o__law_right base) (kb_of F__law_right 1 [] [0] fun kV doc pm an cdv ct us ws h1 h2 => match us, h1, ws, h2 with | [_], _, [], _ => rfl)⟩
  refine ⟨fd_law, fun st v => F_law.bindsA (ps := ["_law_script"]) (fun _ _ _ _ _ _ us hl => match us, hl with | [_], _ => rfl) st [v] rfl, fun base _ _ => ?_⟩
  exact ok_law F_law T (c__law_pot_2 base) (c__law_right_1 base)
abbrev Rw : PySem.W.OpenRow := PySem.W.OpenLaw.row PySem.Challenge.rw_runheaps_k01_limits_and_errors
abbrev hk : PySem.W.Hook := hookR 6 exF fnF
def obF (s : PySem.W.SharedT) : AlR := obsR 6 exF fnF (HandSHeadRun.getT s)
theorem obF_eq (s : PySem.W.SharedT) : obF s = hk.obs s.abs := obsR_eq (HandSHeadRun.getT_eq s)
def looseF : List Str := (["WrongValue", "InvalidText", "InvalidNumber", "InvalidName", "InvalidWish", "InvalidIndex", "NotHeaps", "InvalidKinds", "InvalidTable", "InvalidRow", "InvalidHighs", "InvalidDepths", "WrongName", "UnknownName", "NoAnswer", "NoPlan"] : List Str) ++ (["TooFew", "NothingToUndo", "Broken", "MOST_KINDS", "MOST_SIZE", "MOST_MANY", "MOST_AT_ONCE", "MOST_DEPTH", "MOST_ROW", "MOST_STRETCHED", "_law_pot", "_law_scoop", "_law_sorts", "_law_bases", "_law_made", "_law_kept"] : List Str) ++ (["_law_right"] : List Str)
set_option maxHeartbeats 0 in
theorem run (w : World) : HandSHeadRun.RunEq Rw (PySem.W.view Rw.prog [35]) hk obF 12000 looseF w := by
  intro os
  kernel_rfl
end Rh
open PySem PySem.W PySem.Calls PyProof.Rows
set_option maxHeartbeats 0 in
theorem PySem.Challenge.cw_runheaps_k01_limits_and_errors_holds : PySem.Challenge.rw_runheaps_k01_limits_and_errors.Holds := by
  w_on; o_law
  refine HandSHeadRun.head_any (r := OpenLaw.row PySem.Challenge.rw_runheaps_k01_limits_and_errors) (q := view (OpenLaw.row PySem.Challenge.rw_runheaps_k01_limits_and_errors).prog [35]) (H := Rh.hk) (ob := Rh.obF) (M := 12000) (loose := Rh.looseF) (d := HandSHeadRun.topDef (OpenLaw.row PySem.Challenge.rw_runheaps_k01_limits_and_errors).prog 35) (kwd := []) Rh.obF_eq
    (by kernel_rfl) (fun s => by kernel_rfl) Rh.run (by kernel_rfl) (by kernel_rfl) (by kernel_rfl) (by rfl) (by first | assumption | decide +kernel) (by decide +kernel) ⟨rfl, rfl, rfl, rfl, rfl, by decide +kernel⟩ ?hw ?hc
  case hw => w_witness2
  case hc =>
    refine Rh.walk_ofG (l := PySem.Challenge.rw_runheaps_k01_limits_and_errors) (n := 63) (k := 5) (x := "_law_script") rfl (by decide) (by kernel_rfl) ⟨rfl, by decide, by decide⟩ ?F
    intro w mg fa h Y G hmg0
    obtain ⟨K, KX, s⟩ := Y
    have hmg : mg ("law" : PySem.Str) = some (.ref fa) := by
      have e : (HandSHeadRun.topDef (OpenLaw.row PySem.Challenge.rw_runheaps_k01_limits_and_errors).prog 35).name = ("law" : PySem.Str) := by kernel_rfl
      exact (congrArg mg e).symm.trans hmg0
    obtain ⟨fd, hb, hF⟩ := Rh.facts (P := (PySem.Challenge.rw_runheaps_k01_limits_and_errors).prog) (w := w) KX G hmg s
    exact ⟨K, fd, Rh.sp_law (Rh.ctK K), KX, hb, fun ns hl hbits Q hQ => Rh.law_starts (Rh.ctK K) ns hl hbits Q hQ, hF⟩

