import PyProof.Rows.All
import Wide.All
import OpenK.AllK
import Wide.FinOn
import PySem.Challenge.RW_runheaps_k03_kinds_refused
import HandS.ForMost
import HandS.Lambda
import HandS.Flow
import HandS.TupAny
import HandS.Wide
import HandS.WideBits
import HandS.Deep
import HandS.IsInst
import HandS.RaiseMore
import HandS.Small
import HandS.Zip
import KE.GoesMore
import KE.GoesEnum
import HandS.ForExc
import HandS.Property
import HandS.Defaults
import HandS.TryMany
import HandS.ExcCtx
import HandS.HotCalls
import KE.DatumIndex
import HandS.FStr
import HandS.WordsDict
import KE.KTupSum
import HandS.Ends
import HandS.HeadEnd
import HandS.HeadHook4
import HandS.EndBits
import HandS.MakeKw
import HandS.MakeKwOnly
import HandS.ClsMeth
import HandS.HeadNt
import KE.KCallOwn
import OpenK.KOps
import HandS.HeadHook2
import HandS.Head2
import HandS.Iter
import HandS.Dict
import HandS.SortInts
import HandS.SortRule
import HandS.SortKw
import HandS.More
import HandS.ListItems
import KE.KDictPairs
import KE.KItemsList
import KE.KDictWalk
import KE.KPairComp
import HandS.NoneIn
import HandS.TupLe
import HandS.Style
import HandS.SetFor
import HandS.Strs
import PyProof.StrOps2
import HandS.ExcInit
import HandS.ExcField
import KE.KExcInit
import HandS.ExcOwn
import PyProof.Rows.TupAssign
import HandS.EndTab
import KE.KTryMore
import HandS.ExcIs
import HandS.Nested
import KE.DataEq
import KE.IntTextLaws
import KE.KIntText
import KE.KxText
import HandS.Text
import PyProof.Rows.StrBin
import PyProof.Rows.ReprOcc
import PyProof.Rows.StrSplitJoin
import PyProof.Rows.StrItems
import PyProof.ReprLen
set_option Elab.async false
set_option linter.all false
set_option autoImplicit false
set_option maxRecDepth 100000
set_option maxHeartbeats 2000000
/-! DL0: data without addresses over the hand layer: pure values, the small heap of what changes, frames, liftings. -/
namespace Rh
open PySem PySem.Spec PyProof.Rows L2

/-- a datum: what never changes stands in it whole; ref: an object that may change; tup: a tuple, its object known to bear no dict; tpl: a tuple of which that is not told -/
inductive D where
  | non | bl (b : Bool) | int (i : Int) | str (x : Str) | ref (a : Addr) | ty (n : String)
  | scr (ns : List Int) | tup (ds : List D) | tpl (ds : List D) | lst (ds : List D) | dic (ks : List Key) (ds : List D) | obj (C : Addr) (ns : List Str) (ds : List D)

/-- a tuple's own object -/
abbrev tupO (us : List Value) : Obj := { cls := .type "tuple", data := .seq us.toArray }
def TupF (H : Hp) (a : Addr) (vs : List V) : Prop := ∃ us : List Value, H a = some (.frz (tupO us) (.tup vs))
/-- a lambda of the text: its maker's qualified name and names, its own code -/
structure LamDesc where
  q : Str
  params : Arguments
  body : Expr
  scope : Scope
  N : List Str
/-- what stands at an address that may change; lam: the i-th lambda of the text, the slots that it captured and their cells; cel: a cell -/
inductive DO where
  | lst (ds : List D)
  | dK (ks : List Key) (ds : List D)
  | ins (C : Addr) (ns : List Str) (ds : List D)
  | tab (q : Str)
  | dT (ks : List (List Key)) (ds : List D)
  | fT (od : Obj) (vs : List V) (ks : List (List Key)) (ds : List D)
  | lam (L : LamDesc) (i : Nat) (cs : List (Nat × Addr))
  | cel (d : D)
  | fK (od : Obj) (vs : List V) (ks : List Key) (ds : List D)

instance : Inhabited LamDesc := ⟨⟨"", default, default, default, []⟩⟩
abbrev DHp := Addr → Option DO
def up (M : DHp) (a : Addr) (o : DO) : DHp := fun b => if b = a then some o else M b
theorem up_same {M : DHp} {a : Addr} {o : DO} : up M a o a = some o := by unfold up; rw [if_pos rfl]
theorem up_ne {M : DHp} {a b : Addr} {o : DO} (h : b ≠ a) : up M a o b = M b := by unfold up; rw [if_neg h]
theorem up_up {M : DHp} {a : Addr} {o u : DO} : up (up M a o) a u = up M a u := by
  funext b; unfold up; split <;> rfl
theorem ne_up {M : DHp} {a b : Addr} {o : DO} (h : M a = some o) (h' : M b = none) : a ≠ b := by
  intro e; subst e; rw [h] at h'; cases h'
/-- fewer things told -/
def Sub (M N : DHp) : Prop := ∀ a o, M a = some o → N a = some o
theorem Sub.refl (M : DHp) : Sub M M := fun _ _ h => h
theorem Sub.trans {M N O : DHp} (a : Sub M N) (b : Sub N O) : Sub M O := fun _ _ h => b _ _ (a _ _ h)
theorem Sub.up {M N : DHp} {p : Addr} {o : DO} (s : Sub M N) (h : M p = none) : Sub M (up N p o) := fun a u e => by
  rw [up_ne (ne_up e h)]; exact s a u e
theorem Sub.none {M N : DHp} (s : Sub M N) {a : Addr} (h : N a = Option.none) : M a = Option.none := by
  cases e : M a with
  | none => rfl
  | some o => rw [s a o e] at h; cases h
section
variable (K : PySem.W.Frag)
/-- a list that nothing changes any more -/
def KL (H : Hp) (M : DHp) (a : Addr) (vs : List V) : Prop :=
  (M a = none ∧ Rd H a (.lst vs)) ∨
    ∃ (o : Obj) (its : Array Value) (n : Nat), K.lookup a = some o ∧ o.cls = .type "list" ∧ o.dict = none ∧ o.data = .seq its n ∧ its.size ≤ sizeLine ∧ Vals vs its.toList
theorem KL.sq {H : Hp} {M : DHp} {a : Addr} {vs : List V} (h : KL K H M a vs) : SqL K H a vs := h.elim (fun q => .inl q.2) .inr
mutual
/-- the value v bears the datum -/
def Has (H : Hp) (M : DHp) : D → V → Prop
  | .non, v => v = .non
  | .bl b, v => v = .bl b
  | .int i, v => v = .int i
  | .str x, v => v = .str x
  | .ref a, v => v = .ref a
  | .ty n, v => v = .ty n
  | .scr ns, v => ∃ a, v = .ref a ∧ KL K H M a (ns.map V.int)
  | .tup ds, v => ∃ a vs, v = .ref a ∧ M a = none ∧ TupF H a vs ∧ HasL H M ds vs
  | .tpl ds, v => ∃ a vs, v = .ref a ∧ M a = none ∧ H a = some (.tup vs) ∧ HasL H M ds vs
  | .lst ds, v => ∃ a vs, v = .ref a ∧ M a = none ∧ H a = some (.lst vs) ∧ HasL H M ds vs
  | .dic ks ds, v => ∃ a vs, v = .ref a ∧ M a = none ∧ H a = some (.dK (ks.zip vs)) ∧ ks.length = ds.length ∧ HasL H M ds vs
  | .obj C ns ds, v => ∃ a dx vs, v = .ref a ∧ M a = none ∧ H a = some (.ins C dx (ns.zip vs)) ∧ ns.length = ds.length ∧ HasL H M ds vs
def HasL (H : Hp) (M : DHp) : List D → List V → Prop
  | [], vs => vs = []
  | d :: ds, vs => ∃ v r, vs = v :: r ∧ Has H M d v ∧ HasL H M ds r
end
end

/-- what is not in the small heap stays as it is -/
structure Fr (H : Hp) (M : DHp) (H' : Hp) (M' : DHp) : Prop where
  eq : ∀ a o, H a = some o → M a = none → H' a = some o
  un : ∀ a o, H a = some o → M a = none → M' a = none
theorem Fr.refl (H : Hp) (M : DHp) : Fr H M H M := ⟨fun _ _ h _ => h, fun _ _ _ h => h⟩
theorem Fr.trans {H H1 H2 : Hp} {M M1 M2 : DHp} (a : Fr H M H1 M1) (b : Fr H1 M1 H2 M2) : Fr H M H2 M2 :=
  ⟨fun c o h n => b.eq c o (a.eq c o h n) (a.un c o h n), fun c o h n => b.un c o (a.eq c o h n) (a.un c o h n)⟩
theorem Fr.less {H H1 : Hp} {M M1 M2 : DHp} (a : Fr H M H1 M1) (s : Sub M2 M1) : Fr H M H1 M2 :=
  ⟨a.eq, fun c o h n => s.none (a.un c o h n)⟩
/-- a new object that is told, that is not told -/
theorem Fr.newT {H : Hp} {M : DHp} {p : Addr} {o : HO} {u : DO} (h : H p = none) : Fr H M (upd H p o) (up M p u) :=
  ⟨fun a x e _ => by rw [upd_ne (ne_of_none e h)]; exact e, fun a x e n => by rw [up_ne (ne_of_none e h)]; exact n⟩
theorem Fr.new {H : Hp} {M : DHp} {p : Addr} {o : HO} (h : H p = none) : Fr H M (upd H p o) M :=
  ⟨fun a x e _ => by rw [upd_ne (ne_of_none e h)]; exact e, fun _ _ _ n => n⟩
/-- a told object is changed -/
theorem Fr.put {H : Hp} {M : DHp} {p : Addr} {o : HO} {u u0 : DO} (h : M p = some u0) : Fr H M (upd H p o) (up M p u) :=
  ⟨fun a x e n => by rw [upd_ne (by intro z; subst z; rw [h] at n; cases n)]; exact e, fun a x e n => by rw [up_ne (by intro z; subst z; rw [h] at n; cases n)]; exact n⟩

section
variable {K : PySem.W.Frag} {H H' : Hp} {M M' : DHp}
theorem Rd.some {H : Hp} {a : Addr} {u : HO} (r : Rd H a u) : ∃ o, H a = some o := r.elim (fun h => ⟨_, h⟩) (fun ⟨_, h⟩ => ⟨_, h⟩)
theorem TupF.sq {H : Hp} {a : Addr} {vs : List V} (h : TupF H a vs) : SqT K H a vs := .inl (h.elim fun _ e => .inr ⟨_, e⟩)
theorem TupF.some {H : Hp} {a : Addr} {vs : List V} (h : TupF H a vs) : ∃ o, H a = some o := h.elim fun _ e => ⟨_, e⟩
theorem TupF.fr {a : Addr} {vs : List V} (h : TupF H a vs) (f : Fr H M H' M') (n : M a = none) : TupF H' a vs := h.elim fun us e => ⟨us, f.eq _ _ e n⟩
theorem TupF.un {a : Addr} {vs : List V} (h : TupF H a vs) (f : Fr H M H' M') (n : M a = none) : M' a = none := h.elim fun us e => f.un _ _ e n
theorem KL.fr {a : Addr} {vs : List V} (f : Fr H M H' M') (h : KL K H M a vs) : KL K H' M' a vs := by
  rcases h with ⟨n, r⟩ | h
  · obtain ⟨o, e⟩ := Rd.some r
    refine .inl ⟨f.un a o e n, ?_⟩
    rcases r with r | ⟨x, r⟩
    · exact .inl (f.eq _ _ r n)
    · exact .inr ⟨x, f.eq _ _ r n⟩
  · exact .inr h
mutual
theorem Has.fr (f : Fr H M H' M') : ∀ {d : D} {v : V}, Has K H M d v → Has K H' M' d v
  | .non, _, h => h
  | .bl _, _, h => h
  | .int _, _, h => h
  | .str _, _, h => h
  | .ref _, _, h => h
  | .ty _, _, h => h
  | .scr ns, _, h => by
    obtain ⟨a, e, t⟩ := h
    exact ⟨a, e, t.fr f⟩
  | .tup ds, _, h => by
    obtain ⟨a, vs, e, n, ⟨us, t⟩, r⟩ := h
    exact ⟨a, vs, e, f.un _ _ t n, ⟨us, f.eq _ _ t n⟩, HasL.fr f r⟩
  | .tpl ds, _, h => by
    obtain ⟨a, vs, e, n, t, r⟩ := h
    exact ⟨a, vs, e, f.un _ _ t n, f.eq _ _ t n, HasL.fr f r⟩
  | .lst ds, _, h => by
    obtain ⟨a, vs, e, n, t, r⟩ := h
    exact ⟨a, vs, e, f.un _ _ t n, f.eq _ _ t n, HasL.fr f r⟩
  | .dic ks ds, _, h => by
    obtain ⟨a, vs, e, n, t, l, r⟩ := h
    exact ⟨a, vs, e, f.un _ _ t n, f.eq _ _ t n, l, HasL.fr f r⟩
  | .obj C ns ds, _, h => by
    obtain ⟨a, dx, vs, e, n, t, l, r⟩ := h
    exact ⟨a, dx, vs, e, f.un _ _ t n, f.eq _ _ t n, l, HasL.fr f r⟩
theorem HasL.fr (f : Fr H M H' M') : ∀ {ds : List D} {vs : List V}, HasL K H M ds vs → HasL K H' M' ds vs
  | [], _, h => h
  | d :: ds, _, h => by
    obtain ⟨v, r, e, h1, h2⟩ := h
    exact ⟨v, r, e, Has.fr f h1, HasL.fr f h2⟩
end
theorem HasL.len : ∀ {ds : List D} {vs : List V}, HasL K H M ds vs → vs.length = ds.length
  | [], _, h => by rw [show _ = ([] : List V) from h]; rfl
  | d :: ds, _, h => by
    obtain ⟨v, r, rfl, _, h2⟩ := h
    rw [List.length_cons, List.length_cons, h2.len]
theorem HasL.get : ∀ {ds : List D} {vs : List V} {i : Nat} {d : D}, HasL K H M ds vs → ds[i]? = some d → ∃ v, vs[i]? = some v ∧ Has K H M d v
  | [], _, _, _, _, e => by simp at e
  | d :: ds, _, i, d', h, e => by
    obtain ⟨v, r, rfl, h1, h2⟩ := h
    cases i with
    | zero =>
      rw [List.getElem?_cons_zero] at e
      cases e
      exact ⟨v, rfl, h1⟩
    | succ i =>
      rw [List.getElem?_cons_succ] at e
      obtain ⟨w, hw, r⟩ := HasL.get h2 e
      exact ⟨w, by rw [List.getElem?_cons_succ]; exact hw, r⟩
theorem HasL.get' : ∀ {ds : List D} {vs : List V} {i : Nat} {v : V}, HasL K H M ds vs → vs[i]? = some v → ∃ d, ds[i]? = some d ∧ Has K H M d v
  | [], _, _, _, h, e => by rw [show _ = ([] : List V) from h] at e; simp at e
  | d :: ds, _, i, v', h, e => by
    obtain ⟨v, r, rfl, h1, h2⟩ := h
    cases i with
    | zero =>
      rw [List.getElem?_cons_zero] at e
      cases e
      exact ⟨d, rfl, h1⟩
    | succ i =>
      rw [List.getElem?_cons_succ] at e
      obtain ⟨w, hw, r⟩ := HasL.get' h2 e
      exact ⟨w, by rw [List.getElem?_cons_succ]; exact hw, r⟩
theorem HasL.app : ∀ {ds es : List D} {vs ws : List V}, HasL K H M ds vs → HasL K H M es ws → HasL K H M (ds ++ es) (vs ++ ws)
  | [], _, _, _, h, h' => by rw [show _ = ([] : List V) from h]; exact h'
  | d :: ds, _, _, _, h, h' => by
    obtain ⟨v, r, rfl, h1, h2⟩ := h
    exact ⟨v, _, rfl, h1, HasL.app h2 h'⟩
theorem HasL.one {d : D} {v : V} (h : Has K H M d v) : HasL K H M [d] [v] := ⟨v, [], rfl, h, rfl⟩
theorem HasL.nil : HasL K H M [] [] := rfl
theorem HasL.cons {d : D} {v : V} {ds : List D} {vs : List V} (h : Has K H M d v) (t : HasL K H M ds vs) : HasL K H M (d :: ds) (v :: vs) := ⟨v, vs, rfl, h, t⟩
theorem HasL.drop : ∀ {ds : List D} {vs : List V} (n : Nat), HasL K H M ds vs → HasL K H M (ds.drop n) (vs.drop n)
  | _, _, 0, h => h
  | [], _, n + 1, h => by rw [show _ = ([] : List V) from h]; rfl
  | d :: ds, _, n + 1, h => by
    obtain ⟨v, r, rfl, _, h2⟩ := h
    exact HasL.drop n h2
theorem HasL.take : ∀ {ds : List D} {vs : List V} (n : Nat), HasL K H M ds vs → HasL K H M (ds.take n) (vs.take n)
  | _, _, 0, h => by rw [List.take_zero, List.take_zero]; rfl
  | [], _, n + 1, h => by rw [show _ = ([] : List V) from h]; rfl
  | d :: ds, _, n + 1, h => by
    obtain ⟨v, r, rfl, h1, h2⟩ := h
    exact ⟨v, _, rfl, h1, HasL.take n h2⟩
theorem HasL.set {d : D} {v : V} (h : Has K H M d v) : ∀ {ds : List D} {vs : List V} (n : Nat), HasL K H M ds vs → HasL K H M (ds.set n d) (vs.set n v)
  | [], _, _, q => by rw [show _ = ([] : List V) from q]; rfl
  | e :: ds, _, 0, q => by
    obtain ⟨w, r, rfl, h1, h2⟩ := q
    exact ⟨v, r, rfl, h, h2⟩
  | e :: ds, _, n + 1, q => by
    obtain ⟨w, r, rfl, h1, h2⟩ := q
    exact ⟨w, _, rfl, h1, HasL.set h n h2⟩
end

/-- a thing known to its object -/
abbrev anyO : HO := .ext fun _ => True
/-- the cells of a lambda's closure are those of the captured slots -/
structure ClOk (L : LamDesc) (cs : List (Nat × Addr)) (cl : List (Str × Addr)) : Prop where
  free : ∀ y, L.scope.names.lookup y = some .free → ∃ c, cl.lookup y = some c
  inj : ∀ y z c, cl.lookup y = some c → cl.lookup z = some c → y = z
  to : ∀ y c, cl.lookup y = some c → ∃ j, L.N[j]? = some y ∧ (j, c) ∈ cs
  fro : ∀ j c, (j, c) ∈ cs → ∃ y, L.N[j]? = some y ∧ cl.lookup y = some c
/-- what is told of an address -/
def HasO (K : PySem.W.Frag) (H : Hp) (M : DHp) (a : Addr) : DO → Prop
  | .lst ds => ∃ vs, H a = some (.lst vs) ∧ HasL K H M ds vs
  | .dK ks ds => ∃ vs, H a = some (.dK (ks.zip vs)) ∧ ks.length = ds.length ∧ HasL K H M ds vs
  | .ins C ns ds => ∃ dx vs, H a = some (.ins C dx (ns.zip vs)) ∧ ns.length = ds.length ∧ HasL K H M ds vs
  | .dT ks ds => ∃ vs, H a = some (.dT (ks.zip vs)) ∧ ks.length = ds.length ∧ HasL K H M ds vs
  | .fT od vs ks ds => H a = some (.frz od (.dT (ks.zip vs))) ∧ ks.length = ds.length ∧ HasL K H M ds vs
  | .lam L i cs => ∃ (cl : List (Str × Addr)) (pm ctv : Value) (c' : Addr), H a = some (.frz (PySem.W.kla_obj "<lambda>" L.q L.params L.body L.scope cl pm c' ctv) anyO) ∧ ClOk L cs cl ∧ H c' = some (LamX.CodeO c' L.q) ∧ M c' = none
  | .cel d => ∃ (o : Obj) (u : Value) (v : V), H a = some (.frz o anyO) ∧ o.data = .cell (some u) ∧ RelV v u ∧ Has K H M d v
  | .fK od vs ks ds => H a = some (.frz od (.dK (ks.zip vs))) ∧ ks.length = ds.length ∧ HasL K H M ds vs
  | .tab q => ∃ ps : Array Value, H a = some (.tbl ps) ∧ TriplesOk ps.toList ∧ ∀ (pos : Pos) (cv : Value), codeAmong pos ps.toList = some cv → ∃ b, cv = .ref b ∧ M b = none ∧ H b = some (LamX.CodeO b q)
theorem HasO.at {K : PySem.W.Frag} {H : Hp} {M : DHp} {a : Addr} {o : DO} (h : HasO K H M a o) : ∃ u, H a = some u := by
  cases o with
  | lst ds => obtain ⟨vs, e, _⟩ := h; exact ⟨_, e⟩
  | dK ks ds => obtain ⟨vs, e, _⟩ := h; exact ⟨_, e⟩
  | ins C ns ds => obtain ⟨dx, vs, e, _⟩ := h; exact ⟨_, e⟩
  | tab q => obtain ⟨ps, e, _⟩ := h; exact ⟨_, e⟩
  | dT ks ds => obtain ⟨vs, e, _⟩ := h; exact ⟨_, e⟩
  | fT od vs ks ds => obtain ⟨e, _⟩ := h; exact ⟨_, e⟩
  | lam L i cs => obtain ⟨_, _, _, _, e, _⟩ := h; exact ⟨_, e⟩
  | cel d => obtain ⟨_, _, _, e, _⟩ := h; exact ⟨_, e⟩
  | fK od vs ks ds => obtain ⟨e, _⟩ := h; exact ⟨_, e⟩
theorem HasO.fr {K : PySem.W.Frag} {H H' : Hp} {M M' : DHp} {a : Addr} {o : DO} (f : Fr H M H' M') (e : H' a = H a) (h : HasO K H M a o) : HasO K H' M' a o := by
  cases o with
  | lst ds => obtain ⟨vs, q, r⟩ := h; exact ⟨vs, e.trans q, r.fr f⟩
  | dK ks ds => obtain ⟨vs, q, l, r⟩ := h; exact ⟨vs, e.trans q, l, r.fr f⟩
  | ins C ns ds => obtain ⟨dx, vs, q, l, r⟩ := h; exact ⟨dx, vs, e.trans q, l, r.fr f⟩
  | dT ks ds => obtain ⟨vs, q, l, r⟩ := h; exact ⟨vs, e.trans q, l, r.fr f⟩
  | fT od vs ks ds => obtain ⟨q, l, r⟩ := h; exact ⟨e.trans q, l, r.fr f⟩
  | lam L i cs => obtain ⟨cl, pm, ctv, c', q, k, g, n⟩ := h; exact ⟨cl, pm, ctv, c', e.trans q, k, f.eq _ _ g n, f.un _ _ g n⟩
  | cel d => obtain ⟨o, u, v, q, k, g, r⟩ := h; exact ⟨o, u, v, e.trans q, k, g, r.fr f⟩
  | fK od vs ks ds => obtain ⟨q, l, r⟩ := h; exact ⟨e.trans q, l, r.fr f⟩
  | tab q =>
    obtain ⟨ps, z, k, g⟩ := h
    refine ⟨ps, e.trans z, k, fun pos cv y => ?_⟩
    obtain ⟨b, e1, n, e2⟩ := g pos cv y
    exact ⟨b, e1, f.un _ _ e2 n, f.eq _ _ e2 n⟩
def AbH (K : PySem.W.Frag) (H : Hp) (M : DHp) : Prop := ∀ a o, M a = some o → HasO K H M a o
abbrev DSt := List (Option D)
structure AbS (K : PySem.W.Frag) (H : Hp) (M : DHp) (τ : DSt) (σ : L2.St) : Prop where
  len : τ.length = σ.length
  get : ∀ (i : Nat) (d : D), τ[i]? = some (some d) → ∃ v, σ[i]? = some (some v) ∧ Has K H M d v
section
variable {K : PySem.W.Frag} {H H' : Hp} {M M' : DHp} {τ : DSt} {σ : L2.St}
theorem AbH.fresh (A : AbH K H M) {p : Addr} (h : H p = none) : M p = none := by
  cases e : M p with
  | none => rfl
  | some o =>
    obtain ⟨u, q⟩ := (A p o e).at
    rw [q] at h; cases h
theorem AbH.less (A : AbH K H M) (s : Sub M' M) : AbH K H M' := fun a o e => by
  have f : Fr H M H M' := (Fr.refl H M).less s
  exact (A a o (s a o e)).fr f rfl
theorem AbS.less (A : AbS K H M τ σ) (s : Sub M' M) : AbS K H M' τ σ :=
  ⟨A.len, fun i d e => let ⟨v, q, r⟩ := A.get i d e; ⟨v, q, r.fr ((Fr.refl H M).less s)⟩⟩
theorem AbS.fr (f : Fr H M H' M') (A : AbS K H M τ σ) : AbS K H' M' τ σ :=
  ⟨A.len, fun i d e => let ⟨v, q, r⟩ := A.get i d e; ⟨v, q, r.fr f⟩⟩
theorem AbH.new (A : AbH K H M) {p : Addr} {o : HO} (h : H p = none) : AbH K (upd H p o) M := fun a u e => by
  obtain ⟨x, q⟩ := (A a u e).at
  exact (A a u e).fr (Fr.new h) (upd_ne (ne_of_none q h))
theorem AbH.newT (A : AbH K H M) {p : Addr} {o : HO} {u : DO} (h : H p = none) (n : HasO K (upd H p o) (up M p u) p u) : AbH K (upd H p o) (up M p u) := fun a w e => by
  by_cases z : a = p
  · subst z; rw [up_same] at e; cases e; exact n
  · rw [up_ne z] at e
    exact (A a w e).fr (Fr.newT h) (upd_ne z)
theorem AbH.put (A : AbH K H M) {p : Addr} {o : HO} {u u0 : DO} (h : M p = some u0) (n : HasO K (upd H p o) (up M p u) p u) : AbH K (upd H p o) (up M p u) := fun a w e => by
  by_cases z : a = p
  · subst z; rw [up_same] at e; cases e; exact n
  · rw [up_ne z] at e
    exact (A a w e).fr (Fr.put h) (upd_ne z)
theorem AbS.set (A : AbS K H M τ σ) {d : D} {v : V} (h : Has K H M d v) (i : Nat) : AbS K H M (τ.set i (some d)) (σ.set i (some v)) := by
  refine ⟨by rw [List.length_set, List.length_set]; exact A.len, fun j e q => ?_⟩
  by_cases z : i = j
  · subst z
    by_cases l : i < τ.length
    · rw [List.getElem?_set_self l] at q
      cases q
      exact ⟨v, List.getElem?_set_self (by rw [← A.len]; exact l), h⟩
    · rw [List.getElem?_eq_none (by rw [List.length_set]; omega)] at q
      cases q
  · rw [List.getElem?_set_ne z] at q
    rw [List.getElem?_set_ne z]
    exact A.get j e q
/-- fewer slots told -/
def SubS (τ' τ : DSt) : Prop := τ'.length = τ.length ∧ ∀ (i : Nat) (d : D), τ'[i]? = some (some d) → τ[i]? = some (some d)
theorem SubS.refl (τ : DSt) : SubS τ τ := ⟨rfl, fun _ _ h => h⟩
theorem AbS.lessS {τ' : DSt} (A : AbS K H M τ σ) (s : SubS τ' τ) : AbS K H M τ' σ := ⟨s.1.trans A.len, fun i d e => A.get i d (s.2 i d e)⟩
end
end Rh
/-! DL1: liftings; names, constants, operators, tests, displays. -/
namespace Rh
open PySem PySem.Spec PyProof.Rows L2

structure Org where
  H : Hp
  M : DHp
abbrev DVK := D → DHp → Prop
abbrev DTE := DSt → DHp → DVK → Prop
abbrev DTT := DSt → DHp → (Bool → DHp → Prop) → Prop
structure DEnds where
  nx : DSt → DHp → Prop
  rt : DVK
abbrev DTS := DEnds → DSt → DHp → Prop

/-- what follows, told of data, gives what follows, told of values -/
def Post (K : PySem.W.Frag) (H : Hp) (M : DHp) (Q' : DVK) (Q : VK) : Prop := ∀ d M' v H', Q' d M' → Fr H M H' M' → AbH K H' M' → Has K H' M' d v → Q v H'
def PostB (K : PySem.W.Frag) (H : Hp) (M : DHp) (Q' : Bool → DHp → Prop) (Q : Bool → Hp → Prop) : Prop := ∀ b M' H', Q' b M' → Fr H M H' M' → AbH K H' M' → Q b H'
def PostL (K : PySem.W.Frag) (H : Hp) (M : DHp) (Q' : List D → DHp → Prop) (Q : List V → Hp → Prop) : Prop := ∀ ds M' vs H', Q' ds M' → Fr H M H' M' → AbH K H' M' → HasL K H' M' ds vs → Q vs H'
def PostN (K : PySem.W.Frag) (H : Hp) (M : DHp) (Q' : DSt → DHp → Prop) (Q : L2.St → Hp → Prop) : Prop := ∀ τ M' σ H', Q' τ M' → Fr H M H' M' → AbH K H' M' → AbS K H' M' τ σ → Q σ H'
section
variable {K : PySem.W.Frag} {H H1 : Hp} {M M1 : DHp}
theorem Post.tr {Q' : DVK} {Q : VK} (p : Post K H M Q' Q) (f : Fr H M H1 M1) : Post K H1 M1 Q' Q := fun d M' v H' q g => p d M' v H' q (f.trans g)
theorem PostB.tr {Q' : Bool → DHp → Prop} {Q : Bool → Hp → Prop} (p : PostB K H M Q' Q) (f : Fr H M H1 M1) : PostB K H1 M1 Q' Q := fun d M' H' q g => p d M' H' q (f.trans g)
theorem PostL.tr {Q' : List D → DHp → Prop} {Q : List V → Hp → Prop} (p : PostL K H M Q' Q) (f : Fr H M H1 M1) : PostL K H1 M1 Q' Q := fun d M' v H' q g => p d M' v H' q (f.trans g)
theorem PostN.tr {Q' : DSt → DHp → Prop} {Q : L2.St → Hp → Prop} (p : PostN K H M Q' Q) (f : Fr H M H1 M1) : PostN K H1 M1 Q' Q := fun τ M' σ H' q g => p τ M' σ H' q (f.trans g)
/-- the value stands and nothing else is told of the change -/
theorem Post.same {Q' : DVK} {Q : VK} (p : Post K H M Q' Q) {d : D} {v : V} (A : AbH K H M) (q : Q' d M) (h : Has K H M d v) : Q v H := p d M v H q (Fr.refl H M) A h
end

section
variable (K : PySem.W.Frag) (O : Org)
/-- what every lifting begins with -/
structure Beg (H : Hp) (M : DHp) (τ : DSt) (σ : L2.St) : Prop where
  fr : Fr O.H O.M H M
  s : AbS K H M τ σ
  h : AbH K H M
def liftE (t : DTE) : TE := fun σ H Q => ∃ (τ : DSt) (M : DHp) (Q' : DVK), Beg K O H M τ σ ∧ t τ M Q' ∧ Post K H M Q' Q
def liftT (t : DTT) : TT := fun σ H Q => ∃ (τ : DSt) (M : DHp) (Q' : Bool → DHp → Prop), Beg K O H M τ σ ∧ t τ M Q' ∧ PostB K H M Q' Q
def liftS (t : DTS) : TS := fun D σ H => ∃ (τ : DSt) (M : DHp) (E : DEnds), Beg K O H M τ σ ∧ t E τ M ∧ PostN K H M E.nx D.nx ∧ Post K H M E.rt D.rt
end
theorem Beg.step {K : PySem.W.Frag} {O : Org} {H H1 : Hp} {M M1 : DHp} {τ : DSt} {σ : L2.St} (b : Beg K O H M τ σ) (f : Fr H M H1 M1) (a : AbH K H1 M1) : Beg K O H1 M1 τ σ := ⟨b.fr.trans f, b.s.fr f, a⟩

abbrev DE (X : Cx) (O : Org) (e : Expr) (t : DTE) : Prop := PE X e (liftE X.K O t)
abbrev DT (X : Cx) (O : Org) (e : Expr) (t : DTT) : Prop := PT X e (liftT X.K O t)
abbrev DW (X : Cx) (O : Org) (e : Expr) (t : DTT) : Prop := PW X e (liftT X.K O t)
abbrev DS (X : Cx) (O : Org) (st : Stmt) (t : DTS) : Prop := PS X st (liftS X.K O t)
abbrev DSs (X : Cx) (O : Org) (st : List Stmt) (t : DTS) : Prop := PSs X st (liftS X.K O t)
section
variable {X : Cx}
theorem _root_.L2.PE.wk {e : Expr} {t t' : TE} (h : PE X e t) (i : ∀ σ H Q, t' σ H Q → t σ H Q) : PE X e t' := ⟨fun pins s σ H Q I q => h.run pins s σ H Q I (i σ H Q q)⟩
theorem _root_.L2.PT.wk {e : Expr} {t t' : TT} (h : PT X e t) (i : ∀ σ H Q, t' σ H Q → t σ H Q) : PT X e t' := ⟨fun pins s σ H Q I q => h.run pins s σ H Q I (i σ H Q q)⟩
theorem _root_.L2.PW.wk {e : Expr} {t t' : TT} (h : PW X e t) (i : ∀ σ H Q, t' σ H Q → t σ H Q) : PW X e t' := ⟨fun wh pins s σ H Q I q => h.run wh pins s σ H Q I (i σ H Q q)⟩
theorem _root_.L2.PA.wk {es : List Expr} {t t' : TA} (h : PA X es t) (i : ∀ σ H Q, t' σ H Q → t σ H Q) : PA X es t' := ⟨fun pos pins s σ H Q I q => h.run pos pins s σ H Q I (i σ H Q q)⟩
theorem _root_.L2.PS.wk {e : Stmt} {t t' : TS} (h : PS X e t) (i : ∀ D σ H, t' D σ H → t D σ H) : PS X e t' := ⟨fun pins s σ H D I q => h.run pins s σ H D I (i D σ H q)⟩
theorem _root_.L2.PSs.wk {e : List Stmt} {t t' : TS} (h : PSs X e t) (i : ∀ D σ H, t' D σ H → t D σ H) : PSs X e t' := ⟨fun pins s σ H D I q => h.run pins s σ H D I (i D σ H q)⟩
end

/-! ### names, constants -/
def sl : DSt → Nat → Option D
  | [], _ => none
  | x :: _, 0 => x
  | _ :: r, n + 1 => sl r n
theorem sl_get : ∀ {τ : DSt} {i : Nat} {d : D}, sl τ i = some d → τ[i]? = some (some d)
  | [], _, _, e => by cases e
  | x :: r, 0, d, e => by
    have e' : x = some d := e
    rw [List.getElem?_cons_zero, e']
  | x :: r, n + 1, d, e => by
    rw [List.getElem?_cons_succ]
    exact sl_get (τ := r) e
/-- a datum that is there -/
def wth {α : Type} (o : Option α) (k : α → Prop) : Prop := match o with
  | some a => k a
  | none => False
theorem wth_of {α : Type} {o : Option α} {k : α → Prop} (h : wth o k) : ∃ a, o = some a ∧ k a := by
  cases o with
  | none => exact h.elim
  | some a => exact ⟨a, rfl, h⟩
theorem wth_some {α : Type} {o : Option α} {k : α → Prop} {a : α} (e : o = some a) (h : k a) : wth o k := by
  rw [e]; exact h
def dVar (i : Nat) : DTE := fun τ M Q => wth (sl τ i) fun d => Q d M
def dC (d : D) : DTE := fun _ M Q => Q d M
/-- constants: of each the one value -/
def cV : D → Option V
  | .non => some .non
  | .bl b => some (.bl b)
  | .int i => some (.int i)
  | .str x => some (.str x)
  | .ref a => some (.ref a)
  | .ty n => some (.ty n)
  | _ => none
theorem cV_has {K : PySem.W.Frag} {H : Hp} {M : DHp} {d : D} {v : V} (h : cV d = some v) : Has K H M d v := by
  cases d <;> first | (cases h; rfl) | cases h
section
variable {X : Cx} {O : Org} {pos : Pos}
theorem de_var {i : Nat} {x : Str} (h : PE X (.Name x pos) (tVar i)) : DE X O (.Name x pos) (dVar i) := h.wk fun σ H Q ⟨τ, M, Q', b, t, p⟩ => by
  obtain ⟨d, e, q⟩ := wth_of t
  obtain ⟨v, e', r⟩ := b.s.get i d (sl_get e)
  exact ⟨v, e', p.same b.h q r⟩
theorem de_c {e : Expr} {v : V} {d : D} (h : PE X e (tC v)) (c : cV d = some v) : DE X O e (dC d) := h.wk fun σ H Q ⟨τ, M, Q', b, t, p⟩ => p.same b.h t (cV_has c)

/-! ### operators -/
abbrev DR2 := D → D → DHp → DVK → Prop
def Ref2 (K : PySem.W.Frag) (r : R2) (r' : DR2) : Prop := ∀ (H : Hp) (M : DHp) (x y : V) (dx dy : D) (Q : VK) (Q' : DVK), AbH K H M → Has K H M dx x → Has K H M dy y → r' dx dy M Q' → Post K H M Q' Q → r x y H Q
def dOp (r : DR2) (ta tb : DTE) : DTE := fun τ M Q => ta τ M fun x M1 => tb τ M1 fun y M2 => r x y M2 Q
theorem lift2 {K : PySem.W.Frag} {O : Org} {r : R2} {r' : DR2} {ta tb : DTE} (hr : Ref2 K r r') : ∀ σ H Q, liftE K O (dOp r' ta tb) σ H Q → tOp r (liftE K O ta) (liftE K O tb) σ H Q := fun σ H Q ⟨τ, M, Q', b, t, p⟩ =>
  ⟨τ, M, _, b, t, fun d M1 x H1 q f1 a1 h1 => ⟨τ, M1, _, b.step f1 a1, q, fun e M2 y H2 q2 f2 a2 h2 => hr H2 M2 x y d e Q Q' a2 (h1.fr f2) h2 q2 (p.tr (f1.trans f2))⟩⟩
variable {a c : Expr} {ta tb : DTE}
theorem de_op {op : Operator} {r : R2} {r' : DR2} (ho : OpR X (binaryOp op) r) (hr : Ref2 X.K r r') (ha : DE X O a ta) (hb : DE X O c tb) : DE X O (.BinOp a op c pos) (dOp r' ta tb) := (pe_op ho ha hb).wk (lift2 hr)
theorem de_cmp {op : CmpOp} {r : R2} {r' : DR2} (ho : OpR X (compareOp op) r) (hr : Ref2 X.K r r') (ha : DE X O a ta) (hb : DE X O c tb) (hm : behindInMarks op c = false) : DE X O (.Compare a [op] [c] pos) (dOp r' ta tb) := (pe_cmpR ho ha hb hm).wk (lift2 hr)
/-- a value that is a bool, as a test -/
def dTst (t : DTE) : DTT := fun τ M Q => t τ M fun x M1 => match x with
  | .bl b => Q b M1
  | _ => False
theorem liftTst {K : PySem.W.Frag} {O : Org} {t : DTE} : ∀ σ H Q, liftT K O (dTst t) σ H Q → tTest (liftE K O t) σ H Q := fun σ H Q ⟨τ, M, Q', b, t, p⟩ =>
  ⟨τ, M, _, b, t, fun d M1 x H1 q f1 a1 h1 => by
    cases d with
    | bl k =>
      rw [show x = .bl k from h1]
      exact ⟨k, rfl, p k M1 H1 q f1 a1⟩
    | _ => exact q.elim⟩
theorem dt_cmp {op : CmpOp} {r : R2} {r' : DR2} (ho : OpR X (compareOp op) r) (hr : Ref2 X.K r r') (ha : DE X O a ta) (hb : DE X O c tb) (hm : behindInMarks op c = false) : DT X O (.Compare a [op] [c] pos) (dTst (dOp r' ta tb)) :=
  (pt_cmpR ho ha hb hm).wk fun σ H Q h => lift2 hr σ H _ (liftTst σ H Q h)
end
end Rh
/-! DL1T: tuples whose own object is known: displays, sums, slices, tuple(..). -/
namespace Rh
open PySem PySem.Spec PyProof.Rows L2

section
variable {X : Cx} {pos : Pos}
abbrev frT (us : List Value) (xs : List V) : HO := .frz (tupO us) (.tup xs)
theorem laidT {pins : List (Addr × Obj)} {σ : L2.St} {H : Hp} {s : Shared} {us : List Value} {xs : List V} (I : Inv X pins σ H s) (r : Vals xs us) (z : xs.length ≤ sizeLine) :
    H s.heap.objs.size = none ∧ Inv X pins σ (upd H s.heap.objs.size (frT us xs)) { s with heap := s.heap.push (tupO us) } :=
  ⟨I.hok.fresh (Nat.le_refl _), I.laid (t' := s.toks) (fun b u e => Heap.get?_push_of_some _ e) (Nat.le_refl _) ⟨Heap.get?_push_size _ rfl, z, us, r, IsTup.new _ _⟩⟩
def tTupF (t : TA) : TE := fun σ H Q => t σ H fun xs H1 => xs.length ≤ sizeLine ∧ ∀ z us, H1 z = none → Q (.ref z) (upd H1 z (frT us xs))
theorem pe_tupF {es : List Expr} {t : TA} {x1 : Nat} (h : PA X es t) : PE X (.Tuple es x1 pos) (tTupF t) :=
  ⟨fun pins s σ H Q I hq => wpAny_Tuple_spliced (thn (h.run pos pins s σ H _ I hq) fun us s1 ⟨xs, H1, I1, r, z, q⟩ => ⟨by rw [← r.length]; exact z, ⟨.ref _, _, (laidT I1 r z).2, rfl, q _ us (laidT I1 r z).1⟩⟩)⟩
/-- tuple(x) of a list or tuple -/
def rTupF (K : PySem.W.Frag) : List V → Hp → VK → Prop := fun xs H Q => ∃ p ys, xs = [.ref p] ∧ ((SqL K H p ys ∧ ∀ l us, H l = none → Q (.ref l) (upd H l (frT us ys))) ∨ (SqT K H p ys ∧ Q (.ref p) H))
theorem call_tupleF : CallR X (.type "tuple") (rTupF X.K) := by
  rintro pins s σ H xs us Q I r ⟨p, ys, rfl, ⟨hq, q⟩ | ⟨hq, q⟩⟩
  · obtain ⟨u, rfl, rx⟩ := vals1 r
    cases rx
    obtain ⟨its, r', pl, hz⟩ := I.list hq
    refine call_tuple_list pl.isList (fun h' kp => ?_) (by rw [List.size_toArray, ← r'.length]; exact hz)
    have I1 : Inv X pins σ H { s with heap := h' } := I.kept (t' := s.toks) kp
    exact ⟨.ref _, _, (laidT I1 r' hz).2, rfl, q _ its (laidT I1 r' hz).1⟩
  · exact call_tuple_of pins s σ H _ us Q I r ⟨p, ys, rfl, .inr ⟨hq, q⟩⟩
/-- t + u -/
def rCatF (K : PySem.W.Frag) : R2 := fun x y H Q => ∃ a b xs ys, x = .ref a ∧ y = .ref b ∧ SqT K H a xs ∧ SqT K H b ys ∧ xs.length + ys.length ≤ sizeLine ∧
  (xs = [] → Q (.ref b) H) ∧ (xs ≠ [] → ys = [] → Q (.ref a) H) ∧ (xs ≠ [] → ys ≠ [] → ∀ p us, H p = none → Q (.ref p) (upd H p (frT us (xs ++ ys))))
theorem op_catF : OpR X (binaryOp .Add) (rCatF X.K) := by
  rintro pins s σ H x y v u Q I rx ry ⟨a, b, xs, ys, rfl, rfl, ha, hb, hz, q0, q1, q2⟩
  by_cases hx : xs = []
  · exact op_catA pins s σ H _ _ v u Q I rx ry ⟨a, b, xs, ys, rfl, rfl, ha, hb, hz, q0, q1, fun n => absurd hx n⟩
  by_cases hy : ys = []
  · exact op_catA pins s σ H _ _ v u Q I rx ry ⟨a, b, xs, ys, rfl, rfl, ha, hb, hz, q0, q1, fun _ n => absurd hy n⟩
  cases rx
  cases ry
  obtain ⟨its, r1, p1, _⟩ := I.tuple ha
  obtain ⟨its2, r2, p2, _⟩ := I.tuple hb
  have hz2 : (xs ++ ys).length ≤ sizeLine := by rw [List.length_append]; exact hz
  refine HT.cat_tup p1 p2 (fun z => hx (r1.nil_iff.mp z)) (fun z => absurd (r2.nil_iff.mp z) hy) (fun z => ?_) (by rw [← r1.length, ← r2.length]; exact hz)
  exact ⟨.ref _, _, (laidT I (r1.append r2) hz2).2, rfl, q2 hx hy _ _ (laidT I (r1.append r2) hz2).1⟩
/-- t[lo:hi] -/
def rSlF (K : PySem.W.Frag) : V → Option Int → Option Int → Hp → VK → Prop := fun x lo hi H Q => ∃ a xs, x = .ref a ∧ SqT K H a xs ∧
  (HT.sIx xs.length 0 lo = 0 ∧ HT.sIx xs.length xs.length hi = xs.length → Q (.ref a) H) ∧ (¬ (HT.sIx xs.length 0 lo = 0 ∧ HT.sIx xs.length xs.length hi = xs.length) → ∀ p us, H p = none → Q (.ref p) (upd H p (frT us (cutV xs lo hi))))
theorem sl_tupF : SlR X (rSlF X.K) := by
  rintro pins s σ H x v vl vu lo hi sl Q I rx hs pl pu ⟨a, xs, rfl, hx, q1, q2⟩
  by_cases hw : HT.sIx xs.length 0 lo = 0 ∧ HT.sIx xs.length xs.length hi = xs.length
  · exact sl_tupA pins s σ H _ v vl vu lo hi sl Q I rx hs pl pu ⟨a, xs, rfl, hx, q1, fun n => absurd hw n⟩
  cases rx
  obtain ⟨its, r, ht, hz⟩ := I.tuple hx
  have hlen : its.toArray.size = xs.length := by rw [List.size_toArray, r.length]
  have r2 : Vals (cutV xs lo hi) _ := (r.drop (HT.sIx xs.length 0 lo)).take (HT.sIx xs.length xs.length hi - HT.sIx xs.length 0 lo)
  have z2 : (cutV xs lo hi).length ≤ sizeLine := Nat.le_trans (cutV_length xs lo hi) hz
  refine ⟨"tuple", _, PyProof.Rows.slot_tuple_getitem.lookup, ht.typeIs, HT.getItem_tuple_cut ht hs pl pu (by rw [hlen]; exact hw) ?_ (by rw [hlen]; exact hz)⟩
  rw [hlen]
  exact ⟨.ref _, _, (laidT I r2 z2).2, rfl, q2 hw _ _ (laidT I r2 z2).1⟩
end
end Rh
/-! DL2: operators, truth, tests, displays, subscripts, slices. -/
namespace Rh
open PySem PySem.Spec PyProof.Rows L2

/-! ### what a datum is -/
def mlst (x : D) (M : DHp) : Option (List D) := match x with
  | .lst ds => some ds
  | .ref a => match M a with
    | some (.lst ds) => some ds
    | _ => none
  | _ => none
def lstOf (x : D) (M : DHp) : Option (List D) := match x with
  | .scr ns => some (ns.map D.int)
  | x => mlst x M
def tupOf (x : D) : Option (List D) := match x with
  | .tup ds => some ds
  | _ => none
section
variable {K : PySem.W.Frag} {H : Hp} {M : DHp} {x : D} {v : V} {ds : List D}
theorem mlst_at (A : AbH K H M) (h : Has K H M x v) (e : mlst x M = some ds) : ∃ a vs, v = .ref a ∧ H a = some (.lst vs) ∧ HasL K H M ds vs := by
  cases x with
  | lst es =>
    cases e
    obtain ⟨a, vs, e1, _, e2, r⟩ := h
    exact ⟨a, vs, e1, e2, r⟩
  | ref a =>
    cases q : M a with
    | none => simp only [mlst, q] at e; cases e
    | some o =>
      cases o with
      | lst es =>
        simp only [mlst, q] at e
        cases e
        obtain ⟨vs, e2, r⟩ := A a _ q
        exact ⟨a, vs, h, e2, r⟩
      | _ => simp only [mlst, q] at e; cases e
  | _ => cases e
theorem hasL_ints (K : PySem.W.Frag) (H : Hp) (M : DHp) : ∀ ns : List Int, HasL K H M (ns.map D.int) (ns.map V.int)
  | [] => rfl
  | n :: ns => ⟨_, _, rfl, rfl, hasL_ints K H M ns⟩
theorem lstOf_at (A : AbH K H M) (h : Has K H M x v) (e : lstOf x M = some ds) : ∃ a vs, v = .ref a ∧ SqL K H a vs ∧ HasL K H M ds vs := by
  cases x with
  | scr ns =>
    cases e
    obtain ⟨a, e1, r⟩ := h
    exact ⟨a, _, e1, r.sq, hasL_ints K H M ns⟩
  | lst es =>
    obtain ⟨a, vs, e1, e2, r⟩ := mlst_at A h (show mlst (.lst es) M = some ds from e)
    exact ⟨a, vs, e1, SqL.of e2, r⟩
  | ref b =>
    obtain ⟨a, vs, e1, e2, r⟩ := mlst_at A h (show mlst (.ref b) M = some ds from e)
    exact ⟨a, vs, e1, SqL.of e2, r⟩
  | _ => cases e
theorem tupOf_at (h : Has K H M x v) (e : tupOf x = some ds) : ∃ a vs, v = .ref a ∧ TupF H a vs ∧ HasL K H M ds vs := by
  cases x with
  | tup es =>
    cases e
    obtain ⟨a, vs, e1, _, e2, r⟩ := h
    exact ⟨a, vs, e1, e2, r⟩
  | _ => cases e
end
/-- a new list, tuple -/
def dNew (mu : Bool) (ds : List D) (M : DHp) (Q : DVK) : Prop := match mu with
  | false => Q (.lst ds) M
  | true => ∀ p, M p = none → Q (.ref p) (up M p (.lst ds))
section
variable {K : PySem.W.Frag} {H : Hp} {M : DHp} {ds : List D} {vs : List V} {Q : VK} {Q' : DVK}
theorem new_list {mu : Bool} (A : AbH K H M) (h : HasL K H M ds vs) (q : dNew mu ds M Q') (P : Post K H M Q' Q) {p : Addr} (np : H p = none) : Q (.ref p) (upd H p (.lst vs)) := by
  have nm := A.fresh np
  cases mu with
  | false => exact P _ M _ _ q (Fr.new np) (A.new np) ⟨p, vs, rfl, nm, upd_same, h.fr (Fr.new np)⟩
  | true => exact P _ _ _ _ (q p nm) (Fr.newT np) (A.newT np ⟨vs, upd_same, h.fr (Fr.newT np)⟩) rfl
theorem new_tup (A : AbH K H M) (h : HasL K H M ds vs) (q : Q' (.tup ds) M) (P : Post K H M Q' Q) {p : Addr} {us : List Value} (np : H p = none) : Q (.ref p) (upd H p (frT us vs)) :=
  P _ M _ _ q (Fr.new np) (A.new np) ⟨p, vs, rfl, A.fresh np, ⟨us, upd_same⟩, h.fr (Fr.new np)⟩
theorem new_tpl (A : AbH K H M) (h : HasL K H M ds vs) (q : Q' (.tpl ds) M) (P : Post K H M Q' Q) {p : Addr} (np : H p = none) : Q (.ref p) (upd H p (.tup vs)) :=
  P _ M _ _ q (Fr.new np) (A.new np) ⟨p, vs, rfl, A.fresh np, upd_same, h.fr (Fr.new np)⟩
end

/-! ### binary operators -/
def rI2 (C : Int → Int → Prop) (f : Int → Int → Int) : DR2 := fun x y M Q => match x, y with
  | .int i, .int j => C i j ∧ Q (.int (f i j)) M
  | _, _ => False
theorem ref_I {K : PySem.W.Frag} {C : Int → Int → Prop} {f : Int → Int → Int} : Ref2 K (rI C fun i j => .int (f i j)) (rI2 C f) := fun H M x y dx dy Q Q' A hx hy t P => by
  cases dx <;> first | exact t.elim | skip
  cases dy <;> first | exact t.elim | skip
  exact ⟨_, _, hx, hy, t.1, P.same A t.2 rfl⟩
def rIc (f : Int → Int → Int) : DR2 := fun x y M Q => match x, y with
  | .int i, .int j => Q (.int (f i j)) M
  | _, _ => False
theorem ref_I0 {K : PySem.W.Frag} {f : Int → Int → Int} : Ref2 K (rI0 fun i j => .int (f i j)) (rIc f) := fun H M x y dx dy Q Q' A hx hy t P => by
  cases dx <;> first | exact t.elim | skip
  cases dy <;> first | exact t.elim | skip
  exact ⟨_, _, hx, hy, P.same A t rfl⟩
def rB2 (f : Int → Int → Bool) : DR2 := fun x y M Q => match x, y with
  | .int i, .int j => Q (.bl (f i j)) M
  | _, _ => False
theorem ref_B {K : PySem.W.Frag} {f : Int → Int → Bool} : Ref2 K (rI0 fun i j => .bl (f i j)) (rB2 f) := fun H M x y dx dy Q Q' A hx hy t P => by
  cases dx <;> first | exact t.elim | skip
  cases dy <;> first | exact t.elim | skip
  exact ⟨_, _, hx, hy, P.same A t rfl⟩
/-- + of ints, texts, tuples, lists -/
def rAddAll (K : PySem.W.Frag) : R2 := fun x y H Q => rI0 (fun i j => .int (i + j)) x y H Q ∨ ((∃ i j, x = .str i ∧ y = .str j ∧ i.length + j.length ≤ sizeLine ∧ Q (.str (i ++ j)) H) ∨ (rCatF K x y H Q ∨ rCat x y H Q))
theorem op_addAll {X : Cx} : OpR X (binaryOp .Add) (rAddAll X.K) := OpR.or op_add (OpR.or op_add_str (OpR.or op_catF op_cat))
def rAddD (mu : Bool) : DR2 := fun x y M Q => match x, y with
  | .int i, .int j => Q (.int (i + j)) M
  | .str a, .str b => a.length + b.length ≤ sizeLine ∧ Q (.str (a ++ b)) M
  | .tup a, .tup b => a.length + b.length ≤ sizeLine ∧ Q (.tup (a ++ b)) M
  | x, y => wth (mlst x M) fun a => wth (mlst y M) fun b => a.length + b.length ≤ sizeLine ∧ dNew mu (a ++ b) M Q
theorem ref_add {K : PySem.W.Frag} {mu : Bool} : Ref2 K (rAddAll K) (rAddD mu) := fun H M x y dx dy Q Q' A hx hy t P => by
  have key : ∀ (dx dy : D), Has K H M dx x → Has K H M dy y → (wth (mlst dx M) fun a => wth (mlst dy M) fun b => a.length + b.length ≤ sizeLine ∧ dNew mu (a ++ b) M Q') → rAddAll K x y H Q := fun dx dy hx hy t => by
    obtain ⟨a, e1, t⟩ := wth_of t
    obtain ⟨b, e2, l, t⟩ := wth_of t
    obtain ⟨p, vs, rfl, h1, r1⟩ := mlst_at A hx e1
    obtain ⟨q, ws, rfl, h2, r2⟩ := mlst_at A hy e2
    exact .inr (.inr (.inr ⟨p, q, vs, ws, rfl, rfl, h1, h2, by rw [r1.len, r2.len]; exact l, fun z nz => new_list A (r1.app r2) t P nz⟩))
  unfold rAddD at t
  split at t
  · exact .inl ⟨_, _, hx, hy, P.same A t rfl⟩
  · exact .inr (.inl ⟨_, _, hx, hy, t.1, P.same A t.2 rfl⟩)
  · rename_i a b
    obtain ⟨p, vs, rfl, n1, h1, r1⟩ := hx
    obtain ⟨q, ws, rfl, n2, h2, r2⟩ := hy
    refine .inr (.inr (.inl ⟨p, q, vs, ws, rfl, rfl, h1.sq, h2.sq, by rw [r1.len, r2.len]; exact t.1, fun e => ?_, fun e1 e2 => ?_, fun _ _ z us nz => new_tup A (r1.app r2) t.2 P nz⟩))
    · subst e
      have e' : a = [] := by have := r1.len; cases a with | nil => rfl | cons _ _ => simp at this
      subst e'
      exact P.same A t.2 ⟨q, ws, rfl, n2, h2, r2⟩
    · subst e2
      have e' : b = [] := by have := r2.len; cases b with | nil => rfl | cons _ _ => simp at this
      subst e'
      refine P.same A t.2 ⟨p, vs, rfl, n1, h1, ?_⟩
      rw [List.append_nil]; exact r1
  · exact key _ _ hx hy t
/-- list * int (pure), int * int -/

def CMulW (i j : Int) : Prop := i.natAbs.log2 + j.natAbs.log2 < 100000000
theorem CMulW.ok {i j : Int} (h : CMulW i j) : IntMulOk i j := by
  have b : ∀ x : Int, Builtin.Int.intBits x ≤ x.natAbs.log2 + 1 := fun x => by
    unfold Builtin.Int.intBits
    split <;> omega
  have h1 := b i
  have h2 := b j
  have h3 : i.natAbs.log2 + j.natAbs.log2 < 100000000 := h
  have e : bitsLine = 134217728 := by decide
  unfold IntMulOk
  intro z
  rw [Bool.and_eq_true] at z
  have z2 := z.2
  unfold Builtin.Int.intTooBig at z2
  have z3 := of_decide_eq_true z2
  rw [e] at z3
  omega
theorem op_mulX {X : Cx} : OpR X (binaryOp .Mult) (rI CMulW fun i j => .int (i * j)) := opI fun _ _ _ _ _ _ _ hc q => mul_int q hc.ok
def rMulAll (K : PySem.W.Frag) : R2 := fun x y H Q => rI CMulW (fun i j => .int (i * j)) x y H Q ∨ rRep x y H Q
theorem op_mulAll {X : Cx} : OpR X (binaryOp .Mult) (rMulAll X.K) := OpR.or op_mulX op_rep
def rMulD (mu : Bool) : DR2 := fun x y M Q => match x, y with
  | .int i, .int j => CMulW i j ∧ Q (.int (i * j)) M
  | x, .int k => wth (mlst x M) fun a => -(2 ^ 63) ≤ k ∧ k < 2 ^ 63 ∧ a.length * k.toNat ≤ sizeLine ∧ dNew mu (List.replicate k.toNat a).flatten M Q
  | _, _ => False
theorem hasL_flat {K : PySem.W.Frag} {H : Hp} {M : DHp} {a : List D} {vs : List V} (h : HasL K H M a vs) : ∀ n : Nat, HasL K H M (List.replicate n a).flatten (List.replicate n vs).flatten
  | 0 => rfl
  | n + 1 => by
    rw [List.replicate_succ, List.replicate_succ, List.flatten_cons, List.flatten_cons]
    exact h.app (hasL_flat h n)
theorem ref_mul {K : PySem.W.Frag} {mu : Bool} : Ref2 K (rMulAll K) (rMulD mu) := fun H M x y dx dy Q Q' A hx hy t P => by
  have key : ∀ (dx : D) (k : Int), Has K H M dx x → y = .int k → (wth (mlst dx M) fun a => -(2 ^ 63) ≤ k ∧ k < 2 ^ 63 ∧ a.length * k.toNat ≤ sizeLine ∧ dNew mu (List.replicate k.toNat a).flatten M Q') → rMulAll K x y H Q := fun dx k hx hy t => by
    obtain ⟨a, e1, l1, l2, l3, t⟩ := wth_of t
    obtain ⟨p, vs, rfl, h1, r1⟩ := mlst_at A hx e1
    exact .inr ⟨p, k, vs, rfl, hy, h1, l1, l2, by rw [r1.len]; exact l3, fun z nz => new_list A (hasL_flat r1 _) t P nz⟩
  unfold rMulD at t
  split at t
  · exact .inl ⟨_, _, hx, hy, t.1, P.same A t.2 rfl⟩
  · exact key _ _ hx hy t
  · exact t.elim
theorem ref_div {K : PySem.W.Frag} : Ref2 K (rI CDivW fun i j => .int (i / j)) (rI2 CDivW fun i j => i / j) := ref_I
theorem ref_mod {K : PySem.W.Frag} : Ref2 K (rI (fun _ j => 0 < j) fun i j => .int (i % j)) (rI2 (fun _ j => 0 < j) fun i j => i % j) := ref_I
theorem ref_pow {K : PySem.W.Frag} : Ref2 K (rI CPow fun i j => .int (i ^ j.toNat)) (rI2 CPow fun i j => i ^ j.toNat) := ref_I
theorem ref_sub {K : PySem.W.Frag} : Ref2 K (rI0 fun i j => .int (i - j)) (rIc fun i j => i - j) := ref_I0

/-! ### == of data -/
mutual
def py : D → PyData
  | .non => .none
  | .bl b => .bool b
  | .int i => .int i
  | .str x => .str x
  | .scr ns => .list (ns.map PyData.int)
  | .tup ds => .tuple (pyL ds)
  | .lst ds => .list (pyL ds)
  | .ref _ => .dict []
  | .tpl _ => .dict []
  | .ty _ => .dict []
  | .dic _ _ => .dict []
  | .obj _ _ _ => .dict []
def pyL : List D → List PyData
  | [] => []
  | d :: ds => py d :: pyL ds
end
def pyM (M : DHp) (x : D) : PyData := match x with
  | .ref a => match M a with
    | some (.lst ds) => .list (pyL ds)
    | _ => .dict []
  | x => py x
theorem dpAll_ints {K : PySem.W.Frag} {H : Hp} : ∀ ns : List Int, DpAll K H (ns.map V.int) (ns.map PyData.int)
  | [] => .nil
  | n :: ns => .cons (.int n) (dpAll_ints ns)
section
variable {K : PySem.W.Frag} {H : Hp} {M : DHp}
mutual
theorem Has.dp : ∀ {d : D} {v : V}, Has K H M d v → PyData.canLay0 (py d) = true → Dp K H v (py d)
  | .non, _, h, _ => by rw [show _ = V.non from h]; exact .non
  | .bl b, _, h, _ => by rw [show _ = V.bl b from h]; exact .bl b
  | .int i, _, h, _ => by rw [show _ = V.int i from h]; exact .int i
  | .str x, _, h, _ => by rw [show _ = V.str x from h]; exact .str x
  | .scr ns, _, h, _ => by
    obtain ⟨a, rfl, t⟩ := h
    exact .lst t.sq (dpAll_ints ns)
  | .tup ds, _, h, c => by
    obtain ⟨a, vs, rfl, _, t, r⟩ := h
    exact .tup t.sq (HasL.dp r c)
  | .lst ds, _, h, c => by
    obtain ⟨a, vs, rfl, _, t, r⟩ := h
    exact .lst (SqL.of t) (HasL.dp r c)
  | .ref _, _, _, c => by cases c
  | .tpl _, _, _, c => by cases c
  | .ty _, _, _, c => by cases c
  | .dic _ _, _, _, c => by cases c
  | .obj _ _ _, _, _, c => by cases c
theorem HasL.dp : ∀ {ds : List D} {vs : List V}, HasL K H M ds vs → PyData.canLayAll0 (pyL ds) = true → DpAll K H vs (pyL ds)
  | [], _, h, _ => by rw [show _ = ([] : List V) from h]; exact .nil
  | d :: ds, _, h, c => by
    obtain ⟨v, r, rfl, h1, h2⟩ := h
    obtain ⟨c1, c2⟩ := Bool.and_eq_true_iff.mp (show (PyData.canLay0 (py d) && PyData.canLayAll0 (pyL ds)) = true from c)
    exact .cons (Has.dp h1 c1) (HasL.dp h2 c2)
end
theorem Has.dpM (A : AbH K H M) {d : D} {v : V} (h : Has K H M d v) (s : SeqAt.shaped (pyM M d) = true) : Dp K H v (pyM M d) := by
  have c := SeqAt.canLay_of_shaped s
  cases d with
  | ref a =>
    cases q : M a with
    | none => simp only [pyM, q] at c; cases c
    | some o =>
      cases o with
      | lst es =>
        simp only [pyM, q] at c ⊢
        obtain ⟨vs, e2, r⟩ := A a _ q
        rw [show v = .ref a from h]
        exact .lst (SqL.of e2) (HasL.dp r c)
      | _ => simp only [pyM, q] at c; cases c
  | _ => exact Has.dp h c
end
def rEqDD (neg : Bool) : DR2 := fun x y M Q => match x, y with
  | .str a, .str b => Q (.bl (neg != (a == b))) M
  | x, y => SeqAt.shaped (pyM M x) = true ∧ SeqAt.shaped (pyM M y) = true ∧ Q (.bl (neg != PyData.eqv (pyM M x) (pyM M y))) M
def rEqA (K : PySem.W.Frag) : R2 := fun x y H Q => rEq x y H Q ∨ rEqD K x y H Q
def rNeA (K : PySem.W.Frag) : R2 := fun x y H Q => rNe x y H Q ∨ rNeD K x y H Q
theorem op_eqA {X : Cx} (hu : X.A.units + 64 < cLine) : OpR X (compareOp .Eq) (rEqA X.K) := OpR.or op_eq (op_eqD hu)
theorem op_neA {X : Cx} (hu : X.A.units + 64 < cLine) : OpR X (compareOp .NotEq) (rNeA X.K) := OpR.or op_ne (op_neD hu)
theorem dec_strs {a b : Str} : decide (V.str a = V.str b) = (a == b) := by
  by_cases h : a = b
  · subst h; simp
  · have h2 : V.str a ≠ V.str b := fun e => h (V.str.inj e)
    rw [decide_eq_false h2, beq_eq_false_iff_ne.mpr h]
theorem ref_eq {K : PySem.W.Frag} : Ref2 K (rEqA K) (rEqDD false) := fun H M x y dx dy Q Q' A hx hy t P => by
  unfold rEqDD at t
  split at t
  · rw [show x = _ from hx, show y = _ from hy]
    exact .inl ⟨rfl, P.same A t (by show V.bl _ = V.bl _; rw [Bool.false_bne, dec_strs])⟩
  · exact .inr ⟨_, _, hx.dpM A t.1, hy.dpM A t.2.1, t.1, t.2.1, P.same A t.2.2 (by show V.bl _ = V.bl _; rw [Bool.false_bne])⟩
theorem ref_ne {K : PySem.W.Frag} : Ref2 K (rNeA K) (rEqDD true) := fun H M x y dx dy Q Q' A hx hy t P => by
  unfold rEqDD at t
  split at t
  · rw [show x = _ from hx, show y = _ from hy]
    exact .inl ⟨rfl, P.same A t (by show V.bl _ = V.bl _; rw [Bool.true_bne, dec_strs])⟩
  · exact .inr ⟨_, _, hx.dpM A t.1, hy.dpM A t.2.1, t.1, t.2.1, P.same A t.2.2 (by show V.bl _ = V.bl _; rw [Bool.true_bne])⟩

/-! ### in -/
def flatD : D → Bool
  | .non => true
  | .bl _ => true
  | .int _ => true
  | .str _ => true
  | _ => false
def eqD : D → D → Bool
  | .non, .non => true
  | .bl a, .bl b => a == b
  | .bl a, .int b => (if a then 1 else 0) == b
  | .int a, .bl b => a == (if b then 1 else 0)
  | .int a, .int b => a == b
  | .str a, .str b => a == b
  | _, _ => false
def seqOf (x : D) (M : DHp) : Option (List D) := match x with
  | .tup ds => some ds
  | x => lstOf x M
theorem seqOf_at {K : PySem.W.Frag} {H : Hp} {M : DHp} {x : D} {v : V} {ds : List D} (A : AbH K H M) (h : Has K H M x v) (e : seqOf x M = some ds) : ∃ a vs, v = .ref a ∧ (SqL K H a vs ∨ SqT K H a vs) ∧ HasL K H M ds vs := by
  cases x with
  | tup es =>
    obtain ⟨a, vs, e1, e2, r⟩ := tupOf_at h (show tupOf (.tup es) = some ds from e)
    exact ⟨a, vs, e1, .inr e2.sq, r⟩
  | _ =>
    obtain ⟨a, vs, e1, e2, r⟩ := lstOf_at A h (show lstOf _ M = some ds from e)
    exact ⟨a, vs, e1, .inl e2, r⟩
theorem flat_has {K : PySem.W.Frag} {H : Hp} {M : DHp} {d : D} {v : V} (h : Has K H M d v) (f : flatD d = true) : flatV v = true ∧ ∀ {e : D} {w : V}, Has K H M e w → flatD e = true → eqV w v = eqD e d := by
  cases d <;> first | (cases f; done) | (
    rw [show v = _ from h]
    refine ⟨rfl, fun {e w} h' f' => ?_⟩
    cases e <;> first | (cases f'; done) | (rw [show w = _ from h']; rfl))
theorem flat_hasL {K : PySem.W.Frag} {H : Hp} {M : DHp} {x : D} {v : V} (h : Has K H M x v) (f : flatD x = true) : ∀ {ds : List D} {vs : List V}, HasL K H M ds vs → ds.all flatD = true → vs.all flatV = true ∧ inV v vs = ds.any fun e => eqD e x
  | [], _, r, _ => by rw [show _ = ([] : List V) from r]; exact ⟨rfl, rfl⟩
  | d :: ds, _, r, c => by
    obtain ⟨w, ws, rfl, h1, h2⟩ := r
    rw [List.all_cons, Bool.and_eq_true_iff] at c
    obtain ⟨i1, i2⟩ := flat_hasL h f h2 c.2
    refine ⟨by rw [List.all_cons, (flat_has h1 c.1).1, i1]; rfl, ?_⟩
    show (List.any (w :: ws) fun y => eqV y v) = _
    rw [List.any_cons, List.any_cons, (flat_has h f).2 h1 c.1]
    congr 1
/-- one sign in a text, a flat thing in a list or tuple -/
def rInAll (K : PySem.W.Frag) (neg : Bool) : R2 := fun x y H Q => (∃ (c : Nat) (z : Str), x = .str ⟨#[c]⟩ ∧ y = .str z ∧ Q (.bl (neg != decide (c ∈ z.cps.toList))) H) ∨ rIn K neg x y H Q
theorem op_inAll {X : Cx} : OpR X (compareOp .In) (rInAll X.K false) := OpR.or (by
  intro pins s σ H x y v u Q I rx ry h
  obtain ⟨c, z, e1, e2, q⟩ := h
  exact op_in_sign pins s σ H x y v u Q I rx ry ⟨c, z, e1, e2, by rw [Bool.false_bne] at q; exact q⟩) op_in_seq
def rInD (neg : Bool) : DR2 := fun x y M Q => match y with
  | .str z => (match x with
    | .str s => ∃ c, s = ⟨#[c]⟩ ∧ Q (.bl (neg != decide (c ∈ z.cps.toList))) M
    | _ => False)
  | y => wth (seqOf y M) fun ds => flatD x = true ∧ ds.all flatD = true ∧ Q (.bl (neg != ds.any fun e => eqD e x)) M
theorem ref_in {K : PySem.W.Frag} {neg : Bool} : Ref2 K (rInAll K neg) (rInD neg) := fun H M x y dx dy Q Q' A hx hy t P => by
  have key : ∀ (dy : D), Has K H M dy y → (wth (seqOf dy M) fun ds => flatD dx = true ∧ ds.all flatD = true ∧ Q' (.bl (neg != ds.any fun e => eqD e dx)) M) → rInAll K neg x y H Q := fun dy hy t => by
    obtain ⟨ds, e, f, g, q⟩ := wth_of t
    obtain ⟨a, vs, rfl, sq, r⟩ := seqOf_at A hy e
    obtain ⟨i1, i2⟩ := flat_hasL hx f r g
    refine .inr ⟨a, vs, rfl, sq, (flat_has hx f).1, i1, ?_⟩
    rw [i2]
    refine P.same A q ?_
    cases neg <;> simp [Has]
  cases dy with
  | str z =>
    cases dx <;> first | exact t.elim | skip
    obtain ⟨c, e, q⟩ := t
    subst e
    exact .inl ⟨c, z, hx, hy, P.same A q rfl⟩
  | _ => exact key _ hy t
/-! ### is None -/
end Rh
/-! DL3: truth, tests, arguments, displays, subscripts, slices, built-in calls. -/
namespace Rh
open PySem PySem.Spec PyProof.Rows L2

/-! ### truth -/
def truD (x : D) (M : DHp) : Option Bool := match x with
  | .non => some false
  | .bl b => some b
  | .int i => some (i != 0)
  | .str y => if y.length ≤ sizeLine then some ((y.length : Int) != 0) else none
  | .tup ds => some (!ds.isEmpty)
  | .dic ks _ => some (!ks.isEmpty)
  | .ref a => (match M a with
    | some (.lst ds) => some (!ds.isEmpty)
    | some (.dK ks _) => some (!ks.isEmpty)
    | _ => none)
  | .lst ds => some (!ds.isEmpty)
  | .scr ns => some (!ns.isEmpty)
  | _ => none
theorem empty_len {α β : Type} {a : List α} {b : List β} (h : a.length = b.length) : a.isEmpty = b.isEmpty := by
  cases a <;> cases b <;> first | rfl | (simp at h)
theorem zip_empty {α : Type} {ks : List Key} {vs : List V} (h : ks.length = vs.length) : (ks.zip vs).isEmpty = ks.isEmpty := by
  cases ks <;> cases vs <;> first | rfl | (simp at h)
theorem tru_has {K : PySem.W.Frag} {H : Hp} {M : DHp} {x : D} {v : V} {k : Bool} (A : AbH K H M) (h : Has K H M x v) (e : truD x M = some k) : TruV K v H k := by
  cases x with
  | non => cases e; rw [show v = _ from h]; rfl
  | bl b => cases e; rw [show v = _ from h]; rfl
  | int i => cases e; rw [show v = _ from h]; rfl
  | str y =>
    rw [show v = _ from h]
    simp only [truD] at e
    split at e
    · cases e; exact ⟨by assumption, rfl⟩
    · cases e
  | ty n => cases e
  | obj C ns ds => cases e
  | tpl ds => cases e
  | scr ns =>
    cases e
    obtain ⟨a, rfl, t⟩ := h
    exact .inl ⟨_, t.sq, by rw [empty_len (a := ns) (b := ns.map V.int) (by simp)]⟩
  | tup ds =>
    cases e
    obtain ⟨a, vs, rfl, _, t, r⟩ := h
    exact .inr (.inl ⟨_, t.sq, by rw [empty_len r.len]⟩)
  | lst ds =>
    cases e
    obtain ⟨a, vs, rfl, _, t, r⟩ := h
    exact .inl ⟨_, SqL.of t, by rw [empty_len r.len]⟩
  | dic ks ds =>
    cases e
    obtain ⟨a, vs, rfl, _, t, l, r⟩ := h
    exact .inr (.inr ⟨_, t, by rw [zip_empty (α := Nat) (l.trans r.len.symm)]⟩)
  | ref a =>
    rw [show v = _ from h]
    cases q : M a with
    | none => simp only [truD, q] at e; cases e
    | some o =>
      cases o with
      | lst ds =>
        simp only [truD, q] at e
        cases e
        obtain ⟨vs, t, r⟩ := A a _ q
        exact .inl ⟨_, SqL.of t, by rw [empty_len r.len]⟩
      | dK ks ds =>
        simp only [truD, q] at e
        cases e
        obtain ⟨vs, t, l, r⟩ := A a _ q
        exact .inr (.inr ⟨_, t, by rw [zip_empty (α := Nat) (l.trans r.len.symm)]⟩)
      | _ => simp only [truD, q] at e; cases e

section
variable {X : Cx} {O : Org} {pos : Pos} {a b c : Expr} {ta tb : DTE} {tA tB : DTT} {rest : List Expr}
def dTru (t : DTE) : DTT := fun τ M Q => t τ M fun x M1 => wth (truD x M1) fun k => Q k M1
theorem liftTru {K : PySem.W.Frag} {O : Org} {t : DTE} {σ : L2.St} {H : Hp} {Q : Bool → Hp → Prop} {R : V → Hp → Prop} (hR : ∀ x H' k, TruV K x H' k → Q k H' → R x H') (h : liftT K O (dTru t) σ H Q) : liftE K O t σ H R := by
  obtain ⟨τ, M, Q', b, t, p⟩ := h
  exact ⟨τ, M, _, b, t, fun d M1 x H1 q f1 a1 h1 => by
    obtain ⟨k, e, q⟩ := wth_of q
    exact hR x H1 k (tru_has a1 h1 e) (p k M1 H1 q f1 a1)⟩
theorem dt_truth (ha : DE X O a ta) (he : ∀ whole, isTrue a X.env whole = (do let v ← whole; standAt a.pos; holding [v] (truthy v)) := by intro _; rfl) : DT X O a (dTru ta) :=
  (pt_truth ha he).wk fun σ H Q h => liftTru (fun x H' k e q => ⟨k, e, q⟩) h
def dNot (t : DTT) : DTT := fun τ M Q => t τ M fun k M1 => Q (!k) M1
theorem dt_not (ha : DT X O a tA) : DT X O (.UnaryOp .Not a pos) (dNot tA) := (pt_not ha).wk fun σ H Q ⟨τ, M, Q', b, t, p⟩ => ⟨τ, M, _, b, t, fun k M1 H1 q f a => p _ M1 H1 q f a⟩
def dAnd (t u : DTT) : DTT := fun τ M Q => t τ M fun k M1 => match k with
  | true => u τ M1 Q
  | false => Q false M1
def dOr (t u : DTT) : DTT := fun τ M Q => t τ M fun k M1 => match k with
  | true => Q true M1
  | false => u τ M1 Q
theorem dw_and1 (ha : DT X O a tA) : DW X O (.BoolOp .And [a] pos) tA := pw_and1 ha
theorem dw_or1 (ha : DT X O a tA) : DW X O (.BoolOp .Or [a] pos) tA := pw_or1 ha
theorem dw_and (ha : DT X O a tA) (hb : DW X O (.BoolOp .And (b :: rest) pos) tB) : DW X O (.BoolOp .And (a :: b :: rest) pos) (dAnd tA tB) := (pw_and ha hb).wk fun σ H Q ⟨τ, M, Q', b, t, p⟩ =>
  ⟨τ, M, _, b, t, fun k M1 H1 q f a => by
    cases k with
    | true => rw [if_pos rfl]; exact ⟨τ, M1, Q', b.step f a, q, p.tr f⟩
    | false => rw [if_neg Bool.false_ne_true]; exact p _ M1 H1 q f a⟩
theorem dw_or (ha : DT X O a tA) (hb : DW X O (.BoolOp .Or (b :: rest) pos) tB) : DW X O (.BoolOp .Or (a :: b :: rest) pos) (dOr tA tB) := (pw_or ha hb).wk fun σ H Q ⟨τ, M, Q', b, t, p⟩ =>
  ⟨τ, M, _, b, t, fun k M1 H1 q f a => by
    cases k with
    | false => rw [if_neg Bool.false_ne_true]; exact ⟨τ, M1, Q', b.step f a, q, p.tr f⟩
    | true => rw [if_pos rfl]; exact p _ M1 H1 q f a⟩
theorem dw (h : DW X O a tA) : DT X O a tA := PW.pt h
/-- as values -/
def dAndV (ta tb : DTE) : DTE := fun τ M Q => ta τ M fun x M1 => wth (truD x M1) fun k => match k with
  | true => tb τ M1 Q
  | false => Q x M1
def dNotV (ta : DTE) : DTE := fun τ M Q => ta τ M fun x M1 => wth (truD x M1) fun k => Q (.bl (!k)) M1
theorem de_one {op : BoolOp} (ha : DE X O a ta) : DE X O (.BoolOp op [a] pos) ta := pe_one ha
theorem de_and (ha : DE X O a ta) (hb : DE X O (.BoolOp .And (b :: rest) pos) tb) : DE X O (.BoolOp .And (a :: b :: rest) pos) (dAndV ta tb) := (pe_andT ha hb).wk fun σ H Q ⟨τ, M, Q', b, t, p⟩ =>
  ⟨τ, M, _, b, t, fun d M1 x H1 q f a h => by
    obtain ⟨k, e, q⟩ := wth_of q
    refine ⟨k, tru_has a h e, ?_⟩
    cases k with
    | true => rw [if_pos rfl]; exact ⟨τ, M1, Q', b.step f a, q, p.tr f⟩
    | false => rw [if_neg Bool.false_ne_true]; exact p _ M1 _ H1 q f a h⟩
theorem de_not (ha : DE X O a ta) : DE X O (.UnaryOp .Not a pos) (dNotV ta) := (pe_notT ha).wk fun σ H Q ⟨τ, M, Q', b, t, p⟩ =>
  ⟨τ, M, _, b, t, fun d M1 x H1 q f a h => by
    obtain ⟨k, e, q⟩ := wth_of q
    exact ⟨k, tru_has a h e, p _ M1 _ H1 q f a rfl⟩⟩
def dIf (t : DTT) (ta tb : DTE) : DTE := fun τ M Q => t τ M fun k M1 => match k with
  | true => ta τ M1 Q
  | false => tb τ M1 Q
theorem de_if (hc : DT X O c tA) (ha : DE X O a ta) (hb : DE X O b tb) : DE X O (.IfExp c a b pos) (dIf tA ta tb) := (pe_ifExp hc ha hb).wk fun σ H Q ⟨τ, M, Q', b, t, p⟩ =>
  ⟨τ, M, _, b, t, fun k M1 H1 q f a => by
    cases k with
    | true => rw [if_pos rfl]; exact ⟨τ, M1, Q', b.step f a, q, p.tr f⟩
    | false => rw [if_neg Bool.false_ne_true]; exact ⟨τ, M1, Q', b.step f a, q, p.tr f⟩⟩
/-- a op b op' c -/
def dChain (r r' : DR2) (ta tb tc : DTE) : DTE := fun τ M Q => ta τ M fun x M1 => tb τ M1 fun y M2 => r x y M2 fun z M3 => match z with
  | .bl true => tc τ M3 fun w M4 => r' y w M4 Q
  | .bl false => Q (.bl false) M3
  | _ => False
theorem liftChain {K : PySem.W.Frag} {O : Org} {r r2 : R2} {r' r2' : DR2} {ta tb tc : DTE} (h1 : Ref2 K r r') (h2 : Ref2 K r2 r2') : ∀ σ H Q, liftE K O (dChain r' r2' ta tb tc) σ H Q → tChain r r2 (liftE K O ta) (liftE K O tb) (liftE K O tc) σ H Q := fun σ H Q ⟨τ, M, Q', b, t, p⟩ =>
  ⟨τ, M, _, b, t, fun d M1 x H1 q f1 a1 g1 => ⟨τ, M1, _, b.step f1 a1, q, fun e M2 y H2 q2 f2 a2 g2 => h1 H2 M2 x y d e _ _ a2 (g1.fr f2) g2 q2 fun z M3 v H3 q3 f3 a3 g3 => by
    cases z <;> first | exact q3.elim | skip
    rename_i k
    refine ⟨k, g3, ?_⟩
    cases k with
    | true => rw [if_pos rfl]; exact ⟨τ, M3, _, ((b.step f1 a1).step f2 a2).step f3 a3, q3, fun w M4 wv H4 q4 f4 a4 g4 => h2 H4 M4 y wv e w Q Q' a4 (g2.fr (f3.trans f4)) g4 q4 (p.tr (f1.trans (f2.trans (f3.trans f4))))⟩
    | false => rw [if_neg Bool.false_ne_true]; exact p _ M3 _ H3 q3 (f1.trans (f2.trans f3)) a3 rfl⟩⟩
theorem de_chain {op op' : CmpOp} {r r2 : R2} {r' r2' : DR2} {tc : DTE} (ho : OpR X (compareOp op) r) (h1 : Ref2 X.K r r') (ho' : OpR X (compareOp op') r2) (h2 : Ref2 X.K r2 r2') (ha : DE X O a ta) (hb : DE X O b tb) (hc : DE X O c tc) (hm : lastMarks [op, op'] [b, c] = false := by with_unfolding_all rfl) : DE X O (.Compare a [op, op'] [b, c] pos) (dChain r' r2' ta tb tc) := (pe_chain ho ho' ha hb hc hm).wk (liftChain h1 h2)
/-! ### arguments, displays -/
def dArgs : List DTE → DSt → DHp → (List D → DHp → Prop) → Prop
  | [], _, M, Q => Q [] M
  | t :: ts, τ, M, Q => t τ M fun x M1 => dArgs ts τ M1 fun xs M2 => Q (x :: xs) M2
def tArgs (K : PySem.W.Frag) (O : Org) : List DTE → TA
  | [] => tNil
  | t :: ts => tCons (liftE K O t) (tArgs K O ts)
abbrev DAs (X : Cx) (O : Org) (es : List Expr) (ts : List DTE) : Prop := PA X es (tArgs X.K O ts)
theorem das_nil : DAs X O [] [] := pa_nil
theorem das_cons {e : Expr} {es : List Expr} {t : DTE} {ts : List DTE} (h : DE X O e t) (r : DAs X O es ts) (hs : starEach (e :: es) X.env = (false, eval e X.env) :: starEach es X.env := by rfl) : DAs X O (e :: es) (t :: ts) := pa_cons h r hs
theorem args_lift {K : PySem.W.Frag} {O : Org} : ∀ {ts : List DTE} {σ : L2.St} {H : Hp} {Q : List V → Hp → Prop} {τ : DSt} {M : DHp} {Q' : List D → DHp → Prop}, Beg K O H M τ σ → dArgs ts τ M Q' →
    (∀ ds M' vs H', Q' ds M' → ds.length = ts.length → Fr H M H' M' → AbH K H' M' → HasL K H' M' ds vs → Q vs H') → tArgs K O ts σ H Q
  | [], σ, H, Q, τ, M, Q', b, t, p => p [] M [] H t rfl (Fr.refl H M) b.h rfl
  | t0 :: ts, σ, H, Q, τ, M, Q', b, t, p => ⟨τ, M, _, b, t, fun d M1 x H1 q f a h => args_lift (b.step f a) q fun ds M2 vs H2 q2 l f2 a2 h2 => p (d :: ds) M2 (x :: vs) H2 q2 (by rw [List.length_cons, List.length_cons, l]) (f.trans f2) a2 ⟨x, vs, rfl, h.fr f2, h2⟩⟩
theorem small_line {n : Nat} (h : n ≤ 1000) : n ≤ sizeLine := Nat.le_trans h (by decide)
def dTup (ts : List DTE) : DTE := fun τ M Q => dArgs ts τ M fun ds M1 => Q (.tup ds) M1
def dLst (mu : Bool) (ts : List DTE) : DTE := fun τ M Q => dArgs ts τ M fun ds M1 => dNew mu ds M1 Q
theorem de_tup {es : List Expr} {ts : List DTE} {x1 : Nat} (h : DAs X O es ts) (hl : ts.length ≤ 1000 := by exact Nat.le_of_ble_eq_true rfl) : DE X O (.Tuple es x1 pos) (dTup ts) := (pe_tupF h).wk fun σ H Q ⟨τ, M, Q', b, t, p⟩ =>
  args_lift b t fun ds M' vs H' q l f a h => ⟨by rw [h.len, l]; exact small_line hl, fun z us nz => new_tup a h q (p.tr f) nz⟩
theorem de_lst {es : List Expr} {ts : List DTE} (mu : Bool) (h : DAs X O es ts) (hl : ts.length ≤ 1000 := by exact Nat.le_of_ble_eq_true rfl) : DE X O (.List es pos) (dLst mu ts) := (pe_lst h).wk fun σ H Q ⟨τ, M, Q', b, t, p⟩ =>
  args_lift b t fun ds M' vs H' q l f a h => ⟨by rw [h.len, l]; exact small_line hl, fun z nz => new_list a h q (p.tr f) nz⟩

/-! ### -x -/
def dNeg (ta : DTE) : DTE := fun τ M Q => ta τ M fun x M1 => match x with
  | .int i => Q (.int (-i)) M1
  | _ => False
theorem de_neg (ha : DE X O a ta) : DE X O (.UnaryOp .USub a pos) (dNeg ta) := (pe_un un_neg ha).wk fun σ H Q ⟨τ, M, Q', b, t, p⟩ =>
  ⟨τ, M, _, b, t, fun d M1 x H1 q f a h => by
    cases d <;> first | exact q.elim | skip
    exact ⟨_, h, p _ M1 _ H1 q f a rfl⟩⟩

/-! ### subscripts, slices -/
def rIxAll (K : PySem.W.Frag) : V → V → Hp → VK → Prop := fun x y H Q => rIxL K x y H Q ∨ (rIxT K x y H Q ∨ rIxS x y H Q)
theorem ixAll : IxR X (rIxAll X.K) := IxR.or ix_list (IxR.or ix_tup ix_str)
def rIxD : DR2 := fun x y M Q => match y with
  | .int k => (match x with
    | .str z => z.length ≤ sizeLine ∧ wth (atI z.cps.toList k) fun c => Q (.str ⟨#[c]⟩) M
    | .tpl ds => wth (atI ds k) fun d => Q d M
    | x => wth (seqOf x M) fun ds => wth (atI ds k) fun d => Q d M)
  | _ => False
theorem atI_has {K : PySem.W.Frag} {H : Hp} {M : DHp} {ds : List D} {vs : List V} {k : Int} {d : D} (r : HasL K H M ds vs) (e : atI ds k = some d) : ∃ v, atI vs k = some v ∧ Has K H M d v := by
  unfold atI at e ⊢
  rw [r.len]
  cases q : ixN ds.length k with
  | none => rw [q] at e; cases e
  | some j =>
    rw [q] at e
    exact r.get e
theorem ref_ix {K : PySem.W.Frag} : Ref2 K (rIxAll K) rIxD := fun H M x y dx dy Q Q' A hx hy t P => by
  cases dy <;> first | exact t.elim | skip
  rename_i k
  have key : ∀ (dx : D), Has K H M dx x → (wth (seqOf dx M) fun ds => wth (atI ds k) fun d => Q' d M) → rIxAll K x y H Q := fun dx hx t => by
    obtain ⟨ds, e, t⟩ := wth_of t
    obtain ⟨d, e2, t⟩ := wth_of t
    obtain ⟨p, vs, rfl, sq, r⟩ := seqOf_at A hx e
    obtain ⟨v, e3, hv⟩ := atI_has r e2
    rcases sq with sq | sq
    · exact .inl ⟨p, vs, k, v, rfl, hy, sq, e3, P.same A t hv⟩
    · exact .inr (.inl ⟨p, vs, k, v, rfl, hy, sq, e3, P.same A t hv⟩)
  cases dx with
  | str z =>
    obtain ⟨l, t⟩ := t
    obtain ⟨c, e, t⟩ := wth_of t
    exact .inr (.inr ⟨z, k, c, hx, hy, l, e, P.same A t rfl⟩)
  | tpl ds =>
    obtain ⟨d, e2, t⟩ := wth_of t
    obtain ⟨p, vs, rfl, _, sq, r⟩ := hx
    obtain ⟨v, e3, hv⟩ := atI_has r e2
    exact .inr (.inl ⟨p, vs, k, v, rfl, hy, SqT.of sq, e3, P.same A t hv⟩)
  | _ => exact key _ hx t
theorem de_ix (ha : DE X O a ta) (hb : DE X O b tb) (hs : PlainIx b) : DE X O (.Subscript a b pos) (dOp rIxD ta tb) := (pe_ix ixAll ha hb hs).wk (lift2 ref_ix)
abbrev DTO := DSt → DHp → (Option Int → DHp → Prop) → Prop
def liftO (K : PySem.W.Frag) (O : Org) (t : DTO) : TO := fun σ H Q => ∃ (τ : DSt) (M : DHp) (Q' : Option Int → DHp → Prop), Beg K O H M τ σ ∧ t τ M Q' ∧ ∀ o M' H', Q' o M' → Fr H M H' M' → AbH K H' M' → Q o H'
abbrev DO_ (X : Cx) (O : Org) (e : Option Expr) (t : DTO) : Prop := PO X e (liftO X.K O t)
theorem _root_.L2.PO.wk {e : Option Expr} {t t' : TO} (h : PO X e t) (i : ∀ σ H Q, t' σ H Q → t σ H Q) : PO X e t' := ⟨fun pins s σ H Q I q => h.run pins s σ H Q I (i σ H Q q)⟩
def dNoPart : DTO := fun _ M Q => Q none M
def dPart (t : DTE) : DTO := fun τ M Q => t τ M fun x M1 => match x with
  | .int i => Q (some i) M1
  | _ => False
theorem do_none : DO_ X O none dNoPart := (po_none (X := X)).wk fun σ H Q ⟨τ, M, Q', b, t, p⟩ => p _ M H t (Fr.refl H M) b.h
theorem do_some (h : DE X O a ta) : DO_ X O (some a) (dPart ta) := (po_some h).wk fun σ H Q ⟨τ, M, Q', b, t, p⟩ =>
  ⟨τ, M, _, b, t, fun d M1 x H1 q f a h => by
    cases d <;> first | exact q.elim | skip
    exact ⟨_, h, p _ M1 H1 q f a⟩⟩
def cutD (ds : List D) (lo hi : Option Int) : List D := (ds.drop (HT.sIx ds.length 0 lo)).take (HT.sIx ds.length ds.length hi - HT.sIx ds.length 0 lo)
theorem cut_has {K : PySem.W.Frag} {H : Hp} {M : DHp} {ds : List D} {vs : List V} (r : HasL K H M ds vs) (lo hi : Option Int) : HasL K H M (cutD ds lo hi) (cutV vs lo hi) := by
  unfold cutD cutV
  rw [r.len]
  exact (r.drop _).take _
def rSlAll (K : PySem.W.Frag) : V → Option Int → Option Int → Hp → VK → Prop := fun x lo hi H Q => rSlL K x lo hi H Q ∨ (rSlF K x lo hi H Q ∨ rSlS x lo hi H Q)
theorem slAll : SlR X (rSlAll X.K) := SlR.or sl_list (SlR.or sl_tupF sl_str)
def rSlD (mu : Bool) (x : D) (lo hi : Option Int) (M : DHp) (Q : DVK) : Prop := match x with
  | .str z => z.length ≤ sizeLine ∧ Q (.str (cutS z lo hi)) M
  | .tup ds => Q (.tup (cutD ds lo hi)) M
  | x => wth (lstOf x M) fun ds => dNew mu (cutD ds lo hi) M Q
def dSl (mu : Bool) (te : DTE) (tl th : DTO) : DTE := fun τ M Q => te τ M fun x M1 => tl τ M1 fun l M2 => th τ M2 fun u M3 => rSlD mu x l u M3 Q
theorem ref_sl {K : PySem.W.Frag} {mu : Bool} {H : Hp} {M : DHp} {x : V} {dx : D} {lo hi : Option Int} {Q : VK} {Q' : DVK} (A : AbH K H M) (hx : Has K H M dx x) (t : rSlD mu dx lo hi M Q') (P : Post K H M Q' Q) : rSlAll K x lo hi H Q := by
  have key : ∀ (dx : D), Has K H M dx x → (wth (lstOf dx M) fun ds => dNew mu (cutD ds lo hi) M Q') → rSlAll K x lo hi H Q := fun dx hx t => by
    obtain ⟨ds, e, t⟩ := wth_of t
    obtain ⟨p, vs, rfl, sq, r⟩ := lstOf_at A hx e
    exact .inl ⟨p, vs, rfl, sq, fun z nz => new_list A (cut_has r lo hi) t P nz⟩
  cases dx with
  | str z => exact .inr (.inr ⟨z, hx, t.1, P.same A t.2 rfl⟩)
  | tup ds =>
    obtain ⟨p, vs, rfl, n, sq, r⟩ := hx
    refine .inr (.inl ⟨p, vs, rfl, sq.sq, fun e => ?_, fun _ z us nz => new_tup A (cut_has r lo hi) t P nz⟩)
    have e' : cutD ds lo hi = ds := by
      unfold cutD
      rw [← r.len, e.1, e.2, List.drop_zero, Nat.sub_zero, r.len, List.take_length]
    rw [show rSlD mu (.tup ds) lo hi M Q' = Q' (.tup (cutD ds lo hi)) M from rfl, e'] at t
    exact P.same A t ⟨p, vs, rfl, n, sq, r⟩
  | _ => exact key _ hx t
theorem de_slice {lo hi : Option Expr} {tl th : DTO} {p2 : Pos} (mu : Bool) (ha : DE X O a ta) (hl : DO_ X O lo tl) (hh : DO_ X O hi th) : DE X O (.Subscript a (.Slice lo hi none p2) pos) (dSl mu ta tl th) := (pe_slice slAll ha hl hh).wk fun σ H Q ⟨τ, M, Q', b, t, p⟩ =>
  ⟨τ, M, _, b, t, fun d M1 x H1 q f a h => ⟨τ, M1, _, b.step f a, q, fun l M2 H2 q2 f2 a2 => ⟨τ, M2, _, (b.step f a).step f2 a2, q2, fun u M3 H3 q3 f3 a3 => ref_sl a3 (h.fr (f2.trans f3)) q3 (p.tr (f.trans (f2.trans f3)))⟩⟩⟩

/-! ### built-in calls -/
abbrev DR := List D → DHp → DVK → Prop
abbrev R1 := List V → Hp → VK → Prop
def RefL (K : PySem.W.Frag) (r : R1) (r' : DR) : Prop := ∀ (H : Hp) (M : DHp) (xs : List V) (ds : List D) (Q : VK) (Q' : DVK), AbH K H M → HasL K H M ds xs → r' ds M Q' → Post K H M Q' Q → r xs H Q
def dCB (r : DR) (ts : List DTE) : DTE := fun τ M Q => dArgs ts τ M fun ds M1 => r ds M1 Q
theorem liftCB {K : PySem.W.Frag} {O : Org} {r : R1} {r' : DR} {ts : List DTE} (hr : RefL K r r') : ∀ σ H Q, liftE K O (dCB r' ts) σ H Q → tCB r (tArgs K O ts) σ H Q := fun σ H Q ⟨τ, M, Q', b, t, p⟩ =>
  args_lift b t fun ds M' vs H' q l f a h => hr H' M' vs ds Q Q' a h q (p.tr f)
theorem de_callB {x : Str} {p : Pos} {es : List Expr} {id : String} {r : R1} {r' : DR} {ts : List DTE} (hc : CallR X (.builtin id) r) (hr : RefL X.K r r') (hg : Gl X x) (hm : X.mg x = none) (hv : bootBuiltins x = some (.builtin id)) (ha : DAs X O (a :: es) ts)
    (hn : x ≠ "__name__" := by decide) (hd : (x == ("__debug__" : Str)) = false := by decide) (he : starEach (a :: es) X.env = (false, eval a X.env) :: starEach es X.env := by rfl) (hpl : (backTo pos (starEach es X.env)).any (·.1) = false := by rfl) :
    DE X O (.Call (.Name x p) (a :: es) [] pos) (dCB r' ts) := PE.wk (pe_callB hc hg hm hv ha hn hd he hpl) (liftCB hr)
theorem de_callTy {x : Str} {p : Pos} {es : List Expr} {T : String} {r : R1} {r' : DR} {ts : List DTE} (hc : CallR X (.type T) r) (hr : RefL X.K r r') (hg : Gl X x) (hm : X.mg x = none) (hv : bootBuiltins x = some (.type T)) (ha : DAs X O (a :: es) ts)
    (hn : x ≠ "__name__" := by decide) (hd : (x == ("__debug__" : Str)) = false := by decide) (he : starEach (a :: es) X.env = (false, eval a X.env) :: starEach es X.env := by rfl) (hpl : (backTo pos (starEach es X.env)).any (·.1) = false := by rfl) :
    DE X O (.Call (.Name x p) (a :: es) [] pos) (dCB r' ts) := PE.wk (pe_callTy hc hg hm hv ha hn hd he hpl) (liftCB hr)
end
end Rh
/-! DL4: statements, targets, what is walked, for, while, list comprehensions. -/
namespace Rh
open PySem PySem.Spec PyProof.Rows L2

section
variable {X : Cx} {O : Org} {pos : Pos} {st : Stmt} {rest : List Stmt} {t u : DTS} {e : Expr} {te : DTE}
def dNext : DTS := fun E τ M => E.nx τ M
def dSeq (t u : DTS) : DTS := fun E τ M => t { E with nx := u E } τ M
theorem dss_nil : DSs X O [] dNext := (pss_nil (X := X)).wk fun D σ H ⟨τ, M, E, b, t, pn, pr⟩ => pn τ M σ H t (Fr.refl H M) b.h b.s
theorem dss_cons (h1 : DS X O st t) (h2 : DSs X O rest u) : DSs X O (st :: rest) (dSeq t u) := (pss_cons h1 h2).wk fun D σ H ⟨τ, M, E, b, t, pn, pr⟩ =>
  ⟨τ, M, _, b, t, fun τ1 M1 σ1 H1 q f a s => ⟨τ1, M1, E, ⟨b.fr.trans f, s, a⟩, q, pn.tr f, pr.tr f⟩, pr⟩
theorem dss_one (h1 : DS X O st t) : DSs X O [st] t := pss_one h1
def dDrop (te : DTE) : DTS := fun E τ M => te τ M fun _ M1 => E.nx τ M1
theorem ds_expr (he : DE X O e te) (hs : swapsWith e none pos.line X.env = pure false := by rfl) : DS X O (.Expr e pos) (dDrop te) := (ps_expr he hs).wk fun D σ H ⟨τ, M, E, b, t, pn, pr⟩ =>
  ⟨τ, M, _, b, t, fun d M1 v H1 q f a h => pn τ M1 σ H1 q f a (b.s.fr f)⟩
def dRet (te : DTE) : DTS := fun E τ M => te τ M E.rt
theorem ds_ret (he : DE X O e te) : DS X O (.Return (some e) pos) (dRet te) := (ps_ret he).wk fun D σ H ⟨τ, M, E, b, t, pn, pr⟩ => ⟨τ, M, _, b, t, pr⟩
def dIfS (c : DTT) (t u : DTS) : DTS := fun E τ M => c τ M fun k M1 => match k with
  | true => t E τ M1
  | false => u E τ M1
theorem ds_if {c : Expr} {a b : List Stmt} {tc : DTT} (hc : DT X O c tc) (ha : DSs X O a t) (hb : DSs X O b u) : DS X O (.If c a b pos) (dIfS tc t u) := (ps_if hc ha hb).wk fun D σ H ⟨τ, M, E, b, t, pn, pr⟩ =>
  ⟨τ, M, _, b, t, fun k M1 H1 q f a => by
    cases k with
    | true => rw [if_pos rfl]; exact ⟨τ, M1, E, b.step f a, q, pn.tr f, pr.tr f⟩
    | false => rw [if_neg Bool.false_ne_true]; exact ⟨τ, M1, E, b.step f a, q, pn.tr f, pr.tr f⟩⟩
end

/-! ### targets -/
abbrev DTG := D → DSt → DHp → (DSt → DHp → Prop) → Prop
/-- the target's reading; the slots vs alone may change -/
def RefG (K : PySem.W.Frag) (O : Org) (vs : List Nat) (g : TG) (dg : DTG) : Prop := ∀ (v : V) (d : D) (σ : L2.St) (H : Hp) (τ : DSt) (M : DHp) (Q : L2.St → Hp → Prop) (Q' : DSt → DHp → Prop), Beg K O H M τ σ → Has K H M d v → dg d τ M Q' →
  (∀ τ' M' σ' H', Q' τ' M' → Fr H M H' M' → AbH K H' M' → AbS K H' M' τ' σ' → wipe σ' vs = wipe σ vs → Q σ' H') → g v σ H Q
theorem wipe_set {σ : L2.St} {i : Nat} {x : Option V} : ∀ {vs : List Nat}, i ∈ vs → wipe (σ.set i x) vs = wipe σ vs
  | v :: vs, h => by
    unfold wipe
    by_cases z : i ∈ vs
    · rw [wipe_set z]
    · have e : v = i := by
        rcases List.mem_cons.mp h with q | q
        · exact q.symm
        · exact absurd q z
      subst e
      have key : ∀ ws : List Nat, v ∉ ws → wipe (σ.set v x) ws = (wipe σ ws).set v x := by
        intro ws
        induction ws with
        | nil => intro _; rfl
        | cons w ws ih =>
          intro hn
          unfold wipe
          rw [ih fun q => hn (List.mem_cons_of_mem _ q)]
          exact List.set_comm _ _ fun q => hn (by rw [q]; exact List.mem_cons_self)
      rw [key vs z, List.set_set]
def dgName (i : Nat) : DTG := fun d τ M Q => Q (τ.set i (some d)) M
theorem ref_gName {K : PySem.W.Frag} {O : Org} {vs : List Nat} {i : Nat} (h : i ∈ vs) : RefG K O vs (gName i) (dgName i) := fun v d σ H τ M Q Q' b hv t p =>
  p _ M _ H t (Fr.refl H M) b.h (b.s.set hv i) (wipe_set h)
def dgAll : List DTG → List D → DSt → DHp → (DSt → DHp → Prop) → Prop
  | [], [], τ, M, Q => Q τ M
  | g :: gs, d :: ds, τ, M, Q => g d τ M fun τ' M' => dgAll gs ds τ' M' Q
  | _, _, _, _, _ => False
def RefGs (K : PySem.W.Frag) (O : Org) (vs : List Nat) (g : TGs) (dgs : List DTG) : Prop := ∀ (ws : List V) (ds : List D) (σ : L2.St) (H : Hp) (τ : DSt) (M : DHp) (Q : L2.St → Hp → Prop) (Q' : DSt → DHp → Prop), Beg K O H M τ σ → HasL K H M ds ws → dgAll dgs ds τ M Q' →
  (∀ τ' M' σ' H', Q' τ' M' → Fr H M H' M' → AbH K H' M' → AbS K H' M' τ' σ' → wipe σ' vs = wipe σ vs → Q σ' H') → g ws σ H Q
theorem ref_gNil {K : PySem.W.Frag} {O : Org} {vs : List Nat} : RefGs K O vs gNil [] := fun ws ds σ H τ M Q Q' b hv t p => by
  cases ds with
  | nil => exact ⟨hv, p τ M σ H t (Fr.refl H M) b.h b.s rfl⟩
  | cons d ds => exact t.elim
theorem ref_gCons {K : PySem.W.Frag} {O : Org} {vs : List Nat} {g : TG} {gs : TGs} {dg : DTG} {dgs : List DTG} (h : RefG K O vs g dg) (r : RefGs K O vs gs dgs) : RefGs K O vs (gCons g gs) (dg :: dgs) := fun ws ds σ H τ M Q Q' b hv t p => by
  cases ds with
  | nil => exact t.elim
  | cons d ds =>
    obtain ⟨v, ws', rfl, h1, h2⟩ := hv
    exact ⟨v, ws', rfl, h v d σ H τ M _ _ b h1 t fun τ1 M1 σ1 H1 q f a s w => r ws' ds σ1 H1 τ1 M1 Q Q' ⟨b.fr.trans f, s, a⟩ (h2.fr f) q fun τ2 M2 σ2 H2 q2 f2 a2 s2 w2 => p τ2 M2 σ2 H2 q2 (f.trans f2) a2 s2 (w2.trans w)⟩
/-- the tuple's length told apart -/
def dgTupN (n : Nat) (gs : List DTG) : DTG := fun d τ M Q => match d with
  | .tup ds => ds.length = n ∧ dgAll gs ds τ M Q
  | .tpl ds => ds.length = n ∧ dgAll gs ds τ M Q
  | _ => False
theorem ref_gTup {K : PySem.W.Frag} {O : Org} {vs : List Nat} {n : Nat} {gs : TGs} {dgs : List DTG} (r : RefGs K O vs gs dgs) : RefG K O vs (gTup K n gs) (dgTupN n dgs) := fun v d σ H τ M Q Q' b hv t p => by
  cases d <;> first | exact t.elim | skip
  · obtain ⟨a, ws, rfl, _, hq, hr⟩ := hv
    exact ⟨a, ws, rfl, hq.sq, by rw [hr.len]; exact t.1, r ws _ σ H τ M Q Q' b hr t.2 p⟩
  · obtain ⟨a, ws, rfl, _, hq, hr⟩ := hv
    exact ⟨a, ws, rfl, SqT.of hq, by rw [hr.len]; exact t.1, r ws _ σ H τ M Q Q' b hr t.2 p⟩

section
variable {X : Cx} {O : Org} {pos : Pos} {e : Expr} {te : DTE}
def dAsg (te : DTE) (g : DTG) : DTS := fun E τ M => te τ M fun x M1 => g x τ M1 E.nx
theorem liftAsg {K : PySem.W.Frag} {te : DTE} {g : TG} {dg : DTG} {vs : List Nat} (hr : RefG K O vs g dg) : ∀ D σ H, liftS K O (dAsg te dg) D σ H → tAsg (liftE K O te) g D σ H := fun D σ H ⟨τ, M, E, b, t, pn, pr⟩ =>
  ⟨τ, M, _, b, t, fun d M1 v H1 q f a h => hr v d σ H1 τ M1 _ _ (b.step f a) h q fun τ2 M2 σ2 H2 q2 f2 a2 s2 _ => pn τ2 M2 σ2 H2 q2 (f.trans f2) a2 s2⟩
theorem ds_asg {tg : Expr} {g : TG} {dg : DTG} {vs : List Nat} (he : DE X O e te) (hg : PG X tg g) (hr : RefG X.K O vs g dg) (hs : swapsWithSole [tg] e pos.line X.env = pure false := by rfl) (hw : swappedStores [tg] e X.env = pure none := by rfl)
    (h1 : (assignEach [tg] X.env).map (·.2) = [assign tg X.env] := by rfl) : DS X O (.Assign [tg] e pos) (dAsg te dg) := (ps_asg he hg hs hw h1).wk (liftAsg hr)
/-- name = value -/
theorem ds_set {i : Nat} {x : Str} {pos' : Pos} (hN : X.N.Nodup) (hi : X.N[i]? = some x) (hx : Loc X.env.scope x) (he : DE X O e te) (hs : swapsWith e (some (.Name x pos')) pos.line X.env = pure false := by rfl) (hf : X.fn x = true ∨ X.env.scope.names.lookup x = some .local := by first | exact .inl rfl | exact .inr rfl | assumption) :
    DS X O (.Assign [.Name x pos'] e pos) (dAsg te (dgName i)) := (ps_set hN hi hx he hs hf).wk (liftAsg (vs := [i]) (ref_gName List.mem_cons_self))
/-- a, b = x, y, plain names -/
def dPar (i j : Nat) (ta tb : DTE) : DTS := fun E τ M => ta τ M fun x M1 => tb τ M1 fun y M2 => E.nx ((τ.set i (some x)).set j (some y)) M2
theorem ds_par {i j : Nat} {x y : Str} {a b : Expr} {ta tb : DTE} {px py pt : Pos} {kt k2 : Nat} {pt2 : Pos} (hc : X.calm = true) (hN : X.N.Nodup) (hi : X.N[i]? = some x) (hj : X.N[j]? = some y) (hij : i ≠ j)
    (hx : X.env.scope.names.lookup x = some .local) (hy : X.env.scope.names.lookup y = some .local) (ha : DE X O a ta) (hb : DE X O b tb)
    (hw : swappedStores [.Tuple [.Name x px, .Name y py] kt pt] (.Tuple [a, b] k2 pt2) X.env = pure (some [x, y]))
    (hs : swapsWithSole [.Tuple [.Name x px, .Name y py] kt pt] (.Tuple [a, b] k2 pt2) pos.line X.env = pure false := by rfl)
    (h1 : starEach (a :: [b]) X.env = (false, eval a X.env) :: starEach [b] X.env := by rfl) (h2 : starEach (b :: []) X.env = (false, eval b X.env) :: starEach [] X.env := by rfl) :
    DS X O (.Assign [.Tuple [.Name x px, .Name y py] kt pt] (.Tuple [a, b] k2 pt2) pos) (dPar i j ta tb) :=
  (ps_par hc hN hi hj hij hx hy (das_cons (O := O) ha (das_cons hb das_nil h2) h1) hw hs).wk fun D σ H ⟨τ, M, E, b, t, pn, pr⟩ =>
    ⟨τ, M, _, b, t, fun d M1 v H1 q f a h => ⟨τ, M1, _, b.step f a, q, fun d2 M2 v2 H2 q2 f2 a2 h2 => ⟨v, v2, rfl, pn _ M2 _ H2 q2 (f.trans f2) a2 (((b.s.fr (f.trans f2)).set (h.fr f2) i).set h2 j)⟩⟩⟩
end

/-! ### what is walked -/
abbrev DTI := DSt → DHp → (List D → (DHp → Prop) → DHp → Prop) → Prop
structure ItOk (K : PySem.W.Frag) (J : It) (items : List D) (ok : DHp → Prop) (H1 : Hp) (M1 : DHp) : Prop where
  small : items.length ≤ sizeLine
  stop : ∀ H M, Fr H1 M1 H M → AbH K H M → ok M → J.stop items.length H
  go : ∀ i H M, Fr H1 M1 H M → AbH K H M → ok M → i < items.length → J.go i H
  yld : ∀ i H M x H', Fr H1 M1 H M → AbH K H M → ok M → i < items.length → J.yld i H x H' → Fr H M H' M ∧ AbH K H' M ∧ ∃ d, items[i]? = some d ∧ Has K H' M d x
def liftI (K : PySem.W.Frag) (O : Org) (t : DTI) : TI := fun σ H R => ∃ (τ : DSt) (M : DHp) (R' : List D → (DHp → Prop) → DHp → Prop), Beg K O H M τ σ ∧ t τ M R' ∧
  ∀ items ok M' H' J, R' items ok M' → Fr H M H' M' → AbH K H' M' → ItOk K J items ok H' M' → R J H'
abbrev DI (X : Cx) (O : Org) (tg iter : Expr) (t : DTI) : Prop := PI X tg iter (liftI X.K O t)
theorem _root_.L2.PI.wk {X : Cx} {tg iter : Expr} {t t' : TI} (h : PI X tg iter t) (i : ∀ σ H R, t' σ H R → t σ H R) : PI X tg iter t' := ⟨fun pins s σ H R I q => h.run pins s σ H R I (i σ H R q)⟩

/-- a list, a tuple, a text -/
def iSeqV (K : PySem.W.Frag) (tl : TE) : TI := fun σ H R => tl σ H fun x H1 =>
  (∃ a xs, x = .ref a ∧ SqL K H1 a xs ∧ (xs.length ≤ sizeLine → R (Itl K a) H1)) ∨ (∃ a xs, x = .ref a ∧ SqT K H1 a xs ∧ (xs.length ≤ sizeLine → R (Itt K a) H1))
theorem pi_seqV {X : Cx} {tg l : Expr} {tl : TE} (hl : PE X l tl) : PI X tg l (iSeqV X.K tl) := by
  refine ⟨fun pins s σ H R I h => ?_⟩
  refine thn (hl.run pins s σ H _ I h) fun v s1 ⟨x, H1, I1, r1, q1⟩ => ?_
  rcases q1 with ⟨a, xs, e, hq, q⟩ | ⟨a, xs, e, hq, q⟩
  · subst e
    cases r1
    obtain ⟨its, rv, p, hz⟩ := I1.list hq
    refine wpAny_pyIter_list p.isList ?_
    refine ⟨s1.heap.objs.size, [s1.heap.objs.size], _, _, H1, rfl, I1.kept (t' := s1.toks) fun b o e => Heap.get?_push_of_some _ e, turn_list a _, ⟨_, Heap.get?_push_size _ rfl, rfl, rfl⟩, fun b hb => ?_, q hz⟩
    have e : b = s1.heap.objs.size := by simpa using hb
    subst e
    exact I1.fpOk (Nat.le_refl _) (I1.hok.fresh (Nat.le_refl _))
  · subst e
    cases r1
    obtain ⟨its, rv, p, hz⟩ := I1.tuple hq
    refine wpAny_pyIter_tuple (show s1.heap.IsTuple a its.toArray from p) ?_
    refine ⟨s1.heap.objs.size, [s1.heap.objs.size], _, _, H1, rfl, I1.kept (t' := s1.toks) fun b o e => Heap.get?_push_of_some _ e, turn_tuple a _, ⟨_, Heap.get?_push_size _ rfl, rfl, rfl⟩, fun b hb => ?_, q hz⟩
    have e : b = s1.heap.objs.size := by simpa using hb
    subst e
    exact I1.fpOk (Nat.le_refl _) (I1.hok.fresh (Nat.le_refl _))
/-- a list that stands through the loop -/
def stands (x : D) (ds : List D) : DHp → Prop := fun M => match x with
  | .ref a => M a = some (.lst ds)
  | _ => True
def diSeq (te : DTE) : DTI := fun τ M R => te τ M fun x M1 => wth (seqOf x M1) fun ds => R ds (stands x ds) M1
theorem KL.inj {K : PySem.W.Frag} {H : Hp} {a : Addr} {vs ws : List V} (u : ∀ b, (K.lookup b).isSome = true → H b = none) (h : SqL K H a vs) (h' : SqL K H a ws) : vs = ws := by
  rcases h with (h | ⟨o, h⟩) | ⟨o, its, n, h1, h2, h3, h4, h5, h6⟩
  · rcases h' with (h' | ⟨o', h'⟩) | ⟨o', its', n', g1, _⟩
    · rw [h] at h'; cases h'; rfl
    · rw [h] at h'; cases h'
    · have z := u a (by rw [g1]; rfl); rw [h] at z; cases z
  · rcases h' with (h' | ⟨o', h'⟩) | ⟨o', its', n', g1, _⟩
    · rw [h] at h'; cases h'
    · rw [h] at h'; cases h'; rfl
    · have z := u a (by rw [g1]; rfl); rw [h] at z; cases z
  · rcases h' with (h' | ⟨o', h'⟩) | ⟨o', its', n', g1, g2, g3, g4, g5, g6⟩
    · have z := u a (by rw [h1]; rfl); rw [h'] at z; cases z
    · have z := u a (by rw [h1]; rfl); rw [h'] at z; cases z
    · rw [h1] at g1; cases g1
      rw [h4] at g4; cases g4
      exact h6.inj g6
end Rh
/-! DL5: sources that are walked, for, while, list comprehensions. -/
namespace Rh
open PySem PySem.Spec PyProof.Rows L2

/-! ### enumerate over a tuple -/
section
open PySem.F
variable {prog : Program} {w : World} {A : Around} {E : Value → Shared → Prop} {s : Shared}
theorem begins_tuple_enum (t : Addr) (items : Array Value) :
    Meets (Builtin.«enumerate.__new__» ⟨[.type "enumerate", .ref t], []⟩) (fun _ R s => s.heap.IsTuple t items ∧
      R (.ok (.ret (.ref (s.heap.push { cls := .type "tuple_iterator", data := .fields #[.ref t, .int 0 0] }).objs.size)))
        { s with heap := (s.heap.push { cls := .type "tuple_iterator", data := .fields #[.ref t, .int 0 0] }).push { cls := .type "enumerate", data := .fields #[.none, .bool false, .ref s.heap.objs.size, rawInt 0, .none, .none] } }) :=
  .of_wp fun prog w A R s hyp => by
    obtain ⟨hp, gg, dd, tt, oo⟩ := s
    obtain ⟨ht, hR⟩ := hyp
    have hs := sub_enumerate
    have tp : Heap.IsTuple (Shared.heap ⟨hp, gg, dd, tt, oo⟩) t items := ht
    wp_walk
    refine wpAny_stack_any fun st => wpAny_pure ?_
    split
    · rename_i cc _ _ _ _ _
      cases (cc == Value.type "enumerate") <;> (wp_walk using wpAny_pyIter_tuple tp; exact ⟨_, rfl, hR⟩)
    · wp_walk using wpAny_pyIter_tuple tp
      exact ⟨_, rfl, hR⟩
theorem call_enum_tuple {t : Addr} {items : Array Value} {Q : Value → Shared → Prop} (ht : s.heap.IsTuple t items)
    (k : ∀ h', IsEnum h' (s.heap.objs.size + 1) s.heap.objs.size 0 .none → h'.IsTupleIter s.heap.objs.size t 0 → (∀ b o, s.heap.get? b = some o → h'.get? b = some o) → Q (.ref (s.heap.objs.size + 1)) { s with heap := h' }) :
    wpAny (model prog w) A (call (.type "enumerate") [.ref t]) Q E s := by
  refine callType_new called_enumerate (by decide) (typeCall_enumerate_1 _) (newCall_enumerate_1 _) (fun obj => args_object_init_2 obj _) entry_enumerate_new (begins_tuple_enum t items) ⟨ht, ?_⟩
  generalize ho : ({ cls := .type "tuple_iterator", data := .fields #[.ref t, .int 0 0] } : Obj) = oi
  have z : (s.heap.push oi).objs.size = s.heap.objs.size + 1 := Heap.size_push ..
  show _ ∧ _
  rw [z]
  have at1 : IsEnum ((s.heap.push oi).push { cls := .type "enumerate", data := .fields #[.none, .bool false, .ref s.heap.objs.size, rawInt 0, .none, .none] }) (s.heap.objs.size + 1) s.heap.objs.size 0 .none := by
    have q := Heap.get?_push_size (s.heap.push oi) (o := { cls := .type "enumerate", data := .fields #[.none, .bool false, .ref s.heap.objs.size, rawInt 0, .none, .none] }) rfl
    rw [z] at q
    exact q
  refine ⟨⟨_, at1, rfl⟩, k _ at1 ⟨_, Heap.get?_push_of_some _ (Heap.get?_push_size _ (by rw [← ho] <;> rfl)), by rw [← ho], by rw [← ho] <;> rfl⟩ fun b o x => Heap.get?_push_of_some _ (Heap.get?_push_of_some _ x)⟩
end
/-- the tuple at a, each item in a new pair -/
def IteT (K : PySem.W.Frag) (a : Addr) : It :=
  ⟨fun i H => ∃ (xs : List V) (x : V), SqT K H a xs ∧ xs[i]? = some x, fun i H v H' => ∃ T x, v = .ref T ∧ H T = none ∧ H' = upd H T (.tup [.int (i : Nat), x]) ∧ ∀ xs, SqT K H a xs → xs[i]? = some x, fun i H => ∃ xs : List V, SqT K H a xs ∧ xs.length ≤ i⟩
theorem turn_enumT {P : Program} {w : World} {K : PySem.W.Frag} {elts : List Expr} {kk : Nat} {tpos : Pos} (a e it : Addr) (ae : a ≠ e) (ai : a ≠ it) :
    Turn P w K (.Tuple elts kk tpos) (IteT K a) [e, it] e (fun i h => (∃ old, IsEnum h e it ((i : Nat) : Int) old) ∧ h.IsTupleIter it a i ∧ e ≠ it) where
  mem := by simp
  obj := fun i h st b hb => by
    obtain ⟨⟨old, q1⟩, ⟨o, q2, _, q3⟩, _⟩ := st
    rcases List.mem_cons.mp hb with z | hb
    · rw [z]; exact ⟨_, q1, fun v q => nomatch q⟩
    · rw [List.mem_singleton.mp hb]; exact ⟨o, q2, fun v q => by rw [q3] at q; cases q⟩
  keep := fun i h h' st k => let ⟨⟨old, q1⟩, q2, q3⟩ := st; ⟨⟨old, k e (by simp) _ q1⟩, q2.at fun o q => k it (by simp) o q, q3⟩
  item := by
    intro X hP hw hK hc i pins s σ H E I hf st hg
    subst hP hw hK
    obtain ⟨⟨old, q1⟩, q2, q3⟩ := st
    obtain ⟨xs, x, sq, gx⟩ := hg
    obtain ⟨its, rv, p, _⟩ := I.tuple sq
    obtain ⟨u, gu, ru⟩ := rv.get gx
    have le : e < s.heap.objs.size := Heap.lt_size q1
    have li : it < s.heap.objs.size := by obtain ⟨_, q, _⟩ := q2; exact Heap.lt_size q
    have ilt : i < its.toArray.size := by
      rw [List.size_toArray]
      exact (List.getElem?_eq_some_iff.mp gu).1
    have D := Draws.tuple (prog := X.prog) (w := X.w) (A := X.A.in1) (I.ok.hd hc) it a ai its.toArray
    refine wpAny_pyNext_enum_itemD D q1 ⟨q2, p⟩ ilt q3 (by simp [q3, Ne.symm ae]) fun y h' tk hy ho hst hT _ hk => ?_
    have ey : y = u := by
      have hy' : its.toArray[i]? = some y := hy
      rw [List.getElem?_toArray, gu] at hy'
      exact (Option.some.inj hy').symm
    subst ey
    refine ⟨_, rfl, wpAny_letOwnedTupleGo_enum (s := { s with heap := h', toks := tk + 1 }) ho fun h'' he' sb => ?_⟩
    have hT2 : h''.get? s.heap.objs.size = some { cls := .type "tuple", data := .seq #[.int i tk, y] } := (sb.2 _ (Nat.ne_of_gt le)).trans hT
    have new : ObjOk X.prog X.w (upd H s.heap.objs.size (.tup [.int (i : Nat), x])) h'' s.heap.objs.size (.tup [.int (i : Nat), x]) :=
      ⟨by show 2 ≤ sizeLine; decide, [.int i tk, y], .cons ⟨_, rfl⟩ (.cons ru .nil), ⟨_, hT2, rfl, _, rfl⟩⟩
    have I1 : Inv X pins σ (upd H s.heap.objs.size (.tup [.int (i : Nat), x])) { s with heap := h'', toks := tk + 1 } :=
      I.turnedNew (ch := [e, it]) (fun b ob hb q => (sb.2 b (fun z => hb (by simp [z]))).trans (hk b ob (fun z => hb (by simp [z])) (fun z => hb (by simp [z])) q)) hf (Nat.le_refl _) new
    refine ⟨.ref s.heap.objs.size, _, I1, rfl, ⟨_, x, rfl, I.hok.fresh (Nat.le_refl _), rfl, fun ys hy => by rw [I.tuple_inj hy sq]; exact gx⟩, ⟨⟨y, ?_⟩, hst.1.at fun o q => (sb.2 it (Ne.symm q3)).trans q, q3⟩, fun b hb => ?_⟩
    · rw [show ((i + 1 : Nat) : Int) = (i : Int) + 1 from by omega]
      exact he'
    · have hb' : b < s.heap.objs.size := by
        rcases List.mem_cons.mp hb with z | hb
        · rw [z]; exact le
        · rw [List.mem_singleton.mp hb]; exact li
      rw [upd_ne (Nat.ne_of_lt hb')]
      exact (hf b hb).1
  done := by
    intro X hP hw hK hc i pins s σ H E I hf st hg
    subst hP hw hK
    obtain ⟨⟨old, q1⟩, q2, q3⟩ := st
    obtain ⟨xs, sq, gx⟩ := hg
    obtain ⟨its, rv, p, _⟩ := I.tuple sq
    obtain ⟨f0, f1, f2, f3, f4, f5⟩ := hf it (by simp)
    have hl := rv.length
    have hT : s.TypeIs (.ref e) "enumerate" := ⟨_, q1, rfl⟩
    unfold pyNext
    refine wpAny_bind (wpAny_attempt (wpAny_callSpecial?_slot (name := Str.ofString "__next__") hT F.slot_enumerate_next (wpAny_call_entry F.slot_enumerate_next hT F.entry_enumerate_next ?_ (F.args_enumerate_next_1 _))))
    show wpAny _ _ (field (.ref e) 2 >>= _) _ _ _
    refine wpAny_bind (wpAny_field q1 rfl (x := .ref it) rfl ?_)
    refine wpAny_bind (wpAny_nextOf_tuple_end (I.ok.hd hc) q2 p (by simp; omega) fun h' xe eb hx => ?_)
    obtain ⟨o, ho, hcl⟩ := hx
    refine wpAny_bind (wpAny_isInstance (T := "StopIteration") (b := true) ⟨o, ho, hcl⟩ isSubtype_stop ?_)
    exact wpAny_pure ⟨rfl, I.turned (t' := s.toks) (fun b o hb q => eb b o hb q) f0 f1 f3 f4 f5⟩
  self := fun A i s Q E st h => let ⟨⟨_, he⟩, _⟩ := st; wpAny_pyIter_enum he h
/-- enumerate of a list, of a tuple -/
def iEnumA (K : PySem.W.Frag) (ta : TA) : TI := fun σ H R => ta σ H fun vs H1 =>
  (∃ a xs, vs = [.ref a] ∧ SqL K H1 a xs ∧ (xs.length ≤ sizeLine → R (Ite K a) H1)) ∨ (∃ a xs, vs = [.ref a] ∧ SqT K H1 a xs ∧ (xs.length ≤ sizeLine → R (IteT K a) H1))
theorem pi_enumA {X : Cx} {e : Expr} {ta : TA} {p pos tpos : Pos} {elts : List Expr} {kk : Nat} (hg : Gl X "enumerate") (hm : X.mg "enumerate" = none) (hp : PA X [e] ta) (hs : starEach [e] X.env = [(false, eval e X.env)] := by rfl) :
    PI X (.Tuple elts kk tpos) (.Call (.Name "enumerate" p) [e] [] pos) (iEnumA X.K ta) := by
  refine ⟨fun pins s σ H R I h => ?_⟩
  refine Call_ (ld_blt I hg hm boot_enumerate (PyProof.Rows.callWith_type1 (thn (hp.run pos pins s σ H _ I h) fun us s1 ⟨vs, H1, I1, r1, q1⟩ => ?_) hs rfl))
  rcases q1 with ⟨a, xs, ev, hq, q⟩ | ⟨a, xs, ev, hq, q⟩
  · subst ev
    cases r1 with
    | cons r rr =>
      cases rr
      cases r
      obtain ⟨its, rv, p', hz⟩ := I1.list hq
      refine call_enumerate_list p'.isList fun h' he hit hsz hk => wpAny_pyIter_enum he ?_
      have I2 : Inv X pins σ H1 { s1 with heap := h' } := I1.kept (t' := s1.toks) hk
      refine ⟨s1.heap.objs.size + 1, [s1.heap.objs.size + 1, s1.heap.objs.size], _, _, H1, rfl, I2, turn_enum a (s1.heap.objs.size + 1) s1.heap.objs.size, ⟨⟨.none, he⟩, hit, Nat.succ_ne_self _⟩, fun b hb => ?_, q hz⟩
      have hle : s1.heap.objs.size ≤ b := by
        rcases List.mem_cons.mp hb with z | hb
        · rw [z]; exact Nat.le_succ _
        · rw [List.mem_singleton.mp hb]; exact Nat.le_refl _
      exact I1.fpOk hle (I1.hok.fresh hle)
  · subst ev
    cases r1 with
    | cons r rr =>
      cases rr
      cases r
      obtain ⟨its, rv, p', hz⟩ := I1.tuple hq
      have la : a < s1.heap.objs.size := p'.lt
      refine call_enum_tuple (show s1.heap.IsTuple a its.toArray from p') fun h' he hit hk => wpAny_pyIter_enum he ?_
      have I2 : Inv X pins σ H1 { s1 with heap := h' } := I1.kept (t' := s1.toks) hk
      refine ⟨s1.heap.objs.size + 1, [s1.heap.objs.size + 1, s1.heap.objs.size], _, _, H1, rfl, I2, turn_enumT a (s1.heap.objs.size + 1) s1.heap.objs.size (Nat.ne_of_lt (Nat.lt_succ_of_lt la)) (Nat.ne_of_lt la), ⟨⟨.none, he⟩, hit, Nat.succ_ne_self _⟩, fun b hb => ?_, q hz⟩
      have hle : s1.heap.objs.size ≤ b := by
        rcases List.mem_cons.mp hb with z | hb
        · rw [z]; exact Nat.le_succ _
        · rw [List.mem_singleton.mp hb]; exact Nat.le_refl _
      exact I1.fpOk hle (I1.hok.fresh hle)
end Rh
/-! DL6: sources over data; for, while, list comprehensions. -/
namespace Rh
open PySem PySem.Spec PyProof.Rows L2

/-! ### sources -/
theorem seq_it {K : PySem.W.Frag} {a : Addr} {ds : List D} {ok : DHp → Prop} {H1 : Hp} {M1 : DHp} (sm : ds.length ≤ sizeLine) (k : ∀ H M, Fr H1 M1 H M → AbH K H M → ok M → ∃ vs, SqL K H a vs ∧ HasL K H M ds vs) : ItOk K (Itl K a) ds ok H1 M1 where
  small := sm
  stop := fun H M f A o => let ⟨vs, s, r⟩ := k H M f A o; ⟨vs, s, Nat.le_of_eq r.len⟩
  go := fun i H M f A o hi => by
    obtain ⟨vs, s, r⟩ := k H M f A o
    obtain ⟨v, e, _⟩ := r.get (i := i) (List.getElem?_eq_getElem hi)
    exact ⟨vs, v, s, e⟩
  yld := fun i H M x H' f A o hi y => by
    obtain ⟨vs, s, r⟩ := k H M f A o
    obtain ⟨rfl, y⟩ := y
    obtain ⟨d, e, h⟩ := r.get' (y vs s)
    exact ⟨Fr.refl _ M, A, d, e, h⟩
theorem tup_it {K : PySem.W.Frag} {a : Addr} {ds : List D} {ok : DHp → Prop} {H1 : Hp} {M1 : DHp} (sm : ds.length ≤ sizeLine) (k : ∀ H M, Fr H1 M1 H M → AbH K H M → ok M → ∃ vs, SqT K H a vs ∧ HasL K H M ds vs) : ItOk K (Itt K a) ds ok H1 M1 where
  small := sm
  stop := fun H M f A o => let ⟨vs, s, r⟩ := k H M f A o; ⟨vs, s, Nat.le_of_eq r.len⟩
  go := fun i H M f A o hi => by
    obtain ⟨vs, s, r⟩ := k H M f A o
    obtain ⟨v, e, _⟩ := r.get (i := i) (List.getElem?_eq_getElem hi)
    exact ⟨vs, v, s, e⟩
  yld := fun i H M x H' f A o hi y => by
    obtain ⟨vs, s, r⟩ := k H M f A o
    obtain ⟨rfl, y⟩ := y
    obtain ⟨d, e, h⟩ := r.get' (y vs s)
    exact ⟨Fr.refl _ M, A, d, e, h⟩
/-- what a list, a tuple is, at each later heap -/
theorem seq_later {K : PySem.W.Frag} {H1 : Hp} {M1 : DHp} {x : D} {v : V} {ds : List D} (A : AbH K H1 M1) (h : Has K H1 M1 x v) (e : seqOf x M1 = some ds) :
    ∃ a, v = .ref a ∧ ((∃ xs, SqL K H1 a xs ∧ xs.length = ds.length) ∧ (∀ H M, Fr H1 M1 H M → AbH K H M → stands x ds M → ∃ vs, SqL K H a vs ∧ HasL K H M ds vs) ∨
      (∃ xs, SqT K H1 a xs ∧ xs.length = ds.length) ∧ ∀ H M, Fr H1 M1 H M → AbH K H M → stands x ds M → ∃ vs, SqT K H a vs ∧ HasL K H M ds vs) := by
  cases x with
  | tup es =>
    have ee : es = ds := Option.some.inj e
    subst ee
    obtain ⟨a, vs, rfl, n, t, r⟩ := h
    exact ⟨a, rfl, .inr ⟨⟨vs, t.sq, r.len⟩, fun H M f _ _ => ⟨vs, (t.fr f n).sq, r.fr f⟩⟩⟩
  | lst es =>
    have ee : es = ds := Option.some.inj e
    subst ee
    obtain ⟨a, vs, rfl, n, t, r⟩ := h
    exact ⟨a, rfl, .inl ⟨⟨vs, SqL.of t, r.len⟩, fun H M f _ _ => ⟨vs, SqL.of (f.eq _ _ t n), r.fr f⟩⟩⟩
  | scr ns =>
    have ee : ns.map D.int = ds := Option.some.inj e
    subst ee
    obtain ⟨a, rfl, t⟩ := h
    exact ⟨a, rfl, .inl ⟨⟨_, t.sq, by simp⟩, fun H M f _ _ => ⟨_, (t.fr f).sq, hasL_ints K H M ns⟩⟩⟩
  | ref b =>
    obtain ⟨a, vs, e1, t, r⟩ := mlst_at A h (show mlst (.ref b) M1 = some ds from e)
    have eb : v = .ref b := h
    rw [eb] at e1
    cases e1
    refine ⟨b, eb, .inl ⟨⟨vs, SqL.of t, r.len⟩, fun H M f A' o => ?_⟩⟩
    obtain ⟨ws, t', r'⟩ := A' b _ (show M b = some (.lst ds) from o)
    exact ⟨ws, SqL.of t', r'⟩
  | _ => cases e
section
variable {X : Cx} {O : Org} {pos : Pos} {tg e : Expr} {te : DTE}
theorem di_seq (he : DE X O e te) : DI X O tg e (diSeq te) := (pi_seqV he).wk fun σ H R ⟨τ, M, R', b, t, p⟩ =>
  ⟨τ, M, _, b, t, fun d M1 v H1 q f a h => by
    obtain ⟨ds, e, q⟩ := wth_of q
    obtain ⟨ad, rfl, z⟩ := seq_later a h e
    rcases z with ⟨⟨xs, s, l⟩, k⟩ | ⟨⟨xs, s, l⟩, k⟩
    · exact .inl ⟨ad, xs, rfl, s, fun sm => p ds _ M1 H1 _ q f a (seq_it (by rw [← l]; exact sm) k)⟩
    · exact .inr ⟨ad, xs, rfl, s, fun sm => p ds _ M1 H1 _ q f a (tup_it (by rw [← l]; exact sm) k)⟩⟩
def pairs (i : Nat) : List D → List D
  | [] => []
  | d :: ds => .tpl [.int (i : Int), d] :: pairs (i + 1) ds
theorem pairs_len : ∀ (i : Nat) (ds : List D), (pairs i ds).length = ds.length
  | _, [] => rfl
  | i, d :: ds => by show (pairs (i + 1) ds).length + 1 = ds.length + 1; rw [pairs_len]
theorem pairs_at : ∀ (i j : Nat) (ds : List D), (pairs i ds)[j]? = (ds[j]?).map fun d => .tpl [.int ((i + j : Nat) : Int), d]
  | _, _, [] => by simp [pairs]
  | i, 0, d :: ds => by simp [pairs]
  | i, j + 1, d :: ds => by
    show (pairs (i + 1) ds)[j]? = _
    rw [pairs_at, List.getElem?_cons_succ]
    simp only [Nat.add_assoc, Nat.add_comm 1 j]
def diEnum (te : DTE) : DTI := fun τ M R => te τ M fun x M1 => wth (seqOf x M1) fun ds => R (pairs 0 ds) (stands x ds) M1
/-- a new pair that nothing else holds -/
theorem pair_new {K : PySem.W.Frag} {H : Hp} {M : DHp} {T : Addr} {x y : V} {d e : D} (A : AbH K H M) (nt : H T = none) (h1 : Has K H M d x) (h2 : Has K H M e y) :
    Fr H M (upd H T (.tup [x, y])) M ∧ AbH K (upd H T (.tup [x, y])) M ∧ Has K (upd H T (.tup [x, y])) M (.tpl [d, e]) (.ref T) :=
  ⟨Fr.new nt, A.new nt, ⟨T, [x, y], rfl, A.fresh nt, upd_same, ⟨x, [y], rfl, h1.fr (Fr.new nt), y, [], rfl, h2.fr (Fr.new nt), rfl⟩⟩⟩
theorem di_enum {p tpos : Pos} {elts : List Expr} {kk : Nat} (hg : Gl X "enumerate") (hm : X.mg "enumerate" = none) (he : DE X O e te) (hs : starEach [e] X.env = [(false, eval e X.env)] := by rfl) :
    DI X O (.Tuple elts kk tpos) (.Call (.Name "enumerate" p) [e] [] pos) (diEnum te) := (pi_enumA hg hm (das_cons (O := O) he das_nil hs) hs).wk fun σ H R ⟨τ, M, R', b, t, p⟩ =>
  ⟨τ, M, _, b, t, fun d M1 v H1 q f a h => by
    obtain ⟨ds, e, q⟩ := wth_of q
    obtain ⟨ad, rfl, z⟩ := seq_later a h e
    rcases z with ⟨⟨xs, s, l⟩, k⟩ | ⟨⟨xs, s, l⟩, k⟩
    · refine .inl ⟨ad, xs, rfl, s, fun sm => p (pairs 0 ds) _ M1 H1 _ q f a { small := by rw [pairs_len, ← l]; exact sm, stop := ?_, go := ?_, yld := ?_ }⟩
      · intro H M f A o
        obtain ⟨vs, s, r⟩ := k H M f A o
        exact ⟨vs, s, by rw [pairs_len, r.len]; exact Nat.le_refl _⟩
      · intro i H M f A o hi
        obtain ⟨vs, s, r⟩ := k H M f A o
        rw [pairs_len] at hi
        obtain ⟨v, e, _⟩ := r.get (i := i) (List.getElem?_eq_getElem hi)
        exact ⟨vs, v, s, e⟩
      · intro i H M x H' f A o hi y
        obtain ⟨vs, s, r⟩ := k H M f A o
        obtain ⟨T, y0, rfl, nt, rfl, y⟩ := y
        obtain ⟨d, e, hd⟩ := r.get' (y vs s)
        obtain ⟨f1, a1, h1⟩ := pair_new A nt (show Has X.K H M (.int (i : Int)) (.int (i : Int)) from rfl) hd
        exact ⟨f1, a1, _, by rw [pairs_at, e, Nat.zero_add]; rfl, h1⟩
    · refine .inr ⟨ad, xs, rfl, s, fun sm => p (pairs 0 ds) _ M1 H1 _ q f a { small := by rw [pairs_len, ← l]; exact sm, stop := ?_, go := ?_, yld := ?_ }⟩
      · intro H M f A o
        obtain ⟨vs, s, r⟩ := k H M f A o
        exact ⟨vs, s, by rw [pairs_len, r.len]; exact Nat.le_refl _⟩
      · intro i H M f A o hi
        obtain ⟨vs, s, r⟩ := k H M f A o
        rw [pairs_len] at hi
        obtain ⟨v, e, _⟩ := r.get (i := i) (List.getElem?_eq_getElem hi)
        exact ⟨vs, v, s, e⟩
      · intro i H M x H' f A o hi y
        obtain ⟨vs, s, r⟩ := k H M f A o
        obtain ⟨T, y0, rfl, nt, rfl, y⟩ := y
        obtain ⟨d, e, hd⟩ := r.get' (y vs s)
        obtain ⟨f1, a1, h1⟩ := pair_new A nt (show Has X.K H M (.int (i : Int)) (.int (i : Int)) from rfl) hd
        exact ⟨f1, a1, _, by rw [pairs_at, e, Nat.zero_add]; rfl, h1⟩⟩
/-- lo, lo + 1, ..: n of them -/
def nums (lo : Int) : Nat → List D
  | 0 => []
  | n + 1 => .int lo :: nums (lo + 1) n
theorem nums_len : ∀ (lo : Int) (n : Nat), (nums lo n).length = n
  | _, 0 => rfl
  | lo, n + 1 => by show (nums (lo + 1) n).length + 1 = n + 1; rw [nums_len]
theorem nums_at : ∀ (lo : Int) (n i : Nat), i < n → (nums lo n)[i]? = some (.int (lo + i))
  | _, 0, _, h => absurd h (Nat.not_lt_zero _)
  | lo, n + 1, 0, _ => by show some (D.int lo) = some (.int (lo + ((0 : Nat) : Int))); rw [Int.natCast_zero, Int.add_zero]
  | lo, n + 1, i + 1, h => by
    show (nums (lo + 1) n)[i]? = _
    rw [nums_at (lo + 1) n i (Nat.lt_of_succ_lt_succ h)]
    congr 2
    omega
theorem rng_it {K : PySem.W.Frag} {lo : Int} {n : Nat} {H1 : Hp} {M1 : DHp} (h : n ≤ sizeLine) : ItOk K (Itr lo n) (nums lo n) (fun _ => True) H1 M1 where
  small := by rw [nums_len]; exact h
  stop := fun H M f A o => by show n ≤ _; rw [nums_len]; exact Nat.le_refl _
  go := fun i H M f A o hi => by rw [nums_len] at hi; exact hi
  yld := fun i H M x H' f A o hi y => by
    rw [nums_len] at hi
    obtain ⟨rfl, rfl⟩ := y
    exact ⟨Fr.refl _ M, A, _, nums_at lo n i hi, rfl⟩
def diRng1 (te : DTE) : DTI := fun τ M R => te τ M fun x M1 => match x with
  | .int j => j ≤ 1000000 ∧ -(2 ^ 62) ≤ j ∧ R (nums 0 j.toNat) (fun _ => True) M1
  | _ => False
theorem toNat_line {j : Int} (h : j ≤ 1000000) : j.toNat ≤ sizeLine := Nat.le_trans (show j.toNat ≤ 1000000 by omega) (by decide)
theorem di_range1 {p : Pos} (hg : Gl X "range") (hm : X.mg "range" = none) (he : DE X O e te) (hs : starEach [e] X.env = [(false, eval e X.env)] := by rfl) : DI X O tg (.Call (.Name "range" p) [e] [] pos) (diRng1 te) :=
  (pi_range1 hg hm (das_cons (O := O) he das_nil hs) hs).wk fun σ H R ⟨τ, M, R', b, t, p⟩ =>
    ⟨τ, M, _, b, t, fun d M1 v H1 q f a h => by
      cases d with
      | int j => exact ⟨j, by rw [show v = .int j from h], q.2.1, by have := q.1; omega, p _ _ M1 H1 _ q.2.2 f a (rng_it (toNat_line q.1))⟩
      | _ => exact q.elim⟩
end
end Rh
/-! DL7: for, while, list comprehensions. -/
namespace Rh
open PySem PySem.Spec PyProof.Rows L2

/-! ### for -/
def forR (ok : DHp → Prop) (g : DTG) (tb : DTS) (E : DEnds) : List D → DSt → DHp → Prop
  | [], τ, M => ok M ∧ E.nx τ M
  | x :: xs, τ, M => ok M ∧ g x τ M fun τ1 M1 => tb { E with nx := fun τ2 M2 => ∃ τ3 M3, SubS τ3 τ2 ∧ Sub M3 M2 ∧ forR ok g tb E xs τ3 M3 } τ1 M1
def dFor (di : DTI) (g : DTG) (tb : DTS) : DTS := fun E τ M => di τ M fun items ok M1 => forR ok g tb E items τ M1
theorem drop_cons {α : Type} {l : List α} {i : Nat} {x : α} (h : l[i]? = some x) : l.drop i = x :: l.drop (i + 1) := by
  obtain ⟨hi, e⟩ := List.getElem?_eq_some_iff.mp h
  rw [List.drop_eq_getElem_cons hi, e]
theorem liftFor {K : PySem.W.Frag} {O : Org} {di : DTI} {g : TG} {dg : DTG} {tb : DTS} {vs : List Nat} (hr : RefG K O vs g dg) : ∀ D σ H, liftS K O (dFor di dg tb) D σ H → tFor (liftI K O di) g (liftS K O tb) D σ H := fun D σ H ⟨τ, M, E, b, t, pn, pr⟩ =>
  ⟨τ, M, _, b, t, fun items ok M1 H1 J q f a io => by
    refine ⟨fun i m σ' H' => ∃ τ' M', m = items.length - i ∧ i ≤ items.length ∧ Fr H1 M1 H' M' ∧ AbH K H' M' ∧ AbS K H' M' τ' σ' ∧ forR ok dg tb E (items.drop i) τ' M', ⟨items.length, τ, M1, by omega, Nat.zero_le _, Fr.refl _ _, a, b.s.fr f, q⟩, ?_⟩
    rintro i m σ' H' ⟨τ', M', rfl, hi, f', a', s', w⟩
    by_cases hl : i < items.length
    · have e := drop_cons (List.getElem?_eq_getElem hl)
      rw [e] at w
      obtain ⟨o, w⟩ := w
      refine .inr ⟨io.go i H' M' f' a' o hl, fun σ2 H2 => ∃ τ2 M2, i + 1 ≤ items.length ∧ Fr H1 M1 H2 M2 ∧ AbH K H2 M2 ∧ AbS K H2 M2 τ2 σ2 ∧ forR ok dg tb E (items.drop (i + 1)) τ2 M2, fun σ2 H2 ⟨τ2, M2, h1, h2, h3, h4, h5⟩ => ⟨items.length - (i + 1), by omega, τ2, M2, rfl, h1, h2, h3, h4, h5⟩, fun x H2 y => ?_⟩
      obtain ⟨f2, a2, d, ed, hd⟩ := io.yld i H' M' x H2 f' a' o hl y
      rw [List.getElem?_eq_getElem hl] at ed
      cases ed
      have fO : Fr O.H O.M H2 M' := b.fr.trans (f.trans (f'.trans f2))
      refine hr x _ σ' H2 τ' M' _ _ ⟨fO, s'.fr f2, a2⟩ hd w fun τ3 M3 σ3 H3 q3 f3 a3 s3 _ => ?_
      refine ⟨τ3, M3, _, ⟨fO.trans f3, s3, a3⟩, q3, fun τ4 M4 σ4 H4 q4 f4 a4 s4 => ?_, fun d M4 v H4 q4 f4 a4 h4 => pr d M4 v H4 q4 (f.trans (f'.trans (f2.trans (f3.trans f4)))) a4 h4⟩
      obtain ⟨τ5, M5, z1, z2, z3⟩ := q4
      exact ⟨τ5, M5, hl, (f'.trans (f2.trans (f3.trans f4))).less z2, a4.less z2, (s4.less z2).lessS z1, z3⟩
    · have ei : i = items.length := by omega
      subst ei
      rw [List.drop_length] at w
      exact .inl ⟨io.stop H' M' f' a' w.1, pn _ _ _ _ w.2 (f.trans f') a' s'⟩⟩
section
variable {X : Cx} {O : Org} {pos : Pos}
theorem ds_for {tg iter : Expr} {body : List Stmt} {di : DTI} {g : TG} {dg : DTG} {tb : DTS} {vs : List Nat} (hp : PassesOwn (model X.prog X.w) X.A X.env X.xe) (hc : X.calm = true) (hi : DI X O tg iter di) (hg : PG X tg g) (hr : RefG X.K O vs g dg) (hb : DSs X O body tb)
    (hs : ∀ x, foldedSetIterable iter X.env x = pure x := by intro _; rfl) : DS X O (.For tg iter body [] pos) (dFor di dg tb) := (ps_for hp hc hi hg hb hs).wk (liftFor hr)
end
/-! ### while -/
section
variable {X : Cx} {O : Org} {pos : Pos}
end

/-! ### list comprehensions -/
def wipeD (τ : DSt) : List Nat → DSt
  | [] => τ
  | v :: vs => (wipeD τ vs).set v none
theorem AbS.wipe {K : PySem.W.Frag} {H : Hp} {M : DHp} {τ : DSt} {σ : L2.St} (s : AbS K H M τ σ) : ∀ vs : List Nat, AbS K H M (wipeD τ vs) (wipe σ vs)
  | [] => s
  | v :: vs => by
    have ih := AbS.wipe s vs
    refine ⟨by unfold wipeD L2.wipe; rw [List.length_set, List.length_set]; exact ih.len, fun i d e => ?_⟩
    unfold wipeD at e
    unfold L2.wipe
    by_cases z : v = i
    · subst z
      by_cases l : v < (wipeD τ vs).length
      · rw [List.getElem?_set_self l] at e; cases e
      · rw [List.getElem?_eq_none (by rw [List.length_set]; omega)] at e; cases e
    · rw [List.getElem?_set_ne z] at e ⊢
      exact ih.get i d e
/-- one turn of a comprehension: the item x, at the heap where the list stands -/
def lcTurn (g : DTG) (tt : DTT) (te : DTE) (x : D) (τ : DSt) (M : DHp) (Q : Option D → DHp → Prop) : Prop :=
  g x τ M fun τ2 M2 => tt τ2 M2 fun b M3 => match b with
    | true => te τ2 M3 fun y M4 => Q (some y) M4
    | false => Q none M3
def addO (acc : List D) : Option D → List D
  | some y => acc ++ [y]
  | none => acc
def lcR (ok : DHp → Prop) (g : DTG) (tt : DTT) (te : DTE) (τ : DSt) (p : Addr) : List D → List D → DHp → (List D → DHp → Prop) → Prop
  | [], acc, M, Q => ok (up M p (.lst acc)) ∧ Q acc M
  | x :: xs, acc, M, Q => ok (up M p (.lst acc)) ∧ lcTurn g tt te x τ (up M p (.lst acc)) fun y M4 => ∃ M5, Sub (up M5 p (.lst acc)) M4 ∧ M5 p = none ∧ lcR ok g tt te τ p xs (addO acc y) M5 Q
def lcEnd (mu : Bool) (p : Addr) (Q : DVK) (ys : List D) (M2 : DHp) : Prop := match mu with
  | false => Q (.lst ys) M2
  | true => Q (.ref p) (up M2 p (.lst ys))
theorem wipe_none {σ : L2.St} : ∀ {vs : List Nat} {v : Nat}, v ∈ vs → ((wipe σ vs)[v]? = none ∨ (wipe σ vs)[v]? = some none) := fun {vs v} hv => by
  cases hx : (wipe σ vs)[v]? with
  | none => exact .inl rfl
  | some o =>
    cases o with
    | none => exact .inr rfl
    | some y => exact absurd hv (wipe_some hx).2
theorem wipe_wipe {σ : L2.St} {vs : List Nat} : ∀ {ws : List Nat}, (∀ v ∈ ws, v ∈ vs) → wipe (wipe σ vs) ws = wipe σ vs
  | [], _ => rfl
  | v :: ws, h => by
    show (wipe (wipe σ vs) ws).set v none = wipe σ vs
    rw [wipe_wipe fun z hz => h z (List.mem_cons_of_mem _ hz)]
    apply List.ext_getElem?
    intro j
    by_cases z : v = j
    · subst z
      have lt := wipe_none (σ := σ) (h v List.mem_cons_self)
      rw [List.getElem?_set_self']
      rcases lt with e | e <;> rw [e] <;> rfl
    · rw [List.getElem?_set_ne z]
def dLc (mu : Bool) (di : DTI) (g : DTG) (tt : DTT) (te : DTE) (vs : List Nat) : DTE := fun τ M Q => di τ M fun items ok M1 => ∀ p, M1 p = none → lcR ok g tt te (wipeD τ vs) p items [] M1 (lcEnd mu p Q)
/-- a comprehension over what is walked, once that has come -/
def LcGo (J : It) (g : TG) (tt : TT) (te : TE) (vs : List Nat) (σ : L2.St) (H1 : Hp) (Q : VK) (D : Addr) : Prop := ∃ W : Nat → Nat → Hp → Prop, (∃ m, W 0 m (upd H1 D (.lst []))) ∧ ∀ i m H, W i m H →
  (J.stop i H ∧ Q (.ref D) H) ∨ (J.go i H ∧ ∃ Nx : Hp → Prop, (∀ H', Nx H' → ∃ m', m' < m ∧ W (i + 1) m' H') ∧ ∀ x H', J.yld i H x H' → g x (wipe σ vs) H' fun σ2 H2 => wipe σ2 vs = wipe σ vs ∧ tt σ2 H2 fun b H3 =>
    if b = true then te σ2 H3 fun y H4 => ∃ acc, H4 D = some (.lst acc) ∧ acc.length < sizeLine ∧ Nx (upd H4 D (.lst (acc ++ [y]))) else Nx H3)
theorem lcBody {K : PySem.W.Frag} {O : Org} {mu : Bool} {g : TG} {dg : DTG} {tt : DTT} {te : DTE} {vs : List Nat} (hr : RefG K O vs g dg) {σ : L2.St} {H : Hp} {M : DHp} {τ : DSt} {Q : VK} {Q' : DVK} (b : Beg K O H M τ σ) (P : Post K H M Q' Q)
    {items : List D} {ok : DHp → Prop} {M1 : DHp} {H1 : Hp} {J : It} (f : Fr H M H1 M1) (a : AbH K H1 M1) (io : ItOk K J items ok H1 M1) {p : Addr} (np : H1 p = none) (q : M1 p = none → lcR ok dg tt te (wipeD τ vs) p items [] M1 (lcEnd mu p Q')) : LcGo J g (liftT K O tt) (liftE K O te) vs σ H1 Q p := by
    have np1 := a.fresh np
    have q := q np1
    refine ⟨fun i m H' => ∃ M' acc, m = items.length - i ∧ i ≤ items.length ∧ acc.length ≤ i ∧ M' p = none ∧ Fr H1 M1 H' (up M' p (.lst acc)) ∧ AbH K H' (up M' p (.lst acc)) ∧ lcR ok dg tt te (wipeD τ vs) p (items.drop i) acc M' (lcEnd mu p Q'), ⟨items.length, M1, [], by omega, Nat.zero_le _, Nat.le_refl _, np1, Fr.newT np, a.newT np ⟨[], upd_same, rfl⟩, q⟩, ?_⟩
    rintro i m H' ⟨M', acc, rfl, hi, hacc, n', f', a', w⟩
    have sσ : AbS K H' (up M' p (.lst acc)) (wipeD τ vs) (wipe σ vs) := (b.s.fr (f.trans f')).wipe vs
    have fO : Fr O.H O.M H' (up M' p (.lst acc)) := b.fr.trans (f.trans f')
    by_cases hl : i < items.length
    · have e := drop_cons (List.getElem?_eq_getElem hl)
      rw [e] at w
      obtain ⟨o, w⟩ := w
      refine .inr ⟨io.go i H' _ f' a' o hl, fun H2 => ∃ M2 acc2, i + 1 ≤ items.length ∧ acc2.length ≤ i + 1 ∧ M2 p = none ∧ Fr H1 M1 H2 (up M2 p (.lst acc2)) ∧ AbH K H2 (up M2 p (.lst acc2)) ∧ lcR ok dg tt te (wipeD τ vs) p (items.drop (i + 1)) acc2 M2 _, fun H2 ⟨M2, acc2, h1, h2, h3, h4, h5, h6⟩ => ⟨items.length - (i + 1), by omega, M2, acc2, rfl, h1, h2, h3, h4, h5, h6⟩, fun x H2 y => ?_⟩
      obtain ⟨f2, a2, d, ed, hd⟩ := io.yld i H' _ x H2 f' a' o hl y
      rw [List.getElem?_eq_getElem hl] at ed
      cases ed
      refine hr x _ _ H2 (wipeD τ vs) _ _ _ ⟨fO.trans f2, sσ.fr f2, a2⟩ hd w fun τ3 M3 σ3 H3 q3 f3 a3 s3 w3 => ?_
      have ew : wipe (wipe σ vs) vs = wipe σ vs := wipe_wipe fun _ h => h
      refine ⟨w3.trans ew, ?_⟩
      have b3 : Beg K O H3 M3 τ3 σ3 := ⟨(fO.trans f2).trans f3, s3, a3⟩
      refine ⟨τ3, M3, _, b3, q3, fun k M4 H4 q4 f4 a4 => ?_⟩
      cases k with
      | true =>
        rw [if_pos rfl]
        refine ⟨τ3, M4, _, b3.step f4 a4, q4, fun y M5 v H5 q5 f5 a5 h5 => ?_⟩
        obtain ⟨M6, z1, z2, z3⟩ := q5
        have a6 := a5.less z1
        obtain ⟨accv, e1, r1⟩ := a6 p _ up_same
        have h6 : Has K H5 (up M6 p (.lst acc)) y v := h5.fr ((Fr.refl H5 M5).less z1)
        have fr6 : Fr H1 M1 H5 (up M6 p (.lst acc)) := (f'.trans (f2.trans (f3.trans (f4.trans f5)))).less z1
        have fp : Fr H5 (up M6 p (.lst acc)) (upd H5 p (.lst (accv ++ [v]))) (up M6 p (.lst (acc ++ [y]))) := by
          have := Fr.put (H := H5) (M := up M6 p (.lst acc)) (p := p) (o := .lst (accv ++ [v])) (u := .lst (acc ++ [y])) up_same
          rw [up_up] at this
          exact this
        have ap : AbH K (upd H5 p (.lst (accv ++ [v]))) (up M6 p (.lst (acc ++ [y]))) := by
          have := AbH.put (p := p) (o := .lst (accv ++ [v])) (u := .lst (acc ++ [y])) a6 up_same (by rw [up_up]; exact ⟨accv ++ [v], upd_same, (r1.fr fp).app (HasL.one (h6.fr fp))⟩)
          rw [up_up] at this
          exact this
        have l1 : accv.length = acc.length := r1.len
        refine ⟨accv, e1, ?_, M6, acc ++ [y], hl, by rw [List.length_append]; exact Nat.add_le_add_right hacc 1, z2, fr6.trans fp, ap, z3⟩
        exact Nat.lt_of_le_of_lt (by rw [l1]; exact hacc) (Nat.lt_of_lt_of_le hl io.small)
      | false =>
        rw [if_neg Bool.false_ne_true]
        obtain ⟨M6, z1, z2, z3⟩ := q4
        exact ⟨M6, acc, hl, Nat.le_succ_of_le hacc, z2, (f'.trans (f2.trans (f3.trans f4))).less z1, a4.less z1, z3⟩
    · have ei : i = items.length := by omega
      subst ei
      rw [List.drop_length] at w
      obtain ⟨o, w⟩ := w
      refine .inl ⟨io.stop H' _ f' a' o, ?_⟩
      obtain ⟨accv, e1, r1⟩ := a' p _ up_same
      have sm : Sub M' (up M' p (.lst acc)) := (Sub.refl M').up n'
      cases mu with
      | false => exact P _ M' _ H' w ((f.trans f').less sm) (a'.less sm) ⟨p, accv, rfl, n', e1, r1.fr ((Fr.refl H' _).less sm)⟩
      | true => exact P _ _ _ H' w (f.trans f') a' rfl
theorem liftLc {K : PySem.W.Frag} {O : Org} {mu : Bool} {di : DTI} {g : TG} {dg : DTG} {tt : DTT} {te : DTE} {vs : List Nat} (hr : RefG K O vs g dg) : ∀ σ H Q, liftE K O (dLc mu di dg tt te vs) σ H Q → tLc (liftI K O di) g (liftT K O tt) (liftE K O te) vs σ H Q := fun σ H Q ⟨τ, M, Q', b, t, P⟩ =>
  ⟨τ, M, _, b, t, fun items ok M1 H1 J q f a io p np => lcBody hr b P f a io np (q p)⟩
section
variable {X : Cx} {O : Org} {pos : Pos}
abbrev DTs (X : Cx) (O : Org) (ifs : List Expr) (t : DTT) : Prop := PTs X ifs (liftT X.K O t)
theorem _root_.L2.PTs.wk {ifs : List Expr} {t t' : TT} (h : PTs X ifs t) (i : ∀ σ H Q, t' σ H Q → t σ H Q) : PTs X ifs t' := ⟨fun pins s σ H Q I q => h.run pins s σ H Q I (i σ H Q q)⟩
def dYes : DTT := fun _ M Q => Q true M
theorem dts_nil : DTs X O [] dYes := (pts_nil (X := X)).wk fun σ H Q ⟨τ, M, Q', b, t, p⟩ => p true M H t (Fr.refl H M) b.h
theorem dts_one {c : Expr} {t : DTT} (h : DT X O c t) : DTs X O [c] t := pts_one h
theorem de_lc {elt tg iter : Expr} {ifs : List Expr} {scope : Scope} {own : List (Str × Nat)} {di : DTI} {g : TG} {dg : DTG} {tt : DTT} {te : DTE} (mu : Bool) (hc : X.calm = true) (hN : X.N.Nodup) (hi : DI X O tg iter di) (ok : BlkOk X.N X.env.scope scope own)
    (hg : ∀ (s : Shared) (H : Hp) (C : Addr) (cl : List (Str × Addr)) (fp : List Addr), PG (X.blk s H scope (compEnvC scope cl C X.env) fp) tg g) (hr : RefG X.K O (own.map (·.2)) g dg) (ht : ∀ (s : Shared) (H : Hp) (C : Addr) (cl : List (Str × Addr)) (fp : List Addr), DTs (X.blk s H scope (compEnvC scope cl C X.env) fp) O ifs tt)
    (he : ∀ (s : Shared) (H : Hp) (C : Addr) (cl : List (Str × Addr)) (fp : List Addr), DE (X.blk s H scope (compEnvC scope cl C X.env) fp) O elt te) (hs : ∀ x, foldedSetIterable iter X.env x = pure x := by intro _; rfl) :
    DE X O (.ListComp elt [⟨tg, iter, ifs, 0⟩] scope pos) (dLc mu di dg tt te (own.map (·.2))) := PE.wk (pe_lc hc hN hi ok hg ht he hs) (liftLc hr)
end
/-- a comprehension whose element is a plain function of the item -/
theorem lcR_pure {g : DTG} {tt : DTT} {te : DTE} {τ : DSt} {p : Addr} {f : D → Option D} {ok : DHp → Prop} {Q : List D → DHp → Prop} : ∀ {items acc : List D} {M : DHp}, (∀ acc, ok (up M p (.lst acc))) → M p = none → (∀ x ∈ items, ∀ acc (R : Option D → DHp → Prop), R (f x) (up M p (.lst acc)) → lcTurn g tt te x τ (up M p (.lst acc)) R) → Q (acc ++ items.filterMap f) M → lcR ok g tt te τ p items acc M Q
  | [], acc, M, o, _, _, q => ⟨o acc, by rw [List.filterMap_nil, List.append_nil] at q; exact q⟩
  | x :: xs, acc, M, o, n, h, q => by
    refine ⟨o acc, h x List.mem_cons_self acc _ ⟨M, Sub.refl _, n, lcR_pure o n (fun y hy => h y (List.mem_cons_of_mem _ hy)) ?_⟩⟩
    rw [List.filterMap_cons] at q
    cases e : f x with
    | none => rw [e] at q; exact q
    | some y => rw [e] at q; show Q ((acc ++ [y]) ++ _) M; rw [List.append_assoc]; exact q
theorem lcR_map {g : DTG} {te : DTE} {τ : DSt} {p : Addr} {f : D → D} {ok : DHp → Prop} {Q : List D → DHp → Prop} {items acc : List D} {M : DHp} (o : ∀ acc, ok (up M p (.lst acc))) (n : M p = none) (h : ∀ x ∈ items, ∀ acc (R : D → DHp → Prop), R (f x) (up M p (.lst acc)) → g x τ (up M p (.lst acc)) fun τ2 M2 => te τ2 M2 R) (q : Q (acc ++ items.map f) M) : lcR ok g dYes te τ p items acc M Q := by
  refine lcR_pure (f := fun x => some (f x)) o n (fun x hx acc R r => h x hx acc (fun y M4 => R (some y) M4) r) ?_
  rw [show (fun x => some (f x)) = some ∘ f from rfl, List.filterMap_eq_map]
  exact q
end Rh
/-! DL8: defs, their promises over data; calls; objects. -/
namespace Rh
open PySem PySem.Spec PyProof.Rows L2

/-- nothing comes out -/
theorem passN {X : Cx} : Passes (L2N.CX X.prog X.w) X E0 := fun _ _ _ _ _ _ _ h => by
  obtain ⟨_, _, _, _, _, _, _, _, _, _, _, _, z⟩ := h
  exact z.elim
/-! ### promises -/
/-- what is wanted of an exception: its class, its fields -/
abbrev DXK := Addr → List Str → List D → DHp → Prop
abbrev DWX := Addr → List Str → List D → DSt → DHp → Prop
abbrev DSp := List D → DHp → DVK → DXK → Prop
abbrev noX : DXK := fun _ _ _ _ => False
def XdIs (K : PySem.W.Frag) (H : Hp) (M : DHp) (ns : List Str) (ds : List D) : Option Addr → Prop
  | none => ns = [] ∧ ds = []
  | some dx => ∃ vs, H dx = some (.xd (ns.zip vs)) ∧ M dx = none ∧ ns.length = ds.length ∧ HasL K H M ds vs
theorem XdIs.fr {K : PySem.W.Frag} {H H' : Hp} {M M' : DHp} {ns : List Str} {ds : List D} {d : Option Addr} (f : Fr H M H' M') (h : XdIs K H M ns ds d) : XdIs K H' M' ns ds d := by
  cases d with
  | none => exact h
  | some dx =>
    obtain ⟨vs, e, n, l, r⟩ := h
    exact ⟨vs, f.eq _ _ e n, f.un _ _ e n, l, r.fr f⟩
def PostX (K : PySem.W.Frag) (H : Hp) (M : DHp) (E' : DXK) (E : XK) : Prop := ∀ C ns ds M' d H', E' C ns ds M' → Fr H M H' M' → AbH K H' M' → XdIs K H' M' ns ds d → E (.ref C) d H'
theorem PostX.no {K : PySem.W.Frag} {H : Hp} {M : DHp} {E : XK} : PostX K H M noX E := fun _ _ _ _ _ _ h => h.elim
def liftSp (K : PySem.W.Frag) (sp : DSp) : Sp := fun vs H Q E => ∃ (ds : List D) (M : DHp) (Q' : DVK) (E' : DXK), AbH K H M ∧ HasL K H M ds vs ∧ sp ds M Q' E' ∧ Post K H M Q' Q ∧ PostX K H M E' E
def liftW (K : PySem.W.Frag) (O : Org) (W : DWX) : WX := fun cls d σ H => ∃ C ns ds τ M, cls = .ref C ∧ Beg K O H M τ σ ∧ XdIs K H M ns ds d ∧ W C ns ds τ M
def startD (N : List Str) (ds : List D) : DSt := ds.map some ++ List.replicate (N.length - ds.length) none
theorem start_has {K : PySem.W.Frag} {H : Hp} {M : DHp} {ds : List D} {vs : List V} (r : HasL K H M ds vs) (N : List Str) : AbS K H M (startD N ds) (L2.start N vs) := by
  unfold startD L2.start
  rw [r.len]
  refine ⟨by simp [r.len], fun i d e => ?_⟩
  by_cases h : i < ds.length
  · rw [List.getElem?_append_left (by simpa using h), List.getElem?_map] at e
    cases q : ds[i]? with
    | none => rw [q] at e; cases e
    | some d' =>
      rw [q] at e
      have e' : d' = d := by simpa using e
      subst e'
      obtain ⟨v, hv, hh⟩ := r.get q
      exact ⟨v, by rw [List.getElem?_append_left (by rw [List.length_map, r.len]; exact h), List.getElem?_map, hv]; rfl, hh⟩
  · rw [List.getElem?_append_right (by simpa using h), List.getElem?_replicate] at e
    split at e <;> cases e
/-- a def's end: what is new and told no more falls away -/
def fnEnds (Q : DVK) : DEnds := ⟨fun _ M' => ∃ M2, Sub M2 M' ∧ Q .non M2, fun d M' => ∃ M2, Sub M2 M' ∧ Q d M2⟩
def fnW (E : DXK) : DWX := fun C ns ds _ M' => ∃ M2, Sub M2 M' ∧ E C ns ds M2
section
variable {P : Program} {w : World} {K : PySem.W.Frag} {mg : Str → Option Value} {base : Heap}
abbrev DFn (P : Program) (w : World) (K : PySem.W.Frag) (mg : Str → Option Value) (base : Heap) (k : Nat) (f : Addr) (fd : FuncData) (ps : List Str) (sp : DSp) : Prop := FnOk P w K mg base (L2N.CX P w) k f fd ps (liftSp K sp)
end

/-! ### calls -/
/-- the values of written defaults -/
def constL : List D → Option (List V)
  | [] => some []
  | d :: ds => match cV d, constL ds with
    | some v, some vs => some (v :: vs)
    | _, _ => none
theorem constL_has {K : PySem.W.Frag} {H : Hp} {M : DHp} : ∀ {ds : List D} {vs : List V}, constL ds = some vs → HasL K H M ds vs
  | [], _, h => by cases h; rfl
  | d :: ds, _, h => by
    unfold constL at h
    split at h
    · rename_i v vs h1 h2
      cases h
      exact ⟨v, vs, rfl, cV_has h1, constL_has h2⟩
    · cases h
section
variable {X : Cx} {O : Org} {x : Str} {p pos : Pos} {e : Expr} {es : List Expr} {k : Nat} {f : Addr} {fd : FuncData} {ps : List Str} {sp : DSp} {dds : List D} {dvs : List V} {dus : List Value} {ts : List DTE}
end

/-! ### objects -/
/-- the field f -/
def look (f : Str) : List Str → List D → Option D
  | n :: ns, d :: ds => if f = n then some d else look f ns ds
  | _, _ => none
theorem look_at {K : PySem.W.Frag} {H : Hp} {M : DHp} {f : Str} {d : D} : ∀ {ns : List Str} {ds : List D} {vs : List V}, HasL K H M ds vs → look f ns ds = some d → ∃ v, (ns.zip vs).lookup f = some v ∧ Has K H M d v
  | [], _, _, _, e => by cases e
  | n :: ns, [], _, _, e => by cases e
  | n :: ns, d' :: ds, _, r, e => by
    obtain ⟨v, vs, rfl, h1, h2⟩ := r
    unfold look at e
    show ∃ v_1, List.lookup f ((n, v) :: ns.zip vs) = some v_1 ∧ _
    by_cases z : f = n
    · rw [if_pos z] at e
      cases e
      exact ⟨v, by simp [List.lookup, z], h1⟩
    · rw [if_neg z] at e
      obtain ⟨w, e2, h⟩ := look_at h2 e
      have zz : (f == n) = false := by simpa using z
      exact ⟨w, by simp [List.lookup, zz]; exact e2, h⟩
/-- the class and the fields of an object -/
def insOf (x : D) (M : DHp) : Option (Addr × List Str × List D) := match x with
  | .obj C ns ds => some (C, ns, ds)
  | .ref a => (match M a with
    | some (.ins C ns ds) => some (C, ns, ds)
    | _ => none)
  | _ => none
theorem insOf_at {K : PySem.W.Frag} {H : Hp} {M : DHp} {x : D} {v : V} {C : Addr} {ns : List Str} {ds : List D} (A : AbH K H M) (h : Has K H M x v) (e : insOf x M = some (C, ns, ds)) : ∃ a dx vs, v = .ref a ∧ H a = some (.ins C dx (ns.zip vs)) ∧ ns.length = ds.length ∧ HasL K H M ds vs := by
  cases x with
  | obj C' ns' ds' =>
    cases e
    obtain ⟨a, dx, vs, e1, _, e2, l, r⟩ := h
    exact ⟨a, dx, vs, e1, e2, l, r⟩
  | ref a =>
    cases q : M a with
    | none => simp only [insOf, q] at e; cases e
    | some o =>
      cases o with
      | ins C' ns' ds' =>
        simp only [insOf, q] at e
        cases e
        obtain ⟨dx, vs, e2, l, r⟩ := A a _ q
        exact ⟨a, dx, vs, h, e2, l, r⟩
      | _ => simp only [insOf, q] at e; cases e
  | _ => cases e
/-- x.f, a field; the class is one that PC tells of -/
def dFld (PC : Addr → Prop) (f : Str) (ta : DTE) : DTE := fun τ M Q => ta τ M fun x M1 => wth (insOf x M1) fun c => PC c.1 ∧ wth (look f c.2.1 c.2.2) fun d => Q d M1
section
variable {X : Cx} {O : Org} {pos p : Pos} {e o : Expr} {ta te : DTE} {PC : Addr → Prop} {f : Str}
theorem de_fld (h : ∀ C, PC C → Cls X.K C ∧ NoAttr X.K C f) (he : DE X O e ta) (hb : attributeBase e f X.env (eval e X.env) = eval e X.env := by rfl) : DE X O (.Attribute e f pos) (dFld PC f ta) := PE.wk (pe_fld he hb) fun σ H Q ⟨τ, M, Q', b, t, P⟩ =>
  ⟨τ, M, _, b, t, fun d M1 x H1 q f a hx => by
    obtain ⟨⟨C, ns, ds⟩, e1, pc, q⟩ := wth_of q
    obtain ⟨d2, e2, q⟩ := wth_of q
    obtain ⟨ad, dx, vs, rfl, e3, l, r⟩ := insOf_at a hx e1
    obtain ⟨v, e4, hv⟩ := look_at r e2
    exact ⟨ad, C, dx, _, v, rfl, e3, (h C pc).1, (h C pc).2, e4, P _ M1 _ H1 q f a hv⟩⟩
/-- o.f = e -/
def putN (f : Str) (d : D) : List Str → List D → List Str × List D
  | n :: ns, x :: xs => if n = f then (n :: ns, d :: xs) else let r := putN f d ns xs; (n :: r.1, x :: r.2)
  | _, _ => ([f], [d])
theorem putN_at {K : PySem.W.Frag} {H : Hp} {M : DHp} {f : Str} {d : D} {v : V} (h : Has K H M d v) : ∀ {ns : List Str} {ds : List D} {vs : List V}, ns.length = ds.length → HasL K H M ds vs →
    ∃ ws, putF f v (ns.zip vs) = (putN f d ns ds).1.zip ws ∧ (putN f d ns ds).1.length = (putN f d ns ds).2.length ∧ HasL K H M (putN f d ns ds).2 ws
  | [], [], _, _, r => by
    rw [show _ = ([] : List V) from r]
    exact ⟨[v], rfl, rfl, HasL.one h⟩
  | n :: ns, [], _, l, _ => by cases l
  | [], _ :: _, _, l, _ => by cases l
  | n :: ns, x :: xs, _, l, r => by
    obtain ⟨y, ys, rfl, h1, h2⟩ := r
    unfold putN
    by_cases z : n = f
    · rw [if_pos z]
      exact ⟨v :: ys, by show putF f v ((n, y) :: ns.zip ys) = _; unfold putF; rw [if_pos z] <;> rfl, l, ⟨v, ys, rfl, h, h2⟩⟩
    · rw [if_neg z]
      obtain ⟨ws, e, l2, r2⟩ := putN_at h (Nat.succ.inj l) h2
      exact ⟨y :: ws, by show putF f v ((n, y) :: ns.zip ys) = _; unfold putF; rw [if_neg z, e] <;> rfl, by show _ + 1 = _ + 1; rw [l2], ⟨y, ws, rfl, h1, r2⟩⟩
def sFldD (PC : Addr → Prop) (f : Str) (ta te : DTE) : DTS := fun E τ M => te τ M fun y M1 => ta τ M1 fun x M2 => match x with
  | .ref a => wth (M2 a) fun o => (match o with
    | .ins C ns ds => PC C ∧ ns.length ≤ 900 ∧ E.nx τ (up M2 a (.ins C (putN f y ns ds).1 (putN f y ns ds).2))
    | _ => False)
  | _ => False
theorem ds_fld (h : ∀ C, PC C → Cls X.K C ∧ NoAttr X.K C f) (ho : DE X O o ta) (he : DE X O e te) (hs : swapsWith e (some (.Attribute o f p)) pos.line X.env = pure false := by rfl) : DS X O (.Assign [.Attribute o f p] e pos) (sFldD PC f ta te) := PS.wk (ps_fld ho he hs) fun D σ H ⟨τ, M, E, b, t, pn, pr⟩ =>
  ⟨τ, M, _, b, t, fun d M1 v H1 q f1 a1 hv => ⟨τ, M1, _, b.step f1 a1, q, fun d2 M2 x H2 q2 f2 a2 hx => by
    cases d2 <;> first | exact q2.elim | skip
    rename_i ad
    obtain ⟨o, eo, q2⟩ := wth_of q2
    cases o <;> first | exact q2.elim | skip
    rename_i C ns ds
    obtain ⟨pc, ln, q2⟩ := q2
    obtain ⟨dx, vs, e3, l, r⟩ := a2 ad _ eo
    have z := hv.fr f2
    obtain ⟨ws, e4, l4, r4⟩ := putN_at (f := f) z l r
    refine ⟨ad, C, dx, _, hx, e3, (h C pc).1, (h C pc).2, by rw [List.length_zip]; omega, ?_⟩
    refine pn τ _ σ _ q2 (f1.trans (f2.trans (Fr.put eo))) (a2.put eo ⟨dx, ws, by rw [upd_same, e4], l4, r4.fr (Fr.put eo)⟩) (b.s.fr (f1.trans (f2.trans (Fr.put eo))))⟩⟩
variable {x m : Str} {es : List Expr} {k : Nat} {g : Addr} {fd : FuncData} {ps : List Str} {sp : DSp} {dds : List D} {dvs : List V} {dus : List Value} {ts : List DTE} {C : Addr} {apos : Pos}
end
end Rh
/-! DL9: defs that are called where no repr is under way (the guards are known), repr of data, a law's end. -/
namespace Rh
open PySem PySem.Spec PyProof.Rows L2

/-- as FnOk, for callers that know the guards -/
structure FnG (P : Program) (w : World) (K : PySem.W.Frag) (mg : Str → Option Value) (base : Heap) (C : CXT) (k : Nat) (f : Addr) (fd : FuncData) (ps : List Str) (sp : Sp) : Prop where
  len : ∀ vs H Q E, sp vs H Q E → vs.length = ps.length
  run : ∀ (A : Around) (out : List Env) (s : Shared) (H : Hp) (as : Args) (us : List Value) (vs : List V) (Q : VK) (E : XK),
    A.guards = some [] → Room k A → Env0 P w K mg base A out s H → BindsTo s fd as (ps.zip us) → Vals vs us → sp vs H Q E →
      codeAny (model P w) A (.call (.ref f) as) (CR C out P w H s Q E) s
section
variable {P : Program} {w : World} {K : PySem.W.Frag} {mg : Str → Option Value} {base : Heap}
theorem FnG.of {C : CXT} {k : Nat} {f : Addr} {fd : FuncData} {ps : List Str} {sp : Sp} (F : FnOk P w K mg base C k f fd ps sp) : FnG P w K mg base C k f fd ps sp :=
  ⟨F.len, fun A out s H as us vs Q E _ hr => F.run A out s H as us vs Q E hr⟩
theorem FnG.mono {C : CXT} {j k : Nat} {f : Addr} {fd : FuncData} {ps : List Str} {sp : Sp} (F : FnG P w K mg base C j f fd ps sp) (h : j ≤ k) : FnG P w K mg base C k f fd ps sp :=
  ⟨F.len, fun A out s H as us vs Q E g hr => F.run A out s H as us vs Q E g (hr.mono h)⟩
/-- the body's end is the call's end -/
theorem flow_end {X : Cx} {out : List Env} {s s' : Shared} {H : Hp} {Q : VK} {E : XK} {C : CXT} {fl : Flow} (ho : X.outer = out) (hp : X.prog = P) (hw : X.w = w) (hs : X.s_0 = s) (hH : X.H_0 = H) (hx : X.ex = [])
    (h : SP X [] { nx := fun _ H' => Q .non H', rt := Q } fl s') : CR C out P w H s Q E (match fl with
      | .ret u => .ok (.ret u)
      | _ => .ok (.ret .none)) s' := by
  subst ho hp hw hs hH
  cases fl with
  | ret u =>
    obtain ⟨v, σ', H', J, rv, q⟩ := h
    exact ⟨v, H', J.os, J.bare, by have := J.base; rw [hx] at this; exact this, J.hok, rv, q⟩
  | next =>
    obtain ⟨σ', H', J, q⟩ := h
    exact ⟨.non, H', J.os, J.bare, by have := J.base; rw [hx] at this; exact this, J.hok, rfl, q⟩
  | brk => obtain ⟨_, _, _, q⟩ := h; exact q.elim
  | cont => obtain ⟨_, _, _, q⟩ := h; exact q.elim
theorem FnG.mk_ {C : CXT} {x qual : Str} {params : Arguments} {body : List Stmt} {scope : Scope} {dvs : List V} {kws : List (Str × V)} {f : Addr} {fd : FuncData} {N ps : List Str} {k : Nat} {sp : Sp} (F : FunD K x qual params body scope dvs kws f fd) (S : FnScope N ps scope) (len : ∀ vs H Q E, sp vs H Q E → vs.length = ps.length)
    (hbody : ∀ (cdv : Value) (A : Around) (out : List Env) (s : Shared) (H : Hp) (vs : List V) (Q : VK) (E : XK), A.guards = some [] → Room k (A.deeper (envOfC qual scope s.heap.objs.size f cdv)) → sp vs H Q E →
      ∃ t, PSs (cxOf C P w K mg base N qual scope f cdv A out s H E) body t ∧ t { nx := fun _ H' => Q .non H', rt := Q } (L2.start N vs) H) : FnG P w K mg base C (k + 1) f fd ps sp := by
  obtain ⟨oc, od, dV, kV, doc, pm, an, cdv, ct, osl, rfl, lk, hcd, _, _⟩ := F.ex
  refine ⟨len, fun A out s H as us vs Q E hG hr e0 hb r hsp => ?_⟩
  have KX : K.In s.heap := e0.mod.kin.keeps fun b o e => (e0.bs b o e).1
  have lim : s.heap.NoLimit := e0.mod.nolimit.keeps fun b o e => (e0.bs b o e).1
  have loc : ∀ y ∈ ps.zip us, scope.names.lookup y.1 = some .local ∨ (scope.names.lookup y.1 = some .cell ∧ ((cellsFrom (s.heap.objs.size + 1) scope.names []).lookup y.1).isSome = true) := by
    rintro ⟨n, v⟩ hy
    exact (S.par n (List.of_mem_zip hy).1).imp id fun q => ⟨q, PySem.W.cellsFrom_some _ _ _ (.inl q)⟩
  refine codeAny_call_function hr.depth (KX _ _ lk) rfl S.co S.gen rfl (PySem.W.codeRec_of KX hcd) (hb _ _ _ _ ?_)
  refine wpAny_newFunctionEnv_cells S.kind loc fun env he s1 x => ?_
  subst he
  refine ⟨lim.keeps x.toInCall.keep, codeAny_func ?_⟩
  obtain ⟨t, ht, hq⟩ := hbody cdv A out s H vs Q E hG (hr.deeper _) hsp
  refine wpAny_mono (ht.run [] s1 (L2.start N vs) H _ (inv_start S hr.hd e0 (len _ _ _ _ hsp) r x) hq) (fun fl s' hs => ?_) fun e s' hs => hs
  have z := flow_end (P := P) (w := w) (C := C) (E := E) rfl rfl rfl rfl rfl rfl hs
  cases fl with
  | ret u => exact z
  | next => exact z
  | brk => obtain ⟨_, _, _, q⟩ := hs; exact q.elim
  | cont => obtain ⟨_, _, _, q⟩ := hs; exact q.elim
abbrev DFnG (P : Program) (w : World) (K : PySem.W.Frag) (mg : Str → Option Value) (base : Heap) (k : Nat) (f : Addr) (fd : FuncData) (ps : List Str) (sp : DSp) : Prop := FnG P w K mg base (L2N.CX P w) k f fd ps (liftSp K sp)
theorem dfnG_ok {x qual : Str} {params : Arguments} {body : List Stmt} {scope : Scope} {dvs : List V} {kws : List (Str × V)} {f : Addr} {fd : FuncData} {N ps : List Str} {k : Nat} {sp : DSp} (F : FunD K x qual params body scope dvs kws f fd) (S : FnScope N ps scope) (len : ∀ ds M Q E, sp ds M Q E → ds.length = ps.length)
    (hbody : ∀ (cdv : Value) (A : Around) (outer : List Env) (s : Shared) (H : Hp) (E : XK) (O : Org) (W : DWX), A.guards = some [] → Room k (A.deeper (envOfC qual scope s.heap.objs.size f cdv)) →
      L2N.Takes (cxOf (L2N.CX P w) P w K mg base N qual scope f cdv A outer s H E) (liftW K O W) →
      ∃ t : DTS, DSs (cxOf (L2N.CX P w) P w K mg base N qual scope f cdv A outer s H E) O body t ∧ ∀ ds M Q E', sp ds M Q E' → W = fnW E' → t (fnEnds Q) (startD N ds) M) :
    DFnG P w K mg base (k + 1) f fd ps sp := by
  refine FnG.mk_ F S (fun vs H Q E h => ?_) (fun cdv A outer s H vs Q E hG hr h => ?_)
  · obtain ⟨ds, M, Q', E', _, r, q, _⟩ := h
    rw [r.len]; exact len _ _ _ _ q
  · obtain ⟨ds, M, Q', E', ah, r, q, p, px⟩ := h
    have tk0 : L2N.Takes (cxOf (L2N.CX P w) P w K mg base N qual scope f cdv A outer s H E) (fun cls d _ H => E cls d H) := L2N.takes_of rfl rfl rfl rfl
    have tk : L2N.Takes (cxOf (L2N.CX P w) P w K mg base N qual scope f cdv A outer s H E) (liftW K ⟨H, M⟩ (fnW E')) := tk0.imp fun c d σ H1 hw => by
      obtain ⟨C, ns, es, τ, M1, rfl, b, x, M2, z, y⟩ := hw
      exact px C ns es M2 d H1 y (b.fr.less z) (b.h.less z) (x.fr ((Fr.refl H1 M1).less z))
    obtain ⟨t, ht, hp⟩ := hbody cdv A outer s H E ⟨H, M⟩ (fnW E') hG hr tk
    refine ⟨_, ht, startD N ds, M, fnEnds Q', ⟨Fr.refl _ _, start_has r N, ah⟩, hp ds M Q' E' q rfl, fun τ M1 σ H1 q1 f1 a1 _ => ?_, fun d M1 v H1 q1 f1 a1 h1 => ?_⟩
    · obtain ⟨M2, z, q1⟩ := q1
      exact p _ M2 _ H1 q1 (f1.less z) (a1.less z) rfl
    · obtain ⟨M2, z, q1⟩ := q1
      exact p _ M2 _ H1 q1 (f1.less z) (a1.less z) (h1.fr ((Fr.refl H1 M1).less z))
end
section
variable {X : Cx} {O : Org} {x : Str} {p pos : Pos} {e : Expr} {es : List Expr} {k : Nat} {f : Addr} {fd : FuncData} {ps : List Str} {sp : Sp} {t : TA} {dus : List Value} {dvs : List V} {E : XK} {C : CXT}
/-! ### repr of data -/
def rRepr (K : PySem.W.Frag) : R1 := fun xs H Q => ∃ x d, xs = [x] ∧ Dp K H x d ∧ d.showable = true ∧ d.hasDict = false ∧ d.depth ≤ 60 ∧ d.shown.length ≤ sizeLine ∧ Q (.str d.shown) H
theorem call_reprD {k : Nat} (hG : X.A.guards = some []) (hr : Room k X.A) : CallR X (.builtin "repr") (rRepr X.K) := by
  intro pins s σ H xs us Q I r h
  obtain ⟨x, d, rfl, dp, h1, h2, h3, h4, q⟩ := h
  obtain ⟨u, rfl, ru⟩ := vals1 r
  have fin : ∀ tk t, EP X pins σ Q (.str d.shown t) { s with toks := tk } := fun tk t => ⟨.str d.shown, H, I.tok tk, ⟨t, rfl⟩, q⟩
  have ref : ∀ a, u = .ref a → wpAny (model X.prog X.w) X.A (call (.builtin "repr") [u]) (EP X pins σ Q) X.xe s := fun a e => by
    obtain ⟨as, rd⟩ := Dp.reads I d x u dp ru
    subst e
    refine repr_of_reads' rd h1 (fun z => by rw [h2] at z; cases z) hG (by have := hr.un; omega) (fun _ _ z => z) (fun h' t tk hk => ?_) h4
    exact ⟨.str d.shown, H, I.kept (t' := tk) hk, ⟨t, rfl⟩, q⟩
  cases dp with
  | non => cases ru; exact PySem.P.repr_of_none (fin _ _)
  | bl b => cases ru; exact PySem.P.repr_of_bool (fin _ _)
  | int i => obtain ⟨t, rfl⟩ := ru; exact PySem.P.repr_of_int (of_decide_eq_true h1) (fin _ _)
  | str y => obtain ⟨t, rfl⟩ := ru; exact PySem.P.repr_of_str (fin _ _) h4
  | lst _ _ => exact ref _ ru
  | tup _ _ => exact ref _ ru
end
end Rh
/-! DL10: built-in functions, methods, stores over data. -/
namespace Rh
open PySem PySem.Spec PyProof.Rows L2

/-! ### lists of ints, of bools, of texts -/
def blsOf : List D → Option (List Bool)
  | [] => some []
  | .bl i :: ds => (blsOf ds).map (i :: ·)
  | _ :: _ => none
def strsOf : List D → Option (List Str)
  | [] => some []
  | .str i :: ds => (strsOf ds).map (i :: ·)
  | _ :: _ => none
theorem blsOf_map : ∀ ns : List Bool, blsOf (ns.map D.bl) = some ns
  | [] => rfl
  | n :: ns => by show (blsOf (ns.map D.bl)).map (n :: ·) = _; rw [blsOf_map ns]; rfl
section
variable {K : PySem.W.Frag} {H : Hp} {M : DHp}
theorem blsOf_has : ∀ {ds : List D} {vs : List V} {ns : List Bool}, HasL K H M ds vs → blsOf ds = some ns → vs = ns.map V.bl
  | [], _, _, r, e => by cases e; exact r
  | d :: ds, _, ns, r, e => by
    obtain ⟨v, vs, rfl, h1, h2⟩ := r
    cases d with
    | bl i =>
      cases q : blsOf ds with
      | none => simp only [blsOf, q] at e; cases e
      | some ms =>
        simp only [blsOf, q] at e
        cases e
        rw [blsOf_has h2 q, show v = .bl i from h1]
        rfl
    | _ => cases e
theorem strsOf_has : ∀ {ds : List D} {vs : List V} {ns : List Str}, HasL K H M ds vs → strsOf ds = some ns → vs = ns.map V.str
  | [], _, _, r, e => by cases e; exact r
  | d :: ds, _, ns, r, e => by
    obtain ⟨v, vs, rfl, h1, h2⟩ := r
    cases d with
    | str i =>
      cases q : strsOf ds with
      | none => simp only [strsOf, q] at e; cases e
      | some ms =>
        simp only [strsOf, q] at e
        cases e
        rw [strsOf_has h2 q, show v = .str i from h1]
        rfl
    | _ => cases e
theorem hasL1 {d : D} {xs : List V} (h : HasL K H M [d] xs) : ∃ x, xs = [x] ∧ Has K H M d x := by
  obtain ⟨v, r, rfl, h1, h2⟩ := h
  rw [show r = [] from h2]
  exact ⟨v, rfl, h1⟩
theorem hasL2 {d e : D} {xs : List V} (h : HasL K H M [d, e] xs) : ∃ x y, xs = [x, y] ∧ Has K H M d x ∧ Has K H M e y := by
  obtain ⟨v, r, rfl, h1, h2⟩ := h
  obtain ⟨y, rfl, h3⟩ := hasL1 h2
  exact ⟨v, y, rfl, h1, h3⟩
end
/-- a call of one argument -/
def rOne (r : D → DHp → DVK → Prop) : DR := fun ds M Q => match ds with
  | [d] => r d M Q
  | _ => False
def rTwo (r : D → D → DHp → DVK → Prop) : DR := fun ds M Q => match ds with
  | [d, e] => r d e M Q
  | _ => False
theorem ref_one {K : PySem.W.Frag} {r : R1} {r' : D → DHp → DVK → Prop} (h : ∀ (H : Hp) (M : DHp) (x : V) (d : D) (Q : VK) (Q' : DVK), AbH K H M → Has K H M d x → r' d M Q' → Post K H M Q' Q → r [x] H Q) : RefL K r (rOne r') := fun H M xs ds Q Q' A hx t P => by
  match ds, t, hx with
  | [d], t, hx =>
    obtain ⟨x, rfl, h1⟩ := hasL1 hx
    exact h H M x d Q Q' A h1 t P
theorem ref_two {K : PySem.W.Frag} {r : R1} {r' : D → D → DHp → DVK → Prop} (h : ∀ (H : Hp) (M : DHp) (x y : V) (d e : D) (Q : VK) (Q' : DVK), AbH K H M → Has K H M d x → Has K H M e y → r' d e M Q' → Post K H M Q' Q → r [x, y] H Q) : RefL K r (rTwo r') := fun H M xs ds Q Q' A hx t P => by
  match ds, t, hx with
  | [d, e], t, hx =>
    obtain ⟨x, y, rfl, h1, h2⟩ := hasL2 hx
    exact h H M x y d e Q Q' A h1 h2 t P

/-! ### len -/
def lenD (x : D) (M : DHp) : Option Nat := match x with
  | .str y => if y.length ≤ sizeLine then some y.length else none
  | .dic ks _ => some ks.length
  | .ref a => (match M a with
    | some (.lst ds) => some ds.length
    | some (.dK ks _) => some ks.length
    | _ => none)
  | .tup ds => some ds.length
  | .tpl ds => some ds.length
  | .lst ds => some ds.length
  | .scr ns => some ns.length
  | _ => none
def rLenAll (K : PySem.W.Frag) : R1 := fun xs H Q => (∃ x n, xs = [x] ∧ LenV K x H n ∧ Q (.int n) H) ∨ (∃ a kvs, xs = [V.ref a] ∧ H a = some (.dK kvs) ∧ Q (.int kvs.length) H)
theorem len_all {X : Cx} : CallR X (.builtin "len") (rLenAll X.K) := CallR.or call_len call_lenD
theorem ref_len {K : PySem.W.Frag} : RefL K (rLenAll K) (rOne fun d M Q => wth (lenD d M) fun n => Q (.int n) M) := ref_one fun H M x d Q Q' A hx t P => by
  obtain ⟨n, e, q⟩ := wth_of t
  have fin : Q (.int n) H := P.same A q rfl
  have zl : ∀ (ks : List Key) (vs : List V), ks.length = vs.length → (ks.zip vs).length = ks.length := fun ks vs h => by rw [List.length_zip]; omega
  cases d with
  | str y =>
    simp only [lenD] at e
    split at e
    · cases e
      exact .inl ⟨x, _, rfl, by rw [show x = _ from hx]; exact ⟨by assumption, rfl⟩, fin⟩
    · cases e
  | dic ks ds =>
    cases e
    obtain ⟨a, vs, rfl, _, e2, l, r⟩ := hx
    exact .inr ⟨a, _, rfl, e2, by rw [zl _ _ (l.trans r.len.symm)]; exact fin⟩
  | tup ds =>
    cases e
    obtain ⟨a, vs, rfl, _, e2, r⟩ := hx
    exact .inl ⟨_, _, rfl, .inr ⟨vs, e2.sq, r.len.symm⟩, fin⟩
  | tpl ds =>
    cases e
    obtain ⟨a, vs, rfl, _, e2, r⟩ := hx
    exact .inl ⟨_, _, rfl, .inr ⟨vs, SqT.of e2, r.len.symm⟩, fin⟩
  | lst ds =>
    cases e
    obtain ⟨a, vs, rfl, _, e2, r⟩ := hx
    exact .inl ⟨_, _, rfl, .inl ⟨vs, SqL.of e2, r.len.symm⟩, fin⟩
  | scr ns =>
    cases e
    obtain ⟨a, rfl, t⟩ := hx
    exact .inl ⟨_, _, rfl, .inl ⟨_, t.sq, by simp⟩, fin⟩
  | ref a =>
    have ex : x = .ref a := hx
    subst ex
    cases qa : M a with
    | none => simp only [lenD, qa] at e; cases e
    | some o =>
      cases o with
      | lst ds =>
        simp only [lenD, qa] at e
        cases e
        obtain ⟨vs, e2, r⟩ := A a _ qa
        exact .inl ⟨_, _, rfl, .inl ⟨vs, SqL.of e2, r.len.symm⟩, fin⟩
      | dK ks ds =>
        simp only [lenD, qa] at e
        cases e
        obtain ⟨vs, e2, l, r⟩ := A a _ qa
        exact .inr ⟨a, _, rfl, e2, by rw [zl _ _ (l.trans r.len.symm)]; exact fin⟩
      | _ => simp only [lenD, qa] at e; cases e
  | _ => cases e

/-! ### numbers -/
def rAbsD : DR := rOne fun d M Q => match d with
  | .int i => Q (.int (if i < 0 then -i else i)) M
  | _ => False
theorem ref_abs {K : PySem.W.Frag} : RefL K (fun xs H Q => ∃ i, xs = [.int i] ∧ Q (.int (if i < 0 then -i else i)) H) rAbsD := ref_one fun H M x d Q Q' A hx t P => by
  cases d <;> first | exact t.elim | skip
  exact ⟨_, by rw [show x = _ from hx], P.same A t rfl⟩
def rMax2 : DR := rTwo fun d e M Q => match d, e with
  | .int i, .int j => Q (.int (if j > i then j else i)) M
  | _, _ => False
def rMin2 : DR := rTwo fun d e M Q => match d, e with
  | .int i, .int j => Q (.int (if j < i then j else i)) M
  | _, _ => False
theorem ref_max2 {K : PySem.W.Frag} : RefL K (fun xs H Q => ∃ i j, xs = [.int i, .int j] ∧ Q (.int (if j > i then j else i)) H) rMax2 := ref_two fun H M x y d e Q Q' A hx hy t P => by
  cases d <;> first | exact t.elim | skip
  cases e <;> first | exact t.elim | skip
  exact ⟨_, _, by rw [show x = _ from hx, show y = _ from hy], P.same A t rfl⟩
theorem ref_min2 {K : PySem.W.Frag} : RefL K (fun xs H Q => ∃ i j, xs = [.int i, .int j] ∧ Q (.int (if j < i then j else i)) H) rMin2 := ref_two fun H M x y d e Q Q' A hx hy t P => by
  cases d <;> first | exact t.elim | skip
  cases e <;> first | exact t.elim | skip
  exact ⟨_, _, by rw [show x = _ from hx, show y = _ from hy], P.same A t rfl⟩
def rIntAll : R1 := fun xs H Q => ((∃ i, xs = [.int i] ∧ Q (.int i) H) ∨ ∃ k, xs = [.bl k] ∧ Q (.int (if k then 1 else 0)) H) ∨ (∃ a n, xs = [.str a] ∧ PySem.intText? a = some n ∧ a.length ≤ 640 ∧ Q (.int n) H)
theorem int_all {X : Cx} : CallR X (.type "int") rIntAll := CallR.or call_int1 call_int_str
def rIntD : DR := rOne fun d M Q => match d with
  | .int i => Q (.int i) M
  | .str a => a.length ≤ 640 ∧ wth (PySem.intText? a) fun n => Q (.int n) M
  | _ => False
theorem ref_int {K : PySem.W.Frag} : RefL K rIntAll rIntD := ref_one fun H M x d Q Q' A hx t P => by
  cases d <;> first | exact t.elim | skip
  · exact .inl (.inl ⟨_, by rw [show x = _ from hx], P.same A t rfl⟩)
  · obtain ⟨l, t⟩ := t
    obtain ⟨n, e, t⟩ := wth_of t
    exact .inr ⟨_, n, by rw [show x = _ from hx], e, l, P.same A t rfl⟩
def rDivmodD : DR := rTwo fun d e M Q => match d, e with
  | .int i, .int j => CDivP i j ∧ Q (.tpl [.int (i / j), .int (i % j)]) M
  | _, _ => False
theorem ref_divmod {K : PySem.W.Frag} : RefL K (fun xs H Q => ∃ i j, xs = [.int i, .int j] ∧ CDivP i j ∧ ∀ p, H p = none → Q (.ref p) (upd H p (.tup [.int (i / j), .int (i % j)]))) rDivmodD := ref_two fun H M x y d e Q Q' A hx hy t P => by
  cases d <;> first | exact t.elim | skip
  cases e <;> first | exact t.elim | skip
  exact ⟨_, _, by rw [show x = _ from hx, show y = _ from hy], t.1, fun p np => new_tpl A (HasL.cons (show Has K H M (.int _) (.int _) from rfl) (HasL.one (show Has K H M (.int _) (.int _) from rfl))) t.2 P np⟩

/-! ### over lists -/
def rAllD : DR := rOne fun d M Q => wth (lstOf d M) fun ds => wth (blsOf ds) fun ns => Q (.bl (ns.all id)) M
theorem ref_all {K : PySem.W.Frag} : RefL K (rAll K) rAllD := ref_one fun H M x d Q Q' A hx t P => by
  obtain ⟨ds, e, t⟩ := wth_of t
  obtain ⟨ns, e2, t⟩ := wth_of t
  obtain ⟨a, vs, rfl, s, r⟩ := lstOf_at A hx e
  rw [blsOf_has r e2] at s
  exact ⟨a, ns, rfl, s, P.same A t rfl⟩
def rTupleD : DR := rOne fun d M Q => wth (seqOf d M) fun ds => Q (.tup ds) M
theorem ref_tuple {K : PySem.W.Frag} : RefL K (rTupF K) rTupleD := ref_one fun H M x d Q Q' A hx t P => by
  obtain ⟨ds, e, q⟩ := wth_of t
  cases d with
  | tup es =>
    obtain rfl : es = ds := Option.some.inj e
    obtain ⟨a, vs, rfl, n, e2, r⟩ := hx
    exact ⟨a, vs, rfl, .inr ⟨e2.sq, P.same A q ⟨a, vs, rfl, n, e2, r⟩⟩⟩
  | _ =>
    obtain ⟨a, vs, rfl, s, r⟩ := lstOf_at A hx (show lstOf _ M = some ds from e)
    exact ⟨a, vs, rfl, .inl ⟨s, fun l us nl => new_tup A r q P nl⟩⟩
def rListD (mu : Bool) : DR := rOne fun d M Q => wth (seqOf d M) fun ds => dNew mu ds M Q
theorem ref_list {K : PySem.W.Frag} {mu : Bool} : RefL K (fun xs H Q => ∃ p ys, xs = [.ref p] ∧ (SqL K H p ys ∨ SqT K H p ys) ∧ ∀ l, H l = none → Q (.ref l) (upd H l (.lst ys))) (rListD mu) := ref_one fun H M x d Q Q' A hx t P => by
  obtain ⟨ds, e, t⟩ := wth_of t
  obtain ⟨a, vs, rfl, s, r⟩ := seqOf_at A hx e
  exact ⟨a, vs, rfl, s, fun l nl => new_list A r t P nl⟩
def rReprD : DR := rOne fun d M Q => (SeqAt.shaped (pyM M d) = true ∧ (pyM M d).showable = true ∧ (pyM M d).depth ≤ 60 ∧ (pyM M d).shown.length ≤ sizeLine) ∧ Q (.str (pyM M d).shown) M
mutual
theorem noDict : ∀ d : PyData, d.canLay0 = true → d.hasDict = false
  | .none, _ => rfl
  | .bool _, _ => rfl
  | .int _, _ => rfl
  | .str _, _ => rfl
  | .list xs, h => noDictAll xs h
  | .tuple xs, h => noDictAll xs h
  | .dict _, h => by cases h
theorem noDictAll : ∀ ds : List PyData, PyData.canLayAll0 ds = true → PyData.hasDictAll ds = false
  | [], _ => rfl
  | d :: ds, h => by
    obtain ⟨h1, h2⟩ := Bool.and_eq_true_iff.mp (show (PyData.canLay0 d && PyData.canLayAll0 ds) = true from h)
    show (PyData.hasDict d || PyData.hasDictAll ds) = false
    rw [noDict d h1, noDictAll ds h2]; rfl
end
theorem ref_repr {K : PySem.W.Frag} : RefL K (rRepr K) rReprD := ref_one fun H M x d Q Q' A hx t P => by
  obtain ⟨⟨h1, h2, h3, h4⟩, t⟩ := t
  exact ⟨x, _, rfl, hx.dpM A h1, h2, noDict _ (SeqAt.canLay_of_shaped h1), h3, h4, P.same A t rfl⟩

/-! ### methods of lists, texts -/
section
variable {X : Cx} {O : Org} {pos apos p : Pos} {o e : Expr} {to te : DTE} {es : List Expr} {ts : List DTE}
def rAppD : D → List D → DHp → DVK → Prop := fun x ds M Q => match x, ds with
  | .ref a, [d] => wth (M a) fun o => (match o with
    | .lst es => es.length < sizeLine ∧ Q .non (up M a (.lst (es ++ [d])))
    | _ => False)
  | _, _ => False
/-- x.append(e): x is a list ahead of the argument too -/
def dApp (to te : DTE) : DTE := fun τ M Q => to τ M fun x M1 => (∃ a es, x = .ref a ∧ M1 a = some (.lst es)) ∧ te τ M1 fun d M2 => rAppD x [d] M2 Q
theorem de_append (ho : DE X O o to) (he : DE X O e te) (hb : attributeBase o "append" X.env (eval o X.env) = eval o X.env := by rfl)
    (hf : ((backTo pos (starEach (e :: []) X.env)).all (fun x => !x.1) && (backToKw pos (keywordEach [] X.env)).all (fun x => x.1.isSome) && decide ((e :: []).length + ([] : List Keyword).length + (if ([] : List Keyword).isEmpty then 0 else 1) < 30)) = true := by rfl)
    (hl : (apos.endLine == pos.line) = true := by rfl) (hs : starEach (e :: []) X.env = (false, eval e X.env) :: starEach [] X.env := by rfl) (hp : (backTo pos (starEach [] X.env)).any (·.1) = false := by rfl) :
    DE X O (.Call (.Attribute o "append" apos) [e] [] pos) (dApp to te) := PE.wk (pe_bm PySem.F.plainAttrs_list PySem.F.slot_list_append PySem.F.type_list_append mt_append ho (das_cons (O := O) he das_nil hs) hb hf hl hs hp) fun σ H Q ⟨τ, M, Q', b, t, P⟩ =>
  ⟨τ, M, _, b, t, fun x M1 xv H1 q f1 a1 hx => by
    obtain ⟨⟨a, es, rfl, e0⟩, q⟩ := q
    have exv : xv = .ref a := hx
    subst exv
    obtain ⟨vs, e1, r1⟩ := a1 a _ e0
    refine ⟨.inl ⟨rfl, _, SqL.of e1⟩, τ, M1, _, b.step f1 a1, q, fun d M2 y H2 q2 f2 a2 hy => ?_⟩
    obtain ⟨o, e2, q2⟩ := wth_of (show wth (M2 a) _ from q2)
    cases o with
    | lst es2 =>
      obtain ⟨l2, q2⟩ := q2
      obtain ⟨ws, e3, r3⟩ := a2 a _ e2
      exact ⟨a, ws, y, rfl, rfl, e3, by rw [r3.len]; exact l2, P _ _ _ _ q2 (f1.trans (f2.trans (Fr.put e2))) (a2.put e2 ⟨ws ++ [y], upd_same, (r3.fr (Fr.put e2)).app (HasL.one (hy.fr (Fr.put e2)))⟩) rfl⟩
    | _ => exact q2.elim⟩
/-- sep.join(list or tuple of texts) -/
def dJoin (to te : DTE) : DTE := fun τ M Q => to τ M fun x M1 => match x with
  | .str a => te τ M1 fun y M2 => wth (seqOf y M2) fun ds => wth (strsOf ds) fun ys => (ys.map (·.length)).sum + ys.length * a.length ≤ 16777216 ∧ Q (.str (Txt.join a ys)) M2
  | _ => False
theorem de_join (h : PE X (.Call (.Attribute o "join" apos) [e] [] pos) (tM1 (fun x xs H Q => ∃ a p, ∃ ys : List Str, x = .str a ∧ xs = [.ref p] ∧ (SqL X.K H p (ys.map V.str) ∨ SqT X.K H p (ys.map V.str)) ∧ (ys.map (·.length)).sum + ys.length * a.length ≤ 16777216 ∧ Q (.str (Txt.join a ys)) H) (liftE X.K O to) (liftE X.K O te))) :
    DE X O (.Call (.Attribute o "join" apos) [e] [] pos) (dJoin to te) := h.wk fun σ H Q ⟨τ, M, Q', b, t, P⟩ =>
  ⟨τ, M, _, b, t, fun x M1 xv H1 q f1 a1 hx => by
    cases x <;> first | exact q.elim | skip
    rename_i a
    refine ⟨⟨a, hx⟩, τ, M1, _, b.step f1 a1, q, fun y M2 yv H2 q2 f2 a2 hy => ?_⟩
    obtain ⟨ds, e1, q2⟩ := wth_of q2
    obtain ⟨ys, e2, l, q2⟩ := wth_of q2
    obtain ⟨ad, vs, rfl, s, r⟩ := seqOf_at a2 hy e1
    rw [strsOf_has r e2] at s
    exact ⟨a, ad, ys, hx, rfl, s, l, P _ M2 _ H2 q2 (f1.trans f2) a2 rfl⟩⟩

/-! ### f-strings -/
inductive DJ (X : Cx) (O : Org) : List Expr → List DTE → Prop where
  | nil : DJ X O [] []
  | cons {e : Expr} {t : DTE} {es : List Expr} {ts : List DTE} (h : DE X O e t) (r : DJ X O es ts) : DJ X O (e :: es) (t :: ts)
/-! ### stores -/
def dgSub (to ti : DTE) : DTG := fun d τ M Q => to τ M fun x M1 => ti τ M1 fun y M2 => match x, y with
  | .ref a, .int k => wth (M2 a) fun o => (match o with
    | .lst ds => wth (ixN ds.length k) fun j => Q τ (up M2 a (.lst (ds.set j d)))
    | _ => False)
  | _, _ => False
theorem ref_gSub {K : PySem.W.Frag} {to ti : DTE} {vs : List Nat} : RefG K O vs (gSub (liftE K O to) (liftE K O ti) rSetL) (dgSub to ti) := fun v d σ H τ M Q Q' b hv t p =>
  ⟨τ, M, _, b, t, fun x M1 xv H1 q f1 a1 hx => ⟨τ, M1, _, b.step f1 a1, q, fun y M2 yv H2 q2 f2 a2 hy => by
    cases x <;> first | exact q2.elim | skip
    cases y <;> first | exact q2.elim | skip
    rename_i a k
    obtain ⟨o, e, q2⟩ := wth_of q2
    cases o <;> first | exact q2.elim | skip
    rename_i ds
    obtain ⟨j, ej, q2⟩ := wth_of q2
    obtain ⟨ws, e3, r3⟩ := a2 a _ e
    refine ⟨a, ws, k, j, by rw [show xv = _ from hx.fr f2], hy, e3, by rw [r3.len]; exact ej, ?_⟩
    have fz : Fr H M (upd H2 a (.lst (ws.set j v))) (up M2 a (.lst (ds.set j d))) := f1.trans (f2.trans (Fr.put e))
    exact p τ _ σ _ q2 fz (a2.put e ⟨ws.set j v, upd_same, HasL.set (hv.fr fz) j (r3.fr (Fr.put e))⟩) (b.s.fr fz) rfl⟩⟩

/-! ### try, whose body raises nothing -/
theorem ds_thru {body : List Stmt} {h0 : ExceptHandler} {hs : List ExceptHandler} {t : DTS} (hb : DSs X.nox O body t) : DS X O (.Try body (h0 :: hs) [] [] pos) t := ps_try_thru0 hb
end
end Rh
/-! DL11: short readings, isinstance, calls by packages, a law's end where the guards are known. -/
namespace Rh
open PySem PySem.Spec PyProof.Rows L2

/-! ### short readings -/
def rLtD : DR2 := rB2 fun i j => decide (i < j)
def rLeD : DR2 := rB2 fun i j => decide (i ≤ j)
def rGtD : DR2 := rB2 fun i j => decide (j < i)
def rGeD : DR2 := rB2 fun i j => decide (j ≤ i)
def rSubD : DR2 := rIc fun i j => i - j
def rDivD : DR2 := rI2 CDivW fun i j => i / j
def rModD : DR2 := rI2 (fun _ j => 0 < j) fun i j => i % j
def rPowD : DR2 := rI2 CPow fun i j => i ^ j.toNat
section
variable {K : PySem.W.Frag}
theorem ref_lt : Ref2 K (rI0 fun i j => .bl (decide (i < j))) rLtD := ref_B (f := fun i j => decide (i < j))
theorem ref_le : Ref2 K (rI0 fun i j => .bl (decide (i ≤ j))) rLeD := ref_B (f := fun i j => decide (i ≤ j))
theorem ref_gt : Ref2 K (rI0 fun i j => .bl (decide (j < i))) rGtD := ref_B (f := fun i j => decide (j < i))
theorem ref_ge : Ref2 K (rI0 fun i j => .bl (decide (j ≤ i))) rGeD := ref_B (f := fun i j => decide (j ≤ i))
end
theorem hu64 {k : Nat} {A : Around} (r : Room k A) : A.units + 64 < cLine := by have := r.un; omega
theorem bt_len : bootBuiltins "len" = some (.builtin "len") := by decide +kernel
theorem bt_abs : bootBuiltins "abs" = some (.builtin "abs") := by decide +kernel
theorem bt_divmod : bootBuiltins "divmod" = some (.builtin "divmod") := by decide +kernel
theorem bt_all : bootBuiltins "all" = some (.builtin "all") := by decide +kernel
theorem bt_repr : bootBuiltins "repr" = some (.builtin "repr") := by decide +kernel
theorem bt_max : bootBuiltins "max" = some (.builtin "max") := by decide +kernel
theorem bt_min : bootBuiltins "min" = some (.builtin "min") := by decide +kernel
theorem bt_isinstance : bootBuiltins "isinstance" = some (.builtin "isinstance") := by decide +kernel
theorem bt_int : bootBuiltins "int" = some (.type "int") := by decide +kernel
theorem bt_bool : bootBuiltins "bool" = some (.type "bool") := by decide +kernel
theorem bt_tuple : bootBuiltins "tuple" = some (.type "tuple") := by decide +kernel
theorem bt_list : bootBuiltins "list" = some (.type "list") := by decide +kernel
/-! ### constants of the module -/
section
variable {X : Cx} {x : Str} {pos : Pos}
theorem pe_gi {i : Int} (hg : Gl X x) (h : ∃ t, X.mg x = some (.int i t)) (hd : (x == ("__debug__" : Str)) = false := by decide) : PE X (.Name x pos) (tC (.int i)) :=
  h.elim fun t e => pe_glob hg e ⟨t, rfl⟩ hd
end

/-! ### isinstance -/
inductive Ty0 where
  | non | bl | int | str | lst | tup | dic
def Ty0.nm : Ty0 → String
  | .non => "NoneType"
  | .bl => "bool"
  | .int => "int"
  | .str => "str"
  | .lst => "list"
  | .tup => "tuple"
  | .dic => "dict"
/-- one is the other or under it -/
def Ty0.is : Ty0 → Ty0 → Bool
  | .non, .non => true
  | .bl, .bl => true
  | .bl, .int => true
  | .int, .int => true
  | .str, .str => true
  | .lst, .lst => true
  | .tup, .tup => true
  | .dic, .dic => true
  | _, _ => false
theorem kit0 (a b : Ty0) : kitB a.nm b.nm = some (a.is b) := by
  cases a <;> cases b <;> decide +kernel
/-- a datum's type; its own class -/
def tyD (x : D) (M : DHp) : Option (Ty0 ⊕ Addr) := match x with
  | .non => some (.inl .non)
  | .bl _ => some (.inl .bl)
  | .int _ => some (.inl .int)
  | .str _ => some (.inl .str)
  | .tup _ => some (.inl .tup)
  | .lst _ => some (.inl .lst)
  | .scr _ => some (.inl .lst)
  | .dic _ _ => some (.inl .dic)
  | .obj C _ _ => some (.inr C)
  | .ref a => (match M a with
    | some (.lst _) => some (.inl .lst)
    | some (.dK _ _) => some (.inl .dic)
    | some (.ins C _ _) => some (.inr C)
    | _ => none)
  | .ty _ => none
  | .tpl _ => none
/-- what is asked of an own class -/
structure OwnC (K : PySem.W.Frag) (C : Addr) : Prop where
  cl : Cls K C
  ha : PySem.W.findIn K (.ref C) "__class__" = some (some (.builtin "object.__class__"))
  hn : PySem.W.specialIn K (.builtin "object.__class__") "__get__" = some (some (.builtin "getset_descriptor.__get__"))
  htk : PySem.W.takesIn K (.builtin "object.__class__") = some true
  hm : PySem.W.mroIn K C (.type "object") = some true
theorem kl_ty {K : PySem.W.Frag} {H : Hp} {M : DHp} {a : Addr} {vs : List V} (h : KL K H M a vs) : TyX K H (.ref a) (.type "list") := by
  rcases h with ⟨_, r⟩ | ⟨o, _, _, e, c, _⟩
  · rcases r with r | ⟨x, r⟩
    · exact .base (.lst r)
    · exact .base (.frz r)
  · exact .kList e c
theorem ty_base {K : PySem.W.Frag} {H : Hp} {M : DHp} {x : D} {v : V} {t : Ty0} (A : AbH K H M) (h : Has K H M x v) (e : tyD x M = some (.inl t)) : TyX K H v (.type t.nm) := by
  cases x with
  | non => cases e; rw [show v = _ from h]; exact .base .non
  | bl b => cases e; rw [show v = _ from h]; exact .base (.bl b)
  | int b => cases e; rw [show v = _ from h]; exact .base (.int b)
  | str b => cases e; rw [show v = _ from h]; exact .base (.str b)
  | ty n => cases e
  | obj C ns ds => cases e
  | scr ns =>
    cases e
    obtain ⟨a, rfl, k⟩ := h
    exact kl_ty k
  | tup ds =>
    cases e
    obtain ⟨a, vs, rfl, _, ⟨us, q⟩, _⟩ := h
    exact .fTuple q
  | tpl ds => cases e
  | lst ds =>
    cases e
    obtain ⟨a, vs, rfl, _, q, _⟩ := h
    exact .base (.lst q)
  | dic ks ds =>
    cases e
    obtain ⟨a, vs, rfl, _, q, _⟩ := h
    exact .base (.dK q)
  | ref a =>
    rw [show v = .ref a from h]
    cases q : M a with
    | none => simp only [tyD, q] at e; cases e
    | some o =>
      cases o with
      | lst es =>
        simp only [tyD, q] at e; cases e
        obtain ⟨vs, e2, _⟩ := A a _ q
        exact .base (.lst e2)
      | dK ks es =>
        simp only [tyD, q] at e; cases e
        obtain ⟨vs, e2, _⟩ := A a _ q
        exact .base (.dK e2)
      | ins C ns ds => simp only [tyD, q] at e; cases e
      | tab _ => simp only [tyD, q] at e; cases e
      | dT _ _ => simp only [tyD, q] at e; cases e
      | fT _ _ _ _ => simp only [tyD, q] at e; cases e
      | lam _ _ _ => simp only [tyD, q] at e; cases e
      | cel _ => simp only [tyD, q] at e; cases e
      | fK _ _ _ _ => simp only [tyD, q] at e; cases e
theorem ty_own {K : PySem.W.Frag} {H : Hp} {M : DHp} {x : D} {v : V} {C : Addr} (c : OwnC K C) (A : AbH K H M) (h : Has K H M x v) (e : tyD x M = some (.inr C)) : TyX K H v (.ref C) := by
  cases x with
  | obj C' ns ds =>
    cases e
    obtain ⟨a, dx, vs, rfl, _, q, _⟩ := h
    exact .base (.ins q c.cl c.ha c.hn c.htk c.hm)
  | ref a =>
    rw [show v = .ref a from h]
    cases q : M a with
    | none => simp only [tyD, q] at e; cases e
    | some o =>
      cases o with
      | ins C' ns ds =>
        simp only [tyD, q] at e; cases e
        obtain ⟨dx, vs, e2, _⟩ := A a _ q
        exact .base (.ins e2 c.cl c.ha c.hn c.htk c.hm)
      | _ => simp only [tyD, q] at e; cases e
  | _ => cases e
/-- isinstance(x, T), T built in; OC: the own classes that are known, none of which is under T -/
def dIsi (T : Ty0) (OC : Addr → Prop) (te : DTE) : DTE := fun τ M Q => te τ M fun x M1 => wth (tyD x M1) fun
  | .inl t => Q (.bl (t.is T)) M1
  | .inr C => OC C ∧ Q (.bl false) M1
section
variable {X : Cx} {O : Org} {pos p p2 : Pos} {e : Expr} {te : DTE}
theorem de_isi {T : Ty0} {OC : Addr → Prop} {y : Str} (hg : Gl X "isinstance") (hm : X.mg "isinstance" = none) (hg2 : Gl X y) (hm2 : X.mg y = none) (hv2 : bootBuiltins y = some (.type T.nm)) (he : DE X O e te) (oc : ∀ C, OC C → OwnC X.K C ∧ PySem.W.kitOne X.K (.ref C) (.type T.nm) = some false)
    (hs : starEach [e, .Name y p2] X.env = (false, eval e X.env) :: starEach [.Name y p2] X.env := by rfl) (hn2 : y ≠ "__name__" := by decide) (hd2 : (y == ("__debug__" : Str)) = false := by decide) : DE X O (.Call (.Name "isinstance" p) [e, .Name y p2] [] pos) (dIsi T OC te) :=
  PE.wk (pe_callB call_isi hg hm bt_isinstance (das_cons (O := O) he (das_cons (O := O) (de_c (d := .ty T.nm) (pe_bltn (v := .ty T.nm) hg2 hm2 hv2 rfl hn2 hd2) rfl) das_nil) hs) (he := hs)) fun σ H Q ⟨τ, M, Q', b, t, P⟩ => by
    refine ⟨τ, M, _, b, t, fun x M1 v H1 q f a hx => ?_⟩
    refine ⟨τ, M1, _, b.step f a, (show dC (.ty T.nm) τ M1 (fun c M2 => c = .ty T.nm ∧ M2 = M1) from ⟨rfl, rfl⟩), fun c M2 w H2 q2 f2 a2 hc => ?_⟩
    obtain ⟨rfl, rfl⟩ := q2
    obtain ⟨ty, e1, q⟩ := wth_of q
    have fz := f.trans f2
    have hx2 := hx.fr f2
    show rIsi X.K [v, w] H2 Q
    rw [show w = .ty T.nm from hc]
    cases ty with
    | inl t0 => exact ⟨v, _, _, _, t0.is T, rfl, .ty _, ty_base a2 hx2 e1, kit_ty (kit0 t0 T), P _ M2 _ H2 q fz a2 rfl⟩
    | inr C => exact ⟨v, _, _, _, false, rfl, .ty _, ty_own (oc C q.1).1 a2 hx2 e1, (oc C q.1).2, P _ M2 _ H2 q.2 fz a2 rfl⟩
end

/-! ### calls by packages -/
/-- the def x: its promise, what it takes where dds fill up -/
def DCal (P : Program) (w : World) (K : PySem.W.Frag) (mg : Str → Option Value) (base : Heap) (k : Nat) (x : Str) (ps : List Str) (dds : List D) (sp : DSp) : Prop :=
  ∃ f fd dus dvs, DFn P w K mg base k f fd ps sp ∧ mg x = some (.ref f) ∧ PySem.W.keepIn K (.ref f) = true ∧ Binds K fd ps dus ∧ Vals dvs dus ∧ constL dds = some dvs
def DCalG (P : Program) (w : World) (K : PySem.W.Frag) (mg : Str → Option Value) (base : Heap) (k : Nat) (x : Str) (ps : List Str) (dds : List D) (sp : DSp) : Prop :=
  ∃ f fd dus dvs, DFnG P w K mg base k f fd ps sp ∧ mg x = some (.ref f) ∧ PySem.W.keepIn K (.ref f) = true ∧ Binds K fd ps dus ∧ Vals dvs dus ∧ constL dds = some dvs
section
variable {P : Program} {w : World} {K : PySem.W.Frag} {mg : Str → Option Value} {base : Heap} {j k : Nat} {x : Str} {ps : List Str} {dds : List D} {sp : DSp}
theorem DCal.mono (c : DCal P w K mg base j x ps dds sp) (h : j ≤ k) : DCal P w K mg base k x ps dds sp :=
  let ⟨f, fd, dus, dvs, F, r⟩ := c; ⟨f, fd, dus, dvs, F.mono h, r⟩
theorem DCalG.mono (c : DCalG P w K mg base j x ps dds sp) (h : j ≤ k) : DCalG P w K mg base k x ps dds sp :=
  let ⟨f, fd, dus, dvs, F, r⟩ := c; ⟨f, fd, dus, dvs, F.mono h, r⟩
end
section
variable {X : Cx} {O : Org} {x : Str} {p pos : Pos} {e : Expr} {es : List Expr} {k j : Nat} {ps : List Str} {sp : DSp} {dds : List D} {ts : List DTE}
end
end Rh
/-! DL12: a law's end for promises that know the guards. -/
namespace Rh
open PySem PySem.Spec PyProof.Rows L2

/-- the script's own object -/
abbrev scO (us : List Value) : Obj := { cls := .type "list", data := .seq us.toArray }
/-- nothing is tracked but the script, if it is no object of the written part -/
def scH (K : PySem.W.Frag) (p : Addr) (us : List Value) (ns : List Int) : Hp := fun b => if b = p ∧ K.lookup p = none then some (.frz (scO us) (.lst (ns.map V.int))) else none
section
variable {P : Program} {w : World} {K : PySem.W.Frag} {mg mb : Str → Option Value} {p : Addr} {us : List Value} {ns : List Int} {st : Shared}
theorem scH_some {b : Addr} {u : HO} (h : scH K p us ns b = some u) : b = p ∧ K.lookup p = none ∧ u = .frz (scO us) (.lst (ns.map V.int)) := by
  unfold scH at h
  split at h
  · rename_i c
    exact ⟨c.1, c.2, (Option.some.inj h).symm⟩
  · cases h
theorem scH_no {b : Addr} (h : b ≠ p ∨ K.lookup p ≠ none) : scH K p us ns b = none := by
  unfold scH
  refine if_neg fun c => ?_
  rcases h with h | h
  · exact h c.1
  · exact h c.2
theorem scH_kl (KX : K.In st.heap) (at_ : st.heap.get? p = some (scO us)) (hi : IntsAre us ns) (sm : ns.length ≤ sizeLine) : KL K (scH K p us ns) (fun _ => none) p (ns.map V.int) := by
  cases e : K.lookup p with
  | none => exact .inl ⟨rfl, .inr ⟨scO us, by unfold scH; exact if_pos ⟨rfl, e⟩⟩⟩
  | some o =>
    have e2 := KX p o e
    rw [at_] at e2
    obtain rfl : scO us = o := Option.some.inj e2
    exact .inr ⟨_, us.toArray, _, e, rfl, rfl, rfl, by rw [List.size_toArray, hi.length]; exact sm, by simpa using vals_ints hi⟩
end
end Rh
/-! DL13: own objects in built-in calls: len, str, bool, truth, ==. -/
namespace Rh
open PySem PySem.Spec PyProof.Rows L2

section
variable {X : Cx} {k : Nat} {f : Addr} {fd : FuncData} {ps : List Str} {sp : Sp} {pins : List (Addr × Obj)} {σ : L2.St} {H : Hp} {s : Shared} {us : List Value} {vs : List V} {Q : VK} {E' : Value → Shared → Prop}
end
section
variable {X : Cx} {k : Nat} {f C : Addr} {fd : FuncData} {ps : List Str} {sp : Sp}
/-- an own class's special method -/
structure Dun (P : Program) (w : World) (K : PySem.W.Frag) (mg : Str → Option Value) (base : Heap) (k : Nat) (C : Addr) (m : Str) (sp : Sp) : Prop where
  ex : ∃ f fd ps, PySem.W.findIn K (.ref C) m = some (some (.ref f)) ∧ PySem.W.isFn K (.ref f) = true ∧ FnG P w K mg base (L2N.CX P w) k f fd ps sp ∧ Binds K fd ps []
theorem ins_at {pins : List (Addr × Obj)} {σ : L2.St} {H : Hp} {s : Shared} {a C dx : Addr} {fs : List (Str × V)} (I : Inv X pins σ H s) (e : H a = some (.ins C dx fs)) : ∃ ox od, PySem.W.InstAt s.heap a ox C (some od) := by
  obtain ⟨mA, O, _⟩ := ins_get I.hok e
  obtain ⟨od, J, _⟩ := O.look
  exact ⟨_, od, J⟩
end
end Rh
/-! DL14: calls of own defs, classes, methods, classmethods with values and keywords; properties. -/
namespace Rh
open PySem PySem.Spec PyProof.Rows L2

/-! ### values put in the parameters' order -/
def pickL {α : Type} (ixs : List Nat) (l : List α) : List α := ixs.filterMap fun i => l[i]?
theorem pick_vals {xs : List V} {us : List Value} (r : Vals xs us) : ∀ ixs : List Nat, Vals (pickL ixs xs) (pickL ixs us)
  | [] => .nil
  | i :: is => by
    unfold pickL
    rw [List.filterMap_cons, List.filterMap_cons]
    cases e : xs[i]? with
    | none =>
      have e2 : us[i]? = none := List.getElem?_eq_none (by have := List.getElem?_eq_none_iff.mp e; rw [← r.length]; exact this)
      rw [e2]
      exact pick_vals r is
    | some x =>
      obtain ⟨u, e2, ru⟩ := r.get e
      rw [e2]
      exact .cons ru (pick_vals r is)
theorem pick_has {K : PySem.W.Frag} {H : Hp} {M : DHp} {ds : List D} {vs : List V} (r : HasL K H M ds vs) : ∀ ixs : List Nat, HasL K H M (pickL ixs ds) (pickL ixs vs)
  | [] => rfl
  | i :: is => by
    unfold pickL
    rw [List.filterMap_cons, List.filterMap_cons]
    cases e : ds[i]? with
    | none =>
      have e2 : vs[i]? = none := List.getElem?_eq_none (by have := List.getElem?_eq_none_iff.mp e; rw [r.len]; exact this)
      rw [e2]
      exact pick_has r is
    | some x =>
      obtain ⟨u, e2, ru⟩ := r.get e
      rw [e2]
      exact ⟨u, _, rfl, ru, pick_has r is⟩
abbrev KB (K : PySem.W.Frag) (fd : FuncData) (ps : List Str) (n : Nat) (ks : List Str) (ixs : List Nat) (dvs : List V) (dus : List Value) : Prop :=
  KBn K fd ps n ks (fun us ws => pickL ixs (us ++ ws ++ dus)) (fun vs zs => pickL ixs (vs ++ zs ++ dvs))
section
variable {K : PySem.W.Frag} {x qual : Str} {params : Arguments} {body : List Stmt} {scope : Scope} {dvs : List V} {kws : List (Str × V)} {f : Addr} {fd : FuncData} {ps : List Str}
theorem kb_of (F : FunD K x qual params body scope [] kws f fd) (n : Nat) (ks : List Str) (ixs : List Nat)
    (h : ∀ (kV doc pm : Value) (an : Option Addr) (cdv ct : Value) (us ws : List Value), us.length = n → ws.length = ks.length → bindArgs (PySem.W.fnOf x qual params body scope .none kV doc pm an cdv ct) ⟨us, ks.zip ws⟩ = pure (ps.zip (pickL ixs (us ++ ws ++ [])))) :
    KB K fd ps n ks ixs [] [] := by
  obtain ⟨oc, od, dV, kV, doc, pm, an, cdv, ct, osl, rfl, _, _, hD, _⟩ := F.ex
  rcases hD with ⟨_, rfl⟩ | ⟨e, _⟩
  · exact ⟨fun s us ws _ l1 l2 => .of_eq (h kV doc pm an cdv ct us ws l1 l2), fun r1 r2 => pick_vals ((r1.append r2).append .nil) ixs⟩
  · exact absurd rfl e
end

/-! ### a def as it is called -/
/-- the def at f, with n values and keywords ks; dds fill up; ixs: the parameters' order -/
def Pk (P : Program) (w : World) (K : PySem.W.Frag) (mg : Str → Option Value) (base : Heap) (k : Nat) (f : Addr) (n : Nat) (ks : List Str) (ixs : List Nat) (dds : List D) (sp : DSp) : Prop :=
  ∃ fd ps dus dvs, DFnG P w K mg base k f fd ps sp ∧ KB K fd ps n ks ixs dvs dus ∧ constL dds = some dvs
theorem Pk.mono {P : Program} {w : World} {K : PySem.W.Frag} {mg : Str → Option Value} {base : Heap} {j k n : Nat} {f : Addr} {ks : List Str} {ixs : List Nat} {dds : List D} {sp : DSp} (c : Pk P w K mg base j f n ks ixs dds sp) (h : j ≤ k) : Pk P w K mg base k f n ks ixs dds sp :=
  let ⟨fd, ps, dus, dvs, F, r⟩ := c; ⟨fd, ps, dus, dvs, F.mono h, r⟩
def noW : DWX := fun _ _ _ _ _ => False
section
variable {X : Cx} {O : Org} {k j n : Nat} {f C : Addr} {ks : List Str} {ixs : List Nat} {dds : List D} {sp : DSp} {pins : List (Addr × Obj)} {σ : L2.St} {H : Hp} {s : Shared} {us ws : List Value} {vs zs : List V} {ds es : List D} {M : DHp} {Q : VK} {Q' : DVK} {W : DWX} {τ : DSt}
theorem takes_no : L2N.Takes X (liftW X.K O noW) := fun e s' h => by
  obtain ⟨_, _, _, _, _, _, _, _, _, _, _, _, _, _, _, _, z⟩ := h
  obtain ⟨_, _, _, _, _, _, _, _, z⟩ := z
  exact z.elim
/-- it runs -/
theorem run_pk {A : Around} (c : Pk X.prog X.w X.K X.mg X.base k f n ks ixs dds sp) (hG : A.guards = some []) (hr : Room k A) (hE : ∀ {H : Hp} {s : Shared}, Env0 X.prog X.w X.K X.mg X.base X.A X.stack s H → Env0 X.prog X.w X.K X.mg X.base A X.stack s H) (tk : L2N.Takes X (liftW X.K O W))
    (I : Inv X pins σ H s) (b : Beg X.K O H M τ σ) (rv : Vals vs us) (rz : Vals zs ws) (l1 : us.length = n) (l2 : ws.length = ks.length) (hd : HasL X.K H M ds vs) (he : HasL X.K H M es zs) (q : sp (pickL ixs (ds ++ es ++ dds)) M Q' (fun C ns es M2 => W C ns es τ M2)) (P : Post X.K H M Q' Q) :
    codeAny (model X.prog X.w) A (.call (.ref f) ⟨us, ks.zip ws⟩) (fun r s' => match r with | .ok (.ret u) => EP X pins σ Q u s' | .ok _ => False | .error e => X.xe e s') s := by
  obtain ⟨fd, ps, dus, dvs, F, kb, hc⟩ := c
  have r2 := kb.rel rv rz
  have hh : HasL X.K H M (pickL ixs (ds ++ es ++ dds)) (pickL ixs (vs ++ zs ++ dvs)) := pick_has ((hd.app he).app (constL_has hc)) ixs
  refine codeAny_mono (F.run A X.stack s H ⟨us, ks.zip ws⟩ _ _ Q (WE (liftW X.K O W) σ) hG hr (hE I.env0) (kb.to s us ws I.kIn l1 l2) r2 ⟨_, M, Q', _, b.h, hh, q, P, fun C ns es M2 d H2 y f2 a2 xd => ⟨C, ns, es, τ, M2, rfl, b.step f2 a2, xd, y⟩⟩) fun r s' z => ?_
  match r, z with
  | .error ex, z => exact L2N.passAt tk σ pins H s ex s' I z
  | .ok (.ret u), z => exact I.after z
/-! ### the arguments of a call -/
/-- values and keywords of a call that stands at pos -/
structure AK (X : Cx) (pos : Pos) (es : List Expr) (kws : List Keyword) (ks : List Str) (t tk : TA) : Prop where
  run : ∀ (pins : List (Addr × Obj)) (s : Shared) (σ : L2.St) (H : Hp) (Q : List V → List V → Hp → Prop) (f : Value), Inv X pins σ H s → t σ H (fun vs H1 => tk σ H1 fun zs H2 => Q vs zs H2) →
    wpAny (model X.prog X.w) X.A (evalArgs f true (backTo pos (starEach es X.env)) (backToKw pos (keywordEach kws X.env))) (fun a s' => ∃ vs zs us ws H', Inv X pins σ H' s' ∧ Vals vs us ∧ Vals zs ws ∧ a = ⟨us, ks.zip ws⟩ ∧ Q vs zs H') X.xe s
  plain : ((backTo pos (starEach es X.env)).any (·.1) || (backToKw pos (keywordEach kws X.env)).any (·.1.isNone)) = false
abbrev DKs (X : Cx) (O : Org) (kws : List Keyword) (ts : List DTE) : Prop := PK X kws (tArgs X.K O ts)
theorem dks_nil : DKs X O [] [] := pk_nil
theorem dks_cons {e : Expr} {t : DTE} {kws : List Keyword} {ts : List DTE} {nm : Option Str} {kpos : Pos} (h : DE X O e t) (r : DKs X O kws ts) : DKs X O (⟨nm, e, kpos⟩ :: kws) (t :: ts) := pk_cons h r
abbrev DAK (X : Cx) (O : Org) (pos : Pos) (es : List Expr) (kws : List Keyword) (ks : List Str) (ts tks : List DTE) : Prop := AK X pos es kws ks (tArgs X.K O ts) (tArgs X.K O tks)
theorem dak0 {pos : Pos} {kws : List Keyword} {tks : List DTE} (hk : DKs X O kws tks) (hall : (backToKw pos (keywordEach kws X.env)).all (·.1.isSome) = true := by rfl) (hks : (backToKw pos (keywordEach kws X.env)).filterMap (·.1) = ks := by rfl)
    (hpl : ((backTo pos (starEach [] X.env)).any (·.1) || (backToKw pos (keywordEach kws X.env)).any (·.1.isNone)) = false := by rfl) : DAK X O pos [] kws ks [] tks := by
  refine ⟨fun pins s σ H Q f I h => evalArgs_kw2_nil hall (thn (hk.run pos pins s σ H _ I h) fun ws s2 ⟨zs, H2, I2, rz, q2⟩ => ?_), hpl⟩
  rw [hks]
  exact ⟨[], zs, [], ws, H2, I2, .nil, rz, rfl, q2⟩
theorem dak {pos : Pos} {e : Expr} {es : List Expr} {kws : List Keyword} {ts tks : List DTE} (ha : DAs X O (e :: es) ts) (hk : DKs X O kws tks) (hall : (backToKw pos (keywordEach kws X.env)).all (·.1.isSome) = true := by rfl) (hks : (backToKw pos (keywordEach kws X.env)).filterMap (·.1) = ks := by rfl)
    (hpl : ((backTo pos (starEach (e :: es) X.env)).any (·.1) || (backToKw pos (keywordEach kws X.env)).any (·.1.isNone)) = false := by rfl) (hst : starEach (e :: es) X.env = (false, eval e X.env) :: starEach es X.env := by rfl) : DAK X O pos (e :: es) kws ks ts tks := by
  refine ⟨fun pins s σ H Q f I h => ?_, hpl⟩
  refine evalArgs_kw2 hall (thn (ha.run pos pins s σ H _ I h) fun us s1 ⟨vs, H1, I1, rv, q1⟩ => thn (hk.run pos pins s1 σ H1 _ I1 q1) fun ws s2 ⟨zs, H2, I2, rz, q2⟩ => ?_) hst
  rw [hks]
  exact ⟨vs, zs, us, ws, H2, I2, rv, rz, rfl, q2⟩
/-- both lists of arguments, over data -/
def dBoth (ts tks : List DTE) (τ : DSt) (M : DHp) (Q : List D → List D → DHp → Prop) : Prop := dArgs ts τ M fun ds M1 => dArgs tks τ M1 fun es M2 => Q ds es M2
theorem both_run {pos : Pos} {es' : List Expr} {kws : List Keyword} {ts tks : List DTE} {Q2 : List D → List D → DHp → Prop} {F : Args → Shared → Prop} {fv : Value} (ha : DAK X O pos es' kws ks ts tks) (I : Inv X pins σ H s) (b : Beg X.K O H M τ σ) (t : dBoth ts tks τ M Q2)
    (k : ∀ ds es M' vs zs us ws H' s', Q2 ds es M' → ds.length = ts.length → es.length = tks.length → Fr H M H' M' → AbH X.K H' M' → HasL X.K H' M' ds vs → HasL X.K H' M' es zs → Inv X pins σ H' s' → Vals vs us → Vals zs ws → F ⟨us, ks.zip ws⟩ s') :
    wpAny (model X.prog X.w) X.A (evalArgs fv true (backTo pos (starEach es' X.env)) (backToKw pos (keywordEach kws X.env))) F X.xe s := by
  refine thn (ha.run pins s σ H (fun vs zs H' => ∃ ds es M', Q2 ds es M' ∧ ds.length = ts.length ∧ es.length = tks.length ∧ Fr H M H' M' ∧ AbH X.K H' M' ∧ HasL X.K H' M' ds vs ∧ HasL X.K H' M' es zs) fv I ?_) fun a s' ⟨vs, zs, us, ws, H', I', rv, rz, ea, ds, es, M', q, l1, l2, f, aa, h1, h2⟩ => ?_
  · exact args_lift b t fun ds M1 vs H1 q l f a h => args_lift (b.step f a) q fun es M2 zs H2 q2 l2 f2 a2 h2 => ⟨ds, es, M2, q2, l, l2, f.trans f2, a2, h.fr f2, h2⟩
  · rw [ea]
    exact k ds es M' vs zs us ws H' s' q l1 l2 f aa h1 h2 I' rv rz
/-! ### a def of the module -/
def dOwn (ixs : List Nat) (dds : List D) (sp : DSp) (W : DWX) (ts tks : List DTE) : DTE := fun τ M Q => dBoth ts tks τ M fun ds es M2 => sp (pickL ixs (ds ++ es ++ dds)) M2 Q (fun C ns es M' => W C ns es τ M')
theorem de_own {x : Str} {p pos : Pos} {es' : List Expr} {kws : List Keyword} {ts tks : List DTE} (hm : X.mg x = some (.ref f)) (hkp : PySem.W.keepIn X.K (.ref f) = true) (c : Pk X.prog X.w X.K X.mg X.base j f n ks ixs dds sp) (hG : X.A.guards = some []) (hr : Room k X.A) (hj : j ≤ k) (hg : Gl X x) (tk : L2N.Takes X (liftW X.K O W)) (ha : DAK X O pos es' kws ks ts tks)
    (hn : ts.length = n := by rfl) (hn2 : tks.length = ks.length := by rfl) (hdb : (x == ("__debug__" : Str)) = false := by decide) : DE X O (.Call (.Name x p) es' kws pos) (dOwn ixs dds sp W ts tks) := ⟨fun pins s σ H Q I h => by
  obtain ⟨τ, M, Q', b, t, P⟩ := h
  refine wpAny_Call_Name_kw (ld_glob I hg hm ?_ hdb)
  refine PySem.W.callWith_of (P := X.K.In) ha.plain (PySem.W.keeps_K hkp) (both_run ha I b t fun ds es M' vs zs us ws H' s' q l1 l2 f' a' h1 h2 I' rv rz => ⟨I'.kIn, ?_⟩)
  exact wpAny_call (run_pk (c.mono hj) hG hr (fun e => e) tk I' (b.step f' a') rv rz (rv.length.symm.trans (h1.len.trans (l1.trans hn))) (rz.length.symm.trans (h2.len.trans (l2.trans hn2))) h1 h2 q (P.tr f'))⟩
/-! ### a class of the module -/
def dMk (fz : Bool) (C : Addr) (ixs : List Nat) (dds : List D) (sp : DSp) (W : DWX) (ts tks : List DTE) : DTE := fun τ M Q => dBoth ts tks τ M fun ds es M1 => ∀ x, M1 x = none → sp (pickL ixs (.ref x :: ds ++ es ++ dds)) (up M1 x (.ins C [] [])) (fun v M2 => v = .non ∧ match fz with
  | false => Q (.ref x) M2
  | true => ∃ M3 ns es, Sub (up M3 x (.ins C ns es)) M2 ∧ M3 x = none ∧ Q (.obj C ns es) M3) (fun C' ns es' M2 => ∃ M3, Sub M3 M2 ∧ W C' ns es' τ M3)
theorem run_mk {fz : Bool} (Mk_ : Mk X.K C f) (c : Pk X.prog X.w X.K X.mg X.base k f (n + 1) ks ixs dds sp) (hG : X.A.guards = some []) (hr : Room (k + 1) X.A) (tk : L2N.Takes X (liftW X.K O W)) (I : Inv X pins σ H s) (b : Beg X.K O H M τ σ) (rv : Vals vs us) (rz : Vals zs ws) (l1 : us.length = n) (l2 : ws.length = ks.length)
    (hd : HasL X.K H M ds vs) (he : HasL X.K H M es zs) (P : Post X.K H M Q' Q) (q : ∀ x, M x = none → sp (pickL ixs (.ref x :: ds ++ es ++ dds)) (up M x (.ins C [] [])) (fun v M2 => v = .non ∧ match fz with
      | false => Q' (.ref x) M2
      | true => ∃ M3 ns es, Sub (up M3 x (.ins C ns es)) M2 ∧ M3 x = none ∧ Q' (.obj C ns es) M3) (fun C' ns es' M2 => ∃ M3, Sub M3 M2 ∧ W C' ns es' τ M3)) :
    wpAny (model X.prog X.w) X.A (call (.ref C) us (ks.zip ws)) (EP X pins σ Q) X.xe s := by
  have n1 : H (s.heap.objs.size + 1) = none := I.hok.fresh (Nat.le_succ _)
  have n0 : H s.heap.objs.size = none := I.hok.fresh (Nat.le_refl _)
  have ne : s.heap.objs.size ≠ s.heap.objs.size + 1 := Nat.ne_of_lt (Nat.lt_succ_self _)
  have I2 := Inv.made (C := C) I
  have nd : (upd H s.heap.objs.size (.own (s.heap.objs.size + 1))) (s.heap.objs.size + 1) = none := by rw [upd_ne (Ne.symm ne)]; exact n1
  have f2 : Fr H M (upd (upd H s.heap.objs.size (.own (s.heap.objs.size + 1))) (s.heap.objs.size + 1) (.ins C s.heap.objs.size [])) (up M (s.heap.objs.size + 1) (.ins C [] [])) := (Fr.new n0).trans (Fr.newT nd)
  have a2 : AbH X.K (upd (upd H s.heap.objs.size (.own (s.heap.objs.size + 1))) (s.heap.objs.size + 1) (.ins C s.heap.objs.size [])) (up M (s.heap.objs.size + 1) (.ins C [] [])) := (b.h.new n0).newT nd ⟨s.heap.objs.size, [], upd_same, rfl, rfl⟩
  have hx : HasL X.K _ _ (D.ref (s.heap.objs.size + 1) :: ds) (V.ref (s.heap.objs.size + 1) :: vs) := HasL.cons (show Has X.K _ (up M (s.heap.objs.size + 1) (.ins C [] [])) (.ref _) (.ref _) from rfl) (hd.fr f2)
  refine wpAny_call (make_map (f := f) I.kIn Mk_.makes Mk_.init (beq_iff_eq.mp Mk_.fn) ?_)
  refine codeAny_mono (run_pk (vs := V.ref (s.heap.objs.size + 1) :: vs) (Q := fun v H3 => v = .non ∧ Q (.ref (s.heap.objs.size + 1)) H3) (W := fun C' ns es' τ M2 => ∃ M3, Sub M3 M2 ∧ W C' ns es' τ M3) (τ := τ) c hG (hr.make C us (ks.zip ws)) (fun e => e.make C us (ks.zip ws)) ?_ I2 (b.step f2 a2) (.cons rfl rv) rz (by rw [List.length_cons, l1]) l2 hx (he.fr f2) (q _ (b.h.fresh n1)) ?_) fun r s' z => ?_
  · refine tk.imp fun cls d σ H1 ⟨C', ns, es', τ', M1, e1, b1, x1, M3, z, w1⟩ => ⟨C', ns, es', τ', M3, e1, ⟨b1.fr.less z, b1.s.less z, b1.h.less z⟩, x1.fr ((Fr.refl H1 M1).less z), w1⟩
  · intro d M3 v H3 q3 f3 a3 h3
    obtain ⟨rfl, q3⟩ := q3
    refine ⟨h3, ?_⟩
    cases fz with
    | false => exact P _ M3 _ H3 q3 (f2.trans f3) a3 rfl
    | true =>
      obtain ⟨M4, ns, es, z1, z2, z3⟩ := q3
      obtain ⟨dx', ws, e1, le1, r1⟩ := a3 _ _ (z1 _ _ up_same)
      have s4 : Sub M4 M3 := Sub.trans ((Sub.refl M4).up z2) z1
      exact P _ M4 _ H3 z3 ((f2.trans f3).less s4) (a3.less s4) ⟨_, dx', ws, rfl, z2, e1, le1, r1.fr ((Fr.refl H3 M3).less s4)⟩
  · match r, z with
    | .error ex, z => exact z
    | .ok (.ret u), z =>
      obtain ⟨v, H', I3, rv3, ev, q3⟩ := z
      subst ev
      exact ⟨rv3, ⟨V.ref (s.heap.objs.size + 1), H', I3, rfl, q3⟩⟩
theorem de_mk {x : Str} {p pos : Pos} {es' : List Expr} {kws : List Keyword} {ts tks : List DTE} (fz : Bool) (Mk_ : Mk X.K C f) (hm : X.mg x = some (.ref C)) (c : Pk X.prog X.w X.K X.mg X.base j f (n + 1) ks ixs dds sp) (hG : X.A.guards = some []) (hr : Room k X.A) (hj : j + 1 ≤ k) (hg : Gl X x) (tk : L2N.Takes X (liftW X.K O W)) (ha : DAK X O pos es' kws ks ts tks)
    (hn : ts.length = n := by rfl) (hn2 : tks.length = ks.length := by rfl) (hdb : (x == ("__debug__" : Str)) = false := by decide) : DE X O (.Call (.Name x p) es' kws pos) (dMk fz C ixs dds sp W ts tks) := ⟨fun pins s σ H Q I h => by
  obtain ⟨τ, M, Q', b, t, P⟩ := h
  refine wpAny_Call_Name_kw (ld_glob I hg hm ?_ hdb)
  refine PySem.W.callWith_of (P := X.K.In) ha.plain (PySem.W.keeps_K Mk_.kp) (both_run ha I b t fun ds es M' vs zs us ws H' s' q l1 l2 f' a' h1 h2 I' rv rz => ⟨I'.kIn, ?_⟩)
  exact run_mk (fz := fz) Mk_ c hG (hr.mono hj) tk I' (b.step f' a') rv rz (rv.length.symm.trans (h1.len.trans (l1.trans hn))) (rz.length.symm.trans (h2.len.trans (l2.trans hn2))) h1 h2 (P.tr f') q⟩
end
end Rh
/-! DL15: methods, classmethods, properties; len, str, bool of own objects, over data. -/
namespace Rh
open PySem PySem.Spec PyProof.Rows L2

section
variable {X : Cx} {O : Org} {k j n : Nat} {f C : Addr} {ks : List Str} {ixs : List Nat} {dds : List D} {sp : DSp} {W : DWX}
/-! ### methods -/
/-! ### classmethods -/
/-! ### properties -/
def PrOk (P : Program) (w : World) (K : PySem.W.Frag) (mg : Str → Option Value) (base : Heap) (k : Nat) (m : Str) (S : Addr → Option DSp) : Prop := ∀ C sp, S C = some sp → Cls K C ∧ ∃ p g, PropOf K C m p g ∧ Pk P w K mg base k g 1 [] [0] [] sp
def dPr (S : Addr → Option DSp) (to : DTE) : DTE := fun τ M Q => to τ M fun x M1 => wth (insOf x M1) fun c => wth (S c.1) fun sp => sp [x] M1 Q noX
theorem de_pr {m : Str} {S : Addr → Option DSp} {e : Expr} {te : DTE} {pos : Pos} (he : DE X O e te) (hS : PrOk X.prog X.w X.K X.mg X.base j m S) (hG : X.A.guards = some []) (hr : Room k X.A) (hj : j + 1 ≤ k) (hab : attributeBase e m X.env (eval e X.env) = eval e X.env := by rfl) : DE X O (.Attribute e m pos) (dPr S te) := ⟨fun pins s σ H Q I h => by
  obtain ⟨τ, M, Q', b, t, P⟩ := h
  refine attr_of hab (thn (he.run pins s σ H (fun v H1 => ∃ x M1, Fr H M H1 M1 ∧ AbH X.K H1 M1 ∧ Has X.K H1 M1 x v ∧ wth (insOf x M1) fun c => wth (S c.1) fun sp => sp [x] M1 Q' noX) I ⟨τ, M, _, b, t, fun x M1 v H1 q f a hx => ⟨x, M1, f, a, hx, q⟩⟩) fun u s1 ⟨v, H1, I1, rx, x, M1, f1, a1, hx, q⟩ => ?_)
  obtain ⟨⟨C, ns, dd⟩, e1, q⟩ := wth_of q
  obtain ⟨sp, e2, q⟩ := wth_of q
  obtain ⟨ad, dx, vs0, rfl, e3, l0, r0⟩ := insOf_at a1 hx e1
  obtain rfl : u = Value.ref ad := rx
  obtain ⟨c, p, g, hp, pk⟩ := hS C sp e2
  obtain ⟨ox, od, J⟩ := ins_at I1 e3
  obtain ⟨rest, hrec⟩ := hp.rec_
  have I2 := I1.tok (s1.toks + 1)
  have hc : (PySem.W.clsIn X.K C).isSome = true := by
    obtain ⟨cd, hc, _⟩ := PySem.W.any_some c.hd
    rw [hc] <;> rfl
  refine PySem.W.get_bind I1.kIn J (PySem.W.plainGet_of (c.get m)).1 (PySem.W.findObj_data hc hp.at_ hp.get hp.tak) (PySem.W.plainGet_of (c.get m)).2 (wpAny_call (PySem.W.prop_get (s := { s1 with toks := s1.toks + 1 }) I1.kIn hrec ?_))
  refine codeAny_mono (run_pk (X := X.nox) (A := X.A.in1) (W := noW) (us := [Value.ref ad]) (vs := [V.ref ad]) (ws := []) (zs := []) (ks := []) (ds := [x]) (es := []) (τ := τ) (pk.mono (Nat.le_refl j)) hG ((hr.mono hj).in1 (k := j)) (fun e => e.in1) takes_no (I2.wish _) (b.step f1 a1) (.cons rfl .nil) .nil rfl rfl (HasL.one hx) HasL.nil q (P.tr f1)) fun r s' z => ?_
  match r, z with
  | .error ex, z => exact False.elim z
  | .ok (.ret u), z =>
    obtain ⟨v, H', I3, rv, q3⟩ := z
    have I3 : Inv X pins σ H' s' := I3.wish X.xe
    show wpAny _ _ (handedOut u) _ _ _
    rw [PySem.W.handedOut_of (handed_of rv)]
    exact wpAny_pure ⟨v, H', I3, rv, q3⟩⟩
/-! ### len, str, bool -/
def DnOk (P : Program) (w : World) (K : PySem.W.Frag) (mg : Str → Option Value) (base : Heap) (k : Nat) (m : Str) (S : Addr → Option DSp) : Prop := ∀ C sp, S C = some sp → Dun P w K mg base k C m (liftSp K sp)
def liftTab (K : PySem.W.Frag) (S : Addr → Option DSp) : Addr → Option Sp := fun C => (S C).map (liftSp K)
theorem DnOk.up {m : Str} {S : Addr → Option DSp} (h : DnOk X.prog X.w X.K X.mg X.base k m S) : ∀ C sp, liftTab X.K S C = some sp → Dun X.prog X.w X.K X.mg X.base k C m sp := fun C sp e => by
  unfold liftTab at e
  cases q : S C with
  | none => rw [q] at e; cases e
  | some s0 =>
    rw [q] at e
    cases e
    exact h C s0 q
end
end Rh
/-! DL16: the head's facts: Bools of the written part, defs wherever they stand. -/
namespace Rh
open PySem PySem.Spec PyProof.Rows L2

/-! ### the Hook -/
abbrev FB := PySem.W.Frag → Bool
abbrev AlR : Type := He.AlD × Bool
structure SaysR (ex : List FB) (fn : List He5.DefA) (K : PySem.W.Frag) : Prop where
  d : He5.SaysA [] fn K
  more : ex.all (fun b => b K) = true
section
variable {ex : List FB} {fn : List He5.DefA} {K : PySem.W.Frag}
theorem SaysR.fact (c : SaysR ex fn K) (i : Nat) {b : FB} (h : ex[i]? = some b := by rfl) : b K = true := List.all_eq_true.mp c.more b (List.mem_of_getElem? h)
theorem SaysR.def_ (c : SaysR ex fn K) (i : Nat) {d : He5.DefA} (h : fn[i]? = some d := by rfl) : ∃ fd, FunD K d.name d.qual d.params d.body d.scope (d.dvs K) (d.kws K) (d.at_ K) fd := c.d.def_ i h
end
/-! ### facts -/
def bF (f : He.Fa) : FB := fun K => f.ok K
/-- C's property m -/
def bPr (C m : Str) : FB := fun K => He.eqO (PySem.W.findIn K (.ref (He.ga K C)) m) (some (some (.ref (He.ma K (He.ga K C) m)))) && (He.eqO (PySem.W.specialIn K (.ref (He.ma K (He.ga K C) m)) "__get__") (some (some (.builtin "property.__get__"))) && (decide (PySem.W.takesIn K (.ref (He.ma K (He.ga K C) m)) = some true) && match PySem.W.recIn K (He.ma K (He.ga K C) m) "property" with
  | some (.ref _ :: _) => true
  | _ => false))
/-- what an own class must have for isinstance -/
def bOwn (C : Str) : FB := fun K => He.eqO (PySem.W.findIn K (.ref (He.ga K C)) "__class__") (some (some (.builtin "object.__class__"))) && (He.eqO (PySem.W.specialIn K (.builtin "object.__class__") "__get__") (some (some (.builtin "getset_descriptor.__get__"))) && (decide (PySem.W.takesIn K (.builtin "object.__class__") = some true) && decide (PySem.W.mroIn K (He.ga K C) (.type "object") = some true)))
/-- an instance of a is one of c -/
def bKit (a c : PySem.W.Frag → Value) (b : Bool) : FB := fun K => decide (PySem.W.kitOne K (a K) (c K) = some b)
section
variable {K : PySem.W.Frag} {C m : Str}
theorem bPr_ok (h : bPr C m K = true) : PropOf K (He.ga K C) m (He.ma K (He.ga K C) m) (He5.wf K (He.ga K C) "property" m) := by
  obtain ⟨h1, h⟩ := He.ba h
  obtain ⟨h2, h⟩ := He.ba h
  obtain ⟨h3, h4⟩ := He.ba h
  refine ⟨He.eqO_ok h1, He.eqO_ok h2, of_decide_eq_true h3, ?_⟩
  clear h1 h2 h3
  unfold He5.wf
  split at h4
  · rename_i f r e
    exact ⟨r, by rw [e]⟩
  · cases h4
theorem bOwn_ok (h : bOwn C K = true) (c : Cls K (He.ga K C)) : OwnC K (He.ga K C) := by
  obtain ⟨h1, h⟩ := He.ba h
  obtain ⟨h2, h⟩ := He.ba h
  obtain ⟨h3, h4⟩ := He.ba h
  exact ⟨c, He.eqO_ok h1, He.eqO_ok h2, of_decide_eq_true h3, of_decide_eq_true h4⟩
theorem bKit_ok {a c : PySem.W.Frag → Value} {b : Bool} (h : bKit a c b K = true) : PySem.W.kitOne K (a K) (c K) = some b := of_decide_eq_true h
end
end Rh
/-! DL17: packages of callees, tables, what the printed texts use. -/
namespace Rh
open PySem PySem.Spec PyProof.Rows L2

/-- the own classes' objects -/
structure CT where
  Heaps : Addr
  Yard : Addr
  Book : Addr
  WrongValue : Addr
  WrongName : Addr
  NoAnswer : Addr
  InvalidText : Addr
  InvalidKinds : Addr
  NotHeaps : Addr
  InvalidNumber : Addr
  InvalidTable : Addr
  InvalidRow : Addr
  InvalidHighs : Addr
  InvalidDepths : Addr
  NoPlan : Addr
  Run : Addr
  Mark : Addr
  Trial : Addr
  Attempt : Addr
  InvalidName : Addr
  InvalidWish : Addr
  InvalidIndex : Addr
  UnknownName : Addr
  TooFew : Addr
  NothingToUndo : Addr
  Broken : Addr
  other : Str → Addr
  lamd : Nat → LamDesc
/-- a table of one class -/
def tab1 {α : Type} (C : Addr) (x : α) : Addr → Option α := fun a => if a = C then some x else none
theorem tab1_self {α : Type} (C : Addr) (x : α) : tab1 C x C = some x := by unfold tab1; exact if_pos rfl
theorem tab1_of {α : Type} {C D : Addr} {x y : α} (h : tab1 C x D = some y) : D = C ∧ y = x := by
  unfold tab1 at h
  split at h
  · rename_i e; cases h; exact ⟨e, rfl⟩
  · cases h
section
variable (P : Program) (w : World) (K : PySem.W.Frag) (mg : Str → Option Value) (base : Heap)
def OwnP (j : Nat) (x : Str) (n : Nat) (ks : List Str) (ixs : List Nat) (dds : List D) (sp : DSp) : Prop := ∃ f, mg x = some (.ref f) ∧ PySem.W.keepIn K (.ref f) = true ∧ Pk P w K mg base j f n ks ixs dds sp
def MkP (j : Nat) (C : Addr) (n : Nat) (ks : List Str) (ixs : List Nat) (dds : List D) (sp : DSp) : Prop := ∃ f, Mk K C f ∧ Pk P w K mg base j f (n + 1) ks ixs dds sp
end
section
variable {P : Program} {w : World} {K : PySem.W.Frag} {mg : Str → Option Value} {base : Heap} {j n : Nat} {f C : Addr} {fd : FuncData} {ps ks : List Str} {ixs : List Nat} {sp : DSp} {m x : Str}
theorem pk_of (F : DFnG P w K mg base j f fd ps sp) (b : KB K fd ps n ks ixs [] []) : Pk P w K mg base j f n ks ixs [] sp := ⟨fd, ps, [], [], F, b, rfl⟩
theorem pr_of {p : Addr} (c : Cls K C) (h : PropOf K C m p f) (b : Pk P w K mg base j f 1 [] [0] [] sp) : PrOk P w K mg base j m (tab1 C sp) := fun D z e => by
  obtain ⟨rfl, rfl⟩ := tab1_of e
  exact ⟨c, p, f, h, b⟩
end
section
variable {X : Cx} {O : Org} {k j n : Nat} {C : Addr} {ks : List Str} {ixs : List Nat} {dds : List D} {sp : DSp} {W : DWX} {x m : Str} {p pos apos : Pos} {es' : List Expr} {kws : List Keyword} {ts tks : List DTE} {o : Expr} {to : DTE}
theorem de_ownP (c : OwnP X.prog X.w X.K X.mg X.base j x n ks ixs dds sp) (hG : X.A.guards = some []) (hr : Room k X.A) (hj : j ≤ k) (hg : Gl X x) (tk : L2N.Takes X (liftW X.K O W)) (ha : DAK X O pos es' kws ks ts tks)
    (hn : ts.length = n := by rfl) (hn2 : tks.length = ks.length := by rfl) (hdb : (x == ("__debug__" : Str)) = false := by decide) : DE X O (.Call (.Name x p) es' kws pos) (dOwn ixs dds sp W ts tks) :=
  let ⟨_, h1, h2, h3⟩ := c; de_own h1 h2 h3 hG hr hj hg tk ha hn hn2 hdb
theorem de_mkP (fz : Bool) (c : MkP X.prog X.w X.K X.mg X.base j C n ks ixs dds sp) (hm : X.mg x = some (.ref C)) (hG : X.A.guards = some []) (hr : Room k X.A) (hj : j + 1 ≤ k) (hg : Gl X x) (tk : L2N.Takes X (liftW X.K O W)) (ha : DAK X O pos es' kws ks ts tks)
    (hn : ts.length = n := by rfl) (hn2 : tks.length = ks.length := by rfl) (hdb : (x == ("__debug__" : Str)) = false := by decide) : DE X O (.Call (.Name x p) es' kws pos) (dMk fz C ixs dds sp W ts tks) :=
  let ⟨_, h1, h2⟩ := c; de_mk fz h1 hm h2 hG hr hj hg tk ha hn hn2 hdb
end
end Rh
/-! DL18: texts that are walked; short names that the printed texts use. -/
namespace Rh
open PySem PySem.Spec PyProof.Rows L2

def signs (y : Str) : List D := y.cps.toList.map fun c => D.str ⟨#[c]⟩
section
variable {X : Cx} {O : Org} {tg e : Expr} {te : DTE}
end
/-- len of what is no own object -/
def rLen0D : DR := rOne fun d M Q => wth (lenD d M) fun n => Q (.int n) M
/-- the own classes whose objects may be asked what they are -/
def kno (c : CT) : Addr → Prop := fun C => C = c.Heaps
end Rh
/-! DL19: == of own objects. -/
namespace Rh
open PySem PySem.Spec PyProof.Rows L2

section
variable {X : Cx} {k j : Nat}
end
end Rh
/-! DL20: dicts whose keys are ints or texts. -/
namespace Rh
open PySem PySem.Spec PyProof.Rows L2

/-! ### tables -/
/-- the keys and the data of a dict -/
def dkOf (x : D) (M : DHp) : Option (List Key × List D) := match x with
  | .dic ks ds => some (ks, ds)
  | .ref a => (match M a with
    | some (.dK ks ds) => some (ks, ds)
    | _ => none)
  | _ => none
theorem dkOf_at {K : PySem.W.Frag} {H : Hp} {M : DHp} {x : D} {v : V} {ks : List Key} {ds : List D} (A : AbH K H M) (h : Has K H M x v) (e : dkOf x M = some (ks, ds)) : ∃ a vs, v = .ref a ∧ H a = some (.dK (ks.zip vs)) ∧ ks.length = ds.length ∧ HasL K H M ds vs := by
  cases x with
  | dic ks' ds' =>
    cases e
    obtain ⟨a, vs, e1, _, e2, l, r⟩ := h
    exact ⟨a, vs, e1, e2, l, r⟩
  | ref a =>
    cases q : M a with
    | none => simp only [dkOf, q] at e; cases e
    | some o =>
      cases o with
      | dK ks' ds' =>
        simp only [dkOf, q] at e
        cases e
        obtain ⟨vs, e2, l, r⟩ := A a _ q
        exact ⟨a, vs, h, e2, l, r⟩
      | _ => simp only [dkOf, q] at e; cases e
  | _ => cases e
section
variable {X : Cx} {O : Org} {pos pos' apos cpos : Pos} {o i e f value : Expr} {to ti te tf tv : DTE} {k : Nat}
/-- {} -/
def dDnew : DTE := fun _ M Q => ∀ p, M p = none → Q (.ref p) (up M p (.dK [] []))
theorem de_dnew : DE X O (.Dict [] [] pos) dDnew := PE.wk pe_dnewK fun σ H Q ⟨τ, M, Q', b, t, P⟩ p np =>
  P _ _ _ _ (t p (b.h.fresh np)) (Fr.newT np) (b.h.newT np ⟨[], upd_same, rfl, rfl⟩) rfl
end
end Rh
/-! DL20S: sorted of pairs, of a dict, of its items; dict of pairs; list of a dict's items. -/
namespace Rh
open PySem PySem.Spec PyProof.Rows L2

section
variable {X : Cx}
/-! ### dict(x) of pairs -/
/-! ### the items of a dict, laid as tuples -/
def uOf (h : Heap) (a : Addr) : List Value := match h.get? a with
  | some o => (match o.data with | .seq xs _ => xs.toList | _ => [])
  | none => []
def putF (h : Heap) (H : Hp) (as : List Addr) (kvs : List (Key × V)) : Hp := fun b => match (as.zip kvs).lookup b with
  | some q => some (frT (uOf h b) [kV q.1, q.2])
  | none => H b
variable {e : Expr} {te : TE} {p apos cpos pos : Pos}
/-! ### the view d.items() -/
end
end Rh
/-! DL20T: a dict's items walked into one name. -/
namespace Rh
open PySem PySem.Calls PySem.Spec PyProof.Rows PyProof.V L2 PySem.W

section
variable {prog : Program} {w : World} {K : Type} [DecidableEq K] {knd : KeyKind prog w K} {A : Around} {E : Value → Shared → Prop} {s : Shared}
end
section
variable {X : Cx} {e : Expr} {td : TE} {apos cpos py : Pos} {y : Str}
end
end Rh
/-! DL21: sorted, list of a dict, op= of names, zip. -/
namespace Rh
open PySem PySem.Spec PyProof.Rows L2

/-! ### sorted -/
section
variable {X : Cx} {O : Org} {pos p kpos : Pos} {e tg : Expr} {te : DTE} {k : Nat}
/-! ### list(d) -/
def kD0 : Key → D
  | .inl i => .int i
  | .inr x => .str x
theorem kD0_has {K : PySem.W.Frag} {H : Hp} {M : DHp} (k : Key) : Has K H M (kD0 k) (kV k) := by cases k <;> rfl
theorem keys_has {K : PySem.W.Frag} {H : Hp} {M : DHp} : ∀ {ks : List Key} {vs : List V}, ks.length = vs.length → HasL K H M (ks.map kD0) ((ks.zip vs).map fun kv => kV kv.1)
  | [], [], _ => rfl
  | [], _ :: _, l => by cases l
  | _ :: _, [], l => by cases l
  | k :: ks, v :: vs, l => HasL.cons (kD0_has k) (keys_has (Nat.succ.inj l))
def rListA (K : PySem.W.Frag) : R1 := fun xs H Q => (∃ (a : Addr) (kvs : List (Key × V)), xs = [.ref a] ∧ Rd H a (.dK kvs) ∧ ∀ p, H p = none → Q (.ref p) (upd H p (.lst (kvs.map fun kv => kV kv.1)))) ∨
  (∃ p ys, xs = [.ref p] ∧ (SqL K H p ys ∨ SqT K H p ys) ∧ ∀ l, H l = none → Q (.ref l) (upd H l (.lst ys)))
theorem call_listA (hc : X.calm = true) : CallR X (.type "list") (rListA X.K) := CallR.or (call_listD hc) call_list_of
def rListDD (mu : Bool) : DR := rOne fun d M Q => match dkOf d M with
  | some kd => dNew mu (kd.1.map kD0) M Q
  | none => wth (seqOf d M) fun ds => dNew mu ds M Q
theorem ref_listA {K : PySem.W.Frag} {mu : Bool} : RefL K (rListA K) (rListDD mu) := ref_one fun H M x d Q Q' A hx t P => by
  cases e : dkOf d M with
  | some kd =>
    rw [e] at t
    obtain ⟨a, vs, rfl, h1, lk, r⟩ := dkOf_at (ks := kd.1) (ds := kd.2) A hx e
    exact .inl ⟨a, _, rfl, .inl h1, fun p np => new_list A (keys_has (by rw [lk, r.len])) t P np⟩
  | none =>
    rw [e] at t
    exact .inr (ref_list (mu := mu) H M [x] [d] Q Q' A (HasL.one hx) t P)
/-! ### x op= e -/
end
/-! ### zip -/
section
variable {X : Cx} {O : Org} {pos p tpos : Pos} {e e2 : Expr} {ta tb : DTE} {elts : List Expr} {kk : Nat}
end
end Rh
/-! DL22: unpacking a list. -/
namespace Rh
open PySem PySem.Spec PyProof.Rows L2
end Rh
/-! DL23: dict(x), list(d.items()), sorted(d.items()), comprehensions over d.items(). -/
namespace Rh
open PySem PySem.Spec PyProof.Rows L2

/-! ### dict(x) -/
/-! ### the items of a dict -/
section
variable {X : Cx} {O : Org} {pos p apos cpos py : Pos} {e : Expr} {te : DTE} {k : Nat}
/-! ### [.. for x in d.items() ..], d a name -/
def er (M : DHp) (a : Addr) : DHp := fun b => if b = a then none else M b
/-- what is told without a locked dict stays -/
def Unl (H : Hp) (M : DHp) (H' : Hp) (M' : DHp) : Prop := ∀ b o, H b = some o → M b = none → (∀ od kvs, o ≠ .frz od (.dK kvs)) → H' b = some o ∧ M' b = none
theorem KL.unl {K : PySem.W.Frag} {H H' : Hp} {M M' : DHp} {a : Addr} {vs : List V} (f : Unl H M H' M') (h : KL K H M a vs) : KL K H' M' a vs := by
  rcases h with ⟨n, r⟩ | h
  · rcases r with r | ⟨x, r⟩
    · obtain ⟨h1, h2⟩ := f _ _ r n (fun _ _ z => nomatch z)
      exact .inl ⟨h2, .inl h1⟩
    · obtain ⟨h1, h2⟩ := f _ _ r n (fun _ _ z => nomatch z)
      exact .inl ⟨h2, .inr ⟨x, h1⟩⟩
  · exact .inr h
mutual
theorem Has.unl {K : PySem.W.Frag} {H H' : Hp} {M M' : DHp} (f : Unl H M H' M') : ∀ {d : D} {v : V}, Has K H M d v → Has K H' M' d v
  | .non, _, h => h
  | .bl _, _, h => h
  | .int _, _, h => h
  | .str _, _, h => h
  | .ref _, _, h => h
  | .ty _, _, h => h
  | .scr ns, _, ⟨a, e, t⟩ => ⟨a, e, t.unl f⟩
  | .tup ds, _, ⟨a, vs, e, n, ⟨us, t⟩, r⟩ =>
    have z := f _ _ t n (fun _ _ z => nomatch z)
    ⟨a, vs, e, z.2, ⟨us, z.1⟩, HasL.unl f r⟩
  | .tpl ds, _, ⟨a, vs, e, n, t, r⟩ =>
    have z := f _ _ t n (fun _ _ z => nomatch z)
    ⟨a, vs, e, z.2, z.1, HasL.unl f r⟩
  | .lst ds, _, ⟨a, vs, e, n, t, r⟩ =>
    have z := f _ _ t n (fun _ _ z => nomatch z)
    ⟨a, vs, e, z.2, z.1, HasL.unl f r⟩
  | .dic ks ds, _, ⟨a, vs, e, n, t, l, r⟩ =>
    have z := f _ _ t n (fun _ _ z => nomatch z)
    ⟨a, vs, e, z.2, z.1, l, HasL.unl f r⟩
  | .obj C ns ds, _, ⟨a, dx, vs, e, n, t, l, r⟩ =>
    have z := f _ _ t n (fun _ _ z => nomatch z)
    ⟨a, dx, vs, e, z.2, z.1, l, HasL.unl f r⟩
theorem HasL.unl {K : PySem.W.Frag} {H H' : Hp} {M M' : DHp} (f : Unl H M H' M') : ∀ {ds : List D} {vs : List V}, HasL K H M ds vs → HasL K H' M' ds vs
  | [], _, h => h
  | d :: ds, _, ⟨v, r, e, h1, h2⟩ => ⟨v, r, e, Has.unl f h1, HasL.unl f h2⟩
end
theorem HasO.unl {K : PySem.W.Frag} {H H' : Hp} {M M' : DHp} {a : Addr} {o : DO} (f : Unl H M H' M') (e : H' a = H a) (h : HasO K H M a o) : HasO K H' M' a o := by
  cases o with
  | lst ds => obtain ⟨vs, q, r⟩ := h; exact ⟨vs, e.trans q, r.unl f⟩
  | dK ks ds => obtain ⟨vs, q, l, r⟩ := h; exact ⟨vs, e.trans q, l, r.unl f⟩
  | ins C ns ds => obtain ⟨dx, vs, q, l, r⟩ := h; exact ⟨dx, vs, e.trans q, l, r.unl f⟩
  | dT ks ds => obtain ⟨vs, q, l, r⟩ := h; exact ⟨vs, e.trans q, l, r.unl f⟩
  | fT od vs ks ds => obtain ⟨q, l, r⟩ := h; exact ⟨e.trans q, l, r.unl f⟩
  | lam L i cs =>
    obtain ⟨cl, pm, ctv, c', q, k, g, n⟩ := h
    have u := f _ _ g n (fun _ _ z => by cases (show HO.ext _ = HO.frz _ _ from z))
    exact ⟨cl, pm, ctv, c', e.trans q, k, u.1, u.2⟩
  | cel d => obtain ⟨o, u, v, q, k, g, r⟩ := h; exact ⟨o, u, v, e.trans q, k, g, r.unl f⟩
  | fK od vs ks ds => obtain ⟨q, l, r⟩ := h; exact ⟨e.trans q, l, r.unl f⟩
  | tab q =>
    obtain ⟨ps, z, k, g⟩ := h
    refine ⟨ps, e.trans z, k, fun pos cv y => ?_⟩
    obtain ⟨b, e1, n, e2⟩ := g pos cv y
    have u := f _ _ e2 n (fun _ _ z => by cases (show HO.ext _ = HO.frz _ _ from z))
    exact ⟨b, e1, u.2, u.1⟩
end
end Rh
/-! DL24: is True, is False; bit_length; xs[i] op= e. -/
namespace Rh
open PySem PySem.Spec PyProof.Rows L2
section
variable {X : Cx} {O : Org} {pos apos : Pos} {o : Expr} {to : DTE}
end
end Rh
/-! DL25: a, b, c = x, y, z. -/
namespace Rh
open PySem PySem.Spec PyProof.Rows L2
section
variable {X : Cx} {O : Org} {pos : Pos}
end
end Rh
/-! DL26: defs that are never called. -/
namespace Rh
open PySem PySem.Spec PyProof.Rows L2
section
variable {P : Program} {w : World} {K : PySem.W.Frag} {mg : Str → Option Value} {base : Heap} {j : Nat} {f : Addr} {x qual : Str} {params : Arguments} {body : List Stmt} {scope : Scope} {dvs : List V} {kws : List (Str × V)} {fd : FuncData} {ps : List Str} {sp : DSp}
end
end Rh
/-! DL27: x[::-1] of a list, of a tuple. -/
namespace Rh
open PySem PySem.Spec PyProof.Rows L2 HT
section
variable {prog : Program} {w : World} {A : Around} {E : Value → Shared → Prop} {s : Shared}
theorem pick_rev (xs : Array Value) : ((List.range xs.size).filterMap fun (m : Nat) => xs[(((xs.size : Nat) : Int) - 1 + (m : Int) * (-1)).toNat]?).toArray = xs.toList.reverse.toArray := by
  congr 1
  have e : ∀ m ∈ List.range xs.size, xs[(((xs.size : Nat) : Int) - 1 + (m : Int) * (-1)).toNat]? = some ((xs.toList.reverse)[m]?.getD .none) := fun m hm => by
    have hm := List.mem_range.mp hm
    have e1 : (((xs.size : Nat) : Int) - 1 + (m : Int) * (-1)).toNat = xs.size - 1 - m := by omega
    rw [e1, List.getElem?_reverse (by rw [Array.length_toList]; exact hm), Array.length_toList, Array.getElem?_toList, Array.getElem?_eq_getElem (by omega)]
    rfl
  have fm : ∀ l : List Nat, (∀ m ∈ l, xs[(((xs.size : Nat) : Int) - 1 + (m : Int) * (-1)).toNat]? = some ((xs.toList.reverse)[m]?.getD .none)) → (l.filterMap fun (m : Nat) => xs[(((xs.size : Nat) : Int) - 1 + (m : Int) * (-1)).toNat]?) = l.map fun m => (xs.toList.reverse)[m]?.getD .none := fun l => by
    induction l with
    | nil => intro _; rfl
    | cons m l ih =>
      intro h
      rw [List.filterMap_cons, h m List.mem_cons_self, List.map_cons, ← ih fun z hz => h z (List.mem_cons_of_mem _ hz)]
  rw [fm _ e]
  refine List.ext_getElem? fun i => ?_
  rw [List.getElem?_map]
  by_cases h : i < xs.size
  · rw [List.getElem?_range h]
    have : i < xs.toList.reverse.length := by rw [List.length_reverse, Array.length_toList]; exact h
    rw [Option.map_some, List.getElem?_eq_getElem this]
    rfl
  · rw [List.getElem?_eq_none (by rw [List.length_range]; omega), List.getElem?_eq_none (by rw [List.length_reverse, Array.length_toList]; omega)]
    rfl
theorem sliceApplied_rev {sl : Addr} {vs : Value} {n : Nat} {Q : Int × Int × Nat → Shared → Prop} (hs : s.heap.IsSliceOf sl .none .none vs) (ps : IsPart vs (some (-1)))
    (h : Q (((n : Nat) : Int) - 1, -1, n) s) : wpAny (model prog w) A (Builtin.Slice.sliceApplied (.ref sl) (pure (n : Int))) Q E s := by
  obtain ⟨os, hos, hcs, hds⟩ := id hs
  unfold Builtin.Slice.sliceApplied Builtin.Slice.sliceFields
  refine wpAny_bind (wpAny_bind (wpAny_field hos hds (x := .none) rfl (wpAny_bind (wpAny_field hos hds (x := .none) rfl (wpAny_bind (wpAny_field hos hds (x := vs) rfl (wpAny_pure ?_)))))))
  refine wpAny_bind (slicePart_ ps ?_)
  show wpAny _ _ (if ((-1 : Int) == 0) = true then _ else _) _ _ s
  rw [if_neg (by decide)]
  refine wpAny_bind (slicePart_none (wpAny_bind (slicePart_none (wpAny_bind (wpAny_pure ?_)))))
  show wpAny _ _ (match Builtin.Slice.sliceAdjust none none (-1) (n : Int) with | (lo, hi) => pure (lo, (-1 : Int), Builtin.Slice.slicePlaces lo hi (-1))) _ _ s
  have e1 : Builtin.Slice.sliceAdjust none none (-1) (n : Int) = ((n : Int) - 1, -1) := rfl
  rw [e1]
  have e2 : Builtin.Slice.slicePlaces ((n : Int) - 1) (-1) (-1) = n := by
    unfold Builtin.Slice.slicePlaces
    rw [if_neg (by decide)]
    split
    · rw [show -(-1 : Int) = 1 by decide, Int.ediv_one]; omega
    · omega
  show wpAny _ _ (pure ((n : Int) - 1, (-1 : Int), Builtin.Slice.slicePlaces ((n : Int) - 1) (-1) (-1))) _ _ s
  rw [e2]
  exact wpAny_pure h
theorem getItem_tuple_rev {t sl : Addr} {items : Array Value} {vs : Value} {Q : Value → Shared → Prop} (ht : IsTup s.heap t items) (hs : s.heap.IsSliceOf sl .none .none vs) (ps : IsPart vs (some (-1)))
    (h : Q (.ref s.heap.objs.size) { s with heap := s.heap.push { cls := .type "tuple", data := .seq items.toList.reverse.toArray } })
    (hsz : items.size ≤ sizeLine) : wpAny (model prog w) A (getItem (.ref t) (.ref sl)) Q E s := by
  have htake : sizeOk (.seq items.toList.reverse.toArray) := by
    show items.toList.reverse.toArray.size ≤ sizeLine
    rw [List.size_toArray, List.length_reverse, Array.length_toList]
    exact hsz
  obtain ⟨os, hos, hcs, hds⟩ := id hs
  have hTs : s.TypeIs (.ref sl) "slice" := ⟨os, hos, hcs⟩
  unfold getItem
  try with_reducible refine wpAny_holding ?_
  first | refine wpAny_bind (wpAny_pure ?_) | skip
  refine wpAny_bind (wpAny_sequenceKey ht.typeIs (by decide) ?_)
  refine wpAny_bind (wpAny_callSpecial?_slot (name := Str.ofString "__getitem__") ht.typeIs PyProof.Rows.slot_tuple_getitem
    (wpAny_call_entry PyProof.Rows.slot_tuple_getitem ht.typeIs entry_tuple_getitem ?_ (args_tuple_getitem _ _)))
  show wpAny _ _ (Builtin.Tuple.tupleItemsOf (.ref t) >>= _) _ _ s
  refine wpAny_bind (tupleItemsOf_ ht ?_)
  refine wpAny_bind (wpAny_typeOf hTs ?_)
  rw [if_pos (by decide)]
  refine wpAny_bind (sliceApplied_rev hs ps ?_)
  have hno : ¬ ((((items.size : Nat) : Int) - 1 == 0 && (-1 : Int) == 1 && items.size == items.size) = true) := by
    rw [show ((-1 : Int) == 1) = false by decide, Bool.and_false, Bool.false_and]
    exact Bool.false_ne_true
  show wpAny _ _ (if (((items.size : Nat) : Int) - 1 == 0 && (-1 : Int) == 1 && items.size == items.size) = true then _ else _) _ _ s
  rw [if_neg hno, pick_rev]
  first
    | exact wpAny_bind (m := Builtin.Tuple.tupleExact _) (wpAny_newObj_type (wpAny_pure ⟨_, rfl, wpAny_pure h⟩) htake)
    | exact wpAny_bind (m := Builtin.Tuple.tupleExact _) (wpAny_newObj_type (wpAny_bind (wpAny_pure (wpAny_pure ⟨_, rfl, wpAny_pure h⟩))) htake)
    | exact wpAny_bind (wpAny_bind (m := Builtin.Tuple.tupleExact _) (wpAny_newObj_type (wpAny_pure (wpAny_pure ⟨_, rfl, wpAny_pure h⟩)) htake))
    | exact wpAny_bind (wpAny_bind (m := Builtin.Tuple.tupleExact _) (wpAny_newObj_type (wpAny_pure ⟨_, rfl, wpAny_pure h⟩) htake))
end
/-- t[::-1] of a tuple -/
def tRevT (K : PySem.W.Frag) (te : TE) : TE := fun σ H Q => te σ H fun x H1 => ∃ a xs, x = .ref a ∧ SqT K H1 a xs ∧ ∀ p us, H1 p = none → Q (.ref p) (upd H1 p (frT us xs.reverse))
section
variable {X : Cx} {O : Org}
/-- a slice's three parts where the first two are left out -/
theorem parts_rev {e : Expr} {k : Nat} {p1 p2 p3 : Pos} {pins : List (Addr × Obj)} {σ : L2.St} {H : Hp} {s : Shared} {a : Addr} {R : Value → Shared → Prop} (I : Inv X pins σ H s)
    (fin : ∀ (s4 : Shared) (vs : Value), Inv X pins σ H { s4 with heap := s4.heap.push { cls := .type "slice", data := .fields #[.none, .none, vs] } } → IsPart vs (some (-1)) → R (.ref s4.heap.objs.size) { s4 with heap := s4.heap.push { cls := .type "slice", data := .fields #[.none, .none, vs] } }) :
    wpAny (model X.prog X.w) X.A (eval (.Slice none none (some (.UnaryOp .USub (.Constant (.int 1) k p1) p2)) p3) X.env) R X.xe s := by
  have step : PO X (some (.UnaryOp .USub (.Constant (.int 1) k p1) p2)) (tPart (tUn (rU fun i => .int (-i)) (tC (.int 1)))) := po_some (pe_un un_neg pe_int)
  have none_ : ∀ s, Inv X pins σ H s → wpAny (model X.prog X.w) X.A (evalPart none X.env) (fun u s' => Inv X pins σ H s' ∧ u = .none) X.xe s := fun s I => thn (po_none.run pins s σ H (fun o H2 => o = none ∧ H2 = H) I ⟨rfl, rfl⟩) fun u s' ⟨o, H2, I2, po, eo, eh⟩ => by
    subst eo eh; cases po; exact ⟨I2, rfl⟩
  exact wpAny_Slice (thn (none_ s I) fun vl s2 ⟨I2, el⟩ => thn (none_ s2 I2) fun vu s3 ⟨I3, eu⟩ => thn (step.run pins s3 σ H (fun o H4 => o = some (-1) ∧ H4 = H) I3 ⟨1, rfl, -1, rfl, rfl, rfl⟩) fun vs s4 ⟨o, H4, I4, ps, eo, eh⟩ => by
    subst eo eh el eu; exact fin s4 vs (I4.kept (t' := s4.toks) fun b ob q => Heap.get?_push_of_some _ q) ps)
theorem pe_revT {e : Expr} {te : TE} {k : Nat} {p1 p2 p3 pos : Pos} (he : PE X e te) : PE X (.Subscript e (.Slice none none (some (.UnaryOp .USub (.Constant (.int 1) k p1) p2)) p3) pos) (tRevT X.K te) := ⟨fun pins s σ H Q I h => by
  refine Subscript_ (thn (he.run pins s σ H _ I h) fun v s1 ⟨x, H1, I1, r1, a, xs, ex, hx, q⟩ => ?_)
  subst ex; cases r1
  refine parts_rev (e := e) (a := a) I1 fun s4 vs I5 ps => ?_
  obtain ⟨its, r, ht, hz⟩ := I5.tuple hx
  have ln := r.length
  have L := laidT I5 r.reverse (by rw [List.length_reverse]; exact hz)
  exact tail_any (ops := [.ref a, .ref s4.heap.objs.size]) ht.typeIs PyProof.Rows.slot_tuple_getitem.lookup (getItem_tuple_rev ht (Heap.IsSliceOf.new _ .none .none vs) ps ⟨.ref _, _, L.2, rfl, q _ _ L.1⟩ (by rw [List.size_toArray]; omega)) (by with_unfolding_all rfl)⟩
def dRevT (te : DTE) : DTE := fun τ M Q => te τ M fun x M1 => match x with
  | .tup ds => Q (.tup ds.reverse) M1
  | _ => False
theorem hasL_rev {K : PySem.W.Frag} {H : Hp} {M : DHp} : ∀ {ds : List D} {vs : List V}, HasL K H M ds vs → HasL K H M ds.reverse vs.reverse
  | [], _, h => by rw [show _ = ([] : List V) from h]; rfl
  | d :: ds, _, h => by
    obtain ⟨v, r, rfl, h1, h2⟩ := h
    rw [List.reverse_cons, List.reverse_cons]
    exact (hasL_rev h2).app (HasL.one h1)
theorem de_revT {e : Expr} {te : DTE} {k : Nat} {p1 p2 p3 pos : Pos} (he : DE X O e te) : DE X O (.Subscript e (.Slice none none (some (.UnaryOp .USub (.Constant (.int 1) k p1) p2)) p3) pos) (dRevT te) := (pe_revT he).wk fun σ H Q ⟨τ, M, Q', b, t, p⟩ =>
  ⟨τ, M, _, b, t, fun d M1 x H1 q f a h => by
    cases d <;> first | exact q.elim | skip
    obtain ⟨ad, vs, rfl, n, s, r⟩ := h
    exact ⟨ad, vs, rfl, s.sq, fun z us nz => new_tup a (hasL_rev r) q (p.tr f) nz⟩⟩
end
end Rh
/-! DL39: i.bit_length(); xs[i] += n of a list. -/
namespace Rh
open PySem PySem.Spec PyProof.Rows L2
section
variable {X : Cx} {O : Org} {pos apos tpos : Pos} {o i e : Expr} {to ti te : DTE}
end
end Rh
/-! DL28: sorted(set(x)) of ints. -/
namespace Rh
open PySem PySem.Spec PyProof.Rows L2
section
variable {P : Program} {w : World} {A : Around} {E : Value → Shared → Prop} {s : Shared}
end
section
variable {X : Cx} {O : Org} {pos : Pos}
end
end Rh
/-! DL29: a text so many times. -/
namespace Rh
open PySem PySem.Spec PyProof.Rows L2
end Rh
/-! DL30: own exceptions over any of three built-in bases, whose __init__ keeps its one argument: made, raised. -/
namespace Rh
open PySem PySem.Spec PyProof.Rows L2
open Builtin Builtin.ObjectAttr

/-- what the written part says of such a class -/
structure XcG (K : PySem.W.Frag) (C : Addr) : Prop where
  base : ∃ (B newId initId : String) (bmB : List Value), ExcBaseFacts B newId initId bmB ∧ StoreFacts B bmB "object.__setattr__" "object" ∧ PySem.W.excInitIn K C bmB newId = true ∧ PySem.W.excOver K C bmB = true
  sa : PySem.W.findIn K (.ref C) "__setattr__" = some (some (.builtin "object.__setattr__"))
  hd : PySem.W.hasDictIn K C = true
  ex : PySem.W.subIn K (.ref C) (.type "BaseException") = some true
  ty : PySem.W.typeIn K (.ref C) = some (.type "type")
  kp : PySem.W.keepIn K (.ref C) = true
section
variable {X : Cx} {pins : List (Addr × Obj)} {σ : L2.St} {H : Hp} {s : Shared} {a C : Addr} {f : Str} {y : V} {u : Value} {Q : Unit → Shared → Prop} {E : Value → Shared → Prop} {A : Around}
theorem xst_new (T : XcG X.K C) (I : Inv X pins σ H s) (ea : H a = some (exo a C none)) (hno : PySem.W.takerIn X.K C f = some none) (ry : RelV y u)
    (h : ∀ b s', H b = none → b ≠ a → Inv X pins σ (upd (upd H b (exd b [(f, y)])) a (exo a C (some b))) s' → Q () s') : wpAny (model X.prog X.w) A (setAttr (.ref a) f u) Q E s := by
  obtain ⟨B, newId, initId, bmB, FB, SF, ei, ov⟩ := T.base
  obtain ⟨cd, hcl, hh⟩ := PySem.W.any_some T.hd
  obtain ⟨t1, ho⟩ := exo_at I.hok ea
  obtain ⟨hp, g, d, t, os⟩ := s
  have J0 : PySem.W.InstAt hp a { cls := .ref C, dict := none, data := .fields #[.ref t1, .none, .none, .none, .bool false, .none] } C none := ⟨ho, rfl, rfl, trivial⟩
  refine PySem.W.set_plain I.kIn J0 T.sa ?_
  refine PySem.W.osa_openX SF I.kIn J0 ov hno fun onT => ?_
  have hnew : a ≠ hp.objs.size := Nat.ne_of_lt (Heap.lt_size ho)
  have hcls : PySem.W.Looks (model X.prog X.w) hp (classData C) cd := PySem.W.looks_clsIn I.kIn hcl
  obtain ⟨c1, c2, c3, c4, c5, c6, c7, c8, c9, c10, c11⟩ := cd
  dsimp only at hh
  subst hh
  show wpAny _ _ (storeInOwnDict (.ref a) (.ref C) (.str f _) f u onT) _ _ _
  unfold storeInOwnDict ownDictForStores
  repeat (first | with_reducible refine PySem.HandSPX.store_in_new ?_ ?_ | with_reducible refine wpAny_loadPart_at ho ?_ | with_reducible refine hcls.at ?_ | wp_step)
  · exact ⟨_, #[], _, (Heap.get?_update_ne _ _ _ _ hnew.symm).trans (Heap.get?_push_at rfl rfl), rfl, fun e he => absurd he (by simp), fun _ => rfl⟩
  · intro h' tk' hn' hs
    have hx1 : (hp.push { cls := .type "dict", data := .dict #[] }).get? a = some { cls := .ref C, data := .fields #[.ref t1, .none, .none, .none, .bool false, .none] } := Heap.get?_push_of_some _ ho
    have k : ∀ b o, b ≠ a → hp.get? b = some o → h'.get? b = some o := fun b o hb ho => (hs.2 b (Nat.ne_of_lt (Heap.lt_size ho))).trans ((Heap.get?_update_ne _ _ _ _ hb).trans (Heap.get?_push_of_some _ ho))
    have hx : h'.get? a = some { cls := .ref C, dict := some hp.objs.size, data := .fields #[.ref t1, .none, .none, .none, .bool false, .none] } := (hs.2 a hnew).trans (Heap.get?_update_self _ hx1 rfl)
    have hnd : H hp.objs.size = none := I.hok.fresh (Nat.le_refl _)
    have nd : ∀ {b : Addr} {o : Obj}, hp.get? b = some o → b ≠ hp.objs.size := fun {b o} q => Nat.ne_of_lt (Heap.lt_size q)
    have na : ∀ {b : Addr}, H b = none → b ≠ a := fun {b} n z => by rw [z, ea] at n; cases n
    have U : Un X.fs [] H (upd (upd H hp.objs.size (exd hp.objs.size [(f, y)])) a (exo a C (some hp.objs.size))) hp h' := {
      keep := fun b o q n _ _ => k b o (na n) q
      slot := fun b o q n _ _ => ⟨o.slots, k b o (na n) q⟩
      free := fun b o q n _ => (upd_ne (na n)).trans ((upd_ne (nd q)).trans n)
      there := fun b o q _ => (Classical.em (b = a)).elim (fun e => ⟨_, e ▸ hx⟩) fun e => ⟨o, k b o e q⟩
      tups := fun b xs q => (upd_ne (at_ne ea q exo_tup)).trans ((upd_ne (ne_of_none q hnd)).trans q)
      frzs := fun b o v q => (upd_ne (at_ne ea q exo_frz)).trans ((upd_ne (ne_of_none q hnd)).trans q)
      tbls := fun b ps q => ⟨#[], by rw [upd_ne (at_ne ea q exo_tbl), upd_ne (ne_of_none q hnd), q, Array.append_empty]⟩ }
    refine h hp.objs.size _ hnd hnew.symm (I.un (t' := tk') U fun b o q => ?_)
    by_cases hb : b = a
    · subst hb
      rw [upd_same] at q
      cases q
      exact exo_ok hx
    rw [upd_ne hb] at q
    by_cases e1 : b = hp.objs.size
    · subst e1
      rw [upd_same] at q
      cases q
      exact exd_ok hn' (relO_put (fs := []) ry fun g => True.intro)
    rw [upd_ne e1] at q
    refine (I.hok b o q).stay (fun c v hc z => k c v (hc.elim (fun e => e ▸ hb) fun e => at_ne ea e exo_own) z) (fun c hc => ?_) fun c xs hc => ?_
    · rw [upd_ne (at_ne ea hc exo_own), upd_ne (ne_of_none hc hnd)]; exact hc
    · rw [upd_ne (at_ne ea hc exo_tup), upd_ne (ne_of_none hc hnd)]; exact hc
end
/-- self.f = given: what such an __init__ does -/
def spXi (K : PySem.W.Frag) (f : Str) : Sp := fun vs H Q _ => ∃ (a C : Addr) (v : V), vs = [.ref a, v] ∧ XcG K C ∧ PySem.W.takerIn K C f = some none ∧ H a = some (exo a C none) ∧
  ∀ b, H b = none → b ≠ a → Q .non (upd (upd H b (exd b [(f, v)])) a (exo a C (some b)))
def tXst (K : PySem.W.Frag) (f : Str) (to te : TE) : TS := fun D σ H => te σ H fun y H1 => to σ H1 fun x H2 => ∃ a C : Addr, x = .ref a ∧ XcG K C ∧ PySem.W.takerIn K C f = some none ∧ H2 a = some (exo a C none) ∧
  ∀ b, H2 b = none → b ≠ a → D.nx σ (upd (upd H2 b (exd b [(f, y)])) a (exo a C (some b)))
theorem ps_xst {X : Cx} {o e : Expr} {to te : TE} {f : Str} {p pos : Pos} (ho : PE X o to) (he : PE X e te) (hs : swapsWith e (some (.Attribute o f p)) pos.line X.env = pure false := by rfl) : PS X (.Assign [.Attribute o f p] e pos) (tXst X.K f to te) := by
  refine ⟨fun pins s σ H D I h => plainObj_wpAny_Assign_Attribute (thn (he.run pins s σ H _ I h) ?_) hs⟩
  rintro v s1 ⟨y, H1, I1, ry, q1⟩
  refine thn (ho.run pins s1 σ H1 _ I1 q1) ?_
  rintro u s2 ⟨x, H2, I2, rx, a, C, ex, T, nf, ea, q⟩
  subst ex
  obtain rfl : u = Value.ref a := rx
  exact xst_new T I2 ea nf ry fun b s' n ne J => ⟨σ, _, J, q b n ne⟩
section
variable {P : Program} {w : World} {K : PySem.W.Frag} {mg : Str → Option Value} {base : Heap} {CX : CXT}
theorem ok_xinit {qual f : Str} {params : Arguments} {scope : Scope} {p1 p2 p3 p4 : Pos} {fI : Addr} {fd : FuncData} (F : FunD K "__init__" qual params [.Assign [.Attribute (.Name "self" p1) f p2] (.Name f p3) p4] scope [] [] fI fd) (S : FnScope ["self", f] ["self", f] scope)
    (v0 : scope.names.lookup ("self" : Str) = some .local) (v1 : scope.names.lookup f = some .local) (hf : (f == ("__debug__" : Str)) = false) (hf2 : (f == ("__classdict__" : Str)) = false) : FnOk P w K mg base CX 1 fI fd ["self", f] (spXi K f) := by
  refine F.ok (k := 0) S (fun vs H Q E h => ?_) (fun cdv A outer s H vs Q E hr h => ?_)
  · obtain ⟨a, C, v, rfl, _⟩ := h
    rfl
  · obtain ⟨a, C, v, rfl, T, nf, ea, q⟩ := h
    refine ⟨_, pss_one (ps_xst (pe_var (i := 0) rfl (.inl v0)) (pe_var (i := 1) rfl (.inl v1) hf hf2) (by rfl)), ?_⟩
    exact ⟨v, rfl, .ref a, rfl, a, C, rfl, T, nf, ea, q⟩
/-- what is known of an own exception class that keeps its one argument -/
structure XcP (P : Program) (w : World) (K : PySem.W.Frag) (mg : Str → Option Value) (base : Heap) (C : Addr) (f : Str) : Prop where
  g : XcG K C
  nf : PySem.W.takerIn K C f = some none
  made : ∃ (fI : Addr) (fd : FuncData), PySem.W.findIn K (.ref C) "__init__" = some (some (.ref fI)) ∧ PySem.W.typeIn K (.ref fI) = some (.type "function") ∧ FnOk P w K mg base (L2N.CX P w) 1 fI fd ["self", f] (spXi K f) ∧ Binds K fd ["self", f] []
end
theorem pmk_xc {X : Cx} {x f : Str} {C : Addr} {e : Expr} {te : TE} {p pos : Pos} (T : XcP X.prog X.w X.K X.mg X.base C f) (hr : Room 2 X.A) (hg : Gl X x) (hm : X.mg x = some (.ref C)) (he : PE X e te)
    (hdb : (x == ("__debug__" : Str)) = false := by decide) (hst : starEach [e] X.env = (false, eval e X.env) :: starEach [] X.env := by rfl) (hpl : (backTo pos (starEach [] X.env)).any (·.1) = false := by rfl) :
    L2N.PMk X (.Call (.Name x p) [e] [] pos) (fun σ H Q => te σ H fun v H1 => ∀ b, H1 b = none → Q (.ref C) (some b) (upd H1 b (.xd [(f, v)]))) := by
  intro pins s σ H Q I h
  obtain ⟨G, nf, fI, fd, iC, tI, F1, hb⟩ := T
  obtain ⟨B, newId, initId, bmB, FB, SF, ei, ov⟩ := G.base
  refine wpAny_Call_Name_kw (ld_glob I hg hm ?_ hdb)
  refine PySem.W.callWith_K (h₀ := X.base) I.ok.mod.kin G.kp (thn ((pa_cons he pa_nil hst).run pos pins s σ H (fun vs H1 => match vs with
    | [v] => ∀ b, H1 b = none → Q (.ref C) (some b) (upd H1 b (.xd [(f, v)]))
    | _ => False) I h) ?_) hst hpl
  rintro us s1 ⟨vs, H1, I1, r1, q⟩
  obtain ⟨v, rfl⟩ : ∃ v, vs = [v] := by
    match vs, q with
    | [v], _ => exact ⟨v, rfl⟩
  replace q : ∀ b, H1 b = none → Q (.ref C) (some b) (upd H1 b (.xd [(f, v)])) := q
  refine ⟨I1.kIn, ?_⟩
  show wpAny _ _ (call (.ref C) us) _ _ _
  obtain ⟨nm, N', qn, bs, bm, hdct, sn, sub, ab, col, dd, k0, k1, k2, k3, k5, hC, hT⟩ := PySem.W.excInit_of I1.kIn ei
  obtain ⟨hp, g, dr, tk, os⟩ := s1
  have hsz : hp.objs.size ≤ hp.objs.size + 1 := Nat.le_succ _
  have hn : H1 (hp.objs.size + 1) = none := I1.hok.fresh hsz
  have kk : ∀ b o, hp.get? b = some o → ((hp.push (PySem.W.kdv_tup us)).push (PySem.HandSPX.excO C hp.objs.size)).get? b = some o := fun b o z => Heap.get?_push_of_some _ (Heap.get?_push_of_some _ z)
  have hget : ((hp.push (PySem.W.kdv_tup us)).push (PySem.HandSPX.excO C hp.objs.size)).get? (hp.objs.size + 1) = some (PySem.HandSPX.excO C hp.objs.size) := by heap_get
  have I2 : Inv X pins σ (upd H1 (hp.objs.size + 1) (exo (hp.objs.size + 1) C none)) ⟨(hp.push (PySem.W.kdv_tup us)).push (PySem.HandSPX.excO C hp.objs.size), g, dr, tk, os⟩ := I1.laid kk hsz (exo_ok hget)
  have r2 : Vals (V.ref (hp.objs.size + 1) :: [v]) (Value.ref (hp.objs.size + 1) :: us) := .cons rfl r1
  have hus : us.length = 1 := r1.length.symm
  have hl : (Value.ref (hp.objs.size + 1) :: us ++ []).length = (["self", f] : List Str).length := by rw [List.append_nil, List.length_cons, hus]; rfl
  have bd := hb ⟨(hp.push (PySem.W.kdv_tup us)).push (PySem.HandSPX.excO C hp.objs.size), g, dr, tk, os⟩ (Value.ref (hp.objs.size + 1) :: us) I2.kIn hl
  rw [List.append_nil] at bd
  have hq : spXi X.K f [.ref (hp.objs.size + 1), v] (upd H1 (hp.objs.size + 1) (exo (hp.objs.size + 1) C none)) (fun u H2 => u = .non ∧ ∃ b, H2 (hp.objs.size + 1) = some (exo (hp.objs.size + 1) C (some b)) ∧ H2 b = some (exd b [(f, v)]) ∧ H1 b = none ∧ Q (.ref C) (some b) (upd (del H2 (hp.objs.size + 1)) b (.xd [(f, v)]))) (fun _ _ _ => False) := by
    refine ⟨_, C, v, rfl, G, nf, upd_same, fun b nb ne => ⟨rfl, b, upd_same, (upd_ne ne).trans upd_same, ?_, ?_⟩⟩
    · rw [upd_ne ne] at nb; exact nb
    · have nb1 : H1 b = none := by rw [upd_ne ne] at nb; exact nb
      have eH : upd (del (upd (upd (upd H1 (hp.objs.size + 1) (exo (hp.objs.size + 1) C none)) b (exd b [(f, v)])) (hp.objs.size + 1) (exo (hp.objs.size + 1) C (some b))) (hp.objs.size + 1)) b (.xd [(f, v)]) = upd H1 b (.xd [(f, v)]) := by
        funext z
        by_cases z1 : z = b
        · subst z1; rw [upd_same, upd_same]
        · rw [upd_ne z1, upd_ne z1]
          by_cases z2 : z = hp.objs.size + 1
          · subst z2; rw [del_same, hn]
          · rw [del_ne z2, upd_ne z2, upd_ne z1, upd_ne z2]
      rw [eH]
      exact q b nb1
  refine wpAny_call (PySem.HandSPX.call_own FB hT hC (PySem.W.looks_findIn I1.kIn iC) (fun self => PySem.W.bind_fn I1.kIn self tI) (by rw [hus, sizeLine_eq]; omega)
    (codeAny_mono (F1.run _ X.stack _ _ ⟨Value.ref (hp.objs.size + 1) :: us, []⟩ _ _ _ (fun _ _ _ => False) (hr.make C us []) (I2.env0.make C us []) bd r2 hq) fun r s' hq' => ?_))
  cases r with
  | error er => exact passN (X := X) pins σ _ _ er s' I2 hq'
  | ok fl =>
    cases fl with
    | ret u =>
      obtain ⟨v', H2, os2, bare2, un2, hok2, rv, ev, b, ea, ed, hd1, q2⟩ := hq'
      subst ev
      obtain ⟨h2, g2, d2, t2, os'⟩ := s'
      obtain ⟨t0, Gh, J, kG, ge, hoe, na⟩ := mk_end0 (d2 := d2) (t2 := t2) I1 hsz kk un2 hok2 os2 bare2 ea ed hd1
      exact ⟨rv, _, _, _, ⟨Gh, g2, d2, t2, os'⟩, _, .ref C, some b, rfl, J, kG, ge, hoe, ⟨rfl, rfl, fun vs e => by cases e; rfl⟩, rfl, rfl, na, rfl, bare2, raises_own G.ex G.ty, q2⟩
    | next => exact False.elim hq'
    | brk => exact False.elim hq'
    | cont => exact False.elim hq'
section
variable {X : Cx} {O : Org} {x f : Str} {C : Addr} {e : Expr} {te : DTE} {p pos pos' : Pos} {W : DWX}
/-- raise C(e), raise C() -/
def dRaise (C : Addr) (f : Str) (W : DWX) (te : DTE) : DTS := fun _ τ M => te τ M fun d M1 => W C [f] [d] τ M1
theorem ds_raise (T : XcP X.prog X.w X.K X.mg X.base C f) (hr : Room 2 X.A) (hg : Gl X x) (hm : X.mg x = some (.ref C)) (hc : X.calm = true) (tk : L2N.Takes X (liftW X.K O W)) (he : DE X O e te)
    (hdb : (x == ("__debug__" : Str)) = false := by decide) (hst : starEach [e] X.env = (false, eval e X.env) :: starEach [] X.env := by rfl) (hpl : (backTo pos (starEach [] X.env)).any (·.1) = false := by rfl) :
    DS X O (.Raise (some (.Call (.Name x p) [e] [] pos)) none pos') (dRaise C f W te) := (L2N.ps_raise hc tk (pmk_xc T hr hg hm he hdb hst hpl)).wk fun D σ H ⟨τ, M, E, b, t, _, _⟩ =>
  ⟨τ, M, _, b, t, fun d M1 v H1 q f1 a1 hv a na =>
    have f2 : Fr H1 M1 (upd H1 a (.xd [(f, v)])) M1 := Fr.new na
    ⟨C, [f], [d], τ, M1, rfl, (b.step f1 a1).step f2 (a1.new na), ⟨[v], upd_same, a1.fresh na, rfl, HasL.one (hv.fr f2)⟩, q⟩⟩
end
end Rh
/-! DL31: try with several clauses, each with a name for the exception or without; the exception's fields. -/
namespace Rh
open PySem PySem.Spec PyProof.Rows L2

abbrev HC := Value × Option Nat × (Addr → Value → Option Addr → TS)
/-- the ends of a clause: its name goes -/
def endN : Option Nat → Ends → Ends
  | none, D => D
  | some i, D => { nx := fun σ' H' => D.nx (σ'.set i none) H', rt := D.rt, bk := fun σ' H' => D.bk (σ'.set i none) H', ct := fun σ' H' => D.ct (σ'.set i none) H' }
def setN (a : Addr) : Option Nat → L2.St → L2.St
  | none, σ => σ
  | some i, σ => σ.set i (some (.ref a))
/-- a clause's name and its slot -/
def NamOk (X : Cx) : Option Str → Option Nat → Prop
  | none, none => True
  | some n, some i => X.N[i]? = some n ∧ X.env.kindOf n = some .local
  | _, _ => False
inductive HdsMix (X : Cx) : List ExceptHandler → List HC → Prop
  | nil : HdsMix X [] []
  | cons {x : Str} {c : Value} {on : Option Str} {i : Option Nat} {ts : Addr → Value → Option Addr → TS} {b0 : Stmt} {su : List Stmt} {np hp : Pos} {hds : List ExceptHandler} {l : List HC} (hc : Names X x c) (hn : NamOk X on i)
      (hsu : ∀ (a : Addr) (oe : Obj) (cls : Value) (d : Option Addr) (pn : List (Addr × Obj)), L2N.Zn cls d oe → (∃ vs, oe.data = .fields vs) → PSs (X.suite a ((a, oe) :: pn)) (b0 :: su) (ts a cls d)) (r : HdsMix X hds l) :
      HdsMix X (.ExceptHandler (some (.Name x np)) on (b0 :: su) hp :: hds) ((c, i, ts) :: l)
section
variable {X : Cx} {body : List Stmt} {h0 : ExceptHandler} {hds : List ExceptHandler} {l : List HC} {pos : Pos} {tb : WX → TS} {Wout : WX}
end
/-! ### over data -/
abbrev DHand := Addr × Option Nat × (Addr → List Str → List D → DTS)
def dEndN : Option Nat → DEnds → DEnds
  | none, E => E
  | some i, E => ⟨fun τ M => E.nx (τ.set i none) M, E.rt⟩
def dSetN (a : Addr) : Option Nat → DSt → DSt
  | none, τ => τ
  | some i, τ => τ.set i (some (.ref a))
theorem AbS.unset {K : PySem.W.Frag} {H : Hp} {M : DHp} {τ : DSt} {σ : L2.St} (A : AbS K H M τ σ) (i : Nat) : AbS K H M (τ.set i none) (σ.set i none) := by
  refine ⟨by rw [List.length_set, List.length_set]; exact A.len, fun j d e => ?_⟩
  by_cases z : i = j
  · subst z
    by_cases l : i < τ.length
    · rw [List.getElem?_set_self l] at e; cases e
    · rw [List.getElem?_eq_none (by rw [List.length_set]; omega)] at e; cases e
  · rw [List.getElem?_set_ne z] at e ⊢
    exact A.get j d e
theorem abs_setN {K : PySem.W.Frag} {H : Hp} {M : DHp} {τ : DSt} {σ : L2.St} (A : AbS K H M τ σ) (a : Addr) : ∀ i, AbS K H M (dSetN a i τ) (setN a i σ)
  | none => A
  | some i => A.set (d := .ref a) rfl i
theorem post_endN {K : PySem.W.Frag} {H : Hp} {M : DHp} {E : DEnds} {D : Ends} (p : PostN K H M E.nx D.nx) (r : Post K H M E.rt D.rt) : ∀ i, PostN K H M (dEndN i E).nx (endN i D).nx ∧ Post K H M (dEndN i E).rt (endN i D).rt
  | none => ⟨p, r⟩
  | some i => ⟨fun τ M' σ H' q f a s => p _ M' _ H' q f a (s.unset i), r⟩
section
variable {X : Cx} {O : Org} {body : List Stmt} {h0 : ExceptHandler} {hds : List ExceptHandler} {l : List DHand} {pos : Pos} {tb : DWX → DTS}
inductive HdsD (X : Cx) (O : Org) : List ExceptHandler → List DHand → Prop
  | nil : HdsD X O [] []
  | cons {x : Str} {C : Addr} {on : Option Str} {i : Option Nat} {t : Addr → List Str → List D → DTS} {b0 : Stmt} {su : List Stmt} {np hp : Pos} {hds : List ExceptHandler} {l : List DHand} (hg : Gl X x) (hm : X.mg x = some (.ref C)) (hn : NamOk X on i)
      (hsu : ∀ (a : Addr) (oe : Obj) (d : Option Addr) (pn : List (Addr × Obj)) (O' : Org) (ns : List Str) (ds : List D), L2N.Zn (.ref C) d oe → (∃ vs, oe.data = .fields vs) → XdIs X.K O'.H O'.M ns ds d → DSs (X.suite a ((a, oe) :: pn)) O' (b0 :: su) (t a ns ds)) (r : HdsD X O hds l)
      (hdb : (x == ("__debug__" : Str)) = false := by decide) :
      HdsD X O (.ExceptHandler (some (.Name x np)) on (b0 :: su) hp :: hds) ((C, i, t) :: l)
end
/-- err.f in a clause: a the exception, ns, ds its fields -/
def dXf (a : Addr) (ns : List Str) (ds : List D) (f : Str) (te : DTE) : DTE := fun τ M Q => te τ M fun x M1 => x = .ref a ∧ wth (look f ns ds) fun d => Q d M1
theorem de_xf {Y X : Cx} {O : Org} {a C : Addr} {oe : Obj} {d : Option Addr} {pn : List (Addr × Obj)} {e : Expr} {te : DTE} {pos : Pos} {f : Str} {ns : List Str} {ds : List D} (hY : Y = X.suite a ((a, oe) :: pn)) (T : XfC X.K C) (hno : PySem.W.findIn X.K (.ref C) f = some none)
    (hz : L2N.Zn (.ref C) d oe) (hf : ∃ vs, oe.data = .fields vs) (xd : XdIs X.K O.H O.M ns ds d) (he : DE Y O e te) (hb : attributeBase e f X.env (eval e X.env) = eval e X.env := by rfl) :
    DE Y O (.Attribute e f pos) (dXf a ns ds f te) := by
  subst hY
  refine PE.wk (pe_xf T hno hz.zc hf he hb) fun σ H Q ⟨τ, M, Q', b, t, p⟩ => ⟨τ, M, _, b, t, fun x M1 v H1 q f1 a1 hx => ?_⟩
  obtain ⟨rfl, q⟩ := q
  obtain ⟨d2, e2, q⟩ := wth_of q
  refine ⟨hx, rfl, ?_⟩
  have xd1 := xd.fr (b.fr.trans f1)
  cases d with
  | none =>
    obtain ⟨rfl, rfl⟩ := xd1
    cases e2
  | some dd =>
    obtain ⟨vs, e3, n, l, r⟩ := xd1
    obtain ⟨v2, e4, hv⟩ := look_at r e2
    exact ⟨dd, _, v2, rfl, e3, e4, p _ M1 _ H1 q f1 a1 hv⟩
end Rh
/-! DL31H: a, b = x, y within an except suite. -/
namespace Rh
open PySem PySem.Spec PyProof.Rows L2 HotX L2H

section
variable {prog : Program} {w : World} {A : Around} {E : Value → Shared → Prop} {s : Shared}
/-- the tuple's iterator has come to its end, an exception being handled -/
theorem next_tup_hot {it t x1 : Addr} {i : Nat} {items : Array Value} {Q : Option Value → Shared → Prop} (hot : HotAt A x1 s.heap) (hne : x1 ≠ it) (hit : IsTupIter s.heap it t i) (ht : IsTup s.heap t items) (hx : items[i]? = none)
    (hQ : ∀ h', Heap.ExtBut it s.heap h' → Q none { s with heap := h' }) : wpAny (model prog w) A (pyNext (.ref it)) Q E s := by
  obtain ⟨o, ho, hc, hd⟩ := id hit
  obtain ⟨ol, hol, _, nl, hdl⟩ := ht
  obtain ⟨hh, o1, vs1, h1, d1, c1⟩ := hot
  unfold pyNext
  refine wpAny_bind (wpAny_attempt (wpAny_callSpecial?_slot (name := Str.ofString "__next__") hit.typeIs slot_tupleiter_next (wpAny_call_entry slot_tupleiter_next hit.typeIs entry_tupleiter_next ?_ (args_tupleiter_next _))))
  show wpAny _ _ (field (.ref it) 0 >>= _) _ _ s
  refine wpAny_bind (wpAny_field ho hd (x := .ref t) rfl ?_)
  show wpAny _ _ (if (Value.ref t == Value.none) = true then _ else _) _ _ s
  rw [if_neg (show ¬ ((Value.ref t == Value.none) = true) from Bool.false_ne_true)]
  show wpAny _ _ (field (.ref it) 1 >>= _) _ _ s
  refine wpAny_bind (wpAny_field ho hd (x := .int i 0) rfl ?_)
  show wpAny _ _ (seqItems? (.ref t) >>= _) _ _ s
  refine wpAny_bind (wpAny_seqItems hol hdl ?_)
  simp only [Int.toNat_natCast, hx]
  refine wpAny_bind (wpAny_rule (wpAny_bind (wpAny_setField ho hd (by simp) ?_)))
  show wpAny _ _ (newExc (.type "StopIteration") [] >>= _) _ _ _
  refine wpAny_bind ?_
  simp only [newExc, newTuple]
  refine wpAny_bind (wpAny_newObj_type ?_ (by size_fits))
  refine wpAny_bind (m := firstArgMember _ _) (wpAny_of_eq (a := Value.none) (by first | rfl | (simp only [firstArgMember]; rfl)) ?_)
  refine wpAny_newObj_type ?_ (by size_fits)
  have k1 : (s.heap.update it (Obj.mapFields (·.setIfInBounds 0 .none))).get? x1 = some o1 := (Heap.get?_update_other _ _ (Ne.symm hne)).trans h1
  refine raiseNew_hot ⟨hh, o1, vs1, Heap.get?_push_of_some _ (Heap.get?_push_of_some _ k1), d1, c1⟩ (Nat.ne_of_lt (Heap.lt_size (Heap.get?_push_of_some _ k1))) (Heap.get?_push_size _ rfl) rfl (by first | (simp; done) | (simp; omega) | (simp only [Array.size_append]; simp; omega)) ?_
  refine wpAny_bind (wpAny_isInstance (T := "StopIteration") (b := true) ⟨_, Heap.get?_update_self _ (Heap.get?_push_size _ rfl) rfl, rfl⟩ isSubtype_stop ?_)
  refine wpAny_pure (hQ _ fun b o hb e => ?_)
  have k2 : (s.heap.update it (Obj.mapFields (·.setIfInBounds 0 .none))).get? b = some o := (Heap.get?_update_other _ _ (Ne.symm hb)).trans e
  rw [Heap.get?_update_other _ _ (Nat.ne_of_gt (Heap.lt_size (Heap.get?_push_of_some _ k2)))]
  exact Heap.get?_push_of_some _ (Heap.get?_push_of_some _ k2)
theorem unpack_tup_hot {t x1 : Addr} {items : Array Value} {Q : List Value → Shared → Prop} (hot : HotAt A x1 s.heap) (ht : IsTup s.heap t items)
    (hQ : ∀ h', Heap.ExtBut s.heap.objs.size s.heap h' → Q items.toList { s with heap := h' }) : wpAny (model prog w) A (unpackItems (.ref t) items.size none) Q E s := by
  have hlt : t ≠ s.heap.objs.size := let ⟨o, ho, _⟩ := ht; Nat.ne_of_lt (Heap.lt_size ho)
  obtain ⟨hh, o1, vs1, h1, d1, c1⟩ := hot
  have hlx : x1 ≠ s.heap.objs.size := Nat.ne_of_lt (Heap.lt_size h1)
  unfold unpackItems
  refine wpAny_bind ?_
  unfold notIterableAtAll
  refine wpAny_bind (wpAny_specialOf ht.typeIs slot_tuple_iter.lookup (wpAny_pure ?_))
  simp only [Bool.false_eq_true, if_false]
  refine wpAny_bind (wpAny_holding (iter_tuple ht ?_))
  refine wpAny_bind (wpAny_holding (draw_tuple hlt items.size 0 _ _ ⟨_, Heap.get?_push_size _ rfl, rfl, rfl⟩ (ht.push _) (by omega) fun h2 hit2 hs2 => ?_))
  rw [show List.take items.size (List.drop 0 items.toList) = items.toList from List.take_of_length_le (by simp), if_neg (by simp)]
  have kx : h2.get? x1 = some o1 := (hs2.2 _ hlx).trans (Heap.get?_push_of_some _ h1)
  refine wpAny_bind (wpAny_holding (next_tup_hot (x1 := x1) ⟨hh, o1, vs1, kx, d1, c1⟩ hlx hit2 ((ht.push _).extBut hs2.extBut hlt) (by simp) fun h3 he3 => ?_))
  simp only [Option.isSome_none, Bool.false_eq_true, if_false]
  exact wpAny_pure (hQ h3 fun b o hb e => he3 b o hb (hs2.extBut b o hb (Heap.get?_push_of_some _ e)))
end
theorem ps_parH {X : Cx} {i j : Nat} {x y : Str} {a b : Expr} {ta : TA} {px py pt pos : Pos} {kt k2 : Nat} {pt2 : Pos} (hc : HotC X) (hN : X.N.Nodup) (hi : X.N[i]? = some x) (hj : X.N[j]? = some y) (hij : i ≠ j)
    (hx : X.env.scope.names.lookup x = some .local) (hy : X.env.scope.names.lookup y = some .local) (ha : PA X [a, b] ta) (hw : swappedStores [.Tuple [.Name x px, .Name y py] kt pt] (.Tuple [a, b] k2 pt2) X.env = pure (some [x, y]))
    (hs : swapsWithSole [.Tuple [.Name x px, .Name y py] kt pt] (.Tuple [a, b] k2 pt2) pos.line X.env = pure false := by rfl) :
    PS X (.Assign [.Tuple [.Name x px, .Name y py] kt pt] (.Tuple [a, b] k2 pt2) pos) (tPar i j ta) := by
  refine ⟨fun pins s σ H D I h => ?_⟩
  rw [exec_Assign_arm]
  refine wpAny_bind (wpAny_standAt ?_)
  rw [hs]
  refine wpAny_bind (wpAny_pure ?_)
  rw [if_neg (by decide)]
  refine wpAny_bind (Tuple_ (thn (ha.run _ pins s σ H _ I h) ?_))
  rintro us s1 ⟨vs, H1, I1, r1, v, w, rfl, q1⟩
  obtain ⟨u1, u2, rfl, rv, rw'⟩ : ∃ u1 u2, us = [u1, u2] ∧ RelV v u1 ∧ RelV w u2 := match r1 with | .cons p (.cons p' .nil) => ⟨_, _, rfl, p, p'⟩
  refine wpAny_newObj_type ?_ (by show 2 ≤ sizeLine; decide)
  have I2 : Inv X pins σ H1 { s1 with heap := s1.heap.push { cls := .type "tuple", data := .seq [u1, u2].toArray } } := I1.kept (t' := s1.toks) fun b o e => Heap.get?_push_of_some _ e
  rw [hw]
  refine wpAny_bind (wpAny_pure ?_)
  show wpAny (model X.prog X.w) X.A (do rule "assign.swapped-stores"; let items ← unpackItems (.ref s1.heap.objs.size) 2 none; assignInOrder [fun v => bindName X.env y v, fun v => bindName X.env x v] items.reverse; pure Flow.next) _ _ _
  obtain ⟨x1, hot⟩ := hc.at I2
  refine wpAny_bind (wpAny_rule (wpAny_bind (unpack_tup_hot (items := #[u1, u2]) hot (IsTup.new s1.heap _) fun h' hx' => ?_)))
  have I3 := I2.kept (h' := h') (t' := s1.toks) fun b o e => hx' b o (Nat.ne_of_lt (Heap.lt_size e)) e
  show wpAny _ _ (assignInOrder [fun v => bindName X.env y v, fun v => bindName X.env x v] [u2, u1] >>= fun _ => pure Flow.next) _ _ _
  refine wpAny_bind (assignInOrder_cons (wpAny_bindName (store_ok I3 hN hj (.inl hy) rw' (fun s2 I4 => ?_) (.inr hy))))
  refine assignInOrder_cons (wpAny_bindName (store_ok I4 hN hi (.inl hx) rv (fun s3 I5 => assignInOrder_nil (wpAny_pure ?_)) (.inr hx)))
  rw [List.set_comm _ _ (Ne.symm hij)] at I5
  exact ⟨_, H1, I5, q1⟩
/-- a clause's context bears the exception -/
theorem hot_suite {X : Cx} {a : Addr} {oe : Obj} {cls : Value} {d : Option Addr} {pn : List (Addr × Obj)} (hz : L2N.Zn cls d oe) (hf : ∃ vs, oe.data = .fields vs) : HotC (X.suite a ((a, oe) :: pn)) :=
  let ⟨vs, e⟩ := hf; ⟨(a, oe), ⟨rfl, vs, e, hz.2.2 vs e⟩, List.mem_cons_self⟩
theorem ds_parH {X : Cx} {O : Org} {i j : Nat} {x y : Str} {a b : Expr} {ta tb : DTE} {px py pt pos : Pos} {kt k2 : Nat} {pt2 : Pos} (hc : HotC X) (hN : X.N.Nodup) (hi : X.N[i]? = some x) (hj : X.N[j]? = some y) (hij : i ≠ j)
    (hx : X.env.scope.names.lookup x = some .local) (hy : X.env.scope.names.lookup y = some .local) (ha : DE X O a ta) (hb : DE X O b tb)
    (hw : swappedStores [.Tuple [.Name x px, .Name y py] kt pt] (.Tuple [a, b] k2 pt2) X.env = pure (some [x, y]))
    (hs : swapsWithSole [.Tuple [.Name x px, .Name y py] kt pt] (.Tuple [a, b] k2 pt2) pos.line X.env = pure false := by rfl)
    (h1 : starEach (a :: [b]) X.env = (false, eval a X.env) :: starEach [b] X.env := by rfl) (h2 : starEach (b :: []) X.env = (false, eval b X.env) :: starEach [] X.env := by rfl) :
    DS X O (.Assign [.Tuple [.Name x px, .Name y py] kt pt] (.Tuple [a, b] k2 pt2) pos) (dPar i j ta tb) :=
  (ps_parH hc hN hi hj hij hx hy (das_cons (O := O) ha (das_cons hb das_nil h2) h1) hw hs).wk fun D σ H ⟨τ, M, E, b, t, pn, pr⟩ =>
    ⟨τ, M, _, b, t, fun d M1 v H1 q f a h => ⟨τ, M1, _, b.step f a, q, fun d2 M2 v2 H2 q2 f2 a2 h2 => ⟨v, v2, rfl, pn _ M2 _ H2 q2 (f.trans f2) a2 (((b.s.fr (f.trans f2)).set (h.fr f2) i).set h2 j)⟩⟩⟩
end Rh
/-! DL32: a lambda without parameters, handed to a def that calls it. -/
namespace Rh
open PySem PySem.Spec PyProof.Rows L2 LamX

theorem no_ext {K : PySem.W.Frag} {H : Hp} {M : DHp} (A : AbH K H M) {a : Addr} {φ : Heap → Prop} (e : H a = some (.ext φ)) : M a = none := by
  cases q : M a with
  | none => rfl
  | some o =>
    have z := A a o q
    cases o with
    | lst ds => obtain ⟨_, z, _⟩ := z; rw [e] at z; cases z
    | dK ks ds => obtain ⟨_, z, _⟩ := z; rw [e] at z; cases z
    | ins C ns ds => obtain ⟨_, _, z, _⟩ := z; rw [e] at z; cases z
    | tab q => obtain ⟨_, z, _⟩ := z; rw [e] at z; cases z
    | dT ks ds => obtain ⟨_, z, _⟩ := z; rw [e] at z; cases z
    | fT od vs ks ds => obtain ⟨z, _⟩ := z; rw [e] at z; cases z
    | lam L i cs => obtain ⟨_, _, _, _, z, _⟩ := z; rw [e] at z; cases z
    | cel d => obtain ⟨_, _, _, z, _⟩ := z; rw [e] at z; cases z
    | fK od vs ks ds => obtain ⟨z, _⟩ := z; rw [e] at z; cases z
section
variable {X : Cx} {pins : List (Addr × Obj)} {σ : L2.St} {H : Hp} {s : Shared} {M : DHp}
/-- the lambda's object; of the heap only the table and a code object are new -/
theorem lam_obj {c P : Addr} {params : Arguments} {body : Expr} {scope : Scope} {pos : Pos} {E : Value → Shared → Prop} {Q : Value → Shared → Prop} (I : Inv X pins σ H s) (A : AbH X.K H M) (TB : TabB X.base X.mg c P) (hcode : X.env.code = .ref c)
    (em : M P = some (.tab (X.env.qual ++ "<lambda>"))) (hdef : defaultsOf params X.env = ([], [])) (hfree : ∀ y ∈ scope.names, y.2 = .free → ∃ c, X.env.cells.lookup y.1 = some c)
    (h : ∀ (f c' : Addr) (pm ctv : Value) (H1 : Hp) (s' : Shared), Inv X pins σ H1 s' → Fr H M H1 M → AbH X.K H1 M →
      s'.heap.get? f = some (PySem.W.kla_obj "<lambda>" (X.env.qual ++ "<lambda>") params body scope (cloFrom X.env.cells scope.names []) pm c' ctv) → H1 f = none → f ∉ frs X.stack → s.heap.objs.size ≤ f → H1 c' = some (CodeO c' (X.env.qual ++ "<lambda>")) → Q (.ref f) s') :
    wpAny (model X.prog X.w) X.A (eval (.Lambda params body scope pos) X.env) Q E s := by
  obtain ⟨ps, hP, ht, ha⟩ := A P _ em
  refine PySem.W.kla_eval hdef ?_
  have bP : s.heap.BuiltinsAt X.mg P := TB.bm.keeps I.bk
  have hP' : s.heap.get? P = some { cls := .none, data := .fields ps } := I.hok P _ hP
  have nofr : ∀ f, s.heap.objs.size ≤ f → f ∉ frs X.stack := fun f hf z => by
    rcases List.mem_cons.mp (I.stkSub _ z) with e | e
    · exact absurd hf (Nat.not_le.mpr (e ▸ I.lt))
    · exact I.nofs hf e
  cases hc : codeAmong pos ps.toList with
  | some cv =>
    obtain ⟨c', rfl, _, hco⟩ := ha pos cv hc
    refine PySem.W.kla_makeFunctionHit (mg := X.mg) (c := c) (P := P) (ps := ps) (closure_ok hfree) I.ok.glob (I.mod.glob.keeps I.bk) hcode (TB.code.keeps I.bk) hP' ht hc bP fun ctv h' tk hx hsz => ?_
    exact h h'.objs.size c' _ ctv H _ (I.kept fun b o e => Heap.get?_push_of_some _ (hx b o e)) (Fr.refl H M) A (Heap.get?_push_size _ rfl) (I.hok.fresh hsz) (nofr _ hsz) hsz hco
  | none =>
    refine PySem.W.kla_makeFunction (mg := X.mg) (c := c) (P := P) (ps := ps) (closure_ok hfree) I.ok.glob (I.mod.glob.keeps I.bk) hcode (TB.code.keeps I.bk) hP' ht hc TB.gP bP fun c' ctv h' tk hx hge hlt hrec htb => ?_
    obtain ⟨c2, oc, vs, t, e2, hoc, hd, hv⟩ := hrec
    cases e2
    have hsz : s.heap.objs.size ≤ h'.objs.size := Nat.le_trans hge (Nat.le_of_lt hlt)
    have nC : H c' = none := I.hok.fresh hge
    have nM : M c' = none := A.fresh nC
    have nPc : P ≠ c' := ne_of_none hP nC
    have I1 := inv_table (t' := tk) (more := #[rawInt pos.line, rawInt pos.col, .ref c']) (h' := h'.push (PySem.W.kla_obj "<lambda>" (X.env.qual ++ "<lambda>") params body scope (cloFrom X.env.cells scope.names []) ((X.mg "__name__").getD .none) c' ctv)) I hP
      (fun b o hb e => Heap.get?_push_of_some _ (hx b o hb e)) (Heap.get?_push_of_some _ htb) hge ⟨oc, vs, t, Heap.get?_push_of_some _ hoc, hd, hv⟩
    have st : ∀ b, b ≠ P → b ≠ c' → upd (upd H P (.tbl (ps ++ #[rawInt pos.line, rawInt pos.col, .ref c']))) c' (CodeO c' (X.env.qual ++ "<lambda>")) b = H b := fun b h1 h2 => (upd_ne h2).trans (upd_ne h1)
    have fr : Fr H M (upd (upd H P (.tbl (ps ++ #[rawInt pos.line, rawInt pos.col, .ref c']))) c' (CodeO c' (X.env.qual ++ "<lambda>"))) M :=
      ⟨fun b o e n => (st b (fun z => by rw [z, em] at n; cases n) (ne_of_none e nC)).trans e, fun _ _ _ n => n⟩
    refine h h'.objs.size c' _ ctv _ _ I1 fr (fun b o e => ?_) (Heap.get?_push_size _ rfl) ?_ (nofr _ hsz) hsz upd_same
    · by_cases hb : b = P
      · subst hb
        rw [em] at e
        cases e
        have eL : (ps ++ #[rawInt pos.line, rawInt pos.col, .ref c']).toList = ps.toList ++ [rawInt pos.line, rawInt pos.col, .ref c'] := by simp
        refine ⟨_, (upd_ne nPc).trans upd_same, by rw [eL]; exact PySem.TriplesOk_snoc _ _ _ _ ht, fun p' cv y => ?_⟩
        rw [eL] at y
        rcases among_app _ ht y with z | z
        · obtain ⟨b0, e1, n1, e2⟩ := ha p' cv z
          exact ⟨b0, e1, n1, fr.eq _ _ e2 n1⟩
        · exact ⟨c', z, nM, upd_same⟩
      · exact (A b o e).fr fr (st b hb fun z => by rw [z, nM] at e; cases e)
    · have n1 : h'.objs.size ≠ c' := Nat.ne_of_gt hlt
      have n2 : h'.objs.size ≠ P := Nat.ne_of_gt (Nat.lt_of_lt_of_le (Heap.lt_size hP') hsz)
      exact ((upd_ne n1).trans (upd_ne n2)).trans (I.hok.fresh hsz)
end
/-! ### over data -/
end Rh
/-! DL33: the head and the end of a law whose defs make lambdas: tables of code objects. -/
namespace Rh
open PySem PySem.Spec PyProof.Rows L2 LamX

/-! ### what the head looks at -/
def isTab (o : Obj) : Bool := match o with
  | ⟨.none, none, .fields vs, sl⟩ => vs.isEmpty && sl.isEmpty
  | _ => false
theorem isTab_ok {o : Obj} (h : isTab o = true) : o = { cls := .none, data := .fields #[] } := by
  unfold isTab at h
  split at h
  · rename_i vs sl
    obtain ⟨h1, h2⟩ := Bool.and_eq_true_iff.mp h
    rw [Array.isEmpty_iff.mp h1, Array.isEmpty_iff.mp h2]
  · cases h
/-- a def's code object, its table -/
def codC (K : PySem.W.Frag) (f : Addr) : Addr := match K.lookup f with
  | some ⟨_, _, .func fd, _⟩ => (match fd.code with
    | .ref c => c
    | _ => 0)
  | _ => 0
def tabP (K : PySem.W.Frag) (f : Addr) : Addr := match K.lookup (codC K f) with
  | some ⟨_, _, .fields vs, _⟩ => (match vs.getD 11 .none with
    | .ref p => p
    | _ => 0)
  | _ => 0
def vlS : Value → Bool
  | .str _ _ => true
  | _ => false
def vlI : Value → Bool
  | .int _ _ => true
  | _ => false
def vlB : Value → Bool
  | .bool _ => true
  | _ => false
def fnCode (K : PySem.W.Frag) (f : Addr) : Bool := match K.lookup f with
  | some ⟨_, _, .func fd, _⟩ => fd.code == .ref (codC K f)
  | _ => false
def codeTab (K : PySem.W.Frag) (f : Addr) : Bool := match K.lookup (codC K f) with
  | some ⟨cl, _, .fields vs, _⟩ => cl == .type "code" && (decide (11 < vs.size) && (vs.getD 11 .none == .ref (tabP K f) && (vlS (vs.getD 18 .none) && (vlI (vs.getD 7 .none) && (vlB (vs.getD 9 .none) && vlI (vs.getD 10 .none))))))
  | _ => false
def tabB (g : Addr → Option Obj) (K : PySem.W.Frag) (f : Addr) : Bool := fnCode K f && (codeTab K f && (decide (codC K f ≠ tabP K f) && ((K.lookup (tabP K f)).isNone && match g (tabP K f) with
  | some o => isTab o
  | none => false)))
/-- the table of the def at f is there, empty, and not of the written part -/
structure TabAt (h : Heap) (K : PySem.W.Frag) (f : Addr) : Prop where
  code : fnCode K f = true
  hd : PySem.W.CodeHd h (codC K f) (tabP K f)
  no : K.lookup (tabP K f) = none
  emp : h.get? (tabP K f) = some { cls := .none, data := .fields #[] }
theorem TabAt.keeps {h h' : Heap} {K : PySem.W.Frag} {f : Addr} (t : TabAt h K f) (k : ∀ b o, h.get? b = some o → h'.get? b = some o) : TabAt h' K f := ⟨t.code, t.hd.keeps k, t.no, k _ _ t.emp⟩
theorem code_of {h : Heap} {K : PySem.W.Frag} {f : Addr} {oc : Value} {od : Option Addr} {fd : FuncData} {sl : Array (Option Value)} (t : TabAt h K f) (e : K.lookup f = some ⟨oc, od, .func fd, sl⟩) : fd.code = .ref (codC K f) := by
  have z := t.code
  unfold fnCode at z
  rw [e] at z
  exact beq_iff_eq.mp z
theorem vlS_ok {v : Value} (h : vlS v = true) : ∃ x t, v = .str x t := by
  cases v <;> first | exact ⟨_, _, rfl⟩ | cases h
theorem vlI_ok {v : Value} (h : vlI v = true) : ∃ x t, v = .int x t := by
  cases v <;> first | exact ⟨_, _, rfl⟩ | cases h
theorem vlB_ok {v : Value} (h : vlB v = true) : ∃ x, v = .bool x := by
  cases v <;> first | exact ⟨_, rfl⟩ | cases h
theorem tabB_ok {h : Heap} {K : PySem.W.Frag} {f : Addr} (KX : K.In h) (t : tabB h.get? K f = true) : TabAt h K f := by
  obtain ⟨h1, t⟩ := Bool.and_eq_true_iff.mp t
  obtain ⟨h2, t⟩ := Bool.and_eq_true_iff.mp t
  obtain ⟨h3, t⟩ := Bool.and_eq_true_iff.mp t
  obtain ⟨h4, h5⟩ := Bool.and_eq_true_iff.mp t
  refine ⟨h1, ?_, Option.isNone_iff_eq_none.mp h4, ?_⟩
  · unfold codeTab at h2
    split at h2
    · rename_i cl dd vs sl e
      obtain ⟨g1, h2⟩ := Bool.and_eq_true_iff.mp h2
      obtain ⟨g2, h2⟩ := Bool.and_eq_true_iff.mp h2
      obtain ⟨g3, h2⟩ := Bool.and_eq_true_iff.mp h2
      obtain ⟨g4, h2⟩ := Bool.and_eq_true_iff.mp h2
      obtain ⟨g5, h2⟩ := Bool.and_eq_true_iff.mp h2
      obtain ⟨g6, g7⟩ := Bool.and_eq_true_iff.mp h2
      obtain ⟨s1, s2, e4⟩ := vlS_ok g4
      obtain ⟨i1, i2, e5⟩ := vlI_ok g5
      obtain ⟨b1, e6⟩ := vlB_ok g6
      obtain ⟨j1, j2, e7⟩ := vlI_ok g7
      have l : 11 < vs.size := of_decide_eq_true g2
      have e3 := beq_iff_eq.mp g3
      refine ⟨_, vs, s1, s2, i1, i2, b1, j1, j2, KX _ _ e, beq_iff_eq.mp g1, rfl, ?_, e3, e4, e5, e6, e7, of_decide_eq_true h3⟩
      rw [Array.getD_eq_getD_getElem?, Array.getElem?_eq_getElem l] at e3
      rw [Array.getElem?_eq_getElem l]
      exact congrArg some e3
    · cases h2
  · split at h5
    · rename_i o e
      rw [e, isTab_ok h5]
    · cases h5
/-! ### the hook -/
abbrev AlT := AlR × Bool
def asF (g : Addr → Option Obj) (n : Nat) : List Addr := (He5.asA g n).filter fun a => match g a with
  | some o => !isTab o
  | none => true
abbrev FA := PySem.W.Frag → Addr
def obsT (n : Nat) (ex : List FB) (fn : List He5.DefA) (tn : List FA) (g : Addr → Option Obj) : AlT := ((He5.obsA [] fn (He.frG g (asF g n)), ex.all fun b => b (He.frG g (asF g n))), tn.all fun d => tabB g (He.frG g (asF g n)) (d (He.frG g (asF g n))))
def hookT (n : Nat) (ex : List FB) (fn : List He5.DefA) (tn : List FA) : PySem.W.Hook :=
  { α := AlT, obs := fun s => obsT n ex fn tn s.heap.get?, val := fun _ => ((He5.valA fn, true), true), says := fun _ h => ∃ K : PySem.W.Frag, K.In h ∧ SaysR ex fn K ∧ ∀ d ∈ tn, TabAt h K (d K),
    of := fun _ _ e => ⟨_, He.frG_in, ⟨congrArg (fun z : AlT => z.1.1) e, congrArg (fun z : AlT => z.1.2) e⟩, fun d hd => tabB_ok He.frG_in (List.all_eq_true.mp (congrArg (fun z : AlT => z.2) e) d hd)⟩,
    keeps := fun _ _ _ ⟨K, i, c, t⟩ k => ⟨K, i.keeps k, c, fun d hd => (t d hd).keeps k⟩ }
theorem obsT_eq {n : Nat} {ex : List FB} {fn : List He5.DefA} {tn : List FA} {g : Addr → Option Obj} {s : Shared} (h : ∀ a, g a = s.heap.get? a) : obsT n ex fn tn g = (hookT n ex fn tn).obs s := by
  obtain rfl : g = s.heap.get? := funext h
  rfl
/-! ### the end -/
/-- the tables at the law's start -/
def tabM (ts : List (Addr × Str)) : DHp := fun a => (ts.lookup a).map DO.tab
theorem tabM_at : ∀ {ts : List (Addr × Str)} {i : Nat} {p : Addr} {q : Str}, (ts.map (·.1)).Nodup → ts[i]? = some (p, q) → tabM ts p = some (.tab q)
  | [], _, _, _, _, e => by simp at e
  | x :: ts, 0, p, q, _, e => by
    rw [List.getElem?_cons_zero] at e
    cases e
    unfold tabM
    rw [List.lookup_cons_self]
    rfl
  | x :: ts, i + 1, p, q, nd, e => by
    rw [List.getElem?_cons_succ] at e
    rw [List.map_cons, List.nodup_cons] at nd
    have ne : p ≠ x.1 := fun z => nd.1 (List.mem_map.mpr ⟨(p, q), List.mem_of_getElem? e, z⟩)
    have r := tabM_at nd.2 e
    unfold tabM at r ⊢
    rw [← r]
    obtain ⟨x1, x2⟩ := x
    rw [List.lookup_cons, show (p == x1) = false by simpa using ne]
theorem look_mem {a : Addr} {q : Str} : ∀ {ts : List (Addr × Str)}, ts.lookup a = some q → (a, q) ∈ ts
  | [], e => by cases e
  | (x1, x2) :: ts, e => by
    rw [List.lookup_cons] at e
    cases z : a == x1 with
    | true =>
      rw [z] at e
      cases e
      rw [beq_iff_eq.mp z]
      exact List.mem_cons_self
    | false =>
      rw [z] at e
      exact List.mem_cons_of_mem _ (look_mem e)
section
variable {P : Program} {w : World} {K : PySem.W.Frag} {mg mb : Str → Option Value} {p : Addr} {us : List Value} {ns : List Int} {st : Shared} {cs : List (Addr × Addr × Str)}
def csP (cs : List (Addr × Addr × Str)) : List Addr := cs.map fun x => x.2.1
def scT (K : PySem.W.Frag) (p : Addr) (us : List Value) (ns : List Int) (cs : List (Addr × Addr × Str)) : Hp := fun b => if b ∈ csP cs then some (.tbl #[]) else scH K p us ns b
abbrev tab0 : Obj := { cls := .none, data := .fields #[] }
theorem scT_base {b : Addr} {o : Obj} (at_ : st.heap.get? p = some (scO us)) (nb : b ∉ csP cs) (e : st.heap.get? b = some o) (h : o ≠ scO us ∨ K.lookup b = some o) : (hidT st.heap (scT K p us ns cs)).get? b = some o := by
  refine hidT_get e ((if_neg nb).trans ?_)
  by_cases hb : b = p
  · subst hb
    rw [at_] at e
    rcases h with h | h
    · exact absurd (Option.some.inj e).symm h
    · exact scH_no (.inr (by rw [h]; exact fun z => nomatch z))
  · exact scH_no (.inl hb)
theorem notTab {b : Addr} {o : Obj} (hT : ∀ b ∈ csP cs, st.heap.get? b = some tab0) (e : st.heap.get? b = some o) (n0 : o.data ≠ .fields #[]) : b ∉ csP cs := fun z => n0 (by rw [← Option.some.inj ((hT b z).symm.trans e)])
theorem scT_ns {m : Str → Option Value} {b : Addr} (at_ : st.heap.get? p = some (scO us)) (hT : ∀ b ∈ csP cs, st.heap.get? b = some tab0) (h : st.heap.Ns b m) : (hidT st.heap (scT K p us ns cs)).Ns b m := by
  obtain ⟨o, es, ep, e, d, r⟩ := h
  refine ⟨o, es, ep, scT_base at_ (notTab hT e (by rw [d]; exact fun z => nomatch z)) e (.inl fun z => ?_), d, r⟩
  rw [z] at d
  cases (show Data.seq us.toArray _ = Data.dict es ep from d)
theorem law_callT {k : Nat} {f : Addr} {fd : FuncData} {x : Str} {sp : DSp} (KX : K.In st.heap) (hns : st.heap.Ns mainGlobals mg) (hb : st.heap.Ns builtinsNs mb) (hbb : ∀ x : Str, x ≠ "__name__" → mb x = bootBuiltins x) (hlim : st.heap.NoLimit) (hg : st.gens = #[])
    (hbm : ∃ (bm : Addr) (ob : Obj), mg "__builtins__" = some (.ref bm) ∧ bm ≠ builtinsNs ∧ st.heap.get? bm = some ob ∧ ob.cls = .type "module" ∧ ob.dict = some builtinsNs ∧ ob.data = .plain)
    (hT : ∀ b ∈ csP cs, st.heap.get? b = some tab0) (nT : ∀ b ∈ csP cs, K.lookup b = none) (hC : ∀ x ∈ cs, PySem.W.CodeHd st.heap x.1 x.2.1)
    (at_ : st.heap.get? p = some (scO us)) (hi : IntsAre us ns) (sm : ns.length ≤ sizeLine) (hr : Room k callerA) (F : ∀ base : Heap, K.In base → base.Ns mainGlobals mg → (∀ x ∈ cs, TabB base mg x.1 x.2.1) → DFnG P w K mg base k f fd [x] sp)
    (hbind : ∀ (s : Shared) (u : Value), BindsTo s fd ⟨[u], []⟩ [(x, u)]) (hsp : ∀ Q : DVK, (∀ M, Q (.bl true) M) → sp [.scr ns] (tabM (cs.map (·.2))) Q noX) :
    codeAny (model P w) callerA (.call (.ref f) ⟨[.ref p], []⟩) (fun r s' => r = .ok (.ret (.bool true)) ∧ OldK st.heap s'.heap ∧ s'.os = st.os ∧ AllBare s'.gens) st := by
  have pT : p ∉ csP cs := notTab hT at_ (fun z => nomatch z)
  have HT : ∀ {b : Addr}, b ∈ csP cs → scT K p us ns cs b = some (.tbl #[]) := fun h => if_pos h
  have HN : ∀ {b : Addr}, b ∉ csP cs → scT K p us ns cs b = scH K p us ns b := fun h => if_neg h
  have kin : K.In (hidT st.heap (scT K p us ns cs)) := fun b o e => scT_base at_ (fun z => by rw [nT b z] at e; cases e) (KX b o e) (.inr e)
  have M0 : Mod K mg (hidT st.heap (scT K p us ns cs)) := ⟨kin, scT_ns at_ hT hns, ⟨mb, scT_ns at_ hT hb, hbb⟩, let ⟨mc, h1, h2⟩ := hlim; ⟨mc, scT_ns at_ hT h1, h2⟩⟩
  have H0 : HOk P w (scT K p us ns cs) st.heap := fun b u z => by
    by_cases h : b ∈ csP cs
    · rw [HT h] at z
      cases z
      exact hT b h
    · rw [HN h] at z
      obtain ⟨rfl, _, rfl⟩ := scH_some z
      exact ⟨at_, by rw [List.length_map]; exact sm, us, _, vals_ints hi, at_⟩
  have TB : ∀ x ∈ cs, TabB (hidT st.heap (scT K p us ns cs)) mg x.1 x.2.1 := fun x hx => by
    have mx : x.2.1 ∈ csP cs := List.mem_map.mpr ⟨x, hx, rfl⟩
    have hTp := hT _ mx
    refine ⟨?_, ?_, fun z => ?_⟩
    · obtain ⟨o, vs, file, tf, flags, tg, inF, text, tt, e1, r1, r2, r3, r4⟩ := hC x hx
      refine ⟨o, vs, file, tf, flags, tg, inF, text, tt, scT_base at_ (notTab hT e1 fun z => ?_) e1 (.inl fun z => ?_), r1, r2, r3, r4⟩
      · rw [r2] at z
        cases z
        simp at r3
      · rw [z] at r2
        cases (show Data.seq us.toArray _ = Data.fields vs from r2)
    · obtain ⟨bm, ob, b1, b2, b3, b4, b5, b6⟩ := hbm
      have nG : bm ≠ mainGlobals := fun q => by
        obtain ⟨o, es, ep, e, hd, _⟩ := hns
        rw [q, e] at b3
        cases b3
        rw [hd] at b6
        cases b6
      have nP : bm ∉ csP cs := notTab hT b3 (by rw [b6]; exact fun z => nomatch z)
      refine ⟨bm, ob, b1, b2, nG, fun q => nP (q ▸ mx), scT_base at_ nP b3 (.inl fun z => ?_), b4, b5, b6⟩
      rw [z] at b6
      cases (show Data.seq us.toArray _ = Data.plain from b6)
    · obtain ⟨o, es, ep, e, hd, _⟩ := hns
      rw [z, hTp] at e
      cases e
      cases hd
  have E0_ : Env0 P w K mg (hidT st.heap (scT K p us ns cs)) callerA [] st (scT K p us ns cs) :=
    { frames := rfl, mod := M0, bs := fun b o => of_hidT, bsz := Nat.le_of_eq (hidT_size _ _), funs := trivial, frf := fun b hb => by simp [frs] at hb, hok := H0, bare := .of_eq hg }
  have mT : ∀ {a : Addr} {o : DO}, tabM (cs.map (·.2)) a = some o → a ∈ csP cs ∧ ∃ q, o = .tab q := fun {a o} e => by
    unfold tabM at e
    cases z : (cs.map (·.2)).lookup a with
    | none => rw [z] at e; cases e
    | some q =>
      rw [z] at e
      refine ⟨?_, q, (Option.some.inj e).symm⟩
      obtain ⟨x, hx, e2⟩ := List.mem_map.mp (look_mem z)
      exact List.mem_map.mpr ⟨x, hx, by rw [e2]⟩
  have pM : tabM (cs.map (·.2)) p = none := by
    cases z : tabM (cs.map (·.2)) p with
    | none => rfl
    | some o => exact absurd (mT z).1 pT
  have ab : AbH K (scT K p us ns cs) (tabM (cs.map (·.2))) := fun a o e => by
    obtain ⟨h1, q, rfl⟩ := mT e
    exact ⟨#[], HT h1, True.intro, fun pos cv hc => by
      have z : codeAmong pos [] = some cv := hc
      simp [codeAmong] at z⟩
  have kl : KL K (scT K p us ns cs) (tabM (cs.map (·.2))) p (ns.map V.int) := by
    rcases scH_kl (ns := ns) KX at_ hi sm with ⟨_, z⟩ | z
    · refine .inl ⟨pM, ?_⟩
      rcases z with z | ⟨o, z⟩
      · exact .inl ((HN pT).trans z)
      · exact .inr ⟨o, (HN pT).trans z⟩
    · exact .inr z
  have pre : liftSp K sp [.ref p] (scT K p us ns cs) (fun v _ => v = .bl true) (fun _ _ _ => False) :=
    ⟨[.scr ns], _, fun d _ => d = .bl true, noX, ab, HasL.one (show Has K _ _ (.scr ns) (.ref p) from ⟨p, rfl, kl⟩), hsp _ fun _ => rfl, fun d M' v H' q _ _ h => by rw [show d = .bl true from q] at h; exact h, PostX.no⟩
  refine codeAny_mono ((F _ M0.kin M0.glob TB).run callerA [] st (scT K p us ns cs) ⟨[.ref p], []⟩ [.ref p] [.ref p] _ _ rfl hr E0_ (hbind st (.ref p)) (.cons rfl .nil) pre) fun r s' z => ?_
  match r, z with
  | .error ex, z =>
    obtain ⟨_, _, _, _, _, _, _, _, _, _, _, _, no⟩ := (show L2N.CX P w [] (scT K p us ns cs) st (fun _ _ _ => False) ex s' from z)
    exact no.elim
  | .ok (.ret u), z =>
    obtain ⟨v, H1, os, bare, un, ok1, rv, q⟩ := z
    obtain rfl : v = .bl true := q
    obtain rfl : u = Value.bool true := rv
    have key : ∀ b o, b ∉ csP cs → st.heap.get? b = some o → s'.heap.get? b = some o := fun b o nb e => by
      cases eb : scH K p us ns b with
      | none => exact un.keep b o e ((HN nb).trans eb) (by simp [frs]) (by simp)
      | some hb =>
        obtain ⟨rfl, _, rfl⟩ := scH_some eb
        have z2 := ok1 b _ (un.frzs b _ _ ((HN nb).trans eb))
        rw [at_] at e
        obtain rfl : scO us = o := Option.some.inj e
        exact z2.1
    have grown : ∀ x ∈ cs, ∃ more : Array Value, s'.heap.get? x.2.1 = some { cls := .none, data := .fields more } := fun x hx => by
      obtain ⟨more, z⟩ := un.tbls x.2.1 #[] (HT (List.mem_map.mpr ⟨x, hx, rfl⟩))
      exact ⟨_, ok1 _ _ z⟩
    refine ⟨rfl, ⟨fun b o e => ?_, fun b o e => ?_⟩, os, bare⟩
    · by_cases hb : b ∈ csP cs
      · obtain ⟨x, hx, rfl⟩ := List.mem_map.mp hb
        obtain ⟨more, hm⟩ := grown x hx
        rw [hT _ hb] at e
        cases e
        exact .inr (.inl ⟨((hC x hx).tab (hT _ hb)).isCodeTable, rfl, #[], more, rfl, by rw [Array.empty_append]; exact hm⟩)
      · exact .inl (key b o hb e)
    · by_cases hb : b ∈ csP cs
      · obtain ⟨x, hx, rfl⟩ := List.mem_map.mp hb
        obtain ⟨more, hm⟩ := grown x hx
        exact ⟨_, hm⟩
      · exact ⟨o, key b o hb e⟩
end
/-- what the head leaves, from the law's promise over data -/
theorem walk_ofT {l : PySem.W.OpenLaw} {n k : Nat} {q : Program} {loose : List Str} {XP : (Str → Option Value) → Heap → Prop} {YP : World → Heap → Prop} {d : DefRec} {x : Str} (hn : l.most = some n) (hn2 : n ≤ sizeLine) (hdf : d.params.defaults = []) (hr : Room k callerA)
    (F : ∀ (w : World) (mg : Str → Option Value) (f : Addr) (h : Heap), YP w h → h.Ns mainGlobals mg → mg d.name = some (.ref f) → ∃ (K : PySem.W.Frag) (fd : FuncData) (cs : List (Addr × Addr × Str)) (sp : DSp), K.In h ∧ (∀ b ∈ csP cs, h.get? b = some tab0) ∧ (∀ b ∈ csP cs, K.lookup b = none) ∧ (∀ x ∈ cs, PySem.W.CodeHd h x.1 x.2.1) ∧ (∀ (s : Shared) (u : Value), BindsTo s fd ⟨[u], []⟩ [(x, u)]) ∧
      (∀ ns : List Int, ns.length ≤ n → (∀ i ∈ ns, Builtin.Int.intBits i ≤ 1048576) → ∀ Q : DVK, (∀ M, Q (.bl true) M) → sp [.scr ns] (tabM (cs.map (·.2))) Q noX) ∧ ∀ base : Heap, K.In base → base.Ns mainGlobals mg → (∀ x ∈ cs, TabB base mg x.1 x.2.1) → DFnG l.prog w K mg base k f fd [x] sp) :
    PySem.W.WalkO q loose XP YP l.row.toRowW d [] (fun f vs => PySem.call f vs) := by
  refine Att.attach_callB hn hdf fun w s0 st mg mb f o pm cd doc p us ns G Y _ _ _ hmg at_ hi hl bits hg => ?_
  obtain ⟨K, fd, cs, sp, KX, hT, nT, hC, hb, hsp, hF⟩ := F w mg f _ Y G.T.g hmg
  exact law_callT KX G.T.g G.T.b G.T.builtins G.T.nolimit hg G.T.bmain hT nT hC at_ hi (Nat.le_trans hl hn2) hr hF hb (hsp ns hl bits)
end Rh
/-! DL34: packages and facts for raising, catching, lambdas. -/
namespace Rh
open PySem PySem.Spec PyProof.Rows L2 LamX

/-! ### a def that makes lambdas: its code object is known -/
section
variable {P : Program} {w : World} {K : PySem.W.Frag} {mg : Str → Option Value} {base : Heap}
theorem FnG.mkC {C : CXT} {x qual : Str} {params : Arguments} {body : List Stmt} {scope : Scope} {dvs : List V} {kws : List (Str × V)} {f cc : Addr} {fd : FuncData} {N ps : List Str} {k : Nat} {sp : Sp} (F : FunD K x qual params body scope dvs kws f fd) (hc : fd.code = .ref cc) (S : FnScope N ps scope) (len : ∀ vs H Q E, sp vs H Q E → vs.length = ps.length)
    (hbody : ∀ (A : Around) (out : List Env) (s : Shared) (H : Hp) (vs : List V) (Q : VK) (E : XK), A.guards = some [] → Room k (A.deeper (envOfC qual scope s.heap.objs.size f (.ref cc))) → sp vs H Q E →
      ∃ t, PSs (cxOf C P w K mg base N qual scope f (.ref cc) A out s H E) body t ∧ t { nx := fun _ H' => Q .non H', rt := Q } (L2.start N vs) H) : FnG P w K mg base C (k + 1) f fd ps sp := by
  obtain ⟨oc, od, dV, kV, doc, pm, an, cdv, ct, osl, rfl, lk, hcd, _, _⟩ := F.ex
  obtain rfl : cdv = .ref cc := hc
  refine ⟨len, fun A out s H as us vs Q E hG hr e0 hb r hsp => ?_⟩
  have KX : K.In s.heap := e0.mod.kin.keeps fun b o e => (e0.bs b o e).1
  have lim : s.heap.NoLimit := e0.mod.nolimit.keeps fun b o e => (e0.bs b o e).1
  have loc : ∀ y ∈ ps.zip us, scope.names.lookup y.1 = some .local ∨ (scope.names.lookup y.1 = some .cell ∧ ((cellsFrom (s.heap.objs.size + 1) scope.names []).lookup y.1).isSome = true) := by
    rintro ⟨n, v⟩ hy
    exact (S.par n (List.of_mem_zip hy).1).imp id fun q => ⟨q, PySem.W.cellsFrom_some _ _ _ (.inl q)⟩
  refine codeAny_call_function hr.depth (KX _ _ lk) rfl S.co S.gen rfl (PySem.W.codeRec_of KX hcd) (hb _ _ _ _ ?_)
  refine wpAny_newFunctionEnv_cells S.kind loc fun env he s1 x => ?_
  subst he
  refine ⟨lim.keeps x.toInCall.keep, codeAny_func ?_⟩
  obtain ⟨t, ht, hq⟩ := hbody A out s H vs Q E hG (hr.deeper _) hsp
  refine wpAny_mono (ht.run [] s1 (L2.start N vs) H _ (inv_start S hr.hd e0 (len _ _ _ _ hsp) r x) hq) (fun fl s' hs => ?_) fun e s' hs => hs
  have z := flow_end (P := P) (w := w) (C := C) (E := E) rfl rfl rfl rfl rfl rfl hs
  cases fl with
  | ret u => exact z
  | next => exact z
  | brk => obtain ⟨_, _, _, q⟩ := hs; exact q.elim
  | cont => obtain ⟨_, _, _, q⟩ := hs; exact q.elim
theorem dfnG_okC {x qual : Str} {params : Arguments} {body : List Stmt} {scope : Scope} {dvs : List V} {kws : List (Str × V)} {f cc : Addr} {fd : FuncData} {N ps : List Str} {k : Nat} {sp : DSp} (F : FunD K x qual params body scope dvs kws f fd) (hc : fd.code = .ref cc) (S : FnScope N ps scope) (len : ∀ ds M Q E, sp ds M Q E → ds.length = ps.length)
    (hbody : ∀ (A : Around) (outer : List Env) (s : Shared) (H : Hp) (E : XK) (O : Org) (W : DWX), A.guards = some [] → Room k (A.deeper (envOfC qual scope s.heap.objs.size f (.ref cc))) →
      L2N.Takes (cxOf (L2N.CX P w) P w K mg base N qual scope f (.ref cc) A outer s H E) (liftW K O W) →
      ∃ t : DTS, DSs (cxOf (L2N.CX P w) P w K mg base N qual scope f (.ref cc) A outer s H E) O body t ∧ ∀ ds M Q E', sp ds M Q E' → W = fnW E' → t (fnEnds Q) (startD N ds) M) :
    DFnG P w K mg base (k + 1) f fd ps sp := by
  refine FnG.mkC F hc S (fun vs H Q E h => ?_) (fun A outer s H vs Q E hG hr h => ?_)
  · obtain ⟨ds, M, Q', E', _, r, q, _⟩ := h
    rw [r.len]; exact len _ _ _ _ q
  · obtain ⟨ds, M, Q', E', ah, r, q, p, px⟩ := h
    have tk0 : L2N.Takes (cxOf (L2N.CX P w) P w K mg base N qual scope f (.ref cc) A outer s H E) (fun cls d _ H => E cls d H) := L2N.takes_of rfl rfl rfl rfl
    obtain ⟨t, ht, hp⟩ := hbody A outer s H E ⟨H, M⟩ (fnW E') hG hr (tk0.imp fun c d σ H1 hw => by
      obtain ⟨C, ns, es, τ, M1, rfl, b, x, M2, z, y⟩ := hw
      exact px C ns es M2 d H1 y (b.fr.less z) (b.h.less z) (x.fr ((Fr.refl H1 M1).less z)))
    refine ⟨_, ht, startD N ds, M, fnEnds Q', ⟨Fr.refl _ _, start_has r N, ah⟩, hp ds M Q' E' q rfl, fun τ M1 σ H1 q1 f1 a1 _ => ?_, fun d M1 v H1 q1 f1 a1 h1 => ?_⟩
    · obtain ⟨M2, z, q1⟩ := q1
      exact p _ M2 _ H1 q1 (f1.less z) (a1.less z) rfl
    · obtain ⟨M2, z, q1⟩ := q1
      exact p _ M2 _ H1 q1 (f1.less z) (a1.less z) (h1.fr ((Fr.refl H1 M1).less z))
theorem fun_code {h : Heap} {x qual : Str} {params : Arguments} {body : List Stmt} {scope : Scope} {dvs : List V} {kws : List (Str × V)} {f : Addr} {fd : FuncData} (F : FunD K x qual params body scope dvs kws f fd) (t : TabAt h K f) : fd.code = .ref (codC K f) := by
  obtain ⟨oc, od, dV, kV, doc, pm, an, cdv, ct, osl, _, lk, _⟩ := F.ex
  exact code_of t lk
end
/-! ### a def that gets a lambda -/
/-! ### facts -/
def bases : List (String × List Value) := [("ValueError", [.type "ValueError", .type "Exception", .type "BaseException", .type "object"]), ("LookupError", [.type "LookupError", .type "Exception", .type "BaseException", .type "object"]), ("ArithmeticError", [.type "ArithmeticError", .type "Exception", .type "BaseException", .type "object"])]
def bBase (K : PySem.W.Frag) (C : Addr) : Bool := bases.any fun b => PySem.W.excInitIn K C b.2 (b.1 ++ ".__new__") && PySem.W.excOver K C b.2
def bRs (K : PySem.W.Frag) (C : Addr) : Bool := PySem.W.keepIn K (.ref C) && (decide (PySem.W.subIn K (.ref C) (.type "BaseException") = some true) && decide (PySem.W.typeIn K (.ref C) = some (.type "type")))
def noTk : Option (Option Value) → Bool
  | some none => true
  | _ => false
def bXc (C f : Str) : FB := fun K => bBase K (He.ga K C) && (bRs K (He.ga K C) && (He.eqO (PySem.W.findIn K (.ref (He.ga K C)) "__setattr__") (some (some (.builtin "object.__setattr__"))) && (PySem.W.hasDictIn K (He.ga K C) && (noTk (PySem.W.takerIn K (He.ga K C) f) &&
  (He.eqO (PySem.W.findIn K (.ref (He.ga K C)) "__init__") (some (some (.ref (He.ma K (He.ga K C) "__init__")))) && decide (PySem.W.typeIn K (.ref (He.ma K (He.ga K C) "__init__")) = some (.type "function")))))))
def bXf (C f : Str) : FB := fun K => xfB K (He.ga K C) && decide (PySem.W.findIn K (.ref (He.ga K C)) f = some none)
section
variable {P : Program} {w : World} {K : PySem.W.Frag} {mg : Str → Option Value} {base : Heap} {C f : Str}
theorem bBase_ok {C : Addr} (h : bBase K C = true) : ∃ (B newId initId : String) (bmB : List Value), ExcBaseFacts B newId initId bmB ∧ StoreFacts B bmB "object.__setattr__" "object" ∧ PySem.W.excInitIn K C bmB newId = true ∧ PySem.W.excOver K C bmB = true := by
  obtain ⟨b, hb, h⟩ := List.any_eq_true.mp h
  obtain ⟨h1, h2⟩ := He.ba h
  rcases List.mem_cons.mp hb with rfl | hb
  · exact ⟨_, _, _, _, F.excBase_ValueError, F.store_ValueError, h1, h2⟩
  rcases List.mem_cons.mp hb with rfl | hb
  · exact ⟨_, _, _, _, F.excBase_LookupError, F.store_LookupError, h1, h2⟩
  obtain rfl := List.mem_singleton.mp hb
  exact ⟨_, _, _, _, F.excBase_ArithmeticError, F.store_ArithmeticError, h1, h2⟩
theorem bRs_ok {C : Addr} (h : bRs K C = true) : PySem.W.keepIn K (.ref C) = true ∧ PySem.W.subIn K (.ref C) (.type "BaseException") = some true ∧ PySem.W.typeIn K (.ref C) = some (.type "type") := by
  obtain ⟨h1, h⟩ := He.ba h
  obtain ⟨h2, h3⟩ := He.ba h
  exact ⟨h1, of_decide_eq_true h2, of_decide_eq_true h3⟩
theorem noTk_ok {o : Option (Option Value)} (h : noTk o = true) : o = some none := by
  unfold noTk at h
  split at h
  · rfl
  · cases h
theorem bXc_ok {fd : FuncData} (h : bXc C f K = true) (F1 : FnOk P w K mg base (L2N.CX P w) 1 (He.ma K (He.ga K C) "__init__") fd ["self", f] (spXi K f)) (hb : L2.Binds K fd ["self", f] []) : XcP P w K mg base (He.ga K C) f := by
  obtain ⟨h1, h⟩ := He.ba h
  obtain ⟨h2, h⟩ := He.ba h
  obtain ⟨h3, h⟩ := He.ba h
  obtain ⟨h4, h⟩ := He.ba h
  obtain ⟨h5, h⟩ := He.ba h
  obtain ⟨h6, h7⟩ := He.ba h
  obtain ⟨r1, r2, r3⟩ := bRs_ok h2
  exact ⟨⟨bBase_ok h1, He.eqO_ok h3, h4, r2, r3, r1⟩, noTk_ok h5, _, fd, He.eqO_ok h6, of_decide_eq_true h7, F1, hb⟩
theorem bXf_ok (h : bXf C f K = true) : XfC K (He.ga K C) ∧ PySem.W.findIn K (.ref (He.ga K C)) f = some none := let ⟨h1, h2⟩ := He.ba h; ⟨xfB_ok h1, of_decide_eq_true h2⟩
end
/-! ### the tables of a law -/
def csOf (K : PySem.W.Frag) (tn : List FA) (qs : List Str) : List (Addr × Addr × Str) := (tn.zip qs).map fun x => (codC K (x.1 K), tabP K (x.1 K), x.2)
def bNd (tn : List FA) : FB := fun K => decide ((tn.map fun d => tabP K (d K)).Nodup)
section
variable {K : PySem.W.Frag} {h : Heap} {tn : List FA} {qs : List Str}
theorem cs_mem {x : Addr × Addr × Str} (hx : x ∈ csOf K tn qs) : ∃ d ∈ tn, x.1 = codC K (d K) ∧ x.2.1 = tabP K (d K) := by
  obtain ⟨y, hy, rfl⟩ := List.mem_map.mp hx
  exact ⟨y.1, (List.of_mem_zip hy).1, rfl, rfl⟩
theorem cs_emp (tt : ∀ d ∈ tn, TabAt h K (d K)) : ∀ b ∈ csP (csOf K tn qs), h.get? b = some tab0 := fun b hb => by
  obtain ⟨x, hx, rfl⟩ := List.mem_map.mp hb
  obtain ⟨d, hd, _, e⟩ := cs_mem hx
  rw [e]
  exact (tt d hd).emp
theorem cs_no (tt : ∀ d ∈ tn, TabAt h K (d K)) : ∀ b ∈ csP (csOf K tn qs), K.lookup b = none := fun b hb => by
  obtain ⟨x, hx, rfl⟩ := List.mem_map.mp hb
  obtain ⟨d, hd, _, e⟩ := cs_mem hx
  rw [e]
  exact (tt d hd).no
theorem cs_hd (tt : ∀ d ∈ tn, TabAt h K (d K)) : ∀ x ∈ csOf K tn qs, PySem.W.CodeHd h x.1 x.2.1 := fun x hx => by
  obtain ⟨d, hd, e1, e2⟩ := cs_mem hx
  rw [e1, e2]
  exact (tt d hd).hd
end
end Rh
/-! DL35: calls that give every value of a def with defaults. -/
namespace Rh
open PySem PySem.Spec PyProof.Rows L2
section
variable {K : PySem.W.Frag} {x qual : Str} {params : Arguments} {body : List Stmt} {scope : Scope} {dvs : List V} {kws : List (Str × V)} {f : Addr} {fd : FuncData} {ps : List Str}
end
end Rh
/-! DL36: the last item of a list taken out. -/
namespace Rh
open PySem PySem.Spec PyProof.Rows L2
section
variable {X : Cx} {O : Org} {pos apos p : Pos} {o e : Expr} {to te : DTE}
end
end Rh
/-! DL37: == of two objects of a class without an __eq__ of its own. -/
namespace Rh
open PySem PySem.Spec PyProof PyProof.Rows L2
section
variable {M : Model} {prog : Program} {w : World} {A : Around} {E : Value → Shared → Prop} {s : Shared} {K : PySem.W.Frag} {x y C : Addr} {ox oy : Obj} {od od2 : Option Obj}
end
section
variable {X : Cx}
end
end Rh
/-! DL38: an item of a list taken out by its index. -/
namespace Rh
open PySem PySem.Spec PyProof.Rows L2
section
variable {X : Cx} {O : Org} {pos apos p : Pos} {o e : Expr} {to te : DTE}
end
end Rh
/-! DL41: try whose first clause names four classes in a tuple, and lets the exception pass on to the next clauses. -/
namespace Rh
open PySem PySem.Spec PyProof.Rows L2
theorem flyingZ_push {B h h' : Heap} {l : List Env} {a : Addr} {Z : Obj → Prop} (k : ∀ q o, h.get? q = some o → h'.get? q = some o) (x : HandSPX.FlyingZ B l a Z h) : HandSPX.FlyingZ B l a Z h' := by
  obtain ⟨k1, k2, k3, oe, vs, T, oT, ts, he, hz, hd, h1, h2, h3, hT, hdT, h4⟩ := x
  exact ⟨fun b o e => k _ _ (k1 b o e), k2, k3.of_keeps fun b o e _ => ⟨o, k _ _ e, rfl⟩, oe, vs, T, oT, ts, k _ _ he, hz, hd, h1, h2, h3, k _ _ hT, hdT, h4⟩
section
variable {X : Cx} {body : List Stmt} {h0 : ExceptHandler} {hds : List ExceptHandler} {l : List HC} {pos : Pos} {tb : WX → TS} {Wout : WX} {x1 x2 x3 x4 : Str} {c1 c2 c3 c4 : Value} {p1 p2 p3 p4 tpos hp : Pos} {kk : Nat} {on : Option Str} {b0 : Stmt} {su : List Stmt}
end
section
variable {X : Cx} {O : Org} {body : List Stmt} {h0 : ExceptHandler} {hds : List ExceptHandler} {l : List DHand} {pos : Pos} {tb : DWX → DTS} {x1 x2 x3 x4 : Str} {c1 c2 c3 c4 : Addr} {p1 p2 p3 p4 tpos hp : Pos} {kk : Nat} {on : Option Str} {b0 : Stmt} {su : List Stmt}
end
end Rh
/-! DL67: isinstance of an own exception that keeps something. -/
namespace Rh
open PySem PySem.Spec PySem.Calls PyProof.Rows L2
section
variable {prog : Program} {w : World} {A : Around} {E : Value → Shared → Prop} {s : Shared} {K : PySem.W.Frag} {x D : Addr} {ox : Obj} {od : Option Obj}
theorem isx_found {g a : Value} {n : Str} (kc : (PySem.W.clsIn K D).isSome = true) (k1 : PySem.W.findIn K (.ref D) n = some (some a)) (k2 : PySem.W.specialIn K a "__get__" = some (some g)) (k3 : PySem.W.takesIn K a = some true) : PySem.W.findObj K D od n = some (.bind g a) := by
  cases kq : PySem.W.clsIn K D with
  | none => rw [kq] at kc; cases kc
  | some c0 =>
    unfold PySem.W.findObj
    rw [kq, Option.bind_some, k1, Option.bind_some]
    simp [k2, k3]
theorem isx_class {Q : Option Value → Shared → Prop} (T : L2.ExcC K D) (kin : K.In s.heap) (J : PySem.W.InstAt s.heap x ox D od) (q : Q (some (.ref D)) { s with toks := s.toks + 1 }) :
    wpAny (model prog w) A (getAttr? (.ref x) "__class__") Q E s := by
  have sm : (PySem.W.clsIn K D).isSome = true := by
    obtain ⟨c0, h0, _⟩ := PySem.W.any_some T.hd
    rw [h0]; rfl
  have fnd := isx_found (od := od) sm T.ha T.hn T.ht
  obtain ⟨hp, gn, dr, tk, om⟩ := s
  have k0 := J.type (M := model prog w)
  have k1 := PySem.W.looks_findIn (M := model prog w) kin T.hg
  have k2 := PySem.W.looks_findIn (M := model prog w) kin T.hk
  have k3 := PySem.W.looks_find (M := model prog w) kin J fnd
  have isB : PySem.W.Looks (model prog w) hp (isInstance (.ref x) (.type "BaseException")) true := k0.andThen (PySem.W.looks_subIn kin T.hs)
  have n2 : (Value.builtin "BaseException.__getattribute__" == Value.builtin "object.__getattribute__") = false := by decide +kernel
  have n1 : (onTheHeap (Value.ref D) && Value.builtin "BaseException.__getattribute__" == Value.builtin "object.__getattribute__") = false := by rw [n2]; rfl
  unfold getAttr? getAttrBy? getAttrBy
  refine wpAny_bind (wpAny_mkText ?_)
  refine wpAny_bind (wpAny_attempt ?_)
  refine wpAny_holding (wpAny_bind (k0.at (wpAny_bind (k1.at ?_))))
  show wpAny _ _ (if (onTheHeap (Value.ref D) && Value.builtin "BaseException.__getattribute__" == Value.builtin "object.__getattribute__") = true then _ else _) _ _ _
  rw [n1, if_neg Bool.false_ne_true]
  unfold getAttrByItsOwn hookBefore
  refine wpAny_bind ?_
  rw [if_pos (show onTheHeap (Value.ref D) = true from rfl)]
  refine k2.at ?_
  refine wpAny_bind (wpAny_attempt ?_)
  refine wpAny_holding ?_
  unfold callGetattribute
  rw [show (false && onTheHeap (Value.builtin "BaseException.__getattribute__")) = false from rfl, if_neg Bool.false_ne_true]
  unfold boundAndCalled
  rw [PySem.F.excAttr_ValueError.ga.bind (.ref x)]
  refine wpAny_bind (wpAny_pure ?_)
  show wpAny _ _ (call (.builtin "BaseException.__getattribute__") [.ref x, .str "__class__" tk]) _ _ _
  refine wpAny_call (codeAny_call_builtin PySem.F.excAttr_ValueError.ga.plain PySem.F.entry_bexc_ga ?_)
  refine @PySem.W.check_slot (model prog w) _ _ ⟨hp, gn, dr, tk + 1, om⟩ "BaseException.__getattribute__" "BaseException" "__getattribute__" (.ref x) [.str "__class__" tk] [] _ (by decide +kernel) (by decide +kernel) isB (PySem.F.args_bexc_ga (.ref x) (.str "__class__" tk)) ?_
  unfold Builtin.«object.__getattribute__»
  refine wpAny_bind (wpAny_of_eq (a := ((Value.ref x : Value), [Value.str "__class__" tk])) (by first | rfl | (simp only [slotArgs]; rfl)) ?_)
  refine wpAny_bind (wpAny_pure (wpAny_bind ?_))
  refine k0.at (wpAny_bind (k3.at ?_))
  show wpAny _ _ (holding [Value.builtin "object.__class__"] (call (.builtin "getset_descriptor.__get__") [.builtin "object.__class__", .ref x, .ref D]) >>= ret) _ _ _
  refine wpAny_bind (wpAny_holding (wpAny_call ?_))
  refine PySem.W.class_get (s := ⟨hp, gn, dr, tk + 1, om⟩) (ox := ox) (od := od) kin J T.hm ?_
  refine wpAny_pure ?_
  show wpAny _ _ (handedOut (.ref D)) _ _ _
  rw [PySem.W.handedOut_of (v := .ref D) rfl]
  first
    | exact wpAny_pure (wpAny_pure q)
    | exact wpAny_pure q
    | exact wpAny_pure (wpAny_bind (wpAny_pure (wpAny_pure q)))
theorem isx_kit (T : L2.ExcC K D) : PySem.W.KitX K (.ref x) (.ref D) (fun h => PySem.W.InstAt h x ox D od) := by
  obtain ⟨c0, h0, _⟩ := PySem.W.any_some T.hd
  have dc : ∃ oc, K.lookup D = some oc ∧ ∃ c1, oc.data = .cls c1 := by
    unfold PySem.W.clsIn at h0
    split at h0
    · rename_i a b c d ho
      exact ⟨_, ho, _, rfl⟩
    · cases h0
  obtain ⟨oc, ho, c1, hd1⟩ := dc
  refine ⟨fun _ _ _ J => J.type, fun M h kin _ A' Q' E' s' k q => ?_, fun h tp dd its n sl kin htp => ?_, fun kin J q => isx_class T kin J q⟩
  · obtain ⟨oc1, oc2, oc3, oc4⟩ := oc
    dsimp only at hd1
    subst hd1
    unfold isType loadHead
    exact wpAny_bind (wpAny_loadPart (k _ _ (kin _ _ ho)) (wpAny_pure q))
  · refine Bool.eq_false_iff.mpr fun z => ?_
    obtain rfl : D = tp := Value.ref.inj (beq_iff_eq.mp z)
    have := (kin _ _ ho).symm.trans htp
    rw [Option.some.inj this] at hd1
    cases hd1
end
/-- isinstance(e, c): e the exception that a suite holds, d its dict -/
theorem call_isX {X : Cx} {a D : Addr} {oe : Obj} {d : Option Addr} {pn : List (Addr × Obj)} (T : L2.ExcC X.K D) (hz : Zc (.ref D) d oe) (hf : ∃ vs, oe.data = .fields vs) :
    CallR (X.suite a ((a, oe) :: pn)) (.builtin "isinstance") (fun xs H Q => ∃ (c : V) (cv : Value) (b : Bool), xs = [.ref a, c] ∧ (∀ u, RelV c u → u = cv) ∧ PySem.W.kitOne X.K (.ref D) cv = some b ∧ (∀ dd, d = some dd → ∃ fs, H dd = some (.xd fs)) ∧ Q (.bl b) H) := by
  intro pins s σ H xs us Q I r h
  obtain ⟨c, cv, b, rfl, hcv, e, hx, q⟩ := h
  cases r with
  | cons rx rr =>
    cases rr with
    | cons rt rr =>
      cases rr
      cases rx
      obtain rfl := hcv _ rt
      obtain ⟨hget, _⟩ := I.pin (a, oe) (List.mem_append.mpr (.inl List.mem_cons_self))
      obtain ⟨vs, hv⟩ := hf
      have J : ∃ od, PySem.W.InstAt s.heap a oe D od := by
        obtain ⟨o1, o2, o3, o4⟩ := oe
        obtain ⟨h1, h2⟩ := hz
        dsimp only at h1 h2 hv
        subst h1 h2 hv
        cases o2 with
        | none => exact ⟨none, hget, rfl, rfl, trivial⟩
        | some dd =>
          obtain ⟨fs, ex⟩ := hx dd rfl
          obtain ⟨mA, nm, _⟩ := I.hok dd _ ex
          obtain ⟨o, _, _, eo, _⟩ := nm
          exact ⟨some o, hget, rfl, rfl, eo⟩
      obtain ⟨od, J⟩ := J
      exact PySem.W.kia_one (isx_kit T) I.kIn J e (fun z => nomatch z) fun tk => ⟨.bl b, H, I.kept (t' := tk) fun _ _ z => z, rfl, q⟩
end Rh
/-! DL68: try with one clause for three classes, as a name: its suite by the class that came. -/
namespace Rh
open PySem PySem.Spec PyProof.Rows L2
section
variable {X : Cx} {body : List Stmt} {pos : Pos} {tb : WX → TS} {x1 x2 x3 : Str} {c1 c2 c3 : Value} {p1 p2 p3 tpos hp : Pos} {kk : Nat} {b0 : Stmt} {su : List Stmt} {ts : Addr → Value → Option Addr → TS}
theorem ps_try_one (hs : X.stack = X.env :: X.outer) (hf : X.env.frame = some X.env.locals) (nd : X.N.Nodup) 
    (hb : ∀ (W : WX) (pn : List (Addr × Obj)) (xe : Value → Shared → Prop), L2N.Takes (X.tr pn xe) W → PassesOwn (model X.prog X.w) X.A X.env xe → PSs (X.tr pn xe) body (tb W))
    (n1 : Names X x1 c1) (n2 : Names X x2 c2) (n3 : Names X x3 c3) {i : Nat} {nm : Str} (hn : X.N[i]? = some nm ∧ X.env.kindOf nm = some .local)
    (hsu : ∀ (a : Addr) (oe : Obj) (cls : Value) (d : Option Addr) (pn : List (Addr × Obj)), PySem.W.exmAny X.K cls [c1, c2, c3] = some true → L2N.Zn cls d oe → (∃ vs, oe.data = .fields vs) → PSs (X.suite a ((a, oe) :: pn)) (b0 :: su) (ts a cls d)) :
    PS X (.Try body (.ExceptHandler (some (.Tuple [.Name x1 p1, .Name x2 p2, .Name x3 p3] kk tpos)) (some nm) (b0 :: su) hp :: []) [] [] pos) (fun D σ H => tb (fun cls d σ H => PySem.W.exmAny X.K cls [c1, c2, c3] = some true ∧ ∀ a, H a = none → ts a cls d (endN (some i) D) (setN a (some i) σ) H) D σ H) := by
  refine ⟨fun pins s σ H D I h => wpAny_Try_except ?_⟩
  have ok := I.ok
  have hfr : X.A.frames = some (X.env :: X.outer) := by rw [ok.frames, hs]
  refine wpAny_mono ((hb (fun cls d σ H => PySem.W.exmAny X.K cls [c1, c2, c3] = some true ∧ ∀ a, H a = none → ts a cls d (endN (some i) D) (setN a (some i) σ) H) (X.pn ++ pins) (fun e s1 => wpAny (model X.prog X.w) X.A (noteFrame e X.env) (fun _ s2 => wpAny (model X.prog X.w) X.A (setFlight e none) (fun _ s3 =>
    wpAny (model X.prog X.w) X.A (handleBy e X.env (.ExceptHandler (some (.Tuple [.Name x1 p1, .Name x2 p2, .Name x3 p3] kk tpos)) (some nm) (b0 :: su) hp :: [])) (SP X pins D) X.xe s3) X.xe s2) X.xe s1) ?_ PassesOwn.looking).run [] s σ H D (I.toTry _) h) ?_ (fun _ _ he => he)
  rotate_left
  · intro fl s1 hsp
    cases fl with
    | next => exact let ⟨σ', H', J', q⟩ := hsp; wpAny_execs_nil ⟨σ', H', J'.ofTry ok, q⟩
    | brk => exact let ⟨σ', H', J', q⟩ := hsp; ⟨σ', H', J'.ofTry ok, q⟩
    | cont => exact let ⟨σ', H', J', q⟩ := hsp; ⟨σ', H', J'.ofTry ok, q⟩
    | ret u => exact let ⟨v, σ', H', J', r, q⟩ := hsp; ⟨v, σ', H', J'.ofTry ok, r, q⟩
  rintro u s' ⟨a, B, sI, pins', σ', H', cls, d, rfl, J', nb, up, sky, na, os, ag, ⟨wt, w⟩⟩
  have J : Inv X pins σ' H' sI := J'.ofTry ok
  have sky' : Sky B (X.env :: X.outer) a (L2N.Zn cls d) X.env.locals s'.heap := hs ▸ sky
  show wpAny (model X.prog X.w) X.A (noteFrame (.ref a) X.env) _ _ _
  refine L2N.Sky.land L2N.Zn.steady hfr hf sky' fun g3 gl3 gp3 => ?_
  have G3 : Inv X pins σ' H' { s' with heap := g3 } := J.landed nb gl3.1 (up.trans gp3) os ag
  obtain ⟨q3, ws3, f3, y3, b3⟩ := gl3.there
  have gfr : a ∉ frs (X.env :: X.outer) := fun hm => by
    obtain ⟨_, o', e', hnf⟩ := gl3.2.2.1.mem hm
    rw [f3] at e'
    cases e'
    exact hnf _ b3
  have gL : a ≠ X.env.locals := fun z => gfr (List.mem_filterMap.mpr ⟨X.env, List.mem_cons_self, z ▸ hf⟩)
  have gF : a ∉ X.fs := fun hm => let ⟨e, he, q⟩ := List.mem_filterMap.mp hm; gfr (List.mem_filterMap.mpr ⟨e, List.mem_cons_of_mem _ he, q⟩)
  have T3 := G3.suite f3 b3 na gL gF
  have name : ∀ {x : Str} {c : Value} {np : Pos} {Q : Value → Shared → Prop} {E : Value → Shared → Prop}, Names X x c → Q c { s' with heap := g3 } → wpAny (model X.prog X.w) (X.A.mark (some (.ref a))) (eval (.Name x np) X.env) Q E { s' with heap := g3 } := fun {x c np Q E} hc q => by
    obtain ⟨hg, hdbg, hm⟩ := hc
    rcases hm with hm | ⟨hm, hv, hnn⟩
    · exact ld_glob (X := X.suite a ((a, q3) :: (X.pn ++ pins))) T3 hg hm q hdbg
    · exact ld_blt (X := X.suite a ((a, q3) :: (X.pn ++ pins))) T3 hg hm hv q hnn hdbg
  have GT : PySem.W.Looks (model X.prog X.w) g3 (typeOf (.ref a)) cls := fun A Q E s k q => wpAny_typeOf_ref (k _ _ f3) (by rw [y3.1]; exact q)
  have kp : ∀ q o, g3.get? q = some o → (g3.push { cls := .type "tuple", data := .seq [c1, c2, c3].toArray }).get? q = some o := fun _ _ z => Heap.get?_push_of_some _ z
  refine wpAny_handleBy_cons (codeAny_handlers_test ?_) (fun q => by cases q)
  refine wpAny_Tuple ?_
  refine wpAny_items_cons (name n1 ?_)
  refine wpAny_items_cons (name n2 ?_)
  refine wpAny_items_cons (name n3 ?_)
  refine wpAny_items_nil ⟨by size_fits, ?_⟩
  refine (PySem.W.exm_tup3 (M := model X.prog X.w) (G3.kIn.keeps kp) (GT.keeps kp) (Heap.get?_push_size g3 rfl) wt).here ?_
  have fl3p := flyingZ_push kp gl3
  have up3p := gp3.trans (Heap.UpToSlots.of_keeps kp)
  generalize g3.push { cls := .type "tuple", data := .seq [c1, c2, c3].toArray } = h3 at fl3p up3p ⊢
  have fl3 := fl3p
  have up3 := up3p
  have J3 : Inv X pins σ' H' { s' with heap := h3 } := J.landed nb fl3.1 (up.trans up3) os ag
  obtain ⟨o3, vs3, e3, z3, d3⟩ := fl3.there
  have nfr : a ∉ frs (X.env :: X.outer) := fun hm => by
    obtain ⟨_, o', e', hnf⟩ := fl3.2.2.1.mem hm
    rw [e3] at e'
    cases e'
    exact hnf _ d3
  have nL : a ≠ X.env.locals := fun z => nfr (List.mem_filterMap.mpr ⟨X.env, List.mem_cons_self, z ▸ hf⟩)
  have nF : a ∉ X.fs := fun hm => let ⟨e, he, q⟩ := List.mem_filterMap.mp hm; nfr (List.mem_filterMap.mpr ⟨e, List.mem_cons_of_mem _ he, q⟩)
  have S3 := J3.suite e3 d3 na nL nF
  obtain ⟨hi, hln⟩ := hn
  refine codeAny_handlers_suite_as (HandSPX.lands_againZ fl3 fun h4 fl4 up4 => ?_)
  have J4 : Inv X pins σ' H' { s' with heap := h4 } := J.landed nb fl4.1 ((up.trans up3).trans up4) os ag
  obtain ⟨o4, vs4, e4, z4, d4⟩ := fl4.there
  refine store_ok (X := X.suite a ((a, o4) :: (X.pn ++ pins))) (v := .ref a) (J4.suite e4 d4 na nL nF) nd hi (.inl hln) rfl (fun s5 S5 => ?_) (.inr hln)
  refine wpAny_mono ((hsu a o4 cls d (X.pn ++ pins) wt z4 ⟨_, d4⟩).run [] s5 _ H' _ S5 (w a na)) (fun fl s6 hsp => ?_) (fun _ _ z => z.elim)
  have gone : ∀ {σ6 : L2.St} {H6 : Hp} {Q : Shared → Prop}, Inv (X.suite a ((a, o4) :: (X.pn ++ pins))) [] σ6 H6 s6 → (∀ s7, Inv X pins (σ6.set i none) H6 s7 → Q s7) →
      wpAny (model X.prog X.w) X.A (do bindName X.env nm .none; unbindBehindTheSuite X.env nm hp) (fun _ s7 => Q s7) X.xe s6 := fun S6 hq => gone_ok (S6.unsuite ok) nd hi hln hq
  cases fl with
  | next => exact let ⟨σ6, H6, S6, q6⟩ := hsp; gone S6 fun s7 J7 => ⟨_, _, J7, q6⟩
  | brk => exact let ⟨σ6, H6, S6, q6⟩ := hsp; gone S6 fun s7 J7 => ⟨_, _, J7, q6⟩
  | cont => exact let ⟨σ6, H6, S6, q6⟩ := hsp; gone S6 fun s7 J7 => ⟨_, _, J7, q6⟩
  | ret u => exact let ⟨v6, σ6, H6, S6, r6, q6⟩ := hsp; gone S6 fun s7 J7 => ⟨_, _, _, J7, r6, q6⟩
end
/-! ### over data -/
/-- an exception of one of the classes Cs, the k-th -/
def wOne (Cs : List Addr) (i : Nat) (t : Nat → Addr → List Str → List D → DTS) (E : DEnds) : DWX := fun C ns ds τ M => ∃ k, Cs[k]? = some C ∧ ∀ a, t k a ns ds (dEndN (some i) E) (dSetN a (some i) τ) M
def dTryOne (Cs : List Addr) (i : Nat) (t : Nat → Addr → List Str → List D → DTS) (tb : DWX → DTS) : DTS := fun E τ M => tb (wOne Cs i t E) E τ M
/-- what the suite does for each class -/
def tsOne (K : PySem.W.Frag) (Cs : List Addr) (t : Nat → Addr → List Str → List D → DTS) (a : Addr) (cls : Value) (d : Option Addr) : TS := fun D σ H => ∃ k C, Cs[k]? = some C ∧ cls = .ref C ∧ ∃ ns ds M, XdIs K H M ns ds d ∧ liftS K ⟨H, M⟩ (t k a ns ds) D σ H
/-- the suites for the classes Cs -/
def SuL (X : Cx) (B : List Stmt) (Cs : List Addr) (t : Nat → Addr → List Str → List D → DTS) : Prop := ∀ (k : Nat) (C a : Addr) (oe : Obj) (d : Option Addr) (pn : List (Addr × Obj)) (O' : Org) (ns : List Str) (ds : List D), Cs[k]? = some C → L2N.Zn (.ref C) d oe → (∃ vs, oe.data = .fields vs) → XdIs X.K O'.H O'.M ns ds d → DSs (X.suite a ((a, oe) :: pn)) O' B (t k a ns ds)
def tPick (ts : List (Addr → List Str → List D → DTS)) : Nat → Addr → List Str → List D → DTS := fun k => ts.getD k fun _ _ _ => dNext
theorem su_nil {X : Cx} {B : List Stmt} {t : Nat → Addr → List Str → List D → DTS} : SuL X B [] t := fun k C a oe d pn O' ns ds e => by simp at e
theorem su_cons {X : Cx} {B : List Stmt} {C0 : Addr} {Cs : List Addr} {t0 : Addr → List Str → List D → DTS} {ts : List (Addr → List Str → List D → DTS)} (h0 : ∀ (a : Addr) (oe : Obj) (d : Option Addr) (pn : List (Addr × Obj)) (O' : Org) (ns : List Str) (ds : List D), L2N.Zn (.ref C0) d oe → (∃ vs, oe.data = .fields vs) → XdIs X.K O'.H O'.M ns ds d → DSs (X.suite a ((a, oe) :: pn)) O' B (t0 a ns ds))
    (h : SuL X B Cs (tPick ts)) : SuL X B (C0 :: Cs) (tPick (t0 :: ts))
  | 0, C, a, oe, d, pn, O', ns, ds, e, hz, hf, xd => by cases e; exact h0 a oe d pn O' ns ds hz hf xd
  | k + 1, C, a, oe, d, pn, O', ns, ds, e, hz, hf, xd => h k C a oe d pn O' ns ds e hz hf xd
section
variable {X : Cx} {O : Org} {body : List Stmt} {pos : Pos} {tb : DWX → DTS} {x1 x2 x3 : Str} {c1 c2 c3 : Addr} {p1 p2 p3 tpos hp : Pos} {kk : Nat} {b0 : Stmt} {su : List Stmt} {Cs : List Addr} {i : Nat} {nm : Str} {t : Nat → Addr → List Str → List D → DTS}
theorem ds_try_one (hs : X.stack = X.env :: X.outer) (hf : X.env.frame = some X.env.locals) (nd : X.N.Nodup) (ex : ∀ (k : Nat) (C : Addr), Cs[k]? = some C → PySem.W.exmAny X.K (.ref C) [.ref c1, .ref c2, .ref c3] = some true)
    (n1 : Names X x1 (.ref c1)) (n2 : Names X x2 (.ref c2)) (n3 : Names X x3 (.ref c3)) (hn : X.N[i]? = some nm ∧ X.env.kindOf nm = some .local)
    (hb : ∀ (O' : Org) (W : DWX) (pn : List (Addr × Obj)) (xe : Value → Shared → Prop), Fr O.H O.M O'.H O'.M → L2N.Takes (X.tr pn xe) (liftW X.K O' W) → DSs (X.tr pn xe) O' body (tb W))
    (hsu : SuL X (b0 :: su) Cs t) :
    DS X O (.Try body [.ExceptHandler (some (.Tuple [.Name x1 p1, .Name x2 p2, .Name x3 p3] kk tpos)) (some nm) (b0 :: su) hp] [] [] pos) (dTryOne Cs i t tb) := by
  have key := ps_try_one (X := X) (pos := pos) (body := body) (p1 := p1) (p2 := p2) (p3 := p3) (tpos := tpos) (hp := hp) (kk := kk) (b0 := b0) (su := su) (ts := tsOne X.K Cs t) (tb := fun W D σ H => ∃ (Wd : DWX) (τ : DSt) (M : DHp) (E : DEnds), (∀ cls d σ' H', liftW X.K ⟨H, M⟩ Wd cls d σ' H' → W cls d σ' H') ∧ Fr O.H O.M H M ∧ Beg X.K ⟨H, M⟩ H M τ σ ∧ tb Wd E τ M ∧ PostN X.K H M E.nx D.nx ∧ Post X.K H M E.rt D.rt)
    hs hf nd (fun W pn xe tk _ => ⟨fun pins s σ H D I ⟨Wd, τ, M, E, im, fr, b, t, pn', pr⟩ => (hb ⟨H, M⟩ Wd pn xe fr (tk.imp im)).run pins s σ H D I ⟨τ, M, E, b, t, pn', pr⟩⟩) n1 n2 n3 hn
    (fun a oe cls d pn _ z f => ⟨fun pins s σ H D I ⟨k, C, hk, ec, ns, ds, M, xd, q⟩ => by subst ec; exact (hsu k C a oe d pn ⟨H, M⟩ ns ds hk z f xd).run pins s σ H D I q⟩)
  refine key.wk fun D σ H ⟨τ, M, E, b, t, pn, pr⟩ => ⟨wOne Cs i _ E, τ, M, E, fun cls d σ' H' w => ?_, b.fr, ⟨Fr.refl _ _, b.s, b.h⟩, t, pn, pr⟩
  obtain ⟨C, ns, ds, τ1, M1, rfl, b1, xd, k, hk, w⟩ := w
  refine ⟨ex k C hk, fun a _ => ⟨k, C, hk, rfl, ns, ds, M1, xd, dSetN a (some i) τ1, M1, dEndN (some i) E, ⟨Fr.refl _ _, abs_setN b1.s a _, b1.h⟩, w a, ?_, ?_⟩⟩
  · exact (post_endN (pn.tr b1.fr) (pr.tr b1.fr) _).1
  · exact (post_endN (pn.tr b1.fr) (pr.tr b1.fr) _).2
end
/-- isinstance(e, c) in such a suite -/
def dIsX (b : Bool) (te : DTE) (a : Addr) : DTE := fun τ M Q => te τ M fun x M1 => x = .ref a ∧ Q (.bl b) M1
end Rh
/-! DL69: a list comprehension over a list, within an except suite. -/
namespace Rh
open PySem PySem.Spec PyProof.Rows L2 HotX L2H
section
variable {prog : Program} {w : World} {A : Around} {E : Value → Shared → Prop} {s : Shared}
/-- a list's iterator has come to its end, an exception being handled -/
theorem next_list_hot {it l x1 : Addr} {i : Nat} {items : Array Value} {Q : Option Value → Shared → Prop} (hot : HotAt A x1 s.heap) (hne : x1 ≠ it) (st : s.heap.IsListIter it l i) (sl : s.heap.IsList l items) (hx : items[i]? = none)
    (hQ : ∀ h', Heap.ExtBut it s.heap h' → Q none { s with heap := h' }) : wpAny (model prog w) A (pyNext (.ref it)) Q E s := by
  obtain ⟨ob, eb, cb, db⟩ := id st
  obtain ⟨ol, el, _, nl, dl⟩ := sl
  obtain ⟨hh, o1, vs1, h1, d1, c1⟩ := hot
  unfold pyNext
  refine wpAny_bind (wpAny_attempt ?_)
  refine wpAny_callSpecial?_slot (name := Str.ofString "__next__") st.typeIs slot_listiter_next ?_
  refine wpAny_call_entry slot_listiter_next st.typeIs entry_listiter_next ?_ (args_listiter_next _)
  show wpAny _ _ (field (.ref it) 0 >>= _) _ _ s
  refine wpAny_bind (wpAny_field eb db (x := .ref l) rfl ?_)
  show wpAny _ _ (if (Value.ref l == Value.none) = true then _ else _) _ _ s
  rw [if_neg (show ¬ ((Value.ref l == Value.none) = true) from Bool.false_ne_true)]
  show wpAny _ _ (field (.ref it) 1 >>= _) _ _ s
  refine wpAny_bind (wpAny_field eb db (x := .int i 0) rfl ?_)
  show wpAny _ _ (seqItems? (.ref l) >>= _) _ _ s
  refine wpAny_bind (wpAny_seqItems el dl ?_)
  simp only [Int.toNat_natCast, hx]
  refine wpAny_bind (wpAny_rule (wpAny_bind ?_))
  refine wpAny_setField eb db (by simp) ?_
  show wpAny _ _ (newExc (.type "StopIteration") [] >>= _) _ _ _
  refine wpAny_bind ?_
  simp only [newExc, newTuple]
  refine wpAny_bind (wpAny_newObj_type ?_ (by size_fits))
  refine wpAny_bind (m := firstArgMember _ _) (wpAny_of_eq (a := Value.none) (by first | rfl | (simp only [firstArgMember]; rfl)) ?_)
  refine wpAny_newObj_type ?_ (by size_fits)
  have k1 : (s.heap.update it (Obj.mapFields (·.setIfInBounds 0 .none))).get? x1 = some o1 := (Heap.get?_update_other _ _ (Ne.symm hne)).trans h1
  refine raiseNew_hot ⟨hh, o1, vs1, Heap.get?_push_of_some _ (Heap.get?_push_of_some _ k1), d1, c1⟩ (Nat.ne_of_lt (Heap.lt_size (Heap.get?_push_of_some _ k1))) (Heap.get?_push_size _ rfl) rfl (by first | (simp; done) | (simp; omega) | (simp only [Array.size_append]; simp; omega)) ?_
  refine wpAny_bind (wpAny_isInstance (T := "StopIteration") (b := true) ⟨_, Heap.get?_update_self _ (Heap.get?_push_size _ rfl) rfl, rfl⟩ isSubtype_stop ?_)
  refine wpAny_pure (hQ _ fun b o hb e => ?_)
  have k2 : (s.heap.update it (Obj.mapFields (·.setIfInBounds 0 .none))).get? b = some o := (Heap.get?_update_other _ _ (Ne.symm hb)).trans e
  rw [Heap.get?_update_other _ _ (Nat.ne_of_gt (Heap.lt_size (Heap.get?_push_of_some _ k2)))]
  exact Heap.get?_push_of_some _ (Heap.get?_push_of_some _ k2)
end
theorem thnE' {Y : Cx} (hE : Y.xe = fun _ _ => False) {α : Type} {t : Sem α} {Q : α → Shared → Prop} {s : Shared} (h : wpAny (model Y.prog Y.w) Y.A t Q Y.xe s) : wpAny (model Y.prog Y.w) Y.A t Q (fun _ _ => False) s := by
  rw [hE] at h
  exact h
/-- the loop, in the block's own frame: it the iterator of the list l, D the new list -/
theorem lcH_loop {Y : Cx} {tg elt iter : Expr} {ifs : List Expr} {scope : Scope} {pos : Pos} {σ : L2.St} {it l D : Addr} {g : TG} {tt : TT} {te : TE} {vs : List Nat} {Qe : Hp → Prop} {R : Result → Shared → Prop} {W : Nat → Nat → Hp → Prop}
    (hE : Y.xe = fun _ _ => False) (hot : ∀ {σ' : L2.St} {H' : Hp} {s' : Shared}, Inv Y [] σ' H' s' → ∃ x1, HotAt Y.A x1 s'.heap) (pg : PG Y tg g) (pt : PTs Y ifs tt) (pe : PE Y elt te) (still : ∀ {σ' H' s'}, Inv Y [] σ' H' s' → H' it = none → FpOk Y [] H' it)
    (turn : ∀ i m H, W i m H → ((Itl Y.K l).stop i H ∧ Qe H) ∨ ((Itl Y.K l).go i H ∧ ∃ Nx : Hp → Prop, (∀ H', Nx H' → ∃ m', m' < m ∧ W (i + 1) m' H') ∧ ∀ x H', (Itl Y.K l).yld i H x H' → g x (wipe σ vs) H' fun σ2 H2 => wipe σ2 vs = wipe σ vs ∧ tt σ2 H2 fun b H3 =>
      if b = true then te σ2 H3 fun y H4 => ∃ acc, H4 D = some (.lst acc) ∧ acc.length < sizeLine ∧ Nx (upd H4 D (.lst (acc ++ [y]))) else Nx H3))
    (out : ∀ {s' σ' H'}, Inv Y [] σ' H' s' → Qe H' → R (.ok .next) s') {m : Nat} {H : Hp} {s : Shared} (I : Inv Y [] (wipe σ vs) H s) (h0 : s.heap.IsListIter it l 0) (nf : H it = none) (w0 : W 0 m H) :
    codeAny (model Y.prog Y.w) Y.A (.compLoop (.ListComp elt [⟨tg, iter, ifs, 0⟩] scope pos) 0 (.ref it) (.ref D) Y.env) R s := by
  refine compLoop_any (fun n t => ∃ i G, Inv Y [] (wipe σ vs) G t ∧ t.heap.IsListIter it l i ∧ G it = none ∧ W i n G) (fun n t => ?_) m ⟨0, H, I, h0, nf, w0⟩
  rintro ⟨i, G, J0, st, ng, w⟩
  obtain ⟨f0, f1, f2, f3, f4, f5⟩ := still J0 ng
  rcases turn i n G w with ⟨⟨xs, hq, hx⟩, qe⟩ | ⟨⟨xs, x0, hq, hx⟩, Nx, hNx, each⟩
  · obtain ⟨its, rv, p, hz⟩ := J0.list hq
    have hl := rv.length
    obtain ⟨x1, hot1⟩ := hot J0
    have ne : x1 ≠ it := fun z => by
      obtain ⟨_, o1, vs1, h1, d1, c1⟩ := hot1
      obtain ⟨o, e, _, d⟩ := st
      rw [z, e] at h1
      cases h1
      rw [d] at d1
      cases d1
      cases c1
    exact next_list_hot hot1 ne st p.isList (by simp; omega) fun h' eb => out (J0.turned (t' := t.toks) (fun b o hb e => eb b o hb e) f0 f1 f3 f4 f5) qe
  · obtain ⟨its, rv, p, hz⟩ := J0.list hq
    obtain ⟨u, hu, ru⟩ := rv.get hx
    refine wpAny_pyNext_list_item st p.isList (x := u) (by simpa using hu) fun h' st' sb => ?_
    have J1 : Inv Y [] (wipe σ vs) G { t with heap := h' } := J0.turned (t' := t.toks) (fun b o hb e => (sb.2 b hb).trans e) f0 f1 f3 f4 f5
    obtain ⟨o, e, c, d⟩ := id st'
    refine go_of (s := { t with heap := h' }) e c d (by decide) ?_
    have yl : (Itl Y.K l).yld i G x0 G := ⟨rfl, fun ys hy => by rw [J0.list_inj hy hq]; exact hx⟩
    have J1' := J1.pinned (fp := [it]) (fun b hb => by rw [List.mem_singleton.mp hb]; exact still J1 ng) (fun b hb => by rw [List.mem_singleton.mp hb]; exact ⟨o, e, fun v z => by rw [d] at z; cases z⟩)
    refine thnF (thnE' hE (pg.run _ _ _ G x0 u _ J1' ru (each x0 G yl))) fun _ t3 ⟨σ3, G3, J3, wp3, q3⟩ => ?_
    refine thnF (thnE' hE (pt.run _ t3 σ3 G3 _ J3 q3)) fun b t4 ⟨G4, J4, q4⟩ => ?_
    have fin : ∀ {t5 : Shared} {G5 : Hp}, Inv Y ([] ++ pinsAt [it] h') σ3 G5 t5 → Nx G5 → ∃ m, m < n ∧ ∃ i G, Inv Y [] (wipe σ vs) G t5 ∧ t5.heap.IsListIter it l i ∧ G it = none ∧ W i m G := fun {t5 G5} J5 nx => by
      obtain ⟨m', lm, w'⟩ := hNx G5 nx
      have pn := J5.pin (it, o) (List.mem_append_right _ (List.mem_append_right _ (mem_pinsAt List.mem_cons_self e)))
      refine ⟨m', lm, i + 1, G5, (J5.unpinned (pins := [])).weak (by rw [← wp3, wipe_length]) (fun j v q => ?_), ⟨o, pn.1, c, d⟩, pn.2.1, w'⟩
      rw [← wp3] at q
      exact (wipe_some q).1
    cases b with
    | false =>
      simp only [Bool.false_eq_true, if_false] at q4 ⊢
      exact fin J4 q4
    | true =>
      simp only [if_true] at q4 ⊢
      refine thnF (thnE' hE (pe.run _ t4 σ3 G4 _ J4 q4)) fun z t5 ⟨yv, G5, J5, r5, acc, eD, sm, nx⟩ => ?_
      exact app_ok J5 eD sm r5 fun t6 J6 => fin J6 nx
section
variable {X : Cx} {pos : Pos}
/-- [elt for target in l if ..], l a list, within an except suite -/
theorem pe_lcH {elt tg iter : Expr} {ifs : List Expr} {scope : Scope} {own : List (Str × Nat)} {tl : TE} {g : TG} {tt : TT} {te : TE} (hot : HotC X) (hN : X.N.Nodup) (hl : PE X iter tl) (ok : BlkOk X.N X.env.scope scope own)
    (hg : ∀ (s : Shared) (H : Hp) (C : Addr) (cl : List (Str × Addr)) (fp : List Addr), PG (X.blk s H scope (compEnvC scope cl C X.env) fp) tg g) (ht : ∀ (s : Shared) (H : Hp) (C : Addr) (cl : List (Str × Addr)) (fp : List Addr), PTs (X.blk s H scope (compEnvC scope cl C X.env) fp) ifs tt)
    (he : ∀ (s : Shared) (H : Hp) (C : Addr) (cl : List (Str × Addr)) (fp : List Addr), PE (X.blk s H scope (compEnvC scope cl C X.env) fp) elt te) (hs : ∀ x, foldedSetIterable iter X.env x = pure x := by intro _; rfl) :
    PE X (.ListComp elt [⟨tg, iter, ifs, 0⟩] scope pos) (tLc (iList X.K tl) g tt te (own.map (·.2))) := by
  refine ⟨fun pins s σ H Q I h => ?_⟩
  rw [eval_ListComp]
  have frees : ∀ z ∈ scope.names, z.2 = .free → ∃ c, X.env.cells.lookup z.1 = some c := fun z hz e => I.ok.has _ (ok.free z hz e)
  refine wpAny_comprehension_free (use := none) rfl hs (closure_ok frees) ok.kind (fun z hz e => by rw [ok.uniq z hz, e]) (thn (hl.run pins s σ H _ I h) fun v s1 ⟨x, H1, I1, r1, l, ex, ⟨xs, hq⟩, q⟩ => ?_)
  subst ex
  cases r1
  obtain ⟨its, rv, p, hz⟩ := I1.list hq
  refine wpAny_pyIter_list p.isList ?_
  generalize eit : s1.heap.objs.size = it
  have I2 : Inv X pins σ H1 { s1 with heap := s1.heap.push { cls := .type "list_iterator", data := .fields #[.ref l, .int 0 0] } } := I1.kept (t' := s1.toks) fun b o e => Heap.get?_push_of_some _ e
  have nit : H1 it = none := I1.hok.fresh (Nat.le_of_eq eit)
  have fit : FpOk X pins H1 it := I1.fpOk (Nat.le_of_eq eit) nit
  have st2 : (s1.heap.push { cls := .type "list_iterator", data := .fields #[.ref l, .int 0 0] } : Heap).IsListIter it l 0 := ⟨_, by rw [← eit]; exact Heap.get?_push_size _ rfl, rfl, rfl⟩
  have lit : it < (s1.heap.push { cls := .type "list_iterator", data := .fields #[.ref l, .int 0 0] }).objs.size := by rw [Heap.size_push]; omega
  generalize eh2 : s1.heap.push { cls := .type "list_iterator", data := .fields #[.ref l, .int 0 0] } = h2 at I2 st2 lit ⊢
  refine wpAny_newObj_type (newEnv_comp ?_) (by show 0 ≤ sizeLine; decide)
  generalize eP : h2.objs.size = P
  have nP : H1 P = none := I2.hok.fresh (Nat.le_of_eq eP)
  obtain ⟨W, ⟨m0, w0⟩, turn⟩ := q P nP
  have I3 : Inv X pins σ (upd H1 P (.lst [])) { s1 with heap := h2.push { cls := .type "list", data := .seq ([] : List Value).toArray } } :=
    I2.laid (t' := s1.toks) (fun b o e => Heap.get?_push_of_some _ e) (Nat.le_of_eq eP) ⟨Nat.zero_le _, [], 0, .nil, by rw [← eP]; exact Heap.get?_push_size _ rfl⟩
  have nip : it ≠ P := by omega
  have f3 : ∀ b ∈ [it], FpOk X pins (upd H1 P (.lst [])) b ∧ b < (h2.push { cls := .type "list", data := .seq ([] : List Value).toArray }).objs.size := fun b hb => by
    rw [List.mem_singleton.mp hb]
    refine ⟨⟨?_, fit.2⟩, by rw [Heap.size_push]; omega⟩
    rw [upd_ne nip]
    exact nit
  have st3 : (h2.push { cls := .type "list", data := .seq ([] : List Value).toArray } : Heap).IsListIter it l 0 := let ⟨o, e, c, d⟩ := st2; ⟨o, Heap.get?_push_of_some _ e, c, d⟩
  generalize eh3 : h2.push { cls := .type "list", data := .seq ([] : List Value).toArray } = h3 at I3 f3 st3 ⊢
  have I4 := block_start I3 ok hN f3
  generalize eG : upd H1 P (.lst []) = G at I3 f3 I4 w0
  have hE : (X.blk { s1 with heap := h3 } G scope (compEnvC scope (cellsFrom (h3.objs.size + 1) scope.names (cloFrom X.env.cells scope.names [])) h3.objs.size X.env) [it]).xe = fun _ _ => False := rfl
  have st4 : (pushCells (h3.push { cls := .type "dict", data := .dict #[] }) scope.names).IsListIter it l 0 := let ⟨o, e, c, d⟩ := st3; ⟨o, pushCells_keeps _ _ _ _ (Heap.get?_push_of_some _ e), c, d⟩
  have pg := hg { s1 with heap := h3 } G h3.objs.size (cellsFrom (h3.objs.size + 1) scope.names (cloFrom X.env.cells scope.names [])) [it]
  have pt := ht { s1 with heap := h3 } G h3.objs.size (cellsFrom (h3.objs.size + 1) scope.names (cloFrom X.env.cells scope.names [])) [it]
  have pe := he { s1 with heap := h3 } G h3.objs.size (cellsFrom (h3.objs.size + 1) scope.names (cloFrom X.env.cells scope.names [])) [it]
  obtain ⟨px, hp1, hpm⟩ := hot
  have pin3 := I3.pin px (List.mem_append_left _ hpm)
  have key : codeAny (model X.prog X.w) X.A (.compLoop (.ListComp elt [⟨tg, iter, ifs, 0⟩] scope pos) 0 (.ref it) (.ref P) (compEnvC scope (cellsFrom (h3.objs.size + 1) scope.names (cloFrom X.env.cells scope.names [])) h3.objs.size X.env))
      (compPost (model X.prog X.w) X.A X.xe none (fun v s' => EP X pins σ Q v s') (.ref P) h3.objs.size) { s1 with heap := pushCells (h3.push { cls := .type "dict", data := .dict #[] }) scope.names } := by
    refine lcH_loop (Y := X.blk { s1 with heap := h3 } G scope (compEnvC scope (cellsFrom (h3.objs.size + 1) scope.names (cloFrom X.env.cells scope.names [])) h3.objs.size X.env) [it]) (D := P) (W := W) (Qe := fun G' => Q (.ref P) G') (σ := σ) (vs := own.map (·.2)) hE (fun {σ' H' s'} J => ?_) pg pt pe
      (fun {σ' H' s'} J1 hn => ⟨hn, (J1.ok.exf it List.mem_cons_self).1, J1.ok.exfs it List.mem_cons_self, .inl List.mem_cons_self, fun x c e => (J1.ok.exf it List.mem_cons_self).2 x c e, fun p hp => absurd (show p ∈ ([] : List (Addr × Obj)) ++ [] from hp) (by simp)⟩) turn ?_ I4 st4 (f3 it List.mem_cons_self).1.1 w0
    · obtain ⟨hh, vs, dd, cc⟩ := hp1
      have nst : px.1 ∉ frs X.stack := fun z => (List.mem_cons.mp (I3.stkSub _ z)).elim pin3.2.2.1 pin3.2.2.2.1
      have nit2 : px.1 ∉ [it] := fun z => fit.2.2.2.2.2 px (List.mem_append_left _ hpm) (List.mem_singleton.mp z)
      exact ⟨px.1, hh, px.2, vs, J.base.keep px.1 px.2 pin3.1 pin3.2.1 nst nit2, dd, cc⟩
    intro s5 σ5 G5 J5 q5
    have I5 : Inv X pins σ G5 s5 := I3.call' (ch := [it]) J5.os J5.base J5.hok J5.bare fun b hb => ⟨(f3 b hb).1.2.2.2.1, (f3 b hb).1.2.1, (f3 b hb).1.2.2.2.2.1, (f3 b hb).1.2.2.2.2.2⟩
    have nC : G5 h3.objs.size = none := J5.free
    obtain ⟨mm, hn, _⟩ := J5.loc
    obtain ⟨k0, k1, k2, k3, k4, k5⟩ := I3.fpOk (Nat.le_refl _) nC
    exact ⟨mm, hn, fun h7 sb7 => ⟨.ref P, G5, I5.turned (t' := s5.toks) (fun b o hb e => (sb7.2 b hb).trans e) k0 k1 k3 k4 k5, rfl, q5⟩⟩
  exact codeAny_compStart_list key (wpAny_pyIter_listiter st4 key)
end
end Rh
/-! DL70: over data: a comprehension within an except suite, isinstance of what it holds. -/
namespace Rh
open PySem PySem.Spec PyProof.Rows L2 HotX L2H
/-- a walk over a list that changes no more -/
def diLs (te : DTE) : DTI := fun τ M R => te τ M fun x M1 => ∃ ds, x = .lst ds ∧ ds.length ≤ 1000 ∧ R ds (fun _ => True) M1
theorem liftLs {K : PySem.W.Frag} {O : Org} {te : DTE} {σ : L2.St} {H : Hp} {R : It → Hp → Prop} (h : liftI K O (diLs te) σ H R) : iList K (liftE K O te) σ H R := by
  obtain ⟨τ, M, R', b, t, p⟩ := h
  refine ⟨τ, M, _, b, t, fun d M1 v H1 q f a hd => ?_⟩
  obtain ⟨ds, rfl, sm, q⟩ := q
  obtain ⟨ad, vs, rfl, n, e, r⟩ := hd
  refine ⟨ad, rfl, ⟨vs, .inl (.inl e)⟩, p ds _ M1 H1 _ q f a (seq_it (Nat.le_trans sm (by decide)) fun H2 M2 f2 a2 _ => ⟨vs, .inl (.inl (f2.eq _ _ e n)), r.fr f2⟩)⟩
section
variable {X : Cx} {O : Org} {pos : Pos}
theorem de_lcH {elt tg iter : Expr} {ifs : List Expr} {scope : Scope} {own : List (Str × Nat)} {tl : DTE} {g : TG} {dg : DTG} {tt : DTT} {te : DTE} (mu : Bool) (hot : HotC X) (hN : X.N.Nodup) (hl : DE X O iter tl) (ok : BlkOk X.N X.env.scope scope own)
    (hg : ∀ (s : Shared) (H : Hp) (C : Addr) (cl : List (Str × Addr)) (fp : List Addr), PG (X.blk s H scope (compEnvC scope cl C X.env) fp) tg g) (hr : RefG X.K O (own.map (·.2)) g dg) (ht : ∀ (s : Shared) (H : Hp) (C : Addr) (cl : List (Str × Addr)) (fp : List Addr), DTs (X.blk s H scope (compEnvC scope cl C X.env) fp) O ifs tt)
    (he : ∀ (s : Shared) (H : Hp) (C : Addr) (cl : List (Str × Addr)) (fp : List Addr), DE (X.blk s H scope (compEnvC scope cl C X.env) fp) O elt te) (hs : ∀ x, foldedSetIterable iter X.env x = pure x := by intro _; rfl) :
    DE X O (.ListComp elt [⟨tg, iter, ifs, 0⟩] scope pos) (dLc mu (diLs tl) dg tt te (own.map (·.2))) := PE.wk (pe_lcH hot hN hl ok hg ht he hs) fun σ H Q h => liftLs (liftLc hr σ H Q h)
end
section
variable {Y X : Cx} {O : Org} {a C C0 : Addr} {oe : Obj} {d : Option Addr} {pn : List (Addr × Obj)} {e : Expr} {te : DTE} {pos p p2 : Pos} {ns : List Str} {ds : List D} {b : Bool} {y : Str}
/-- isinstance(e, C0): e the exception that the suite holds -/
theorem de_isX (hY : Y = X.suite a ((a, oe) :: pn)) (T : L2.ExcC X.K C) (hz : L2N.Zn (.ref C) d oe) (hf : ∃ vs, oe.data = .fields vs) (xd : XdIs X.K O.H O.M ns ds d) (hg : Gl Y "isinstance") (hm : Y.mg "isinstance" = none) (hg2 : Gl Y y) (hm2 : Y.mg y = some (.ref C0)) (kb : PySem.W.kitOne X.K (.ref C) (.ref C0) = some b) (he : DE Y O e te)
    (hs : starEach [e, .Name y p2] Y.env = (false, eval e Y.env) :: starEach [.Name y p2] Y.env := by rfl) (hd2 : (y == ("__debug__" : Str)) = false := by decide) : DE Y O (.Call (.Name "isinstance" p) [e, .Name y p2] [] pos) (dIsX b te a) := by
  subst hY
  refine PE.wk (pe_callB (call_isX T hz.zc hf) hg hm bt_isinstance (das_cons (O := O) he (das_cons (O := O) (de_c (d := .ref C0) (pe_glob (v := .ref C0) hg2 hm2 rfl hd2) rfl) das_nil) hs) (he := hs)) fun σ H Q ⟨τ, M, Q', b0, t, P⟩ => ?_
  refine ⟨τ, M, _, b0, t, fun x M1 v H1 q f a1 hx => ?_⟩
  obtain ⟨rfl, q⟩ := q
  refine ⟨τ, M1, _, b0.step f a1, (show dC (.ref C0) τ M1 (fun c M2 => c = .ref C0 ∧ M2 = M1) from ⟨rfl, rfl⟩), fun c M2 w H2 q2 f2 a2 hc => ?_⟩
  obtain ⟨rfl, rfl⟩ := q2
  have fz := f.trans f2
  obtain rfl : v = .ref a := hx
  obtain rfl : w = .ref C0 := hc
  refine ⟨.ref C0, .ref C0, b, rfl, fun u hu => hu, kb, fun dd e2 => ?_, P _ M2 _ H2 q fz a2 rfl⟩
  subst e2
  obtain ⟨vs, e3, n, l, r⟩ := xd.fr (b0.fr.trans fz)
  exact ⟨_, e3⟩
end
end Rh
/-! DL71: cells of a frame that is at rest: told for the time of a call, and taken out behind it. -/
namespace Rh
open PySem PySem.Spec PyProof.Rows L2 LamX
def putH (ke : Addr → Option Obj) (H : Hp) : Hp := fun a => match ke a with | some o => some (.frz o anyO) | none => H a
def delH (ke : Addr → Option Obj) (H : Hp) : Hp := fun a => match ke a with | some _ => none | none => H a
def putM (kd : Addr → Option D) (M : DHp) : DHp := fun a => match kd a with | some d => some (.cel d) | none => M a
def delM (kd : Addr → Option D) (M : DHp) : DHp := fun a => match kd a with | some _ => none | none => M a
section
variable {ke : Addr → Option Obj} {kd : Addr → Option D} {H H' : Hp} {M M' : DHp} {a : Addr}
theorem putH_in {o : Obj} (e : ke a = some o) : putH ke H a = some (.frz o anyO) := by unfold putH; rw [e]
theorem putH_out (e : ke a = none) : putH ke H a = H a := by unfold putH; rw [e]
theorem delH_in {o : Obj} (e : ke a = some o) : delH ke H a = none := by unfold delH; rw [e]
theorem delH_out (e : ke a = none) : delH ke H a = H a := by unfold delH; rw [e]
theorem putM_in {d : D} (e : kd a = some d) : putM kd M a = some (.cel d) := by unfold putM; rw [e]
theorem putM_out (e : kd a = none) : putM kd M a = M a := by unfold putM; rw [e]
theorem delM_in {d : D} (e : kd a = some d) : delM kd M a = none := by unfold delM; rw [e]
theorem delM_out (e : kd a = none) : delM kd M a = M a := by unfold delM; rw [e]
/-- what is told of the cells: the same addresses -/
def Same (ke : Addr → Option Obj) (kd : Addr → Option D) : Prop := ∀ a, ke a = none ↔ kd a = none
/-! ### taken out -/
section
variable {K : PySem.W.Frag} (s : Same ke kd) (hh : ∀ a o, ke a = some o → H a = some (.frz o anyO))
include hh
theorem keep_lst {u : HO} (e : H a = some u) (n : ∀ o, u ≠ .frz o anyO) : delH ke H a = some u := by
  cases q : ke a with
  | none => rw [delH_out q]; exact e
  | some o => rw [hh a o q] at e; exact absurd (Option.some.inj e).symm (n o)
include s
theorem del_none (n : M a = none) : delM kd M a = none := by
  cases q : kd a with
  | none => rw [delM_out q]; exact n
  | some d => exact delM_in q
theorem tupF_del {vs : List V} (t : TupF H a vs) : TupF (delH ke H) a vs := t.elim fun us e => ⟨us, keep_lst hh e fun o z => by cases z⟩
theorem kl_del {vs : List V} (h : KL K H M a vs) : KL K (delH ke H) (delM kd M) a vs := by
  rcases h with ⟨n, r⟩ | r
  · refine .inl ⟨del_none s hh n, ?_⟩
    rcases r with r | ⟨o, r⟩
    · exact .inl (keep_lst hh r fun o z => by cases z)
    · exact .inr ⟨o, keep_lst hh r fun o z => by cases z⟩
  · exact .inr r
mutual
theorem has_del : ∀ {d : D} {v : V}, Has K H M d v → Has K (delH ke H) (delM kd M) d v
  | .non, _, h => h
  | .bl _, _, h => h
  | .int _, _, h => h
  | .str _, _, h => h
  | .ref _, _, h => h
  | .ty _, _, h => h
  | .scr ns, _, h => by
    obtain ⟨a, e, t⟩ := h
    exact ⟨a, e, kl_del s hh t⟩
  | .tup ds, _, h => by
    obtain ⟨a, vs, e, n, t, r⟩ := h
    exact ⟨a, vs, e, del_none s hh n, tupF_del s hh t, hasL_del r⟩
  | .tpl ds, _, h => by
    obtain ⟨a, vs, e, n, t, r⟩ := h
    exact ⟨a, vs, e, del_none s hh n, keep_lst hh t fun o z => (nomatch z), hasL_del r⟩
  | .lst ds, _, h => by
    obtain ⟨a, vs, e, n, t, r⟩ := h
    exact ⟨a, vs, e, del_none s hh n, keep_lst hh t fun o z => (nomatch z), hasL_del r⟩
  | .dic ks ds, _, h => by
    obtain ⟨a, vs, e, n, t, l, r⟩ := h
    exact ⟨a, vs, e, del_none s hh n, keep_lst hh t fun o z => (nomatch z), l, hasL_del r⟩
  | .obj C ns ds, _, h => by
    obtain ⟨a, dx, vs, e, n, t, l, r⟩ := h
    exact ⟨a, dx, vs, e, del_none s hh n, keep_lst hh t fun o z => (nomatch z), l, hasL_del r⟩
theorem hasL_del : ∀ {ds : List D} {vs : List V}, HasL K H M ds vs → HasL K (delH ke H) (delM kd M) ds vs
  | [], _, h => h
  | d :: ds, _, h => by
    obtain ⟨v, r, e, h1, h2⟩ := h
    exact ⟨v, r, e, has_del h1, hasL_del h2⟩
end
theorem code_del {c : Addr} {q : Str} (e : H c = some (CodeO c q)) : delH ke H c = some (CodeO c q) := keep_lst hh e fun o z => (nomatch z)
theorem abH_del (A : AbH K H M) : AbH K (delH ke H) (delM kd M) := fun a u e => by
  cases q : kd a with
  | some d => rw [delM_in q] at e; cases e
  | none =>
    rw [delM_out q] at e
    have qe := (s a).mpr q
    have eq : delH ke H a = H a := delH_out qe
    have z := A a u e
    cases u with
    | lst ds => obtain ⟨vs, e1, r⟩ := z; exact ⟨vs, eq.trans e1, hasL_del s hh r⟩
    | dK ks ds => obtain ⟨vs, e1, l, r⟩ := z; exact ⟨vs, eq.trans e1, l, hasL_del s hh r⟩
    | ins C ns ds => obtain ⟨dx, vs, e1, l, r⟩ := z; exact ⟨dx, vs, eq.trans e1, l, hasL_del s hh r⟩
    | dT ks ds => obtain ⟨vs, e1, l, r⟩ := z; exact ⟨vs, eq.trans e1, l, hasL_del s hh r⟩
    | fT od vs ks ds => obtain ⟨e1, l, r⟩ := z; exact ⟨eq.trans e1, l, hasL_del s hh r⟩
    | lam L i cs => obtain ⟨cl, pm, ctv, c', e1, k, g, n⟩ := z; exact ⟨cl, pm, ctv, c', eq.trans e1, k, code_del s hh g, del_none s hh n⟩
    | cel d => obtain ⟨o, w, v, e1, k, g, r⟩ := z; exact ⟨o, w, v, eq.trans e1, k, g, has_del s hh r⟩
    | fK od vs ks ds => obtain ⟨e1, l, r⟩ := z; exact ⟨eq.trans e1, l, hasL_del s hh r⟩
    | tab qq =>
      obtain ⟨ps, e1, k, g⟩ := z
      refine ⟨ps, eq.trans e1, k, fun pos cv y => ?_⟩
      obtain ⟨b, e2, n, e3⟩ := g pos cv y
      exact ⟨b, e2, del_none s hh n, code_del s hh e3⟩
theorem xd_del {ns : List Str} {ds : List D} {d : Option Addr} (h : XdIs K H M ns ds d) : XdIs K (delH ke H) (delM kd M) ns ds d := by
  cases d with
  | none => exact h
  | some dx =>
    obtain ⟨vs, e, n, l, r⟩ := h
    exact ⟨vs, keep_lst hh e fun o z => (nomatch z), del_none s hh n, l, hasL_del s hh r⟩
end
theorem hok_del {P : Program} {w : World} {h : Heap} (hh : ∀ a o, ke a = some o → H a = some (.frz o anyO)) (x : HOk P w H h) : HOk P w (delH ke H) h := fun a o e => by
  cases q : ke a with
  | some oo => rw [delH_in q] at e; cases e
  | none =>
    rw [delH_out q] at e
    exact (x a o e).stay (fun _ _ _ q => q) (fun b z => keep_lst hh z fun o z => (nomatch z)) fun b xs z => keep_lst hh z fun o z => (nomatch z)
/-! ### put in -/
theorem hok_put {P : Program} {w : World} {h : Heap} (nn : ∀ a o, ke a = some o → H a = none) (g : ∀ a o, ke a = some o → h.get? a = some o) (x : HOk P w H h) : HOk P w (putH ke H) h := fun a o e => by
  have kp : ∀ b u, H b = some u → putH ke H b = some u := fun b u z => by
    cases q : ke b with
    | none => rw [putH_out q]; exact z
    | some oo => rw [nn b oo q] at z; cases z
  cases q : ke a with
  | some oo =>
    rw [putH_in q] at e
    cases e
    exact ⟨g a oo q, trivial, ⟨oo, g a oo q⟩, fun _ _ _ _ => trivial⟩
  | none =>
    rw [putH_out q] at e
    exact (x a o e).stay (fun _ _ _ q => q) (fun b z => kp _ _ z) fun b xs z => kp _ _ z
theorem fr_put (s : Same ke kd) (nn : ∀ a o, ke a = some o → H a = none) : Fr H M (putH ke H) (putM kd M) := by
  have out : ∀ a o, H a = some o → ke a = none := fun a o e => by
    cases q : ke a with
    | none => rfl
    | some oo => rw [nn a oo q] at e; cases e
  exact ⟨fun a o e _ => by rw [putH_out (out a o e)]; exact e, fun a o e n => by rw [putM_out ((s a).mp (out a o e))]; exact n⟩
/-- the cells, as they are told -/
def Told (K : PySem.W.Frag) (H : Hp) (M : DHp) (ke : Addr → Option Obj) (kd : Addr → Option D) : Prop := ∀ a d, kd a = some d → ∃ (o : Obj) (u : Value) (v : V), ke a = some o ∧ o.data = .cell (some u) ∧ RelV v u ∧ Has K H M d v
theorem abH_put {K : PySem.W.Frag} (s : Same ke kd) (nn : ∀ a o, ke a = some o → H a = none) (t : Told K H M ke kd) (A : AbH K H M) : AbH K (putH ke H) (putM kd M) := fun a u e => by
  have f := fr_put (M := M) s nn
  cases q : kd a with
  | some d =>
    rw [putM_in q] at e
    cases e
    obtain ⟨o, w, v, e1, e2, e3, r⟩ := t a d q
    exact ⟨o, w, v, putH_in e1, e2, e3, r.fr f⟩
  | none =>
    rw [putM_out q] at e
    exact (A a u e).fr f (putH_out ((s a).mpr q))
end
/-! ### a call's end -/
section
variable {P : Program} {w : World} {ke : Addr → Option Obj} {H : Hp} {s s' : Shared} {outer : List Env} {Q : VK} {E : XK} {u : Value}
/-- the cells were put in for the call: behind it they are taken out -/
theorem un_put {fs : List Addr} {H' : Hp} {h h' : Heap} (nn : ∀ a o, ke a = some o → H a = none) (nf : ∀ a o, ke a = some o → a ∉ fs) (g : ∀ a o, ke a = some o → h.get? a = some o) (x : HOk P w H' h') (un : Un fs [] (putH ke H) H' h h') : Un fs [] H (delH ke H') h h' ∧ ∀ a o, ke a = some o → H' a = some (.frz o anyO) := by
  have hh : ∀ a o, ke a = some o → H' a = some (.frz o anyO) := fun a o e => un.frzs a o anyO (putH_in e)
  have kp : ∀ b v, H b = some v → ke b = none ∧ putH ke H b = some v := fun b v z => by
    cases q : ke b with
    | none => exact ⟨rfl, by rw [putH_out q]; exact z⟩
    | some oo => rw [nn b oo q] at z; cases z
  refine ⟨⟨fun b o e n hb hx => ?_, fun b o e n hb hx => ?_, fun b o e n hx => ?_, un.there, fun b xs z => ?_, fun b o v z => ?_, fun b ps z => ?_⟩, hh⟩
  · cases q : ke b with
    | none => exact un.keep b o e (by rw [putH_out q]; exact n) hb hx
    | some oo =>
      have := (x b _ (hh b oo q)).1
      rw [this, ← g b oo q]
      exact e
  · cases q : ke b with
    | none => exact un.slot b o e (by rw [putH_out q]; exact n) hb hx
    | some oo => exact absurd hb (nf b oo q)
  · cases q : ke b with
    | none => rw [delH_out q]; exact un.free b o e (by rw [putH_out q]; exact n) hx
    | some oo => exact delH_in q
  · obtain ⟨q, z⟩ := kp _ _ z
    rw [delH_out q]; exact un.tups b xs z
  · obtain ⟨q, z⟩ := kp _ _ z
    rw [delH_out q]; exact un.frzs b o v z
  · obtain ⟨q, z⟩ := kp _ _ z
    rw [delH_out q]; exact un.tbls b ps z
theorem ce_taken (nn : ∀ a o, ke a = some o → H a = none) (nf : ∀ a o, ke a = some o → a ∉ frs outer) (g : ∀ a o, ke a = some o → s.heap.get? a = some o)
    (c : CE outer P w (putH ke H) s (fun v H' => (∀ a o, ke a = some o → H' a = some (.frz o anyO)) → Q v (delH ke H')) u s') : CE outer P w H s Q u s' := by
  obtain ⟨v, H', os, bare, un, hok, r, q⟩ := c
  obtain ⟨un2, hh⟩ := un_put nn nf g hok un
  exact ⟨v, delH ke H', os, bare, un2, hok_del hh hok, r, q hh⟩
theorem cx_taken (nn : ∀ a o, ke a = some o → H a = none) (nf : ∀ a o, ke a = some o → a ∉ frs outer) (g : ∀ a o, ke a = some o → s.heap.get? a = some o)
    (c : L2N.CX P w outer (putH ke H) s (fun cls d H' => (∀ a o, ke a = some o → H' a = some (.frz o anyO)) → E cls d (delH ke H')) u s') : L2N.CX P w outer H s E u s' := by
  obtain ⟨a, B, H', cls, d, rfl, fl, hok, ub, na, os, ag, q⟩ := c
  have hh : ∀ a o, ke a = some o → H' a = some (.frz o anyO) := fun a o e => ub.frzs a o anyO (putH_in e)
  have kp : ∀ b v, H b = some v → ke b = none ∧ putH ke H b = some v := fun b v z => by
    cases q : ke b with
    | none => exact ⟨rfl, by rw [putH_out q]; exact z⟩
    | some oo => rw [nn b oo q] at z; cases z
  refine ⟨a, B, delH ke H', cls, d, rfl, fl, hok_del hh hok, ⟨fun b o e n hb => ?_, ub.slot, fun b o e n => ?_, ub.there, fun b xs z => ?_, fun b o v z => ?_, fun b ps z => ?_⟩, ?_, os, ag, q hh⟩
  · cases q : ke b with
    | none => exact ub.keep b o e (by rw [putH_out q]; exact n) hb
    | some oo =>
      have := (hok b _ (hh b oo q)).1
      rw [this, ← g b oo q]
      exact e
  · cases q : ke b with
    | none => rw [delH_out q]; exact ub.free b o e (by rw [putH_out q]; exact n)
    | some oo => exact delH_in q
  · obtain ⟨q, z⟩ := kp _ _ z
    rw [delH_out q]; exact ub.tups b xs z
  · obtain ⟨q, z⟩ := kp _ _ z
    rw [delH_out q]; exact ub.frzs b o v z
  · obtain ⟨q, z⟩ := kp _ _ z
    rw [delH_out q]; exact ub.tbls b ps z
  · cases q : ke a with
    | none => rw [delH_out q]; exact na
    | some oo => exact delH_in q
/-- the cells were taken out for the call: behind it they are put in again -/
theorem un_del {fs : List Addr} {H' : Hp} {h h' : Heap} (hh : ∀ a o, ke a = some o → H a = some (.frz o anyO)) (nf : ∀ a o, ke a = some o → a ∉ fs) (x : HOk P w H h) (un : Un fs [] (delH ke H) H' h h') : Un fs [] H (putH ke H') h h' ∧ (∀ a o, ke a = some o → H' a = none) ∧ ∀ a o, ke a = some o → h'.get? a = some o := by
  have g : ∀ a o, ke a = some o → h.get? a = some o := fun a o e => (x a _ (hh a o e)).1
  have kp : ∀ b v, H b = some v → (∀ o, v ≠ .frz o anyO) → ke b = none ∧ delH ke H b = some v := fun b v z n => by
    cases q : ke b with
    | none => exact ⟨rfl, by rw [delH_out q]; exact z⟩
    | some oo => rw [hh b oo q] at z; exact absurd (Option.some.inj z).symm (n oo)
  have out : ∀ b, H b = none → ke b = none := fun b n => by
    cases q : ke b with
    | none => rfl
    | some oo => rw [hh b oo q] at n; cases n
  refine ⟨⟨fun b o e n hb hx => un.keep b o e (by rw [delH_out (out b n)]; exact n) hb hx, fun b o e n hb hx => un.slot b o e (by rw [delH_out (out b n)]; exact n) hb hx, fun b o e n hx => by rw [putH_out (out b n)]; exact un.free b o e (by rw [delH_out (out b n)]; exact n) hx, un.there, fun b xs z => ?_, fun b o v z => ?_, fun b ps z => ?_⟩, fun a o e => un.free a o (g a o e) (delH_in e) (by simp), fun a o e => un.keep a o (g a o e) (delH_in e) (nf a o e) (by simp)⟩
  · obtain ⟨q, z⟩ := kp _ _ z fun o z => (nomatch z)
    rw [putH_out q]; exact un.tups b xs z
  · cases q : ke b with
    | none => rw [putH_out q]; exact un.frzs b o v (by rw [delH_out q]; exact z)
    | some oo =>
      rw [hh b oo q] at z
      rw [putH_in q]; exact z
  · obtain ⟨q, z⟩ := kp _ _ z fun o z => (nomatch z)
    rw [putH_out q]; exact un.tbls b ps z
theorem ce_back (hh : ∀ a o, ke a = some o → H a = some (.frz o anyO)) (nf : ∀ a o, ke a = some o → a ∉ frs outer) (x : HOk P w H s.heap)
    (c : CE outer P w (delH ke H) s (fun v H' => (∀ a o, ke a = some o → H' a = none) → Q v (putH ke H')) u s') : CE outer P w H s Q u s' := by
  obtain ⟨v, H', os, bare, un, hok, r, q⟩ := c
  obtain ⟨un2, nn, g⟩ := un_del hh nf x un
  exact ⟨v, putH ke H', os, bare, un2, hok_put nn g hok, r, q nn⟩
theorem cx_back (hh : ∀ a o, ke a = some o → H a = some (.frz o anyO)) (nf : ∀ a o, ke a = some o → a ∉ frs outer) (x : HOk P w H s.heap)
    (c : L2N.CX P w outer (delH ke H) s (fun cls d H' => (∀ a o, ke a = some o → H' a = none) → E cls d (putH ke H')) u s') : L2N.CX P w outer H s E u s' := by
  obtain ⟨a, B, H', cls, d, rfl, fl, hok, ub, na, os, ag, q⟩ := c
  have g : ∀ a o, ke a = some o → s.heap.get? a = some o := fun a o e => (x a _ (hh a o e)).1
  have kp : ∀ b v, H b = some v → (∀ o, v ≠ .frz o anyO) → ke b = none ∧ delH ke H b = some v := fun b v z n => by
    cases q : ke b with
    | none => exact ⟨rfl, by rw [delH_out q]; exact z⟩
    | some oo => rw [hh b oo q] at z; exact absurd (Option.some.inj z).symm (n oo)
  have out : ∀ b, H b = none → ke b = none := fun b n => by
    cases q : ke b with
    | none => rfl
    | some oo => rw [hh b oo q] at n; cases n
  have nn : ∀ a o, ke a = some o → H' a = none := fun a o e => ub.free a o (g a o e) (delH_in e)
  have gB : ∀ a o, ke a = some o → B.get? a = some o := fun a o e => ub.keep a o (g a o e) (delH_in e) (nf a o e)
  refine ⟨a, B, putH ke H', cls, d, rfl, fl, hok_put nn gB hok, ⟨fun b o e n hb => ub.keep b o e (by rw [delH_out (out b n)]; exact n) hb, ub.slot, fun b o e n => by rw [putH_out (out b n)]; exact ub.free b o e (by rw [delH_out (out b n)]; exact n), ub.there, fun b xs z => ?_, fun b o v z => ?_, fun b ps z => ?_⟩, ?_, os, ag, q nn⟩
  · obtain ⟨q, z⟩ := kp _ _ z fun o z => (nomatch z)
    rw [putH_out q]; exact ub.tups b xs z
  · cases q : ke b with
    | none => rw [putH_out q]; exact ub.frzs b o v (by rw [delH_out q]; exact z)
    | some oo =>
      rw [hh b oo q] at z
      rw [putH_in q]; exact z
  · obtain ⟨q, z⟩ := kp _ _ z fun o z => (nomatch z)
    rw [putH_out q]; exact ub.tbls b ps z
  · cases q : ke a with
    | none => rw [putH_out q]; exact na
    | some oo =>
      have := gB a oo q
      rw [fl.2.1] at this
      cases this
end
end Rh
/-! DL72: lambdas as values: made, handed on, called by a def that finds them in a slot. -/
namespace Rh
open PySem PySem.Spec PyProof.Rows L2 LamX NdefX
/-- the slots' cells in the frame of X -/
def ceS (X : Cx) : Nat → Addr := fun j => ((X.N[j]?).bind fun y => X.env.cells.lookup y).getD 0
/-- the cells of the slots js, numbered -/
def cellsAt (js : List Nat) (ce : Nat → Addr) : List (Nat × Addr) := js.mapIdx fun k j => (k, ce j)
theorem cellsAt_get {js : List Nat} {ce : Nat → Addr} {k : Nat} : (cellsAt js ce)[k]? = (js[k]?).map fun j => (k, ce j) := by unfold cellsAt; rw [List.getElem?_mapIdx]
/-- how a lambda of the def with these names captures -/
structure LamC (N : List Str) (sc : Scope) (L : LamDesc) (js : List Nat) : Prop where
  ns : NScope L.N [] L.N L.scope
  at_ : js.map (fun j => N[j]?) = L.N.map some
  cel : ∀ y ∈ L.N, sc.names.lookup y = some .cell
def lamCB (N : List Str) (sc : Scope) (L : LamDesc) (js : List Nat) : Bool := nscB L.N [] L.N L.scope && decide (js.map (fun j => N[j]?) = L.N.map some) && L.N.all fun y => decide (sc.names.lookup y = some .cell)
theorem lamC_by {N : List Str} {sc : Scope} {L : LamDesc} {js : List Nat} (h : lamCB N sc L js = true) : LamC N sc L js := by
  unfold lamCB at h
  simp only [Bool.and_eq_true, decide_eq_true_eq, List.all_eq_true] at h
  exact ⟨nscope_by h.1.1, h.1.2, h.2⟩
/-- more is told of what stands in the heap already -/
theorem inv_tell {X : Cx} {pins : List (Addr × Obj)} {σ : L2.St} {H0 H : Hp} {s0 s : Shared} {f : Addr} {u : HO} (I0 : Inv X pins σ H0 s0) (I : Inv X pins σ H s) (hf : s0.heap.objs.size ≤ f) (hn : H f = none) (ho : ObjOk X.prog X.w H s.heap f u) (nt : ∀ z, u ≠ .own z) (hx : f ∉ X.ex ∨ True := .inr trivial) : Inv X pins σ (upd H f u) s := by
  have nl : X.env.locals ≠ f := Nat.ne_of_lt (Nat.lt_of_lt_of_le I0.lt hf)
  have ng : ∀ {b : Addr} {v : HO}, H b = some v → b ≠ f := fun e z => by rw [z, hn] at e; cases e
  refine ⟨I.ok, I.os, I.bare, ⟨fun b o e n hb hx => I.base.keep b o e n hb hx, fun b o e n hb hx => I.base.slot b o e n hb hx, fun b o e n hx => ?_, I.base.there, fun b xs e => ?_, fun b o v e => ?_, fun b ps e => ?_⟩, I.loc, I.cell, (upd_ne nl).trans I.free, fun y c e => ?_, fun p hp => ?_, fun a o e => ?_, I.len⟩
  · have lt := Heap.lt_size e
    rw [upd_ne (Nat.ne_of_lt (Nat.lt_of_lt_of_le lt (Nat.le_trans I0.sz hf)))]
    exact I.base.free b o e n hx
  · have := I.base.tups b xs e
    rw [upd_ne (ng this)]; exact this
  · have := I.base.frzs b o v e
    rw [upd_ne (ng this)]; exact this
  · obtain ⟨m, e2⟩ := I.base.tbls b ps e
    exact ⟨m, by rw [upd_ne (ng e2)]; exact e2⟩
  · obtain ⟨v, o, e2, _⟩ := I0.cell y c e
    rw [upd_ne (Nat.ne_of_lt (Nat.lt_of_lt_of_le (Heap.lt_size e2) hf))]
    exact I.freeC y c e
  · obtain ⟨g1, g2, g3⟩ := I.pin p hp
    have := (I0.pin p hp).1
    exact ⟨g1, by rw [upd_ne (Nat.ne_of_lt (Nat.lt_of_lt_of_le (Heap.lt_size this) hf))]; exact g2, g3⟩
  · by_cases z : a = f
    · subst z
      rw [upd_same] at e
      cases e
      exact ho.stay (fun _ _ _ q => q) (fun b q => by rw [upd_ne (ng q)]; exact q) fun b xs q => by rw [upd_ne (ng q)]; exact q
    · rw [upd_ne z] at e
      exact (I.hok a o e).stay (fun _ _ _ q => q) (fun b q => by rw [upd_ne (ng q)]; exact q) fun b xs q => by rw [upd_ne (ng q)]; exact q
/-! ### made -/
/-- lambda: .. as a value: the i-th of the text; P the table of the maker's code objects -/
def dLamV (P : Addr) (q : Str) (L : LamDesc) (i : Nat) (js : List Nat) (ce : Nat → Addr) : DTE := fun τ M Q => M P = some (.tab q) ∧ ∀ f, M f = none → (∀ j ∈ js, M (ce j) = none) → (∀ j ∈ js, f ≠ ce j) → Q (.ref f) (up M f (.lam L i (cellsAt js ce)))
section
variable {X : Cx} {O : Org} {c P : Addr} {params : Arguments} {body : Expr} {scope : Scope} {lpos : Pos} {L : LamDesc} {i : Nat} {js : List Nat} {q : Str}
theorem LamC.name (C : LamC X.N X.env.scope L js) {k j : Nat} (e : js[k]? = some j) : ∃ y, L.N[k]? = some y ∧ X.N[j]? = some y ∧ y ∈ L.N := by
  have z : (js.map fun j => X.N[j]?)[k]? = (L.N.map some)[k]? := by rw [C.at_]
  rw [List.getElem?_map, List.getElem?_map, e] at z
  cases h : L.N[k]? with
  | none => rw [h] at z; cases z
  | some y => rw [h] at z; exact ⟨y, rfl, Option.some.inj z, List.mem_of_getElem? h⟩
theorem LamC.slot (C : LamC X.N X.env.scope L js) {k : Nat} {y : Str} (e : L.N[k]? = some y) : ∃ j, js[k]? = some j ∧ X.N[j]? = some y := by
  have z : (js.map fun j => X.N[j]?)[k]? = (L.N.map some)[k]? := by rw [C.at_]
  rw [List.getElem?_map, List.getElem?_map, e] at z
  cases h : js[k]? with
  | none => rw [h] at z; cases z
  | some j => rw [h] at z; exact ⟨j, rfl, Option.some.inj z⟩
theorem ce_is (ok : X.Ok) {j : Nat} {y : Str} (e : X.N[j]? = some y) (hc : X.env.scope.names.lookup y = some .cell) : X.env.cells.lookup y = some (ceS X j) := by
  obtain ⟨a, ha⟩ := ok.has y (.inl hc)
  unfold ceS
  rw [e]
  show _ = some ((X.env.cells.lookup y).getD 0)
  rw [ha] <;> rfl
theorem LamC.clo (C : LamC X.N X.env.scope L js) (ok : X.Ok) (hs : L.scope = scope) : ClOk L (cellsAt js (ceS X)) (cloFrom X.env.cells scope.names []) := by
  subst hs
  have hf : ∀ y ∈ L.scope.names, y.2 = .free → ∃ c, X.env.cells.lookup y.1 = some c := fun y hy e => ok.has _ (.inl (C.cel _ (C.ns.free y hy e)))
  refine ⟨fun y e => ?_, fun y z c e1 e2 => ok.inj y z c (clo_cm hf e1) (clo_cm hf e2), fun y c e => ?_, fun k c hm => ?_⟩
  · have hy := PySem.mem_of_lookup e
    obtain ⟨c, hc⟩ := hf _ hy rfl
    exact ⟨c, clo_has hf hy hc⟩
  · have e1 := clo_cm hf e
    have hy : (y, NameKind.free) ∈ L.scope.names := by
      rcases cloFrom_mem (PySem.mem_of_lookup e) with hm | ⟨h1, _⟩
      · cases hm
      · exact h1
    have yN := C.ns.free _ hy rfl
    obtain ⟨k, hk⟩ := List.mem_iff_getElem?.mp yN
    obtain ⟨j, hj, hN⟩ := C.slot hk
    rw [ce_is ok hN (C.cel y yN)] at e1
    cases e1
    exact ⟨k, hk, List.mem_of_getElem? (by rw [cellsAt_get, hj] <;> rfl : (cellsAt js (ceS X))[k]? = some (k, ceS X j))⟩
  · obtain ⟨n, hn⟩ := List.mem_iff_getElem?.mp hm
    rw [cellsAt_get] at hn
    cases hj : js[n]? with
    | none => rw [hj] at hn; cases hn
    | some j =>
      rw [hj] at hn
      cases hn
      obtain ⟨y, h1, h2, yN⟩ := C.name hj
      have fk := C.ns.frk y yN
      exact ⟨y, h1, clo_has hf (PySem.mem_of_lookup fk) (ce_is ok h2 (C.cel y yN))⟩
theorem de_lamV (hL : L = ⟨q, params, body, scope, L.N⟩) (C : LamC X.N X.env.scope L js) (TB : TabB X.base X.mg c P) (hcode : X.env.code = .ref c) (hq : X.env.qual ++ "<lambda>" = q) (hdef : defaultsOf params X.env = ([], [])) :
    DE X O (.Lambda params body scope lpos) (dLamV P q L i js (ceS X)) := by
  subst hq
  refine ⟨fun pins s σ H Q I ⟨τ, M, Q', b, ⟨em, t⟩, post⟩ => ?_⟩
  have hs : L.scope = scope := by rw [hL]
  have hfree : ∀ y ∈ scope.names, y.2 = .free → ∃ c, X.env.cells.lookup y.1 = some c := fun y hy e => I.ok.has _ (.inl (C.cel _ (C.ns.free y (by rw [hs]; exact hy) e)))
  refine lam_obj I b.h TB hcode em hdef hfree fun f c' pm ctv H1 s' I1 f1 a1 hf hfn hfr hsz hco => ?_
  have clk := C.clo I.ok hs
  have cN : ∀ j ∈ js, ∃ y, X.env.cells.lookup y = some (ceS X j) := fun j hj => by
    obtain ⟨k, hk⟩ := List.mem_iff_getElem?.mp hj
    obtain ⟨y, _, h2, yN⟩ := C.name hk
    exact ⟨y, ce_is I.ok h2 (C.cel y yN)⟩
  have mc : ∀ j ∈ js, M (ceS X j) = none := fun j hj => let ⟨y, e⟩ := cN j hj; b.h.fresh (I.freeC y _ e)
  have nc : ∀ j ∈ js, f ≠ ceS X j := fun j hj z => by
    obtain ⟨y, e⟩ := cN j hj
    obtain ⟨v, o, e2, _⟩ := I.cell y _ e
    exact absurd (Heap.lt_size e2) (Nat.not_lt.mpr (z ▸ hsz))
  have fM : M f = none := a1.fresh hfn
  have I2 := inv_tell (u := .frz (PySem.W.kla_obj "<lambda>" (X.env.qual ++ "<lambda>") params body scope (cloFrom X.env.cells scope.names []) pm c' ctv) anyO) I I1 hsz hfn ⟨hf, trivial, ⟨_, hf⟩, fun _ _ _ _ => trivial⟩ fun z e => (nomatch e)
  have ncf : c' ≠ f := fun z => by rw [z, hfn] at hco; cases hco
  refine ⟨.ref f, _, I2, rfl, ?_⟩
  refine post _ _ (.ref f) _ (t f fM mc nc) (f1.trans (Fr.newT hfn)) (AbH.newT a1 hfn ⟨_, pm, ctv, c', ?_, clk, by rw [congrArg LamDesc.q hL]; exact (upd_ne ncf).trans hco, (up_ne ncf).trans (no_ext a1 hco)⟩) rfl
  rw [upd_same, hL]
end
end Rh
/-! DL73: a call for whose time the frame's cells are told; a lambda called that stands in a slot. -/
namespace Rh
open PySem PySem.Spec PyProof.Rows L2 LamX NdefX
/-! ### a call with the cells told -/
def celS (ce : Nat → Addr) (js : List Nat) (τ : DSt) : Addr → Option D := fun a => (js.find? fun j => ce j == a).bind fun j => sl τ j
theorem celS_some {ce : Nat → Addr} {js : List Nat} {τ : DSt} {a : Addr} {d : D} (e : celS ce js τ a = some d) : ∃ j ∈ js, ce j = a ∧ sl τ j = some d := by
  unfold celS at e
  cases q : js.find? fun j => ce j == a with
  | none => rw [q] at e; cases e
  | some j =>
    rw [q] at e
    exact ⟨j, List.mem_of_find?_eq_some q, by simpa using List.find?_some q, e⟩
/-- the slots js are captured ones of a def's frame -/
structure CapJ (X : Cx) (js : List Nat) : Prop where
  nN : X.N.Nodup
  cell : ∀ j ∈ js, ∃ y, X.N[j]? = some y ∧ X.env.scope.names.lookup y = some .cell
  fn : ∀ x, X.fn x = true
def dOwnL (sp : DSp) (ce : Nat → Addr) (js : List Nat) (ixs : List Nat) (dds : List D) (W : DWX) (ts tks : List DTE) : DTE := fun τ M Q => dBoth ts tks τ M fun ds es M2 => (∀ j ∈ js, M2 (ce j) = none) → (∀ i ∈ js, ∀ j ∈ js, ce i = ce j → i = j) →
  sp (pickL ixs (ds ++ es ++ dds)) (putM (celS ce js τ) M2) (fun d M' => (∀ a e, celS ce js τ a = some e → M' a = some (.cel e)) ∧ Q d (delM (celS ce js τ) M')) (fun C ns es M' => (∀ a e, celS ce js τ a = some e → M' a = some (.cel e)) ∧ W C ns es τ (delM (celS ce js τ) M'))
section
variable {X : Cx} {O : Org} {k j n : Nat} {f : Addr} {ks : List Str} {ixs : List Nat} {dds : List D} {sp : DSp} {pins : List (Addr × Obj)} {σ : L2.St} {H : Hp} {s : Shared} {M : DHp} {W : DWX} {τ : DSt} {js : List Nat}
theorem CapJ.is (C : CapJ X js) (ok : X.Ok) {j : Nat} (hj : j ∈ js) : ∃ y, X.N[j]? = some y ∧ X.env.scope.names.lookup y = some .cell ∧ X.env.cells.lookup y = some (ceS X j) :=
  let ⟨y, e1, e2⟩ := C.cell j hj; ⟨y, e1, e2, ce_is ok e1 e2⟩
theorem CapJ.inj (C : CapJ X js) (ok : X.Ok) : ∀ i ∈ js, ∀ j ∈ js, ceS X i = ceS X j → i = j := fun i hi j hj e => by
  obtain ⟨y, a1, _, a3⟩ := C.is ok hi
  obtain ⟨z, b1, _, b3⟩ := C.is ok hj
  rw [← e] at b3
  obtain rfl := ok.inj y z _ a3 b3
  exact nodup_ix C.nN a1 b1
theorem CapJ.new (C : CapJ X js) (I : Inv X pins σ H s) {j : Nat} (hj : j ∈ js) : X.s_0.heap.objs.size ≤ ceS X j ∧ H (ceS X j) = none ∧ ceS X j ∉ frs X.stack := by
  obtain ⟨y, a1, a2, a3⟩ := C.is I.ok hj
  have h1 := I.ok.cab y _ (C.fn y) a3
  refine ⟨h1, I.freeC y _ a3, fun z => ?_⟩
  rcases List.mem_cons.mp (I.stkSub _ z) with e | e
  · exact I.cne y _ a3 e
  · obtain ⟨_, o, ho, _⟩ := I.ok.funs.mem e
    exact absurd (Nat.lt_of_lt_of_le (Heap.lt_size ho) h1) (Nat.lt_irrefl _)
/-- what the slot j holds stands in its cell -/
theorem CapJ.holds (C : CapJ X js) (I : Inv X pins σ H s) {j : Nat} (hj : j ∈ js) {v : V} (e : σ[j]? = some (some v)) : ∃ (o : Obj) (u : Value), s.heap.get? (ceS X j) = some o ∧ o.data = .cell (some u) ∧ RelV v u := by
  obtain ⟨y, a1, a2, a3⟩ := C.is I.ok hj
  obtain ⟨m, _, hl⟩ := I.loc
  obtain ⟨u, r, l⟩ := hl j y v a1 e (.inr (.inl a2))
  rcases l with ⟨z, _⟩ | ⟨_, a', ha', o, ho, hd⟩
  · have z' : X.env.scope.names.lookup y = some .local := z
    rw [a2] at z'; cases z'
  · rw [a3] at ha'
    cases ha'
    exact ⟨o, u, ho, hd, r⟩
theorem de_ownL {x : Str} {p pos : Pos} {es' : List Expr} {kws : List Keyword} {ts tks : List DTE} (hC : CapJ X js) (hm : X.mg x = some (.ref f)) (hkp : PySem.W.keepIn X.K (.ref f) = true) (c : Pk X.prog X.w X.K X.mg X.base j f n ks ixs dds sp) (hG : X.A.guards = some []) (hr : Room k X.A) (hj : j ≤ k) (hg : Gl X x) (tk : L2N.Takes X (liftW X.K O W)) (ha : DAK X O pos es' kws ks ts tks)
    (hn : ts.length = n := by rfl) (hn2 : tks.length = ks.length := by rfl) (hdb : (x == ("__debug__" : Str)) = false := by decide) : DE X O (.Call (.Name x p) es' kws pos) (dOwnL sp (ceS X) js ixs dds W ts tks) := ⟨fun pins s σ H Q I h => by
  obtain ⟨τ, M, Q', b, t, P⟩ := h
  refine wpAny_Call_Name_kw (ld_glob I hg hm ?_ hdb)
  refine PySem.W.callWith_of (P := X.K.In) ha.plain (PySem.W.keeps_K hkp) (both_run ha I b t fun ds es M' vs zs us ws H' s' q l1 l2 f' a' h1 h2 I' rv rz => ⟨I'.kIn, ?_⟩)
  have b' := b.step f' a'
  have q := q (fun j hj => a'.fresh (hC.new I' hj).2.1) (hC.inj I'.ok)
  generalize ekd : celS (ceS X) js τ = kd at q
  have P' := P.tr f'
  clear t
  obtain ⟨fd, ps, dus, dvs, F, kb, hc⟩ := c.mono hj
  have tl : ∀ a d, kd a = some d → ∃ (o : Obj) (u : Value) (v : V), s'.heap.get? a = some o ∧ o.data = .cell (some u) ∧ RelV v u ∧ Has X.K H' M' d v ∧ H' a = none ∧ a ∉ frs X.stack ∧ X.s_0.heap.objs.size ≤ a := fun a d e => by
    rw [← ekd] at e
    obtain ⟨j, hj, rfl, ej⟩ := celS_some e
    obtain ⟨v, ev, hv⟩ := b'.s.get j d (sl_get ej)
    obtain ⟨o, u, ho, hd, r⟩ := hC.holds I' hj ev
    obtain ⟨g1, g2, g3⟩ := hC.new I' hj
    exact ⟨o, u, v, ho, hd, r, hv, g2, g3, g1⟩
  let ke : Addr → Option Obj := fun a => (kd a).bind fun _ => s'.heap.get? a
  have ke0 : ∀ a, kd a = none → ke a = none := fun a e => by show (kd a).bind _ = none; rw [e] <;> rfl
  have ke1 : ∀ a d, kd a = some d → ke a = s'.heap.get? a := fun a d e => by show (kd a).bind _ = _; rw [e] <;> rfl
  have kes : ∀ a o, ke a = some o → ∃ d, kd a = some d ∧ s'.heap.get? a = some o := fun a o e => by
    cases q : kd a with
    | none => rw [ke0 a q] at e; cases e
    | some d => exact ⟨d, rfl, (ke1 a d q).symm.trans e⟩
  have same : Same ke kd := fun a => by
    constructor
    · intro e
      cases q : kd a with
      | none => rfl
      | some d =>
        obtain ⟨o, _, _, ho, _⟩ := tl a d q
        rw [ke1 a d q, ho] at e; cases e
    · exact ke0 a
  have nn : ∀ a o, ke a = some o → H' a = none := fun a o e => let ⟨d, e1, _⟩ := kes a o e; let ⟨_, _, _, _, _, _, _, z, _⟩ := tl a d e1; z
  have nf : ∀ a o, ke a = some o → a ∉ frs X.stack := fun a o e => let ⟨d, e1, _⟩ := kes a o e; let ⟨_, _, _, _, _, _, _, _, z, _⟩ := tl a d e1; z
  have g : ∀ a o, ke a = some o → s'.heap.get? a = some o := fun a o e => (kes a o e).choose_spec.2
  have told : Told X.K H' M' ke kd := fun a d e => by
    obtain ⟨o, u, v, ho, hd, r, hv, _⟩ := tl a d e
    exact ⟨o, u, v, (ke1 a d e).trans ho, hd, r, hv⟩
  have e0 := I'.env0
  have out : ∀ a, H' a ≠ none → ke a = none := fun a z => by
    cases q : ke a with
    | none => rfl
    | some o => exact absurd (nn a o q) z
  have env1 : Env0 X.prog X.w X.K X.mg X.base X.A X.stack s' (putH ke H') := by
    refine ⟨e0.frames, e0.mod, fun a o e => ?_, e0.bsz, e0.funs, fun a ha => ?_, hok_put nn g e0.hok, e0.bare⟩
    · obtain ⟨e1, e2⟩ := e0.bs a o e
      refine ⟨e1, ?_⟩
      cases q : ke a with
      | none => rw [putH_out q]; exact e2
      | some oo =>
        obtain ⟨d, k1, _⟩ := kes a oo q
        obtain ⟨_, _, _, _, _, _, _, _, _, z⟩ := tl a d k1
        exact absurd (Nat.lt_of_lt_of_le (Heap.lt_size (I'.ok.bs a o e).1) z) (Nat.lt_irrefl _)
    · cases q : ke a with
      | none => rw [putH_out q]; exact e0.frf a ha
      | some oo => exact absurd ha (nf a oo q)
  have r2 := kb.rel rv rz
  have fp := fr_put (M := M') same nn
  have hh : HasL X.K (putH ke H') (putM kd M') (pickL ixs (ds ++ es ++ dds)) (pickL ixs (vs ++ zs ++ dvs)) := pick_has (((h1.fr fp).app (h2.fr fp)).app (constL_has hc)) ixs
  have frb : ∀ {H2 : Hp} {M2 : DHp}, Fr (putH ke H') (putM kd M') H2 M2 → Fr H' M' (delH ke H2) (delM kd M2) := fun {H2 M2} f => by
    refine ⟨fun a o e n => ?_, fun a o e n => ?_⟩
    · have q := out a (by rw [e]; exact fun z => nomatch z)
      rw [delH_out q]
      exact f.eq a o (by rw [putH_out q]; exact e) (by rw [putM_out ((same a).mp q)]; exact n)
    · have q := out a (by rw [e]; exact fun z => nomatch z)
      rw [delM_out ((same a).mp q)]
      exact f.un a o (by rw [putH_out q]; exact e) (by rw [putM_out ((same a).mp q)]; exact n)
  refine wpAny_call (codeAny_mono (F.run X.A X.stack s' (putH ke H') ⟨us, ks.zip ws⟩ _ _ (fun v H2 => (∀ a o, ke a = some o → H2 a = some (.frz o anyO)) → Q v (delH ke H2)) (fun cls d H2 => (∀ a o, ke a = some o → H2 a = some (.frz o anyO)) → WE (liftW X.K O W) σ cls d (delH ke H2)) hG hr env1 (kb.to s' us ws I'.kIn (rv.length.symm.trans (h1.len.trans (l1.trans hn))) (rz.length.symm.trans (h2.len.trans (l2.trans hn2)))) r2
    ⟨_, putM kd M', _, _, abH_put same nn told a', hh, q, fun d M2 v H2 q2 f2 a2 hv hx => ?_, fun C ns es M2 d H2 y f2 a2 xd hx => ?_⟩) fun r s2 z => ?_)
  · exact P' d (delM kd M2) v (delH ke H2) q2.2 (frb f2) (abH_del same hx a2) (has_del same hx hv)
  · exact ⟨C, ns, es, τ, delM kd M2, rfl, b'.step (frb f2) (abH_del same hx a2), xd_del same hx xd, y.2⟩
  · match r, z with
    | .error ex, z => exact L2N.passAt tk σ pins H' s' ex s2 I' (cx_taken nn nf g z)
    | .ok (.ret u), z => exact I'.after (ce_taken nn nf g z)⟩
end
end Rh
/-! DL74: a lambda that stands in a slot is called; its cells are told. -/
namespace Rh
open PySem PySem.Spec PyProof.Rows L2 LamX NdefX
/-- a lambda of the text and what its body does, its captured names the slots -/
structure LamI where
  L : LamDesc
  n : Nat
  tb : DWX → DTE
def nfL (L : LamDesc) (cl : List (Str × Addr)) (c' : Addr) : NF := ⟨"<lambda>", L.q, L.params, [], L.scope, cl, c'⟩
/-- its body keeps to it -/
structure LamRun (P : Program) (w : World) (K : PySem.W.Frag) (mg : Str → Option Value) (base : Heap) (k : Nat) (l : LamI) : Prop where
  ns : NScope l.L.N [] l.L.N l.L.scope
  len : l.L.N.length = l.n
  bind : ∀ (cl : List (Str × Addr)) (pm cv ctv : Value), bindArgs (PySem.W.kla_fn "<lambda>" l.L.q l.L.params l.L.body l.L.scope cl pm cv ctv) ⟨[], []⟩ = pure []
  body : ∀ (A : Around) (outer : List Env) (s : Shared) (H : Hp) (E : XK) (f c' : Addr) (cl : List (Str × Addr)) (O' : Org) (W : DWX), A.guards = some [] → Room k (A.deeper (envF (nfL l.L cl c') f s.heap.objs.size)) →
    L2N.Takes (ncx (L2N.CX P w) P w K mg base l.L.N (nfL l.L cl c') f A outer s H E) (liftW K O' W) → DE (ncx (L2N.CX P w) P w K mg base l.L.N (nfL l.L cl c') f A outer s H E) O' l.L.body (l.tb W)
theorem LamRun.mono {P : Program} {w : World} {K : PySem.W.Frag} {mg : Str → Option Value} {base : Heap} {j k : Nat} {l : LamI} (r : LamRun P w K mg base j l) (h : j ≤ k) : LamRun P w K mg base k l :=
  ⟨r.ns, r.len, r.bind, fun A outer s H E f c' cl O' W hG hr tk => r.body A outer s H E f c' cl O' W hG (hr.mono h) tk⟩
/-- its cells are told -/
def CsOk (cs : List (Nat × Addr)) (ds : List D) (kd : Addr → Option D) : Prop := cs.length = ds.length ∧ ∀ (n : Nat) (p : Nat × Addr) (d : D), cs[n]? = some p → ds[n]? = some d → p.1 = n ∧ kd p.2 = some d
/-- x(), x in the slot j -/
def dActV (lams : List LamI) (j : Nat) (W : DWX) : DTE := fun τ M Q => ∃ (f : Addr) (i : Nat) (l : LamI) (cs : List (Nat × Addr)) (ds : List D) (kd : Addr → Option D), sl τ j = some (.ref f) ∧ M f = some (.lam l.L i cs) ∧ lams[i]? = some l ∧ (∀ a d, kd a = some d → M a = some (.cel d)) ∧ CsOk cs ds kd ∧ ds.length = l.n ∧
  l.tb (fnW fun C ns es M' => W C ns es τ (putM kd M')) (ds.map some) (delM kd M) (fun d M' => Q d (putM kd M'))
section
variable {X : Cx} {O : Org} {j k : Nat} {a : Str} {W : DWX} {p1 p2 : Pos} {lams : List LamI}
theorem held {K : PySem.W.Frag} {H : Hp} {M : DHp} : ∀ {l : List ((Nat × Addr) × D)}, (∀ x ∈ l, ∃ (o : Obj) (u : Value) (v : V), H x.1.2 = some (.frz o anyO) ∧ o.data = .cell (some u) ∧ RelV v u ∧ Has K H M x.2 v) →
    ∃ vs : List V, vs.length = l.length ∧ ∀ (n : Nat) (x : (Nat × Addr) × D), l[n]? = some x → ∃ (o : Obj) (u : Value) (v : V), vs[n]? = some v ∧ H x.1.2 = some (.frz o anyO) ∧ o.data = .cell (some u) ∧ RelV v u ∧ Has K H M x.2 v
  | [], _ => ⟨[], rfl, fun n x e => by simp at e⟩
  | y :: l, h => by
    obtain ⟨vs, lv, hv⟩ := held fun x hx => h x (List.mem_cons_of_mem _ hx)
    obtain ⟨o, u, v, e1, e2, e3, e4⟩ := h y List.mem_cons_self
    refine ⟨v :: vs, by rw [List.length_cons, List.length_cons, lv], fun n x e => ?_⟩
    cases n with
    | zero =>
      rw [List.getElem?_cons_zero] at e
      cases e
      exact ⟨o, u, v, rfl, e1, e2, e3, e4⟩
    | succ n =>
      rw [List.getElem?_cons_succ] at e ⊢
      exact hv n x e
theorem de_actV (hN : X.N[j]? = some a) (hv : Vis X.env.scope a) (hG : X.A.guards = some []) (hr : Room (k + 1) X.A) (tk : L2N.Takes X (liftW X.K O W)) (ok : ∀ (i : Nat) (l : LamI), lams[i]? = some l → LamRun X.prog X.w X.K X.mg X.base k l)
    (hd : (a == ("__debug__" : Str)) = false := by decide) (hcd : (a == ("__classdict__" : Str)) = false := by decide) : DE X O (.Call (.Name a p1) [] [] p2) (dActV lams j W) := by
  refine ⟨fun pins s σ H Q I ⟨τ, M, Q', b, ⟨f, i, l, cs, ds, kd, e0, em, el, hk, ⟨lcs, hcs⟩, lds, t⟩, P⟩ => ?_⟩
  obtain ⟨v0, ev0, hv0⟩ := b.s.get j _ (sl_get e0)
  obtain rfl : v0 = .ref f := hv0
  refine wpAny_Call_Name_kw (thn ((pe_var (pos := p1) (i := j) hN hv hd hcd).run pins s σ H (fun v H1 => v = .ref f ∧ H1 = H) I ⟨.ref f, ev0, rfl, rfl⟩) ?_)
  rintro u0 s1 ⟨v, H1, I1, r1, ev, eH⟩
  subst ev
  subst eH
  obtain rfl : u0 = Value.ref f := r1
  obtain ⟨cl, pm, ctv, c', hf, clo, hco, nM⟩ := b.h f _ em
  have of1 := (I1.hok f _ hf).1
  refine PySem.W.callWith_F0 ⟨_, _, _, _, of1⟩ ?_
  have R := ok i l el
  have lds : ds.length = l.L.N.length := lds.trans R.len.symm
  have tl : ∀ a d, kd a = some d → ∃ (o : Obj) (u : Value) (v : V), H1 a = some (.frz o anyO) ∧ o.data = .cell (some u) ∧ RelV v u ∧ Has X.K H1 M d v := fun a d e => b.h a _ (hk a d e)
  let ke : Addr → Option Obj := fun a => (kd a).bind fun _ => match H1 a with
    | some (.frz o _) => some o
    | _ => none
  have ke0 : ∀ a, kd a = none → ke a = none := fun a e => by show (kd a).bind _ = none; rw [e] <;> rfl
  have ke1 : ∀ a d o, kd a = some d → H1 a = some (.frz o anyO) → ke a = some o := fun a d o e e2 => by
    show (kd a).bind _ = _
    rw [e]
    show (match H1 a with | some (.frz o _) => some o | _ => none) = some o
    rw [e2]
  have kes : ∀ a o, ke a = some o → ∃ d, kd a = some d ∧ H1 a = some (.frz o anyO) := fun a o e => by
    cases q : kd a with
    | none => rw [ke0 a q] at e; cases e
    | some d =>
      obtain ⟨o', _, _, e1, _⟩ := tl a d q
      rw [ke1 a d o' q e1] at e
      cases e
      exact ⟨d, rfl, e1⟩
  have same : Same ke kd := fun a => by
    constructor
    · intro e
      cases q : kd a with
      | none => rfl
      | some d =>
        obtain ⟨o, _, _, ho, _⟩ := tl a d q
        rw [ke1 a d o q ho] at e; cases e
    · exact ke0 a
  have hh : ∀ a o, ke a = some o → H1 a = some (.frz o anyO) := fun a o e => (kes a o e).choose_spec.2
  have en := I1.env0
  have nf : ∀ a o, ke a = some o → a ∉ frs X.stack := fun a o e z => by
    have := en.frf a z
    rw [hh a o e] at this; cases this
  have told0 : Told X.K (delH ke H1) (delM kd M) ke kd := fun a d e => by
    obtain ⟨o, u, v, e1, e2, e3, e4⟩ := tl a d e
    exact ⟨o, u, v, ke1 a d o e e1, e2, e3, has_del same hh e4⟩
  have env1 : Env0 X.prog X.w X.K X.mg X.base X.A X.stack s1 (delH ke H1) := by
    have dn : ∀ a, H1 a = none → delH ke H1 a = none := fun a n => by
      cases q : ke a with
      | none => rw [delH_out q]; exact n
      | some oo => exact delH_in q
    exact ⟨en.frames, en.mod, fun a o e => ⟨(en.bs a o e).1, dn a (en.bs a o e).2⟩, en.bsz, en.funs, fun a ha => dn a (en.frf a ha), hok_del hh en.hok, en.bare⟩
  -- what the cells hold
  obtain ⟨vs, lvs, hvs⟩ := held (K := X.K) (H := H1) (M := M) (l := cs.zip ds) fun x hx => by
    obtain ⟨n, hn⟩ := List.mem_iff_getElem?.mp hx
    obtain ⟨h1, h2⟩ := List.getElem?_zip_eq_some.mp hn
    exact tl x.1.2 x.2 (hcs n x.1 x.2 h1 h2).2
  have lvN : vs.length = l.L.N.length := by rw [lvs, List.length_zip, lcs, lds, Nat.min_self]
  have at_ : ∀ n, n < l.L.N.length → ∃ (c : Addr) (d : D) (o : Obj) (u : Value) (v : V), cs[n]? = some (n, c) ∧ ds[n]? = some d ∧ kd c = some d ∧ vs[n]? = some v ∧ H1 c = some (.frz o anyO) ∧ o.data = .cell (some u) ∧ RelV v u ∧ Has X.K H1 M d v := fun n hn => by
    have h1 := List.getElem?_eq_getElem (l := cs) (i := n) (by omega)
    have h2 := List.getElem?_eq_getElem (l := ds) (i := n) (by omega)
    obtain ⟨p1, p2⟩ := hcs n _ _ h1 h2
    obtain ⟨o, u, v, q1, q2, q3, q4, q5⟩ := hvs n (cs[n], ds[n]) (List.getElem?_zip_eq_some.mpr ⟨h1, h2⟩)
    exact ⟨cs[n].2, ds[n], o, u, v, h1.trans (congrArg some (Prod.ext p1 rfl)), h2, p2, q1, q2, q3, q4, q5⟩
  have cells : CellsAt cl l.L.N (vs.map some) s1.heap (delH ke H1) := by
    refine ⟨by rw [List.length_map]; exact lvN, fun y c e => ?_, clo.inj, fun n y e => ?_⟩
    · obtain ⟨n, hn, hm⟩ := clo.to y c e
      obtain ⟨m, hm⟩ := List.mem_iff_getElem?.mp hm
      have ml := (List.getElem?_eq_some_iff.mp hm).1
      obtain ⟨c2, d, o, u, v, g1, _, g3, _, g5, g6, _⟩ := at_ m (by omega)
      rw [hm] at g1
      cases g1
      exact ⟨delH_in (ke1 c d o g3 g5), some u, o, (I1.hok c _ g5).1, g6⟩
    · have nl := (List.getElem?_eq_some_iff.mp e).1
      obtain ⟨c, d, o, u, v, g1, g2, g3, g4, g5, g6, g7, _⟩ := at_ n nl
      obtain ⟨y', hy', hl⟩ := clo.fro n c (List.mem_of_getElem? g1)
      rw [e] at hy'
      cases hy'
      refine ⟨c, hl, fun v' ev' => ?_⟩
      rw [List.getElem?_map, g4] at ev'
      cases ev'
      exact ⟨u, g7, o, (I1.hok c _ g5).1, g6⟩
  have abs0 : AbS X.K (delH ke H1) (delM kd M) (ds.map some) (startF l.L.N [] (vs.map some)) := by
    have e : startF l.L.N [] (vs.map some) = vs.map some := by
      unfold startF
      rw [List.map_nil, List.nil_append, List.length_map, List.length_nil, Nat.sub_zero, lvN, Nat.sub_self]
      exact List.append_nil _
    rw [e]
    refine ⟨by rw [List.length_map, List.length_map, lds, lvN], fun n d e => ?_⟩
    rw [List.getElem?_map] at e
    cases q : ds[n]? with
    | none => rw [q] at e; cases e
    | some d' =>
      rw [q] at e
      cases e
      obtain ⟨c, d2, o, u, v, g1, g2, g3, g4, g5, g6, g7, g8⟩ := at_ n (by have := (List.getElem?_eq_some_iff.mp q).1; omega)
      rw [q] at g2
      cases g2
      exact ⟨v, by rw [List.getElem?_map, g4] <;> rfl, has_del same hh g8⟩
  have kdn : ∀ a, M a = none → kd a = none := fun a n => by
    cases q : kd a with
    | none => rfl
    | some d => rw [hk a d q] at n; cases n
  have frb : ∀ {H2 : Hp} {M2 : DHp}, Fr (delH ke H1) (delM kd M) H2 M2 → Fr H1 M (putH ke H2) (putM kd M2) := fun {H2 M2} f => by
    refine ⟨fun a o e n => ?_, fun a o e n => ?_⟩
    · have q := kdn a n
      rw [putH_out ((same a).mpr q)]
      exact f.eq a o (by rw [delH_out ((same a).mpr q)]; exact e) (by rw [delM_out q]; exact n)
    · have q := kdn a n
      rw [putM_out q]
      exact f.un a o (by rw [delH_out ((same a).mpr q)]; exact e) (by rw [delM_out q]; exact n)
  have abb : ∀ {H2 : Hp} {M2 : DHp}, Fr (delH ke H1) (delM kd M) H2 M2 → AbH X.K H2 M2 → (∀ a o, ke a = some o → H2 a = none) → AbH X.K (putH ke H2) (putM kd M2) := fun {H2 M2} f a nn =>
    abH_put same nn (fun a d e => let ⟨o, u, v, e1, e2, e3, e4⟩ := told0 a d e; ⟨o, u, v, e1, e2, e3, e4.fr f⟩) a
  have f1 : delH ke H1 f = some (.frz (PySem.W.kla_obj "<lambda>" l.L.q l.L.params l.L.body l.L.scope cl pm c' ctv) anyO) := by
    cases q : ke f with
    | none => rw [delH_out q]; exact hf
    | some oo =>
      obtain ⟨d, k1, _⟩ := kes f oo q
      rw [hk f d k1] at em; cases em
  have rc : codeAny (model X.prog X.w) X.A (.call (.ref f) ⟨[], []⟩) (CR (L2N.CX X.prog X.w) X.stack X.prog X.w (delH ke H1) s1 (fun v H2 => (∀ a o, ke a = some o → H2 a = none) → Q v (putH ke H2)) (fun cls d H2 => (∀ a o, ke a = some o → H2 a = none) → WE (liftW X.K O W) σ cls d (putH ke H2))) s1 := by
    obtain ⟨⟨oc, vs0, t0, hoc, hdc, hvc⟩, _, _⟩ := I1.hok c' _ hco
    refine PySem.W.kla_callFunE hr.depth of1 rfl R.ns.co R.ns.gen rfl ⟨c', oc, vs0, t0, rfl, hoc, hdc, hvc⟩ ?_
    rw [R.bind]
    refine wpAny_pure (wpAny_newFunctionEnv R.ns.nocell (fun y hy => absurd hy (by simp)) (fun h1 hns hsb => ⟨I1.nolimit.fresh _ hsb, ?_⟩) R.ns.kind)
    have kp : ∀ b o, s1.heap.get? b = some o → h1.get? b = some o := fun b o e => hsb.extBut b o (Nat.ne_of_lt (Heap.lt_size e)) (Heap.get?_push_of_some _ e)
    have J := inv_startN (CX := L2N.CX X.prog X.w) (F := nfL l.L cl c') (f := f) (ps := []) (us := []) (vs := []) (ws := vs.map some) (E := fun cls d H2 => (∀ a o, ke a = some o → H2 a = none) → WE (liftW X.K O W) σ cls d (putH ke H2)) (tk := s1.toks + ([] : List (Str × Value)).length) R.ns hr.hd env1 rfl .nil cells hns kp
    have tk0 : L2N.Takes (ncx (L2N.CX X.prog X.w) X.prog X.w X.K X.mg X.base l.L.N (nfL l.L cl c') f X.A X.stack s1 (delH ke H1) (fun cls d H2 => (∀ a o, ke a = some o → H2 a = none) → WE (liftW X.K O W) σ cls d (putH ke H2))) (fun cls d _ H => (∀ a o, ke a = some o → H a = none) → WE (liftW X.K O W) σ cls d (putH ke H)) := L2N.takes_of rfl rfl rfl rfl
    refine PySem.W.kla_codeExpr (wpAny_mono ((R.body X.A X.stack s1 (delH ke H1) _ f c' cl ⟨delH ke H1, delM kd M⟩ (fnW fun C ns es M' => W C ns es τ (putM kd M')) hG (hr.deeper _) (tk0.imp fun cls d σ4 H4 w => ?_)).run [] _ _ (delH ke H1) (fun v H2 => (∀ a o, ke a = some o → H2 a = none) → Q v (putH ke H2)) J ⟨ds.map some, delM kd M, _, ⟨Fr.refl _ _, abs0, abH_del same hh b.h⟩, t, fun d M2 v H2 q2 f2 a2 hv nn => ?_⟩) ?_ fun e s' hq => hq)
    · obtain ⟨C, ns, es, τ4, M4, rfl, b4, xd, M5, z, y⟩ := w
      intro nn
      have f5 := b4.fr.less z
      exact ⟨C, ns, es, τ, putM kd M5, rfl, b.step (frb f5) (abb f5 (b4.h.less z) nn), (xd.fr ((Fr.refl H4 M4).less z)).fr (fr_put same nn), y⟩
    · exact P d _ v _ q2 (frb f2) (abb f2 a2 nn) (hv.fr (fr_put same nn))
    · rintro v s' ⟨w', H', J', rv, q⟩
      exact ⟨w', H', J'.os, J'.bare, J'.base, J'.hok, rv, q⟩
  refine wpAny_call (codeAny_mono rc fun r s' hq => ?_)
  match r, hq with
  | .error e, hq => exact L2N.passAt tk σ pins H1 s1 e s' I1 (cx_back hh nf I1.hok hq)
  | .ok (.ret u), hq => exact I1.after (ce_back hh nf I1.hok hq)
end
end Rh
/-! DL75: lambdas of a text by their places; facts for them; a call with cells told, of a package. -/
namespace Rh
open PySem PySem.Spec PyProof.Rows L2 LamX NdefX
def nopS : Stmt := .Pass ⟨0, 0, 0, 0⟩
def nopE : Expr := .Name "" ⟨0, 0, 0, 0⟩
/-- the j-th statement within a statement -/
def stB (j : Nat) (s : Stmt) : Stmt := match s with
  | .FunctionDef _ _ b _ _ _ _ _ _ _ => b.getD j nopS
  | .For _ _ b _ _ => b.getD j nopS
  | .While _ b _ _ => b.getD j nopS
  | .If _ b _ _ => b.getD j nopS
  | .Try b _ _ _ _ => b.getD j nopS
  | _ => nopS
/-- the expression of a statement -/
def stV (s : Stmt) : Expr := match s with
  | .Assign _ e _ => e
  | .AugAssign _ _ e _ => e
  | .Expr e _ => e
  | .Return (some e) _ => e
  | .If e _ _ _ => e
  | .While e _ _ _ => e
  | .For _ e _ _ _ => e
  | _ => nopE
/-- the j-th part of an expression -/
def exE (j : Nat) (e : Expr) : Expr := match e with
  | .List es _ => es.getD j nopE
  | .Tuple es _ _ => es.getD j nopE
  | .Call _ es _ _ => es.getD j nopE
  | .BinOp a _ b _ => if j = 0 then a else b
  | .UnaryOp _ a _ => a
  | .BoolOp _ es _ => es.getD j nopE
  | _ => nopE
def lmP (e : Expr) : Arguments := match e with
  | .Lambda p _ _ _ => p
  | _ => { posonlyargs := [], args := [], vararg := none, kwonlyargs := [], kw_defaults := [], kwarg := none, defaults := [] }
def lmB (e : Expr) : Expr := match e with
  | .Lambda _ b _ _ => b
  | _ => nopE
def lmS (e : Expr) : Scope := match e with
  | .Lambda _ _ s _ => s
  | _ => { kind := .function, names := [], isGenerator := false, isCoroutine := false }
def lamAt (q : Str) (e : Expr) (N : List Str) : LamDesc := ⟨q, lmP e, lmB e, lmS e, N⟩
/-- the slots js are captured ones -/
def capB (N : List Str) (sc : Scope) (js : List Nat) : Bool := decide N.Nodup && js.all fun j => match N[j]? with
  | some y => decide (sc.names.lookup y = some .cell)
  | none => false
theorem capJ_by {X : Cx} {js : List Nat} (h : capB X.N X.env.scope js = true) (hfn : ∀ x, X.fn x = true) : CapJ X js := by
  unfold capB at h
  simp only [Bool.and_eq_true, decide_eq_true_eq, List.all_eq_true] at h
  refine ⟨h.1, fun j hj => ?_, hfn⟩
  have z := h.2 j hj
  split at z
  · rename_i y e
    exact ⟨y, e, of_decide_eq_true z⟩
  · cases z
section
variable {X : Cx} {O : Org} {k j n : Nat} {ks : List Str} {ixs : List Nat} {dds : List D} {sp : DSp} {W : DWX} {js : List Nat}
theorem de_ownLP {x : Str} {p pos : Pos} {es' : List Expr} {kws : List Keyword} {ts tks : List DTE} (hC : CapJ X js) (c : OwnP X.prog X.w X.K X.mg X.base j x n ks ixs dds sp) (hG : X.A.guards = some []) (hr : Room k X.A) (hj : j ≤ k) (hg : Gl X x) (tk : L2N.Takes X (liftW X.K O W)) (ha : DAK X O pos es' kws ks ts tks)
    (hn : ts.length = n := by rfl) (hn2 : tks.length = ks.length := by rfl) (hdb : (x == ("__debug__" : Str)) = false := by decide) : DE X O (.Call (.Name x p) es' kws pos) (dOwnL sp (ceS X) js ixs dds W ts tks) :=
  let ⟨_, hm, hkp, c⟩ := c; de_ownL hC hm hkp c hG hr hj hg tk ha hn hn2 hdb
end
theorem de_lamVe {X : Cx} {O : Org} {c P : Addr} {params : Arguments} {body : Expr} {scope : Scope} {lpos : Pos} {L L0 : LamDesc} {i : Nat} {js : List Nat} {q : Str} (e : L = L0) (hL : L0 = ⟨q, params, body, scope, L0.N⟩) (C : LamC X.N X.env.scope L0 js) (TB : TabB X.base X.mg c P) (hcode : X.env.code = .ref c) (hq : X.env.qual ++ "<lambda>" = q) (hdef : defaultsOf params X.env = ([], [])) :
    DE X O (.Lambda params body scope lpos) (dLamV P q L i js (ceS X)) := by
  subst e
  exact de_lamV hL C TB hcode hq hdef
theorem hu200 {k : Nat} {A : Around} (r : Room k A) : A.units + 200 < cLine := by have := r.un; omega
/-- repr, within a suite -/
theorem call_reprH {X : Cx} (hG : X.A.guards = some []) (hr : X.A.units + 200 < cLine) : CallR X (.builtin "repr") (rRepr X.K) := by
  intro pins s σ H xs us Q I r h
  obtain ⟨x, d, rfl, dp, h1, h2, h3, h4, q⟩ := h
  obtain ⟨u, rfl, ru⟩ := vals1 r
  have fin : ∀ tk t, EP X pins σ Q (.str d.shown t) { s with toks := tk } := fun tk t => ⟨.str d.shown, H, I.tok tk, ⟨t, rfl⟩, q⟩
  have ref : ∀ a, u = .ref a → wpAny (model X.prog X.w) X.A (call (.builtin "repr") [u]) (EP X pins σ Q) X.xe s := fun a e => by
    obtain ⟨as, rd⟩ := Dp.reads I d x u dp ru
    subst e
    refine repr_of_reads' rd h1 (fun z => by rw [h2] at z; cases z) hG (by have := hr; omega) (fun _ _ z => z) (fun h' t tk hk => ?_) h4
    exact ⟨.str d.shown, H, I.kept (t' := tk) hk, ⟨t, rfl⟩, q⟩
  cases dp with
  | non => cases ru; exact PySem.P.repr_of_none (fin _ _)
  | bl b => cases ru; exact PySem.P.repr_of_bool (fin _ _)
  | int i => obtain ⟨t, rfl⟩ := ru; exact PySem.P.repr_of_int (of_decide_eq_true h1) (fin _ _)
  | str y => obtain ⟨t, rfl⟩ := ru; exact PySem.P.repr_of_str (fin _ _) h4
  | lst _ _ => exact ref _ ru
  | tup _ _ => exact ref _ ru
/-! ### facts -/
def bEc (C : Str) : FB := fun K => let D := He.ga K C
  He.eqO (PySem.W.findIn K (.ref D) "__getattribute__") (some (some (.builtin "BaseException.__getattribute__"))) && (decide (PySem.W.findIn K (.ref D) "__getattr__" = some none) && (decide (PySem.W.subIn K (.ref D) (.type "BaseException") = some true) && (PySem.W.hasDictIn K D &&
  (He.eqO (PySem.W.findIn K (.ref D) "__class__") (some (some (.builtin "object.__class__"))) && (He.eqO (PySem.W.specialIn K (.builtin "object.__class__") "__get__") (some (some (.builtin "getset_descriptor.__get__"))) && (decide (PySem.W.takesIn K (.builtin "object.__class__") = some true) && decide (PySem.W.mroIn K D (.type "object") = some true)))))))
def bExq (Cs Ts : List Str) : FB := fun K => Cs.all fun C => decide (PySem.W.exmAny K (.ref (He.ga K C)) (Ts.map fun T => .ref (He.ga K T)) = some true)
def ExqL (K : PySem.W.Frag) (Cs Ts : List Addr) : Prop := ∀ (k : Nat) (C : Addr), Cs[k]? = some C → PySem.W.exmAny K (.ref C) (Ts.map Value.ref) = some true
section
variable {K : PySem.W.Frag} {C : Str}
theorem bEc_ok (h : bEc C K = true) : L2.ExcC K (He.ga K C) := by
  obtain ⟨h1, h⟩ := He.ba h
  obtain ⟨h2, h⟩ := He.ba h
  obtain ⟨h3, h⟩ := He.ba h
  obtain ⟨h4, h⟩ := He.ba h
  obtain ⟨h5, h⟩ := He.ba h
  obtain ⟨h6, h⟩ := He.ba h
  obtain ⟨h7, h8⟩ := He.ba h
  exact ⟨He.eqO_ok h1, of_decide_eq_true h2, of_decide_eq_true h3, h4, He.eqO_ok h5, He.eqO_ok h6, of_decide_eq_true h7, of_decide_eq_true h8⟩
theorem bExq_ok {Cs Ts : List Str} (h : bExq Cs Ts K = true) : ExqL K (Cs.map fun C => He.ga K C) (Ts.map fun C => He.ga K C) := fun k C e => by
  rw [List.getElem?_map] at e
  cases q : Cs[k]? with
  | none => rw [q] at e; cases e
  | some c =>
    rw [q] at e
    cases e
    have z := of_decide_eq_true (List.all_eq_true.mp h c (List.mem_of_getElem? q))
    rw [List.map_map]
    exact z
end
theorem lamsOk_nil {P : Program} {w : World} {K : PySem.W.Frag} {mg : Str → Option Value} {base : Heap} {k : Nat} : ∀ (i : Nat) (l : LamI), ([] : List LamI)[i]? = some l → LamRun P w K mg base k l := fun i l e => by simp at e
theorem lamsOk_cons {P : Program} {w : World} {K : PySem.W.Frag} {mg : Str → Option Value} {base : Heap} {k j : Nat} {l0 : LamI} {ls : List LamI} (h0 : LamRun P w K mg base j l0) (hj : j ≤ k) (h : ∀ (i : Nat) (l : LamI), ls[i]? = some l → LamRun P w K mg base k l) : ∀ (i : Nat) (l : LamI), (l0 :: ls)[i]? = some l → LamRun P w K mg base k l
  | 0, l, e => by cases e; exact h0.mono hj
  | i + 1, l, e => h i l e
end Rh
/-! DL76: == of data with texts of any signs. -/
namespace Rh
open PySem PySem.Spec PyProof.Rows L2
section
variable {K : PySem.W.Frag} {H : Hp} {M : DHp}
mutual
theorem Has.dpP : ∀ {d : D} {v : V}, Has K H M d v → (py d).plain = true → Dp K H v (py d)
  | .non, _, h, _ => (show _ = V.non from h) ▸ .non
  | .bl b, _, h, _ => (show _ = V.bl b from h) ▸ .bl b
  | .int i, _, h, _ => (show _ = V.int i from h) ▸ .int i
  | .str x, _, h, _ => (show _ = V.str x from h) ▸ .str x
  | .scr ns, _, ⟨_, e, t⟩, _ => e ▸ .lst t.sq (dpAll_ints ns)
  | .tup ds, _, ⟨_, _, e, _, t, r⟩, c => e ▸ .tup t.sq (HasL.dpP r c)
  | .lst ds, _, ⟨_, _, e, _, t, r⟩, c => e ▸ .lst (SqL.of t) (HasL.dpP r c)
  | .ref _, _, _, c => by cases c
  | .tpl _, _, _, c => by cases c
  | .ty _, _, _, c => by cases c
  | .dic _ _, _, _, c => by cases c
  | .obj _ _ _, _, _, c => by cases c
theorem HasL.dpP : ∀ {ds : List D} {vs : List V}, HasL K H M ds vs → PyData.plainAll (pyL ds) = true → DpAll K H vs (pyL ds)
  | [], _, h, _ => (show _ = ([] : List V) from h) ▸ .nil
  | d :: ds, _, ⟨_, _, e, h1, h2⟩, c => by
    have z := Bool.and_eq_true_iff.mp (show (PyData.plain (py d) && PyData.plainAll (pyL ds)) = true from c)
    exact e ▸ .cons (Has.dpP h1 z.1) (HasL.dpP h2 z.2)
end
end
def rEqP (K : PySem.W.Frag) : R2 := fun x y H Q => ∃ d e, Dp K H x d ∧ Dp K H y e ∧ d.plain = true ∧ e.plain = true ∧ d.depth ≤ 60 ∧ Q (.bl (PyData.eqv d e)) H
theorem op_eqP {X : Cx} (hu : X.A.units + 64 < cLine) : OpR X (compareOp .Eq) (rEqP X.K) := by
  intro pins s σ H x y v u Q I rx ry h
  obtain ⟨d, e, hd, he, p1, p2, dp, q⟩ := h
  obtain ⟨as, r1⟩ := Dp.reads I _ _ v hd rx
  obtain ⟨bs, r2⟩ := Dp.reads I _ _ u he ry
  exact SeqAt.eq_plain r1 r2 p1 p2 (by have := Nat.min_le_left d.depth e.depth; omega) ⟨.bl _, H, I, rfl, q⟩
def rEqPD : DR2 := fun x y M Q => (py x).plain = true ∧ (py y).plain = true ∧ (py x).depth ≤ 60 ∧ Q (.bl (PyData.eqv (py x) (py y))) M
theorem ref_eqP {K : PySem.W.Frag} : Ref2 K (rEqP K) rEqPD := fun H M x y dx dy Q Q' A hx hy t P => by
  obtain ⟨p1, p2, dp, q⟩ := t
  exact ⟨_, _, hx.dpP p1, hy.dpP p2, p1, p2, dp, P.same A q rfl⟩
end Rh
/-! P0: plain tools. -/
namespace Rh
open PySem PySem.Spec PyProof.Rows L2
/-- promises of 0, 1, 2, 3, 4 arguments -/
def sp1 (g : D → DHp → DVK → DXK → Prop) : DSp := fun ds M Q E => match ds with
  | [a] => g a M Q E
  | _ => False
def sp2 (g : D → D → DHp → DVK → DXK → Prop) : DSp := fun ds M Q E => match ds with
  | [a, b] => g a b M Q E
  | _ => False
def sp3 (g : D → D → D → DHp → DVK → DXK → Prop) : DSp := fun ds M Q E => match ds with
  | [a, b, c] => g a b c M Q E
  | _ => False
theorem sp1_len {g : D → DHp → DVK → DXK → Prop} (ds : List D) (M : DHp) (Q : DVK) (E : DXK) (z : sp1 g ds M Q E) : ds.length = 1 := match ds, z with
  | [_], _ => rfl
theorem sp2_len {g : D → D → DHp → DVK → DXK → Prop} (ds : List D) (M : DHp) (Q : DVK) (E : DXK) (z : sp2 g ds M Q E) : ds.length = 2 := match ds, z with
  | [_, _], _ => rfl
theorem sp3_len {g : D → D → D → DHp → DVK → DXK → Prop} (ds : List D) (M : DHp) (Q : DVK) (E : DXK) (z : sp3 g ds M Q E) : ds.length = 3 := match ds, z with
  | [_, _, _], _ => rfl
theorem sp1_of {g : D → DHp → DVK → DXK → Prop} {R : List D → DHp → DVK → DXK → Prop} (h : ∀ a M Q E, g a M Q E → R [a] M Q E) (ds : List D) (M : DHp) (Q : DVK) (E : DXK) (z : sp1 g ds M Q E) : R ds M Q E := match ds, z with
  | [a], z => h a M Q E z
theorem sp2_of {g : D → D → DHp → DVK → DXK → Prop} {R : List D → DHp → DVK → DXK → Prop} (h : ∀ a b M Q E, g a b M Q E → R [a, b] M Q E) (ds : List D) (M : DHp) (Q : DVK) (E : DXK) (z : sp2 g ds M Q E) : R ds M Q E := match ds, z with
  | [a, b], z => h a b M Q E z
theorem sp3_of {g : D → D → D → DHp → DVK → DXK → Prop} {R : List D → DHp → DVK → DXK → Prop} (h : ∀ a b c M Q E, g a b c M Q E → R [a, b, c] M Q E) (ds : List D) (M : DHp) (Q : DVK) (E : DXK) (z : sp3 g ds M Q E) : R ds M Q E := match ds, z with
  | [a, b, c], z => h a b c M Q E z
/-- a def's end -/
theorem fn_rt {Q : DVK} {d : D} {M : DHp} (h : Q d M) : (fnEnds Q).rt d M := ⟨M, Sub.refl M, h⟩
/-- what may be asked what it is -/
def known (c : CT) (a : D) (M : DHp) : Prop := match tyD a M with
  | some (.inl _) => True
  | some (.inr C) => kno c C
  | none => False
theorem seq_ref {M : DHp} {a : Addr} {ds : List D} (h : M a = some (.lst ds)) : seqOf (.ref a) M = some ds := by simp only [seqOf, lstOf, mlst, h]
theorem len_ref {M : DHp} {a : Addr} {ds : List D} (h : M a = some (.lst ds)) : lenD (.ref a) M = some ds.length := by simp only [lenD, h]
theorem lg_le {i : Int} {k : Nat} (h : i.natAbs < 2 ^ k) : i.natAbs.log2 ≤ k := by
  by_cases z : i.natAbs = 0
  · rw [z]; exact Nat.zero_le _
  · exact Nat.le_of_lt ((Nat.log2_lt z).mpr h)
/-- two factors of less than 200 bits each -/
theorem mulW {i j : Int} (h : i.natAbs < 2 ^ 200) (h' : j.natAbs < 2 ^ 200) : CMulW i j := by
  have := lg_le h
  have := lg_le h'
  show _ + _ < _
  omega
/-- a loop by what holds of the items to come -/
theorem forR_inv {ok : DHp → Prop} {g : DTG} {tb : DTS} {E : DEnds} (I : List D → DSt → DHp → Prop) (h0 : ∀ τ M, I [] τ M → ok M ∧ E.nx τ M)
    (h1 : ∀ x xs τ M (R : DSt → DHp → Prop), I (x :: xs) τ M → (∀ τ3 M3 τ2 M2, I xs τ3 M3 → SubS τ3 τ2 → Sub M3 M2 → R τ2 M2) → ok M ∧ g x τ M fun τ1 M1 => tb { E with nx := R } τ1 M1) : ∀ items τ M, I items τ M → forR ok g tb E items τ M
  | [], τ, M, h => h0 τ M h
  | x :: xs, τ, M, h => h1 x xs τ M _ h fun τ3 M3 τ2 M2 i z1 z2 => ⟨τ3, M3, z1, z2, forR_inv I h0 h1 xs τ3 M3 i⟩
theorem at_nn {α : Type} {xs : List α} {k : Nat} {x : α} (h : xs[k]? = some x) : atI xs (k : Int) = some x := by
  have l : k < xs.length := (List.getElem?_eq_some_iff.mp h).1
  unfold atI ixN
  rw [if_pos (Int.natCast_nonneg k), if_pos (by omega)]
  exact h
theorem at_int {ns : List Int} {k : Int} (h0 : 0 ≤ k) (h1 : k < ns.length) : ∃ i, atI (ns.map D.int) k = some (.int i) := by
  obtain ⟨n, rfl⟩ := Int.eq_ofNat_of_zero_le h0
  have l : n < ns.length := by omega
  exact ⟨ns[n], at_nn (by rw [List.getElem?_map, List.getElem?_eq_getElem l] <;> rfl)⟩
theorem cut_mem {ds : List D} {lo hi : Option Int} {x : D} (h : x ∈ cutD ds lo hi) : x ∈ ds := List.mem_of_mem_drop (List.mem_of_mem_take h)
theorem cut_len {ds : List D} {lo hi : Option Int} : (cutD ds lo hi).length ≤ ds.length := by
  unfold cutD
  rw [List.length_take, List.length_drop]
  omega
theorem line_1000 {n : Nat} (h : n ≤ 1000) : n ≤ sizeLine := Nat.le_trans h (by decide)
theorem for_nums {g : DTG} {tb : DTS} {E : DEnds} (J : Nat → DSt → DHp → Prop) : ∀ {n : Nat} {lo : Int} {τ : DSt} {M : DHp}, (∀ τ M, J n τ M → E.nx τ M) →
    (∀ i τ M (R : DSt → DHp → Prop), i < n → J i τ M → (∀ τ3 M3 τ2 M2, J (i + 1) τ3 M3 → SubS τ3 τ2 → Sub M3 M2 → R τ2 M2) → g (.int (lo + (i : Nat))) τ M fun τ1 M1 => tb { E with nx := R } τ1 M1) → J 0 τ M → forR (fun _ => True) g tb E (nums lo n) τ M := by
  intro n
  induction n generalizing J with
  | zero => intro lo τ M h0 _ h; exact ⟨trivial, h0 τ M h⟩
  | succ n ih =>
    intro lo τ M h0 h1 h
    refine ⟨trivial, ?_⟩
    have z := h1 0 τ M (fun τ2 M2 => ∃ τ3 M3, SubS τ3 τ2 ∧ Sub M3 M2 ∧ forR (fun _ => True) g tb E (nums (lo + 1) n) τ3 M3) (Nat.succ_pos n) h fun τ3 M3 τ2 M2 j z1 z2 => ⟨τ3, M3, z1, z2, ih (fun i => J (i + 1)) (fun τ M j => h0 τ M j) (fun i τ M R hi j k => ?_) j⟩
    · rw [Int.natCast_zero, Int.add_zero] at z
      exact z
    · have y := h1 (i + 1) τ M R (Nat.succ_lt_succ hi) j k
      rw [show lo + ((i + 1 : Nat) : Int) = lo + 1 + (i : Int) by omega] at y
      exact y
theorem up_swap {M : DHp} {a p : Addr} {o u v : DO} (h : a ≠ p) : up (up (up M a o) p u) a v = up (up M a v) p u := by
  funext b
  unfold up
  by_cases e : b = a
  · subst e; rw [if_pos rfl, if_neg h, if_pos rfl]
  · rw [if_neg e, if_neg e]
    split <;> rfl
theorem up_at {M : DHp} {a p : Addr} {o u : DO} (h : a ≠ p) : up (up M a o) p u a = some o := by rw [up_ne h, up_same]
theorem up_self {M : DHp} {a : Addr} {o : DO} (h : M a = some o) : up M a o = M := by
  funext b
  unfold up
  split
  · rename_i e; rw [e, h]
  · rfl
theorem sub_up {M : DHp} {p : Addr} {u : DO} (h : M p = none) : Sub M (up M p u) := (Sub.refl M).up h

/-! ### kinds -/
def pairD (p : Int × Int) : D := .tup [.int p.1, .int p.2]
def kD (kz : List (Int × Int)) : D := .tup (kz.map pairD)
/-- kinds above b: sizes ascend up to top -/
def KsOk (top : Int) : Int → List (Int × Int) → Prop
  | _, [] => True
  | b, p :: r => b < p.1 ∧ p.1 ≤ top ∧ 1 ≤ p.2 ∧ p.2 ≤ 10 ^ 30 ∧ KsOk top p.1 r
def lastS : Int → List (Int × Int) → Int
  | b, [] => b
  | _, p :: r => lastS p.1 r
theorem KsOk.snoc {top : Int} {p : Int × Int} : ∀ {b : Int} {kz : List (Int × Int)}, KsOk top b kz → lastS b kz < p.1 → p.1 ≤ top → 1 ≤ p.2 → p.2 ≤ 10 ^ 30 → KsOk top b (kz ++ [p])
  | b, [], _, h1, h2, h3, h4 => ⟨h1, h2, h3, h4, trivial⟩
  | b, q :: r, h, h1, h2, h3, h4 => ⟨h.1, h.2.1, h.2.2.1, h.2.2.2.1, KsOk.snoc h.2.2.2.2 h1 h2 h3 h4⟩
theorem lastS_snoc {p : Int × Int} : ∀ {b : Int} {kz : List (Int × Int)}, lastS b (kz ++ [p]) = p.1
  | b, [] => rfl
  | b, q :: r => lastS_snoc (b := q.1) (kz := r)
theorem KsOk.more {top top' : Int} (h : top ≤ top') : ∀ {b : Int} {kz : List (Int × Int)}, KsOk top b kz → KsOk top' b kz
  | _, [], _ => trivial
  | _, p :: r, k => ⟨k.1, Int.le_trans k.2.1 h, k.2.2.1, k.2.2.2.1, k.2.2.2.2.more h⟩
theorem KsOk.take {top : Int} : ∀ (n : Nat) {b : Int} {kz : List (Int × Int)}, KsOk top b kz → KsOk top b (kz.take n)
  | 0, _, _, _ => by rw [List.take_zero]; trivial
  | n + 1, _, [], _ => trivial
  | n + 1, _, p :: r, k => ⟨k.1, k.2.1, k.2.2.1, k.2.2.2.1, k.2.2.2.2.take n⟩
theorem KsOk.last {top : Int} : ∀ {b : Int} {kz : List (Int × Int)}, b ≤ top → KsOk top b kz → lastS b kz ≤ top
  | _, [], h, _ => h
  | _, p :: r, _, k => KsOk.last (b := p.1) k.2.1 k.2.2.2.2
/-- kinds that heaps are made of -/
structure Kinds (kz : List (Int × Int)) : Prop where
  ne : kz ≠ []
  len : kz.length ≤ 12
  ok : KsOk (10 ^ 30) 0 kz
/-- drawn ones: with room above -/
structure Drawn (kz : List (Int × Int)) : Prop where
  ne : kz ≠ []
  len : kz.length ≤ 12
  ok : KsOk (10 ^ 29 * 2) 0 kz
end Rh
/-! P1: texts of numbers, of kinds. -/
namespace Rh
open PySem PySem.Spec PyProof.Rows L2 PySem.NumText

theorem sh_int {M : DHp} {y : Int} : SeqAt.shaped (pyM M (.int y)) = true := rfl
/-! ### kinds, judged -/
def withinB (a : D) (i j : Int) : Bool := match a with
  | .int v => decide (i ≤ v) && decide (v ≤ j)
  | _ => false
/-- the size of a right kind at this place above b -/
def wkOne (i : Nat) (b : Int) (e : D) : Option Int := match e with
  | .tup [.int s, m] => if decide (i < 12) && (withinB (.int s) (b + 1) (10 ^ 30) && withinB m 1 (10 ^ 30)) then some s else none
  | _ => none
def wkGo : Nat → Int → List D → Option Nat
  | _, _, [] => none
  | i, b, e :: es => match wkOne i b e with
    | some s => wkGo (i + 1) s es
    | none => some i
/-- what wrong_kind answers -/
def wkD (a : D) : D := match a with
  | .tup [] => .tup [.non]
  | .tup es => (match wkGo 0 0 es with
    | some i => .tup [.int (i : Nat)]
    | none => .tup [])
  | _ => .tup [.non]
def knownK (c : CT) (a : D) (M : DHp) : Prop := known c a M ∧ ∀ es, a = .tup es → es.length ≤ sizeLine ∧ ∀ e ∈ es, known c e M ∧ ∀ x y, e = .tup [x, y] → known c x M ∧ known c y M
theorem tup_or (a : D) : (∃ es, a = .tup es) ∨ ∀ es, a ≠ .tup es := by
  cases a <;> first | exact .inl ⟨_, rfl⟩ | exact .inr fun _ e => nomatch e
theorem not_tup {c : CT} {a : D} {M : DHp} (k : known c a M) (h : ∀ es, a ≠ .tup es) : (∃ t : Ty0, tyD a M = some (.inl t) ∧ t.is .tup = false) ∨ ∃ C, tyD a M = some (.inr C) ∧ kno c C := by
  unfold known at k
  cases a with
  | tup es => exact absurd rfl (h es)
  | ref p =>
    cases e : M p with
    | none => simp only [tyD, e] at k
    | some o => cases o <;> simp only [tyD, e] at k ⊢ <;> first | exact .inl ⟨_, rfl, rfl⟩ | exact .inr ⟨_, rfl, k⟩
  | obj C ns ds => exact .inr ⟨C, rfl, k⟩
  | ty n => exact k.elim
  | tpl ds => exact k.elim
  | _ => exact .inl ⟨_, rfl, rfl⟩
end Rh
/-! P2: words, pages of kinds, read back. -/
namespace Rh
open PySem PySem.Spec PyProof.Rows L2 PySem.NumText
theorem KsOk.mem {top : Int} : ∀ {b : Int} {kz : List (Int × Int)}, KsOk top b kz → ∀ p ∈ kz, b < p.1 ∧ p.1 ≤ top ∧ 1 ≤ p.2 ∧ p.2 ≤ 10 ^ 30
  | b, q :: r, k, p, h => by
    rcases List.mem_cons.mp h with rfl | h
    · exact ⟨k.1, k.2.1, k.2.2.1, k.2.2.2.1⟩
    · have := KsOk.mem k.2.2.2.2 p h
      have := k.1
      exact ⟨by omega, by omega, by omega, by omega⟩
theorem Kinds.mem {kz : List (Int × Int)} (k : Kinds kz) (p : Int × Int) (h : p ∈ kz) : 0 < p.1 ∧ p.1 ≤ 10 ^ 30 ∧ 1 ≤ p.2 ∧ p.2 ≤ 10 ^ 30 := KsOk.mem k.ok p h
end Rh
/-! P3: repr of data: what it asks. -/
namespace Rh
open PySem PySem.Spec PyProof.Rows L2 PySem.NumText
/-- may be shown: of weight w, n deep -/
structure Shw (d : PyData) (w n : Nat) : Prop where
  lay : PyData.canLay0 d = true
  short : PyData.leavesShort 80 d = true
  able : PyData.showable d = true
  weight : PyData.weight d ≤ w
  depth : PyData.depth d ≤ n
structure ShwAll (ds : List PyData) (w n : Nat) : Prop where
  lay : PyData.canLayAll0 ds = true
  short : PyData.leavesShortAll 80 ds = true
  able : PyData.showableAll ds = true
  weight : PyData.weightAll ds ≤ w
  depth : PyData.depthAll ds ≤ n
theorem Shw.int {i : Int} {n : Nat} (h : i.natAbs < 2 ^ 230) : Shw (.int i) 231 n := by
  have l := lg_le h
  refine ⟨rfl, ?_, ?_, ?_, Nat.zero_le n⟩
  · show decide ((Str.ofString (toString i)).length ≤ 80) = true
    refine decide_eq_true ?_
    have := int_text_length_le10 (a := i) (k := 70) (by decide) (Nat.lt_of_lt_of_le h (by decide))
    rw [PySem.ofString_length]
    omega
  · exact decide_eq_true (Nat.lt_of_le_of_lt l (by decide))
  · show (if (i == 0) = true then 0 else i.natAbs.log2 + 1) ≤ 231
    split <;> omega
theorem Shw.bl {b : Bool} {n : Nat} : Shw (.bool b) 0 n := ⟨rfl, rfl, rfl, Nat.le_refl 0, Nat.zero_le n⟩
theorem Shw.non {n : Nat} : Shw .none 0 n := ⟨rfl, rfl, rfl, Nat.le_refl 0, Nat.zero_le n⟩
theorem Shw.str {x : Str} {w n : Nat} (h : ∀ c ∈ x.cps.toList, c ≤ 127) (l : x.length ≤ w) : Shw (.str x) w n := by
  refine ⟨?_, ?_, rfl, l, Nat.zero_le n⟩
  · show x.cps.all _ = true
    rw [← Array.all_toList, List.all_eq_true]
    intro c hc
    have := h c hc
    exact decide_eq_true (by omega)
  · show x.cps.toList.all _ = true
    rw [List.all_eq_true]
    intro c hc
    have := h c hc
    exact decide_eq_true (by omega)
theorem ShwAll.nil {n : Nat} : ShwAll [] 0 n := ⟨rfl, rfl, rfl, Nat.le_refl 0, Nat.zero_le n⟩
theorem ShwAll.cons {d : PyData} {ds : List PyData} {w v n : Nat} (h : Shw d w n) (t : ShwAll ds v n) : ShwAll (d :: ds) (w + 1 + v) n := by
  refine ⟨?_, ?_, ?_, ?_, Nat.max_le.mpr ⟨h.depth, t.depth⟩⟩
  · show (PyData.canLay0 d && PyData.canLayAll0 ds) = true
    rw [h.lay, t.lay] <;> rfl
  · show (PyData.leavesShort 80 d && PyData.leavesShortAll 80 ds) = true
    rw [h.short, t.short] <;> rfl
  · show (PyData.showable d && PyData.showableAll ds) = true
    rw [h.able, t.able] <;> rfl
  · show PyData.weight d + 1 + PyData.weightAll ds ≤ _
    have := h.weight
    have := t.weight
    omega
theorem Shw.list {ds : List PyData} {w n : Nat} (h : ShwAll ds w n) : Shw (.list ds) w (n + 1) := ⟨h.lay, h.short, h.able, h.weight, Nat.succ_le_succ h.depth⟩
theorem Shw.tup {ds : List PyData} {w n : Nat} (h : ShwAll ds w n) : Shw (.tuple ds) w (n + 1) := ⟨h.lay, h.short, h.able, h.weight, Nat.succ_le_succ h.depth⟩
theorem Shw.more {d : PyData} {w v n m : Nat} (h : Shw d w n) (hw : w ≤ v) (hn : n ≤ m) : Shw d v m := ⟨h.lay, h.short, h.able, Nat.le_trans h.weight hw, Nat.le_trans h.depth hn⟩
theorem ShwAll.of {α : Type} {f : α → PyData} {w n : Nat} : ∀ {l : List α}, (∀ x ∈ l, Shw (f x) w n) → ShwAll (l.map f) ((w + 1) * l.length) n
  | [], _ => ShwAll.nil
  | x :: l, h => by
    have := ShwAll.cons (h x List.mem_cons_self) (ShwAll.of fun y hy => h y (List.mem_cons_of_mem _ hy))
    rw [List.length_cons, Nat.mul_succ, Nat.add_comm]
    exact this
theorem Shw.ok {d : PyData} {w n : Nat} (h : Shw d w n) (hw : w ≤ 200000) (hn : n ≤ 60) : SeqAt.shaped d = true ∧ d.showable = true ∧ d.depth ≤ 60 ∧ d.shown.length ≤ sizeLine := by
  have dp := Nat.le_trans h.depth hn
  refine ⟨?_, h.able, dp, ?_⟩
  · show (d.canLay0 && decide (d.depth ≤ 64)) = true
    rw [h.lay, decide_eq_true (by omega : d.depth ≤ 64)] <;> rfl
  · have := PyData.shown_le 80 (by decide) d h.short
    have hw2 := Nat.le_trans h.weight hw
    have : (80 + 2) * d.weight ≤ 82 * 200000 := Nat.mul_le_mul_left 82 hw2
    rw [sizeLine_eq]
    omega
theorem pyL_map (f : Int × Int → D) : ∀ kz : List (Int × Int), pyL (kz.map f) = kz.map fun p => py (f p)
  | [] => rfl
  | p :: r => by
    show py (f p) :: pyL (r.map f) = _
    rw [pyL_map f r] <;> rfl
theorem shw_kinds {kz : List (Int × Int)} {n : Nat} (k : Kinds kz) : Shw (py (kD kz)) 5592 (n + 2) := by
  show Shw (.tuple (pyL (kz.map pairD))) _ _
  rw [pyL_map]
  refine (Shw.tup (ShwAll.of (w := 465) fun p hp => ?_)).more ?_ (Nat.le_refl _)
  · have := k.mem p hp
    exact (Shw.tup (ShwAll.cons (Shw.int (by omega)) (ShwAll.cons (Shw.int (by omega)) (ShwAll.nil (n := n))))).more (by decide) (Nat.le_refl _)
  · have := k.len
    omega
theorem Drawn.kinds {kz : List (Int × Int)} (d : Drawn kz) : Kinds kz := ⟨d.ne, d.len, d.ok.more (by decide)⟩
theorem sums {kz : List (Int × Int)} (k : ∀ p ∈ kz, 0 < p.1 ∧ p.1 ≤ 10 ^ 30 ∧ 1 ≤ p.2 ∧ p.2 ≤ 10 ^ 30) : 0 ≤ (kz.map (·.2)).sum ∧ (kz.map (·.2)).sum ≤ kz.length * 10 ^ 30 ∧ 0 ≤ (kz.map fun p => p.1 * p.2).sum ∧ (kz.map fun p => p.1 * p.2).sum ≤ kz.length * 10 ^ 60 := by
  induction kz with
  | nil => exact ⟨Int.le_refl 0, Int.le_refl 0, Int.le_refl 0, Int.le_refl 0⟩
  | cons p l ih =>
    obtain ⟨a1, a2, a3, a4⟩ := ih fun q hq => k q (List.mem_cons_of_mem _ hq)
    obtain ⟨b1, b2, b3, b4⟩ := k p List.mem_cons_self
    have c1 : 0 ≤ p.1 * p.2 := Int.mul_nonneg (by omega) (by omega)
    have c2 : p.1 * p.2 ≤ 10 ^ 30 * 10 ^ 30 := Int.mul_le_mul b2 b4 (by omega) (by decide)
    simp only [List.map_cons, List.sum_cons, List.length_cons]
    rw [show (((l.length + 1 : Nat)) : Int) * 10 ^ 30 = l.length * 10 ^ 30 + 10 ^ 30 by rw [Int.natCast_add, Int.add_mul]; rfl, show (((l.length + 1 : Nat)) : Int) * 10 ^ 60 = l.length * 10 ^ 60 + 10 ^ 60 by rw [Int.natCast_add, Int.add_mul]; rfl]
    omega
/-- a pot that scoops may be taken from -/
def PotI (x y z : Int) : Prop := 0 ≤ x ∧ 0 ≤ y ∧ y < 2147483648 ∧ 0 ≤ z
theorem nums_mem {x : D} : ∀ {lo : Int} {n : Nat}, x ∈ nums lo n → ∃ k : Int, x = .int k ∧ lo ≤ k ∧ k < lo + n
  | _, 0, h => by cases h
  | lo, n + 1, h => by
    rcases List.mem_cons.mp (show x ∈ D.int lo :: nums (lo + 1) n from h) with rfl | h
    · exact ⟨lo, rfl, Int.le_refl _, by omega⟩
    · obtain ⟨k, e, h1, h2⟩ := nums_mem h
      exact ⟨k, e, by omega, by omega⟩
/-- a comprehension whose element leaves new things behind -/
theorem lcR_mapS {g : DTG} {te : DTE} {τ : DSt} {p : Addr} {f : D → D} {ok : DHp → Prop} {Q : List D → DHp → Prop} : ∀ {items acc : List D} {M : DHp}, (∀ acc, ok (up M p (.lst acc))) → M p = none →
    (∀ x ∈ items, ∀ acc (R : D → DHp → Prop), (∀ M', Sub (up M p (.lst acc)) M' → R (f x) M') → g x τ (up M p (.lst acc)) fun τ2 M2 => te τ2 M2 R) → Q (acc ++ items.map f) M → lcR ok g dYes te τ p items acc M Q
  | [], acc, M, o, _, _, q => ⟨o acc, by rw [List.map_nil, List.append_nil] at q; exact q⟩
  | x :: xs, acc, M, o, n, h, q => by
    refine ⟨o acc, h x List.mem_cons_self acc (fun y M4 => ∃ M5, Sub (up M5 p (.lst acc)) M4 ∧ M5 p = none ∧ lcR ok g dYes te τ p xs (addO acc (some y)) M5 Q) fun M' s => ⟨M, s, n, lcR_mapS o n (fun y hy => h y (List.mem_cons_of_mem _ hy)) ?_⟩⟩
    rw [List.map_cons] at q
    show Q ((acc ++ [f x]) ++ _) M
    rw [List.append_assoc]
    exact q
/-! ### equal kinds -/
mutual
theorem eqv_me : ∀ d : PyData, d.canLay0 = true → PyData.eqv d d = true
  | .none, _ => rfl
  | .bool b, _ => by show (b == b) = true; simp
  | .int i, _ => by show (i == i) = true; simp
  | .str x, _ => by show (x == x) = true; simp
  | .list xs, h => eqv_meAll xs h
  | .tuple xs, h => eqv_meAll xs h
  | .dict _, h => by cases h
theorem eqv_meAll : ∀ ds : List PyData, PyData.canLayAll0 ds = true → PyData.eqvAll ds ds = true
  | [], _ => rfl
  | d :: ds, h => by
    obtain ⟨h1, h2⟩ := Bool.and_eq_true_iff.mp (show (PyData.canLay0 d && PyData.canLayAll0 ds) = true from h)
    show (PyData.eqv d d && PyData.eqvAll ds ds) = true
    rw [eqv_me d h1, eqv_meAll ds h2] <;> rfl
end
theorem Kinds.one {kz : List (Int × Int)} (k : Kinds kz) {p : Int × Int} (h : p ∈ kz) : Kinds [p] := by
  have := k.mem p h
  exact ⟨by simp, by simp, ⟨this.1, this.2.1, this.2.2.1, this.2.2.2, trivial⟩⟩
end Rh
/-! P4: plain tools for tables of depths. -/
namespace Rh
open PySem PySem.Spec PyProof.Rows L2
/-- the sum of depths times numbers -/
def dsum (ps : List (Int × Int)) : Int := (ps.map fun p => p.1 * p.2).sum
end Rh
/-! P5: dicts of int keys and int values, as lists of pairs; sums over them. -/
namespace Rh
open PySem PySem.Spec PyProof.Rows L2
def dGet : List (Int × Int) → Int → Option Int
  | [], _ => none
  | p :: r, d => if p.1 = d then some p.2 else dGet r d
def dPut (es : List (Int × Int)) (d n : Int) : List (Int × Int) := match dGet es d with
  | some _ => es.map fun p => if p.1 = d then (p.1, n) else p
  | none => es ++ [(d, n)]
theorem keys_repl (d n : Int) (es : List (Int × Int)) : (es.map fun p => if p.1 = d then (p.1, n) else p).map (·.1) = es.map (·.1) := by
  rw [List.map_map]
  refine List.map_congr_left fun p _ => ?_
  show (if p.1 = d then (p.1, n) else p).1 = p.1
  split <;> rfl
def keysI (es : List (Int × Int)) : List Int := es.map (·.1)
theorem get_none : ∀ {es : List (Int × Int)} {d : Int}, dGet es d = none ↔ d ∉ keysI es
  | [], _ => ⟨fun _ h => (nomatch h), fun _ => rfl⟩
  | p :: r, d => by
    unfold dGet
    show _ ↔ d ∉ p.1 :: keysI r
    by_cases h : p.1 = d
    · rw [if_pos h]
      exact ⟨fun e => (nomatch e), fun e => absurd (List.mem_cons.mpr (.inl h.symm)) e⟩
    · rw [if_neg h, get_none, List.mem_cons]
      exact ⟨fun e z => z.elim (fun z => h z.symm) e, fun e z => e (.inr z)⟩
theorem get_mem : ∀ {es : List (Int × Int)} {d m : Int}, dGet es d = some m → (d, m) ∈ es
  | [], _, _, e => nomatch e
  | p :: r, d, m, e => by
    unfold dGet at e
    by_cases h : p.1 = d
    · rw [if_pos h] at e
      cases e
      exact List.mem_cons.mpr (.inl (by rw [← h]))
    · rw [if_neg h] at e
      exact List.mem_cons.mpr (.inr (get_mem e))
theorem get_some {es : List (Int × Int)} {d : Int} (h : d ∈ keysI es) : ∃ m, dGet es d = some m := by
  cases e : dGet es d with
  | none => exact absurd h (get_none.mp e)
  | some m => exact ⟨m, rfl⟩
theorem put_keys {es : List (Int × Int)} {d n : Int} : keysI (dPut es d n) = if d ∈ keysI es then keysI es else keysI es ++ [d] := by
  unfold dPut
  cases e : dGet es d with
  | none => rw [if_neg (get_none.mp e)]; unfold keysI; rw [List.map_append] <;> rfl
  | some m =>
    rw [if_pos (by
      by_cases h : d ∈ keysI es
      · exact h
      · rw [get_none.mpr h] at e; cases e)]
    exact keys_repl d n es
theorem put_nodup {es : List (Int × Int)} {d n : Int} (h : (keysI es).Nodup) : (keysI (dPut es d n)).Nodup := by
  rw [put_keys]
  split
  · exact h
  · rename_i z
    exact List.nodup_append.mpr ⟨h, (by simp), fun a ha b hb e => z (by rw [List.mem_singleton] at hb; rw [← hb, ← e]; exact ha)⟩
theorem put_mem {es : List (Int × Int)} {d n : Int} {p : Int × Int} (h : p ∈ dPut es d n) : p ∈ es ∨ p = (d, n) := by
  unfold dPut at h
  split at h
  · obtain ⟨q, hq, rfl⟩ := List.mem_map.mp h
    split
    · rename_i z; exact .inr (by rw [z])
    · exact .inl hq
  · rcases List.mem_append.mp h with h | h
    · exact .inl h
    · exact .inr (List.mem_singleton.mp h)
theorem put_len {es : List (Int × Int)} {d n : Int} : (dPut es d n).length ≤ es.length + 1 := by
  unfold dPut
  split
  · rw [List.length_map]; omega
  · rw [List.length_append] <;> exact Nat.le_refl _
/-- the sum of the values, each with its key's weight -/
def gsum (g : Int → Int) (es : List (Int × Int)) : Int := (es.map fun p => p.2 * g p.1).sum
theorem gsum_nil (g : Int → Int) : gsum g [] = 0 := rfl
theorem gsum_cons (g : Int → Int) (p : Int × Int) (r : List (Int × Int)) : gsum g (p :: r) = p.2 * g p.1 + gsum g r := by
  unfold gsum
  rw [List.map_cons, List.sum_cons]
theorem gsum_app (g : Int → Int) (a b : List (Int × Int)) : gsum g (a ++ b) = gsum g a + gsum g b := by
  unfold gsum
  rw [List.map_append, List.sum_append]
theorem repl_out (d n : Int) : ∀ (es : List (Int × Int)), d ∉ keysI es → (es.map fun p => if p.1 = d then (p.1, n) else p) = es
  | [], _ => rfl
  | p :: r, h => by
    rw [List.map_cons, repl_out d n r (fun z => h (List.mem_cons.mpr (.inr z))), if_neg (fun z => h (List.mem_cons.mpr (.inl z.symm)))]
theorem gsum_repl (g : Int → Int) (d n : Int) : ∀ (es : List (Int × Int)) (m : Int), (keysI es).Nodup → dGet es d = some m → gsum g (es.map fun p => if p.1 = d then (p.1, n) else p) = gsum g es + (n - m) * g d
  | [], _, _, e => nomatch e
  | p :: r, m, hn, e => by
    have hn : (p.1 :: keysI r).Nodup := hn
    obtain ⟨h1, h2⟩ := List.nodup_cons.mp hn
    unfold dGet at e
    rw [List.map_cons, gsum_cons, gsum_cons]
    by_cases h : p.1 = d
    · rw [if_pos h] at e ⊢
      cases e
      rw [repl_out d n r (by rw [← h]; exact h1)]
      show n * g p.1 + gsum g r = p.2 * g p.1 + gsum g r + (n - p.2) * g d
      rw [← h, Int.sub_mul]
      omega
    · rw [if_neg h] at e ⊢
      rw [gsum_repl g d n r m h2 e]
      omega
theorem gsum_put (g : Int → Int) {d n : Int} {es : List (Int × Int)} (hn : (keysI es).Nodup) : gsum g (dPut es d n) = gsum g es + (n - (dGet es d).getD 0) * g d := by
  unfold dPut
  cases e : dGet es d with
  | none =>
    show gsum g (es ++ [(d, n)]) = _
    rw [gsum_app, gsum_cons, gsum_nil]
    show gsum g es + (n * g d + 0) = gsum g es + (n - 0) * g d
    rw [Int.sub_zero, Int.add_zero]
  | some m => exact gsum_repl g d n es m hn e
theorem perm_sum {a b : List Int} (h : a.Perm b) : a.sum = b.sum := by
  induction h with
  | nil => rfl
  | cons x _ ih => rw [List.sum_cons, List.sum_cons, ih]
  | swap x y l => rw [List.sum_cons, List.sum_cons, List.sum_cons, List.sum_cons]; omega
  | trans _ _ h1 h2 => rw [h1, h2]
/-- by its keys, in any order -/
theorem gsum_keys (g : Int → Int) : ∀ (es : List (Int × Int)), (keysI es).Nodup → gsum g es = ((keysI es).map fun y => (dGet es y).getD 0 * g y).sum
  | [], _ => rfl
  | p :: r, hn => by
    have hn : (p.1 :: keysI r).Nodup := hn
    obtain ⟨h1, h2⟩ := List.nodup_cons.mp hn
    show _ = ((p.1 :: keysI r).map fun y => (dGet (p :: r) y).getD 0 * g y).sum
    rw [gsum_cons, List.map_cons, List.sum_cons, gsum_keys g r h2]
    congr 1
    · unfold dGet
      rw [if_pos rfl] <;> rfl
    · congr 1
      refine List.map_congr_left fun y hy => ?_
      rw [show dGet (p :: r) y = dGet r y from if_neg (fun e => h1 (by rw [e]; exact hy))]
theorem gsum_perm (g : Int → Int) {es : List (Int × Int)} (hn : (keysI es).Nodup) {ys : List Int} (h : ys.Perm (keysI es)) : gsum g es = (ys.map fun y => (dGet es y).getD 0 * g y).sum := by
  rw [gsum_keys g es hn]
  exact (perm_sum (h.map _)).symm
def wt (n : Nat) (d : Int) : Int := 2 ^ (n - d.toNat)
/-- entries of a table of depths -/
def Ent (n : Nat) (es : List (Int × Int)) : Prop := ∀ p ∈ es, 0 ≤ p.1 ∧ p.1 ≤ (n : Int) ∧ 1 ≤ p.2
/-- what the dict of numbers keeps while it is filled -/
structure Cnt (n : Nat) (es rest : List (Int × Int)) (tot : Int) : Prop where
  nd : (keysI es).Nodup
  ok : Ent n es
  ok2 : Ent n rest
  len : es.length + rest.length ≤ 1000000
  sum : gsum (wt n) es + gsum (wt n) rest = tot
theorem Cnt.step {n : Nat} {es rest : List (Int × Int)} {p : Int × Int} {tot : Int} (h : Cnt n es (p :: rest) tot) : Cnt n (dPut es p.1 ((dGet es p.1).getD 0 + p.2)) rest tot := by
  have hp := h.ok2 p (List.mem_cons.mpr (.inl rfl))
  have g0 : 0 ≤ (dGet es p.1).getD 0 := by
    cases e : dGet es p.1 with
    | none => exact Int.le_refl _
    | some m => have := (h.ok _ (get_mem e)).2.2; show 0 ≤ m; omega
  refine ⟨put_nodup h.nd, fun q hq => ?_, fun q hq => h.ok2 q (List.mem_cons.mpr (.inr hq)), ?_, ?_⟩
  · rcases put_mem hq with hq | rfl
    · exact h.ok q hq
    · exact ⟨hp.1, hp.2.1, by show 1 ≤ _ + _; omega⟩
  · have l := h.len
    have := put_len (es := es) (d := p.1) (n := (dGet es p.1).getD 0 + p.2)
    rw [List.length_cons] at l
    omega
  · rw [gsum_put _ h.nd, ← h.sum, gsum_cons, show (dGet es p.1).getD 0 + p.2 - (dGet es p.1).getD 0 = p.2 by omega]
    omega
/-! ### halves -/
/-- so many halves of all depths make one -/
def wholeAt (n : Nat) (es : List (Int × Int)) : Bool := decide (gsum (wt n) es = 2 ^ n)
end Rh
/-! P6: levels of a plan by halving. -/
namespace Rh
open PySem PySem.Spec PyProof.Rows L2
/-- the dict of levels behind i turns -/
structure Lv (i : Nat) (es : List (Int × Int)) : Prop where
  nd : (keysI es).Nodup
  ok : ∀ p ∈ es, 0 ≤ p.1 ∧ p.1 ≤ 60 * (i : Int) ∧ 0 ≤ p.2
  len : es.length ≤ 2 * i + 1
  one : gsum (fun _ => 1) es ≤ 1 + (i : Int) * 10 ^ 28
  sum : gsum (wt 1200) es = 2 ^ 1200
theorem Lv.start : Lv 0 [(0, 1)] := ⟨by decide, fun p h => by
  rw [List.mem_singleton] at h
  subst h
  exact ⟨by decide, by decide, by decide⟩, by decide, by decide, by decide +kernel⟩
theorem Lv.more {i j : Nat} {es : List (Int × Int)} (h : Lv i es) (l : i ≤ j) : Lv j es := ⟨h.nd, fun p hp => by have := h.ok p hp; omega, by have := h.len; omega, by have := h.one; omega, h.sum⟩
theorem get0 {es : List (Int × Int)} (h : ∀ p ∈ es, 0 ≤ p.2) (d : Int) : 0 ≤ (dGet es d).getD 0 := by
  cases e : dGet es d with
  | none => exact Int.le_refl _
  | some m => exact h _ (get_mem e)
theorem Lv.step {i : Nat} {es : List (Int × Int)} {d m t part : Int} (h : Lv i es) (em : dGet es d = some m) (t0 : 1 ≤ t) (t1 : t ≤ 60) (p0 : 1 ≤ part) (p1 : part ≤ m) (hp : part * 2 ^ t.toNat < 10 ^ 28) (hi : i < 20) :
    Lv (i + 1) (dPut (dPut es d (m - part)) (d + t) ((dGet (dPut es d (m - part)) (d + t)).getD 0 + part * 2 ^ t.toNat)) := by
  have hd := h.ok _ (get_mem em)
  have pw : 0 < (2 : Int) ^ t.toNat := Int.pow_pos (by decide)
  have pp : 0 ≤ part * 2 ^ t.toNat := Int.mul_nonneg (by omega) (by omega)
  have nd1 : (keysI (dPut es d (m - part))).Nodup := put_nodup h.nd
  have ok1 : ∀ p ∈ dPut es d (m - part), 0 ≤ p.1 ∧ p.1 ≤ 60 * (i : Int) ∧ 0 ≤ p.2 := fun p hp => by
    rcases put_mem hp with hp | rfl
    · exact h.ok p hp
    · exact ⟨hd.1, hd.2.1, by show 0 ≤ m - part; omega⟩
  have g0 := get0 (fun p hp => (ok1 p hp).2.2) (d + t)
  refine ⟨put_nodup nd1, fun p hp => ?_, ?_, ?_, ?_⟩
  · rcases put_mem hp with hp | rfl
    · have := ok1 p hp
      omega
    · exact ⟨by show 0 ≤ d + t; omega, by show d + t ≤ _; omega, by show 0 ≤ _ + _; omega⟩
  · have l1 := put_len (es := es) (d := d) (n := m - part)
    have l2 := put_len (es := dPut es d (m - part)) (d := d + t) (n := (dGet (dPut es d (m - part)) (d + t)).getD 0 + part * 2 ^ t.toNat)
    have := h.len
    omega
  · rw [gsum_put _ nd1, gsum_put _ h.nd, em]
    show gsum (fun _ => 1) es + (m - part - m) * 1 + _ * 1 ≤ _
    have := h.one
    omega
  · rw [gsum_put _ nd1, gsum_put _ h.nd, em, h.sum]
    show 2 ^ 1200 + (m - part - m) * wt 1200 d + ((dGet (dPut es d (m - part)) (d + t)).getD 0 + part * 2 ^ t.toNat - (dGet (dPut es d (m - part)) (d + t)).getD 0) * wt 1200 (d + t) = 2 ^ 1200
    rw [show m - part - m = -part by omega, show ∀ a b : Int, a + b - a = b from fun a b => by omega]
    have e : wt 1200 d = 2 ^ t.toNat * wt 1200 (d + t) := by
      unfold wt
      rw [← Int.pow_add, show t.toNat + (1200 - (d + t).toNat) = 1200 - d.toNat by omega]
    rw [e, Int.neg_mul, Int.mul_assoc, Int.add_assoc, Int.add_left_neg, Int.add_zero]
/-- the keys with a number -/
def posK (es : List (Int × Int)) (ys : List Int) : List Int := ys.filter fun y => decide (0 < (dGet es y).getD 0)
/-- levels that a law drew -/
structure Levels (es : List (Int × Int)) : Prop where
  asc : (keysI es).Pairwise (· < ·)
  ok : Ent 1200 es
  len : es.length ≤ 41
  one : gsum (fun _ => 1) es ≤ 4 * 10 ^ 29
  sum : gsum (wt 1200) es = 2 ^ 1200
def outL (es : List (Int × Int)) (ys : List Int) : List (Int × Int) := (posK es ys).map fun y => (y, (dGet es y).getD 0)
theorem out_sum {i : Nat} {es : List (Int × Int)} (h : Lv i es) (g : Int → Int) : ∀ ys : List Int, gsum g (outL es ys) = (ys.map fun y => (dGet es y).getD 0 * g y).sum
  | [] => rfl
  | y :: ys => by
    have ih := out_sum h g ys
    unfold outL posK at ih ⊢
    rw [List.filter_cons, List.map_cons, List.sum_cons, ← ih]
    split
    · rw [List.map_cons, gsum_cons]
    · rename_i hn
      have g0 := get0 (fun p hp => (h.ok p hp).2.2) y
      have : (dGet es y).getD 0 = 0 := by
        have : ¬ 0 < (dGet es y).getD 0 := fun z => hn (decide_eq_true z)
        omega
      rw [this] <;> omega
theorem Lv.out {es : List (Int × Int)} {ys : List Int} (h : Lv 20 es) (hp : ys.Perm (keysI es)) (hs : ys.Pairwise (· ≤ ·)) : Levels (outL es ys) := by
  have nd : ys.Nodup := hp.nodup_iff.mpr h.nd
  have asc : ys.Pairwise (· < ·) := by
    have h2 : ys.Pairwise (· ≠ ·) := nd
    exact (hs.and h2).imp fun {a b} h => by have := h.1; have := h.2; omega
  have ek : keysI (outL es ys) = posK es ys := by
    unfold keysI outL
    rw [List.map_map]
    exact List.map_id' _
  refine ⟨?_, fun p hp' => ?_, ?_, ?_, ?_⟩
  · rw [ek]
    exact asc.filter _
  · obtain ⟨y, hy, rfl⟩ := List.mem_map.mp hp'
    obtain ⟨hy, hpos⟩ := List.mem_filter.mp hy
    have hpos := of_decide_eq_true hpos
    obtain ⟨m, em⟩ := get_some (hp.mem_iff.mp hy)
    have := h.ok _ (get_mem em)
    refine ⟨this.1, ?_, ?_⟩
    · show y ≤ ((1200 : Nat) : Int)
      have := this.2.1
      have e : ((20 : Nat) : Int) = 20 := rfl
      have e2 : ((1200 : Nat) : Int) = 1200 := rfl
      have : y ≤ 60 * ((20 : Nat) : Int) := this
      omega
    · show 1 ≤ (dGet es y).getD 0
      omega
  · unfold outL
    rw [List.length_map]
    have l1 : (posK es ys).length ≤ ys.length := List.length_filter_le _ _
    have l2 := hp.length_eq
    have l3 := h.len
    unfold keysI at l2
    rw [List.length_map] at l2
    omega
  · rw [out_sum h, ← gsum_perm _ h.nd hp]
    have := h.one
    have e : ((20 : Nat) : Int) = 20 := rfl
    rw [e] at this
    omega
  · rw [out_sum h, ← gsum_perm _ h.nd hp]
    exact h.sum
theorem one_nn : ∀ {es : List (Int × Int)}, (∀ p ∈ es, 0 ≤ p.2) → 0 ≤ gsum (fun _ => 1) es
  | [], _ => Int.le_refl _
  | p :: r, h => by
    have := one_nn (es := r) fun q hq => h q (List.mem_cons.mpr (.inr hq))
    have := h p (List.mem_cons.mpr (.inl rfl))
    rw [gsum_cons]
    omega
end Rh
/-! P7: levels shared among kinds. -/
namespace Rh
open PySem PySem.Spec PyProof.Rows L2
structure RowOk (d : Int) (n : Nat) (row : List (Int × Int)) : Prop where
  asc : (keysI row).Pairwise (· < ·)
  ok : ∀ p ∈ row, 0 ≤ p.1 ∧ p.1 < d ∧ 1 ≤ p.2
  len : row.length ≤ n
theorem RowOk.more {d d' : Int} {n n' : Nat} {row : List (Int × Int)} (h : RowOk d n row) (hd : d ≤ d') (hn : n ≤ n') : RowOk d' n' row :=
  ⟨h.asc, fun p hp => by have := h.ok p hp; omega, Nat.le_trans h.len hn⟩
theorem RowOk.snoc {d m : Int} {n : Nat} {row : List (Int × Int)} (h : RowOk d n row) (d0 : 0 ≤ d) (hm : 1 ≤ m) : RowOk (d + 1) (n + 1) (row ++ [(d, m)]) := by
  refine ⟨?_, fun p hp => ?_, ?_⟩
  · unfold keysI
    rw [List.map_append]
    refine List.pairwise_append.mpr ⟨h.asc, List.pairwise_singleton _ _, fun a ha b hb => ?_⟩
    obtain ⟨q, hq, rfl⟩ := List.mem_map.mp ha
    obtain rfl : b = d := List.mem_singleton.mp hb
    exact (h.ok q hq).2.1
  · rcases List.mem_append.mp hp with hp | hp
    · have := h.ok p hp
      omega
    · rw [List.mem_singleton] at hp
      subst hp
      exact ⟨d0, by show d < d + 1; omega, hm⟩
  · rw [List.length_append]
    have := h.len
    show _ + 1 ≤ _
    omega
theorem gsum_set (g : Int → Int) : ∀ {F : List (List (Int × Int))} {j : Nat} {row row' : List (Int × Int)}, F[j]? = some row → gsum g (F.set j row').flatten + gsum g row = gsum g F.flatten + gsum g row'
  | [], _, _, _, e => by rw [List.getElem?_nil] at e; cases e
  | r :: F, 0, row, row', e => by
    rw [List.getElem?_cons_zero] at e
    cases e
    rw [List.set_cons_zero, List.flatten_cons, List.flatten_cons, gsum_app, gsum_app]
    omega
  | r :: F, j + 1, row, row', e => by
    rw [List.getElem?_cons_succ] at e
    have := gsum_set g (row' := row') e
    rw [List.set_cons_succ, List.flatten_cons, List.flatten_cons, gsum_app, gsum_app]
    omega
/-- rows behind n levels below d -/
structure Sh (K n : Nat) (d : Int) (F : List (List (Int × Int))) (tot : (Int → Int) → Int) : Prop where
  len : F.length = K
  rows : ∀ row ∈ F, RowOk d n row
  sum : ∀ g, gsum g F.flatten = tot g
/-- within the level d, behind j rows -/
structure Si (K n j : Nat) (d : Int) (F : List (List (Int × Int))) (left : Int) (tot : (Int → Int) → Int) : Prop where
  len : F.length = K
  rows : ∀ i row, F[i]? = some row → if i < j then RowOk (d + 1) (n + 1) row else RowOk d n row
  sum : ∀ g, gsum g F.flatten + left * g d = tot g
  nn : 0 ≤ left
  last : j = K → left = 0
theorem Si.start {K n : Nat} {d m : Int} {F : List (List (Int × Int))} {tot : (Int → Int) → Int} (h : Sh K n d F tot) (hK : 0 < K) (hm : 0 ≤ m) : Si K n 0 d F m (fun g => tot g + m * g d) :=
  ⟨h.len, fun i row e => by rw [if_neg (Nat.not_lt_zero i)]; exact h.rows row (List.mem_of_getElem? e), fun g => by rw [h.sum g], hm, fun e => by omega⟩
theorem Si.fin {K n : Nat} {d : Int} {F : List (List (Int × Int))} {left : Int} {tot : (Int → Int) → Int} (h : Si K n K d F left tot) : Sh K (n + 1) (d + 1) F tot :=
  ⟨h.len, fun row hr => by
    obtain ⟨i, hi, e⟩ := List.getElem_of_mem hr
    have := h.rows i row (by rw [List.getElem?_eq_getElem hi, e])
    rw [if_pos (by have := h.len; omega)] at this
    exact this, fun g => by have := h.sum g; rw [h.last rfl, Int.zero_mul, Int.add_zero] at this; exact this⟩
def addP (d part : Int) : List (Int × Int) := if 0 < part then [(d, part)] else []
theorem Si.step {K n j : Nat} {d part left : Int} {F : List (List (Int × Int))} {row : List (Int × Int)} {tot : (Int → Int) → Int} (h : Si K n j d F left tot) (e : F[j]? = some row) (d0 : 0 ≤ d) (p0 : 0 ≤ part) (p1 : part ≤ left) (pl : j + 1 = K → part = left) :
    Si K n (j + 1) d (F.set j (row ++ addP d part)) (left - part) tot := by
  have jl : j < F.length := (List.getElem?_eq_some_iff.mp e).1
  have hr := h.rows j row e
  rw [if_neg (Nat.lt_irrefl j)] at hr
  refine ⟨by rw [List.length_set]; exact h.len, fun i r ei => ?_, fun g => ?_, by omega, fun z => by have := pl z; omega⟩
  · by_cases hij : j = i
    · subst hij
      rw [List.getElem?_set_self jl] at ei
      cases ei
      rw [if_pos (Nat.lt_succ_self j)]
      unfold addP
      split
      · exact hr.snoc d0 (by omega)
      · rw [List.append_nil]
        exact hr.more (by omega) (by omega)
    · rw [List.getElem?_set_ne hij] at ei
      have := h.rows i r ei
      by_cases hl : i < j
      · rw [if_pos hl] at this
        rw [if_pos (by omega)]
        exact this
      · rw [if_neg hl] at this
        rw [if_neg (by omega)]
        exact this
  · have a := gsum_set g (row' := row ++ addP d part) e
    have b := h.sum g
    rw [gsum_app] at a
    have c : gsum g (addP d part) = part * g d := by
      unfold addP
      split
      · rw [gsum_cons, gsum_nil, Int.add_zero]
      · rw [gsum_nil, show part = 0 by omega, Int.zero_mul]
    rw [c] at a
    rw [Int.sub_mul]
    omega
theorem Sh.more {K n : Nat} {d d' : Int} {F : List (List (Int × Int))} {tot : (Int → Int) → Int} (h : Sh K n d F tot) (hd : d ≤ d') : Sh K n d' F tot :=
  ⟨h.len, fun row hr => (h.rows row hr).more hd (Nat.le_refl _), h.sum⟩
theorem Sh.start (K : Nat) : Sh K 0 0 (List.replicate K []) (fun g => gsum g []) := by
  refine ⟨List.length_replicate, fun row hr => ?_, fun g => ?_⟩
  · rw [(List.mem_replicate.mp hr).2]
    exact ⟨List.Pairwise.nil, fun p hp => (nomatch hp), Nat.le_refl _⟩
  · rw [gsum_nil]
    induction K with
    | zero => rfl
    | succ K ih => rw [List.replicate_succ, List.flatten_cons, List.nil_append]; exact ih
/-- the table of a plan that a law drew -/
structure Tabs (T : List (List (Int × Int))) : Prop where
  len : T.length ≤ 8
  rows : ∀ ps ∈ T, ps ≠ [] ∧ RowOk 1201 41 ps
  one : gsum (fun _ => 1) T.flatten ≤ 4 * 10 ^ 29
  sum : gsum (wt 1200) T.flatten = 2 ^ 1200
end Rh
/-! P8: drawn tables are tables. -/
namespace Rh
open PySem PySem.Spec PyProof.Rows L2
theorem nums_nn : ∀ {ps : List (Int × Int)}, (∀ p ∈ ps, 1 ≤ p.2) → 0 ≤ (ps.map (·.2)).sum
  | [], _ => Int.le_refl _
  | p :: r, h => by
    have a := nums_nn (ps := r) fun q hq => h q (List.mem_cons.mpr (.inr hq))
    have b := h p (List.mem_cons.mpr (.inl rfl))
    rw [List.map_cons, List.sum_cons]
    omega
theorem Tabs.ent {T : List (List (Int × Int))} (h : Tabs T) : Ent 1200 T.flatten := fun p hp => by
  obtain ⟨ps, h1, h2⟩ := List.mem_flatten.mp hp
  have := (h.rows ps h1).2.ok p h2
  have e : ((1200 : Nat) : Int) = 1200 := rfl
  omega
theorem Tabs.whole {T : List (List (Int × Int))} (h : Tabs T) : wholeAt 1200 T.flatten = true := decide_eq_true h.sum
theorem Tabs.ne {T : List (List (Int × Int))} (h : Tabs T) : T ≠ [] := fun e => by
  have := h.sum
  rw [e, List.flatten_nil, gsum_nil] at this
  have := Int.pow_pos (n := (2 : Int)) (m := 1200) (by decide)
  omega
theorem ks_of {top : Int} : ∀ {kz : List (Int × Int)} {b : Int}, (kz.map (·.1)).Pairwise (· < ·) → (∀ k ∈ kz, b < k.1 ∧ k.1 ≤ top ∧ 1 ≤ k.2 ∧ k.2 ≤ 10 ^ 30) → KsOk top b kz
  | [], _, _, _ => trivial
  | p :: r, b, hs, h => by
    rw [List.map_cons] at hs
    obtain ⟨h1, h2⟩ := List.pairwise_cons.mp hs
    have hp := h p (List.mem_cons.mpr (.inl rfl))
    exact ⟨hp.1, hp.2.1, hp.2.2.1, hp.2.2.2, ks_of h2 fun q hq => ⟨h1 q.1 (List.mem_map_of_mem (f := fun x : Int × Int => x.1) hq), (h q (List.mem_cons.mpr (.inr hq))).2⟩⟩
theorem one_sum (ps : List (Int × Int)) : gsum (fun _ => 1) ps = (ps.map (·.2)).sum := by
  unfold gsum
  congr 1
  exact List.map_congr_left fun p _ => Int.mul_one p.2
theorem row_le : ∀ {T : List (List (Int × Int))} {ps : List (Int × Int)}, (∀ p ∈ T.flatten, 0 ≤ p.2) → ps ∈ T → gsum (fun _ => 1) ps ≤ gsum (fun _ => 1) T.flatten
  | [], _, _, h => nomatch h
  | t :: T, ps, h, hp => by
    rw [List.flatten_cons] at h ⊢
    rw [gsum_app]
    have a := one_nn (es := t) fun q hq => h q (List.mem_append.mpr (.inl hq))
    have b := one_nn (es := T.flatten) fun q hq => h q (List.mem_append.mpr (.inr hq))
    rcases List.mem_cons.mp hp with rfl | hp
    · omega
    · have := row_le (T := T) (fun q hq => h q (List.mem_append.mpr (.inr hq))) hp
      omega
theorem row_pos : ∀ {ps : List (Int × Int)}, ps ≠ [] → (∀ p ∈ ps, 1 ≤ p.2) → 1 ≤ (ps.map (·.2)).sum
  | [], h, _ => absurd rfl h
  | p :: r, _, h => by
    have a := nums_nn (ps := r) fun q hq => h q (List.mem_cons.mpr (.inr hq))
    have b := h p (List.mem_cons.mpr (.inl rfl))
    rw [List.map_cons, List.sum_cons]
    omega
/-- the numbers of a drawn table's kinds -/
theorem Tabs.cnt {T : List (List (Int × Int))} (h : Tabs T) : ∀ ps ∈ T, 1 ≤ (ps.map (·.2)).sum ∧ (ps.map (·.2)).sum ≤ 10 ^ 30 := fun ps hps => by
  have r := h.rows ps hps
  have a := row_pos r.1 fun p hp => (r.2.ok p hp).2.2
  have b := row_le (fun p hp => by have := (h.ent p hp).2.2; omega) hps
  rw [one_sum] at b
  have := h.one
  omega
theorem dsum_bound : ∀ {ps : List (Int × Int)}, (∀ p ∈ ps, 0 ≤ p.1 ∧ p.1 ≤ 1200 ∧ 0 ≤ p.2) → 0 ≤ dsum ps ∧ dsum ps ≤ 1200 * (ps.map (·.2)).sum
  | [], _ => ⟨Int.le_refl _, by decide⟩
  | p :: r, h => by
    have a := dsum_bound (ps := r) fun q hq => h q (List.mem_cons.mpr (.inr hq))
    have b := h p (List.mem_cons.mpr (.inl rfl))
    have e : dsum (p :: r) = p.1 * p.2 + dsum r := by
      unfold dsum
      rw [List.map_cons, List.sum_cons]
    rw [e, List.map_cons, List.sum_cons]
    have c1 : 0 ≤ p.1 * p.2 := Int.mul_nonneg b.1 b.2.2
    have c2 : p.1 * p.2 ≤ 1200 * p.2 := Int.mul_le_mul_of_nonneg_right b.2.1 b.2.2
    omega
theorem Tabs.dsum {T : List (List (Int × Int))} (h : Tabs T) : ∀ ps ∈ T, 0 ≤ dsum ps ∧ dsum ps ≤ 1200 * 10 ^ 30 := fun ps hps => by
  have r := (h.rows ps hps).2
  have a := dsum_bound (ps := ps) fun p hp => by have := r.ok p hp; omega
  have := (h.cnt ps hps).2
  omega
end Rh
/-! P9: plain tools: loops and comprehensions over told lists; slots forgotten. -/
namespace Rh
open PySem PySem.Spec PyProof.Rows L2 PySem.NumText
end Rh
/-! P10: plain tools: first ones found by two loops; int dicts of pairs; rows of a table changed. -/
namespace Rh
open PySem PySem.Spec PyProof.Rows L2 PySem.NumText
theorem at_zero {α : Type} {x : α} {xs : List α} : atI (x :: xs) 0 = some x := at_nn (k := 0) rfl
theorem at_last {α : Type} {xs : List α} (h : xs ≠ []) : atI xs (-1) = some (xs.getLast h) := by
  have l : 0 < xs.length := List.length_pos_iff.mpr h
  unfold atI ixN
  rw [if_neg (by decide), if_pos (by omega)]
  show xs[((-1 : Int) + xs.length).toNat]? = _
  rw [show ((-1 : Int) + xs.length).toNat = xs.length - 1 by omega, List.getLast_eq_getElem]
  exact List.getElem?_eq_getElem _
/-! ### int dicts of pairs -/
/-! ### is a list empty -/
end Rh
/-! P12: drawn kinds in two parts; both joined. -/
namespace Rh
open PySem PySem.Spec PyProof.Rows L2 PySem.NumText
/-- drawn kinds: at most 10, sizes up to 10 ^ 29 -/
structure Dr6 (kz : List (Int × Int)) : Prop where
  ne : kz ≠ []
  len : kz.length ≤ 10
  asc : (keysI kz).Pairwise (· < ·)
  ok : ∀ p ∈ kz, 1 ≤ p.1 ∧ p.1 ≤ 10 ^ 29 ∧ 1 ≤ p.2 ∧ p.2 ≤ 2 * 10 ^ 29
/-- a part of kinds -/
structure Pt (kz o : List (Int × Int)) : Prop where
  sub : (keysI o).Sublist (keysI kz)
  ok : ∀ p ∈ o, 1 ≤ p.2 ∧ p.2 ≤ 2 * 10 ^ 29
theorem Pt.nil {kz : List (Int × Int)} : Pt kz [] := ⟨List.nil_sublist _, fun _ h => by cases h⟩
theorem Pt.skip {kz o : List (Int × Int)} {p : Int × Int} (h : Pt kz o) : Pt (kz ++ [p]) o := ⟨by
  unfold keysI
  rw [List.map_append]
  exact h.sub.trans (List.sublist_append_left _ _), h.ok⟩
theorem Pt.snoc {kz o : List (Int × Int)} {p : Int × Int} {n : Int} (h : Pt kz o) (h1 : 1 ≤ n) (h2 : n ≤ 2 * 10 ^ 29) : Pt (kz ++ [p]) (o ++ [(p.1, n)]) := ⟨by
  unfold keysI
  rw [List.map_append, List.map_append]
  exact h.sub.append (List.Sublist.refl _), fun q hq => by
    rcases List.mem_append.mp hq with hq | hq
    · exact h.ok q hq
    · obtain rfl := List.mem_singleton.mp hq
      exact ⟨h1, h2⟩⟩
theorem Pt.take {kz o : List (Int × Int)} (n : Nat) (h : Pt kz o) : Pt kz (o.take n) := ⟨((List.take_sublist n o).map _).trans h.sub, fun p hp => h.ok p (List.mem_of_mem_take hp)⟩
theorem Pt.asc {kz o : List (Int × Int)} (h : Pt kz o) (d : Dr6 kz) : (keysI o).Pairwise (· < ·) := d.asc.sublist h.sub
theorem Pt.len {kz o : List (Int × Int)} (h : Pt kz o) : o.length ≤ kz.length := by
  have := h.sub.length_le
  unfold keysI at this
  rwa [List.length_map, List.length_map] at this
theorem Pt.size {kz o : List (Int × Int)} (h : Pt kz o) (d : Dr6 kz) : ∀ p ∈ o, 1 ≤ p.1 ∧ p.1 ≤ 10 ^ 29 := fun p hp => by
  have : p.1 ∈ keysI kz := h.sub.subset (List.mem_map_of_mem (f := fun x : Int × Int => x.1) hp)
  obtain ⟨q, hq, e⟩ := List.mem_map.mp this
  have := d.ok q hq
  have e : q.1 = p.1 := e
  omega
theorem Pt.kinds {kz o : List (Int × Int)} (h : Pt kz o) (d : Dr6 kz) (ne : o ≠ []) : Kinds o := ⟨ne, by
  have := h.len
  have := d.len
  omega, ks_of (h.asc d) fun p hp => by
    have := h.size d p hp
    have := h.ok p hp
    omega⟩
/-- of two parts each that is empty is taken from the other one -/
def orTake (o t : List (Int × Int)) : List (Int × Int) := if o = [] then t.take 1 else o
theorem Pt.orTake {kz o t : List (Int × Int)} (h : Pt kz o) (h' : Pt kz t) : Pt kz (orTake o t) := by
  unfold Rh.orTake
  split
  · exact h'.take 1
  · exact h
theorem set_keys {l : List (Int × Int)} {i : Nat} {x y : Int × Int} (e : l[i]? = some x) (h : y.1 = x.1) : keysI (l.set i y) = keysI l := by
  unfold keysI
  rw [List.map_set]
  refine List.ext_getElem? fun k => ?_
  rw [List.getElem?_set]
  split
  · subst i
    rw [List.getElem?_map, e, List.length_map]
    have : k < l.length := (List.getElem?_eq_some_iff.mp e).1
    rw [if_pos this, h]
    rfl
  · rfl
/-- one heap more of a kind -/
theorem Pt.more {kz o : List (Int × Int)} {i : Nat} {x : Int × Int} (h : Pt kz o) (d : Dr6 kz) (e : o[i]? = some x) : Kinds (o.set i (x.1, x.2 + 1)) := by
  have hx := h.ok x (List.mem_of_getElem? e)
  have sx := h.size d x (List.mem_of_getElem? e)
  refine ⟨fun z => ?_, by rw [List.length_set]; have := h.len; have := d.len; omega, ks_of (by rw [show (o.set i (x.1, x.2 + 1)).map (·.1) = keysI o from set_keys e rfl]; exact h.asc d) fun p hp => ?_⟩
  · have := congrArg List.length z
    rw [List.length_set] at this
    have := (List.getElem?_eq_some_iff.mp e).1
    rw [List.length_nil] at *
    omega
  · rcases List.mem_or_eq_of_mem_set hp with hp | rfl
    · have := h.ok p hp
      have := h.size d p hp
      omega
    · show 0 < x.1 ∧ x.1 ≤ 10 ^ 30 ∧ 1 ≤ x.2 + 1 ∧ x.2 + 1 ≤ 10 ^ 30
      omega
/-- all sizes times so much -/
theorem Pt.times {kz o : List (Int × Int)} (h : Pt kz o) (d : Dr6 kz) (ne : o ≠ []) {b : Int} (b0 : 1 ≤ b) (b1 : b ≤ 9) : Kinds (o.map fun p => (p.1 * b, p.2)) := by
  refine ⟨fun z => ne (List.map_eq_nil_iff.mp z), by rw [List.length_map]; have := h.len; have := d.len; omega, ks_of ?_ fun p hp => ?_⟩
  · rw [List.map_map]
    have : (o.map ((fun p : Int × Int => p.1) ∘ fun p => (p.1 * b, p.2))) = (keysI o).map (· * b) := by unfold keysI; rw [List.map_map] <;> rfl
    rw [this]
    exact List.Pairwise.map _ (fun x y h => Int.mul_lt_mul_of_pos_right h (by omega)) (h.asc d)
  · obtain ⟨q, hq, rfl⟩ := List.mem_map.mp hp
    have a1 := h.ok q hq
    have a2 := h.size d q hq
    have c1 : 0 < q.1 * b := Int.mul_pos (by omega) (by omega)
    have c2 : q.1 * b ≤ q.1 * 9 := Int.mul_le_mul_of_nonneg_left b1 (by omega)
    show 0 < q.1 * b ∧ q.1 * b ≤ 10 ^ 30 ∧ 1 ≤ q.2 ∧ q.2 ≤ 10 ^ 30
    omega
end Rh
/-! P76: lambdas in a list, plain: what they told, states with cells told. -/
namespace Rh
open PySem PySem.Spec PyProof.Rows L2 PySem.NumText
theorem put_del {kd : Addr → Option D} {M : DHp} (h : ∀ a d, kd a = some d → M a = some (.cel d)) : putM kd (delM kd M) = M := by
  funext a
  cases e : kd a with
  | some d => rw [putM_in e, h a d e]
  | none => rw [putM_out e, delM_out e]
theorem del_put {kd : Addr → Option D} {M : DHp} (h : ∀ a d, kd a = some d → M a = none) : delM kd (putM kd M) = M := by
  funext a
  cases e : kd a with
  | some d => rw [delM_in e, h a d e]
  | none => rw [delM_out e, putM_out e]
theorem knk_sub {c : CT} {x : D} {M M' : DHp} (s : Sub M M') (h : known c x M) : known c x M' := by
  cases x with
  | ref a =>
    unfold known at h ⊢
    cases e : M a with
    | none => simp only [tyD, e] at h
    | some o =>
      have e' := s a o e
      cases o <;> simp only [tyD, e, e'] at h ⊢ <;> exact h
  | _ => exact h
theorem knK_sub {c : CT} {x : D} {M M' : DHp} (s : Sub M M') (h : knownK c x M) : knownK c x M' :=
  ⟨knk_sub s h.1, fun es e => let z := h.2 es e; ⟨z.1, fun y hy => let u := z.2 y hy; ⟨knk_sub s u.1, fun a b e2 => let v := u.2 a b e2; ⟨knk_sub s v.1, knk_sub s v.2⟩⟩⟩⟩
theorem knk_del {c : CT} {x : D} {M : DHp} {kd : Addr → Option D} (hk : ∀ a d, kd a = some d → M a = some (.cel d)) (h : known c x M) : known c x (delM kd M) := by
  cases x with
  | ref a =>
    unfold known at h ⊢
    cases e : M a with
    | none => simp only [tyD, e] at h
    | some o =>
      cases q : kd a with
      | none =>
        have e' : delM kd M a = some o := (delM_out q).trans e
        cases o <;> simp only [tyD, e, e'] at h ⊢ <;> exact h
      | some d =>
        rw [hk a d q] at e
        cases e
        simp only [tyD, hk a d q] at h
  | _ => exact h
theorem knK_del {c : CT} {x : D} {M : DHp} {kd : Addr → Option D} (hk : ∀ a d, kd a = some d → M a = some (.cel d)) (h : knownK c x M) : knownK c x (delM kd M) :=
  ⟨knk_del hk h.1, fun es e => let z := h.2 es e; ⟨z.1, fun y hy => let u := z.2 y hy; ⟨knk_del hk u.1, fun a b e2 => let v := u.2 a b e2; ⟨knk_del hk v.1, knk_del hk v.2⟩⟩⟩⟩
/-- what repr answers of a value -/
structure RepOk (d : D) (s : Str) : Prop where
  run : ∀ M, SeqAt.shaped (pyM M d) = true ∧ (pyM M d).showable = true ∧ (pyM M d).depth ≤ 60 ∧ (pyM M d).shown.length ≤ sizeLine
  eq : ∀ M, (pyM M d).shown = s
theorem RepOk.of {d : D} {w n : Nat} (h : Shw (py d) w n) (hw : w ≤ 200000) (hn : n ≤ 60) (nr : ∀ a, d ≠ .ref a) : RepOk d (py d).shown := by
  have e : ∀ M, pyM M d = py d := fun M => by
    cases d with
    | ref a => exact absurd rfl (nr a)
    | _ => rfl
  exact ⟨fun M => by rw [e M]; exact h.ok hw hn, fun M => by rw [e M]⟩
theorem rep_kinds {kz : List (Int × Int)} (K : Kinds kz) : RepOk (kD kz) (py (kD kz)).shown := RepOk.of (shw_kinds (n := 0) K) (by decide) (by decide) fun a e => nomatch e
theorem rep_int {i : Int} (h : i.natAbs < 2 ^ 230) : RepOk (.int i) (py (.int i)).shown := RepOk.of (Shw.int (n := 0) h) (by decide) (by decide) fun a e => nomatch e
theorem rep_non : RepOk .non (py .non).shown := RepOk.of (Shw.non (n := 0)) (by decide) (by decide) fun a e => nomatch e
/-- the f-th lambda of the text, as it stands in a state -/
def LamAt (lams : List LamI) (M : DHp) (f : Addr) (l : LamI) (ds : List D) (kd : Addr → Option D) : Prop :=
  ∃ (i : Nat) (cs : List (Nat × Addr)), M f = some (.lam l.L i cs) ∧ lams[i]? = some l ∧ (∀ a d, kd a = some d → M a = some (.cel d)) ∧ CsOk cs ds kd ∧ ds.length = l.n
theorem LamAt.sub {lams : List LamI} {M M' : DHp} {f : Addr} {l : LamI} {ds : List D} {kd : Addr → Option D} (h : LamAt lams M f l ds kd) (s : Sub M M') : LamAt lams M' f l ds kd :=
  let ⟨i, cs, e, el, hk, co, le⟩ := h; ⟨i, cs, s _ _ e, el, fun a d z => s _ _ (hk a d z), co, le⟩
theorem LamAt.run {lams : List LamI} {M : DHp} {f : Addr} {l : LamI} {ds : List D} {kd : Addr → Option D} {τ : DSt} {W : DWX} {Q : DVK} (h : LamAt lams M f l ds kd) {j : Nat} (e : sl τ j = some (.ref f)) (t : l.tb (fnW fun C ns es M' => W C ns es τ (putM kd M')) (ds.map some) (delM kd M) (fun d M' => Q d (putM kd M'))) : dActV lams j W τ M Q :=
  let ⟨i, cs, ef, el, hk, co, le⟩ := h; ⟨f, i, l, cs, ds, kd, e, ef, el, hk, co, le, t⟩
/-- one captured slot -/
theorem cel_one {ce : Nat → Addr} {j : Nat} {τ : DSt} {d : D} (e : sl τ j = some d) {a : Addr} {d' : D} : celS ce [j] τ a = some d' ↔ a = ce j ∧ d' = d := by
  unfold celS
  cases h : (ce j == a) with
  | true =>
    simp only [List.find?, h]
    show (sl τ j = some d') ↔ _
    rw [e]
    have := beq_iff_eq.mp h
    exact ⟨fun z => ⟨this.symm, (Option.some.inj z).symm⟩, fun z => by rw [z.2]⟩
  | false =>
    simp only [List.find?, h]
    refine Iff.intro (fun z => nomatch z) fun z => ?_
    rw [z.1, beq_self_eq_true] at h
    cases h
end Rh
/-! ### the defs of this law: promises, readings -/
namespace Rh
open PySem PySem.Spec PyProof.Rows L2 PySem.NumText
def isIntD : D → Bool
  | .int _ => true
  | _ => false
def sp_is_integer (c : CT) : DSp := sp1 fun a M Q _ => known c a M ∧ Q (.bl (isIntD a)) M
/-- is_integer: 0 value -/
def N_is_integer : List Str := ["value"]
def t_is_integer (c : CT) (W : DWX) : DTS :=
  dRet (dAndV (dIsi .int (kno c) (dVar 0)) (dNotV (dIsi .bl (kno c) (dVar 0))))
theorem len_is_integer (c : CT) : ∀ ds M Q E, sp_is_integer c ds M Q E → ds.length = ["value"].length := sp1_len
theorem pure_is_integer (c : CT) : ∀ ds M Q E, sp_is_integer c ds M Q E → t_is_integer c (fnW E) (fnEnds Q) (startD N_is_integer ds) M := sp1_of fun a M Q E ⟨k, q⟩ => by
  show t_is_integer c (fnW E) (fnEnds Q) [some a] M
  simp only [t_is_integer, dRet, dAndV, dIsi, dVar, sl, wth, dNotV]
  have q' := fn_rt q
  cases a with
  | ref p =>
    unfold known at k
    cases e : M p with
    | none => simp only [tyD, e] at k
    | some o => cases o <;> simp only [tyD, e] at k ⊢ <;> first | exact q' | exact ⟨k, q'⟩
  | obj C ns ds => exact ⟨k, q'⟩
  | ty n => exact k.elim
  | tpl ds => exact k.elim
  | _ => exact q'

def sp_is_within (c : CT) : DSp := sp3 fun a l m M Q _ => ∃ i j, l = .int i ∧ m = .int j ∧ known c a M ∧ Q (.bl (withinB a i j)) M
/-- is_within: 0 value, 1 least, 2 most -/
def N_is_within : List Str := ["value", "least", "most"]
def t_is_within (c : CT) (W : DWX) : DTS :=
  dRet (dAndV (dOwn [0] [] (sp_is_integer c) noW [dVar 0] []) (dChain rLeD rLeD (dVar 1) (dVar 0) (dVar 2)))
theorem len_is_within (c : CT) : ∀ ds M Q E, sp_is_within c ds M Q E → ds.length = ["value", "least", "most"].length := sp3_len
theorem pure_is_within (c : CT) : ∀ ds M Q E, sp_is_within c ds M Q E → t_is_within c (fnW E) (fnEnds Q) (startD N_is_within ds) M := sp3_of fun a l m M Q E ⟨i, j, e1, e2, k, q⟩ => by
  subst e1 e2
  show t_is_within c (fnW E) (fnEnds Q) [some a, some (.int i), some (.int j)] M
  refine ⟨k, ?_⟩
  have q' := fn_rt q
  unfold withinB at q'
  cases a with
  | int v =>
    show dChain rLeD rLeD (dVar 1) (dVar 0) (dVar 2) [some (.int v), some (.int i), some (.int j)] M (fnEnds Q).rt
    simp only [dChain, dVar, sl, wth, rLeD, rB2]
    cases h : decide (i ≤ v) with
    | true => simp only [h, Bool.true_and] at q'; exact q'
    | false => simp only [h, Bool.false_and] at q'; exact q'
  | _ => exact q'

def sp_wrong_kind (c : CT) : DSp := sp1 fun a M Q _ => knownK c a M ∧ Q (wkD a) M
/-- wrong_kind: 0 kinds, 1 before, 2 at, 3 kind -/
def N_wrong_kind : List Str := ["kinds", "before", "at", "kind"]
def t_wrong_kind (c : CT) (W : DWX) : DTS :=
  dSeq (dIfS (dOr (dNot (dTru (dIsi .tup (kno c) (dVar 0)))) (dTst (dOp (rEqDD false) (dCB rLen0D [dVar 0]) (dC (.int 0))))) (dRet (dTup [dC .non])) (dNext))
  (dSeq (dAsg (dC (.int 0)) (dgName 1))
  (dSeq (dFor (diEnum (dVar 0)) (dgTupN 2 [dgName 2, dgName 3])
  (dSeq (dIfS (dOr (dNot (dTru (dIsi .tup (kno c) (dVar 3)))) (dOr (dTst (dOp (rEqDD true) (dCB rLen0D [dVar 3]) (dC (.int 2)))) (dTst (dOp rGeD (dVar 2) (dC (.int 12)))))) (dRet (dTup [dVar 2])) (dNext))
  (dSeq (dIfS (dOr (dNot (dTru (dOwn [0, 1, 2] [] (sp_is_within c) noW [dOp rIxD (dVar 3) (dC (.int 0)), dOp (rAddD false) (dVar 1) (dC (.int 1)), dC (.int 1000000000000000000000000000000)] []))) (dNot (dTru (dOwn [0, 1, 2] [] (sp_is_within c) noW [dOp rIxD (dVar 3) (dC (.int 1)), dC (.int 1), dC (.int 1000000000000000000000000000000)] [])))) (dRet (dTup [dVar 2])) (dNext))
  (dAsg (dOp rIxD (dVar 3) (dC (.int 0))) (dgName 1)))))
  (dRet (dTup []))))
theorem len_wrong_kind (c : CT) : ∀ ds M Q E, sp_wrong_kind c ds M Q E → ds.length = ["kinds"].length := sp1_len
theorem pure_wrong_kind (c : CT) : ∀ ds M Q E, sp_wrong_kind c ds M Q E → t_wrong_kind c (fnW E) (fnEnds Q) (startD N_wrong_kind ds) M := sp1_of fun a M Q E h => by
  obtain ⟨⟨k0, k1⟩, q⟩ := h
  have q := fn_rt q
  show t_wrong_kind c (fnW E) (fnEnds Q) [some a, none, none, none] M
  rcases tup_or a with ⟨es, rfl⟩ | ht
  · obtain ⟨esl, ke⟩ := k1 es rfl
    conv => whnf
    refine ⟨sh_int, sh_int, ?_⟩
    cases es with
    | nil => exact q
    | cons e0 er =>
      clear k1
      have q2 : (fnEnds Q).rt (match wkGo 0 0 (e0 :: er) with | some i => .tup [.int (i : Nat)] | none => .tup []) M := q
      show forR _ _ _ _ (pairs 0 (e0 :: er)) [some (.tup (e0 :: er)), some (.int 0), none, none] M
      generalize e0 :: er = es at *
      refine forR_inv (fun xs τ M' => M' = M ∧ ∃ i rest b o2 o3, xs = pairs i rest ∧ (∀ e ∈ rest, known c e M ∧ ∀ x y, e = .tup [x, y] → known c x M ∧ known c y M) ∧ wkGo i b rest = wkGo 0 0 es ∧ τ = [some (.tup es), some (.int b), o2, o3]) ?_ ?_ _ _ _ ⟨rfl, 0, es, 0, none, none, rfl, ke, rfl, rfl⟩
      · rintro τ M' ⟨rfl, i, rest, b, o2, o3, ex, _, eg, rfl⟩
        refine ⟨trivial, ?_⟩
        cases rest with
        | cons _ _ => cases ex
        | nil =>
          rw [← eg] at q2
          exact q2
      · rintro x xs τ M' R ⟨rfl, i, rest, b, o2, o3, ex, kr, eg, rfl⟩ hR
        cases rest with
        | nil => cases ex
        | cons e rest =>
          cases ex
          refine ⟨trivial, ?_⟩
          have out : wkOne i b e = none → (fnEnds Q).rt (.tup [.int (i : Nat)]) M' := fun hn => by
            have e2 : wkGo i b (e :: rest) = some i := by unfold wkGo; rw [hn]
            rw [← eg, e2] at q2
            exact q2
          have go : ∀ s, wkOne i b e = some s → wkGo (i + 1) s rest = wkGo 0 0 es := fun s hn => by
            have e2 : wkGo i b (e :: rest) = wkGo (i + 1) s rest := by rw [wkGo, hn]
            rw [← eg, e2]
          obtain ⟨ke1, ke2⟩ := kr e List.mem_cons_self
          conv => whnf
          refine ⟨rfl, ?_⟩
          rcases tup_or e with ⟨fs, rfl⟩ | hne
          · conv => whnf
            refine ⟨sh_int, sh_int, ?_⟩
            conv => whnf
            split
            · rename_i h
              have h' : ¬ fs.length = 2 := by
                intro z
                rw [z] at h
                have h2 : (true != ((2 : Int) == 2)) = true := h
                revert h2
                decide
              refine out ?_
              unfold wkOne
              split
              · rename_i e2
                cases e2
                exact absurd rfl h'
              · rfl
            · rename_i h
              have h' : fs.length = 2 := by
                have h2 : (true != ((((fs.length : Nat) : Int)) == 2)) = false := h
                rw [Bool.true_bne, Bool.not_eq_false'] at h2
                have := beq_iff_eq.mp h2
                omega
              match fs, h' with
              | [s, m], _ =>
                obtain ⟨ks, km⟩ := ke2 s m rfl
                conv => whnf
                split
                · rename_i h3
                  have h4 : (12 : Int) ≤ (i : Nat) := of_decide_eq_true h3
                  refine out ?_
                  unfold wkOne
                  split
                  · rw [if_neg]
                    simp only [Bool.and_eq_true, decide_eq_true_eq, not_and]
                    intro z
                    omega
                  · rfl
                · rename_i h3
                  have h4 : ¬ (12 : Int) ≤ (i : Nat) := of_decide_eq_false h3
                  have i12 : i < 12 := by omega
                  conv => whnf
                  refine ⟨_, _, rfl, rfl, ks, ?_⟩
                  conv => whnf
                  split
                  · rename_i h5
                    refine out ?_
                    have w1 : withinB s (b + 1) (10 ^ 30) = false := by
                      cases z : withinB s (b + 1) (10 ^ 30) with
                      | false => rfl
                      | true =>
                        have h6 : (!withinB s (b + 1) (10 ^ 30)) = true := h5
                        rw [z] at h6; cases h6
                    unfold wkOne
                    split
                    · rename_i e2
                      cases e2
                      rw [w1, Bool.false_and, Bool.and_false, if_neg (by decide)]
                    · rfl
                  · rename_i h5
                    have w1 : withinB s (b + 1) (10 ^ 30) = true := by
                      cases z : withinB s (b + 1) (10 ^ 30) with
                      | true => rfl
                      | false =>
                        have h6 : (!withinB s (b + 1) (10 ^ 30)) = false := h5
                        rw [z] at h6; cases h6
                    obtain ⟨sv, rfl⟩ : ∃ v, s = D.int v := by cases s <;> first | exact ⟨_, rfl⟩ | (cases w1)
                    conv => whnf
                    refine ⟨_, _, rfl, rfl, km, ?_⟩
                    conv => whnf
                    split
                    · rename_i h7
                      refine out ?_
                      have w2 : withinB m 1 (10 ^ 30) = false := by
                        cases z : withinB m 1 (10 ^ 30) with
                        | false => rfl
                        | true =>
                          have h6 : (!withinB m 1 (10 ^ 30)) = true := h7
                          rw [z] at h6; cases h6
                      show (if (decide (i < 12) && (withinB (.int sv) (b + 1) (10 ^ 30) && withinB m 1 (10 ^ 30))) = true then some sv else none) = _
                      rw [w2, Bool.and_false, Bool.and_false, if_neg (by decide)]
                    · rename_i h7
                      have w2 : withinB m 1 (10 ^ 30) = true := by
                        cases z : withinB m 1 (10 ^ 30) with
                        | true => rfl
                        | false =>
                          have h6 : (!withinB m 1 (10 ^ 30)) = false := h7
                          rw [z] at h6; cases h6
                      conv => whnf
                      refine hR _ _ _ _ ⟨rfl, i + 1, rest, sv, _, _, rfl, fun e he => kr e (List.mem_cons_of_mem _ he), go sv ?_, rfl⟩ (SubS.refl _) (Sub.refl _)
                      show (if (decide (i < 12) && (withinB (.int sv) (b + 1) (10 ^ 30) && withinB m 1 (10 ^ 30))) = true then some sv else none) = _
                      rw [w1, w2, decide_eq_true i12]; rfl
          · have on : wkOne i b e = none := by
              unfold wkOne
              split
              · exact absurd rfl (hne _)
              · rfl
            rcases not_tup ke1 hne with ⟨t, e1, e2⟩ | ⟨C, e1, e2⟩
            · conv => whnf
              rw [e1]
              conv => whnf
              rw [e2]
              exact out on
            · conv => whnf
              rw [e1]
              exact ⟨e2, out on⟩
  · have q3 : (fnEnds Q).rt (.tup [.non]) M := by
      unfold wkD at q
      split at q
      · exact q
      · exact absurd rfl (ht _)
      · exact q
    rcases not_tup k0 ht with ⟨t, e1, e2⟩ | ⟨C, e1, e2⟩
    · conv => whnf
      rw [e1]
      conv => whnf
      rw [e2]
      exact q3
    · conv => whnf
      rw [e1]
      exact ⟨e2, q3⟩

/-- heaps, as an object that changes no more -/
def hpD (c : CT) (k : D) : D := .obj c.Heaps ["rows"] [k]
theorem look_self {f : Str} {ns : List Str} {d : D} {ds : List D} : look f (f :: ns) (d :: ds) = some d := if_pos rfl
def sp_Heaps___init__ (c : CT) : DSp := sp2 fun s k M Q E => ∃ x, s = .ref x ∧ M x = some (.ins c.Heaps [] []) ∧ knownK c k M ∧ (wkD k = .tup [] → Q .non (up M x (.ins c.Heaps ["rows"] [k]))) ∧ ∀ i, wkD k = .tup [i] → E c.InvalidKinds ["index"] [i] M
/-- Heaps.__init__: 0 self, 1 kinds, 2 wrong -/
def N_Heaps___init__ : List Str := ["self", "kinds", "wrong"]
def t_Heaps___init__ (c : CT) (W : DWX) : DTS :=
  dSeq (dAsg (dOwn [0] [] (sp_wrong_kind c) W [dVar 1] []) (dgName 2))
  (dSeq (dIfS (dTst (dOp (rEqDD true) (dVar 2) (dTup []))) (dRaise c.InvalidKinds "index" W (dOp rIxD (dVar 2) (dC (.int 0)))) (dNext))
  (sFldD (fun C => C = c.Heaps) "rows" (dVar 0) (dVar 1)))
theorem len_Heaps___init__ (c : CT) : ∀ ds M Q E, sp_Heaps___init__ c ds M Q E → ds.length = ["self", "kinds"].length := sp2_len
theorem wkD_form (a : D) : wkD a = .tup [] ∨ (∃ i : Nat, wkD a = .tup [.int i]) ∨ wkD a = .tup [.non] := by
  unfold wkD
  split
  · exact .inr (.inr rfl)
  · split
    · exact .inr (.inl ⟨_, rfl⟩)
    · exact .inl rfl
  · exact .inr (.inr rfl)
theorem pure_Heaps___init__ (c : CT) : ∀ ds M Q E, sp_Heaps___init__ c ds M Q E → t_Heaps___init__ c (fnW E) (fnEnds Q) (startD N_Heaps___init__ ds) M := sp2_of fun s k M Q E h => by
  obtain ⟨x, rfl, ex, kk, q, qe⟩ := h
  show t_Heaps___init__ c (fnW E) (fnEnds Q) [some (.ref x), some k, none] M
  conv => whnf
  refine ⟨kk, ?_⟩
  rcases wkD_form k with ew | ⟨i, ew⟩ | ew
  · rw [ew]
    conv => whnf
    refine ⟨rfl, rfl, ?_⟩
    conv => whnf
    rw [ex]
    conv => whnf
    exact ⟨rfl, by decide, ⟨_, Sub.refl _, q ew⟩⟩
  · rw [ew]
    conv => whnf
    refine ⟨rfl, rfl, ?_⟩
    conv => whnf
    exact ⟨_, Sub.refl _, qe _ ew⟩
  · rw [ew]
    conv => whnf
    refine ⟨rfl, rfl, ?_⟩
    conv => whnf
    exact ⟨_, Sub.refl _, qe _ ew⟩

def sp_Heaps_kinds (c : CT) : DSp := sp1 fun s M Q _ => ∃ k, s = hpD c k ∧ Q k M
/-- Heaps.kinds: 0 self -/
def N_Heaps_kinds : List Str := ["self"]
def t_Heaps_kinds (c : CT) (W : DWX) : DTS :=
  dRet (dFld (fun C => C = c.Heaps) "rows" (dVar 0))
theorem len_Heaps_kinds (c : CT) : ∀ ds M Q E, sp_Heaps_kinds c ds M Q E → ds.length = ["self"].length := sp1_len
theorem pure_Heaps_kinds (c : CT) : ∀ ds M Q E, sp_Heaps_kinds c ds M Q E → t_Heaps_kinds c (fnW E) (fnEnds Q) (startD N_Heaps_kinds ds) M := sp1_of fun s M Q E h => by
  obtain ⟨k, rfl, q⟩ := h
  exact ⟨rfl, wth_some look_self (fn_rt q)⟩

def sp__law_pot (c : CT) : DSp := sp2 fun s t M Q _ => ∃ ns k, s = .scr ns ∧ t = .int k ∧ 0 ≤ k ∧ k ≤ 100 ∧ ns.length ≤ 63 ∧ ∀ p x y, M p = none → PotI x y 0 → Q (.ref p) (up M p (.lst [.int x, .int y, .int 0]))
/-- _law_pot: 0 _law_script, 1 _law_turn, 2 _law_figure, 3 _law_seed, 4 _law_each -/
def N__law_pot : List Str := ["_law_script", "_law_turn", "_law_figure", "_law_seed", "_law_each"]
def t__law_pot (c : CT) (W : DWX) : DTS :=
  dSeq (dAsg (dIf (dTst (dOp rLtD (dVar 1) (dCB rLen0D [dVar 0]))) (dOp rIxD (dVar 0) (dVar 1)) (dOp (rAddD false) (dOp (rMulD false) (dC (.int 37)) (dVar 1)) (dC (.int 4)))) (dgName 2))
  (dSeq (dAsg (dOp (rAddD false) (dC (.int 141650939)) (dOp (rMulD false) (dC (.int 39019)) (dVar 1))) (dgName 3))
  (dSeq (dFor (diSeq (dOp (rAddD false) (dLst false [dVar 2]) (dSl false (dVar 0) (dNoPart) (dPart (dC (.int 6)))))) (dgName 4)
  (dAsg (dOp rModD (dCB rIntD [dOp (rAddD false) (dOp (rMulD false) (dVar 3) (dC (.int 49069))) (dVar 4)]) (dC (.int 2147483423))) (dgName 3)))
  (dRet (dLst true [dIf (dTst (dOp rGeD (dCB rAbsD [dVar 2]) (dOp rPowD (dC (.int 10)) (dC (.int 18))))) (dCB rAbsD [dVar 2]) (dC (.int 0)), dVar 3, dC (.int 0)]))))
theorem len__law_pot (c : CT) : ∀ ds M Q E, sp__law_pot c ds M Q E → ds.length = ["_law_script", "_law_turn"].length := sp2_len
theorem pure__law_pot (c : CT) : ∀ ds M Q E, sp__law_pot c ds M Q E → t__law_pot c (fnW E) (fnEnds Q) (startD N__law_pot ds) M := sp2_of fun s t M Q E ⟨ns, k, e1, e2, k0, k1, nl, q⟩ => by
  subst e1 e2
  have fig : ∀ (i : Int), (dSeq (dAsg (dOp (rAddD false) (dC (.int 141650939)) (dOp (rMulD false) (dC (.int 39019)) (dVar 1))) (dgName 3))
  (dSeq (dFor (diSeq (dOp (rAddD false) (dLst false [dVar 2]) (dSl false (dVar 0) (dNoPart) (dPart (dC (.int 6)))))) (dgName 4)
  (dAsg (dOp rModD (dCB rIntD [dOp (rAddD false) (dOp (rMulD false) (dVar 3) (dC (.int 49069))) (dVar 4)]) (dC (.int 2147483423))) (dgName 3)))
  (dRet (dLst true [dIf (dTst (dOp rGeD (dCB rAbsD [dVar 2]) (dOp rPowD (dC (.int 10)) (dC (.int 18))))) (dCB rAbsD [dVar 2]) (dC (.int 0)), dVar 3, dC (.int 0)])))) (fnEnds Q) [some (.scr ns), some (.int k), some (.int i), none, none] M := fun i => by
    conv => whnf
    refine ⟨mulW (by decide) (by omega), ?_⟩
    conv => whnf
    refine ⟨line_1000 ?_, ?_⟩
    · show 1 + (cutD (ns.map D.int) none (some 6)).length ≤ 1000
      have := cut_len (ds := ns.map D.int) (lo := none) (hi := some 6)
      rw [List.length_map] at this
      omega
    show forR _ _ _ _ ([D.int i] ++ cutD (ns.map D.int) none (some 6)) _ _
    refine forR_inv (fun xs τ M' => M' = M ∧ (∀ x ∈ xs, ∃ j, x = D.int j) ∧ ∃ y z, 0 ≤ y ∧ y < 2147483648 ∧ τ = [some (.scr ns), some (.int k), some (.int i), some (.int y), z]) ?_ ?_ _ _ _ ⟨rfl, ?_, _, none, ?_, ?_, rfl⟩
    · rintro τ M' ⟨rfl, _, y, z, y0, y1, rfl⟩
      refine ⟨trivial, ?_⟩
      conv => whnf
      refine ⟨by unfold CPow; decide, ?_⟩
      conv => whnf
      split
      · conv => whnf
        exact fun p np => ⟨_, Sub.refl _, q p _ _ np ⟨(by split <;> omega : (0 : Int) ≤ if i < 0 then -i else i), y0, y1, Int.le_refl 0⟩⟩
      · conv => whnf
        exact fun p np => ⟨_, Sub.refl _, q p _ _ np ⟨Int.le_refl 0, y0, y1, Int.le_refl 0⟩⟩
    · rintro x xs τ M' R ⟨rfl, hx, y, z, y0, y1, rfl⟩ hR
      obtain ⟨j, rfl⟩ := hx x List.mem_cons_self
      refine ⟨trivial, ?_⟩
      conv => whnf
      refine ⟨mulW (by omega) (by decide), ?_⟩
      conv => whnf
      refine ⟨(by decide : (0 : Int) < 2147483423), ?_⟩
      conv => whnf
      exact hR _ _ _ _ ⟨rfl, fun x hx' => hx x (List.mem_cons_of_mem _ hx'), _, _, Int.emod_nonneg _ (by decide), Int.lt_trans (Int.emod_lt_of_pos _ (by decide)) (by decide), rfl⟩ (SubS.refl _) (Sub.refl _)
    · intro x hx
      rcases List.mem_append.mp hx with h | h
      · exact ⟨i, List.mem_singleton.mp h⟩
      · obtain ⟨j, _, rfl⟩ := List.mem_map.mp (cut_mem h)
        exact ⟨j, rfl⟩
    · show (0 : Int) ≤ 141650939 + 39019 * k
      omega
    · show (141650939 + 39019 * k : Int) < 2147483648
      omega
  show t__law_pot c (fnW E) (fnEnds Q) [some (.scr ns), some (.int k), none, none, none] M
  conv => whnf
  split
  · rename_i h
    have h1 : k < (ns.length : Nat) := of_decide_eq_true h
    obtain ⟨i, e⟩ := at_int k0 h1
    conv => whnf
    rw [e]
    exact fig i
  · conv => whnf
    refine ⟨mulW (by decide) (by omega), ?_⟩
    exact fig _

def sp__law_scoop (c : CT) : DSp := sp2 fun p w M Q _ => ∃ a x y z k, p = .ref a ∧ w = .int k ∧ 0 < k ∧ k ≤ 10 ^ 30 ∧ M a = some (.lst [.int x, .int y, .int z]) ∧ PotI x y z ∧ z ≤ 10 ^ 9 ∧
  ∀ d x' y' z', 0 ≤ d → d < k → PotI x' y' z' → z' ≤ z + 1 → Q (.int d) (up M a (.lst [.int x', .int y', .int z']))
/-- _law_scoop: 0 _law_pot_here, 1 _law_many_ways, 2 _law_digit -/
def N__law_scoop : List Str := ["_law_pot_here", "_law_many_ways", "_law_digit"]
def t__law_scoop (c : CT) (W : DWX) : DTS :=
  dSeq (dIfS (dTst (dOp rGtD (dOp rIxD (dVar 0) (dC (.int 0))) (dC (.int 0)))) (dSeq (dAsg (dCB rDivmodD [dOp rIxD (dVar 0) (dC (.int 0)), dVar 1]) (dgTupN 2 [dgSub (dVar 0) (dC (.int 0)), dgName 2]))
  (dRet (dVar 2))) (dNext))
  (dSeq (dAsg (dOp (rAddD false) (dOp rIxD (dVar 0) (dC (.int 2))) (dC (.int 1))) (dgSub (dVar 0) (dC (.int 2))))
  (dSeq (dAsg (dOp rModD (dCB rIntD [dOp (rAddD false) (dOp (rMulD false) (dOp rIxD (dVar 0) (dC (.int 1))) (dC (.int 44017))) (dOp (rMulD false) (dC (.int 24007)) (dOp rIxD (dVar 0) (dC (.int 2))))]) (dC (.int 2147483423))) (dgSub (dVar 0) (dC (.int 1))))
  (dRet (dOp rModD (dCB rIntD [dOp rDivD (dOp rIxD (dVar 0) (dC (.int 1))) (dC (.int 1024))]) (dVar 1)))))
theorem len__law_scoop (c : CT) : ∀ ds M Q E, sp__law_scoop c ds M Q E → ds.length = ["_law_pot_here", "_law_many_ways"].length := sp2_len
theorem pure__law_scoop (c : CT) : ∀ ds M Q E, sp__law_scoop c ds M Q E → t__law_scoop c (fnW E) (fnEnds Q) (startD N__law_scoop ds) M := sp2_of fun p w M Q E ⟨a, x, y, z, k, e1, e2, k0, k1, em, P, zb, q⟩ => by
  subst e1 e2
  show t__law_scoop c (fnW E) (fnEnds Q) [some (.ref a), some (.int k), none] M
  obtain ⟨P1, P2, P3, P4⟩ := P
  have dv : CDivP x k := ⟨k0, by
    unfold Builtin.divisionGoesByPylong
    have h1 : k.natAbs.log2 ≤ 100 := lg_le (Nat.lt_of_le_of_lt (by omega : k.natAbs ≤ 10 ^ 30) (by decide))
    have h2 : (if (k == 0) = true then 0 else k.natAbs.log2 / 30 + 1) ≤ 300 := by split <;> omega
    simp only [Bool.and_eq_false_iff, decide_eq_false_iff_not]
    exact .inl (by omega)⟩
  conv => whnf
  rw [seq_ref em]
  conv => whnf
  split
  · rename_i h
    have hx : 0 < x := of_decide_eq_true h
    conv => whnf
    rw [seq_ref em]
    conv => whnf
    refine ⟨dv, ?_⟩
    conv => whnf
    refine ⟨rfl, ?_⟩
    conv => whnf
    rw [em]
    conv => whnf
    exact ⟨_, Sub.refl _, q _ _ _ _ (Int.emod_nonneg _ (by omega)) (Int.emod_lt_of_pos _ k0) ⟨Int.ediv_nonneg P1 (by omega), P2, P3, P4⟩ (by omega)⟩
  · conv => whnf
    rw [seq_ref em]
    conv => whnf
    rw [em]
    conv => whnf
    rw [seq_ref up_same]
    conv => whnf
    refine ⟨mulW (by omega) (by decide), ?_⟩
    conv => whnf
    rw [seq_ref up_same]
    conv => whnf
    refine ⟨mulW (by decide) (by omega), ?_⟩
    conv => whnf
    refine ⟨(by decide : (0 : Int) < 2147483423), ?_⟩
    conv => whnf
    rw [up_same]
    conv => whnf
    rw [up_up, seq_ref up_same]
    conv => whnf
    refine ⟨⟨by decide, by decide⟩, ?_⟩
    conv => whnf
    refine ⟨k0, ?_⟩
    conv => whnf
    exact ⟨_, Sub.refl _, q _ _ _ _ (Int.emod_nonneg _ (by omega)) (Int.emod_lt_of_pos _ k0) ⟨P1, Int.emod_nonneg _ (by decide), Int.lt_trans (Int.emod_lt_of_pos _ (by decide)) (by decide), by omega⟩ (Int.le_refl _)⟩

def sp__law_few (c : CT) : DSp := sp3 fun p w t M Q _ => ∃ a x y z k h, p = .ref a ∧ w = .int k ∧ t = .int h ∧ 0 < k ∧ k ≤ 12 ∧ 0 < h ∧ h ≤ 10 ^ 29 ∧ M a = some (.lst [.int x, .int y, .int z]) ∧ PotI x y z ∧ z ≤ 10 ^ 8 ∧
  ∀ kz x' y' z', Drawn kz → (∀ p ∈ kz, p.2 ≤ h) → PotI x' y' z' → z' ≤ z + 40 → Q (kD kz) (up M a (.lst [.int x', .int y', .int z']))
/-- _law_few: 0 _law_pot_here, 1 _law_high, 2 _law_top, 3 _law_found, 4 _law_size_here, 5 _law_turn -/
def N__law_few : List Str := ["_law_pot_here", "_law_high", "_law_top", "_law_found", "_law_size_here", "_law_turn"]
def t__law_few (c : CT) (W : DWX) : DTS :=
  dSeq (dPar 3 4 (dLst true []) (dC (.int 0)))
  (dSeq (dFor (diRng1 (dOp (rAddD false) (dC (.int 1)) (dOwn [0, 1] [] (sp__law_scoop c) noW [dVar 0, dVar 1] []))) (dgName 5)
  (dSeq (dAsg (dOp (rAddD false) (dOp (rAddD false) (dVar 4) (dC (.int 1))) (dOwn [0, 1] [] (sp__law_scoop c) noW [dVar 0, dC (.int 4)] [])) (dgName 4))
  (dDrop (dApp (dVar 3) (dTup [dVar 4, dOp (rAddD false) (dC (.int 1)) (dOwn [0, 1] [] (sp__law_scoop c) noW [dVar 0, dVar 2] [])])))))
  (dRet (dCB rTupleD [dVar 3])))
theorem len__law_few (c : CT) : ∀ ds M Q E, sp__law_few c ds M Q E → ds.length = ["_law_pot_here", "_law_high", "_law_top"].length := sp3_len
theorem pure__law_few (c : CT) : ∀ ds M Q E, sp__law_few c ds M Q E → t__law_few c (fnW E) (fnEnds Q) (startD N__law_few ds) M := sp3_of fun p w t M Q E h => by
  obtain ⟨a, x, y, z, k, h, rfl, rfl, rfl, k0, k1, h0, h1, em, P, zb, q⟩ := h
  show t__law_few c (fnW E) (fnEnds Q) [some (.ref a), some (.int k), some (.int h), none, none, none] M
  conv => whnf
  intro f nf
  have ne : a ≠ f := ne_up em nf
  conv => whnf
  refine ⟨a, _, _, _, _, rfl, rfl, k0, by omega, (up_ne ne).trans em, P, by omega, fun d x1 y1 z1 d0 d1 P1 b1 => ?_⟩
  have sw : ∀ o u v, up (up (up M a o) f u) a v = up (up M a v) f u := fun _ _ _ => up_swap ne
  rw [show up (up M f (.lst [])) a (.lst [.int x1, .int y1, .int z1]) = up (up M a (.lst [.int x1, .int y1, .int z1])) f (.lst []) by
    have := sw (.lst [.int x, .int y, .int z]) (.lst []) (.lst [.int x1, .int y1, .int z1])
    rw [up_self em] at this
    exact this]
  conv => whnf
  refine ⟨by omega, by omega, ?_⟩
  refine for_nums (fun i τ M' => ∃ kz x y z sz o5, kz.length = i ∧ KsOk (10 ^ 29 * 2) 0 kz ∧ (∀ p ∈ kz, p.2 ≤ h) ∧ sz = lastS 0 kz ∧ sz ≤ i * 4 ∧ PotI x y z ∧ z ≤ z1 + 3 * i ∧
    M' = up (up M a (.lst [.int x, .int y, .int z])) f (.lst (kz.map pairD)) ∧ τ = [some (.ref a), some (.int k), some (.int h), some (.ref f), some (.int sz), o5]) ?_ ?_ ⟨[], x1, y1, z1, 0, none, rfl, trivial, (fun p hp => by cases hp), rfl, by omega, P1, by omega, rfl, rfl⟩
  · rintro τ M' ⟨kz, x, y, z, sz, o5, kl, ks, kh, es, sb, P', zb', rfl, rfl⟩
    conv => whnf
    rw [seq_ref up_same]
    conv => whnf
    refine ⟨_, sub_up ((up_ne (Ne.symm ne)).trans nf), q kz _ _ _ ⟨?_, by omega, ks⟩ kh P' (by omega)⟩
    intro e
    rw [e] at kl
    simp at kl
    omega
  · rintro i τ M' R hi ⟨kz, x, y, z, sz, o5, kl, ks, kh, es, sb, P', zb', rfl, rfl⟩ hR
    have i12 : i < 12 := by omega
    conv => whnf
    refine ⟨a, _, _, _, _, rfl, rfl, by decide, by decide, up_at ne, P', by omega, fun d x2 y2 z2 d0 d1 P2 b2 => ?_⟩
    rw [sw]
    conv => whnf
    refine ⟨⟨f, _, rfl, up_same⟩, ?_⟩
    conv => whnf
    refine ⟨a, _, _, _, _, rfl, rfl, h0, by omega, up_at ne, P2, by omega, fun d3 x4 y4 z4 d30 d31 P4 b4 => ?_⟩
    rw [sw]
    conv => whnf
    rw [up_same]
    conv => whnf
    refine ⟨by rw [List.length_map]; exact Nat.lt_of_lt_of_le (by omega : kz.length < 1000) (by decide), ?_⟩
    refine hR _ _ _ _ ⟨kz ++ [(sz + 1 + d, 1 + d3)], x4, y4, z4, sz + 1 + d, _, by rw [List.length_append, kl]; rfl, ks.snoc (by rw [← es]; show sz < sz + 1 + d; omega) ?_ (by show 1 ≤ 1 + d3; omega) (by show 1 + d3 ≤ 10 ^ 30; omega), (fun p hp => (List.mem_append.mp hp).elim (kh p) fun hp => by rw [List.mem_singleton.mp hp]; show 1 + d3 ≤ h; omega), (lastS_snoc (p := (sz + 1 + d, 1 + d3)) (b := 0) (kz := kz)).symm, ?_, P4, ?_, ?_, rfl⟩ (SubS.refl _) (Sub.refl _)
    · show sz + 1 + d ≤ 10 ^ 29 * 2
      omega
    · show sz + 1 + d ≤ ((i + 1 : Nat) : Int) * 4
      omega
    · show z4 ≤ z1 + 3 * ((i + 1 : Nat) : Int)
      omega
    · rw [up_up, List.map_append] <;> rfl

/-- the lambda 0 of the text, in _law_right: 0 _law_thing -/
def tb_lam0 (c : CT) (W : DWX) : DTE := dPr (tab1 c.Heaps (sp_Heaps_kinds c)) (dMk true c.Heaps [0, 1] [] (sp_Heaps___init__ c) W [dVar 0] [])
/-- the lambda 1 of the text, in _law_right: 0 _law_thing -/
def tb_lam1 (c : CT) (W : DWX) : DTE := dPr (tab1 c.Heaps (sp_Heaps_kinds c)) (dMk true c.Heaps [0, 1] [] (sp_Heaps___init__ c) W [] [dVar 0])
def lams (c : CT) : List LamI := [⟨c.lamd 0, 1, tb_lam0 c⟩, ⟨c.lamd 1, 1, tb_lam1 c⟩]
def hs__law_ended (c : CT) : List (Addr → List Str → List D → DTS) := [fun a ns ds => dSeq (dAsg (dLst false [dLst false [dIsX true (dVar 2) a, dC (.str "kinds")], dLst false [dIsX false (dVar 2) a, dC (.str "text")]]) (dgName 3))
  (dSeq (dAsg (dOp (rAddD false) (dVar 3) (dLst false [dLst false [dIsX false (dVar 2) a, dC (.str "heaps")], dLst false [dIsX false (dVar 2) a, dC (.str "number")]])) (dgName 3))
  (dSeq (dAsg (dOp (rAddD false) (dVar 3) (dLst false [dLst false [dIsX false (dVar 2) a, dC (.str "table")], dLst false [dIsX false (dVar 2) a, dC (.str "row")]])) (dgName 3))
  (dSeq (dAsg (dJoin (dC (.str "")) (dLc false (diLs (dOp (rAddD false) (dVar 3) (dLst false [dLst false [dIsX false (dVar 2) a, dC (.str "plan")]]))) (dgName 7) (dTru (dOp rIxD (dVar 7) (dC (.int 0)))) (dOp rIxD (dVar 7) (dC (.int 1))) [7])) (dgName 4))
  (dSeq (dPar 5 6 (dOp (rEqDD false) (dVar 4) (dC (.str "plan"))) (dLst false [dIsX true (dVar 2) a, dIsX false (dVar 2) a, dIsX false (dVar 2) a]))
  (dSeq (dIfS (dTst (dOp (rEqDD true) (dVar 6) (dLst false [dNotV (dVar 5), dC (.bl false), dVar 5]))) (dRet (dLst false [dC (.str "odd"), dC (.str "")])) (dNext))
  (dSeq (dIfS (dTru (dVar 5)) (dRet (dLst false [dC (.str "plan"), dC (.str "")])) (dNext))
  (dRet (dLst false [dVar 4, dIf (dTst (dOp (rInD false) (dVar 4) (dLst false [dC (.str "kinds"), dC (.str "table"), dC (.str "row")]))) (dCB rReprD [dXf a ns ds "index" (dVar 2)]) (dCB rReprD [dXf a ns ds "given" (dVar 2)])]))))))))]
/-- _law_ended: 0 _law_act, 1 _law_came, 2 e, 3 _law_names, 4 _law_word, 5 _law_is_plan, 6 _law_bases, 7 _law_pair -/
def N__law_ended : List Str := ["_law_act", "_law_came", "e", "_law_names", "_law_word", "_law_is_plan", "_law_bases", "_law_pair"]
def t__law_ended (c : CT) (W : DWX) : DTS :=
  dSeq (dTryOne [c.InvalidKinds] 2 (tPick (hs__law_ended c)) (fun W => dAsg (dActV (lams c) 0 W) (dgName 1)))
  (dRet (dLst false [dC (.str "told"), dCB rReprD [dVar 1]]))
/-- what follows a call of a lambda that told x -/
def endK (Q : DVK) (f : Addr) (kd : Addr → Option D) : DVK := fun x M' => dRet (dLst false [dC (.str "told"), dCB rReprD [dVar 1]]) (fnEnds Q) [some (.ref f), some x, none, none, none, none, none, none] (putM kd M')
def endX (c : CT) (Q : DVK) (f : Addr) (kd : Addr → Option D) : DXK := fun C ns es M' => wOne [c.InvalidKinds] 2 (tPick (hs__law_ended c)) { fnEnds Q with nx := dRet (dLst false [dC (.str "told"), dCB rReprD [dVar 1]]) (fnEnds Q) } C ns es [some (.ref f), none, none, none, none, none, none, none] (putM kd M')
def sp__law_ended (c : CT) : DSp := sp1 fun p M Q _ => ∃ f l ds kd, p = .ref f ∧ LamAt (lams c) M f l ds kd ∧ l.tb (fnW (endX c Q f kd)) (ds.map some) (delM kd M) (endK Q f kd)
theorem endK_told {Q : DVK} {f : Addr} {kd : Addr → Option D} {x : D} {s : Str} {M' : DHp} (r : RepOk x s) (q : Q (.lst [.str "told", .str s]) (putM kd M')) : endK Q f kd x M' := by
  have := r.eq (putM kd M')
  subst this
  exact ⟨r.run _, fn_rt q⟩
theorem endX_kinds {c : CT} {Q : DVK} {f : Addr} {kd : Addr → Option D} {x : D} {s : Str} {M' : DHp} (r : RepOk x s) (q : Q (.lst [.str "kinds", .str s]) (putM kd M')) : endX c Q f kd c.InvalidKinds ["index"] [x] M' := by
  refine ⟨0, rfl, fun a => ?_⟩
  generalize putM kd M' = M1 at q ⊢
  conv => whnf
  iterate 4 (refine ⟨rfl, ?_⟩; conv => whnf)
  refine ⟨Nat.le_of_ble_eq_true rfl, ?_⟩
  conv => whnf
  iterate 2 (refine ⟨rfl, ?_⟩; conv => whnf)
  refine ⟨Nat.le_of_ble_eq_true rfl, ?_⟩
  conv => whnf
  refine ⟨rfl, ?_⟩
  conv => whnf
  refine ⟨Nat.le_of_ble_eq_true rfl, ?_⟩
  conv => whnf
  refine ⟨_, rfl, by decide, ?_⟩
  intro p np
  conv => whnf
  refine ⟨trivial, ?_⟩
  conv => whnf
  iterate 7 ((refine ⟨M1, Sub.refl _, np, ?_⟩); (conv => whnf); (refine ⟨trivial, ?_⟩); (conv => whnf))
  refine ⟨Nat.le_of_ble_eq_true rfl, ?_⟩
  rw [show Txt.join (Str.ofString "") [Str.ofString "kinds"] = Str.ofString "kinds" from by decide +kernel]
  conv => whnf
  iterate 3 (refine ⟨rfl, ?_⟩; conv => whnf)
  refine ⟨rfl, rfl, ?_⟩
  conv => whnf
  refine ⟨rfl, rfl, ?_⟩
  conv => whnf
  refine ⟨rfl, ?_⟩
  conv => whnf
  have := r.eq M1
  subst this
  exact ⟨r.run _, fn_rt q⟩
theorem len__law_ended (c : CT) : ∀ ds M Q E, sp__law_ended c ds M Q E → ds.length = ["_law_act"].length := sp1_len
theorem pure__law_ended (c : CT) : ∀ ds M Q E, sp__law_ended c ds M Q E → t__law_ended c (fnW E) (fnEnds Q) (startD N__law_ended ds) M := sp1_of fun p M Q E h => by
  obtain ⟨f, l, ds, kd, rfl, la, t⟩ := h
  show dActV (lams c) 0 _ [some (.ref f), none, none, none, none, none, none, none] M _
  exact la.run rfl t

/-- a call's end as the law tells it -/
def endD (w s : Str) : D := .lst [.str w, .str s]
def sp__law_is_ended (c : CT) : DSp := sp2 fun a d M Q _ => ∃ (p : Addr) (fs : List Addr) (w s : Str), a = .ref p ∧ M p = some (.lst (fs.map D.ref)) ∧ fs.length ≤ 100 ∧ d = endD w s ∧ (∀ f ∈ fs, ∀ M1, Sub M M1 → ∀ R : DVK, R (endD w s) M1 → sp__law_ended c [.ref f] M1 R noX) ∧ Q (.bl true) M
/-- _law_is_ended: 0 _law_acts, 1 _law_due, 2 _law_act -/
def N__law_is_ended : List Str := ["_law_acts", "_law_due", "_law_act"]
def t__law_is_ended (c : CT) (W : DWX) : DTS :=
  dRet (dOp rEqPD (dLc false (diSeq (dVar 0)) (dgName 2) dYes (dOwn [0] [] (sp__law_ended c) noW [dVar 2] []) [2]) (dOp (rMulD false) (dLst false [dVar 1]) (dCB rLen0D [dVar 0])))
theorem len__law_is_ended (c : CT) : ∀ ds M Q E, sp__law_is_ended c ds M Q E → ds.length = ["_law_acts", "_law_due"].length := sp2_len
theorem pyL_rep (d : D) : ∀ n : Nat, pyL (List.replicate n d) = List.replicate n (py d)
  | 0 => rfl
  | n + 1 => by
    show py d :: pyL (List.replicate n d) = _
    rw [pyL_rep d n] <;> rfl
theorem plain_rep {d : PyData} (h : d.plain = true) : ∀ n : Nat, PyData.plainAll (List.replicate n d) = true
  | 0 => rfl
  | n + 1 => by
    show (PyData.plain d && PyData.plainAll (List.replicate n d)) = true
    rw [h, plain_rep h n] <;> rfl
theorem dep_rep (d : PyData) : ∀ n : Nat, PyData.depthAll (List.replicate n d) ≤ d.depth
  | 0 => Nat.zero_le _
  | n + 1 => Nat.max_le.mpr ⟨Nat.le_refl _, dep_rep d n⟩
theorem ends_plain (w s : Str) (n : Nat) : (py (.lst (List.replicate n (endD w s)))).plain = true ∧ (py (.lst (List.replicate n (endD w s)))).depth ≤ 60 := by
  have e : py (.lst (List.replicate n (endD w s))) = .list (List.replicate n (py (endD w s))) := congrArg PyData.list (pyL_rep _ n)
  rw [e]
  refine ⟨plain_rep (d := py (endD w s)) rfl n, ?_⟩
  have := dep_rep (py (endD w s)) n
  have e2 : (py (endD w s)).depth = 1 := rfl
  show PyData.depthAll (List.replicate n (py (endD w s))) + 1 ≤ 60
  omega
theorem flat_rep {α : Type} (d : α) : ∀ n : Nat, (List.replicate n [d]).flatten = List.replicate n d
  | 0 => rfl
  | n + 1 => by rw [List.replicate_succ, List.flatten_cons, flat_rep d n]; rfl
theorem pure__law_is_ended (c : CT) : ∀ ds M Q E, sp__law_is_ended c ds M Q E → t__law_is_ended c (fnW E) (fnEnds Q) (startD N__law_is_ended ds) M := sp2_of fun a d M Q E h => by
  obtain ⟨p, fs, w, s, rfl, ep, fl, rfl, run, q⟩ := h
  show t__law_is_ended c (fnW E) (fnEnds Q) [some (.ref p), some (endD w s), none] M
  conv => whnf
  rw [seq_ref ep]
  conv => whnf
  intro p' np
  refine lcR_map (f := fun _ => endD w s) (fun acc => ?_) np ?_ ?_
  · exact (up_ne (ne_up ep np)).trans ep
  · intro x hx acc R r
    obtain ⟨f, hf, rfl⟩ := List.mem_map.mp hx
    exact run f hf _ (sub_up np) R r
  · have e1 : [] ++ (fs.map D.ref).map (fun _ => endD w s) = List.replicate fs.length (endD w s) := by
      rw [List.nil_append, List.map_map]
      exact List.map_const'
    rw [e1]
    conv => whnf
    rw [len_ref ep]
    conv => whnf
    rw [List.length_map]
    refine ⟨by omega, by omega, ?_, ?_⟩
    · rw [sizeLine_eq]
      show 1 * fs.length ≤ _
      omega
    · have z := ends_plain w s fs.length
      have e3 : (List.replicate ((fs.length : Nat) : Int).toNat [endD w s]).flatten = List.replicate fs.length (endD w s) := flat_rep _ _
      rw [e3]
      conv => whnf
      refine ⟨z.1, z.1, z.2, ?_⟩
      rw [SeqAt.eqv_refl_plain _ z.1]
      exact fn_rt q

def sp__law_is_figure (c : CT) : DSp := sp2 fun a l M Q _ => ∃ i, l = .int i ∧ known c a M ∧ Q (.bl (withinB a i (10 ^ 30))) M
/-- _law_is_figure: 0 _law_thing, 1 _law_least_here -/
def N__law_is_figure : List Str := ["_law_thing", "_law_least_here"]
def t__law_is_figure (c : CT) (W : DWX) : DTS :=
  dRet (dAndV (dIsi .int (kno c) (dVar 0)) (dAndV (dNotV (dIsi .bl (kno c) (dVar 0))) (dChain rLeD rLeD (dVar 1) (dVar 0) (dOp rPowD (dC (.int 10)) (dC (.int 30))))))
theorem len__law_is_figure (c : CT) : ∀ ds M Q E, sp__law_is_figure c ds M Q E → ds.length = ["_law_thing", "_law_least_here"].length := sp2_len
theorem pure__law_is_figure (c : CT) : ∀ ds M Q E, sp__law_is_figure c ds M Q E → t__law_is_figure c (fnW E) (fnEnds Q) (startD N__law_is_figure ds) M := sp2_of fun a l M Q E ⟨i, e1, k, q⟩ => by
  subst e1
  show t__law_is_figure c (fnW E) (fnEnds Q) [some a, some (.int i)] M
  have q' := fn_rt q
  unfold withinB at q'
  cases a with
  | int v =>
    have q' : (fnEnds Q).rt (.bl (decide (i ≤ v) && decide (v ≤ 10 ^ 30))) M := q'
    conv => whnf
    rw [show (fun i j : Int => decide (i ≤ j)) i v = decide (i ≤ v) from rfl]
    cases h : decide (i ≤ v) with
    | true =>
      rw [h, Bool.true_and] at q'
      conv => whnf
      refine ⟨by unfold CPow; decide, ?_⟩
      exact q'
    | false =>
      rw [h, Bool.false_and] at q'
      exact q'
  | ref p =>
    unfold known at k
    cases e : M p with
    | none => simp only [tyD, e] at k
    | some o => cases o <;> simp only [tyD, e, t__law_is_figure, dRet, dAndV, dIsi, dVar, sl, wth, dNotV] at k ⊢ <;> first | exact q' | exact ⟨k, q'⟩
  | obj C ns ds => exact ⟨k, q'⟩
  | ty n => exact k.elim
  | tpl ds => exact k.elim
  | _ => exact q'

/-- what InvalidKinds keeps for a value, -1 if it is right -/
def wrD (a : D) : D := match wkD a with
  | .tup [d] => d
  | _ => .int (-1)
def goD (r : Option Nat) : D := match r with
  | some i => .int (i : Nat)
  | none => .int (-1)
theorem wrD_cons {e0 : D} {er : List D} : wrD (.tup (e0 :: er)) = goD (wkGo 0 0 (e0 :: er)) := by
  show (match (match wkGo 0 0 (e0 :: er) with | some i => D.tup [.int (i : Nat)] | none => .tup []) with | .tup [d] => d | _ => .int (-1)) = _
  cases wkGo 0 0 (e0 :: er) <;> rfl
def sp__law_wrong (c : CT) : DSp := sp1 fun a M Q _ => knownK c a M ∧ (∀ es, a = .tup es → SeqAt.shaped (py a) = true ∧ es.length ≤ 1000) ∧ Q (wrD a) M
/-- _law_wrong: 0 _law_thing, 1 _law_low, 2 _law_at, 3 _law_pair -/
def N__law_wrong : List Str := ["_law_thing", "_law_low", "_law_at", "_law_pair"]
def t__law_wrong (c : CT) (W : DWX) : DTS :=
  dSeq (dIfS (dOr (dNot (dTru (dIsi .tup (kno c) (dVar 0)))) (dTst (dOp (rEqDD false) (dVar 0) (dTup [])))) (dRet (dC .non)) (dNext))
  (dSeq (dAsg (dC (.int 0)) (dgName 1))
  (dSeq (dFor (diRng1 (dCB rLen0D [dVar 0])) (dgName 2)
  (dSeq (dAsg (dOp rIxD (dVar 0) (dVar 2)) (dgName 3))
  (dSeq (dIfS (dOr (dTst (dOp (rEqDD false) (dVar 2) (dC (.int 12)))) (dOr (dNot (dTru (dIsi .tup (kno c) (dVar 3)))) (dTst (dOp (rEqDD true) (dCB rLen0D [dVar 3]) (dC (.int 2)))))) (dRet (dVar 2)) (dNext))
  (dSeq (dIfS (dOr (dNot (dTru (dOwn [0, 1] [] (sp__law_is_figure c) noW [dOp rIxD (dVar 3) (dC (.int 0)), dOp (rAddD false) (dVar 1) (dC (.int 1))] []))) (dNot (dTru (dOwn [0, 1] [] (sp__law_is_figure c) noW [dOp rIxD (dVar 3) (dC (.int 1)), dC (.int 1)] [])))) (dRet (dVar 2)) (dNext))
  (dAsg (dOp rIxD (dVar 3) (dC (.int 0))) (dgName 1))))))
  (dRet (dNeg (dC (.int 1))))))
theorem len__law_wrong (c : CT) : ∀ ds M Q E, sp__law_wrong c ds M Q E → ds.length = ["_law_thing"].length := sp1_len
theorem wkGo_lt : ∀ {es : List D} {i j : Nat} {b : Int}, i ≤ 12 → wkGo i b es = some j → j ≤ 12
  | [], _, _, _, _, h => by cases h
  | e :: es, i, j, b, hi, h => by
    unfold wkGo at h
    split at h
    · rename_i s hs
      refine wkGo_lt (i := i + 1) ?_ h
      unfold wkOne at hs
      split at hs
      · split at hs
        · rename_i z
          have := (Bool.and_eq_true_iff.mp z).1
          have := of_decide_eq_true this
          omega
        · cases hs
      · cases hs
    · cases h; exact hi
theorem drop_at {α : Type} {es : List α} {i : Nat} (h : i < es.length) : ∃ e, es[i]? = some e ∧ es.drop i = e :: es.drop (i + 1) := ⟨es[i], List.getElem?_eq_getElem h, List.drop_eq_getElem_cons h⟩
theorem pure__law_wrong (c : CT) : ∀ ds M Q E, sp__law_wrong c ds M Q E → t__law_wrong c (fnW E) (fnEnds Q) (startD N__law_wrong ds) M := sp1_of fun a M Q E h => by
  obtain ⟨⟨k0, k1⟩, sh, q⟩ := h
  have q := fn_rt q
  show t__law_wrong c (fnW E) (fnEnds Q) [some a, none, none, none] M
  rcases tup_or a with ⟨es, rfl⟩ | ht
  · obtain ⟨esl, ke⟩ := k1 es rfl
    obtain ⟨sh, el⟩ := sh es rfl
    conv => whnf
    cases es with
    | nil =>
      refine ⟨rfl, rfl, ?_⟩
      conv => whnf
      exact q
    | cons e0 er =>
      clear k1
      refine ⟨sh, rfl, ?_⟩
      conv => whnf
      have q2 : ∀ r, wkGo 0 0 (e0 :: er) = r → (fnEnds Q).rt (goD r) M := fun r e => by
        rw [wrD_cons, e] at q
        exact q
      generalize e0 :: er = es at *
      refine ⟨by omega, by omega, ?_⟩
      refine for_nums (fun i τ M' => M' = M ∧ i ≤ 12 ∧ ∃ b o2 o3, wkGo i b (es.drop i) = wkGo 0 0 es ∧ τ = [some (.tup es), some (.int b), o2, o3]) ?_ ?_ ⟨rfl, by omega, 0, none, none, rfl, rfl⟩
      · rintro τ M' ⟨rfl, i12, b, o2, o3, eg, rfl⟩
        rw [Int.toNat_natCast, List.drop_length] at eg
        exact q2 none eg.symm
      · rintro i τ M' R hi ⟨rfl, i12, b, o2, o3, eg, rfl⟩ hR
        rw [Int.toNat_natCast] at hi
        obtain ⟨e, ge, ed⟩ := drop_at hi
        rw [ed] at eg
        have out : wkOne i b e = none → (fnEnds Q).rt (.int (i : Nat)) M' := fun hn => by
          have e2 : wkGo i b (e :: es.drop (i + 1)) = some i := by unfold wkGo; rw [hn]
          exact q2 (some i) (eg.symm.trans e2)
        have go : ∀ s, wkOne i b e = some s → wkGo (i + 1) s (es.drop (i + 1)) = wkGo 0 0 es := fun s hn => by
          have e2 : wkGo i b (e :: es.drop (i + 1)) = wkGo (i + 1) s (es.drop (i + 1)) := by rw [wkGo, hn]
          rw [← eg, e2]
        obtain ⟨ke1, ke2⟩ := ke e (List.mem_of_getElem? ge)
        have ea : atI es ((i : Nat) : Int) = some e := at_nn ge
        rw [Int.zero_add]
        conv => whnf
        rw [ea]
        conv => whnf
        refine ⟨sh_int, sh_int, ?_⟩
        conv => whnf
        split
        · rename_i h
          have h2 : (((i : Nat) : Int) == 12) = true := by
            have h3 : (false != (((i : Nat) : Int) == 12)) = true := h
            rw [Bool.false_bne] at h3
            exact h3
          have h4 := beq_iff_eq.mp h2
          refine out ?_
          unfold wkOne
          split
          · rw [if_neg]
            simp only [Bool.and_eq_true, decide_eq_true_eq, not_and]
            intro z
            omega
          · rfl
        · rename_i h
          have h2 : (((i : Nat) : Int) == 12) = false := by
            have h3 : (false != (((i : Nat) : Int) == 12)) = false := h
            rw [Bool.false_bne] at h3
            exact h3
          have h4 : ¬ ((i : Nat) : Int) = 12 := beq_eq_false_iff_ne.mp h2
          have i12 : i < 12 := by omega
          conv => whnf
          rcases tup_or e with ⟨fs, rfl⟩ | hne
          · conv => whnf
            refine ⟨sh_int, sh_int, ?_⟩
            conv => whnf
            split
            · rename_i h
              have h' : ¬ fs.length = 2 := by
                intro z
                rw [z] at h
                have h2 : (true != ((2 : Int) == 2)) = true := h
                revert h2
                decide
              refine out ?_
              unfold wkOne
              split
              · rename_i e2
                cases e2
                exact absurd rfl h'
              · rfl
            · rename_i h
              have h' : fs.length = 2 := by
                have h2 : (true != ((((fs.length : Nat) : Int)) == 2)) = false := h
                rw [Bool.true_bne, Bool.not_eq_false'] at h2
                have := beq_iff_eq.mp h2
                omega
              match fs, h' with
              | [s, m], _ =>
                obtain ⟨ks, km⟩ := ke2 s m rfl
                conv => whnf
                refine ⟨_, rfl, ks, ?_⟩
                conv => whnf
                split
                · rename_i h5
                  refine out ?_
                  have w1 : withinB s (b + 1) (10 ^ 30) = false := by
                    cases z : withinB s (b + 1) (10 ^ 30) with
                    | false => rfl
                    | true =>
                      have h6 : (!withinB s (b + 1) (10 ^ 30)) = true := h5
                      rw [z] at h6; cases h6
                  unfold wkOne
                  split
                  · rename_i e2
                    cases e2
                    rw [w1, Bool.false_and, Bool.and_false, if_neg (by decide)]
                  · rfl
                · rename_i h5
                  have w1 : withinB s (b + 1) (10 ^ 30) = true := by
                    cases z : withinB s (b + 1) (10 ^ 30) with
                    | true => rfl
                    | false =>
                      have h6 : (!withinB s (b + 1) (10 ^ 30)) = false := h5
                      rw [z] at h6; cases h6
                  obtain ⟨sv, rfl⟩ : ∃ v, s = D.int v := by cases s <;> first | exact ⟨_, rfl⟩ | (cases w1)
                  conv => whnf
                  refine ⟨_, rfl, km, ?_⟩
                  conv => whnf
                  split
                  · rename_i h7
                    refine out ?_
                    have w2 : withinB m 1 (10 ^ 30) = false := by
                      cases z : withinB m 1 (10 ^ 30) with
                      | false => rfl
                      | true =>
                        have h6 : (!withinB m 1 (10 ^ 30)) = true := h7
                        rw [z] at h6; cases h6
                    show (if (decide (i < 12) && (withinB (.int sv) (b + 1) (10 ^ 30) && withinB m 1 (10 ^ 30))) = true then some sv else none) = _
                    rw [w2, Bool.and_false, Bool.and_false, if_neg (by decide)]
                  · rename_i h7
                    have w2 : withinB m 1 (10 ^ 30) = true := by
                      cases z : withinB m 1 (10 ^ 30) with
                      | true => rfl
                      | false =>
                        have h6 : (!withinB m 1 (10 ^ 30)) = false := h7
                        rw [z] at h6; cases h6
                    conv => whnf
                    refine hR _ _ _ _ ⟨rfl, by omega, sv, _, _, go sv ?_, rfl⟩ (SubS.refl _) (Sub.refl _)
                    show (if (decide (i < 12) && (withinB (.int sv) (b + 1) (10 ^ 30) && withinB m 1 (10 ^ 30))) = true then some sv else none) = _
                    rw [w1, w2, decide_eq_true i12]; rfl
          · have on : wkOne i b e = none := by
              unfold wkOne
              split
              · exact absurd rfl (hne _)
              · rfl
            rcases not_tup ke1 hne with ⟨t, e1, e2⟩ | ⟨C, e1, e2⟩
            · conv => whnf
              rw [e1]
              conv => whnf
              rw [e2]
              exact out on
            · conv => whnf
              rw [e1]
              exact ⟨e2, out on⟩
  · have q3 : (fnEnds Q).rt .non M := by
      unfold wrD wkD at q
      split at q
      · rename_i e2
        split at e2
        · cases e2; exact q
        · exact absurd rfl (ht _)
        · cases e2; exact q
      · rename_i e2
        split at e2
        · exact absurd rfl (e2 _)
        · exact absurd rfl (ht _)
        · exact absurd rfl (e2 _)
    rcases not_tup k0 ht with ⟨t, e1, e2⟩ | ⟨C, e1, e2⟩
    · conv => whnf
      rw [e1]
      conv => whnf
      rw [e2]
      exact q3
    · conv => whnf
      rw [e1]
      exact ⟨e2, q3⟩

/-- an element of a tuple that the package may look at -/
structure ElK (e : D) : Prop where
  kn : ∀ (c : CT) (M : DHp), known c e M
  two : ∀ x y, e = .tup [x, y] → ∀ (c : CT) (M : DHp), known c x M ∧ known c y M
  lay : (py e).canLay0 = true
  dep : (py e).depth ≤ 10
/-- a value that may be no kinds -/
structure BentK (c : CT) (d : D) (M : DHp) (n : Nat) : Prop where
  kn : known c d M
  tup : ∀ es, d = .tup es → (∀ e ∈ es, ElK e) ∧ es.length ≤ n
def sp__law_bent (c : CT) : DSp := sp2 fun p k M Q _ => ∃ a x y z kz, p = .ref a ∧ k = kD kz ∧ M a = some (.lst [.int x, .int y, .int z]) ∧ Drawn kz ∧ PotI x y z ∧ z ≤ 10 ^ 8 ∧
  ∀ d M1 x' y' z', BentK c d M1 100 → PotI x' y' z' → z' ≤ z + 60 → Sub (up M a (.lst [.int x', .int y', .int z'])) M1 → Q d M1
def t__law_bent_c1 (c : CT) (W : DWX) : DTS :=
  dAsg (dOp (rAddD false) (dOp (rAddD false) (dSl false (dVar 4) (dNoPart) (dPart (dVar 5))) (dTup [dVar 7])) (dSl false (dVar 4) (dPart (dOp (rAddD false) (dVar 5) (dC (.int 1)))) (dNoPart))) (dgName 9)
def t__law_bent_c2 (c : CT) (W : DWX) : DTS :=
  dRet (dOp (rAddD false) (dOp (rAddD false) (dSl false (dVar 1) (dNoPart) (dPart (dVar 3))) (dTup [dVar 9])) (dSl false (dVar 1) (dPart (dOp (rAddD false) (dVar 3) (dC (.int 1)))) (dNoPart)))
def t__law_bent_c3 (c : CT) (W : DWX) : DTS :=
  dSeq (dIfS (dTst (dOp (rEqDD false) (dVar 2) (dC (.int 5)))) (dRet (dOp (rAddD false) (dOp (rAddD false) (dSl false (dVar 1) (dNoPart) (dPart (dVar 3))) (dTup [dVar 4])) (dSl false (dVar 1) (dPart (dVar 3)) (dNoPart)))) (dNext))
  (t__law_bent_c2 c W)
def t__law_bent_c4 (c : CT) (W : DWX) : DTS :=
  dSeq (dIfS (dTst (dOp (rInD false) (dVar 2) (dLst false [dC (.int 3), dC (.int 4)]))) (t__law_bent_c1 c W) (dNext))
  (t__law_bent_c3 c W)
def t__law_bent_c5 (c : CT) (W : DWX) : DTS :=
  dSeq (dAsg (dVar 4) (dgName 9))
  (dSeq (dIfS (dTst (dOp (rEqDD false) (dVar 2) (dC (.int 2)))) (dAsg (dOp rIxD (dLst false [dC .non, dTup [], dSl false (dVar 4) (dNoPart) (dPart (dC (.int 1))), dOp (rAddD false) (dVar 4) (dTup [dC (.int 1)]), dCB (rListDD false) [dVar 4], dC (.int 3), dC (.str "1x1")]) (dOwn [0, 1] [] (sp__law_scoop c) noW [dVar 0, dC (.int 7)] [])) (dgName 9)) (dNext))
  (t__law_bent_c4 c W))
def t__law_bent_c6 (c : CT) (W : DWX) : DTS :=
  dSeq (dIfS (dTst (dOp (rEqDD false) (dVar 2) (dC (.int 1)))) (dSeq (dAsg (dOp rIxD (dOp rIxD (dVar 1) (dNeg (dC (.int 1)))) (dC (.int 0))) (dgName 8))
  (dRet (dOp (rAddD false) (dVar 1) (dCB rTupleD [dLc false (diRng1 (dOp (rAddD false) (dOp rSubD (dC (.int 12)) (dCB rLen0D [dVar 1])) (dOwn [0, 1] [] (sp__law_scoop c) noW [dVar 0, dC (.int 2)] []))) (dgName 10) dYes (dTup [dOp (rAddD false) (dOp (rAddD false) (dVar 8) (dC (.int 1))) (dVar 10), dC (.int 1)]) [10]])))) (dNext))
  (t__law_bent_c5 c W)
def t__law_bent_c7 (c : CT) (W : DWX) : DTS :=
  dSeq (dIfS (dTst (dOp (rEqDD false) (dVar 2) (dC (.int 0)))) (dRet (dOp rIxD (dLst false [dCB (rListDD false) [dVar 1], dTup [], dC .non, dC (.str "1x1"), dC (.int 5), dDnew, dOp rIxD (dVar 1) (dC (.int 0)), dRevT (dVar 1)]) (dOwn [0, 1] [] (sp__law_scoop c) noW [dVar 0, dC (.int 8)] []))) (dNext))
  (t__law_bent_c6 c W)
def t__law_bent_c8 (c : CT) (W : DWX) : DTS :=
  dSeq (dAsg (dOp rIxD (dVar 6) (dOwn [0, 1] [] (sp__law_scoop c) noW [dVar 0, dC (.int 12)] [])) (dgName 7))
  (t__law_bent_c7 c W)
def t__law_bent_c9 (c : CT) (W : DWX) : DTS :=
  dSeq (dAsg (dLst false [dC (.int 0), dNeg (dC (.int 1)), dC (.bl true), dC .non, dC (.str "1"), dTup [dC (.int 1)], dLst false [], dOp rPowD (dC (.int 10)) (dC (.int 30)), dOp (rAddD false) (dOp rPowD (dC (.int 10)) (dC (.int 30))) (dC (.int 1)), dOp rIxD (dOp rIxD (dVar 1) (dOp rSubD (dVar 3) (dC (.int 1)))) (dC (.int 0)), dC (.int 1), dC (.bl false)]) (dgName 6))
  (t__law_bent_c8 c W)
/-- _law_bent: 0 _law_pot_here, 1 _law_kinds_here, 2 _law_way, 3 _law_at, 4 _law_pair, 5 _law_spot, 6 _law_some, 7 _law_odd, 8 _law_top, 9 _law_fresh, 10 _law_k -/
def N__law_bent : List Str := ["_law_pot_here", "_law_kinds_here", "_law_way", "_law_at", "_law_pair", "_law_spot", "_law_some", "_law_odd", "_law_top", "_law_fresh", "_law_k"]
def t__law_bent (c : CT) (W : DWX) : DTS :=
  dSeq (dPar 2 3 (dOwn [0, 1] [] (sp__law_scoop c) noW [dVar 0, dC (.int 7)] []) (dOwn [0, 1] [] (sp__law_scoop c) noW [dVar 0, dCB rLen0D [dVar 1]] []))
  (dSeq (dPar 4 5 (dOp rIxD (dVar 1) (dVar 3)) (dOwn [0, 1] [] (sp__law_scoop c) noW [dVar 0, dC (.int 2)] []))
  (t__law_bent_c9 c W))
theorem len__law_bent (c : CT) : ∀ ds M Q E, sp__law_bent c ds M Q E → ds.length = ["_law_pot_here", "_law_kinds_here"].length := sp2_len
/-- a value that may stand in a pair -/
structure ElO (e : D) : Prop where
  kn : ∀ (c : CT) (M : DHp), known c e M
  lay : (py e).canLay0 = true
  dep : (py e).depth ≤ 5
theorem ElO.int (i : Int) : ElO (.int i) := ⟨fun _ _ => trivial, rfl, Nat.zero_le _⟩
theorem ElO.bl (b : Bool) : ElO (.bl b) := ⟨fun _ _ => trivial, rfl, Nat.zero_le _⟩
theorem ElO.non : ElO .non := ⟨fun _ _ => trivial, rfl, Nat.zero_le _⟩
theorem ElO.one : ElO (.str "1") := ⟨fun _ _ => trivial, by decide +kernel, by decide +kernel⟩
theorem ElO.txt : ElO (.str "1x1") := ⟨fun _ _ => trivial, by decide +kernel, by decide +kernel⟩
theorem ElO.tup1 : ElO (.tup [.int 1]) := ⟨fun _ _ => trivial, rfl, by decide +kernel⟩
theorem ElO.nil : ElO (.lst []) := ⟨fun _ _ => trivial, rfl, by decide +kernel⟩
theorem ElO.elk {e : D} (h : ElO e) (n : ∀ x y, e ≠ .tup [x, y]) : ElK e := ⟨h.kn, fun x y z => absurd z (n x y), h.lay, by have := h.dep; omega⟩
theorem lay_all : ∀ {es : List D}, (∀ e ∈ es, (py e).canLay0 = true) → PyData.canLayAll0 (pyL es) = true
  | [], _ => rfl
  | e :: es, h => by
    show (PyData.canLay0 (py e) && PyData.canLayAll0 (pyL es)) = true
    rw [h e List.mem_cons_self, lay_all fun x hx => h x (List.mem_cons_of_mem _ hx)] <;> rfl
theorem dep_all {n : Nat} : ∀ {es : List D}, (∀ e ∈ es, (py e).depth ≤ n) → PyData.depthAll (pyL es) ≤ n
  | [], _ => Nat.zero_le _
  | e :: es, h => Nat.max_le.mpr ⟨h e List.mem_cons_self, dep_all fun x hx => h x (List.mem_cons_of_mem _ hx)⟩
theorem ElK.tup {es : List D} (h : ∀ e ∈ es, ElO e) : ElK (.tup es) := by
  have hl : PyData.canLayAll0 (pyL es) = true := lay_all fun e he => (h e he).lay
  refine ⟨fun _ _ => trivial, fun x y z c M => ?_, hl, ?_⟩
  · cases z
    exact ⟨(h x List.mem_cons_self).kn c M, (h y (List.mem_cons_of_mem _ List.mem_cons_self)).kn c M⟩
  · have : PyData.depthAll (pyL es) ≤ 5 := dep_all fun e he => (h e he).dep
    show PyData.depthAll (pyL es) + 1 ≤ 10
    omega
theorem ElK.lst {es : List D} (h : ∀ e ∈ es, ElO e) : ElK (.lst es) := by
  have hl : PyData.canLayAll0 (pyL es) = true := lay_all fun e he => (h e he).lay
  refine ⟨fun _ _ => trivial, fun x y z => (nomatch z), hl, ?_⟩
  have : PyData.depthAll (pyL es) ≤ 5 := dep_all fun e he => (h e he).dep
  show PyData.depthAll (pyL es) + 1 ≤ 10
  omega
theorem ElK.pair (p : Int × Int) : ElK (pairD p) := ElK.tup fun e he => by
  rcases List.mem_cons.mp he with rfl | he
  · exact .int _
  · obtain rfl := List.mem_singleton.mp he; exact .int _
theorem BentK.tup' {c : CT} {es : List D} {M : DHp} {n : Nat} (h : ∀ e ∈ es, ElK e) (l : es.length ≤ n) : BentK c (.tup es) M n := ⟨trivial, fun x e => by cases e; exact ⟨h, l⟩⟩
theorem BentK.no {c : CT} {d : D} {M : DHp} {m : Nat} (k : known c d M) (n : ∀ es, d ≠ .tup es) : BentK c d M m := ⟨k, fun es e => absurd e (n es)⟩
theorem BentK.kd {c : CT} {d : D} {M : DHp} {n : Nat} (b : BentK c d M n) (hn : n ≤ 1000 := by decide) : knownK c d M := ⟨b.kn, fun es e => ⟨Nat.le_trans (b.tup es e).2 (Nat.le_trans hn (by decide)), fun x hx => ⟨((b.tup es e).1 x hx).kn c M, fun u v z => ((b.tup es e).1 x hx).two u v z c M⟩⟩⟩
theorem BentK.sh {c : CT} {d : D} {M : DHp} {n : Nat} (b : BentK c d M n) (hn : n ≤ 1000 := by decide) : ∀ es, d = .tup es → SeqAt.shaped (py d) = true ∧ es.length ≤ 1000 := fun es e => by
  obtain ⟨h, l⟩ := b.tup es e
  subst e
  refine ⟨?_, by omega⟩
  have h1 : (py (.tup es)).canLay0 = true := lay_all fun e he => (h e he).lay
  have h2 : (py (.tup es)).depth ≤ 64 := by
    have : PyData.depthAll (pyL es) ≤ 10 := dep_all fun e he => (h e he).dep
    show PyData.depthAll (pyL es) + 1 ≤ 64
    omega
  show ((py (.tup es)).canLay0 && decide ((py (.tup es)).depth ≤ 64)) = true
  rw [h1, decide_eq_true h2] <;> rfl
theorem BentK.sub {c : CT} {d : D} {M M' : DHp} {n : Nat} (b : BentK c d M n) (s : Sub M M') : BentK c d M' n := ⟨knk_sub s b.kn, b.tup⟩
/-- what all of its ways answer -/
def BQ (c : CT) (a : Addr) (z : Int) (M : DHp) (Q : DVK) : Prop := ∀ d M1 x' y' z', BentK c d M1 100 → PotI x' y' z' → z' ≤ z + 60 → Sub (up M a (.lst [.int x', .int y', .int z'])) M1 → Q d M1
section
variable {c : CT} {a : Addr} {M : DHp} {Q : DVK} {E : DXK} {x y z z0 way at_ spot : Int} {kz : List (Int × Int)} {o6 o8 o9 o10 : Option D} {odd fresh : D}
theorem el_kz {kz : List (Int × Int)} : ∀ e ∈ kz.map pairD, ElK e := fun e he => by
  obtain ⟨p, _, rfl⟩ := List.mem_map.mp he
  exact ElK.pair p
theorem el_cut {es : List D} (h : ∀ e ∈ es, ElK e) {lo hi : Option Int} : ∀ e ∈ cutD es lo hi, ElK e := fun e he => h e (cut_mem he)
theorem el_mid {A B : List D} {f : D} (ha : ∀ e ∈ A, ElK e) (hf : ElK f) (hb : ∀ e ∈ B, ElK e) : ∀ e ∈ A ++ [f] ++ B, ElK e := fun e he => by
  rcases List.mem_append.mp he with he | he
  · rcases List.mem_append.mp he with he | he
    · exact ha e he
    · obtain rfl := List.mem_singleton.mp he; exact hf
  · exact hb e he
theorem bent_c2 (dr : Drawn kz) (q : BQ c a z0 M Q) (P : PotI x y z) (zb : z ≤ z0 + 60) (hf : ElK fresh) {o2 o4 o5 o6 o7 o8 o10 : Option D} :
    t__law_bent_c2 c (fnW E) (fnEnds Q) [some (.ref a), some (kD kz), o2, some (.int at_), o4, o5, o6, o7, o8, some fresh, o10] (up M a (.lst [.int x, .int y, .int z])) := by
  have dl := dr.len
  have l1 : (cutD (kz.map pairD) none (some at_)).length ≤ 12 := Nat.le_trans cut_len (by rw [List.length_map]; exact dl)
  have l2 : (cutD (kz.map pairD) (some (at_ + 1)) none).length ≤ 12 := Nat.le_trans cut_len (by rw [List.length_map]; exact dl)
  conv => whnf
  refine ⟨line_1000 (by show _ + 1 ≤ 1000; omega), ?_⟩
  conv => whnf
  refine ⟨line_1000 (by rw [List.length_append]; show _ + 1 + _ ≤ 1000; omega), ?_⟩
  conv => whnf
  exact ⟨_, Sub.refl _, q _ _ x y z (BentK.tup' (el_mid (el_cut el_kz) hf (el_cut el_kz)) (by rw [List.length_append, List.length_append]; show _ + 1 + _ ≤ 100; omega)) P zb (Sub.refl _)⟩
theorem bent_c3 (dr : Drawn kz) (q : BQ c a z0 M Q) (P : PotI x y z) (zb : z ≤ z0 + 60) (hf : ElK fresh) {p : Int × Int} {o5 o6 o7 o8 o10 : Option D} :
    t__law_bent_c3 c (fnW E) (fnEnds Q) [some (.ref a), some (kD kz), some (.int way), some (.int at_), some (pairD p), o5, o6, o7, o8, some fresh, o10] (up M a (.lst [.int x, .int y, .int z])) := by
  have dl := dr.len
  have l1 : (cutD (kz.map pairD) none (some at_)).length ≤ 12 := Nat.le_trans cut_len (by rw [List.length_map]; exact dl)
  have l2 : (cutD (kz.map pairD) (some at_) none).length ≤ 12 := Nat.le_trans cut_len (by rw [List.length_map]; exact dl)
  conv => whnf
  refine ⟨sh_int, sh_int, ?_⟩
  conv => whnf
  split
  · conv => whnf
    refine ⟨line_1000 (by show _ + 1 ≤ 1000; omega), ?_⟩
    conv => whnf
    refine ⟨line_1000 (by rw [List.length_append]; show _ + 1 + _ ≤ 1000; omega), ?_⟩
    conv => whnf
    exact ⟨_, Sub.refl _, q _ _ x y z (BentK.tup' (el_mid (el_cut el_kz) (ElK.pair p) (el_cut el_kz)) (by rw [List.length_append, List.length_append]; show _ + 1 + _ ≤ 100; omega)) P zb (Sub.refl _)⟩
  · exact bent_c2 (E := E) dr q P zb hf
theorem elo_pair {p : Int × Int} : ∀ e ∈ ([.int p.1, .int p.2] : List D), ElO e := fun e he => by
  rcases List.mem_cons.mp he with rfl | he
  · exact .int _
  · obtain rfl := List.mem_singleton.mp he; exact .int _
theorem bent_c4 (dr : Drawn kz) (q : BQ c a z0 M Q) (P : PotI x y z) (zb : z ≤ z0 + 60) (hf : ElK fresh) (ho : ElO odd) {p : Int × Int} {o6 o8 o10 : Option D} :
    t__law_bent_c4 c (fnW E) (fnEnds Q) [some (.ref a), some (kD kz), some (.int way), some (.int at_), some (pairD p), some (.int spot), o6, some odd, o8, some fresh, o10] (up M a (.lst [.int x, .int y, .int z])) := by
  have l1 : (cutD [D.int p.1, .int p.2] none (some spot)).length ≤ 2 := cut_len
  have l2 : (cutD [D.int p.1, .int p.2] (some (spot + 1)) none).length ≤ 2 := cut_len
  conv => whnf
  refine ⟨rfl, rfl, ?_⟩
  conv => whnf
  split
  · conv => whnf
    refine ⟨line_1000 (by show _ + 1 ≤ 1000; omega), ?_⟩
    conv => whnf
    refine ⟨line_1000 (by rw [List.length_append]; show _ + 1 + _ ≤ 1000; omega), ?_⟩
    refine bent_c3 (E := E) dr q P zb (ElK.tup fun e he => ?_)
    rcases List.mem_append.mp he with he | he
    · rcases List.mem_append.mp he with he | he
      · exact elo_pair e (cut_mem he)
      · obtain rfl := List.mem_singleton.mp he; exact ho
    · exact elo_pair e (cut_mem he)
  · exact bent_c3 (E := E) dr q P zb hf
theorem at_in {α : Type} {xs : List α} {k : Int} {v : α} (h : atI xs k = some v) : v ∈ xs := by
  unfold atI at h
  cases e : ixN xs.length k with
  | none => rw [e] at h; cases h
  | some j => rw [e] at h; exact List.mem_of_getElem? h
theorem at_is {α : Type} {xs : List α} {k : Int} (h0 : 0 ≤ k) (h1 : k < xs.length) : ∃ v, atI xs k = some v := by
  obtain ⟨n, rfl⟩ := Int.eq_ofNat_of_zero_le h0
  have l : n < xs.length := by omega
  exact ⟨xs[n], at_nn (List.getElem?_eq_getElem l)⟩
/-- the pair at a place -/
theorem pair_at {k : Int} (h0 : 0 ≤ k) (h1 : k < kz.length) : ∃ p ∈ kz, atI (kz.map pairD) k = some (pairD p) := by
  obtain ⟨v, hv⟩ := at_is (xs := kz.map pairD) h0 (by rw [List.length_map]; exact h1)
  obtain ⟨p, hp, rfl⟩ := List.mem_map.mp (at_in hv)
  exact ⟨p, hp, hv⟩
theorem bent_c5 (dr : Drawn kz) (q : BQ c a z0 M Q) (P : PotI x y z) (zb : z ≤ z0 + 50) (hz : z0 ≤ 10 ^ 8) (ho : ElO odd) {p : Int × Int} {o6 o8 o9 o10 : Option D} :
    t__law_bent_c5 c (fnW E) (fnEnds Q) [some (.ref a), some (kD kz), some (.int way), some (.int at_), some (pairD p), some (.int spot), o6, some odd, o8, o9, o10] (up M a (.lst [.int x, .int y, .int z])) := by
  conv => whnf
  refine ⟨sh_int, sh_int, ?_⟩
  conv => whnf
  split
  · conv => whnf
    refine ⟨Nat.le_of_ble_eq_true rfl, ?_⟩
    conv => whnf
    refine ⟨a, x, y, z, 7, rfl, rfl, by decide, by decide, up_same, P, by omega, fun d x1 y1 z1 d0 d1 P1 b1 => ?_⟩
    rw [up_up]
    conv => whnf
    have l1 : (cutD [D.int p.1, .int p.2] none (some 1)).length ≤ 2 := cut_len
    obtain ⟨v, hv⟩ := at_is (xs := [D.non, .tup [], .tup (cutD [D.int p.1, .int p.2] none (some 1)), .tup ([D.int p.1, .int p.2] ++ [D.int 1]), .lst [.int p.1, .int p.2], .int 3, .str "1x1"]) d0 d1
    have ve : ElK v := by
      have := at_in hv
      simp only [List.mem_cons, List.not_mem_nil, or_false] at this
      rcases this with rfl | rfl | rfl | rfl | rfl | rfl | rfl
      · exact ElO.non.elk fun _ _ e => nomatch e
      · exact ElK.tup fun e he => nomatch he
      · exact ElK.tup fun e he => elo_pair e (cut_mem he)
      · refine ElK.tup fun e he => ?_
        rcases List.mem_append.mp he with he | he
        · exact elo_pair e he
        · obtain rfl := List.mem_singleton.mp he; exact .int _
      · exact ElK.lst elo_pair
      · exact (ElO.int 3).elk fun _ _ e => nomatch e
      · exact ElO.txt.elk fun _ _ e => nomatch e
    rw [hv]
    exact bent_c4 (E := E) dr q P1 (by omega) ve ho
  · exact bent_c4 (E := E) dr q P (by omega) (ElK.pair p) ho
theorem bent_c6 (dr : Drawn kz) (q : BQ c a z0 M Q) (P : PotI x y z) (zb : z ≤ z0 + 40) (hz : z0 ≤ 10 ^ 8) (ho : ElO odd) {p : Int × Int} {o6 o8 o9 o10 : Option D} :
    t__law_bent_c6 c (fnW E) (fnEnds Q) [some (.ref a), some (kD kz), some (.int way), some (.int at_), some (pairD p), some (.int spot), o6, some odd, o8, o9, o10] (up M a (.lst [.int x, .int y, .int z])) := by
  have dl := dr.len
  conv => whnf
  refine ⟨sh_int, sh_int, ?_⟩
  conv => whnf
  split
  · have ne : kz.map pairD ≠ [] := fun e => dr.ne (List.map_eq_nil_iff.mp e)
    obtain ⟨r, hr, er⟩ := List.mem_map.mp (List.getLast_mem ne)
    conv => whnf
    rw [at_last ne, ← er]
    conv => whnf
    refine ⟨a, x, y, z, 2, rfl, rfl, by decide, by decide, up_same, P, by omega, fun d x1 y1 z1 d0 d1 P1 b1 => ?_⟩
    rw [up_up]
    conv => whnf
    have lm : (kz.map pairD).length = kz.length := List.length_map _
    refine ⟨?_, ?_, ?_⟩
    · show (12 : Int) - ((kz.map pairD).length : Nat) + d ≤ 1000000
      omega
    · show -(2 : Int) ^ 62 ≤ (12 : Int) - ((kz.map pairD).length : Nat) + d
      omega
    · show ∀ p_1, up M a (.lst [.int x1, .int y1, .int z1]) p_1 = none → lcR _ _ _ _ _ p_1 (nums 0 ((12 : Int) - ((kz.map pairD).length : Nat) + d).toNat) [] _ _
      intro p1 np1
      refine lcR_map (f := fun e => match e with | .int k => .tup [.int (r.1 + 1 + k), .int 1] | e => e) (fun _ => trivial) np1 ?_ ?_
      · intro e he acc R hr2
        obtain ⟨k, rfl, k0, k1⟩ := nums_mem he
        exact hr2
      · rw [List.nil_append]
        have l2 : ((nums 0 ((12 : Int) - ((kz.map pairD).length : Nat) + d).toNat).map fun e => match e with | .int k => D.tup [.int (r.1 + 1 + k), .int 1] | e => e).length ≤ 14 := by
          rw [List.length_map, nums_len]
          omega
        have h2 : ∀ e ∈ ((nums 0 ((12 : Int) - ((kz.map pairD).length : Nat) + d).toNat).map fun e => match e with | .int k => D.tup [.int (r.1 + 1 + k), .int 1] | e => e), ElK e := fun e he => by
          obtain ⟨e', he', rfl⟩ := List.mem_map.mp he
          obtain ⟨k, rfl, k0, k1⟩ := nums_mem he'
          exact ElK.tup (elo_pair (p := (r.1 + 1 + k, 1)))
        generalize ((nums 0 ((12 : Int) - ((kz.map pairD).length : Nat) + d).toNat).map fun e => match e with | .int k => D.tup [.int (r.1 + 1 + k), .int 1] | e => e) = xs at l2 h2 ⊢
        conv => whnf
        refine ⟨line_1000 (by rw [lm]; omega), ?_⟩
        exact ⟨_, Sub.refl _, q _ _ x1 y1 z1 (BentK.tup' (fun e he => by
          rcases List.mem_append.mp he with he | he
          · exact el_kz e he
          · exact h2 e he) (by rw [List.length_append, lm]; omega)) P1 (by omega) (Sub.refl _)⟩
  · exact bent_c5 (E := E) dr q P (by omega) hz ho
theorem bent_c7 (dr : Drawn kz) (q : BQ c a z0 M Q) (em : ∃ o, M a = some o) (P : PotI x y z) (zb : z ≤ z0 + 30) (hz : z0 ≤ 10 ^ 8) (ho : ElO odd) {p : Int × Int} {o6 o8 o9 o10 : Option D} :
    t__law_bent_c7 c (fnW E) (fnEnds Q) [some (.ref a), some (kD kz), some (.int way), some (.int at_), some (pairD p), some (.int spot), o6, some odd, o8, o9, o10] (up M a (.lst [.int x, .int y, .int z])) := by
  have dl := dr.len
  have l0 : 0 < kz.length := List.length_pos_iff.mpr dr.ne
  conv => whnf
  refine ⟨sh_int, sh_int, ?_⟩
  conv => whnf
  split
  · conv => whnf
    intro p5 np
    have np0 : M p5 = none := by
      by_cases e : p5 = a
      · subst e; rw [up_same] at np; cases np
      · rwa [up_ne e] at np
    have ne : a ≠ p5 := fun e => by rw [e, up_same] at np; cases np
    obtain ⟨r, hr, er⟩ := pair_at (kz := kz) (k := 0) (by decide) (by omega)
    conv => whnf
    rw [er]
    conv => whnf
    refine ⟨a, x, y, z, 8, rfl, rfl, by decide, by decide, up_at ne, P, by omega, fun d x1 y1 z1 d0 d1 P1 b1 => ?_⟩
    conv => whnf
    obtain ⟨v, hv⟩ := at_is (xs := [D.lst (kz.map pairD), .tup [], .non, .str "1x1", .int 5, .ref p5, pairD r, .tup (kz.map pairD).reverse]) d0 d1
    rw [hv]
    have sub : Sub (up M a (.lst [.int x1, .int y1, .int z1])) (up (up (up M a (.lst [.int x, .int y, .int z])) p5 (.dK [] [])) a (.lst [.int x1, .int y1, .int z1])) := fun b o e => by
      by_cases eb : b = a
      · subst eb; rw [up_same] at e ⊢; exact e
      · rw [up_ne eb] at e ⊢
        have : b ≠ p5 := fun z => by rw [z, np0] at e; cases e
        rw [up_ne this, up_ne eb]; exact e
    refine ⟨_, Sub.refl _, q v _ x1 y1 z1 ?_ P1 (by omega) sub⟩
    have := at_in hv
    simp only [List.mem_cons, List.not_mem_nil, or_false] at this
    rcases this with rfl | rfl | rfl | rfl | rfl | rfl | rfl | rfl
    · exact BentK.no trivial fun _ e => nomatch e
    · exact BentK.tup' (fun e he => nomatch he) (by decide)
    · exact BentK.no trivial fun _ e => nomatch e
    · exact BentK.no trivial fun _ e => nomatch e
    · exact BentK.no trivial fun _ e => nomatch e
    · refine BentK.no ?_ fun _ e => nomatch e
      have e5 : up (up (up M a (.lst [.int x, .int y, .int z])) p5 (.dK [] [])) a (.lst [.int x1, .int y1, .int z1]) p5 = some (.dK [] []) := by rw [up_ne (Ne.symm ne), up_same]
      unfold known
      simp only [tyD, e5]
    · exact BentK.tup' (fun e he => (elo_pair (p := r) e he).elk fun u v z => by
        rcases List.mem_cons.mp he with rfl | he
        · cases z
        · obtain rfl := List.mem_singleton.mp he; cases z) (show 2 ≤ 100 by decide)
    · exact BentK.tup' (fun e he => el_kz e (List.mem_reverse.mp he)) (by rw [List.length_reverse, List.length_map]; omega)
  · exact bent_c6 (E := E) dr q P (by omega) hz ho
theorem pair_prev (dr : Drawn kz) {k : Int} (h0 : 0 ≤ k) (h1 : k < kz.length) : ∃ p ∈ kz, atI (kz.map pairD) ((fun i j : Int => i - j) k 1) = some (pairD p) := by
  by_cases h : k = 0
  · subst h
    have ne : kz.map pairD ≠ [] := fun e => dr.ne (List.map_eq_nil_iff.mp e)
    obtain ⟨r, hr, er⟩ := List.mem_map.mp (List.getLast_mem ne)
    exact ⟨r, hr, (at_last ne).trans (congrArg some er.symm)⟩
  · exact pair_at (k := k - 1) (by omega) (by omega)
theorem bent_c8 (dr : Drawn kz) (q : BQ c a z0 M Q) (em : ∃ o, M a = some o) (P : PotI x y z) (zb : z ≤ z0 + 20) (hz : z0 ≤ 10 ^ 8) {p : Int × Int} {es : List D} (el : es.length = 12) (he : ∀ e ∈ es, ElO e) {o7 o8 o9 o10 : Option D} :
    t__law_bent_c8 c (fnW E) (fnEnds Q) [some (.ref a), some (kD kz), some (.int way), some (.int at_), some (pairD p), some (.int spot), some (.lst es), o7, o8, o9, o10] (up M a (.lst [.int x, .int y, .int z])) := by
  conv => whnf
  refine ⟨a, x, y, z, 12, rfl, rfl, by decide, by decide, up_same, P, by omega, fun d x1 y1 z1 d0 d1 P1 b1 => ?_⟩
  rw [up_up]
  obtain ⟨v, hv⟩ := at_is (xs := es) d0 (by omega)
  conv => whnf
  rw [hv]
  exact bent_c7 (E := E) dr q em P1 (by omega) hz (he v (at_in hv))
theorem bent_c9 (dr : Drawn kz) (q : BQ c a z0 M Q) (em : ∃ o, M a = some o) (P : PotI x y z) (zb : z ≤ z0 + 20) (hz : z0 ≤ 10 ^ 8) (a0 : 0 ≤ at_) (a1 : at_ < kz.length) {p : Int × Int} {o7 o8 o9 o10 : Option D} :
    t__law_bent_c9 c (fnW E) (fnEnds Q) [some (.ref a), some (kD kz), some (.int way), some (.int at_), some (pairD p), some (.int spot), o6, o7, o8, o9, o10] (up M a (.lst [.int x, .int y, .int z])) := by
  obtain ⟨r, hr, er⟩ := pair_prev dr a0 a1
  conv => whnf
  refine ⟨by unfold CPow; decide, ?_⟩
  generalize (fun i j : Int => i ^ j.toNat) 10 30 = b1
  conv => whnf
  refine ⟨by unfold CPow; decide, ?_⟩
  generalize (fun i j : Int => i ^ j.toNat) 10 30 = b2
  conv => whnf
  rw [er]
  conv => whnf
  refine bent_c8 (E := E) dr q em P zb hz rfl fun e he => ?_
  simp only [List.mem_cons, List.not_mem_nil, or_false] at he
  rcases he with rfl | rfl | rfl | rfl | rfl | rfl | rfl | rfl | rfl | rfl | rfl | rfl <;> first | exact .int _ | exact .bl _ | exact .non | exact .one | exact .tup1 | exact .nil
end
theorem pure__law_bent (c : CT) : ∀ ds M Q E, sp__law_bent c ds M Q E → t__law_bent c (fnW E) (fnEnds Q) (startD N__law_bent ds) M := sp2_of fun p k M Q E h => by
  obtain ⟨a, x, y, z, kz, rfl, rfl, em, dr, P, zb, q⟩ := h
  have l0 : 0 < kz.length := List.length_pos_iff.mpr dr.ne
  have dl := dr.len
  have lm : (kz.map pairD).length = kz.length := List.length_map _
  show t__law_bent c (fnW E) (fnEnds Q) [some (.ref a), some (kD kz), none, none, none, none, none, none, none, none, none] M
  conv => whnf
  refine ⟨a, x, y, z, 7, rfl, rfl, by decide, by decide, em, P, by omega, fun d x1 y1 z1 d0 d1 P1 b1 => ?_⟩
  conv => whnf
  refine ⟨a, x1, y1, z1, ((kz.map pairD).length : Nat), rfl, rfl, by omega, by omega, up_same, P1, by omega, fun d2 x2 y2 z2 d20 d21 P2 b2 => ?_⟩
  rw [up_up]
  obtain ⟨r, hr, er⟩ := pair_at (kz := kz) d20 (by omega)
  conv => whnf
  rw [er]
  conv => whnf
  refine ⟨a, x2, y2, z2, 2, rfl, rfl, by decide, by decide, up_same, P2, by omega, fun d3 x3 y3 z3 d30 d31 P3 b3 => ?_⟩
  rw [up_up]
  exact bent_c9 (E := E) dr q ⟨_, em⟩ P3 (by omega) zb d20 (by omega)

def lamQ : Str := "_law_right.<locals>.<lambda>"
def sp__law_right (c : CT) : DSp := sp1 fun p M Q _ => ∃ a x y z, p = .ref a ∧ M a = some (.lst [.int x, .int y, .int z]) ∧ PotI x y z ∧ z ≤ 10 ^ 6 ∧ M (c.other "_law_right") = some (.tab lamQ) ∧ ∀ o, Q (.bl true) (up M a o)
def t__law_right_c1 (c : CT) (ce : Nat → Addr) (W : DWX) : DTS :=
  dAsg (dOp (rAddD false) (dVar 2) (dTup [dC .non])) (dgName 2)
def t__law_right_c2 (c : CT) (ce : Nat → Addr) (W : DWX) : DTS :=
  dIfS (dNot (dTru (dOwnL (sp__law_is_ended c) ce [2] [0, 1] [] noW [dVar 3, dIf (dTst (dOp (rEqDD false) (dVar 4) (dNeg (dC (.int 1))))) (dLst false [dC (.str "told"), dCB rReprD [dVar 2]]) (dLst false [dC (.str "kinds"), dCB rReprD [dVar 4]])] []))) (dRet (dC (.bl false))) (dNext)
def t__law_right_c3 (c : CT) (ce : Nat → Addr) (W : DWX) : DTS :=
  dSeq (dDrop (dApp (dVar 3) (dLamV (c.other "_law_right") "_law_right.<locals>.<lambda>" (c.lamd 1) 1 [2] ce)))
  (t__law_right_c2 c ce W)
def t__law_right_c4 (c : CT) (ce : Nat → Addr) (W : DWX) : DTS :=
  dSeq (dPar 3 4 (dLst true [dLamV (c.other "_law_right") "_law_right.<locals>.<lambda>" (c.lamd 0) 0 [2] ce]) (dOwn [0] [] (sp__law_wrong c) noW [dVar 2] []))
  (t__law_right_c3 c ce W)
def t__law_right_c5 (c : CT) (ce : Nat → Addr) (W : DWX) : DTS :=
  dSeq (dIfS (dAnd (dTst (dOp (rEqDD false) (dOwn [0, 1] [] (sp__law_scoop c) noW [dVar 0, dC (.int 4)] []) (dC (.int 0)))) (dAnd (dTru (dIsi .tup (kno c) (dVar 2))) (dAnd (dTst (dOp (rEqDD true) (dVar 2) (dTup []))) (dTru (dIsi .tup (kno c) (dOp rIxD (dVar 2) (dC (.int 0)))))))) (t__law_right_c1 c ce W) (dNext))
  (t__law_right_c4 c ce W)
def t__law_right_c6 (c : CT) (ce : Nat → Addr) (W : DWX) : DTS :=
  dSeq (dAsg (dOwn [0, 1] [] (sp__law_bent c) noW [dVar 0, dOwn [0, 1, 2] [] (sp__law_few c) noW [dVar 0, dC (.int 12), dC (.int 4)] []] []) (dgName 2))
  (t__law_right_c5 c ce W)
/-- _law_right: 0 _law_pot_here, 1 _law_turn, 2 _law_thing, 3 _law_acts, 4 _law_wrong_here -/
def N__law_right : List Str := ["_law_pot_here", "_law_turn", "_law_thing", "_law_acts", "_law_wrong_here"]
def t__law_right (c : CT) (ce : Nat → Addr) (W : DWX) : DTS :=
  dSeq (dFor (diRng1 (dC (.int 8))) (dgName 1)
  (t__law_right_c6 c ce W))
  (dRet (dC (.bl true)))
theorem len__law_right (c : CT) : ∀ ds M Q E, sp__law_right c ds M Q E → ds.length = ["_law_pot_here"].length := sp1_len
/-- what is judged right is kinds -/
theorem wkGo_inv : ∀ {es : List D} {i : Nat} {b : Int}, wkGo i b es = none → ∃ kz, es = kz.map pairD ∧ KsOk (10 ^ 30) b kz ∧ (es = [] ∨ i + es.length ≤ 12)
  | [], _, _, _ => ⟨[], rfl, trivial, .inl rfl⟩
  | e :: es, i, b, h => by
    unfold wkGo at h
    split at h
    · rename_i s hs
      obtain ⟨kz, e1, k, l⟩ := wkGo_inv h
      unfold wkOne at hs
      split at hs
      · rename_i s' m
        split at hs
        · rename_i z
          cases hs
          have z3 : withinB m 1 (10 ^ 30) = true := (Bool.and_eq_true_iff.mp (Bool.and_eq_true_iff.mp z).2).2
          obtain ⟨n, rfl⟩ : ∃ n, m = D.int n := by cases m <;> first | exact ⟨_, rfl⟩ | (cases z3)
          simp only [withinB, Bool.and_eq_true, decide_eq_true_eq] at z
          obtain ⟨i12, ⟨g1, g2⟩, g3, g4⟩ := z
          refine ⟨(s, n) :: kz, by rw [e1]; rfl, ⟨by show b < s; omega, g2, g3, g4, k⟩, .inr ?_⟩
          rcases l with l | l
          · rw [l]; show i + 1 ≤ 12; omega
          · rw [List.length_cons]; omega
        · cases hs
      · cases hs
    · cases h
theorem wk_inv {d : D} (h : wkD d = .tup []) : ∃ kz, d = kD kz ∧ Kinds kz := by
  unfold wkD at h
  split at h
  · cases h
  · rename_i es hne
    split at h
    · cases h
    · rename_i hg
      obtain ⟨kz, e1, k, l⟩ := wkGo_inv hg
      have ne : es ≠ [] := fun z => hne z
      have l2 : 0 + es.length ≤ 12 := l.resolve_left ne
      refine ⟨kz, by rw [e1]; rfl, ⟨fun z => ne (by rw [e1, z]; rfl), ?_, k⟩⟩
      rw [e1, List.length_map] at l2
      omega
  · cases h
theorem wkD_lt {d : D} {i : Nat} (h : wkD d = .tup [.int i]) : i ≤ 12 := by
  unfold wkD at h
  split at h
  · cases h
  · split at h
    · rename_i hg
      have e := D.int.inj (List.cons.inj (D.tup.inj h)).1
      have := wkGo_lt (Nat.zero_le 12) hg
      omega
    · cases h
  · cases h
/-- what a lambda's body does -/
theorem lam_run {c : CT} {X : DXK} {Q : DVK} {k : D} {M : DHp} {tb : DWX → DTE} (ht : tb = tb_lam0 c ∨ tb = tb_lam1 c) (kn : knownK c k M) (q : wkD k = .tup [] → Q k M) (qe : ∀ i, wkD k = .tup [i] → X c.InvalidKinds ["index"] [i] M) : tb (fnW X) [some k] M Q := by
  have key : dPr (tab1 c.Heaps (sp_Heaps_kinds c)) (dMk true c.Heaps [0, 1] [] (sp_Heaps___init__ c) (fnW X) [dVar 0] []) [some k] M Q := by
    conv => whnf
    intro x nx
    refine ⟨x, rfl, up_same, knK_sub (sub_up nx) kn, fun e => ⟨rfl, ?_⟩, fun i e => ⟨M, sub_up nx, M, Sub.refl _, qe i e⟩⟩
    refine ⟨M, ["rows"], [k], ?_, nx, ?_⟩
    · rw [up_up]; exact Sub.refl _
    · conv => whnf
      refine wth_some (tab1_self _ _) ?_
      exact ⟨k, rfl, q e⟩
  rcases ht with rfl | rfl <;> exact key
/-- how the calls end -/
def EndsK (d : D) (w s : Str) : Prop := (wkD d = .tup [] → w = "told" ∧ RepOk d s) ∧ ∀ i, wkD d = .tup [i] → w = "kinds" ∧ RepOk i s
theorem one_end {c : CT} {d : D} {w s : Str} {f : Addr} {i : Nat} {l : LamI} {M : DHp} {kd : Addr → Option D} {R : DVK} (la : LamAt (lams c) M f l [d] kd) (hl : l.tb = tb_lam0 c ∨ l.tb = tb_lam1 c) (kn : knownK c d M) (he : EndsK d w s) (q : R (endD w s) M) : sp__law_ended c [.ref f] M R noX := by
  have hk : ∀ a e, kd a = some e → M a = some (.cel e) := let ⟨_, _, _, _, h, _⟩ := la; h
  refine ⟨f, l, [d], kd, rfl, la, lam_run hl (knK_del hk kn) (fun e => ?_) fun i e => ?_⟩
  · obtain ⟨ew, r⟩ := he.1 e
    subst ew
    refine endK_told r ?_
    rw [put_del hk]
    exact q
  · obtain ⟨ew, r⟩ := he.2 i e
    subst ew
    refine endX_kinds r ?_
    rw [put_del hk]
    exact q
theorem cel_new {ce : Nat → Addr} {τ : DSt} {d : D} {M : DHp} (ed : sl τ 2 = some d) (hc : M (ce 2) = none) : ∀ a e, celS ce [2] τ a = some e → M a = none := fun a e z => by rw [((cel_one ed).mp z).1]; exact hc
theorem all_end {c : CT} {d : D} {w s : Str} {l f0 f1 : Addr} {M : DHp} {ce : Nat → Addr} {τ : DSt} {Q : DVK} {X : DXK} (hl : M l = some (.lst [.ref f0, .ref f1])) (h0 : M f0 = some (.lam (c.lamd 0) 0 (cellsAt [2] ce))) (h1 : M f1 = some (.lam (c.lamd 1) 1 (cellsAt [2] ce))) (hc : M (ce 2) = none) (kn : knownK c d M) (ed : sl τ 2 = some d) (he : EndsK d w s) (q : Q (.bl true) (putM (celS ce [2] τ) M)) :
    sp__law_is_ended c [.ref l, endD w s] (putM (celS ce [2] τ) M) Q X := by
  have kdn := cel_new ed hc
  have out : ∀ {a o}, M a = some o → celS ce [2] τ a = none := fun {a o} e => by
    cases z : celS ce [2] τ a with
    | none => rfl
    | some v => rw [kdn a v z] at e; cases e
  have sub : Sub M (putM (celS ce [2] τ) M) := fun a o e => by rw [putM_out (out e)]; exact e
  have k2 : celS ce [2] τ (ce 2) = some d := (cel_one ed).mpr ⟨rfl, rfl⟩
  refine ⟨l, [f0, f1], w, s, rfl, sub _ _ hl, by show 2 ≤ 100; decide, rfl, fun f hf M1 s1 R r => ?_, q⟩
  have hk : ∀ a e, celS ce [2] τ a = some e → M1 a = some (.cel e) := fun a e z => s1 _ _ (putM_in z)
  have co : CsOk (cellsAt [2] ce) [d] (celS ce [2] τ) := ⟨rfl, fun n p v h1 h2 => by
    cases n with
    | zero => cases h1; cases h2; exact ⟨rfl, k2⟩
    | succ n => cases h2⟩
  have kn1 := knK_sub s1 (knK_sub sub kn)
  rcases List.mem_cons.mp hf with rfl | hf
  · exact one_end (i := 0) (l := ⟨c.lamd 0, 1, tb_lam0 c⟩) ⟨0, _, s1 _ _ (sub _ _ h0), rfl, hk, co, rfl⟩ (.inl rfl) kn1 he r
  · obtain rfl := List.mem_singleton.mp hf
    exact one_end (i := 1) (l := ⟨c.lamd 1, 1, tb_lam1 c⟩) ⟨1, _, s1 _ _ (sub _ _ h1), rfl, hk, co, rfl⟩ (.inr rfl) kn1 he r
section
variable {c : CT} {ce : Nat → Addr} {E : DXK} {E' : DEnds} {a : Addr} {d : D} {M : DHp} {o1 o3 o4 : Option D}
theorem subS5 {o1 o2 o3 o4 : Option D} : SubS [some (.ref a), none, none, none, none] [some (.ref a), o1, o2, o3, o4] := ⟨rfl, fun i e h => by
  match i, h with
  | 0, h => exact h
  | 1, h => cases h
  | 2, h => cases h
  | 3, h => cases h
  | 4, h => cases h⟩
theorem right_c2 {l f0 f1 : Addr} (b : BentK c d M 101) (hl : M l = some (.lst [.ref f0, .ref f1])) (h0 : M f0 = some (.lam (c.lamd 0) 0 (cellsAt [2] ce))) (h1 : M f1 = some (.lam (c.lamd 1) 1 (cellsAt [2] ce))) (hn : ∀ τ, SubS [some (.ref a), none, none, none, none] τ → E'.nx τ M) : t__law_right_c2 c ce (fnW E) E' [some (.ref a), o1, some d, some (.ref l), some (wrD d)] M := by
  rcases wkD_form d with ew | ⟨i, ew⟩ | ew
  · have wr : wrD d = .int (-1) := by unfold wrD; rw [ew]
    obtain ⟨kz, rfl, K⟩ := wk_inv ew
    have r := rep_kinds K
    rw [wr]
    conv => whnf
    refine ⟨sh_int, sh_int, ?_⟩
    conv => whnf
    refine ⟨r.run _, ?_⟩
    rw [r.eq]
    intro hc _
    have he : EndsK (kD kz) "told" (py (kD kz)).shown := ⟨fun _ => ⟨rfl, r⟩, fun i e => by rw [ew] at e; cases e⟩
    refine all_end (τ := [some (.ref a), o1, some (kD kz), some (.ref l), some (.int (-1))]) hl h0 h1 (hc 2 List.mem_cons_self) b.kd rfl he ⟨fun a e z => putM_in z, ?_⟩
    rw [del_put (cel_new rfl (hc 2 List.mem_cons_self))]
    conv => whnf
    exact hn _ subS5
  · have wr : wrD d = .int (i : Nat) := by unfold wrD; rw [ew]
    have i12 := wkD_lt ew
    have r := rep_int (i := (i : Nat)) (by rw [Int.natAbs_natCast]; exact Nat.lt_of_le_of_lt i12 (by decide))
    rw [wr]
    conv => whnf
    refine ⟨sh_int, sh_int, ?_⟩
    conv => whnf
    refine ⟨r.run _, ?_⟩
    rw [r.eq]
    intro hc _
    have he : EndsK d "kinds" (py (.int (i : Nat))).shown := ⟨fun e => (by rw [ew] at e; cases e), fun j e => (by rw [ew] at e; cases e; exact ⟨rfl, r⟩)⟩
    refine all_end (τ := [some (.ref a), o1, some d, some (.ref l), some (.int (i : Nat))]) hl h0 h1 (hc 2 List.mem_cons_self) b.kd rfl he ⟨fun a e z => putM_in z, ?_⟩
    rw [del_put (cel_new rfl (hc 2 List.mem_cons_self))]
    conv => whnf
    exact hn _ subS5
  · have wr : wrD d = .non := by unfold wrD; rw [ew]
    have r := rep_non
    rw [wr]
    conv => whnf
    refine ⟨rfl, sh_int, ?_⟩
    conv => whnf
    refine ⟨r.run _, ?_⟩
    rw [r.eq]
    intro hc _
    have he : EndsK d "kinds" (py .non).shown := ⟨fun e => (by rw [ew] at e; cases e), fun j e => (by rw [ew] at e; cases e; exact ⟨rfl, r⟩)⟩
    refine all_end (τ := [some (.ref a), o1, some d, some (.ref l), some .non]) hl h0 h1 (hc 2 List.mem_cons_self) b.kd rfl he ⟨fun a e z => putM_in z, ?_⟩
    rw [del_put (cel_new rfl (hc 2 List.mem_cons_self))]
    conv => whnf
    exact hn _ subS5
theorem right_c4 (b : BentK c d M 101) (tb : M (c.other "_law_right") = some (.tab lamQ)) (hn : ∀ τ M3, Sub M M3 → SubS [some (.ref a), none, none, none, none] τ → E'.nx τ M3) : t__law_right_c4 c ce (fnW E) E' [some (.ref a), o1, some d, o3, o4] M := by
  conv => whnf
  refine ⟨tb, fun f0 n0 nc0 nf0 => ?_⟩
  conv => whnf
  intro l nl
  have s0 : Sub M (up M f0 (.lam (c.lamd 0) 0 (cellsAt [2] ce))) := sub_up n0
  have s1 : Sub M (up (up M f0 (.lam (c.lamd 0) 0 (cellsAt [2] ce))) l (.lst [.ref f0])) := s0.trans (sub_up nl)
  conv => whnf
  refine ⟨(b.sub s1).kd, b.sh, ?_⟩
  conv => whnf
  refine ⟨⟨l, _, rfl, up_same⟩, s1 _ _ tb, fun f1 n1 nc1 nf1 => ?_⟩
  have s2 := s1.trans (sub_up (u := .lam (c.lamd 1) 1 (cellsAt [2] ce)) n1)
  have nl1 : l ≠ f1 := fun e => by rw [← e, up_same] at n1; cases n1
  have nl0 : f0 ≠ l := fun e => by rw [← e, up_same] at nl; cases nl
  have n01 : f0 ≠ f1 := fun e => by rw [← e, up_ne nl0, up_same] at n1; cases n1
  have l0 : M l = none := by rwa [up_ne (Ne.symm nl0)] at nl
  conv => whnf
  rw [up_ne nl1, up_same]
  conv => whnf
  refine ⟨by show 1 < sizeLine; rw [sizeLine_eq]; decide, ?_⟩
  have s3 : Sub M (up (up (up (up M f0 (.lam (c.lamd 0) 0 (cellsAt [2] ce))) l (.lst [.ref f0])) f1 (.lam (c.lamd 1) 1 (cellsAt [2] ce))) l (.lst ([.ref f0] ++ [.ref f1]))) := fun x o e => by
    rw [up_ne (fun z => by rw [z, l0] at e; cases e)]
    exact s2 _ _ e
  refine right_c2 (E := E) (b.sub s3) (l := l) (f0 := f0) (f1 := f1) up_same ?_ ?_ fun τ hs => hn τ _ s3 hs
  · rw [up_ne nl0, up_ne n01, up_ne nl0, up_same]
  · rw [up_ne (Ne.symm nl1), up_same]
theorem knk_put {u v : List D} {x : D} (em : M a = some (.lst u)) (h : known c x M) : known c x (up M a (.lst v)) := by
  cases x with
  | ref q =>
    by_cases e : q = a
    · subst e
      unfold known
      simp only [tyD, up_same]
    · unfold known at h ⊢
      simp only [tyD, up_ne e] at h ⊢
      exact h
  | _ => exact h
theorem BentK.more (b : BentK c d M 100) : BentK c d M 101 := ⟨b.kn, fun es e => ⟨(b.tup es e).1, Nat.le_trans (b.tup es e).2 (by decide)⟩⟩
theorem right_c5 {x y z : Int} (b : BentK c d M 100) (tb : M (c.other "_law_right") = some (.tab lamQ)) (em : M a = some (.lst [.int x, .int y, .int z])) (P : PotI x y z) (zb : z ≤ 10 ^ 9)
    (hn : ∀ τ M3 x' y' z', PotI x' y' z' → z' ≤ z + 1 → Sub (up M a (.lst [.int x', .int y', .int z'])) M3 → SubS [some (.ref a), none, none, none, none] τ → E'.nx τ M3) : t__law_right_c5 c ce (fnW E) E' [some (.ref a), o1, some d, o3, o4] M := by
  conv => whnf
  refine ⟨a, x, y, z, 4, rfl, rfl, by decide, by decide, em, P, zb, fun e x1 y1 z1 e0 e1 P1 b1 => ?_⟩
  have tb1 : up M a (.lst [.int x1, .int y1, .int z1]) (c.other "_law_right") = some (.tab lamQ) := by
    rw [up_ne (fun q => by rw [q, em] at tb; cases tb)]
    exact tb
  have b1' : BentK c d (up M a (.lst [.int x1, .int y1, .int z1])) 100 := ⟨knk_put em b.kn, b.tup⟩
  have hn' := fun τ M3 s h => hn τ M3 x1 y1 z1 P1 b1 s h
  generalize up M a (.lst [.int x1, .int y1, .int z1]) = M1 at tb1 b1' hn' ⊢
  have key : ∀ d', BentK c d' M1 101 → t__law_right_c4 c ce (fnW E) E' [some (.ref a), o1, some d', o3, o4] M1 := fun d' b' => right_c4 (E := E) b' tb1 hn'
  conv => whnf
  refine ⟨sh_int, sh_int, ?_⟩
  conv => whnf
  split
  · conv => whnf
    rcases tup_or d with ⟨es, rfl⟩ | ht
    · conv => whnf
      cases es with
      | nil =>
        refine ⟨rfl, rfl, ?_⟩
        conv => whnf
        exact key _ b1'.more
      | cons e0 er =>
        obtain ⟨he, hl⟩ := b1'.tup _ rfl
        refine ⟨(b1'.sh (by decide) _ rfl).1, rfl, ?_⟩
        conv => whnf
        have k0 := (he e0 List.mem_cons_self).kn c M1
        rw [show atI (e0 :: er) 0 = some e0 from at_zero]
        conv => whnf
        rcases tup_or e0 with ⟨fs, rfl⟩ | hne
        · conv => whnf
          refine ⟨line_1000 (by show (_ : Nat) + 1 ≤ 1000; omega), ?_⟩
          refine key _ (BentK.tup' (fun e he2 => ?_) (by rw [List.length_append]; show _ + 1 ≤ 101; omega))
          rcases List.mem_append.mp he2 with he2 | he2
          · exact he e he2
          · obtain rfl := List.mem_singleton.mp he2
            exact ElO.non.elk fun _ _ e => nomatch e
        · rcases not_tup k0 hne with ⟨t, g1, g2⟩ | ⟨C, g1, g2⟩
          · rw [g1]
            conv => whnf
            rw [g2]
            exact key _ b1'.more
          · rw [g1]
            exact ⟨g2, key _ b1'.more⟩
    · rcases not_tup b1'.kn ht with ⟨t, e1, e2⟩ | ⟨C, e1, e2⟩
      · conv => whnf
        rw [e1]
        conv => whnf
        rw [e2]
        exact key _ b1'.more
      · conv => whnf
        rw [e1]
        exact ⟨e2, key _ b1'.more⟩
  · exact key _ b1'.more
end
theorem pure__law_right (c : CT) (ce : Nat → Addr) : ∀ ds M Q E, sp__law_right c ds M Q E → t__law_right c ce (fnW E) (fnEnds Q) (startD N__law_right ds) M := sp1_of fun p M Q E h => by
  obtain ⟨a, x, y, z, rfl, em, P, zb, tb, q⟩ := h
  show t__law_right c ce (fnW E) (fnEnds Q) [some (.ref a), none, none, none, none] M
  conv => whnf
  refine ⟨by decide, by decide, ?_⟩
  refine for_nums (fun i τ M' => ∃ x y z, PotI x y z ∧ z ≤ 10 ^ 6 + 200 * i ∧ M' = up M a (.lst [.int x, .int y, .int z]) ∧ τ = [some (.ref a), none, none, none, none]) ?_ ?_ ⟨x, y, z, P, by omega, (up_self em).symm, rfl⟩
  · rintro τ M' ⟨x, y, z, P, zb, rfl, rfl⟩
    conv => whnf
    exact ⟨_, Sub.refl _, q _⟩
  · rintro i τ M' R hi ⟨x, y, z, P, zb, rfl, rfl⟩ hR
    have i8 : i < 8 := hi
    conv => whnf
    refine ⟨a, x, y, z, 12, 4, rfl, rfl, rfl, by decide, by decide, by decide, by decide, up_same, P, by omega, fun kz x1 y1 z1 dr pk P1 b1 => ?_⟩
    rw [up_up]
    conv => whnf
    refine ⟨a, x1, y1, z1, kz, rfl, rfl, up_same, dr, P1, by omega, fun d M1 x2 y2 z2 b P2 b2 s => ?_⟩
    rw [up_up] at s
    have tb1 : M1 (c.other "_law_right") = some (.tab lamQ) := s _ _ (by
      rw [up_ne (fun q => by rw [q, em] at tb; cases tb)]
      exact tb)
    refine right_c5 (E := E) b tb1 (s _ _ up_same) P2 (by omega) fun τ M3 x3 y3 z3 P3 b3 s3 hs => ?_
    refine hR _ (up M a (.lst [.int x3, .int y3, .int z3])) _ _ ⟨x3, y3, z3, P3, by omega, rfl, rfl⟩ hs fun u o e => ?_
    refine s3 _ _ ?_
    by_cases eu : u = a
    · subst eu; rw [up_same] at e ⊢; exact e
    · rw [up_ne eu] at e ⊢
      exact s _ _ (by rw [up_ne eu]; exact e)

def sp__law_quiet (c : CT) : DSp := sp1 fun p M Q _ => ∃ a x y z, p = .ref a ∧ M a = some (.lst [.int x, .int y, .int z]) ∧ PotI x y z ∧ z ≤ 10 ^ 6 ∧ M (c.other "_law_right") = some (.tab lamQ) ∧ ∀ o, Q (.bl true) (up M a o)
/-- _law_quiet: 0 _law_pot_here, 1 _law_is_right -/
def N__law_quiet : List Str := ["_law_pot_here", "_law_is_right"]
def t__law_quiet (c : CT) (W : DWX) : DTS :=
  dSeq (dAsg (dOwn [0] [] (sp__law_right c) noW [dVar 0] []) (dgName 1))
  (dRet (dVar 1))
theorem len__law_quiet (c : CT) : ∀ ds M Q E, sp__law_quiet c ds M Q E → ds.length = ["_law_pot_here"].length := sp1_len
theorem pure__law_quiet (c : CT) : ∀ ds M Q E, sp__law_quiet c ds M Q E → t__law_quiet c (fnW E) (fnEnds Q) (startD N__law_quiet ds) M := sp1_of fun p M Q E h => by
  obtain ⟨a, x, y, z, rfl, em, P, zb, tb, q⟩ := h
  show t__law_quiet c (fnW E) (fnEnds Q) [some (.ref a), none] M
  conv => whnf
  exact ⟨a, x, y, z, rfl, em, P, zb, tb, fun o => fn_rt (q o)⟩

def sp_law (c : CT) : DSp := sp1 fun s M Q _ => ∃ ns, s = .scr ns ∧ ns.length ≤ 63 ∧ M (c.other "_law_right") = some (.tab lamQ) ∧ Q (.bl true) M
/-- law: 0 _law_script, 1 _law_turn -/
def N_law : List Str := ["_law_script", "_law_turn"]
def t_law (c : CT) (W : DWX) : DTS :=
  dRet (dCB rAllD [dLc false (diRng1 (dCB rMax2 [dC (.int 2), dCB rMin2 [dCB rLen0D [dVar 0], dC (.int 5)]])) (dgName 1) dYes (dOwn [0] [] (sp__law_quiet c) noW [dOwn [0, 1] [] (sp__law_pot c) noW [dVar 0, dVar 1] []] []) [1]])
theorem len_law (c : CT) : ∀ ds M Q E, sp_law c ds M Q E → ds.length = ["_law_script"].length := sp1_len
theorem pure_law (c : CT) : ∀ ds M Q E, sp_law c ds M Q E → t_law c (fnW E) (fnEnds Q) (startD N_law ds) M := sp1_of fun s M Q E h => by
  obtain ⟨ns, rfl, nl, tb, q⟩ := h
  show t_law c (fnW E) (fnEnds Q) [some (.scr ns), none] M
  conv => whnf
  have top : ∀ n : Int, n ≤ 100 → -(2 ^ 62) ≤ n → n ≤ 1000000 ∧ -(2 ^ 62) ≤ n ∧ ∀ p, M p = none → lcR (fun _ => True) (dgName 1) dYes (dOwn [0] [] (sp__law_quiet c) noW [dOwn [0, 1] [] (sp__law_pot c) noW [dVar 0, dVar 1] []] []) [some (.scr ns), none] p (nums 0 n.toNat) [] M (lcEnd false p fun x M1 => dArgs [] [some (.scr ns), none] M1 fun ds M2 => rAllD (x :: ds) M2 (fnEnds Q).rt) := fun n n1 n0 => by
    refine ⟨by omega, n0, fun p np => lcR_mapS (f := fun _ => .bl true) (fun _ => trivial) np ?_ ?_⟩
    · intro x hx acc R r
      obtain ⟨k, rfl, k0, k1⟩ := nums_mem hx
      conv => whnf
      refine ⟨ns, k, rfl, rfl, k0, by omega, nl, fun u x1 y1 nu P1 => ?_⟩
      conv => whnf
      refine ⟨u, x1, y1, 0, rfl, up_same, P1, by decide, ?_, fun o => ?_⟩
      · have t1 : up M p (.lst acc) (c.other "_law_right") = some (.tab lamQ) := sub_up np _ _ tb
        exact sub_up nu _ _ t1
      exact r _ (by rw [up_up]; exact sub_up nu)
    · have e1 : [] ++ (nums 0 n.toNat).map (fun _ => D.bl true) = ((nums 0 n.toNat).map fun _ => true).map D.bl := by
        rw [List.nil_append, List.map_map]
        rfl
      rw [e1]
      conv => whnf
      rw [blsOf_map]
      have e2 : ((nums 0 n.toNat).map fun _ => true).all id = true := by
        rw [List.all_map]
        exact List.all_eq_true.mpr fun _ _ => rfl
      show (fnEnds Q).rt (.bl (((nums 0 n.toNat).map fun _ => true).all id)) M
      rw [e2]
      exact fn_rt q
  exact top _ (by split <;> split <;> omega) (by split <;> split <;> omega)
theorem law_starts (c : CT) (ns : List Int) (hl : ns.length ≤ 63) (_ : ∀ i ∈ ns, Builtin.Int.intBits i ≤ 1048576) (M : DHp) (h0 : M (c.other "_law_right") = some (.tab "_law_right.<locals>.<lambda>")) (Q : DVK) (hQ : ∀ M, Q (.bl true) M) : sp_law c [.scr ns] M Q noX := ⟨ns, rfl, hl, h0, hQ _⟩

end Rh
/-! ### the walk -/
namespace Rh
open PySem PySem.Spec PyProof.Rows L2 LamX NdefX
def topS (i : Nat) : Stmt := PySem.Challenge.pw_runheaps_k03_kinds_refused.main.body.getD i (.Pass ⟨0, 0, 0, 0⟩)
def inC (s : Stmt) (j : Nat) : Stmt := match s with
  | .ClassDef _ _ _ body _ _ _ _ _ _ _ => body.getD j (.Pass ⟨0, 0, 0, 0⟩)
  | _ => .Pass ⟨0, 0, 0, 0⟩
abbrev s__law_right : Stmt := topS 34
def lamL_0 : LamDesc := lamAt "_law_right.<locals>.<lambda>" (exE 0 (exE 0 (stV (stB 2 (stB 0 s__law_right))))) ["_law_thing"]
def lamL_1 : LamDesc := lamAt "_law_right.<locals>.<lambda>" (exE 0 (stV (stB 3 (stB 0 s__law_right)))) ["_law_thing"]
/-- what the walk uses of the written part -/
structure TF (K : PySem.W.Frag) (mg : Str → Option Value) (c : CT) : Prop where
  b_abs : mg "abs" = none
  b_all : mg "all" = none
  b_bool : mg "bool" = none
  b_divmod : mg "divmod" = none
  b_enumerate : mg "enumerate" = none
  b_int : mg "int" = none
  b_isinstance : mg "isinstance" = none
  b_len : mg "len" = none
  b_list : mg "list" = none
  b_max : mg "max" = none
  b_min : mg "min" = none
  b_range : mg "range" = none
  b_repr : mg "repr" = none
  b_tuple : mg "tuple" = none
  c_MOST_KINDS : ∃ t, mg "MOST_KINDS" = some (.int 12 t)
  c_MOST_MANY : ∃ t, mg "MOST_MANY" = some (.int 1000000000000000000000000000000 t)
  c_MOST_SIZE : ∃ t, mg "MOST_SIZE" = some (.int 1000000000000000000000000000000 t)
  g_Heaps : mg "Heaps" = some (.ref c.Heaps)
  g_InvalidKinds : mg "InvalidKinds" = some (.ref c.InvalidKinds)
  g_InvalidNumber : mg "InvalidNumber" = some (.ref c.InvalidNumber)
  g_InvalidRow : mg "InvalidRow" = some (.ref c.InvalidRow)
  g_InvalidTable : mg "InvalidTable" = some (.ref c.InvalidTable)
  g_InvalidText : mg "InvalidText" = some (.ref c.InvalidText)
  g_NoAnswer : mg "NoAnswer" = some (.ref c.NoAnswer)
  g_NoPlan : mg "NoPlan" = some (.ref c.NoPlan)
  g_NotHeaps : mg "NotHeaps" = some (.ref c.NotHeaps)
  g_WrongName : mg "WrongName" = some (.ref c.WrongName)
  g_WrongValue : mg "WrongValue" = some (.ref c.WrongValue)
  f_Heaps_rows : ∀ C, C = c.Heaps → Cls K C ∧ NoAttr K C "rows"
  i_int : ∀ C, kno c C → OwnC K C ∧ PySem.W.kitOne K (.ref C) (.type "int") = some false
  i_bool : ∀ C, kno c C → OwnC K C ∧ PySem.W.kitOne K (.ref C) (.type "bool") = some false
  i_tuple : ∀ C, kno c C → OwnC K C ∧ PySem.W.kitOne K (.ref C) (.type "tuple") = some false
  i_list : ∀ C, kno c C → OwnC K C ∧ PySem.W.kitOne K (.ref C) (.type "list") = some false
  xf_InvalidKinds_given : XfC K c.InvalidKinds ∧ PySem.W.findIn K (.ref c.InvalidKinds) "given" = some none
  xf_InvalidKinds_index : XfC K c.InvalidKinds ∧ PySem.W.findIn K (.ref c.InvalidKinds) "index" = some none
  lm_0 : c.lamd 0 = lamL_0
  lm_1 : c.lamd 1 = lamL_1
  ec_InvalidKinds : L2.ExcC K c.InvalidKinds
  ik_InvalidKinds_InvalidKinds : PySem.W.kitOne K (.ref c.InvalidKinds) (.ref c.InvalidKinds) = some true
  ik_InvalidKinds_InvalidNumber : PySem.W.kitOne K (.ref c.InvalidKinds) (.ref c.InvalidNumber) = some false
  ik_InvalidKinds_InvalidRow : PySem.W.kitOne K (.ref c.InvalidKinds) (.ref c.InvalidRow) = some false
  ik_InvalidKinds_InvalidTable : PySem.W.kitOne K (.ref c.InvalidKinds) (.ref c.InvalidTable) = some false
  ik_InvalidKinds_InvalidText : PySem.W.kitOne K (.ref c.InvalidKinds) (.ref c.InvalidText) = some false
  ik_InvalidKinds_NoAnswer : PySem.W.kitOne K (.ref c.InvalidKinds) (.ref c.NoAnswer) = some false
  ik_InvalidKinds_NoPlan : PySem.W.kitOne K (.ref c.InvalidKinds) (.ref c.NoPlan) = some false
  ik_InvalidKinds_NotHeaps : PySem.W.kitOne K (.ref c.InvalidKinds) (.ref c.NotHeaps) = some false
  ik_InvalidKinds_WrongName : PySem.W.kitOne K (.ref c.InvalidKinds) (.ref c.WrongName) = some false
  ik_InvalidKinds_WrongValue : PySem.W.kitOne K (.ref c.InvalidKinds) (.ref c.WrongValue) = some true
  exq__law_ended : ExqL K [c.InvalidKinds] [c.WrongValue, c.WrongName, c.NoAnswer]
abbrev s_InvalidKinds___init__ : Stmt := inC (topS 6) 0
theorem S_InvalidKinds___init__ : FnScope ["self", "index"] ["self", "index"] (defScope s_InvalidKinds___init__) := ⟨rfl, rfl, rfl, by decide +kernel, rfl, by decide +kernel, by decide +kernel⟩
abbrev s_is_integer : Stmt := topS 17
theorem S_is_integer : FnScope N_is_integer ["value"] (defScope s_is_integer) := ⟨rfl, rfl, rfl, by decide +kernel, rfl, by decide +kernel, by decide +kernel⟩
theorem dv_is_integer {P : Program} {w : World} {K : PySem.W.Frag} {mg : Str → Option Value} {base : Heap} {f : Addr} {cdv : Value} {A : Around} {outer : List Env} {s : Shared} {H : Hp} {E : XK} {O : Org} {W : DWX} {c : CT} (T : TF K mg c)
    (hG : A.guards = some []) (hr : Room 0 (A.deeper (envOfC "is_integer" (defScope s_is_integer) s.heap.objs.size f cdv))) (tk : L2N.Takes (cxOf (L2N.CX P w) P w K mg base N_is_integer "is_integer" (defScope s_is_integer) f cdv A outer s H E) (liftW K O W)) :
    DSs (cxOf (L2N.CX P w) P w K mg base N_is_integer "is_integer" (defScope s_is_integer) f cdv A outer s H E) O (defBody s_is_integer) (t_is_integer c W) :=
  dss_one (ds_ret (de_and (de_isi (T := .int) (by rfl) T.b_isinstance (by rfl) T.b_int bt_int (de_var (pv 0)) (T.i_int)) (de_one (de_not (de_isi (T := .bl) (by rfl) T.b_isinstance (by rfl) T.b_bool bt_bool (de_var (pv 0)) (T.i_bool))))))
theorem ok_is_integer {P : Program} {w : World} {K : PySem.W.Frag} {mg : Str → Option Value} {base : Heap} {f : Addr} {fd : FuncData} {c : CT} (F : FunD K "is_integer" "is_integer" (defArgs s_is_integer) (defBody s_is_integer) (defScope s_is_integer) [] [] f fd) (T : TF K mg c) :
    DFnG P w K mg base 1 f fd ["value"] (sp_is_integer c) :=
  dfnG_ok F S_is_integer (len_is_integer c) fun cdv A outer s H E O W hG hr tk => ⟨t_is_integer c W, dv_is_integer T hG hr tk, fun ds M Q E' h e => e ▸ pure_is_integer c ds M Q E' h⟩
abbrev s_is_within : Stmt := topS 18
theorem S_is_within : FnScope N_is_within ["value", "least", "most"] (defScope s_is_within) := ⟨rfl, rfl, rfl, by decide +kernel, rfl, by decide +kernel, by decide +kernel⟩
theorem dv_is_within {P : Program} {w : World} {K : PySem.W.Frag} {mg : Str → Option Value} {base : Heap} {f : Addr} {cdv : Value} {A : Around} {outer : List Env} {s : Shared} {H : Hp} {E : XK} {O : Org} {W : DWX} {c : CT} (T : TF K mg c) (c_is_integer_1 : OwnP P w K mg base 1 "is_integer" 1 [] [0] [] (sp_is_integer c))
    (hG : A.guards = some []) (hr : Room 1 (A.deeper (envOfC "is_within" (defScope s_is_within) s.heap.objs.size f cdv))) (tk : L2N.Takes (cxOf (L2N.CX P w) P w K mg base N_is_within "is_within" (defScope s_is_within) f cdv A outer s H E) (liftW K O W)) :
    DSs (cxOf (L2N.CX P w) P w K mg base N_is_within "is_within" (defScope s_is_within) f cdv A outer s H E) O (defBody s_is_within) (t_is_within c W) :=
  dss_one (ds_ret (de_and (de_ownP c_is_integer_1 hG hr (by decide) (by rfl) takes_no (dak (das_cons (de_var (pv 0)) (das_nil)) (dks_nil))) (de_one (de_chain op_le ref_le op_le ref_le (de_var (pv 1)) (de_var (pv 0)) (de_var (pv 2))))))
theorem ok_is_within {P : Program} {w : World} {K : PySem.W.Frag} {mg : Str → Option Value} {base : Heap} {f : Addr} {fd : FuncData} {c : CT} (F : FunD K "is_within" "is_within" (defArgs s_is_within) (defBody s_is_within) (defScope s_is_within) [] [] f fd) (T : TF K mg c) (c_is_integer_1 : OwnP P w K mg base 1 "is_integer" 1 [] [0] [] (sp_is_integer c)) :
    DFnG P w K mg base 2 f fd ["value", "least", "most"] (sp_is_within c) :=
  dfnG_ok F S_is_within (len_is_within c) fun cdv A outer s H E O W hG hr tk => ⟨t_is_within c W, dv_is_within T c_is_integer_1 hG hr tk, fun ds M Q E' h e => e ▸ pure_is_within c ds M Q E' h⟩
abbrev s_wrong_kind : Stmt := topS 21
theorem S_wrong_kind : FnScope N_wrong_kind ["kinds"] (defScope s_wrong_kind) := ⟨rfl, rfl, rfl, by decide +kernel, rfl, by decide +kernel, by decide +kernel⟩
theorem dv_wrong_kind {P : Program} {w : World} {K : PySem.W.Frag} {mg : Str → Option Value} {base : Heap} {f : Addr} {cdv : Value} {A : Around} {outer : List Env} {s : Shared} {H : Hp} {E : XK} {O : Org} {W : DWX} {c : CT} (T : TF K mg c) (c_is_within_3 : OwnP P w K mg base 2 "is_within" 3 [] [0, 1, 2] [] (sp_is_within c))
    (hG : A.guards = some []) (hr : Room 2 (A.deeper (envOfC "wrong_kind" (defScope s_wrong_kind) s.heap.objs.size f cdv))) (tk : L2N.Takes (cxOf (L2N.CX P w) P w K mg base N_wrong_kind "wrong_kind" (defScope s_wrong_kind) f cdv A outer s H E) (liftW K O W)) :
    DSs (cxOf (L2N.CX P w) P w K mg base N_wrong_kind "wrong_kind" (defScope s_wrong_kind) f cdv A outer s H E) O (defBody s_wrong_kind) (t_wrong_kind c W) :=
  dss_cons (ds_if (dw (dw_or (dt_not (dt_truth (de_isi (T := .tup) (by rfl) T.b_isinstance (by rfl) T.b_tuple bt_tuple (de_var (pv 0)) (T.i_tuple)))) (dw_or1 (dt_cmp (op_eqA (hu64 hr)) ref_eq (de_callB len_all ref_len (by rfl) T.b_len bt_len (das_cons (de_var (pv 0)) (das_nil))) (de_c pe_int rfl) (nomark _))))) (dss_one (ds_ret (de_tup (das_cons (de_c pe_non rfl) (das_nil))))) (dss_nil))
      (dss_cons (ds_set (i := 1) S_wrong_kind.nd rfl (.inl rfl) (de_c pe_int rfl))
      (dss_cons (ds_for (vs := [2, 3]) (by first | exact PassesOwn.never | exact passes_of rfl) rfl (di_enum (by rfl) T.b_enumerate (de_var (pv 0))) (pg_tup rfl (pgs_cons (pg_name (i := 2) S_wrong_kind.nd rfl (.inl rfl)) (pgs_cons (pg_name (i := 3) S_wrong_kind.nd rfl (.inl rfl)) (pgs_nil)))) (ref_gTup (ref_gCons (ref_gName (by decide)) (ref_gCons (ref_gName (by decide)) (ref_gNil)))) (dss_cons (ds_if (dw (dw_or (dt_not (dt_truth (de_isi (T := .tup) (by rfl) T.b_isinstance (by rfl) T.b_tuple bt_tuple (de_var (pv 3)) (T.i_tuple)))) (dw_or (dt_cmp (op_neA (hu64 hr)) ref_ne (de_callB len_all ref_len (by rfl) T.b_len bt_len (das_cons (de_var (pv 3)) (das_nil))) (de_c pe_int rfl) (nomark _)) (dw_or1 (dt_cmp op_ge ref_ge (de_var (pv 2)) (de_c (pe_gi (by rfl) T.c_MOST_KINDS) rfl) (nomark _)))))) (dss_one (ds_ret (de_tup (das_cons (de_var (pv 2)) (das_nil))))) (dss_nil))
      (dss_cons (ds_if (dw (dw_or (dt_not (dt_truth (de_ownP c_is_within_3 hG hr (by decide) (by rfl) takes_no (dak (das_cons (de_ix (de_var (pv 3)) (de_c pe_int rfl) (fun _ _ => rfl)) (das_cons (de_op op_addAll (ref_add (mu := false)) (de_var (pv 1)) (de_c pe_int rfl)) (das_cons (de_c (pe_gi (by rfl) T.c_MOST_SIZE) rfl) (das_nil)))) (dks_nil))))) (dw_or1 (dt_not (dt_truth (de_ownP c_is_within_3 hG hr (by decide) (by rfl) takes_no (dak (das_cons (de_ix (de_var (pv 3)) (de_c pe_int rfl) (fun _ _ => rfl)) (das_cons (de_c pe_int rfl) (das_cons (de_c (pe_gi (by rfl) T.c_MOST_MANY) rfl) (das_nil)))) (dks_nil)))))))) (dss_one (ds_ret (de_tup (das_cons (de_var (pv 2)) (das_nil))))) (dss_nil))
      (dss_one (ds_set (i := 1) S_wrong_kind.nd rfl (.inl rfl) (de_ix (de_var (pv 3)) (de_c pe_int rfl) (fun _ _ => rfl)))))))
      (dss_one (ds_ret (de_tup (das_nil))))))
theorem ok_wrong_kind {P : Program} {w : World} {K : PySem.W.Frag} {mg : Str → Option Value} {base : Heap} {f : Addr} {fd : FuncData} {c : CT} (F : FunD K "wrong_kind" "wrong_kind" (defArgs s_wrong_kind) (defBody s_wrong_kind) (defScope s_wrong_kind) [] [] f fd) (T : TF K mg c) (c_is_within_3 : OwnP P w K mg base 2 "is_within" 3 [] [0, 1, 2] [] (sp_is_within c)) :
    DFnG P w K mg base 3 f fd ["kinds"] (sp_wrong_kind c) :=
  dfnG_ok F S_wrong_kind (len_wrong_kind c) fun cdv A outer s H E O W hG hr tk => ⟨t_wrong_kind c W, dv_wrong_kind T c_is_within_3 hG hr tk, fun ds M Q E' h e => e ▸ pure_wrong_kind c ds M Q E' h⟩
abbrev s_Heaps___init__ : Stmt := inC (topS 24) 0
theorem S_Heaps___init__ : FnScope N_Heaps___init__ ["self", "kinds"] (defScope s_Heaps___init__) := ⟨rfl, rfl, rfl, by decide +kernel, rfl, by decide +kernel, by decide +kernel⟩
theorem dv_Heaps___init__ {P : Program} {w : World} {K : PySem.W.Frag} {mg : Str → Option Value} {base : Heap} {f : Addr} {cdv : Value} {A : Around} {outer : List Env} {s : Shared} {H : Hp} {E : XK} {O : Org} {W : DWX} {c : CT} (T : TF K mg c) (c_wrong_kind_1 : OwnP P w K mg base 3 "wrong_kind" 1 [] [0] [] (sp_wrong_kind c)) (x_InvalidKinds : XcP P w K mg base c.InvalidKinds "index")
    (hG : A.guards = some []) (hr : Room 3 (A.deeper (envOfC "Heaps.__init__" (defScope s_Heaps___init__) s.heap.objs.size f cdv))) (tk : L2N.Takes (cxOf (L2N.CX P w) P w K mg base N_Heaps___init__ "Heaps.__init__" (defScope s_Heaps___init__) f cdv A outer s H E) (liftW K O W)) :
    DSs (cxOf (L2N.CX P w) P w K mg base N_Heaps___init__ "Heaps.__init__" (defScope s_Heaps___init__) f cdv A outer s H E) O (defBody s_Heaps___init__) (t_Heaps___init__ c W) :=
  dss_cons (ds_set (i := 2) S_Heaps___init__.nd rfl (.inl rfl) (de_ownP c_wrong_kind_1 hG hr (by decide) (by rfl) tk (dak (das_cons (de_var (pv 1)) (das_nil)) (dks_nil))))
      (dss_cons (ds_if (dt_cmp (op_neA (hu64 hr)) ref_ne (de_var (pv 2)) (de_tup (das_nil)) (nomark _)) (dss_one (ds_raise x_InvalidKinds (hr.mono (by decide)) (by rfl) T.g_InvalidKinds rfl tk (de_ix (de_var (pv 2)) (de_c pe_int rfl) (fun _ _ => rfl)))) (dss_nil))
      (dss_one (ds_fld (PC := fun C => C = c.Heaps) T.f_Heaps_rows (de_var (pv 0)) (de_var (pv 1)))))
theorem ok_Heaps___init__ {P : Program} {w : World} {K : PySem.W.Frag} {mg : Str → Option Value} {base : Heap} {f : Addr} {fd : FuncData} {c : CT} (F : FunD K "__init__" "Heaps.__init__" (defArgs s_Heaps___init__) (defBody s_Heaps___init__) (defScope s_Heaps___init__) [] [] f fd) (T : TF K mg c) (c_wrong_kind_1 : OwnP P w K mg base 3 "wrong_kind" 1 [] [0] [] (sp_wrong_kind c)) (x_InvalidKinds : XcP P w K mg base c.InvalidKinds "index") :
    DFnG P w K mg base 4 f fd ["self", "kinds"] (sp_Heaps___init__ c) :=
  dfnG_ok F S_Heaps___init__ (len_Heaps___init__ c) fun cdv A outer s H E O W hG hr tk => ⟨t_Heaps___init__ c W, dv_Heaps___init__ T c_wrong_kind_1 x_InvalidKinds hG hr tk, fun ds M Q E' h e => e ▸ pure_Heaps___init__ c ds M Q E' h⟩
abbrev s_Heaps_kinds : Stmt := inC (topS 24) 2
theorem S_Heaps_kinds : FnScope N_Heaps_kinds ["self"] (defScope s_Heaps_kinds) := ⟨rfl, rfl, rfl, by decide +kernel, rfl, by decide +kernel, by decide +kernel⟩
theorem dv_Heaps_kinds {P : Program} {w : World} {K : PySem.W.Frag} {mg : Str → Option Value} {base : Heap} {f : Addr} {cdv : Value} {A : Around} {outer : List Env} {s : Shared} {H : Hp} {E : XK} {O : Org} {W : DWX} {c : CT} (T : TF K mg c)
    (hG : A.guards = some []) (hr : Room 0 (A.deeper (envOfC "Heaps.kinds" (defScope s_Heaps_kinds) s.heap.objs.size f cdv))) (tk : L2N.Takes (cxOf (L2N.CX P w) P w K mg base N_Heaps_kinds "Heaps.kinds" (defScope s_Heaps_kinds) f cdv A outer s H E) (liftW K O W)) :
    DSs (cxOf (L2N.CX P w) P w K mg base N_Heaps_kinds "Heaps.kinds" (defScope s_Heaps_kinds) f cdv A outer s H E) O (defBody s_Heaps_kinds) (t_Heaps_kinds c W) :=
  dss_one (ds_ret (de_fld (PC := fun C => C = c.Heaps) T.f_Heaps_rows (de_var (pv 0))))
theorem ok_Heaps_kinds {P : Program} {w : World} {K : PySem.W.Frag} {mg : Str → Option Value} {base : Heap} {f : Addr} {fd : FuncData} {c : CT} (F : FunD K "kinds" "Heaps.kinds" (defArgs s_Heaps_kinds) (defBody s_Heaps_kinds) (defScope s_Heaps_kinds) [] [] f fd) (T : TF K mg c) :
    DFnG P w K mg base 1 f fd ["self"] (sp_Heaps_kinds c) :=
  dfnG_ok F S_Heaps_kinds (len_Heaps_kinds c) fun cdv A outer s H E O W hG hr tk => ⟨t_Heaps_kinds c W, dv_Heaps_kinds T hG hr tk, fun ds M Q E' h e => e ▸ pure_Heaps_kinds c ds M Q E' h⟩
abbrev s__law_pot : Stmt := topS 26
theorem S__law_pot : FnScope N__law_pot ["_law_script", "_law_turn"] (defScope s__law_pot) := ⟨rfl, rfl, rfl, by decide +kernel, rfl, by decide +kernel, by decide +kernel⟩
theorem dv__law_pot {P : Program} {w : World} {K : PySem.W.Frag} {mg : Str → Option Value} {base : Heap} {f : Addr} {cdv : Value} {A : Around} {outer : List Env} {s : Shared} {H : Hp} {E : XK} {O : Org} {W : DWX} {c : CT} (T : TF K mg c)
    (hG : A.guards = some []) (hr : Room 0 (A.deeper (envOfC "_law_pot" (defScope s__law_pot) s.heap.objs.size f cdv))) (tk : L2N.Takes (cxOf (L2N.CX P w) P w K mg base N__law_pot "_law_pot" (defScope s__law_pot) f cdv A outer s H E) (liftW K O W)) :
    DSs (cxOf (L2N.CX P w) P w K mg base N__law_pot "_law_pot" (defScope s__law_pot) f cdv A outer s H E) O (defBody s__law_pot) (t__law_pot c W) :=
  dss_cons (ds_set (i := 2) S__law_pot.nd rfl (.inl rfl) (de_if (dt_cmp op_lt ref_lt (de_var (pv 1)) (de_callB len_all ref_len (by rfl) T.b_len bt_len (das_cons (de_var (pv 0)) (das_nil))) (nomark _)) (de_ix (de_var (pv 0)) (de_var (pv 1)) (fun _ _ => rfl)) (de_op op_addAll (ref_add (mu := false)) (de_op op_mulAll (ref_mul (mu := false)) (de_c pe_int rfl) (de_var (pv 1))) (de_c pe_int rfl))))
      (dss_cons (ds_set (i := 3) S__law_pot.nd rfl (.inl rfl) (de_op op_addAll (ref_add (mu := false)) (de_c pe_int rfl) (de_op op_mulAll (ref_mul (mu := false)) (de_c pe_int rfl) (de_var (pv 1)))))
      (dss_cons (ds_for (vs := [4]) (by first | exact PassesOwn.never | exact passes_of rfl) rfl (di_seq (de_op op_addAll (ref_add (mu := false)) (de_lst false (das_cons (de_var (pv 2)) (das_nil))) (de_slice false (de_var (pv 0)) (do_none) (do_some (de_c pe_int rfl))))) (pg_name (i := 4) S__law_pot.nd rfl (.inl rfl)) (ref_gName (by decide)) (dss_one (ds_set (i := 3) S__law_pot.nd rfl (.inl rfl) (de_op op_mod ref_mod (de_callTy int_all ref_int (by rfl) T.b_int bt_int (das_cons (de_op op_addAll (ref_add (mu := false)) (de_op op_mulAll (ref_mul (mu := false)) (de_var (pv 3)) (de_c pe_int rfl)) (de_var (pv 4))) (das_nil))) (de_c pe_int rfl)))))
      (dss_one (ds_ret (de_lst true (das_cons (de_if (dt_cmp op_ge ref_ge (de_callB call_abs ref_abs (by rfl) T.b_abs bt_abs (das_cons (de_var (pv 2)) (das_nil))) (de_op op_pow ref_pow (de_c pe_int rfl) (de_c pe_int rfl)) (nomark _)) (de_callB call_abs ref_abs (by rfl) T.b_abs bt_abs (das_cons (de_var (pv 2)) (das_nil))) (de_c pe_int rfl)) (das_cons (de_var (pv 3)) (das_cons (de_c pe_int rfl) (das_nil)))))))))
theorem ok__law_pot {P : Program} {w : World} {K : PySem.W.Frag} {mg : Str → Option Value} {base : Heap} {f : Addr} {fd : FuncData} {c : CT} (F : FunD K "_law_pot" "_law_pot" (defArgs s__law_pot) (defBody s__law_pot) (defScope s__law_pot) [] [] f fd) (T : TF K mg c) :
    DFnG P w K mg base 1 f fd ["_law_script", "_law_turn"] (sp__law_pot c) :=
  dfnG_ok F S__law_pot (len__law_pot c) fun cdv A outer s H E O W hG hr tk => ⟨t__law_pot c W, dv__law_pot T hG hr tk, fun ds M Q E' h e => e ▸ pure__law_pot c ds M Q E' h⟩
abbrev s__law_scoop : Stmt := topS 27
theorem S__law_scoop : FnScope N__law_scoop ["_law_pot_here", "_law_many_ways"] (defScope s__law_scoop) := ⟨rfl, rfl, rfl, by decide +kernel, rfl, by decide +kernel, by decide +kernel⟩
theorem dv__law_scoop {P : Program} {w : World} {K : PySem.W.Frag} {mg : Str → Option Value} {base : Heap} {f : Addr} {cdv : Value} {A : Around} {outer : List Env} {s : Shared} {H : Hp} {E : XK} {O : Org} {W : DWX} {c : CT} (T : TF K mg c)
    (hG : A.guards = some []) (hr : Room 0 (A.deeper (envOfC "_law_scoop" (defScope s__law_scoop) s.heap.objs.size f cdv))) (tk : L2N.Takes (cxOf (L2N.CX P w) P w K mg base N__law_scoop "_law_scoop" (defScope s__law_scoop) f cdv A outer s H E) (liftW K O W)) :
    DSs (cxOf (L2N.CX P w) P w K mg base N__law_scoop "_law_scoop" (defScope s__law_scoop) f cdv A outer s H E) O (defBody s__law_scoop) (t__law_scoop c W) :=
  dss_cons (ds_if (dt_cmp op_gt ref_gt (de_ix (de_var (pv 0)) (de_c pe_int rfl) (fun _ _ => rfl)) (de_c pe_int rfl) (nomark _)) (dss_cons (ds_asg (vs := [2]) (de_callB call_divmodW ref_divmod (by rfl) T.b_divmod bt_divmod (das_cons (de_ix (de_var (pv 0)) (de_c pe_int rfl) (fun _ _ => rfl)) (das_cons (de_var (pv 1)) (das_nil)))) (pg_tup rfl (pgs_cons (pg_sub (de_var (pv 0)) (de_c pe_int rfl) set_list) (pgs_cons (pg_name (i := 2) S__law_scoop.nd rfl (.inl rfl)) (pgs_nil)))) (ref_gTup (ref_gCons (ref_gSub) (ref_gCons (ref_gName (by decide)) (ref_gNil)))))
      (dss_one (ds_ret (de_var (pv 2))))) (dss_nil))
      (dss_cons (ds_asg (vs := []) (de_op op_addAll (ref_add (mu := false)) (de_ix (de_var (pv 0)) (de_c pe_int rfl) (fun _ _ => rfl)) (de_c pe_int rfl)) (pg_sub (de_var (pv 0)) (de_c pe_int rfl) set_list) (ref_gSub))
      (dss_cons (ds_asg (vs := []) (de_op op_mod ref_mod (de_callTy int_all ref_int (by rfl) T.b_int bt_int (das_cons (de_op op_addAll (ref_add (mu := false)) (de_op op_mulAll (ref_mul (mu := false)) (de_ix (de_var (pv 0)) (de_c pe_int rfl) (fun _ _ => rfl)) (de_c pe_int rfl)) (de_op op_mulAll (ref_mul (mu := false)) (de_c pe_int rfl) (de_ix (de_var (pv 0)) (de_c pe_int rfl) (fun _ _ => rfl)))) (das_nil))) (de_c pe_int rfl)) (pg_sub (de_var (pv 0)) (de_c pe_int rfl) set_list) (ref_gSub))
      (dss_one (ds_ret (de_op op_mod ref_mod (de_callTy int_all ref_int (by rfl) T.b_int bt_int (das_cons (de_op op_fdivW ref_div (de_ix (de_var (pv 0)) (de_c pe_int rfl) (fun _ _ => rfl)) (de_c pe_int rfl)) (das_nil))) (de_var (pv 1)))))))
theorem ok__law_scoop {P : Program} {w : World} {K : PySem.W.Frag} {mg : Str → Option Value} {base : Heap} {f : Addr} {fd : FuncData} {c : CT} (F : FunD K "_law_scoop" "_law_scoop" (defArgs s__law_scoop) (defBody s__law_scoop) (defScope s__law_scoop) [] [] f fd) (T : TF K mg c) :
    DFnG P w K mg base 1 f fd ["_law_pot_here", "_law_many_ways"] (sp__law_scoop c) :=
  dfnG_ok F S__law_scoop (len__law_scoop c) fun cdv A outer s H E O W hG hr tk => ⟨t__law_scoop c W, dv__law_scoop T hG hr tk, fun ds M Q E' h e => e ▸ pure__law_scoop c ds M Q E' h⟩
abbrev s__law_few : Stmt := topS 28
theorem S__law_few : FnScope N__law_few ["_law_pot_here", "_law_high", "_law_top"] (defScope s__law_few) := ⟨rfl, rfl, rfl, by decide +kernel, rfl, by decide +kernel, by decide +kernel⟩
theorem dv__law_few {P : Program} {w : World} {K : PySem.W.Frag} {mg : Str → Option Value} {base : Heap} {f : Addr} {cdv : Value} {A : Around} {outer : List Env} {s : Shared} {H : Hp} {E : XK} {O : Org} {W : DWX} {c : CT} (T : TF K mg c) (c__law_scoop_2 : OwnP P w K mg base 1 "_law_scoop" 2 [] [0, 1] [] (sp__law_scoop c))
    (hG : A.guards = some []) (hr : Room 1 (A.deeper (envOfC "_law_few" (defScope s__law_few) s.heap.objs.size f cdv))) (tk : L2N.Takes (cxOf (L2N.CX P w) P w K mg base N__law_few "_law_few" (defScope s__law_few) f cdv A outer s H E) (liftW K O W)) :
    DSs (cxOf (L2N.CX P w) P w K mg base N__law_few "_law_few" (defScope s__law_few) f cdv A outer s H E) O (defBody s__law_few) (t__law_few c W) :=
  dss_cons (ds_par (i := 3) (j := 4) rfl S__law_few.nd rfl rfl (by decide) rfl rfl (de_lst true (das_nil)) (de_c pe_int rfl) (by rfl))
      (dss_cons (ds_for (vs := [5]) (by first | exact PassesOwn.never | exact passes_of rfl) rfl (di_range1 (by rfl) T.b_range (de_op op_addAll (ref_add (mu := false)) (de_c pe_int rfl) (de_ownP c__law_scoop_2 hG hr (by decide) (by rfl) takes_no (dak (das_cons (de_var (pv 0)) (das_cons (de_var (pv 1)) (das_nil))) (dks_nil))))) (pg_name (i := 5) S__law_few.nd rfl (.inl rfl)) (ref_gName (by decide)) (dss_cons (ds_set (i := 4) S__law_few.nd rfl (.inl rfl) (de_op op_addAll (ref_add (mu := false)) (de_op op_addAll (ref_add (mu := false)) (de_var (pv 4)) (de_c pe_int rfl)) (de_ownP c__law_scoop_2 hG hr (by decide) (by rfl) takes_no (dak (das_cons (de_var (pv 0)) (das_cons (de_c pe_int rfl) (das_nil))) (dks_nil)))))
      (dss_one (ds_expr (de_append (de_var (pv 3)) (de_tup (das_cons (de_var (pv 4)) (das_cons (de_op op_addAll (ref_add (mu := false)) (de_c pe_int rfl) (de_ownP c__law_scoop_2 hG hr (by decide) (by rfl) takes_no (dak (das_cons (de_var (pv 0)) (das_cons (de_var (pv 2)) (das_nil))) (dks_nil)))) (das_nil)))))))))
      (dss_one (ds_ret (de_callTy call_tupleF ref_tuple (by rfl) T.b_tuple bt_tuple (das_cons (de_var (pv 3)) (das_nil))))))
theorem ok__law_few {P : Program} {w : World} {K : PySem.W.Frag} {mg : Str → Option Value} {base : Heap} {f : Addr} {fd : FuncData} {c : CT} (F : FunD K "_law_few" "_law_few" (defArgs s__law_few) (defBody s__law_few) (defScope s__law_few) [] [] f fd) (T : TF K mg c) (c__law_scoop_2 : OwnP P w K mg base 1 "_law_scoop" 2 [] [0, 1] [] (sp__law_scoop c)) :
    DFnG P w K mg base 2 f fd ["_law_pot_here", "_law_high", "_law_top"] (sp__law_few c) :=
  dfnG_ok F S__law_few (len__law_few c) fun cdv A outer s H E O W hG hr tk => ⟨t__law_few c W, dv__law_few T c__law_scoop_2 hG hr tk, fun ds M Q E' h e => e ▸ pure__law_few c ds M Q E' h⟩
abbrev s__law_ended : Stmt := topS 29
theorem lrun_0 {P : Program} {w : World} {K : PySem.W.Frag} {mg : Str → Option Value} {base : Heap} {c : CT} (T : TF K mg c) (k_Heaps_1 : MkP P w K mg base 4 c.Heaps 1 [] [0, 1] [] (sp_Heaps___init__ c)) (p_kinds : PrOk P w K mg base 1 "kinds" (tab1 c.Heaps (sp_Heaps_kinds c))) : LamRun P w K mg base 5 ⟨c.lamd 0, 1, tb_lam0 c⟩ := by
  rw [T.lm_0]
  exact ⟨nscope_by (show nscB lamL_0.N [] lamL_0.N lamL_0.scope = true from by decide +kernel), rfl, fun _ _ _ _ => rfl, fun A outer s H E f c' cl O' W hG hr tk => de_pr (de_mkP true k_Heaps_1 T.g_Heaps hG hr (by decide) (by rfl) tk (dak (das_cons (de_var (pv 0)) (das_nil)) (dks_nil))) p_kinds hG hr (by decide)⟩
theorem lrun_1 {P : Program} {w : World} {K : PySem.W.Frag} {mg : Str → Option Value} {base : Heap} {c : CT} (T : TF K mg c) (k_Heaps_0_kinds : MkP P w K mg base 4 c.Heaps 0 ["kinds"] [0, 1] [] (sp_Heaps___init__ c)) (p_kinds : PrOk P w K mg base 1 "kinds" (tab1 c.Heaps (sp_Heaps_kinds c))) : LamRun P w K mg base 5 ⟨c.lamd 1, 1, tb_lam1 c⟩ := by
  rw [T.lm_1]
  exact ⟨nscope_by (show nscB lamL_1.N [] lamL_1.N lamL_1.scope = true from by decide +kernel), rfl, fun _ _ _ _ => rfl, fun A outer s H E f c' cl O' W hG hr tk => de_pr (de_mkP true k_Heaps_0_kinds T.g_Heaps hG hr (by decide) (by rfl) tk (dak0 (dks_cons (de_var (pv 0)) (dks_nil)))) p_kinds hG hr (by decide)⟩
theorem S__law_ended : FnScope N__law_ended ["_law_act"] (defScope s__law_ended) := ⟨rfl, rfl, rfl, by decide +kernel, rfl, by decide +kernel, by decide +kernel⟩
theorem dv__law_ended {P : Program} {w : World} {K : PySem.W.Frag} {mg : Str → Option Value} {base : Heap} {f : Addr} {cdv : Value} {A : Around} {outer : List Env} {s : Shared} {H : Hp} {E : XK} {O : Org} {W : DWX} {c : CT} (T : TF K mg c) (lk : ∀ (i : Nat) (l : LamI), (lams c)[i]? = some l → LamRun P w K mg base 5 l)
    (hG : A.guards = some []) (hr : Room 6 (A.deeper (envOfC "_law_ended" (defScope s__law_ended) s.heap.objs.size f cdv))) (tk : L2N.Takes (cxOf (L2N.CX P w) P w K mg base N__law_ended "_law_ended" (defScope s__law_ended) f cdv A outer s H E) (liftW K O W)) :
    DSs (cxOf (L2N.CX P w) P w K mg base N__law_ended "_law_ended" (defScope s__law_ended) f cdv A outer s H E) O (defBody s__law_ended) (t__law_ended c W) :=
  dss_cons (ds_try_one (i := 2) (Cs := [c.InvalidKinds]) rfl rfl S__law_ended.nd T.exq__law_ended ⟨(by rfl), (by decide), .inl T.g_WrongValue⟩ ⟨(by rfl), (by decide), .inl T.g_WrongName⟩ ⟨(by rfl), (by decide), .inl T.g_NoAnswer⟩ ⟨rfl, rfl⟩ (fun O' W pn xe fr tk => dss_one (ds_set (i := 1) S__law_ended.nd rfl (.inl rfl) (de_actV (k := 5) rfl (.inl rfl) hG (hr.mono (by decide)) tk lk))) (su_cons (fun a oe d pn O' ns ds hz hf xd => dss_cons (ds_set (i := 3) S__law_ended.nd rfl (.inl rfl) (de_lst false (das_cons (de_lst false (das_cons (de_isX rfl T.ec_InvalidKinds hz hf xd (by rfl) T.b_isinstance (by rfl) T.g_InvalidKinds T.ik_InvalidKinds_InvalidKinds (de_var (pv 2))) (das_cons (de_c pe_str rfl) (das_nil)))) (das_cons (de_lst false (das_cons (de_isX rfl T.ec_InvalidKinds hz hf xd (by rfl) T.b_isinstance (by rfl) T.g_InvalidText T.ik_InvalidKinds_InvalidText (de_var (pv 2))) (das_cons (de_c pe_str rfl) (das_nil)))) (das_nil)))))       (dss_cons (ds_set (i := 3) S__law_ended.nd rfl (.inl rfl) (de_op op_addAll (ref_add (mu := false)) (de_var (pv 3)) (de_lst false (das_cons (de_lst false (das_cons (de_isX rfl T.ec_InvalidKinds hz hf xd (by rfl) T.b_isinstance (by rfl) T.g_NotHeaps T.ik_InvalidKinds_NotHeaps (de_var (pv 2))) (das_cons (de_c pe_str rfl) (das_nil)))) (das_cons (de_lst false (das_cons (de_isX rfl T.ec_InvalidKinds hz hf xd (by rfl) T.b_isinstance (by rfl) T.g_InvalidNumber T.ik_InvalidKinds_InvalidNumber (de_var (pv 2))) (das_cons (de_c pe_str rfl) (das_nil)))) (das_nil))))))       (dss_cons (ds_set (i := 3) S__law_ended.nd rfl (.inl rfl) (de_op op_addAll (ref_add (mu := false)) (de_var (pv 3)) (de_lst false (das_cons (de_lst false (das_cons (de_isX rfl T.ec_InvalidKinds hz hf xd (by rfl) T.b_isinstance (by rfl) T.g_InvalidTable T.ik_InvalidKinds_InvalidTable (de_var (pv 2))) (das_cons (de_c pe_str rfl) (das_nil)))) (das_cons (de_lst false (das_cons (de_isX rfl T.ec_InvalidKinds hz hf xd (by rfl) T.b_isinstance (by rfl) T.g_InvalidRow T.ik_InvalidKinds_InvalidRow (de_var (pv 2))) (das_cons (de_c pe_str rfl) (das_nil)))) (das_nil))))))       (dss_cons (ds_set (i := 4) S__law_ended.nd rfl (.inl rfl) (de_join (pe_join (de_c pe_str rfl) (de_lcH (own := [("_law_pair", 7)]) false (hot_suite hz hf) S__law_ended.nd (de_op op_addAll (ref_add (mu := false)) (de_var (pv 3)) (de_lst false (das_cons (de_lst false (das_cons (de_isX rfl T.ec_InvalidKinds hz hf xd (by rfl) T.b_isinstance (by rfl) T.g_NoPlan T.ik_InvalidKinds_NoPlan (de_var (pv 2))) (das_cons (de_c pe_str rfl) (das_nil)))) (das_nil)))) (blkOk_by (N := N__law_ended) (sc := defScope s__law_ended) (by decide +kernel)) (fun _ _ _ _ _ => pg_name (i := 7) S__law_ended.nd rfl (.inl rfl)) (ref_gName (by decide)) (fun _ _ _ _ _ => dts_one (dt_truth (de_ix (de_var (pv 7)) (de_c pe_int rfl) (fun _ _ => rfl)))) (fun _ _ _ _ _ => de_ix (de_var (pv 7)) (de_c pe_int rfl) (fun _ _ => rfl))))))       (dss_cons (ds_parH (i := 5) (j := 6) (hot_suite hz hf) S__law_ended.nd rfl rfl (by decide) rfl rfl (de_cmp (op_eqA (by have z := hu64 hr; exact z)) ref_eq (de_var (pv 4)) (de_c pe_str rfl) (nomark _)) (de_lst false (das_cons (de_isX rfl T.ec_InvalidKinds hz hf xd (by rfl) T.b_isinstance (by rfl) T.g_WrongValue T.ik_InvalidKinds_WrongValue (de_var (pv 2))) (das_cons (de_isX rfl T.ec_InvalidKinds hz hf xd (by rfl) T.b_isinstance (by rfl) T.g_WrongName T.ik_InvalidKinds_WrongName (de_var (pv 2))) (das_cons (de_isX rfl T.ec_InvalidKinds hz hf xd (by rfl) T.b_isinstance (by rfl) T.g_NoAnswer T.ik_InvalidKinds_NoAnswer (de_var (pv 2))) (das_nil))))) (by rfl))       (dss_cons (ds_if (dt_cmp (op_neA (by have z := hu64 hr; exact z)) ref_ne (de_var (pv 6)) (de_lst false (das_cons (de_not (de_var (pv 5))) (das_cons (de_c pe_bl rfl) (das_cons (de_var (pv 5)) (das_nil))))) (nomark _)) (dss_one (ds_ret (de_lst false (das_cons (de_c pe_str rfl) (das_cons (de_c pe_str rfl) (das_nil)))))) (dss_nil))       (dss_cons (ds_if (dt_truth (de_var (pv 5))) (dss_one (ds_ret (de_lst false (das_cons (de_c pe_str rfl) (das_cons (de_c pe_str rfl) (das_nil)))))) (dss_nil))       (dss_one (ds_ret (de_lst false (das_cons (de_var (pv 4)) (das_cons (de_if (dt_cmp op_inAll (ref_in (neg := false)) (de_var (pv 4)) (de_lst false (das_cons (de_c pe_str rfl) (das_cons (de_c pe_str rfl) (das_cons (de_c pe_str rfl) (das_nil))))) (by rfl)) (de_callB (call_reprH (by have z := hG; exact z) (by have z := hu200 hr; exact z)) ref_repr (by rfl) T.b_repr bt_repr (das_cons (de_xf rfl T.xf_InvalidKinds_index.1 T.xf_InvalidKinds_index.2 hz hf xd (de_var (pv 2))) (das_nil))) (de_callB (call_reprH (by have z := hG; exact z) (by have z := hu200 hr; exact z)) ref_repr (by rfl) T.b_repr bt_repr (das_cons (de_xf rfl T.xf_InvalidKinds_given.1 T.xf_InvalidKinds_given.2 hz hf xd (de_var (pv 2))) (das_nil)))) (das_nil))))))))))))) su_nil))
      (dss_one (ds_ret (de_lst false (das_cons (de_c pe_str rfl) (das_cons (de_callB (call_reprD hG hr) ref_repr (by rfl) T.b_repr bt_repr (das_cons (de_var (pv 1)) (das_nil))) (das_nil))))))
theorem ok__law_ended {P : Program} {w : World} {K : PySem.W.Frag} {mg : Str → Option Value} {base : Heap} {f : Addr} {fd : FuncData} {c : CT} (F : FunD K "_law_ended" "_law_ended" (defArgs s__law_ended) (defBody s__law_ended) (defScope s__law_ended) [] [] f fd) (T : TF K mg c) (lk : ∀ (i : Nat) (l : LamI), (lams c)[i]? = some l → LamRun P w K mg base 5 l) :
    DFnG P w K mg base 7 f fd ["_law_act"] (sp__law_ended c) :=
  dfnG_ok F S__law_ended (len__law_ended c) fun cdv A outer s H E O W hG hr tk => ⟨t__law_ended c W, dv__law_ended T lk hG hr tk, fun ds M Q E' h e => e ▸ pure__law_ended c ds M Q E' h⟩
abbrev s__law_is_ended : Stmt := topS 30
theorem S__law_is_ended : FnScope N__law_is_ended ["_law_acts", "_law_due"] (defScope s__law_is_ended) := ⟨rfl, rfl, rfl, by decide +kernel, rfl, by decide +kernel, by decide +kernel⟩
theorem dv__law_is_ended {P : Program} {w : World} {K : PySem.W.Frag} {mg : Str → Option Value} {base : Heap} {f : Addr} {cdv : Value} {A : Around} {outer : List Env} {s : Shared} {H : Hp} {E : XK} {O : Org} {W : DWX} {c : CT} (T : TF K mg c) (c__law_ended_1 : OwnP P w K mg base 7 "_law_ended" 1 [] [0] [] (sp__law_ended c))
    (hG : A.guards = some []) (hr : Room 7 (A.deeper (envOfC "_law_is_ended" (defScope s__law_is_ended) s.heap.objs.size f cdv))) (tk : L2N.Takes (cxOf (L2N.CX P w) P w K mg base N__law_is_ended "_law_is_ended" (defScope s__law_is_ended) f cdv A outer s H E) (liftW K O W)) :
    DSs (cxOf (L2N.CX P w) P w K mg base N__law_is_ended "_law_is_ended" (defScope s__law_is_ended) f cdv A outer s H E) O (defBody s__law_is_ended) (t__law_is_ended c W) :=
  dss_one (ds_ret (de_cmp (op_eqP (hu64 hr)) ref_eqP (de_lc (own := [("_law_act", 2)]) false rfl S__law_is_ended.nd (di_seq (de_var (pv 0))) (blkOk_by (N := N__law_is_ended) (sc := defScope s__law_is_ended) (by decide +kernel)) (fun _ _ _ _ _ => pg_name (i := 2) S__law_is_ended.nd rfl (.inl rfl)) (ref_gName (by decide)) (fun _ _ _ _ _ => dts_nil) (fun _ _ _ _ _ => de_ownP c__law_ended_1 hG hr (by decide) (by rfl) takes_no (dak (das_cons (de_var (pv 2)) (das_nil)) (dks_nil)))) (de_op op_mulAll (ref_mul (mu := false)) (de_lst false (das_cons (de_var (pv 1)) (das_nil))) (de_callB len_all ref_len (by rfl) T.b_len bt_len (das_cons (de_var (pv 0)) (das_nil)))) (nomark _)))
theorem ok__law_is_ended {P : Program} {w : World} {K : PySem.W.Frag} {mg : Str → Option Value} {base : Heap} {f : Addr} {fd : FuncData} {c : CT} (F : FunD K "_law_is_ended" "_law_is_ended" (defArgs s__law_is_ended) (defBody s__law_is_ended) (defScope s__law_is_ended) [] [] f fd) (T : TF K mg c) (c__law_ended_1 : OwnP P w K mg base 7 "_law_ended" 1 [] [0] [] (sp__law_ended c)) :
    DFnG P w K mg base 8 f fd ["_law_acts", "_law_due"] (sp__law_is_ended c) :=
  dfnG_ok F S__law_is_ended (len__law_is_ended c) fun cdv A outer s H E O W hG hr tk => ⟨t__law_is_ended c W, dv__law_is_ended T c__law_ended_1 hG hr tk, fun ds M Q E' h e => e ▸ pure__law_is_ended c ds M Q E' h⟩
abbrev s__law_is_figure : Stmt := topS 31
theorem S__law_is_figure : FnScope N__law_is_figure ["_law_thing", "_law_least_here"] (defScope s__law_is_figure) := ⟨rfl, rfl, rfl, by decide +kernel, rfl, by decide +kernel, by decide +kernel⟩
theorem dv__law_is_figure {P : Program} {w : World} {K : PySem.W.Frag} {mg : Str → Option Value} {base : Heap} {f : Addr} {cdv : Value} {A : Around} {outer : List Env} {s : Shared} {H : Hp} {E : XK} {O : Org} {W : DWX} {c : CT} (T : TF K mg c)
    (hG : A.guards = some []) (hr : Room 0 (A.deeper (envOfC "_law_is_figure" (defScope s__law_is_figure) s.heap.objs.size f cdv))) (tk : L2N.Takes (cxOf (L2N.CX P w) P w K mg base N__law_is_figure "_law_is_figure" (defScope s__law_is_figure) f cdv A outer s H E) (liftW K O W)) :
    DSs (cxOf (L2N.CX P w) P w K mg base N__law_is_figure "_law_is_figure" (defScope s__law_is_figure) f cdv A outer s H E) O (defBody s__law_is_figure) (t__law_is_figure c W) :=
  dss_one (ds_ret (de_and (de_isi (T := .int) (by rfl) T.b_isinstance (by rfl) T.b_int bt_int (de_var (pv 0)) (T.i_int)) (de_and (de_not (de_isi (T := .bl) (by rfl) T.b_isinstance (by rfl) T.b_bool bt_bool (de_var (pv 0)) (T.i_bool))) (de_one (de_chain op_le ref_le op_le ref_le (de_var (pv 1)) (de_var (pv 0)) (de_op op_pow ref_pow (de_c pe_int rfl) (de_c pe_int rfl)))))))
theorem ok__law_is_figure {P : Program} {w : World} {K : PySem.W.Frag} {mg : Str → Option Value} {base : Heap} {f : Addr} {fd : FuncData} {c : CT} (F : FunD K "_law_is_figure" "_law_is_figure" (defArgs s__law_is_figure) (defBody s__law_is_figure) (defScope s__law_is_figure) [] [] f fd) (T : TF K mg c) :
    DFnG P w K mg base 1 f fd ["_law_thing", "_law_least_here"] (sp__law_is_figure c) :=
  dfnG_ok F S__law_is_figure (len__law_is_figure c) fun cdv A outer s H E O W hG hr tk => ⟨t__law_is_figure c W, dv__law_is_figure T hG hr tk, fun ds M Q E' h e => e ▸ pure__law_is_figure c ds M Q E' h⟩
abbrev s__law_wrong : Stmt := topS 32
theorem S__law_wrong : FnScope N__law_wrong ["_law_thing"] (defScope s__law_wrong) := ⟨rfl, rfl, rfl, by decide +kernel, rfl, by decide +kernel, by decide +kernel⟩
theorem dv__law_wrong {P : Program} {w : World} {K : PySem.W.Frag} {mg : Str → Option Value} {base : Heap} {f : Addr} {cdv : Value} {A : Around} {outer : List Env} {s : Shared} {H : Hp} {E : XK} {O : Org} {W : DWX} {c : CT} (T : TF K mg c) (c__law_is_figure_2 : OwnP P w K mg base 1 "_law_is_figure" 2 [] [0, 1] [] (sp__law_is_figure c))
    (hG : A.guards = some []) (hr : Room 1 (A.deeper (envOfC "_law_wrong" (defScope s__law_wrong) s.heap.objs.size f cdv))) (tk : L2N.Takes (cxOf (L2N.CX P w) P w K mg base N__law_wrong "_law_wrong" (defScope s__law_wrong) f cdv A outer s H E) (liftW K O W)) :
    DSs (cxOf (L2N.CX P w) P w K mg base N__law_wrong "_law_wrong" (defScope s__law_wrong) f cdv A outer s H E) O (defBody s__law_wrong) (t__law_wrong c W) :=
  dss_cons (ds_if (dw (dw_or (dt_not (dt_truth (de_isi (T := .tup) (by rfl) T.b_isinstance (by rfl) T.b_tuple bt_tuple (de_var (pv 0)) (T.i_tuple)))) (dw_or1 (dt_cmp (op_eqA (hu64 hr)) ref_eq (de_var (pv 0)) (de_tup (das_nil)) (nomark _))))) (dss_one (ds_ret (de_c pe_non rfl))) (dss_nil))
      (dss_cons (ds_set (i := 1) S__law_wrong.nd rfl (.inl rfl) (de_c pe_int rfl))
      (dss_cons (ds_for (vs := [2]) (by first | exact PassesOwn.never | exact passes_of rfl) rfl (di_range1 (by rfl) T.b_range (de_callB len_all ref_len (by rfl) T.b_len bt_len (das_cons (de_var (pv 0)) (das_nil)))) (pg_name (i := 2) S__law_wrong.nd rfl (.inl rfl)) (ref_gName (by decide)) (dss_cons (ds_set (i := 3) S__law_wrong.nd rfl (.inl rfl) (de_ix (de_var (pv 0)) (de_var (pv 2)) (fun _ _ => rfl)))
      (dss_cons (ds_if (dw (dw_or (dt_cmp (op_eqA (hu64 hr)) ref_eq (de_var (pv 2)) (de_c pe_int rfl) (nomark _)) (dw_or (dt_not (dt_truth (de_isi (T := .tup) (by rfl) T.b_isinstance (by rfl) T.b_tuple bt_tuple (de_var (pv 3)) (T.i_tuple)))) (dw_or1 (dt_cmp (op_neA (hu64 hr)) ref_ne (de_callB len_all ref_len (by rfl) T.b_len bt_len (das_cons (de_var (pv 3)) (das_nil))) (de_c pe_int rfl) (nomark _)))))) (dss_one (ds_ret (de_var (pv 2)))) (dss_nil))
      (dss_cons (ds_if (dw (dw_or (dt_not (dt_truth (de_ownP c__law_is_figure_2 hG hr (by decide) (by rfl) takes_no (dak (das_cons (de_ix (de_var (pv 3)) (de_c pe_int rfl) (fun _ _ => rfl)) (das_cons (de_op op_addAll (ref_add (mu := false)) (de_var (pv 1)) (de_c pe_int rfl)) (das_nil))) (dks_nil))))) (dw_or1 (dt_not (dt_truth (de_ownP c__law_is_figure_2 hG hr (by decide) (by rfl) takes_no (dak (das_cons (de_ix (de_var (pv 3)) (de_c pe_int rfl) (fun _ _ => rfl)) (das_cons (de_c pe_int rfl) (das_nil))) (dks_nil)))))))) (dss_one (ds_ret (de_var (pv 2)))) (dss_nil))
      (dss_one (ds_set (i := 1) S__law_wrong.nd rfl (.inl rfl) (de_ix (de_var (pv 3)) (de_c pe_int rfl) (fun _ _ => rfl))))))))
      (dss_one (ds_ret (de_neg (de_c pe_int rfl))))))
theorem ok__law_wrong {P : Program} {w : World} {K : PySem.W.Frag} {mg : Str → Option Value} {base : Heap} {f : Addr} {fd : FuncData} {c : CT} (F : FunD K "_law_wrong" "_law_wrong" (defArgs s__law_wrong) (defBody s__law_wrong) (defScope s__law_wrong) [] [] f fd) (T : TF K mg c) (c__law_is_figure_2 : OwnP P w K mg base 1 "_law_is_figure" 2 [] [0, 1] [] (sp__law_is_figure c)) :
    DFnG P w K mg base 2 f fd ["_law_thing"] (sp__law_wrong c) :=
  dfnG_ok F S__law_wrong (len__law_wrong c) fun cdv A outer s H E O W hG hr tk => ⟨t__law_wrong c W, dv__law_wrong T c__law_is_figure_2 hG hr tk, fun ds M Q E' h e => e ▸ pure__law_wrong c ds M Q E' h⟩
abbrev s__law_bent : Stmt := topS 33
theorem S__law_bent : FnScope N__law_bent ["_law_pot_here", "_law_kinds_here"] (defScope s__law_bent) := ⟨rfl, rfl, rfl, by decide +kernel, rfl, by decide +kernel, by decide +kernel⟩
theorem dv__law_bent {P : Program} {w : World} {K : PySem.W.Frag} {mg : Str → Option Value} {base : Heap} {f : Addr} {cdv : Value} {A : Around} {outer : List Env} {s : Shared} {H : Hp} {E : XK} {O : Org} {W : DWX} {c : CT} (T : TF K mg c) (c__law_scoop_2 : OwnP P w K mg base 1 "_law_scoop" 2 [] [0, 1] [] (sp__law_scoop c))
    (hG : A.guards = some []) (hr : Room 1 (A.deeper (envOfC "_law_bent" (defScope s__law_bent) s.heap.objs.size f cdv))) (tk : L2N.Takes (cxOf (L2N.CX P w) P w K mg base N__law_bent "_law_bent" (defScope s__law_bent) f cdv A outer s H E) (liftW K O W)) :
    DSs (cxOf (L2N.CX P w) P w K mg base N__law_bent "_law_bent" (defScope s__law_bent) f cdv A outer s H E) O (defBody s__law_bent) (t__law_bent c W) :=
  dss_cons (ds_par (i := 2) (j := 3) rfl S__law_bent.nd rfl rfl (by decide) rfl rfl (de_ownP c__law_scoop_2 hG hr (by decide) (by rfl) takes_no (dak (das_cons (de_var (pv 0)) (das_cons (de_c pe_int rfl) (das_nil))) (dks_nil))) (de_ownP c__law_scoop_2 hG hr (by decide) (by rfl) takes_no (dak (das_cons (de_var (pv 0)) (das_cons (de_callB len_all ref_len (by rfl) T.b_len bt_len (das_cons (de_var (pv 1)) (das_nil))) (das_nil))) (dks_nil))) (by rfl))
      (dss_cons (ds_par (i := 4) (j := 5) rfl S__law_bent.nd rfl rfl (by decide) rfl rfl (de_ix (de_var (pv 1)) (de_var (pv 3)) (fun _ _ => rfl)) (de_ownP c__law_scoop_2 hG hr (by decide) (by rfl) takes_no (dak (das_cons (de_var (pv 0)) (das_cons (de_c pe_int rfl) (das_nil))) (dks_nil))) (by rfl))
      (dss_cons (ds_set (i := 6) S__law_bent.nd rfl (.inl rfl) (de_lst false (das_cons (de_c pe_int rfl) (das_cons (de_neg (de_c pe_int rfl)) (das_cons (de_c pe_bl rfl) (das_cons (de_c pe_non rfl) (das_cons (de_c pe_str rfl) (das_cons (de_tup (das_cons (de_c pe_int rfl) (das_nil))) (das_cons (de_lst false (das_nil)) (das_cons (de_op op_pow ref_pow (de_c pe_int rfl) (de_c pe_int rfl)) (das_cons (de_op op_addAll (ref_add (mu := false)) (de_op op_pow ref_pow (de_c pe_int rfl) (de_c pe_int rfl)) (de_c pe_int rfl)) (das_cons (de_ix (de_ix (de_var (pv 1)) (de_op op_sub ref_sub (de_var (pv 3)) (de_c pe_int rfl)) (fun _ _ => rfl)) (de_c pe_int rfl) (fun _ _ => rfl)) (das_cons (de_c pe_int rfl) (das_cons (de_c pe_bl rfl) (das_nil)))))))))))))))
      (dss_cons (ds_set (i := 7) S__law_bent.nd rfl (.inl rfl) (de_ix (de_var (pv 6)) (de_ownP c__law_scoop_2 hG hr (by decide) (by rfl) takes_no (dak (das_cons (de_var (pv 0)) (das_cons (de_c pe_int rfl) (das_nil))) (dks_nil))) (fun _ _ => rfl)))
      (dss_cons (ds_if (dt_cmp (op_eqA (hu64 hr)) ref_eq (de_var (pv 2)) (de_c pe_int rfl) (nomark _)) (dss_one (ds_ret (de_ix (de_lst false (das_cons (de_callTy (call_listA rfl) (ref_listA (mu := false)) (by rfl) T.b_list bt_list (das_cons (de_var (pv 1)) (das_nil))) (das_cons (de_tup (das_nil)) (das_cons (de_c pe_non rfl) (das_cons (de_c pe_str rfl) (das_cons (de_c pe_int rfl) (das_cons (de_dnew) (das_cons (de_ix (de_var (pv 1)) (de_c pe_int rfl) (fun _ _ => rfl)) (das_cons (de_revT (de_var (pv 1))) (das_nil)))))))))) (de_ownP c__law_scoop_2 hG hr (by decide) (by rfl) takes_no (dak (das_cons (de_var (pv 0)) (das_cons (de_c pe_int rfl) (das_nil))) (dks_nil))) (fun _ _ => rfl)))) (dss_nil))
      (dss_cons (ds_if (dt_cmp (op_eqA (hu64 hr)) ref_eq (de_var (pv 2)) (de_c pe_int rfl) (nomark _)) (dss_cons (ds_set (i := 8) S__law_bent.nd rfl (.inr rfl) (de_ix (de_ix (de_var (pv 1)) (de_neg (de_c pe_int rfl)) (fun _ _ => rfl)) (de_c pe_int rfl) (fun _ _ => rfl)))
      (dss_one (ds_ret (de_op op_addAll (ref_add (mu := false)) (de_var (pv 1)) (de_callTy call_tupleF ref_tuple (by rfl) T.b_tuple bt_tuple (das_cons (de_lc (own := [("_law_k", 10)]) false rfl S__law_bent.nd (di_range1 (by rfl) T.b_range (de_op op_addAll (ref_add (mu := false)) (de_op op_sub ref_sub (de_c pe_int rfl) (de_callB len_all ref_len (by rfl) T.b_len bt_len (das_cons (de_var (pv 1)) (das_nil)))) (de_ownP c__law_scoop_2 hG hr (by decide) (by rfl) takes_no (dak (das_cons (de_var (pv 0)) (das_cons (de_c pe_int rfl) (das_nil))) (dks_nil))))) (blkOk_by (N := N__law_bent) (sc := defScope s__law_bent) (by decide +kernel)) (fun _ _ _ _ _ => pg_name (i := 10) S__law_bent.nd rfl (.inl rfl)) (ref_gName (by decide)) (fun _ _ _ _ _ => dts_nil) (fun _ _ _ _ _ => de_tup (das_cons (de_op op_addAll (ref_add (mu := false)) (de_op op_addAll (ref_add (mu := false)) (de_var (pv 8)) (de_c pe_int rfl)) (de_var (pv 10))) (das_cons (de_c pe_int rfl) (das_nil))))) (das_nil))))))) (dss_nil))
      (dss_cons (ds_set (i := 9) S__law_bent.nd rfl (.inl rfl) (de_var (pv 4)))
      (dss_cons (ds_if (dt_cmp (op_eqA (hu64 hr)) ref_eq (de_var (pv 2)) (de_c pe_int rfl) (nomark _)) (dss_one (ds_set (i := 9) S__law_bent.nd rfl (.inl rfl) (de_ix (de_lst false (das_cons (de_c pe_non rfl) (das_cons (de_tup (das_nil)) (das_cons (de_slice false (de_var (pv 4)) (do_none) (do_some (de_c pe_int rfl))) (das_cons (de_op op_addAll (ref_add (mu := false)) (de_var (pv 4)) (de_tup (das_cons (de_c pe_int rfl) (das_nil)))) (das_cons (de_callTy (call_listA rfl) (ref_listA (mu := false)) (by rfl) T.b_list bt_list (das_cons (de_var (pv 4)) (das_nil))) (das_cons (de_c pe_int rfl) (das_cons (de_c pe_str rfl) (das_nil))))))))) (de_ownP c__law_scoop_2 hG hr (by decide) (by rfl) takes_no (dak (das_cons (de_var (pv 0)) (das_cons (de_c pe_int rfl) (das_nil))) (dks_nil))) (fun _ _ => rfl)))) (dss_nil))
      (dss_cons (ds_if (dt_cmp op_inAll (ref_in (neg := false)) (de_var (pv 2)) (de_lst false (das_cons (de_c pe_int rfl) (das_cons (de_c pe_int rfl) (das_nil)))) (by rfl)) (dss_one (ds_set (i := 9) S__law_bent.nd rfl (.inl rfl) (de_op op_addAll (ref_add (mu := false)) (de_op op_addAll (ref_add (mu := false)) (de_slice false (de_var (pv 4)) (do_none) (do_some (de_var (pv 5)))) (de_tup (das_cons (de_var (pv 7)) (das_nil)))) (de_slice false (de_var (pv 4)) (do_some (de_op op_addAll (ref_add (mu := false)) (de_var (pv 5)) (de_c pe_int rfl))) (do_none))))) (dss_nil))
      (dss_cons (ds_if (dt_cmp (op_eqA (hu64 hr)) ref_eq (de_var (pv 2)) (de_c pe_int rfl) (nomark _)) (dss_one (ds_ret (de_op op_addAll (ref_add (mu := false)) (de_op op_addAll (ref_add (mu := false)) (de_slice false (de_var (pv 1)) (do_none) (do_some (de_var (pv 3)))) (de_tup (das_cons (de_var (pv 4)) (das_nil)))) (de_slice false (de_var (pv 1)) (do_some (de_var (pv 3))) (do_none))))) (dss_nil))
      (dss_one (ds_ret (de_op op_addAll (ref_add (mu := false)) (de_op op_addAll (ref_add (mu := false)) (de_slice false (de_var (pv 1)) (do_none) (do_some (de_var (pv 3)))) (de_tup (das_cons (de_var (pv 9)) (das_nil)))) (de_slice false (de_var (pv 1)) (do_some (de_op op_addAll (ref_add (mu := false)) (de_var (pv 3)) (de_c pe_int rfl))) (do_none))))))))))))))
theorem ok__law_bent {P : Program} {w : World} {K : PySem.W.Frag} {mg : Str → Option Value} {base : Heap} {f : Addr} {fd : FuncData} {c : CT} (F : FunD K "_law_bent" "_law_bent" (defArgs s__law_bent) (defBody s__law_bent) (defScope s__law_bent) [] [] f fd) (T : TF K mg c) (c__law_scoop_2 : OwnP P w K mg base 1 "_law_scoop" 2 [] [0, 1] [] (sp__law_scoop c)) :
    DFnG P w K mg base 2 f fd ["_law_pot_here", "_law_kinds_here"] (sp__law_bent c) :=
  dfnG_ok F S__law_bent (len__law_bent c) fun cdv A outer s H E O W hG hr tk => ⟨t__law_bent c W, dv__law_bent T c__law_scoop_2 hG hr tk, fun ds M Q E' h e => e ▸ pure__law_bent c ds M Q E' h⟩
theorem S__law_right : FnScope N__law_right ["_law_pot_here"] (defScope s__law_right) := ⟨rfl, rfl, rfl, by decide +kernel, rfl, by decide +kernel, by decide +kernel⟩
theorem dv__law_right {P : Program} {w : World} {K : PySem.W.Frag} {mg : Str → Option Value} {base : Heap} {f : Addr} {cc : Addr} {A : Around} {outer : List Env} {s : Shared} {H : Hp} {E : XK} {O : Org} {W : DWX} {c : CT} (T : TF K mg c) (TB : TabB base mg cc (c.other "_law_right")) (c__law_bent_2 : OwnP P w K mg base 2 "_law_bent" 2 [] [0, 1] [] (sp__law_bent c)) (c__law_few_3 : OwnP P w K mg base 2 "_law_few" 3 [] [0, 1, 2] [] (sp__law_few c)) (c__law_is_ended_2 : OwnP P w K mg base 8 "_law_is_ended" 2 [] [0, 1] [] (sp__law_is_ended c)) (c__law_scoop_2 : OwnP P w K mg base 1 "_law_scoop" 2 [] [0, 1] [] (sp__law_scoop c)) (c__law_wrong_1 : OwnP P w K mg base 2 "_law_wrong" 1 [] [0] [] (sp__law_wrong c))
    (hG : A.guards = some []) (hr : Room 8 (A.deeper (envOfC "_law_right" (defScope s__law_right) s.heap.objs.size f (.ref cc)))) (tk : L2N.Takes (cxOf (L2N.CX P w) P w K mg base N__law_right "_law_right" (defScope s__law_right) f (.ref cc) A outer s H E) (liftW K O W)) :
    DSs (cxOf (L2N.CX P w) P w K mg base N__law_right "_law_right" (defScope s__law_right) f (.ref cc) A outer s H E) O (defBody s__law_right) (t__law_right c (ceS (cxOf (L2N.CX P w) P w K mg base N__law_right "_law_right" (defScope s__law_right) f (.ref cc) A outer s H E)) W) :=
  dss_cons (ds_for (vs := [1]) (by first | exact PassesOwn.never | exact passes_of rfl) rfl (di_range1 (by rfl) T.b_range (de_c pe_int rfl)) (pg_name (i := 1) S__law_right.nd rfl (.inl rfl)) (ref_gName (by decide)) (dss_cons (ds_set (i := 2) S__law_right.nd rfl (.inr rfl) (de_ownP c__law_bent_2 hG hr (by decide) (by rfl) takes_no (dak (das_cons (de_var (pv 0)) (das_cons (de_ownP c__law_few_3 hG hr (by decide) (by rfl) takes_no (dak (das_cons (de_var (pv 0)) (das_cons (de_c pe_int rfl) (das_cons (de_c pe_int rfl) (das_nil)))) (dks_nil))) (das_nil))) (dks_nil))))
      (dss_cons (ds_if (dw (dw_and (dt_cmp (op_eqA (hu64 hr)) ref_eq (de_ownP c__law_scoop_2 hG hr (by decide) (by rfl) takes_no (dak (das_cons (de_var (pv 0)) (das_cons (de_c pe_int rfl) (das_nil))) (dks_nil))) (de_c pe_int rfl) (nomark _)) (dw_and (dt_truth (de_isi (T := .tup) (by rfl) T.b_isinstance (by rfl) T.b_tuple bt_tuple (de_var (pv 2)) (T.i_tuple))) (dw_and (dt_cmp (op_neA (hu64 hr)) ref_ne (de_var (pv 2)) (de_tup (das_nil)) (nomark _)) (dw_and1 (dt_truth (de_isi (T := .tup) (by rfl) T.b_isinstance (by rfl) T.b_tuple bt_tuple (de_ix (de_var (pv 2)) (de_c pe_int rfl) (fun _ _ => rfl)) (T.i_tuple)))))))) (dss_one (ds_set (i := 2) S__law_right.nd rfl (.inr rfl) (de_op op_addAll (ref_add (mu := false)) (de_var (pv 2)) (de_tup (das_cons (de_c pe_non rfl) (das_nil)))))) (dss_nil))
      (dss_cons (ds_par (i := 3) (j := 4) rfl S__law_right.nd rfl rfl (by decide) rfl rfl (de_lst true (das_cons (de_lamVe (js := [2]) T.lm_0 rfl (lamC_by (show lamCB N__law_right (defScope s__law_right) lamL_0 [2] = true from by decide +kernel)) TB rfl (show (("_law_right" : Str) ++ ".<locals>.") ++ "<lambda>" = _ from by decide +kernel) rfl) (das_nil))) (de_ownP c__law_wrong_1 hG hr (by decide) (by rfl) takes_no (dak (das_cons (de_var (pv 2)) (das_nil)) (dks_nil))) (by rfl))
      (dss_cons (ds_expr (de_append (de_var (pv 3)) (de_lamVe (js := [2]) T.lm_1 rfl (lamC_by (show lamCB N__law_right (defScope s__law_right) lamL_1 [2] = true from by decide +kernel)) TB rfl (show (("_law_right" : Str) ++ ".<locals>.") ++ "<lambda>" = _ from by decide +kernel) rfl)))
      (dss_one (ds_if (dt_not (dt_truth (de_ownLP (js := [2]) (capJ_by (show capB N__law_right (defScope s__law_right) [2] = true from by decide +kernel) (fun _ => rfl)) c__law_is_ended_2 hG hr (by decide) (by rfl) takes_no (dak (das_cons (de_var (pv 3)) (das_cons (de_if (dt_cmp (op_eqA (hu64 hr)) ref_eq (de_var (pv 4)) (de_neg (de_c pe_int rfl)) (nomark _)) (de_lst false (das_cons (de_c pe_str rfl) (das_cons (de_callB (call_reprD hG hr) ref_repr (by rfl) T.b_repr bt_repr (das_cons (de_var (pv 2)) (das_nil))) (das_nil)))) (de_lst false (das_cons (de_c pe_str rfl) (das_cons (de_callB (call_reprD hG hr) ref_repr (by rfl) T.b_repr bt_repr (das_cons (de_var (pv 4)) (das_nil))) (das_nil))))) (das_nil))) (dks_nil))))) (dss_one (ds_ret (de_c pe_bl rfl))) (dss_nil))))))))
      (dss_one (ds_ret (de_c pe_bl rfl)))
theorem ok__law_right {P : Program} {w : World} {K : PySem.W.Frag} {mg : Str → Option Value} {base : Heap} {f cc : Addr} {fd : FuncData} {c : CT} (F : FunD K "_law_right" "_law_right" (defArgs s__law_right) (defBody s__law_right) (defScope s__law_right) [] [] f fd) (hc : fd.code = .ref cc) (T : TF K mg c) (TB : TabB base mg cc (c.other "_law_right")) (c__law_bent_2 : OwnP P w K mg base 2 "_law_bent" 2 [] [0, 1] [] (sp__law_bent c)) (c__law_few_3 : OwnP P w K mg base 2 "_law_few" 3 [] [0, 1, 2] [] (sp__law_few c)) (c__law_is_ended_2 : OwnP P w K mg base 8 "_law_is_ended" 2 [] [0, 1] [] (sp__law_is_ended c)) (c__law_scoop_2 : OwnP P w K mg base 1 "_law_scoop" 2 [] [0, 1] [] (sp__law_scoop c)) (c__law_wrong_1 : OwnP P w K mg base 2 "_law_wrong" 1 [] [0] [] (sp__law_wrong c)) :
    DFnG P w K mg base 9 f fd ["_law_pot_here"] (sp__law_right c) :=
  dfnG_okC F hc S__law_right (len__law_right c) fun A outer s H E O W hG hr tk => ⟨t__law_right c (ceS (cxOf (L2N.CX P w) P w K mg base N__law_right "_law_right" (defScope s__law_right) f (.ref cc) A outer s H E)) W, dv__law_right T TB c__law_bent_2 c__law_few_3 c__law_is_ended_2 c__law_scoop_2 c__law_wrong_1 hG hr tk, fun ds M Q E' h e => e ▸ pure__law_right c _ ds M Q E' h⟩
abbrev s__law_quiet : Stmt := topS 35
theorem S__law_quiet : FnScope N__law_quiet ["_law_pot_here"] (defScope s__law_quiet) := ⟨rfl, rfl, rfl, by decide +kernel, rfl, by decide +kernel, by decide +kernel⟩
theorem dv__law_quiet {P : Program} {w : World} {K : PySem.W.Frag} {mg : Str → Option Value} {base : Heap} {f : Addr} {cdv : Value} {A : Around} {outer : List Env} {s : Shared} {H : Hp} {E : XK} {O : Org} {W : DWX} {c : CT} (T : TF K mg c) (c__law_right_1 : OwnP P w K mg base 9 "_law_right" 1 [] [0] [] (sp__law_right c))
    (hG : A.guards = some []) (hr : Room 9 (A.deeper (envOfC "_law_quiet" (defScope s__law_quiet) s.heap.objs.size f cdv))) (tk : L2N.Takes (cxOf (L2N.CX P w) P w K mg base N__law_quiet "_law_quiet" (defScope s__law_quiet) f cdv A outer s H E) (liftW K O W)) :
    DSs (cxOf (L2N.CX P w) P w K mg base N__law_quiet "_law_quiet" (defScope s__law_quiet) f cdv A outer s H E) O (defBody s__law_quiet) (t__law_quiet c W) :=
  dss_cons (ds_thru (dss_one (ds_set (i := 1) S__law_quiet.nd rfl (.inl rfl) (de_ownP c__law_right_1 hG hr (by decide) (by rfl) takes_no (dak (das_cons (de_var (pv 0)) (das_nil)) (dks_nil))))))
      (dss_one (ds_ret (de_var (pv 1))))
theorem ok__law_quiet {P : Program} {w : World} {K : PySem.W.Frag} {mg : Str → Option Value} {base : Heap} {f : Addr} {fd : FuncData} {c : CT} (F : FunD K "_law_quiet" "_law_quiet" (defArgs s__law_quiet) (defBody s__law_quiet) (defScope s__law_quiet) [] [] f fd) (T : TF K mg c) (c__law_right_1 : OwnP P w K mg base 9 "_law_right" 1 [] [0] [] (sp__law_right c)) :
    DFnG P w K mg base 10 f fd ["_law_pot_here"] (sp__law_quiet c) :=
  dfnG_ok F S__law_quiet (len__law_quiet c) fun cdv A outer s H E O W hG hr tk => ⟨t__law_quiet c W, dv__law_quiet T c__law_right_1 hG hr tk, fun ds M Q E' h e => e ▸ pure__law_quiet c ds M Q E' h⟩
abbrev s_law : Stmt := topS 36
theorem S_law : FnScope N_law ["_law_script"] (defScope s_law) := ⟨rfl, rfl, rfl, by decide +kernel, rfl, by decide +kernel, by decide +kernel⟩
theorem dv_law {P : Program} {w : World} {K : PySem.W.Frag} {mg : Str → Option Value} {base : Heap} {f : Addr} {cdv : Value} {A : Around} {outer : List Env} {s : Shared} {H : Hp} {E : XK} {O : Org} {W : DWX} {c : CT} (T : TF K mg c) (c__law_pot_2 : OwnP P w K mg base 1 "_law_pot" 2 [] [0, 1] [] (sp__law_pot c)) (c__law_quiet_1 : OwnP P w K mg base 10 "_law_quiet" 1 [] [0] [] (sp__law_quiet c))
    (hG : A.guards = some []) (hr : Room 10 (A.deeper (envOfC "law" (defScope s_law) s.heap.objs.size f cdv))) (tk : L2N.Takes (cxOf (L2N.CX P w) P w K mg base N_law "law" (defScope s_law) f cdv A outer s H E) (liftW K O W)) :
    DSs (cxOf (L2N.CX P w) P w K mg base N_law "law" (defScope s_law) f cdv A outer s H E) O (defBody s_law) (t_law c W) :=
  dss_one (ds_ret (de_callB (cr_all rfl) ref_all (by rfl) T.b_all bt_all (das_cons (de_lc (own := [("_law_turn", 1)]) false rfl S_law.nd (di_range1 (by rfl) T.b_range (de_callB (call_max2 rfl) ref_max2 (by rfl) T.b_max bt_max (das_cons (de_c pe_int rfl) (das_cons (de_callB (call_min2 rfl) ref_min2 (by rfl) T.b_min bt_min (das_cons (de_callB len_all ref_len (by rfl) T.b_len bt_len (das_cons (de_var (pv 0)) (das_nil))) (das_cons (de_c pe_int rfl) (das_nil)))) (das_nil))))) (blkOk_by (N := N_law) (sc := defScope s_law) (by decide +kernel)) (fun _ _ _ _ _ => pg_name (i := 1) S_law.nd rfl (.inl rfl)) (ref_gName (by decide)) (fun _ _ _ _ _ => dts_nil) (fun _ _ _ _ _ => de_ownP c__law_quiet_1 hG hr (by decide) (by rfl) takes_no (dak (das_cons (de_ownP c__law_pot_2 hG hr (by decide) (by rfl) takes_no (dak (das_cons (de_var (pv 0)) (das_cons (de_var (pv 1)) (das_nil))) (dks_nil))) (das_nil)) (dks_nil)))) (das_nil))))
theorem ok_law {P : Program} {w : World} {K : PySem.W.Frag} {mg : Str → Option Value} {base : Heap} {f : Addr} {fd : FuncData} {c : CT} (F : FunD K "law" "law" (defArgs s_law) (defBody s_law) (defScope s_law) [] [] f fd) (T : TF K mg c) (c__law_pot_2 : OwnP P w K mg base 1 "_law_pot" 2 [] [0, 1] [] (sp__law_pot c)) (c__law_quiet_1 : OwnP P w K mg base 10 "_law_quiet" 1 [] [0] [] (sp__law_quiet c)) :
    DFnG P w K mg base 11 f fd ["_law_script"] (sp_law c) :=
  dfnG_ok F S_law (len_law c) fun cdv A outer s H E O W hG hr tk => ⟨t_law c W, dv_law T c__law_pot_2 c__law_quiet_1 hG hr tk, fun ds M Q E' h e => e ▸ pure_law c ds M Q E' h⟩
/-! ### the head -/
def lamF : Nat → LamDesc
  | 0 => lamL_0
  | 1 => lamL_1
  | _ => default
def ctK (K : PySem.W.Frag) : CT := ⟨He.ga K "Heaps", He.ga K "Yard", He.ga K "Book", He.ga K "WrongValue", He.ga K "WrongName", He.ga K "NoAnswer", He.ga K "InvalidText", He.ga K "InvalidKinds", He.ga K "NotHeaps", He.ga K "InvalidNumber", He.ga K "InvalidTable", He.ga K "InvalidRow", He.ga K "InvalidHighs", He.ga K "InvalidDepths", He.ga K "NoPlan", He.ga K "Run", He.ga K "Mark", He.ga K "Trial", He.ga K "Attempt", He.ga K "InvalidName", He.ga K "InvalidWish", He.ga K "InvalidIndex", He.ga K "UnknownName", He.ga K "TooFew", He.ga K "NothingToUndo", He.ga K "Broken", fun x => tabP K (He.ga K x), lamF⟩
def tnF : List FA := [fun K => He.ga K "_law_right"]
def tqF : List Str := ["_law_right.<locals>.<lambda>"]
def exF : List FB := [bF (.free "abs"),
  bF (.free "all"),
  bF (.free "bool"),
  bF (.free "divmod"),
  bF (.free "enumerate"),
  bF (.free "int"),
  bF (.free "isinstance"),
  bF (.free "len"),
  bF (.free "list"),
  bF (.free "max"),
  bF (.free "min"),
  bF (.free "range"),
  bF (.free "repr"),
  bF (.free "tuple"),
  bF (.int "MOST_KINDS" 12),
  bF (.int "MOST_MANY" 1000000000000000000000000000000),
  bF (.int "MOST_SIZE" 1000000000000000000000000000000),
  bF (.glo "Heaps"),
  bF (.glo "InvalidKinds"),
  bF (.glo "InvalidNumber"),
  bF (.glo "InvalidRow"),
  bF (.glo "InvalidTable"),
  bF (.glo "InvalidText"),
  bF (.glo "NoAnswer"),
  bF (.glo "NoPlan"),
  bF (.glo "NotHeaps"),
  bF (.glo "WrongName"),
  bF (.glo "WrongValue"),
  bF (.cls "Heaps"),
  bF (.noat "Heaps" "rows"),
  bOwn "Heaps",
  bKit (fun K => .ref (He.ga K "Heaps")) (fun _ => .type "int") false,
  bKit (fun K => .ref (He.ga K "Heaps")) (fun _ => .type "bool") false,
  bKit (fun K => .ref (He.ga K "Heaps")) (fun _ => .type "tuple") false,
  bKit (fun K => .ref (He.ga K "Heaps")) (fun _ => .type "list") false,
  bXf "InvalidKinds" "given",
  bXf "InvalidKinds" "index",
  bEc "InvalidKinds",
  bKit (fun K => .ref (He.ga K "InvalidKinds")) (fun K => .ref (He.ga K "InvalidKinds")) true,
  bKit (fun K => .ref (He.ga K "InvalidKinds")) (fun K => .ref (He.ga K "InvalidNumber")) false,
  bKit (fun K => .ref (He.ga K "InvalidKinds")) (fun K => .ref (He.ga K "InvalidRow")) false,
  bKit (fun K => .ref (He.ga K "InvalidKinds")) (fun K => .ref (He.ga K "InvalidTable")) false,
  bKit (fun K => .ref (He.ga K "InvalidKinds")) (fun K => .ref (He.ga K "InvalidText")) false,
  bKit (fun K => .ref (He.ga K "InvalidKinds")) (fun K => .ref (He.ga K "NoAnswer")) false,
  bKit (fun K => .ref (He.ga K "InvalidKinds")) (fun K => .ref (He.ga K "NoPlan")) false,
  bKit (fun K => .ref (He.ga K "InvalidKinds")) (fun K => .ref (He.ga K "NotHeaps")) false,
  bKit (fun K => .ref (He.ga K "InvalidKinds")) (fun K => .ref (He.ga K "WrongName")) false,
  bKit (fun K => .ref (He.ga K "InvalidKinds")) (fun K => .ref (He.ga K "WrongValue")) true,
  bExq ["InvalidKinds"] ["WrongValue", "WrongName", "NoAnswer"],
  bXc "InvalidKinds" "index",
  bF (.glo "is_integer"),
  bF (.glo "is_within"),
  bF (.glo "wrong_kind"),
  bF (.mkr "Heaps"),
  bPr "Heaps" "kinds",
  bF (.glo "_law_pot"),
  bF (.glo "_law_scoop"),
  bF (.glo "_law_few"),
  bF (.glo "_law_ended"),
  bF (.glo "_law_is_ended"),
  bF (.glo "_law_is_figure"),
  bF (.glo "_law_wrong"),
  bF (.glo "_law_bent"),
  bF (.glo "_law_right"),
  bF (.glo "_law_quiet"),
  bF (.glo "law"),
  bNd tnF]
def fnF : List He5.DefA := [⟨fun K => He.ma K (He.ga K "InvalidKinds") "__init__", "__init__", "InvalidKinds.__init__", defArgs s_InvalidKinds___init__, defBody s_InvalidKinds___init__, defScope s_InvalidKinds___init__, [], []⟩,
  ⟨fun K => He.ga K "is_integer", "is_integer", "is_integer", defArgs s_is_integer, defBody s_is_integer, defScope s_is_integer, [], []⟩,
  ⟨fun K => He.ga K "is_within", "is_within", "is_within", defArgs s_is_within, defBody s_is_within, defScope s_is_within, [], []⟩,
  ⟨fun K => He.ga K "wrong_kind", "wrong_kind", "wrong_kind", defArgs s_wrong_kind, defBody s_wrong_kind, defScope s_wrong_kind, [], []⟩,
  ⟨fun K => He.ma K (He.ga K "Heaps") "__init__", "__init__", "Heaps.__init__", defArgs s_Heaps___init__, defBody s_Heaps___init__, defScope s_Heaps___init__, [], []⟩,
  ⟨fun K => He5.wf K (He.ga K "Heaps") "property" "kinds", "kinds", "Heaps.kinds", defArgs s_Heaps_kinds, defBody s_Heaps_kinds, defScope s_Heaps_kinds, [], []⟩,
  ⟨fun K => He.ga K "_law_pot", "_law_pot", "_law_pot", defArgs s__law_pot, defBody s__law_pot, defScope s__law_pot, [], []⟩,
  ⟨fun K => He.ga K "_law_scoop", "_law_scoop", "_law_scoop", defArgs s__law_scoop, defBody s__law_scoop, defScope s__law_scoop, [], []⟩,
  ⟨fun K => He.ga K "_law_few", "_law_few", "_law_few", defArgs s__law_few, defBody s__law_few, defScope s__law_few, [], []⟩,
  ⟨fun K => He.ga K "_law_ended", "_law_ended", "_law_ended", defArgs s__law_ended, defBody s__law_ended, defScope s__law_ended, [], []⟩,
  ⟨fun K => He.ga K "_law_is_ended", "_law_is_ended", "_law_is_ended", defArgs s__law_is_ended, defBody s__law_is_ended, defScope s__law_is_ended, [], []⟩,
  ⟨fun K => He.ga K "_law_is_figure", "_law_is_figure", "_law_is_figure", defArgs s__law_is_figure, defBody s__law_is_figure, defScope s__law_is_figure, [], []⟩,
  ⟨fun K => He.ga K "_law_wrong", "_law_wrong", "_law_wrong", defArgs s__law_wrong, defBody s__law_wrong, defScope s__law_wrong, [], []⟩,
  ⟨fun K => He.ga K "_law_bent", "_law_bent", "_law_bent", defArgs s__law_bent, defBody s__law_bent, defScope s__law_bent, [], []⟩,
  ⟨fun K => He.ga K "_law_right", "_law_right", "_law_right", defArgs s__law_right, defBody s__law_right, defScope s__law_right, [], []⟩,
  ⟨fun K => He.ga K "_law_quiet", "_law_quiet", "_law_quiet", defArgs s__law_quiet, defBody s__law_quiet, defScope s__law_quiet, [], []⟩,
  ⟨fun K => He.ga K "law", "law", "law", defArgs s_law, defBody s_law, defScope s_law, [], []⟩]
set_option maxHeartbeats 0 in
theorem facts {P : Program} {w : World} {K : PySem.W.Frag} {h : Heap} {mg : Str → Option Value} {f : Addr} (KX : K.In h) (G : h.Ns mainGlobals mg) (hfa : mg "law" = some (.ref f)) (s : SaysR exF fnF K) (tt : ∀ d ∈ tnF, TabAt h K (d K)) :
    ∃ fd : FuncData, (∀ (st : Shared) (v : Value), BindsTo st fd ⟨[v], []⟩ [("_law_script", v)]) ∧ ∀ base : Heap, K.In base → base.Ns mainGlobals mg → (∀ x ∈ csOf K tnF tqF, TabB base mg x.1 x.2.1) → DFnG P w K mg base 11 f fd ["_law_script"] (sp_law (ctK K)) := by
  have T : TF K mg (ctK K) := ⟨He.free_ok KX G (s.fact 0),
    He.free_ok KX G (s.fact 1),
    He.free_ok KX G (s.fact 2),
    He.free_ok KX G (s.fact 3),
    He.free_ok KX G (s.fact 4),
    He.free_ok KX G (s.fact 5),
    He.free_ok KX G (s.fact 6),
    He.free_ok KX G (s.fact 7),
    He.free_ok KX G (s.fact 8),
    He.free_ok KX G (s.fact 9),
    He.free_ok KX G (s.fact 10),
    He.free_ok KX G (s.fact 11),
    He.free_ok KX G (s.fact 12),
    He.free_ok KX G (s.fact 13),
    He.int_ok KX G (s.fact 14),
    He.int_ok KX G (s.fact 15),
    He.int_ok KX G (s.fact 16),
    He.glo_ok KX G (s.fact 17),
    He.glo_ok KX G (s.fact 18),
    He.glo_ok KX G (s.fact 19),
    He.glo_ok KX G (s.fact 20),
    He.glo_ok KX G (s.fact 21),
    He.glo_ok KX G (s.fact 22),
    He.glo_ok KX G (s.fact 23),
    He.glo_ok KX G (s.fact 24),
    He.glo_ok KX G (s.fact 25),
    He.glo_ok KX G (s.fact 26),
    He.glo_ok KX G (s.fact 27),
    (fun C e => e ▸ ⟨(He.cls_ok (s.fact 28)), He.noat_ok (s.fact 29)⟩),
    (fun C e => (show C = He.ga K "Heaps" from e) ▸ ⟨(bOwn_ok (s.fact 30) (He.cls_ok (s.fact 28))), bKit_ok (a := fun K => .ref (He.ga K "Heaps")) (c := fun _ => .type "int") (s.fact 31)⟩),
    (fun C e => (show C = He.ga K "Heaps" from e) ▸ ⟨(bOwn_ok (s.fact 30) (He.cls_ok (s.fact 28))), bKit_ok (a := fun K => .ref (He.ga K "Heaps")) (c := fun _ => .type "bool") (s.fact 32)⟩),
    (fun C e => (show C = He.ga K "Heaps" from e) ▸ ⟨(bOwn_ok (s.fact 30) (He.cls_ok (s.fact 28))), bKit_ok (a := fun K => .ref (He.ga K "Heaps")) (c := fun _ => .type "tuple") (s.fact 33)⟩),
    (fun C e => (show C = He.ga K "Heaps" from e) ▸ ⟨(bOwn_ok (s.fact 30) (He.cls_ok (s.fact 28))), bKit_ok (a := fun K => .ref (He.ga K "Heaps")) (c := fun _ => .type "list") (s.fact 34)⟩),
    bXf_ok (s.fact 35),
    bXf_ok (s.fact 36),
    rfl,
    rfl,
    bEc_ok (s.fact 37),
    bKit_ok (a := fun K => .ref (He.ga K "InvalidKinds")) (c := fun K => .ref (He.ga K "InvalidKinds")) (s.fact 38),
    bKit_ok (a := fun K => .ref (He.ga K "InvalidKinds")) (c := fun K => .ref (He.ga K "InvalidNumber")) (s.fact 39),
    bKit_ok (a := fun K => .ref (He.ga K "InvalidKinds")) (c := fun K => .ref (He.ga K "InvalidRow")) (s.fact 40),
    bKit_ok (a := fun K => .ref (He.ga K "InvalidKinds")) (c := fun K => .ref (He.ga K "InvalidTable")) (s.fact 41),
    bKit_ok (a := fun K => .ref (He.ga K "InvalidKinds")) (c := fun K => .ref (He.ga K "InvalidText")) (s.fact 42),
    bKit_ok (a := fun K => .ref (He.ga K "InvalidKinds")) (c := fun K => .ref (He.ga K "NoAnswer")) (s.fact 43),
    bKit_ok (a := fun K => .ref (He.ga K "InvalidKinds")) (c := fun K => .ref (He.ga K "NoPlan")) (s.fact 44),
    bKit_ok (a := fun K => .ref (He.ga K "InvalidKinds")) (c := fun K => .ref (He.ga K "NotHeaps")) (s.fact 45),
    bKit_ok (a := fun K => .ref (He.ga K "InvalidKinds")) (c := fun K => .ref (He.ga K "WrongName")) (s.fact 46),
    bKit_ok (a := fun K => .ref (He.ga K "InvalidKinds")) (c := fun K => .ref (He.ga K "WrongValue")) (s.fact 47),
    bExq_ok (Cs := ["InvalidKinds"]) (Ts := ["WrongValue", "WrongName", "NoAnswer"]) (s.fact 48)⟩
  obtain rfl : f = He.ga K "law" := by have e := hfa.symm.trans (He.glo_ok KX G (s.fact 65)); injection e with e; injection e
  obtain ⟨fd_InvalidKinds___init__, F_InvalidKinds___init__⟩ := s.def_ 0
  obtain ⟨fd_is_integer, F_is_integer⟩ := s.def_ 1
  obtain ⟨fd_is_within, F_is_within⟩ := s.def_ 2
  obtain ⟨fd_wrong_kind, F_wrong_kind⟩ := s.def_ 3
  obtain ⟨fd_Heaps___init__, F_Heaps___init__⟩ := s.def_ 4
  obtain ⟨fd_Heaps_kinds, F_Heaps_kinds⟩ := s.def_ 5
  obtain ⟨fd__law_pot, F__law_pot⟩ := s.def_ 6
  obtain ⟨fd__law_scoop, F__law_scoop⟩ := s.def_ 7
  obtain ⟨fd__law_few, F__law_few⟩ := s.def_ 8
  obtain ⟨fd__law_ended, F__law_ended⟩ := s.def_ 9
  obtain ⟨fd__law_is_ended, F__law_is_ended⟩ := s.def_ 10
  obtain ⟨fd__law_is_figure, F__law_is_figure⟩ := s.def_ 11
  obtain ⟨fd__law_wrong, F__law_wrong⟩ := s.def_ 12
  obtain ⟨fd__law_bent, F__law_bent⟩ := s.def_ 13
  obtain ⟨fd__law_right, F__law_right⟩ := s.def_ 14
  obtain ⟨fd__law_quiet, F__law_quiet⟩ := s.def_ 15
  obtain ⟨fd_law, F_law⟩ := s.def_ 16
  refine ⟨fd_law, fun st v => F_law.bindsA (ps := ["_law_script"]) (fun _ _ _ _ _ _ us hl => match us, hl with | [_], _ => rfl) st [v] rfl, fun base _ _ TBs => ?_⟩
  have x_InvalidKinds : XcP P w K mg base (ctK K).InvalidKinds "index" := bXc_ok (s.fact 49) (ok_xinit F_InvalidKinds___init__ S_InvalidKinds___init__ rfl rfl (by decide) (by decide)) (F_InvalidKinds___init__.bindsN fun _ _ _ _ _ _ us hl => match us, hl with | [_, _], _ => rfl)
  have o_is_integer := ok_is_integer (P := P) (w := w) (base := base) F_is_integer T
  have c_is_integer_1 : OwnP P w K mg base 1 "is_integer" 1 [] [0] [] (sp_is_integer (ctK K)) := ⟨_, He.glo_ok KX G (s.fact 50), F_is_integer.kp, pk_of (o_is_integer) (kb_of F_is_integer 1 [] [0] fun kV doc pm an cdv ct us ws h1 h2 => match us, h1, ws, h2 with | [_], _, [], _ => rfl)⟩
  have o_is_within := ok_is_within (P := P) (w := w) (base := base) F_is_within T c_is_integer_1
  have c_is_within_3 : OwnP P w K mg base 2 "is_within" 3 [] [0, 1, 2] [] (sp_is_within (ctK K)) := ⟨_, He.glo_ok KX G (s.fact 51), F_is_within.kp, pk_of (o_is_within) (kb_of F_is_within 3 [] [0, 1, 2] fun kV doc pm an cdv ct us ws h1 h2 => match us, h1, ws, h2 with | [_, _, _], _, [], _ => rfl)⟩
  have o_wrong_kind := ok_wrong_kind (P := P) (w := w) (base := base) F_wrong_kind T c_is_within_3
  have c_wrong_kind_1 : OwnP P w K mg base 3 "wrong_kind" 1 [] [0] [] (sp_wrong_kind (ctK K)) := ⟨_, He.glo_ok KX G (s.fact 52), F_wrong_kind.kp, pk_of (o_wrong_kind) (kb_of F_wrong_kind 1 [] [0] fun kV doc pm an cdv ct us ws h1 h2 => match us, h1, ws, h2 with | [_], _, [], _ => rfl)⟩
  have o_Heaps___init__ := ok_Heaps___init__ (P := P) (w := w) (base := base) F_Heaps___init__ T c_wrong_kind_1 x_InvalidKinds
  have k_Heaps_1 : MkP P w K mg base 4 (ctK K).Heaps 1 [] [0, 1] [] (sp_Heaps___init__ (ctK K)) := ⟨_, He.mkr_ok (s.fact 53), pk_of (o_Heaps___init__) (kb_of F_Heaps___init__ 2 [] [0, 1] fun kV doc pm an cdv ct us ws h1 h2 => match us, h1, ws, h2 with | [_, _], _, [], _ => rfl)⟩
  have k_Heaps_0_kinds : MkP P w K mg base 4 (ctK K).Heaps 0 ["kinds"] [0, 1] [] (sp_Heaps___init__ (ctK K)) := ⟨_, He.mkr_ok (s.fact 53), pk_of (o_Heaps___init__) (kb_of F_Heaps___init__ 1 ["kinds"] [0, 1] fun kV doc pm an cdv ct us ws h1 h2 => match us, h1, ws, h2 with | [_], _, [_], _ => rfl)⟩
  have o_Heaps_kinds := ok_Heaps_kinds (P := P) (w := w) (base := base) F_Heaps_kinds T
  have p_kinds : PrOk P w K mg base 1 "kinds" (tab1 (ctK K).Heaps (sp_Heaps_kinds (ctK K))) := pr_of (He.cls_ok (s.fact 28)) (bPr_ok (s.fact 54)) (pk_of (o_Heaps_kinds) (kb_of F_Heaps_kinds 1 [] [0] fun kV doc pm an cdv ct us ws h1 h2 => match us, h1, ws, h2 with | [_], _, [], _ => rfl))
  have o__law_pot := ok__law_pot (P := P) (w := w) (base := base) F__law_pot T
  have c__law_pot_2 : OwnP P w K mg base 1 "_law_pot" 2 [] [0, 1] [] (sp__law_pot (ctK K)) := ⟨_, He.glo_ok KX G (s.fact 55), F__law_pot.kp, pk_of (o__law_pot) (kb_of F__law_pot 2 [] [0, 1] fun kV doc pm an cdv ct us ws h1 h2 => match us, h1, ws, h2 with | [_, _], _, [], _ => rfl)⟩
  have o__law_scoop := ok__law_scoop (P := P) (w := w) (base := base) F__law_scoop T
  have c__law_scoop_2 : OwnP P w K mg base 1 "_law_scoop" 2 [] [0, 1] [] (sp__law_scoop (ctK K)) := ⟨_, He.glo_ok KX G (s.fact 56), F__law_scoop.kp, pk_of (o__law_scoop) (kb_of F__law_scoop 2 [] [0, 1] fun kV doc pm an cdv ct us ws h1 h2 => match us, h1, ws, h2 with | [_, _], _, [], _ => rfl)⟩
  have o__law_few := ok__law_few (P := P) (w := w) (base := base) F__law_few T c__law_scoop_2
  have c__law_few_3 : OwnP P w K mg base 2 "_law_few" 3 [] [0, 1, 2] [] (sp__law_few (ctK K)) := ⟨_, He.glo_ok KX G (s.fact 57), F__law_few.kp, pk_of (o__law_few) (kb_of F__law_few 3 [] [0, 1, 2] fun kV doc pm an cdv ct us ws h1 h2 => match us, h1, ws, h2 with | [_, _, _], _, [], _ => rfl)⟩
  have lk : ∀ (i : Nat) (l : LamI), (lams (ctK K))[i]? = some l → LamRun P w K mg base 5 l := (lamsOk_cons (lrun_0 T k_Heaps_1 p_kinds) (by decide) (lamsOk_cons (lrun_1 T k_Heaps_0_kinds p_kinds) (by decide) lamsOk_nil))
  have o__law_ended := ok__law_ended (P := P) (w := w) (base := base) F__law_ended T lk
  have c__law_ended_1 : OwnP P w K mg base 7 "_law_ended" 1 [] [0] [] (sp__law_ended (ctK K)) := ⟨_, He.glo_ok KX G (s.fact 58), F__law_ended.kp, pk_of (o__law_ended) (kb_of F__law_ended 1 [] [0] fun kV doc pm an cdv ct us ws h1 h2 => match us, h1, ws, h2 with | [_], _, [], _ => rfl)⟩
  have o__law_is_ended := ok__law_is_ended (P := P) (w := w) (base := base) F__law_is_ended T c__law_ended_1
  have c__law_is_ended_2 : OwnP P w K mg base 8 "_law_is_ended" 2 [] [0, 1] [] (sp__law_is_ended (ctK K)) := ⟨_, He.glo_ok KX G (s.fact 59), F__law_is_ended.kp, pk_of (o__law_is_ended) (kb_of F__law_is_ended 2 [] [0, 1] fun kV doc pm an cdv ct us ws h1 h2 => match us, h1, ws, h2 with | [_, _], _, [], _ => rfl)⟩
  have o__law_is_figure := ok__law_is_figure (P := P) (w := w) (base := base) F__law_is_figure T
  have c__law_is_figure_2 : OwnP P w K mg base 1 "_law_is_figure" 2 [] [0, 1] [] (sp__law_is_figure (ctK K)) := ⟨_, He.glo_ok KX G (s.fact 60), F__law_is_figure.kp, pk_of (o__law_is_figure) (kb_of F__law_is_figure 2 [] [0, 1] fun kV doc pm an cdv ct us ws h1 h2 => match us, h1, ws, h2 with | [_, _], _, [], _ => rfl)⟩
  have o__law_wrong := ok__law_wrong (P := P) (w := w) (base := base) F__law_wrong T c__law_is_figure_2
  have c__law_wrong_1 : OwnP P w K mg base 2 "_law_wrong" 1 [] [0] [] (sp__law_wrong (ctK K)) := ⟨_, He.glo_ok KX G (s.fact 61), F__law_wrong.kp, pk_of (o__law_wrong) (kb_of F__law_wrong 1 [] [0] fun kV doc pm an cdv ct us ws h1 h2 => match us, h1, ws, h2 with | [_], _, [], _ => rfl)⟩
  have o__law_bent := ok__law_bent (P := P) (w := w) (base := base) F__law_bent T c__law_scoop_2
  have c__law_bent_2 : OwnP P w K mg base 2 "_law_bent" 2 [] [0, 1] [] (sp__law_bent (ctK K)) := ⟨_, He.glo_ok KX G (s.fact 62), F__law_bent.kp, pk_of (o__law_bent) (kb_of F__law_bent 2 [] [0, 1] fun kV doc pm an cdv ct us ws h1 h2 => match us, h1, ws, h2 with | [_, _], _, [], _ => rfl)⟩
  have o__law_right := ok__law_right (P := P) (w := w) (base := base) F__law_right (fun_code F__law_right (tt _ (List.mem_of_getElem? (i := 0) rfl))) T (TBs _ (List.mem_of_getElem? (i := 0) rfl)) c__law_bent_2 c__law_few_3 c__law_is_ended_2 c__law_scoop_2 c__law_wrong_1
  have c__law_right_1 : OwnP P w K mg base 9 "_law_right" 1 [] [0] [] (sp__law_right (ctK K)) := ⟨_, He.glo_ok KX G (s.fact 63), F__law_right.kp, pk_of (o__law_right) (kb_of F__law_right 1 [] [0] fun kV doc pm an cdv ct us ws h1 h2 => match us, h1, ws, h2 with | [_], _, [], _ => rfl)⟩
  have o__law_quiet := ok__law_quiet (P := P) (w := w) (base := base) F__law_quiet T c__law_right_1
  have c__law_quiet_1 : OwnP P w K mg base 10 "_law_quiet" 1 [] [0] [] (sp__law_quiet (ctK K)) := ⟨_, He.glo_ok KX G (s.fact 64), F__law_quiet.kp, pk_of (o__law_quiet) (kb_of F__law_quiet 1 [] [0] fun kV doc pm an cdv ct us ws h1 h2 => match us, h1, ws, h2 with | [_], _, [], _ => rfl)⟩
  exact ok_law F_law T c__law_pot_2 c__law_quiet_1
abbrev Rw : PySem.W.OpenRow := PySem.W.OpenLaw.row PySem.Challenge.rw_runheaps_k03_kinds_refused
abbrev hk : PySem.W.Hook := hookT 6 exF fnF tnF
def obF (s : PySem.W.SharedT) : AlT := obsT 6 exF fnF tnF (HandSHeadRun.getT s)
theorem obF_eq (s : PySem.W.SharedT) : obF s = hk.obs s.abs := obsT_eq (HandSHeadRun.getT_eq s)
def looseF : List Str := (["_wall", "WrongValue", "InvalidText", "InvalidNumber", "NotHeaps", "InvalidKinds", "InvalidTable", "InvalidRow", "WrongName", "NoAnswer", "NoPlan", "MOST_KINDS", "MOST_SIZE", "MOST_MANY", "DIGITS", "is_integer"] : List Str) ++ (["is_within", "read_number", "wrong_kind", "read_kind", "read_heaps", "Heaps", "_law_pot", "_law_scoop", "_law_few", "_law_ended", "_law_is_ended", "_law_is_figure", "_law_wrong", "_law_bent", "_law_right", "_law_quiet"] : List Str)
set_option maxHeartbeats 0 in
theorem run (w : World) : HandSHeadRun.RunEq Rw (PySem.W.view Rw.prog [36]) hk obF 12000 looseF w := by
  intro os
  kernel_rfl
end Rh
open PySem PySem.W PySem.Calls PyProof.Rows
set_option maxHeartbeats 0 in
theorem PySem.Challenge.cw_runheaps_k03_kinds_refused_holds : PySem.Challenge.rw_runheaps_k03_kinds_refused.Holds := by
  w_on; o_law
  refine HandSHeadRun.head_any (r := OpenLaw.row PySem.Challenge.rw_runheaps_k03_kinds_refused) (q := view (OpenLaw.row PySem.Challenge.rw_runheaps_k03_kinds_refused).prog [36]) (H := Rh.hk) (ob := Rh.obF) (M := 12000) (loose := Rh.looseF) (d := HandSHeadRun.topDef (OpenLaw.row PySem.Challenge.rw_runheaps_k03_kinds_refused).prog 36) (kwd := []) Rh.obF_eq
    (by kernel_rfl) (fun s => by kernel_rfl) Rh.run (by kernel_rfl) (by kernel_rfl) (by kernel_rfl) (by rfl) (by first | assumption | decide +kernel) (by decide +kernel) ⟨rfl, rfl, rfl, rfl, rfl, by decide +kernel⟩ ?hw ?hc
  case hw => w_witness2
  case hc =>
    refine Rh.walk_ofT (l := PySem.Challenge.rw_runheaps_k03_kinds_refused) (n := 63) (k := 11) (x := "_law_script") rfl (by decide) (by kernel_rfl) ⟨rfl, by decide, by decide⟩ ?F
    intro w mg fa h Y G hmg0
    obtain ⟨K, KX, s, tt⟩ := Y
    have hmg : mg ("law" : PySem.Str) = some (.ref fa) := by
      have e : (HandSHeadRun.topDef (OpenLaw.row PySem.Challenge.rw_runheaps_k03_kinds_refused).prog 36).name = ("law" : PySem.Str) := by kernel_rfl
      exact (congrArg mg e).symm.trans hmg0
    obtain ⟨fd, hb, hF⟩ := Rh.facts (P := (PySem.Challenge.rw_runheaps_k03_kinds_refused).prog) (w := w) KX G hmg s tt
    exact ⟨K, fd, Rh.csOf K Rh.tnF Rh.tqF, Rh.sp_law (Rh.ctK K), KX, Rh.cs_emp tt, Rh.cs_no tt, Rh.cs_hd tt, hb, fun ns hl hbits Q hQ => Rh.law_starts (Rh.ctK K) ns hl hbits _ (Rh.tabM_at (of_decide_eq_true (s.fact 66)) (i := 0) rfl) Q hQ, hF⟩

