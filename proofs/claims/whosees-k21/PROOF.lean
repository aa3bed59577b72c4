import PyProof.Rows.All
import Wide.All
import OpenK.AllK
import Wide.FinOn
import PySem.Challenge.RW_whosees_k21_whole_rows_that_follow
import HandS.ForMost
import HandS.Wide
import HandS.WideBits
import PyProof.NoPylong
import HandS.Deep
import HandS.IsInst
import HandS.Flow
import HandS.Zip
import HandS.Iter
import HandS.RaiseMore
import PyProof.ReprRoads
import KE.GoesMore
import KE.KTurns
import HandS.Ends
import HandS.Style
import PyProof.ReprLen
set_option Elab.async false
set_option linter.all false
set_option maxRecDepth 100000
set_option maxHeartbeats 4000000
namespace DL
open PySem PySem.Spec PyProof.Rows L2

abbrev D := PyData
/-- what a slot holds -/
inductive Cel where
  | no | val (d : D) | own (d : D) | bor (d : D) | ref (n : Nat)
/-- what an object of the store holds -/
inductive SV where
  | dat (d : D) | ref (n : Nat)
inductive SO where
  | lst (xs : List SV)
  | ins (c : Str) (fs : List (Str × SV))
abbrev En := List Cel
abbrev Sto := List SO
abbrev Frag := PySem.W.Frag

/-! ### data in the abstract heap -/
def KL (K : Frag) (a : Addr) (xs : List V) : Prop := ∃ (o : Obj) (its : Array Value) (n : Nat), K.lookup a = some o ∧ o.cls = .type "list" ∧ o.dict = none ∧ o.data = .seq its n ∧ its.size ≤ sizeLine ∧ Vals xs its.toList
def KT (K : Frag) (a : Addr) (xs : List V) : Prop := ∃ (o : Obj) (its : Array Value) (n : Nat), K.lookup a = some o ∧ o.cls = .type "tuple" ∧ o.data = .seq its n ∧ its.size ≤ sizeLine ∧ Vals xs its.toList
def SrcL (K : Frag) (bad : Addr → Prop) (H : Hp) (a : Addr) (xs : List V) : Prop := (Rd H a (.lst xs) ∧ ¬ bad a) ∨ KL K a xs
def SrcT (K : Frag) (bad : Addr → Prop) (H : Hp) (a : Addr) (xs : List V) : Prop := (Rd H a (.tup xs) ∧ ¬ bad a) ∨ KT K a xs
mutual
inductive Dt (K : Frag) (bad : Addr → Prop) (H : Hp) : V → D → Prop
  | non : Dt K bad H .non .none
  | bl (b : Bool) : Dt K bad H (.bl b) (.bool b)
  | int (i : Int) : Dt K bad H (.int i) (.int i)
  | str (x : Str) : Dt K bad H (.str x) (.str x)
  | lst {a : Addr} {xs : List V} {ds : List D} : SrcL K bad H a xs → DtA K bad H xs ds → Dt K bad H (.ref a) (.list ds)
  | tup {a : Addr} {xs : List V} {ds : List D} : SrcT K bad H a xs → DtA K bad H xs ds → Dt K bad H (.ref a) (.tuple ds)
inductive DtA (K : Frag) (bad : Addr → Prop) (H : Hp) : List V → List D → Prop
  | nil : DtA K bad H [] []
  | cons {v : V} {vs : List V} {d : D} {ds : List D} : Dt K bad H v d → DtA K bad H vs ds → DtA K bad H (v :: vs) (d :: ds)
end
/-- what stood and is not bad stands -/
def Pres (bad : Addr → Prop) (H H' : Hp) : Prop := ∀ b o, H b = some o → ¬ bad b → H' b = some o
/-- what is bad now was bad or was not there -/
def Grow (bad : Addr → Prop) (H : Hp) (bad' : Addr → Prop) : Prop := ∀ b, bad' b → bad b ∨ H b = none
section
variable {K : Frag} {bad bad' : Addr → Prop} {H H' : Hp} {a : Addr} {xs : List V}
theorem rd_some {u : HO} (r : Rd H a u) : ∃ o, H a = some o := by
  rcases r with r | ⟨o, r⟩
  · exact ⟨_, r⟩
  · exact ⟨_, r⟩
theorem rd_pres {u : HO} (r : Rd H a u) (p : Pres bad H H') (n : ¬ bad a) : Rd H' a u := by
  rcases r with r | ⟨o, r⟩
  · exact .inl (p _ _ r n)
  · exact .inr ⟨o, p _ _ r n⟩
theorem SrcL.tr (s : SrcL K bad H a xs) (p : Pres bad H H') (g : Grow bad H bad') : SrcL K bad' H' a xs := by
  rcases s with ⟨r, n⟩ | k
  · refine .inl ⟨rd_pres r p n, fun z => ?_⟩
    obtain ⟨o, e⟩ := rd_some r
    rcases g a z with q | q
    · exact n q
    · rw [e] at q; cases q
  · exact .inr k
theorem SrcT.tr (s : SrcT K bad H a xs) (p : Pres bad H H') (g : Grow bad H bad') : SrcT K bad' H' a xs := by
  rcases s with ⟨r, n⟩ | k
  · refine .inl ⟨rd_pres r p n, fun z => ?_⟩
    obtain ⟨o, e⟩ := rd_some r
    rcases g a z with q | q
    · exact n q
    · rw [e] at q; cases q
  · exact .inr k
theorem SrcL.sq (s : SrcL K bad H a xs) : SqL K H a xs := by
  rcases s with ⟨r, n⟩ | k
  · exact .inl r
  · exact .inr k
theorem SrcT.sq (s : SrcT K bad H a xs) : SqT K H a xs := by
  rcases s with ⟨r, n⟩ | k
  · exact .inl r
  · exact .inr k
mutual
theorem Dt.tr (p : Pres bad H H') (g : Grow bad H bad') : ∀ (d : D) (v : V), Dt K bad H v d → Dt K bad' H' v d
  | _, _, .non => .non
  | _, _, .bl b => .bl b
  | _, _, .int b => .int b
  | _, _, .str b => .str b
  | .list ds, _, .lst s a => .lst (s.tr p g) (DtA.tr p g ds _ a)
  | .tuple ds, _, .tup s a => .tup (s.tr p g) (DtA.tr p g ds _ a)
theorem DtA.tr (p : Pres bad H H') (g : Grow bad H bad') : ∀ (ds : List D) (vs : List V), DtA K bad H vs ds → DtA K bad' H' vs ds
  | [], _, .nil => .nil
  | d :: ds, _, .cons h t => .cons (Dt.tr p g d _ h) (DtA.tr p g ds _ t)
end
theorem Grow.refl : Grow bad H bad := fun _ h => .inl h
theorem Grow.sub (h : ∀ b, bad' b → bad b) : Grow bad H bad' := fun b z => .inl (h b z)
theorem Pres.same (h : Same H H') : Pres bad H H' := fun b o e _ => h b o e
theorem Dt.same (h : Same H H') {d : D} {v : V} (r : Dt K bad H v d) : Dt K bad H' v d := Dt.tr (.same h) .refl d v r
theorem DtA.same (h : Same H H') {d : List D} {v : List V} (r : DtA K bad H v d) : DtA K bad H' v d := DtA.tr (.same h) .refl d v r
theorem Dt.weak (h : ∀ b, bad' b → bad b) {d : D} {v : V} (r : Dt K bad H v d) : Dt K bad' H v d := Dt.tr (.same (Same.refl H)) (.sub h) d v r
theorem DtA.weak (h : ∀ b, bad' b → bad b) {d : List D} {v : List V} (r : DtA K bad H v d) : DtA K bad' H v d := DtA.tr (.same (Same.refl H)) (.sub h) d v r
theorem DtA.length : ∀ {ds : List D} {vs : List V}, DtA K bad H vs ds → vs.length = ds.length
  | [], _, .nil => rfl
  | _ :: _, _, .cons _ t => by rw [List.length_cons, List.length_cons, DtA.length t]
theorem DtA.get : ∀ {ds : List D} {vs : List V} {i : Nat} {d : D}, DtA K bad H vs ds → ds[i]? = some d → ∃ v, vs[i]? = some v ∧ Dt K bad H v d
  | [], _, _, _, .nil, e => by simp at e
  | _ :: _, _, 0, _, .cons h _, e => by simp at e; subst e; exact ⟨_, rfl, h⟩
  | _ :: _, _, i + 1, _, .cons _ t, e => by
    obtain ⟨v, e1, e2⟩ := DtA.get (i := i) t (by simpa using e)
    exact ⟨v, by simpa using e1, e2⟩
theorem DtA.app : ∀ {ds es : List D} {vs us : List V}, DtA K bad H vs ds → DtA K bad H us es → DtA K bad H (vs ++ us) (ds ++ es)
  | [], _, _, _, .nil, h => h
  | _ :: _, _, _, _, .cons h t, h2 => .cons h (DtA.app t h2)
theorem DtA.take : ∀ {ds : List D} {vs : List V} (n : Nat), DtA K bad H vs ds → DtA K bad H (vs.take n) (ds.take n)
  | _, _, 0, _ => .nil
  | _, _, _ + 1, .nil => .nil
  | _, _, n + 1, .cons r t => .cons r (DtA.take n t)
theorem DtA.drop : ∀ {ds : List D} {vs : List V} (n : Nat), DtA K bad H vs ds → DtA K bad H (vs.drop n) (ds.drop n)
  | _, _, 0, r => r
  | _, _, _ + 1, .nil => .nil
  | _, _, n + 1, .cons _ t => DtA.drop n t
theorem DtA.set : ∀ {ds : List D} {vs : List V} {d : D} {v : V} (i : Nat), DtA K bad H vs ds → Dt K bad H v d → DtA K bad H (vs.set i v) (ds.set i d)
  | _, _, _, _, _, .nil, _ => .nil
  | _, _, _, _, 0, .cons _ t, h => .cons h t
  | _, _, _, _, i + 1, .cons q t, h => .cons q (DtA.set i t h)
theorem DtA.rev : ∀ {ds : List D} {vs : List V}, DtA K bad H vs ds → DtA K bad H vs.reverse ds.reverse
  | [], _, .nil => .nil
  | _ :: _, _, .cons h t => by
    rw [List.reverse_cons, List.reverse_cons]
    exact DtA.app (DtA.rev t) (.cons h .nil)
theorem DtA.dropLast : ∀ {ds : List D} {vs : List V}, DtA K bad H vs ds → DtA K bad H vs.dropLast ds.dropLast := fun {ds vs} h => by
  rw [List.dropLast_eq_take, List.dropLast_eq_take, h.length]
  exact h.take _
theorem DtA.eraseIdx : ∀ {ds : List D} {vs : List V} (i : Nat), DtA K bad H vs ds → DtA K bad H (vs.eraseIdx i) (ds.eraseIdx i)
  | _, _, _, .nil => .nil
  | _, _, 0, .cons _ t => t
  | _, _, i + 1, .cons q t => .cons q (DtA.eraseIdx i t)
theorem DtA.ints : ∀ {ns : List Int} {vs : List V}, DtA K bad H vs (ns.map PyData.int) → vs = ns.map V.int
  | [], _, .nil => rfl
  | _ :: _, _, .cons (.int _) t => by rw [DtA.ints t]; rfl
theorem DtA.bools : ∀ {ns : List Bool} {vs : List V}, DtA K bad H vs (ns.map PyData.bool) → vs = ns.map V.bl
  | [], _, .nil => rfl
  | _ :: _, _, .cons (.bl _) t => by rw [DtA.bools t]; rfl
theorem DtA.strs : ∀ {ns : List Str} {vs : List V}, DtA K bad H vs (ns.map PyData.str) → vs = ns.map V.str
  | [], _, .nil => rfl
  | _ :: _, _, .cons (.str _) t => by rw [DtA.strs t]; rfl
mutual
theorem Dt.dp : ∀ (d : D) (v : V), Dt K bad H v d → Dp K H v d
  | _, _, .non => .non
  | _, _, .bl b => .bl b
  | _, _, .int b => .int b
  | _, _, .str b => .str b
  | .list ds, _, .lst s a => .lst s.sq (DtA.dp ds _ a)
  | .tuple ds, _, .tup s a => .tup s.sq (DtA.dp ds _ a)
theorem DtA.dp : ∀ (ds : List D) (vs : List V), DtA K bad H vs ds → DpAll K H vs ds
  | [], _, .nil => .nil
  | d :: ds, _, .cons h t => .cons (Dt.dp d _ h) (DtA.dp ds _ t)
end
end

/-- data whose top may be bad (it is read, not kept) -/
inductive Bo (K : Frag) (bad : Addr → Prop) (H : Hp) : V → D → Prop
  | of {v : V} {d : D} : Dt K bad H v d → Bo K bad H v d
  | lst {a : Addr} {xs : List V} {ds : List D} : Rd H a (.lst xs) → DtA K bad H xs ds → Bo K bad H (.ref a) (.list ds)
section
variable {K : Frag} {bad bad' : Addr → Prop} {H H' : Hp} {a : Addr} {xs : List V} {v : V}
theorem Bo.same (h : Same H H') {d : D} {v : V} (r : Bo K bad H v d) : Bo K bad H' v d := by
  cases r with
  | of r => exact .of (r.same h)
  | lst r t => exact .lst (rd_pres (bad := fun _ => False) r (.same h) (fun z => z)) (t.same h)
theorem Bo.weak (h : ∀ b, bad' b → bad b) {d : D} {v : V} (r : Bo K bad H v d) : Bo K bad' H v d := by
  cases r with
  | of r => exact .of (r.weak h)
  | lst r t => exact .lst r (t.weak h)
theorem Bo.list {ds : List D} (r : Bo K bad H v (.list ds)) : ∃ a xs, v = .ref a ∧ SqL K H a xs ∧ DtA K bad H xs ds := by
  cases r with
  | of r => cases r with | lst s t => exact ⟨_, _, rfl, s.sq, t⟩
  | lst r t => exact ⟨_, _, rfl, .inl r, t⟩
theorem Bo.tuple {ds : List D} (r : Bo K bad H v (.tuple ds)) : ∃ a xs, v = .ref a ∧ SqT K H a xs ∧ DtA K bad H xs ds := by
  cases r with
  | of r => cases r with | tup s t => exact ⟨_, _, rfl, s.sq, t⟩
theorem Bo.int {i : Int} (r : Bo K bad H v (.int i)) : v = .int i := by cases r with | of r => cases r; rfl
theorem Bo.str {i : Str} (r : Bo K bad H v (.str i)) : v = .str i := by cases r with | of r => cases r; rfl
theorem Bo.bool {i : Bool} (r : Bo K bad H v (.bool i)) : v = .bl i := by cases r with | of r => cases r; rfl
theorem Bo.none (r : Bo K bad H v .none) : v = .non := by cases r with | of r => cases r; rfl
theorem Bo.dp {d : D} (r : Bo K bad H v d) : Dp K H v d := by
  cases r with
  | of r => exact Dt.dp _ _ r
  | lst r t => exact .lst (.inl r) (DtA.dp _ _ t)
end
/-- data that others may change, but not this def's steps (at M) -/
inductive BoM (K : Frag) (bad M : Addr → Prop) (H : Hp) : V → D → Prop
  | of {v : V} {d : D} : Dt K bad H v d → BoM K bad M H v d
  | lst {a : Addr} {xs : List V} {ds : List D} : Rd H a (.lst xs) → ¬ M a → DtA K bad H xs ds → BoM K bad M H (.ref a) (.list ds)
theorem BoM.bo {K : Frag} {bad M : Addr → Prop} {H : Hp} {v : V} {d : D} (h : BoM K bad M H v d) : Bo K bad H v d := by
  cases h with
  | of h => exact .of h
  | lst r n a => exact .lst r a
theorem BoM.same {K : Frag} {bad M : Addr → Prop} {H H' : Hp} {v : V} {d : D} (s : Same H H') (h : BoM K bad M H v d) : BoM K bad M H' v d := by
  cases h with
  | of h => exact .of (h.same s)
  | lst r n a => exact .lst (rd_pres (bad := fun _ => False) r (.same s) (fun z => z)) n (a.same s)
def Rz (l : Bool) (K : Frag) (bad : Addr → Prop) (H : Hp) (v : V) (d : D) : Prop := match l with
  | true => Dt K bad H v d
  | false => Bo K bad H v d
theorem Rz.bo {l : Bool} {K : Frag} {bad : Addr → Prop} {H : Hp} {v : V} {d : D} (r : Rz l K bad H v d) : Bo K bad H v d := by
  cases l with
  | true => exact .of r
  | false => exact r
theorem Rz.same {l : Bool} {K : Frag} {bad : Addr → Prop} {H H' : Hp} {v : V} {d : D} (h : Same H H') (r : Rz l K bad H v d) : Rz l K bad H' v d := by
  cases l with
  | true => exact Dt.same h r
  | false => exact Bo.same h r
theorem Rz.of {l : Bool} {K : Frag} {bad : Addr → Prop} {H : Hp} {v : V} {d : D} (r : Dt K bad H v d) : Rz l K bad H v d := by
  cases l with
  | true => exact r
  | false => exact Bo.of r

/-! ### slots, store -/
structure Gh where
  B : Addr → Prop
  mu : List Addr
def OwnA (ρ : En) (σ : L2.St) (a : Addr) : Prop := ∃ (i : Nat) (d : D), ρ[i]? = some (Cel.own d) ∧ σ[i]? = some (some (V.ref a))
def Mu (g : Gh) (ρ : En) (σ : L2.St) (a : Addr) : Prop := a ∈ g.mu ∨ OwnA ρ σ a
def Bd (g : Gh) (ρ : En) (σ : L2.St) (a : Addr) : Prop := g.B a ∨ Mu g ρ σ a
/-- an own object -/
def OwnO (K : Frag) (bad : Addr → Prop) (H : Hp) (a : Addr) (d : D) : Prop := ∃ xs ds, d = .list ds ∧ H a = some (.lst xs) ∧ DtA K bad H xs ds
def CelOk (K : Frag) (bad M : Addr → Prop) (mu : List Addr) (H : Hp) : Cel → Option V → Prop
  | .no, _ => True
  | .val d, s => ∃ v, s = some v ∧ Dt K bad H v d
  | .own d, s => ∃ a, s = some (.ref a) ∧ OwnO K bad H a d
  | .bor d, s => ∃ v, s = some v ∧ BoM K bad M H v d
  | .ref n, s => ∃ a, s = some (.ref a) ∧ mu[n]? = some a
def SVk (K : Frag) (bad : Addr → Prop) (mu : List Addr) (H : Hp) (v : V) : SV → Prop
  | .dat d => Dt K bad H v d
  | .ref n => ∃ a, v = .ref a ∧ mu[n]? = some a
def SOk (K : Frag) (mg : Str → Option Value) (bad : Addr → Prop) (mu : List Addr) (H : Hp) (a : Addr) : SO → Prop
  | .lst xs => ∃ vs, H a = some (.lst vs) ∧ Paired (SVk K bad mu H) vs xs
  | .ins c fs => ∃ C dx vs, mg c = some (.ref C) ∧ H a = some (.ins C dx vs) ∧ Paired (fun (p : Str × V) (q : Str × SV) => p.1 = q.1 ∧ SVk K bad mu H p.2 q.2) vs fs
structure StoOk (K : Frag) (mg : Str → Option Value) (bad : Addr → Prop) (mu : List Addr) (S : Sto) (H : Hp) : Prop where
  len : S.length = mu.length
  nod : mu.Nodup
  obj : ∀ (n : Nat) (o : SO) (a : Addr), S[n]? = some o → mu[n]? = some a → SOk K mg bad mu H a o
structure EnvOk (K : Frag) (mg : Str → Option Value) (g : Gh) (ρ : En) (S : Sto) (σ : L2.St) (H : Hp) : Prop where
  len : σ.length = ρ.length
  cel : ∀ (i : Nat) (c : Cel) (s : Option V), ρ[i]? = some c → σ[i]? = some s → CelOk K (Bd g ρ σ) (Mu g ρ σ) g.mu H c s
  inj : ∀ (i j : Nat) (d e : D) (a : Addr), ρ[i]? = some (Cel.own d) → ρ[j]? = some (Cel.own e) → σ[i]? = some (some (V.ref a)) → σ[j]? = some (some (V.ref a)) → i = j
  sep : ∀ a, OwnA ρ σ a → a ∉ g.mu ∧ ¬ g.B a
  sto : StoOk K mg (Bd g ρ σ) g.mu S H
  alo : ∀ b, g.B b → ∃ o, H b = some o

section
variable {K : Frag} {mg : Str → Option Value} {bad bad' M M' : Addr → Prop} {mu mu' : List Addr} {H H' : Hp} {a : Addr} {v : V} {g : Gh} {ρ : En} {S : Sto} {σ : L2.St}
theorem SVk.tr {x : SV} (h : SVk K bad mu H v x) (p : Pres bad H H') (gr : Grow bad H bad') (m : mu <+: mu') : SVk K bad' mu' H' v x := by
  cases x with
  | dat d => exact Dt.tr p gr d v h
  | ref n =>
    obtain ⟨a, e1, e2⟩ := h
    refine ⟨a, e1, ?_⟩
    obtain ⟨t, rfl⟩ := m
    rw [List.getElem?_append_left (List.getElem?_eq_some_iff.mp e2).1]
    exact e2
theorem SOk.tr {o : SO} (h : SOk K mg bad mu H a o) (st : ∀ u, H a = some u → H' a = some u) (p : Pres bad H H') (gr : Grow bad H bad') (m : mu <+: mu') : SOk K mg bad' mu' H' a o := by
  cases o with
  | lst xs =>
    obtain ⟨vs, e, r⟩ := h
    exact ⟨vs, st _ e, Paired.mapP r fun _ _ z => SVk.tr z p gr m⟩
  | ins c fs =>
    obtain ⟨C, dx, vs, e0, e, r⟩ := h
    exact ⟨C, dx, vs, e0, st _ e, Paired.mapP r fun _ _ z => ⟨z.1, SVk.tr z.2 p gr m⟩⟩
theorem SOk.some {o : SO} (h : SOk K mg bad mu H a o) : ∃ u, H a = some u := by
  cases o with
  | lst xs => obtain ⟨vs, e, r⟩ := h; exact ⟨_, e⟩
  | ins c fs => obtain ⟨C, dx, vs, e0, e, r⟩ := h; exact ⟨_, e⟩
theorem StoOk.some (h : StoOk K mg bad mu S H) (e : a ∈ mu) : ∃ u, H a = some u := by
  obtain ⟨n, hn, e⟩ := List.getElem_of_mem e
  have hs : n < S.length := by rw [h.len]; exact hn
  exact (h.obj n _ a (List.getElem?_eq_getElem hs) (by rw [List.getElem?_eq_getElem hn, e])).some
theorem StoOk.same (h : StoOk K mg bad mu S H) (s : Same H H') : StoOk K mg bad mu S H' :=
  ⟨h.len, h.nod, fun n o a e1 e2 => (h.obj n o a e1 e2).tr (fun u q => s _ _ q) (.same s) .refl (List.prefix_refl _)⟩
theorem StoOk.weak (h : StoOk K mg bad mu S H) (s : ∀ b, bad' b → bad b) : StoOk K mg bad' mu S H :=
  ⟨h.len, h.nod, fun n o a e1 e2 => (h.obj n o a e1 e2).tr (fun u q => q) (.same (Same.refl H)) (.sub s) (List.prefix_refl _)⟩
theorem OwnO.some {d : D} (h : OwnO K bad H a d) : ∃ u, H a = some u := by obtain ⟨xs, ds, _, e, _⟩ := h; exact ⟨_, e⟩
theorem OwnO.same {d : D} (h : OwnO K bad H a d) (s : Same H H') : OwnO K bad H' a d := by obtain ⟨xs, ds, e1, e, r⟩ := h; exact ⟨xs, ds, e1, s _ _ e, r.same s⟩
theorem OwnO.bo {d : D} (h : OwnO K bad H a d) : Bo K bad H (.ref a) d := by obtain ⟨xs, ds, rfl, e, r⟩ := h; exact .lst (.inl e) r
theorem CelOk.same {c : Cel} {s : Option V} (h : CelOk K bad M mu H c s) (q : Same H H') : CelOk K bad M mu H' c s := by
  cases c with
  | no => trivial
  | val d => obtain ⟨v, e, r⟩ := h; exact ⟨v, e, r.same q⟩
  | own d => obtain ⟨v, e, r⟩ := h; exact ⟨v, e, r.same q⟩
  | bor d => obtain ⟨v, e, r⟩ := h; exact ⟨v, e, r.same q⟩
  | ref n => exact h
theorem EnvOk.same (h : EnvOk K mg g ρ S σ H) (q : Same H H') : EnvOk K mg g ρ S σ H' :=
  ⟨h.len, fun i c s e1 e2 => (h.cel i c s e1 e2).same q, h.inj, h.sep, h.sto.same q, fun b z => by obtain ⟨o, e⟩ := h.alo b z; exact ⟨o, q _ _ e⟩⟩
theorem EnvOk.mu_some (h : EnvOk K mg g ρ S σ H) {b : Addr} (z : Mu g ρ σ b) : ∃ o, H b = some o := by
  rcases z with z | ⟨i, d, e1, e2⟩
  · exact h.sto.some z
  · obtain ⟨a, e, r⟩ := h.cel i _ _ e1 e2
    cases e
    exact r.some
theorem EnvOk.bad_some (h : EnvOk K mg g ρ S σ H) {b : Addr} (z : Bd g ρ σ b) : ∃ o, H b = some o := by
  rcases z with z | z
  · exact h.alo b z
  · exact h.mu_some z
theorem EnvOk.slot (h : EnvOk K mg g ρ S σ H) {i : Nat} {c : Cel} (e : ρ[i]? = some c) : ∃ s, σ[i]? = some s ∧ CelOk K (Bd g ρ σ) (Mu g ρ σ) g.mu H c s := by
  have hi : i < σ.length := by rw [h.len]; exact (List.getElem?_eq_some_iff.mp e).1
  exact ⟨_, List.getElem?_eq_getElem hi, h.cel i c _ e (List.getElem?_eq_getElem hi)⟩
end

/-! ### quiet expressions: the state is as it was -/
abbrev EF := En → Sto → Option D
def tQ (X : Cx) (l : Bool) (f : EF) : TE := fun σ H Q => ∃ g ρ S d, EnvOk X.K X.mg g ρ S σ H ∧ f ρ S = some d ∧ ∀ v H', Same H H' → Rz l X.K (Bd g ρ σ) H' v d → Q v H'
structure DQ (X : Cx) (l : Bool) (e : Expr) (f : EF) : Prop where
  pe : PE X e (tQ X l f)
theorem PE.imp {X : Cx} {e : Expr} {t t' : TE} (h : PE X e t) (w : ∀ σ H Q, t' σ H Q → t σ H Q) : PE X e t' := ⟨fun pins s σ H Q I q => h.run pins s σ H Q I (w σ H Q q)⟩
/-- a test -/
abbrev TF := En → Sto → Option Bool
def tTq (X : Cx) (f : TF) : TT := fun σ H Q => ∃ g ρ S b, EnvOk X.K X.mg g ρ S σ H ∧ f ρ S = some b ∧ ∀ H', Same H H' → Q b H'
structure DT (X : Cx) (e : Expr) (f : TF) : Prop where
  pt : PT X e (tTq X f)
theorem PT.imp {X : Cx} {e : Expr} {t t' : TT} (h : PT X e t) (w : ∀ σ H Q, t' σ H Q → t σ H Q) : PT X e t' := ⟨fun pins s σ H Q I q => h.run pins s σ H Q I (w σ H Q q)⟩

/-! names and constants -/
def eVar (i : Nat) : EF := fun ρ _ => match ρ[i]? with
  | some (.val d) => some d
  | _ => none
def bVar (i : Nat) : EF := fun ρ _ => match ρ[i]? with
  | some (.val d) => some d
  | some (.own d) => some d
  | some (.bor d) => some d
  | _ => none
def eC (d : D) : EF := fun _ _ => some d
section
variable {X : Cx} {x : Str} {pos : Pos}
theorem dq_var (i : Nat) (hN : X.N[i]? = some x := by rfl) (hv : Vis X.env.scope x := by first | exact Or.inl rfl | exact Or.inr (Or.inl rfl) | exact Or.inr (Or.inr rfl)) (hd : (x == ("__debug__" : Str)) = false := by decide) (hcd : (x == ("__classdict__" : Str)) = false := by decide) :
    DQ X true (.Name x pos) (eVar i) := by
  refine ⟨PE.imp (pe_var hN hv hd hcd) fun σ H Q h => ?_⟩
  obtain ⟨g, ρ, S, d, ok, e, q⟩ := h
  unfold eVar at e
  split at e
  · rename_i d' e1
    cases e
    obtain ⟨s, e2, v, e3, r⟩ := ok.slot e1
    subst e3
    exact ⟨v, e2, q v H (Same.refl H) r⟩
  · cases e
theorem db_var (i : Nat) (hN : X.N[i]? = some x := by rfl) (hv : Vis X.env.scope x := by first | exact Or.inl rfl | exact Or.inr (Or.inl rfl) | exact Or.inr (Or.inr rfl)) (hd : (x == ("__debug__" : Str)) = false := by decide) (hcd : (x == ("__classdict__" : Str)) = false := by decide) :
    DQ X false (.Name x pos) (bVar i) := by
  refine ⟨PE.imp (pe_var hN hv hd hcd) fun σ H Q h => ?_⟩
  obtain ⟨g, ρ, S, d, ok, e, q⟩ := h
  unfold bVar at e
  split at e
  · rename_i d' e1
    cases e
    obtain ⟨s, e2, v, e3, r⟩ := ok.slot e1
    subst e3
    exact ⟨v, e2, q v H (Same.refl H) (.of r)⟩
  · rename_i d' e1
    cases e
    obtain ⟨s, e2, v, e3, r⟩ := ok.slot e1
    subst e3
    exact ⟨_, e2, q _ H (Same.refl H) r.bo⟩
  · rename_i d' e1
    cases e
    obtain ⟨s, e2, v, e3, r⟩ := ok.slot e1
    subst e3
    exact ⟨v, e2, q v H (Same.refl H) r.bo⟩
  · cases e
theorem tC_q {v : V} {d : D} (h : ∀ (bad : Addr → Prop) (H : Hp), Dt X.K bad H v d) : ∀ σ H Q, tQ X true (eC d) σ H Q → tC v σ H Q := fun σ H Q q => by
  obtain ⟨g, ρ, S, d', ok, e, q⟩ := q
  cases e
  exact q v H (Same.refl H) (h _ _)
theorem dq_int {i : Int} {j} : DQ X true (.Constant (.int i) j pos) (eC (.int i)) := ⟨PE.imp pe_int (tC_q fun _ _ => .int i)⟩
theorem dq_bl {i : Bool} {j} : DQ X true (.Constant (.bool i) j pos) (eC (.bool i)) := ⟨PE.imp pe_bl (tC_q fun _ _ => .bl i)⟩
theorem dq_non {j} : DQ X true (.Constant .none j pos) (eC .none) := ⟨PE.imp pe_non (tC_q fun _ _ => .non)⟩
theorem dq_str {x : Str} {j} : DQ X true (.Constant (.str x) j pos) (eC (.str x)) := ⟨PE.imp pe_str (tC_q fun _ _ => .str x)⟩
end

/-! two places -/
def op2 (F : D → D → Option D) (f g : EF) : EF := fun ρ S => (f ρ S).bind fun a => (g ρ S).bind fun b => F a b
def op1 (F : D → Option D) (f : EF) : EF := fun ρ S => (f ρ S).bind F
/-- an operation by values computes F -/
def OpD (X : Cx) (f : Value → Value → Sem Value) (F : D → D → Option D) : Prop :=
  ∃ r : R2, OpR X f r ∧ ∀ (bad : Addr → Prop) (H : Hp) (x y : V) (d e z : D) (Q : VK), (∀ b, bad b → ∃ o, H b = some o) → Bo X.K bad H x d → Bo X.K bad H y e → F d e = some z →
    (∀ v H', Same H H' → Dt X.K bad H' v z → Q v H') → r x y H Q
def UnD (X : Cx) (f : Value → Sem Value) (F : D → Option D) : Prop :=
  ∃ r : V → Hp → VK → Prop, UnR X f r ∧ ∀ (bad : Addr → Prop) (H : Hp) (x : V) (d z : D) (Q : VK), (∀ b, bad b → ∃ o, H b = some o) → Bo X.K bad H x d → F d = some z →
    (∀ v H', Same H H' → Dt X.K bad H' v z → Q v H') → r x H Q
section
variable {X : Cx} {pos : Pos} {a b : Expr} {l1 l2 : Bool} {f g : EF}
theorem op2_some {F : D → D → Option D} {f g : EF} {ρ : En} {S : Sto} {z : D} (h : op2 F f g ρ S = some z) : ∃ d e, f ρ S = some d ∧ g ρ S = some e ∧ F d e = some z := by
  unfold op2 at h
  cases e1 : f ρ S with
  | none => rw [e1] at h; cases h
  | some d =>
    rw [e1] at h
    cases e2 : g ρ S with
    | none => rw [e2] at h; cases h
    | some e =>
      rw [e2] at h
      exact ⟨d, e, rfl, rfl, h⟩
theorem op1_some {F : D → Option D} {f : EF} {ρ : En} {S : Sto} {z : D} (h : op1 F f ρ S = some z) : ∃ d, f ρ S = some d ∧ F d = some z := by
  unfold op1 at h
  cases e1 : f ρ S with
  | none => rw [e1] at h; cases h
  | some d => rw [e1] at h; exact ⟨d, rfl, h⟩
/-- the reading of two operands and an operation -/
theorem tOp_q {r : R2} {F : D → D → Option D} (hr : ∀ (bad : Addr → Prop) (H : Hp) (x y : V) (d e z : D) (Q : VK), (∀ b, bad b → ∃ o, H b = some o) → Bo X.K bad H x d → Bo X.K bad H y e → F d e = some z →
    (∀ v H', Same H H' → Dt X.K bad H' v z → Q v H') → r x y H Q) : ∀ σ H Q, tQ X true (op2 F f g) σ H Q → tOp r (tQ X l1 f) (tQ X l2 g) σ H Q := fun σ H Q q => by
  obtain ⟨gh, ρ, S, z, ok, e, q⟩ := q
  obtain ⟨d, e', e1, e2, e3⟩ := op2_some e
  refine ⟨gh, ρ, S, d, ok, e1, fun x H1 s1 r1 => ⟨gh, ρ, S, e', ok.same s1, e2, fun y H2 s2 r2 => ?_⟩⟩
  exact hr (Bd gh ρ σ) H2 x y d e' z Q (fun b hb => (ok.same (s1.trans s2)).bad_some hb) (r1.bo.same s2) r2.bo e3 fun v H' s3 r3 => q v H' (s1.trans (s2.trans s3)) r3
theorem dq_bin {op : Operator} {F : D → D → Option D} (ho : OpD X (binaryOp op) F) (ha : DQ X l1 a f) (hb : DQ X l2 b g) : DQ X true (.BinOp a op b pos) (op2 F f g) := by
  obtain ⟨r, h1, h2⟩ := ho
  exact ⟨PE.imp (pe_op h1 ha.pe hb.pe) (tOp_q h2)⟩
theorem dq_cmp {op : CmpOp} {F : D → D → Option D} (ho : OpD X (compareOp op) F) (ha : DQ X l1 a f) (hb : DQ X l2 b g) (hm : behindInMarks op b = false := by first | rfl | exact nomark _) : DQ X true (.Compare a [op] [b] pos) (op2 F f g) := by
  obtain ⟨r, h1, h2⟩ := ho
  exact ⟨PE.imp (pe_cmpR h1 ha.pe hb.pe hm) (tOp_q h2)⟩
theorem dq_un {op : UnaryOp} {F : D → Option D} (ho : UnD X (unaryOp op) F) (ha : DQ X l1 a f) : DQ X true (.UnaryOp op a pos) (op1 F f) := by
  obtain ⟨r, h1, h2⟩ := ho
  refine ⟨PE.imp (pe_un h1 ha.pe) fun σ H Q q => ?_⟩
  obtain ⟨gh, ρ, S, z, ok, e, q⟩ := q
  obtain ⟨d, e1, e2⟩ := op1_some e
  refine ⟨gh, ρ, S, d, ok, e1, fun x H1 s1 r1 => ?_⟩
  exact h2 (Bd gh ρ σ) H1 x d z Q (fun b hb => (ok.same s1).bad_some hb) r1.bo e2 fun v H' s3 r3 => q v H' (s1.trans s3) r3
end
end DL
namespace DL
open PySem PySem.Spec PyProof.Rows L2

/-! ### lists made by operators, whatever their slots -/
theorem list_add_any (l : Addr) (items : Array Value) (n : Nat) (b : Addr) (items2 : Array Value) (n2 : Nat) (sl sl2 : Array (Option Value)) (hc0 : items.size + items2.size ≤ sizeLine) :
    Meets (Builtin.«list.__add__» ⟨[.ref l, .ref b], []⟩) (fun _ R s => s.heap.get? l = some { cls := .type "list", dict := none, data := .seq items n, slots := sl } ∧ s.heap.get? b = some { cls := .type "list", dict := none, data := .seq items2 n2, slots := sl2 } ∧ R (.ok (.ret (Value.ref s.heap.objs.size))) { s with heap := s.heap.push { cls := Value.type "list", data := Data.seq (items ++ items2) }, toks := s.toks }) :=
  .of_wp fun prog w A R s h => by
    obtain ⟨hp, g, d, tk, os⟩ := s; obtain ⟨hl, hb, h⟩ := h
    have f1 := AutoSeq1.idx_int; have f2 := AutoSeq1.sub_tuple_tuple; have f3 := AutoSeq1.sub_list_list; have f4 := AutoSeq1.sub_tuple_list; have f5 := AutoSeq1.sub_list_tuple
    wp_walk using AutoSeq1.wpAny_loadPart' hl, AutoSeq1.wpAny_loadPart' hb
    exact ⟨_, rfl, h⟩
theorem list_mul_any (l : Addr) (items : Array Value) (n : Nat) (sl : Array (Option Value)) (x : Int) (u : Tok) (hc0 : ¬(!Builtin.List.listFitsIndex x) = true) (hc1 : ¬items.size * x.toNat > (2 ^ 63 - 1) / 8) (hc2 : ¬Builtin.List.listTooLong (items.size * x.toNat) = true) :
    Meets (Builtin.«list.__mul__» ⟨[.ref l, .int x u], []⟩) (fun _ R s => s.heap.get? l = some { cls := .type "list", dict := none, data := .seq items n, slots := sl } ∧ R (.ok (.ret (Value.ref s.heap.objs.size))) { s with heap := s.heap.push { cls := Value.type "list", data := Data.seq (List.foldl (fun x1 x2 => x1 ++ x2) #[] (List.replicate (if items.isEmpty = true then 0 else x.toNat) items)) }, toks := s.toks }) :=
  .of_wp fun prog w A R s h => by
    obtain ⟨hp, g, d, tk, os⟩ := s; obtain ⟨hl, h⟩ := h
    have hsz := AutoListH.joined_fits hc2
    wp_walk; refine wpAny_ite_false (decide_eq_false (Nat.not_lt.mpr hsz)) ?_; wp_walk; exact ⟨_, rfl, h⟩
theorem int_rmul_any (a : Int) (t : Tok) (l : Addr) (items : Array Value) (n : Nat) (sl : Array (Option Value)) :
    Meets (Builtin.«int.__rmul__» ⟨[.int a t, .ref l], []⟩) (fun _ R s => s.heap.get? l = some { cls := .type "list", dict := none, data := .seq items n, slots := sl } ∧ R (.ok (.ret Value.notImplemented)) s) :=
  .of_wp fun prog w A R s h => by obtain ⟨hp, g, d, tk, os⟩ := s; obtain ⟨hl, h⟩ := h; wp_walk; exact ⟨_, rfl, h⟩
section
variable {X : Cx}
def rCatL (K : Frag) : R2 := fun x y H Q => ∃ l b xs zs, x = .ref l ∧ y = .ref b ∧ SqL K H l xs ∧ SqL K H b zs ∧ xs.length + zs.length ≤ sizeLine ∧ ∀ p, H p = none → Q (.ref p) (upd H p (.lst (xs ++ zs)))
theorem op_catL : OpR X (binaryOp .Add) (rCatL X.K) := by
  intro pins s σ H x y v u Q I rx ry h
  obtain ⟨l, b, xs, zs, rfl, rfl, hH, hB, hz, q⟩ := h
  cases rx
  cases ry
  obtain ⟨its, r, ⟨⟨c1, d1, t1, sl1⟩, n, e, hc, hd, ht⟩, hl⟩ := I.list hH
  obtain ⟨its2, r2, ⟨⟨c2, d2, t2, sl2⟩, n2, e2, hc2, hd2, ht2⟩, hl2⟩ := I.list hB
  simp only at hc hd ht hc2 hd2 ht2
  subst hc hd ht hc2 hd2 ht2
  have L1 := r.length
  have L2 := r2.length
  refine concat_meets ⟨_, e, rfl⟩ ⟨_, e2, rfl⟩ noFill_list_add seq_list_add F.slot_list_add F.entry_list_add (F.args_list_add_2 _ _) (list_add_any l its.toArray n b its2.toArray n2 sl1 sl2 (by rw [List.size_toArray, List.size_toArray]; omega)) ⟨e, e2, ?_⟩
  have ea : its.toArray ++ its2.toArray = (its ++ its2).toArray := by simp
  rw [ea]
  exact ⟨.ref _, _, I.lnew (t' := s.toks) (r.append r2) (by rw [List.length_append]; omega), rfl, q _ I.fresh⟩
def rRepL (K : Frag) : R2 := fun x y H Q => ∃ l k xs, x = .ref l ∧ y = .int k ∧ SqL K H l xs ∧ -(2 ^ 63) ≤ k ∧ k < 2 ^ 63 ∧ xs.length * k.toNat ≤ sizeLine ∧
  ∀ p, H p = none → Q (.ref p) (upd H p (.lst (List.replicate k.toNat xs).flatten))
theorem op_repL : OpR X (binaryOp .Mult) (rRepL X.K) := by
  intro pins s σ H x y v u Q I rx ry h
  obtain ⟨l, k, xs, rfl, rfl, hH, h1, h2, hz, q⟩ := h
  cases rx
  obtain ⟨t, rfl⟩ := ry
  obtain ⟨its, r, ⟨⟨c1, d1, t1, sl1⟩, n, e, hc, hd, ht⟩, _⟩ := I.list hH
  simp only at hc hd ht
  subst hc hd ht
  have hl := r.length
  have hlen : its.toArray.size * k.toNat ≤ sizeLine := by rw [List.size_toArray, ← hl]; exact hz
  have hcap : ¬ its.toArray.size * k.toNat > (2 ^ 63 - 1) / 8 := by
    have : (sizeLine : Nat) ≤ (2 ^ 63 - 1) / 8 := by decide
    omega
  have hfit : ¬ (!Builtin.List.listFitsIndex k) = true := by
    rw [fitsIndex_both h1 h2]
    exact Bool.false_ne_true
  have hlong : ¬ Builtin.List.listTooLong (its.toArray.size * k.toNat) = true := by
    rw [notLongL hlen]
    exact Bool.false_ne_true
  have hnew : List.foldl (fun x1 x2 => x1 ++ x2) #[] (List.replicate (if its.toArray.isEmpty = true then 0 else k.toNat) its.toArray) = (List.replicate k.toNat its).flatten.toArray := by
    have f0 : ∀ m : Nat, List.foldl (fun x1 x2 => x1 ++ x2) #[] (List.replicate m its.toArray) = (List.replicate m its).flatten.toArray := fun m => by
      have := foldl_rep its m []
      rw [List.nil_append] at this
      exact this
    rw [f0]
    cases its with
    | nil => simp
    | cons a r' => rw [if_neg (by simp)]
  refine wpAny_binaryOp_repeat_ref (T := "list") (U := "int") (by decide) ⟨_, e, rfl⟩ (fun s' => typeIs_int s' k t) noFill_list_mul F.fills_int_mul F.slot_int_rmul repeat_list F.slot_int_index.lookup
    (call_meets F.slot_int_rmul (typeIs_int s k t) F.entry_int_rmul (F.args_int_rmul_2 _ _) (int_rmul_any k t l its.toArray n sl1)
      ⟨e, rfl, ⟨_, e, rfl⟩, call_meets F.slot_list_mul ⟨_, e, rfl⟩ F.entry_list_mul (F.args_list_mul_2 _ _) (list_mul_any l its.toArray n sl1 k t hfit hcap hlong) ⟨e, ?_⟩⟩)
  rw [hnew]
  exact ⟨.ref _, _, I.lnew (t' := s.toks) (r.rep k.toNat) (by rw [PyProof.Rows.lm_len_rep_flat, Nat.mul_comm]; exact hz), rfl, q _ I.fresh⟩
end

/-! ### data functions -/
def intsOf : List D → Option (List Int)
  | [] => some []
  | .int i :: r => (intsOf r).map (i :: ·)
  | _ => none
def boolsOf : List D → Option (List Bool)
  | [] => some []
  | .bool i :: r => (boolsOf r).map (i :: ·)
  | _ => none
def strsOf : List D → Option (List Str)
  | [] => some []
  | .str i :: r => (strsOf r).map (i :: ·)
  | _ => none
theorem intsOf_eq : ∀ {ds : List D} {ns : List Int}, intsOf ds = some ns → ds = ns.map PyData.int
  | [], _, h => by cases h; rfl
  | .int i :: r, _, h => by
    obtain ⟨ms, e, rfl⟩ := Option.map_eq_some_iff.mp h
    rw [intsOf_eq e]; rfl
theorem boolsOf_eq : ∀ {ds : List D} {ns : List Bool}, boolsOf ds = some ns → ds = ns.map PyData.bool
  | [], _, h => by cases h; rfl
  | .bool i :: r, _, h => by
    obtain ⟨ms, e, rfl⟩ := Option.map_eq_some_iff.mp h
    rw [boolsOf_eq e]; rfl
theorem strsOf_eq : ∀ {ds : List D} {ns : List Str}, strsOf ds = some ns → ds = ns.map PyData.str
  | [], _, h => by cases h; rfl
  | .str i :: r, _, h => by
    obtain ⟨ms, e, rfl⟩ := Option.map_eq_some_iff.mp h
    rw [strsOf_eq e]; rfl
theorem intsOf_map : ∀ ns : List Int, intsOf (ns.map PyData.int) = some ns
  | [] => rfl
  | i :: r => by rw [List.map_cons, intsOf, intsOf_map r]; rfl
theorem boolsOf_map : ∀ ns : List Bool, boolsOf (ns.map PyData.bool) = some ns
  | [] => rfl
  | i :: r => by rw [List.map_cons, boolsOf, boolsOf_map r]; rfl
theorem strsOf_map : ∀ ns : List Str, strsOf (ns.map PyData.str) = some ns
  | [] => rfl
  | i :: r => by rw [List.map_cons, strsOf, strsOf_map r]; rfl

def addD : D → D → Option D
  | .int i, .int j => some (.int (i + j))
  | .str a, .str b => if a.length + b.length ≤ sizeLine then some (.str (a ++ b)) else none
  | .list xs, .list ys => if xs.length + ys.length ≤ sizeLine then some (.list (xs ++ ys)) else none
  | .tuple xs, .tuple ys => if xs ≠ [] ∧ xs.length + ys.length ≤ sizeLine then some (.tuple (xs ++ ys)) else none
  | _, _ => none
def subD : D → D → Option D
  | .int i, .int j => some (.int (i - j))
  | _, _ => none
def mulD : D → D → Option D
  | .int i, .int j => if i.natAbs.log2 + j.natAbs.log2 < 100000000 then some (.int (i * j)) else none
  | .list xs, .int k => if -(2 ^ 63) ≤ k ∧ k < 2 ^ 63 ∧ xs.length * k.toNat ≤ sizeLine then some (.list (List.replicate k.toNat xs).flatten) else none
  | _, _ => none
def fdivD : D → D → Option D
  | .int i, .int j => if j ≠ 0 then some (.int (i.fdiv j)) else none
  | _, _ => none
def modD : D → D → Option D
  | .int i, .int j => if j ≠ 0 then some (.int (i.fmod j)) else none
  | _, _ => none
def powD : D → D → Option D
  | .int i, .int j => if 0 ≤ j ∧ j ≤ 1000000 ∧ i.natAbs < 2 ^ 64 then some (.int (i ^ j.toNat)) else none
  | _, _ => none
def negD : D → Option D
  | .int i => some (.int (-i))
  | _ => none
def eqD (d e : D) : Option D := if SeqAt.shaped d = true ∧ SeqAt.shaped e = true then some (.bool (PyData.eqv d e)) else match d, e with
  | .str a, .str b => some (.bool (a == b))
  | _, _ => none
def neD (d e : D) : Option D := if SeqAt.shaped d = true ∧ SeqAt.shaped e = true then some (.bool (!PyData.eqv d e)) else match d, e with
  | .str a, .str b => some (.bool (!(a == b)))
  | _, _ => none
def ltD : D → D → Option D
  | .int i, .int j => some (.bool (decide (i < j)))
  | _, _ => none
def leD : D → D → Option D
  | .int i, .int j => some (.bool (decide (i ≤ j)))
  | _, _ => none
def gtD : D → D → Option D
  | .int i, .int j => some (.bool (decide (j < i)))
  | _, _ => none
def geD : D → D → Option D
  | .int i, .int j => some (.bool (decide (j ≤ i)))
  | _, _ => none
def isNoneD : D → Bool
  | .none => true
  | _ => false
def isD : D → D → Option D
  | d, .none => some (.bool (isNoneD d))
  | _, _ => none
def isNotD : D → D → Option D
  | d, .none => some (.bool (!isNoneD d))
  | _, _ => none
def inD : D → D → Option D
  | d, .list ds => if SeqAt.shaped d = true ∧ SeqAt.shaped (.list ds) = true then some (.bool (ds.any fun z => PyData.eqv z d)) else none
  | d, .tuple ds => if SeqAt.shaped d = true ∧ SeqAt.shaped (.tuple ds) = true then some (.bool (ds.any fun z => PyData.eqv z d)) else none
  | _, _ => none
def notInD : D → D → Option D
  | d, .list ds => if SeqAt.shaped d = true ∧ SeqAt.shaped (.list ds) = true then some (.bool (!ds.any fun z => PyData.eqv z d)) else none
  | d, .tuple ds => if SeqAt.shaped d = true ∧ SeqAt.shaped (.tuple ds) = true then some (.bool (!ds.any fun z => PyData.eqv z d)) else none
  | _, _ => none

section
variable {X : Cx} {bad : Addr → Prop} {H : Hp} {x y v : V} {d e z : D}
/-- a fresh list, a fresh tuple -/
theorem Dt.newL {K : Frag} {p : Addr} {xs : List V} {ds : List D} (al : ∀ b, bad b → ∃ o, H b = some o) (hp : H p = none) (h : DtA K bad H xs ds) : Dt K bad (upd H p (.lst xs)) (.ref p) (.list ds) := by
  refine .lst (.inl ⟨.inl upd_same, fun z => ?_⟩) (DtA.same (fun b o e => ?_) h)
  · obtain ⟨o, e⟩ := al p z
    rw [hp] at e; cases e
  · rw [upd_ne (ne_of_none e hp)]; exact e
theorem Dt.newT {K : Frag} {p : Addr} {xs : List V} {ds : List D} (al : ∀ b, bad b → ∃ o, H b = some o) (hp : H p = none) (h : DtA K bad H xs ds) : Dt K bad (upd H p (.tup xs)) (.ref p) (.tuple ds) := by
  refine .tup (.inl ⟨.inl upd_same, fun z => ?_⟩) (DtA.same (fun b o e => ?_) h)
  · obtain ⟨o, e⟩ := al p z
    rw [hp] at e; cases e
  · rw [upd_ne (ne_of_none e hp)]; exact e
theorem same_new {p : Addr} {o : HO} (hp : H p = none) : Same H (upd H p o) := fun b u e => by
  rw [upd_ne (ne_of_none e hp)]; exact e

def OpR.or' {f : Value → Value → Sem Value} {r r' : R2} (h : OpR X f r) (h' : OpR X f r') : OpR X f (fun x y H Q => r x y H Q ∨ r' x y H Q) := OpR.or h h'
theorem od_add : OpD X (binaryOp .Add) addD := by
  refine ⟨_, OpR.or op_add (OpR.or op_add_str (OpR.or op_catL op_catT)), fun bad H x y d e z Q al hx hy h q => ?_⟩
  unfold addD at h
  split at h
  · cases h
    cases hx.int; cases hy.int
    exact .inl ⟨_, _, rfl, rfl, q _ H (Same.refl H) (.int _)⟩
  · split at h
    · cases h
      cases hx.str; cases hy.str
      exact .inr (.inl ⟨_, _, rfl, rfl, by assumption, q _ H (Same.refl H) (.str _)⟩)
    · cases h
  · split at h
    · cases h
      obtain ⟨a, xs, rfl, s1, t1⟩ := hx.list
      obtain ⟨b, ys, rfl, s2, t2⟩ := hy.list
      refine .inr (.inr (.inl ⟨a, b, xs, ys, rfl, rfl, s1, s2, by rw [t1.length, t2.length]; assumption, fun p hp => q _ _ (same_new hp) (Dt.newL al hp (t1.app t2))⟩))
    · cases h
  · split at h
    · rename_i hc
      cases h
      obtain ⟨a, xs, rfl, s1, t1⟩ := hx.tuple
      obtain ⟨b, ys, rfl, s2, t2⟩ := hy.tuple
      have n1 : xs ≠ [] := fun z => by
        subst z
        have := t1.length
        exact hc.1 (List.eq_nil_of_length_eq_zero this.symm)
      refine .inr (.inr (.inr ⟨a, b, xs, ys, rfl, rfl, s1, s2, n1, by rw [t1.length, t2.length]; exact hc.2, fun z => ?_, fun z p hp => q _ _ (same_new hp) (Dt.newT al hp (t1.app t2))⟩))
      subst z
      cases t2
      rw [List.append_nil] at q
      refine q _ H (Same.refl H) ?_
      cases hx with
      | of hx => exact hx
    · cases h
  · cases h
theorem od_sub : OpD X (binaryOp .Sub) subD := by
  refine ⟨_, op_sub, fun bad H x y d e z Q al hx hy h q => ?_⟩
  unfold subD at h
  split at h
  · cases h
    cases hx.int; cases hy.int
    exact ⟨_, _, rfl, rfl, q _ H (Same.refl H) (.int _)⟩
  · cases h
theorem DtA.rep {K : Frag} {xs : List V} {ds : List D} (h : DtA K bad H xs ds) : ∀ k, DtA K bad H (List.replicate k xs).flatten (List.replicate k ds).flatten
  | 0 => .nil
  | k + 1 => by
    rw [List.replicate_succ, List.replicate_succ, List.flatten_cons, List.flatten_cons]
    exact h.app (DtA.rep h k)
theorem mulx_log {i j : Int} (h : i.natAbs.log2 + j.natAbs.log2 < 100000000) : CMulX i j :=
  mulx_ok (a := i.natAbs.log2 + 1) (b := j.natAbs.log2 + 1) Nat.lt_log2_self Nat.lt_log2_self (by omega)
theorem od_mul : OpD X (binaryOp .Mult) mulD := by
  refine ⟨_, OpR.or op_mulX op_repL, fun bad H x y d e z Q al hx hy h q => ?_⟩
  unfold mulD at h
  split at h
  · split at h
    · cases h
      cases hx.int; cases hy.int
      exact .inl ⟨_, _, rfl, rfl, mulx_log (by assumption), q _ H (Same.refl H) (.int _)⟩
    · cases h
  · split at h
    · rename_i hc
      cases h
      cases hy.int
      obtain ⟨a, xs, rfl, s1, t1⟩ := hx.list
      exact .inr ⟨a, _, xs, rfl, rfl, s1, hc.1, hc.2.1, by rw [t1.length]; exact hc.2.2, fun p hp => q _ _ (same_new hp) (Dt.newL al hp (t1.rep _))⟩
    · cases h
  · cases h
/-- what a division by great numbers asks of a body -/
structure Seer (X : Cx) : Prop where
  base : X.base.NoSeer
  tree : X.prog.given.tree = none
  dep : X.A.depth + 100 < recursionLimit
  stk : ∃ env l, X.stack = env :: l ∧ env.scope.isGenerator = false ∧ env.scope.isCoroutine = false ∧ env.builtins = builtinsNs ∧ env.globals = mainGlobals
theorem op_fdivX (hs : Seer X) : OpR X (binaryOp .FloorDiv) (rI (fun _ j => j ≠ 0) fun i j => .int (i.fdiv j)) := by
  intro pins s σ H x y v u Q I rx ry h
  obtain ⟨i, j, rfl, rfl, hc, q⟩ := h
  obtain ⟨t, rfl⟩ := rx
  obtain ⟨t', rfl⟩ := ry
  have kp : ∀ b o, X.base.get? b = some o → s.heap.get? b = some o := fun b o e => (I.bs b o e).1
  obtain ⟨env, l, e1, e2, e3, e4, e5⟩ := hs.stk
  refine floordiv_int hc ⟨.int (i.fdiv j), H, I.tok _, ⟨_, rfl⟩, q⟩ (.inr (PylongRoom.of (I.ok.mod.nolimit.keeps kp) hs.dep (SeerAt.of (hs.base.keeps kp) hs.tree (I.ok.frames.trans (by rw [e1])) e2 e3 e4 e5)))
theorem od_fdiv (hs : Seer X) : OpD X (binaryOp .FloorDiv) fdivD := by
  refine ⟨_, op_fdivX hs, fun bad H x y d e z Q al hx hy h q => ?_⟩
  unfold fdivD at h
  split at h
  · split at h
    · cases h
      cases hx.int; cases hy.int
      exact ⟨_, _, rfl, rfl, by assumption, q _ H (Same.refl H) (.int _)⟩
    · cases h
  · cases h
theorem od_mod : OpD X (binaryOp .Mod) modD := by
  refine ⟨_, op_modN, fun bad H x y d e z Q al hx hy h q => ?_⟩
  unfold modD at h
  split at h
  · split at h
    · cases h
      cases hx.int; cases hy.int
      exact ⟨_, _, rfl, rfl, by assumption, q _ H (Same.refl H) (.int _)⟩
    · cases h
  · cases h
theorem od_pow : OpD X (binaryOp .Pow) powD := by
  refine ⟨_, op_pow, fun bad H x y d e z Q al hx hy h q => ?_⟩
  unfold powD at h
  split at h
  · split at h
    · cases h
      cases hx.int; cases hy.int
      exact ⟨_, _, rfl, rfl, by assumption, q _ H (Same.refl H) (.int _)⟩
    · cases h
  · cases h
theorem ud_neg : UnD X (unaryOp .USub) negD := by
  refine ⟨_, un_neg, fun bad H x d z Q al hx h q => ?_⟩
  unfold negD at h
  split at h
  · cases h
    cases hx.int
    exact ⟨_, rfl, q _ H (Same.refl H) (.int _)⟩
  · cases h
theorem dec_strV {a b : Str} : decide (V.str a = V.str b) = (a == b) := by
  rw [Bool.eq_iff_iff]
  simp
theorem od_eq (hu : X.A.units + 64 < cLine) : OpD X (compareOp .Eq) eqD := by
  refine ⟨_, OpR.or (op_eqD hu) op_eq, fun bad H x y d e z Q al hx hy h q => ?_⟩
  unfold eqD at h
  split at h
  · rename_i hc
    cases h
    exact .inl ⟨d, e, hx.dp, hy.dp, hc.1, hc.2, q _ H (Same.refl H) (.bl _)⟩
  · split at h
    · cases h
      cases hx.str; cases hy.str
      exact .inr ⟨rfl, by rw [dec_strV]; exact q _ H (Same.refl H) (.bl _)⟩
    · cases h
theorem od_ne (hu : X.A.units + 64 < cLine) : OpD X (compareOp .NotEq) neD := by
  refine ⟨_, OpR.or (op_neD hu) op_ne, fun bad H x y d e z Q al hx hy h q => ?_⟩
  unfold neD at h
  split at h
  · rename_i hc
    cases h
    exact .inl ⟨d, e, hx.dp, hy.dp, hc.1, hc.2, q _ H (Same.refl H) (.bl _)⟩
  · split at h
    · cases h
      cases hx.str; cases hy.str
      exact .inr ⟨rfl, by rw [dec_strV]; exact q _ H (Same.refl H) (.bl _)⟩
    · cases h
theorem od_lt : OpD X (compareOp .Lt) ltD := by
  refine ⟨_, op_lt, fun bad H x y d e z Q al hx hy h q => ?_⟩
  unfold ltD at h
  split at h
  · cases h
    cases hx.int; cases hy.int
    exact ⟨_, _, rfl, rfl, q _ H (Same.refl H) (.bl _)⟩
  · cases h
theorem od_le : OpD X (compareOp .LtE) leD := by
  refine ⟨_, op_le, fun bad H x y d e z Q al hx hy h q => ?_⟩
  unfold leD at h
  split at h
  · cases h
    cases hx.int; cases hy.int
    exact ⟨_, _, rfl, rfl, q _ H (Same.refl H) (.bl _)⟩
  · cases h
theorem od_gt : OpD X (compareOp .Gt) gtD := by
  refine ⟨_, op_gt, fun bad H x y d e z Q al hx hy h q => ?_⟩
  unfold gtD at h
  split at h
  · cases h
    cases hx.int; cases hy.int
    exact ⟨_, _, rfl, rfl, q _ H (Same.refl H) (.bl _)⟩
  · cases h
theorem od_ge : OpD X (compareOp .GtE) geD := by
  refine ⟨_, op_ge, fun bad H x y d e z Q al hx hy h q => ?_⟩
  unfold geD at h
  split at h
  · cases h
    cases hx.int; cases hy.int
    exact ⟨_, _, rfl, rfl, q _ H (Same.refl H) (.bl _)⟩
  · cases h
theorem Bo.isNone {K : Frag} (h : Bo K bad H x d) : decide (x = .non) = isNoneD d := by
  cases h with
  | of h => cases h <;> rfl
  | lst _ _ => rfl
theorem od_is : OpD X (compareOp .Is) isD := by
  refine ⟨_, op_isN, fun bad H x y d e z Q al hx hy h q => ?_⟩
  unfold isD at h
  split at h
  · cases h
    cases hy.none
    exact ⟨rfl, by rw [hx.isNone]; exact q _ H (Same.refl H) (.bl _)⟩
  · cases h
theorem od_isNot : OpD X (compareOp .IsNot) isNotD := by
  refine ⟨_, op_notN, fun bad H x y d e z Q al hx hy h q => ?_⟩
  unfold isNotD at h
  split at h
  · cases h
    cases hy.none
    exact ⟨rfl, by rw [hx.isNone]; exact q _ H (Same.refl H) (.bl _)⟩
  · cases h
/-- x in t, a tuple of data -/
def rInDT (K : Frag) : R2 := fun x y H Q => ∃ d ds, Dp K H x d ∧ Dp K H y (.tuple ds) ∧ SeqAt.shaped d = true ∧ SeqAt.shaped (.tuple ds) = true ∧ Q (.bl (ds.any fun z => PyData.eqv z d)) H
def rNotInDT (K : Frag) : R2 := fun x y H Q => ∃ d ds, Dp K H x d ∧ Dp K H y (.tuple ds) ∧ SeqAt.shaped d = true ∧ SeqAt.shaped (.tuple ds) = true ∧ Q (.bl (!ds.any fun z => PyData.eqv z d)) H
theorem op_inDT (hu : X.A.units + 65 < cLine) : OpR X (compareOp .In) (rInDT X.K) := by
  intro pins s σ H x y v u Q I rx ry h
  obtain ⟨d, ds, hd, he, sd, se, q⟩ := h
  obtain ⟨as, r1⟩ := Dp.reads I d x v hd rx
  obtain ⟨bs, r2⟩ := Dp.reads I (.tuple ds) y u he ry
  exact SeqAt.in_tuple_reads r2 r1 (SeqAt.canLay_of_shaped se) (SeqAt.canLay_of_shaped sd) (room_in_shaped sd hu) ⟨.bl _, H, I, rfl, q⟩
theorem op_notInDT (hu : X.A.units + 65 < cLine) : OpR X (compareOp .NotIn) (rNotInDT X.K) := by
  intro pins s σ H x y v u Q I rx ry h
  obtain ⟨d, ds, hd, he, sd, se, q⟩ := h
  obtain ⟨as, r1⟩ := Dp.reads I d x v hd rx
  obtain ⟨bs, r2⟩ := Dp.reads I (.tuple ds) y u he ry
  exact SeqAt.notIn_tuple_reads r2 r1 (SeqAt.canLay_of_shaped se) (SeqAt.canLay_of_shaped sd) (room_in_shaped sd hu) ⟨.bl _, H, I, rfl, q⟩
theorem od_in (hu : X.A.units + 65 < cLine) : OpD X (compareOp .In) inD := by
  refine ⟨_, OpR.or (op_inD hu) (op_inDT hu), fun bad H x y d e z Q al hx hy h q => ?_⟩
  unfold inD at h
  split at h
  · split at h
    · rename_i hc
      cases h
      exact .inl ⟨_, _, hx.dp, hy.dp, hc.1, hc.2, q _ H (Same.refl H) (.bl _)⟩
    · cases h
  · split at h
    · rename_i hc
      cases h
      exact .inr ⟨_, _, hx.dp, hy.dp, hc.1, hc.2, q _ H (Same.refl H) (.bl _)⟩
    · cases h
  · cases h
theorem od_notIn (hu : X.A.units + 65 < cLine) : OpD X (compareOp .NotIn) notInD := by
  refine ⟨_, OpR.or (op_notInD hu) (op_notInDT hu), fun bad H x y d e z Q al hx hy h q => ?_⟩
  unfold notInD at h
  split at h
  · split at h
    · rename_i hc
      cases h
      exact .inl ⟨_, _, hx.dp, hy.dp, hc.1, hc.2, q _ H (Same.refl H) (.bl _)⟩
    · cases h
  · split at h
    · rename_i hc
      cases h
      exact .inr ⟨_, _, hx.dp, hy.dp, hc.1, hc.2, q _ H (Same.refl H) (.bl _)⟩
    · cases h
  · cases h
end
end DL
namespace DL
open PySem PySem.Spec PyProof.Rows L2

/-! ### argument lists, quiet -/
def evs : List EF → En → Sto → Option (List D)
  | [], _, _ => some []
  | f :: fs, ρ, S => (f ρ S).bind fun d => (evs fs ρ S).map (d :: ·)
def RzA (l : Bool) (K : Frag) (bad : Addr → Prop) (H : Hp) : List V → List D → Prop := Paired (Rz l K bad H)
theorem RzA.same {l : Bool} {K : Frag} {bad : Addr → Prop} {H H' : Hp} {vs : List V} {ds : List D} (h : Same H H') (r : RzA l K bad H vs ds) : RzA l K bad H' vs ds := Paired.mapP r fun _ _ z => z.same h
theorem RzA.dtA {K : Frag} {bad : Addr → Prop} {H : Hp} : ∀ {vs : List V} {ds : List D}, RzA true K bad H vs ds → DtA K bad H vs ds
  | _, _, .nil => .nil
  | _, _, .cons h t => .cons h (RzA.dtA t)
theorem DtA.rzA {K : Frag} {bad : Addr → Prop} {H : Hp} : ∀ {vs : List V} {ds : List D}, DtA K bad H vs ds → RzA true K bad H vs ds
  | _, _, .nil => .nil
  | _, _, .cons h t => .cons h (DtA.rzA t)
theorem RzA.bo {l : Bool} {K : Frag} {bad : Addr → Prop} {H : Hp} {vs : List V} {ds : List D} (r : RzA l K bad H vs ds) : RzA false K bad H vs ds := Paired.mapP r fun _ _ z => z.bo
def tAq (X : Cx) (l : Bool) (fs : List EF) : TA := fun σ H Q => ∃ g ρ S ds, EnvOk X.K X.mg g ρ S σ H ∧ evs fs ρ S = some ds ∧ ∀ vs H', Same H H' → RzA l X.K (Bd g ρ σ) H' vs ds → Q vs H'
structure DAq (X : Cx) (l : Bool) (es : List Expr) (fs : List EF) : Prop where
  pa : PA X es (tAq X l fs)
theorem PA.imp {X : Cx} {e : List Expr} {t t' : TA} (h : PA X e t) (w : ∀ σ H Q, t' σ H Q → t σ H Q) : PA X e t' := ⟨fun pos pins s σ H Q I q => h.run pos pins s σ H Q I (w σ H Q q)⟩
section
variable {X : Cx} {pos : Pos} {e : Expr} {es : List Expr} {l : Bool} {f : EF} {fs : List EF}
theorem evs_cons {ρ : En} {S : Sto} {ds : List D} (h : evs (f :: fs) ρ S = some ds) : ∃ d r, f ρ S = some d ∧ evs fs ρ S = some r ∧ ds = d :: r := by
  unfold evs at h
  cases e1 : f ρ S with
  | none => rw [e1] at h; cases h
  | some d =>
    rw [e1] at h
    obtain ⟨r, e2, rfl⟩ := Option.map_eq_some_iff.mp h
    exact ⟨d, r, rfl, e2, rfl⟩
theorem daq_nil : DAq X l [] [] := ⟨PA.imp pa_nil fun σ H Q q => by
  obtain ⟨g, ρ, S, ds, ok, e, q⟩ := q
  cases e
  exact q [] H (Same.refl H) .nil⟩
theorem daq_cons (h : DQ X l e f) (t : DAq X l es fs) (hs : starEach (e :: es) X.env = (false, eval e X.env) :: starEach es X.env := by rfl) : DAq X l (e :: es) (f :: fs) := ⟨PA.imp (pa_cons h.pe t.pa hs) fun σ H Q q => by
  obtain ⟨g, ρ, S, ds, ok, e, q⟩ := q
  obtain ⟨d, r, e1, e2, rfl⟩ := evs_cons e
  exact ⟨g, ρ, S, d, ok, e1, fun v H1 s1 r1 => ⟨g, ρ, S, r, ok.same s1, e2, fun vs H2 s2 r2 => q _ H2 (s1.trans s2) (.cons (r1.same s2) r2)⟩⟩⟩
theorem DQ.weak (h : DQ X true e f) : DQ X l e f := ⟨PE.imp h.pe fun σ H Q q => by
  obtain ⟨g, ρ, S, d, ok, e, q⟩ := q
  exact ⟨g, ρ, S, d, ok, e, fun v H' s r => q v H' s (.of r)⟩⟩
/-! displays -/
def eTup (fs : List EF) : EF := fun ρ S => (evs fs ρ S).map .tuple
def eLst (fs : List EF) : EF := fun ρ S => (evs fs ρ S).map .list
theorem evs_length : ∀ {fs : List EF} {ρ : En} {S : Sto} {ds : List D}, evs fs ρ S = some ds → ds.length = fs.length
  | [], _, _, _, h => by cases h; rfl
  | f :: fs, _, _, _, h => by
    obtain ⟨d, r, _, e2, rfl⟩ := evs_cons h
    rw [List.length_cons, List.length_cons, evs_length e2]
theorem dq_tup {k} (h : DAq X true es fs) (hl : fs.length ≤ sizeLine := by decide) : DQ X true (.Tuple es k pos) (eTup fs) := ⟨PE.imp (pe_tup h.pa) fun σ H Q q => by
  obtain ⟨g, ρ, S, d, ok, e, q⟩ := q
  obtain ⟨ds, e1, rfl⟩ := Option.map_eq_some_iff.mp e
  refine ⟨g, ρ, S, ds, ok, e1, fun vs H1 s1 r1 => ⟨?_, fun p hp => q _ _ (s1.trans (same_new hp)) (Dt.newT (fun b hb => (ok.same s1).bad_some hb) hp r1.dtA)⟩⟩
  rw [r1.dtA.length, evs_length e1]; exact hl⟩
theorem dq_lst (h : DAq X true es fs) (hl : fs.length ≤ sizeLine := by decide) : DQ X true (.List es pos) (eLst fs) := ⟨PE.imp (pe_lst h.pa) fun σ H Q q => by
  obtain ⟨g, ρ, S, d, ok, e, q⟩ := q
  obtain ⟨ds, e1, rfl⟩ := Option.map_eq_some_iff.mp e
  refine ⟨g, ρ, S, ds, ok, e1, fun vs H1 s1 r1 => ⟨?_, fun p hp => q _ _ (s1.trans (same_new hp)) (Dt.newL (fun b hb => (ok.same s1).bad_some hb) hp r1.dtA)⟩⟩
  rw [r1.dtA.length, evs_length e1]; exact hl⟩

/-! builtins by their values -/
def CallD (X : Cx) (f : Value) (F : List D → Option D) : Prop :=
  ∃ r : List V → Hp → VK → Prop, CallR X f r ∧ ∀ (bad : Addr → Prop) (H : Hp) (vs : List V) (ds : List D) (z : D) (Q : VK), (∀ b, bad b → ∃ o, H b = some o) → RzA false X.K bad H vs ds → F ds = some z →
    (∀ v H', Same H H' → Dt X.K bad H' v z → Q v H') → r vs H Q
def eCall (F : List D → Option D) (fs : List EF) : EF := fun ρ S => (evs fs ρ S).bind F
theorem dq_callB {id : String} {x : Str} {p : Pos} {F : List D → Option D} (hc : CallD X (.builtin id) F) (hg : Gl X x) (hm : X.mg x = none) (hv : bootBuiltins x = some (.builtin id)) (ha : DAq X l (e :: es) fs) (hn : x ≠ "__name__" := by decide) (hdb : (x == ("__debug__" : Str)) = false := by decide)
    (he : starEach (e :: es) X.env = (false, eval e X.env) :: starEach es X.env := by rfl) (hpl : (backTo pos (starEach es X.env)).any (·.1) = false := by rfl) : DQ X true (.Call (.Name x p) (e :: es) [] pos) (eCall F fs) := by
  obtain ⟨r, h1, h2⟩ := hc
  refine ⟨PE.imp (pe_callB h1 hg hm hv ha.pa hn hdb he hpl) fun σ H Q q => ?_⟩
  obtain ⟨g, ρ, S, d, ok, e, q⟩ := q
  obtain ⟨ds, e1, e2⟩ := Option.bind_eq_some_iff.mp e
  exact ⟨g, ρ, S, ds, ok, e1, fun vs H1 s1 r1 => h2 _ H1 vs ds d Q (fun b hb => (ok.same s1).bad_some hb) r1.bo e2 fun v H' s' r' => q v H' (s1.trans s') r'⟩
theorem dq_callTy {id : String} {x : Str} {p : Pos} {F : List D → Option D} (hc : CallD X (.type id) F) (hg : Gl X x) (hm : X.mg x = none) (hv : bootBuiltins x = some (.type id)) (ha : DAq X l (e :: es) fs) (hn : x ≠ "__name__" := by decide) (hdb : (x == ("__debug__" : Str)) = false := by decide)
    (he : starEach (e :: es) X.env = (false, eval e X.env) :: starEach es X.env := by rfl) (hpl : (backTo pos (starEach es X.env)).any (·.1) = false := by rfl) : DQ X true (.Call (.Name x p) (e :: es) [] pos) (eCall F fs) := by
  obtain ⟨r, h1, h2⟩ := hc
  refine ⟨PE.imp (pe_callTy h1 hg hm hv ha.pa hn hdb he hpl) fun σ H Q q => ?_⟩
  obtain ⟨g, ρ, S, d, ok, e, q⟩ := q
  obtain ⟨ds, e1, e2⟩ := Option.bind_eq_some_iff.mp e
  exact ⟨g, ρ, S, ds, ok, e1, fun vs H1 s1 r1 => h2 _ H1 vs ds d Q (fun b hb => (ok.same s1).bad_some hb) r1.bo e2 fun v H' s' r' => q v H' (s1.trans s') r'⟩
end

/-! ### items, slices -/
def ixD : D → D → Option D
  | .list ds, .int i => atI ds i
  | .tuple ds, .int i => atI ds i
  | .str z, .int i => if z.length ≤ sizeLine then (atI z.cps.toList i).map fun c => .str ⟨#[c]⟩ else none
  | _, _ => none
section
variable {X : Cx} {pos : Pos} {a b e : Expr} {l l1 l2 : Bool} {f g : EF}
theorem DtA.atI {K : Frag} {bad : Addr → Prop} {H : Hp} {xs : List V} {ds : List D} {i : Int} {d : D} (h : DtA K bad H xs ds) (e : L2.atI ds i = some d) : ∃ v, L2.atI xs i = some v ∧ Dt K bad H v d := by
  unfold L2.atI at e ⊢
  rw [h.length]
  cases q : ixN ds.length i with
  | none => rw [q] at e; cases e
  | some j =>
    rw [q] at e
    obtain ⟨v, e1, e2⟩ := h.get (show ds[j]? = some d from e)
    exact ⟨v, e1, e2⟩
theorem dq_ix (ha : DQ X l1 a f) (hb : DQ X l2 b g) (hs : PlainIx b := by exact fun _ _ => rfl) : DQ X true (.Subscript a b pos) (op2 ixD f g) := by
  refine ⟨PE.imp (pe_ix ix_seq ha.pe hb.pe hs) (tOp_q fun bad H x y d e z Q al hx hy h q => ?_)⟩
  unfold ixD at h
  split at h
  · cases hy.int
    obtain ⟨p, xs, rfl, s1, t1⟩ := hx.list
    obtain ⟨v, e1, e2⟩ := t1.atI h
    exact .inl ⟨p, xs, _, v, rfl, rfl, s1, e1, q v H (Same.refl H) e2⟩
  · cases hy.int
    obtain ⟨p, xs, rfl, s1, t1⟩ := hx.tuple
    obtain ⟨v, e1, e2⟩ := t1.atI h
    exact .inr (.inl ⟨p, xs, _, v, rfl, rfl, s1, e1, q v H (Same.refl H) e2⟩)
  · split at h
    · cases hy.int
      cases hx.str
      obtain ⟨c, e1, rfl⟩ := Option.map_eq_some_iff.mp h
      exact .inr (.inr ⟨_, _, c, rfl, rfl, by assumption, e1, q _ H (Same.refl H) (.str _)⟩)
    · cases h
  · cases h
/-! slices -/
abbrev OF := En → Sto → Option (Option Int)
def oNone : OF := fun _ _ => some none
def intD : D → Option Int
  | .int i => some i
  | _ => none
def oSome (f : EF) : OF := fun ρ S => (f ρ S).bind fun d => (intD d).map some
def tOq (X : Cx) (f : OF) : TO := fun σ H Q => ∃ g ρ S i, EnvOk X.K X.mg g ρ S σ H ∧ f ρ S = some i ∧ ∀ H', Same H H' → Q i H'
structure DO (X : Cx) (e : Option Expr) (f : OF) : Prop where
  po : PO X e (tOq X f)
theorem PO.imp {e : Option Expr} {t t' : TO} (h : PO X e t) (w : ∀ σ H Q, t' σ H Q → t σ H Q) : PO X e t' := ⟨fun pins s σ H Q I q => h.run pins s σ H Q I (w σ H Q q)⟩
theorem do_none : DO X none oNone := ⟨PO.imp po_none fun σ H Q q => by
  obtain ⟨g, ρ, S, i, ok, e, q⟩ := q
  cases e
  exact q H (Same.refl H)⟩
theorem do_some (h : DQ X l e f) : DO X (some e) (oSome f) := ⟨PO.imp (po_some h.pe) fun σ H Q q => by
  obtain ⟨g, ρ, S, i, ok, e, q⟩ := q
  obtain ⟨d, e1, e2⟩ := Option.bind_eq_some_iff.mp e
  obtain ⟨j, e3, rfl⟩ := Option.map_eq_some_iff.mp e2
  refine ⟨g, ρ, S, d, ok, e1, fun v H1 s1 r1 => ⟨j, ?_, q H1 s1⟩⟩
  unfold intD at e3
  split at e3
  · cases e3
    exact r1.bo.int
  · cases e3⟩
def cutD (xs : List D) (lo hi : Option Int) : List D := (xs.drop (HT.sIx xs.length 0 lo)).take (HT.sIx xs.length xs.length hi - HT.sIx xs.length 0 lo)
theorem DtA.cut {K : Frag} {bad : Addr → Prop} {H : Hp} {xs : List V} {ds : List D} (h : DtA K bad H xs ds) (lo hi : Option Int) : DtA K bad H (cutV xs lo hi) (cutD ds lo hi) := by
  unfold cutV cutD
  rw [h.length]
  exact (h.drop _).take _
def sliceD (d : D) (lo hi : Option Int) : Option D := match d with
  | .list ds => some (.list (cutD ds lo hi))
  | _ => none
def eSlice (f : EF) (lo hi : OF) : EF := fun ρ S => (f ρ S).bind fun d => (lo ρ S).bind fun i => (hi ρ S).bind fun j => sliceD d i j
theorem dq_slice {lo hi : Option Expr} {flo fhi : OF} {p2 : Pos} (ha : DQ X l1 a f) (hl : DO X lo flo) (hh : DO X hi fhi) : DQ X true (.Subscript a (.Slice lo hi none p2) pos) (eSlice f flo fhi) := by
  refine ⟨PE.imp (pe_slice sl_list ha.pe hl.po hh.po) fun σ H Q q => ?_⟩
  obtain ⟨g, ρ, S, z, ok, e, q⟩ := q
  obtain ⟨d, e1, e⟩ := Option.bind_eq_some_iff.mp e
  obtain ⟨i, e2, e⟩ := Option.bind_eq_some_iff.mp e
  obtain ⟨j, e3, e⟩ := Option.bind_eq_some_iff.mp e
  refine ⟨g, ρ, S, d, ok, e1, fun v H1 s1 r1 => ⟨g, ρ, S, i, ok.same s1, e2, fun H2 s2 => ⟨g, ρ, S, j, ok.same (s1.trans s2), e3, fun H3 s3 => ?_⟩⟩⟩
  have r3 := r1.bo.same (s2.trans s3)
  unfold sliceD at e
  split at e
  · cases e
    obtain ⟨p, xs, rfl, sq, t1⟩ := r3.list
    exact ⟨p, xs, rfl, sq, fun p hp => q _ _ (s1.trans (s2.trans (s3.trans (same_new hp)))) (Dt.newL (fun b hb => (ok.same (s1.trans (s2.trans s3))).bad_some hb) hp (t1.cut _ _))⟩
  · cases e
end
end DL
namespace DL
open PySem PySem.Spec PyProof.Rows L2

/-! ### steps of the state -/
structure Tr (M : Addr → Prop) (H : Hp) (M' : Addr → Prop) (H' : Hp) : Prop where
  pres : Pres M H H'
  grow : Grow M H M'
  live : ∀ b, (∃ o, H b = some o) → ∃ o, H' b = some o
theorem Tr.refl {M : Addr → Prop} {H : Hp} : Tr M H M H := ⟨fun _ _ e _ => e, fun _ h => .inl h, fun _ h => h⟩
theorem Tr.same {M : Addr → Prop} {H H' : Hp} (s : Same H H') : Tr M H M H' := ⟨fun _ _ e _ => s _ _ e, fun _ h => .inl h, fun _ ⟨o, h⟩ => ⟨o, s _ _ h⟩⟩
theorem Tr.trans {M M' M'' : Addr → Prop} {H H' H'' : Hp} (a : Tr M H M' H') (b : Tr M' H' M'' H'') : Tr M H M'' H'' := by
  refine ⟨fun c o e n => ?_, fun c h => ?_, fun c h => b.live c (a.live c h)⟩
  · refine b.pres c o (a.pres c o e n) fun z => ?_
    rcases a.grow c z with q | q
    · exact n q
    · rw [e] at q; cases q
  · rcases b.grow c h with q | q
    · exact a.grow c q
    · cases e : H c with
      | none => exact .inr rfl
      | some o =>
        obtain ⟨u, e2⟩ := a.live c ⟨o, e⟩
        rw [q] at e2; cases e2
theorem Tr.sub {M M' M'' : Addr → Prop} {H H' : Hp} (a : Tr M H M' H') (h : ∀ b, M'' b → M' b) : Tr M H M'' H' := ⟨a.pres, fun c z => a.grow c (h c z), a.live⟩
theorem Tr.wid {M M' M0 : Addr → Prop} {H H' : Hp} (a : Tr M H M' H') (h : ∀ b, M b → M0 b) : Tr M0 H M' H' := ⟨fun c o e n => a.pres c o e fun z => n (h c z), fun c z => (a.grow c z).imp (h c) id, a.live⟩

section
variable {K : Frag} {mg : Str → Option Value} {g : Gh} {ρ ρ' : En} {S S' : Sto} {σ σ' : L2.St} {H H' : Hp} {mu' : List Addr}
/-- what is bad, behind a step -/
theorem bd_grow {B M M' : Addr → Prop} (t : Tr M H M' H') : Grow (fun b => B b ∨ M b) H (fun b => B b ∨ M' b) := fun b h => by
  rcases h with h | h
  · exact .inl (.inl h)
  · rcases t.grow b h with q | q
    · exact .inl (.inr q)
    · exact .inr q
theorem bd_pres {B M M' : Addr → Prop} (t : Tr M H M' H') : Pres (fun b => B b ∨ M b) H H' := fun b o e n => t.pres b o e fun z => n (.inr z)
theorem boM_tr {B M M' : Addr → Prop} {v : V} {d : D} (t : Tr M H M' H') (h : BoM K (fun b => B b ∨ M b) M H v d) : BoM K (fun b => B b ∨ M' b) M' H' v d := by
  cases h with
  | of h => exact .of (Dt.tr (bd_pres t) (bd_grow t) _ _ h)
  | lst r n a =>
    refine .lst (rd_pres r t.pres n) (fun z => ?_) (DtA.tr (bd_pres t) (bd_grow t) _ _ a)
    rcases t.grow _ z with q | q
    · exact n q
    · obtain ⟨o, e⟩ := rd_some r
      rw [q] at e; cases e
/-- the state behind a step -/
structure Nxt (K : Frag) (mg : Str → Option Value) (g : Gh) (ρ : En) (σ : L2.St) (H : Hp) (mu' : List Addr) (ρ' : En) (S' : Sto) (σ' : L2.St) (H' : Hp) : Prop where
  env : EnvOk K mg ⟨g.B, mu'⟩ ρ' S' σ' H'
  tr : Tr (Mu g ρ σ) H (Mu ⟨g.B, mu'⟩ ρ' σ') H'
  pre : g.mu <+: mu'
theorem Nxt.refl (h : EnvOk K mg g ρ S σ H) : Nxt K mg g ρ σ H g.mu ρ S σ H := ⟨h, .refl, List.prefix_refl _⟩
theorem Nxt.same (h : EnvOk K mg g ρ S σ H) (s : Same H H') : Nxt K mg g ρ σ H g.mu ρ S σ H' := ⟨h.same s, .same s, List.prefix_refl _⟩
theorem Nxt.trans {mu1 mu2 : List Addr} {ρ1 ρ2 : En} {S1 S2 : Sto} {σ1 σ2 : L2.St} {H1 H2 : Hp} (a : Nxt K mg g ρ σ H mu1 ρ1 S1 σ1 H1) (b : Nxt K mg ⟨g.B, mu1⟩ ρ1 σ1 H1 mu2 ρ2 S2 σ2 H2) : Nxt K mg g ρ σ H mu2 ρ2 S2 σ2 H2 :=
  ⟨b.env, a.tr.trans b.tr, a.pre.trans b.pre⟩
/-- a value kept over a step -/
theorem Nxt.sv {v : V} {r : SV} (a : Nxt K mg g ρ σ H mu' ρ' S' σ' H') (h : SVk K (Bd g ρ σ) g.mu H v r) : SVk K (Bd ⟨g.B, mu'⟩ ρ' σ') mu' H' v r := SVk.tr h (bd_pres a.tr) (bd_grow a.tr) a.pre
theorem Nxt.dt {v : V} {d : D} (a : Nxt K mg g ρ σ H mu' ρ' S' σ' H') (h : Dt K (Bd g ρ σ) H v d) : Dt K (Bd ⟨g.B, mu'⟩ ρ' σ') H' v d := Dt.tr (bd_pres a.tr) (bd_grow a.tr) _ _ h
theorem Nxt.live (a : Nxt K mg g ρ σ H mu' ρ' S' σ' H') {b : Addr} (h : ∃ o, H b = some o) : ∃ o, H' b = some o := a.tr.live b h
/-- the store has changed, the slots have not -/
theorem EnvOk.stepS (h : EnvOk K mg g ρ S σ H) (t : Tr (fun b => b ∈ g.mu) H (fun b => b ∈ mu') H') (p : g.mu <+: mu') (st : StoOk K mg (fun b => (g.B b ∨ OwnA ρ σ b) ∨ b ∈ mu') mu' S' H') : Nxt K mg g ρ σ H mu' ρ S' σ H' := by
  have tw : Tr (Mu g ρ σ) H (Mu ⟨g.B, mu'⟩ ρ σ) H' := by
    refine ⟨fun b o e n => t.pres b o e fun z => n (.inl z), fun b z => ?_, t.live⟩
    rcases z with z | z
    · exact (t.grow b z).imp .inl id
    · exact .inl (.inr z)
  have bg : Grow (Bd g ρ σ) H (Bd ⟨g.B, mu'⟩ ρ σ) := bd_grow tw
  have bp : Pres (Bd g ρ σ) H H' := bd_pres tw
  refine ⟨⟨h.len, fun i c s e1 e2 => ?_, h.inj, fun a z1 => ⟨fun z2 => ?_, (h.sep a z1).2⟩, st.weak fun b z => ?_, fun b z => t.live b (h.alo b z)⟩, tw, p⟩
  · have k := h.cel i c s e1 e2
    cases c with
    | no => trivial
    | val d => obtain ⟨v, e, r⟩ := k; exact ⟨v, e, Dt.tr bp bg _ _ r⟩
    | own d =>
      obtain ⟨a, e, xs, ds, e3, e4, r⟩ := k
      refine ⟨a, e, xs, ds, e3, t.pres a _ e4 (h.sep a ⟨i, d, e1, by rw [e2, e]⟩).1, DtA.tr bp bg _ _ r⟩
    | bor d =>
      obtain ⟨v, e, r⟩ := k
      exact ⟨v, e, boM_tr tw r⟩
    | ref n =>
      obtain ⟨a, e1, e2⟩ := k
      refine ⟨a, e1, ?_⟩
      obtain ⟨t, rfl⟩ := p
      rw [List.getElem?_append_left (List.getElem?_eq_some_iff.mp e2).1]
      exact e2
  · rcases t.grow a z2 with q | q
    · exact (h.sep a z1).1 q
    · obtain ⟨o, e⟩ := h.mu_some (.inr z1)
      rw [q] at e; cases e
  · rcases z with z | z | z
    · exact .inl (.inl z)
    · exact .inr z
    · exact .inl (.inr z)
/-! ### a slot is set -/
theorem CelOk.weak {bad bad' M M' : Addr → Prop} {mu : List Addr} {c : Cel} {s : Option V} (h : CelOk K bad M mu H c s) (b : ∀ a, bad' a → bad a) (m : ∀ a, M' a → M a) : CelOk K bad' M' mu H c s := by
  cases c with
  | no => trivial
  | val d => obtain ⟨v, e, r⟩ := h; exact ⟨v, e, r.weak b⟩
  | own d => obtain ⟨a, e, xs, ds, e1, e2, r⟩ := h; exact ⟨a, e, xs, ds, e1, e2, r.weak b⟩
  | bor d =>
    obtain ⟨v, e, r⟩ := h
    cases r with
    | of r => exact ⟨v, e, .of (r.weak b)⟩
    | lst r n a => exact ⟨_, e, .lst r (fun z => n (m _ z)) (a.weak b)⟩
  | ref n => exact h
theorem EnvOk.setc (h : EnvOk K mg g ρ S σ H) {i : Nat} {c : Cel} {v : V} (hc : ∀ d, c ≠ .own d) (ok : CelOk K (Bd g ρ σ) (Mu g ρ σ) g.mu H c (some v)) : Nxt K mg g ρ σ H g.mu (ρ.set i c) S (σ.set i (some v)) H := by
  have ow : ∀ a, OwnA (ρ.set i c) (σ.set i (some v)) a → OwnA ρ σ a := fun a ⟨j, d, e1, e2⟩ => by
    by_cases hj : i = j
    · subst hj
      by_cases hl : i < ρ.length
      · rw [List.getElem?_set_self hl] at e1
        cases e1
        exact absurd rfl (hc d)
      · rw [List.getElem?_eq_none (by rw [List.length_set]; omega)] at e1; cases e1
    · rw [List.getElem?_set_ne hj] at e1 e2
      exact ⟨j, d, e1, e2⟩
  have mw : ∀ a, Mu g (ρ.set i c) (σ.set i (some v)) a → Mu g ρ σ a := fun a z => z.imp id (ow a)
  have bw : ∀ a, Bd g (ρ.set i c) (σ.set i (some v)) a → Bd g ρ σ a := fun a z => z.imp id (mw a)
  refine ⟨⟨by rw [List.length_set, List.length_set]; exact h.len, fun j c' s e1 e2 => ?_, fun j k d e a e1 e2 e3 e4 => ?_, fun a z => h.sep a (ow a z), h.sto.weak bw, h.alo⟩, ⟨fun _ _ e _ => e, fun b z => .inl (mw b z), fun _ z => z⟩, List.prefix_refl _⟩
  · by_cases hj : i = j
    · subst hj
      by_cases hl : i < ρ.length
      · rw [List.getElem?_set_self hl] at e1
        rw [List.getElem?_set_self (by rw [h.len]; exact hl)] at e2
        cases e1; cases e2
        exact ok.weak bw mw
      · rw [List.getElem?_eq_none (by rw [List.length_set]; omega)] at e1; cases e1
    · rw [List.getElem?_set_ne hj] at e1 e2
      exact (h.cel j c' s e1 e2).weak bw mw
  · have nn : ∀ (j : Nat) (d : D), (ρ.set i c)[j]? = some (Cel.own d) → i ≠ j := fun j d e1 hj => by
      subst hj
      by_cases hl : i < ρ.length
      · rw [List.getElem?_set_self hl] at e1
        cases e1
        exact hc d rfl
      · rw [List.getElem?_eq_none (by rw [List.length_set]; omega)] at e1; cases e1
    have n1 := nn j d e1
    have n2 := nn k e e2
    rw [List.getElem?_set_ne n1] at e1 e3
    rw [List.getElem?_set_ne n2] at e2 e4
    exact h.inj j k d e a e1 e2 e3 e4
/-- an own object is frozen -/
theorem EnvOk.freeze (h : EnvOk K mg g ρ S σ H) {i : Nat} {d : D} (e : ρ[i]? = some (Cel.own d)) : Nxt K mg g ρ σ H g.mu (ρ.set i (.val d)) S σ H := by
  have hl : i < ρ.length := (List.getElem?_eq_some_iff.mp e).1
  obtain ⟨s, es, a, es', o⟩ := h.slot e
  subst es'
  have ow : ∀ b, OwnA (ρ.set i (.val d)) σ b → OwnA ρ σ b ∧ b ≠ a := fun b ⟨j, d', e1, e2⟩ => by
    by_cases hj : i = j
    · subst hj
      rw [List.getElem?_set_self hl] at e1
      cases e1
    · rw [List.getElem?_set_ne hj] at e1
      refine ⟨⟨j, d', e1, e2⟩, fun z => hj ?_⟩
      subst z
      exact h.inj i j d d' b e e1 es e2
  have mw : ∀ b, Mu g (ρ.set i (.val d)) σ b → Mu g ρ σ b := fun b z => z.imp id fun z => (ow b z).1
  have bw : ∀ b, Bd g (ρ.set i (.val d)) σ b → Bd g ρ σ b := fun b z => z.imp id (mw b)
  have na : ¬ Bd g (ρ.set i (.val d)) σ a := fun z => by
    have q := h.sep a ⟨i, d, e, es⟩
    rcases z with z | z | z
    · exact q.2 z
    · exact q.1 z
    · exact (ow a z).2 rfl
  refine ⟨⟨by rw [List.length_set]; exact h.len, fun j c' s e1 e2 => ?_, fun j k d' e' b e1 e2 e3 e4 => ?_, fun b z => h.sep b (ow b z).1, h.sto.weak bw, h.alo⟩, ⟨fun _ _ e _ => e, fun b z => .inl (mw b z), fun _ z => z⟩, List.prefix_refl _⟩
  · by_cases hj : i = j
    · subst hj
      rw [List.getElem?_set_self hl] at e1
      rw [es] at e2
      cases e1; cases e2
      obtain ⟨xs, ds, rfl, e3, r⟩ := o
      exact ⟨_, rfl, .lst (.inl ⟨.inl e3, na⟩) (r.weak bw)⟩
    · rw [List.getElem?_set_ne hj] at e1
      exact (h.cel j c' s e1 e2).weak bw mw
  · have nn : ∀ (j : Nat) (d' : D), (ρ.set i (.val d))[j]? = some (Cel.own d') → i ≠ j := fun j d' e1 hj => by
      subst hj
      rw [List.getElem?_set_self hl] at e1
      cases e1
    have n1 := nn j d' e1
    have n2 := nn k e' e2
    rw [List.getElem?_set_ne n1] at e1
    rw [List.getElem?_set_ne n2] at e2
    exact h.inj j k d' e' b e1 e2 e3 e4
/-- less is bad -/
theorem EnvOk.shrink {B' : Addr → Prop} (h : EnvOk K mg g ρ S σ H) (b : ∀ a, B' a → g.B a) : EnvOk K mg ⟨B', g.mu⟩ ρ S σ H := by
  have bw : ∀ a, Bd ⟨B', g.mu⟩ ρ σ a → Bd g ρ σ a := fun a z => z.imp (b a) id
  exact ⟨h.len, fun i c s e1 e2 => (h.cel i c s e1 e2).weak bw (fun _ z => z), h.inj, fun a z => ⟨(h.sep a z).1, fun q => (h.sep a z).2 (b a q)⟩, h.sto.weak bw, fun a z => h.alo a (b a z)⟩
/-- a new object is kept away -/
theorem EnvOk.lend {p : Addr} (h : EnvOk K mg g ρ S σ H) (s : Same H H') (hp : H p = none) (hp' : ∃ o, H' p = some o) : EnvOk K mg ⟨fun b => g.B b ∨ b = p, g.mu⟩ ρ S σ H' := by
  have gr : Grow (Bd g ρ σ) H (Bd ⟨fun b => g.B b ∨ b = p, g.mu⟩ ρ σ) := fun b z => by
    rcases z with (z | z) | z
    · exact .inl (.inl z)
    · exact .inr (z ▸ hp)
    · exact .inl (.inr z)
  have pr : Pres (Bd g ρ σ) H H' := .same s
  refine ⟨h.len, fun i c q e1 e2 => ?_, h.inj, fun a z => ⟨(h.sep a z).1, fun q => ?_⟩, ⟨h.sto.len, h.sto.nod, fun n o a e1 e2 => (h.sto.obj n o a e1 e2).tr (fun u q => s _ _ q) pr gr (List.prefix_refl _)⟩, fun b z => ?_⟩
  · have k := h.cel i c q e1 e2
    cases c with
    | no => trivial
    | val d => obtain ⟨v, e, r⟩ := k; exact ⟨v, e, Dt.tr pr gr _ _ r⟩
    | own d => obtain ⟨a, e, xs, ds, e3, e4, r⟩ := k; exact ⟨a, e, xs, ds, e3, s _ _ e4, DtA.tr pr gr _ _ r⟩
    | bor d =>
      obtain ⟨v, e, r⟩ := k
      cases r with
      | of r => exact ⟨v, e, .of (Dt.tr pr gr _ _ r)⟩
      | lst r n a => exact ⟨_, e, .lst (rd_pres (bad := fun _ => False) r (.same s) (fun z => z)) n (DtA.tr pr gr _ _ a)⟩
    | ref n => exact k
  · rcases q with q | q
    · exact (h.sep a z).2 q
    · obtain ⟨o, e⟩ := h.mu_some (.inr z)
      rw [q, hp] at e; cases e
  · rcases z with z | z
    · obtain ⟨o, e⟩ := h.alo b z; exact ⟨o, s _ _ e⟩
    · exact z ▸ hp'
/-- the state with a new object at p -/
structure Frs (K : Frag) (mg : Str → Option Value) (g : Gh) (ρ : En) (σ : L2.St) (H : Hp) (p : Addr) (d : D) (mu' : List Addr) (ρ' : En) (S' : Sto) (H' : Hp) : Prop where
  env : EnvOk K mg ⟨fun b => g.B b ∨ b = p, mu'⟩ ρ' S' σ H'
  new : H p = none
  nB : ¬ g.B p
  nM : ¬ Mu ⟨g.B, mu'⟩ ρ' σ p
  tr : Tr (Mu g ρ σ) H (Mu ⟨g.B, mu'⟩ ρ' σ) H'
  pre : g.mu <+: mu'
  own : OwnO K (Bd ⟨fun b => g.B b ∨ b = p, mu'⟩ ρ' σ) H' p d
  bor : ∀ (j : Nat) (d : D) (v : V), ρ'[j]? = some (Cel.bor d) → σ[j]? = some (some v) → BoM K (Bd ⟨fun b => g.B b ∨ b = p, mu'⟩ ρ' σ) (fun a => Mu ⟨g.B, mu'⟩ ρ' σ a ∨ a = p) H' v d
theorem bor_lend {p : Addr} (h : EnvOk K mg g ρ S σ H) (s : Same H H') (hp : H p = none) (j : Nat) (d : D) (v : V) (e1 : ρ[j]? = some (Cel.bor d)) (e2 : σ[j]? = some (some v)) :
    BoM K (Bd ⟨fun b => g.B b ∨ b = p, g.mu⟩ ρ σ) (fun a => Mu g ρ σ a ∨ a = p) H' v d := by
  have gr : Grow (Bd g ρ σ) H (Bd ⟨fun b => g.B b ∨ b = p, g.mu⟩ ρ σ) := fun b z => by
    rcases z with (z | z) | z
    · exact .inl (.inl z)
    · exact .inr (z ▸ hp)
    · exact .inl (.inr z)
  have pr : Pres (Bd g ρ σ) H H' := .same s
  obtain ⟨v', e, r⟩ := h.cel j _ _ e1 e2
  cases e
  cases r with
  | of r => exact .of (Dt.tr pr gr _ _ r)
  | lst r n a =>
    refine .lst (rd_pres (bad := fun _ => False) r (.same s) (fun z => z)) (fun z => ?_) (DtA.tr pr gr _ _ a)
    rcases z with z | z
    · exact n z
    · obtain ⟨o, e⟩ := rd_some r
      rw [z, hp] at e; cases e
theorem Frs.quiet {p : Addr} {H1 : Hp} {xs : List V} {ds : List D} (h : EnvOk K mg g ρ S σ H) (s0 : Same H H1) (s : Same H1 H') (hp : H1 p = none) (hx : H' p = some (.lst xs)) (o : DtA K (Bd g ρ σ) H1 xs ds) : Frs K mg g ρ σ H p (.list ds) g.mu ρ S H' := by
  have hp0 : H p = none := Same.free s0 hp
  have nb : ¬ Bd g ρ σ p := fun z => by
    obtain ⟨o, e⟩ := h.bad_some z
    rw [hp0] at e; cases e
  have gr : Grow (Bd g ρ σ) H1 (Bd ⟨fun b => g.B b ∨ b = p, g.mu⟩ ρ σ) := fun b z => by
    rcases z with (z | z) | z
    · exact .inl (.inl z)
    · exact .inr (z ▸ hp)
    · exact .inl (.inr z)
  exact ⟨h.lend (s0.trans s) hp0 ⟨_, hx⟩, hp0, fun z => nb (.inl z), fun z => nb (.inr z), .same (s0.trans s), List.prefix_refl _, ⟨xs, ds, rfl, hx, DtA.tr (.same s) gr _ _ o⟩, bor_lend h (s0.trans s) hp0⟩
/-- .. as data -/
theorem Frs.nxt {p : Addr} {d : D} (h : Frs K mg g ρ σ H p d mu' ρ' S' H') : Nxt K mg g ρ σ H mu' ρ' S' σ H' := ⟨h.env.shrink fun _ z => .inl z, h.tr, h.pre⟩
theorem Frs.dt {p : Addr} {d : D} (h : Frs K mg g ρ σ H p d mu' ρ' S' H') : Dt K (Bd ⟨g.B, mu'⟩ ρ' σ) H' (.ref p) d := by
  obtain ⟨xs, ds, rfl, e, r⟩ := h.own
  refine .lst (.inl ⟨.inl e, fun z => ?_⟩) (r.weak fun b z => ?_)
  · rcases z with z | z
    · exact h.nB z
    · exact h.nM z
  · exact z.imp .inl id
/-- .. in a slot -/
theorem Frs.put {p : Addr} {d : D} (h : Frs K mg g ρ σ H p d mu' ρ' S' H') (i : Nat) : Nxt K mg g ρ σ H mu' (ρ'.set i (.own d)) S' (σ.set i (some (.ref p))) H' := by
  have hE := h.env
  have ow : ∀ a, OwnA (ρ'.set i (.own d)) (σ.set i (some (.ref p))) a → OwnA ρ' σ a ∨ a = p := fun a ⟨j, d', e1, e2⟩ => by
    by_cases hj : i = j
    · subst hj
      by_cases hl : i < σ.length
      · rw [List.getElem?_set_self hl] at e2
        cases e2
        exact .inr rfl
      · rw [List.getElem?_eq_none (by rw [List.length_set]; omega)] at e2; cases e2
    · rw [List.getElem?_set_ne hj] at e1 e2
      exact .inl ⟨j, d', e1, e2⟩
  have bw : ∀ a, Bd ⟨g.B, mu'⟩ (ρ'.set i (.own d)) (σ.set i (some (.ref p))) a → Bd ⟨fun b => g.B b ∨ b = p, mu'⟩ ρ' σ a := fun a z => by
    rcases z with z | z | z
    · exact .inl (.inl z)
    · exact .inr (.inl z)
    · exact (ow a z).elim (fun q => .inr (.inr q)) fun q => .inl (.inr q)
  have old : ∀ (j : Nat) (d' : D) (a : Addr), ρ'[j]? = some (Cel.own d') → σ[j]? = some (some (V.ref a)) → a ≠ p := fun j d' a e1 e2 z => h.nM (.inr ⟨j, d', e1, z ▸ e2⟩)
  refine ⟨⟨by rw [List.length_set, List.length_set]; exact hE.len, fun j c' s e1 e2 => ?_, fun j k d' e a e1 e2 e3 e4 => ?_, fun a z => ?_, hE.sto.weak bw, fun b z => hE.alo b (.inl z)⟩, ?_, h.pre⟩
  · by_cases hj : i = j
    · subst hj
      by_cases hl : i < ρ'.length
      · rw [List.getElem?_set_self hl] at e1
        rw [List.getElem?_set_self (by rw [hE.len]; exact hl)] at e2
        cases e1; cases e2
        obtain ⟨xs, ds, rfl, e, r⟩ := h.own
        exact ⟨p, rfl, xs, ds, rfl, e, r.weak bw⟩
      · rw [List.getElem?_eq_none (by rw [List.length_set]; omega)] at e1; cases e1
    · rw [List.getElem?_set_ne hj] at e1 e2
      have k := hE.cel j c' s e1 e2
      cases c' with
      | no => trivial
      | val d => obtain ⟨v, e, r⟩ := k; exact ⟨v, e, r.weak bw⟩
      | own d => obtain ⟨a, e, xs, ds, e3, e4, r⟩ := k; exact ⟨a, e, xs, ds, e3, e4, r.weak bw⟩
      | bor d =>
        obtain ⟨v, e, _⟩ := k
        subst e
        have r := h.bor j d v e1 e2
        cases r with
        | of r => exact ⟨v, rfl, .of (r.weak bw)⟩
        | lst r n a => exact ⟨_, rfl, .lst r (fun z => n (z.elim (fun q => .inl (.inl q)) fun q => (ow _ q).imp .inr id)) (a.weak bw)⟩
      | ref n => exact k
  · by_cases h1 : i = j
    · by_cases h2 : i = k
      · exact h1.symm.trans h2
      · exfalso
        subst h1
        rw [List.getElem?_set_ne h2] at e2 e4
        by_cases hl : i < σ.length
        · rw [List.getElem?_set_self hl] at e3
          cases e3
          exact old k e _ e2 e4 rfl
        · rw [List.getElem?_eq_none (by rw [List.length_set]; omega)] at e3; cases e3
    · rw [List.getElem?_set_ne h1] at e1 e3
      by_cases h2 : i = k
      · exfalso
        subst h2
        by_cases hl : i < σ.length
        · rw [List.getElem?_set_self hl] at e4
          cases e4
          exact old j d' _ e1 e3 rfl
        · rw [List.getElem?_eq_none (by rw [List.length_set]; omega)] at e4; cases e4
      · rw [List.getElem?_set_ne h2] at e2 e4
        exact hE.inj j k d' e a e1 e2 e3 e4
  · rcases ow a z with q | q
    · exact ⟨(hE.sep a q).1, fun w => (hE.sep a q).2 (.inl w)⟩
    · subst q
      exact ⟨fun w => h.nM (.inl w), h.nB⟩
  · refine ⟨h.tr.pres, fun b z => ?_, h.tr.live⟩
    rcases z with z | z
    · exact h.tr.grow b (.inl z)
    · rcases ow b z with q | q
      · exact h.tr.grow b (.inr q)
      · exact .inr (q ▸ h.new)
end
end DL
namespace DL
open PySem PySem.Spec PyProof.Rows L2

/-! ### expressions with effects -/
abbrev XF := En → Sto → Option (SV × En × Sto)
def tX (X : Cx) (f : XF) : TE := fun σ H Q => ∃ g ρ S r, EnvOk X.K X.mg g ρ S σ H ∧ f ρ S = some r ∧ ∀ v H' mu', Nxt X.K X.mg g ρ σ H mu' r.2.1 r.2.2 σ H' → SVk X.K (Bd ⟨g.B, mu'⟩ r.2.1 σ) mu' H' v r.1 → Q v H'
structure DX (X : Cx) (e : Expr) (f : XF) : Prop where
  pe : PE X e (tX X f)
def qx (f : EF) : XF := fun ρ S => (f ρ S).map fun d => (.dat d, ρ, S)
abbrev XT := En → Sto → Option (Bool × En × Sto)
def tXT (X : Cx) (f : XT) : TT := fun σ H Q => ∃ g ρ S r, EnvOk X.K X.mg g ρ S σ H ∧ f ρ S = some r ∧ ∀ H' mu', Nxt X.K X.mg g ρ σ H mu' r.2.1 r.2.2 σ H' → Q r.1 H'
structure DXT (X : Cx) (e : Expr) (f : XT) : Prop where
  pt : PT X e (tXT X f)
def qt (f : TF) : XT := fun ρ S => (f ρ S).map fun b => (b, ρ, S)
section
variable {X : Cx} {e a b : Expr} {f g : XF} {pos : Pos}
theorem dx_q {f : EF} (h : DQ X true e f) : DX X e (qx f) := ⟨PE.imp h.pe fun σ H Q q => by
  obtain ⟨g, ρ, S, r, ok, e, q⟩ := q
  obtain ⟨d, e1, rfl⟩ := Option.map_eq_some_iff.mp e
  exact ⟨g, ρ, S, d, ok, e1, fun v H' s rz => q v H' g.mu (.same ok s) rz⟩⟩
theorem dxt_q {f : TF} (h : DT X e f) : DXT X e (qt f) := ⟨PT.imp h.pt fun σ H Q q => by
  obtain ⟨g, ρ, S, r, ok, e, q⟩ := q
  obtain ⟨d, e1, rfl⟩ := Option.map_eq_some_iff.mp e
  exact ⟨g, ρ, S, d, ok, e1, fun H' s => q H' g.mu (.same ok s)⟩⟩
def datOf : SV → Option D
  | .dat d => some d
  | _ => none
theorem datOf_some {r : SV} {d : D} (h : datOf r = some d) : r = .dat d := by
  cases r with
  | dat d' => cases h; rfl
  | ref n => cases h
def xop2 (F : D → D → Option D) (f g : XF) : XF := fun ρ S => (f ρ S).bind fun r => (g r.2.1 r.2.2).bind fun q => (datOf r.1).bind fun d => (datOf q.1).bind fun e => (F d e).map fun z => (.dat z, q.2.1, q.2.2)
def xop1 (F : D → Option D) (f : XF) : XF := fun ρ S => (f ρ S).bind fun r => (datOf r.1).bind fun d => (F d).map fun z => (.dat z, r.2.1, r.2.2)
theorem tOp_x {r : R2} {F : D → D → Option D} (hr : ∀ (bad : Addr → Prop) (H : Hp) (x y : V) (d e z : D) (Q : VK), (∀ b, bad b → ∃ o, H b = some o) → Bo X.K bad H x d → Bo X.K bad H y e → F d e = some z →
    (∀ v H', Same H H' → Dt X.K bad H' v z → Q v H') → r x y H Q) : ∀ σ H Q, tX X (xop2 F f g) σ H Q → tOp r (tX X f) (tX X g) σ H Q := fun σ H Q q => by
  obtain ⟨gh, ρ, S, z, ok, e, q⟩ := q
  obtain ⟨r1, e1, e⟩ := Option.bind_eq_some_iff.mp e
  obtain ⟨r2, e2, e⟩ := Option.bind_eq_some_iff.mp e
  obtain ⟨d, e3, e⟩ := Option.bind_eq_some_iff.mp e
  obtain ⟨d', e4, e⟩ := Option.bind_eq_some_iff.mp e
  obtain ⟨z', e5, rfl⟩ := Option.map_eq_some_iff.mp e
  refine ⟨gh, ρ, S, r1, ok, e1, fun x H1 mu1 n1 v1 => ⟨⟨gh.B, mu1⟩, r1.2.1, r1.2.2, r2, n1.env, e2, fun y H2 mu2 n2 v2 => ?_⟩⟩
  have v1' := n2.sv v1
  rw [datOf_some e3] at v1'
  rw [datOf_some e4] at v2
  exact hr _ H2 x y d d' z' Q (fun b hb => n2.env.bad_some hb) (.of v1') (.of v2) e5 fun v H' s r => q v H' mu2 ((n1.trans n2).trans (.same n2.env s)) r
theorem dx_bin {op : Operator} {F : D → D → Option D} (ho : OpD X (binaryOp op) F) (ha : DX X a f) (hb : DX X b g) : DX X (.BinOp a op b pos) (xop2 F f g) := by
  obtain ⟨r, h1, h2⟩ := ho
  exact ⟨PE.imp (pe_op h1 ha.pe hb.pe) (tOp_x h2)⟩
theorem dx_cmp {op : CmpOp} {F : D → D → Option D} (ho : OpD X (compareOp op) F) (ha : DX X a f) (hb : DX X b g) (hm : behindInMarks op b = false := by first | rfl | exact nomark _) : DX X (.Compare a [op] [b] pos) (xop2 F f g) := by
  obtain ⟨r, h1, h2⟩ := ho
  exact ⟨PE.imp (pe_cmpR h1 ha.pe hb.pe hm) (tOp_x h2)⟩
theorem dx_ix (ha : DX X a f) (hb : DX X b g) (hs : PlainIx b := by exact fun _ _ => rfl) : DX X (.Subscript a b pos) (xop2 ixD f g) := by
  refine ⟨PE.imp (pe_ix ix_seq ha.pe hb.pe hs) (tOp_x fun bad H x y d e z Q al hx hy h q => ?_)⟩
  unfold ixD at h
  split at h
  · cases hy.int
    obtain ⟨p, xs, rfl, s1, t1⟩ := hx.list
    obtain ⟨v, e1, e2⟩ := t1.atI h
    exact .inl ⟨p, xs, _, v, rfl, rfl, s1, e1, q v H (Same.refl H) e2⟩
  · cases hy.int
    obtain ⟨p, xs, rfl, s1, t1⟩ := hx.tuple
    obtain ⟨v, e1, e2⟩ := t1.atI h
    exact .inr (.inl ⟨p, xs, _, v, rfl, rfl, s1, e1, q v H (Same.refl H) e2⟩)
  · split at h
    · cases hy.int
      cases hx.str
      obtain ⟨c, e1, rfl⟩ := Option.map_eq_some_iff.mp h
      exact .inr (.inr ⟨_, _, c, rfl, rfl, by assumption, e1, q _ H (Same.refl H) (.str _)⟩)
    · cases h
  · cases h
/-! argument lists -/
def xevs : List XF → En → Sto → Option (List D × En × Sto)
  | [], ρ, S => some ([], ρ, S)
  | f :: fs, ρ, S => (f ρ S).bind fun r => (datOf r.1).bind fun d => (xevs fs r.2.1 r.2.2).map fun q => (d :: q.1, q.2.1, q.2.2)
def tAx (X : Cx) (fs : List XF) : TA := fun σ H Q => ∃ g ρ S r, EnvOk X.K X.mg g ρ S σ H ∧ xevs fs ρ S = some r ∧ ∀ vs H' mu', Nxt X.K X.mg g ρ σ H mu' r.2.1 r.2.2 σ H' → DtA X.K (Bd ⟨g.B, mu'⟩ r.2.1 σ) H' vs r.1 → Q vs H'
structure DAx (X : Cx) (es : List Expr) (fs : List XF) : Prop where
  pa : PA X es (tAx X fs)
variable {es : List Expr} {fs : List XF}
theorem dax_nil : DAx X [] [] := ⟨PA.imp pa_nil fun σ H Q q => by
  obtain ⟨g, ρ, S, r, ok, e, q⟩ := q
  cases e
  exact q [] H g.mu (.refl ok) .nil⟩
theorem dax_cons (h : DX X e f) (t : DAx X es fs) (hs : starEach (e :: es) X.env = (false, eval e X.env) :: starEach es X.env := by rfl) : DAx X (e :: es) (f :: fs) := ⟨PA.imp (pa_cons h.pe t.pa hs) fun σ H Q q => by
  obtain ⟨g, ρ, S, r, ok, e, q⟩ := q
  obtain ⟨r1, e1, e⟩ := Option.bind_eq_some_iff.mp e
  obtain ⟨d, e2, e⟩ := Option.bind_eq_some_iff.mp e
  obtain ⟨r2, e3, rfl⟩ := Option.map_eq_some_iff.mp e
  refine ⟨g, ρ, S, r1, ok, e1, fun v H1 mu1 n1 v1 => ⟨⟨g.B, mu1⟩, r1.2.1, r1.2.2, r2, n1.env, e3, fun vs H2 mu2 n2 a2 => ?_⟩⟩
  rw [datOf_some e2] at v1
  exact q _ H2 mu2 (n1.trans n2) (.cons (n2.dt v1) a2)⟩
def xTup (fs : List XF) : XF := fun ρ S => (xevs fs ρ S).map fun r => (.dat (.tuple r.1), r.2.1, r.2.2)
def xLst (fs : List XF) : XF := fun ρ S => (xevs fs ρ S).map fun r => (.dat (.list r.1), r.2.1, r.2.2)
theorem xevs_length : ∀ {fs : List XF} {ρ : En} {S : Sto} {r : List D × En × Sto}, xevs fs ρ S = some r → r.1.length = fs.length
  | [], _, _, _, h => by cases h; rfl
  | f :: fs, _, _, _, h => by
    obtain ⟨r1, e1, e⟩ := Option.bind_eq_some_iff.mp h
    obtain ⟨d, e2, e⟩ := Option.bind_eq_some_iff.mp e
    obtain ⟨r2, e3, rfl⟩ := Option.map_eq_some_iff.mp e
    rw [List.length_cons, List.length_cons, xevs_length e3]
theorem dx_tup {k} (h : DAx X es fs) (hl : fs.length ≤ sizeLine := by decide) : DX X (.Tuple es k pos) (xTup fs) := ⟨PE.imp (pe_tup h.pa) fun σ H Q q => by
  obtain ⟨g, ρ, S, d, ok, e, q⟩ := q
  obtain ⟨r, e1, rfl⟩ := Option.map_eq_some_iff.mp e
  refine ⟨g, ρ, S, r, ok, e1, fun vs H1 mu1 n1 r1 => ⟨?_, fun p hp => q _ _ mu1 (n1.trans (.same n1.env (same_new hp))) (Dt.newT (fun b hb => n1.env.bad_some hb) hp r1)⟩⟩
  rw [r1.length, xevs_length e1]; exact hl⟩
theorem dx_lst (h : DAx X es fs) (hl : fs.length ≤ sizeLine := by decide) : DX X (.List es pos) (xLst fs) := ⟨PE.imp (pe_lst h.pa) fun σ H Q q => by
  obtain ⟨g, ρ, S, d, ok, e, q⟩ := q
  obtain ⟨r, e1, rfl⟩ := Option.map_eq_some_iff.mp e
  refine ⟨g, ρ, S, r, ok, e1, fun vs H1 mu1 n1 r1 => ⟨?_, fun p hp => q _ _ mu1 (n1.trans (.same n1.env (same_new hp))) (Dt.newL (fun b hb => n1.env.bad_some hb) hp r1)⟩⟩
  rw [r1.length, xevs_length e1]; exact hl⟩
def xCall (F : List D → Option D) (fs : List XF) : XF := fun ρ S => (xevs fs ρ S).bind fun r => (F r.1).map fun z => (.dat z, r.2.1, r.2.2)
theorem dx_callB {id : String} {x : Str} {p : Pos} {F : List D → Option D} (hc : CallD X (.builtin id) F) (hg : Gl X x) (hm : X.mg x = none) (hv : bootBuiltins x = some (.builtin id)) (ha : DAx X (e :: es) fs) (hn : x ≠ "__name__" := by decide) (hdb : (x == ("__debug__" : Str)) = false := by decide)
    (he : starEach (e :: es) X.env = (false, eval e X.env) :: starEach es X.env := by rfl) (hpl : (backTo pos (starEach es X.env)).any (·.1) = false := by rfl) : DX X (.Call (.Name x p) (e :: es) [] pos) (xCall F fs) := by
  obtain ⟨r, h1, h2⟩ := hc
  refine ⟨PE.imp (pe_callB h1 hg hm hv ha.pa hn hdb he hpl) fun σ H Q q => ?_⟩
  obtain ⟨g, ρ, S, d, ok, e, q⟩ := q
  obtain ⟨r, e1, e⟩ := Option.bind_eq_some_iff.mp e
  obtain ⟨z, e2, rfl⟩ := Option.map_eq_some_iff.mp e
  exact ⟨g, ρ, S, r, ok, e1, fun vs H1 mu1 n1 r1 => h2 _ H1 vs r.1 z Q (fun b hb => n1.env.bad_some hb) r1.rzA.bo e2 fun v H' s' r' => q v H' mu1 (n1.trans (.same n1.env s')) r'⟩
theorem dx_callTy {id : String} {x : Str} {p : Pos} {F : List D → Option D} (hc : CallD X (.type id) F) (hg : Gl X x) (hm : X.mg x = none) (hv : bootBuiltins x = some (.type id)) (ha : DAx X (e :: es) fs) (hn : x ≠ "__name__" := by decide) (hdb : (x == ("__debug__" : Str)) = false := by decide)
    (he : starEach (e :: es) X.env = (false, eval e X.env) :: starEach es X.env := by rfl) (hpl : (backTo pos (starEach es X.env)).any (·.1) = false := by rfl) : DX X (.Call (.Name x p) (e :: es) [] pos) (xCall F fs) := by
  obtain ⟨r, h1, h2⟩ := hc
  refine ⟨PE.imp (pe_callTy h1 hg hm hv ha.pa hn hdb he hpl) fun σ H Q q => ?_⟩
  obtain ⟨g, ρ, S, d, ok, e, q⟩ := q
  obtain ⟨r, e1, e⟩ := Option.bind_eq_some_iff.mp e
  obtain ⟨z, e2, rfl⟩ := Option.map_eq_some_iff.mp e
  exact ⟨g, ρ, S, r, ok, e1, fun vs H1 mu1 n1 r1 => h2 _ H1 vs r.1 z Q (fun b hb => n1.env.bad_some hb) r1.rzA.bo e2 fun v H' s' r' => q v H' mu1 (n1.trans (.same n1.env s')) r'⟩
/-! a name that holds an object of the store -/
def xVar (i : Nat) : XF := fun ρ S => match ρ[i]? with
  | some (.val d) => some (.dat d, ρ, S)
  | some (.ref n) => some (.ref n, ρ, S)
  | _ => none
theorem dx_var {x : Str} (i : Nat) (hN : X.N[i]? = some x := by rfl) (hv : Vis X.env.scope x := by first | exact Or.inl rfl | exact Or.inr (Or.inl rfl) | exact Or.inr (Or.inr rfl)) (hd : (x == ("__debug__" : Str)) = false := by decide) (hcd : (x == ("__classdict__" : Str)) = false := by decide) :
    DX X (.Name x pos) (xVar i) := by
  refine ⟨PE.imp (pe_var hN hv hd hcd) fun σ H Q h => ?_⟩
  obtain ⟨g, ρ, S, r, ok, e, q⟩ := h
  unfold xVar at e
  split at e
  · rename_i d' e1
    cases e
    obtain ⟨s, e2, v, e3, r⟩ := ok.slot e1
    subst e3
    exact ⟨v, e2, q v H g.mu (.refl ok) r⟩
  · rename_i d' e1
    cases e
    obtain ⟨s, e2, a, e3, r⟩ := ok.slot e1
    subst e3
    exact ⟨_, e2, q _ H g.mu (.refl ok) ⟨a, rfl, r⟩⟩
  · cases e
/-! tests -/
def xtOf (f : XF) (t : D → Option Bool) : XT := fun ρ S => (f ρ S).bind fun r => (datOf r.1).bind fun d => (t d).map fun b => (b, r.2.1, r.2.2)
def boolD : D → Option Bool
  | .bool b => some b
  | _ => none
/-- an expression that gives a truth -/
theorem dxt_val (h : DX X e f) (he : ∀ whole, isTrue e X.env whole = (do let v ← whole; standAt e.pos; holding [v] (truthy v)) := by intro _; rfl) : DXT X e (xtOf f boolD) := ⟨PT.imp (pt_val h.pe he) fun σ H Q q => by
  obtain ⟨g, ρ, S, r, ok, e, q⟩ := q
  obtain ⟨r1, e1, e⟩ := Option.bind_eq_some_iff.mp e
  obtain ⟨d, e2, e⟩ := Option.bind_eq_some_iff.mp e
  obtain ⟨b, e3, rfl⟩ := Option.map_eq_some_iff.mp e
  refine ⟨g, ρ, S, r1, ok, e1, fun v H1 mu1 n1 v1 => ?_⟩
  rw [datOf_some e2] at v1
  unfold boolD at e3
  split at e3
  · cases e3
    cases v1
    exact ⟨_, rfl, q H1 mu1 n1⟩
  · cases e3⟩
theorem dxt_cmp {op : CmpOp} {F : D → D → Option D} (ho : OpD X (compareOp op) F) (ha : DX X a f) (hb : DX X b g) (hm : behindInMarks op b = false := by first | rfl | exact nomark _) : DXT X (.Compare a [op] [b] pos) (xtOf (xop2 F f g) boolD) := by
  obtain ⟨r, h1, h2⟩ := ho
  refine ⟨PT.imp (pt_cmpR h1 ha.pe hb.pe hm) fun σ H Q q => ?_⟩
  obtain ⟨g', ρ, S, r', ok, e, q⟩ := q
  obtain ⟨r1, e1, e⟩ := Option.bind_eq_some_iff.mp e
  obtain ⟨d, e2, e⟩ := Option.bind_eq_some_iff.mp e
  obtain ⟨b, e3, rfl⟩ := Option.map_eq_some_iff.mp e
  refine tOp_x h2 σ H _ ⟨g', ρ, S, r1, ok, e1, fun v H1 mu1 n1 v1 => ?_⟩
  rw [datOf_some e2] at v1
  unfold boolD at e3
  split at e3
  · cases e3
    cases v1
    exact ⟨_, rfl, q H1 mu1 n1⟩
  · cases e3
def xtAnd (t u : XT) : XT := fun ρ S => (t ρ S).bind fun r => if r.1 = true then u r.2.1 r.2.2 else some r
def xtOr (t u : XT) : XT := fun ρ S => (t ρ S).bind fun r => if r.1 = true then some r else u r.2.1 r.2.2
def xtNot (t : XT) : XT := fun ρ S => (t ρ S).map fun r => (!r.1, r.2.1, r.2.2)
structure DXW (X : Cx) (e : Expr) (f : XT) : Prop where
  pw : PW X e (tXT X f)
theorem DXW.t {t : XT} (h : DXW X e t) : DXT X e t := ⟨h.pw.pt⟩
theorem PW.imp {t t' : TT} (h : PW X e t) (w : ∀ σ H Q, t' σ H Q → t σ H Q) : PW X e t' := ⟨fun wh pins s σ H Q I q => h.run wh pins s σ H Q I (w σ H Q q)⟩
theorem dxw_and1 {t : XT} (h : DXT X a t) : DXW X (.BoolOp .And [a] pos) t := ⟨pw_and1 h.pt⟩
theorem dxw_or1 {t : XT} (h : DXT X a t) : DXW X (.BoolOp .Or [a] pos) t := ⟨pw_or1 h.pt⟩
theorem dxw_and {t u : XT} {rest : List Expr} (h : DXT X a t) (h2 : DXW X (.BoolOp .And (b :: rest) pos) u) : DXW X (.BoolOp .And (a :: b :: rest) pos) (xtAnd t u) := ⟨PW.imp (pw_and h.pt h2.pw) fun σ H Q q => by
  obtain ⟨g, ρ, S, r, ok, e, q⟩ := q
  obtain ⟨r1, e1, e⟩ := Option.bind_eq_some_iff.mp e
  refine ⟨g, ρ, S, r1, ok, e1, fun H1 mu1 n1 => ?_⟩
  by_cases hb : r1.1 = true
  · rw [if_pos hb] at e ⊢
    exact ⟨⟨g.B, mu1⟩, r1.2.1, r1.2.2, r, n1.env, e, fun H2 mu2 n2 => q H2 mu2 (n1.trans n2)⟩
  · rw [if_neg hb] at e ⊢
    have e' : r1 = r := Option.some.inj e
    subst e'
    have z : r1.1 = false := by simpa using hb
    rw [z] at q
    exact q H1 mu1 n1⟩
theorem dxw_or {t u : XT} {rest : List Expr} (h : DXT X a t) (h2 : DXW X (.BoolOp .Or (b :: rest) pos) u) : DXW X (.BoolOp .Or (a :: b :: rest) pos) (xtOr t u) := ⟨PW.imp (pw_or h.pt h2.pw) fun σ H Q q => by
  obtain ⟨g, ρ, S, r, ok, e, q⟩ := q
  obtain ⟨r1, e1, e⟩ := Option.bind_eq_some_iff.mp e
  refine ⟨g, ρ, S, r1, ok, e1, fun H1 mu1 n1 => ?_⟩
  by_cases hb : r1.1 = true
  · rw [if_pos hb] at e ⊢
    have e' : r1 = r := Option.some.inj e
    subst e'
    rw [hb] at q
    exact q H1 mu1 n1
  · rw [if_neg hb] at e ⊢
    exact ⟨⟨g.B, mu1⟩, r1.2.1, r1.2.2, r, n1.env, e, fun H2 mu2 n2 => q H2 mu2 (n1.trans n2)⟩⟩
theorem dxt_not {t : XT} (h : DXT X a t) : DXT X (.UnaryOp .Not a pos) (xtNot t) := ⟨PT.imp (pt_not h.pt) fun σ H Q q => by
  obtain ⟨g, ρ, S, r, ok, e, q⟩ := q
  obtain ⟨r1, e1, rfl⟩ := Option.map_eq_some_iff.mp e
  exact ⟨g, ρ, S, r1, ok, e1, fun H1 mu1 n1 => q H1 mu1 n1⟩⟩
def xIf (t : XT) (f g : XF) : XF := fun ρ S => (t ρ S).bind fun r => if r.1 = true then f r.2.1 r.2.2 else g r.2.1 r.2.2
theorem dx_if {c : Expr} {t : XT} (hc : DXT X c t) (ha : DX X a f) (hb : DX X b g) : DX X (.IfExp c a b pos) (xIf t f g) := ⟨PE.imp (pe_ifExp hc.pt ha.pe hb.pe) fun σ H Q q => by
  obtain ⟨gh, ρ, S, r, ok, e, q⟩ := q
  obtain ⟨r1, e1, e⟩ := Option.bind_eq_some_iff.mp e
  refine ⟨gh, ρ, S, r1, ok, e1, fun H1 mu1 n1 => ?_⟩
  by_cases h : r1.1 = true
  · rw [if_pos h] at e ⊢
    exact ⟨⟨gh.B, mu1⟩, r1.2.1, r1.2.2, r, n1.env, e, fun v H2 mu2 n2 v2 => q v H2 mu2 (n1.trans n2) v2⟩
  · rw [if_neg h] at e ⊢
    exact ⟨⟨gh.B, mu1⟩, r1.2.1, r1.2.2, r, n1.env, e, fun v H2 mu2 n2 v2 => q v H2 mu2 (n1.trans n2) v2⟩⟩
end
end DL
namespace DL
open PySem PySem.Spec PyProof.Rows L2

/-! ### quiet tests -/
def tOf (f : EF) (t : D → Option Bool) : TF := fun ρ S => (f ρ S).bind t
def tAndQ (t u : TF) : TF := fun ρ S => (t ρ S).bind fun b => if b = true then u ρ S else some false
def tOrQ (t u : TF) : TF := fun ρ S => (t ρ S).bind fun b => if b = true then some true else u ρ S
def tNotQ (t : TF) : TF := fun ρ S => (t ρ S).map (!·)
section
variable {X : Cx} {e a b : Expr} {f g : EF} {l l1 l2 : Bool} {pos : Pos}
theorem dt_val (h : DQ X l e f) (he : ∀ whole, isTrue e X.env whole = (do let v ← whole; standAt e.pos; holding [v] (truthy v)) := by intro _; rfl) : DT X e (tOf f boolD) := ⟨PT.imp (pt_val h.pe he) fun σ H Q q => by
  obtain ⟨g, ρ, S, r, ok, e, q⟩ := q
  obtain ⟨d, e1, e2⟩ := Option.bind_eq_some_iff.mp e
  refine ⟨g, ρ, S, d, ok, e1, fun v H1 s1 v1 => ?_⟩
  unfold boolD at e2
  split at e2
  · cases e2
    cases v1.bo.bool
    exact ⟨_, rfl, q H1 s1⟩
  · cases e2⟩
theorem dt_cmp {op : CmpOp} {F : D → D → Option D} (ho : OpD X (compareOp op) F) (ha : DQ X l1 a f) (hb : DQ X l2 b g) (hm : behindInMarks op b = false := by first | rfl | exact nomark _) : DT X (.Compare a [op] [b] pos) (tOf (op2 F f g) boolD) := by
  obtain ⟨r, h1, h2⟩ := ho
  refine ⟨PT.imp (pt_cmpR h1 ha.pe hb.pe hm) fun σ H Q q => ?_⟩
  obtain ⟨g', ρ, S, r', ok, e, q⟩ := q
  obtain ⟨d, e1, e2⟩ := Option.bind_eq_some_iff.mp e
  refine tOp_q h2 σ H _ ⟨g', ρ, S, d, ok, e1, fun v H1 s1 v1 => ?_⟩
  unfold boolD at e2
  split at e2
  · cases e2
    cases (show Dt _ _ _ _ _ from v1)
    exact ⟨_, rfl, q H1 s1⟩
  · cases e2
structure DW (X : Cx) (e : Expr) (f : TF) : Prop where
  pw : PW X e (tTq X f)
theorem DW.t {t : TF} (h : DW X e t) : DT X e t := ⟨h.pw.pt⟩
theorem dw_and1 {t : TF} (h : DT X a t) : DW X (.BoolOp .And [a] pos) t := ⟨pw_and1 h.pt⟩
theorem dw_or1 {t : TF} (h : DT X a t) : DW X (.BoolOp .Or [a] pos) t := ⟨pw_or1 h.pt⟩
theorem dw_and {t u : TF} {rest : List Expr} (h : DT X a t) (h2 : DW X (.BoolOp .And (b :: rest) pos) u) : DW X (.BoolOp .And (a :: b :: rest) pos) (tAndQ t u) := ⟨PW.imp (pw_and h.pt h2.pw) fun σ H Q q => by
  obtain ⟨g, ρ, S, r, ok, e, q⟩ := q
  obtain ⟨c, e1, e⟩ := Option.bind_eq_some_iff.mp e
  refine ⟨g, ρ, S, c, ok, e1, fun H1 s1 => ?_⟩
  by_cases hb : c = true
  · rw [if_pos hb] at e ⊢
    exact ⟨g, ρ, S, r, ok.same s1, e, fun H2 s2 => q H2 (s1.trans s2)⟩
  · rw [if_neg hb] at e ⊢
    have e' : false = r := Option.some.inj e
    subst e'
    exact q H1 s1⟩
theorem dw_or {t u : TF} {rest : List Expr} (h : DT X a t) (h2 : DW X (.BoolOp .Or (b :: rest) pos) u) : DW X (.BoolOp .Or (a :: b :: rest) pos) (tOrQ t u) := ⟨PW.imp (pw_or h.pt h2.pw) fun σ H Q q => by
  obtain ⟨g, ρ, S, r, ok, e, q⟩ := q
  obtain ⟨c, e1, e⟩ := Option.bind_eq_some_iff.mp e
  refine ⟨g, ρ, S, c, ok, e1, fun H1 s1 => ?_⟩
  by_cases hb : c = true
  · rw [if_pos hb] at e ⊢
    have e' : true = r := Option.some.inj e
    subst e'
    exact q H1 s1
  · rw [if_neg hb] at e ⊢
    exact ⟨g, ρ, S, r, ok.same s1, e, fun H2 s2 => q H2 (s1.trans s2)⟩⟩
theorem dt_not {t : TF} (h : DT X a t) : DT X (.UnaryOp .Not a pos) (tNotQ t) := ⟨PT.imp (pt_not h.pt) fun σ H Q q => by
  obtain ⟨g, ρ, S, r, ok, e, q⟩ := q
  obtain ⟨r1, e1, rfl⟩ := Option.map_eq_some_iff.mp e
  exact ⟨g, ρ, S, r1, ok, e1, fun H1 s1 => q H1 s1⟩⟩
def eIf (t : TF) (f g : EF) : EF := fun ρ S => (t ρ S).bind fun c => if c = true then f ρ S else g ρ S
theorem dq_if {c : Expr} {t : TF} (hc : DT X c t) (ha : DQ X l a f) (hb : DQ X l b g) : DQ X l (.IfExp c a b pos) (eIf t f g) := ⟨PE.imp (pe_ifExp hc.pt ha.pe hb.pe) fun σ H Q q => by
  obtain ⟨gh, ρ, S, r, ok, e, q⟩ := q
  obtain ⟨c, e1, e⟩ := Option.bind_eq_some_iff.mp e
  refine ⟨gh, ρ, S, c, ok, e1, fun H1 s1 => ?_⟩
  by_cases h : c = true
  · rw [if_pos h] at e ⊢
    exact ⟨gh, ρ, S, r, ok.same s1, e, fun v H2 s2 v2 => q v H2 (s1.trans s2) v2⟩
  · rw [if_neg h] at e ⊢
    exact ⟨gh, ρ, S, r, ok.same s1, e, fun v H2 s2 v2 => q v H2 (s1.trans s2) v2⟩⟩
end

/-! ### targets -/
/-- only the slots at ts have changed -/
def Chg (ts : List Nat) (σ σ' : L2.St) : Prop := σ'.length = σ.length ∧ ∀ j, j ∉ ts → σ'[j]? = σ[j]?
theorem Chg.refl {σ : L2.St} {ts : List Nat} : Chg ts σ σ := ⟨rfl, fun _ _ => rfl⟩
theorem Chg.trans {σ σ1 σ2 : L2.St} {ts : List Nat} (a : Chg ts σ σ1) (b : Chg ts σ1 σ2) : Chg ts σ σ2 := ⟨b.1.trans a.1, fun j h => (b.2 j h).trans (a.2 j h)⟩
theorem Chg.set {σ : L2.St} {i : Nat} {ts : List Nat} {c : Option V} (h : i ∈ ts) : Chg ts σ (σ.set i c) := ⟨List.length_set, fun j hj => List.getElem?_set_ne fun (z : i = j) => hj (by rw [← z]; exact h)⟩
abbrev BF := D → En → Option En
def tG (X : Cx) (ts : List Nat) (bd : BF) : TG := fun v σ H Q => ∃ g ρ S d ρ', EnvOk X.K X.mg g ρ S σ H ∧ Dt X.K (Bd g ρ σ) H v d ∧ bd d ρ = some ρ' ∧ ∀ σ', Nxt X.K X.mg g ρ σ H g.mu ρ' S σ' H → Chg ts σ σ' → Q σ' H
structure DG (X : Cx) (ts : List Nat) (e : Expr) (bd : BF) : Prop where
  pg : PG X e (tG X ts bd)
abbrev BFs := List D → En → Option En
def tGs (X : Cx) (ts : List Nat) (bd : BFs) : TGs := fun vs σ H Q => ∃ g ρ S ds ρ', EnvOk X.K X.mg g ρ S σ H ∧ DtA X.K (Bd g ρ σ) H vs ds ∧ bd ds ρ = some ρ' ∧ ∀ σ', Nxt X.K X.mg g ρ σ H g.mu ρ' S σ' H → Chg ts σ σ' → Q σ' H
structure DGs (X : Cx) (ts : List Nat) (es : List Expr) (bd : BFs) : Prop where
  pg : PGs X es (tGs X ts bd)
theorem PG.imp {X : Cx} {e : Expr} {t t' : TG} (h : PG X e t) (w : ∀ v σ H Q, t' v σ H Q → t v σ H Q) : PG X e t' := ⟨fun pins s σ H v u Q I r q => h.run pins s σ H v u Q I r (w v σ H Q q)⟩
theorem PGs.imp {X : Cx} {e : List Expr} {t t' : TGs} (h : PGs X e t) (w : ∀ v σ H Q, t' v σ H Q → t v σ H Q) : PGs X e t' := ⟨fun pins s σ H v u Q I r q => h.run pins s σ H v u Q I r (w v σ H Q q)⟩
def bName (i : Nat) : BF := fun d ρ => some (ρ.set i (.val d))
def bNil : BFs := fun ds ρ => match ds with
  | [] => some ρ
  | _ => none
def bCons (b : BF) (bs : BFs) : BFs := fun ds ρ => match ds with
  | d :: r => (b d ρ).bind fun ρ' => bs r ρ'
  | _ => none
def bTup (n : Nat) (bs : BFs) : BF := fun d ρ => match d with
  | .tuple ds => if ds.length = n then bs ds ρ else none
  | _ => none
section
variable {X : Cx} {ts : List Nat} {pos : Pos} {e : Expr} {es : List Expr} {bd : BF} {bds : BFs}
theorem dg_name (i : Nat) {x : Str} (hN : X.N.Nodup) (hi : X.N[i]? = some x := by rfl) (hx : Loc X.env.scope x := by first | exact Or.inl rfl | exact Or.inr rfl) (hf : X.fn x = true ∨ X.env.scope.names.lookup x = some .local := by first | exact .inl rfl | exact .inr rfl) (hm : i ∈ ts := by decide) : DG X ts (.Name x pos) (bName i) :=
  ⟨PG.imp (pg_name hN hi hx hf) fun v σ H Q q => by
    obtain ⟨g, ρ, S, d, ρ', ok, r, e, q⟩ := q
    cases e
    exact q _ (ok.setc (fun _ z => nomatch z) ⟨v, rfl, r⟩) (.set hm)⟩
theorem dgs_nil : DGs X ts [] bNil := ⟨PGs.imp pgs_nil fun v σ H Q q => by
  obtain ⟨g, ρ, S, d, ρ', ok, r, e, q⟩ := q
  unfold bNil at e
  split at e
  · cases e
    cases r
    exact ⟨rfl, q σ (.refl ok) .refl⟩
  · cases e⟩
theorem dgs_cons (h1 : DG X ts e bd) (h2 : DGs X ts es bds) (hs : (assignEach (e :: es) X.env).map (·.2) = assign e X.env :: (assignEach es X.env).map (·.2) := by rfl) : DGs X ts (e :: es) (bCons bd bds) := ⟨PGs.imp (pgs_cons h1.pg h2.pg hs) fun v σ H Q q => by
  obtain ⟨g, ρ, S, d, ρ', ok, r, e, q⟩ := q
  unfold bCons at e
  split at e
  · obtain ⟨ρ1, e1, e2⟩ := Option.bind_eq_some_iff.mp e
    cases r with
    | cons r rr =>
      exact ⟨_, _, rfl, g, ρ, S, _, ρ1, ok, r, e1, fun σ1 n1 c1 => ⟨g, ρ1, S, _, ρ', n1.env, DtA.tr (bd_pres n1.tr) (bd_grow n1.tr) _ _ rr, e2, fun σ2 n2 c2 => q σ2 (n1.trans n2) (c1.trans c2)⟩⟩
  · cases e⟩
theorem dg_tup {k : Nat} {n : Nat} (hc : X.calm = true) (h : DGs X ts es bds) (hn : (assignEach es X.env).length = n := by rfl) (hst : (assignEach es X.env).findIdx? (·.1) = none := by rfl) : DG X ts (.Tuple es k pos) (bTup n bds) := ⟨PG.imp (pg_tup hc h.pg hn hst) fun v σ H Q q => by
  obtain ⟨g, ρ, S, d, ρ', ok, r, e, q⟩ := q
  unfold bTup at e
  split at e
  · split at e
    · rename_i hl
      cases r with
      | tup s a => exact ⟨_, _, rfl, s.sq, by rw [a.length]; exact hl, g, ρ, S, _, ρ', ok, a, e, q⟩
    · cases e
  · cases e⟩
end

/-! ### statements -/
inductive Rs where
  | nx (ρ : En) (S : Sto) | rt (r : SV) (S : Sto) | bk (ρ : En) (S : Sto) | ct (ρ : En) (S : Sto)
abbrev SF := En → Sto → Option Rs
def RsK (X : Cx) (g : Gh) (ρ : En) (σ : L2.St) (H : Hp) (D : Ends) : Rs → Prop
  | .nx ρ' S' => ∀ σ' H' mu', Nxt X.K X.mg g ρ σ H mu' ρ' S' σ' H' → D.nx σ' H'
  | .bk ρ' S' => ∀ σ' H' mu', Nxt X.K X.mg g ρ σ H mu' ρ' S' σ' H' → D.bk σ' H'
  | .ct ρ' S' => ∀ σ' H' mu', Nxt X.K X.mg g ρ σ H mu' ρ' S' σ' H' → D.ct σ' H'
  | .rt r S' => ∀ v H' mu', Tr (Mu g ρ σ) H (fun b => b ∈ mu') H' → g.mu <+: mu' → StoOk X.K X.mg (fun b => g.B b ∨ b ∈ mu') mu' S' H' → SVk X.K (fun b => g.B b ∨ b ∈ mu') mu' H' v r → D.rt v H'
theorem RsK.after {X : Cx} {g : Gh} {ρ ρ1 : En} {σ σ1 : L2.St} {H H1 : Hp} {D : Ends} {r : Rs} {mu1 : List Addr} {S1 : Sto} (n : Nxt X.K X.mg g ρ σ H mu1 ρ1 S1 σ1 H1) (h : RsK X g ρ σ H D r) : RsK X ⟨g.B, mu1⟩ ρ1 σ1 H1 D r := by
  cases r with
  | nx ρ' S' => exact fun σ' H' mu' n' => h σ' H' mu' (n.trans n')
  | bk ρ' S' => exact fun σ' H' mu' n' => h σ' H' mu' (n.trans n')
  | ct ρ' S' => exact fun σ' H' mu' n' => h σ' H' mu' (n.trans n')
  | rt r S' => exact fun v H' mu' t p s k => h v H' mu' (n.tr.trans t) (n.pre.trans p) s k
def tS (X : Cx) (t : SF) : TS := fun D σ H => ∃ g ρ S r, EnvOk X.K X.mg g ρ S σ H ∧ t ρ S = some r ∧ RsK X g ρ σ H D r
structure DS (X : Cx) (st : Stmt) (t : SF) : Prop where
  ps : PS X st (tS X t)
structure DSs (X : Cx) (st : List Stmt) (t : SF) : Prop where
  ps : PSs X st (tS X t)
theorem PS.imp {X : Cx} {e : Stmt} {t t' : TS} (h : PS X e t) (w : ∀ D σ H, t' D σ H → t D σ H) : PS X e t' := ⟨fun pins s σ H D I q => h.run pins s σ H D I (w D σ H q)⟩
theorem PSs.imp {X : Cx} {e : List Stmt} {t t' : TS} (h : PSs X e t) (w : ∀ D σ H, t' D σ H → t D σ H) : PSs X e t' := ⟨fun pins s σ H D I q => h.run pins s σ H D I (w D σ H q)⟩
def sNil : SF := fun ρ S => some (.nx ρ S)
def sSeq (t u : SF) : SF := fun ρ S => (t ρ S).bind fun r => match r with
  | .nx ρ' S' => u ρ' S'
  | r => some r
section
variable {X : Cx} {st : Stmt} {rest : List Stmt} {t u : SF} {e : Expr} {f : XF} {pos : Pos}
theorem dss_nil : DSs X [] sNil := ⟨PSs.imp pss_nil fun D σ H q => by
  obtain ⟨g, ρ, S, r, ok, e, k⟩ := q
  cases e
  exact k σ H g.mu (.refl ok)⟩
theorem dss_cons (h1 : DS X st t) (h2 : DSs X rest u) : DSs X (st :: rest) (sSeq t u) := ⟨PSs.imp (pss_cons h1.ps h2.ps) fun D σ H q => by
  obtain ⟨g, ρ, S, r, ok, e, k⟩ := q
  obtain ⟨r1, e1, e⟩ := Option.bind_eq_some_iff.mp e
  refine ⟨g, ρ, S, r1, ok, e1, ?_⟩
  cases r1 with
  | nx ρ' S' => exact fun σ' H' mu' n => ⟨⟨g.B, mu'⟩, ρ', S', r, n.env, e, k.after n⟩
  | bk ρ' S' => cases e; exact k
  | ct ρ' S' => cases e; exact k
  | rt ρ' S' => cases e; exact k⟩
theorem dss_one (h1 : DS X st t) : DSs X [st] t := ⟨PSs.imp (pss_one h1.ps) fun D σ H q => q⟩
/-- ahead of a statement an own object is frozen -/
def sFrz (i : Nat) (t : SF) : SF := fun ρ S => match ρ[i]? with
  | some (.own d) => t (ρ.set i (.val d)) S
  | _ => t ρ S
theorem tS_frz (i : Nat) : ∀ D σ H, tS X (sFrz i t) D σ H → tS X t D σ H := fun D σ H q => by
  obtain ⟨g, ρ, S, r, ok, e, k⟩ := q
  unfold sFrz at e
  split at e
  · rename_i d e1
    have n := ok.freeze e1
    exact ⟨g, _, S, r, n.env, e, k.after n⟩
  · exact ⟨g, ρ, S, r, ok, e, k⟩
theorem ds_frz (i : Nat) (h : DS X st t) : DS X st (sFrz i t) := ⟨PS.imp h.ps (tS_frz i)⟩
theorem dss_frz (i : Nat) (h : DSs X rest t) : DSs X rest (sFrz i t) := ⟨PSs.imp h.ps (tS_frz i)⟩
def sPass : SF := sNil
theorem ds_pass : DS X (.Pass pos) sPass := ⟨PS.imp ps_pass fun D σ H q => by
  obtain ⟨g, ρ, S, r, ok, e, k⟩ := q
  cases e
  exact k σ H g.mu (.refl ok)⟩
def sBreak : SF := fun ρ S => some (.bk ρ S)
def sCont : SF := fun ρ S => some (.ct ρ S)
theorem ds_break : DS X (.Break pos) sBreak := ⟨PS.imp ps_break fun D σ H q => by
  obtain ⟨g, ρ, S, r, ok, e, k⟩ := q
  cases e
  exact k σ H g.mu (.refl ok)⟩
theorem ds_cont : DS X (.Continue pos) sCont := ⟨PS.imp ps_continue fun D σ H q => by
  obtain ⟨g, ρ, S, r, ok, e, k⟩ := q
  cases e
  exact k σ H g.mu (.refl ok)⟩
def sExpr (f : XF) : SF := fun ρ S => (f ρ S).map fun r => .nx r.2.1 r.2.2
theorem ds_expr (h : DX X e f) (hs : swapsWith e none pos.line X.env = pure false := by rfl) : DS X (.Expr e pos) (sExpr f) := ⟨PS.imp (ps_expr h.pe hs) fun D σ H q => by
  obtain ⟨g, ρ, S, r, ok, e, k⟩ := q
  obtain ⟨r1, e1, rfl⟩ := Option.map_eq_some_iff.mp e
  exact ⟨g, ρ, S, r1, ok, e1, fun v H1 mu1 n1 v1 => k σ H1 mu1 n1⟩⟩
def sRet (f : XF) : SF := fun ρ S => (f ρ S).map fun r => .rt r.1 r.2.2
theorem ret_fin {g : Gh} {ρ ρ1 : En} {S1 : Sto} {σ σ1 : L2.St} {H H1 : Hp} {D : Ends} {r : SV} {v : V} {mu1 : List Addr} (n : Nxt X.K X.mg g ρ σ H mu1 ρ1 S1 σ1 H1) (v1 : SVk X.K (Bd ⟨g.B, mu1⟩ ρ1 σ1) mu1 H1 v r) (k : RsK X g ρ σ H D (.rt r S1)) : D.rt v H1 := by
  have bw : ∀ b, (g.B b ∨ b ∈ mu1) → Bd ⟨g.B, mu1⟩ ρ1 σ1 b := fun b z => z.imp id .inl
  exact k v H1 mu1 (n.tr.sub fun b z => .inl z) n.pre (n.env.sto.weak bw) (v1.tr (.same (Same.refl H1)) (.sub bw) (List.prefix_refl _))
theorem ds_ret (h : DX X e f) : DS X (.Return (some e) pos) (sRet f) := ⟨PS.imp (ps_ret h.pe) fun D σ H q => by
  obtain ⟨g, ρ, S, r, ok, e, k⟩ := q
  obtain ⟨r1, e1, rfl⟩ := Option.map_eq_some_iff.mp e
  exact ⟨g, ρ, S, r1, ok, e1, fun v H1 mu1 n1 v1 => ret_fin n1 v1 k⟩⟩
def sRetN : SF := fun _ S => some (.rt (.dat .none) S)
theorem ds_retN : DS X (.Return none pos) sRetN := ⟨PS.imp ps_retN fun D σ H q => by
  obtain ⟨g, ρ, S, r, ok, e, k⟩ := q
  cases e
  exact ret_fin (r := .dat .none) (.refl ok) Dt.non k⟩
def sIf (c : XT) (t u : SF) : SF := fun ρ S => (c ρ S).bind fun r => if r.1 = true then t r.2.1 r.2.2 else u r.2.1 r.2.2
theorem ds_if {c : Expr} {a b : List Stmt} {tc : XT} (hc : DXT X c tc) (ha : DSs X a t) (hb : DSs X b u) : DS X (.If c a b pos) (sIf tc t u) := ⟨PS.imp (ps_if hc.pt ha.ps hb.ps) fun D σ H q => by
  obtain ⟨g, ρ, S, r, ok, e, k⟩ := q
  obtain ⟨r1, e1, e⟩ := Option.bind_eq_some_iff.mp e
  refine ⟨g, ρ, S, r1, ok, e1, fun H1 mu1 n1 => ?_⟩
  by_cases h : r1.1 = true
  · rw [if_pos h] at e ⊢
    exact ⟨⟨g.B, mu1⟩, r1.2.1, r1.2.2, r, n1.env, e, k.after n1⟩
  · rw [if_neg h] at e ⊢
    exact ⟨⟨g.B, mu1⟩, r1.2.1, r1.2.2, r, n1.env, e, k.after n1⟩⟩
/-! assignments -/
def celOf : SV → Cel
  | .dat d => .val d
  | .ref n => .ref n
def sSet (i : Nat) (f : XF) : SF := fun ρ S => (f ρ S).map fun r => .nx (r.2.1.set i (celOf r.1)) r.2.2
theorem set_fin {g : Gh} {ρ ρ1 : En} {S1 : Sto} {σ : L2.St} {H H1 : Hp} {r : SV} {v : V} {mu1 : List Addr} {i : Nat} (n : Nxt X.K X.mg g ρ σ H mu1 ρ1 S1 σ H1) (v1 : SVk X.K (Bd ⟨g.B, mu1⟩ ρ1 σ) mu1 H1 v r) :
    Nxt X.K X.mg g ρ σ H mu1 (ρ1.set i (celOf r)) S1 (σ.set i (some v)) H1 := by
  refine n.trans (n.env.setc (fun d z => ?_) ?_)
  · cases r <;> cases z
  · cases r with
    | dat d => exact ⟨v, rfl, v1⟩
    | ref m => obtain ⟨a, rfl, e⟩ := v1; exact ⟨a, rfl, e⟩
theorem ds_set (i : Nat) {x : Str} {pos' : Pos} (hN : X.N.Nodup) (h : DX X e f) (hi : X.N[i]? = some x := by rfl) (hx : Loc X.env.scope x := by first | exact Or.inl rfl | exact Or.inr rfl) (hs : swapsWith e (some (.Name x pos')) pos.line X.env = pure false := by rfl) (hf : X.fn x = true ∨ X.env.scope.names.lookup x = some .local := by first | exact .inl rfl | exact .inr rfl) :
    DS X (.Assign [.Name x pos'] e pos) (sSet i f) := ⟨PS.imp (ps_set hN hi hx h.pe hs hf) fun D σ H q => by
  obtain ⟨g, ρ, S, r, ok, e, k⟩ := q
  obtain ⟨r1, e1, rfl⟩ := Option.map_eq_some_iff.mp e
  exact ⟨g, ρ, S, r1, ok, e1, fun v H1 mu1 n1 v1 => k _ H1 mu1 (set_fin n1 v1)⟩⟩
/-- any target -/
def sAsg (f : XF) (b : BF) : SF := fun ρ S => (f ρ S).bind fun r => (datOf r.1).bind fun d => (b d r.2.1).map fun ρ' => .nx ρ' r.2.2
theorem ds_asg {tg : Expr} {b : BF} {ts : List Nat} (h : DX X e f) (hg : DG X ts tg b) (hs : swapsWithSole [tg] e pos.line X.env = pure false := by rfl) (hw : swappedStores [tg] e X.env = pure none := by rfl)
    (h1 : (assignEach [tg] X.env).map (·.2) = [assign tg X.env] := by rfl) : DS X (.Assign [tg] e pos) (sAsg f b) := ⟨PS.imp (ps_asg h.pe hg.pg hs hw h1) fun D σ H q => by
  obtain ⟨g, ρ, S, r, ok, e, k⟩ := q
  obtain ⟨r1, e1, e⟩ := Option.bind_eq_some_iff.mp e
  obtain ⟨d, e2, e⟩ := Option.bind_eq_some_iff.mp e
  obtain ⟨ρ', e3, rfl⟩ := Option.map_eq_some_iff.mp e
  refine ⟨g, ρ, S, r1, ok, e1, fun v H1 mu1 n1 v1 => ?_⟩
  rw [datOf_some e2] at v1
  exact ⟨⟨g.B, mu1⟩, r1.2.1, r1.2.2, d, ρ', n1.env, v1, e3, fun σ' n2 _ => k σ' H1 mu1 (n1.trans n2)⟩⟩
/-- a, b = e1, e2 with plain local names -/
def sPar (i j : Nat) (fs : List XF) : SF := fun ρ S => (xevs fs ρ S).bind fun r => match r.1 with
  | [d, e] => some (.nx ((r.2.1.set i (.val d)).set j (.val e)) r.2.2)
  | _ => none
theorem ds_par (i j : Nat) {x y : Str} {a b : Expr} {fs : List XF} {px py pt : Pos} {kt k2 pt2} (hc : X.calm = true) (hN : X.N.Nodup) (ha : DAx X [a, b] fs)
    (hw : swappedStores [.Tuple [.Name x px, .Name y py] kt pt] (.Tuple [a, b] k2 pt2) X.env = pure (some [x, y]))
    (hi : X.N[i]? = some x := by rfl) (hj : X.N[j]? = some y := by rfl) (hij : i ≠ j := by decide)
    (hx : X.env.scope.names.lookup x = some .local := by rfl) (hy : X.env.scope.names.lookup y = some .local := by rfl)
    (hs : swapsWithSole [.Tuple [.Name x px, .Name y py] kt pt] (.Tuple [a, b] k2 pt2) pos.line X.env = pure false := by rfl) :
    DS X (.Assign [.Tuple [.Name x px, .Name y py] kt pt] (.Tuple [a, b] k2 pt2) pos) (sPar i j fs) := ⟨PS.imp (ps_par hc hN hi hj hij hx hy ha.pa hw hs) fun D σ H q => by
  obtain ⟨g, ρ, S, r, ok, e, k⟩ := q
  obtain ⟨r1, e1, e⟩ := Option.bind_eq_some_iff.mp e
  refine ⟨g, ρ, S, r1, ok, e1, fun vs H1 mu1 n1 a1 => ?_⟩
  split at e
  · rename_i d1 d2 hr
    cases e
    rw [hr] at a1
    cases a1 with
    | cons q1 a2 =>
      cases a2 with
      | cons q2 a3 =>
        cases a3
        have n2 := n1.env.setc (i := i) (c := .val d1) (v := _) (fun _ z => nomatch z) ⟨_, rfl, q1⟩
        have n3 := n2.env.setc (i := j) (c := .val d2) (v := _) (fun _ z => nomatch z) ⟨_, rfl, n2.dt q2⟩
        exact ⟨_, _, rfl, k _ H1 mu1 (n1.trans (n2.trans n3))⟩
  · cases e⟩
end
end DL
namespace DL
open PySem PySem.Spec PyProof.Rows L2

/-! ### what is walked -/
/-- J yields the data ds, as long as M alone is changed and hd holds -/
structure JX (K : Frag) (bad M : Addr → Prop) (H : Hp) (J : It) (ds : List D) (hd : (Addr → Prop) → Hp → Prop) : Prop where
  item : ∀ (i : Nat) (d : D), ds[i]? = some d → ∀ (bad' : Addr → Prop) (H' : Hp), Pres M H H' → Grow bad H bad' → (∀ b, bad' b → ∃ o, H' b = some o) → hd bad' H' →
    J.go i H' ∧ ∀ x H'', J.yld i H' x H'' → Same H' H'' ∧ Dt K bad' H'' x d
  stop : ∀ (H' : Hp) (bad' : Addr → Prop), Pres M H H' → hd bad' H' → J.stop ds.length H'
def noHd : (Addr → Prop) → Hp → Prop := fun _ _ => True
theorem JX.list {K : Frag} {bad M : Addr → Prop} {H : Hp} {a : Addr} {xs : List V} {ds : List D} (hM : ∀ b, M b → bad b) (hs : ∀ H', Pres M H H' → SqL K H' a xs) (ha : DtA K bad H xs ds) : JX K bad M H (Itl K a) ds noHd where
  item := fun i d e bad' H' p g al _ => by
    obtain ⟨v, e1, r⟩ := ha.get e
    exact ⟨⟨xs, v, hs H' p, e1⟩, fun x H'' y => by
      obtain ⟨rfl, y⟩ := y
      have e2 := y xs (hs _ p)
      rw [e1] at e2
      cases e2
      exact ⟨Same.refl _, Dt.tr (fun b o e n => p b o e fun z => n (hM b z)) g _ _ r⟩⟩
  stop := fun H' _ p _ => ⟨xs, hs H' p, by rw [ha.length]; exact Nat.le_refl _⟩
theorem JX.tuple {K : Frag} {bad M : Addr → Prop} {H : Hp} {a : Addr} {xs : List V} {ds : List D} (hM : ∀ b, M b → bad b) (hs : ∀ H', Pres M H H' → SqT K H' a xs) (ha : DtA K bad H xs ds) : JX K bad M H (Itt K a) ds noHd where
  item := fun i d e bad' H' p g al _ => by
    obtain ⟨v, e1, r⟩ := ha.get e
    exact ⟨⟨xs, v, hs H' p, e1⟩, fun x H'' y => by
      obtain ⟨rfl, y⟩ := y
      have e2 := y xs (hs _ p)
      rw [e1] at e2
      cases e2
      exact ⟨Same.refl _, Dt.tr (fun b o e n => p b o e fun z => n (hM b z)) g _ _ r⟩⟩
  stop := fun H' _ p _ => ⟨xs, hs H' p, by rw [ha.length]; exact Nat.le_refl _⟩
theorem SqL.pres {K : Frag} {M : Addr → Prop} {H H' : Hp} {a : Addr} {xs : List V} (h : SqL K H a xs) (n : Rd H a (.lst xs) → ¬ M a) (p : Pres M H H') : SqL K H' a xs := by
  rcases h with h | h
  · exact .inl (rd_pres h p (n h))
  · exact .inr h
theorem SqT.pres {K : Frag} {M : Addr → Prop} {H H' : Hp} {a : Addr} {xs : List V} (h : SqT K H a xs) (n : Rd H a (.tup xs) → ¬ M a) (p : Pres M H H') : SqT K H' a xs := by
  rcases h with h | h
  · exact .inl (rd_pres h p (n h))
  · exact .inr h
theorem SrcL.pres {K : Frag} {bad M : Addr → Prop} {H H' : Hp} {a : Addr} {xs : List V} (h : SrcL K bad H a xs) (hM : ∀ b, M b → bad b) (p : Pres M H H') : SqL K H' a xs := by
  rcases h with ⟨h, n⟩ | h
  · exact .inl (rd_pres h p fun z => n (hM a z))
  · exact .inr h
theorem SrcT.pres {K : Frag} {bad M : Addr → Prop} {H H' : Hp} {a : Addr} {xs : List V} (h : SrcT K bad H a xs) (hM : ∀ b, M b → bad b) (p : Pres M H H') : SqT K H' a xs := by
  rcases h with ⟨h, n⟩ | h
  · exact .inl (rd_pres h p fun z => n (hM a z))
  · exact .inr h
/-- the ints lo, lo + 1, .. -/
def rangeD (lo : Int) (n : Nat) : List D := (List.range n).map fun (k : Nat) => PyData.int (lo + (k : Int))
theorem JX.range {K : Frag} {bad M : Addr → Prop} {H : Hp} {lo : Int} {n : Nat} : JX K bad M H (Itr lo n) (rangeD lo n) noHd where
  item := fun i d e bad' H' p g al _ => by
    unfold rangeD at e
    rw [List.getElem?_map] at e
    obtain ⟨k, e1, rfl⟩ := Option.map_eq_some_iff.mp e
    obtain ⟨h1, h2⟩ := List.getElem?_eq_some_iff.mp e1
    rw [List.getElem_range] at h2
    rw [List.length_range] at h1
    subst h2
    exact ⟨h1, fun x H'' y => by obtain ⟨rfl, rfl⟩ := y; exact ⟨Same.refl _, .int _⟩⟩
  stop := fun H' _ p _ => by
    unfold rangeD
    rw [List.length_map, List.length_range]
    exact Nat.le_refl _
/-- the signs of a text -/
def signsD (x : Str) : List D := x.cps.toList.map fun c => .str ⟨#[c]⟩

/-! quiet sources -/
abbrev IQ := En → Sto → Option (List D)
def noM : Addr → Prop := fun _ => False
def tIq (X : Cx) (f : IQ) : TI := fun σ H R => ∃ g ρ S ds, EnvOk X.K X.mg g ρ S σ H ∧ f ρ S = some ds ∧ ∀ J H', Same H H' → JX X.K (Bd g ρ σ) noM H' J ds noHd → R J H'
structure DIq (X : Cx) (tg it : Expr) (f : IQ) : Prop where
  pi : PI X tg it (tIq X f)
theorem PI.imp {X : Cx} {tg it : Expr} {t t' : TI} (h : PI X tg it t) (w : ∀ σ H R, t' σ H R → t σ H R) : PI X tg it t' := ⟨fun pins s σ H R I q => h.run pins s σ H R I (w σ H R q)⟩
/-- a list, a tuple, a text, by its own kind -/
def iSeq (K : Frag) (tl : TE) : TI := fun σ H R => tl σ H fun x H1 => (∃ a, x = .ref a ∧ (((∃ xs, SqL K H1 a xs) ∧ R (Itl K a) H1) ∨ ((∃ xs, SqT K H1 a xs) ∧ R (Itt K a) H1))) ∨ ∃ z, x = .str z ∧ R (Its z) H1
theorem pi_seq {X : Cx} {tg l : Expr} {tl : TE} (hl : PE X l tl) : PI X tg l (iSeq X.K tl) := by
  refine ⟨fun pins s σ H R I h => ?_⟩
  refine thn (hl.run pins s σ H _ I h) fun v s1 ⟨x, H1, I1, r1, q1⟩ => ?_
  rcases q1 with ⟨a, e, q⟩ | ⟨z, e, q⟩
  · subst e
    cases r1
    rcases q with ⟨⟨xs, hq⟩, q⟩ | ⟨⟨xs, hq⟩, q⟩
    · obtain ⟨its, rv, p, hz⟩ := I1.list hq
      refine wpAny_pyIter_list p.isList ?_
      refine ⟨s1.heap.objs.size, [s1.heap.objs.size], _, _, H1, rfl, I1.kept (t' := s1.toks) fun b o e => Heap.get?_push_of_some _ e, turn_list a _, ⟨_, Heap.get?_push_size _ rfl, rfl, rfl⟩, fun b hb => ?_, q⟩
      have e : b = s1.heap.objs.size := by simpa using hb
      subst e
      exact I1.fpOk (Nat.le_refl _) (I1.hok.fresh (Nat.le_refl _))
    · obtain ⟨its, rv, p, hz⟩ := I1.tuple hq
      refine wpAny_pyIter_tuple (show s1.heap.IsTuple a its.toArray from p) ?_
      refine ⟨s1.heap.objs.size, [s1.heap.objs.size], _, _, H1, rfl, I1.kept (t' := s1.toks) fun b o e => Heap.get?_push_of_some _ e, turn_tuple a _, ⟨_, Heap.get?_push_size _ rfl, rfl, rfl⟩, fun b hb => ?_, q⟩
      have e : b = s1.heap.objs.size := by simpa using hb
      subst e
      exact I1.fpOk (Nat.le_refl _) (I1.hok.fresh (Nat.le_refl _))
  · subst e
    obtain ⟨t, rfl⟩ := r1
    cases ha : z.cps.all (· < 128)
    · exact wpAny_pyIter_wide ha (pi_one (tk := s1.toks) I1 _ (turn_str _ z t "str_iterator" (.inr rfl)) ⟨_, Heap.get?_push_size _ rfl, rfl, rfl⟩ q)
    · exact wpAny_pyIter_ascii ha (pi_one (tk := s1.toks) I1 _ (turn_str _ z t "str_ascii_iterator" (.inl rfl)) ⟨_, Heap.get?_push_size _ rfl, rfl, rfl⟩ q)
theorem JX.str {K : Frag} {bad M : Addr → Prop} {H : Hp} {x : Str} : JX K bad M H (Its x) (signsD x) noHd where
  item := fun i d e bad' H' p g al _ => by
    unfold signsD at e
    rw [List.getElem?_map] at e
    obtain ⟨c, e1, rfl⟩ := Option.map_eq_some_iff.mp e
    have e2 : x.cps[i]? = some c := by rw [← Array.getElem?_toList]; exact e1
    refine ⟨(Array.getElem?_eq_some_iff.mp e2).1, fun v H'' y => ?_⟩
    obtain ⟨rfl, c', e3, rfl⟩ := y
    rw [e2] at e3
    cases e3
    exact ⟨Same.refl _, .str _⟩
  stop := fun H' _ p _ => by
    unfold signsD
    rw [List.length_map]
    exact Nat.le_of_eq (by simp)
def itemsD : D → Option (List D)
  | .list ds => some ds
  | .tuple ds => some ds
  | .str x => some (signsD x)
  | _ => none
def iOf (f : EF) : IQ := fun ρ S => (f ρ S).bind itemsD
section
variable {X : Cx} {tg e e2 : Expr} {l l2 : Bool} {f f2 : EF} {pos p : Pos}
theorem diq_seq (h : DQ X l e f) : DIq X tg e (iOf f) := ⟨PI.imp (pi_seq h.pe) fun σ H R q => by
  obtain ⟨g, ρ, S, ds, ok, e, q⟩ := q
  obtain ⟨d, e1, e2⟩ := Option.bind_eq_some_iff.mp e
  refine ⟨g, ρ, S, d, ok, e1, fun v H1 s1 r1 => ?_⟩
  unfold itemsD at e2
  split at e2
  · cases e2
    obtain ⟨a, xs, rfl, sq, t⟩ := r1.bo.list
    exact .inl ⟨a, rfl, .inl ⟨⟨xs, sq⟩, q _ H1 s1 (.list (fun b z => z.elim) (fun H' p => SqL.pres sq (fun _ z => z) p) t)⟩⟩
  · cases e2
    obtain ⟨a, xs, rfl, sq, t⟩ := r1.bo.tuple
    exact .inl ⟨a, rfl, .inr ⟨⟨xs, sq⟩, q _ H1 s1 (.tuple (fun b z => z.elim) (fun H' p => SqT.pres sq (fun _ z => z) p) t)⟩⟩
  · cases e2
    cases r1.bo.str
    exact .inr ⟨_, rfl, q _ H1 s1 .str⟩
  · cases e2⟩
def rangeOf : List D → Option (List D)
  | [.int j] => if -(2 ^ 62) ≤ j ∧ j < 2 ^ 62 then some (rangeD 0 j.toNat) else none
  | [.int i, .int j] => if -(2 ^ 62) ≤ i ∧ i < 2 ^ 62 ∧ -(2 ^ 62) ≤ j ∧ j < 2 ^ 62 then some (rangeD i (j - i).toNat) else none
  | _ => none
def iRange (fs : List EF) : IQ := fun ρ S => (evs fs ρ S).bind rangeOf
theorem diq_range1 (ha : DAq X l [e] [f]) (hg : Gl X "range") (hm : X.mg "range" = none) (hs : starEach [e] X.env = [(false, eval e X.env)] := by rfl) : DIq X tg (.Call (.Name "range" p) [e] [] pos) (iRange [f]) := ⟨PI.imp (pi_range1 hg hm ha.pa hs) fun σ H R q => by
  obtain ⟨g, ρ, S, ds, ok, e, q⟩ := q
  obtain ⟨d, e1, e2⟩ := Option.bind_eq_some_iff.mp e
  refine ⟨g, ρ, S, d, ok, e1, fun v H1 s1 r1 => ?_⟩
  unfold rangeOf at e2
  split at e2
  · split at e2
    · rename_i hc
      cases e2
      cases r1 with
      | cons a b =>
        cases b
        cases a.bo.int
        exact ⟨_, rfl, hc.1, hc.2, q _ H1 s1 .range⟩
    · cases e2
  · have := evs_length e1
    cases this
  · cases e2⟩
theorem diq_range2 (ha : DAq X l [e, e2] [f, f2]) (hg : Gl X "range") (hm : X.mg "range" = none) (hs : starEach [e, e2] X.env = [(false, eval e X.env), (false, eval e2 X.env)] := by rfl) (hs2 : starEach [e2] X.env = [(false, eval e2 X.env)] := by rfl) : DIq X tg (.Call (.Name "range" p) [e, e2] [] pos) (iRange [f, f2]) := ⟨PI.imp (pi_range2 hg hm ha.pa hs hs2) fun σ H R q => by
  obtain ⟨g, ρ, S, ds, ok, e, q⟩ := q
  obtain ⟨d, e1, e2⟩ := Option.bind_eq_some_iff.mp e
  refine ⟨g, ρ, S, d, ok, e1, fun v H1 s1 r1 => ?_⟩
  unfold rangeOf at e2
  split at e2
  · have := evs_length e1
    cases this
  · split at e2
    · rename_i hc
      cases e2
      cases r1 with
      | cons a b =>
        cases b with
        | cons b c =>
          cases c
          cases a.bo.int
          cases b.bo.int
          exact ⟨_, _, rfl, hc, q _ H1 s1 .range⟩
    · cases e2
  · cases e2⟩
end

/-! ### the block of a comprehension -/
/-- own objects are lent, the block's names are free -/
def lendC : Cel → Cel
  | .own d => .bor d
  | c => c
def wipeE (ρ : En) : List Nat → En
  | [] => ρ
  | v :: vs => (wipeE ρ vs).set v .no
def blkE (ρ : En) (ws : List Nat) : En := wipeE (ρ.map lendC) ws
theorem wipeE_length (ρ : En) : ∀ ws, (wipeE ρ ws).length = ρ.length
  | [] => rfl
  | v :: vs => by unfold wipeE; rw [List.length_set, wipeE_length ρ vs]
theorem wipeE_get {ρ : En} {i : Nat} {c : Cel} : ∀ {ws : List Nat}, (wipeE ρ ws)[i]? = some c → c = .no ∨ (i ∉ ws ∧ ρ[i]? = some c)
  | [], h => .inr ⟨by simp, h⟩
  | v :: vs, h => by
    unfold wipeE at h
    by_cases hi : v = i
    · subst hi
      by_cases hl : v < (wipeE ρ vs).length
      · rw [List.getElem?_set_self hl] at h
        cases h
        exact .inl rfl
      · rw [List.getElem?_eq_none (by rw [List.length_set]; omega)] at h; cases h
    · rw [List.getElem?_set_ne hi] at h
      rcases wipeE_get h with z | ⟨z1, z2⟩
      · exact .inl z
      · exact .inr ⟨by simp only [List.mem_cons, not_or]; exact ⟨fun e => hi e.symm, z1⟩, z2⟩
theorem blkE_get {ρ : En} {ws : List Nat} {i : Nat} {c : Cel} (h : (blkE ρ ws)[i]? = some c) : c = .no ∨ (i ∉ ws ∧ ∃ c0, ρ[i]? = some c0 ∧ c = lendC c0) := by
  rcases wipeE_get h with z | ⟨z1, z2⟩
  · exact .inl z
  · rw [List.getElem?_map] at z2
    obtain ⟨c0, e1, e2⟩ := Option.map_eq_some_iff.mp z2
    exact .inr ⟨z1, c0, e1, e2.symm⟩
theorem lendC_own {c : Cel} {d : D} : lendC c ≠ .own d := by cases c <;> intro z <;> cases z
theorem blkE_own {ρ : En} {ws : List Nat} {σ : L2.St} {a : Addr} : ¬ OwnA (blkE ρ ws) σ a := fun ⟨i, d, e1, e2⟩ => by
  rcases blkE_get e1 with z | ⟨_, c0, _, z⟩
  · cases z
  · exact lendC_own z.symm
section
variable {K : Frag} {mg : Str → Option Value} {g : Gh} {ρ : En} {S : Sto} {σ : L2.St} {H : Hp}
/-- the state within the block, D being made -/
theorem EnvOk.block (h : EnvOk K mg g ρ S σ H) (ws : List Nat) : EnvOk K mg ⟨fun b => g.B b ∨ OwnA ρ σ b, g.mu⟩ (blkE ρ ws) S (wipe σ ws) H := by
  have bw : ∀ b, Bd ⟨fun b => g.B b ∨ OwnA ρ σ b, g.mu⟩ (blkE ρ ws) (wipe σ ws) b → Bd g ρ σ b := fun b z => by
    rcases z with (z | z) | z | z
    · exact .inl z
    · exact .inr (.inr z)
    · exact .inr (.inl z)
    · exact (blkE_own z).elim
  refine ⟨by rw [wipe_length, blkE, wipeE_length, List.length_map]; exact h.len, fun i c s e1 e2 => ?_, fun i j d e a e1 => ?_, fun a z => (blkE_own z).elim, h.sto.weak bw, fun b z => ?_⟩
  · rcases blkE_get e1 with z | ⟨hi, c0, e3, z⟩
    · subst z; trivial
    · subst z
      rw [wipe_out hi] at e2
      have k := h.cel i c0 s e3 e2
      cases c0 with
      | no => trivial
      | val d => obtain ⟨v, e, r⟩ := k; exact ⟨v, e, r.weak bw⟩
      | own d =>
        obtain ⟨a, e, xs, ds, rfl, e5, r⟩ := k
        refine ⟨_, e, .lst (.inl e5) (fun z => ?_) (r.weak bw)⟩
        rcases z with z | z
        · exact (h.sep a ⟨i, _, e3, by rw [e2, e]⟩).1 z
        · exact blkE_own z
      | bor d =>
        obtain ⟨v, e, r⟩ := k
        cases r with
        | of r => exact ⟨v, e, .of (r.weak bw)⟩
        | lst r n a =>
          refine ⟨_, e, .lst r (fun z => ?_) (a.weak bw)⟩
          rcases z with z | z
          · exact n (.inl z)
          · exact blkE_own z
      | ref n => exact k
  · rcases blkE_get e1 with z | ⟨_, c0, _, z⟩
    · cases z
    · exact (lendC_own z.symm).elim
  · rcases z with z | z
    · exact h.alo b z
    · exact h.mu_some (.inr z)
end
theorem wipe_chg {σ σ' : L2.St} {ws : List Nat} (h : Chg ws σ σ') : wipe σ' ws = wipe σ ws := by
  refine List.ext_getElem? fun i => ?_
  by_cases hi : i ∈ ws
  · have len : (wipe σ' ws).length = (wipe σ ws).length := by rw [wipe_length, wipe_length, h.1]
    have key : ∀ (τ : L2.St) (ts : List Nat), i ∈ ts → i < τ.length → (wipe τ ts)[i]? = some none := fun τ ts => by
      induction ts with
      | nil => intro z; cases z
      | cons v vs ih =>
        intro z hl
        unfold wipe
        by_cases hv : v = i
        · subst hv
          exact List.getElem?_set_self (by rw [wipe_length]; exact hl)
        · rw [List.getElem?_set_ne hv]
          exact ih (by simpa [show i ≠ v from fun e => hv e.symm] using z) hl
    by_cases hl : i < σ.length
    · rw [key σ ws hi hl, key σ' ws hi (by rw [h.1]; exact hl)]
    · rw [List.getElem?_eq_none (by rw [wipe_length, h.1]; omega), List.getElem?_eq_none (by rw [wipe_length]; omega)]
  · rw [wipe_out hi, wipe_out hi]
    exact h.2 i hi

/-! quiet comprehensions -/
def lcQ (bd : BF) (t : TF) (f : EF) (ρ : En) (S : Sto) : List D → Option (List D)
  | [] => some []
  | d :: ds => (bd d ρ).bind fun ρ1 => (t ρ1 S).bind fun b => if b = true then (f ρ1 S).bind fun z => (lcQ bd t f ρ S ds).map (z :: ·) else lcQ bd t f ρ S ds
def tYesQ : TF := fun _ _ => some true
structure DTs (X : Cx) (ifs : List Expr) (t : TF) : Prop where
  pts : PTs X ifs (tTq X t)
theorem PTs.imp {X : Cx} {e : List Expr} {t t' : TT} (h : PTs X e t) (w : ∀ σ H Q, t' σ H Q → t σ H Q) : PTs X e t' := ⟨fun pins s σ H Q I q => h.run pins s σ H Q I (w σ H Q q)⟩
theorem dts_nil {X : Cx} : DTs X [] tYesQ := ⟨PTs.imp pts_nil fun σ H Q q => by
  obtain ⟨g, ρ, S, r, ok, e, q⟩ := q
  cases e
  exact q H (Same.refl H)⟩
theorem dts_one {X : Cx} {c : Expr} {t : TF} (h : DT X c t) : DTs X [c] t := ⟨pts_one h.pt⟩
/-- the list of a comprehension -/
def yLc (it : IQ) (bd : BF) (ws : List Nat) (t : TF) (f : EF) (ρ : En) (S : Sto) : Option (List D) := (it ρ S).bind fun ds => (lcQ bd t f (blkE ρ ws) S ds).bind fun zs => if zs.length ≤ sizeLine then some zs else none
abbrev YF := En → Sto → Option (D × En × Sto)
def tF (X : Cx) (f : YF) : TE := fun σ H Q => ∃ g ρ S r, EnvOk X.K X.mg g ρ S σ H ∧ f ρ S = some r ∧ ∀ p H' mu', Frs X.K X.mg g ρ σ H p r.1 mu' r.2.1 r.2.2 H' → Q (.ref p) H'
structure DF (X : Cx) (e : Expr) (f : YF) : Prop where
  pe : PE X e (tF X f)
/-- the core: a comprehension's reading -/
theorem lc_q {X : Cx} {bd : BF} {ws : List Nat} {t : TF} {f : EF} {it : IQ} {σ : L2.St} {H : Hp} {Q : VK} {g : Gh} {ρ : En} {S : Sto} {zs : List D} (ok : EnvOk X.K X.mg g ρ S σ H) (e : yLc it bd ws t f ρ S = some zs)
    (q : ∀ p H1 H' xs, Same H H1 → Same H1 H' → H1 p = none → H' p = some (.lst xs) → DtA X.K (Bd ⟨fun b => g.B b ∨ b = p, g.mu⟩ ρ σ) H' xs zs → Q (.ref p) H') : tLc (tIq X it) (tG X ws bd) (tTq X t) (tQ X true f) ws σ H Q := by
  obtain ⟨ds, e1, e⟩ := Option.bind_eq_some_iff.mp e
  obtain ⟨zs', e2, e⟩ := Option.bind_eq_some_iff.mp e
  split at e
  case isFalse => cases e
  rename_i hz
  cases e
  refine ⟨g, ρ, S, ds, ok, e1, fun J H1 s1 jx D hD => ?_⟩
  have ok1 := ok.same s1
  -- the block's ghosts
  let gb : Gh := ⟨fun b => (g.B b ∨ OwnA ρ σ b) ∨ b = D, g.mu⟩
  have sD : ∀ {H2 : Hp}, Same H1 H2 → (∃ o, H2 D = some o) → EnvOk X.K X.mg gb (blkE ρ ws) S (wipe σ ws) H2 := fun {H2} s hd => (ok1.block ws).lend s hD hd
  have bsub : ∀ b, Bd ⟨fun b => g.B b ∨ b = D, g.mu⟩ ρ σ b → Bd gb (blkE ρ ws) (wipe σ ws) b := fun b z => by
    rcases z with (z | z) | z | z
    · exact .inl (.inl (.inl z))
    · exact .inl (.inr z)
    · exact .inr (.inl z)
    · exact .inl (.inl (.inr z))
  have gr : Grow (Bd g ρ σ) H1 (Bd gb (blkE ρ ws) (wipe σ ws)) := fun b z => by
    rcases z with ((z | z) | z) | z | z
    · exact .inl (.inl z)
    · exact .inl (.inr (.inr z))
    · exact .inr (z ▸ hD)
    · exact .inl (.inr (.inl z))
    · exact (blkE_own z).elim
  refine ⟨fun i m H2 => m = ds.length - i ∧ i ≤ ds.length ∧ Same H1 H2 ∧ ∃ acc done rest, H2 D = some (.lst acc) ∧ DtA X.K (Bd gb (blkE ρ ws) (wipe σ ws)) H2 acc done ∧ lcQ bd t f (blkE ρ ws) S (ds.drop i) = some rest ∧ zs = done ++ rest,
    ⟨ds.length, by omega, Nat.zero_le _, same_new hD, [], [], zs, upd_same, .nil, by simpa using e2, rfl⟩, ?_⟩
  rintro i m H2 ⟨rfl, hi, s2, acc, done, rest, hacc, hdt, hrest, rfl⟩
  have okb := sD s2 ⟨_, hacc⟩
  by_cases hlt : i < ds.length
  · refine .inr ?_
    have hd : ds[i]? = some ds[i] := List.getElem?_eq_getElem hlt
    obtain ⟨hgo, hy⟩ := jx.item i _ hd (Bd gb (blkE ρ ws) (wipe σ ws)) H2 (.same s2) gr (fun b z => okb.bad_some z) trivial
    refine ⟨hgo, fun H3 => Same H1 H3 ∧ ∃ acc done rest', H3 D = some (.lst acc) ∧ DtA X.K (Bd gb (blkE ρ ws) (wipe σ ws)) H3 acc done ∧ lcQ bd t f (blkE ρ ws) S (ds.drop (i + 1)) = some rest' ∧ _ = done ++ rest', fun H3 ⟨h1, h2⟩ => ⟨ds.length - (i + 1), by omega, rfl, hlt, h1, h2⟩, fun x H3 y => ?_⟩
    obtain ⟨s3, rx⟩ := hy x H3 y
    rw [List.drop_eq_getElem_cons hlt] at hrest
    unfold lcQ at hrest
    obtain ⟨ρ1, e3, hrest⟩ := Option.bind_eq_some_iff.mp hrest
    obtain ⟨b, e4, hrest⟩ := Option.bind_eq_some_iff.mp hrest
    refine ⟨gb, blkE ρ ws, S, ds[i], ρ1, okb.same s3, rx, e3, fun σ' n4 c4 => ⟨(wipe_chg c4).trans (wipe_chg ⟨wipe_length σ ws, fun j hj => wipe_out hj⟩), ?_⟩⟩
    refine ⟨gb, ρ1, S, b, n4.env, e4, fun H5 s5 => ?_⟩
    have s25 : Same H2 H5 := s3.trans s5
    have grb : Grow (Bd gb (blkE ρ ws) (wipe σ ws)) H3 (Bd gb ρ1 σ') := bd_grow n4.tr
    have bsub1 : ∀ b, Bd gb (blkE ρ ws) (wipe σ ws) b → Bd gb ρ1 σ' b := fun b z => by
      rcases z with z | z | z
      · exact .inl z
      · exact .inr (.inl z)
      · exact (blkE_own z).elim
    dsimp only
    by_cases hb : b = true
    · rw [if_pos hb] at hrest ⊢
      obtain ⟨z, e5, hrest⟩ := Option.bind_eq_some_iff.mp hrest
      obtain ⟨rest', e6, rfl⟩ := Option.map_eq_some_iff.mp hrest
      refine ⟨gb, ρ1, S, z, n4.env.same s5, e5, fun v H6 s6 r6 => ?_⟩
      have s26 := s25.trans s6
      have hD6 : H6 D = some (.lst acc) := s26 _ _ hacc
      have pD : Pres (Bd gb (blkE ρ ws) (wipe σ ws)) H6 (upd H6 D (.lst (acc ++ [v]))) := fun b o e n => by
        rw [upd_ne (fun w => n (.inl (.inr w)))]; exact e
      refine ⟨acc, hD6, ?_, fun b o e => ?_, acc ++ [v], done ++ [z], rest', upd_same, ?_, e6, by simp⟩
      · have l1 := hdt.length
        simp only [List.length_append, List.length_cons] at hz
        omega
      · rw [upd_ne (ne_of_none e hD)]
        exact (s2.trans s26) _ _ e
      · refine DtA.tr pD .refl _ _ ((hdt.same s26).app (.cons ?_ .nil))
        exact Dt.weak bsub1 r6
    · rw [if_neg hb] at hrest ⊢
      exact ⟨s2.trans s25, acc, done, rest, s25 _ _ hacc, hdt.same s25, hrest, rfl⟩
  · have e' : i = ds.length := by omega
    subst e'
    refine .inl ⟨jx.stop H2 noM (.same s2) trivial, ?_⟩
    rw [List.drop_length] at hrest
    cases hrest
    exact q D H1 H2 acc s1 s2 hD hacc (by simpa using hdt.weak bsub)
end DL
namespace DL
open PySem PySem.Spec PyProof.Rows L2

section
variable {K : Frag} {mg : Str → Option Value} {g : Gh} {ρ ρ' : En} {S S' : Sto} {σ σ' : L2.St} {H H' : Hp} {mu' : List Addr}
/-- the store has changed, some new addresses are kept away -/
theorem EnvOk.stepG (h : EnvOk K mg g ρ S σ H) (t : Tr (fun b => b ∈ g.mu) H (fun b => b ∈ mu') H') (p : g.mu <+: mu') (B' : Addr → Prop) (hB : ∀ b, B' b → g.B b ∨ H b = none) (hB2 : ∀ b, B' b → ∃ o, H' b = some o)
    (st : StoOk K mg (fun b => (B' b ∨ OwnA ρ σ b) ∨ b ∈ mu') mu' S' H') : EnvOk K mg ⟨B', mu'⟩ ρ S' σ H' := by
  have tw : Tr (Mu g ρ σ) H (Mu ⟨g.B, mu'⟩ ρ σ) H' := by
    refine ⟨fun b o e n => t.pres b o e fun z => n (.inl z), fun b z => ?_, t.live⟩
    rcases z with z | z
    · exact (t.grow b z).imp .inl id
    · exact .inl (.inr z)
  have bg : Grow (Bd g ρ σ) H (Bd ⟨B', mu'⟩ ρ σ) := fun b z => by
    rcases z with z | z
    · exact (hB b z).imp .inl id
    · exact (tw.grow b z).imp .inr id
  have bp : Pres (Bd g ρ σ) H H' := bd_pres tw
  refine ⟨h.len, fun i c s e1 e2 => ?_, h.inj, fun a z1 => ⟨fun z2 => ?_, fun z2 => ?_⟩, st.weak fun b z => ?_, hB2⟩
  · have k := h.cel i c s e1 e2
    cases c with
    | no => trivial
    | val d => obtain ⟨v, e, r⟩ := k; exact ⟨v, e, Dt.tr bp bg _ _ r⟩
    | own d =>
      obtain ⟨a, e, xs, ds, e3, e4, r⟩ := k
      refine ⟨a, e, xs, ds, e3, t.pres a _ e4 (h.sep a ⟨i, d, e1, by rw [e2, e]⟩).1, DtA.tr bp bg _ _ r⟩
    | bor d =>
      obtain ⟨v, e, r⟩ := k
      refine ⟨v, e, ?_⟩
      cases r with
      | of r => exact .of (Dt.tr bp bg _ _ r)
      | lst r n a =>
        refine .lst (rd_pres r tw.pres n) (fun z => ?_) (DtA.tr bp bg _ _ a)
        rcases tw.grow _ z with q | q
        · exact n q
        · obtain ⟨o, e⟩ := rd_some r
          rw [q] at e; cases e
    | ref n =>
      obtain ⟨a, e1, e2⟩ := k
      refine ⟨a, e1, ?_⟩
      obtain ⟨t, rfl⟩ := p
      rw [List.getElem?_append_left (List.getElem?_eq_some_iff.mp e2).1]
      exact e2
  · rcases t.grow a z2 with q | q
    · exact (h.sep a z1).1 q
    · obtain ⟨o, e⟩ := h.mu_some (.inr z1)
      rw [q] at e; cases e
  · rcases hB a z2 with q | q
    · exact (h.sep a z1).2 q
    · obtain ⟨o, e⟩ := h.mu_some (.inr z1)
      rw [q] at e; cases e
  · rcases z with z | z | z
    · exact .inl (.inl z)
    · exact .inr z
    · exact .inl (.inr z)
theorem bor_stepG {p : Addr} (h : EnvOk K mg g ρ S σ H) (t : Tr (fun b => b ∈ g.mu) H (fun b => b ∈ mu') H') (hp : H p = none) (j : Nat) (d : D) (v : V) (e1 : ρ[j]? = some (Cel.bor d)) (e2 : σ[j]? = some (some v)) :
    BoM K (Bd ⟨fun b => g.B b ∨ b = p, mu'⟩ ρ σ) (fun a => Mu ⟨g.B, mu'⟩ ρ σ a ∨ a = p) H' v d := by
  have tw : Tr (Mu g ρ σ) H (Mu ⟨g.B, mu'⟩ ρ σ) H' := by
    refine ⟨fun b o e n => t.pres b o e fun z => n (.inl z), fun b z => ?_, t.live⟩
    rcases z with z | z
    · exact (t.grow b z).imp .inl id
    · exact .inl (.inr z)
  have bg : Grow (Bd g ρ σ) H (Bd ⟨fun b => g.B b ∨ b = p, mu'⟩ ρ σ) := fun b z => by
    rcases z with (z | z) | z
    · exact .inl (.inl z)
    · exact .inr (z ▸ hp)
    · exact (tw.grow b z).imp .inr id
  have bp : Pres (Bd g ρ σ) H H' := bd_pres tw
  obtain ⟨v', e, r⟩ := h.cel j _ _ e1 e2
  cases e
  cases r with
  | of r => exact .of (Dt.tr bp bg _ _ r)
  | lst r n a =>
    refine .lst (rd_pres r tw.pres n) (fun z => ?_) (DtA.tr bp bg _ _ a)
    obtain ⟨o, e⟩ := rd_some r
    rcases z with z | z
    · rcases tw.grow _ z with q | q
      · exact n q
      · rw [q] at e; cases e
    · rw [z, hp] at e; cases e
end

/-! ### comprehensions with effects -/
abbrev IX := En → Sto → Option (List D × En × Sto)
def tIx (X : Cx) (f : IX) : TI := fun σ H R => ∃ g ρ S r, EnvOk X.K X.mg g ρ S σ H ∧ f ρ S = some r ∧ ∀ J H' mu', Nxt X.K X.mg g ρ σ H mu' r.2.1 r.2.2 σ H' → JX X.K (Bd ⟨g.B, mu'⟩ r.2.1 σ) (Mu ⟨g.B, mu'⟩ r.2.1 σ) H' J r.1 noHd → R J H'
structure DIx (X : Cx) (tg it : Expr) (f : IX) : Prop where
  pi : PI X tg it (tIx X f)
/-- what is walked by a comprehension: the list may be an own one, the block leaves it alone -/
def tIc (X : Cx) (f : IX) : TI := fun σ H R => ∃ g ρ S r, EnvOk X.K X.mg g ρ S σ H ∧ f ρ S = some r ∧ ∀ J H' mu', Nxt X.K X.mg g ρ σ H mu' r.2.1 r.2.2 σ H' → JX X.K (Bd ⟨g.B, mu'⟩ r.2.1 σ) (fun b => b ∈ mu') H' J r.1 noHd → R J H'
structure DIc (X : Cx) (tg it : Expr) (f : IX) : Prop where
  pi : PI X tg it (tIc X f)
theorem JX.mono {K : Frag} {bad M M' : Addr → Prop} {H : Hp} {J : It} {ds : List D} {hd : (Addr → Prop) → Hp → Prop} (h : JX K bad M H J ds hd) (w : ∀ b, M' b → M b) : JX K bad M' H J ds hd where
  item := fun i d e bad' H' p => h.item i d e bad' H' fun b o e n => p b o e fun z => n (w b z)
  stop := fun H' bad' p => h.stop H' bad' fun b o e n => p b o e fun z => n (w b z)
theorem dic_x {X : Cx} {tg it : Expr} {f : IX} (h : DIx X tg it f) : DIc X tg it f := ⟨PI.imp h.pi fun σ H R q => by
  obtain ⟨g, ρ, S, r, ok, e, q⟩ := q
  exact ⟨g, ρ, S, r, ok, e, fun J H' mu' n j => q J H' mu' n (j.mono fun b z => .inl z)⟩⟩
def ixOwn (i : Nat) : IX := fun ρ S => match ρ[i]? with
  | some (.own d) => (itemsD d).map fun ds => (ds, ρ, S)
  | _ => none
theorem dic_own {X : Cx} {tg : Expr} {pos : Pos} (i : Nat) {x : Str} (hN : X.N[i]? = some x := by rfl) (hv : Vis X.env.scope x := by first | exact Or.inl rfl | exact Or.inr (Or.inl rfl) | exact Or.inr (Or.inr rfl)) (hd : (x == ("__debug__" : Str)) = false := by decide) (hcd : (x == ("__classdict__" : Str)) = false := by decide) :
    DIc X tg (.Name x pos) (ixOwn i) := ⟨PI.imp (pi_seq (pe_var hN hv hd hcd)) fun σ H R q => by
  obtain ⟨g, ρ, S, r, ok, e, q⟩ := q
  unfold ixOwn at e
  split at e
  · rename_i d e1
    obtain ⟨ds, e3, rfl⟩ := Option.map_eq_some_iff.mp e
    obtain ⟨s, e2, a, rfl, xs, ds', e4, e5, t⟩ := ok.slot e1
    subst e4
    cases e3
    refine ⟨_, e2, .inl ⟨_, rfl, .inl ⟨⟨_, SqL.of e5⟩, q _ H g.mu (.refl ok) (.list (fun b z => .inr (.inl z)) (fun H' p => .inl (rd_pres (.inl e5) p fun z => ?_)) t)⟩⟩⟩
    exact (ok.sep a ⟨i, _, e1, e2⟩).1 z
  · cases e⟩
def lcX (bd : BF) (t : XT) (f : XF) (ρ : En) : List D → Sto → Option (List D × Sto)
  | [], S => some ([], S)
  | d :: ds, S => (bd d ρ).bind fun ρ1 => (t ρ1 S).bind fun r => if r.1 = true then (f r.2.1 r.2.2).bind fun q => (datOf q.1).bind fun z => (lcX bd t f ρ ds q.2.2).map fun w => (z :: w.1, w.2) else lcX bd t f ρ ds r.2.2
structure DTsX (X : Cx) (ifs : List Expr) (t : XT) : Prop where
  pts : PTs X ifs (tXT X t)
def tYesX : XT := fun ρ S => some (true, ρ, S)
theorem dtsx_nil {X : Cx} : DTsX X [] tYesX := ⟨PTs.imp pts_nil fun σ H Q q => by
  obtain ⟨g, ρ, S, r, ok, e, q⟩ := q
  cases e
  exact q H g.mu (.refl ok)⟩
theorem dtsx_one {X : Cx} {c : Expr} {t : XT} (h : DXT X c t) : DTsX X [c] t := ⟨pts_one h.pt⟩
def yLcX (it : IX) (bd : BF) (ws : List Nat) (t : XT) (f : XF) : YF := fun ρ S => (it ρ S).bind fun r => (lcX bd t f (blkE r.2.1 ws) r.1 r.2.2).bind fun zs => if zs.1.length ≤ sizeLine then some (.list zs.1, r.2.1, zs.2) else none
theorem lc_x {X : Cx} {bd : BF} {ws : List Nat} {t : XT} {f : XF} {it : IX} {σ : L2.St} {H : Hp} {Q : VK} {g : Gh} {ρ : En} {S : Sto} {zs : D × En × Sto} (ok : EnvOk X.K X.mg g ρ S σ H) (e : yLcX it bd ws t f ρ S = some zs)
    (q : ∀ p H' mu', Frs X.K X.mg g ρ σ H p zs.1 mu' zs.2.1 zs.2.2 H' → Q (.ref p) H') : tLc (tIc X it) (tG X ws bd) (tXT X t) (tX X f) ws σ H Q := by
  obtain ⟨r0, e1, e⟩ := Option.bind_eq_some_iff.mp e
  obtain ⟨ds, ρ1, S1⟩ := r0
  obtain ⟨zs', e2, e⟩ := Option.bind_eq_some_iff.mp e
  dsimp only at e2 e
  split at e
  case isFalse => cases e
  rename_i hz
  cases e
  dsimp only at q hz
  refine ⟨g, ρ, S, (ds, ρ1, S1), ok, e1, fun J H1 mu1 n1 jx D hD => ?_⟩
  dsimp only at n1 jx
  have ok1 := n1.env
  have okb := ok1.block ws
  have bdEq : ∀ {mu2 : List Addr} {b : Addr}, Bd ⟨fun b => (g.B b ∨ OwnA ρ1 σ b) ∨ b = D, mu2⟩ (blkE ρ1 ws) (wipe σ ws) b ↔ ((g.B b ∨ OwnA ρ1 σ b) ∨ b = D) ∨ b ∈ mu2 := fun {mu2 b} => by
    refine ⟨fun z => ?_, fun z => z.imp id .inl⟩
    rcases z with z | z | z
    · exact .inl z
    · exact .inr z
    · exact (blkE_own z).elim
  let BB : List Addr → Addr → Prop := fun mu2 b => ((g.B b ∨ OwnA ρ1 σ b) ∨ b = D) ∨ b ∈ mu2
  have Dmu1 : D ∉ mu1 := fun z => by
    obtain ⟨o, e⟩ := ok1.mu_some (.inl z)
    rw [hD] at e; cases e
  refine ⟨fun i m H2 => m = ds.length - i ∧ i ≤ ds.length ∧ ∃ mu2 S2 acc done rest, Tr (fun b => b ∈ mu1) H1 (fun b => b ∈ mu2) H2 ∧ mu1 <+: mu2 ∧ D ∉ mu2 ∧ StoOk X.K X.mg (BB mu2) mu2 S2 H2 ∧ H2 D = some (.lst acc) ∧ DtA X.K (BB mu2) H2 acc done ∧
      lcX bd t f (blkE ρ1 ws) (ds.drop i) S2 = some (rest, zs'.2) ∧ zs'.1 = done ++ rest,
    ⟨ds.length, by omega, Nat.zero_le _, mu1, S1, [], [], zs'.1, .same (same_new hD), List.prefix_refl _, Dmu1, ?_, upd_same, .nil, by simpa using e2, rfl⟩, ?_⟩
  · have gr : Grow (Bd ⟨g.B, mu1⟩ ρ1 σ) H1 (BB mu1) := fun b z => by
      rcases z with ((z | z) | z) | z
      · exact .inl (.inl z)
      · exact .inl (.inr (.inr z))
      · exact .inr (z ▸ hD)
      · exact .inl (.inr (.inl z))
    exact ⟨ok1.sto.len, ok1.sto.nod, fun n o a e1 e2 => (ok1.sto.obj n o a e1 e2).tr (fun u q => same_new hD _ _ q) (.same (same_new hD)) gr (List.prefix_refl _)⟩
  rintro i m H2 ⟨rfl, hi, mu2, S2, acc, done, rest, tr2, pre2, Dm2, sto2, hacc, hdt, hrest, hsum⟩
  have okn : EnvOk X.K X.mg ⟨fun b => (g.B b ∨ OwnA ρ1 σ b) ∨ b = D, mu2⟩ (blkE ρ1 ws) S2 (wipe σ ws) H2 := by
    refine okb.stepG tr2 pre2 _ (fun b z => ?_) (fun b z => ?_) (sto2.weak fun b z => ?_)
    · rcases z with z | z
      · exact .inl z
      · exact .inr (z ▸ hD)
    · rcases z with (z | z) | z
      · exact tr2.live b (ok1.alo b z)
      · exact tr2.live b (ok1.mu_some (.inr z))
      · exact z ▸ ⟨_, hacc⟩
    · rcases z with (z | z) | z
      · exact .inl z
      · exact (blkE_own z).elim
      · exact .inr z
  by_cases hlt : i < ds.length
  · refine .inr ?_
    have hd : ds[i]? = some ds[i] := List.getElem?_eq_getElem hlt
    have pM : Pres (fun b => b ∈ mu1) H1 H2 := fun b o e n => tr2.pres b o e n
    have gM : Grow (Bd ⟨g.B, mu1⟩ ρ1 σ) H1 (Bd ⟨fun b => (g.B b ∨ OwnA ρ1 σ b) ∨ b = D, mu2⟩ (blkE ρ1 ws) (wipe σ ws)) := fun b z => by
      rcases bdEq.mp z with ((z | z) | z) | z
      · exact .inl (.inl z)
      · exact .inl (.inr (.inr z))
      · exact .inr (z ▸ hD)
      · exact (tr2.grow b z).imp (fun q => .inr (.inl q)) id
    obtain ⟨hgo, hy⟩ := jx.item i _ hd _ H2 pM gM (fun b z => okn.bad_some z) trivial
    refine ⟨hgo, fun H3 => ∃ mu2 S2 acc done rest, Tr (fun b => b ∈ mu1) H1 (fun b => b ∈ mu2) H3 ∧ mu1 <+: mu2 ∧ D ∉ mu2 ∧ StoOk X.K X.mg (BB mu2) mu2 S2 H3 ∧ H3 D = some (.lst acc) ∧ DtA X.K (BB mu2) H3 acc done ∧
      lcX bd t f (blkE ρ1 ws) (ds.drop (i + 1)) S2 = some (rest, zs'.2) ∧ zs'.1 = done ++ rest, fun H3 h => ⟨ds.length - (i + 1), by omega, rfl, hlt, h⟩, fun x H3 y => ?_⟩
    obtain ⟨s3, rx⟩ := hy x H3 y
    rw [List.drop_eq_getElem_cons hlt] at hrest
    unfold lcX at hrest
    obtain ⟨ρ2, e3, hrest⟩ := Option.bind_eq_some_iff.mp hrest
    obtain ⟨b, e4, hrest⟩ := Option.bind_eq_some_iff.mp hrest
    refine ⟨_, blkE ρ1 ws, S2, ds[i], ρ2, okn.same s3, rx, e3, fun σ' n4 c4 => ⟨(wipe_chg c4).trans (wipe_chg ⟨wipe_length σ ws, fun j hj => wipe_out hj⟩), ?_⟩⟩
    refine ⟨_, ρ2, S2, b, n4.env, e4, fun H5 mu5 n5 => ?_⟩
    -- whatever comes of it, the block's start is found again
    have again : ∀ {mu6 : List Addr} {ρ6 : En} {S6 : Sto} {H6 : Hp}, Nxt X.K X.mg ⟨fun b => (g.B b ∨ OwnA ρ1 σ b) ∨ b = D, mu2⟩ (blkE ρ1 ws) (wipe σ ws) H2 mu6 ρ6 S6 σ' H6 →
        Tr (fun b => b ∈ mu1) H1 (fun b => b ∈ mu6) H6 ∧ mu1 <+: mu6 ∧ D ∉ mu6 ∧ StoOk X.K X.mg (BB mu6) mu6 S6 H6 ∧ H6 D = some (.lst acc) ∧ DtA X.K (BB mu6) H6 acc done := fun {mu6 ρ6 S6 H6} n6 => by
      have tb : Tr (fun b => b ∈ mu2) H2 (fun b => b ∈ mu6) H6 := (n6.tr.wid (M0 := fun b => b ∈ mu2) (fun b z => z.elim id fun w => (blkE_own w).elim)).sub fun b z => .inl z
      have hD6 : H6 D = some (.lst acc) := tb.pres D _ hacc Dm2
      have Dm6 : D ∉ mu6 := fun z => by
        rcases tb.grow D z with w | w
        · exact Dm2 w
        · rw [hacc] at w; cases w
      refine ⟨tr2.trans tb, pre2.trans n6.pre, Dm6, n6.env.sto.weak fun b z => ?_, hD6, DtA.tr (fun b o e n => tb.pres b o e fun z => n (.inr z)) (fun b z => ?_) _ _ hdt⟩
      · rcases z with z | z
        · exact .inl z
        · exact .inr (.inl z)
      · rcases z with z | z
        · exact .inl (.inl z)
        · exact (tb.grow b z).imp .inr id
    have n35 := (Nxt.same okn s3).trans (n4.trans n5)
    dsimp only
    by_cases hb : b.1 = true
    · rw [if_pos hb] at hrest ⊢
      obtain ⟨z, e5, hrest⟩ := Option.bind_eq_some_iff.mp hrest
      obtain ⟨zd, e6, hrest⟩ := Option.bind_eq_some_iff.mp hrest
      obtain ⟨w, e7, hw⟩ := Option.map_eq_some_iff.mp hrest
      refine ⟨_, b.2.1, b.2.2, z, n5.env, e5, fun v H6 mu6 n6 v6 => ?_⟩
      obtain ⟨a1, a2, a3, a4, a5, a6⟩ := again (n35.trans n6)
      rw [datOf_some e6] at v6
      have hw1 : zd :: w.1 = rest := (Prod.mk.inj hw).1
      have hw2 : w.2 = zs'.2 := (Prod.mk.inj hw).2
      have pD : ∀ {bad : Addr → Prop}, bad D → Pres bad H6 (upd H6 D (.lst (acc ++ [v]))) := fun {bad} hbd b o e n => by
        rw [upd_ne (fun (w : b = D) => n (by rw [w]; exact hbd))]; exact e
      have BD : BB mu6 D := .inl (.inr rfl)
      refine ⟨acc, a5, ?_, mu6, z.2.2, acc ++ [v], done ++ [zd], w.1, ⟨fun b o e n => ?_, fun b z => a1.grow b z, fun b h => ?_⟩, a2, a3, ⟨a4.len, a4.nod, fun n o a e1 e2 => ?_⟩, upd_same, DtA.tr (pD BD) .refl _ _ (a6.app (.cons ?_ .nil)), by rw [← hw2]; exact e7, by rw [hsum, ← hw1]; simp⟩
      · have l1 := hdt.length
        rw [hsum, ← hw1] at hz
        simp only [List.length_append, List.length_cons] at hz
        omega
      · rw [upd_ne (ne_of_none e hD)]
        exact a1.pres b o e n
      · by_cases hbD : b = D
        · exact ⟨_, by rw [hbD]; exact upd_same⟩
        · rw [upd_ne hbD]; exact a1.live b h
      · refine (a4.obj n o a e1 e2).tr (fun u q => ?_) (pD BD) .refl (List.prefix_refl _)
        rw [upd_ne (fun (w : a = D) => a3 (by rw [← w]; exact List.mem_of_getElem? e2))]; exact q
      · refine Dt.weak (fun b z => ?_) v6
        rcases z with z | z
        · exact .inl z
        · exact .inr (.inl z)
    · rw [if_neg hb] at hrest ⊢
      obtain ⟨a1, a2, a3, a4, a5, a6⟩ := again n35
      exact ⟨mu5, b.2.2, acc, done, rest, a1, a2, a3, a4, a5, a6, hrest, hsum⟩
  · have e' : i = ds.length := by omega
    subst e'
    have pM : Pres (Mu ⟨g.B, mu1⟩ ρ1 σ) H1 H2 := fun b o e n => tr2.pres b o e fun z => n (.inl z)
    refine .inl ⟨jx.stop H2 noM (fun b o e n => tr2.pres b o e n) trivial, ?_⟩
    rw [List.drop_length] at hrest
    unfold lcX at hrest
    have hr1 : [] = rest := (Prod.mk.inj (Option.some.inj hrest)).1
    have hr2 : S2 = zs'.2 := (Prod.mk.inj (Option.some.inj hrest)).2
    subst hr1
    rw [List.append_nil] at hsum
    rw [hsum, ← hr2] at q
    have Dnone : H D = none := by
      cases e : H D with
      | none => rfl
      | some o =>
        obtain ⟨u, e2⟩ := n1.tr.live D ⟨o, e⟩
        rw [hD] at e2; cases e2
    have tf : Tr (Mu ⟨g.B, mu1⟩ ρ1 σ) H1 (Mu ⟨g.B, mu2⟩ ρ1 σ) H2 := by
      refine ⟨pM, fun b z => ?_, tr2.live⟩
      rcases z with z | z
      · exact (tr2.grow b z).imp .inl id
      · exact .inl (.inr z)
    have bsub : ∀ b, Bd ⟨fun b => g.B b ∨ b = D, mu2⟩ ρ1 σ b → BB mu2 b := fun b z => by
      rcases z with (z | z) | z | z
      · exact .inl (.inl (.inl z))
      · exact .inl (.inr z)
      · exact .inr z
      · exact .inl (.inl (.inr z))
    refine q D H2 mu2 ⟨ok1.stepG tr2 pre2 _ (fun b z => ?_) (fun b z => ?_) (sto2.weak fun b z => ?_), Dnone, fun z => ?_, fun z => ?_, n1.tr.trans tf, n1.pre.trans pre2, ⟨acc, done, rfl, hacc, hdt.weak bsub⟩, bor_stepG (g := ⟨g.B, mu1⟩) ok1 tr2 hD⟩
    · rcases z with z | z
      · exact .inl z
      · exact .inr (z ▸ hD)
    · rcases z with z | z
      · exact tr2.live b (ok1.alo b z)
      · exact z ▸ ⟨_, hacc⟩
    · rcases z with ((z | z) | z) | z
      · exact .inl (.inl (.inl z))
      · exact .inl (.inr z)
      · exact .inl (.inl (.inr z))
      · exact .inr z
    · obtain ⟨o, e⟩ := ok1.alo D z
      rw [hD] at e; cases e
    · rcases z with z | z
      · exact Dm2 z
      · obtain ⟨o, e⟩ := ok1.mu_some (.inr z)
        rw [hD] at e; cases e
end DL
namespace DL
open PySem PySem.Spec PyProof.Rows L2

/-! ### comprehensions: the rules -/
section
variable {X : Cx} {elt tg iter : Expr} {ifs : List Expr} {scope : Scope} {own : List (Str × Nat)} {pos spos : Pos}
def eLc (it : IQ) (bd : BF) (ws : List Nat) (t : TF) (f : EF) : EF := fun ρ S => (yLc it bd ws t f ρ S).map .list
theorem dq_lc {it : IQ} {bd : BF} {t : TF} {f : EF} (hc : X.calm = true) (hN : X.N.Nodup) (hi : DIq X tg iter it) (ok : BlkOk X.N X.env.scope scope own)
    (hg : ∀ (s : Shared) (H : Hp) (C : Addr) (cl : List (Str × Addr)) (fp : List Addr), DG (X.blk s H scope (compEnvC scope cl C X.env) fp) (own.map (·.2)) tg bd)
    (ht : ∀ (s : Shared) (H : Hp) (C : Addr) (cl : List (Str × Addr)) (fp : List Addr), DTs (X.blk s H scope (compEnvC scope cl C X.env) fp) ifs t)
    (he : ∀ (s : Shared) (H : Hp) (C : Addr) (cl : List (Str × Addr)) (fp : List Addr), DQ (X.blk s H scope (compEnvC scope cl C X.env) fp) true elt f) (hs : ∀ x, foldedSetIterable iter X.env x = pure x := by intro _; rfl) :
    DQ X true (.ListComp elt [⟨tg, iter, ifs, 0⟩] scope pos) (eLc it bd (own.map (·.2)) t f) := ⟨PE.imp (pe_lc hc hN hi.pi ok (fun s H C cl fp => (hg s H C cl fp).pg) (fun s H C cl fp => (ht s H C cl fp).pts) (fun s H C cl fp => (he s H C cl fp).pe) hs) fun σ H Q q => by
  obtain ⟨g, ρ, S, d, ok, e, q⟩ := q
  obtain ⟨zs, e1, rfl⟩ := Option.map_eq_some_iff.mp e
  refine lc_q ok e1 fun p H1 H' xs s1 s2 hp hx ha => q _ H' (s1.trans s2) (.lst (.inl ⟨.inl hx, fun z => ?_⟩) (ha.weak fun b z => z.imp .inl id))
  obtain ⟨o, e⟩ := ok.bad_some z
  rw [Same.free s1 hp] at e; cases e⟩
def qy (f : En → Sto → Option (List D)) : YF := fun ρ S => (f ρ S).map fun zs => (.list zs, ρ, S)
theorem frs_of {g : Gh} {ρ : En} {S : Sto} {σ : L2.St} {H H1 H' : Hp} {p : Addr} {xs : List V} {zs : List D} (ok : EnvOk X.K X.mg g ρ S σ H) (s1 : Same H H1) (s2 : Same H1 H') (hp : H1 p = none) (hx : H' p = some (.lst xs))
    (ha : DtA X.K (Bd ⟨fun b => g.B b ∨ b = p, g.mu⟩ ρ σ) H' xs zs) : Frs X.K X.mg g ρ σ H p (.list zs) g.mu ρ S H' := by
  have hp0 : H p = none := Same.free s1 hp
  have nb : ¬ Bd g ρ σ p := fun z => by
    obtain ⟨o, e⟩ := ok.bad_some z
    rw [hp0] at e; cases e
  exact ⟨ok.lend (s1.trans s2) hp0 ⟨_, hx⟩, hp0, fun z => nb (.inl z), fun z => nb (.inr z), .same (s1.trans s2), List.prefix_refl _, ⟨xs, zs, rfl, hx, ha⟩, bor_lend ok (s1.trans s2) hp0⟩
theorem df_lc {it : IQ} {bd : BF} {t : TF} {f : EF} (hc : X.calm = true) (hN : X.N.Nodup) (hi : DIq X tg iter it) (ok : BlkOk X.N X.env.scope scope own)
    (hg : ∀ (s : Shared) (H : Hp) (C : Addr) (cl : List (Str × Addr)) (fp : List Addr), DG (X.blk s H scope (compEnvC scope cl C X.env) fp) (own.map (·.2)) tg bd)
    (ht : ∀ (s : Shared) (H : Hp) (C : Addr) (cl : List (Str × Addr)) (fp : List Addr), DTs (X.blk s H scope (compEnvC scope cl C X.env) fp) ifs t)
    (he : ∀ (s : Shared) (H : Hp) (C : Addr) (cl : List (Str × Addr)) (fp : List Addr), DQ (X.blk s H scope (compEnvC scope cl C X.env) fp) true elt f) (hs : ∀ x, foldedSetIterable iter X.env x = pure x := by intro _; rfl) :
    DF X (.ListComp elt [⟨tg, iter, ifs, 0⟩] scope pos) (qy (yLc it bd (own.map (·.2)) t f)) := ⟨PE.imp (pe_lc hc hN hi.pi ok (fun s H C cl fp => (hg s H C cl fp).pg) (fun s H C cl fp => (ht s H C cl fp).pts) (fun s H C cl fp => (he s H C cl fp).pe) hs) fun σ H Q q => by
  obtain ⟨g, ρ, S, d, ok, e, q⟩ := q
  obtain ⟨zs, e1, rfl⟩ := Option.map_eq_some_iff.mp e
  exact lc_q ok e1 fun p H1 H' xs s1 s2 hp hx ha => q _ H' g.mu (frs_of ok s1 s2 hp hx ha)⟩
theorem dfx_lc {it : IX} {bd : BF} {t : XT} {f : XF} (hc : X.calm = true) (hN : X.N.Nodup) (hi : DIc X tg iter it) (ok : BlkOk X.N X.env.scope scope own)
    (hg : ∀ (s : Shared) (H : Hp) (C : Addr) (cl : List (Str × Addr)) (fp : List Addr), DG (X.blk s H scope (compEnvC scope cl C X.env) fp) (own.map (·.2)) tg bd)
    (ht : ∀ (s : Shared) (H : Hp) (C : Addr) (cl : List (Str × Addr)) (fp : List Addr), DTsX (X.blk s H scope (compEnvC scope cl C X.env) fp) ifs t)
    (he : ∀ (s : Shared) (H : Hp) (C : Addr) (cl : List (Str × Addr)) (fp : List Addr), DX (X.blk s H scope (compEnvC scope cl C X.env) fp) elt f) (hs : ∀ x, foldedSetIterable iter X.env x = pure x := by intro _; rfl) :
    DF X (.ListComp elt [⟨tg, iter, ifs, 0⟩] scope pos) (yLcX it bd (own.map (·.2)) t f) := ⟨PE.imp (pe_lc hc hN hi.pi ok (fun s H C cl fp => (hg s H C cl fp).pg) (fun s H C cl fp => (ht s H C cl fp).pts) (fun s H C cl fp => (he s H C cl fp).pe) hs) fun σ H Q q => by
  obtain ⟨g, ρ, S, d, ok, e, q⟩ := q
  exact lc_x ok e q⟩
/-- a fresh object as data -/
def xF (f : YF) : XF := fun ρ S => (f ρ S).map fun r => (.dat r.1, r.2.1, r.2.2)
theorem dx_f {e : Expr} {f : YF} (h : DF X e f) : DX X e (xF f) := ⟨PE.imp h.pe fun σ H Q q => by
  obtain ⟨g, ρ, S, d, ok, e, q⟩ := q
  obtain ⟨r, e1, rfl⟩ := Option.map_eq_some_iff.mp e
  exact ⟨g, ρ, S, r, ok, e1, fun p H' mu' fr => q _ H' mu' fr.nxt fr.dt⟩⟩
/-- a fresh list display -/
def yLst (fs : List XF) : YF := fun ρ S => (xevs fs ρ S).map fun r => (.list r.1, r.2.1, r.2.2)
theorem df_lst {es : List Expr} {fs : List XF} (h : DAx X es fs) (hl : fs.length ≤ sizeLine := by decide) : DF X (.List es pos) (yLst fs) := ⟨PE.imp (pe_lst h.pa) fun σ H Q q => by
  obtain ⟨g, ρ, S, d, ok, e, q⟩ := q
  obtain ⟨r, e1, rfl⟩ := Option.map_eq_some_iff.mp e
  refine ⟨g, ρ, S, r, ok, e1, fun vs H1 mu1 n1 a1 => ⟨by rw [a1.length, xevs_length e1]; exact hl, fun p hp => ?_⟩⟩
  have okm := n1.env
  have fr := Frs.quiet okm (Same.refl H1) (same_new (o := .lst vs) hp) hp upd_same a1
  have hp0 : H p = none := by
    cases e : H p with
    | none => rfl
    | some o =>
      obtain ⟨u, e2⟩ := n1.tr.live p ⟨o, e⟩
      rw [hp] at e2; cases e2
  exact q p _ mu1 ⟨fr.env, hp0, fr.nB, fr.nM, n1.tr.trans fr.tr, n1.pre.trans fr.pre, fr.own, fr.bor⟩⟩
/-- list(e) -/
def listD : D → Option (List D)
  | .list ds => some ds
  | .tuple ds => some ds
  | _ => none
/-- a fresh list assigned: a statement -/
structure DSF (X : Cx) (st : Stmt) (i : Nat) (f : YF) : Prop where
  ps : PS X st (fun D σ H => tF X f σ H (fun x H1 => D.nx (σ.set i (some x)) H1))
theorem dsf_set (i : Nat) {x : Str} {e : Expr} {f : YF} {pos' : Pos} (hN : X.N.Nodup) (h : DF X e f) (hi : X.N[i]? = some x := by rfl) (hx : Loc X.env.scope x := by first | exact Or.inl rfl | exact Or.inr rfl) (hs : swapsWith e (some (.Name x pos')) pos.line X.env = pure false := by rfl) (hf : X.fn x = true ∨ X.env.scope.names.lookup x = some .local := by first | exact .inl rfl | exact .inr rfl) :
    DSF X (.Assign [.Name x pos'] e pos) i f := ⟨PS.imp (ps_set hN hi hx h.pe hs hf) fun D σ H q => q⟩
theorem dsf_lc (i : Nat) {y : Str} {py : Pos} {it : IQ} {bd : BF} {t : TF} {f : EF} (hc : X.calm = true) (hN : X.N.Nodup) (hi : DIq X tg iter it) (ok : BlkOk X.N X.env.scope scope own)
    (hg : ∀ (s : Shared) (H : Hp) (C : Addr) (cl : List (Str × Addr)) (fp : List Addr), DG (X.blk s H scope (compEnvC scope cl C X.env) fp) (own.map (·.2)) tg bd)
    (ht : ∀ (s : Shared) (H : Hp) (C : Addr) (cl : List (Str × Addr)) (fp : List Addr), DTs (X.blk s H scope (compEnvC scope cl C X.env) fp) ifs t)
    (he : ∀ (s : Shared) (H : Hp) (C : Addr) (cl : List (Str × Addr)) (fp : List Addr), DQ (X.blk s H scope (compEnvC scope cl C X.env) fp) true elt f)
    (hsw : swapsWith (.ListComp elt [⟨tg, iter, ifs, 0⟩] scope pos) (some (.Name y py)) spos.line X.env = pure true) (hy : X.N[i]? = some y := by rfl) (hyl : X.env.scope.names.lookup y = some .local := by rfl) (hs : ∀ x, foldedSetIterable iter X.env x = pure x := by intro _; rfl) :
    DSF X (.Assign [.Name y py] (.ListComp elt [⟨tg, iter, ifs, 0⟩] scope pos) spos) i (qy (yLc it bd (own.map (·.2)) t f)) := ⟨PS.imp (ps_setLc hc hN hy hyl hsw hi.pi ok (fun s H C cl fp => (hg s H C cl fp).pg) (fun s H C cl fp => (ht s H C cl fp).pts) (fun s H C cl fp => (he s H C cl fp).pe) hs) fun D σ H q => by
  obtain ⟨g, ρ, S, d, ok, e, q⟩ := q
  obtain ⟨zs, e1, rfl⟩ := Option.map_eq_some_iff.mp e
  exact lc_q ok e1 fun p H1 H' xs s1 s2 hp hx ha => q _ H' g.mu (frs_of ok s1 s2 hp hx ha)⟩
theorem dsf_lcx (i : Nat) {y : Str} {py : Pos} {it : IX} {bd : BF} {t : XT} {f : XF} (hc : X.calm = true) (hN : X.N.Nodup) (hi : DIc X tg iter it) (ok : BlkOk X.N X.env.scope scope own)
    (hg : ∀ (s : Shared) (H : Hp) (C : Addr) (cl : List (Str × Addr)) (fp : List Addr), DG (X.blk s H scope (compEnvC scope cl C X.env) fp) (own.map (·.2)) tg bd)
    (ht : ∀ (s : Shared) (H : Hp) (C : Addr) (cl : List (Str × Addr)) (fp : List Addr), DTsX (X.blk s H scope (compEnvC scope cl C X.env) fp) ifs t)
    (he : ∀ (s : Shared) (H : Hp) (C : Addr) (cl : List (Str × Addr)) (fp : List Addr), DX (X.blk s H scope (compEnvC scope cl C X.env) fp) elt f)
    (hsw : swapsWith (.ListComp elt [⟨tg, iter, ifs, 0⟩] scope pos) (some (.Name y py)) spos.line X.env = pure true) (hy : X.N[i]? = some y := by rfl) (hyl : X.env.scope.names.lookup y = some .local := by rfl) (hs : ∀ x, foldedSetIterable iter X.env x = pure x := by intro _; rfl) :
    DSF X (.Assign [.Name y py] (.ListComp elt [⟨tg, iter, ifs, 0⟩] scope pos) spos) i (yLcX it bd (own.map (·.2)) t f) := ⟨PS.imp (ps_setLc hc hN hy hyl hsw hi.pi ok (fun s H C cl fp => (hg s H C cl fp).pg) (fun s H C cl fp => (ht s H C cl fp).pts) (fun s H C cl fp => (he s H C cl fp).pe) hs) fun D σ H q => by
  obtain ⟨g, ρ, S, d, ok, e, q⟩ := q
  exact lc_x ok e q⟩
/-- .. and kept as data -/
def sValF (i : Nat) (f : YF) : SF := fun ρ S => (f ρ S).map fun r => .nx (r.2.1.set i (.val r.1)) r.2.2
theorem ds_valF {st : Stmt} {i : Nat} {f : YF} (h : DSF X st i f) : DS X st (sValF i f) := ⟨PS.imp h.ps fun D σ H q => by
  obtain ⟨g, ρ, S, r, ok, e, k⟩ := q
  obtain ⟨r1, e1, rfl⟩ := Option.map_eq_some_iff.mp e
  exact ⟨g, ρ, S, r1, ok, e1, fun p H' mu' fr => k _ H' mu' (set_fin (r := .dat r1.1) fr.nxt fr.dt)⟩⟩
/-- .. and owned -/
def sOwnF (i : Nat) (f : YF) : SF := fun ρ S => (f ρ S).map fun r => .nx (r.2.1.set i (.own r.1)) r.2.2
theorem ds_ownF {st : Stmt} {i : Nat} {f : YF} (h : DSF X st i f) : DS X st (sOwnF i f) := ⟨PS.imp h.ps fun D σ H q => by
  obtain ⟨g, ρ, S, r, ok, e, k⟩ := q
  obtain ⟨r1, e1, rfl⟩ := Option.map_eq_some_iff.mp e
  exact ⟨g, ρ, S, r1, ok, e1, fun p H' mu' fr => k _ H' mu' (fr.put i)⟩⟩
end

/-! ### sources of a for, of a comprehension with effects -/
section
variable {X : Cx} {tg e e2 : Expr} {f f2 : XF} {pos p : Pos}
def ixOf (f : XF) : IX := fun ρ S => (f ρ S).bind fun r => (datOf r.1).bind fun d => (itemsD d).map fun ds => (ds, r.2.1, r.2.2)
theorem jx_items {K : Frag} {bad M : Addr → Prop} {H : Hp} {v : V} {d : D} {ds : List D} (hM : ∀ b, M b → bad b) (r : Dt K bad H v d) (e : itemsD d = some ds) :
    (∃ a, v = .ref a ∧ (((∃ xs, SqL K H a xs) ∧ JX K bad M H (Itl K a) ds noHd) ∨ ((∃ xs, SqT K H a xs) ∧ JX K bad M H (Itt K a) ds noHd))) ∨ ∃ z, v = .str z ∧ JX K bad M H (Its z) ds noHd := by
  unfold itemsD at e
  split at e
  · cases e
    cases r with
    | lst s t => exact .inl ⟨_, rfl, .inl ⟨⟨_, s.sq⟩, .list hM (fun H' p => s.pres hM p) t⟩⟩
  · cases e
    cases r with
    | tup s t => exact .inl ⟨_, rfl, .inr ⟨⟨_, s.sq⟩, .tuple hM (fun H' p => s.pres hM p) t⟩⟩
  · cases e
    cases r
    exact .inr ⟨_, rfl, .str⟩
  · cases e
theorem iSeq_jx {K : Frag} {bad M : Addr → Prop} {H : Hp} {v : V} {ds : List D} {R : It → Hp → Prop} (j : (∃ a, v = .ref a ∧ (((∃ xs, SqL K H a xs) ∧ JX K bad M H (Itl K a) ds noHd) ∨ ((∃ xs, SqT K H a xs) ∧ JX K bad M H (Itt K a) ds noHd))) ∨ ∃ z, v = .str z ∧ JX K bad M H (Its z) ds noHd)
    (q : ∀ J, JX K bad M H J ds noHd → R J H) : (∃ a, v = .ref a ∧ (((∃ xs, SqL K H a xs) ∧ R (Itl K a) H) ∨ ((∃ xs, SqT K H a xs) ∧ R (Itt K a) H))) ∨ ∃ z, v = .str z ∧ R (Its z) H := by
  rcases j with ⟨a, e, ⟨s, j⟩ | ⟨s, j⟩⟩ | ⟨z, e, j⟩
  · exact .inl ⟨a, e, .inl ⟨s, q _ j⟩⟩
  · exact .inl ⟨a, e, .inr ⟨s, q _ j⟩⟩
  · exact .inr ⟨z, e, q _ j⟩
theorem dix_seq (h : DX X e f) : DIx X tg e (ixOf f) := ⟨PI.imp (pi_seq h.pe) fun σ H R q => by
  obtain ⟨g, ρ, S, r, ok, e, q⟩ := q
  obtain ⟨r1, e1, e⟩ := Option.bind_eq_some_iff.mp e
  obtain ⟨d, e2, e⟩ := Option.bind_eq_some_iff.mp e
  obtain ⟨ds, e3, rfl⟩ := Option.map_eq_some_iff.mp e
  refine ⟨g, ρ, S, r1, ok, e1, fun v H1 mu1 n1 v1 => ?_⟩
  rw [datOf_some e2] at v1
  exact iSeq_jx (jx_items (M := Mu ⟨g.B, mu1⟩ r1.2.1 σ) (fun b z => .inr z) v1 e3) fun J j => q J H1 mu1 n1 j⟩
/-- a name whose list this def doesn't change -/
def ixBor (i : Nat) : IX := fun ρ S => match ρ[i]? with
  | some (.val d) => (itemsD d).map fun ds => (ds, ρ, S)
  | some (.bor d) => (itemsD d).map fun ds => (ds, ρ, S)
  | _ => none
theorem dix_bor (i : Nat) {x : Str} (hN : X.N[i]? = some x := by rfl) (hv : Vis X.env.scope x := by first | exact Or.inl rfl | exact Or.inr (Or.inl rfl) | exact Or.inr (Or.inr rfl)) (hd : (x == ("__debug__" : Str)) = false := by decide) (hcd : (x == ("__classdict__" : Str)) = false := by decide) :
    DIx X tg (.Name x pos) (ixBor i) := ⟨PI.imp (pi_seq (pe_var hN hv hd hcd)) fun σ H R q => by
  obtain ⟨g, ρ, S, r, ok, e, q⟩ := q
  unfold ixBor at e
  split at e
  · rename_i d e1
    obtain ⟨ds, e3, rfl⟩ := Option.map_eq_some_iff.mp e
    obtain ⟨s, e2, v, rfl, r⟩ := ok.slot e1
    exact ⟨v, e2, iSeq_jx (jx_items (M := Mu g ρ σ) (fun b z => .inr z) r e3) fun J j => q J H g.mu (.refl ok) j⟩
  · rename_i d e1
    obtain ⟨ds, e3, rfl⟩ := Option.map_eq_some_iff.mp e
    obtain ⟨s, e2, v, rfl, r⟩ := ok.slot e1
    cases r with
    | of r => exact ⟨v, e2, iSeq_jx (jx_items (M := Mu g ρ σ) (fun b z => .inr z) r e3) fun J j => q J H g.mu (.refl ok) j⟩
    | lst r n t =>
      cases e3
      exact ⟨_, e2, .inl ⟨_, rfl, .inl ⟨⟨_, .inl r⟩, q _ H g.mu (.refl ok) (.list (fun b z => .inr z) (fun H' p => .inl (rd_pres r p n)) t)⟩⟩⟩
  · cases e⟩
def ixRange (fs : List XF) : IX := fun ρ S => (xevs fs ρ S).bind fun r => (rangeOf r.1).map fun ds => (ds, r.2.1, r.2.2)
theorem dix_range1 (ha : DAx X [e] [f]) (hg : Gl X "range") (hm : X.mg "range" = none) (hs : starEach [e] X.env = [(false, eval e X.env)] := by rfl) : DIx X tg (.Call (.Name "range" p) [e] [] pos) (ixRange [f]) := ⟨PI.imp (pi_range1 hg hm ha.pa hs) fun σ H R q => by
  obtain ⟨g, ρ, S, r, ok, e, q⟩ := q
  obtain ⟨r1, e1, e⟩ := Option.bind_eq_some_iff.mp e
  obtain ⟨ds, e2, rfl⟩ := Option.map_eq_some_iff.mp e
  refine ⟨g, ρ, S, r1, ok, e1, fun vs H1 mu1 n1 a1 => ?_⟩
  have hl := xevs_length e1
  unfold rangeOf at e2
  split at e2
  · rename_i j hj
    rw [hj] at a1
    split at e2
    · rename_i hc
      cases e2
      cases a1 with
      | cons a b =>
        cases b
        cases a
        exact ⟨_, rfl, hc.1, hc.2, q _ H1 mu1 n1 .range⟩
    · cases e2
  · rename_i hj
    rw [hj] at hl
    cases hl
  · cases e2⟩
theorem dix_range2 (ha : DAx X [e, e2] [f, f2]) (hg : Gl X "range") (hm : X.mg "range" = none) (hs : starEach [e, e2] X.env = [(false, eval e X.env), (false, eval e2 X.env)] := by rfl) (hs2 : starEach [e2] X.env = [(false, eval e2 X.env)] := by rfl) : DIx X tg (.Call (.Name "range" p) [e, e2] [] pos) (ixRange [f, f2]) := ⟨PI.imp (pi_range2 hg hm ha.pa hs hs2) fun σ H R q => by
  obtain ⟨g, ρ, S, r, ok, e, q⟩ := q
  obtain ⟨r1, e1, e⟩ := Option.bind_eq_some_iff.mp e
  obtain ⟨ds, e2, rfl⟩ := Option.map_eq_some_iff.mp e
  refine ⟨g, ρ, S, r1, ok, e1, fun vs H1 mu1 n1 a1 => ?_⟩
  have hl := xevs_length e1
  unfold rangeOf at e2
  split at e2
  · rename_i hj
    rw [hj] at hl
    cases hl
  · rename_i i j hj
    rw [hj] at a1
    split at e2
    · rename_i hc
      cases e2
      cases a1 with
      | cons a b =>
        cases b with
        | cons b c =>
          cases c
          cases a
          cases b
          exact ⟨_, _, rfl, hc, q _ H1 mu1 n1 .range⟩
    · cases e2
  · cases e2⟩
end

/-! ### loops -/
def sFor (bd : BF) (b : SF) : List D → SF
  | [], ρ, S => some (.nx ρ S)
  | d :: ds, ρ, S => (bd d ρ).bind fun ρ1 => (b ρ1 S).bind fun r => match r with
    | .nx ρ' S' => sFor bd b ds ρ' S'
    | .ct ρ' S' => sFor bd b ds ρ' S'
    | .bk ρ' S' => some (.nx ρ' S')
    | .rt r S' => some (.rt r S')
def sForI (it : IX) (bd : BF) (b : SF) : SF := fun ρ S => (it ρ S).bind fun r => sFor bd b r.1 r.2.1 r.2.2
def sWhileN (t : XT) (b : SF) : Nat → SF
  | 0, _, _ => none
  | n + 1, ρ, S => (t ρ S).bind fun r => if r.1 = true then (b r.2.1 r.2.2).bind fun q => match q with
    | .nx ρ' S' => sWhileN t b n ρ' S'
    | .ct ρ' S' => sWhileN t b n ρ' S'
    | .bk ρ' S' => some (.nx ρ' S')
    | .rt r S' => some (.rt r S')
    else some (.nx r.2.1 r.2.2)
open Classical in
noncomputable def sWhile (t : XT) (b : SF) : SF := fun ρ S => if h : ∃ n r, sWhileN t b n ρ S = some r then some (choose (choose_spec h)) else none
theorem sWhile_some {t : XT} {b : SF} {ρ : En} {S : Sto} {r : Rs} (h : sWhile t b ρ S = some r) : ∃ n, sWhileN t b n ρ S = some r := by
  unfold sWhile at h
  split at h
  · rename_i hx
    cases h
    exact ⟨_, Classical.choose_spec (Classical.choose_spec hx)⟩
  · cases h
theorem sWhileN_mono {t : XT} {b : SF} : ∀ {n : Nat} {ρ : En} {S : Sto} {r : Rs}, sWhileN t b n ρ S = some r → ∀ m, n ≤ m → sWhileN t b m ρ S = some r
  | 0, _, _, _, h, _, _ => by cases h
  | n + 1, ρ, S, r, h, 0, hm => by omega
  | n + 1, ρ, S, r, h, m + 1, hm => by
    unfold sWhileN at h ⊢
    obtain ⟨r1, e1, h⟩ := Option.bind_eq_some_iff.mp h
    rw [e1]
    show (if r1.1 = true then _ else _) = _
    by_cases hb : r1.1 = true
    · rw [if_pos hb] at h ⊢
      obtain ⟨q, e2, h⟩ := Option.bind_eq_some_iff.mp h
      rw [e2]
      cases q with
      | nx ρ' S' => exact sWhileN_mono h m (by omega)
      | ct ρ' S' => exact sWhileN_mono h m (by omega)
      | bk ρ' S' => exact h
      | rt r S' => exact h
    · rw [if_neg hb] at h ⊢
      exact h
theorem sWhile_of {t : XT} {b : SF} {ρ : En} {S : Sto} {r : Rs} {n : Nat} (h : sWhileN t b n ρ S = some r) : sWhile t b ρ S = some r := by
  have hx : ∃ n r, sWhileN t b n ρ S = some r := ⟨n, r, h⟩
  unfold sWhile
  rw [dif_pos hx]
  have e := Classical.choose_spec (Classical.choose_spec hx)
  have e1 := sWhileN_mono e (max (Classical.choose hx) n) (Nat.le_max_left _ _)
  have e2 := sWhileN_mono h (max (Classical.choose hx) n) (Nat.le_max_right _ _)
  rw [e1] at e2
  exact e2
section
variable {X : Cx} {tg iter : Expr} {body : List Stmt} {ts : List Nat} {bd : BF} {b : SF} {it : IX} {pos : Pos}
theorem ds_for (hp : PassesOwn (model X.prog X.w) X.A X.env X.xe) (hc : X.calm = true) (hi : DIx X tg iter it) (hg : DG X ts tg bd) (hb : DSs X body b) (hs : ∀ x, foldedSetIterable iter X.env x = pure x := by intro _; rfl) :
    DS X (.For tg iter body [] pos) (sForI it bd b) := ⟨PS.imp (ps_for hp hc hi.pi hg.pg hb.ps hs) fun D σ H q => by
  obtain ⟨g, ρ, S, r, ok, e, k⟩ := q
  obtain ⟨r0, e1, e⟩ := Option.bind_eq_some_iff.mp e
  obtain ⟨ds, ρ1, S1⟩ := r0
  dsimp only at e
  refine ⟨g, ρ, S, (ds, ρ1, S1), ok, e1, fun J H1 mu1 n1 jx => ?_⟩
  dsimp only at n1 jx
  refine ⟨fun i m σ2 H2 => m = ds.length - i ∧ i ≤ ds.length ∧ ∃ mu2 ρ2 S2, Nxt X.K X.mg ⟨g.B, mu1⟩ ρ1 σ H1 mu2 ρ2 S2 σ2 H2 ∧ sFor bd b (ds.drop i) ρ2 S2 = some r, ⟨ds.length, by omega, Nat.zero_le _, mu1, ρ1, S1, .refl n1.env, by simpa using e⟩, ?_⟩
  rintro i m σ2 H2 ⟨rfl, hi, mu2, ρ2, S2, n2, hf⟩
  have gr := bd_grow (B := g.B) n2.tr
  by_cases hlt : i < ds.length
  · refine .inr ?_
    have hd : ds[i]? = some ds[i] := List.getElem?_eq_getElem hlt
    obtain ⟨hgo, hy⟩ := jx.item i _ hd _ H2 n2.tr.pres gr (fun b z => n2.env.bad_some z) trivial
    refine ⟨hgo, fun σ3 H3 => ∃ mu2 ρ2 S2, Nxt X.K X.mg ⟨g.B, mu1⟩ ρ1 σ H1 mu2 ρ2 S2 σ3 H3 ∧ sFor bd b (ds.drop (i + 1)) ρ2 S2 = some r, fun σ3 H3 h => ⟨ds.length - (i + 1), by omega, rfl, hlt, h⟩, fun x H3 y => ?_⟩
    obtain ⟨s3, rx⟩ := hy x H3 y
    rw [List.drop_eq_getElem_cons hlt] at hf
    unfold sFor at hf
    obtain ⟨ρ4, e4, hf⟩ := Option.bind_eq_some_iff.mp hf
    obtain ⟨r5, e5, hf⟩ := Option.bind_eq_some_iff.mp hf
    refine ⟨⟨g.B, mu2⟩, ρ2, S2, ds[i], ρ4, n2.env.same s3, rx, e4, fun σ4 n4 c4 => ?_⟩
    refine ⟨⟨g.B, mu2⟩, ρ4, S2, r5, n4.env, e5, ?_⟩
    have n24 := n2.trans ((Nxt.same n2.env s3).trans n4)
    cases r5 with
    | nx ρ' S' => exact fun σ5 H5 mu5 n5 => ⟨mu5, ρ', S', n24.trans n5, hf⟩
    | ct ρ' S' => exact fun σ5 H5 mu5 n5 => ⟨mu5, ρ', S', n24.trans n5, hf⟩
    | bk ρ' S' =>
      have e6 : Rs.nx ρ' S' = r := Option.some.inj hf
      subst e6
      exact fun σ5 H5 mu5 n5 => k σ5 H5 mu5 (n1.trans (n24.trans n5))
    | rt r' S' =>
      have e6 : Rs.rt r' S' = r := Option.some.inj hf
      subst e6
      exact RsK.after (g := ⟨g.B, mu1⟩) n24 (k.after n1)
  · have e' : i = ds.length := by omega
    subst e'
    refine .inl ⟨jx.stop H2 noM n2.tr.pres trivial, ?_⟩
    rw [List.drop_length] at hf
    unfold sFor at hf
    have e6 : Rs.nx ρ2 S2 = r := Option.some.inj hf
    subst e6
    exact k σ2 H2 mu2 (n1.trans n2)⟩
theorem ds_while {c : Expr} {t : XT} (hp : PassesOwn (model X.prog X.w) X.A X.env X.xe) (hc : DXT X c t) (hb : DSs X body b) : DS X (.While c body [] pos) (sWhile t b) := ⟨PS.imp (ps_while hp hc.pt hb.ps) fun D σ H q => by
  obtain ⟨g, ρ, S, r, ok, e, k⟩ := q
  obtain ⟨n, e⟩ := sWhile_some e
  refine ⟨fun m σ2 H2 => ∃ mu2 ρ2 S2, Nxt X.K X.mg g ρ σ H mu2 ρ2 S2 σ2 H2 ∧ sWhileN t b m ρ2 S2 = some r, ⟨n, g.mu, ρ, S, .refl ok, e⟩, ?_⟩
  rintro m σ2 H2 ⟨mu2, ρ2, S2, n2, hf⟩
  cases m with
  | zero => cases hf
  | succ m =>
    unfold sWhileN at hf
    obtain ⟨r1, e1, hf⟩ := Option.bind_eq_some_iff.mp hf
    refine ⟨⟨g.B, mu2⟩, ρ2, S2, r1, n2.env, e1, fun H3 mu3 n3 => ?_⟩
    dsimp only
    by_cases hb : r1.1 = true
    · rw [if_pos hb] at hf ⊢
      obtain ⟨r5, e5, hf⟩ := Option.bind_eq_some_iff.mp hf
      refine ⟨fun σ4 H4 => ∃ mu2 ρ2 S2, Nxt X.K X.mg g ρ σ H mu2 ρ2 S2 σ4 H4 ∧ sWhileN t b m ρ2 S2 = some r, fun σ' H' h => ⟨m, Nat.lt_succ_self m, h⟩, ⟨g.B, mu3⟩, r1.2.1, r1.2.2, r5, n3.env, e5, ?_⟩
      have n23 := n2.trans n3
      cases r5 with
      | nx ρ' S' => exact fun σ5 H5 mu5 n5 => ⟨mu5, ρ', S', n23.trans n5, hf⟩
      | ct ρ' S' => exact fun σ5 H5 mu5 n5 => ⟨mu5, ρ', S', n23.trans n5, hf⟩
      | bk ρ' S' =>
        have e6 : Rs.nx ρ' S' = r := Option.some.inj hf
        subst e6
        exact fun σ5 H5 mu5 n5 => k σ5 H5 mu5 (n23.trans n5)
      | rt r' S' =>
        have e6 : Rs.rt r' S' = r := Option.some.inj hf
        subst e6
        exact k.after n23
    · rw [if_neg hb] at hf ⊢
      have e6 : Rs.nx r1.2.1 r1.2.2 = r := Option.some.inj hf
      subst e6
      exact k σ2 H3 mu3 (n2.trans n3)⟩
end
end DL
namespace DL
open PySem PySem.Spec PyProof.Rows L2

/-! ### an own list is changed -/
section
variable {K : Frag} {mg : Str → Option Value} {g : Gh} {ρ : En} {S : Sto} {σ : L2.St} {H : Hp}
theorem EnvOk.writeOwn (h : EnvOk K mg g ρ S σ H) {i : Nat} {d : D} {a : Addr} {ys : List V} {es : List D} (e : ρ[i]? = some (Cel.own d)) (es' : σ[i]? = some (some (V.ref a))) (hy : DtA K (Bd g ρ σ) H ys es) :
    Nxt K mg g ρ σ H g.mu (ρ.set i (.own (.list es))) S σ (upd H a (.lst ys)) := by
  have hl : i < ρ.length := (List.getElem?_eq_some_iff.mp e).1
  have oa : OwnA ρ σ a := ⟨i, d, e, es'⟩
  have ba : Bd g ρ σ a := .inr (.inr oa)
  have pr : Pres (Bd g ρ σ) H (upd H a (.lst ys)) := fun b o e n => by
    rw [upd_ne (fun (w : b = a) => n (by rw [w]; exact ba))]; exact e
  have ow : ∀ b, OwnA (ρ.set i (.own (.list es))) σ b ↔ OwnA ρ σ b := fun b => by
    constructor
    · rintro ⟨j, d', e1, e2⟩
      by_cases hj : i = j
      · subst hj; exact ⟨i, d, e, e2⟩
      · rw [List.getElem?_set_ne hj] at e1; exact ⟨j, d', e1, e2⟩
    · rintro ⟨j, d', e1, e2⟩
      by_cases hj : i = j
      · subst hj; exact ⟨i, .list es, List.getElem?_set_self hl, e2⟩
      · exact ⟨j, d', by rw [List.getElem?_set_ne hj]; exact e1, e2⟩
  have bw : ∀ b, Bd g (ρ.set i (.own (.list es))) σ b → Bd g ρ σ b := fun b z => by
    rcases z with z | z | z
    · exact .inl z
    · exact .inr (.inl z)
    · exact .inr (.inr ((ow b).mp z))
  have tr : Tr (Mu g ρ σ) H (Mu g (ρ.set i (.own (.list es))) σ) (upd H a (.lst ys)) := by
    refine ⟨fun b o e n => ?_, fun b z => .inl (z.imp id (ow b).mp), fun b z => ?_⟩
    · rw [upd_ne (fun (w : b = a) => n (by rw [w]; exact .inr oa))]; exact e
    · by_cases hb : b = a
      · exact ⟨_, by rw [hb]; exact upd_same⟩
      · rw [upd_ne hb]; exact z
  refine ⟨⟨by rw [List.length_set]; exact h.len, fun j c s e1 e2 => ?_, fun j k d' e' b e1 e2 e3 e4 => ?_, fun b z => h.sep b ((ow b).mp z), ⟨h.sto.len, h.sto.nod, fun n o b e1 e2 => ?_⟩, fun b z => tr.live b (h.alo b z)⟩, tr, List.prefix_refl _⟩
  · by_cases hj : i = j
    · subst hj
      rw [List.getElem?_set_self hl] at e1
      rw [es'] at e2
      cases e1; cases e2
      exact ⟨a, rfl, ys, es, rfl, upd_same, DtA.tr pr (.sub bw) _ _ hy⟩
    · rw [List.getElem?_set_ne hj] at e1
      have k := h.cel j c s e1 e2
      cases c with
      | no => trivial
      | val d => obtain ⟨v, e, r⟩ := k; exact ⟨v, e, Dt.tr pr (.sub bw) _ _ r⟩
      | own d' =>
        obtain ⟨b, e3, xs, ds, e4, e5, r⟩ := k
        subst e3
        have nb : b ≠ a := fun w => hj (h.inj i j d d' a e e1 es' (w ▸ e2))
        exact ⟨b, rfl, xs, ds, e4, by rw [upd_ne nb]; exact e5, DtA.tr pr (.sub bw) _ _ r⟩
      | bor d' =>
        obtain ⟨v, e3, r⟩ := k
        refine ⟨v, e3, ?_⟩
        cases r with
        | of r => exact .of (Dt.tr pr (.sub bw) _ _ r)
        | lst r n t =>
          refine .lst (rd_pres r tr.pres n) (fun z => n (z.imp id (ow _).mp)) (DtA.tr pr (.sub bw) _ _ t)
      | ref n => exact k
  · have f1 : ∃ d1, ρ[j]? = some (Cel.own d1) := by
      by_cases hj : i = j
      · subst hj; exact ⟨d, e⟩
      · rw [List.getElem?_set_ne hj] at e1; exact ⟨_, e1⟩
    have f2 : ∃ d1, ρ[k]? = some (Cel.own d1) := by
      by_cases hj : i = k
      · subst hj; exact ⟨d, e⟩
      · rw [List.getElem?_set_ne hj] at e2; exact ⟨_, e2⟩
    obtain ⟨d1, f1⟩ := f1
    obtain ⟨d2, f2⟩ := f2
    exact h.inj j k d1 d2 b f1 f2 e3 e4
  · refine (h.sto.obj n o b e1 e2).tr (fun u q => ?_) pr (.sub bw) (List.prefix_refl _)
    rw [upd_ne (fun (w : b = a) => (h.sep a oa).1 (by rw [← w]; exact List.mem_of_getElem? e2))]
    exact q
/-- an own slot, opened -/
theorem EnvOk.own_at (h : EnvOk K mg g ρ S σ H) {i : Nat} {d : D} (e : ρ[i]? = some (Cel.own d)) : ∃ a xs ds, d = .list ds ∧ σ[i]? = some (some (V.ref a)) ∧ H a = some (.lst xs) ∧ DtA K (Bd g ρ σ) H xs ds := by
  obtain ⟨s, e2, a, e3, xs, ds, rfl, e4, r⟩ := h.slot e
  subst e3
  exact ⟨a, xs, ds, rfl, e2, e4, r⟩
end
section
variable {X : Cx} {x : Str} {p apos cpos pos : Pos} {e e2 : Expr} {f f2 : XF}
/-- the slot's list -/
def ownL (ρ : En) (i : Nat) : Option (List D) := match ρ[i]? with
  | some (.own (.list ds)) => some ds
  | _ => none
theorem ownL_some {ρ : En} {i : Nat} {ds : List D} (h : ownL ρ i = some ds) : ρ[i]? = some (Cel.own (.list ds)) := by
  unfold ownL at h
  split at h
  · rename_i d e
    cases h
    exact e
  · cases h
/-- x.append(e), as an expression -/
def xApp (i : Nat) (f : XF) : XF := fun ρ S => (ownL ρ i).bind fun _ => (f ρ S).bind fun r => (datOf r.1).bind fun d => (ownL r.2.1 i).bind fun ds => if ds.length < sizeLine then some (.dat .none, r.2.1.set i (.own (.list (ds ++ [d]))), r.2.2) else none
/-- the value of an own slot stays the same address over an expression -/
theorem own_addr {g : Gh} {ρ : En} {S : Sto} {σ : L2.St} {H : Hp} {K : Frag} {mg : Str → Option Value} (h : EnvOk K mg g ρ S σ H) {i : Nat} {ds : List D} (e : ownL ρ i = some ds) : ∃ a xs, σ[i]? = some (some (V.ref a)) ∧ H a = some (.lst xs) ∧ DtA K (Bd g ρ σ) H xs ds := by
  obtain ⟨a, xs, ds', e1, e2, e3, r⟩ := h.own_at (ownL_some e)
  cases e1
  exact ⟨a, xs, e2, e3, r⟩
theorem dx_app (i : Nat) (h : DX X e f) (hN : X.N[i]? = some x := by rfl) (hv : Vis X.env.scope x := by first | exact Or.inl rfl | exact Or.inr (Or.inl rfl) | exact Or.inr (Or.inr rfl)) (hd : (x == ("__debug__" : Str)) = false := by decide) (hcd : (x == ("__classdict__" : Str)) = false := by decide)
    (hbase : attributeBase (.Name x p) "append" X.env (eval (.Name x p) X.env) = eval (.Name x p) X.env := by rfl)
    (hfew : ((backTo cpos (starEach [e] X.env)).all (fun x => !x.1) && (backToKw cpos (keywordEach [] X.env)).all (fun x => x.1.isSome)
      && decide (([e] : List Expr).length + ([] : List Keyword).length + (if ([] : List Keyword).isEmpty then 0 else 1) < 30)) = true := by rfl)
    (hline : (apos.endLine == cpos.line) = true := by rfl) (hs : starEach [e] X.env = (false, eval e X.env) :: starEach [] X.env := by rfl) :
    DX X (.Call (.Attribute (.Name x p) "append" apos) [e] [] cpos) (xApp i f) := ⟨PE.imp (pe_bm PySem.F.plainAttrs_list PySem.F.slot_list_append PySem.F.type_list_append mt_append (pe_var hN hv hd hcd) (pa_cons h.pe pa_nil hs) hbase hfew hline hs (by rfl)) fun σ H Q q => by
  obtain ⟨g, ρ, S, r, ok, e, q⟩ := q
  obtain ⟨ds0, e0, e⟩ := Option.bind_eq_some_iff.mp e
  obtain ⟨r1, e1, e⟩ := Option.bind_eq_some_iff.mp e
  obtain ⟨d, e2, e⟩ := Option.bind_eq_some_iff.mp e
  obtain ⟨ds, e3, e⟩ := Option.bind_eq_some_iff.mp e
  split at e
  case isFalse => cases e
  rename_i hz
  cases e
  obtain ⟨a, xs, s1, h1, t1⟩ := own_addr ok e0
  refine ⟨.ref a, s1, .inl ⟨rfl, _, SqL.of h1⟩, g, ρ, S, r1, ok, e1, fun v H1 mu1 n1 v1 => ?_⟩
  obtain ⟨a', ys, s2, h2, t2⟩ := own_addr n1.env e3
  rw [s1] at s2
  cases s2
  rw [datOf_some e2] at v1
  refine ⟨a, ys, v, rfl, rfl, h2, by rw [t2.length]; exact hz, ?_⟩
  have n2 := n1.env.writeOwn (ownL_some e3) s1 (t2.app (.cons v1 .nil))
  exact q _ _ mu1 (n1.trans n2) Dt.non⟩
/-- x[i] = e -/
def sSetIx (i : Nat) (fi fv : XF) : SF := fun ρ S => (fv ρ S).bind fun r => (datOf r.1).bind fun d => (ownL r.2.1 i).bind fun _ => (fi r.2.1 r.2.2).bind fun q => (datOf q.1).bind fun j => (intD j).bind fun j => (ownL q.2.1 i).bind fun ds => (ixN ds.length j).map fun k =>
  .nx (q.2.1.set i (.own (.list (ds.set k d)))) q.2.2
theorem intD_some {d : D} {i : Int} (h : intD d = some i) : d = .int i := by
  unfold intD at h
  split at h
  · cases h; rfl
  · cases h
theorem ds_setIx (i : Nat) {tpos : Pos} (hv : DX X e2 f2) (hi : DX X e f) (hN : X.N[i]? = some x := by rfl) (hvs : Vis X.env.scope x := by first | exact Or.inl rfl | exact Or.inr (Or.inl rfl) | exact Or.inr (Or.inr rfl)) (hd : (x == ("__debug__" : Str)) = false := by decide) (hcd : (x == ("__classdict__" : Str)) = false := by decide)
    (hs : swapsWithSole [.Subscript (.Name x p) e tpos] e2 pos.line X.env = pure false := by rfl) (hw : swappedStores [.Subscript (.Name x p) e tpos] e2 X.env = pure none := by rfl)
    (h1 : (assignEach [.Subscript (.Name x p) e tpos] X.env).map (·.2) = [assign (.Subscript (.Name x p) e tpos) X.env] := by rfl)
    (ha : ∀ v, assign (.Subscript (.Name x p) e tpos) X.env v = (do
      let ov ← holding [v] (eval (.Name x p) X.env)
      let iv ← holding [v, ov] (eval e X.env)
      standAt tpos
      holding [v, ov, iv] (setItem ov iv v)
      release [v, ov, iv] []) := by intro _; rfl) : DS X (.Assign [.Subscript (.Name x p) e tpos] e2 pos) (sSetIx i f f2) := ⟨PS.imp (ps_asg hv.pe (pg_sub (pe_var hN hvs hd hcd) hi.pe set_list ha) hs hw h1) fun D σ H q => by
  obtain ⟨g, ρ, S, r, ok, e, q⟩ := q
  obtain ⟨r1, e1, e⟩ := Option.bind_eq_some_iff.mp e
  obtain ⟨d, e2, e⟩ := Option.bind_eq_some_iff.mp e
  obtain ⟨ds0, e3, e⟩ := Option.bind_eq_some_iff.mp e
  obtain ⟨r2, e4, e⟩ := Option.bind_eq_some_iff.mp e
  obtain ⟨j0, e5, e⟩ := Option.bind_eq_some_iff.mp e
  obtain ⟨j, e6, e⟩ := Option.bind_eq_some_iff.mp e
  obtain ⟨ds, e7, e⟩ := Option.bind_eq_some_iff.mp e
  obtain ⟨k, e8, rfl⟩ := Option.map_eq_some_iff.mp e
  refine ⟨g, ρ, S, r1, ok, e1, fun v H1 mu1 n1 v1 => ?_⟩
  rw [datOf_some e2] at v1
  obtain ⟨a, xs, s1, h1, t1⟩ := own_addr n1.env e3
  refine ⟨.ref a, s1, ⟨g.B, mu1⟩, r1.2.1, r1.2.2, r2, n1.env, e4, fun w H2 mu2 n2 v2 => ?_⟩
  obtain ⟨a', ys, s2, h2, t2⟩ := own_addr n2.env e7
  rw [s1] at s2
  cases s2
  rw [datOf_some e5, intD_some e6] at v2
  cases v2
  refine ⟨a, ys, j, k, rfl, rfl, h2, by rw [t2.length]; exact e8, ?_⟩
  have n3 := n2.env.writeOwn (ownL_some e7) s1 (t2.set k (n2.dt v1))
  exact q σ _ mu2 (n1.trans (n2.trans n3))⟩
/-- x[i] += e, by an operation on data -/
def IpD (X : Cx) (op : Operator) (F : D → D → Option D) : Prop :=
  ∃ r : TIp, PIp X op r ∧ ∀ (bad : Addr → Prop) (H : Hp) (x y : V) (d e z : D) (Q : VK), (∀ b, bad b → ∃ o, H b = some o) → Bo X.K bad H x d → Bo X.K bad H y e → F d e = some z → (∀ v H', Same H H' → Dt X.K bad H' v z → Q v H') → r x y H Q
def iaddD : D → D → Option D
  | .int i, .int j => some (.int (i + j))
  | _, _ => none
def isubD : D → D → Option D
  | .int i, .int j => some (.int (i - j))
  | _, _ => none
theorem id_add : IpD X .Add iaddD := by
  refine ⟨_, ip_add, fun bad H x y d e z Q al hx hy h q => ?_⟩
  unfold iaddD at h
  split at h
  · cases h
    cases hx.int; cases hy.int
    exact ⟨_, _, rfl, rfl, q _ H (Same.refl H) (.int _)⟩
  · cases h
theorem id_sub : IpD X .Sub isubD := by
  refine ⟨_, ip_sub, fun bad H x y d e z Q al hx hy h q => ?_⟩
  unfold isubD at h
  split at h
  · cases h
    cases hx.int; cases hy.int
    exact ⟨_, _, rfl, rfl, q _ H (Same.refl H) (.int _)⟩
  · cases h
/-- x op= e -/
def sAug (i : Nat) (F : D → D → Option D) (f : XF) : SF := fun ρ S => (eVar i ρ S).bind fun d => (f ρ S).bind fun r => (datOf r.1).bind fun e => (F d e).map fun z => .nx (r.2.1.set i (.val z)) r.2.2
theorem ds_aug (i : Nat) {op : Operator} {F : D → D → Option D} {pos' : Pos} (hN : X.N.Nodup) (ho : IpD X op F) (he : DX X e f) (hi : X.N[i]? = some x := by rfl) (hx : Loc X.env.scope x := by first | exact Or.inl rfl | exact Or.inr rfl) (hf : X.fn x = true ∨ X.env.scope.names.lookup x = some .local := by first | exact .inl rfl | exact .inr rfl) :
    DS X (.AugAssign (.Name x pos') op e pos) (sAug i F f) := by
  obtain ⟨rr, h1, h2⟩ := ho
  exact ⟨PS.imp (ps_aug hN hi hx he.pe h1 hf) fun D σ H q => by
    obtain ⟨g, ρ, S, r, ok, e, q⟩ := q
    obtain ⟨d, e1, e⟩ := Option.bind_eq_some_iff.mp e
    obtain ⟨r1, e2, e⟩ := Option.bind_eq_some_iff.mp e
    obtain ⟨d2, e3, e⟩ := Option.bind_eq_some_iff.mp e
    obtain ⟨z, e4, rfl⟩ := Option.map_eq_some_iff.mp e
    unfold eVar at e1
    split at e1
    · rename_i d' e5
      cases e1
      obtain ⟨s, e6, v, e7, r⟩ := ok.slot e5
      subst e7
      refine ⟨v, e6, g, ρ, S, r1, ok, e2, fun w H1 mu1 n1 v1 => ?_⟩
      rw [datOf_some e3] at v1
      refine h2 (Bd ⟨g.B, mu1⟩ r1.2.1 σ) H1 v w _ _ z _ (fun b hb => n1.env.bad_some hb) (.of (n1.dt r)) (.of v1) e4 fun u H2 s2 r2 => ?_
      exact q _ H2 mu1 (set_fin (r := .dat z) (n1.trans (.same n1.env s2)) r2)
    · cases e1⟩
theorem get_listP : PGet X (rIxL X.K) := by
  intro pins s σ H x y v u Q I rx ry h
  obtain ⟨p, xs, i, z, rfl, rfl, hq, he, q⟩ := h
  cases rx
  obtain ⟨t, rfl⟩ := ry
  obtain ⟨its, r, pl, hz⟩ := I.list hq
  obtain ⟨j, h1, h2, h3, h4, h5⟩ := atI_get he
  obtain ⟨w, ew, rw'⟩ := r.get h2
  have hl := r.length
  have hn := line63
  have fin : EP X pins σ Q w s := ⟨z, H, I, rw', q⟩
  by_cases h0 : 0 ≤ i
  · have hj : i.toNat = j := by
      rw [seqIndex_of h0 h5] at h1
      exact Option.some.inj h1
    exact wpAny_getItem_list pl.isList h0 (by omega) (by rw [hj]; simpa using ew) fin
  · have hj : (i + (its.toArray.size : Int)).toNat = j := by
      rw [seqIndex_neg (by omega) h4] at h1
      rw [List.size_toArray, ← hl]
      exact Option.some.inj h1
    exact wpAny_getItem_list_neg pl.isList (by omega) (by rw [List.size_toArray] <;> omega) (by omega) (by rw [hj]; simpa using ew) fin
def sAugIx (i : Nat) (F : D → D → Option D) (fi fv : XF) : SF := fun ρ S => (ownL ρ i).bind fun _ => (fi ρ S).bind fun q => (datOf q.1).bind fun j => (intD j).bind fun j => (ownL q.2.1 i).bind fun ds0 => (atI ds0 j).bind fun d0 => (fv q.2.1 q.2.2).bind fun r => (datOf r.1).bind fun d =>
  (F d0 d).bind fun z => (ownL r.2.1 i).bind fun ds => (ixN ds.length j).map fun k => .nx (r.2.1.set i (.own (.list (ds.set k z)))) r.2.2
theorem ds_augIx (i : Nat) {op : Operator} {F : D → D → Option D} {tpos : Pos} (ho : IpD X op F) (hv : DX X e2 f2) (hi : DX X e f) (hN : X.N[i]? = some x := by rfl) (hvs : Vis X.env.scope x := by first | exact Or.inl rfl | exact Or.inr (Or.inl rfl) | exact Or.inr (Or.inr rfl)) (hd : (x == ("__debug__" : Str)) = false := by decide) (hcd : (x == ("__classdict__" : Str)) = false := by decide)
    (ha : ∀ ov iv new, augStore e ov iv new = (do holding [new, ov, iv] (setItem ov iv new); release [new, ov, iv] []; pure .next) := by intros; rfl) : DS X (.AugAssign (.Subscript (.Name x p) e tpos) op e2 pos) (sAugIx i F f f2) := by
  obtain ⟨rr, h1, h2⟩ := ho
  exact ⟨PS.imp (ps_augS (pe_var hN hvs hd hcd) hi.pe get_listP hv.pe h1 set_list ha) fun D σ H q => by
    obtain ⟨g, ρ, S, r, ok, e, q⟩ := q
    obtain ⟨ds1, e1, e⟩ := Option.bind_eq_some_iff.mp e
    obtain ⟨r1, e2, e⟩ := Option.bind_eq_some_iff.mp e
    obtain ⟨j0, e3, e⟩ := Option.bind_eq_some_iff.mp e
    obtain ⟨j, e4, e⟩ := Option.bind_eq_some_iff.mp e
    obtain ⟨ds0, e5, e⟩ := Option.bind_eq_some_iff.mp e
    obtain ⟨d0, e6, e⟩ := Option.bind_eq_some_iff.mp e
    obtain ⟨r2, e7, e⟩ := Option.bind_eq_some_iff.mp e
    obtain ⟨d, e8, e⟩ := Option.bind_eq_some_iff.mp e
    obtain ⟨z, e9, e⟩ := Option.bind_eq_some_iff.mp e
    obtain ⟨ds, e10, e⟩ := Option.bind_eq_some_iff.mp e
    obtain ⟨k, e11, rfl⟩ := Option.map_eq_some_iff.mp e
    obtain ⟨a, xs, s1, h1, t1⟩ := own_addr ok e1
    refine ⟨.ref a, s1, g, ρ, S, r1, ok, e2, fun w H1 mu1 n1 v1 => ?_⟩
    rw [datOf_some e3, intD_some e4] at v1
    have v1' : w = .int j := by cases v1; rfl
    subst v1'
    obtain ⟨a', ys, s2, h3, t2⟩ := own_addr n1.env e5
    rw [s1] at s2
    cases s2
    obtain ⟨v0, e12, r0⟩ := t2.atI e6
    refine ⟨a, ys, j, v0, rfl, rfl, SqL.of h3, e12, ⟨g.B, mu1⟩, r1.2.1, r1.2.2, r2, n1.env, e7, fun u H2 mu2 n2 v2 => ?_⟩
    rw [datOf_some e8] at v2
    refine h2 (Bd ⟨g.B, mu2⟩ r2.2.1 σ) H2 v0 u _ _ z _ (fun b hb => n2.env.bad_some hb) (.of (n2.dt r0)) (.of v2) e9 fun u3 H3 s3 r3 => ?_
    have ok3 := n2.env.same s3
    obtain ⟨a3, zs, s4, h4, t4⟩ := own_addr ok3 e10
    rw [s1] at s4
    cases s4
    refine ⟨a, zs, j, k, rfl, rfl, h4, by rw [t4.length]; exact e11, ?_⟩
    have n3 := ok3.writeOwn (ownL_some e10) s1 (t4.set k r3)
    exact q σ _ mu2 (n1.trans (n2.trans ((Nxt.same n2.env s3).trans n3)))⟩
end
end DL
namespace DL
open PySem PySem.Spec PyProof.Rows L2

/-! ### room, with no guard set (repr needs it) -/
structure RoomG (k : Nat) (A : Around) : Prop where
  rm : Room k A
  gd : A.guards = some []
theorem RoomG.mono {j k : Nat} {A : Around} (r : RoomG k A) (h : j ≤ k) : RoomG j A := ⟨r.rm.mono h, r.gd⟩
theorem RoomG.deeper {k : Nat} {A : Around} (r : RoomG (k + 1) A) (env : Env) : RoomG k (A.deeper env) := ⟨r.rm.deeper env, r.gd⟩
theorem RoomG.make {k : Nat} {A : Around} (r : RoomG (k + 1) A) (C : Addr) (us : List Value) (kw : List (Str × Value)) : RoomG k (A.under (.builtin "type.__call__" ⟨.ref C :: us, kw⟩)) :=
  ⟨r.rm.make C us kw, by have := r.gd; first | exact this | (simpa [Around.under, Code.isGuard, guardIds] using this)⟩
/-- a def's promise, at a place with room -/
structure FnG (P : Program) (w : World) (K : PySem.W.Frag) (mg : Str → Option Value) (base : Heap) (CX : CXT) (k : Nat) (f : Addr) (fd : FuncData) (ps : List Str) (sp : Sp) : Prop where
  len : ∀ vs H Q E, sp vs H Q E → vs.length = ps.length
  run : ∀ (A : Around) (outer : List Env) (s : Shared) (H : Hp) (args : Args) (us : List Value) (vs : List V) (Q : VK) (E : XK), RoomG k A → Env0 P w K mg base A outer s H → BindsTo s fd args (ps.zip us) → Vals vs us → sp vs H Q E →
    codeAny (model P w) A (.call (.ref f) args) (CR CX outer P w H s Q E) s
theorem FnG.mono {P : Program} {w : World} {K : PySem.W.Frag} {mg : Str → Option Value} {base : Heap} {CX : CXT} {j k : Nat} {f : Addr} {fd : FuncData} {ps : List Str} {sp : Sp} (F : FnG P w K mg base CX j f fd ps sp) (h : j ≤ k) :
    FnG P w K mg base CX k f fd ps sp := ⟨F.len, fun A outer s H args us vs Q E hr => F.run A outer s H args us vs Q E (hr.mono h)⟩
theorem FnG.imp {P : Program} {w : World} {K : PySem.W.Frag} {mg : Str → Option Value} {base : Heap} {CX : CXT} {k : Nat} {f : Addr} {fd : FuncData} {ps : List Str} {sp sp' : Sp} (F : FnG P w K mg base CX k f fd ps sp)
    (h : ∀ vs H Q E, sp' vs H Q E → sp vs H Q E) : FnG P w K mg base CX k f fd ps sp' :=
  ⟨fun vs H Q E q => F.len vs H Q E (h _ _ _ _ q), fun A outer s H args us vs Q E hr he hb hv hs => F.run A outer s H args us vs Q E hr he hb hv (h _ _ _ _ hs)⟩
section
variable {X : Cx} {CX : CXT} {k : Nat} {f C : Addr} {fd : FuncData} {ps : List Str} {sp : Sp} {dvs : List V} {ds : List Value} {E : XK} {x m : Str} {p pos apos : Pos} {e o : Expr} {es : List Expr} {ta : TE} {t : TA}
theorem runG {pins : List (Addr × Obj)} {σ : L2.St} {H : Hp} {s : Shared} {Q : VK} {us : List Value} {vs : List V} (F : FnG X.prog X.w X.K X.mg X.base CX k f fd ps sp) (hr : RoomG k X.A) (hb : Binds X.K fd ps ds) (hd : Vals dvs ds) (hx : Passes CX X E)
    (I : Inv X pins σ H s) (r : Vals vs us) (h : sp (vs ++ dvs) H Q E) : wpAny (model X.prog X.w) X.A (call (.ref f) us) (EP X pins σ Q) X.xe s := by
  have r2 : Vals (vs ++ dvs) (us ++ ds) := r.append hd
  have hl : (us ++ ds).length = ps.length := by rw [← r2.length]; exact F.len _ _ _ _ h
  refine wpAny_call (codeAny_mono (F.run X.A X.stack s H ⟨us, []⟩ (us ++ ds) (vs ++ dvs) Q E hr I.env0 (hb s us I.kIn hl) r2 h) fun r s' hq => ?_)
  match r, hq with
  | .error e, hq => exact hx pins σ H s e s' I hq
  | .ok (.ret u), hq => exact I.after hq
theorem peG_call (F : FnG X.prog X.w X.K X.mg X.base CX k f fd ps sp) (hr : RoomG k X.A) (hg : Gl X x) (hm : X.mg x = some (.ref f)) (hk : PySem.W.keepIn X.K (.ref f) = true) (hb : Binds X.K fd ps ds) (hd : Vals dvs ds) (hx : Passes CX X E)
    (ha : PA X (e :: es) t) (hdb : (x == ("__debug__" : Str)) = false := by decide) (he : starEach (e :: es) X.env = (false, eval e X.env) :: starEach es X.env := by rfl) (hpl : (backTo pos (starEach es X.env)).any (·.1) = false := by rfl) :
    PE X (.Call (.Name x p) (e :: es) [] pos) (tCall sp dvs E t) :=
  ⟨fun pins s σ H Q I h => wpAny_Call_Name_kw (ld_glob I hg hm (PySem.W.callWith_K (h₀ := X.base) I.ok.mod.kin hk (thn (ha.run pos pins s σ H _ I h) fun us s1 ⟨vs, H1, I1, r, q⟩ => ⟨I1.kIn, runG F hr hb hd hx I1 r q⟩) he hpl) hdb)⟩
theorem peG_call0 (F : FnG X.prog X.w X.K X.mg X.base CX k f fd ps sp) (hr : RoomG k X.A) (hg : Gl X x) (hm : X.mg x = some (.ref f)) (hk : PySem.W.keepIn X.K (.ref f) = true) (hb : Binds X.K fd ps ds) (hd : Vals dvs ds) (hx : Passes CX X E)
    (hdb : (x == ("__debug__" : Str)) = false := by decide) : PE X (.Call (.Name x p) [] [] pos) (tCall sp dvs E tNil) :=
  ⟨fun pins s σ H Q I h => wpAny_Call_Name_kw (ld_glob I hg hm (PySem.W.callWith_K0 I.kIn hk (runG (us := []) F hr hb hd hx I .nil h)) hdb)⟩
theorem peG_meth {pl : Sem Bool} (he : PE X o ta) (c : Cls X.K C) (hm : Meth X.K C m f) (F : FnG X.prog X.w X.K X.mg X.base CX k f fd ps sp) (hr : RoomG k X.A) (hb : Binds X.K fd ps ds) (hd : Vals dvs ds) (hx : Passes CX X E) (ha : PA X (e :: es) t)
    (hst : starEach (e :: es) X.env = (false, eval e X.env) :: starEach es X.env := by rfl) (hpl : (backTo pos (starEach es X.env)).any (·.1) = false := by rfl)
    (ht : eval (.Call (.Attribute o m apos) (e :: es) [] pos) X.env = (do
      let ov ← eval o X.env
      standAt apos.atName
      let (f, first) ← holding [ov] (getMethod ov m pl)
      callWith pos f first (backTo pos (starEach (e :: es) X.env)) (backToKw pos (keywordEach [] X.env))) := by rfl) :
    PE X (.Call (.Attribute o m apos) (e :: es) [] pos) (tMeth C m sp dvs E ta t) := by
  refine ⟨fun pins s σ H Q I h => PySem.W.methodCall_KW (pl := pl) (thn (he.run pins s σ H _ I h) fun u s1 ⟨x, H1, I1, rx, a, dx, fs, ex, ea, l, q⟩ => ?_) ht⟩
  subst ex
  obtain rfl : u = Value.ref a := rx
  exact getmeth_ok I1 ea c hm l (PySem.W.callWith_K (first := [.ref a]) (h₀ := X.base) I.ok.mod.kin hm.kp (thn (ha.run pos pins s1 σ H1 _ I1 q) fun us s2 ⟨vs, H2, I2, r, q2⟩ =>
    ⟨I2.kIn, runG (us := .ref a :: us) (vs := .ref a :: vs) F hr hb hd hx I2 (.cons rfl r) q2⟩) hst hpl)
theorem peG_meth0 {pl : Sem Bool} (he : PE X o ta) (c : Cls X.K C) (hm : Meth X.K C m f) (F : FnG X.prog X.w X.K X.mg X.base CX k f fd ps sp) (hr : RoomG k X.A) (hb : Binds X.K fd ps ds) (hd : Vals dvs ds) (hx : Passes CX X E)
    (ht : eval (.Call (.Attribute o m apos) [] [] pos) X.env = (do
      let ov ← eval o X.env
      standAt apos.atName
      let (f, first) ← holding [ov] (getMethod ov m pl)
      callWith pos f first (backTo pos (starEach [] X.env)) (backToKw pos (keywordEach [] X.env))) := by rfl) :
    PE X (.Call (.Attribute o m apos) [] [] pos) (tMeth C m sp dvs E ta tNil) := by
  refine ⟨fun pins s σ H Q I h => PySem.W.methodCall_KW (pl := pl) (thn (he.run pins s σ H _ I h) fun u s1 ⟨x, H1, I1, rx, a, dx, fs, ex, ea, l, q⟩ => ?_) ht⟩
  subst ex
  obtain rfl : u = Value.ref a := rx
  exact getmeth_ok I1 ea c hm l (PySem.W.callWith_K0 (first := [.ref a]) I1.kIn hm.kp (runG (us := [.ref a]) (vs := [.ref a]) F hr hb hd hx I1 (.cons rfl .nil) q))
theorem runG_make {pins : List (Addr × Obj)} {σ : L2.St} {H : Hp} {s : Shared} {Q : VK} {us : List Value} {vs : List V} (M : Mk X.K C f) (F : FnG X.prog X.w X.K X.mg X.base CX k f fd ps sp) (hr : RoomG (k + 1) X.A) (hb : Binds X.K fd ps ds) (hd : Vals dvs ds)
    (hx : Passes CX X E) (I : Inv X pins σ H s) (r : Vals vs us)
    (h : ∀ x dx, H x = none → H dx = none → dx ≠ x → sp (.ref x :: (vs ++ dvs)) (upd (upd H dx (.own x)) x (.ins C dx [])) (fun v H2 => v = .non ∧ Q (.ref x) H2) E) :
    wpAny (model X.prog X.w) X.A (call (.ref C) us) (EP X pins σ Q) X.xe s := by
  have n0 := I.hok.fresh (Nat.le_refl s.heap.objs.size)
  have n1 := I.hok.fresh (Nat.le_succ s.heap.objs.size)
  have hq := h _ _ n1 n0 (Nat.ne_of_lt (Nat.lt_succ_self _))
  have J := Inv.made (C := C) I
  have r2 : Vals (V.ref (s.heap.objs.size + 1) :: (vs ++ dvs)) (Value.ref (s.heap.objs.size + 1) :: (us ++ ds)) := .cons rfl (r.append hd)
  have hl : (Value.ref (s.heap.objs.size + 1) :: us ++ ds).length = ps.length := r2.length.symm.trans (F.len _ _ _ _ hq)
  have run := F.run _ X.stack _ _ ⟨Value.ref (s.heap.objs.size + 1) :: us, []⟩ _ _ _ E (hr.make C us []) (J.env0.make C us []) (hb _ (Value.ref (s.heap.objs.size + 1) :: us) J.kIn hl) r2 hq
  refine wpAny_call (make_map (f := f) I.kIn M.makes M.init (beq_iff_eq.mp M.fn) (codeAny_mono run fun z s' hz => ?_))
  match z, hz with
  | .error e, hz => exact hx pins σ _ _ e s' J hz
  | .ok (.ret u), hz =>
    obtain ⟨v, H', I3, rv, ev, q3⟩ := J.after hz
    cases ev
    exact ⟨rv, V.ref (s.heap.objs.size + 1), H', I3, rfl, q3⟩
theorem peG_make (M : Mk X.K C f) (F : FnG X.prog X.w X.K X.mg X.base CX k f fd ps sp) (hr : RoomG (k + 1) X.A) (hg : Gl X x) (hm : X.mg x = some (.ref C)) (hb : Binds X.K fd ps ds) (hd : Vals dvs ds) (hx : Passes CX X E)
    (ha : PA X (e :: es) t) (hdb : (x == ("__debug__" : Str)) = false := by decide) (he : starEach (e :: es) X.env = (false, eval e X.env) :: starEach es X.env := by rfl) (hpl : (backTo pos (starEach es X.env)).any (·.1) = false := by rfl) :
    PE X (.Call (.Name x p) (e :: es) [] pos) (tMake C sp dvs E t) :=
  ⟨fun pins s σ H Q I h => wpAny_Call_Name_kw (ld_glob I hg hm (PySem.W.callWith_K (h₀ := X.base) I.ok.mod.kin M.kp (thn (ha.run pos pins s σ H _ I h) fun us s1 ⟨vs, H1, I1, r, q⟩ => ⟨I1.kIn, runG_make M F hr hb hd hx I1 r q⟩) he hpl) hdb)⟩
theorem peG_make0 (M : Mk X.K C f) (F : FnG X.prog X.w X.K X.mg X.base CX k f fd ps sp) (hr : RoomG (k + 1) X.A) (hg : Gl X x) (hm : X.mg x = some (.ref C)) (hb : Binds X.K fd ps ds) (hd : Vals dvs ds) (hx : Passes CX X E)
    (hdb : (x == ("__debug__" : Str)) = false := by decide) : PE X (.Call (.Name x p) [] [] pos) (tMake C sp dvs E tNil) :=
  ⟨fun pins s σ H Q I h => wpAny_Call_Name_kw (ld_glob I hg hm (PySem.W.callWith_K0 I.kIn M.kp (runG_make (us := []) M F hr hb hd hx I .nil h)) hdb)⟩
end
/-- a def of the text, by its body -/
theorem fnG_of {CX : CXT} {P : Program} {w : World} {K : PySem.W.Frag} {mg : Str → Option Value} {base : Heap} {k : Nat} {f : Addr} {name qual : Str} {params : Arguments} {body : List Stmt} {scope : Scope} {dV kV doc pm cdv ct oc : Value} {an od : Option Addr}
    {osl : Array (Option Value)} {N ps : List Str} {sp : Sp} (lk : K.lookup f = some ⟨oc, od, .func (PySem.W.fnOf name qual params body scope dV kV doc pm an cdv ct), osl⟩) (hcd : PySem.W.codeIn K cdv qual = true) (S : FnScope N ps scope)
    (len : ∀ vs H Q E, sp vs H Q E → vs.length = ps.length)
    (hbody : ∀ (A : Around) (outer : List Env) (s : Shared) (H : Hp) (vs : List V) (Q : VK) (E : XK), RoomG k (A.deeper (envOfC qual scope s.heap.objs.size f cdv)) → sp vs H Q E →
      ∃ t, PSs (cxOf CX P w K mg base N qual scope f cdv A outer s H E) body t ∧ t { nx := fun _ H' => Q .non H', rt := Q } (start N vs) H) :
    FnG P w K mg base CX (k + 1) f (PySem.W.fnOf name qual params body scope dV kV doc pm an cdv ct) ps sp := by
  refine ⟨len, fun A outer s H args us vs Q E hr e0 hb r hsp => ?_⟩
  have keep : ∀ b o, base.get? b = some o → s.heap.get? b = some o := fun b o e => (e0.bs b o e).1
  have KX : K.In s.heap := e0.mod.kin.keeps keep
  have lim : s.heap.NoLimit := e0.mod.nolimit.keeps keep
  have hkind : ∀ y ∈ ps.zip us, scope.names.lookup y.1 = some .local ∨ (scope.names.lookup y.1 = some .cell ∧ ((cellsFrom (s.heap.objs.size + 1) scope.names []).lookup y.1).isSome = true) := fun y hy =>
    (S.par y.1 (List.of_mem_zip hy).1).imp id fun q => ⟨q, PySem.W.cellsFrom_some _ _ _ (.inl q)⟩
  refine codeAny_call_function hr.rm.depth (KX _ _ lk) rfl S.co S.gen rfl (PySem.W.codeRec_of KX hcd) (hb _ _ _ _ (wpAny_newFunctionEnv_cells S.kind hkind fun env he s1 x => ?_))
  subst he
  refine ⟨lim.keeps x.toInCall.keep, codeAny_func ?_⟩
  obtain ⟨t, ht, hq⟩ := hbody A outer s H vs Q E (hr.deeper _) hsp
  have I : Inv (cxOf CX P w K mg base N qual scope f cdv A outer s H E) [] (start N vs) H s1 := inv_start S hr.rm.hd e0 (len _ _ _ _ hsp) r x
  refine wpAny_mono (ht.run [] s1 (start N vs) H _ I hq) (fun fl s' hs => ?_) fun e s' hs => hs
  match fl, hs with
  | .ret u, ⟨v, σ', H', J, rv, q⟩ => exact ⟨v, H', J.os, J.bare, J.base, J.hok, rv, q⟩
  | .next, ⟨σ', H', J, q⟩ => exact ⟨.non, H', J.os, J.bare, J.base, J.hok, rfl, q⟩
  | .brk, ⟨_, _, _, q⟩ => exact False.elim q
  | .cont, ⟨_, _, _, q⟩ => exact False.elim q
theorem funG_ok {P : Program} {w : World} {K : PySem.W.Frag} {mg : Str → Option Value} {base : Heap} {x qual : Str} {st : Stmt} {f : Addr} {fd : FuncData} {N ps : List Str} {k : Nat} {sp : Sp} (F : Fun K x qual st f fd) (S : FnScope N ps (defScope st)) (len : ∀ vs H Q E, sp vs H Q E → vs.length = ps.length)
    (hbody : ∀ (cdv : Value) (A : Around) (outer : List Env) (s : Shared) (H : Hp) (vs : List V) (Q : VK) (E : XK), RoomG k (A.deeper (envOfC qual (defScope st) s.heap.objs.size f cdv)) → sp vs H Q E →
      ∃ t, PSs (cxOf CX0 P w K mg base N qual (defScope st) f cdv A outer s H E).nox (defBody st) t ∧ t { nx := fun _ H' => Q .non H', rt := Q } (start N vs) H) : FnG P w K mg base CX0 (k + 1) f fd ps sp := by
  obtain ⟨oc, od, kV, doc, pm, an, cdv, ct, osl, rfl, lk, hcd⟩ := F.ex
  exact fnG_of lk hcd S len fun A outer s H vs Q E hr hsp => (hbody cdv A outer s H vs Q E hr hsp).imp fun t q => ⟨q.1.nox, q.2⟩
/-- at the caller's place, with no frame out there, a promise with room becomes HandS's own promise: only its run at callerA is wanted -/
theorem roomG_caller {k : Nat} (h : Room k callerA) : RoomG k callerA := ⟨h, rfl⟩
end DL
namespace DL
open PySem PySem.Spec PyProof.Rows L2

/-! ### what a def promises -/
def ArgC : Cel → Bool
  | .own _ => false
  | .no => false
  | _ => true
abbrev FF := En → Sto → Option (SV × Sto)
def spD (K : Frag) (mg : Str → Option Value) (n : Nat) (F : FF) : Sp := fun vs H Q _ => ∃ g args S r, args.length = n ∧ (∀ c ∈ args, ArgC c = true) ∧ EnvOk K mg g args S (vs.map some) H ∧ F args S = some r ∧
  ∀ v H' mu', Tr (fun b => b ∈ g.mu) H (fun b => b ∈ mu') H' → g.mu <+: mu' → StoOk K mg (fun b => g.B b ∨ b ∈ mu') mu' r.2 H' → SVk K (fun b => g.B b ∨ b ∈ mu') mu' H' v r.1 → Q v H'
/-- a def's function by its body's -/
def fnF (N : Nat) (t : SF) : FF := fun args S => (t (args ++ List.replicate (N - args.length) .no) S).bind fun r => match r with
  | .rt v S' => some (v, S')
  | .nx _ S' => some (.dat .none, S')
  | _ => none
section
variable {K : Frag} {mg : Str → Option Value} {g : Gh} {ρ : En} {S : Sto} {σ : L2.St} {H : Hp}
theorem arg_own (h : ∀ c ∈ ρ, ArgC c = true) {a : Addr} : ¬ OwnA ρ σ a := fun ⟨i, d, e, _⟩ => by
  have := h _ (List.mem_of_getElem? e)
  cases this
theorem EnvOk.pad (h : EnvOk K mg g ρ S σ H) (ha : ∀ c ∈ ρ, ArgC c = true) (m : Nat) : EnvOk K mg g (ρ ++ List.replicate m .no) S (σ ++ List.replicate m none) H ∧ ∀ a, ¬ OwnA (ρ ++ List.replicate m .no) (σ ++ List.replicate m none) a := by
  have no : ∀ a, ¬ OwnA (ρ ++ List.replicate m .no) (σ ++ List.replicate m none) a := fun a ⟨i, d, e, _⟩ => by
    have := List.mem_of_getElem? e
    rcases List.mem_append.mp this with z | z
    · have := ha _ z; cases this
    · have := (List.mem_replicate.mp z).2; cases this
  have mw : ∀ a, Mu g (ρ ++ List.replicate m .no) (σ ++ List.replicate m none) a → Mu g ρ σ a := fun a z => z.elim .inl fun z => (no a z).elim
  have bw : ∀ a, Bd g (ρ ++ List.replicate m .no) (σ ++ List.replicate m none) a → Bd g ρ σ a := fun a z => z.imp id (mw a)
  refine ⟨⟨by simp [h.len], fun i c s e1 e2 => ?_, fun i j d e a e1 => ?_, fun a z => (no a z).elim, h.sto.weak bw, h.alo⟩, no⟩
  · by_cases hi : i < ρ.length
    · rw [List.getElem?_append_left hi] at e1
      rw [List.getElem?_append_left (by rw [h.len]; exact hi)] at e2
      exact (h.cel i c s e1 e2).weak bw mw
    · rw [List.getElem?_append_right (by omega)] at e1
      have := (List.mem_replicate.mp (List.mem_of_getElem? e1)).2
      subst this
      trivial
  · have := List.mem_of_getElem? e1
    rcases List.mem_append.mp this with z | z
    · have := ha _ z; cases this
    · have := (List.mem_replicate.mp z).2; cases this
end
/-- THE RULE for a def -/
theorem fn_ok {P : Program} {w : World} {K : Frag} {mg : Str → Option Value} {base : Heap} {x qual : Str} {st : Stmt} {f : Addr} {fd : FuncData} {N ps : List Str} {k n m : Nat} {t : SF} (F : Fun K x qual st f fd) (S : FnScope N ps (defScope st))
    (hb : ∀ (cdv : Value) (A : Around) (outer : List Env) (s : Shared) (H : Hp) (E : XK), RoomG k (A.deeper (envOfC qual (defScope st) s.heap.objs.size f cdv)) → DSs (cxOf CX0 P w K mg base N qual (defScope st) f cdv A outer s H E).nox (defBody st) t) (hn : ps.length = n := by rfl) (hm : N.length = m := by rfl) :
    FnG P w K mg base CX0 (k + 1) f fd ps (spD K mg n (fnF m t)) := by
  subst hn hm
  refine funG_ok F S (fun vs H Q E h => ?_) (fun cdv A outer s H vs Q E hr h => ?_)
  · obtain ⟨g, args, S, r, hl, _, ok, _⟩ := h
    have := ok.len
    rw [List.length_map] at this
    omega
  · obtain ⟨g, args, S', r, hl, ha, ok, e, q⟩ := h
    refine ⟨_, (hb cdv A outer s H E hr).ps, ?_⟩
    obtain ⟨ok2, no⟩ := ok.pad ha (N.length - vs.length)
    have hvl : vs.length = args.length := by have := ok.len; rw [List.length_map] at this; exact this
    obtain ⟨r1, e1, e2⟩ := Option.bind_eq_some_iff.mp e
    rw [← hvl] at e1
    have mw : ∀ b, Mu g (args ++ List.replicate (N.length - vs.length) .no) (vs.map some ++ List.replicate (N.length - vs.length) none) b → b ∈ g.mu := fun b z => z.elim id fun z => (no b z).elim
    refine ⟨g, _, S', r1, ok2, e1, ?_⟩
    cases r1 with
    | rt v S2 =>
      cases e2
      exact fun v H' mu' t p s k => q v H' mu' (t.wid mw) p s k
    | nx ρ2 S2 =>
      cases e2
      intro σ' H' mu' nx
      have bw : ∀ b, (g.B b ∨ b ∈ mu') → Bd ⟨g.B, mu'⟩ ρ2 σ' b := fun b z => z.imp id .inl
      exact q .non H' mu' ((nx.tr.wid mw).sub fun b z => .inl z) nx.pre (nx.env.sto.weak bw) Dt.non
    | bk ρ2 S2 => cases e2
    | ct ρ2 S2 => cases e2

/-! ### calls: the arguments -/
inductive AX where
  | ev (f : XF) | bo (i : Nat)
inductive AV where
  | sv (r : SV) | sl (i : Nat)
def eva : List AX → En → Sto → Option (List AV × En × Sto)
  | [], ρ, S => some ([], ρ, S)
  | .ev f :: fs, ρ, S => (f ρ S).bind fun r => (eva fs r.2.1 r.2.2).map fun q => (.sv r.1 :: q.1, q.2.1, q.2.2)
  | .bo i :: fs, ρ, S => (bVar i ρ S).bind fun _ => (eva fs ρ S).map fun q => (.sl i :: q.1, q.2.1, q.2.2)
def AVk (K : Frag) (g : Gh) (ρ : En) (σ : L2.St) (H : Hp) (v : V) : AV → Prop
  | .sv r => SVk K (Bd g ρ σ) g.mu H v r
  | .sl i => σ[i]? = some (some v)
/-- the cells that a callee gets -/
def celA (ρ : En) : AV → Option Cel
  | .sv r => some (celOf r)
  | .sl i => match ρ[i]? with
    | some (.val d) => some (.bor d)
    | some (.own d) => some (.bor d)
    | some (.bor d) => some (.bor d)
    | _ => none
def celsA (ρ : En) : List AV → Option En
  | [] => some []
  | a :: r => (celA ρ a).bind fun c => (celsA ρ r).map (c :: ·)
def tAa (X : Cx) (fs : List AX) : TA := fun σ H Q => ∃ g ρ S r, EnvOk X.K X.mg g ρ S σ H ∧ eva fs ρ S = some r ∧ ∀ vs H' mu', Nxt X.K X.mg g ρ σ H mu' r.2.1 r.2.2 σ H' → Paired (AVk X.K ⟨g.B, mu'⟩ r.2.1 σ H') vs r.1 → Q vs H'
structure DAa (X : Cx) (es : List Expr) (fs : List AX) : Prop where
  pa : PA X es (tAa X fs)
section
variable {X : Cx} {e : Expr} {es : List Expr} {f : XF} {fs : List AX} {pos : Pos} {x : Str}
theorem daa_nil : DAa X [] [] := ⟨PA.imp pa_nil fun σ H Q q => by
  obtain ⟨g, ρ, S, r, ok, e, q⟩ := q
  cases e
  exact q [] H g.mu (.refl ok) .nil⟩
theorem celsA_cons {ρ : En} {a : AV} {r : List AV} {cs : En} (h : celsA ρ (a :: r) = some cs) : ∃ c t, celA ρ a = some c ∧ celsA ρ r = some t ∧ cs = c :: t := by
  obtain ⟨c, e1, h⟩ := Option.bind_eq_some_iff.mp h
  obtain ⟨t, e2, rfl⟩ := Option.map_eq_some_iff.mp h
  exact ⟨c, t, e1, e2, rfl⟩
theorem daa_ev (h : DX X e f) (t : DAa X es fs) (hs : starEach (e :: es) X.env = (false, eval e X.env) :: starEach es X.env := by rfl) : DAa X (e :: es) (.ev f :: fs) := ⟨PA.imp (pa_cons h.pe t.pa hs) fun σ H Q q => by
  obtain ⟨g, ρ, S, r, ok, e, q⟩ := q
  obtain ⟨r1, e1, e⟩ := Option.bind_eq_some_iff.mp e
  obtain ⟨r2, e2, rfl⟩ := Option.map_eq_some_iff.mp e
  refine ⟨g, ρ, S, r1, ok, e1, fun v H1 mu1 n1 v1 => ⟨⟨g.B, mu1⟩, r1.2.1, r1.2.2, r2, n1.env, e2, fun vs H2 mu2 n2 a2 => ?_⟩⟩
  exact q _ H2 mu2 (n1.trans n2) (.cons (n2.sv v1) a2)⟩
theorem bVar_slot {g : Gh} {ρ : En} {S : Sto} {σ : L2.St} {H : Hp} {K : Frag} {mg : Str → Option Value} (ok : EnvOk K mg g ρ S σ H) {i : Nat} {d : D} (h : bVar i ρ S = some d) : ∃ v, σ[i]? = some (some v) := by
  unfold bVar at h
  split at h
  · rename_i d' e1
    obtain ⟨s, e2, v, e3, r⟩ := ok.slot e1
    exact ⟨v, by rw [e2, e3]⟩
  · rename_i d' e1
    obtain ⟨s, e2, v, e3, r⟩ := ok.slot e1
    exact ⟨_, by rw [e2, e3]⟩
  · rename_i d' e1
    obtain ⟨s, e2, v, e3, r⟩ := ok.slot e1
    exact ⟨v, by rw [e2, e3]⟩
  · cases h
theorem daa_bo (i : Nat) (t : DAa X es fs) (hN : X.N[i]? = some x := by rfl) (hv : Vis X.env.scope x := by first | exact Or.inl rfl | exact Or.inr (Or.inl rfl) | exact Or.inr (Or.inr rfl)) (hd : (x == ("__debug__" : Str)) = false := by decide) (hcd : (x == ("__classdict__" : Str)) = false := by decide)
    (hs : starEach (.Name x pos :: es) X.env = (false, eval (.Name x pos) X.env) :: starEach es X.env := by rfl) : DAa X (.Name x pos :: es) (.bo i :: fs) := ⟨PA.imp (pa_cons (pe_var hN hv hd hcd) t.pa hs) fun σ H Q q => by
  obtain ⟨g, ρ, S, r, ok, e, q⟩ := q
  obtain ⟨d, e1, e⟩ := Option.bind_eq_some_iff.mp e
  obtain ⟨r2, e2, rfl⟩ := Option.map_eq_some_iff.mp e
  obtain ⟨v, hv⟩ := bVar_slot ok e1
  exact ⟨v, hv, g, ρ, S, r2, ok, e2, fun vs H2 mu2 n2 a2 => q _ H2 mu2 n2 (.cons hv a2)⟩⟩
/-- the callee's entry -/
theorem cells_ok {g : Gh} {ρ : En} {S S' : Sto} {σ : L2.St} {H : Hp} {K : Frag} {mg : Str → Option Value} (ok : EnvOk K mg g ρ S σ H) {B' : Addr → Prop} {mu' : List Addr} (hB : ∀ b, B' b ∨ b ∈ mu' → Bd g ρ σ b) (hBa : ∀ b, B' b → ∃ o, H b = some o) (hM : ∀ b, b ∈ mu' → b ∈ g.mu)
    (st : StoOk K mg (fun b => B' b ∨ b ∈ mu') mu' S' H) :
    ∀ {vs : List V} {as : List AV} {cs : En}, Paired (AVk K g ρ σ H) vs as → celsA ρ as = some cs → (mu' = g.mu ∨ ∀ a ∈ as, ∀ n, a ≠ .sv (.ref n)) → cs.length = vs.length ∧ (∀ c ∈ cs, ArgC c = true) ∧
      ∀ (i : Nat) (c : Cel) (s : Option V), cs[i]? = some c → (vs.map some)[i]? = some s → CelOk K (fun b => B' b ∨ b ∈ mu') (fun b => b ∈ mu') mu' H c s
  | _, _, _, .nil, h, _ => by
    cases h
    exact ⟨rfl, fun _ z => by simp at z, fun i c s e => by simp at e⟩
  | v :: vs, a :: as, _, .cons r t, h, hn => by
    obtain ⟨c, cs, e1, e2, rfl⟩ := celsA_cons h
    obtain ⟨i1, i2, i3⟩ := cells_ok ok hB hBa hM st t e2 (hn.imp id fun z a ha => z a (List.mem_cons_of_mem _ ha))
    have key : ArgC c = true ∧ CelOk K (fun b => B' b ∨ b ∈ mu') (fun b => b ∈ mu') mu' H c (some v) := by
      cases a with
      | sv r' =>
        cases e1
        cases r' with
        | dat d => exact ⟨rfl, v, rfl, Dt.weak hB r⟩
        | ref n =>
          rcases hn with z | z
          · obtain ⟨a, e3, e4⟩ := r
            exact ⟨rfl, a, by rw [e3], by rw [z]; exact e4⟩
          · exact absurd rfl (z _ List.mem_cons_self n)
      | sl i =>
        have hs : σ[i]? = some (some v) := r
        unfold celA at e1
        dsimp only at e1
        split at e1
        · rename_i d e3
          cases e1
          obtain ⟨s, e4, v', e5, rr⟩ := ok.slot e3
          rw [hs] at e4; cases e4; cases e5
          exact ⟨rfl, v, rfl, .of (rr.weak hB)⟩
        · rename_i d e3
          cases e1
          obtain ⟨s, e4, a, e5, xs, ds, rfl, e6, rr⟩ := ok.slot e3
          rw [hs] at e4; cases e4; cases e5
          exact ⟨rfl, _, rfl, .lst (.inl e6) (fun z => (ok.sep a ⟨i, _, e3, hs⟩).1 (hM _ z)) (rr.weak hB)⟩
        · rename_i d e3
          cases e1
          obtain ⟨s, e4, v', e5, rr⟩ := ok.slot e3
          rw [hs] at e4; cases e4; cases e5
          refine ⟨rfl, v, rfl, ?_⟩
          cases rr with
          | of rr => exact .of (rr.weak hB)
          | lst rr n t => exact .lst rr (fun z => n (.inl (hM _ z))) (t.weak hB)
        · cases e1
    refine ⟨by rw [List.length_cons, List.length_cons, i1], fun c' hc => ?_, fun i c' s e3 e4 => ?_⟩
    · rcases List.mem_cons.mp hc with z | z
      · rw [z]; exact key.1
      · exact i2 c' z
    · cases i with
      | zero =>
        cases e3
        cases e4
        exact key.2
      | succ i => exact i3 i c' s e3 e4
theorem cells_env {g : Gh} {ρ : En} {S S' : Sto} {σ : L2.St} {H : Hp} {K : Frag} {mg : Str → Option Value} (ok : EnvOk K mg g ρ S σ H) {B' : Addr → Prop} {mu' : List Addr} (hB : ∀ b, B' b ∨ b ∈ mu' → Bd g ρ σ b) (hBa : ∀ b, B' b → ∃ o, H b = some o) (hM : ∀ b, b ∈ mu' → b ∈ g.mu)
    (st : StoOk K mg (fun b => B' b ∨ b ∈ mu') mu' S' H) {vs : List V} {as : List AV} {cs : En} (r : Paired (AVk K g ρ σ H) vs as) (h : celsA ρ as = some cs) (hn : mu' = g.mu ∨ ∀ a ∈ as, ∀ n, a ≠ .sv (.ref n)) :
    EnvOk K mg ⟨B', mu'⟩ cs S' (vs.map some) H ∧ (∀ c ∈ cs, ArgC c = true) ∧ cs.length = vs.length := by
  obtain ⟨i1, i2, i3⟩ := cells_ok ok hB hBa hM st r h hn
  have bw : ∀ b, Bd ⟨B', mu'⟩ cs (vs.map some) b → B' b ∨ b ∈ mu' := fun b z => by
    rcases z with z | z | z
    · exact .inl z
    · exact .inr z
    · exact (arg_own i2 z).elim
  have mw : ∀ b, Mu ⟨B', mu'⟩ cs (vs.map some) b → b ∈ mu' := fun b z => z.elim id fun z => (arg_own i2 z).elim
  exact ⟨⟨by rw [List.length_map]; exact i1.symm, fun i c s e1 e2 => (i3 i c s e1 e2).weak bw mw, fun i j d e a e1 => Bool.noConfusion (show false = true from i2 _ (List.mem_of_getElem? e1)), fun a z => (arg_own i2 z).elim, st.weak bw, hBa⟩, i2, i1⟩
/-- a pure def: it gets no object of the store -/
def pureF (F : FF) (cs : En) : Option D := (F cs []).bind fun r => datOf r.1
def noRef (as : List AV) : Bool := as.all fun a => match a with
  | .sv (.ref _) => false
  | _ => true
theorem noRef_ne {as : List AV} (h : noRef as = true) : ∀ a ∈ as, ∀ n, a ≠ .sv (.ref n) := fun a ha n e => by
  have := List.all_eq_true.mp h a ha
  rw [e] at this
  cases this
def xCallP (F : FF) (fs : List AX) : XF := fun ρ S => (eva fs ρ S).bind fun r => (celsA r.2.1 r.1).bind fun cs => if noRef r.1 = true then (pureF F cs).map fun z => (.dat z, r.2.1, r.2.2) else none
/-- a def that gets objects of the store -/
def xCallS (F : FF) (fs : List AX) : XF := fun ρ S => (eva fs ρ S).bind fun r => (celsA r.2.1 r.1).bind fun cs => (F cs r.2.2).map fun q => (q.1, r.2.1, q.2)
theorem spD_pure {F : FF} {fs : List AX} {n : Nat} {σ : L2.St} {H : Hp} {Q : VK} {E : XK} (hn : fs.length = n) : tX X (xCallP F fs) σ H Q → tAa X fs σ H (fun vs H1 => spD X.K X.mg n F (vs ++ []) H1 Q E) := fun q => by
  obtain ⟨g, ρ, S, r, ok, e, q⟩ := q
  obtain ⟨r1, e1, e⟩ := Option.bind_eq_some_iff.mp e
  obtain ⟨cs, e2, e⟩ := Option.bind_eq_some_iff.mp e
  split at e
  case isFalse => cases e
  rename_i hr
  obtain ⟨z, e3, rfl⟩ := Option.map_eq_some_iff.mp e
  obtain ⟨r2, e4, e5⟩ := Option.bind_eq_some_iff.mp e3
  refine ⟨g, ρ, S, r1, ok, e1, fun vs H1 mu1 n1 a1 => ?_⟩
  dsimp only
  rw [List.append_nil]
  have okc := n1.env
  obtain ⟨c1, c2, c3⟩ := cells_env okc (B' := Bd ⟨g.B, mu1⟩ r1.2.1 σ) (mu' := []) (S' := []) (fun b z => z.elim id fun z => by simp at z) (fun b z => okc.bad_some z) (fun b z => by simp at z)
    ⟨rfl, .nil, fun n o a e => by simp at e⟩ a1 e2 (.inr (noRef_ne hr))
  have hl : cs.length = n := by
    rw [c3, ← hn, a1.length]
    have : ∀ (fs : List AX) (ρ : En) (S : Sto) (r : List AV × En × Sto), eva fs ρ S = some r → r.1.length = fs.length := by
      intro fs
      induction fs with
      | nil => intro ρ S r h; cases h; rfl
      | cons f fs ih =>
        intro ρ S r h
        cases f with
        | ev f =>
          obtain ⟨q1, _, h⟩ := Option.bind_eq_some_iff.mp h
          obtain ⟨q2, h2, rfl⟩ := Option.map_eq_some_iff.mp h
          rw [List.length_cons, List.length_cons, ih _ _ _ h2]
        | bo i =>
          obtain ⟨q1, _, h⟩ := Option.bind_eq_some_iff.mp h
          obtain ⟨q2, h2, rfl⟩ := Option.map_eq_some_iff.mp h
          rw [List.length_cons, List.length_cons, ih _ _ _ h2]
    exact this _ _ _ _ e1
  refine ⟨⟨Bd ⟨g.B, mu1⟩ r1.2.1 σ, []⟩, cs, [], r2, hl, c2, c1, e4, fun v H' mu' t p s k => ?_⟩
  have sm : Same H1 H' := fun b o e => t.pres b o e fun z => by simp at z
  rw [datOf_some e5] at k
  exact q v H' mu1 (n1.trans (.same okc sm)) (Dt.weak (fun b z => .inl z) k)
theorem eva_length : ∀ {fs : List AX} {ρ : En} {S : Sto} {r : List AV × En × Sto}, eva fs ρ S = some r → r.1.length = fs.length
  | [], _, _, _, h => by cases h; rfl
  | .ev f :: fs, _, _, _, h => by
    obtain ⟨q1, _, h⟩ := Option.bind_eq_some_iff.mp h
    obtain ⟨q2, h2, rfl⟩ := Option.map_eq_some_iff.mp h
    rw [List.length_cons, List.length_cons, eva_length h2]
  | .bo i :: fs, _, _, _, h => by
    obtain ⟨q1, _, h⟩ := Option.bind_eq_some_iff.mp h
    obtain ⟨q2, h2, rfl⟩ := Option.map_eq_some_iff.mp h
    rw [List.length_cons, List.length_cons, eva_length h2]
/-- behind a call that may have changed the store -/
theorem store_back {g : Gh} {ρ : En} {S S' : Sto} {σ : L2.St} {H H' : Hp} {K : Frag} {mg : Str → Option Value} {mu' : List Addr} {v : V} {r : SV} (ok : EnvOk K mg g ρ S σ H) (t : Tr (fun b => b ∈ g.mu) H (fun b => b ∈ mu') H') (p : g.mu <+: mu')
    (st : StoOk K mg (fun b => (g.B b ∨ OwnA ρ σ b) ∨ b ∈ mu') mu' S' H') (k : SVk K (fun b => (g.B b ∨ OwnA ρ σ b) ∨ b ∈ mu') mu' H' v r) : Nxt K mg g ρ σ H mu' ρ S' σ H' ∧ SVk K (Bd ⟨g.B, mu'⟩ ρ σ) mu' H' v r := by
  refine ⟨ok.stepS t p st, k.tr (.same (Same.refl H')) (.sub fun b z => ?_) (List.prefix_refl _)⟩
  rcases z with z | z | z
  · exact .inl (.inl z)
  · exact .inr z
  · exact .inl (.inr z)
theorem bd_own {g : Gh} {ρ : En} {σ : L2.St} {b : Addr} (z : (g.B b ∨ OwnA ρ σ b) ∨ b ∈ g.mu) : Bd g ρ σ b := by
  rcases z with (z | z) | z
  · exact .inl z
  · exact .inr (.inr z)
  · exact .inr (.inl z)
theorem spD_store {F : FF} {fs : List AX} {n : Nat} {σ : L2.St} {H : Hp} {Q : VK} {E : XK} (hn : fs.length = n) : tX X (xCallS F fs) σ H Q → tAa X fs σ H (fun vs H1 => spD X.K X.mg n F (vs ++ []) H1 Q E) := fun q => by
  obtain ⟨g, ρ, S, r, ok, e, q⟩ := q
  obtain ⟨r1, e1, e⟩ := Option.bind_eq_some_iff.mp e
  obtain ⟨cs, e2, e⟩ := Option.bind_eq_some_iff.mp e
  obtain ⟨r2, e4, rfl⟩ := Option.map_eq_some_iff.mp e
  refine ⟨g, ρ, S, r1, ok, e1, fun vs H1 mu1 n1 a1 => ?_⟩
  dsimp only
  rw [List.append_nil]
  have okc := n1.env
  obtain ⟨c1, c2, c3⟩ := cells_env okc (B' := fun b => g.B b ∨ OwnA r1.2.1 σ b) (mu' := mu1) (S' := r1.2.2) (fun b z => bd_own z) (fun b z => z.elim (okc.alo b) fun z => okc.mu_some (.inr z)) (fun b z => z)
    (okc.sto.weak fun b z => bd_own (g := ⟨g.B, mu1⟩) z) a1 e2 (.inl rfl)
  refine ⟨⟨_, mu1⟩, cs, r1.2.2, r2, by rw [c3, ← hn, a1.length, eva_length e1], c2, c1, e4, fun v H' mu' t p s k => ?_⟩
  obtain ⟨m1, m2⟩ := store_back okc t p s k
  exact q v H' mu' (n1.trans m1) m2
variable {k n : Nat} {fa C : Addr} {fd : FuncData} {ps : List Str} {F : FF} {p apos : Pos} {m c : Str} {o : Expr}
theorem dx_callP (hF : FnG X.prog X.w X.K X.mg X.base CX0 k fa fd ps (spD X.K X.mg n F)) (hr : RoomG k X.A) (hg : Gl X x) (hm : X.mg x = some (.ref fa)) (hk : PySem.W.keepIn X.K (.ref fa) = true) (hb : Binds X.K fd ps []) (ha : DAa X (e :: es) fs)
    (hn : fs.length = n := by rfl) (hdb : (x == ("__debug__" : Str)) = false := by decide) (he : starEach (e :: es) X.env = (false, eval e X.env) :: starEach es X.env := by rfl) (hpl : (backTo pos (starEach es X.env)).any (·.1) = false := by rfl) :
    DX X (.Call (.Name x p) (e :: es) [] pos) (xCallP F fs) := ⟨PE.imp (peG_call hF hr hg hm hk hb .nil pass0 ha.pa hdb he hpl) fun σ H Q q => spD_pure hn q⟩
theorem dx_callS (hF : FnG X.prog X.w X.K X.mg X.base CX0 k fa fd ps (spD X.K X.mg n F)) (hr : RoomG k X.A) (hg : Gl X x) (hm : X.mg x = some (.ref fa)) (hk : PySem.W.keepIn X.K (.ref fa) = true) (hb : Binds X.K fd ps []) (ha : DAa X (e :: es) fs)
    (hn : fs.length = n := by rfl) (hdb : (x == ("__debug__" : Str)) = false := by decide) (he : starEach (e :: es) X.env = (false, eval e X.env) :: starEach es X.env := by rfl) (hpl : (backTo pos (starEach es X.env)).any (·.1) = false := by rfl) :
    DX X (.Call (.Name x p) (e :: es) [] pos) (xCallS F fs) := ⟨PE.imp (peG_call hF hr hg hm hk hb .nil pass0 ha.pa hdb he hpl) fun σ H Q q => spD_store hn q⟩
/-! quiet calls of pure defs -/
/-- the arguments: kept (true) or lent (false) -/
def evm : List (Bool × EF) → En → Sto → Option En
  | [], _, _ => some []
  | (b, f) :: fs, ρ, S => (f ρ S).bind fun d => (evm fs ρ S).map fun cs => (if b then .val d else .bor d) :: cs
def CelV (K : Frag) (bad : Addr → Prop) (H : Hp) (v : V) (c : Cel) : Prop := ArgC c = true ∧ CelOk K bad noM [] H c (some v)
def tAm (X : Cx) (fs : List (Bool × EF)) : TA := fun σ H Q => ∃ g ρ S cs, EnvOk X.K X.mg g ρ S σ H ∧ evm fs ρ S = some cs ∧ ∀ vs H', Same H H' → Paired (CelV X.K (Bd g ρ σ) H') vs cs → Q vs H'
structure DAm (X : Cx) (es : List Expr) (fs : List (Bool × EF)) : Prop where
  pa : PA X es (tAm X fs)
theorem CelV.same {K : Frag} {bad : Addr → Prop} {H H' : Hp} {v : V} {c : Cel} (s : Same H H') (h : CelV K bad H v c) : CelV K bad H' v c := ⟨h.1, h.2.same s⟩
theorem dam_nil : DAm X [] [] := ⟨PA.imp pa_nil fun σ H Q q => by
  obtain ⟨g, ρ, S, r, ok, e, q⟩ := q
  cases e
  exact q [] H (Same.refl H) .nil⟩
theorem dam_cons {l : Bool} {f : EF} {fs : List (Bool × EF)} (h : DQ X l e f) (t : DAm X es fs) (hs : starEach (e :: es) X.env = (false, eval e X.env) :: starEach es X.env := by rfl) : DAm X (e :: es) ((l, f) :: fs) := ⟨PA.imp (pa_cons h.pe t.pa hs) fun σ H Q q => by
  obtain ⟨g, ρ, S, r, ok, e, q⟩ := q
  obtain ⟨d, e1, e⟩ := Option.bind_eq_some_iff.mp e
  obtain ⟨cs, e2, rfl⟩ := Option.map_eq_some_iff.mp e
  refine ⟨g, ρ, S, d, ok, e1, fun v H1 s1 r1 => ⟨g, ρ, S, cs, ok.same s1, e2, fun vs H2 s2 a2 => ?_⟩⟩
  refine q _ H2 (s1.trans s2) (.cons (CelV.same s2 ?_) a2)
  cases l with
  | true => exact ⟨rfl, v, rfl, r1⟩
  | false =>
    refine ⟨rfl, v, rfl, ?_⟩
    cases (show Bo _ _ _ _ _ from r1) with
    | of r => exact .of r
    | lst r t => exact .lst r (fun z => z.elim) t⟩
theorem celv_env {K : Frag} {mg : Str → Option Value} {bad : Addr → Prop} {H : Hp} {vs : List V} {cs : En} (al : ∀ b, bad b → ∃ o, H b = some o) (r : Paired (CelV K bad H) vs cs) : EnvOk K mg ⟨bad, []⟩ cs [] (vs.map some) H ∧ ∀ c ∈ cs, ArgC c = true := by
  have i2 : ∀ {vs : List V} {cs : En}, Paired (CelV K bad H) vs cs → ∀ c ∈ cs, ArgC c = true := by
    intro vs cs r
    induction r with
    | nil => intro c z; simp at z
    | cons h _ ih => intro c z; rcases List.mem_cons.mp z with q | q
                     · rw [q]; exact h.1
                     · exact ih c q
  have i3 : ∀ {vs : List V} {cs : En}, Paired (CelV K bad H) vs cs → ∀ (i : Nat) (c : Cel) (s : Option V), cs[i]? = some c → (vs.map some)[i]? = some s → CelOk K bad noM [] H c s := by
    intro vs cs r
    induction r with
    | nil => intro i c s e; simp at e
    | cons h _ ih =>
      intro i c s e1 e2
      cases i with
      | zero => cases e1; cases e2; exact h.2
      | succ i => exact ih i c s e1 e2
  have a := i2 r
  have bw : ∀ b, Bd ⟨bad, []⟩ cs (vs.map some) b → bad b := fun b z => by
    rcases z with z | z | z
    · exact z
    · simp at z
    · exact (arg_own a z).elim
  have mw : ∀ b, Mu ⟨bad, []⟩ cs (vs.map some) b → noM b := fun b z => by
    rcases z with z | z
    · simp at z
    · exact (arg_own a z).elim
  exact ⟨⟨by rw [List.length_map]; exact r.length, fun i c s e1 e2 => (i3 r i c s e1 e2).weak bw mw, fun i j d e b e1 => Bool.noConfusion (show false = true from a _ (List.mem_of_getElem? e1)), fun b z => (arg_own a z).elim, ⟨rfl, .nil, fun n o b e => by simp at e⟩, al⟩, a⟩
def eCallF (F : FF) (fs : List (Bool × EF)) : EF := fun ρ S => (evm fs ρ S).bind fun cs => pureF F cs
theorem evm_length : ∀ {fs : List (Bool × EF)} {ρ : En} {S : Sto} {cs : En}, evm fs ρ S = some cs → cs.length = fs.length
  | [], _, _, _, h => by cases h; rfl
  | (b, f) :: fs, _, _, _, h => by
    obtain ⟨q1, _, h⟩ := Option.bind_eq_some_iff.mp h
    obtain ⟨q2, h2, rfl⟩ := Option.map_eq_some_iff.mp h
    rw [List.length_cons, List.length_cons, evm_length h2]
theorem dq_call {fs : List (Bool × EF)} (hF : FnG X.prog X.w X.K X.mg X.base CX0 k fa fd ps (spD X.K X.mg n F)) (hr : RoomG k X.A) (hg : Gl X x) (hm : X.mg x = some (.ref fa)) (hk : PySem.W.keepIn X.K (.ref fa) = true) (hb : Binds X.K fd ps []) (ha : DAm X (e :: es) fs)
    (hn : fs.length = n := by rfl) (hdb : (x == ("__debug__" : Str)) = false := by decide) (he : starEach (e :: es) X.env = (false, eval e X.env) :: starEach es X.env := by rfl) (hpl : (backTo pos (starEach es X.env)).any (·.1) = false := by rfl) :
    DQ X true (.Call (.Name x p) (e :: es) [] pos) (eCallF F fs) := ⟨PE.imp (peG_call hF hr hg hm hk hb .nil pass0 ha.pa hdb he hpl) fun σ H Q q => by
  obtain ⟨g, ρ, S, z, ok, e, q⟩ := q
  obtain ⟨cs, e1, e⟩ := Option.bind_eq_some_iff.mp e
  obtain ⟨r, e2, e3⟩ := Option.bind_eq_some_iff.mp e
  refine ⟨g, ρ, S, cs, ok, e1, fun vs H1 s1 a1 => ?_⟩
  show spD X.K X.mg n F (vs ++ []) H1 Q _
  rw [List.append_nil]
  obtain ⟨c1, c2⟩ := celv_env (mg := X.mg) (fun b z => (ok.same s1).bad_some z) a1
  refine ⟨⟨Bd g ρ σ, []⟩, cs, [], r, by rw [evm_length e1, hn], c2, c1, e2, fun v H' mu' t p s k => ?_⟩
  have sm : Same H1 H' := fun b o e => t.pres b o e fun z => by simp at z
  rw [datOf_some e3] at k
  exact q v H' (s1.trans sm) (Dt.weak (fun b z => .inl z) k)⟩
end
end DL
namespace DL
open PySem PySem.Spec PyProof.Rows L2

/-! ### objects of the store -/
section
variable {K : Frag} {mg : Str → Option Value} {g : Gh} {ρ : En} {S : Sto} {σ : L2.St} {H : Hp}
/-- the n-th object is changed -/
theorem EnvOk.writeSto (h : EnvOk K mg g ρ S σ H) {n : Nat} {o : SO} {a : Addr} {u : HO} (e : g.mu[n]? = some a) (ok : ∀ H', Pres (Bd g ρ σ) H H' → H' a = some u → SOk K mg (Bd g ρ σ) g.mu H' a o) :
    Nxt K mg g ρ σ H g.mu ρ (S.set n o) σ (upd H a u) := by
  have am : a ∈ g.mu := List.mem_of_getElem? e
  have ba : Bd g ρ σ a := .inr (.inl am)
  have pr : Pres (Bd g ρ σ) H (upd H a u) := fun b o e n => by
    rw [upd_ne (fun (w : b = a) => n (by rw [w]; exact ba))]; exact e
  have tr : Tr (Mu g ρ σ) H (Mu g ρ σ) (upd H a u) := by
    refine ⟨fun b o e n => ?_, fun b z => .inl z, fun b z => ?_⟩
    · rw [upd_ne (fun (w : b = a) => n (by rw [w]; exact .inl am))]; exact e
    · by_cases hb : b = a
      · exact ⟨_, by rw [hb]; exact upd_same⟩
      · rw [upd_ne hb]; exact z
  refine ⟨⟨h.len, fun j c s e1 e2 => ?_, h.inj, h.sep, ⟨by rw [List.length_set]; exact h.sto.len, h.sto.nod, fun m o' b e1 e2 => ?_⟩, fun b z => tr.live b (h.alo b z)⟩, tr, List.prefix_refl _⟩
  · have k := h.cel j c s e1 e2
    cases c with
    | no => trivial
    | val d => obtain ⟨v, e, r⟩ := k; exact ⟨v, e, Dt.tr pr .refl _ _ r⟩
    | own d' =>
      obtain ⟨b, e3, xs, ds, e4, e5, r⟩ := k
      subst e3
      have nb : b ≠ a := fun w => (h.sep b ⟨j, d', e1, e2⟩).1 (by rw [w]; exact am)
      exact ⟨b, rfl, xs, ds, e4, by rw [upd_ne nb]; exact e5, DtA.tr pr .refl _ _ r⟩
    | bor d' =>
      obtain ⟨v, e3, r⟩ := k
      refine ⟨v, e3, ?_⟩
      cases r with
      | of r => exact .of (Dt.tr pr .refl _ _ r)
      | lst r n t => exact .lst (rd_pres r tr.pres n) n (DtA.tr pr .refl _ _ t)
    | ref n => exact k
  · by_cases hm : n = m
    · subst hm
      rw [e] at e2; cases e2
      have hl : n < S.length := by rw [h.sto.len]; exact (List.getElem?_eq_some_iff.mp e).1
      rw [List.getElem?_set_self hl] at e1
      cases e1
      exact ok _ pr upd_same
    · rw [List.getElem?_set_ne hm] at e1
      have nb : b ≠ a := fun w => hm (by
        rw [w] at e2
        obtain ⟨h1, e3⟩ := List.getElem?_eq_some_iff.mp e
        obtain ⟨h2, e4⟩ := List.getElem?_eq_some_iff.mp e2
        exact (List.getElem_inj h.sto.nod).mp (e3.trans e4.symm))
      exact (h.sto.obj m o' b e1 e2).tr (fun u' q => by rw [upd_ne nb]; exact q) pr .refl (List.prefix_refl _)
end
/-- the n-th object, opened -/
theorem EnvOk.sto_at {K : Frag} {mg : Str → Option Value} {g : Gh} {ρ : En} {S : Sto} {σ : L2.St} {H : Hp} (h : EnvOk K mg g ρ S σ H) {n : Nat} {o : SO} (e : S[n]? = some o) : ∃ a, g.mu[n]? = some a ∧ SOk K mg (Bd g ρ σ) g.mu H a o := by
  have hl : n < g.mu.length := by rw [← h.sto.len]; exact (List.getElem?_eq_some_iff.mp e).1
  exact ⟨_, List.getElem?_eq_getElem hl, h.sto.obj n o _ e (List.getElem?_eq_getElem hl)⟩
theorem paired_lookup {K : Frag} {bad : Addr → Prop} {mu : List Addr} {H : Hp} {f : Str} : ∀ {vs : List (Str × V)} {fs : List (Str × SV)}, Paired (fun (p : Str × V) (q : Str × SV) => p.1 = q.1 ∧ SVk K bad mu H p.2 q.2) vs fs →
    (∀ r, fs.lookup f = some r → ∃ v, vs.lookup f = some v ∧ SVk K bad mu H v r) ∧ (fs.lookup f = none → vs.lookup f = none)
  | _, _, .nil => ⟨fun r h => (by cases h), fun _ => rfl⟩
  | (k, v) :: vs, (k', r0) :: fs, .cons h t => by
    obtain ⟨h1, h2⟩ := h
    dsimp only at h1 h2
    subst h1
    obtain ⟨i1, i2⟩ := paired_lookup (f := f) t
    refine ⟨fun r e => ?_, fun e => ?_⟩
    · rw [List.lookup_cons] at e ⊢
      split at e
      · cases e; exact ⟨v, rfl, h2⟩
      · exact i1 r e
    · rw [List.lookup_cons] at e ⊢
      split at e
      · cases e
      · exact i2 e
def putS (f : Str) (r : SV) : List (Str × SV) → List (Str × SV)
  | [] => [(f, r)]
  | (g, x) :: t => if g = f then (g, r) :: t else (g, x) :: putS f r t
theorem paired_put {K : Frag} {bad : Addr → Prop} {mu : List Addr} {H : Hp} {f : Str} {v : V} {r : SV} (h : SVk K bad mu H v r) : ∀ {vs : List (Str × V)} {fs : List (Str × SV)}, Paired (fun (p : Str × V) (q : Str × SV) => p.1 = q.1 ∧ SVk K bad mu H p.2 q.2) vs fs →
    Paired (fun (p : Str × V) (q : Str × SV) => p.1 = q.1 ∧ SVk K bad mu H p.2 q.2) (putF f v vs) (putS f r fs)
  | _, _, .nil => .cons ⟨rfl, h⟩ .nil
  | (k, w) :: vs, (k', r0) :: fs, .cons q t => by
    obtain ⟨h1, h2⟩ := q
    dsimp only at h1 h2
    subst h1
    unfold putF putS
    by_cases hk : k = f
    · rw [if_pos hk, if_pos hk]
      exact .cons ⟨rfl, h⟩ t
    · rw [if_neg hk, if_neg hk]
      exact .cons ⟨rfl, h2⟩ (paired_put h t)
/-- the object at a slot -/
def insOf (c : Str) (ρ : En) (S : Sto) (i : Nat) : Option (Nat × List (Str × SV)) := match ρ[i]? with
  | some (.ref n) => match S[n]? with
    | some (.ins c' fs) => if c' = c then some (n, fs) else none
    | _ => none
  | _ => none
theorem insOf_some {c : Str} {ρ : En} {S : Sto} {i n : Nat} {fs : List (Str × SV)} (h : insOf c ρ S i = some (n, fs)) : ρ[i]? = some (Cel.ref n) ∧ S[n]? = some (SO.ins c fs) := by
  unfold insOf at h
  split at h
  · rename_i n' e1
    split at h
    · rename_i c' fs' e2
      split at h
      · rename_i hc
        cases h
        exact ⟨e1, by rw [e2, hc]⟩
      · cases h
    · cases h
  · cases h
theorem ins_at {K : Frag} {mg : Str → Option Value} {g : Gh} {ρ : En} {S : Sto} {σ : L2.St} {H : Hp} (ok : EnvOk K mg g ρ S σ H) {c : Str} {i n : Nat} {fs : List (Str × SV)} {C : Addr} (hC : mg c = some (.ref C)) (h : insOf c ρ S i = some (n, fs)) :
    ∃ a dx vs, σ[i]? = some (some (V.ref a)) ∧ g.mu[n]? = some a ∧ H a = some (.ins C dx vs) ∧ Paired (fun (p : Str × V) (q : Str × SV) => p.1 = q.1 ∧ SVk K (Bd g ρ σ) g.mu H p.2 q.2) vs fs := by
  obtain ⟨e1, e2⟩ := insOf_some h
  obtain ⟨s, e3, a, e4, e5⟩ := ok.slot e1
  subst e4
  obtain ⟨a', e6, C', dx, vs, e7, e8, r⟩ := ok.sto_at e2
  rw [e5] at e6; cases e6
  rw [hC] at e7; cases e7
  exact ⟨a, dx, vs, e3, e5, e8, r⟩
/-! the attribute of a name -/
def fldOf (c : Str) (i : Nat) (f : Str) (ρ : En) (S : Sto) : Option SV := (insOf c ρ S i).bind fun p => p.2.lookup f
def eFld (c : Str) (i : Nat) (f : Str) : EF := fun ρ S => (fldOf c i f ρ S).bind datOf
def datsOf : List SV → Option (List D)
  | [] => some []
  | .dat d :: r => (datsOf r).map (d :: ·)
  | _ => none
theorem datsOf_eq : ∀ {xs : List SV} {ds : List D}, datsOf xs = some ds → xs = ds.map SV.dat
  | [], _, h => by cases h; rfl
  | .dat d :: r, _, h => by
    obtain ⟨ms, e, rfl⟩ := Option.map_eq_some_iff.mp h
    rw [datsOf_eq e]; rfl
theorem datsOf_map : ∀ ds : List D, datsOf (ds.map SV.dat) = some ds
  | [] => rfl
  | d :: r => by rw [List.map_cons, datsOf, datsOf_map r]; rfl
theorem svk_dtA {K : Frag} {bad : Addr → Prop} {mu : List Addr} {H : Hp} : ∀ {ds : List D} {vs : List V}, Paired (SVk K bad mu H) vs (ds.map SV.dat) → DtA K bad H vs ds
  | [], _, .nil => .nil
  | _ :: _, _, .cons h t => .cons h (svk_dtA t)
theorem dtA_svk {K : Frag} {bad : Addr → Prop} {mu : List Addr} {H : Hp} : ∀ {ds : List D} {vs : List V}, DtA K bad H vs ds → Paired (SVk K bad mu H) vs (ds.map SV.dat)
  | [], _, .nil => .nil
  | _ :: _, _, .cons h t => .cons h (dtA_svk t)
/-- the attribute's list, to be read -/
def stoL (S : Sto) (r : SV) : Option (List D) := match r with
  | .ref m => match S[m]? with
    | some (.lst xs) => datsOf xs
    | _ => none
  | _ => none
def bFld (c : Str) (i : Nat) (f : Str) : EF := fun ρ S => (fldOf c i f ρ S).bind fun r => match r with
  | .dat d => some d
  | r => (stoL S r).map .list
def xFld (c : Str) (i : Nat) (f : Str) : XF := fun ρ S => (fldOf c i f ρ S).map fun r => (r, ρ, S)
section
variable {X : Cx} {x f c : Str} {i : Nat} {p pos : Pos} {C : Addr}
theorem pe_fldv (hN : X.N[i]? = some x) (hv : Vis X.env.scope x) (hd : (x == ("__debug__" : Str)) = false) (hcd : (x == ("__classdict__" : Str)) = false) (hb : attributeBase (.Name x p) f X.env (eval (.Name x p) X.env) = eval (.Name x p) X.env) :
    PE X (.Attribute (.Name x p) f pos) (tFld X.K (tVar i) f) := pe_fld (pe_var hN hv hd hcd) hb
theorem fld_read {g : Gh} {ρ : En} {S : Sto} {σ : L2.St} {H : Hp} {Q : VK} {r : SV} (hC : X.mg c = some (.ref C)) (cl : Cls X.K C) (na : NoAttr X.K C f) (ok : EnvOk X.K X.mg g ρ S σ H) (e : fldOf c i f ρ S = some r)
    (q : ∀ v, SVk X.K (Bd g ρ σ) g.mu H v r → Q v H) : tFld X.K (tVar i) f σ H Q := by
  obtain ⟨⟨n, fs⟩, e1, e2⟩ := Option.bind_eq_some_iff.mp e
  obtain ⟨a, dx, vs, h1, h2, h3, h4⟩ := ins_at ok hC e1
  obtain ⟨v, e3, k⟩ := (paired_lookup h4).1 r e2
  exact ⟨.ref a, h1, a, C, dx, vs, v, rfl, h3, cl, na, e3, q v k⟩
theorem dq_fld (hC : X.mg c = some (.ref C)) (cl : Cls X.K C) (na : NoAttr X.K C f) (hN : X.N[i]? = some x := by rfl) (hv : Vis X.env.scope x := by first | exact Or.inl rfl | exact Or.inr (Or.inl rfl) | exact Or.inr (Or.inr rfl)) (hd : (x == ("__debug__" : Str)) = false := by decide) (hcd : (x == ("__classdict__" : Str)) = false := by decide)
    (hb : attributeBase (.Name x p) f X.env (eval (.Name x p) X.env) = eval (.Name x p) X.env := by rfl) : DQ X true (.Attribute (.Name x p) f pos) (eFld c i f) := ⟨PE.imp (pe_fldv hN hv hd hcd hb) fun σ H Q q => by
  obtain ⟨g, ρ, S, d, ok, e, q⟩ := q
  obtain ⟨r, e1, e2⟩ := Option.bind_eq_some_iff.mp e
  refine fld_read hC cl na ok e1 fun v k => ?_
  rw [datOf_some e2] at k
  exact q v H (Same.refl H) k⟩
theorem db_fld (hC : X.mg c = some (.ref C)) (cl : Cls X.K C) (na : NoAttr X.K C f) (hN : X.N[i]? = some x := by rfl) (hv : Vis X.env.scope x := by first | exact Or.inl rfl | exact Or.inr (Or.inl rfl) | exact Or.inr (Or.inr rfl)) (hd : (x == ("__debug__" : Str)) = false := by decide) (hcd : (x == ("__classdict__" : Str)) = false := by decide)
    (hb : attributeBase (.Name x p) f X.env (eval (.Name x p) X.env) = eval (.Name x p) X.env := by rfl) : DQ X false (.Attribute (.Name x p) f pos) (bFld c i f) := ⟨PE.imp (pe_fldv hN hv hd hcd hb) fun σ H Q q => by
  obtain ⟨g, ρ, S, d, ok, e, q⟩ := q
  obtain ⟨r, e1, e2⟩ := Option.bind_eq_some_iff.mp e
  refine fld_read hC cl na ok e1 fun v k => ?_
  cases r with
  | dat d' => cases e2; exact q v H (Same.refl H) (Bo.of k)
  | ref m =>
    obtain ⟨ds, e3, rfl⟩ := Option.map_eq_some_iff.mp e2
    unfold stoL at e3
    dsimp only at e3
    split at e3
    · rename_i xs e4
      obtain ⟨a, rfl, e5⟩ := k
      obtain ⟨a', e6, vs, e7, t⟩ := ok.sto_at e4
      rw [e5] at e6; cases e6
      rw [datsOf_eq e3] at t
      exact q _ H (Same.refl H) (Bo.lst (.inl e7) (svk_dtA t))
    · cases e3⟩
theorem dx_fld (hC : X.mg c = some (.ref C)) (cl : Cls X.K C) (na : NoAttr X.K C f) (hN : X.N[i]? = some x := by rfl) (hv : Vis X.env.scope x := by first | exact Or.inl rfl | exact Or.inr (Or.inl rfl) | exact Or.inr (Or.inr rfl)) (hd : (x == ("__debug__" : Str)) = false := by decide) (hcd : (x == ("__classdict__" : Str)) = false := by decide)
    (hb : attributeBase (.Name x p) f X.env (eval (.Name x p) X.env) = eval (.Name x p) X.env := by rfl) : DX X (.Attribute (.Name x p) f pos) (xFld c i f) := ⟨PE.imp (pe_fldv hN hv hd hcd hb) fun σ H Q q => by
  obtain ⟨g, ρ, S, r, ok, e, q⟩ := q
  obtain ⟨r1, e1, rfl⟩ := Option.map_eq_some_iff.mp e
  exact fld_read hC cl na ok e1 fun v k => q v H g.mu (.refl ok) k⟩
/-! self.f = e -/
def sFldS (c : Str) (i : Nat) (f : Str) (fv : XF) : SF := fun ρ S => (fv ρ S).bind fun r => (insOf c r.2.1 r.2.2 i).bind fun p => if p.2.length < 1000 then some (.nx r.2.1 (r.2.2.set p.1 (.ins c (putS f r.1 p.2)))) else none
theorem sok_put {K : Frag} {mg : Str → Option Value} {g : Gh} {ρ : En} {S : Sto} {σ : L2.St} {H : Hp} {C dx : Addr} {vs : List (Str × V)} {fs : List (Str × SV)} {a : Addr} {v : V} {r : SV} (hC : mg c = some (.ref C))
    (h : Paired (fun (p : Str × V) (q : Str × SV) => p.1 = q.1 ∧ SVk K (Bd g ρ σ) g.mu H p.2 q.2) vs fs) (k : SVk K (Bd g ρ σ) g.mu H v r) : ∀ H', Pres (Bd g ρ σ) H H' → H' a = some (.ins C dx (putF f v vs)) → SOk K mg (Bd g ρ σ) g.mu H' a (.ins c (putS f r fs)) := fun H' p e =>
  ⟨C, dx, _, hC, e, paired_put (k.tr p .refl (List.prefix_refl _)) (Paired.mapP h fun _ _ z => ⟨z.1, z.2.tr p .refl (List.prefix_refl _)⟩)⟩
theorem paired_len {α β : Type} {F : α → β → Prop} {xs : List α} {ys : List β} (h : Paired F xs ys) : xs.length = ys.length := Paired.length h
theorem ds_fldS {e : Expr} {fv : XF} {pos' : Pos} (hC : X.mg c = some (.ref C)) (cl : Cls X.K C) (na : NoAttr X.K C f) (he : DX X e fv) (hN : X.N[i]? = some x := by rfl) (hv : Vis X.env.scope x := by first | exact Or.inl rfl | exact Or.inr (Or.inl rfl) | exact Or.inr (Or.inr rfl)) (hd : (x == ("__debug__" : Str)) = false := by decide) (hcd : (x == ("__classdict__" : Str)) = false := by decide)
    (hs : swapsWith e (some (.Attribute (.Name x p) f pos')) pos.line X.env = pure false := by rfl) : DS X (.Assign [.Attribute (.Name x p) f pos'] e pos) (sFldS c i f fv) := ⟨PS.imp (ps_fld (pe_var hN hv hd hcd) he.pe hs) fun D σ H q => by
  obtain ⟨g, ρ, S, r, ok, e, q⟩ := q
  obtain ⟨r1, e1, e⟩ := Option.bind_eq_some_iff.mp e
  obtain ⟨⟨n, fs⟩, e2, e⟩ := Option.bind_eq_some_iff.mp e
  split at e
  case isFalse => cases e
  rename_i hl
  cases e
  refine ⟨g, ρ, S, r1, ok, e1, fun v H1 mu1 n1 v1 => ?_⟩
  obtain ⟨a, dx, vs, h1, h2, h3, h4⟩ := ins_at n1.env hC e2
  refine ⟨.ref a, h1, a, C, dx, vs, rfl, h3, cl, na, by rw [paired_len h4]; exact hl, ?_⟩
  exact q σ _ mu1 (n1.trans (n1.env.writeSto (n := n) h2 (sok_put (S := r1.2.2) hC h4 v1)))⟩
/-- self.f op= e -/
def sFldAugS (c : Str) (i : Nat) (f : Str) (F : D → D → Option D) (fv : XF) : SF := fun ρ S => (eFld c i f ρ S).bind fun d => (fv ρ S).bind fun r => (datOf r.1).bind fun e => (F d e).bind fun z => (insOf c r.2.1 r.2.2 i).bind fun p => if p.2.length < 1000 then some (.nx r.2.1 (r.2.2.set p.1 (.ins c (putS f (.dat z) p.2)))) else none
/-! a new list becomes an object of the store -/
def sFldNew (c : Str) (i : Nat) (f : Str) (fv : YF) : SF := fun ρ S => (fv ρ S).bind fun r => match r.1 with
  | .list ds => (insOf c r.2.1 r.2.2 i).bind fun p => if p.2.length < 1000 then some (.nx r.2.1 ((r.2.2 ++ [SO.lst (ds.map SV.dat)]).set p.1 (.ins c (putS f (.ref r.2.2.length) p.2)))) else none
  | _ => none
end
/-- a fresh object joins the store -/
theorem Frs.join {K : Frag} {mg : Str → Option Value} {g : Gh} {ρ ρ' : En} {S' : Sto} {σ : L2.St} {H H' : Hp} {p : Addr} {ds : List D} {mu' : List Addr} (h : Frs K mg g ρ σ H p (.list ds) mu' ρ' S' H') :
    Nxt K mg g ρ σ H (mu' ++ [p]) ρ' (S' ++ [SO.lst (ds.map SV.dat)]) σ H' := by
  have hE := h.env
  have bq : ∀ b, Bd ⟨g.B, mu' ++ [p]⟩ ρ' σ b → Bd ⟨fun b => g.B b ∨ b = p, mu'⟩ ρ' σ b := fun b z => by
    rcases z with z | z | z
    · exact .inl (.inl z)
    · rcases List.mem_append.mp z with z | z
      · exact .inr (.inl z)
      · exact .inl (.inr (List.mem_singleton.mp z))
    · exact .inr (.inr z)
  have pm : p ∉ mu' := fun z => h.nM (.inl z)
  have tr : Tr (Mu g ρ σ) H (Mu ⟨g.B, mu' ++ [p]⟩ ρ' σ) H' := by
    refine ⟨h.tr.pres, fun b z => ?_, h.tr.live⟩
    rcases z with z | z
    · rcases List.mem_append.mp z with z | z
      · exact h.tr.grow b (.inl z)
      · rw [List.mem_singleton.mp z]; exact .inr h.new
    · exact h.tr.grow b (.inr z)
  have pre : mu' <+: mu' ++ [p] := List.prefix_append _ _
  refine ⟨⟨hE.len, fun j c s e1 e2 => ?_, hE.inj, fun a z => ⟨fun w => ?_, fun w => (hE.sep a z).2 (.inl w)⟩, ⟨by simp [hE.sto.len], ?_, fun n o a e1 e2 => ?_⟩, fun b z => hE.alo b (.inl z)⟩, tr, h.pre.trans pre⟩
  · have k := hE.cel j c s e1 e2
    cases c with
    | no => trivial
    | val d => obtain ⟨v, e, r⟩ := k; exact ⟨v, e, r.weak bq⟩
    | own d => obtain ⟨a, e, xs, ds, e3, e4, r⟩ := k; exact ⟨a, e, xs, ds, e3, e4, r.weak bq⟩
    | bor d =>
      obtain ⟨v, e, _⟩ := k
      subst e
      have r := h.bor j d v e1 e2
      cases r with
      | of r => exact ⟨v, rfl, .of (r.weak bq)⟩
      | lst r n a =>
        refine ⟨_, rfl, .lst r (fun z => n ?_) (a.weak bq)⟩
        rcases z with z | z
        · rcases List.mem_append.mp z with z | z
          · exact .inl (.inl z)
          · exact .inr (List.mem_singleton.mp z)
        · exact .inl (.inr z)
    | ref n =>
      obtain ⟨a, e3, e4⟩ := k
      exact ⟨a, e3, by
        show (mu' ++ [p])[n]? = some a
        rw [List.getElem?_append_left (List.getElem?_eq_some_iff.mp e4).1]; exact e4⟩
  · rcases List.mem_append.mp w with w | w
    · exact (hE.sep a z).1 w
    · exact (hE.sep a z).2 (.inr (List.mem_singleton.mp w))
  · exact List.nodup_append.mpr ⟨hE.sto.nod, by simp, fun a ha b hb => by rw [List.mem_singleton.mp hb]; exact fun z => pm (z ▸ ha)⟩
  · by_cases hn : n < S'.length
    · rw [List.getElem?_append_left hn] at e1
      have e2' : (mu' ++ [p])[n]? = some a := e2
      rw [List.getElem?_append_left (by rw [← hE.sto.len]; exact hn)] at e2'
      exact (hE.sto.obj n o a e1 e2').tr (fun u q => q) (.same (Same.refl H')) (.sub bq) pre
    · rw [List.getElem?_append_right (by omega)] at e1
      have e2' : (mu' ++ [p])[n]? = some a := e2
      have hl := hE.sto.len
      dsimp only at hl
      rw [List.getElem?_append_right (by omega)] at e2'
      have hz : n - S'.length = 0 := by
        by_cases hz : n - S'.length = 0
        · exact hz
        · rw [List.getElem?_eq_none (by simp; omega)] at e1; cases e1
      rw [hz] at e1
      rw [← hl, hz] at e2'
      cases e1; cases e2'
      obtain ⟨xs, ds', e3, e4, r⟩ := h.own
      cases e3
      exact ⟨xs, e4, dtA_svk (r.weak bq)⟩
section
variable {X : Cx} {x f c : Str} {i : Nat} {p pos : Pos} {C : Addr}
theorem ds_fldNew {e : Expr} {fv : YF} {pos' : Pos} (hC : X.mg c = some (.ref C)) (cl : Cls X.K C) (na : NoAttr X.K C f) (he : DF X e fv) (hN : X.N[i]? = some x := by rfl) (hv : Vis X.env.scope x := by first | exact Or.inl rfl | exact Or.inr (Or.inl rfl) | exact Or.inr (Or.inr rfl)) (hd : (x == ("__debug__" : Str)) = false := by decide) (hcd : (x == ("__classdict__" : Str)) = false := by decide)
    (hs : swapsWith e (some (.Attribute (.Name x p) f pos')) pos.line X.env = pure false := by rfl) : DS X (.Assign [.Attribute (.Name x p) f pos'] e pos) (sFldNew c i f fv) := ⟨PS.imp (ps_fld (pe_var hN hv hd hcd) he.pe hs) fun D σ H q => by
  obtain ⟨g, ρ, S, r, ok, e, q⟩ := q
  obtain ⟨r1, e1, e⟩ := Option.bind_eq_some_iff.mp e
  obtain ⟨d, ρ1, S1⟩ := r1
  dsimp only at e
  split at e
  case h_2 => cases e
  rename_i ds
  obtain ⟨⟨n, fs⟩, e2, e⟩ := Option.bind_eq_some_iff.mp e
  split at e
  case isFalse => cases e
  rename_i hl
  cases e
  refine ⟨g, ρ, S, _, ok, e1, fun v H1 mu1 fr => ?_⟩
  dsimp only at fr
  have nj := fr.join
  have hlen := fr.env.sto.len
  dsimp only at hlen
  have e3 : insOf c ρ1 (S1 ++ [SO.lst (ds.map SV.dat)]) i = some (n, fs) := by
    obtain ⟨f1, f2⟩ := insOf_some e2
    unfold insOf
    rw [f1]
    dsimp only
    rw [List.getElem?_append_left (List.getElem?_eq_some_iff.mp f2).1, f2]
    simp
  obtain ⟨a, dx, vs, h1, h2, h3, h4⟩ := ins_at nj.env hC e3
  refine ⟨.ref a, h1, a, C, dx, vs, rfl, h3, cl, na, by rw [paired_len h4]; exact hl, ?_⟩
  have k : SVk X.K (Bd ⟨g.B, mu1 ++ [v]⟩ ρ1 σ) (mu1 ++ [v]) H1 (V.ref v) (.ref S1.length) := ⟨v, rfl, by
    rw [hlen, List.getElem?_append_right (Nat.le_refl _)]; simp⟩
  exact q σ _ _ (nj.trans (nj.env.writeSto (n := n) h2 (sok_put (S := S1 ++ [SO.lst (ds.map SV.dat)]) hC h4 k)))⟩
end
end DL
namespace DL
open PySem PySem.Spec PyProof.Rows L2

section
variable {X : Cx} {x f c m : Str} {i : Nat} {p pos apos : Pos} {C fa : Addr} {e : Expr} {es : List Expr} {fs : List AX} {k n : Nat} {fd : FuncData} {ps : List Str} {F : FF}
/-! ### methods -/
def xMeth (c : Str) (i : Nat) (m : Str) (F : FF) (fs : List AX) : XF := fun ρ S => (insOf c ρ S i).bind fun o => if (o.2.lookup m).isNone = true then (eva fs ρ S).bind fun r => (celsA r.2.1 r.1).bind fun cs => (F (.ref o.1 :: cs) r.2.2).map fun q => (q.1, r.2.1, q.2) else none
theorem spD_meth {σ : L2.St} {H : Hp} {Q : VK} {E : XK} (hC : X.mg c = some (.ref C)) (hn : fs.length + 1 = n) : tX X (xMeth c i m F fs) σ H Q → tMeth C m (spD X.K X.mg n F) [] E (tVar i) (tAa X fs) σ H Q := fun q => by
  obtain ⟨g, ρ, S, r, ok, e, q⟩ := q
  obtain ⟨⟨n0, fs0⟩, e0, e⟩ := Option.bind_eq_some_iff.mp e
  split at e
  case isFalse => cases e
  rename_i hl
  obtain ⟨r1, e1, e⟩ := Option.bind_eq_some_iff.mp e
  obtain ⟨cs, e2, e⟩ := Option.bind_eq_some_iff.mp e
  obtain ⟨r2, e4, rfl⟩ := Option.map_eq_some_iff.mp e
  obtain ⟨a, dx, vs0, h1, h2, h3, h4⟩ := ins_at ok hC e0
  refine ⟨.ref a, h1, a, dx, vs0, rfl, h3, (paired_lookup h4).2 (by simpa using hl), g, ρ, S, r1, ok, e1, fun vs H1 mu1 n1 a1 => ?_⟩
  dsimp only
  rw [List.append_nil]
  have okc := n1.env
  have ka : AVk X.K ⟨g.B, mu1⟩ r1.2.1 σ H1 (.ref a) (.sv (.ref n0)) := n1.sv (r := .ref n0) ⟨a, rfl, h2⟩
  have ec : celsA r1.2.1 (.sv (.ref n0) :: r1.1) = some (.ref n0 :: cs) := by
    show (celA _ _).bind _ = _
    show (celsA r1.2.1 r1.1).map _ = _
    rw [e2]; rfl
  obtain ⟨c1, c2, c3⟩ := cells_env okc (B' := fun b => g.B b ∨ OwnA r1.2.1 σ b) (mu' := mu1) (S' := r1.2.2) (fun b z => bd_own z) (fun b z => z.elim (okc.alo b) fun z => okc.mu_some (.inr z)) (fun b z => z)
    (okc.sto.weak fun b z => bd_own (g := ⟨g.B, mu1⟩) z) (.cons ka a1) ec (.inl rfl)
  refine ⟨⟨_, mu1⟩, .ref n0 :: cs, r1.2.2, r2, by rw [c3, ← hn, List.length_cons, a1.length, eva_length e1], c2, c1, e4, fun v H' mu' t p s k => ?_⟩
  obtain ⟨m1, m2⟩ := store_back okc t p s k
  exact q v H' mu' (n1.trans m1) m2
theorem dx_meth {pl : Sem Bool} (hC : X.mg c = some (.ref C)) (cl : Cls X.K C) (hm : Meth X.K C m fa) (hF : FnG X.prog X.w X.K X.mg X.base CX0 k fa fd ps (spD X.K X.mg n F)) (hr : RoomG k X.A) (hb : Binds X.K fd ps []) (ha : DAa X (e :: es) fs)
    (hn : fs.length + 1 = n := by rfl) (hN : X.N[i]? = some x := by rfl) (hv : Vis X.env.scope x := by first | exact Or.inl rfl | exact Or.inr (Or.inl rfl) | exact Or.inr (Or.inr rfl)) (hd : (x == ("__debug__" : Str)) = false := by decide) (hcd : (x == ("__classdict__" : Str)) = false := by decide)
    (hst : starEach (e :: es) X.env = (false, eval e X.env) :: starEach es X.env := by rfl) (hpl : (backTo pos (starEach es X.env)).any (·.1) = false := by rfl)
    (ht : eval (.Call (.Attribute (.Name x p) m apos) (e :: es) [] pos) X.env = (do
      let ov ← eval (.Name x p) X.env
      standAt apos.atName
      let (f, first) ← holding [ov] (getMethod ov m pl)
      callWith pos f first (backTo pos (starEach (e :: es) X.env)) (backToKw pos (keywordEach [] X.env))) := by rfl) :
    DX X (.Call (.Attribute (.Name x p) m apos) (e :: es) [] pos) (xMeth c i m F fs) := ⟨PE.imp (peG_meth (pe_var hN hv hd hcd) cl hm hF hr hb .nil pass0 ha.pa hst hpl ht) fun σ H Q q => spD_meth hC hn q⟩
/-- o.m() -/
theorem dx_meth0 {pl : Sem Bool} (hC : X.mg c = some (.ref C)) (cl : Cls X.K C) (hm : Meth X.K C m fa) (hF : FnG X.prog X.w X.K X.mg X.base CX0 k fa fd ps (spD X.K X.mg 1 F)) (hr : RoomG k X.A) (hb : Binds X.K fd ps [])
    (hN : X.N[i]? = some x := by rfl) (hv : Vis X.env.scope x := by first | exact Or.inl rfl | exact Or.inr (Or.inl rfl) | exact Or.inr (Or.inr rfl)) (hd : (x == ("__debug__" : Str)) = false := by decide) (hcd : (x == ("__classdict__" : Str)) = false := by decide)
    (ht : eval (.Call (.Attribute (.Name x p) m apos) [] [] pos) X.env = (do
      let ov ← eval (.Name x p) X.env
      standAt apos.atName
      let (f, first) ← holding [ov] (getMethod ov m pl)
      callWith pos f first (backTo pos (starEach [] X.env)) (backToKw pos (keywordEach [] X.env))) := by rfl) :
    DX X (.Call (.Attribute (.Name x p) m apos) [] [] pos) (xMeth c i m F []) := ⟨PE.imp (peG_meth0 (pe_var hN hv hd hcd) cl hm hF hr hb .nil pass0 ht) fun σ H Q q => by
  have z := spD_meth (X := X) (E := E0) hC (show ([] : List AX).length + 1 = 1 from rfl) q
  obtain ⟨v, hv, a, dx, fs0, h1, h2, h3, z⟩ := z
  refine ⟨v, hv, a, dx, fs0, h1, h2, h3, ?_⟩
  obtain ⟨g, ρ, S, r, ok, e, z⟩ := z
  cases e
  exact z [] H g.mu (.refl ok) .nil⟩

/-! ### a new instance -/
theorem EnvOk.newSto {K : Frag} {mg : Str → Option Value} {g : Gh} {ρ : En} {S : Sto} {σ : L2.St} {H H2 : Hp} {q : Addr} {o : SO} (h : EnvOk K mg g ρ S σ H) (s : Same H H2) (hp : H q = none) (hp2 : ∃ u, H2 q = some u)
    (ok : SOk K mg (Bd ⟨g.B, g.mu ++ [q]⟩ ρ σ) (g.mu ++ [q]) H2 q o) : Nxt K mg g ρ σ H (g.mu ++ [q]) ρ (S ++ [o]) σ H2 := by
  have gr : Grow (Bd g ρ σ) H (Bd ⟨g.B, g.mu ++ [q]⟩ ρ σ) := fun b z => by
    rcases z with z | z | z
    · exact .inl (.inl z)
    · rcases List.mem_append.mp z with z | z
      · exact .inl (.inr (.inl z))
      · rw [List.mem_singleton.mp z]; exact .inr hp
    · exact .inl (.inr (.inr z))
  have pr : Pres (Bd g ρ σ) H H2 := .same s
  have pm : q ∉ g.mu := fun z => by
    obtain ⟨o, e⟩ := h.mu_some (.inl z)
    rw [hp] at e; cases e
  have pre : g.mu <+: g.mu ++ [q] := List.prefix_append _ _
  have gm : Grow (Mu g ρ σ) H (Mu ⟨g.B, g.mu ++ [q]⟩ ρ σ) := fun b z => by
    rcases z with z | z
    · rcases List.mem_append.mp z with z | z
      · exact .inl (.inl z)
      · rw [List.mem_singleton.mp z]; exact .inr hp
    · exact .inl (.inr z)
  refine ⟨⟨h.len, fun j c s' e1 e2 => ?_, h.inj, fun a z => ⟨fun w => ?_, (h.sep a z).2⟩, ⟨by simp [h.sto.len], ?_, fun n o' a e1 e2 => ?_⟩, fun b z => by obtain ⟨o, e⟩ := h.alo b z; exact ⟨o, s _ _ e⟩⟩, ⟨fun b o e n => s b o e, gm, fun b ⟨o, e⟩ => ⟨o, s _ _ e⟩⟩, pre⟩
  · have k := h.cel j c s' e1 e2
    cases c with
    | no => trivial
    | val d => obtain ⟨v, e, r⟩ := k; exact ⟨v, e, Dt.tr pr gr _ _ r⟩
    | own d => obtain ⟨a, e, xs, ds, e3, e4, r⟩ := k; exact ⟨a, e, xs, ds, e3, s _ _ e4, DtA.tr pr gr _ _ r⟩
    | bor d =>
      obtain ⟨v, e, r⟩ := k
      refine ⟨v, e, ?_⟩
      cases r with
      | of r => exact .of (Dt.tr pr gr _ _ r)
      | lst r n a =>
        refine .lst (rd_pres (bad := fun _ => False) r (.same s) (fun z => z)) (fun z => ?_) (DtA.tr pr gr _ _ a)
        rcases gm _ z with w | w
        · exact n w
        · obtain ⟨o, e⟩ := rd_some r
          rw [w] at e; cases e
    | ref n =>
      obtain ⟨a, e3, e4⟩ := k
      exact ⟨a, e3, by
        show (g.mu ++ [q])[n]? = some a
        rw [List.getElem?_append_left (List.getElem?_eq_some_iff.mp e4).1]; exact e4⟩
  · rcases List.mem_append.mp w with w | w
    · exact (h.sep a z).1 w
    · obtain ⟨o, e⟩ := h.mu_some (.inr z)
      rw [List.mem_singleton.mp w, hp] at e; cases e
  · exact List.nodup_append.mpr ⟨h.sto.nod, by simp, fun a ha b hb => by rw [List.mem_singleton.mp hb]; exact fun z => pm (z ▸ ha)⟩
  · by_cases hn : n < S.length
    · rw [List.getElem?_append_left hn] at e1
      have e2' : (g.mu ++ [q])[n]? = some a := e2
      rw [List.getElem?_append_left (by rw [← h.sto.len]; exact hn)] at e2'
      exact (h.sto.obj n o' a e1 e2').tr (fun u z => s _ _ z) pr gr pre
    · rw [List.getElem?_append_right (by omega)] at e1
      have e2' : (g.mu ++ [q])[n]? = some a := e2
      have hl := h.sto.len
      rw [List.getElem?_append_right (by omega)] at e2'
      have hz : n - S.length = 0 := by
        by_cases hz : n - S.length = 0
        · exact hz
        · rw [List.getElem?_eq_none (by simp; omega)] at e1; cases e1
      rw [hz] at e1
      rw [← hl, hz] at e2'
      cases e1; cases e2'
      exact ok
def xMake (c : Str) (F : FF) (fs : List AX) : XF := fun ρ S => (eva fs ρ S).bind fun r => (celsA r.2.1 r.1).bind fun cs => (F (.ref r.2.2.length :: cs) (r.2.2 ++ [.ins c []])).bind fun q => match q.1 with
  | .dat .none => some (.ref r.2.2.length, r.2.1, q.2)
  | _ => none
theorem spD_make {σ : L2.St} {H : Hp} {Q : VK} {E : XK} (hC : X.mg c = some (.ref C)) (hn : fs.length + 1 = n) : tX X (xMake c F fs) σ H Q → tMake C (spD X.K X.mg n F) [] E (tAa X fs) σ H Q := fun q => by
  obtain ⟨g, ρ, S, r, ok, e, q⟩ := q
  obtain ⟨r1, e1, e⟩ := Option.bind_eq_some_iff.mp e
  obtain ⟨cs, e2, e⟩ := Option.bind_eq_some_iff.mp e
  obtain ⟨r2, e4, e⟩ := Option.bind_eq_some_iff.mp e
  refine ⟨g, ρ, S, r1, ok, e1, fun vs H1 mu1 n1 a1 xa dx hx hdx nex => ?_⟩
  rw [List.append_nil]
  have s2 : Same H1 (upd (upd H1 dx (.own xa)) xa (.ins C dx [])) := (same_new hdx).trans (same_new (by rw [upd_ne (Ne.symm nex)]; exact hx))
  have n2 := n1.env.newSto (q := xa) (o := .ins c []) s2 hx ⟨_, upd_same⟩ ⟨C, dx, [], hC, upd_same, .nil⟩
  have okc := n2.env
  have hlen := n1.env.sto.len
  dsimp only at hlen
  have kn : (mu1 ++ [xa])[r1.2.2.length]? = some xa := by rw [hlen, List.getElem?_append_right (Nat.le_refl _)]; simp
  have ka : AVk X.K ⟨g.B, mu1 ++ [xa]⟩ r1.2.1 σ (upd (upd H1 dx (.own xa)) xa (.ins C dx [])) (.ref xa) (.sv (.ref r1.2.2.length)) := ⟨xa, rfl, kn⟩
  have a2 : Paired (AVk X.K ⟨g.B, mu1 ++ [xa]⟩ r1.2.1 σ (upd (upd H1 dx (.own xa)) xa (.ins C dx []))) vs r1.1 := Paired.mapP a1 fun v a z => by
    cases a with
    | sv r => exact n2.sv z
    | sl i => exact z
  have ec : celsA r1.2.1 (.sv (.ref r1.2.2.length) :: r1.1) = some (.ref r1.2.2.length :: cs) := by
    show (celsA r1.2.1 r1.1).map _ = _
    rw [e2]; rfl
  obtain ⟨c1, c2, c3⟩ := cells_env okc (B' := fun b => g.B b ∨ OwnA r1.2.1 σ b) (mu' := mu1 ++ [xa]) (S' := r1.2.2 ++ [.ins c []]) (fun b z => bd_own z) (fun b z => z.elim (okc.alo b) fun z => okc.mu_some (.inr z)) (fun b z => z)
    (okc.sto.weak fun b z => bd_own (g := ⟨g.B, mu1 ++ [xa]⟩) z) (.cons ka a2) ec (.inl rfl)
  refine ⟨⟨_, mu1 ++ [xa]⟩, .ref r1.2.2.length :: cs, _, r2, by rw [c3, ← hn, List.length_cons, a1.length, eva_length e1], c2, c1, e4, fun v H' mu' t p s k => ?_⟩
  obtain ⟨m1, m2⟩ := store_back okc t p s k
  split at e
  · rename_i er
    cases e
    rw [er] at m2
    cases (show Dt _ _ _ _ _ from m2)
    refine ⟨rfl, q _ H' mu' (n1.trans (n2.trans m1)) ⟨xa, rfl, ?_⟩⟩
    obtain ⟨t, rfl⟩ := p
    rw [List.getElem?_append_left (List.getElem?_eq_some_iff.mp kn).1]
    exact kn
  · cases e
theorem dx_make (hC : X.mg c = some (.ref C)) (M : Mk X.K C fa) (hF : FnG X.prog X.w X.K X.mg X.base CX0 k fa fd ps (spD X.K X.mg n F)) (hr : RoomG (k + 1) X.A) (hg : Gl X c) (hb : Binds X.K fd ps []) (ha : DAa X (e :: es) fs) (hn : fs.length + 1 = n := by rfl)
    (hdb : (c == ("__debug__" : Str)) = false := by decide) (he : starEach (e :: es) X.env = (false, eval e X.env) :: starEach es X.env := by rfl) (hpl : (backTo pos (starEach es X.env)).any (·.1) = false := by rfl) :
    DX X (.Call (.Name c p) (e :: es) [] pos) (xMake c F fs) := ⟨PE.imp (peG_make M hF hr hg hC hb .nil pass0 ha.pa hdb he hpl) fun σ H Q q => spD_make hC hn q⟩

/-! ### a list of the store grows -/
def xAppS (c : Str) (i : Nat) (f : Str) (fe : XF) : XF := fun ρ S => (fldOf c i f ρ S).bind fun r0 => match r0 with
  | .ref n => match S[n]? with
    | some (.lst _) => (fe ρ S).bind fun r => match r.2.2[n]? with
      | some (.lst xs) => if xs.length < sizeLine then some (.dat .none, r.2.1, r.2.2.set n (.lst (xs ++ [r.1]))) else none
      | _ => none
    | _ => none
  | _ => none
theorem dx_appS {cpos ap2 : Pos} {fe : XF} (hC : X.mg c = some (.ref C)) (cl : Cls X.K C) (na : NoAttr X.K C f) (h : DX X e fe) (hN : X.N[i]? = some x := by rfl) (hv : Vis X.env.scope x := by first | exact Or.inl rfl | exact Or.inr (Or.inl rfl) | exact Or.inr (Or.inr rfl)) (hd : (x == ("__debug__" : Str)) = false := by decide) (hcd : (x == ("__classdict__" : Str)) = false := by decide)
    (hb : attributeBase (.Name x p) f X.env (eval (.Name x p) X.env) = eval (.Name x p) X.env := by rfl)
    (hbase : attributeBase (.Attribute (.Name x p) f ap2) "append" X.env (eval (.Attribute (.Name x p) f ap2) X.env) = eval (.Attribute (.Name x p) f ap2) X.env := by rfl)
    (hfew : ((backTo cpos (starEach [e] X.env)).all (fun x => !x.1) && (backToKw cpos (keywordEach [] X.env)).all (fun x => x.1.isSome)
      && decide (([e] : List Expr).length + ([] : List Keyword).length + (if ([] : List Keyword).isEmpty then 0 else 1) < 30)) = true := by rfl)
    (hline : (apos.endLine == cpos.line) = true := by rfl) (hs : starEach [e] X.env = (false, eval e X.env) :: starEach [] X.env := by rfl) :
    DX X (.Call (.Attribute (.Attribute (.Name x p) f ap2) "append" apos) [e] [] cpos) (xAppS c i f fe) := ⟨PE.imp (pe_bm PySem.F.plainAttrs_list PySem.F.slot_list_append PySem.F.type_list_append mt_append (pe_fldv hN hv hd hcd hb) (pa_cons h.pe pa_nil hs) hbase hfew hline hs (by rfl)) fun σ H Q q => by
  obtain ⟨g, ρ, S, r, ok, e, q⟩ := q
  obtain ⟨r0, e0, e⟩ := Option.bind_eq_some_iff.mp e
  split at e
  case h_2 => cases e
  rename_i n
  split at e
  case h_2 => cases e
  rename_i xs0 e1
  obtain ⟨r1, e2, e⟩ := Option.bind_eq_some_iff.mp e
  split at e
  case h_2 => cases e
  rename_i xs e3
  split at e
  case isFalse => cases e
  rename_i hz
  cases e
  refine fld_read hC cl na ok e0 fun v kv => ?_
  obtain ⟨a, rfl, h2⟩ := kv
  obtain ⟨a', h3, vs0, h4, t0⟩ := ok.sto_at e1
  rw [h2] at h3; cases h3
  refine ⟨.inl ⟨rfl, _, SqL.of h4⟩, g, ρ, S, r1, ok, e2, fun w H1 mu1 n1 v1 => ?_⟩
  obtain ⟨a2, h5, ys, h6, t2⟩ := n1.env.sto_at e3
  have h7 : mu1[n]? = some a := by
    obtain ⟨t, rfl⟩ := n1.pre
    rw [List.getElem?_append_left (List.getElem?_eq_some_iff.mp h2).1]
    exact h2
  rw [h7] at h5; cases h5
  refine ⟨a, ys, w, rfl, rfl, h6, by rw [paired_len t2]; exact hz, ?_⟩
  have n2 := n1.env.writeSto (n := n) (o := .lst (xs ++ [r1.1])) h7 (u := .lst (ys ++ [w])) fun H' p e => ⟨_, e, by
    have t3 : Paired (SVk X.K (Bd ⟨g.B, mu1⟩ r1.2.1 σ) mu1 H') ys xs := Paired.mapP t2 fun _ _ z => z.tr p .refl (List.prefix_refl _)
    have t4 : SVk X.K (Bd ⟨g.B, mu1⟩ r1.2.1 σ) mu1 H' w r1.1 := v1.tr p .refl (List.prefix_refl _)
    exact paired_app t3 (.cons t4 .nil)⟩
  exact q _ _ mu1 (n1.trans n2) Dt.non⟩
where paired_app {α β : Type} {F : α → β → Prop} : ∀ {xs ys : List α} {us ws : List β}, Paired F xs us → Paired F ys ws → Paired F (xs ++ ys) (us ++ ws)
  | _, _, _, _, .nil, s => s
  | _, _, _, _, .cons r t, s => .cons r (paired_app t s)

/-! ### for over a list of the store that the body leaves alone -/
open Classical in
noncomputable def sForC (n : Nat) (o : Option SO) (bd : BF) (b : SF) : List D → SF
  | [], ρ, S => if S[n]? = o then some (.nx ρ S) else none
  | d :: ds, ρ, S => if S[n]? = o then (bd d ρ).bind fun ρ1 => (b ρ1 S).bind fun r => match r with
    | .nx ρ' S' => sForC n o bd b ds ρ' S'
    | .ct ρ' S' => sForC n o bd b ds ρ' S'
    | .bk ρ' S' => some (.nx ρ' S')
    | .rt r S' => some (.rt r S') else none
noncomputable def sForFld (c : Str) (i : Nat) (f : Str) (bd : BF) (b : SF) : SF := fun ρ S => (fldOf c i f ρ S).bind fun r => match r with
  | .ref n => (stoL S (.ref n)).bind fun ds => sForC n (S[n]?) bd b ds ρ S
  | _ => none
theorem ds_forFld {tg : Expr} {body : List Stmt} {ts : List Nat} {bd : BF} {b : SF} {ap2 : Pos} (hp : PassesOwn (model X.prog X.w) X.A X.env X.xe) (hc : X.calm = true) (hC : X.mg c = some (.ref C)) (cl : Cls X.K C) (na : NoAttr X.K C f) (hg : DG X ts tg bd) (hb : DSs X body b)
    (hN : X.N[i]? = some x := by rfl) (hv : Vis X.env.scope x := by first | exact Or.inl rfl | exact Or.inr (Or.inl rfl) | exact Or.inr (Or.inr rfl)) (hd : (x == ("__debug__" : Str)) = false := by decide) (hcd : (x == ("__classdict__" : Str)) = false := by decide)
    (hba : attributeBase (.Name x p) f X.env (eval (.Name x p) X.env) = eval (.Name x p) X.env := by rfl) (hs : ∀ v, foldedSetIterable (.Attribute (.Name x p) f ap2) X.env v = pure v := by intro _; rfl) :
    DS X (.For tg (.Attribute (.Name x p) f ap2) body [] pos) (sForFld c i f bd b) := ⟨PS.imp (ps_for hp hc (pi_list (pe_fldv hN hv hd hcd hba)) hg.pg hb.ps hs) fun D σ H q => by
  obtain ⟨g, ρ, S, r, ok, e, k⟩ := q
  obtain ⟨r0, e0, e⟩ := Option.bind_eq_some_iff.mp e
  split at e
  case h_2 => cases e
  rename_i n
  obtain ⟨ds, e1, e⟩ := Option.bind_eq_some_iff.mp e
  unfold stoL at e1
  dsimp only at e1
  split at e1
  case h_2 => cases e1
  rename_i xs e2
  unfold tFor iList
  refine fld_read hC cl na ok e0 fun v kv => ?_
  obtain ⟨a, rfl, h2⟩ := kv
  rw [datsOf_eq e1] at e2
  -- the list as it stands wherever the object is as it was
  have look : ∀ {mu2 : List Addr} {ρ2 : En} {S2 : Sto} {σ2 : L2.St} {H2 : Hp}, Nxt X.K X.mg g ρ σ H mu2 ρ2 S2 σ2 H2 → S2[n]? = S[n]? → ∃ vs, H2 a = some (.lst vs) ∧ DtA X.K (Bd ⟨g.B, mu2⟩ ρ2 σ2) H2 vs ds := fun {mu2 ρ2 S2 σ2 H2} n2 e3 => by
    rw [e2] at e3
    obtain ⟨a', h3, vs, h4, t⟩ := n2.env.sto_at e3
    have h5 : mu2[n]? = some a := by
      obtain ⟨t, rfl⟩ := n2.pre
      rw [List.getElem?_append_left (List.getElem?_eq_some_iff.mp h2).1]
      exact h2
    rw [h5] at h3; cases h3
    exact ⟨vs, h4, svk_dtA t⟩
  obtain ⟨vs0, h0, _⟩ := look (.refl ok) rfl
  refine ⟨a, rfl, ⟨vs0, SqL.of h0⟩, fun i m σ2 H2 => m = ds.length - i ∧ i ≤ ds.length ∧ ∃ mu2 ρ2 S2, Nxt X.K X.mg g ρ σ H mu2 ρ2 S2 σ2 H2 ∧ sForC n (S[n]?) bd b (ds.drop i) ρ2 S2 = some r, ⟨ds.length, by omega, Nat.zero_le _, g.mu, ρ, S, .refl ok, by simpa using e⟩, ?_⟩
  rintro i m σ2 H2 ⟨rfl, hi, mu2, ρ2, S2, n2, hf⟩
  by_cases hlt : i < ds.length
  · refine .inr ?_
    have hd : ds[i]? = some ds[i] := List.getElem?_eq_getElem hlt
    rw [List.drop_eq_getElem_cons hlt] at hf
    unfold sForC at hf
    split at hf
    case isFalse => cases hf
    rename_i hch
    obtain ⟨vs, h3, t3⟩ := look n2 hch
    obtain ⟨w, e3, rw3⟩ := t3.get hd
    obtain ⟨ρ4, e4, hf⟩ := Option.bind_eq_some_iff.mp hf
    obtain ⟨r5, e5, hf⟩ := Option.bind_eq_some_iff.mp hf
    refine ⟨⟨vs, w, SqL.of h3, e3⟩, fun σ3 H3 => ∃ mu2 ρ2 S2, Nxt X.K X.mg g ρ σ H mu2 ρ2 S2 σ3 H3 ∧ sForC n (S[n]?) bd b (ds.drop (i + 1)) ρ2 S2 = some r, fun σ3 H3 h => ⟨ds.length - (i + 1), by omega, rfl, hlt, h⟩, fun x H3 y => ?_⟩
    obtain ⟨rfl, y⟩ := y
    have e6 := y vs (SqL.of h3)
    rw [e3] at e6
    cases e6
    refine ⟨⟨g.B, mu2⟩, ρ2, S2, ds[i], ρ4, n2.env, rw3, e4, fun σ4 n4 c4 => ?_⟩
    refine ⟨⟨g.B, mu2⟩, ρ4, S2, r5, n4.env, e5, ?_⟩
    have n24 := n2.trans n4
    cases r5 with
    | nx ρ' S' => exact fun σ5 H5 mu5 n5 => ⟨mu5, ρ', S', n24.trans n5, hf⟩
    | ct ρ' S' => exact fun σ5 H5 mu5 n5 => ⟨mu5, ρ', S', n24.trans n5, hf⟩
    | bk ρ' S' =>
      have e6 : Rs.nx ρ' S' = r := Option.some.inj hf
      subst e6
      exact fun σ5 H5 mu5 n5 => k σ5 H5 mu5 (n24.trans n5)
    | rt r' S' =>
      have e6 : Rs.rt r' S' = r := Option.some.inj hf
      subst e6
      exact k.after n24
  · have e' : i = ds.length := by omega
    subst e'
    rw [List.drop_length] at hf
    unfold sForC at hf
    split at hf
    case isFalse => cases hf
    rename_i hch
    obtain ⟨vs, h3, t3⟩ := look n2 hch
    have e6 : Rs.nx ρ2 S2 = r := Option.some.inj hf
    subst e6
    exact .inl ⟨⟨vs, SqL.of h3, by rw [t3.length]; exact Nat.le_refl _⟩, k σ2 H2 mu2 n2⟩⟩
end
end DL
namespace DL
open PySem PySem.Spec PyProof.Rows L2

/-! ### built-in functions by their values -/
theorem rzA1 {l : Bool} {K : Frag} {bad : Addr → Prop} {H : Hp} {vs : List V} {d : D} (r : RzA l K bad H vs [d]) : ∃ v, vs = [v] ∧ Rz l K bad H v d := by
  cases r with
  | cons a b => cases b; exact ⟨_, rfl, a⟩
theorem rzA2 {l : Bool} {K : Frag} {bad : Addr → Prop} {H : Hp} {vs : List V} {d d2 : D} (r : RzA l K bad H vs [d, d2]) : ∃ v v2, vs = [v, v2] ∧ Rz l K bad H v d ∧ Rz l K bad H v2 d2 := by
  cases r with
  | cons a b => cases b with | cons b c => cases c; exact ⟨_, _, rfl, a, b⟩
def absD : List D → Option D
  | [.int i] => some (.int (if i < 0 then -i else i))
  | _ => none
def lenD : List D → Option D
  | [.list ds] => some (.int ds.length)
  | [.tuple ds] => some (.int ds.length)
  | [.str x] => if x.length ≤ sizeLine then some (.int x.length) else none
  | _ => none
def sumD : List D → Option D
  | [.list ds] => (intsOf ds).map fun ns => .int ns.sum
  | _ => none
def listC : List D → Option D
  | [.list ds] => some (.list ds)
  | [.tuple ds] => some (.list ds)
  | _ => none
def tupleC : List D → Option D
  | [.list ds] => some (.tuple ds)
  | [.tuple ds] => some (.tuple ds)
  | _ => none
def anyD : List D → Option D
  | [.list ds] => (boolsOf ds).map fun ns => .bool (ns.any id)
  | _ => none
def allD : List D → Option D
  | [.list ds] => (boolsOf ds).map fun ns => .bool (ns.all id)
  | _ => none
def intD1 : List D → Option D
  | [.int i] => some (.int i)
  | [.bool b] => some (.int (if b then 1 else 0))
  | _ => none
section
variable {X : Cx}
theorem cd_abs : CallD X (.builtin "abs") absD := ⟨_, call_abs, fun bad H vs ds z Q al r h q => by
  unfold absD at h
  split at h
  · cases h
    obtain ⟨v, rfl, r1⟩ := rzA1 r
    cases r1.bo.int
    exact ⟨_, rfl, q _ H (Same.refl H) (.int _)⟩
  · cases h⟩
theorem cd_len : CallD X (.builtin "len") lenD := ⟨_, call_len, fun bad H vs ds z Q al r h q => by
  unfold lenD at h
  split at h
  · cases h
    obtain ⟨v, rfl, r1⟩ := rzA1 r
    obtain ⟨a, xs, rfl, s, t⟩ := r1.bo.list
    exact ⟨_, _, rfl, .inl ⟨_, s, rfl⟩, by rw [t.length]; exact q _ H (Same.refl H) (.int _)⟩
  · cases h
    obtain ⟨v, rfl, r1⟩ := rzA1 r
    obtain ⟨a, xs, rfl, s, t⟩ := r1.bo.tuple
    exact ⟨_, _, rfl, .inr ⟨_, s, rfl⟩, by rw [t.length]; exact q _ H (Same.refl H) (.int _)⟩
  · split at h
    · rename_i hx
      cases h
      obtain ⟨v, rfl, r1⟩ := rzA1 r
      cases r1.bo.str
      exact ⟨_, _, rfl, ⟨hx, rfl⟩, q _ H (Same.refl H) (.int _)⟩
    · cases h
  · cases h⟩
theorem cd_sum (hc : X.calm = true) : CallD X (.builtin "sum") sumD := ⟨_, cr_sum hc, fun bad H vs ds z Q al r h q => by
  unfold sumD at h
  split at h
  · obtain ⟨ns, e, rfl⟩ := Option.map_eq_some_iff.mp h
    rw [intsOf_eq e] at r
    obtain ⟨v, rfl, r1⟩ := rzA1 r
    obtain ⟨a, xs, rfl, s, t⟩ := r1.bo.list
    rw [t.ints] at s
    exact ⟨_, _, rfl, s, q _ H (Same.refl H) (.int _)⟩
  · cases h⟩
theorem cd_any (hc : X.calm = true) : CallD X (.builtin "any") anyD := ⟨_, cr_any hc, fun bad H vs ds z Q al r h q => by
  unfold anyD at h
  split at h
  · obtain ⟨ns, e, rfl⟩ := Option.map_eq_some_iff.mp h
    rw [boolsOf_eq e] at r
    obtain ⟨v, rfl, r1⟩ := rzA1 r
    obtain ⟨a, xs, rfl, s, t⟩ := r1.bo.list
    rw [t.bools] at s
    exact ⟨_, _, rfl, s, q _ H (Same.refl H) (.bl _)⟩
  · cases h⟩
theorem cd_all (hc : X.calm = true) : CallD X (.builtin "all") allD := ⟨_, cr_all hc, fun bad H vs ds z Q al r h q => by
  unfold allD at h
  split at h
  · obtain ⟨ns, e, rfl⟩ := Option.map_eq_some_iff.mp h
    rw [boolsOf_eq e] at r
    obtain ⟨v, rfl, r1⟩ := rzA1 r
    obtain ⟨a, xs, rfl, s, t⟩ := r1.bo.list
    rw [t.bools] at s
    exact ⟨_, _, rfl, s, q _ H (Same.refl H) (.bl _)⟩
  · cases h⟩
theorem cd_list : CallD X (.type "list") listC := ⟨_, call_list_of, fun bad H vs ds z Q al r h q => by
  unfold listC at h
  split at h
  · cases h
    obtain ⟨v, rfl, r1⟩ := rzA1 r
    obtain ⟨a, xs, rfl, s, t⟩ := r1.bo.list
    exact ⟨_, _, rfl, .inl s, fun l hl => q _ _ (same_new hl) (Dt.newL al hl t)⟩
  · cases h
    obtain ⟨v, rfl, r1⟩ := rzA1 r
    obtain ⟨a, xs, rfl, s, t⟩ := r1.bo.tuple
    exact ⟨_, _, rfl, .inr s, fun l hl => q _ _ (same_new hl) (Dt.newL al hl t)⟩
  · cases h⟩
theorem cd_tuple : CallD X (.type "tuple") tupleC := ⟨_, call_tuple_of, fun bad H vs ds z Q al r h q => by
  unfold tupleC at h
  split at h
  · cases h
    obtain ⟨v, rfl, r1⟩ := rzA1 r
    obtain ⟨a, xs, rfl, s, t⟩ := r1.bo.list
    exact ⟨_, _, rfl, .inl ⟨s, fun l hl => q _ _ (same_new hl) (Dt.newT al hl t)⟩⟩
  · cases h
    obtain ⟨v, rfl, r1⟩ := rzA1 r
    have rd := r1.bo
    cases rd with
    | of rd =>
      cases rd with
      | tup s t => exact ⟨_, _, rfl, .inr ⟨s.sq, q _ H (Same.refl H) (.tup s t)⟩⟩
  · cases h⟩
theorem cd_int : CallD X (.type "int") intD1 := ⟨_, call_int1, fun bad H vs ds z Q al r h q => by
  unfold intD1 at h
  split at h
  · cases h
    obtain ⟨v, rfl, r1⟩ := rzA1 r
    cases r1.bo.int
    exact .inl ⟨_, rfl, q _ H (Same.refl H) (.int _)⟩
  · cases h
    obtain ⟨v, rfl, r1⟩ := rzA1 r
    cases r1.bo.bool
    exact .inr ⟨_, rfl, q _ H (Same.refl H) (.int _)⟩
  · cases h⟩
/-! repr of a list or a tuple -/
def reprD : List D → Option D
  | [.list ds] => if (PyData.list ds).showable = true ∧ (PyData.list ds).hasDict = false ∧ (PyData.list ds).depth ≤ 60 ∧ (PyData.list ds).shown.length ≤ sizeLine then some (.str (PyData.list ds).shown) else none
  | [.tuple ds] => if (PyData.tuple ds).showable = true ∧ (PyData.tuple ds).hasDict = false ∧ (PyData.tuple ds).depth ≤ 60 ∧ (PyData.tuple ds).shown.length ≤ sizeLine then some (.str (PyData.tuple ds).shown) else none
  | _ => none
def rRepr (K : Frag) : List V → Hp → VK → Prop := fun vs H Q => ∃ (a : Addr) (d : D), vs = [.ref a] ∧ Dp K H (.ref a) d ∧ d.showable = true ∧ d.hasDict = false ∧ d.depth ≤ 60 ∧ d.shown.length ≤ sizeLine ∧ Q (.str d.shown) H
theorem call_reprD (hg : X.A.guards = some []) (hu : X.A.units + 64 < cLine) : CallR X (.builtin "repr") (rRepr X.K) := by
  intro pins s σ H vs us Q I r h
  obtain ⟨a, d, rfl, hd, h1, h2, h3, h4, q⟩ := h
  rw [Vals.ref1 r]
  obtain ⟨as, rd⟩ := Dp.reads I d _ _ hd rfl
  exact repr_of_reads' rd h1 (fun z => by rw [h2] at z; cases z) hg (by omega) (fun b o e => e) (fun h' u tk k => ⟨.str d.shown, H, I.kept k, ⟨_, rfl⟩, q⟩) h4
theorem cd_repr (hg : X.A.guards = some []) (hu : X.A.units + 64 < cLine) : CallD X (.builtin "repr") reprD := ⟨_, call_reprD hg hu, fun bad H vs ds z Q al r h q => by
  unfold reprD at h
  split at h
  · split at h
    · rename_i hc
      cases h
      obtain ⟨v, rfl, r1⟩ := rzA1 r
      obtain ⟨a, xs, rfl, s, t⟩ := r1.bo.list
      exact ⟨_, _, rfl, r1.bo.dp, hc.1, hc.2.1, hc.2.2.1, hc.2.2.2, q _ H (Same.refl H) (.str _)⟩
    · cases h
  · split at h
    · rename_i hc
      cases h
      obtain ⟨v, rfl, r1⟩ := rzA1 r
      obtain ⟨a, xs, rfl, s, t⟩ := r1.bo.tuple
      exact ⟨_, _, rfl, r1.bo.dp, hc.1, hc.2.1, hc.2.2.1, hc.2.2.2, q _ H (Same.refl H) (.str _)⟩
    · cases h
  · cases h⟩
/-! isinstance(e, T), T a built-in type -/
def tyD : D → String
  | .none => "NoneType"
  | .bool _ => "bool"
  | .int _ => "int"
  | .str _ => "str"
  | .list _ => "list"
  | .tuple _ => "tuple"
  | .dict _ => "dict"
def isiD (T : String) (d : D) : Option D := (kitB (tyD d) T).map .bool
theorem bo_ty {K : Frag} {bad : Addr → Prop} {H : Hp} {v : V} {d : D} (r : Bo K bad H v d) : TyX K H v (.type (tyD d)) := by
  cases r with
  | of r =>
    cases r with
    | non => exact .base .non
    | bl b => exact .base (.bl b)
    | int b => exact .base (.int b)
    | str b => exact .base (.str b)
    | lst s t =>
      rcases s with ⟨r, n⟩ | ⟨o, its, n, e, c, _⟩
      · rcases r with r | ⟨o, r⟩
        · exact .base (.lst r)
        · exact .base (.frz r)
      · exact .kList e c
    | tup s t =>
      rcases s with ⟨r, n⟩ | ⟨o, its, n, e, c, _⟩
      · rcases r with r | ⟨o, r⟩
        · exact .base (.tup r)
        · exact .fTuple r
      · exact .kTuple e c
  | lst r t =>
    rcases r with r | ⟨o, r⟩
    · exact .base (.lst r)
    · exact .base (.frz r)
def eIsi (T : String) (f : EF) : EF := fun ρ S => (f ρ S).bind (isiD T)
theorem dq_isi {x y : Str} {T : String} {l : Bool} {f : EF} {e : Expr} {p p2 pos : Pos} (hg : Gl X x) (hm : X.mg x = none) (hv : bootBuiltins x = some (.builtin "isinstance")) (hg2 : Gl X y) (hm2 : X.mg y = none) (hv2 : bootBuiltins y = some (.type T)) (h : DQ X l e f)
    (hn : x ≠ "__name__" := by decide) (hdb : (x == ("__debug__" : Str)) = false := by decide) (hn2 : y ≠ "__name__" := by decide) (hdb2 : (y == ("__debug__" : Str)) = false := by decide)
    (he : starEach [e, .Name y p2] X.env = (false, eval e X.env) :: starEach [.Name y p2] X.env := by rfl) (he2 : starEach [.Name y p2] X.env = [(false, eval (.Name y p2) X.env)] := by rfl) (hpl : (backTo pos (starEach [.Name y p2] X.env)).any (·.1) = false := by rfl) :
    DQ X true (.Call (.Name x p) [e, .Name y p2] [] pos) (eIsi T f) := ⟨PE.imp (pe_callB call_isi hg hm hv (pa_cons h.pe (pa_cons (pe_bltn hg2 hm2 hv2 (v := .ty T) rfl hn2 hdb2) pa_nil he2) he) hn hdb he hpl) fun σ H Q q => by
  obtain ⟨g, ρ, S, d, ok, e, q⟩ := q
  obtain ⟨d1, e1, e2⟩ := Option.bind_eq_some_iff.mp e
  obtain ⟨b, e3, rfl⟩ := Option.map_eq_some_iff.mp e2
  exact ⟨g, ρ, S, d1, ok, e1, fun v H1 s1 r1 => ⟨v, .ty T, _, .type T, b, rfl, .ty T, bo_ty r1.bo, kit_ty e3, q _ H1 s1 (.bl b)⟩⟩⟩
end
end DL
namespace DL
open PySem PySem.Spec PyProof.Rows L2

/-! ### zip of lists and tuples, in any mix -/
def SqK (k : Bool) (K : Frag) (H : Hp) (a : Addr) (xs : List V) : Prop := match k with
  | true => SqT K H a xs
  | false => SqL K H a xs
def ItK (k : Bool) (h : Heap) (it a : Addr) (i : Nat) : Prop := match k with
  | true => h.IsTupleIter it a i
  | false => h.IsListIter it a i
def AtK (k : Bool) (h : Heap) (a : Addr) (its : Array Value) : Prop := match k with
  | true => h.IsTuple a its
  | false => h.IsList a its
section
variable {X : Cx} {pins : List (Addr × Obj)} {σ : L2.St} {H : Hp} {s : Shared} {a : Addr} {xs ys : List V} {k : Bool}
theorem seqK (I : Inv X pins σ H s) (h : SqK k X.K H a xs) : ∃ its : List Value, Vals xs its ∧ AtK k s.heap a its.toArray ∧ a < s.heap.objs.size := by
  cases k with
  | true =>
    obtain ⟨its, rv, p, _⟩ := I.tuple h
    obtain ⟨o, ho, _⟩ := id p
    exact ⟨its, rv, p, Heap.lt_size ho⟩
  | false =>
    obtain ⟨its, rv, p, _⟩ := I.list h
    exact ⟨its, rv, p.isList, p.lt⟩
theorem seqK_inj (I : Inv X pins σ H s) (h : SqK k X.K H a xs) (h2 : SqK k X.K H a ys) : xs = ys := by
  cases k with
  | true => exact I.tuple_inj h h2
  | false => exact I.list_inj h h2
theorem drawsK {prog : Program} {w : World} {A : Around} (k : Bool) (hh : A.handled = none) (it l : Addr) (hne : l ≠ it) (items : Array Value) :
    Draws prog w A it [it, l] items.size (fun i v => items[i]? = some v) (fun i h => ItK k h it l i ∧ AtK k h l items) := by
  cases k with
  | true => exact .tuple hh it l hne items
  | false => exact .list hh it l hne items
theorem ItK.at {k : Bool} {h h' : Heap} {it : Addr} {i : Nat} (x : ItK k h it a i) (hk : ∀ o, h.get? it = some o → h'.get? it = some o) : ItK k h' it a i := by
  cases k with
  | true => exact Heap.IsTupleIter.at x hk
  | false => exact Heap.IsListIter.at x hk
theorem ItK.obj {k : Bool} {h : Heap} {it : Addr} {i : Nat} (x : ItK k h it a i) : ∃ o, h.get? it = some o ∧ ∀ v, o.data ≠ .cell v := by
  cases k with
  | true =>
    obtain ⟨o, e, _, d⟩ := x
    exact ⟨o, e, fun v q => by rw [d] at q; cases q⟩
  | false =>
    obtain ⟨o, e, _, d⟩ := x
    exact ⟨o, e, fun v q => by rw [d] at q; cases q⟩
end
def Itk (k1 k2 : Bool) (K : Frag) (a b : Addr) : It :=
  ⟨fun i H => ∃ (xs ys : List V) (x y : V), SqK k1 K H a xs ∧ SqK k2 K H b ys ∧ xs[i]? = some x ∧ ys[i]? = some y,
    fun i H v H' => ∃ T x y, v = .ref T ∧ H T = none ∧ H' = upd H T (.tup [x, y]) ∧ (∀ xs, SqK k1 K H a xs → xs[i]? = some x) ∧ ∀ ys, SqK k2 K H b ys → ys[i]? = some y,
    fun i H => ∃ xs ys : List V, SqK k1 K H a xs ∧ SqK k2 K H b ys ∧ xs.length ≤ ys.length ∧ xs.length = i ∨ (∃ xs ys : List V, SqK k1 K H a xs ∧ SqK k2 K H b ys ∧ ys.length ≤ xs.length ∧ ys.length = i)⟩
theorem sepZ {z TI TO i1 i2 a b : Addr} (D : ZipApart z TI TO i1 i2 a b) : ZipSep2 z TI TO i1 i2 [i1, a] [i2, b] where
  TIz := D.TIz
  TOz := D.TOz
  TITO := D.TITO
  TIi1 := D.TIi1
  mem1 := by simp
  zf1 := fun z => by
    rcases List.mem_cons.mp z with e | e
    · exact D.i1z e.symm
    · exact D.l1z (List.mem_singleton.mp e).symm
  Tf1 := fun z => by
    rcases List.mem_cons.mp z with e | e
    · exact D.TOi1 e
    · exact D.l1TO (List.mem_singleton.mp e).symm
  TIi2 := D.TIi2
  mem2 := by simp
  zf2 := fun z => by
    rcases List.mem_cons.mp z with e | e
    · exact D.i2z e.symm
    · exact D.l2z (List.mem_singleton.mp e).symm
  Tf2 := fun z => by
    rcases List.mem_cons.mp z with e | e
    · exact D.TOi2 e
    · exact D.l2TO (List.mem_singleton.mp e).symm
  sep1_2 := fun z => by
    rcases List.mem_cons.mp z with e | e
    · exact D.i12 e
    · exact D.l2i1 (List.mem_singleton.mp e).symm
  sep2_1 := fun z => by
    rcases List.mem_cons.mp z with e | e
    · exact D.i12 e.symm
    · exact D.l1i2 (List.mem_singleton.mp e).symm
theorem turn_zipK {P : Program} {w : World} {K : Frag} {elts : List Expr} {kk : Nat} {tpos : Pos} {k1 k2 : Bool} {a b z TI TO i1 i2 : Addr} (D : ZipApart z TI TO i1 i2 a b) :
    Turn P w K (.Tuple elts kk tpos) (Itk k1 k2 K a b) [z, TI, TO, i1, i2] z (fun i h => IsZip h z TI TO .none ∧ IsPair h TI (.ref i1) (.ref i2) ∧ (∃ x y, IsPair h TO x y) ∧ ItK k1 h i1 a i ∧ ItK k2 h i2 b i) where
  mem := by simp
  obj := fun i h st c hc => by
    obtain ⟨hz, hTI, ⟨x, y, hTO⟩, h1, h2⟩ := st
    have e' : c = z ∨ c = TI ∨ c = TO ∨ c = i1 ∨ c = i2 := by simpa using hc
    rcases e' with q | q | q | q | q
    · rw [q]; exact ⟨_, hz, fun v q => nomatch q⟩
    · rw [q]; exact ⟨_, hTI, fun v q => nomatch q⟩
    · rw [q]; exact ⟨_, hTO, fun v q => nomatch q⟩
    · rw [q]; exact h1.obj
    · rw [q]; exact h2.obj
  keep := fun i h h' st k => by
    obtain ⟨hz, hTI, ⟨x, y, hTO⟩, h1, h2⟩ := st
    exact ⟨k z (by simp) _ hz, k TI (by simp) _ hTI, ⟨x, y, k TO (by simp) _ hTO⟩, h1.at fun o q => k i1 (by simp) o q, h2.at fun o q => k i2 (by simp) o q⟩
  item := by
    intro X hP hw hK hc i pins s σ H E I hf st hg
    subst hP hw hK
    obtain ⟨hz, hTI, ⟨x0, y0, hTO⟩, h1, h2⟩ := st
    obtain ⟨xs, ys, x, y, hqx, hqy, hx, hy⟩ := hg
    obtain ⟨its, rv, p, _⟩ := seqK I hqx
    obtain ⟨its2, rv2, p2, _⟩ := seqK I hqy
    have hzl : z < s.heap.objs.size := Heap.lt_size hz
    have hd : X.A.in1.handled = none := I.ok.hd hc
    have l1 := rv.length
    have l2 := rv2.length
    have b1 := (List.getElem?_eq_some_iff.mp hx).1
    have b2 := (List.getElem?_eq_some_iff.mp hy).1
    refine wpAny_pyNext_zipD2_item (sepZ D) (drawsK k1 hd i1 a D.l1i1 its.toArray) (drawsK k2 hd i2 b D.l2i2 its2.toArray) hz hTI hTO ⟨h1, p⟩ ⟨h2, p2⟩ (by rw [List.size_toArray]; omega) (by rw [List.size_toArray]; omega) fun u u2 h' tk hu hu2 z' TO' h1' h2' hT hsz hk => ?_
    obtain ⟨v, hv, ru⟩ := rv.get hx
    obtain ⟨v2, hv2, ru2⟩ := rv2.get hy
    have eu : v = u := by
      have q : its[i]? = some u := by simpa using hu
      rw [hv] at q; cases q; rfl
    have eu2 : v2 = u2 := by
      have q : its2[i]? = some u2 := by simpa using hu2
      rw [hv2] at q; cases q; rfl
    subst eu eu2
    refine ⟨_, rfl, wpAny_letOwnedTupleGo_zip (s := { s with heap := h', toks := tk }) z' fun h'' z'' sb => ?_⟩
    have hT2 : h''.get? s.heap.objs.size = some { cls := .type "tuple", data := .seq #[v, v2] } := (sb.2 _ (Nat.ne_of_gt hzl)).trans hT
    have new : ObjOk X.prog X.w (upd H s.heap.objs.size (.tup [x, y])) h'' s.heap.objs.size (.tup [x, y]) :=
      ⟨by show 2 ≤ sizeLine; decide, [v, v2], .cons ru (.cons ru2 .nil), ⟨_, hT2, rfl, _, rfl⟩⟩
    have I1 : Inv X pins σ (upd H s.heap.objs.size (.tup [x, y])) { s with heap := h'', toks := tk } :=
      I.turnedNew (ch := [z, TI, TO, i1, i2]) (fun c o hb q => (sb.2 c (fun q' => hb (by simp [q']))).trans (hk c o (fun q' => hb (by simp [q'])) (fun q' => hb (by simp [q'])) (fun q' => hb (by simp [q'])) (fun q' => hb (by simp [q'])) q)) hf (Nat.le_refl _) new
    refine ⟨.ref s.heap.objs.size, _, I1, rfl, ⟨_, x, y, rfl, I.hok.fresh (Nat.le_refl _), rfl, fun l hl => by rw [seqK_inj I hl hqx]; exact hx, fun l hl => by rw [seqK_inj I hl hqy]; exact hy⟩, ⟨z'', ?_, ⟨v, v2, ?_⟩, ?_, ?_⟩, fun c hcm => ?_⟩
    · exact (sb.2 _ D.TIz).trans (hk _ _ D.TIz D.TITO D.TIi1 D.TIi2 hTI)
    · exact (sb.2 _ D.TOz).trans TO'
    · exact h1'.1.at fun o q => (sb.2 _ D.i1z).trans q
    · exact h2'.1.at fun o q => (sb.2 _ D.i2z).trans q
    · have hlt : c < s.heap.objs.size := by
        have e' : c = z ∨ c = TI ∨ c = TO ∨ c = i1 ∨ c = i2 := by simpa using hcm
        rcases e' with q | q | q | q | q
        · rw [q]; exact hzl
        · rw [q]; exact Heap.lt_size hTI
        · rw [q]; exact Heap.lt_size hTO
        · rw [q]; obtain ⟨_, e1, _⟩ := h1.obj; exact Heap.lt_size e1
        · rw [q]; obtain ⟨_, e1, _⟩ := h2.obj; exact Heap.lt_size e1
      rw [upd_ne (Nat.ne_of_lt hlt)]
      exact (hf c hcm).1
  done := by
    intro X hP hw hK hc i pins s σ H E I hf st hg
    subst hP hw hK
    obtain ⟨hz, hTI, ⟨x0, y0, hTO⟩, h1, h2⟩ := st
    have key : ∃ xs ys : List V, SqK k1 X.K H a xs ∧ SqK k2 X.K H b ys ∧ i ≤ xs.length ∧ i ≤ ys.length ∧ (i = xs.length ∨ i = ys.length) := by
      obtain ⟨xs, ys, h⟩ := hg
      rcases h with ⟨q1, q2, q3, q4⟩ | ⟨xs, ys, q1, q2, q3, q4⟩
      · exact ⟨xs, ys, q1, q2, by omega, by omega, by omega⟩
      · exact ⟨xs, ys, q1, q2, by omega, by omega, by omega⟩
    obtain ⟨xs, ys, hqx, hqy, g1, g2, g3⟩ := key
    obtain ⟨its, rv, p, _⟩ := seqK I hqx
    obtain ⟨its2, rv2, p2, _⟩ := seqK I hqy
    have hd : X.A.in1.handled = none := I.ok.hd hc
    have l1 := rv.length
    have l2 := rv2.length
    refine wpAny_pyNext_zipD2_end (sepZ D) (drawsK k1 hd i1 a D.l1i1 its.toArray) (drawsK k2 hd i2 b D.l2i2 its2.toArray) hz hTI hTO ⟨h1, p⟩ ⟨h2, p2⟩ (by rw [List.size_toArray]; omega) (by rw [List.size_toArray]; omega) (by rw [List.size_toArray, List.size_toArray]; omega) fun h' tk hk => ⟨rfl, I.turnedL (ch := [z, TI, TO, i1, i2]) (fun c o hb q =>
      hk c o (fun q' => hb (by simp [q'])) (fun q' => hb (by simp [q'])) (fun q' => hb (by simp [q'])) (fun q' => hb (by simp [q'])) q) hf⟩
  self := fun A i s Q E st h => wpAny_pyIter_zip st.1 h
def objK (k : Bool) (l : Addr) : Obj := match k with
  | true => { cls := .type "tuple_iterator", data := .fields #[.ref l, .int 0 0] }
  | false => { cls := .type "list_iterator", data := .fields #[.ref l, .int 0 0] }
theorem beginsK (k : Bool) (l : Addr) (items : Array Value) : Begins (.ref l) (objK k l) fun h => AtK k h l items := by
  cases k with
  | true => exact begins_tuple l items
  | false => exact begins_list l items
theorem itK_new {k : Bool} {h : Heap} {it l : Addr} (e : h.get? it = some (objK k l)) : ItK k h it l 0 := by
  cases k with
  | true => exact ⟨_, e, rfl, rfl⟩
  | false => exact ⟨_, e, rfl, rfl⟩
def iZipK (K : Frag) (ta : TA) : TI := fun σ H R => ta σ H fun vs H1 => ∃ k1 k2 a b xs ys, vs = [.ref a, .ref b] ∧ SqK k1 K H1 a xs ∧ SqK k2 K H1 b ys ∧ R (Itk k1 k2 K a b) H1
theorem pi_zipK {X : Cx} {e e2 : Expr} {ta : TA} {p pos tpos : Pos} {elts : List Expr} {kk : Nat} (hg : Gl X "zip") (hm : X.mg "zip" = none) (ha : PA X [e, e2] ta)
    (hs : starEach [e, e2] X.env = (false, eval e X.env) :: starEach [e2] X.env := by rfl) (hpl : (backTo pos (starEach [e2] X.env)).any (·.1) = false := by rfl) :
    PI X (.Tuple elts kk tpos) (.Call (.Name "zip" p) [e, e2] [] pos) (iZipK X.K ta) := by
  refine ⟨fun pins s σ H R I h => ?_⟩
  refine Call_ (ld_blt I hg hm PyProof.Rows.boot_zip (PyProof.Rows.callWith_type1 (thn (ha.run pos pins s σ H _ I h) fun us s1 ⟨vs, H1, I1, r1, q1⟩ => ?_) hs hpl))
  obtain ⟨k1, k2, a, b, xs, ys, ex, hqx, hqy, q⟩ := q1
  subst ex
  obtain ⟨u, u', rfl, r, r'⟩ := vals2 r1
  cases r
  cases r'
  have fresh5 : ∀ c, c ∈ [s1.heap.objs.size + 4, s1.heap.objs.size + 2, s1.heap.objs.size + 3, s1.heap.objs.size, s1.heap.objs.size + 1] → FpOk X pins H1 c := fun c hcm => by
    have e' : c = s1.heap.objs.size + 4 ∨ c = s1.heap.objs.size + 2 ∨ c = s1.heap.objs.size + 3 ∨ c = s1.heap.objs.size ∨ c = s1.heap.objs.size + 1 := by simpa using hcm
    have hle : s1.heap.objs.size ≤ c := by
      rcases e' with z | z | z | z | z <;> rw [z] <;> first | exact Nat.le_add_right _ _ | exact Nat.le_refl _
    exact I1.fpOk hle (I1.hok.fresh hle)
  obtain ⟨its, rv, p1, lt1⟩ := seqK I1 hqx
  obtain ⟨its2, rv2, p2, lt2⟩ := seqK I1 hqy
  refine zip_begins2 (beginsK k1 a its.toArray) (beginsK k2 b its2.toArray) p1 p2 fun h' hz hTI hTO h1 h2 hsz hk => wpAny_pyIter_zip hz ?_
  have I2 : Inv X pins σ H1 { s1 with heap := h' } := I1.kept (t' := s1.toks) hk
  exact ⟨s1.heap.objs.size + 4, [s1.heap.objs.size + 4, s1.heap.objs.size + 2, s1.heap.objs.size + 3, s1.heap.objs.size, s1.heap.objs.size + 1], _, _, H1, rfl, I2, turn_zipK (PySem.W.ktu_apart s1.heap.objs.size a b lt1 lt2), ⟨hz, hTI, ⟨_, _, hTO⟩, itK_new h1, itK_new h2⟩, fresh5, q⟩

/-! its data -/
def zipD (xs ys : List D) : List D := (xs.zip ys).map fun p => .tuple [p.1, p.2]
theorem JX.zip {K : Frag} {bad M : Addr → Prop} {H : Hp} {a b : Addr} {k1 k2 : Bool} {xs ys : List V} {ds es : List D} (hM : ∀ b, M b → bad b) (hs : ∀ H', Pres M H H' → SqK k1 K H' a xs) (hs2 : ∀ H', Pres M H H' → SqK k2 K H' b ys)
    (ha : DtA K bad H xs ds) (hb : DtA K bad H ys es) : JX K bad M H (Itk k1 k2 K a b) (zipD ds es) noHd where
  item := fun i d e bad' H' p g al _ => by
    unfold zipD at e
    rw [List.getElem?_map] at e
    obtain ⟨⟨d1, d2⟩, e1, rfl⟩ := Option.map_eq_some_iff.mp e
    rw [List.getElem?_zip_eq_some] at e1
    obtain ⟨v1, f1, r1⟩ := ha.get e1.1
    obtain ⟨v2, f2, r2⟩ := hb.get e1.2
    have tr : ∀ {v : V} {d : D}, Dt K bad H v d → Dt K bad' H' v d := fun r => Dt.tr (fun b o e n => p b o e fun z => n (hM b z)) g _ _ r
    refine ⟨⟨xs, ys, v1, v2, hs H' p, hs2 H' p, f1, f2⟩, fun x H'' y => ?_⟩
    obtain ⟨T, x, y, rfl, hT, rfl, q1, q2⟩ := y
    have g1 := q1 xs (hs _ p)
    have g2 := q2 ys (hs2 _ p)
    rw [f1] at g1; cases g1
    rw [f2] at g2; cases g2
    exact ⟨same_new hT, Dt.newT al hT (.cons (tr r1) (.cons (tr r2) .nil))⟩
  stop := fun H' _ p _ => by
    unfold zipD
    rw [List.length_map, List.length_zip, ← ha.length, ← hb.length]
    by_cases h : xs.length ≤ ys.length
    · exact ⟨xs, ys, .inl ⟨hs H' p, hs2 H' p, h, by omega⟩⟩
    · exact ⟨xs, ys, .inr ⟨xs, ys, hs H' p, hs2 H' p, by omega, by omega⟩⟩
def seqOf : D → Option (List D)
  | .list ds => some ds
  | .tuple ds => some ds
  | _ => none
def zipOf : List D → Option (List D)
  | [a, b] => (seqOf a).bind fun xs => (seqOf b).map fun ys => zipD xs ys
  | _ => none
theorem seqOf_at {K : Frag} {bad : Addr → Prop} {H : Hp} {v : V} {d : D} {ds : List D} (r : Bo K bad H v d) (h : seqOf d = some ds) : ∃ k a xs, v = .ref a ∧ SqK k K H a xs ∧ DtA K bad H xs ds ∧ ∀ H', Pres noM H H' → SqK k K H' a xs := by
  unfold seqOf at h
  split at h
  · cases h
    obtain ⟨a, xs, rfl, sq, t⟩ := r.list
    exact ⟨false, a, xs, rfl, sq, t, fun H' p => SqL.pres sq (fun _ z => z) p⟩
  · cases h
    obtain ⟨a, xs, rfl, sq, t⟩ := r.tuple
    exact ⟨true, a, xs, rfl, sq, t, fun H' p => SqT.pres sq (fun _ z => z) p⟩
  · cases h
def iZipQ (fs : List EF) : IQ := fun ρ S => (evs fs ρ S).bind zipOf
section
variable {X : Cx} {e e2 a b : Expr} {rest : List Expr} {l l1 l2 : Bool} {f f2 g : EF} {p pos tpos : Pos} {elts : List Expr} {kk : Nat}
theorem diq_zip (ha : DAq X l [e, e2] [f, f2]) (hg : Gl X "zip") (hm : X.mg "zip" = none) (hs : starEach [e, e2] X.env = (false, eval e X.env) :: starEach [e2] X.env := by rfl) (hpl : (backTo pos (starEach [e2] X.env)).any (·.1) = false := by rfl) :
    DIq X (.Tuple elts kk tpos) (.Call (.Name "zip" p) [e, e2] [] pos) (iZipQ [f, f2]) := ⟨PI.imp (pi_zipK hg hm ha.pa hs hpl) fun σ H R q => by
  obtain ⟨g, ρ, S, ds, ok, e, q⟩ := q
  obtain ⟨es, e1, e2⟩ := Option.bind_eq_some_iff.mp e
  refine ⟨g, ρ, S, es, ok, e1, fun vs H1 s1 r1 => ?_⟩
  unfold zipOf at e2
  split at e2
  · obtain ⟨xs, h1, e2⟩ := Option.bind_eq_some_iff.mp e2
    obtain ⟨ys, h2, rfl⟩ := Option.map_eq_some_iff.mp e2
    obtain ⟨v, v2, rfl, w1, w2⟩ := rzA2 r1
    obtain ⟨k1, a, us, rfl, s2, t2, p2⟩ := seqOf_at w1.bo h1
    obtain ⟨k2, b, ws, rfl, s3, t3, p3⟩ := seqOf_at w2.bo h2
    exact ⟨k1, k2, a, b, us, ws, rfl, s2, s3, q _ H1 s1 (.zip (fun b z => z.elim) p2 p3 t2 t3)⟩
  · cases e2⟩
/-! enumerate(list) -/
def enumD (i : Nat) : List D → List D
  | [] => []
  | d :: ds => .tuple [.int (i : Int), d] :: enumD (i + 1) ds
theorem enumD_length : ∀ (ds : List D) (i : Nat), (enumD i ds).length = ds.length
  | [], _ => rfl
  | d :: ds, i => by rw [enumD, List.length_cons, List.length_cons, enumD_length ds]
theorem enumD_get : ∀ {ds : List D} {i k : Nat} {d : D}, (enumD i ds)[k]? = some d → ∃ d', ds[k]? = some d' ∧ d = .tuple [.int ((i + k : Nat) : Int), d']
  | [], i, k, d, h => by simp [enumD] at h
  | x :: ds, i, 0, d, h => by
    simp [enumD] at h
    exact ⟨x, rfl, h.symm⟩
  | x :: ds, i, k + 1, d, h => by
    obtain ⟨d', e, r⟩ := enumD_get (ds := ds) (i := i + 1) (k := k) (d := d) (by simpa [enumD] using h)
    exact ⟨d', by simpa using e, by rw [r]; congr 3; omega⟩
theorem JX.enum {K : Frag} {bad M : Addr → Prop} {H : Hp} {a : Addr} {xs : List V} {ds : List D} (hM : ∀ b, M b → bad b) (hs : ∀ H', Pres M H H' → SqL K H' a xs) (ha : DtA K bad H xs ds) : JX K bad M H (Ite K a) (enumD 0 ds) noHd where
  item := fun i d e bad' H' p g al _ => by
    obtain ⟨d1, e1, rfl⟩ := enumD_get e
    obtain ⟨v1, f1, r1⟩ := ha.get e1
    refine ⟨⟨xs, v1, hs H' p, f1⟩, fun x H'' y => ?_⟩
    obtain ⟨T, x, rfl, hT, rfl, q1⟩ := y
    have g1 := q1 xs (hs _ p)
    rw [f1] at g1; cases g1
    refine ⟨same_new hT, Dt.newT al hT (.cons ?_ (.cons (Dt.tr (fun b o e n => p b o e fun z => n (hM b z)) g _ _ r1) .nil))⟩
    rw [Nat.zero_add]
    exact .int _
  stop := fun H' _ p _ => ⟨xs, hs H' p, by rw [enumD_length, ha.length]; exact Nat.le_refl _⟩
def enumOf : List D → Option (List D)
  | [.list ds] => some (enumD 0 ds)
  | _ => none
def iEnumQ (fs : List EF) : IQ := fun ρ S => (evs fs ρ S).bind enumOf
theorem diq_enum (ha : DAq X l [e] [f]) (hg : Gl X "enumerate") (hm : X.mg "enumerate" = none) (hs : starEach [e] X.env = [(false, eval e X.env)] := by rfl) : DIq X (.Tuple elts kk tpos) (.Call (.Name "enumerate" p) [e] [] pos) (iEnumQ [f]) := ⟨PI.imp (pi_enum hg hm ha.pa hs) fun σ H R q => by
  obtain ⟨g, ρ, S, ds, ok, e, q⟩ := q
  obtain ⟨es, e1, e2⟩ := Option.bind_eq_some_iff.mp e
  refine ⟨g, ρ, S, es, ok, e1, fun vs H1 s1 r1 => ?_⟩
  unfold enumOf at e2
  split at e2
  · cases e2
    obtain ⟨v, rfl, w1⟩ := rzA1 r1
    obtain ⟨a, xs, rfl, sq, t⟩ := w1.bo.list
    exact ⟨a, xs, rfl, sq, q _ H1 s1 (.enum (fun b z => z.elim) (fun H' p => SqL.pres sq (fun _ z => z) p) t)⟩
  · cases e2⟩

/-! ### truth of values; and, or, not as values -/
def truD : D → Option Bool
  | .none => some false
  | .bool b => some b
  | .int i => some (i != 0)
  | .str x => if x.length ≤ sizeLine then some ((x.length : Int) != 0) else none
  | .list ds => some (!ds.isEmpty)
  | .tuple ds => some (!ds.isEmpty)
  | .dict _ => none
theorem tru_bo {K : Frag} {bad : Addr → Prop} {H : Hp} {v : V} {d : D} {b : Bool} (r : Bo K bad H v d) (h : truD d = some b) : TruV K v H b := by
  unfold truD at h
  split at h
  · cases h; cases r.none; rfl
  · cases h; cases r.bool; rfl
  · cases h; cases r.int; rfl
  · split at h
    · rename_i hx
      cases h; cases r.str; exact ⟨hx, rfl⟩
    · cases h
  · cases h
    obtain ⟨a, xs, rfl, sq, t⟩ := r.list
    exact .inl ⟨xs, sq, by cases t <;> rfl⟩
  · cases h
    obtain ⟨a, xs, rfl, sq, t⟩ := r.tuple
    exact .inr (.inl ⟨xs, sq, by cases t <;> rfl⟩)
  · cases h
/-- a test of any value -/
theorem dt_tru (h : DQ X l e f) (he : ∀ whole, isTrue e X.env whole = (do let v ← whole; standAt e.pos; holding [v] (truthy v)) := by intro _; rfl) : DT X e (tOf f truD) := ⟨PT.imp (pt_truth h.pe he) fun σ H Q q => by
  obtain ⟨g, ρ, S, r, ok, e, q⟩ := q
  obtain ⟨d, e1, e2⟩ := Option.bind_eq_some_iff.mp e
  exact ⟨g, ρ, S, d, ok, e1, fun v H1 s1 v1 => ⟨_, tru_bo v1.bo e2, q H1 s1⟩⟩⟩
def eAnd (f g : EF) : EF := fun ρ S => (f ρ S).bind fun d => (truD d).bind fun b => if b = true then g ρ S else some d
def eOr (f g : EF) : EF := fun ρ S => (f ρ S).bind fun d => (truD d).bind fun b => if b = true then some d else g ρ S
def eNot (f : EF) : EF := fun ρ S => (f ρ S).bind fun d => (truD d).map fun b => .bool (!b)
theorem dq_one {op : BoolOp} (h : DQ X l a f) : DQ X l (.BoolOp op [a] pos) f := ⟨pe_one h.pe⟩
theorem dq_and (ha : DQ X l a f) (hb : DQ X l (.BoolOp .And (b :: rest) pos) g) : DQ X l (.BoolOp .And (a :: b :: rest) pos) (eAnd f g) := ⟨PE.imp (pe_andT ha.pe hb.pe) fun σ H Q q => by
  obtain ⟨g, ρ, S, r, ok, e, q⟩ := q
  obtain ⟨d, e1, e2⟩ := Option.bind_eq_some_iff.mp e
  obtain ⟨t, e3, e4⟩ := Option.bind_eq_some_iff.mp e2
  refine ⟨g, ρ, S, d, ok, e1, fun v H1 s1 v1 => ⟨t, tru_bo v1.bo e3, ?_⟩⟩
  cases t with
  | true => exact ⟨g, ρ, S, r, ok.same s1, e4, fun v2 H2 s2 v3 => q v2 H2 (s1.trans s2) v3⟩
  | false => cases e4; exact q v H1 s1 v1⟩
theorem dq_or (ha : DQ X l a f) (hb : DQ X l (.BoolOp .Or (b :: rest) pos) g) : DQ X l (.BoolOp .Or (a :: b :: rest) pos) (eOr f g) := ⟨PE.imp (pe_orT ha.pe hb.pe) fun σ H Q q => by
  obtain ⟨g, ρ, S, r, ok, e, q⟩ := q
  obtain ⟨d, e1, e2⟩ := Option.bind_eq_some_iff.mp e
  obtain ⟨t, e3, e4⟩ := Option.bind_eq_some_iff.mp e2
  refine ⟨g, ρ, S, d, ok, e1, fun v H1 s1 v1 => ⟨t, tru_bo v1.bo e3, ?_⟩⟩
  cases t with
  | false => exact ⟨g, ρ, S, r, ok.same s1, e4, fun v2 H2 s2 v3 => q v2 H2 (s1.trans s2) v3⟩
  | true => cases e4; exact q v H1 s1 v1⟩
theorem dq_not (ha : DQ X l a f) : DQ X true (.UnaryOp .Not a pos) (eNot f) := ⟨PE.imp (pe_notT ha.pe) fun σ H Q q => by
  obtain ⟨g, ρ, S, r, ok, e, q⟩ := q
  obtain ⟨d, e1, e2⟩ := Option.bind_eq_some_iff.mp e
  obtain ⟨t, e3, rfl⟩ := Option.map_eq_some_iff.mp e2
  exact ⟨g, ρ, S, d, ok, e1, fun v H1 s1 v1 => ⟨t, tru_bo v1.bo e3, q _ H1 s1 (.bl _)⟩⟩⟩
end
end DL
namespace DL
open PySem PySem.Spec PyProof.Rows L2

/-! ### the law's end -/
theorem hid_seer {h : Heap} {H : Hp} (hd : ∀ b o, h.get? b = some o → (∀ es ep, o.data = .dict es ep → H b = none) ∧ (o.cls = .type "module" → H b = none)) (hs : h.NoSeer) : (hidT h H).NoSeer := by
  have nsK : ∀ {b : Addr} {m : Str → Option Value}, h.Ns b m → (hidT h H).Ns b m := fun {b m} ⟨o, es, ep, e, d, r⟩ => ⟨o, es, ep, hidT_get e ((hd b o e).1 es ep d), d, r⟩
  exact ⟨let ⟨mc, a, b⟩ := hs.statics; ⟨mc, nsK a, b⟩, let ⟨mm, a, b⟩ := hs.mods; ⟨mm, nsK a, b⟩, let ⟨mb, a, b⟩ := hs.imp; ⟨mb, nsK a, b⟩,
    let ⟨mg, bm, ob, a, b, c, d, e⟩ := hs.main; ⟨mg, bm, ob, nsK a, b, hidT_get c ((hd bm ob c).2 d), d, e⟩⟩
theorem ints_dtA {K : Frag} {bad : Addr → Prop} {H : Hp} : ∀ ns : List Int, DtA K bad H (ns.map V.int) (ns.map PyData.int)
  | [] => .nil
  | n :: r => .cons (.int n) (ints_dtA r)
/-- the law's promise at its call -/
theorem lawG_call {P : Program} {w : World} {K : Frag} {mg mb : Str → Option Value} {k : Nat} {fa a : Addr} {fd : FuncData} {x : Str} {FL : FF} {s₁ : Shared} {vs : List Value} {ns : List Int}
    (KX : K.In s₁.heap) (hns : s₁.heap.Ns mainGlobals mg) (hb : s₁.heap.Ns builtinsNs mb) (hbb : ∀ x : Str, x ≠ "__name__" → mb x = bootBuiltins x) (hlim : s₁.heap.NoLimit) (hse : s₁.heap.NoSeer) (hg : s₁.gens = #[])
    (ha : s₁.heap.get? a = some { cls := .type "list", data := .seq vs.toArray }) (hi : IntsAre vs ns) (hl : ns.length ≤ sizeLine) (hr : Room k callerA)
    (F : ∀ base : Heap, K.In base → base.Ns mainGlobals mg → base.NoSeer → FnG P w K mg base CX0 k fa fd [x] (spD K mg 1 FL)) (hbind : ∀ (s : Shared) (u : Value), BindsTo s fd ⟨[u], []⟩ [(x, u)])
    (hFL : ∃ S', FL [.val (.list (ns.map PyData.int))] [] = some (.dat (.bool true), S')) :
    codeAny (model P w) callerA (.call (.ref fa) ⟨[.ref a], []⟩) (fun r s' => r = .ok (.ret (.bool true)) ∧ OldK s₁.heap s'.heap ∧ s'.os = s₁.os ∧ AllBare s'.gens) s₁ := by
  have rv := vals_ints hi
  have lenV := hi.length
  have core : ∀ H : Hp, Only H → SqL K H a (ns.map V.int) → HOk P w H s₁.heap → (∀ b, H b ≠ none → b = a) → (H a ≠ none → K.lookup a = none) →
      codeAny (model P w) callerA (.call (.ref fa) ⟨[.ref a], []⟩) (fun r s' => r = .ok (.ret (.bool true)) ∧ OldK s₁.heap s'.heap ∧ s'.os = s₁.os ∧ AllBare s'.gens) s₁ := by
    intro H hO hS hok hA hK
    have at_a : ∀ {b : Addr} {o : Obj}, s₁.heap.get? b = some o → H b ≠ none → o = { cls := .type "list", data := .seq vs.toArray } := fun {b o} e n => by
      rw [hA b n, ha] at e
      exact (Option.some.inj e).symm
    have away : ∀ b o, s₁.heap.get? b = some o → (∀ es ep, o.data = .dict es ep → H b = none) ∧ (o.cls = .type "module" → H b = none) := fun b o e => by
      refine ⟨fun es ep d => ?_, fun c => ?_⟩
      · cases q : H b with
        | none => rfl
        | some u =>
          rw [at_a e (by rw [q]; simp)] at d
          cases d
      · cases q : H b with
        | none => rfl
        | some u =>
          rw [at_a e (by rw [q]; simp)] at c
          exact absurd (show Value.type "list" = Value.type "module" from c) (by decide)
    have nsK : ∀ {b : Addr} {m : Str → Option Value}, s₁.heap.Ns b m → (hidT s₁.heap H).Ns b m := fun {b m} ⟨o, es, ep, e, d, r⟩ => ⟨o, es, ep, hidT_get e ((away b o e).1 es ep d), d, r⟩
    have hKb : K.In (hidT s₁.heap H) := fun b o e => by
      refine hidT_get (KX b o e) ?_
      cases q : H b with
      | none => rfl
      | some u =>
        have e' := hA b (by rw [q]; simp)
        rw [e'] at e q
        rw [hK (by rw [q]; simp)] at e; cases e
    have hM : Mod K mg (hidT s₁.heap H) := ⟨hKb, nsK hns, ⟨mb, nsK hb, hbb⟩, let ⟨mc, h1, h2⟩ := hlim; ⟨mc, nsK h1, h2⟩⟩
    have e0 : Env0 P w K mg (hidT s₁.heap H) callerA [] s₁ H := ⟨rfl, hM, fun b o e => of_hidT e, Nat.le_of_eq (hidT_size _ _), trivial, fun b hb => by simp [frs] at hb, hok, .of_eq hg⟩
    have hsp : spD K mg 1 FL [.ref a] H (fun v _ => v = .bl true) fun _ _ _ => False := by
      obtain ⟨S', eF⟩ := hFL
      refine ⟨⟨fun _ => False, []⟩, [.val (.list (ns.map PyData.int))], [], _, rfl, fun c hc => by rw [List.mem_singleton.mp hc]; rfl, ?_, eF, fun v H' mu' _ _ _ kv => ?_⟩
      · have val : Dt K (fun _ => False) H (.ref a) (.list (ns.map PyData.int)) := .lst (hS.elim (fun r => .inl ⟨r, fun z => z⟩) .inr) (ints_dtA ns)
        have noown : ∀ b, ¬ OwnA [.val (.list (ns.map PyData.int))] ([.ref a].map some) b := fun b ⟨i, d, e, _⟩ => by
          match i, e with
          | 0, e => cases e
          | i + 1, e => simp at e
        have nobad : ∀ b, ¬ Bd ⟨fun _ => False, []⟩ [.val (.list (ns.map PyData.int))] ([V.ref a].map some) b := fun b z => by
          rcases z with z | z | z
          · exact z
          · simp at z
          · exact noown b z
        refine ⟨rfl, fun i c s e1 e2 => ?_, fun i j d e b e1 => ?_, fun b z => (noown b z).elim, ⟨rfl, .nil, fun n o b e => by simp at e⟩, fun b z => z.elim⟩
        · match i, e1, e2 with
          | 0, e1, e2 => cases e1; cases e2; exact ⟨_, rfl, val.weak fun b z => (nobad b z).elim⟩
          | i + 1, e1, e2 => simp at e1
        · match i, e1 with
          | 0, e1 => cases e1
          | i + 1, e1 => simp at e1
      · cases kv with
        | bl => rfl
    refine codeAny_mono ((F _ hKb (nsK hns) (hid_seer away hse)).run callerA [] s₁ H ⟨[.ref a], []⟩ [.ref a] [.ref a] _ _ (roomG_caller hr) e0 (hbind s₁ (.ref a)) (.cons rfl .nil) hsp) fun r s' h => ?_
    match r, h with
    | .error e, h => exact h.elim
    | .ok (.ret u), h =>
      obtain ⟨v, H', os, bare, un, hok', r', q⟩ := h
      have q' : v = .bl true := q
      subst q'
      obtain rfl : u = Value.bool true := r'
      refine ⟨rfl, OldK.of_keep fun b o e => ?_, os, bare⟩
      cases q : H b with
      | none => exact un.keep b o e q (by simp [frs]) (by simp)
      | some u =>
        rcases hO b with z | ⟨ob, xs, z⟩
        · rw [q] at z; cases z
        · obtain ⟨e1, _⟩ := hok b _ z
          obtain ⟨e2, _⟩ := hok' b _ (un.frzs b ob _ z)
          rw [e] at e1; cases e1
          exact e2
  have hl2 : ns.length ≤ sizeLine := hl
  cases hk : K.lookup a with
  | some o =>
    have e := KX a o hk
    rw [ha] at e
    cases e
    refine core (fun _ => none) (fun _ => .inl rfl) (.inr ⟨_, vs.toArray, _, hk, rfl, rfl, rfl, by rw [List.size_toArray, lenV]; exact hl, by simpa using rv⟩) (fun b u z => nomatch (show (none : Option HO) = some u from z)) (fun b z => absurd rfl z) fun z => absurd rfl z
  | none =>
    let ob : Obj := { cls := .type "list", data := .seq vs.toArray }
    let H0 : Hp := fun b => if b = a then some (.frz ob (.lst (ns.map V.int))) else none
    have at0 : ∀ {b u}, H0 b = some u → b = a ∧ u = .frz ob (.lst (ns.map V.int)) := fun {b u} z => by
      by_cases hb : b = a
      · exact ⟨hb, (Option.some.inj ((if_pos hb).symm.trans z)).symm⟩
      · exact nomatch (if_neg hb).symm.trans z
    refine core H0 (fun b => ?_) (.inl (.inr ⟨ob, if_pos rfl⟩)) (fun b u z => ?_) (fun b z => ?_) fun _ => hk
    · cases q : H0 b with
      | none => exact .inl rfl
      | some u =>
        obtain ⟨_, e⟩ := at0 q
        exact .inr ⟨ob, _, by rw [e]⟩
    · obtain ⟨e1, e2⟩ := at0 z
      subst e1 e2
      exact ⟨ha, by rw [List.length_map]; exact hl, vs, _, rv, ha⟩
    · cases q : H0 b with
      | none => exact absurd q z
      | some u => exact (at0 q).1
theorem walkG_of {l : PySem.W.OpenLaw} {n k : Nat} {q : Program} {loose : List Str} {XP : (Str → Option Value) → Heap → Prop} {YP : World → Heap → Prop} {d : DefRec} {K : Params → Frag} {FL : FF} {x : Str}
    (hn : l.most = some n) (hn2 : n ≤ sizeLine) (hdf : d.params.defaults = []) (hr : Room k callerA) (hi : importsNone q = true)
    (hY : ∀ (w : World) (h : Heap), YP w h → (K w.params).In h)
    (F : ∀ (w : World) (mg : Str → Option Value) (fa : Addr) (h : Heap), (K w.params).In h → h.Ns mainGlobals mg → mg d.name = some (.ref fa) →
      ∃ fd : FuncData, (∀ (s : Shared) (u : Value), BindsTo s fd ⟨[u], []⟩ [(x, u)]) ∧
        ∀ base : Heap, (K w.params).In base → base.Ns mainGlobals mg → base.NoSeer → FnG l.prog w (K w.params) mg base CX0 k fa fd [x] (spD (K w.params) mg 1 FL))
    (hFL : ∀ ns : List Int, ns.length ≤ n → ∃ S', FL [.val (.list (ns.map PyData.int))] [] = some (.dat (.bool true), S')) :
    PySem.W.WalkO q loose XP YP l.row.toRowW d [] (fun f vs => PySem.call f vs) := by
  refine Att.attach_call hn hdf fun w s₀ s₁ mg mb fa o pm cd doc a vs ns G Y ho hd hcd hmg hobj hints hlen hg => ?_
  have KX := hY w _ Y
  obtain ⟨fd, hb, hF⟩ := F w mg fa _ KX G.T.g hmg
  exact lawG_call KX G.T.g G.T.b G.T.builtins G.T.nolimit (G.T.seer hi) hg hobj hints (Nat.le_trans hlen hn2) hr hF hb (hFL ns hlen)
end DL
namespace DL
open PySem PySem.Spec PyProof.Rows L2

/-! ### a list of the store, by a slot -/
def refL (ρ : En) (S : Sto) (i : Nat) : Option (Nat × List SV) := match ρ[i]? with
  | some (.ref n) => match S[n]? with
    | some (.lst xs) => some (n, xs)
    | _ => none
  | _ => none
theorem refL_some {ρ : En} {S : Sto} {i n : Nat} {xs : List SV} (h : refL ρ S i = some (n, xs)) : ρ[i]? = some (Cel.ref n) ∧ S[n]? = some (SO.lst xs) := by
  unfold refL at h
  split at h
  · rename_i n' e1
    split at h
    · rename_i xs' e2
      cases h
      exact ⟨e1, e2⟩
    · cases h
  · cases h
theorem refL_at {K : Frag} {mg : Str → Option Value} {g : Gh} {ρ : En} {S : Sto} {σ : L2.St} {H : Hp} (ok : EnvOk K mg g ρ S σ H) {i n : Nat} {xs : List SV} (h : refL ρ S i = some (n, xs)) :
    ∃ a vs, σ[i]? = some (some (V.ref a)) ∧ g.mu[n]? = some a ∧ H a = some (.lst vs) ∧ Paired (SVk K (Bd g ρ σ) g.mu H) vs xs := by
  obtain ⟨e1, e2⟩ := refL_some h
  obtain ⟨s, e3, a, e4, e5⟩ := ok.slot e1
  subst e4
  obtain ⟨a', e6, vs, e7, t⟩ := ok.sto_at e2
  rw [e5] at e6; cases e6
  exact ⟨a, vs, e3, e5, e7, t⟩
theorem Paired.atI' {α β : Type} {F : α → β → Prop} {xs : List α} {ys : List β} {i : Int} {y : β} (h : Paired F xs ys) (e : L2.atI ys i = some y) : ∃ x, L2.atI xs i = some x ∧ F x y := by
  unfold L2.atI at e ⊢
  rw [Paired.length h]
  cases q : ixN ys.length i with
  | none => rw [q] at e; cases e
  | some j =>
    rw [q] at e
    exact pget h (show ys[j]? = some y from e)
where pget {α β : Type} {F : α → β → Prop} : ∀ {xs : List α} {ys : List β} {j : Nat} {y : β}, Paired F xs ys → ys[j]? = some y → ∃ x, xs[j]? = some x ∧ F x y
  | _, _, _, _, .nil, e => by simp at e
  | _, _, 0, _, .cons h _, e => by simp at e; subst e; exact ⟨_, rfl, h⟩
  | _, _, j + 1, _, .cons _ t, e => by
    obtain ⟨x, e1, e2⟩ := pget (j := j) t (by simpa using e)
    exact ⟨x, by simpa using e1, e2⟩
theorem Paired.set' {α β : Type} {F : α → β → Prop} : ∀ {xs : List α} {ys : List β} {x : α} {y : β} (j : Nat), Paired F xs ys → F x y → Paired F (xs.set j x) (ys.set j y)
  | _, _, _, _, _, .nil, _ => .nil
  | _, _, _, _, 0, .cons _ t, h => .cons h t
  | _, _, _, _, j + 1, .cons q t, h => .cons q (Paired.set' j t h)
theorem Paired.erase' {α β : Type} {F : α → β → Prop} : ∀ {xs : List α} {ys : List β} (j : Nat), Paired F xs ys → Paired F (xs.eraseIdx j) (ys.eraseIdx j)
  | _, _, _, .nil => .nil
  | _, _, 0, .cons _ t => t
  | _, _, j + 1, .cons q t => .cons q (Paired.erase' j t)
theorem mu_keep {g : Gh} {mu' : List Addr} {n : Nat} {a : Addr} (p : g.mu <+: mu') (h : g.mu[n]? = some a) : mu'[n]? = some a := by
  obtain ⟨t, rfl⟩ := p
  rw [List.getElem?_append_left (List.getElem?_eq_some_iff.mp h).1]
  exact h
/-- read as data -/
def bRef (i : Nat) : EF := fun ρ S => (refL ρ S i).bind fun p => (datsOf p.2).map .list
/-- x[e] -/
def xIxS (i : Nat) (fe : XF) : XF := fun ρ S => (refL ρ S i).bind fun _ => (fe ρ S).bind fun r => (datOf r.1).bind fun j => (intD j).bind fun j => (refL r.2.1 r.2.2 i).bind fun p => (atI p.2 j).map fun z => (z, r.2.1, r.2.2)
/-- x.pop(e) -/
def xPopS (i : Nat) (fe : XF) : XF := fun ρ S => (refL ρ S i).bind fun _ => (fe ρ S).bind fun r => (datOf r.1).bind fun j => (intD j).bind fun j => if -(2 ^ 63) ≤ j ∧ j < 2 ^ 63 then (refL r.2.1 r.2.2 i).bind fun p => (ixN p.2.length j).bind fun k => (p.2[k]?).map fun z => (z, r.2.1, r.2.2.set p.1 (.lst (p.2.eraseIdx k))) else none
/-- x[i] = e -/
def sSetIxS (i : Nat) (fi fv : XF) : SF := fun ρ S => (fv ρ S).bind fun r => (refL r.2.1 r.2.2 i).bind fun _ => (fi r.2.1 r.2.2).bind fun q => (datOf q.1).bind fun j => (intD j).bind fun j => (refL q.2.1 q.2.2 i).bind fun p => (ixN p.2.length j).map fun k =>
  .nx q.2.1 (q.2.2.set p.1 (.lst (p.2.set k r.1)))
section
variable {X : Cx} {x : Str} {e e2 : Expr} {f f2 : XF} {p pos apos cpos : Pos}
theorem db_ref (i : Nat) (hN : X.N[i]? = some x := by rfl) (hv : Vis X.env.scope x := by first | exact Or.inl rfl | exact Or.inr (Or.inl rfl) | exact Or.inr (Or.inr rfl)) (hd : (x == ("__debug__" : Str)) = false := by decide) (hcd : (x == ("__classdict__" : Str)) = false := by decide) :
    DQ X false (.Name x pos) (bRef i) := ⟨PE.imp (pe_var hN hv hd hcd) fun σ H Q q => by
  obtain ⟨g, ρ, S, d, ok, e, q⟩ := q
  obtain ⟨⟨n, xs⟩, e1, e⟩ := Option.bind_eq_some_iff.mp e
  obtain ⟨ds, e2, rfl⟩ := Option.map_eq_some_iff.mp e
  obtain ⟨a, vs, h1, h2, h3, h4⟩ := refL_at ok e1
  dsimp only at e2
  rw [datsOf_eq e2] at h4
  exact ⟨.ref a, h1, q _ H (Same.refl H) (Bo.lst (.inl h3) (svk_dtA h4))⟩⟩
theorem dx_ixS (i : Nat) (he : DX X e f) (hN : X.N[i]? = some x := by rfl) (hv : Vis X.env.scope x := by first | exact Or.inl rfl | exact Or.inr (Or.inl rfl) | exact Or.inr (Or.inr rfl)) (hd : (x == ("__debug__" : Str)) = false := by decide) (hcd : (x == ("__classdict__" : Str)) = false := by decide)
    (hs : PlainIx e := by exact fun _ _ => rfl) : DX X (.Subscript (.Name x p) e pos) (xIxS i f) := ⟨PE.imp (pe_ix ix_list (pe_var hN hv hd hcd) he.pe hs) fun σ H Q q => by
  obtain ⟨g, ρ, S, r, ok, e, q⟩ := q
  obtain ⟨⟨n0, xs0⟩, e0, e⟩ := Option.bind_eq_some_iff.mp e
  obtain ⟨r1, e1, e⟩ := Option.bind_eq_some_iff.mp e
  obtain ⟨d, e2, e⟩ := Option.bind_eq_some_iff.mp e
  obtain ⟨j, e3, e⟩ := Option.bind_eq_some_iff.mp e
  obtain ⟨⟨n, xs⟩, e4, e⟩ := Option.bind_eq_some_iff.mp e
  obtain ⟨z, e5, rfl⟩ := Option.map_eq_some_iff.mp e
  obtain ⟨a, vs, h1, h2, h3, h4⟩ := refL_at ok e0
  refine ⟨.ref a, h1, g, ρ, S, r1, ok, e1, fun v H1 mu1 n1 v1 => ?_⟩
  rw [datOf_some e2, intD_some e3] at v1
  cases v1
  obtain ⟨a', vs', k1, k2, k3, k4⟩ := refL_at n1.env e4
  rw [h1] at k1; cases k1
  obtain ⟨v, e6, r6⟩ := Paired.atI' k4 e5
  exact ⟨a, vs', j, v, rfl, rfl, SqL.of k3, e6, q v H1 mu1 n1 r6⟩⟩
theorem dx_popS (i : Nat) (h : DX X e f) (hN : X.N[i]? = some x := by rfl) (hv : Vis X.env.scope x := by first | exact Or.inl rfl | exact Or.inr (Or.inl rfl) | exact Or.inr (Or.inr rfl)) (hd : (x == ("__debug__" : Str)) = false := by decide) (hcd : (x == ("__classdict__" : Str)) = false := by decide)
    (hbase : attributeBase (.Name x p) "pop" X.env (eval (.Name x p) X.env) = eval (.Name x p) X.env := by rfl)
    (hfew : ((backTo cpos (starEach [e] X.env)).all (fun x => !x.1) && (backToKw cpos (keywordEach [] X.env)).all (fun x => x.1.isSome)
      && decide (([e] : List Expr).length + ([] : List Keyword).length + (if ([] : List Keyword).isEmpty then 0 else 1) < 30)) = true := by rfl)
    (hline : (apos.endLine == cpos.line) = true := by rfl) (hs : starEach [e] X.env = (false, eval e X.env) :: starEach [] X.env := by rfl) :
    DX X (.Call (.Attribute (.Name x p) "pop" apos) [e] [] cpos) (xPopS i f) := ⟨PE.imp (pe_bm PySem.F.plainAttrs_list PySem.F.slot_list_pop PySem.F.type_list_pop mt_popAt (pe_var hN hv hd hcd) (pa_cons h.pe pa_nil hs) hbase hfew hline hs (by rfl)) fun σ H Q q => by
  obtain ⟨g, ρ, S, r, ok, e, q⟩ := q
  obtain ⟨⟨n0, xs0⟩, e0, e⟩ := Option.bind_eq_some_iff.mp e
  obtain ⟨r1, e1, e⟩ := Option.bind_eq_some_iff.mp e
  obtain ⟨d, e2, e⟩ := Option.bind_eq_some_iff.mp e
  obtain ⟨j, e3, e⟩ := Option.bind_eq_some_iff.mp e
  split at e
  case isFalse => cases e
  rename_i hj
  obtain ⟨⟨n, xs⟩, e4, e⟩ := Option.bind_eq_some_iff.mp e
  obtain ⟨k, e5, e⟩ := Option.bind_eq_some_iff.mp e
  obtain ⟨z, e6, rfl⟩ := Option.map_eq_some_iff.mp e
  obtain ⟨a, vs, h1, h2, h3, h4⟩ := refL_at ok e0
  refine ⟨.ref a, h1, .inl ⟨rfl, _, SqL.of h3⟩, g, ρ, S, r1, ok, e1, fun v H1 mu1 n1 v1 => ?_⟩
  rw [datOf_some e2, intD_some e3] at v1
  cases v1
  obtain ⟨a', vs', k1, k2, k3, k4⟩ := refL_at n1.env e4
  rw [h1] at k1; cases k1
  obtain ⟨v, e7, r7⟩ := Paired.atI'.pget k4 e6
  obtain ⟨w1, w2, w3, w4⟩ := ixN_seq e5
  refine ⟨a, vs', j, k, v, rfl, rfl, k3, hj.1, hj.2, by rw [Paired.length k4]; exact w1, e7, ?_⟩
  have n2 := n1.env.writeSto (n := n) (o := .lst (xs.eraseIdx k)) k2 (u := .lst (vs'.eraseIdx k)) fun H' pr e => ⟨_, e, Paired.erase' k (Paired.mapP k4 fun _ _ z => z.tr pr .refl (List.prefix_refl _))⟩
  exact q v _ mu1 (n1.trans n2) (n2.sv r7)⟩
theorem ds_setIxS (i : Nat) {tpos : Pos} (hv : DX X e2 f2) (hi : DX X e f) (hN : X.N[i]? = some x := by rfl) (hvs : Vis X.env.scope x := by first | exact Or.inl rfl | exact Or.inr (Or.inl rfl) | exact Or.inr (Or.inr rfl)) (hd : (x == ("__debug__" : Str)) = false := by decide) (hcd : (x == ("__classdict__" : Str)) = false := by decide)
    (hs : swapsWithSole [.Subscript (.Name x p) e tpos] e2 pos.line X.env = pure false := by rfl) (hw : swappedStores [.Subscript (.Name x p) e tpos] e2 X.env = pure none := by rfl)
    (h1 : (assignEach [.Subscript (.Name x p) e tpos] X.env).map (·.2) = [assign (.Subscript (.Name x p) e tpos) X.env] := by rfl)
    (ha : ∀ v, assign (.Subscript (.Name x p) e tpos) X.env v = (do
      let ov ← holding [v] (eval (.Name x p) X.env)
      let iv ← holding [v, ov] (eval e X.env)
      standAt tpos
      holding [v, ov, iv] (setItem ov iv v)
      release [v, ov, iv] []) := by intro _; rfl) : DS X (.Assign [.Subscript (.Name x p) e tpos] e2 pos) (sSetIxS i f f2) := ⟨PS.imp (ps_asg hv.pe (pg_sub (pe_var hN hvs hd hcd) hi.pe set_list ha) hs hw h1) fun D σ H q => by
  obtain ⟨g, ρ, S, r, ok, e, q⟩ := q
  obtain ⟨r1, e1, e⟩ := Option.bind_eq_some_iff.mp e
  obtain ⟨⟨n0, xs0⟩, e3, e⟩ := Option.bind_eq_some_iff.mp e
  obtain ⟨r2, e4, e⟩ := Option.bind_eq_some_iff.mp e
  obtain ⟨j0, e5, e⟩ := Option.bind_eq_some_iff.mp e
  obtain ⟨j, e6, e⟩ := Option.bind_eq_some_iff.mp e
  obtain ⟨⟨n, xs⟩, e7, e⟩ := Option.bind_eq_some_iff.mp e
  obtain ⟨k, e8, rfl⟩ := Option.map_eq_some_iff.mp e
  refine ⟨g, ρ, S, r1, ok, e1, fun v H1 mu1 n1 v1 => ?_⟩
  obtain ⟨a, vs, s1, s2, s3, s4⟩ := refL_at n1.env e3
  refine ⟨.ref a, s1, ⟨g.B, mu1⟩, r1.2.1, r1.2.2, r2, n1.env, e4, fun w H2 mu2 n2 v2 => ?_⟩
  obtain ⟨a', ys, t1, t2, t3, t4⟩ := refL_at n2.env e7
  rw [s1] at t1; cases t1
  rw [datOf_some e5, intD_some e6] at v2
  cases v2
  refine ⟨a, ys, j, k, rfl, rfl, t3, by rw [Paired.length t4]; exact e8, ?_⟩
  have v3 := n2.sv v1
  have n3 := n2.env.writeSto (n := n) (o := .lst (xs.set k r1.1)) t2 (u := .lst (ys.set k v)) fun H' pr e => ⟨_, e, Paired.set' k (Paired.mapP t4 fun _ _ z => z.tr pr .refl (List.prefix_refl _)) (v3.tr pr .refl (List.prefix_refl _))⟩
  exact q σ _ mu2 (n1.trans (n2.trans n3))⟩
/-! new lists of the store -/
def xRef (f : YF) : XF := fun ρ S => (f ρ S).bind fun r => match r.1 with
  | .list ds => some (.ref r.2.2.length, r.2.1, r.2.2 ++ [SO.lst (ds.map SV.dat)])
  | _ => none
theorem dx_ref {fv : YF} (h : DF X e fv) : DX X e (xRef fv) := ⟨PE.imp h.pe fun σ H Q q => by
  obtain ⟨g, ρ, S, d, ok, e, q⟩ := q
  obtain ⟨⟨d1, ρ1, S1⟩, e1, e⟩ := Option.bind_eq_some_iff.mp e
  dsimp only at e
  split at e
  case h_2 => cases e
  rename_i ds
  cases e
  refine ⟨g, ρ, S, _, ok, e1, fun p H' mu' fr => ?_⟩
  dsimp only at fr
  have nj := fr.join
  have hlen := fr.env.sto.len
  dsimp only at hlen
  exact q _ H' _ nj ⟨p, rfl, by rw [hlen, List.getElem?_append_right (Nat.le_refl _)]; simp⟩⟩
def svsOf : List AV → Option (List SV)
  | [] => some []
  | .sv r :: t => (svsOf t).map (r :: ·)
  | _ => none
def xNewS (fs : List AX) : XF := fun ρ S => (eva fs ρ S).bind fun r => (svsOf r.1).map fun xs => (.ref r.2.2.length, r.2.1, r.2.2 ++ [SO.lst xs])
theorem dx_newS {es : List Expr} {fs : List AX} (h : DAa X es fs) (hl : fs.length ≤ sizeLine := by decide) : DX X (.List es pos) (xNewS fs) := ⟨PE.imp (pe_lst h.pa) fun σ H Q q => by
  obtain ⟨g, ρ, S, d, ok, e, q⟩ := q
  obtain ⟨r, e1, e⟩ := Option.bind_eq_some_iff.mp e
  obtain ⟨xs, e2, rfl⟩ := Option.map_eq_some_iff.mp e
  refine ⟨g, ρ, S, r, ok, e1, fun vs H1 mu1 n1 a1 => ⟨by rw [a1.length, eva_length e1]; exact hl, fun q' hq => ?_⟩⟩
  have svs : ∀ {vs : List V} {as : List AV} {xs : List SV}, Paired (AVk X.K ⟨g.B, mu1⟩ r.2.1 σ H1) vs as → svsOf as = some xs → Paired (SVk X.K (Bd ⟨g.B, mu1⟩ r.2.1 σ) mu1 H1) vs xs := by
    intro vs as
    induction as generalizing vs with
    | nil => intro xs p h; cases p; cases h; exact .nil
    | cons a as ih =>
      intro xs p h
      cases a with
      | sl i => cases h
      | sv z =>
        obtain ⟨ys, e3, rfl⟩ := Option.map_eq_some_iff.mp h
        cases p with
        | cons p1 p2 => exact .cons p1 (ih p2 e3)
  have pr := svs a1 e2
  have hlen := n1.env.sto.len
  dsimp only at hlen
  have okg := n1.env
  have gr : Grow (Bd ⟨g.B, mu1⟩ r.2.1 σ) H1 (Bd ⟨g.B, mu1 ++ [q']⟩ r.2.1 σ) := fun b z => by
    rcases z with z | z | z
    · exact .inl (.inl z)
    · rcases List.mem_append.mp z with z | z
      · exact .inl (.inr (.inl z))
      · rw [List.mem_singleton.mp z]; exact .inr hq
    · exact .inl (.inr (.inr z))
  have n2 := okg.newSto (q := q') (o := .lst xs) (same_new hq) hq ⟨_, upd_same⟩ ⟨vs, upd_same, Paired.mapP pr fun _ _ z => z.tr (.same (same_new hq)) gr (List.prefix_append _ _)⟩
  refine q _ _ _ (n1.trans n2) ⟨q', rfl, by rw [hlen, List.getElem?_append_right (Nat.le_refl _)]; simp⟩⟩
end

/-! ### zip and enumerate where the body has effects -/
section
variable {X : Cx} {e e2 : Expr} {f f2 : XF} {p pos tpos : Pos} {elts : List Expr} {kk : Nat}
theorem dt_seq {K : Frag} {bad M : Addr → Prop} {H : Hp} {v : V} {d : D} {ds : List D} (hM : ∀ b, M b → bad b) (r : Dt K bad H v d) (h : seqOf d = some ds) : ∃ k a xs, v = .ref a ∧ SqK k K H a xs ∧ DtA K bad H xs ds ∧ ∀ H', Pres M H H' → SqK k K H' a xs := by
  unfold seqOf at h
  split at h
  · cases h
    cases r with
    | lst s t => exact ⟨false, _, _, rfl, s.sq, t, fun H' p => s.pres hM p⟩
  · cases h
    cases r with
    | tup s t => exact ⟨true, _, _, rfl, s.sq, t, fun H' p => s.pres hM p⟩
  · cases h
def ixZip (fs : List XF) : IX := fun ρ S => (xevs fs ρ S).bind fun r => (zipOf r.1).map fun ds => (ds, r.2.1, r.2.2)
theorem dix_zip (ha : DAx X [e, e2] [f, f2]) (hg : Gl X "zip") (hm : X.mg "zip" = none) (hs : starEach [e, e2] X.env = (false, eval e X.env) :: starEach [e2] X.env := by rfl) (hpl : (backTo pos (starEach [e2] X.env)).any (·.1) = false := by rfl) :
    DIx X (.Tuple elts kk tpos) (.Call (.Name "zip" p) [e, e2] [] pos) (ixZip [f, f2]) := ⟨PI.imp (pi_zipK hg hm ha.pa hs hpl) fun σ H R q => by
  obtain ⟨g, ρ, S, r, ok, e, q⟩ := q
  obtain ⟨r1, e1, e⟩ := Option.bind_eq_some_iff.mp e
  obtain ⟨ds, e2, rfl⟩ := Option.map_eq_some_iff.mp e
  refine ⟨g, ρ, S, r1, ok, e1, fun vs H1 mu1 n1 a1 => ?_⟩
  unfold zipOf at e2
  split at e2
  · rename_i d1 d2 hd
    rw [hd] at a1
    obtain ⟨xs, h1, e2⟩ := Option.bind_eq_some_iff.mp e2
    obtain ⟨ys, h2, rfl⟩ := Option.map_eq_some_iff.mp e2
    cases a1 with
    | cons w1 a1 =>
      cases a1 with
      | cons w2 a1 =>
        cases a1
        obtain ⟨k1, a, us, rfl, s2, t2, p2⟩ := dt_seq (M := Mu ⟨g.B, mu1⟩ r1.2.1 σ) (fun b z => .inr z) w1 h1
        obtain ⟨k2, b, ws, rfl, s3, t3, p3⟩ := dt_seq (M := Mu ⟨g.B, mu1⟩ r1.2.1 σ) (fun b z => .inr z) w2 h2
        exact ⟨k1, k2, a, b, us, ws, rfl, s2, s3, q _ H1 mu1 n1 (.zip (fun b z => .inr z) p2 p3 t2 t3)⟩
  · cases e2⟩
def ixEnum (fs : List XF) : IX := fun ρ S => (xevs fs ρ S).bind fun r => (enumOf r.1).map fun ds => (ds, r.2.1, r.2.2)
theorem dix_enum (ha : DAx X [e] [f]) (hg : Gl X "enumerate") (hm : X.mg "enumerate" = none) (hs : starEach [e] X.env = [(false, eval e X.env)] := by rfl) : DIx X (.Tuple elts kk tpos) (.Call (.Name "enumerate" p) [e] [] pos) (ixEnum [f]) := ⟨PI.imp (pi_enum hg hm ha.pa hs) fun σ H R q => by
  obtain ⟨g, ρ, S, r, ok, e, q⟩ := q
  obtain ⟨r1, e1, e⟩ := Option.bind_eq_some_iff.mp e
  obtain ⟨ds, e2, rfl⟩ := Option.map_eq_some_iff.mp e
  refine ⟨g, ρ, S, r1, ok, e1, fun vs H1 mu1 n1 a1 => ?_⟩
  unfold enumOf at e2
  split at e2
  · rename_i xs hd
    cases e2
    rw [hd] at a1
    cases a1 with
    | cons w1 a1 =>
      cases a1
      cases w1 with
      | lst s t => exact ⟨_, _, rfl, s.sq, q _ H1 mu1 n1 (.enum (fun b z => .inr z) (fun H' p => s.pres (fun b z => .inr z) p) t)⟩
  · cases e2⟩
end
end DL
namespace DL
open PySem PySem.Spec PyProof.Rows L2

section
variable {X : Cx} {x : Str} {e : Expr} {p pos : Pos} {l : Bool} {f : EF} {fx : XF}
/-! xs[::-1] -/
def revD : D → Option D
  | .list ds => some (.list ds.reverse)
  | _ => none
theorem dq_rev {k : Nat} {p1 p2 p3 : Pos} (h : DQ X l e f) : DQ X true (.Subscript e (.Slice none none (some (.UnaryOp .USub (.Constant (.int 1) k p1) p2)) p3) pos) (op1 revD f) := ⟨PE.imp (pe_revL h.pe) fun σ H Q q => by
  obtain ⟨g, ρ, S, d, ok, e, q⟩ := q
  obtain ⟨d1, e1, e2⟩ := Option.bind_eq_some_iff.mp e
  refine ⟨g, ρ, S, d1, ok, e1, fun v H1 s1 r1 => ?_⟩
  unfold revD at e2
  split at e2
  · cases e2
    obtain ⟨a, xs, rfl, sq, t⟩ := r1.bo.list
    exact ⟨a, xs, rfl, sq, fun p hp => q _ _ (s1.trans (same_new hp)) (Dt.newL (fun b hb => (ok.same s1).bad_some hb) hp t.rev)⟩
  · cases e2⟩
/-! list(e), to be owned -/
def yList (fx : XF) : YF := fun ρ S => (fx ρ S).bind fun r => (datOf r.1).bind fun d => (seqOf d).map fun ds => (.list ds, r.2.1, r.2.2)
theorem df_list (h : DX X e fx) (hg : Gl X x) (hm : X.mg x = none) (hv : bootBuiltins x = some (.type "list")) (hn : x ≠ "__name__" := by decide) (hdb : (x == ("__debug__" : Str)) = false := by decide)
    (he : starEach [e] X.env = (false, eval e X.env) :: starEach [] X.env := by rfl) (hpl : (backTo pos (starEach [] X.env)).any (·.1) = false := by rfl) : DF X (.Call (.Name x p) [e] [] pos) (yList fx) := ⟨PE.imp (pe_callTy call_list_of hg hm hv (pa_cons h.pe pa_nil he) hn hdb he hpl) fun σ H Q q => by
  obtain ⟨g, ρ, S, r, ok, e, q⟩ := q
  obtain ⟨r1, e1, e⟩ := Option.bind_eq_some_iff.mp e
  obtain ⟨d, e2, e⟩ := Option.bind_eq_some_iff.mp e
  obtain ⟨ds, e3, rfl⟩ := Option.map_eq_some_iff.mp e
  refine ⟨g, ρ, S, r1, ok, e1, fun v H1 mu1 n1 v1 => ?_⟩
  rw [datOf_some e2] at v1
  have okm := n1.env
  have fin : ∀ (a : Addr) (xs : List V), v = .ref a → (SqL X.K H1 a xs ∨ SqT X.K H1 a xs) → DtA X.K (Bd ⟨g.B, mu1⟩ r1.2.1 σ) H1 xs ds → ∃ p ys, [v] = [V.ref p] ∧ (SqL X.K H1 p ys ∨ SqT X.K H1 p ys) ∧ ∀ l, H1 l = none → Q (.ref l) (upd H1 l (.lst ys)) := fun a xs ea sq t => by
    subst ea
    refine ⟨a, xs, rfl, sq, fun p hp => ?_⟩
    have fr := Frs.quiet okm (Same.refl H1) (same_new (o := .lst xs) hp) hp upd_same t
    have hp0 : H p = none := by
      cases e : H p with
      | none => rfl
      | some o =>
        obtain ⟨u, e2⟩ := n1.tr.live p ⟨o, e⟩
        rw [hp] at e2; cases e2
    exact q p _ mu1 ⟨fr.env, hp0, fr.nB, fr.nM, n1.tr.trans fr.tr, n1.pre.trans fr.pre, fr.own, fr.bor⟩
  unfold seqOf at e3
  split at e3
  · cases e3
    cases v1 with
    | lst s t => exact fin _ _ rfl (.inl s.sq) t
  · cases e3
    cases v1 with
    | tup s t => exact fin _ _ rfl (.inr s.sq) t
  · cases e3⟩
/-! room -/
theorem RoomG.u64 {k : Nat} {A : Around} (r : RoomG k A) : A.units + 64 < cLine := by have := r.rm.un; omega
theorem RoomG.u65 {k : Nat} {A : Around} (r : RoomG k A) : A.units + 65 < cLine := by have := r.rm.un; omega
theorem RoomG.d100 {k : Nat} {A : Around} (r : RoomG (k + 32) A) : A.depth + 100 < recursionLimit := by have := r.rm.dp; omega
end
/-- a block within a block: its free names are the outer block's free names or cells -/
theorem look_relabel {env : Env} {x : Str} : ∀ {names : List (Str × NameKind)}, (names.lookup x = some .cell ∨ names.lookup x = some .free) →
    ((names.map fun (n, k) => if (k == .free && env.scope.kind == .function && env.kindOf n == some .cell) then (n, NameKind.cell) else (n, k)).lookup x = some .cell ∨
     (names.map fun (n, k) => if (k == .free && env.scope.kind == .function && env.kindOf n == some .cell) then (n, NameKind.cell) else (n, k)).lookup x = some .free)
  | [], h => by simp at h
  | (n, k) :: r, h => by
    rw [List.map_cons]
    by_cases hx : (x == n) = true
    · have hk : k = .cell ∨ k = .free := by
        simp only [List.lookup_cons, hx] at h
        exact h.imp Option.some.inj Option.some.inj
      dsimp only
      split
      · left; simp only [List.lookup_cons, hx]
      · rcases hk with rfl | rfl
        · left; simp only [List.lookup_cons, hx]
        · right; simp only [List.lookup_cons, hx]
    · have hx2 : (x == n) = false := by simpa using hx
      have h2 := look_relabel (env := env) (x := x) (names := r) (by simpa only [List.lookup_cons, hx2] using h)
      dsimp only
      split <;> simpa only [List.lookup_cons, hx2] using h2
theorem blkOk_re {N : List Str} {sc scope : Scope} {own : List (Str × Nat)} {env : Env} (h : BlkOk N sc scope own) : BlkOk N (relabel sc env) scope own :=
  ⟨h.kind, h.uniq, h.ix, fun y hy e => look_relabel (h.free y hy e), h.own⟩
/-- a def whose function is never defined keeps its promise -/
theorem fn_never {P : Program} {w : World} {K : Frag} {mg : Str → Option Value} {base : Heap} {f : Addr} {fd : FuncData} {ps : List Str} {k n : Nat} : FnG P w K mg base CX0 k f fd ps (spD K mg n fun _ _ => none) :=
  ⟨fun vs H Q E h => (by obtain ⟨_, _, _, _, _, _, _, e, _⟩ := h; cases e), fun A outer s H args us vs Q E hr e0 hb r h => by obtain ⟨_, _, _, _, _, _, _, e, _⟩ := h; cases e⟩
end DL
/-! the functions on data, applied: rules for simp -/
namespace DL
open PySem PySem.Spec PyProof.Rows L2
section
variable {ρ : En} {S : Sto} {i j k n : Nat} {d e : D} {f g : EF} {fs : List EF} {fx gx : XF} {xs : List XF} {t u : TF} {tx ux : XT} {s s' : SF} {c fld : Str}
@[simp] theorem ap_eVar : eVar i ρ S = (match ρ[i]? with | some (.val d) => some d | _ => none) := Eq.trans rfl rfl
@[simp] theorem ap_bVar : bVar i ρ S = (match ρ[i]? with | some (.val d) => some d | some (.own d) => some d | some (.bor d) => some d | _ => none) := Eq.trans rfl rfl
@[simp] theorem ap_eC : eC d ρ S = some d := Eq.trans rfl rfl
@[simp] theorem ap_op2 {F : D → D → Option D} : op2 F f g ρ S = (f ρ S).bind fun a => (g ρ S).bind fun b => F a b := Eq.trans rfl rfl
@[simp] theorem ap_op1 {F : D → Option D} : op1 F f ρ S = (f ρ S).bind F := Eq.trans rfl rfl
@[simp] theorem ap_evs0 : evs [] ρ S = some [] := Eq.trans rfl rfl
@[simp] theorem ap_evs1 : evs (f :: fs) ρ S = (f ρ S).bind fun d => (evs fs ρ S).map (d :: ·) := Eq.trans rfl rfl
@[simp] theorem ap_eTup : eTup fs ρ S = (evs fs ρ S).map .tuple := Eq.trans rfl rfl
@[simp] theorem ap_eLst : eLst fs ρ S = (evs fs ρ S).map .list := Eq.trans rfl rfl
@[simp] theorem ap_eCall {F : List D → Option D} : eCall F fs ρ S = (evs fs ρ S).bind F := Eq.trans rfl rfl
@[simp] theorem ap_oNone : oNone ρ S = some none := Eq.trans rfl rfl
@[simp] theorem ap_oSome : oSome f ρ S = (f ρ S).bind fun d => (intD d).map some := Eq.trans rfl rfl
@[simp] theorem ap_eSlice {lo hi : OF} : eSlice f lo hi ρ S = (f ρ S).bind fun d => (lo ρ S).bind fun i => (hi ρ S).bind fun j => sliceD d i j := Eq.trans rfl rfl
@[simp] theorem ap_qx : qx f ρ S = (f ρ S).map fun d => (.dat d, ρ, S) := Eq.trans rfl rfl
@[simp] theorem ap_qt : qt t ρ S = (t ρ S).map fun b => (b, ρ, S) := Eq.trans rfl rfl
@[simp] theorem ap_tOf {T : D → Option Bool} : tOf f T ρ S = (f ρ S).bind T := Eq.trans rfl rfl
@[simp] theorem ap_tAndQ : tAndQ t u ρ S = (t ρ S).bind fun b => if b = true then u ρ S else some false := Eq.trans rfl rfl
@[simp] theorem ap_tOrQ : tOrQ t u ρ S = (t ρ S).bind fun b => if b = true then some true else u ρ S := Eq.trans rfl rfl
@[simp] theorem ap_tNotQ : tNotQ t ρ S = (t ρ S).map (!·) := Eq.trans rfl rfl
@[simp] theorem ap_eIf : eIf t f g ρ S = (t ρ S).bind fun c => if c = true then f ρ S else g ρ S := Eq.trans rfl rfl
@[simp] theorem ap_eAnd : eAnd f g ρ S = (f ρ S).bind fun d => (truD d).bind fun b => if b = true then g ρ S else some d := Eq.trans rfl rfl
@[simp] theorem ap_eOr : eOr f g ρ S = (f ρ S).bind fun d => (truD d).bind fun b => if b = true then some d else g ρ S := Eq.trans rfl rfl
@[simp] theorem ap_eNot : eNot f ρ S = (f ρ S).bind fun d => (truD d).map fun b => .bool (!b) := Eq.trans rfl rfl
@[simp] theorem ap_eIsi {T : String} : eIsi T f ρ S = (f ρ S).bind (isiD T) := Eq.trans rfl rfl
@[simp] theorem ap_eCallF {F : FF} {as : List (Bool × EF)} : eCallF F as ρ S = (evm as ρ S).bind fun cs => pureF F cs := Eq.trans rfl rfl
@[simp] theorem ap_evm0 : evm [] ρ S = some [] := Eq.trans rfl rfl
@[simp] theorem ap_evm1 {b : Bool} {as : List (Bool × EF)} : evm ((b, f) :: as) ρ S = (f ρ S).bind fun d => (evm as ρ S).map fun cs => (if b then .val d else .bor d) :: cs := Eq.trans rfl rfl
@[simp] theorem ap_datOf : datOf (.dat d) = some d := Eq.trans rfl rfl
@[simp] theorem ap_intD {z : Int} : intD (.int z) = some z := Eq.trans rfl rfl
@[simp] theorem ap_boolD {b : Bool} : boolD (.bool b) = some b := Eq.trans rfl rfl
@[simp] theorem ap_xevs0 : xevs [] ρ S = some ([], ρ, S) := Eq.trans rfl rfl
@[simp] theorem ap_xevs1 : xevs (fx :: xs) ρ S = (fx ρ S).bind fun r => (datOf r.1).bind fun d => (xevs xs r.2.1 r.2.2).map fun q => (d :: q.1, q.2.1, q.2.2) := Eq.trans rfl rfl
@[simp] theorem ap_xop2 {F : D → D → Option D} : xop2 F fx gx ρ S = (fx ρ S).bind fun r => (gx r.2.1 r.2.2).bind fun q => (datOf r.1).bind fun d => (datOf q.1).bind fun e => (F d e).map fun z => (.dat z, q.2.1, q.2.2) := Eq.trans rfl rfl
@[simp] theorem ap_xTup : xTup xs ρ S = (xevs xs ρ S).map fun r => (.dat (.tuple r.1), r.2.1, r.2.2) := Eq.trans rfl rfl
@[simp] theorem ap_xLst : xLst xs ρ S = (xevs xs ρ S).map fun r => (.dat (.list r.1), r.2.1, r.2.2) := Eq.trans rfl rfl
@[simp] theorem ap_xCall {F : List D → Option D} : xCall F xs ρ S = (xevs xs ρ S).bind fun r => (F r.1).map fun z => (.dat z, r.2.1, r.2.2) := Eq.trans rfl rfl
@[simp] theorem ap_xVar : xVar i ρ S = (match ρ[i]? with | some (.val d) => some (.dat d, ρ, S) | some (.ref n) => some (.ref n, ρ, S) | _ => none) := Eq.trans rfl rfl
@[simp] theorem ap_xtOf {T : D → Option Bool} : xtOf fx T ρ S = (fx ρ S).bind fun r => (datOf r.1).bind fun d => (T d).map fun b => (b, r.2.1, r.2.2) := Eq.trans rfl rfl
@[simp] theorem ap_xtAnd : xtAnd tx ux ρ S = (tx ρ S).bind fun r => if r.1 = true then ux r.2.1 r.2.2 else some r := Eq.trans rfl rfl
@[simp] theorem ap_xtOr : xtOr tx ux ρ S = (tx ρ S).bind fun r => if r.1 = true then some r else ux r.2.1 r.2.2 := Eq.trans rfl rfl
@[simp] theorem ap_xtNot : xtNot tx ρ S = (tx ρ S).map fun r => (!r.1, r.2.1, r.2.2) := Eq.trans rfl rfl
@[simp] theorem ap_xIf : xIf tx fx gx ρ S = (tx ρ S).bind fun r => if r.1 = true then fx r.2.1 r.2.2 else gx r.2.1 r.2.2 := Eq.trans rfl rfl
@[simp] theorem ap_bName : bName i d ρ = some (ρ.set i (.val d)) := Eq.trans rfl rfl
@[simp] theorem ap_bNil : bNil [] ρ = some ρ := Eq.trans rfl rfl
@[simp] theorem ap_bCons {b : BF} {bs : BFs} {ds : List D} : bCons b bs (d :: ds) ρ = (b d ρ).bind fun ρ' => bs ds ρ' := Eq.trans rfl rfl
@[simp] theorem ap_bTup {bs : BFs} {ds : List D} : bTup n bs (.tuple ds) ρ = if ds.length = n then bs ds ρ else none := Eq.trans rfl rfl
def seqR (u : SF) : Rs → Option Rs
  | .nx ρ S => u ρ S
  | r => some r
@[simp] theorem ap_sNil : sNil ρ S = some (.nx ρ S) := Eq.trans rfl rfl
theorem ap_sSeq : sSeq s s' ρ S = (s ρ S).bind (seqR s') := by
  unfold sSeq
  congr 1
@[simp] theorem ap_seqR {ρ' : En} {S' : Sto} : seqR s (.nx ρ' S') = s ρ' S' := Eq.trans rfl rfl
@[simp] theorem ap_seqR2 {r : SV} {S' : Sto} : seqR s (.rt r S') = some (.rt r S') := Eq.trans rfl rfl
@[simp] theorem ap_sFrz : sFrz i s ρ S = (match ρ[i]? with | some (.own d) => s (ρ.set i (.val d)) S | _ => s ρ S) := Eq.trans rfl rfl
@[simp] theorem ap_sExpr : sExpr fx ρ S = (fx ρ S).map fun r => .nx r.2.1 r.2.2 := Eq.trans rfl rfl
@[simp] theorem ap_sRet : sRet fx ρ S = (fx ρ S).map fun r => .rt r.1 r.2.2 := Eq.trans rfl rfl
@[simp] theorem ap_sIf : sIf tx s s' ρ S = (tx ρ S).bind fun r => if r.1 = true then s r.2.1 r.2.2 else s' r.2.1 r.2.2 := Eq.trans rfl rfl
@[simp] theorem ap_sSet : sSet i fx ρ S = (fx ρ S).map fun r => .nx (r.2.1.set i (celOf r.1)) r.2.2 := Eq.trans rfl rfl
@[simp] theorem ap_celD : celOf (.dat d) = .val d := Eq.trans rfl rfl
@[simp] theorem ap_celR : celOf (.ref n) = .ref n := Eq.trans rfl rfl
@[simp] theorem ap_sAsg {b : BF} : sAsg fx b ρ S = (fx ρ S).bind fun r => (datOf r.1).bind fun d => (b d r.2.1).map fun ρ' => .nx ρ' r.2.2 := Eq.trans rfl rfl
@[simp] theorem ap_sPar : sPar i j xs ρ S = (xevs xs ρ S).bind fun r => (match r.1 with | [d, e] => some (.nx ((r.2.1.set i (.val d)).set j (.val e)) r.2.2) | _ => none) := Eq.trans rfl rfl
@[simp] theorem ap_iOf : iOf f ρ S = (f ρ S).bind itemsD := Eq.trans rfl rfl
@[simp] theorem ap_iRange : iRange fs ρ S = (evs fs ρ S).bind rangeOf := Eq.trans rfl rfl
@[simp] theorem ap_iZipQ : iZipQ fs ρ S = (evs fs ρ S).bind zipOf := Eq.trans rfl rfl
@[simp] theorem ap_iEnumQ : iEnumQ fs ρ S = (evs fs ρ S).bind enumOf := Eq.trans rfl rfl
@[simp] theorem ap_itemsL {ds : List D} : itemsD (.list ds) = some ds := Eq.trans rfl rfl
@[simp] theorem ap_itemsT {ds : List D} : itemsD (.tuple ds) = some ds := Eq.trans rfl rfl
@[simp] theorem ap_seqOfL {ds : List D} : seqOf (.list ds) = some ds := Eq.trans rfl rfl
@[simp] theorem ap_seqOfT {ds : List D} : seqOf (.tuple ds) = some ds := Eq.trans rfl rfl
@[simp] theorem ap_zipOf {a b : D} : zipOf [a, b] = (seqOf a).bind fun xs => (seqOf b).map fun ys => zipD xs ys := Eq.trans rfl rfl
@[simp] theorem ap_enumOf {ds : List D} : enumOf [.list ds] = some (enumD 0 ds) := Eq.trans rfl rfl
@[simp] theorem ap_eLc {it : IQ} {bd : BF} {ws : List Nat} : eLc it bd ws t f ρ S = (yLc it bd ws t f ρ S).map .list := Eq.trans rfl rfl
theorem ap_yLc {it : IQ} {bd : BF} {ws : List Nat} : yLc it bd ws t f ρ S = (it ρ S).bind fun ds => (lcQ bd t f (blkE ρ ws) S ds).bind fun zs => if zs.length ≤ sizeLine then some zs else none := rfl
@[simp] theorem ap_qy {y : En → Sto → Option (List D)} : qy y ρ S = (y ρ S).map fun zs => (.list zs, ρ, S) := Eq.trans rfl rfl
@[simp] theorem ap_sValF {y : YF} : sValF i y ρ S = (y ρ S).map fun r => .nx (r.2.1.set i (.val r.1)) r.2.2 := Eq.trans rfl rfl
@[simp] theorem ap_sOwnF {y : YF} : sOwnF i y ρ S = (y ρ S).map fun r => .nx (r.2.1.set i (.own r.1)) r.2.2 := Eq.trans rfl rfl
@[simp] theorem ap_xF {y : YF} : xF y ρ S = (y ρ S).map fun r => (.dat r.1, r.2.1, r.2.2) := Eq.trans rfl rfl
@[simp] theorem ap_yLst : yLst xs ρ S = (xevs xs ρ S).map fun r => (.list r.1, r.2.1, r.2.2) := Eq.trans rfl rfl
@[simp] theorem ap_ixOf : ixOf fx ρ S = (fx ρ S).bind fun r => (datOf r.1).bind fun d => (itemsD d).map fun ds => (ds, r.2.1, r.2.2) := Eq.trans rfl rfl
@[simp] theorem ap_ixBor : ixBor i ρ S = (match ρ[i]? with | some (.val d) => (itemsD d).map fun ds => (ds, ρ, S) | some (.bor d) => (itemsD d).map fun ds => (ds, ρ, S) | _ => none) := Eq.trans rfl rfl
@[simp] theorem ap_ixRange : ixRange xs ρ S = (xevs xs ρ S).bind fun r => (rangeOf r.1).map fun ds => (ds, r.2.1, r.2.2) := Eq.trans rfl rfl
@[simp] theorem ap_ixZip : ixZip xs ρ S = (xevs xs ρ S).bind fun r => (zipOf r.1).map fun ds => (ds, r.2.1, r.2.2) := Eq.trans rfl rfl
@[simp] theorem ap_ixEnum : ixEnum xs ρ S = (xevs xs ρ S).bind fun r => (enumOf r.1).map fun ds => (ds, r.2.1, r.2.2) := Eq.trans rfl rfl
@[simp] theorem ap_sForI {it : IX} {bd : BF} : sForI it bd s ρ S = (it ρ S).bind fun r => sFor bd s r.1 r.2.1 r.2.2 := Eq.trans rfl rfl
def forR (k : SF) : Rs → Option Rs
  | .nx ρ S => k ρ S
  | .ct ρ S => k ρ S
  | .bk ρ S => some (.nx ρ S)
  | .rt r S => some (.rt r S)
@[simp] theorem ap_sFor0 {bd : BF} : sFor bd s [] ρ S = some (.nx ρ S) := Eq.trans rfl rfl
theorem ap_sFor1 {bd : BF} {ds : List D} : sFor bd s (d :: ds) ρ S = (bd d ρ).bind fun ρ1 => (s ρ1 S).bind (forR (sFor bd s ds)) := by
  rw [sFor]
  congr 1
@[simp] theorem ap_forR1 {ρ' : En} {S' : Sto} : forR s (.nx ρ' S') = s ρ' S' := Eq.trans rfl rfl
@[simp] theorem ap_forR2 {r : SV} {S' : Sto} : forR s (.rt r S') = some (.rt r S') := Eq.trans rfl rfl
@[simp] theorem ap_forR3 {ρ' : En} {S' : Sto} : forR s (.ct ρ' S') = s ρ' S' := Eq.trans rfl rfl
@[simp] theorem ap_forR4 {ρ' : En} {S' : Sto} : forR s (.bk ρ' S') = some (.nx ρ' S') := Eq.trans rfl rfl
theorem ap_while1 : sWhileN tx s (n + 1) ρ S = (tx ρ S).bind fun r => if r.1 = true then (s r.2.1 r.2.2).bind (forR (sWhileN tx s n)) else some (.nx r.2.1 r.2.2) := by
  rw [sWhileN]
  congr 1
def finR : Rs → Option (SV × Sto)
  | .rt v S => some (v, S)
  | .nx _ S => some (.dat .none, S)
  | _ => none
theorem ap_fnF {N : Nat} {args : En} : fnF N s args S = (s (args ++ List.replicate (N - args.length) .no) S).bind finR := by
  unfold fnF
  congr 1
@[simp] theorem ap_finR1 {r : SV} : finR (.rt r S) = some (r, S) := Eq.trans rfl rfl
@[simp] theorem ap_finR2 : finR (.nx ρ S) = some (.dat .none, S) := Eq.trans rfl rfl
@[simp] theorem ap_pureF {F : FF} {cs : En} : pureF F cs = (F cs []).bind fun r => datOf r.1 := Eq.trans rfl rfl
@[simp] theorem ap_eva0 : eva [] ρ S = some ([], ρ, S) := Eq.trans rfl rfl
@[simp] theorem ap_eva1 {as : List AX} : eva (.ev fx :: as) ρ S = (fx ρ S).bind fun r => (eva as r.2.1 r.2.2).map fun q => (.sv r.1 :: q.1, q.2.1, q.2.2) := Eq.trans rfl rfl
@[simp] theorem ap_eva2 {as : List AX} : eva (.bo i :: as) ρ S = (bVar i ρ S).bind fun _ => (eva as ρ S).map fun q => (.sl i :: q.1, q.2.1, q.2.2) := Eq.trans rfl rfl
@[simp] theorem ap_celsA0 : celsA ρ [] = some [] := Eq.trans rfl rfl
@[simp] theorem ap_celsA1 {a : AV} {as : List AV} : celsA ρ (a :: as) = (celA ρ a).bind fun c => (celsA ρ as).map (c :: ·) := Eq.trans rfl rfl
@[simp] theorem ap_celA1 {r : SV} : celA ρ (.sv r) = some (celOf r) := Eq.trans rfl rfl
@[simp] theorem ap_celA2 : celA ρ (.sl i) = (match ρ[i]? with | some (.val d) => some (.bor d) | some (.own d) => some (.bor d) | some (.bor d) => some (.bor d) | _ => none) := Eq.trans rfl rfl
@[simp] theorem ap_xCallP {F : FF} {as : List AX} : xCallP F as ρ S = (eva as ρ S).bind fun r => (celsA r.2.1 r.1).bind fun cs => if noRef r.1 = true then (pureF F cs).map fun z => (.dat z, r.2.1, r.2.2) else none := Eq.trans rfl rfl
@[simp] theorem ap_xCallS {F : FF} {as : List AX} : xCallS F as ρ S = (eva as ρ S).bind fun r => (celsA r.2.1 r.1).bind fun cs => (F cs r.2.2).map fun q => (q.1, r.2.1, q.2) := Eq.trans rfl rfl
@[simp] theorem ap_noRef0 : noRef [] = true := Eq.trans rfl rfl
@[simp] theorem ap_noRef1 {as : List AV} : noRef (.sv (.dat d) :: as) = noRef as := Eq.trans rfl rfl
@[simp] theorem ap_noRef2 {as : List AV} : noRef (.sl i :: as) = noRef as := Eq.trans rfl rfl
@[simp] theorem ap_addI {a b : Int} : addD (.int a) (.int b) = some (.int (a + b)) := Eq.trans rfl rfl
@[simp] theorem ap_subI {a b : Int} : subD (.int a) (.int b) = some (.int (a - b)) := Eq.trans rfl rfl
@[simp] theorem ap_negI {a : Int} : negD (.int a) = some (.int (-a)) := Eq.trans rfl rfl
@[simp] theorem ap_lt {a b : Int} : ltD (.int a) (.int b) = some (.bool (decide (a < b))) := Eq.trans rfl rfl
@[simp] theorem ap_le {a b : Int} : leD (.int a) (.int b) = some (.bool (decide (a ≤ b))) := Eq.trans rfl rfl
@[simp] theorem ap_gt {a b : Int} : gtD (.int a) (.int b) = some (.bool (decide (b < a))) := Eq.trans rfl rfl
@[simp] theorem ap_ge {a b : Int} : geD (.int a) (.int b) = some (.bool (decide (b ≤ a))) := Eq.trans rfl rfl
@[simp] theorem ap_eqI {a b : Int} : eqD (.int a) (.int b) = some (.bool (a == b)) := Eq.trans rfl rfl
@[simp] theorem ap_neI {a b : Int} : neD (.int a) (.int b) = some (.bool (!(a == b))) := Eq.trans rfl rfl
theorem ap_mulI {a b : Int} (h : a.natAbs.log2 + b.natAbs.log2 < 100000000) : mulD (.int a) (.int b) = some (.int (a * b)) := if_pos h
theorem ap_modI {a b : Int} (h : b ≠ 0) : modD (.int a) (.int b) = some (.int (a.fmod b)) := if_pos h
theorem ap_fdivI {a b : Int} (h : b ≠ 0) : fdivD (.int a) (.int b) = some (.int (a.fdiv b)) := if_pos h
@[simp] theorem ap_ixL {ds : List D} {z : Int} : ixD (.list ds) (.int z) = atI ds z := Eq.trans rfl rfl
@[simp] theorem ap_ixT {ds : List D} {z : Int} : ixD (.tuple ds) (.int z) = atI ds z := Eq.trans rfl rfl
theorem atI_nat' {α : Type} {xs : List α} {m : Nat} (h : m < xs.length) : atI xs (m : Int) = some xs[m] := by
  unfold atI ixN
  rw [if_pos (by omega), if_pos (by omega)]
  simp [h]
@[simp] theorem ap_abs {a : Int} : absD [.int a] = some (.int (if a < 0 then -a else a)) := Eq.trans rfl rfl
@[simp] theorem ap_lenL {ds : List D} : lenD [.list ds] = some (.int ds.length) := Eq.trans rfl rfl
@[simp] theorem ap_lenT {ds : List D} : lenD [.tuple ds] = some (.int ds.length) := Eq.trans rfl rfl
@[simp] theorem ap_listL {ds : List D} : listC [.list ds] = some (.list ds) := Eq.trans rfl rfl
@[simp] theorem ap_listT {ds : List D} : listC [.tuple ds] = some (.list ds) := Eq.trans rfl rfl
@[simp] theorem ap_tupL {ds : List D} : tupleC [.list ds] = some (.tuple ds) := Eq.trans rfl rfl
@[simp] theorem ap_tupT {ds : List D} : tupleC [.tuple ds] = some (.tuple ds) := Eq.trans rfl rfl
@[simp] theorem ap_sum {ns : List Int} : sumD [.list (ns.map .int)] = some (.int ns.sum) := by
  show (intsOf (ns.map PyData.int)).map _ = _
  rw [intsOf_map]; rfl
@[simp] theorem ap_intI {a : Int} : intD1 [.int a] = some (.int a) := Eq.trans rfl rfl
@[simp] theorem ap_intB {b : Bool} : intD1 [.bool b] = some (.int (if b then 1 else 0)) := Eq.trans rfl rfl
@[simp] theorem ap_truB {b : Bool} : truD (.bool b) = some b := Eq.trans rfl rfl
@[simp] theorem ap_lend1 : lendC (.val d) = .val d := Eq.trans rfl rfl
@[simp] theorem ap_lend2 : lendC (.own d) = .bor d := Eq.trans rfl rfl
@[simp] theorem ap_lend3 : lendC (.bor d) = .bor d := Eq.trans rfl rfl
@[simp] theorem ap_lend4 : lendC (.ref n) = .ref n := Eq.trans rfl rfl
@[simp] theorem ap_lend5 : lendC .no = .no := Eq.trans rfl rfl
@[simp] theorem ap_blkE {ws : List Nat} : blkE ρ ws = wipeE (ρ.map lendC) ws := Eq.trans rfl rfl
@[simp] theorem ap_wipe0 : wipeE ρ [] = ρ := Eq.trans rfl rfl
@[simp] theorem ap_wipe1 {v : Nat} {vs : List Nat} : wipeE ρ (v :: vs) = (wipeE ρ vs).set v .no := Eq.trans rfl rfl
/-- a comprehension without a test whose parts are what they are -/
theorem lc_map {α : Type} {c : α → D} {bd : BF} {F : α → D} : ∀ {ds : List α}, (∀ d ∈ ds, ∃ ρ1, bd (c d) ρ = some ρ1 ∧ f ρ1 S = some (F d)) → lcQ bd tYesQ f ρ S (ds.map c) = some (ds.map F)
  | [], _ => rfl
  | d :: ds, h => by
    obtain ⟨ρ1, e1, e2⟩ := h d List.mem_cons_self
    have ih := lc_map fun d' h' => h d' (List.mem_cons_of_mem _ h')
    rw [List.map_cons, lcQ, e1]
    simp [tYesQ, e2, ih]
/-- .. with a test -/
theorem lc_filter {α : Type} {c : α → D} {bd : BF} {F : α → D} {p : α → Bool} : ∀ {ds : List α}, (∀ d ∈ ds, ∃ ρ1, bd (c d) ρ = some ρ1 ∧ t ρ1 S = some (p d) ∧ (p d = true → f ρ1 S = some (F d))) → lcQ bd t f ρ S (ds.map c) = some ((ds.filter p).map F)
  | [], _ => rfl
  | d :: ds, h => by
    obtain ⟨ρ1, e1, e2, e3⟩ := h d List.mem_cons_self
    have ih := lc_filter fun d' h' => h d' (List.mem_cons_of_mem _ h')
    rw [List.map_cons, lcQ, e1]
    by_cases hp : p d = true
    · simp [e2, hp, e3 hp, ih]
    · simp [e2, hp, ih]
theorem rangeOf_nat {m : Nat} (h : m < 2 ^ 62) : rangeOf [.int (m : Int)] = some ((List.range m).map fun k : Nat => PyData.int (k : Int)) := by
  unfold rangeOf
  dsimp only
  rw [if_pos (by omega)]
  unfold rangeD
  simp
end
end DL
/-! the functions on data, step by step -/
namespace DL
open PySem PySem.Spec PyProof.Rows L2
section
variable {ρ ρ' ρ1 : En} {S S' S1 : Sto} {i j k n : Nat} {a b d e z : D} {f g : EF} {fs : List EF} {ds es zs : List D} {fx gx : XF} {xs : List XF} {t u : TF} {tx ux : XT} {s s' : SF} {r : Rs} {v w : SV}
theorem op2_s {F : D → D → Option D} (hf : f ρ S = some a) (hg : g ρ S = some b) (h : F a b = some d) : op2 F f g ρ S = some d := by
  show (f ρ S).bind _ = _
  rw [hf]
  show (g ρ S).bind _ = _
  rw [hg]
  exact h
theorem op1_s {F : D → Option D} (hf : f ρ S = some a) (h : F a = some d) : op1 F f ρ S = some d := by
  show (f ρ S).bind _ = _
  rw [hf]
  exact h
theorem evs1_s (hf : f ρ S = some d) (hs : evs fs ρ S = some ds) : evs (f :: fs) ρ S = some (d :: ds) := by
  show (f ρ S).bind _ = _
  rw [hf]
  show (evs fs ρ S).map _ = _
  rw [hs]
  rfl
theorem tup_s (hs : evs fs ρ S = some ds) : eTup fs ρ S = some (.tuple ds) := by
  show (evs fs ρ S).map _ = _
  rw [hs]
  rfl
theorem lst_s (hs : evs fs ρ S = some ds) : eLst fs ρ S = some (.list ds) := by
  show (evs fs ρ S).map _ = _
  rw [hs]
  rfl
theorem call_s {F : List D → Option D} (hs : evs fs ρ S = some ds) (h : F ds = some d) : eCall F fs ρ S = some d := by
  show (evs fs ρ S).bind _ = _
  rw [hs]
  exact h
theorem call1_s {F : List D → Option D} (hf : f ρ S = some a) (h : F [a] = some d) : eCall F [f] ρ S = some d := call_s (evs1_s hf rfl) h
theorem callF_s {F : FF} {as : List (Bool × EF)} {cs : En} (hs : evm as ρ S = some cs) (h : F cs [] = some (.dat d, S')) : eCallF F as ρ S = some d := by
  show (evm as ρ S).bind _ = _
  rw [hs]
  show (F cs []).bind _ = _
  rw [h]
  rfl
theorem evm1_s {l : Bool} {as : List (Bool × EF)} {cs : En} (hf : f ρ S = some d) (hs : evm as ρ S = some cs) : evm ((l, f) :: as) ρ S = some ((if l then .val d else .bor d) :: cs) := by
  show (f ρ S).bind _ = _
  rw [hf]
  show (evm as ρ S).map _ = _
  rw [hs]
  rfl
theorem slice_s {lo hi : OF} {x y : Option Int} (hf : f ρ S = some a) (h1 : lo ρ S = some x) (h2 : hi ρ S = some y) (h : sliceD a x y = some d) : eSlice f lo hi ρ S = some d := by
  show (f ρ S).bind _ = _
  rw [hf]
  show (lo ρ S).bind _ = _
  rw [h1]
  show (hi ρ S).bind _ = _
  rw [h2]
  exact h
theorem oSome_s {x : Int} (hf : f ρ S = some (.int x)) : oSome f ρ S = some (some x) := by
  show (f ρ S).bind _ = _
  rw [hf]
  rfl
theorem qx_s (hf : f ρ S = some d) : qx f ρ S = some (.dat d, ρ, S) := by
  show (f ρ S).map _ = _
  rw [hf]
  rfl
theorem qt_s {c : Bool} (h : t ρ S = some c) : qt t ρ S = some (c, ρ, S) := by
  show (t ρ S).map _ = _
  rw [h]
  rfl
theorem tOf_s {T : D → Option Bool} {c : Bool} (hf : f ρ S = some d) (h : T d = some c) : tOf f T ρ S = some c := by
  show (f ρ S).bind _ = _
  rw [hf]
  exact h
theorem lc_s {it : IQ} {bd : BF} {ws : List Nat} (h1 : it ρ S = some ds) (h2 : lcQ bd t f (blkE ρ ws) S ds = some zs) (h3 : zs.length ≤ sizeLine) : yLc it bd ws t f ρ S = some zs := by
  rw [ap_yLc, h1]
  show (lcQ _ _ _ _ _ _).bind _ = _
  rw [h2]
  exact if_pos h3
theorem elc_s {it : IQ} {bd : BF} {ws : List Nat} (h : yLc it bd ws t f ρ S = some zs) : eLc it bd ws t f ρ S = some (.list zs) := by
  show (yLc _ _ _ _ _ _ _).map _ = _
  rw [h]
  rfl
theorem range_s (hs : evs fs ρ S = some ds) (h : rangeOf ds = some zs) : iRange fs ρ S = some zs := by
  show (evs fs ρ S).bind _ = _
  rw [hs]
  exact h
theorem range1_s (hf : f ρ S = some (.int (n : Int))) (hn : n < 2 ^ 62) : iRange [f] ρ S = some ((List.range n).map fun k : Nat => PyData.int (k : Int)) := range_s (evs1_s hf rfl) (rangeOf_nat hn)
theorem iOf_s (hf : f ρ S = some d) (h : itemsD d = some ds) : iOf f ρ S = some ds := by
  show (f ρ S).bind _ = _
  rw [hf]
  exact h
theorem zip_s (hf : f ρ S = some a) (hg : g ρ S = some b) (h1 : seqOf a = some ds) (h2 : seqOf b = some es) : iZipQ [f, g] ρ S = some (zipD ds es) := by
  show (evs [f, g] ρ S).bind _ = _
  rw [evs1_s hf (evs1_s hg rfl)]
  show (seqOf a).bind _ = _
  rw [h1]
  show (seqOf b).map _ = _
  rw [h2]
  rfl
/-! statements -/
theorem seq_s (h1 : s ρ S = some (.nx ρ' S')) (h2 : s' ρ' S' = some r) : sSeq s s' ρ S = some r := by
  rw [ap_sSeq, h1]
  exact h2
theorem seq_rt (h1 : s ρ S = some (.rt v S')) : sSeq s s' ρ S = some (.rt v S') := by
  rw [ap_sSeq, h1]
  rfl
theorem if_t (h : tx ρ S = some (true, ρ1, S1)) (h1 : s ρ1 S1 = some r) : sIf tx s s' ρ S = some r := by
  show (tx ρ S).bind _ = _
  rw [h]
  exact h1
theorem if_f (h : tx ρ S = some (false, ρ1, S1)) (h1 : s' ρ1 S1 = some r) : sIf tx s s' ρ S = some r := by
  show (tx ρ S).bind _ = _
  rw [h]
  exact h1
theorem set_s (h : fx ρ S = some (v, ρ1, S1)) : sSet i fx ρ S = some (.nx (ρ1.set i (celOf v)) S1) := by
  show (fx ρ S).map _ = _
  rw [h]
  rfl
theorem asg_s {bd : BF} (h : fx ρ S = some (.dat d, ρ1, S1)) (hb : bd d ρ1 = some ρ') : sAsg fx bd ρ S = some (.nx ρ' S1) := by
  show (fx ρ S).bind _ = _
  rw [h]
  show (bd d ρ1).map _ = _
  rw [hb]
  rfl
theorem valF_s {y : YF} (h : y ρ S = some (d, ρ1, S1)) : sValF i y ρ S = some (.nx (ρ1.set i (.val d)) S1) := by
  show (y ρ S).map _ = _
  rw [h]
  rfl
theorem ownF_s {y : YF} (h : y ρ S = some (d, ρ1, S1)) : sOwnF i y ρ S = some (.nx (ρ1.set i (.own d)) S1) := by
  show (y ρ S).map _ = _
  rw [h]
  rfl
theorem qy_s {y : En → Sto → Option (List D)} (h : y ρ S = some zs) : qy y ρ S = some (.list zs, ρ, S) := by
  show (y ρ S).map _ = _
  rw [h]
  rfl
theorem ret_s (h : fx ρ S = some (v, ρ1, S1)) : sRet fx ρ S = some (.rt v S1) := by
  show (fx ρ S).map _ = _
  rw [h]
  rfl
theorem expr_s (h : fx ρ S = some (v, ρ1, S1)) : sExpr fx ρ S = some (.nx ρ1 S1) := by
  show (fx ρ S).map _ = _
  rw [h]
  rfl
theorem fnF_s {N : Nat} {args : En} (h : s (args ++ List.replicate (N - args.length) .no) S = some (.rt v S')) : fnF N s args S = some (v, S') := by
  rw [ap_fnF, h]
  rfl
theorem fnF_n {N : Nat} {args : En} (h : s (args ++ List.replicate (N - args.length) .no) S = some (.nx ρ' S')) : fnF N s args S = some (.dat .none, S') := by
  rw [ap_fnF, h]
  rfl
theorem forI_s {it : IX} {bd : BF} (h : it ρ S = some (ds, ρ1, S1)) (h2 : sFor bd s ds ρ1 S1 = some r) : sForI it bd s ρ S = some r := by
  show (it ρ S).bind _ = _
  rw [h]
  exact h2
theorem for_s {bd : BF} (h1 : bd d ρ = some ρ1) (h2 : s ρ1 S = some (.nx ρ' S')) (h3 : sFor bd s ds ρ' S' = some r) : sFor bd s (d :: ds) ρ S = some r := by
  rw [ap_sFor1, h1]
  show (s ρ1 S).bind _ = _
  rw [h2]
  exact h3
theorem for_rt {bd : BF} (h1 : bd d ρ = some ρ1) (h2 : s ρ1 S = some (.rt v S')) : sFor bd s (d :: ds) ρ S = some (.rt v S') := by
  rw [ap_sFor1, h1]
  show (s ρ1 S).bind _ = _
  rw [h2]
  rfl
theorem forC_0 {o : Option SO} {bd : BF} (h : S[n]? = o) : sForC n o bd s [] ρ S = some (.nx ρ S) := by
  unfold sForC
  exact if_pos h
theorem forC_1 {o : Option SO} {bd : BF} (h : S[n]? = o) (h1 : bd d ρ = some ρ1) (h2 : s ρ1 S = some (.nx ρ' S')) (h3 : sForC n o bd s ds ρ' S' = some r) : sForC n o bd s (d :: ds) ρ S = some r := by
  unfold sForC
  rw [if_pos h, h1]
  show (s ρ1 S).bind _ = _
  rw [h2]
  exact h3
theorem meth_s {c m : Str} {F : FF} {as : List AX} {fs : List (Str × SV)} {vs : List AV} {cs : En} (h1 : insOf c ρ S i = some (n, fs)) (h2 : fs.lookup m = none) (h3 : eva as ρ S = some (vs, ρ1, S1)) (h4 : celsA ρ1 vs = some cs) (h5 : F (.ref n :: cs) S1 = some (v, S')) :
    xMeth c i m F as ρ S = some (v, ρ1, S') := by
  show (insOf c ρ S i).bind _ = _
  rw [h1]
  show (if (fs.lookup m).isNone = true then _ else _) = _
  rw [h2, if_pos (show (none : Option SV).isNone = true from rfl), h3]
  show (celsA ρ1 vs).bind _ = _
  rw [h4]
  show (F (.ref n :: cs) S1).map _ = _
  rw [h5]
  rfl
theorem eva_s {as : List AX} {vs : List AV} (h : fx ρ S = some (v, ρ1, S1)) (h2 : eva as ρ1 S1 = some (vs, ρ', S')) : eva (.ev fx :: as) ρ S = some (.sv v :: vs, ρ', S') := by
  show (fx ρ S).bind _ = _
  rw [h]
  show (eva as ρ1 S1).map _ = _
  rw [h2]
  rfl
theorem make_s {c : Str} {F : FF} {as : List AX} {vs : List AV} {cs : En} (h3 : eva as ρ S = some (vs, ρ1, S1)) (h4 : celsA ρ1 vs = some cs) (h5 : F (.ref S1.length :: cs) (S1 ++ [.ins c []]) = some (.dat .none, S')) :
    xMake c F as ρ S = some (.ref S1.length, ρ1, S') := by
  show (eva as ρ S).bind _ = _
  rw [h3]
  show (celsA ρ1 vs).bind _ = _
  rw [h4]
  show (F (.ref S1.length :: cs) (S1 ++ [.ins c []])).bind _ = _
  rw [h5]
  rfl
theorem callS_s {F : FF} {as : List AX} {vs : List AV} {cs : En} (h3 : eva as ρ S = some (vs, ρ1, S1)) (h4 : celsA ρ1 vs = some cs) (h5 : F cs S1 = some (v, S')) : xCallS F as ρ S = some (v, ρ1, S') := by
  show (eva as ρ S).bind _ = _
  rw [h3]
  show (celsA ρ1 vs).bind _ = _
  rw [h4]
  show (F cs S1).map _ = _
  rw [h5]
  rfl
theorem appS_s {c f : Str} {xs' ys : List SV} (h1 : fldOf c i f ρ S = some (.ref n)) (h2 : S[n]? = some (.lst xs')) (h3 : fx ρ S = some (v, ρ1, S1)) (h4 : S1[n]? = some (.lst ys)) (h5 : ys.length < sizeLine) :
    xAppS c i f fx ρ S = some (.dat .none, ρ1, S1.set n (.lst (ys ++ [v]))) := by
  show (fldOf c i f ρ S).bind _ = _
  rw [h1]
  show (match S[n]? with | some (.lst _) => (fx ρ S).bind _ | _ => none) = _
  rw [h2]
  show (fx ρ S).bind _ = _
  rw [h3]
  show (match S1[n]? with | some (.lst xs) => if xs.length < sizeLine then _ else _ | _ => none) = _
  rw [h4]
  exact if_pos h5
theorem forFld_s {c f : Str} {bd : BF} (h1 : fldOf c i f ρ S = some (.ref n)) (h2 : stoL S (.ref n) = some ds) (h3 : sForC n (S[n]?) bd s ds ρ S = some r) : sForFld c i f bd s ρ S = some r := by
  show (fldOf c i f ρ S).bind _ = _
  rw [h1]
  show (stoL S (.ref n)).bind _ = _
  rw [h2]
  exact h3
end
end DL
namespace K21
open PySem PySem.Spec PyProof.Rows L2 DL
def topS (i : Nat) : Stmt := PySem.Challenge.pw_whosees_k21_whole_rows_that_follow.main.body.getD i (.Pass ⟨0, 0, 0, 0⟩)
abbrev s_divisor_of : Stmt := topS 1
abbrev N_divisor_of : List Str := ["a", "b"]
theorem sc_divisor_of : FnScope N_divisor_of ["a", "b"] (defScope s_divisor_of) := ⟨rfl, rfl, rfl, by decide +kernel, rfl, by decide +kernel, by decide +kernel⟩
abbrev s_shortened : Stmt := topS 2
abbrev N_shortened : List Str := ["numbers", "most", "number"]
theorem sc_shortened : FnScope N_shortened ["numbers"] (defScope s_shortened) := ⟨rfl, rfl, rfl, by decide +kernel, rfl, by decide +kernel, by decide +kernel⟩
abbrev s_product : Stmt := topS 3
abbrev N_product : List Str := ["row", "other", "a", "b"]
theorem sc_product : FnScope N_product ["row", "other"] (defScope s_product) := ⟨rfl, rfl, rfl, by decide +kernel, rfl, by decide +kernel, by decide +kernel⟩
abbrev s_Basis___init__ : Stmt := inClass (topS 4) 0
abbrev N_Basis___init__ : List Str := ["self", "count", "width"]
theorem sc_Basis___init__ : FnScope N_Basis___init__ ["self", "count", "width"] (defScope s_Basis___init__) := ⟨rfl, rfl, rfl, by decide +kernel, rfl, by decide +kernel, by decide +kernel⟩
abbrev s_Basis_taken : Stmt := inClass (topS 4) 1
abbrev N_Basis_taken : List Str := ["self", "row", "weights", "left", "parts", "place", "step", "marks", "a", "b", "both", "k", "marked"]
theorem sc_Basis_taken : FnScope N_Basis_taken ["self", "row", "weights"] (defScope s_Basis_taken) := ⟨rfl, rfl, rfl, by decide +kernel, rfl, by decide +kernel, by decide +kernel⟩
abbrev s_Basis_add : Stmt := inClass (topS 4) 2
abbrev N_Basis_add : List Str := ["self", "at", "row", "left", "parts", "k", "places"]
theorem sc_Basis_add : FnScope N_Basis_add ["self", "at", "row"] (defScope s_Basis_add) := ⟨rfl, rfl, rfl, by decide +kernel, rfl, by decide +kernel, by decide +kernel⟩
abbrev s_Basis_shift : Stmt := inClass (topS 4) 3
abbrev N_Basis_shift : List Str := ["self", "place", "found", "k", "at", "step", "_", "rest", "number"]
theorem sc_Basis_shift : FnScope N_Basis_shift ["self", "place"] (defScope s_Basis_shift) := ⟨rfl, rfl, rfl, by decide +kernel, rfl, by decide +kernel, by decide +kernel⟩
abbrev s_basis_of : Stmt := topS 5
abbrev N_basis_of : List Str := ["rows", "width", "basis", "at", "row"]
theorem sc_basis_of : FnScope N_basis_of ["rows", "width"] (defScope s_basis_of) := ⟨rfl, rfl, rfl, by decide +kernel, rfl, by decide +kernel, by decide +kernel⟩
abbrev s_independent : Stmt := topS 6
abbrev N_independent : List Str := ["rows", "basis", "at", "row"]
theorem sc_independent : FnScope N_independent ["rows"] (defScope s_independent) := ⟨rfl, rfl, rfl, by decide +kernel, rfl, by decide +kernel, by decide +kernel⟩
abbrev s_weights : Stmt := topS 7
abbrev N_weights : List Str := ["rows", "goal", "basis", "left", "parts", "places", "k", "sign", "number", "shift"]
theorem sc_weights : FnScope N_weights ["rows", "goal"] (defScope s_weights) := ⟨rfl, rfl, rfl, by decide +kernel, rfl, by decide +kernel, by decide +kernel⟩
abbrev s_weights_right : Stmt := topS 8
abbrev N_weights_right : List Str := ["rows", "goal", "parts", "divisor", "k", "part", "row"]
theorem sc_weights_right : FnScope N_weights_right ["rows", "goal", "parts", "divisor"] (defScope s_weights_right) := ⟨rfl, rfl, rfl, by decide +kernel, rfl, by decide +kernel, by decide +kernel⟩
abbrev s_shift_right : Stmt := topS 9
abbrev N_shift_right : List Str := ["rows", "goal", "shift", "row"]
theorem sc_shift_right : FnScope N_shift_right ["rows", "goal", "shift"] (defScope s_shift_right) := ⟨rfl, rfl, rfl, by decide +kernel, rfl, by decide +kernel, by decide +kernel⟩
abbrev s__law_state : Stmt := topS 11
abbrev N__law_state : List Str := ["script", "seed", "cell"]
theorem sc__law_state : FnScope N__law_state ["script"] (defScope s__law_state) := ⟨rfl, rfl, rfl, by decide +kernel, rfl, by decide +kernel, by decide +kernel⟩
abbrev s__law_draw : Stmt := topS 12
abbrev N__law_draw : List Str := ["state", "many", "cells", "value", "mixed"]
theorem sc__law_draw : FnScope N__law_draw ["state", "many"] (defScope s__law_draw) := ⟨rfl, rfl, rfl, by decide +kernel, rfl, by decide +kernel, by decide +kernel⟩
abbrev s__law_pick : Stmt := topS 13
abbrev N__law_pick : List Str := ["state", "row"]
theorem sc__law_pick : FnScope N__law_pick ["state", "row"] (defScope s__law_pick) := ⟨rfl, rfl, rfl, by decide +kernel, rfl, by decide +kernel, by decide +kernel⟩
abbrev s__law_same : Stmt := topS 14
abbrev N__law_same : List Str := ["actual", "expected", "k"]
theorem sc__law_same : FnScope N__law_same ["actual", "expected"] (defScope s__law_same) := ⟨rfl, rfl, rfl, by decide +kernel, rfl, by decide +kernel, by decide +kernel⟩
abbrev s__law_number : Stmt := topS 15
abbrev N__law_number : List Str := ["state", "great"]
theorem sc__law_number : FnScope N__law_number ["state", "great"] (defScope s__law_number) := ⟨rfl, rfl, rfl, by decide +kernel, rfl, by decide +kernel, by decide +kernel⟩
abbrev s__law_mixed : Stmt := topS 16
abbrev N__law_mixed : List Str := ["rows", "parts", "width", "part", "row", "k"]
theorem sc__law_mixed : FnScope N__law_mixed ["rows", "parts", "width"] (defScope s__law_mixed) := ⟨rfl, rfl, rfl, by decide +kernel, rfl, by decide +kernel, by decide +kernel⟩
abbrev s__law_rows : Stmt := topS 17
abbrev N__law_rows : List Str := ["state", "width", "great", "rows", "turn", "kind", "row", "k"]
theorem sc__law_rows : FnScope N__law_rows ["state"] (defScope s__law_rows) := ⟨rfl, rfl, rfl, by decide +kernel, rfl, by decide +kernel, by decide +kernel⟩
abbrev s__law_goal : Stmt := topS 18
abbrev N__law_goal : List Str := ["state", "rows", "width", "kind", "place", "k", "goal", "row"]
theorem sc__law_goal : FnScope N__law_goal ["state", "rows", "width"] (defScope s__law_goal) := ⟨rfl, rfl, rfl, by decide +kernel, rfl, by decide +kernel, by decide +kernel⟩
abbrev s__law_follows : Stmt := topS 19
abbrev N__law_follows : List Str := ["rows", "goal", "parts", "divisor", "number"]
theorem sc__law_follows : FnScope N__law_follows ["rows", "goal", "parts", "divisor"] (defScope s__law_follows) := ⟨rfl, rfl, rfl, by decide +kernel, rfl, by decide +kernel, by decide +kernel⟩
abbrev s__law_moves : Stmt := topS 20
abbrev N__law_moves : List Str := ["rows", "goal", "shift", "a", "b", "row"]
theorem sc__law_moves : FnScope N__law_moves ["rows", "goal", "shift"] (defScope s__law_moves) := ⟨rfl, rfl, rfl, by decide +kernel, rfl, by decide +kernel, by decide +kernel⟩
abbrev s__law_whole : Stmt := topS 21
abbrev N__law_whole : List Str := ["numbers", "number"]
theorem sc__law_whole : FnScope N__law_whole ["numbers"] (defScope s__law_whole) := ⟨rfl, rfl, rfl, by decide +kernel, rfl, by decide +kernel, by decide +kernel⟩
abbrev s__law_told : Stmt := topS 22
abbrev N__law_told : List Str := ["rows", "goal", "told"]
theorem sc__law_told : FnScope N__law_told ["rows", "goal"] (defScope s__law_told) := ⟨rfl, rfl, rfl, by decide +kernel, rfl, by decide +kernel, by decide +kernel⟩
abbrev s__law_judged : Stmt := topS 23
abbrev N__law_judged : List Str := ["state", "rows", "goal", "told", "numbers", "factor", "turn", "parts", "number", "divisor"]
theorem sc__law_judged : FnScope N__law_judged ["state", "rows", "goal", "told"] (defScope s__law_judged) := ⟨rfl, rfl, rfl, by decide +kernel, rfl, by decide +kernel, by decide +kernel⟩
abbrev s_law : Stmt := topS 24
abbrev N_law : List Str := ["script", "state", "rows", "width", "turn", "goal", "kept", "due", "k", "word"]
theorem sc_law : FnScope N_law ["script"] (defScope s_law) := ⟨rfl, rfl, rfl, by decide +kernel, rfl, by decide +kernel, by decide +kernel⟩
abbrev lc_57_11 : Scope := { kind := PySem.ScopeKind.function, names := [ (PySem.Str.ofString ".0", PySem.NameKind.local), (PySem.Str.ofString "at", PySem.NameKind.local), (PySem.Str.ofString "row", PySem.NameKind.local), (PySem.Str.ofString "basis", PySem.NameKind.free)], isGenerator := false, isCoroutine := false, more := [] : PySem.Scope }
abbrev lc_61_13 : Scope := { kind := PySem.ScopeKind.function, names := [ (PySem.Str.ofString ".0", PySem.NameKind.local), (PySem.Str.ofString "k", PySem.NameKind.local), (PySem.Str.ofString "left", PySem.NameKind.free)], isGenerator := false, isCoroutine := false, more := [] : PySem.Scope }
abbrev lc_11_11 : Scope := { kind := PySem.ScopeKind.function, names := [ (PySem.Str.ofString ".0", PySem.NameKind.local), (PySem.Str.ofString "number", PySem.NameKind.local), (PySem.Str.ofString "most", PySem.NameKind.free)], isGenerator := false, isCoroutine := false, more := [] : PySem.Scope }
abbrev lc_13_15 : Scope := { kind := PySem.ScopeKind.function, names := [ (PySem.Str.ofString ".0", PySem.NameKind.local), (PySem.Str.ofString "a", PySem.NameKind.local), (PySem.Str.ofString "b", PySem.NameKind.local)], isGenerator := false, isCoroutine := false, more := [] : PySem.Scope }
abbrev lc_34_17 : Scope := { kind := PySem.ScopeKind.function, names := [ (PySem.Str.ofString ".0", PySem.NameKind.local), (PySem.Str.ofString "k", PySem.NameKind.local), (PySem.Str.ofString "left", PySem.NameKind.free)], isGenerator := false, isCoroutine := false, more := [] : PySem.Scope }
abbrev lc_41_16 : Scope := { kind := PySem.ScopeKind.function, names := [ (PySem.Str.ofString ".0", PySem.NameKind.local), (PySem.Str.ofString "k", PySem.NameKind.local), (PySem.Str.ofString "int", PySem.NameKind.globalImplicit), (PySem.Str.ofString "place", PySem.NameKind.free)], isGenerator := false, isCoroutine := false, more := [] : PySem.Scope }
abbrev lc_68_16 : Scope := { kind := PySem.ScopeKind.function, names := [(PySem.Str.ofString ".0", PySem.NameKind.local), (PySem.Str.ofString "number", PySem.NameKind.local)], isGenerator := false, isCoroutine := false, more := [] : PySem.Scope }
abbrev lc_80_15 : Scope := { kind := PySem.ScopeKind.function, names := [ (PySem.Str.ofString ".0", PySem.NameKind.local), (PySem.Str.ofString "row", PySem.NameKind.local), (PySem.Str.ofString "product", PySem.NameKind.globalImplicit), (PySem.Str.ofString "shift", PySem.NameKind.free)], isGenerator := false, isCoroutine := false, more := [] : PySem.Scope }
abbrev lc_86_12 : Scope := { kind := PySem.ScopeKind.function, names := [ (PySem.Str.ofString ".0", PySem.NameKind.local), (PySem.Str.ofString "cell", PySem.NameKind.local), (PySem.Str.ofString "abs", PySem.NameKind.globalImplicit)], isGenerator := false, isCoroutine := false, more := [] : PySem.Scope }
abbrev lc_121_17 : Scope := { kind := PySem.ScopeKind.function, names := [ (PySem.Str.ofString ".0", PySem.NameKind.local), (PySem.Str.ofString "k", PySem.NameKind.cell), (PySem.Str.ofString "sum", PySem.NameKind.globalImplicit), (PySem.Str.ofString "zip", PySem.NameKind.globalImplicit), (PySem.Str.ofString "parts", PySem.NameKind.free), (PySem.Str.ofString "rows", PySem.NameKind.free)], isGenerator := false, isCoroutine := false, more := [] : PySem.Scope }
abbrev lc_169_16 : Scope := { kind := PySem.ScopeKind.function, names := [ (PySem.Str.ofString ".0", PySem.NameKind.local), (PySem.Str.ofString "number", PySem.NameKind.local), (PySem.Str.ofString "factor", PySem.NameKind.free)], isGenerator := false, isCoroutine := false, more := [] : PySem.Scope }
abbrev lc_33_38 : Scope := { kind := PySem.ScopeKind.function, names := [ (PySem.Str.ofString ".0", PySem.NameKind.local), (PySem.Str.ofString "k", PySem.NameKind.local), (PySem.Str.ofString "int", PySem.NameKind.globalImplicit), (PySem.Str.ofString "at", PySem.NameKind.free)], isGenerator := false, isCoroutine := false, more := [] : PySem.Scope }
abbrev lc_44_20 : Scope := { kind := PySem.ScopeKind.function, names := [ (PySem.Str.ofString ".0", PySem.NameKind.local), (PySem.Str.ofString "number", PySem.NameKind.local), (PySem.Str.ofString "at", PySem.NameKind.free), (PySem.Str.ofString "step", PySem.NameKind.free)], isGenerator := false, isCoroutine := false, more := [] : PySem.Scope }
abbrev lc_64_26 : Scope := { kind := PySem.ScopeKind.function, names := [ (PySem.Str.ofString ".0", PySem.NameKind.local), (PySem.Str.ofString "number", PySem.NameKind.local), (PySem.Str.ofString "sign", PySem.NameKind.free)], isGenerator := false, isCoroutine := false, more := [] : PySem.Scope }
abbrev lc_139_21 : Scope := { kind := PySem.ScopeKind.function, names := [ (PySem.Str.ofString ".0", PySem.NameKind.local), (PySem.Str.ofString "k", PySem.NameKind.local), (PySem.Str.ofString "int", PySem.NameKind.globalImplicit), (PySem.Str.ofString "place", PySem.NameKind.free)], isGenerator := false, isCoroutine := false, more := [] : PySem.Scope }
abbrev lc_141_21 : Scope := { kind := PySem.ScopeKind.function, names := [ (PySem.Str.ofString ".0", PySem.NameKind.local), (PySem.Str.ofString "k", PySem.NameKind.local), (PySem.Str.ofString "_law_number", PySem.NameKind.globalImplicit), (PySem.Str.ofString "state", PySem.NameKind.free)], isGenerator := false, isCoroutine := false, more := [] : PySem.Scope }
abbrev lc_142_33 : Scope := { kind := PySem.ScopeKind.function, names := [ (PySem.Str.ofString ".0", PySem.NameKind.local), (PySem.Str.ofString "row", PySem.NameKind.local), (PySem.Str.ofString "_law_pick", PySem.NameKind.globalImplicit), (PySem.Str.ofString "state", PySem.NameKind.free)], isGenerator := false, isCoroutine := false, more := [] : PySem.Scope }
abbrev lc_149_55 : Scope := { kind := PySem.ScopeKind.function, names := [ (PySem.Str.ofString ".0", PySem.NameKind.local), (PySem.Str.ofString "number", PySem.NameKind.local), (PySem.Str.ofString "divisor", PySem.NameKind.free)], isGenerator := false, isCoroutine := false, more := [] : PySem.Scope }
abbrev lc_151_11 : Scope := { kind := PySem.ScopeKind.function, names := [ (PySem.Str.ofString ".0", PySem.NameKind.local), (PySem.Str.ofString "a", PySem.NameKind.local), (PySem.Str.ofString "b", PySem.NameKind.local)], isGenerator := false, isCoroutine := false, more := [] : PySem.Scope }
abbrev lc_153_15 : Scope := { kind := PySem.ScopeKind.function, names := [ (PySem.Str.ofString ".0", PySem.NameKind.local), (PySem.Str.ofString "row", PySem.NameKind.local), (PySem.Str.ofString "sum", PySem.NameKind.globalImplicit), (PySem.Str.ofString "zip", PySem.NameKind.globalImplicit), (PySem.Str.ofString "shift", PySem.NameKind.free)], isGenerator := false, isCoroutine := false, more := [] : PySem.Scope }
abbrev lc_155_15 : Scope := { kind := PySem.ScopeKind.function, names := [ (PySem.Str.ofString ".0", PySem.NameKind.local), (PySem.Str.ofString "number", PySem.NameKind.local), (PySem.Str.ofString "isinstance", PySem.NameKind.globalImplicit), (PySem.Str.ofString "int", PySem.NameKind.globalImplicit), (PySem.Str.ofString "bool", PySem.NameKind.globalImplicit)], isGenerator := false, isCoroutine := false, more := [] : PySem.Scope }
abbrev lc_26_23 : Scope := { kind := PySem.ScopeKind.function, names := [ (PySem.Str.ofString ".0", PySem.NameKind.local), (PySem.Str.ofString "k", PySem.NameKind.local), (PySem.Str.ofString "a", PySem.NameKind.free), (PySem.Str.ofString "b", PySem.NameKind.free), (PySem.Str.ofString "left", PySem.NameKind.free), (PySem.Str.ofString "step", PySem.NameKind.free)], isGenerator := false, isCoroutine := false, more := [] : PySem.Scope }
abbrev lc_27_25 : Scope := { kind := PySem.ScopeKind.function, names := [ (PySem.Str.ofString ".0", PySem.NameKind.local), (PySem.Str.ofString "k", PySem.NameKind.local), (PySem.Str.ofString "a", PySem.NameKind.free), (PySem.Str.ofString "b", PySem.NameKind.free), (PySem.Str.ofString "marks", PySem.NameKind.free), (PySem.Str.ofString "parts", PySem.NameKind.free)], isGenerator := false, isCoroutine := false, more := [] : PySem.Scope }
abbrev lc_43_23 : Scope := { kind := PySem.ScopeKind.function, names := [ (PySem.Str.ofString ".0", PySem.NameKind.local), (PySem.Str.ofString "k", PySem.NameKind.local), (PySem.Str.ofString "at", PySem.NameKind.free), (PySem.Str.ofString "found", PySem.NameKind.free), (PySem.Str.ofString "step", PySem.NameKind.free)], isGenerator := false, isCoroutine := false, more := [] : PySem.Scope }
abbrev lc_65_28 : Scope := { kind := PySem.ScopeKind.function, names := [(PySem.Str.ofString ".0", PySem.NameKind.local), (PySem.Str.ofString "number", PySem.NameKind.local)], isGenerator := false, isCoroutine := false, more := [] : PySem.Scope }
abbrev lc_74_15 : Scope := { kind := PySem.ScopeKind.function, names := [ (PySem.Str.ofString ".0", PySem.NameKind.local), (PySem.Str.ofString "part", PySem.NameKind.local), (PySem.Str.ofString "row", PySem.NameKind.local), (PySem.Str.ofString "k", PySem.NameKind.free)], isGenerator := false, isCoroutine := false, more := [] : PySem.Scope }
abbrev lc_108_19 : Scope := { kind := PySem.ScopeKind.function, names := [ (PySem.Str.ofString ".0", PySem.NameKind.local), (PySem.Str.ofString "k", PySem.NameKind.local), (PySem.Str.ofString "_law_same", PySem.NameKind.globalImplicit), (PySem.Str.ofString "actual", PySem.NameKind.free), (PySem.Str.ofString "expected", PySem.NameKind.free)], isGenerator := false, isCoroutine := false, more := [] : PySem.Scope }
abbrev lc_121_22 : Scope := { kind := PySem.ScopeKind.function, names := [ (PySem.Str.ofString ".0", PySem.NameKind.local), (PySem.Str.ofString "part", PySem.NameKind.local), (PySem.Str.ofString "row", PySem.NameKind.local), (PySem.Str.ofString "k", PySem.NameKind.free)], isGenerator := false, isCoroutine := false, more := [] : PySem.Scope }
abbrev lc_173_20 : Scope := { kind := PySem.ScopeKind.function, names := [(PySem.Str.ofString ".0", PySem.NameKind.local), (PySem.Str.ofString "number", PySem.NameKind.local)], isGenerator := false, isCoroutine := false, more := [] : PySem.Scope }
abbrev lc_129_41 : Scope := { kind := PySem.ScopeKind.function, names := [ (PySem.Str.ofString ".0", PySem.NameKind.local), (PySem.Str.ofString "row", PySem.NameKind.local), (PySem.Str.ofString "_law_pick", PySem.NameKind.globalImplicit), (PySem.Str.ofString "state", PySem.NameKind.free)], isGenerator := false, isCoroutine := false, more := [] : PySem.Scope }
abbrev lc_131_30 : Scope := { kind := PySem.ScopeKind.function, names := [ (PySem.Str.ofString ".0", PySem.NameKind.local), (PySem.Str.ofString "k", PySem.NameKind.local), (PySem.Str.ofString "int", PySem.NameKind.globalImplicit), (PySem.Str.ofString "_law_draw", PySem.NameKind.globalImplicit), (PySem.Str.ofString "state", PySem.NameKind.free)], isGenerator := false, isCoroutine := false, more := [] : PySem.Scope }
abbrev lc_133_30 : Scope := { kind := PySem.ScopeKind.function, names := [ (PySem.Str.ofString ".0", PySem.NameKind.local), (PySem.Str.ofString "k", PySem.NameKind.local), (PySem.Str.ofString "_law_number", PySem.NameKind.globalImplicit), (PySem.Str.ofString "great", PySem.NameKind.free), (PySem.Str.ofString "state", PySem.NameKind.free)], isGenerator := false, isCoroutine := false, more := [] : PySem.Scope }
abbrev lc_153_43 : Scope := { kind := PySem.ScopeKind.function, names := [ (PySem.Str.ofString ".0", PySem.NameKind.local), (PySem.Str.ofString "a", PySem.NameKind.local), (PySem.Str.ofString "b", PySem.NameKind.local)], isGenerator := false, isCoroutine := false, more := [] : PySem.Scope }
theorem bo_abs : bootBuiltins "abs" = some (.builtin "abs") := by decide +kernel
theorem bo_list : bootBuiltins "list" = some (.type "list") := by decide +kernel
theorem bo_zip : bootBuiltins "zip" = some (.type "zip") := by decide +kernel
theorem bo_sum : bootBuiltins "sum" = some (.builtin "sum") := by decide +kernel
theorem bo_range : bootBuiltins "range" = some (.type "range") := by decide +kernel
theorem bo_int : bootBuiltins "int" = some (.type "int") := by decide +kernel
theorem bo_len : bootBuiltins "len" = some (.builtin "len") := by decide +kernel
theorem bo_enumerate : bootBuiltins "enumerate" = some (.type "enumerate") := by decide +kernel
theorem bo_tuple : bootBuiltins "tuple" = some (.type "tuple") := by decide +kernel
theorem bo_all : bootBuiltins "all" = some (.builtin "all") := by decide +kernel
theorem bo_isinstance : bootBuiltins "isinstance" = some (.builtin "isinstance") := by decide +kernel
theorem bo_bool : bootBuiltins "bool" = some (.type "bool") := by decide +kernel
theorem bo_str : bootBuiltins "str" = some (.type "str") := by decide +kernel
theorem bo_repr : bootBuiltins "repr" = some (.builtin "repr") := by decide +kernel
/-! the functions on data -/
noncomputable def b_divisor_of_1 : SF :=
    (sPar 0 1 [(qx (eVar 1)), (qx (op2 modD (eVar 0) (eVar 1)))])
noncomputable def t_divisor_of : SF :=
    (sSeq (sPar 0 1 [(qx (eCall absD [(eVar 0)])), (qx (eCall absD [(eVar 1)]))])
    (sSeq (sWhile (qt (tOf (op2 gtD (eVar 1) (eC (.int 0))) boolD)) b_divisor_of_1)
    (sRet (qx (eVar 0)))))
noncomputable def F_divisor_of : FF := fnF 2 t_divisor_of
noncomputable def b_shortened_1 : SF :=
    (sSet 1 (qx (eCallF F_divisor_of [(true, (eVar 1)), (true, (eVar 2))])))
noncomputable def t_shortened : SF :=
    (sSeq (sSet 1 (qx (eC (.int 0))))
    (sSeq (sForI (ixBor 0) (bName 2) b_shortened_1)
    (sRet (qx (eIf (tOf (op2 gtD (eVar 1) (eC (.int 1))) boolD) (eLc (iOf (bVar 0)) (bName 2) [2] tYesQ (op2 fdivD (eVar 2) (eVar 1))) (eCall listC [(bVar 0)]))))))
noncomputable def F_shortened : FF := fnF 3 t_shortened
noncomputable def t_product : SF :=
    (sRet (qx (eCall sumD [(eLc (iZipQ [(eVar 0), (eVar 1)]) (bTup 2 (bCons (bName 2) (bCons (bName 3) bNil))) [2, 3] tYesQ (op2 mulD (eVar 2) (eVar 3)))])))
noncomputable def F_product : FF := fnF 4 t_product
noncomputable def t_Basis___init__ : SF :=
    (sSeq (sFldS "Basis" 0 "count" (qx (eVar 1)))
    (sSeq (sFldS "Basis" 0 "width" (qx (eVar 2)))
    (sFldNew "Basis" 0 "steps" (yLst []))))
noncomputable def F_Basis___init__ : FF := fnF 3 t_Basis___init__
noncomputable def b_Basis_taken_1 : SF :=
    (sIf (qt (tOf (op2 neD (op2 ixD (eVar 3) (eVar 5)) (eC (.int 0))) boolD)) (sSeq (sAsg (qx (eTup [(op2 ixD (eVar 6) (eVar 5)), (op2 ixD (eVar 3) (eVar 5))])) (bTup 2 (bCons (bName 8) (bCons (bName 9) bNil))))
      (sSeq (sValF 10 (qy (yLc (iRange [(eFld "Basis" 0 "width")]) (bName 11) [11] tYesQ (op2 subD (op2 mulD (eVar 8) (op2 ixD (eVar 3) (eVar 11))) (op2 mulD (eVar 9) (op2 ixD (eVar 6) (eVar 11)))))))
      (sSeq (sValF 12 (qy (yLc (iRange [(op2 addD (eFld "Basis" 0 "count") (eC (.int 1)))]) (bName 11) [11] tYesQ (op2 subD (op2 mulD (eVar 8) (op2 ixD (eVar 4) (eVar 11))) (op2 mulD (eVar 9) (op2 ixD (eVar 7) (eVar 11)))))))
      (sSeq (sSet 10 (qx (eCallF F_shortened [(true, (op2 addD (eVar 10) (eVar 12)))])))
      (sAsg (qx (eTup [(eSlice (eVar 10) oNone (oSome (eFld "Basis" 0 "width"))), (eSlice (eVar 10) (oSome (eFld "Basis" 0 "width")) oNone)])) (bTup 2 (bCons (bName 3) (bCons (bName 4) bNil)))))))) sNil)
noncomputable def t_Basis_taken : SF :=
    (sSeq (sAsg (qx (eTup [(eCall listC [(eVar 1)]), (eCall listC [(eVar 2)])])) (bTup 2 (bCons (bName 3) (bCons (bName 4) bNil))))
    (sSeq (sForFld "Basis" 0 "steps" (bTup 3 (bCons (bName 5) (bCons (bName 6) (bCons (bName 7) bNil)))) b_Basis_taken_1)
    (sRet (qx (eTup [(eVar 3), (eVar 4)])))))
noncomputable def F_Basis_taken : FF := fnF 13 t_Basis_taken
noncomputable def t_Basis_add : SF :=
    (sSeq (sAsg (xMeth "Basis" 0 "taken" F_Basis_taken [.ev (qx (eVar 2)), .ev (qx (eLc (iRange [(op2 addD (eFld "Basis" 0 "count") (eC (.int 1)))]) (bName 5) [5] tYesQ (eCall intD1 [(op2 eqD (eVar 5) (eVar 1))])))]) (bTup 2 (bCons (bName 3) (bCons (bName 4) bNil))))
    (sSeq (sValF 6 (qy (yLc (iRange [(eFld "Basis" 0 "width")]) (bName 5) [5] (tOf (op2 neD (op2 ixD (eVar 3) (eVar 5)) (eC (.int 0))) boolD) (eVar 5))))
    (sSeq (sIf (qt (tOf (op2 eqD (eCall lenD [(eVar 6)]) (eC (.int 0))) boolD)) (sRet (qx (eC (.bool false)))) sNil)
    (sSeq (sExpr (xAppS "Basis" 0 "steps" (qx (eTup [(op2 ixD (eVar 6) (eC (.int 0))), (eVar 3), (eVar 4)]))))
    (sRet (qx (eC (.bool true))))))))
noncomputable def F_Basis_add : FF := fnF 7 t_Basis_add
noncomputable def b_Basis_shift_1 : SF :=
    (sSeq (sSet 7 (qx (eCall sumD [(eLc (iRange [(eFld "Basis" 0 "width")]) (bName 3) [3] (tOf (op2 neD (eVar 3) (eVar 4)) boolD) (op2 mulD (op2 ixD (eVar 5) (eVar 3)) (op2 ixD (bVar 2) (eVar 3))))])))
      (sSeq (sOwnF 2 (qy (yLc (iOf (bVar 2)) (bName 8) [8] tYesQ (op2 mulD (op2 ixD (eVar 5) (eVar 4)) (eVar 8)))))
      (sSeq (sSetIx 2 (qx (eVar 4)) (qx (op1 negD (eVar 7))))
      (sSet 2 (qx (eCallF F_shortened [(false, (bVar 2))]))))))
noncomputable def t_Basis_shift : SF :=
    (sSeq (sOwnF 2 (qy (yLc (iRange [(eFld "Basis" 0 "width")]) (bName 3) [3] tYesQ (eCall intD1 [(op2 eqD (eVar 3) (eVar 1))]))))
    (sSeq (sForI (ixOf (qx (op1 revD (bFld "Basis" 0 "steps")))) (bTup 3 (bCons (bName 4) (bCons (bName 5) (bCons (bName 6) bNil)))) b_Basis_shift_1)
    (sFrz 2 (sRet (qx (eVar 2))))))
noncomputable def F_Basis_shift : FF := fnF 9 t_Basis_shift
noncomputable def b_basis_of_1 : SF :=
    (sExpr (xMeth "Basis" 2 "add" F_Basis_add [.ev (qx (eVar 3)), .ev (qx (eVar 4))]))
noncomputable def t_basis_of : SF :=
    (sSeq (sSet 2 (xMake "Basis" F_Basis___init__ [.ev (qx (eCall lenD [(eVar 0)])), .ev (qx (eVar 1))]))
    (sSeq (sForI (ixEnum [(qx (eVar 0))]) (bTup 2 (bCons (bName 3) (bCons (bName 4) bNil))) b_basis_of_1)
    (sRet (xVar 2))))
noncomputable def F_basis_of : FF := fnF 5 t_basis_of
noncomputable def t_independent : SF :=
    (sSeq (sIf (qt (tOf (op2 eqD (eCall lenD [(eVar 0)]) (eC (.int 0))) boolD)) (sRet (qx (eLst []))) sNil)
    (sSeq (sSet 1 (xMake "Basis" F_Basis___init__ [.ev (qx (eCall lenD [(eVar 0)])), .ev (qx (eCall lenD [(op2 ixD (eVar 0) (eC (.int 0)))]))]))
    (sRet (xF (yLcX (ixEnum [(qx (eVar 0))]) (bTup 2 (bCons (bName 2) (bCons (bName 3) bNil))) [2, 3] (xtOf (xMeth "Basis" 1 "add" F_Basis_add [.ev (qx (eVar 2)), .ev (qx (eVar 3))]) boolD) (qx (eVar 2)))))))
noncomputable def F_independent : FF := fnF 4 t_independent
noncomputable def t_weights : SF :=
    (sSeq (sSet 2 (xCallS F_basis_of [.ev (qx (eVar 0)), .ev (qx (eCall lenD [(eVar 1)]))]))
    (sSeq (sAsg (xMeth "Basis" 2 "taken" F_Basis_taken [.ev (qx (eVar 1)), .ev (qx (op2 addD (op2 mulD (eLst [(eC (.int 0))]) (eCall lenD [(eVar 0)])) (eLst [(eC (.int 1))])))]) (bTup 2 (bCons (bName 3) (bCons (bName 4) bNil))))
    (sSeq (sValF 5 (qy (yLc (iRange [(eCall lenD [(eVar 1)])]) (bName 6) [6] (tOf (op2 neD (op2 ixD (eVar 3) (eVar 6)) (eC (.int 0))) boolD) (eVar 6))))
    (sSeq (sIf (qt (tOf (op2 eqD (eCall lenD [(eVar 5)]) (eC (.int 0))) boolD)) (sSeq (sSet 7 (qx (eIf (tOf (op2 gtD (op2 ixD (eVar 4) (op1 negD (eC (.int 1)))) (eC (.int 0))) boolD) (eC (.int 1)) (op1 negD (eC (.int 1))))))
      (sSeq (sSet 4 (qx (eCallF F_shortened [(true, (eLc (iOf (eVar 4)) (bName 8) [8] tYesQ (op2 mulD (eVar 7) (eVar 8))))])))
      (sRet (qx (eTup [(eC (.str "in")), (eCall tupleC [(eLc (iOf (eSlice (eVar 4) oNone (oSome (op1 negD (eC (.int 1)))))) (bName 8) [8] tYesQ (op1 negD (eVar 8)))]), (op2 ixD (eVar 4) (op1 negD (eC (.int 1))))]))))) sNil)
    (sSeq (sSet 9 (xMeth "Basis" 2 "shift" F_Basis_shift [.ev (qx (op2 ixD (eVar 5) (eC (.int 0))))]))
    (sSeq (sIf (qt (tOf (op2 ltD (eCallF F_product [(true, (eVar 1)), (true, (eVar 9))]) (eC (.int 0))) boolD)) (sValF 9 (qy (yLc (iOf (eVar 9)) (bName 8) [8] tYesQ (op1 negD (eVar 8))))) sNil)
    (sRet (qx (eTup [(eC (.str "out")), (eCall tupleC [(eVar 9)])])))))))))
noncomputable def F_weights : FF := fnF 10 t_weights
noncomputable def b_weights_right_1 : SF :=
    (sIf (qt (tOf (op2 neD (eCall sumD [(eLc (iZipQ [(eVar 2), (eVar 0)]) (bTup 2 (bCons (bName 5) (bCons (bName 6) bNil))) [5, 6] tYesQ (op2 mulD (eVar 5) (op2 ixD (eVar 6) (eVar 4))))]) (op2 mulD (eVar 3) (op2 ixD (eVar 1) (eVar 4)))) boolD)) (sRet (qx (eC (.bool false)))) sNil)
noncomputable def t_weights_right : SF :=
    (sSeq (sIf (qt (tOrQ (tOf (op2 neD (eCall lenD [(eVar 2)]) (eCall lenD [(eVar 0)])) boolD) (tOf (op2 ltD (eVar 3) (eC (.int 1))) boolD))) (sRet (qx (eC (.bool false)))) sNil)
    (sSeq (sForI (ixRange [(qx (eCall lenD [(eVar 1)]))]) (bName 4) b_weights_right_1)
    (sRet (qx (eC (.bool true))))))
noncomputable def F_weights_right : FF := fnF 7 t_weights_right
noncomputable def t_shift_right : SF :=
    (sSeq (sIf (qt (tOrQ (tOf (op2 neD (eCall lenD [(eVar 2)]) (eCall lenD [(eVar 1)])) boolD) (tOf (op2 eqD (eCallF F_product [(true, (eVar 1)), (true, (eVar 2))]) (eC (.int 0))) boolD))) (sRet (qx (eC (.bool false)))) sNil)
    (sRet (qx (eCall allD [(eLc (iOf (eVar 0)) (bName 3) [3] tYesQ (op2 eqD (eCallF F_product [(true, (eVar 3)), (true, (eVar 2))]) (eC (.int 0))))]))))
noncomputable def F_shift_right : FF := fnF 4 t_shift_right
noncomputable def b__law_state_1 : SF :=
    (sSet 1 (qx (op2 modD (eCall intD1 [(op2 addD (op2 mulD (eVar 1) (eC (.int 31))) (eVar 2))]) (eC (.int 1000003)))))
noncomputable def t__law_state : SF :=
    (sSeq (sSet 1 (qx (eC (.int 7))))
    (sSeq (sForI (ixBor 0) (bName 2) b__law_state_1)
    (sRet (xNewS [.ev (xRef (qy (yLc (iOf (eVar 0)) (bName 2) [2] tYesQ (eCall absD [(eVar 2)])))), .ev (qx (op2 addD (eVar 1) (eC (.int 1))))]))))
noncomputable def F__law_state : FF := fnF 3 t__law_state
noncomputable def b__law_draw_1 : SF :=
    (sExpr (xPopS 2 (qx (eC (.int 0)))))
noncomputable def t__law_draw : SF :=
    (sSeq (sIf (qt (tOf (op2 ltD (eVar 1) (eC (.int 1))) boolD)) (sRet (qx (eC (.int 0)))) sNil)
    (sSeq (sSet 2 (xIxS 0 (qx (eC (.int 0)))))
    (sSeq (sWhile (qt (tAndQ (tOf (op2 gtD (eCall lenD [(bRef 2)]) (eC (.int 0))) boolD) (tOf (op2 eqD (op2 ixD (bRef 2) (eC (.int 0))) (eC (.int 0))) boolD))) b__law_draw_1)
    (sSeq (sIf (qt (tOf (op2 gtD (eCall lenD [(bRef 2)]) (eC (.int 0))) boolD)) (sSeq (sSet 3 (qx (op2 ixD (bRef 2) (eC (.int 0)))))
      (sSeq (sSetIxS 2 (qx (eC (.int 0))) (qx (op2 fdivD (eVar 3) (eVar 1))))
      (sRet (qx (op2 modD (eCall intD1 [(eVar 3)]) (eVar 1)))))) sNil)
    (sSeq (sSet 4 (xop2 modD (xCall intD1 [(xop2 addD (xop2 mulD (xIxS 0 (qx (eC (.int 1)))) (qx (eC (.int 48271)))) (qx (eC (.int 12345))))]) (qx (eC (.int 2147483647)))))
    (sSeq (sSetIxS 0 (qx (eC (.int 1))) (qx (eVar 4)))
    (sRet (qx (op2 modD (eCall intD1 [(op2 fdivD (eVar 4) (eC (.int 64)))]) (eVar 1))))))))))
noncomputable def F__law_draw : FF := fnF 5 t__law_draw
noncomputable def t__law_pick : SF :=
    (sRet (xop2 ixD (qx (eVar 1)) (xCallS F__law_draw [.ev (xVar 0), .ev (qx (eCall lenD [(eVar 1)]))])))
noncomputable def F__law_pick : FF := fnF 2 t__law_pick
noncomputable def t__law_same (F : FF) : SF :=
    (sSeq (sIf (qt (tOrQ (tOf (eIsi "tuple" (bVar 1)) truD) (tOf (eIsi "list" (bVar 1)) truD))) (sSeq (sIf (qt (tOrQ (tOf (op2 neD (eIsi "tuple" (eVar 0)) (eIsi "tuple" (bVar 1))) boolD) (tOf (op2 neD (eIsi "list" (eVar 0)) (eIsi "list" (bVar 1))) boolD))) (sRet (qx (eC (.bool false)))) sNil)
      (sSeq (sIf (qt (tOf (op2 neD (eCall lenD [(eVar 0)]) (eCall lenD [(bVar 1)])) boolD)) (sRet (qx (eC (.bool false)))) sNil)
      (sRet (qx (op2 eqD (eCall lenD [(eLc (iRange [(eCall lenD [(bVar 1)])]) (bName 2) [2] (tNotQ (tOf (eCallF F [(true, (op2 ixD (eVar 0) (eVar 2))), (true, (op2 ixD (bVar 1) (eVar 2)))]) truD)) (eVar 2))]) (eC (.int 0))))))) sNil)
    (sSeq (sIf (qt (tOrQ (tOf (eIsi "bool" (bVar 1)) truD) (tOf (eIsi "bool" (eVar 0)) truD))) (sRet (qx (eAnd (eIsi "bool" (bVar 1)) (eAnd (eIsi "bool" (eVar 0)) (op2 eqD (eVar 0) (bVar 1)))))) sNil)
    (sSeq (sIf (qt (tOrQ (tOf (op2 isD (bVar 1) (eC .none)) boolD) (tOf (op2 isD (eVar 0) (eC .none)) boolD))) (sRet (qx (eAnd (op2 isD (bVar 1) (eC .none)) (op2 isD (eVar 0) (eC .none))))) sNil)
    (sSeq (sIf (qt (tOrQ (tOf (eIsi "str" (bVar 1)) truD) (tOf (eIsi "str" (eVar 0)) truD))) (sRet (qx (eAnd (eIsi "str" (bVar 1)) (eAnd (eIsi "str" (eVar 0)) (op2 eqD (eVar 0) (bVar 1)))))) sNil)
    (sRet (qx (eAnd (eIsi "int" (eVar 0)) (eAnd (eIsi "int" (bVar 1)) (op2 eqD (eVar 0) (bVar 1))))))))))
noncomputable def F__law_same : Nat → FF
  | 0 => fun _ _ => none
  | n + 1 => fnF 3 (t__law_same (F__law_same n))
noncomputable def t__law_number : SF :=
    (sSeq (sIf (xtAnd (qt (tOf (eVar 1) truD)) (xtOf (xop2 eqD (xCallS F__law_draw [.ev (xVar 0), .ev (qx (eC (.int 3)))]) (qx (eC (.int 0)))) boolD)) (sRet (xop2 subD (xCallS F__law_draw [.ev (xVar 0), .ev (qx (op2 mulD (eC (.int 2)) (op2 powD (eC (.int 10)) (eC (.int 40)))))]) (qx (op2 powD (eC (.int 10)) (eC (.int 40)))))) sNil)
    (sRet (xCallS F__law_pick [.ev (xVar 0), .ev (qx (eLst [(eC (.int 0)), (eC (.int 0)), (eC (.int 0)), (eC (.int 1)), (eC (.int 1)), (eC (.int 1)), (op1 negD (eC (.int 1))), (eC (.int 2)), (op1 negD (eC (.int 2))), (eC (.int 3)), (op1 negD (eC (.int 7))), (eC (.int 10000))]))])))
noncomputable def F__law_number : FF := fnF 2 t__law_number
noncomputable def t__law_mixed : SF :=
    (sRet (qx (eCall tupleC [(eLc (iRange [(eVar 2)]) (bName 5) [5] tYesQ (eCall sumD [(eLc (iZipQ [(bVar 1), (bVar 0)]) (bTup 2 (bCons (bName 3) (bCons (bName 4) bNil))) [3, 4] tYesQ (op2 mulD (eVar 3) (op2 ixD (eVar 4) (eVar 5))))]))])))
noncomputable def F__law_mixed : FF := fnF 6 t__law_mixed
noncomputable def b__law_rows_1 : SF :=
    (sSeq (sSet 5 (xCallS F__law_draw [.ev (xVar 0), .ev (qx (eC (.int 4)))]))
      (sIf (qt (tAndQ (tOf (op2 eqD (eVar 5) (eC (.int 0))) boolD) (tOf (op2 gtD (eCall lenD [(bVar 3)]) (eC (.int 0))) boolD))) (sExpr (xApp 3 (xCallP F__law_mixed [.bo 3, .ev (xF (yLcX (ixOwn 3) (bName 6) [6] tYesX (xCallS F__law_pick [.ev (xVar 0), .ev (qx (eLst [(eC (.int 0)), (eC (.int 0)), (eC (.int 1)), (op1 negD (eC (.int 1))), (eC (.int 2))]))]))), .ev (qx (eVar 1))]))) (sIf (qt (tOf (op2 eqD (eVar 5) (eC (.int 1))) boolD)) (sExpr (xApp 3 (xCall tupleC [(xF (yLcX (ixRange [(qx (eVar 1))]) (bName 7) [7] tYesX (xCall intD1 [(xop2 eqD (xCallS F__law_draw [.ev (xVar 0), .ev (qx (eC (.int 2)))]) (qx (eC (.int 0))))])))]))) (sExpr (xApp 3 (xCall tupleC [(xF (yLcX (ixRange [(qx (eVar 1))]) (bName 7) [7] tYesX (xCallS F__law_number [.ev (xVar 0), .ev (qx (eVar 2))])))]))))))
noncomputable def t__law_rows : SF :=
    (sSeq (sSet 1 (xop2 addD (qx (eC (.int 1))) (xCallS F__law_draw [.ev (xVar 0), .ev (qx (eC (.int 10)))])))
    (sSeq (sSet 2 (xop2 eqD (xCallS F__law_draw [.ev (xVar 0), .ev (qx (eC (.int 6)))]) (qx (eC (.int 0)))))
    (sSeq (sOwnF 3 (yLst []))
    (sSeq (sForI (ixRange [(xCallS F__law_draw [.ev (xVar 0), .ev (qx (eC (.int 13)))])]) (bName 4) b__law_rows_1)
    (sFrz 3 (sRet (qx (eTup [(eVar 3), (eVar 1)]))))))))
noncomputable def F__law_rows : FF := fnF 8 t__law_rows
noncomputable def t__law_goal : SF :=
    (sSeq (sSet 3 (xCallS F__law_draw [.ev (xVar 0), .ev (qx (eC (.int 4)))]))
    (sSeq (sIf (qt (tOf (op2 eqD (eVar 3) (eC (.int 0))) boolD)) (sSeq (sSet 4 (xCallS F__law_draw [.ev (xVar 0), .ev (qx (eVar 2))]))
      (sRet (qx (eCall tupleC [(eLc (iRange [(eVar 2)]) (bName 5) [5] tYesQ (eCall intD1 [(op2 eqD (eVar 5) (eVar 4))]))])))) sNil)
    (sSeq (sIf (qt (tOf (op2 eqD (eVar 3) (eC (.int 1))) boolD)) (sRet (xCall tupleC [(xF (yLcX (ixRange [(qx (eVar 2))]) (bName 5) [5] tYesX (xCallS F__law_number [.ev (xVar 0), .ev (qx (eC (.bool false)))])))])) sNil)
    (sSeq (sOwnF 6 (yList (xCallP F__law_mixed [.ev (qx (eVar 1)), .ev (xF (yLcX (ixBor 1) (bName 7) [7] tYesX (xCallS F__law_pick [.ev (xVar 0), .ev (qx (eLst [(eC (.int 0)), (eC (.int 1)), (op1 negD (eC (.int 1))), (eC (.int 3)), (eC (.int 12))]))]))), .ev (qx (eVar 2))])))
    (sSeq (sIf (qt (tOf (op2 eqD (eVar 3) (eC (.int 2))) boolD)) (sAugIx 6 iaddD (xCallS F__law_draw [.ev (xVar 0), .ev (qx (eVar 2))]) (xCallS F__law_pick [.ev (xVar 0), .ev (qx (eLst [(eC (.int 1)), (op1 negD (eC (.int 1))), (op2 powD (eC (.int 10)) (eC (.int 30)))]))])) sNil)
    (sRet (qx (eCall tupleC [(bVar 6)]))))))))
noncomputable def F__law_goal : FF := fnF 8 t__law_goal
noncomputable def t__law_follows : SF :=
    (sSeq (sIf (qt (tOrQ (tOf (op2 neD (eCall lenD [(bVar 2)]) (eCall lenD [(eVar 0)])) boolD) (tOf (op2 ltD (eVar 3) (eC (.int 1))) boolD))) (sRet (qx (eC (.bool false)))) sNil)
    (sRet (qx (op2 eqD (eCallF F__law_mixed [(true, (eVar 0)), (false, (bVar 2)), (true, (eCall lenD [(eVar 1)]))]) (eCall tupleC [(eLc (iOf (eVar 1)) (bName 4) [4] tYesQ (op2 mulD (eVar 3) (eVar 4)))])))))
noncomputable def F__law_follows : FF := fnF 5 t__law_follows
noncomputable def t__law_moves : SF :=
    (sSeq (sIf (qt (tOf (op2 eqD (eCall sumD [(eLc (iZipQ [(eVar 1), (bVar 2)]) (bTup 2 (bCons (bName 3) (bCons (bName 4) bNil))) [3, 4] tYesQ (op2 mulD (eVar 3) (eVar 4)))]) (eC (.int 0))) boolD)) (sRet (qx (eC (.bool false)))) sNil)
    (sRet (qx (op2 eqD (eCall lenD [(eLc (iOf (eVar 0)) (bName 5) [5] (tOf (op2 neD (eCall sumD [(eLc (iZipQ [(eVar 5), (bVar 2)]) (bTup 2 (bCons (bName 3) (bCons (bName 4) bNil))) [3, 4] tYesQ (op2 mulD (eVar 3) (eVar 4)))]) (eC (.int 0))) boolD) (eVar 5))]) (eC (.int 0))))))
noncomputable def F__law_moves : FF := fnF 6 t__law_moves
noncomputable def t__law_whole : SF :=
    (sRet (qx (op2 eqD (eCall lenD [(eLc (iOf (eVar 0)) (bName 1) [1] (tOrQ (tNotQ (tOf (eIsi "int" (eVar 1)) truD)) (tOf (eIsi "bool" (eVar 1)) truD)) (eVar 1))]) (eC (.int 0)))))
noncomputable def F__law_whole : FF := fnF 2 t__law_whole
noncomputable def t__law_told : SF :=
    (sSeq (sSet 2 (qx (eCallF F_weights [(true, (eVar 0)), (true, (eVar 1))])))
    (sSeq (sIf (qt (tOrQ (tNotQ (tOf (eIsi "tuple" (eVar 2)) truD)) (tOrQ (tOf (op2 ltD (eCall lenD [(eVar 2)]) (eC (.int 2))) boolD) (tOrQ (tNotQ (tOf (eIsi "tuple" (op2 ixD (eVar 2) (eC (.int 1)))) truD)) (tNotQ (tOf (eCallF F__law_whole [(true, (op2 ixD (eVar 2) (eC (.int 1))))]) truD)))))) (sRet (qx (eC .none))) sNil)
    (sSeq (sIf (qt (tAndQ (tOf (op2 eqD (op2 ixD (eVar 2) (eC (.int 0))) (eC (.str "in"))) boolD) (tAndQ (tOf (op2 eqD (eCall lenD [(eVar 2)]) (eC (.int 3))) boolD) (tAndQ (tOf (eCallF F__law_whole [(true, (eLst [(op2 ixD (eVar 2) (eC (.int 2)))]))]) truD) (tOf (eCallF F__law_follows [(true, (eVar 0)), (true, (eVar 1)), (true, (op2 ixD (eVar 2) (eC (.int 1)))), (true, (op2 ixD (eVar 2) (eC (.int 2))))]) truD))))) (sRet (qx (eC (.str "in")))) sNil)
    (sSeq (sIf (qt (tAndQ (tOf (op2 eqD (op2 ixD (eVar 2) (eC (.int 0))) (eC (.str "out"))) boolD) (tAndQ (tOf (op2 eqD (eCall lenD [(eVar 2)]) (eC (.int 2))) boolD) (tAndQ (tOf (op2 eqD (eCall lenD [(op2 ixD (eVar 2) (eC (.int 1)))]) (eCall lenD [(eVar 1)])) boolD) (tOf (eCallF F__law_moves [(true, (eVar 0)), (true, (eVar 1)), (true, (op2 ixD (eVar 2) (eC (.int 1))))]) truD))))) (sRet (qx (eC (.str "out")))) sNil)
    (sRet (qx (eC .none)))))))
noncomputable def F__law_told : FF := fnF 3 t__law_told
noncomputable def b__law_judged_1 : SF :=
    (sSeq (sOwnF 7 (qy (yLc (iOf (eVar 4)) (bName 8) [8] tYesQ (op2 mulD (eVar 5) (eVar 8)))))
      (sSeq (sIf (qt (tAndQ (tOf (op2 eqD (eVar 6) (eC (.int 1))) boolD) (tOf (op2 gtD (eCall lenD [(bVar 7)]) (eC (.int 0))) boolD))) (sAugIx 7 iaddD (xCallS F__law_draw [.ev (xVar 0), .ev (qx (eCall lenD [(bVar 7)]))]) (xCallS F__law_pick [.ev (xVar 0), .ev (qx (eLst [(eC (.int 1)), (op1 negD (eC (.int 1))), (eC (.int 2))]))])) sNil)
      (sSeq (sIf (qt (tOf (op2 eqD (eVar 6) (eC (.int 2))) boolD)) (sSet 7 (xIf (xtOf (xop2 eqD (xCallS F__law_draw [.ev (xVar 0), .ev (qx (eC (.int 2)))]) (qx (eC (.int 0)))) boolD) (qx (eLc (iOf (bVar 7)) (bName 8) [8] tYesQ (op1 negD (eVar 8)))) (qx (eSlice (bVar 7) (oSome (eC (.int 1))) oNone)))) sNil)
      (sIf (qt (tOf (op2 eqD (op2 ixD (eVar 3) (eC (.int 0))) (eC (.str "in"))) boolD)) (sSeq (sSet 9 (xop2 addD (qx (op2 mulD (eVar 5) (op2 ixD (eVar 3) (eC (.int 2))))) (xCallS F__law_pick [.ev (xVar 0), .ev (qx (eLst [(eC (.int 0)), (eC (.int 0)), (eC (.int 1)), (op2 mulD (op1 negD (eVar 5)) (op2 ixD (eVar 3) (eC (.int 2)))), (op2 mulD (op2 mulD (op1 negD (eC (.int 2))) (eVar 5)) (op2 ixD (eVar 3) (eC (.int 2))))]))])))
      (sIf (qt (tNotQ (tOf (eCallF (F__law_same 3) [(true, (eCallF F_weights_right [(true, (eVar 1)), (true, (eVar 2)), (true, (eCall tupleC [(bVar 7)])), (true, (eVar 9))])), (true, (eCallF F__law_follows [(true, (eVar 1)), (true, (eVar 2)), (false, (bVar 7)), (true, (eVar 9))]))]) truD))) (sRet (qx (eC (.bool false)))) sNil)) (sIf (qt (tAndQ (tOf (op2 eqD (eCall lenD [(bVar 7)]) (eCall lenD [(eVar 2)])) boolD) (tNotQ (tOf (eCallF (F__law_same 3) [(true, (eCallF F_shift_right [(true, (eVar 1)), (true, (eVar 2)), (true, (eCall tupleC [(bVar 7)]))])), (true, (eCallF F__law_moves [(true, (eVar 1)), (true, (eVar 2)), (false, (bVar 7))]))]) truD)))) (sRet (qx (eC (.bool false)))) sNil)))))
noncomputable def t__law_judged : SF :=
    (sSeq (sSet 4 (qx (eCall listC [(op2 ixD (eVar 3) (eC (.int 1)))])))
    (sSeq (sSet 5 (xCallS F__law_pick [.ev (xVar 0), .ev (qx (eLst [(eC (.int 1)), (eC (.int 2)), (eC (.int 5)), (op2 powD (eC (.int 10)) (eC (.int 12)))]))]))
    (sSeq (sForI (ixRange [(qx (eC (.int 3)))]) (bName 6) b__law_judged_1)
    (sRet (qx (eC (.bool true)))))))
noncomputable def F__law_judged : FF := fnF 10 t__law_judged
noncomputable def b_law_1 : SF :=
    (sSeq (sSet 5 (xCallS F__law_goal [.ev (xVar 1), .ev (qx (eVar 2)), .ev (qx (eVar 3))]))
      (sSeq (sSet 6 (qx (eCall reprD [(eLst [(eVar 2), (eVar 5)])])))
      (sIf (xtOr (qt (tOf (op2 isD (eCallF F__law_told [(true, (eVar 2)), (true, (eVar 5))]) (eC .none)) boolD)) (xtOr (xtNot (xtOf (xCallS F__law_judged [.ev (xVar 1), .ev (qx (eVar 2)), .ev (qx (eVar 5)), .ev (qx (eCallF F_weights [(true, (eVar 2)), (true, (eVar 5))]))]) boolD)) (qt (tOf (op2 neD (eCall reprD [(eLst [(eVar 2), (eVar 5)])]) (eVar 6)) boolD)))) (sRet (qx (eC (.bool false)))) sNil)))
noncomputable def b_law_2 : SF :=
    (sSeq (sSet 9 (qx (eCallF F__law_told [(true, (eSlice (eVar 2) oNone (oSome (eVar 8)))), (true, (op2 ixD (eVar 2) (eVar 8)))])))
      (sSeq (sIf (qt (tOf (op2 isD (eVar 9) (eC .none)) boolD)) (sRet (qx (eC (.bool false)))) sNil)
      (sIf (qt (tOf (op2 eqD (eVar 9) (eC (.str "out"))) boolD)) (sExpr (xApp 7 (qx (eVar 8)))) sNil)))
noncomputable def t_law : SF :=
    (sSeq (sSet 1 (xCallS F__law_state [.ev (qx (eVar 0))]))
    (sSeq (sAsg (xCallS F__law_rows [.ev (xVar 1)]) (bTup 2 (bCons (bName 2) (bCons (bName 3) bNil))))
    (sSeq (sForI (ixRange [(qx (eC (.int 2)))]) (bName 4) b_law_1)
    (sSeq (sOwnF 7 (yLst []))
    (sSeq (sForI (ixRange [(qx (eCall lenD [(eVar 2)]))]) (bName 8) b_law_2)
    (sRet (qx (eCallF (F__law_same 3) [(true, (eCallF F_independent [(true, (eVar 2))])), (false, (bVar 7))]))))))))
noncomputable def F_law : FF := fnF 10 t_law
end K21
namespace K21
open PySem PySem.Spec PyProof.Rows L2 DL
structure Ad where
  a_divisor_of : Addr
  d_divisor_of : FuncData
  a_shortened : Addr
  d_shortened : FuncData
  a_product : Addr
  d_product : FuncData
  a_Basis___init__ : Addr
  d_Basis___init__ : FuncData
  a_Basis_taken : Addr
  d_Basis_taken : FuncData
  a_Basis_add : Addr
  d_Basis_add : FuncData
  a_Basis_shift : Addr
  d_Basis_shift : FuncData
  a_basis_of : Addr
  d_basis_of : FuncData
  a_independent : Addr
  d_independent : FuncData
  a_weights : Addr
  d_weights : FuncData
  a_weights_right : Addr
  d_weights_right : FuncData
  a_shift_right : Addr
  d_shift_right : FuncData
  a__law_state : Addr
  d__law_state : FuncData
  a__law_draw : Addr
  d__law_draw : FuncData
  a__law_pick : Addr
  d__law_pick : FuncData
  a__law_same : Addr
  d__law_same : FuncData
  a__law_number : Addr
  d__law_number : FuncData
  a__law_mixed : Addr
  d__law_mixed : FuncData
  a__law_rows : Addr
  d__law_rows : FuncData
  a__law_goal : Addr
  d__law_goal : FuncData
  a__law_follows : Addr
  d__law_follows : FuncData
  a__law_moves : Addr
  d__law_moves : FuncData
  a__law_whole : Addr
  d__law_whole : FuncData
  a__law_told : Addr
  d__law_told : FuncData
  a__law_judged : Addr
  d__law_judged : FuncData
  a_law : Addr
  d_law : FuncData
  C_Basis : Addr
structure Tx (P : Program) (w : World) (K : Frag) (mg : Str → Option Value) (base : Heap) (A : Ad) : Prop where
  tree : P.given.tree = none
  seer : base.NoSeer
  n_abs : mg "abs" = none
  n_list : mg "list" = none
  n_zip : mg "zip" = none
  n_sum : mg "sum" = none
  n_range : mg "range" = none
  n_int : mg "int" = none
  n_len : mg "len" = none
  n_enumerate : mg "enumerate" = none
  n_tuple : mg "tuple" = none
  n_all : mg "all" = none
  n_isinstance : mg "isinstance" = none
  n_bool : mg "bool" = none
  n_str : mg "str" = none
  n_repr : mg "repr" = none
  f_divisor_of : Fun K "divisor_of" "divisor_of" s_divisor_of A.a_divisor_of A.d_divisor_of
  b_divisor_of : Binds K A.d_divisor_of ["a", "b"] []
  m_divisor_of : mg "divisor_of" = some (.ref A.a_divisor_of)
  f_shortened : Fun K "shortened" "shortened" s_shortened A.a_shortened A.d_shortened
  b_shortened : Binds K A.d_shortened ["numbers"] []
  m_shortened : mg "shortened" = some (.ref A.a_shortened)
  f_product : Fun K "product" "product" s_product A.a_product A.d_product
  b_product : Binds K A.d_product ["row", "other"] []
  m_product : mg "product" = some (.ref A.a_product)
  f_Basis___init__ : Fun K "__init__" "Basis.__init__" s_Basis___init__ A.a_Basis___init__ A.d_Basis___init__
  b_Basis___init__ : Binds K A.d_Basis___init__ ["self", "count", "width"] []
  mk_Basis : Mk K A.C_Basis A.a_Basis___init__
  f_Basis_taken : Fun K "taken" "Basis.taken" s_Basis_taken A.a_Basis_taken A.d_Basis_taken
  b_Basis_taken : Binds K A.d_Basis_taken ["self", "row", "weights"] []
  me_Basis_taken : Meth K A.C_Basis "taken" A.a_Basis_taken
  f_Basis_add : Fun K "add" "Basis.add" s_Basis_add A.a_Basis_add A.d_Basis_add
  b_Basis_add : Binds K A.d_Basis_add ["self", "at", "row"] []
  me_Basis_add : Meth K A.C_Basis "add" A.a_Basis_add
  f_Basis_shift : Fun K "shift" "Basis.shift" s_Basis_shift A.a_Basis_shift A.d_Basis_shift
  b_Basis_shift : Binds K A.d_Basis_shift ["self", "place"] []
  me_Basis_shift : Meth K A.C_Basis "shift" A.a_Basis_shift
  f_basis_of : Fun K "basis_of" "basis_of" s_basis_of A.a_basis_of A.d_basis_of
  b_basis_of : Binds K A.d_basis_of ["rows", "width"] []
  m_basis_of : mg "basis_of" = some (.ref A.a_basis_of)
  f_independent : Fun K "independent" "independent" s_independent A.a_independent A.d_independent
  b_independent : Binds K A.d_independent ["rows"] []
  m_independent : mg "independent" = some (.ref A.a_independent)
  f_weights : Fun K "weights" "weights" s_weights A.a_weights A.d_weights
  b_weights : Binds K A.d_weights ["rows", "goal"] []
  m_weights : mg "weights" = some (.ref A.a_weights)
  f_weights_right : Fun K "weights_right" "weights_right" s_weights_right A.a_weights_right A.d_weights_right
  b_weights_right : Binds K A.d_weights_right ["rows", "goal", "parts", "divisor"] []
  m_weights_right : mg "weights_right" = some (.ref A.a_weights_right)
  f_shift_right : Fun K "shift_right" "shift_right" s_shift_right A.a_shift_right A.d_shift_right
  b_shift_right : Binds K A.d_shift_right ["rows", "goal", "shift"] []
  m_shift_right : mg "shift_right" = some (.ref A.a_shift_right)
  f__law_state : Fun K "_law_state" "_law_state" s__law_state A.a__law_state A.d__law_state
  b__law_state : Binds K A.d__law_state ["script"] []
  m__law_state : mg "_law_state" = some (.ref A.a__law_state)
  f__law_draw : Fun K "_law_draw" "_law_draw" s__law_draw A.a__law_draw A.d__law_draw
  b__law_draw : Binds K A.d__law_draw ["state", "many"] []
  m__law_draw : mg "_law_draw" = some (.ref A.a__law_draw)
  f__law_pick : Fun K "_law_pick" "_law_pick" s__law_pick A.a__law_pick A.d__law_pick
  b__law_pick : Binds K A.d__law_pick ["state", "row"] []
  m__law_pick : mg "_law_pick" = some (.ref A.a__law_pick)
  f__law_same : Fun K "_law_same" "_law_same" s__law_same A.a__law_same A.d__law_same
  b__law_same : Binds K A.d__law_same ["actual", "expected"] []
  m__law_same : mg "_law_same" = some (.ref A.a__law_same)
  f__law_number : Fun K "_law_number" "_law_number" s__law_number A.a__law_number A.d__law_number
  b__law_number : Binds K A.d__law_number ["state", "great"] []
  m__law_number : mg "_law_number" = some (.ref A.a__law_number)
  f__law_mixed : Fun K "_law_mixed" "_law_mixed" s__law_mixed A.a__law_mixed A.d__law_mixed
  b__law_mixed : Binds K A.d__law_mixed ["rows", "parts", "width"] []
  m__law_mixed : mg "_law_mixed" = some (.ref A.a__law_mixed)
  f__law_rows : Fun K "_law_rows" "_law_rows" s__law_rows A.a__law_rows A.d__law_rows
  b__law_rows : Binds K A.d__law_rows ["state"] []
  m__law_rows : mg "_law_rows" = some (.ref A.a__law_rows)
  f__law_goal : Fun K "_law_goal" "_law_goal" s__law_goal A.a__law_goal A.d__law_goal
  b__law_goal : Binds K A.d__law_goal ["state", "rows", "width"] []
  m__law_goal : mg "_law_goal" = some (.ref A.a__law_goal)
  f__law_follows : Fun K "_law_follows" "_law_follows" s__law_follows A.a__law_follows A.d__law_follows
  b__law_follows : Binds K A.d__law_follows ["rows", "goal", "parts", "divisor"] []
  m__law_follows : mg "_law_follows" = some (.ref A.a__law_follows)
  f__law_moves : Fun K "_law_moves" "_law_moves" s__law_moves A.a__law_moves A.d__law_moves
  b__law_moves : Binds K A.d__law_moves ["rows", "goal", "shift"] []
  m__law_moves : mg "_law_moves" = some (.ref A.a__law_moves)
  f__law_whole : Fun K "_law_whole" "_law_whole" s__law_whole A.a__law_whole A.d__law_whole
  b__law_whole : Binds K A.d__law_whole ["numbers"] []
  m__law_whole : mg "_law_whole" = some (.ref A.a__law_whole)
  f__law_told : Fun K "_law_told" "_law_told" s__law_told A.a__law_told A.d__law_told
  b__law_told : Binds K A.d__law_told ["rows", "goal"] []
  m__law_told : mg "_law_told" = some (.ref A.a__law_told)
  f__law_judged : Fun K "_law_judged" "_law_judged" s__law_judged A.a__law_judged A.d__law_judged
  b__law_judged : Binds K A.d__law_judged ["state", "rows", "goal", "told"] []
  m__law_judged : mg "_law_judged" = some (.ref A.a__law_judged)
  f_law : Fun K "law" "law" s_law A.a_law A.d_law
  b_law : Binds K A.d_law ["script"] []
  m_law : mg "law" = some (.ref A.a_law)
  m_Basis : mg "Basis" = some (.ref A.C_Basis)
  c_Basis : Cls K A.C_Basis
  na_Basis_count : NoAttr K A.C_Basis "count"
  na_Basis_width : NoAttr K A.C_Basis "width"
  na_Basis_steps : NoAttr K A.C_Basis "steps"
theorem seer {P : Program} {w : World} {K : Frag} {mg : Str → Option Value} {base : Heap} {A : Ad} {X : Cx} {k : Nat} (T : Tx P w K mg base A) (hr : RoomG (k + 32) X.A) (hs : ∃ env l, X.stack = env :: l ∧ env.scope.isGenerator = false ∧ env.scope.isCoroutine = false ∧ env.builtins = builtinsNs ∧ env.globals = mainGlobals)
    (hb : X.base = base := by rfl) (hP : X.prog = P := by rfl) : Seer X := ⟨by rw [hb]; exact T.seer, by rw [hP]; exact T.tree, hr.d100, hs⟩
section
variable {P : Program} {w : World} {K : Frag} {mg : Str → Option Value} {base : Heap} {A : Ad}
theorem ok_divisor_of (T : Tx P w K mg base A) : FnG P w K mg base CX0 42 A.a_divisor_of A.d_divisor_of ["a", "b"] (spD K mg 2 F_divisor_of) :=
  fn_ok T.f_divisor_of sc_divisor_of fun cdv Ar outer s H E hr => 
    (dss_cons (ds_par 0 1 rfl sc_divisor_of.nd (dax_cons (dx_q (dq_callB cd_abs (by rfl) T.n_abs bo_abs (daq_cons (dq_var 0) daq_nil))) (dax_cons (dx_q (dq_callB cd_abs (by rfl) T.n_abs bo_abs (daq_cons (dq_var 1) daq_nil))) dax_nil)) (by rfl))
    (dss_cons (ds_while PassesOwn.never (dxt_q (dt_cmp od_gt (dq_var 1) dq_int)) (dss_one (ds_par 0 1 rfl sc_divisor_of.nd (dax_cons (dx_q (dq_var 1)) (dax_cons (dx_q (dq_bin od_mod (dq_var 0) (dq_var 1))) dax_nil)) (by rfl))))
    (dss_one (ds_ret (dx_q (dq_var 0))))))
theorem ok_shortened (T : Tx P w K mg base A) : FnG P w K mg base CX0 43 A.a_shortened A.d_shortened ["numbers"] (spD K mg 1 F_shortened) :=
  fn_ok T.f_shortened sc_shortened fun cdv Ar outer s H E hr => 
    (dss_cons (ds_set 1 sc_shortened.nd (dx_q dq_int))
    (dss_cons (ds_for (ts := [2]) PassesOwn.never rfl (dix_bor 0) (dg_name 2 sc_shortened.nd) (dss_one (ds_set 1 sc_shortened.nd (dx_q (dq_call (ok_divisor_of T) (hr.mono (by decide)) (by rfl) T.m_divisor_of T.f_divisor_of.kp T.b_divisor_of (dam_cons (dq_var 1) (dam_cons (dq_var 2) dam_nil)))))))
    (dss_one (ds_ret (dx_q (dq_if (dt_cmp od_gt (dq_var 1) dq_int) (dq_lc (own := [("number", 2)]) rfl sc_shortened.nd (diq_seq (db_var 0)) (blkOk_by (N := N_shortened) (sc := defScope s_shortened) (own := [("number", 2)]) (by decide +kernel)) (fun _ _ _ _ _ => (dg_name 2 sc_shortened.nd)) (fun _ _ _ _ _ => dts_nil) (fun _ _ _ _ _ => (dq_bin (od_fdiv (seer T hr ⟨_, _, rfl, rfl, rfl, rfl, rfl⟩)) (dq_var 2) (dq_var 1)))) (dq_callTy cd_list (by rfl) T.n_list bo_list (daq_cons (db_var 0) daq_nil))))))))
theorem ok_product (T : Tx P w K mg base A) : FnG P w K mg base CX0 42 A.a_product A.d_product ["row", "other"] (spD K mg 2 F_product) :=
  fn_ok T.f_product sc_product fun cdv Ar outer s H E hr => 
    (dss_one (ds_ret (dx_q (dq_callB (cd_sum rfl) (by rfl) T.n_sum bo_sum (daq_cons (dq_lc (own := [("a", 2), ("b", 3)]) rfl sc_product.nd (diq_zip (daq_cons (dq_var 0) (daq_cons (dq_var 1) daq_nil)) (by rfl) T.n_zip) (blkOk_by (N := N_product) (sc := defScope s_product) (own := [("a", 2), ("b", 3)]) (by decide +kernel)) (fun _ _ _ _ _ => (dg_tup rfl (dgs_cons (dg_name 2 sc_product.nd) (dgs_cons (dg_name 3 sc_product.nd) dgs_nil)))) (fun _ _ _ _ _ => dts_nil) (fun _ _ _ _ _ => (dq_bin od_mul (dq_var 2) (dq_var 3)))) daq_nil)))))
theorem ok_Basis___init__ (T : Tx P w K mg base A) : FnG P w K mg base CX0 42 A.a_Basis___init__ A.d_Basis___init__ ["self", "count", "width"] (spD K mg 3 F_Basis___init__) :=
  fn_ok T.f_Basis___init__ sc_Basis___init__ fun cdv Ar outer s H E hr => 
    (dss_cons (ds_fldS (i := 0) T.m_Basis T.c_Basis T.na_Basis_count (dx_q (dq_var 1)))
    (dss_cons (ds_fldS (i := 0) T.m_Basis T.c_Basis T.na_Basis_width (dx_q (dq_var 2)))
    (dss_one (ds_fldNew (i := 0) T.m_Basis T.c_Basis T.na_Basis_steps (df_lst dax_nil)))))
theorem ok_Basis_taken (T : Tx P w K mg base A) : FnG P w K mg base CX0 44 A.a_Basis_taken A.d_Basis_taken ["self", "row", "weights"] (spD K mg 3 F_Basis_taken) :=
  fn_ok T.f_Basis_taken sc_Basis_taken fun cdv Ar outer s H E hr => 
    (dss_cons (ds_asg (ts := [3, 4]) (dx_q (dq_tup (daq_cons (dq_callTy cd_list (by rfl) T.n_list bo_list (daq_cons (dq_var 1) daq_nil)) (daq_cons (dq_callTy cd_list (by rfl) T.n_list bo_list (daq_cons (dq_var 2) daq_nil)) daq_nil)))) (dg_tup rfl (dgs_cons (dg_name 3 sc_Basis_taken.nd) (dgs_cons (dg_name 4 sc_Basis_taken.nd) dgs_nil))))
    (dss_cons (ds_forFld (i := 0) (ts := [5, 6, 7]) PassesOwn.never rfl T.m_Basis T.c_Basis T.na_Basis_steps (dg_tup rfl (dgs_cons (dg_name 5 sc_Basis_taken.nd) (dgs_cons (dg_name 6 sc_Basis_taken.nd) (dgs_cons (dg_name 7 sc_Basis_taken.nd) dgs_nil)))) (dss_one (ds_if (dxt_q (dt_cmp (od_ne hr.u64) (dq_ix (dq_var 3) (dq_var 5)) dq_int)) (dss_cons (ds_asg (ts := [8, 9]) (dx_q (dq_tup (daq_cons (dq_ix (dq_var 6) (dq_var 5)) (daq_cons (dq_ix (dq_var 3) (dq_var 5)) daq_nil)))) (dg_tup rfl (dgs_cons (dg_name 8 sc_Basis_taken.nd) (dgs_cons (dg_name 9 sc_Basis_taken.nd) dgs_nil))))
      (dss_cons (ds_valF (dsf_lc (own := [("k", 11)]) 10 rfl sc_Basis_taken.nd (diq_range1 (daq_cons (dq_fld T.m_Basis T.c_Basis T.na_Basis_width) daq_nil) (by rfl) T.n_range) (blkOk_by (N := N_Basis_taken) (sc := defScope s_Basis_taken) (own := [("k", 11)]) (by decide +kernel)) (fun _ _ _ _ _ => (dg_name 11 sc_Basis_taken.nd)) (fun _ _ _ _ _ => dts_nil) (fun _ _ _ _ _ => (dq_bin od_sub (dq_bin od_mul (dq_var 8) (dq_ix (dq_var 3) (dq_var 11))) (dq_bin od_mul (dq_var 9) (dq_ix (dq_var 6) (dq_var 11))))) (sw_true rfl rfl rfl (by decide +kernel))))
      (dss_cons (ds_valF (dsf_lc (own := [("k", 11)]) 12 rfl sc_Basis_taken.nd (diq_range1 (daq_cons (dq_bin od_add (dq_fld T.m_Basis T.c_Basis T.na_Basis_count) dq_int) daq_nil) (by rfl) T.n_range) (blkOk_by (N := N_Basis_taken) (sc := defScope s_Basis_taken) (own := [("k", 11)]) (by decide +kernel)) (fun _ _ _ _ _ => (dg_name 11 sc_Basis_taken.nd)) (fun _ _ _ _ _ => dts_nil) (fun _ _ _ _ _ => (dq_bin od_sub (dq_bin od_mul (dq_var 8) (dq_ix (dq_var 4) (dq_var 11))) (dq_bin od_mul (dq_var 9) (dq_ix (dq_var 7) (dq_var 11))))) (sw_true rfl rfl rfl (by decide +kernel))))
      (dss_cons (ds_set 10 sc_Basis_taken.nd (dx_q (dq_call (ok_shortened T) (hr.mono (by decide)) (by rfl) T.m_shortened T.f_shortened.kp T.b_shortened (dam_cons (dq_bin od_add (dq_var 10) (dq_var 12)) dam_nil))))
      (dss_one (ds_asg (ts := [3, 4]) (dx_q (dq_tup (daq_cons (dq_slice (dq_var 10) do_none (do_some (dq_fld T.m_Basis T.c_Basis T.na_Basis_width))) (daq_cons (dq_slice (dq_var 10) (do_some (dq_fld T.m_Basis T.c_Basis T.na_Basis_width)) do_none) daq_nil)))) (dg_tup rfl (dgs_cons (dg_name 3 sc_Basis_taken.nd) (dgs_cons (dg_name 4 sc_Basis_taken.nd) dgs_nil))))))))) dss_nil)))
    (dss_one (ds_ret (dx_q (dq_tup (daq_cons (dq_var 3) (daq_cons (dq_var 4) daq_nil))))))))
theorem ok_Basis_add (T : Tx P w K mg base A) : FnG P w K mg base CX0 45 A.a_Basis_add A.d_Basis_add ["self", "at", "row"] (spD K mg 3 F_Basis_add) :=
  fn_ok T.f_Basis_add sc_Basis_add fun cdv Ar outer s H E hr => 
    (dss_cons (ds_asg (ts := [3, 4]) (dx_meth (i := 0) T.m_Basis T.c_Basis T.me_Basis_taken (ok_Basis_taken T) (hr.mono (by decide)) T.b_Basis_taken (daa_ev (dx_q (dq_var 2)) (daa_ev (dx_q (dq_lc (own := [("k", 5)]) rfl sc_Basis_add.nd (diq_range1 (daq_cons (dq_bin od_add (dq_fld T.m_Basis T.c_Basis T.na_Basis_count) dq_int) daq_nil) (by rfl) T.n_range) (blkOk_by (N := N_Basis_add) (sc := defScope s_Basis_add) (own := [("k", 5)]) (by decide +kernel)) (fun _ _ _ _ _ => (dg_name 5 sc_Basis_add.nd)) (fun _ _ _ _ _ => dts_nil) (fun _ _ _ _ _ => (dq_callTy cd_int (by rfl) T.n_int bo_int (daq_cons (dq_cmp (od_eq hr.u64) (dq_var 5) (dq_var 1)) daq_nil))))) daa_nil))) (dg_tup rfl (dgs_cons (dg_name 3 sc_Basis_add.nd) (dgs_cons (dg_name 4 sc_Basis_add.nd) dgs_nil))))
    (dss_cons (ds_valF (dsf_lc (own := [("k", 5)]) 6 rfl sc_Basis_add.nd (diq_range1 (daq_cons (dq_fld T.m_Basis T.c_Basis T.na_Basis_width) daq_nil) (by rfl) T.n_range) (blkOk_by (N := N_Basis_add) (sc := defScope s_Basis_add) (own := [("k", 5)]) (by decide +kernel)) (fun _ _ _ _ _ => (dg_name 5 sc_Basis_add.nd)) (fun _ _ _ _ _ => (dts_one (dt_cmp (od_ne hr.u64) (dq_ix (dq_var 3) (dq_var 5)) dq_int))) (fun _ _ _ _ _ => (dq_var 5)) (sw_true rfl rfl rfl (by decide +kernel))))
    (dss_cons (ds_if (dxt_q (dt_cmp (od_eq hr.u64) (dq_callB cd_len (by rfl) T.n_len bo_len (daq_cons (dq_var 6) daq_nil)) dq_int)) (dss_one (ds_ret (dx_q dq_bl))) dss_nil)
    (dss_cons (ds_expr (dx_appS (i := 0) T.m_Basis T.c_Basis T.na_Basis_steps (dx_q (dq_tup (daq_cons (dq_ix (dq_var 6) dq_int) (daq_cons (dq_var 3) (daq_cons (dq_var 4) daq_nil)))))))
    (dss_one (ds_ret (dx_q dq_bl)))))))
theorem ok_Basis_shift (T : Tx P w K mg base A) : FnG P w K mg base CX0 44 A.a_Basis_shift A.d_Basis_shift ["self", "place"] (spD K mg 2 F_Basis_shift) :=
  fn_ok T.f_Basis_shift sc_Basis_shift fun cdv Ar outer s H E hr => 
    (dss_cons (ds_ownF (dsf_set 2 sc_Basis_shift.nd (df_lc (own := [("k", 3)]) rfl sc_Basis_shift.nd (diq_range1 (daq_cons (dq_fld T.m_Basis T.c_Basis T.na_Basis_width) daq_nil) (by rfl) T.n_range) (blkOk_by (N := N_Basis_shift) (sc := defScope s_Basis_shift) (own := [("k", 3)]) (by decide +kernel)) (fun _ _ _ _ _ => (dg_name 3 sc_Basis_shift.nd)) (fun _ _ _ _ _ => dts_nil) (fun _ _ _ _ _ => (dq_callTy cd_int (by rfl) T.n_int bo_int (daq_cons (dq_cmp (od_eq hr.u64) (dq_var 3) (dq_var 1)) daq_nil))))))
    (dss_cons (ds_for (ts := [4, 5, 6]) PassesOwn.never rfl (dix_seq (dx_q (dq_rev (db_fld T.m_Basis T.c_Basis T.na_Basis_steps)))) (dg_tup rfl (dgs_cons (dg_name 4 sc_Basis_shift.nd) (dgs_cons (dg_name 5 sc_Basis_shift.nd) (dgs_cons (dg_name 6 sc_Basis_shift.nd) dgs_nil)))) (dss_cons (ds_set 7 sc_Basis_shift.nd (dx_q (dq_callB (cd_sum rfl) (by rfl) T.n_sum bo_sum (daq_cons (dq_lc (own := [("k", 3)]) rfl sc_Basis_shift.nd (diq_range1 (daq_cons (dq_fld T.m_Basis T.c_Basis T.na_Basis_width) daq_nil) (by rfl) T.n_range) (blkOk_by (N := N_Basis_shift) (sc := defScope s_Basis_shift) (own := [("k", 3)]) (by decide +kernel)) (fun _ _ _ _ _ => (dg_name 3 sc_Basis_shift.nd)) (fun _ _ _ _ _ => (dts_one (dt_cmp (od_ne hr.u64) (dq_var 3) (dq_var 4)))) (fun _ _ _ _ _ => (dq_bin od_mul (dq_ix (dq_var 5) (dq_var 3)) (dq_ix (db_var 2) (dq_var 3))))) daq_nil))))
      (dss_cons (ds_ownF (dsf_set 2 sc_Basis_shift.nd (df_lc (own := [("number", 8)]) rfl sc_Basis_shift.nd (diq_seq (db_var 2)) (blkOk_by (N := N_Basis_shift) (sc := defScope s_Basis_shift) (own := [("number", 8)]) (by decide +kernel)) (fun _ _ _ _ _ => (dg_name 8 sc_Basis_shift.nd)) (fun _ _ _ _ _ => dts_nil) (fun _ _ _ _ _ => (dq_bin od_mul (dq_ix (dq_var 5) (dq_var 4)) (dq_var 8))))))
      (dss_cons (ds_setIx 2 (dx_q (dq_un ud_neg (dq_var 7))) (dx_q (dq_var 4)))
      (dss_one (ds_set 2 sc_Basis_shift.nd (dx_q (dq_call (ok_shortened T) (hr.mono (by decide)) (by rfl) T.m_shortened T.f_shortened.kp T.b_shortened (dam_cons (db_var 2) dam_nil)))))))))
    (dss_one (ds_frz 2 (ds_ret (dx_q (dq_var 2)))))))
theorem ok_basis_of (T : Tx P w K mg base A) : FnG P w K mg base CX0 46 A.a_basis_of A.d_basis_of ["rows", "width"] (spD K mg 2 F_basis_of) :=
  fn_ok T.f_basis_of sc_basis_of fun cdv Ar outer s H E hr => 
    (dss_cons (ds_set 2 sc_basis_of.nd (dx_make T.m_Basis T.mk_Basis (ok_Basis___init__ T) (hr.mono (by decide)) (by rfl) T.b_Basis___init__ (daa_ev (dx_q (dq_callB cd_len (by rfl) T.n_len bo_len (daq_cons (dq_var 0) daq_nil))) (daa_ev (dx_q (dq_var 1)) daa_nil))))
    (dss_cons (ds_for (ts := [3, 4]) PassesOwn.never rfl (dix_enum (dax_cons (dx_q (dq_var 0)) dax_nil) (by rfl) T.n_enumerate) (dg_tup rfl (dgs_cons (dg_name 3 sc_basis_of.nd) (dgs_cons (dg_name 4 sc_basis_of.nd) dgs_nil))) (dss_one (ds_expr (dx_meth (i := 2) T.m_Basis T.c_Basis T.me_Basis_add (ok_Basis_add T) (hr.mono (by decide)) T.b_Basis_add (daa_ev (dx_q (dq_var 3)) (daa_ev (dx_q (dq_var 4)) daa_nil))))))
    (dss_one (ds_ret (dx_var 2)))))
theorem ok_independent (T : Tx P w K mg base A) : FnG P w K mg base CX0 46 A.a_independent A.d_independent ["rows"] (spD K mg 1 F_independent) :=
  fn_ok T.f_independent sc_independent fun cdv Ar outer s H E hr => 
    (dss_cons (ds_if (dxt_q (dt_cmp (od_eq hr.u64) (dq_callB cd_len (by rfl) T.n_len bo_len (daq_cons (dq_var 0) daq_nil)) dq_int)) (dss_one (ds_ret (dx_q (dq_lst daq_nil)))) dss_nil)
    (dss_cons (ds_set 1 sc_independent.nd (dx_make T.m_Basis T.mk_Basis (ok_Basis___init__ T) (hr.mono (by decide)) (by rfl) T.b_Basis___init__ (daa_ev (dx_q (dq_callB cd_len (by rfl) T.n_len bo_len (daq_cons (dq_var 0) daq_nil))) (daa_ev (dx_q (dq_callB cd_len (by rfl) T.n_len bo_len (daq_cons (dq_ix (dq_var 0) dq_int) daq_nil))) daa_nil))))
    (dss_one (ds_ret (dx_f (dfx_lc (own := [("at", 2), ("row", 3)]) rfl sc_independent.nd (dic_x (dix_enum (dax_cons (dx_q (dq_var 0)) dax_nil) (by rfl) T.n_enumerate)) (blkOk_by (N := N_independent) (sc := defScope s_independent) (own := [("at", 2), ("row", 3)]) (by decide +kernel)) (fun _ _ _ _ _ => (dg_tup rfl (dgs_cons (dg_name 2 sc_independent.nd) (dgs_cons (dg_name 3 sc_independent.nd) dgs_nil)))) (fun _ _ _ _ _ => (dtsx_one (dxt_val (dx_meth (i := 1) T.m_Basis T.c_Basis T.me_Basis_add (ok_Basis_add T) (hr.mono (by decide)) T.b_Basis_add (daa_ev (dx_q (dq_var 2)) (daa_ev (dx_q (dq_var 3)) daa_nil)))))) (fun _ _ _ _ _ => (dx_q (dq_var 2)))))))))
theorem ok_weights (T : Tx P w K mg base A) : FnG P w K mg base CX0 47 A.a_weights A.d_weights ["rows", "goal"] (spD K mg 2 F_weights) :=
  fn_ok T.f_weights sc_weights fun cdv Ar outer s H E hr => 
    (dss_cons (ds_set 2 sc_weights.nd (dx_callS (ok_basis_of T) (hr.mono (by decide)) (by rfl) T.m_basis_of T.f_basis_of.kp T.b_basis_of (daa_ev (dx_q (dq_var 0)) (daa_ev (dx_q (dq_callB cd_len (by rfl) T.n_len bo_len (daq_cons (dq_var 1) daq_nil))) daa_nil))))
    (dss_cons (ds_asg (ts := [3, 4]) (dx_meth (i := 2) T.m_Basis T.c_Basis T.me_Basis_taken (ok_Basis_taken T) (hr.mono (by decide)) T.b_Basis_taken (daa_ev (dx_q (dq_var 1)) (daa_ev (dx_q (dq_bin od_add (dq_bin od_mul (dq_lst (daq_cons dq_int daq_nil)) (dq_callB cd_len (by rfl) T.n_len bo_len (daq_cons (dq_var 0) daq_nil))) (dq_lst (daq_cons dq_int daq_nil)))) daa_nil))) (dg_tup rfl (dgs_cons (dg_name 3 sc_weights.nd) (dgs_cons (dg_name 4 sc_weights.nd) dgs_nil))))
    (dss_cons (ds_valF (dsf_lc (own := [("k", 6)]) 5 rfl sc_weights.nd (diq_range1 (daq_cons (dq_callB cd_len (by rfl) T.n_len bo_len (daq_cons (dq_var 1) daq_nil)) daq_nil) (by rfl) T.n_range) (blkOk_by (N := N_weights) (sc := defScope s_weights) (own := [("k", 6)]) (by decide +kernel)) (fun _ _ _ _ _ => (dg_name 6 sc_weights.nd)) (fun _ _ _ _ _ => (dts_one (dt_cmp (od_ne hr.u64) (dq_ix (dq_var 3) (dq_var 6)) dq_int))) (fun _ _ _ _ _ => (dq_var 6)) (sw_true rfl rfl rfl (by decide +kernel))))
    (dss_cons (ds_if (dxt_q (dt_cmp (od_eq hr.u64) (dq_callB cd_len (by rfl) T.n_len bo_len (daq_cons (dq_var 5) daq_nil)) dq_int)) (dss_cons (ds_set 7 sc_weights.nd (dx_q (dq_if (dt_cmp od_gt (dq_ix (dq_var 4) (dq_un ud_neg dq_int)) dq_int) dq_int (dq_un ud_neg dq_int))))
      (dss_cons (ds_set 4 sc_weights.nd (dx_q (dq_call (ok_shortened T) (hr.mono (by decide)) (by rfl) T.m_shortened T.f_shortened.kp T.b_shortened (dam_cons (dq_lc (own := [("number", 8)]) rfl sc_weights.nd (diq_seq (dq_var 4)) (blkOk_by (N := N_weights) (sc := defScope s_weights) (own := [("number", 8)]) (by decide +kernel)) (fun _ _ _ _ _ => (dg_name 8 sc_weights.nd)) (fun _ _ _ _ _ => dts_nil) (fun _ _ _ _ _ => (dq_bin od_mul (dq_var 7) (dq_var 8)))) dam_nil))))
      (dss_one (ds_ret (dx_q (dq_tup (daq_cons dq_str (daq_cons (dq_callTy cd_tuple (by rfl) T.n_tuple bo_tuple (daq_cons (dq_lc (own := [("number", 8)]) rfl sc_weights.nd (diq_seq (dq_slice (dq_var 4) do_none (do_some (dq_un ud_neg dq_int)))) (blkOk_by (N := N_weights) (sc := defScope s_weights) (own := [("number", 8)]) (by decide +kernel)) (fun _ _ _ _ _ => (dg_name 8 sc_weights.nd)) (fun _ _ _ _ _ => dts_nil) (fun _ _ _ _ _ => (dq_un ud_neg (dq_var 8)))) daq_nil)) (daq_cons (dq_ix (dq_var 4) (dq_un ud_neg dq_int)) daq_nil))))))))) dss_nil)
    (dss_cons (ds_set 9 sc_weights.nd (dx_meth (i := 2) T.m_Basis T.c_Basis T.me_Basis_shift (ok_Basis_shift T) (hr.mono (by decide)) T.b_Basis_shift (daa_ev (dx_q (dq_ix (dq_var 5) dq_int)) daa_nil)))
    (dss_cons (ds_if (dxt_q (dt_cmp od_lt (dq_call (ok_product T) (hr.mono (by decide)) (by rfl) T.m_product T.f_product.kp T.b_product (dam_cons (dq_var 1) (dam_cons (dq_var 9) dam_nil))) dq_int)) (dss_one (ds_valF (dsf_lc (own := [("number", 8)]) 9 rfl sc_weights.nd (diq_seq (dq_var 9)) (blkOk_by (N := N_weights) (sc := defScope s_weights) (own := [("number", 8)]) (by decide +kernel)) (fun _ _ _ _ _ => (dg_name 8 sc_weights.nd)) (fun _ _ _ _ _ => dts_nil) (fun _ _ _ _ _ => (dq_un ud_neg (dq_var 8))) (sw_true rfl rfl rfl (by decide +kernel))))) dss_nil)
    (dss_one (ds_ret (dx_q (dq_tup (daq_cons dq_str (daq_cons (dq_callTy cd_tuple (by rfl) T.n_tuple bo_tuple (daq_cons (dq_var 9) daq_nil)) daq_nil))))))))))))
theorem ok_weights_right (T : Tx P w K mg base A) : FnG P w K mg base CX0 42 A.a_weights_right A.d_weights_right ["rows", "goal", "parts", "divisor"] (spD K mg 4 F_weights_right) :=
  fn_ok T.f_weights_right sc_weights_right fun cdv Ar outer s H E hr => 
    (dss_cons (ds_if (dxt_q (DW.t (dw_or (dt_cmp (od_ne hr.u64) (dq_callB cd_len (by rfl) T.n_len bo_len (daq_cons (dq_var 2) daq_nil)) (dq_callB cd_len (by rfl) T.n_len bo_len (daq_cons (dq_var 0) daq_nil))) (dw_or1 (dt_cmp od_lt (dq_var 3) dq_int))))) (dss_one (ds_ret (dx_q dq_bl))) dss_nil)
    (dss_cons (ds_for (ts := [4]) PassesOwn.never rfl (dix_range1 (dax_cons (dx_q (dq_callB cd_len (by rfl) T.n_len bo_len (daq_cons (dq_var 1) daq_nil))) dax_nil) (by rfl) T.n_range) (dg_name 4 sc_weights_right.nd) (dss_one (ds_if (dxt_q (dt_cmp (od_ne hr.u64) (dq_callB (cd_sum rfl) (by rfl) T.n_sum bo_sum (daq_cons (dq_lc (own := [("part", 5), ("row", 6)]) rfl sc_weights_right.nd (diq_zip (daq_cons (dq_var 2) (daq_cons (dq_var 0) daq_nil)) (by rfl) T.n_zip) (blkOk_by (N := N_weights_right) (sc := defScope s_weights_right) (own := [("part", 5), ("row", 6)]) (by decide +kernel)) (fun _ _ _ _ _ => (dg_tup rfl (dgs_cons (dg_name 5 sc_weights_right.nd) (dgs_cons (dg_name 6 sc_weights_right.nd) dgs_nil)))) (fun _ _ _ _ _ => dts_nil) (fun _ _ _ _ _ => (dq_bin od_mul (dq_var 5) (dq_ix (dq_var 6) (dq_var 4))))) daq_nil)) (dq_bin od_mul (dq_var 3) (dq_ix (dq_var 1) (dq_var 4))))) (dss_one (ds_ret (dx_q dq_bl))) dss_nil)))
    (dss_one (ds_ret (dx_q dq_bl)))))
theorem ok_shift_right (T : Tx P w K mg base A) : FnG P w K mg base CX0 43 A.a_shift_right A.d_shift_right ["rows", "goal", "shift"] (spD K mg 3 F_shift_right) :=
  fn_ok T.f_shift_right sc_shift_right fun cdv Ar outer s H E hr => 
    (dss_cons (ds_if (dxt_q (DW.t (dw_or (dt_cmp (od_ne hr.u64) (dq_callB cd_len (by rfl) T.n_len bo_len (daq_cons (dq_var 2) daq_nil)) (dq_callB cd_len (by rfl) T.n_len bo_len (daq_cons (dq_var 1) daq_nil))) (dw_or1 (dt_cmp (od_eq hr.u64) (dq_call (ok_product T) (hr.mono (by decide)) (by rfl) T.m_product T.f_product.kp T.b_product (dam_cons (dq_var 1) (dam_cons (dq_var 2) dam_nil))) dq_int))))) (dss_one (ds_ret (dx_q dq_bl))) dss_nil)
    (dss_one (ds_ret (dx_q (dq_callB (cd_all rfl) (by rfl) T.n_all bo_all (daq_cons (dq_lc (own := [("row", 3)]) rfl sc_shift_right.nd (diq_seq (dq_var 0)) (blkOk_by (N := N_shift_right) (sc := defScope s_shift_right) (own := [("row", 3)]) (by decide +kernel)) (fun _ _ _ _ _ => (dg_name 3 sc_shift_right.nd)) (fun _ _ _ _ _ => dts_nil) (fun _ _ _ _ _ => (dq_cmp (od_eq hr.u64) (dq_call (ok_product T) (hr.mono (by decide)) (by rfl) T.m_product T.f_product.kp T.b_product (dam_cons (dq_var 3) (dam_cons (dq_var 2) dam_nil))) dq_int))) daq_nil))))))
theorem ok__law_state (T : Tx P w K mg base A) : FnG P w K mg base CX0 42 A.a__law_state A.d__law_state ["script"] (spD K mg 1 F__law_state) :=
  fn_ok T.f__law_state sc__law_state fun cdv Ar outer s H E hr => 
    (dss_cons (ds_set 1 sc__law_state.nd (dx_q dq_int))
    (dss_cons (ds_for (ts := [2]) PassesOwn.never rfl (dix_bor 0) (dg_name 2 sc__law_state.nd) (dss_one (ds_set 1 sc__law_state.nd (dx_q (dq_bin od_mod (dq_callTy cd_int (by rfl) T.n_int bo_int (daq_cons (dq_bin od_add (dq_bin od_mul (dq_var 1) dq_int) (dq_var 2)) daq_nil)) dq_int)))))
    (dss_one (ds_ret (dx_newS (daa_ev (dx_ref (df_lc (own := [("cell", 2)]) rfl sc__law_state.nd (diq_seq (dq_var 0)) (blkOk_by (N := N__law_state) (sc := defScope s__law_state) (own := [("cell", 2)]) (by decide +kernel)) (fun _ _ _ _ _ => (dg_name 2 sc__law_state.nd)) (fun _ _ _ _ _ => dts_nil) (fun _ _ _ _ _ => (dq_callB cd_abs (by rfl) T.n_abs bo_abs (daq_cons (dq_var 2) daq_nil))))) (daa_ev (dx_q (dq_bin od_add (dq_var 1) dq_int)) daa_nil)))))))
theorem ok__law_draw (T : Tx P w K mg base A) : FnG P w K mg base CX0 42 A.a__law_draw A.d__law_draw ["state", "many"] (spD K mg 2 F__law_draw) :=
  fn_ok T.f__law_draw sc__law_draw fun cdv Ar outer s H E hr => 
    (dss_cons (ds_if (dxt_q (dt_cmp od_lt (dq_var 1) dq_int)) (dss_one (ds_ret (dx_q dq_int))) dss_nil)
    (dss_cons (ds_set 2 sc__law_draw.nd (dx_ixS 0 (dx_q dq_int)))
    (dss_cons (ds_while PassesOwn.never (dxt_q (DW.t (dw_and (dt_cmp od_gt (dq_callB cd_len (by rfl) T.n_len bo_len (daq_cons (db_ref 2) daq_nil)) dq_int) (dw_and1 (dt_cmp (od_eq hr.u64) (dq_ix (db_ref 2) dq_int) dq_int))))) (dss_one (ds_expr (dx_popS 2 (dx_q dq_int)))))
    (dss_cons (ds_if (dxt_q (dt_cmp od_gt (dq_callB cd_len (by rfl) T.n_len bo_len (daq_cons (db_ref 2) daq_nil)) dq_int)) (dss_cons (ds_set 3 sc__law_draw.nd (dx_q (dq_ix (db_ref 2) dq_int)))
      (dss_cons (ds_setIxS 2 (dx_q (dq_bin (od_fdiv (seer T hr ⟨_, _, rfl, rfl, rfl, rfl, rfl⟩)) (dq_var 3) (dq_var 1))) (dx_q dq_int))
      (dss_one (ds_ret (dx_q (dq_bin od_mod (dq_callTy cd_int (by rfl) T.n_int bo_int (daq_cons (dq_var 3) daq_nil)) (dq_var 1))))))) dss_nil)
    (dss_cons (ds_set 4 sc__law_draw.nd (dx_bin od_mod (dx_callTy cd_int (by rfl) T.n_int bo_int (dax_cons (dx_bin od_add (dx_bin od_mul (dx_ixS 0 (dx_q dq_int)) (dx_q dq_int)) (dx_q dq_int)) dax_nil)) (dx_q dq_int)))
    (dss_cons (ds_setIxS 0 (dx_q (dq_var 4)) (dx_q dq_int))
    (dss_one (ds_ret (dx_q (dq_bin od_mod (dq_callTy cd_int (by rfl) T.n_int bo_int (daq_cons (dq_bin (od_fdiv (seer T hr ⟨_, _, rfl, rfl, rfl, rfl, rfl⟩)) (dq_var 4) dq_int) daq_nil)) (dq_var 1)))))))))))
theorem ok__law_pick (T : Tx P w K mg base A) : FnG P w K mg base CX0 43 A.a__law_pick A.d__law_pick ["state", "row"] (spD K mg 2 F__law_pick) :=
  fn_ok T.f__law_pick sc__law_pick fun cdv Ar outer s H E hr => 
    (dss_one (ds_ret (dx_ix (dx_q (dq_var 1)) (dx_callS (ok__law_draw T) (hr.mono (by decide)) (by rfl) T.m__law_draw T.f__law_draw.kp T.b__law_draw (daa_ev (dx_var 0) (daa_ev (dx_q (dq_callB cd_len (by rfl) T.n_len bo_len (daq_cons (dq_var 1) daq_nil))) daa_nil))))))
theorem st__law_same (T : Tx P w K mg base A) {F : FF} {n : Nat} (ih : FnG P w K mg base CX0 (41 + n) A.a__law_same A.d__law_same ["actual", "expected"] (spD K mg 2 F)) : FnG P w K mg base CX0 (41 + n + 1) A.a__law_same A.d__law_same ["actual", "expected"] (spD K mg 2 (fnF 3 (t__law_same F))) :=
  fn_ok T.f__law_same sc__law_same fun cdv Ar outer s H E hr => 
    (dss_cons (ds_if (dxt_q (DW.t (dw_or (dt_tru (dq_isi (by rfl) T.n_isinstance bo_isinstance (by rfl) T.n_tuple bo_tuple (db_var 1))) (dw_or1 (dt_tru (dq_isi (by rfl) T.n_isinstance bo_isinstance (by rfl) T.n_list bo_list (db_var 1))))))) (dss_cons (ds_if (dxt_q (DW.t (dw_or (dt_cmp (od_ne hr.u64) (dq_isi (by rfl) T.n_isinstance bo_isinstance (by rfl) T.n_tuple bo_tuple (dq_var 0)) (dq_isi (by rfl) T.n_isinstance bo_isinstance (by rfl) T.n_tuple bo_tuple (db_var 1))) (dw_or1 (dt_cmp (od_ne hr.u64) (dq_isi (by rfl) T.n_isinstance bo_isinstance (by rfl) T.n_list bo_list (dq_var 0)) (dq_isi (by rfl) T.n_isinstance bo_isinstance (by rfl) T.n_list bo_list (db_var 1))))))) (dss_one (ds_ret (dx_q dq_bl))) dss_nil)
      (dss_cons (ds_if (dxt_q (dt_cmp (od_ne hr.u64) (dq_callB cd_len (by rfl) T.n_len bo_len (daq_cons (dq_var 0) daq_nil)) (dq_callB cd_len (by rfl) T.n_len bo_len (daq_cons (db_var 1) daq_nil)))) (dss_one (ds_ret (dx_q dq_bl))) dss_nil)
      (dss_one (ds_ret (dx_q (dq_cmp (od_eq hr.u64) (dq_callB cd_len (by rfl) T.n_len bo_len (daq_cons (dq_lc (own := [("k", 2)]) rfl sc__law_same.nd (diq_range1 (daq_cons (dq_callB cd_len (by rfl) T.n_len bo_len (daq_cons (db_var 1) daq_nil)) daq_nil) (by rfl) T.n_range) (blkOk_by (N := N__law_same) (sc := defScope s__law_same) (own := [("k", 2)]) (by decide +kernel)) (fun _ _ _ _ _ => (dg_name 2 sc__law_same.nd)) (fun _ _ _ _ _ => (dts_one (dt_not (dt_tru (dq_call ih hr (by rfl) T.m__law_same T.f__law_same.kp T.b__law_same (dam_cons (dq_ix (dq_var 0) (dq_var 2)) (dam_cons (dq_ix (db_var 1) (dq_var 2)) dam_nil))))))) (fun _ _ _ _ _ => (dq_var 2))) daq_nil)) dq_int)))))) dss_nil)
    (dss_cons (ds_if (dxt_q (DW.t (dw_or (dt_tru (dq_isi (by rfl) T.n_isinstance bo_isinstance (by rfl) T.n_bool bo_bool (db_var 1))) (dw_or1 (dt_tru (dq_isi (by rfl) T.n_isinstance bo_isinstance (by rfl) T.n_bool bo_bool (dq_var 0))))))) (dss_one (ds_ret (dx_q (dq_and (dq_isi (by rfl) T.n_isinstance bo_isinstance (by rfl) T.n_bool bo_bool (db_var 1)) (dq_and (dq_isi (by rfl) T.n_isinstance bo_isinstance (by rfl) T.n_bool bo_bool (dq_var 0)) (dq_one (dq_cmp (od_eq hr.u64) (dq_var 0) (db_var 1)))))))) dss_nil)
    (dss_cons (ds_if (dxt_q (DW.t (dw_or (dt_cmp od_is (db_var 1) dq_non) (dw_or1 (dt_cmp od_is (dq_var 0) dq_non))))) (dss_one (ds_ret (dx_q (dq_and (dq_cmp od_is (db_var 1) dq_non) (dq_one (dq_cmp od_is (dq_var 0) dq_non)))))) dss_nil)
    (dss_cons (ds_if (dxt_q (DW.t (dw_or (dt_tru (dq_isi (by rfl) T.n_isinstance bo_isinstance (by rfl) T.n_str bo_str (db_var 1))) (dw_or1 (dt_tru (dq_isi (by rfl) T.n_isinstance bo_isinstance (by rfl) T.n_str bo_str (dq_var 0))))))) (dss_one (ds_ret (dx_q (dq_and (dq_isi (by rfl) T.n_isinstance bo_isinstance (by rfl) T.n_str bo_str (db_var 1)) (dq_and (dq_isi (by rfl) T.n_isinstance bo_isinstance (by rfl) T.n_str bo_str (dq_var 0)) (dq_one (dq_cmp (od_eq hr.u64) (dq_var 0) (db_var 1)))))))) dss_nil)
    (dss_one (ds_ret (dx_q (dq_and (dq_isi (by rfl) T.n_isinstance bo_isinstance (by rfl) T.n_int bo_int (dq_var 0)) (dq_and (dq_isi (by rfl) T.n_isinstance bo_isinstance (by rfl) T.n_int bo_int (db_var 1)) (dq_one (dq_cmp (od_eq hr.u64) (dq_var 0) (db_var 1))))))))))))
theorem ok__law_same (T : Tx P w K mg base A) : ∀ n : Nat, FnG P w K mg base CX0 (41 + n) A.a__law_same A.d__law_same ["actual", "expected"] (spD K mg 2 (F__law_same n))
  | 0 => fn_never
  | n + 1 => st__law_same T (ok__law_same T n)
theorem ok__law_number (T : Tx P w K mg base A) : FnG P w K mg base CX0 44 A.a__law_number A.d__law_number ["state", "great"] (spD K mg 2 F__law_number) :=
  fn_ok T.f__law_number sc__law_number fun cdv Ar outer s H E hr => 
    (dss_cons (ds_if (DXW.t (dxw_and (dxt_q (dt_tru (dq_var 1))) (dxw_and1 (dxt_cmp (od_eq hr.u64) (dx_callS (ok__law_draw T) (hr.mono (by decide)) (by rfl) T.m__law_draw T.f__law_draw.kp T.b__law_draw (daa_ev (dx_var 0) (daa_ev (dx_q dq_int) daa_nil))) (dx_q dq_int))))) (dss_one (ds_ret (dx_bin od_sub (dx_callS (ok__law_draw T) (hr.mono (by decide)) (by rfl) T.m__law_draw T.f__law_draw.kp T.b__law_draw (daa_ev (dx_var 0) (daa_ev (dx_q (dq_bin od_mul dq_int (dq_bin od_pow dq_int dq_int))) daa_nil))) (dx_q (dq_bin od_pow dq_int dq_int))))) dss_nil)
    (dss_one (ds_ret (dx_callS (ok__law_pick T) (hr.mono (by decide)) (by rfl) T.m__law_pick T.f__law_pick.kp T.b__law_pick (daa_ev (dx_var 0) (daa_ev (dx_q (dq_lst (daq_cons dq_int (daq_cons dq_int (daq_cons dq_int (daq_cons dq_int (daq_cons dq_int (daq_cons dq_int (daq_cons (dq_un ud_neg dq_int) (daq_cons dq_int (daq_cons (dq_un ud_neg dq_int) (daq_cons dq_int (daq_cons (dq_un ud_neg dq_int) (daq_cons dq_int daq_nil)))))))))))))) daa_nil))))))
theorem ok__law_mixed (T : Tx P w K mg base A) : FnG P w K mg base CX0 42 A.a__law_mixed A.d__law_mixed ["rows", "parts", "width"] (spD K mg 3 F__law_mixed) :=
  fn_ok T.f__law_mixed sc__law_mixed fun cdv Ar outer s H E hr => 
    (dss_one (ds_ret (dx_q (dq_callTy cd_tuple (by rfl) T.n_tuple bo_tuple (daq_cons (dq_lc (own := [("k", 5)]) rfl sc__law_mixed.nd (diq_range1 (daq_cons (dq_var 2) daq_nil) (by rfl) T.n_range) (blkOk_by (N := N__law_mixed) (sc := defScope s__law_mixed) (own := [("k", 5)]) (by decide +kernel)) (fun _ _ _ _ _ => (dg_name 5 sc__law_mixed.nd)) (fun _ _ _ _ _ => dts_nil) (fun _ _ _ _ _ => (dq_callB (cd_sum rfl) (by rfl) T.n_sum bo_sum (daq_cons (dq_lc (own := [("part", 3), ("row", 4)]) rfl sc__law_mixed.nd (diq_zip (daq_cons (db_var 1) (daq_cons (db_var 0) daq_nil)) (by rfl) T.n_zip) (blkOk_re (blkOk_by (N := N__law_mixed) (sc := lc_121_17) (own := [("part", 3), ("row", 4)]) (by decide +kernel))) (fun _ _ _ _ _ => (dg_tup rfl (dgs_cons (dg_name 3 sc__law_mixed.nd) (dgs_cons (dg_name 4 sc__law_mixed.nd) dgs_nil)))) (fun _ _ _ _ _ => dts_nil) (fun _ _ _ _ _ => (dq_bin od_mul (dq_var 3) (dq_ix (dq_var 4) (dq_var 5))))) daq_nil)))) daq_nil)))))
theorem ok__law_rows (T : Tx P w K mg base A) : FnG P w K mg base CX0 45 A.a__law_rows A.d__law_rows ["state"] (spD K mg 1 F__law_rows) :=
  fn_ok T.f__law_rows sc__law_rows fun cdv Ar outer s H E hr => 
    (dss_cons (ds_set 1 sc__law_rows.nd (dx_bin od_add (dx_q dq_int) (dx_callS (ok__law_draw T) (hr.mono (by decide)) (by rfl) T.m__law_draw T.f__law_draw.kp T.b__law_draw (daa_ev (dx_var 0) (daa_ev (dx_q dq_int) daa_nil)))))
    (dss_cons (ds_set 2 sc__law_rows.nd (dx_cmp (od_eq hr.u64) (dx_callS (ok__law_draw T) (hr.mono (by decide)) (by rfl) T.m__law_draw T.f__law_draw.kp T.b__law_draw (daa_ev (dx_var 0) (daa_ev (dx_q dq_int) daa_nil))) (dx_q dq_int)))
    (dss_cons (ds_ownF (dsf_set 3 sc__law_rows.nd (df_lst dax_nil)))
    (dss_cons (ds_for (ts := [4]) PassesOwn.never rfl (dix_range1 (dax_cons (dx_callS (ok__law_draw T) (hr.mono (by decide)) (by rfl) T.m__law_draw T.f__law_draw.kp T.b__law_draw (daa_ev (dx_var 0) (daa_ev (dx_q dq_int) daa_nil))) dax_nil) (by rfl) T.n_range) (dg_name 4 sc__law_rows.nd) (dss_cons (ds_set 5 sc__law_rows.nd (dx_callS (ok__law_draw T) (hr.mono (by decide)) (by rfl) T.m__law_draw T.f__law_draw.kp T.b__law_draw (daa_ev (dx_var 0) (daa_ev (dx_q dq_int) daa_nil))))
      (dss_one (ds_if (dxt_q (DW.t (dw_and (dt_cmp (od_eq hr.u64) (dq_var 5) dq_int) (dw_and1 (dt_cmp od_gt (dq_callB cd_len (by rfl) T.n_len bo_len (daq_cons (db_var 3) daq_nil)) dq_int))))) (dss_one (ds_expr (dx_app 3 (dx_callP (ok__law_mixed T) (hr.mono (by decide)) (by rfl) T.m__law_mixed T.f__law_mixed.kp T.b__law_mixed (daa_bo 3 (daa_ev (dx_f (dfx_lc (own := [("row", 6)]) rfl sc__law_rows.nd (dic_own 3) (blkOk_by (N := N__law_rows) (sc := defScope s__law_rows) (own := [("row", 6)]) (by decide +kernel)) (fun _ _ _ _ _ => (dg_name 6 sc__law_rows.nd)) (fun _ _ _ _ _ => dtsx_nil) (fun _ _ _ _ _ => (dx_callS (ok__law_pick T) (hr.mono (by decide)) (by rfl) T.m__law_pick T.f__law_pick.kp T.b__law_pick (daa_ev (dx_var 0) (daa_ev (dx_q (dq_lst (daq_cons dq_int (daq_cons dq_int (daq_cons dq_int (daq_cons (dq_un ud_neg dq_int) (daq_cons dq_int daq_nil))))))) daa_nil)))))) (daa_ev (dx_q (dq_var 1)) daa_nil))))))) (dss_one (ds_if (dxt_q (dt_cmp (od_eq hr.u64) (dq_var 5) dq_int)) (dss_one (ds_expr (dx_app 3 (dx_callTy cd_tuple (by rfl) T.n_tuple bo_tuple (dax_cons (dx_f (dfx_lc (own := [("k", 7)]) rfl sc__law_rows.nd (dic_x (dix_range1 (dax_cons (dx_q (dq_var 1)) dax_nil) (by rfl) T.n_range)) (blkOk_by (N := N__law_rows) (sc := defScope s__law_rows) (own := [("k", 7)]) (by decide +kernel)) (fun _ _ _ _ _ => (dg_name 7 sc__law_rows.nd)) (fun _ _ _ _ _ => dtsx_nil) (fun _ _ _ _ _ => (dx_callTy cd_int (by rfl) T.n_int bo_int (dax_cons (dx_cmp (od_eq hr.u64) (dx_callS (ok__law_draw T) (hr.mono (by decide)) (by rfl) T.m__law_draw T.f__law_draw.kp T.b__law_draw (daa_ev (dx_var 0) (daa_ev (dx_q dq_int) daa_nil))) (dx_q dq_int)) dax_nil))))) dax_nil))))) (dss_one (ds_expr (dx_app 3 (dx_callTy cd_tuple (by rfl) T.n_tuple bo_tuple (dax_cons (dx_f (dfx_lc (own := [("k", 7)]) rfl sc__law_rows.nd (dic_x (dix_range1 (dax_cons (dx_q (dq_var 1)) dax_nil) (by rfl) T.n_range)) (blkOk_by (N := N__law_rows) (sc := defScope s__law_rows) (own := [("k", 7)]) (by decide +kernel)) (fun _ _ _ _ _ => (dg_name 7 sc__law_rows.nd)) (fun _ _ _ _ _ => dtsx_nil) (fun _ _ _ _ _ => (dx_callS (ok__law_number T) (hr.mono (by decide)) (by rfl) T.m__law_number T.f__law_number.kp T.b__law_number (daa_ev (dx_var 0) (daa_ev (dx_q (dq_var 2)) daa_nil)))))) dax_nil)))))))))))
    (dss_one (ds_frz 3 (ds_ret (dx_q (dq_tup (daq_cons (dq_var 3) (daq_cons (dq_var 1) daq_nil)))))))))))
theorem ok__law_goal (T : Tx P w K mg base A) : FnG P w K mg base CX0 45 A.a__law_goal A.d__law_goal ["state", "rows", "width"] (spD K mg 3 F__law_goal) :=
  fn_ok T.f__law_goal sc__law_goal fun cdv Ar outer s H E hr => 
    (dss_cons (ds_set 3 sc__law_goal.nd (dx_callS (ok__law_draw T) (hr.mono (by decide)) (by rfl) T.m__law_draw T.f__law_draw.kp T.b__law_draw (daa_ev (dx_var 0) (daa_ev (dx_q dq_int) daa_nil))))
    (dss_cons (ds_if (dxt_q (dt_cmp (od_eq hr.u64) (dq_var 3) dq_int)) (dss_cons (ds_set 4 sc__law_goal.nd (dx_callS (ok__law_draw T) (hr.mono (by decide)) (by rfl) T.m__law_draw T.f__law_draw.kp T.b__law_draw (daa_ev (dx_var 0) (daa_ev (dx_q (dq_var 2)) daa_nil))))
      (dss_one (ds_ret (dx_q (dq_callTy cd_tuple (by rfl) T.n_tuple bo_tuple (daq_cons (dq_lc (own := [("k", 5)]) rfl sc__law_goal.nd (diq_range1 (daq_cons (dq_var 2) daq_nil) (by rfl) T.n_range) (blkOk_by (N := N__law_goal) (sc := defScope s__law_goal) (own := [("k", 5)]) (by decide +kernel)) (fun _ _ _ _ _ => (dg_name 5 sc__law_goal.nd)) (fun _ _ _ _ _ => dts_nil) (fun _ _ _ _ _ => (dq_callTy cd_int (by rfl) T.n_int bo_int (daq_cons (dq_cmp (od_eq hr.u64) (dq_var 5) (dq_var 4)) daq_nil)))) daq_nil)))))) dss_nil)
    (dss_cons (ds_if (dxt_q (dt_cmp (od_eq hr.u64) (dq_var 3) dq_int)) (dss_one (ds_ret (dx_callTy cd_tuple (by rfl) T.n_tuple bo_tuple (dax_cons (dx_f (dfx_lc (own := [("k", 5)]) rfl sc__law_goal.nd (dic_x (dix_range1 (dax_cons (dx_q (dq_var 2)) dax_nil) (by rfl) T.n_range)) (blkOk_by (N := N__law_goal) (sc := defScope s__law_goal) (own := [("k", 5)]) (by decide +kernel)) (fun _ _ _ _ _ => (dg_name 5 sc__law_goal.nd)) (fun _ _ _ _ _ => dtsx_nil) (fun _ _ _ _ _ => (dx_callS (ok__law_number T) (hr.mono (by decide)) (by rfl) T.m__law_number T.f__law_number.kp T.b__law_number (daa_ev (dx_var 0) (daa_ev (dx_q dq_bl) daa_nil)))))) dax_nil)))) dss_nil)
    (dss_cons (ds_ownF (dsf_set 6 sc__law_goal.nd (df_list (dx_callP (ok__law_mixed T) (hr.mono (by decide)) (by rfl) T.m__law_mixed T.f__law_mixed.kp T.b__law_mixed (daa_ev (dx_q (dq_var 1)) (daa_ev (dx_f (dfx_lc (own := [("row", 7)]) rfl sc__law_goal.nd (dic_x (dix_bor 1)) (blkOk_by (N := N__law_goal) (sc := defScope s__law_goal) (own := [("row", 7)]) (by decide +kernel)) (fun _ _ _ _ _ => (dg_name 7 sc__law_goal.nd)) (fun _ _ _ _ _ => dtsx_nil) (fun _ _ _ _ _ => (dx_callS (ok__law_pick T) (hr.mono (by decide)) (by rfl) T.m__law_pick T.f__law_pick.kp T.b__law_pick (daa_ev (dx_var 0) (daa_ev (dx_q (dq_lst (daq_cons dq_int (daq_cons dq_int (daq_cons (dq_un ud_neg dq_int) (daq_cons dq_int (daq_cons dq_int daq_nil))))))) daa_nil)))))) (daa_ev (dx_q (dq_var 2)) daa_nil)))) (by rfl) T.n_list bo_list)))
    (dss_cons (ds_if (dxt_q (dt_cmp (od_eq hr.u64) (dq_var 3) dq_int)) (dss_one (ds_augIx 6 id_add (dx_callS (ok__law_pick T) (hr.mono (by decide)) (by rfl) T.m__law_pick T.f__law_pick.kp T.b__law_pick (daa_ev (dx_var 0) (daa_ev (dx_q (dq_lst (daq_cons dq_int (daq_cons (dq_un ud_neg dq_int) (daq_cons (dq_bin od_pow dq_int dq_int) daq_nil))))) daa_nil))) (dx_callS (ok__law_draw T) (hr.mono (by decide)) (by rfl) T.m__law_draw T.f__law_draw.kp T.b__law_draw (daa_ev (dx_var 0) (daa_ev (dx_q (dq_var 2)) daa_nil))))) dss_nil)
    (dss_one (ds_ret (dx_q (dq_callTy cd_tuple (by rfl) T.n_tuple bo_tuple (daq_cons (db_var 6) daq_nil))))))))))
theorem ok__law_follows (T : Tx P w K mg base A) : FnG P w K mg base CX0 43 A.a__law_follows A.d__law_follows ["rows", "goal", "parts", "divisor"] (spD K mg 4 F__law_follows) :=
  fn_ok T.f__law_follows sc__law_follows fun cdv Ar outer s H E hr => 
    (dss_cons (ds_if (dxt_q (DW.t (dw_or (dt_cmp (od_ne hr.u64) (dq_callB cd_len (by rfl) T.n_len bo_len (daq_cons (db_var 2) daq_nil)) (dq_callB cd_len (by rfl) T.n_len bo_len (daq_cons (dq_var 0) daq_nil))) (dw_or1 (dt_cmp od_lt (dq_var 3) dq_int))))) (dss_one (ds_ret (dx_q dq_bl))) dss_nil)
    (dss_one (ds_ret (dx_q (dq_cmp (od_eq hr.u64) (dq_call (ok__law_mixed T) (hr.mono (by decide)) (by rfl) T.m__law_mixed T.f__law_mixed.kp T.b__law_mixed (dam_cons (dq_var 0) (dam_cons (db_var 2) (dam_cons (dq_callB cd_len (by rfl) T.n_len bo_len (daq_cons (dq_var 1) daq_nil)) dam_nil)))) (dq_callTy cd_tuple (by rfl) T.n_tuple bo_tuple (daq_cons (dq_lc (own := [("number", 4)]) rfl sc__law_follows.nd (diq_seq (dq_var 1)) (blkOk_by (N := N__law_follows) (sc := defScope s__law_follows) (own := [("number", 4)]) (by decide +kernel)) (fun _ _ _ _ _ => (dg_name 4 sc__law_follows.nd)) (fun _ _ _ _ _ => dts_nil) (fun _ _ _ _ _ => (dq_bin od_mul (dq_var 3) (dq_var 4)))) daq_nil)))))))
theorem ok__law_moves (T : Tx P w K mg base A) : FnG P w K mg base CX0 42 A.a__law_moves A.d__law_moves ["rows", "goal", "shift"] (spD K mg 3 F__law_moves) :=
  fn_ok T.f__law_moves sc__law_moves fun cdv Ar outer s H E hr => 
    (dss_cons (ds_if (dxt_q (dt_cmp (od_eq hr.u64) (dq_callB (cd_sum rfl) (by rfl) T.n_sum bo_sum (daq_cons (dq_lc (own := [("a", 3), ("b", 4)]) rfl sc__law_moves.nd (diq_zip (daq_cons (DQ.weak (dq_var 1)) (daq_cons (db_var 2) daq_nil)) (by rfl) T.n_zip) (blkOk_by (N := N__law_moves) (sc := defScope s__law_moves) (own := [("a", 3), ("b", 4)]) (by decide +kernel)) (fun _ _ _ _ _ => (dg_tup rfl (dgs_cons (dg_name 3 sc__law_moves.nd) (dgs_cons (dg_name 4 sc__law_moves.nd) dgs_nil)))) (fun _ _ _ _ _ => dts_nil) (fun _ _ _ _ _ => (dq_bin od_mul (dq_var 3) (dq_var 4)))) daq_nil)) dq_int)) (dss_one (ds_ret (dx_q dq_bl))) dss_nil)
    (dss_one (ds_ret (dx_q (dq_cmp (od_eq hr.u64) (dq_callB cd_len (by rfl) T.n_len bo_len (daq_cons (dq_lc (own := [("row", 5)]) rfl sc__law_moves.nd (diq_seq (dq_var 0)) (blkOk_by (N := N__law_moves) (sc := defScope s__law_moves) (own := [("row", 5)]) (by decide +kernel)) (fun _ _ _ _ _ => (dg_name 5 sc__law_moves.nd)) (fun _ _ _ _ _ => (dts_one (dt_cmp (od_ne hr.u64) (dq_callB (cd_sum rfl) (by rfl) T.n_sum bo_sum (daq_cons (dq_lc (own := [("a", 3), ("b", 4)]) rfl sc__law_moves.nd (diq_zip (daq_cons (DQ.weak (dq_var 5)) (daq_cons (db_var 2) daq_nil)) (by rfl) T.n_zip) (blkOk_re (blkOk_by (N := N__law_moves) (sc := lc_153_15) (own := [("a", 3), ("b", 4)]) (by decide +kernel))) (fun _ _ _ _ _ => (dg_tup rfl (dgs_cons (dg_name 3 sc__law_moves.nd) (dgs_cons (dg_name 4 sc__law_moves.nd) dgs_nil)))) (fun _ _ _ _ _ => dts_nil) (fun _ _ _ _ _ => (dq_bin od_mul (dq_var 3) (dq_var 4)))) daq_nil)) dq_int))) (fun _ _ _ _ _ => (dq_var 5))) daq_nil)) dq_int)))))
theorem ok__law_whole (T : Tx P w K mg base A) : FnG P w K mg base CX0 42 A.a__law_whole A.d__law_whole ["numbers"] (spD K mg 1 F__law_whole) :=
  fn_ok T.f__law_whole sc__law_whole fun cdv Ar outer s H E hr => 
    (dss_one (ds_ret (dx_q (dq_cmp (od_eq hr.u64) (dq_callB cd_len (by rfl) T.n_len bo_len (daq_cons (dq_lc (own := [("number", 1)]) rfl sc__law_whole.nd (diq_seq (dq_var 0)) (blkOk_by (N := N__law_whole) (sc := defScope s__law_whole) (own := [("number", 1)]) (by decide +kernel)) (fun _ _ _ _ _ => (dg_name 1 sc__law_whole.nd)) (fun _ _ _ _ _ => (dts_one (DW.t (dw_or (dt_not (dt_tru (dq_isi (by rfl) T.n_isinstance bo_isinstance (by rfl) T.n_int bo_int (dq_var 1)))) (dw_or1 (dt_tru (dq_isi (by rfl) T.n_isinstance bo_isinstance (by rfl) T.n_bool bo_bool (dq_var 1)))))))) (fun _ _ _ _ _ => (dq_var 1))) daq_nil)) dq_int))))
theorem ok__law_told (T : Tx P w K mg base A) : FnG P w K mg base CX0 48 A.a__law_told A.d__law_told ["rows", "goal"] (spD K mg 2 F__law_told) :=
  fn_ok T.f__law_told sc__law_told fun cdv Ar outer s H E hr => 
    (dss_cons (ds_set 2 sc__law_told.nd (dx_q (dq_call (ok_weights T) (hr.mono (by decide)) (by rfl) T.m_weights T.f_weights.kp T.b_weights (dam_cons (dq_var 0) (dam_cons (dq_var 1) dam_nil)))))
    (dss_cons (ds_if (dxt_q (DW.t (dw_or (dt_not (dt_tru (dq_isi (by rfl) T.n_isinstance bo_isinstance (by rfl) T.n_tuple bo_tuple (dq_var 2)))) (dw_or (dt_cmp od_lt (dq_callB cd_len (by rfl) T.n_len bo_len (daq_cons (dq_var 2) daq_nil)) dq_int) (dw_or (dt_not (dt_tru (dq_isi (by rfl) T.n_isinstance bo_isinstance (by rfl) T.n_tuple bo_tuple (dq_ix (dq_var 2) dq_int)))) (dw_or1 (dt_not (dt_tru (dq_call (ok__law_whole T) (hr.mono (by decide)) (by rfl) T.m__law_whole T.f__law_whole.kp T.b__law_whole (dam_cons (dq_ix (dq_var 2) dq_int) dam_nil)))))))))) (dss_one (ds_ret (dx_q dq_non))) dss_nil)
    (dss_cons (ds_if (dxt_q (DW.t (dw_and (dt_cmp (od_eq hr.u64) (dq_ix (dq_var 2) dq_int) dq_str) (dw_and (dt_cmp (od_eq hr.u64) (dq_callB cd_len (by rfl) T.n_len bo_len (daq_cons (dq_var 2) daq_nil)) dq_int) (dw_and (dt_tru (dq_call (ok__law_whole T) (hr.mono (by decide)) (by rfl) T.m__law_whole T.f__law_whole.kp T.b__law_whole (dam_cons (dq_lst (daq_cons (dq_ix (dq_var 2) dq_int) daq_nil)) dam_nil))) (dw_and1 (dt_tru (dq_call (ok__law_follows T) (hr.mono (by decide)) (by rfl) T.m__law_follows T.f__law_follows.kp T.b__law_follows (dam_cons (dq_var 0) (dam_cons (dq_var 1) (dam_cons (dq_ix (dq_var 2) dq_int) (dam_cons (dq_ix (dq_var 2) dq_int) dam_nil)))))))))))) (dss_one (ds_ret (dx_q dq_str))) dss_nil)
    (dss_cons (ds_if (dxt_q (DW.t (dw_and (dt_cmp (od_eq hr.u64) (dq_ix (dq_var 2) dq_int) dq_str) (dw_and (dt_cmp (od_eq hr.u64) (dq_callB cd_len (by rfl) T.n_len bo_len (daq_cons (dq_var 2) daq_nil)) dq_int) (dw_and (dt_cmp (od_eq hr.u64) (dq_callB cd_len (by rfl) T.n_len bo_len (daq_cons (dq_ix (dq_var 2) dq_int) daq_nil)) (dq_callB cd_len (by rfl) T.n_len bo_len (daq_cons (dq_var 1) daq_nil))) (dw_and1 (dt_tru (dq_call (ok__law_moves T) (hr.mono (by decide)) (by rfl) T.m__law_moves T.f__law_moves.kp T.b__law_moves (dam_cons (dq_var 0) (dam_cons (dq_var 1) (dam_cons (dq_ix (dq_var 2) dq_int) dam_nil))))))))))) (dss_one (ds_ret (dx_q dq_str))) dss_nil)
    (dss_one (ds_ret (dx_q dq_non)))))))
theorem ok__law_judged (T : Tx P w K mg base A) : FnG P w K mg base CX0 46 A.a__law_judged A.d__law_judged ["state", "rows", "goal", "told"] (spD K mg 4 F__law_judged) :=
  fn_ok T.f__law_judged sc__law_judged fun cdv Ar outer s H E hr => 
    (dss_cons (ds_set 4 sc__law_judged.nd (dx_q (dq_callTy cd_list (by rfl) T.n_list bo_list (daq_cons (dq_ix (dq_var 3) dq_int) daq_nil))))
    (dss_cons (ds_set 5 sc__law_judged.nd (dx_callS (ok__law_pick T) (hr.mono (by decide)) (by rfl) T.m__law_pick T.f__law_pick.kp T.b__law_pick (daa_ev (dx_var 0) (daa_ev (dx_q (dq_lst (daq_cons dq_int (daq_cons dq_int (daq_cons dq_int (daq_cons (dq_bin od_pow dq_int dq_int) daq_nil)))))) daa_nil))))
    (dss_cons (ds_for (ts := [6]) PassesOwn.never rfl (dix_range1 (dax_cons (dx_q dq_int) dax_nil) (by rfl) T.n_range) (dg_name 6 sc__law_judged.nd) (dss_cons (ds_ownF (dsf_lc (own := [("number", 8)]) 7 rfl sc__law_judged.nd (diq_seq (dq_var 4)) (blkOk_by (N := N__law_judged) (sc := defScope s__law_judged) (own := [("number", 8)]) (by decide +kernel)) (fun _ _ _ _ _ => (dg_name 8 sc__law_judged.nd)) (fun _ _ _ _ _ => dts_nil) (fun _ _ _ _ _ => (dq_bin od_mul (dq_var 5) (dq_var 8))) (sw_true rfl rfl rfl (by decide +kernel))))
      (dss_cons (ds_if (dxt_q (DW.t (dw_and (dt_cmp (od_eq hr.u64) (dq_var 6) dq_int) (dw_and1 (dt_cmp od_gt (dq_callB cd_len (by rfl) T.n_len bo_len (daq_cons (db_var 7) daq_nil)) dq_int))))) (dss_one (ds_augIx 7 id_add (dx_callS (ok__law_pick T) (hr.mono (by decide)) (by rfl) T.m__law_pick T.f__law_pick.kp T.b__law_pick (daa_ev (dx_var 0) (daa_ev (dx_q (dq_lst (daq_cons dq_int (daq_cons (dq_un ud_neg dq_int) (daq_cons dq_int daq_nil))))) daa_nil))) (dx_callS (ok__law_draw T) (hr.mono (by decide)) (by rfl) T.m__law_draw T.f__law_draw.kp T.b__law_draw (daa_ev (dx_var 0) (daa_ev (dx_q (dq_callB cd_len (by rfl) T.n_len bo_len (daq_cons (db_var 7) daq_nil))) daa_nil))))) dss_nil)
      (dss_cons (ds_if (dxt_q (dt_cmp (od_eq hr.u64) (dq_var 6) dq_int)) (dss_one (ds_set 7 sc__law_judged.nd (dx_if (dxt_cmp (od_eq hr.u64) (dx_callS (ok__law_draw T) (hr.mono (by decide)) (by rfl) T.m__law_draw T.f__law_draw.kp T.b__law_draw (daa_ev (dx_var 0) (daa_ev (dx_q dq_int) daa_nil))) (dx_q dq_int)) (dx_q (dq_lc (own := [("number", 8)]) rfl sc__law_judged.nd (diq_seq (db_var 7)) (blkOk_by (N := N__law_judged) (sc := defScope s__law_judged) (own := [("number", 8)]) (by decide +kernel)) (fun _ _ _ _ _ => (dg_name 8 sc__law_judged.nd)) (fun _ _ _ _ _ => dts_nil) (fun _ _ _ _ _ => (dq_un ud_neg (dq_var 8))))) (dx_q (dq_slice (db_var 7) (do_some dq_int) do_none))))) dss_nil)
      (dss_one (ds_if (dxt_q (dt_cmp (od_eq hr.u64) (dq_ix (dq_var 3) dq_int) dq_str)) (dss_cons (ds_set 9 sc__law_judged.nd (dx_bin od_add (dx_q (dq_bin od_mul (dq_var 5) (dq_ix (dq_var 3) dq_int))) (dx_callS (ok__law_pick T) (hr.mono (by decide)) (by rfl) T.m__law_pick T.f__law_pick.kp T.b__law_pick (daa_ev (dx_var 0) (daa_ev (dx_q (dq_lst (daq_cons dq_int (daq_cons dq_int (daq_cons dq_int (daq_cons (dq_bin od_mul (dq_un ud_neg (dq_var 5)) (dq_ix (dq_var 3) dq_int)) (daq_cons (dq_bin od_mul (dq_bin od_mul (dq_un ud_neg dq_int) (dq_var 5)) (dq_ix (dq_var 3) dq_int)) daq_nil))))))) daa_nil)))))
      (dss_one (ds_if (dxt_q (dt_not (dt_tru (dq_call (ok__law_same T 3) (hr.mono (by decide)) (by rfl) T.m__law_same T.f__law_same.kp T.b__law_same (dam_cons (dq_call (ok_weights_right T) (hr.mono (by decide)) (by rfl) T.m_weights_right T.f_weights_right.kp T.b_weights_right (dam_cons (dq_var 1) (dam_cons (dq_var 2) (dam_cons (dq_callTy cd_tuple (by rfl) T.n_tuple bo_tuple (daq_cons (db_var 7) daq_nil)) (dam_cons (dq_var 9) dam_nil))))) (dam_cons (dq_call (ok__law_follows T) (hr.mono (by decide)) (by rfl) T.m__law_follows T.f__law_follows.kp T.b__law_follows (dam_cons (dq_var 1) (dam_cons (dq_var 2) (dam_cons (db_var 7) (dam_cons (dq_var 9) dam_nil))))) dam_nil)))))) (dss_one (ds_ret (dx_q dq_bl))) dss_nil))) (dss_one (ds_if (dxt_q (DW.t (dw_and (dt_cmp (od_eq hr.u64) (dq_callB cd_len (by rfl) T.n_len bo_len (daq_cons (db_var 7) daq_nil)) (dq_callB cd_len (by rfl) T.n_len bo_len (daq_cons (dq_var 2) daq_nil))) (dw_and1 (dt_not (dt_tru (dq_call (ok__law_same T 3) (hr.mono (by decide)) (by rfl) T.m__law_same T.f__law_same.kp T.b__law_same (dam_cons (dq_call (ok_shift_right T) (hr.mono (by decide)) (by rfl) T.m_shift_right T.f_shift_right.kp T.b_shift_right (dam_cons (dq_var 1) (dam_cons (dq_var 2) (dam_cons (dq_callTy cd_tuple (by rfl) T.n_tuple bo_tuple (daq_cons (db_var 7) daq_nil)) dam_nil)))) (dam_cons (dq_call (ok__law_moves T) (hr.mono (by decide)) (by rfl) T.m__law_moves T.f__law_moves.kp T.b__law_moves (dam_cons (dq_var 1) (dam_cons (dq_var 2) (dam_cons (db_var 7) dam_nil)))) dam_nil))))))))) (dss_one (ds_ret (dx_q dq_bl))) dss_nil))))))))
    (dss_one (ds_ret (dx_q dq_bl))))))
theorem ok_law (T : Tx P w K mg base A) : FnG P w K mg base CX0 49 A.a_law A.d_law ["script"] (spD K mg 1 F_law) :=
  fn_ok T.f_law sc_law fun cdv Ar outer s H E hr => 
    (dss_cons (ds_set 1 sc_law.nd (dx_callS (ok__law_state T) (hr.mono (by decide)) (by rfl) T.m__law_state T.f__law_state.kp T.b__law_state (daa_ev (dx_q (dq_var 0)) daa_nil)))
    (dss_cons (ds_asg (ts := [2, 3]) (dx_callS (ok__law_rows T) (hr.mono (by decide)) (by rfl) T.m__law_rows T.f__law_rows.kp T.b__law_rows (daa_ev (dx_var 1) daa_nil)) (dg_tup rfl (dgs_cons (dg_name 2 sc_law.nd) (dgs_cons (dg_name 3 sc_law.nd) dgs_nil))))
    (dss_cons (ds_for (ts := [4]) PassesOwn.never rfl (dix_range1 (dax_cons (dx_q dq_int) dax_nil) (by rfl) T.n_range) (dg_name 4 sc_law.nd) (dss_cons (ds_set 5 sc_law.nd (dx_callS (ok__law_goal T) (hr.mono (by decide)) (by rfl) T.m__law_goal T.f__law_goal.kp T.b__law_goal (daa_ev (dx_var 1) (daa_ev (dx_q (dq_var 2)) (daa_ev (dx_q (dq_var 3)) daa_nil)))))
      (dss_cons (ds_set 6 sc_law.nd (dx_q (dq_callB (cd_repr hr.gd hr.u64) (by rfl) T.n_repr bo_repr (daq_cons (dq_lst (daq_cons (dq_var 2) (daq_cons (dq_var 5) daq_nil))) daq_nil))))
      (dss_one (ds_if (DXW.t (dxw_or (dxt_q (dt_cmp od_is (dq_call (ok__law_told T) (hr.mono (by decide)) (by rfl) T.m__law_told T.f__law_told.kp T.b__law_told (dam_cons (dq_var 2) (dam_cons (dq_var 5) dam_nil))) dq_non)) (dxw_or (dxt_not (dxt_val (dx_callS (ok__law_judged T) (hr.mono (by decide)) (by rfl) T.m__law_judged T.f__law_judged.kp T.b__law_judged (daa_ev (dx_var 1) (daa_ev (dx_q (dq_var 2)) (daa_ev (dx_q (dq_var 5)) (daa_ev (dx_q (dq_call (ok_weights T) (hr.mono (by decide)) (by rfl) T.m_weights T.f_weights.kp T.b_weights (dam_cons (dq_var 2) (dam_cons (dq_var 5) dam_nil)))) daa_nil))))))) (dxw_or1 (dxt_q (dt_cmp (od_ne hr.u64) (dq_callB (cd_repr hr.gd hr.u64) (by rfl) T.n_repr bo_repr (daq_cons (dq_lst (daq_cons (dq_var 2) (daq_cons (dq_var 5) daq_nil))) daq_nil)) (dq_var 6))))))) (dss_one (ds_ret (dx_q dq_bl))) dss_nil)))))
    (dss_cons (ds_ownF (dsf_set 7 sc_law.nd (df_lst dax_nil)))
    (dss_cons (ds_for (ts := [8]) PassesOwn.never rfl (dix_range1 (dax_cons (dx_q (dq_callB cd_len (by rfl) T.n_len bo_len (daq_cons (dq_var 2) daq_nil))) dax_nil) (by rfl) T.n_range) (dg_name 8 sc_law.nd) (dss_cons (ds_set 9 sc_law.nd (dx_q (dq_call (ok__law_told T) (hr.mono (by decide)) (by rfl) T.m__law_told T.f__law_told.kp T.b__law_told (dam_cons (dq_slice (dq_var 2) do_none (do_some (dq_var 8))) (dam_cons (dq_ix (dq_var 2) (dq_var 8)) dam_nil)))))
      (dss_cons (ds_if (dxt_q (dt_cmp od_is (dq_var 9) dq_non)) (dss_one (ds_ret (dx_q dq_bl))) dss_nil)
      (dss_one (ds_if (dxt_q (dt_cmp (od_eq hr.u64) (dq_var 9) dq_str)) (dss_one (ds_expr (dx_app 7 (dx_q (dq_var 8))))) dss_nil)))))
    (dss_one (ds_ret (dx_q (dq_call (ok__law_same T 3) (hr.mono (by decide)) (by rfl) T.m__law_same T.f__law_same.kp T.b__law_same (dam_cons (dq_call (ok_independent T) (hr.mono (by decide)) (by rfl) T.m_independent T.f_independent.kp T.b_independent (dam_cons (dq_var 2) dam_nil)) (dam_cons (db_var 7) dam_nil)))))))))))
end
end K21
namespace K21
open PySem PySem.Spec PyProof.Rows L2 DL
theorem all_mk {P : Program} {w : World} {K : Frag} {h : Heap} {mg : Str → Option Value} {fa : Addr} (X : K.In h) (G : h.Ns mainGlobals mg) (hfa : mg "law" = some (.ref fa)) (tr : P.given.tree = none)
    {C_Basis f_divisor_of f_shortened f_product f_Basis___init__ f_Basis_taken f_Basis_add f_Basis_shift f_basis_of f_independent f_weights f_weights_right f_shift_right f__law_state f__law_draw f__law_pick f__law_same f__law_number f__law_mixed f__law_rows f__law_goal f__law_follows f__law_moves f__law_whole f__law_told f__law_judged f_law : Addr}
    {od_divisor_of an_divisor_of : Option Addr} {sl_divisor_of : Array (Option Value)} {oc_divisor_of kV_divisor_of dc_divisor_of pm_divisor_of cd_divisor_of ct_divisor_of : Value}
    {od_shortened an_shortened : Option Addr} {sl_shortened : Array (Option Value)} {oc_shortened kV_shortened dc_shortened pm_shortened cd_shortened ct_shortened : Value}
    {od_product an_product : Option Addr} {sl_product : Array (Option Value)} {oc_product kV_product dc_product pm_product cd_product ct_product : Value}
    {od_Basis___init__ an_Basis___init__ : Option Addr} {sl_Basis___init__ : Array (Option Value)} {oc_Basis___init__ kV_Basis___init__ dc_Basis___init__ pm_Basis___init__ cd_Basis___init__ ct_Basis___init__ : Value}
    {od_Basis_taken an_Basis_taken : Option Addr} {sl_Basis_taken : Array (Option Value)} {oc_Basis_taken kV_Basis_taken dc_Basis_taken pm_Basis_taken cd_Basis_taken ct_Basis_taken : Value}
    {od_Basis_add an_Basis_add : Option Addr} {sl_Basis_add : Array (Option Value)} {oc_Basis_add kV_Basis_add dc_Basis_add pm_Basis_add cd_Basis_add ct_Basis_add : Value}
    {od_Basis_shift an_Basis_shift : Option Addr} {sl_Basis_shift : Array (Option Value)} {oc_Basis_shift kV_Basis_shift dc_Basis_shift pm_Basis_shift cd_Basis_shift ct_Basis_shift : Value}
    {od_basis_of an_basis_of : Option Addr} {sl_basis_of : Array (Option Value)} {oc_basis_of kV_basis_of dc_basis_of pm_basis_of cd_basis_of ct_basis_of : Value}
    {od_independent an_independent : Option Addr} {sl_independent : Array (Option Value)} {oc_independent kV_independent dc_independent pm_independent cd_independent ct_independent : Value}
    {od_weights an_weights : Option Addr} {sl_weights : Array (Option Value)} {oc_weights kV_weights dc_weights pm_weights cd_weights ct_weights : Value}
    {od_weights_right an_weights_right : Option Addr} {sl_weights_right : Array (Option Value)} {oc_weights_right kV_weights_right dc_weights_right pm_weights_right cd_weights_right ct_weights_right : Value}
    {od_shift_right an_shift_right : Option Addr} {sl_shift_right : Array (Option Value)} {oc_shift_right kV_shift_right dc_shift_right pm_shift_right cd_shift_right ct_shift_right : Value}
    {od__law_state an__law_state : Option Addr} {sl__law_state : Array (Option Value)} {oc__law_state kV__law_state dc__law_state pm__law_state cd__law_state ct__law_state : Value}
    {od__law_draw an__law_draw : Option Addr} {sl__law_draw : Array (Option Value)} {oc__law_draw kV__law_draw dc__law_draw pm__law_draw cd__law_draw ct__law_draw : Value}
    {od__law_pick an__law_pick : Option Addr} {sl__law_pick : Array (Option Value)} {oc__law_pick kV__law_pick dc__law_pick pm__law_pick cd__law_pick ct__law_pick : Value}
    {od__law_same an__law_same : Option Addr} {sl__law_same : Array (Option Value)} {oc__law_same kV__law_same dc__law_same pm__law_same cd__law_same ct__law_same : Value}
    {od__law_number an__law_number : Option Addr} {sl__law_number : Array (Option Value)} {oc__law_number kV__law_number dc__law_number pm__law_number cd__law_number ct__law_number : Value}
    {od__law_mixed an__law_mixed : Option Addr} {sl__law_mixed : Array (Option Value)} {oc__law_mixed kV__law_mixed dc__law_mixed pm__law_mixed cd__law_mixed ct__law_mixed : Value}
    {od__law_rows an__law_rows : Option Addr} {sl__law_rows : Array (Option Value)} {oc__law_rows kV__law_rows dc__law_rows pm__law_rows cd__law_rows ct__law_rows : Value}
    {od__law_goal an__law_goal : Option Addr} {sl__law_goal : Array (Option Value)} {oc__law_goal kV__law_goal dc__law_goal pm__law_goal cd__law_goal ct__law_goal : Value}
    {od__law_follows an__law_follows : Option Addr} {sl__law_follows : Array (Option Value)} {oc__law_follows kV__law_follows dc__law_follows pm__law_follows cd__law_follows ct__law_follows : Value}
    {od__law_moves an__law_moves : Option Addr} {sl__law_moves : Array (Option Value)} {oc__law_moves kV__law_moves dc__law_moves pm__law_moves cd__law_moves ct__law_moves : Value}
    {od__law_whole an__law_whole : Option Addr} {sl__law_whole : Array (Option Value)} {oc__law_whole kV__law_whole dc__law_whole pm__law_whole cd__law_whole ct__law_whole : Value}
    {od__law_told an__law_told : Option Addr} {sl__law_told : Array (Option Value)} {oc__law_told kV__law_told dc__law_told pm__law_told cd__law_told ct__law_told : Value}
    {od__law_judged an__law_judged : Option Addr} {sl__law_judged : Array (Option Value)} {oc__law_judged kV__law_judged dc__law_judged pm__law_judged cd__law_judged ct__law_judged : Value}
    {od_law an_law : Option Addr} {sl_law : Array (Option Value)} {oc_law kV_law dc_law pm_law cd_law ct_law : Value}
    (aC_Basis : PySem.W.nsIn K mainGlobals "Basis" = some (some (.ref C_Basis)))
    (a_divisor_of : PySem.W.nsIn K mainGlobals "divisor_of" = some (some (.ref f_divisor_of)))
    (l_divisor_of : K.lookup f_divisor_of = some ⟨oc_divisor_of, od_divisor_of, .func (PySem.W.fnOf "divisor_of" "divisor_of" (defArgs s_divisor_of) (defBody s_divisor_of) (defScope s_divisor_of) .none kV_divisor_of dc_divisor_of pm_divisor_of an_divisor_of cd_divisor_of ct_divisor_of), sl_divisor_of⟩)
    (c_divisor_of : PySem.W.codeIn K cd_divisor_of "divisor_of" = true)
    (k_divisor_of : PySem.W.keepIn K (.ref f_divisor_of) = true)
    (a_shortened : PySem.W.nsIn K mainGlobals "shortened" = some (some (.ref f_shortened)))
    (l_shortened : K.lookup f_shortened = some ⟨oc_shortened, od_shortened, .func (PySem.W.fnOf "shortened" "shortened" (defArgs s_shortened) (defBody s_shortened) (defScope s_shortened) .none kV_shortened dc_shortened pm_shortened an_shortened cd_shortened ct_shortened), sl_shortened⟩)
    (c_shortened : PySem.W.codeIn K cd_shortened "shortened" = true)
    (k_shortened : PySem.W.keepIn K (.ref f_shortened) = true)
    (a_product : PySem.W.nsIn K mainGlobals "product" = some (some (.ref f_product)))
    (l_product : K.lookup f_product = some ⟨oc_product, od_product, .func (PySem.W.fnOf "product" "product" (defArgs s_product) (defBody s_product) (defScope s_product) .none kV_product dc_product pm_product an_product cd_product ct_product), sl_product⟩)
    (c_product : PySem.W.codeIn K cd_product "product" = true)
    (k_product : PySem.W.keepIn K (.ref f_product) = true)
    (a_Basis___init__ : PySem.W.findIn K (.ref C_Basis) "__init__" = some (some (.ref f_Basis___init__)))
    (i_Basis___init__ : PySem.W.isFn K (.ref f_Basis___init__) = true)
    (l_Basis___init__ : K.lookup f_Basis___init__ = some ⟨oc_Basis___init__, od_Basis___init__, .func (PySem.W.fnOf "__init__" "Basis.__init__" (defArgs s_Basis___init__) (defBody s_Basis___init__) (defScope s_Basis___init__) .none kV_Basis___init__ dc_Basis___init__ pm_Basis___init__ an_Basis___init__ cd_Basis___init__ ct_Basis___init__), sl_Basis___init__⟩)
    (c_Basis___init__ : PySem.W.codeIn K cd_Basis___init__ "Basis.__init__" = true)
    (k_Basis___init__ : PySem.W.keepIn K (.ref f_Basis___init__) = true)
    (a_Basis_taken : PySem.W.findIn K (.ref C_Basis) "taken" = some (some (.ref f_Basis_taken)))
    (i_Basis_taken : PySem.W.isFn K (.ref f_Basis_taken) = true)
    (l_Basis_taken : K.lookup f_Basis_taken = some ⟨oc_Basis_taken, od_Basis_taken, .func (PySem.W.fnOf "taken" "Basis.taken" (defArgs s_Basis_taken) (defBody s_Basis_taken) (defScope s_Basis_taken) .none kV_Basis_taken dc_Basis_taken pm_Basis_taken an_Basis_taken cd_Basis_taken ct_Basis_taken), sl_Basis_taken⟩)
    (c_Basis_taken : PySem.W.codeIn K cd_Basis_taken "Basis.taken" = true)
    (k_Basis_taken : PySem.W.keepIn K (.ref f_Basis_taken) = true)
    (a_Basis_add : PySem.W.findIn K (.ref C_Basis) "add" = some (some (.ref f_Basis_add)))
    (i_Basis_add : PySem.W.isFn K (.ref f_Basis_add) = true)
    (l_Basis_add : K.lookup f_Basis_add = some ⟨oc_Basis_add, od_Basis_add, .func (PySem.W.fnOf "add" "Basis.add" (defArgs s_Basis_add) (defBody s_Basis_add) (defScope s_Basis_add) .none kV_Basis_add dc_Basis_add pm_Basis_add an_Basis_add cd_Basis_add ct_Basis_add), sl_Basis_add⟩)
    (c_Basis_add : PySem.W.codeIn K cd_Basis_add "Basis.add" = true)
    (k_Basis_add : PySem.W.keepIn K (.ref f_Basis_add) = true)
    (a_Basis_shift : PySem.W.findIn K (.ref C_Basis) "shift" = some (some (.ref f_Basis_shift)))
    (i_Basis_shift : PySem.W.isFn K (.ref f_Basis_shift) = true)
    (l_Basis_shift : K.lookup f_Basis_shift = some ⟨oc_Basis_shift, od_Basis_shift, .func (PySem.W.fnOf "shift" "Basis.shift" (defArgs s_Basis_shift) (defBody s_Basis_shift) (defScope s_Basis_shift) .none kV_Basis_shift dc_Basis_shift pm_Basis_shift an_Basis_shift cd_Basis_shift ct_Basis_shift), sl_Basis_shift⟩)
    (c_Basis_shift : PySem.W.codeIn K cd_Basis_shift "Basis.shift" = true)
    (k_Basis_shift : PySem.W.keepIn K (.ref f_Basis_shift) = true)
    (a_basis_of : PySem.W.nsIn K mainGlobals "basis_of" = some (some (.ref f_basis_of)))
    (l_basis_of : K.lookup f_basis_of = some ⟨oc_basis_of, od_basis_of, .func (PySem.W.fnOf "basis_of" "basis_of" (defArgs s_basis_of) (defBody s_basis_of) (defScope s_basis_of) .none kV_basis_of dc_basis_of pm_basis_of an_basis_of cd_basis_of ct_basis_of), sl_basis_of⟩)
    (c_basis_of : PySem.W.codeIn K cd_basis_of "basis_of" = true)
    (k_basis_of : PySem.W.keepIn K (.ref f_basis_of) = true)
    (a_independent : PySem.W.nsIn K mainGlobals "independent" = some (some (.ref f_independent)))
    (l_independent : K.lookup f_independent = some ⟨oc_independent, od_independent, .func (PySem.W.fnOf "independent" "independent" (defArgs s_independent) (defBody s_independent) (defScope s_independent) .none kV_independent dc_independent pm_independent an_independent cd_independent ct_independent), sl_independent⟩)
    (c_independent : PySem.W.codeIn K cd_independent "independent" = true)
    (k_independent : PySem.W.keepIn K (.ref f_independent) = true)
    (a_weights : PySem.W.nsIn K mainGlobals "weights" = some (some (.ref f_weights)))
    (l_weights : K.lookup f_weights = some ⟨oc_weights, od_weights, .func (PySem.W.fnOf "weights" "weights" (defArgs s_weights) (defBody s_weights) (defScope s_weights) .none kV_weights dc_weights pm_weights an_weights cd_weights ct_weights), sl_weights⟩)
    (c_weights : PySem.W.codeIn K cd_weights "weights" = true)
    (k_weights : PySem.W.keepIn K (.ref f_weights) = true)
    (a_weights_right : PySem.W.nsIn K mainGlobals "weights_right" = some (some (.ref f_weights_right)))
    (l_weights_right : K.lookup f_weights_right = some ⟨oc_weights_right, od_weights_right, .func (PySem.W.fnOf "weights_right" "weights_right" (defArgs s_weights_right) (defBody s_weights_right) (defScope s_weights_right) .none kV_weights_right dc_weights_right pm_weights_right an_weights_right cd_weights_right ct_weights_right), sl_weights_right⟩)
    (c_weights_right : PySem.W.codeIn K cd_weights_right "weights_right" = true)
    (k_weights_right : PySem.W.keepIn K (.ref f_weights_right) = true)
    (a_shift_right : PySem.W.nsIn K mainGlobals "shift_right" = some (some (.ref f_shift_right)))
    (l_shift_right : K.lookup f_shift_right = some ⟨oc_shift_right, od_shift_right, .func (PySem.W.fnOf "shift_right" "shift_right" (defArgs s_shift_right) (defBody s_shift_right) (defScope s_shift_right) .none kV_shift_right dc_shift_right pm_shift_right an_shift_right cd_shift_right ct_shift_right), sl_shift_right⟩)
    (c_shift_right : PySem.W.codeIn K cd_shift_right "shift_right" = true)
    (k_shift_right : PySem.W.keepIn K (.ref f_shift_right) = true)
    (a__law_state : PySem.W.nsIn K mainGlobals "_law_state" = some (some (.ref f__law_state)))
    (l__law_state : K.lookup f__law_state = some ⟨oc__law_state, od__law_state, .func (PySem.W.fnOf "_law_state" "_law_state" (defArgs s__law_state) (defBody s__law_state) (defScope s__law_state) .none kV__law_state dc__law_state pm__law_state an__law_state cd__law_state ct__law_state), sl__law_state⟩)
    (c__law_state : PySem.W.codeIn K cd__law_state "_law_state" = true)
    (k__law_state : PySem.W.keepIn K (.ref f__law_state) = true)
    (a__law_draw : PySem.W.nsIn K mainGlobals "_law_draw" = some (some (.ref f__law_draw)))
    (l__law_draw : K.lookup f__law_draw = some ⟨oc__law_draw, od__law_draw, .func (PySem.W.fnOf "_law_draw" "_law_draw" (defArgs s__law_draw) (defBody s__law_draw) (defScope s__law_draw) .none kV__law_draw dc__law_draw pm__law_draw an__law_draw cd__law_draw ct__law_draw), sl__law_draw⟩)
    (c__law_draw : PySem.W.codeIn K cd__law_draw "_law_draw" = true)
    (k__law_draw : PySem.W.keepIn K (.ref f__law_draw) = true)
    (a__law_pick : PySem.W.nsIn K mainGlobals "_law_pick" = some (some (.ref f__law_pick)))
    (l__law_pick : K.lookup f__law_pick = some ⟨oc__law_pick, od__law_pick, .func (PySem.W.fnOf "_law_pick" "_law_pick" (defArgs s__law_pick) (defBody s__law_pick) (defScope s__law_pick) .none kV__law_pick dc__law_pick pm__law_pick an__law_pick cd__law_pick ct__law_pick), sl__law_pick⟩)
    (c__law_pick : PySem.W.codeIn K cd__law_pick "_law_pick" = true)
    (k__law_pick : PySem.W.keepIn K (.ref f__law_pick) = true)
    (a__law_same : PySem.W.nsIn K mainGlobals "_law_same" = some (some (.ref f__law_same)))
    (l__law_same : K.lookup f__law_same = some ⟨oc__law_same, od__law_same, .func (PySem.W.fnOf "_law_same" "_law_same" (defArgs s__law_same) (defBody s__law_same) (defScope s__law_same) .none kV__law_same dc__law_same pm__law_same an__law_same cd__law_same ct__law_same), sl__law_same⟩)
    (c__law_same : PySem.W.codeIn K cd__law_same "_law_same" = true)
    (k__law_same : PySem.W.keepIn K (.ref f__law_same) = true)
    (a__law_number : PySem.W.nsIn K mainGlobals "_law_number" = some (some (.ref f__law_number)))
    (l__law_number : K.lookup f__law_number = some ⟨oc__law_number, od__law_number, .func (PySem.W.fnOf "_law_number" "_law_number" (defArgs s__law_number) (defBody s__law_number) (defScope s__law_number) .none kV__law_number dc__law_number pm__law_number an__law_number cd__law_number ct__law_number), sl__law_number⟩)
    (c__law_number : PySem.W.codeIn K cd__law_number "_law_number" = true)
    (k__law_number : PySem.W.keepIn K (.ref f__law_number) = true)
    (a__law_mixed : PySem.W.nsIn K mainGlobals "_law_mixed" = some (some (.ref f__law_mixed)))
    (l__law_mixed : K.lookup f__law_mixed = some ⟨oc__law_mixed, od__law_mixed, .func (PySem.W.fnOf "_law_mixed" "_law_mixed" (defArgs s__law_mixed) (defBody s__law_mixed) (defScope s__law_mixed) .none kV__law_mixed dc__law_mixed pm__law_mixed an__law_mixed cd__law_mixed ct__law_mixed), sl__law_mixed⟩)
    (c__law_mixed : PySem.W.codeIn K cd__law_mixed "_law_mixed" = true)
    (k__law_mixed : PySem.W.keepIn K (.ref f__law_mixed) = true)
    (a__law_rows : PySem.W.nsIn K mainGlobals "_law_rows" = some (some (.ref f__law_rows)))
    (l__law_rows : K.lookup f__law_rows = some ⟨oc__law_rows, od__law_rows, .func (PySem.W.fnOf "_law_rows" "_law_rows" (defArgs s__law_rows) (defBody s__law_rows) (defScope s__law_rows) .none kV__law_rows dc__law_rows pm__law_rows an__law_rows cd__law_rows ct__law_rows), sl__law_rows⟩)
    (c__law_rows : PySem.W.codeIn K cd__law_rows "_law_rows" = true)
    (k__law_rows : PySem.W.keepIn K (.ref f__law_rows) = true)
    (a__law_goal : PySem.W.nsIn K mainGlobals "_law_goal" = some (some (.ref f__law_goal)))
    (l__law_goal : K.lookup f__law_goal = some ⟨oc__law_goal, od__law_goal, .func (PySem.W.fnOf "_law_goal" "_law_goal" (defArgs s__law_goal) (defBody s__law_goal) (defScope s__law_goal) .none kV__law_goal dc__law_goal pm__law_goal an__law_goal cd__law_goal ct__law_goal), sl__law_goal⟩)
    (c__law_goal : PySem.W.codeIn K cd__law_goal "_law_goal" = true)
    (k__law_goal : PySem.W.keepIn K (.ref f__law_goal) = true)
    (a__law_follows : PySem.W.nsIn K mainGlobals "_law_follows" = some (some (.ref f__law_follows)))
    (l__law_follows : K.lookup f__law_follows = some ⟨oc__law_follows, od__law_follows, .func (PySem.W.fnOf "_law_follows" "_law_follows" (defArgs s__law_follows) (defBody s__law_follows) (defScope s__law_follows) .none kV__law_follows dc__law_follows pm__law_follows an__law_follows cd__law_follows ct__law_follows), sl__law_follows⟩)
    (c__law_follows : PySem.W.codeIn K cd__law_follows "_law_follows" = true)
    (k__law_follows : PySem.W.keepIn K (.ref f__law_follows) = true)
    (a__law_moves : PySem.W.nsIn K mainGlobals "_law_moves" = some (some (.ref f__law_moves)))
    (l__law_moves : K.lookup f__law_moves = some ⟨oc__law_moves, od__law_moves, .func (PySem.W.fnOf "_law_moves" "_law_moves" (defArgs s__law_moves) (defBody s__law_moves) (defScope s__law_moves) .none kV__law_moves dc__law_moves pm__law_moves an__law_moves cd__law_moves ct__law_moves), sl__law_moves⟩)
    (c__law_moves : PySem.W.codeIn K cd__law_moves "_law_moves" = true)
    (k__law_moves : PySem.W.keepIn K (.ref f__law_moves) = true)
    (a__law_whole : PySem.W.nsIn K mainGlobals "_law_whole" = some (some (.ref f__law_whole)))
    (l__law_whole : K.lookup f__law_whole = some ⟨oc__law_whole, od__law_whole, .func (PySem.W.fnOf "_law_whole" "_law_whole" (defArgs s__law_whole) (defBody s__law_whole) (defScope s__law_whole) .none kV__law_whole dc__law_whole pm__law_whole an__law_whole cd__law_whole ct__law_whole), sl__law_whole⟩)
    (c__law_whole : PySem.W.codeIn K cd__law_whole "_law_whole" = true)
    (k__law_whole : PySem.W.keepIn K (.ref f__law_whole) = true)
    (a__law_told : PySem.W.nsIn K mainGlobals "_law_told" = some (some (.ref f__law_told)))
    (l__law_told : K.lookup f__law_told = some ⟨oc__law_told, od__law_told, .func (PySem.W.fnOf "_law_told" "_law_told" (defArgs s__law_told) (defBody s__law_told) (defScope s__law_told) .none kV__law_told dc__law_told pm__law_told an__law_told cd__law_told ct__law_told), sl__law_told⟩)
    (c__law_told : PySem.W.codeIn K cd__law_told "_law_told" = true)
    (k__law_told : PySem.W.keepIn K (.ref f__law_told) = true)
    (a__law_judged : PySem.W.nsIn K mainGlobals "_law_judged" = some (some (.ref f__law_judged)))
    (l__law_judged : K.lookup f__law_judged = some ⟨oc__law_judged, od__law_judged, .func (PySem.W.fnOf "_law_judged" "_law_judged" (defArgs s__law_judged) (defBody s__law_judged) (defScope s__law_judged) .none kV__law_judged dc__law_judged pm__law_judged an__law_judged cd__law_judged ct__law_judged), sl__law_judged⟩)
    (c__law_judged : PySem.W.codeIn K cd__law_judged "_law_judged" = true)
    (k__law_judged : PySem.W.keepIn K (.ref f__law_judged) = true)
    (a_law : PySem.W.nsIn K mainGlobals "law" = some (some (.ref f_law)))
    (l_law : K.lookup f_law = some ⟨oc_law, od_law, .func (PySem.W.fnOf "law" "law" (defArgs s_law) (defBody s_law) (defScope s_law) .none kV_law dc_law pm_law an_law cd_law ct_law), sl_law⟩)
    (c_law : PySem.W.codeIn K cd_law "law" = true)
    (k_law : PySem.W.keepIn K (.ref f_law) = true)
    (pg_Basis : PySem.W.plainGet K C_Basis Str.empty = true)
    (hd_Basis : PySem.W.hasDictIn K C_Basis = true)
    (po_Basis : PySem.W.plainOver K C_Basis = true)
    (sa_Basis : PySem.W.findIn K (.ref C_Basis) "__setattr__" = some (some (.builtin "object.__setattr__")))
    (mk_Basis : PySem.W.makesIn K C_Basis = true)
    (kc_Basis : PySem.W.keepIn K (.ref C_Basis) = true)
    (n_Basis_count : PySem.W.findIn K (.ref C_Basis) "count" = some none)
    (n_Basis_width : PySem.W.findIn K (.ref C_Basis) "width" = some none)
    (n_Basis_steps : PySem.W.findIn K (.ref C_Basis) "steps" = some none)
    (z_abs : PySem.W.nsIn K mainGlobals "abs" = some none)
    (z_list : PySem.W.nsIn K mainGlobals "list" = some none)
    (z_zip : PySem.W.nsIn K mainGlobals "zip" = some none)
    (z_sum : PySem.W.nsIn K mainGlobals "sum" = some none)
    (z_range : PySem.W.nsIn K mainGlobals "range" = some none)
    (z_int : PySem.W.nsIn K mainGlobals "int" = some none)
    (z_len : PySem.W.nsIn K mainGlobals "len" = some none)
    (z_enumerate : PySem.W.nsIn K mainGlobals "enumerate" = some none)
    (z_tuple : PySem.W.nsIn K mainGlobals "tuple" = some none)
    (z_all : PySem.W.nsIn K mainGlobals "all" = some none)
    (z_isinstance : PySem.W.nsIn K mainGlobals "isinstance" = some none)
    (z_bool : PySem.W.nsIn K mainGlobals "bool" = some none)
    (z_str : PySem.W.nsIn K mainGlobals "str" = some none)
    (z_repr : PySem.W.nsIn K mainGlobals "repr" = some none)
    : ∃ fd : FuncData, (∀ (s : Shared) (v : Value), BindsTo s fd ⟨[v], []⟩ [("script", v)]) ∧ ∀ base : Heap, K.In base → base.Ns mainGlobals mg → base.NoSeer → FnG P w K mg base CX0 49 fa fd ["script"] (spD K mg 1 F_law) := by
  have e := hfa.symm.trans (PySem.W.mg_of X G a_law)
  cases e
  have F_divisor_of := fun_mk (st := s_divisor_of) l_divisor_of c_divisor_of k_divisor_of
  have b_divisor_of := F_divisor_of.binds (ps := ["a", "b"]) fun _ _ _ _ _ _ us hl => match us, hl with | [_, _], _ => rfl
  have F_shortened := fun_mk (st := s_shortened) l_shortened c_shortened k_shortened
  have b_shortened := F_shortened.binds (ps := ["numbers"]) fun _ _ _ _ _ _ us hl => match us, hl with | [_], _ => rfl
  have F_product := fun_mk (st := s_product) l_product c_product k_product
  have b_product := F_product.binds (ps := ["row", "other"]) fun _ _ _ _ _ _ us hl => match us, hl with | [_, _], _ => rfl
  have F_Basis___init__ := fun_mk (st := s_Basis___init__) l_Basis___init__ c_Basis___init__ k_Basis___init__
  have b_Basis___init__ := F_Basis___init__.binds (ps := ["self", "count", "width"]) fun _ _ _ _ _ _ us hl => match us, hl with | [_, _, _], _ => rfl
  have F_Basis_taken := fun_mk (st := s_Basis_taken) l_Basis_taken c_Basis_taken k_Basis_taken
  have b_Basis_taken := F_Basis_taken.binds (ps := ["self", "row", "weights"]) fun _ _ _ _ _ _ us hl => match us, hl with | [_, _, _], _ => rfl
  have F_Basis_add := fun_mk (st := s_Basis_add) l_Basis_add c_Basis_add k_Basis_add
  have b_Basis_add := F_Basis_add.binds (ps := ["self", "at", "row"]) fun _ _ _ _ _ _ us hl => match us, hl with | [_, _, _], _ => rfl
  have F_Basis_shift := fun_mk (st := s_Basis_shift) l_Basis_shift c_Basis_shift k_Basis_shift
  have b_Basis_shift := F_Basis_shift.binds (ps := ["self", "place"]) fun _ _ _ _ _ _ us hl => match us, hl with | [_, _], _ => rfl
  have F_basis_of := fun_mk (st := s_basis_of) l_basis_of c_basis_of k_basis_of
  have b_basis_of := F_basis_of.binds (ps := ["rows", "width"]) fun _ _ _ _ _ _ us hl => match us, hl with | [_, _], _ => rfl
  have F_independent := fun_mk (st := s_independent) l_independent c_independent k_independent
  have b_independent := F_independent.binds (ps := ["rows"]) fun _ _ _ _ _ _ us hl => match us, hl with | [_], _ => rfl
  have F_weights := fun_mk (st := s_weights) l_weights c_weights k_weights
  have b_weights := F_weights.binds (ps := ["rows", "goal"]) fun _ _ _ _ _ _ us hl => match us, hl with | [_, _], _ => rfl
  have F_weights_right := fun_mk (st := s_weights_right) l_weights_right c_weights_right k_weights_right
  have b_weights_right := F_weights_right.binds (ps := ["rows", "goal", "parts", "divisor"]) fun _ _ _ _ _ _ us hl => match us, hl with | [_, _, _, _], _ => rfl
  have F_shift_right := fun_mk (st := s_shift_right) l_shift_right c_shift_right k_shift_right
  have b_shift_right := F_shift_right.binds (ps := ["rows", "goal", "shift"]) fun _ _ _ _ _ _ us hl => match us, hl with | [_, _, _], _ => rfl
  have F__law_state := fun_mk (st := s__law_state) l__law_state c__law_state k__law_state
  have b__law_state := F__law_state.binds (ps := ["script"]) fun _ _ _ _ _ _ us hl => match us, hl with | [_], _ => rfl
  have F__law_draw := fun_mk (st := s__law_draw) l__law_draw c__law_draw k__law_draw
  have b__law_draw := F__law_draw.binds (ps := ["state", "many"]) fun _ _ _ _ _ _ us hl => match us, hl with | [_, _], _ => rfl
  have F__law_pick := fun_mk (st := s__law_pick) l__law_pick c__law_pick k__law_pick
  have b__law_pick := F__law_pick.binds (ps := ["state", "row"]) fun _ _ _ _ _ _ us hl => match us, hl with | [_, _], _ => rfl
  have F__law_same := fun_mk (st := s__law_same) l__law_same c__law_same k__law_same
  have b__law_same := F__law_same.binds (ps := ["actual", "expected"]) fun _ _ _ _ _ _ us hl => match us, hl with | [_, _], _ => rfl
  have F__law_number := fun_mk (st := s__law_number) l__law_number c__law_number k__law_number
  have b__law_number := F__law_number.binds (ps := ["state", "great"]) fun _ _ _ _ _ _ us hl => match us, hl with | [_, _], _ => rfl
  have F__law_mixed := fun_mk (st := s__law_mixed) l__law_mixed c__law_mixed k__law_mixed
  have b__law_mixed := F__law_mixed.binds (ps := ["rows", "parts", "width"]) fun _ _ _ _ _ _ us hl => match us, hl with | [_, _, _], _ => rfl
  have F__law_rows := fun_mk (st := s__law_rows) l__law_rows c__law_rows k__law_rows
  have b__law_rows := F__law_rows.binds (ps := ["state"]) fun _ _ _ _ _ _ us hl => match us, hl with | [_], _ => rfl
  have F__law_goal := fun_mk (st := s__law_goal) l__law_goal c__law_goal k__law_goal
  have b__law_goal := F__law_goal.binds (ps := ["state", "rows", "width"]) fun _ _ _ _ _ _ us hl => match us, hl with | [_, _, _], _ => rfl
  have F__law_follows := fun_mk (st := s__law_follows) l__law_follows c__law_follows k__law_follows
  have b__law_follows := F__law_follows.binds (ps := ["rows", "goal", "parts", "divisor"]) fun _ _ _ _ _ _ us hl => match us, hl with | [_, _, _, _], _ => rfl
  have F__law_moves := fun_mk (st := s__law_moves) l__law_moves c__law_moves k__law_moves
  have b__law_moves := F__law_moves.binds (ps := ["rows", "goal", "shift"]) fun _ _ _ _ _ _ us hl => match us, hl with | [_, _, _], _ => rfl
  have F__law_whole := fun_mk (st := s__law_whole) l__law_whole c__law_whole k__law_whole
  have b__law_whole := F__law_whole.binds (ps := ["numbers"]) fun _ _ _ _ _ _ us hl => match us, hl with | [_], _ => rfl
  have F__law_told := fun_mk (st := s__law_told) l__law_told c__law_told k__law_told
  have b__law_told := F__law_told.binds (ps := ["rows", "goal"]) fun _ _ _ _ _ _ us hl => match us, hl with | [_, _], _ => rfl
  have F__law_judged := fun_mk (st := s__law_judged) l__law_judged c__law_judged k__law_judged
  have b__law_judged := F__law_judged.binds (ps := ["state", "rows", "goal", "told"]) fun _ _ _ _ _ _ us hl => match us, hl with | [_, _, _, _], _ => rfl
  have F_law := fun_mk (st := s_law) l_law c_law k_law
  have b_law := F_law.binds (ps := ["script"]) fun _ _ _ _ _ _ us hl => match us, hl with | [_], _ => rfl
  exact ⟨_, fun s v => .of_eq rfl, fun base _ _ hs => ok_law (A := ⟨f_divisor_of, _, f_shortened, _, f_product, _, f_Basis___init__, _, f_Basis_taken, _, f_Basis_add, _, f_Basis_shift, _, f_basis_of, _, f_independent, _, f_weights, _, f_weights_right, _, f_shift_right, _, f__law_state, _, f__law_draw, _, f__law_pick, _, f__law_same, _, f__law_number, _, f__law_mixed, _, f__law_rows, _, f__law_goal, _, f__law_follows, _, f__law_moves, _, f__law_whole, _, f__law_told, _, f__law_judged, _, fa, _, C_Basis⟩) ⟨tr, hs, PySem.W.mg_none_of X G z_abs, PySem.W.mg_none_of X G z_list, PySem.W.mg_none_of X G z_zip, PySem.W.mg_none_of X G z_sum, PySem.W.mg_none_of X G z_range, PySem.W.mg_none_of X G z_int, PySem.W.mg_none_of X G z_len, PySem.W.mg_none_of X G z_enumerate, PySem.W.mg_none_of X G z_tuple, PySem.W.mg_none_of X G z_all, PySem.W.mg_none_of X G z_isinstance, PySem.W.mg_none_of X G z_bool, PySem.W.mg_none_of X G z_str, PySem.W.mg_none_of X G z_repr, F_divisor_of, b_divisor_of, PySem.W.mg_of X G a_divisor_of, F_shortened, b_shortened, PySem.W.mg_of X G a_shortened, F_product, b_product, PySem.W.mg_of X G a_product, F_Basis___init__, b_Basis___init__, ⟨mk_Basis, a_Basis___init__, i_Basis___init__, kc_Basis⟩, F_Basis_taken, b_Basis_taken, ⟨a_Basis_taken, i_Basis_taken, k_Basis_taken⟩, F_Basis_add, b_Basis_add, ⟨a_Basis_add, i_Basis_add, k_Basis_add⟩, F_Basis_shift, b_Basis_shift, ⟨a_Basis_shift, i_Basis_shift, k_Basis_shift⟩, F_basis_of, b_basis_of, PySem.W.mg_of X G a_basis_of, F_independent, b_independent, PySem.W.mg_of X G a_independent, F_weights, b_weights, PySem.W.mg_of X G a_weights, F_weights_right, b_weights_right, PySem.W.mg_of X G a_weights_right, F_shift_right, b_shift_right, PySem.W.mg_of X G a_shift_right, F__law_state, b__law_state, PySem.W.mg_of X G a__law_state, F__law_draw, b__law_draw, PySem.W.mg_of X G a__law_draw, F__law_pick, b__law_pick, PySem.W.mg_of X G a__law_pick, F__law_same, b__law_same, PySem.W.mg_of X G a__law_same, F__law_number, b__law_number, PySem.W.mg_of X G a__law_number, F__law_mixed, b__law_mixed, PySem.W.mg_of X G a__law_mixed, F__law_rows, b__law_rows, PySem.W.mg_of X G a__law_rows, F__law_goal, b__law_goal, PySem.W.mg_of X G a__law_goal, F__law_follows, b__law_follows, PySem.W.mg_of X G a__law_follows, F__law_moves, b__law_moves, PySem.W.mg_of X G a__law_moves, F__law_whole, b__law_whole, PySem.W.mg_of X G a__law_whole, F__law_told, b__law_told, PySem.W.mg_of X G a__law_told, F__law_judged, b__law_judged, PySem.W.mg_of X G a__law_judged, F_law, b_law, PySem.W.mg_of X G a_law, PySem.W.mg_of X G aC_Basis, ⟨pg_Basis, hd_Basis, po_Basis, sa_Basis⟩, n_Basis_count, n_Basis_width, n_Basis_steps⟩⟩
end K21
namespace K21
open PySem PySem.Spec PyProof.Rows L2 DL
/-! ### whole numbers, one row at a time -/
abbrev ZL (ns : List Int) : D := .list (ns.map .int)
abbrev ZT (ns : List Int) : D := .tuple (ns.map .int)

theorem while_gcd : ∀ (n : Nat) (a b : Nat) (S : Sto), b < n → sWhileN (qt (tOf (op2 gtD (eVar 1) (eC (.int 0))) boolD)) b_divisor_of_1 n [.val (.int a), .val (.int b)] S
    = some (.nx [.val (.int (Nat.gcd a b)), .val (.int 0)] S)
  | 0, _, _, _, h => by omega
  | n + 1, a, b, S, h => by
    rw [ap_while1]
    by_cases hb : b = 0
    · subst hb
      simp
    · have hb2 : (b : Int) ≠ 0 := by omega
      have e : (a : Int).fmod (b : Int) = ((a % b : Nat) : Int) := by
        rw [Int.fmod_eq_emod_of_nonneg _ (by omega)]; rfl
      have ih := while_gcd n b (a % b) S (Nat.lt_of_lt_of_le (Nat.mod_lt _ (by omega)) (by omega))
      have hp : (0 : Int) < (b : Int) := by omega
      have g : Nat.gcd a b = Nat.gcd b (a % b) := by rw [Nat.gcd_comm a b, Nat.gcd_rec b a, Nat.gcd_comm]
      rw [g, ← ih]
      rw [b_divisor_of_1]
      have hb3 : 0 < b := by omega
      simp [hb3, ap_modI hb2, e]
theorem divisor_of_ok (a b : Int) (S : Sto) : F_divisor_of [.val (.int a), .val (.int b)] S = some (.dat (.int (Int.gcd a b)), S) := by
  have key := while_gcd (b.natAbs + 1) a.natAbs b.natAbs S (by omega)
  have ha : (if a < 0 then -a else a) = (a.natAbs : Int) := by split <;> omega
  have hb : (if b < 0 then -b else b) = (b.natAbs : Int) := by split <;> omega
  unfold F_divisor_of t_divisor_of
  rw [ap_fnF, ap_sSeq]
  simp only [ap_sPar, ap_xevs1, ap_xevs0, ap_qx, ap_eCall, ap_evs1, ap_evs0, ap_eVar]
  simp [ap_sSeq, ha, hb]
  rw [sWhile_of key]
  simp [Int.gcd]
/-! shortened -/
def gcdL (ns : List Int) : Int := ns.foldl (fun g n => (Int.gcd g n : Int)) 0
def short (ns : List Int) : List Int := if gcdL ns > 1 then ns.map (fun n => n.fdiv (gcdL ns)) else ns
/-- data that may be read -/
def Rd1 (c : Cel) (d : D) : Prop := c = .val d ∨ c = .bor d
theorem Rd1.b {c : Cel} {d : D} {ρ : En} {S : Sto} (h : Rd1 c d) : bVar 0 (c :: ρ) S = some d := by
  rcases h with rfl | rfl <;> rfl
theorem Rd1.x {c : Cel} {ds : List D} {ρ : En} {S : Sto} (h : Rd1 c (.list ds)) : ixBor 0 (c :: ρ) S = some (ds, c :: ρ, S) := by
  rcases h with rfl | rfl <;> rfl
theorem short_loop {c : Cel} {S : Sto} : ∀ (ns : List Int) (g : Int) (x : Cel), ∃ x', sFor (bName 2) b_shortened_1 (ns.map .int) [c, .val (.int g), x] S
    = some (.nx [c, .val (.int (ns.foldl (fun g n => (Int.gcd g n : Int)) g)), x'] S)
  | [], g, x => ⟨x, rfl⟩
  | n :: ns, g, x => by
    obtain ⟨x', ih⟩ := short_loop (c := c) (S := S) ns (Int.gcd g n) (.val (.int n))
    refine ⟨x', ?_⟩
    rw [List.map_cons, ap_sFor1]
    simp only [ap_bName, Option.bind_some]
    rw [show b_shortened_1 (List.set [c, .val (.int g), x] 2 (.val (.int n))) S = some (.nx [c, .val (.int (Int.gcd g n)), .val (.int n)] S) by unfold b_shortened_1; simp [divisor_of_ok]]
    exact ih
theorem shortened_ok {c : Cel} {ns : List Int} {S : Sto} (h : Rd1 c (ZL ns)) (hl : ns.length ≤ sizeLine) : F_shortened [c] S = some (.dat (ZL (short ns)), S) := by
  obtain ⟨x', lp⟩ := short_loop (c := c) (S := S) ns 0 .no
  have lp' : sFor (bName 2) b_shortened_1 (ns.map .int) [c, .val (.int 0), .no] S = some (.nx [c, .val (.int (gcdL ns)), x'] S) := lp
  unfold F_shortened t_shortened
  rw [ap_fnF, ap_sSeq]
  unfold short
  by_cases hg : 1 < gcdL ns
  · have hne : gcdL ns ≠ 0 := by omega
    have hlc : ∀ c', lcQ (bName 2) tYesQ (op2 fdivD (eVar 2) (eVar 1)) [c', .val (.int (gcdL ns)), .no] S (ns.map .int) = some (ns.map fun n => .int (n.fdiv (gcdL ns))) := fun c' =>
      lc_map fun n _ => ⟨_, rfl, by simp [ap_fdivI hne]⟩
    rcases h with rfl | rfl <;> simp [ap_sSeq, lp', hg, ap_yLc, hlc, hl]
  · rcases h with rfl | rfl <;> simp [ap_sSeq, lp', hg]
theorem short_length (ns : List Int) : (short ns).length = ns.length := by
  unfold short
  split
  · rw [List.length_map]
  · rfl
/-! sizes -/
def Bits (n : Nat) (ns : List Int) : Prop := ∀ x ∈ ns, x.natAbs < 2 ^ n
theorem log2_le {x : Int} {n : Nat} (h : x.natAbs < 2 ^ n) : x.natAbs.log2 ≤ n := by
  by_cases h0 : x.natAbs = 0
  · rw [h0]; simp
  · exact Nat.le_of_lt ((Nat.log2_lt h0).mpr h)
theorem mul_ok {a b : Int} {n m : Nat} (ha : a.natAbs < 2 ^ n) (hb : b.natAbs < 2 ^ m) (h : n + m < 100000000) : mulD (.int a) (.int b) = some (.int (a * b)) :=
  ap_mulI (by have := log2_le ha; have := log2_le hb; omega)
/-- the k-th number -/
def nth (l : List Int) (k : Nat) : Int := l.getD k 0
theorem nth_eq {l : List Int} {k : Nat} (h : k < l.length) : nth l k = l[k] := by
  unfold nth
  rw [List.getD_eq_getElem?_getD, List.getElem?_eq_getElem h]
  rfl
theorem Bits.get {n : Nat} {ns : List Int} {k : Nat} (h : Bits n ns) : (nth ns k).natAbs < 2 ^ n := by
  by_cases hk : k < ns.length
  · rw [nth_eq hk]
    exact h _ (List.getElem_mem hk)
  · unfold nth
    rw [List.getD_eq_getElem?_getD, List.getElem?_eq_none (by omega)]
    exact Nat.pow_pos (by omega)
theorem Bits.mono {n m : Nat} {ns : List Int} (h : Bits n ns) (hm : n ≤ m) : Bits m ns := fun x hx => Nat.lt_of_lt_of_le (h x hx) (Nat.pow_le_pow_right (by omega) hm)
theorem Bits.app {n : Nat} {ns ms : List Int} (h : Bits n ns) (h2 : Bits n ms) : Bits n (ns ++ ms) := fun x hx => (List.mem_append.mp hx).elim (h x) (h2 x)
theorem at_getD {ns : List Int} {k : Nat} (h : k < ns.length) : atI (ns.map PyData.int) (k : Int) = some (.int (nth ns k)) := by
  rw [atI_nat' (by simpa using h), nth_eq h]
  simp
/-- a list or a tuple of whole numbers -/
def IsZ (d : D) (ns : List Int) : Prop := d = ZL ns ∨ d = ZT ns
theorem IsZ.seq {d : D} {ns : List Int} (h : IsZ d ns) : seqOf d = some (ns.map .int) := by rcases h with rfl | rfl <;> rfl
theorem IsZ.lst {d : D} {ns : List Int} (h : IsZ d ns) : listC [d] = some (ZL ns) := by rcases h with rfl | rfl <;> rfl
theorem IsZ.ix {d : D} {ns : List Int} (h : IsZ d ns) (z : Int) : ixD d (.int z) = atI (ns.map PyData.int) z := by rcases h with rfl | rfl <;> rfl
theorem IsZ.len {d : D} {ns : List Int} (h : IsZ d ns) : lenD [d] = some (.int ns.length) := by rcases h with rfl | rfl <;> simp
theorem zipD_map (xs ys : List Int) : zipD (xs.map .int) (ys.map .int) = (xs.zip ys).map fun p => .tuple [.int p.1, .int p.2] := by
  unfold zipD
  rw [List.zip_map, List.map_map]
  rfl
def dot (xs ys : List Int) : Int := ((xs.zip ys).map fun p => p.1 * p.2).sum
theorem product_ok {dx dy : D} {xs ys : List Int} {n m : Nat} {S : Sto} (hx : IsZ dx xs) (hy : IsZ dy ys) (bx : Bits n xs) (b_y : Bits m ys) (h : n + m < 100000000) (hl : xs.length ≤ sizeLine) : F_product [.val dx, .val dy] S = some (.dat (.int (dot xs ys)), S) := by
  unfold F_product t_product
  rw [ap_fnF]
  have hlc : lcQ (bTup 2 (bCons (bName 2) (bCons (bName 3) bNil))) tYesQ (op2 mulD (eVar 2) (eVar 3)) [.val dx, .val dy, .no, .no] S ((xs.zip ys).map fun p => .tuple [.int p.1, .int p.2]) = some ((xs.zip ys).map fun p => PyData.int (p.1 * p.2)) :=
    lc_map fun p hp => ⟨_, rfl, by simp [mul_ok (bx _ (List.of_mem_zip hp).1) (b_y _ (List.of_mem_zip hp).2) h]⟩
  have hz : min xs.length ys.length ≤ sizeLine := by omega
  have hs : sumD [.list ((xs.zip ys).map fun p => PyData.int (p.1 * p.2))] = some (.int (dot xs ys)) := by
    rw [show ((xs.zip ys).map fun p => PyData.int (p.1 * p.2)) = ((xs.zip ys).map fun p => p.1 * p.2).map .int by rw [List.map_map]; rfl]
    exact ap_sum
  simp [ap_yLc, hx.seq, hy.seq, zipD_map, hlc, hz, hs]
end K21
namespace K21
open PySem PySem.Spec PyProof.Rows L2 DL
/-! ### the basis: the pure model -/
structure Stp where
  at_ : Nat
  row : List Int
  marks : List Int
def stpD (s : Stp) : D := .tuple [.int s.at_, ZL s.row, ZL s.marks]
def lin (a : Int) (l : List Int) (b : Int) (s : List Int) : List Int := (l.zip s).map fun p => a * p.1 - b * p.2
def red (w : Nat) (lp : List Int × List Int) (s : Stp) : List Int × List Int :=
  if nth lp.1 s.at_ = 0 then lp else
    ((short (lin (nth s.row s.at_) lp.1 (nth lp.1 s.at_) s.row ++ lin (nth s.row s.at_) lp.2 (nth lp.1 s.at_) s.marks)).take w,
     (short (lin (nth s.row s.at_) lp.1 (nth lp.1 s.at_) s.row ++ lin (nth s.row s.at_) lp.2 (nth lp.1 s.at_) s.marks)).drop w)
theorem lin_length {a b : Int} {l s : List Int} {w : Nat} (hl : l.length = w) (hs : s.length = w) : (lin a l b s).length = w := by
  unfold lin
  rw [List.length_map, List.length_zip]
  omega
theorem lin_range {a b : Int} {l s : List Int} {w : Nat} (hl : l.length = w) (hs : s.length = w) : (List.range w).map (fun k => PyData.int (a * nth l k - b * nth s k)) = (lin a l b s).map .int := by
  refine List.ext_getElem (by rw [List.length_map, List.length_map, lin_length hl hs, List.length_range]) fun k h1 h2 => ?_
  rw [List.length_map, List.length_range] at h1
  simp [lin, nth_eq (show k < s.length by omega), nth_eq (show k < l.length by omega)]
theorem red_len {w c : Nat} {l p : List Int} {s : Stp} (hl : l.length = w) (hp : p.length = c) (hr : s.row.length = w) (hm : s.marks.length = c) : (red w (l, p) s).1.length = w ∧ (red w (l, p) s).2.length = c := by
  unfold red
  dsimp only
  split
  · exact ⟨hl, hp⟩
  · simp only [List.length_take, List.length_drop, short_length, List.length_append, lin_length hl hr, lin_length hp hm]
    omega
/-! sizes -/
theorem short_bits {n : Nat} {ns : List Int} (h : Bits n ns) : Bits n (short ns) := by
  unfold short
  split
  · intro x hx
    obtain ⟨y, hy, rfl⟩ := List.mem_map.mp hx
    have h1 : (y.fdiv (gcdL ns)).natAbs ≤ y.natAbs := by
      rw [Int.fdiv_eq_ediv_of_nonneg _ (by omega)]
      exact Int.natAbs_ediv_le_natAbs _ _
    exact Nat.lt_of_le_of_lt h1 (h y hy)
  · exact h
theorem lin_bits {n m : Nat} {a b : Int} {l s : List Int} (ha : a.natAbs < 2 ^ m) (hb : b.natAbs < 2 ^ n) (hl : Bits n l) (hs : Bits m s) : Bits (n + m + 1) (lin a l b s) := by
  intro x hx
  unfold lin at hx
  obtain ⟨⟨u, v⟩, hz, rfl⟩ := List.mem_map.mp hx
  have h1 := hl u (List.of_mem_zip hz).1
  have h2 := hs v (List.of_mem_zip hz).2
  dsimp only
  have e1 : (a * u).natAbs < 2 ^ (n + m) := by
    rw [Int.natAbs_mul, Nat.add_comm, Nat.pow_add]
    exact Nat.mul_lt_mul'' ha h1
  have e2 : (b * v).natAbs < 2 ^ (n + m) := by
    rw [Int.natAbs_mul, Nat.pow_add]
    exact Nat.mul_lt_mul'' hb h2
  have e3 : (a * u - b * v).natAbs ≤ (a * u).natAbs + (b * v).natAbs := by omega
  rw [Nat.pow_succ]
  omega
theorem red_bits {w n : Nat} {l p : List Int} {s : Stp} (hl : Bits n l) (hp : Bits n p) (hr : Bits n s.row) (hm : Bits n s.marks) : Bits (n + n + 1) (red w (l, p) s).1 ∧ Bits (n + n + 1) (red w (l, p) s).2 := by
  unfold red
  dsimp only
  split
  · exact ⟨hl.mono (by omega), hp.mono (by omega)⟩
  · have k := short_bits ((lin_bits (a := nth s.row s.at_) (b := nth l s.at_) hr.get hl.get hl hr).app (lin_bits (a := nth s.row s.at_) (b := nth l s.at_) hr.get hl.get hp hm))
    exact ⟨fun x hx => k x (List.mem_of_mem_take hx), fun x hx => k x (List.mem_of_mem_drop hx)⟩
/-! the basis in the store -/
def BAt (S : Sto) (nb ms c w : Nat) (sts : List Stp) : Prop :=
  S[nb]? = some (.ins "Basis" [("count", .dat (.int c)), ("width", .dat (.int w)), ("steps", .ref ms)]) ∧ S[ms]? = some (.lst (sts.map fun s => .dat (stpD s)))
theorem insOf_of {S : Sto} {nb : Nat} {ρ : En} {fs : List (Str × SV)} {c : Str} (h : S[nb]? = some (.ins c fs)) : insOf c (.ref nb :: ρ) S 0 = some (nb, fs) := by
  unfold insOf
  simp [h]
section
variable {S : Sto} {nb ms c w : Nat} {sts : List Stp} {ρ : En}
theorem BAt.count (h : BAt S nb ms c w sts) : eFld "Basis" 0 "count" (.ref nb :: ρ) S = some (.int c) := by
  unfold eFld fldOf
  rw [insOf_of h.1]
  rfl
theorem BAt.width (h : BAt S nb ms c w sts) : eFld "Basis" 0 "width" (.ref nb :: ρ) S = some (.int w) := by
  unfold eFld fldOf
  rw [insOf_of h.1]
  rfl
theorem BAt.stepsF (h : BAt S nb ms c w sts) : fldOf "Basis" 0 "steps" (.ref nb :: ρ) S = some (.ref ms) := by
  unfold fldOf
  rw [insOf_of h.1]
  rfl
theorem BAt.stoL (h : BAt S nb ms c w sts) : DL.stoL S (.ref ms) = some (sts.map stpD) := by
  unfold DL.stoL
  dsimp only
  rw [h.2]
  dsimp only
  rw [show (sts.map fun s => SV.dat (stpD s)) = (sts.map stpD).map SV.dat by rw [List.map_map]; rfl]
  exact datsOf_map _
end
theorem cut_hi {ds : List D} {w : Nat} : DL.cutD ds none (some (w : Int)) = ds.take w := by
  unfold DL.cutD
  rw [HT.sIx_none, HT.sIx_nat, List.drop_zero, Nat.sub_zero]
  by_cases h : w ≤ ds.length
  · rw [Nat.min_eq_left h]
  · rw [Nat.min_eq_right (by omega), List.take_length, List.take_of_length_le (by omega)]
theorem cut_lo {ds : List D} {w : Nat} : DL.cutD ds (some (w : Int)) none = ds.drop w := by
  unfold DL.cutD
  rw [HT.sIx_none, HT.sIx_nat]
  by_cases h : w ≤ ds.length
  · rw [Nat.min_eq_left h, List.take_of_length_le (by rw [List.length_drop]; omega)]
  · rw [Nat.min_eq_right (by omega), List.drop_of_length_le (Nat.le_refl _), List.drop_of_length_le (by omega)]
    simp
theorem lc_lin {S : Sto} {w n : Nat} {a b : Int} {l s : List Int} {i j x : Nat} {ρ : En} (hl : l.length = w) (hs : s.length = w) (ba : a.natAbs < 2 ^ n) (bb : b.natAbs < 2 ^ n) (bl : Bits n l) (bs : Bits n s) (hn : n + n < 100000000)
    (h1 : ∀ k : Nat, eVar 8 (ρ.set x (.val (.int (k : Int)))) S = some (.int a)) (h2 : ∀ k : Nat, eVar 9 (ρ.set x (.val (.int (k : Int)))) S = some (.int b)) (h3 : ∀ k : Nat, eVar i (ρ.set x (.val (.int (k : Int)))) S = some (ZL l))
    (h4 : ∀ k : Nat, eVar j (ρ.set x (.val (.int (k : Int)))) S = some (ZL s)) (h5 : ∀ k : Nat, eVar x (ρ.set x (.val (.int (k : Int)))) S = some (.int (k : Int))) :
    lcQ (bName x) tYesQ (op2 subD (op2 mulD (eVar 8) (op2 ixD (eVar i) (eVar x))) (op2 mulD (eVar 9) (op2 ixD (eVar j) (eVar x)))) ρ S ((List.range w).map fun k : Nat => PyData.int (k : Int)) = some ((lin a l b s).map .int) := by
  rw [← lin_range hl hs]
  refine lc_map fun k hk => ⟨_, rfl, ?_⟩
  have hk := List.mem_range.mp hk
  have i1 : atI (l.map PyData.int) (k : Int) = some (.int (nth l k)) := at_getD (by omega)
  have i2 : atI (s.map PyData.int) (k : Int) = some (.int (nth s k)) := at_getD (by omega)
  simp only [ap_op2, h1, h2, h3, h4, h5, Option.bind_some, ap_ixL, i1, i2, mul_ok ba (bl.get (k := k)) hn, mul_ok bb (bs.get (k := k)) hn, ap_subI]
theorem add_lists {xs ys : List D} (h : xs.length + ys.length ≤ sizeLine) : addD (.list xs) (.list ys) = some (.list (xs ++ ys)) := if_pos h
theorem slice_hi (xs : List Int) (w : Nat) : sliceD (ZL xs) none (some (w : Int)) = some (ZL (xs.take w)) := by
  show some (PyData.list (DL.cutD _ _ _)) = _
  rw [cut_hi, ← List.map_take]
theorem slice_lo (xs : List Int) (w : Nat) : sliceD (ZL xs) (some (w : Int)) none = some (ZL (xs.drop w)) := by
  show some (PyData.list (DL.cutD _ _ _)) = _
  rw [cut_lo, ← List.map_drop]
theorem taken_step {S : Sto} {nb ms c w n : Nat} {sts : List Stp} {l p : List Int} {s : Stp} (h : BAt S nb ms c w sts) (hl : l.length = w) (hp : p.length = c + 1) (hr : s.row.length = w) (hm : s.marks.length = c + 1) (ha : s.at_ < w)
    (bl : Bits n l) (bp : Bits n p) (br : Bits n s.row) (bm : Bits n s.marks) (hn : n + n < 100000000) (hz : w + c + 1 ≤ sizeLine) (c1 c2 c8 c9 c10 c11 c12 : Cel) :
    ∃ c8' c9' c10' c11' c12', b_Basis_taken_1 [.ref nb, c1, c2, .val (ZL l), .val (ZL p), .val (.int s.at_), .val (ZL s.row), .val (ZL s.marks), c8, c9, c10, c11, c12] S
      = some (.nx [.ref nb, c1, c2, .val (ZL (red w (l, p) s).1), .val (ZL (red w (l, p) s).2), .val (.int s.at_), .val (ZL s.row), .val (ZL s.marks), c8', c9', c10', c11', c12'] S) := by
  have g1 : atI (l.map PyData.int) (s.at_ : Int) = some (.int (nth l s.at_)) := at_getD (by omega)
  have g2 : atI (s.row.map PyData.int) (s.at_ : Int) = some (.int (nth s.row s.at_)) := at_getD (by omega)
  unfold b_Basis_taken_1 red
  dsimp only
  by_cases h0 : nth l s.at_ = 0
  · refine ⟨c8, c9, c10, c11, c12, ?_⟩
    rw [if_pos h0]
    simp [g1, h0]
  · rw [if_neg h0]
    have hsz : sizeLine = 16777216 := sizeLine_eq
    have ba : (nth s.row s.at_).natAbs < 2 ^ n := br.get
    have bb : (nth l s.at_).natAbs < 2 ^ n := bl.get
    generalize nth s.row s.at_ = a at *
    generalize nth l s.at_ = b at *
    have r1 := rangeOf_nat (m := w) (by omega)
    have r2 : rangeOf [.int ((c : Int) + 1)] = some ((List.range (c + 1)).map fun k : Nat => PyData.int (k : Int)) := rangeOf_nat (m := c + 1) (by omega)
    have l1 := lin_length (a := a) (b := b) hl hr
    have l2 := lin_length (a := a) (b := b) hp hm
    have z1 : (lin a l b s.row).length ≤ sizeLine := by omega
    have z2 : (lin a p b s.marks).length ≤ sizeLine := by omega
    have z3 : ((lin a l b s.row).map PyData.int).length + ((lin a p b s.marks).map PyData.int).length ≤ sizeLine := by rw [List.length_map, List.length_map]; omega
    have sh := shortened_ok (c := .val (ZL (lin a l b s.row ++ lin a p b s.marks))) (S := []) (.inl rfl) (by rw [List.length_append]; omega)
    rw [ZL, List.map_append] at sh
    have lc1 := fun c1 c2 d10 d12 => lc_lin (S := S) (i := 3) (j := 6) (x := 11) (ρ := [.ref nb, c1, c2, .val (ZL l), .val (ZL p), .val (.int s.at_), .val (ZL s.row), .val (ZL s.marks), .val (.int a), .val (.int b), d10, .no, d12]) hl hr ba bb bl br hn (fun _ => rfl) (fun _ => rfl) (fun _ => rfl) (fun _ => rfl) (fun _ => rfl)
    have lc2 := fun c1 c2 d10 d12 => lc_lin (S := S) (i := 4) (j := 7) (x := 11) (ρ := [.ref nb, c1, c2, .val (ZL l), .val (ZL p), .val (.int s.at_), .val (ZL s.row), .val (ZL s.marks), .val (.int a), .val (.int b), d10, .no, d12]) hp hm ba bb bp bm hn (fun _ => rfl) (fun _ => rfl) (fun _ => rfl) (fun _ => rfl) (fun _ => rfl)
    refine ⟨.val (.int a), .val (.int b), .val (ZL (short (lin a l b s.row ++ lin a p b s.marks))), c11, .val (ZL (lin a p b s.marks)), ?_⟩
    have ix5 : ∀ {ρ : En} {j : Nat} {xs : List Int} {v : Int}, eVar j ρ S = some (ZL xs) → eVar 5 ρ S = some (.int s.at_) → atI (xs.map PyData.int) (s.at_ : Int) = some (.int v) → op2 ixD (eVar j) (eVar 5) ρ S = some (.int v) := fun h1 h2 h3 => op2_s h1 h2 h3
    refine if_t (qt_s (tOf_s (op2_s (ix5 rfl rfl g1) rfl (ap_neI)) (by simp [h0]))) ?_
    refine seq_s (asg_s (qx_s (tup_s (evs1_s (ix5 rfl rfl g2) (evs1_s (ix5 rfl rfl g1) rfl)))) rfl) ?_
    refine seq_s (valF_s (qy_s (lc_s (range1_s h.width (by omega)) (lc1 _ _ _ _) (by rw [List.length_map]; exact z1)))) ?_
    refine seq_s (valF_s (qy_s (lc_s (range_s (evs1_s (op2_s h.count rfl ap_addI) rfl) r2) (lc2 _ _ _ _) (by rw [List.length_map]; exact z2)))) ?_
    refine seq_s (set_s (qx_s (callF_s (evm1_s (op2_s rfl rfl (add_lists z3)) rfl) sh))) ?_
    exact asg_s (qx_s (tup_s (evs1_s (slice_s rfl rfl (oSome_s h.width) (slice_hi _ _)) (evs1_s (slice_s rfl (oSome_s h.width) rfl (slice_lo _ _)) rfl)))) rfl
end K21
namespace K21
open PySem PySem.Spec PyProof.Rows L2 DL
/-! ### taken, add -/
def bt (n : Nat) : Nat → Nat
  | 0 => n
  | i + 1 => bt n i + bt n i + 1
theorem bt_mono {n : Nat} : ∀ {i j : Nat}, i ≤ j → bt n i ≤ bt n j
  | i, 0, h => by have : i = 0 := by omega
                  subst this; exact Nat.le_refl _
  | i, j + 1, h => by
    by_cases hi : i = j + 1
    · subst hi; exact Nat.le_refl _
    · have := bt_mono (n := n) (show i ≤ j by omega)
      show bt n i ≤ bt n j + bt n j + 1
      omega
def SOkS (n w c : Nat) (sts : List Stp) : Prop := ∀ i s, sts[i]? = some s → s.row.length = w ∧ s.marks.length = c + 1 ∧ s.at_ < w ∧ Bits (bt n i) s.row ∧ Bits (bt n i) s.marks
def takeAll (w : Nat) (sts : List Stp) (l p : List Int) : List Int × List Int := sts.foldl (red w) (l, p)
theorem taken_loop {S : Sto} {nb ms c w n : Nat} {sts : List Stp} (h : BAt S nb ms c w sts) (ok : SOkS n w c sts) (hn : bt n sts.length < 40000000) (hz : w + c + 1 ≤ sizeLine) (c1 c2 : Cel) :
    ∀ (suf : List Stp) (i : Nat), sts.drop i = suf → i + suf.length = sts.length → ∀ (l p : List Int), l.length = w → p.length = c + 1 → Bits (bt n i) l → Bits (bt n i) p → ∀ c5 c6 c7 c8 c9 c10 c11 c12 : Cel, ∃ d5 d6 d7 d8 d9 d10 d11 d12,
    sForC ms (S[ms]?) (bTup 3 (bCons (bName 5) (bCons (bName 6) (bCons (bName 7) bNil)))) b_Basis_taken_1 (suf.map stpD) [.ref nb, c1, c2, .val (ZL l), .val (ZL p), c5, c6, c7, c8, c9, c10, c11, c12] S
      = some (.nx [.ref nb, c1, c2, .val (ZL (takeAll w suf l p).1), .val (ZL (takeAll w suf l p).2), d5, d6, d7, d8, d9, d10, d11, d12] S)
      ∧ (takeAll w suf l p).1.length = w ∧ (takeAll w suf l p).2.length = c + 1 ∧ Bits (bt n sts.length) (takeAll w suf l p).1 ∧ Bits (bt n sts.length) (takeAll w suf l p).2
  | [], i, hs, hi, l, p, hl, hp, bl, bp, c5, c6, c7, c8, c9, c10, c11, c12 => by
    have hi' : i = sts.length := by simpa using hi
    subst hi'
    exact ⟨c5, c6, c7, c8, c9, c10, c11, c12, forC_0 rfl, hl, hp, bl, bp⟩
  | s :: suf, i, hs, hi, l, p, hl, hp, bl, bp, c5, c6, c7, c8, c9, c10, c11, c12 => by
    have hlt : i < sts.length := by rw [List.length_cons] at hi; omega
    rw [List.drop_eq_getElem_cons hlt] at hs
    obtain ⟨e1, e2⟩ := List.cons.inj hs
    have es : sts[i]? = some s := by rw [List.getElem?_eq_getElem hlt, e1]
    obtain ⟨h1, h2, h3, h4, h5⟩ := ok i s es
    have hb : bt n i + bt n i < 100000000 := by
      have := bt_mono (n := n) (show i ≤ sts.length by omega)
      omega
    obtain ⟨c8', c9', c10', c11', c12', st⟩ := taken_step (n := bt n i) h hl hp h1 h2 h3 bl bp h4 h5 hb hz c1 c2 c8 c9 c10 c11 c12
    obtain ⟨r1, r2⟩ := red_len hl hp h1 h2
    obtain ⟨b1, b2⟩ := red_bits (w := w) bl bp h4 h5
    obtain ⟨d5, d6, d7, d8, d9, d10, d11, d12, lp, rest⟩ := taken_loop h ok hn hz c1 c2 suf (i + 1) e2 (by rw [List.length_cons] at hi; omega) _ _ r1 r2 b1 b2 (.val (.int s.at_)) (.val (ZL s.row)) (.val (ZL s.marks)) c8' c9' c10' c11' c12'
    exact ⟨d5, d6, d7, d8, d9, d10, d11, d12, forC_1 rfl rfl st lp, rest⟩
theorem taken_ok {S : Sto} {nb ms c w n : Nat} {sts : List Stp} {dr dw : D} {row wts : List Int} (h : BAt S nb ms c w sts) (ok : SOkS n w c sts) (hn : bt n sts.length < 40000000) (hz : w + c + 1 ≤ sizeLine) (hr : IsZ dr row) (hw : IsZ dw wts) (lr : row.length = w) (lw : wts.length = c + 1) (br : Bits n row) (bw : Bits n wts) :
    F_Basis_taken [.ref nb, .val dr, .val dw] S = some (.dat (.tuple [ZL (takeAll w sts row wts).1, ZL (takeAll w sts row wts).2]), S)
    ∧ (takeAll w sts row wts).1.length = w ∧ (takeAll w sts row wts).2.length = c + 1 ∧ Bits (bt n sts.length) (takeAll w sts row wts).1 ∧ Bits (bt n sts.length) (takeAll w sts row wts).2 := by
  obtain ⟨d5, d6, d7, d8, d9, d10, d11, d12, lp, rest⟩ := taken_loop h ok hn hz (.val dr) (.val dw) sts 0 rfl (by omega) row wts lr lw br bw .no .no .no .no .no .no .no .no
  refine ⟨fnF_s ?_, rest⟩
  unfold t_Basis_taken
  refine seq_s (asg_s (qx_s (tup_s (evs1_s (call1_s rfl hr.lst) (evs1_s (call1_s rfl hw.lst) rfl)))) rfl) ?_
  refine seq_s (forFld_s h.stepsF h.stoL lp) ?_
  exact ret_s (qx_s (tup_s (evs1_s rfl (evs1_s rfl rfl))))
/-! add -/
def unitV (c at_ : Nat) : List Int := (List.range c).map fun k => if k = at_ then 1 else 0
theorem unit_lc {S : Sto} {ρ : En} {c at_ i x : Nat} (h1 : ∀ k : Nat, eVar x (ρ.set x (.val (.int (k : Int)))) S = some (.int (k : Int))) (h2 : ∀ k : Nat, eVar i (ρ.set x (.val (.int (k : Int)))) S = some (.int (at_ : Int))) :
    lcQ (bName x) tYesQ (eCall intD1 [(op2 eqD (eVar x) (eVar i))]) ρ S ((List.range c).map fun k : Nat => PyData.int (k : Int)) = some ((unitV c at_).map .int) := by
  unfold unitV
  rw [List.map_map]
  refine lc_map fun k _ => ⟨_, rfl, call1_s (op2_s (h1 k) (h2 k) ap_eqI) ?_⟩
  rw [ap_intB]
  by_cases hk : k = at_
  · subst hk; simp
  · have : ¬ (k : Int) = at_ := by omega
    simp [hk, this]
theorem unit_length {c a : Nat} : (unitV c a).length = c := by unfold unitV; simp
theorem unit_bits {c a n : Nat} (hn : 1 ≤ n) : Bits n (unitV c a) := fun x hx => by
  unfold unitV at hx
  obtain ⟨k, _, rfl⟩ := List.mem_map.mp hx
  have : 2 ^ 1 ≤ 2 ^ n := Nat.pow_le_pow_right (by omega) hn
  split <;> simp <;> omega
def placesP (w : Nat) (l : List Int) : List Nat := (List.range w).filter fun k => !(nth l k == 0)
theorem places_lc {S : Sto} {ρ : En} {w i x : Nat} {l : List Int} (hl : l.length = w) (h1 : ∀ k : Nat, eVar x (ρ.set x (.val (.int (k : Int)))) S = some (.int (k : Int))) (h2 : ∀ k : Nat, eVar i (ρ.set x (.val (.int (k : Int)))) S = some (ZL l)) :
    lcQ (bName x) (tOf (op2 neD (op2 ixD (eVar i) (eVar x)) (eC (.int 0))) boolD) (eVar x) ρ S ((List.range w).map fun k : Nat => PyData.int (k : Int)) = some ((placesP w l).map fun k : Nat => PyData.int (k : Int)) := by
  unfold placesP
  refine lc_filter fun k hk => ⟨_, rfl, ?_, fun _ => h1 k⟩
  have hk := List.mem_range.mp hk
  exact tOf_s (op2_s (op2_s (h2 k) (h1 k) (at_getD (by omega))) rfl ap_neI) rfl
theorem places_len {w : Nat} {l : List Int} : (placesP w l).length ≤ w := by
  have := List.length_filter_le (fun k => !(nth l k == 0)) (List.range w)
  rw [List.length_range] at this
  exact this
def addP (w c : Nat) (sts : List Stp) (at_ : Nat) (row : List Int) : List Stp :=
  match placesP w (takeAll w sts row (unitV (c + 1) at_)).1 with
  | [] => []
  | k :: _ => [⟨k, (takeAll w sts row (unitV (c + 1) at_)).1, (takeAll w sts row (unitV (c + 1) at_)).2⟩]
end K21
namespace K21
open PySem PySem.Spec PyProof.Rows L2 DL
theorem BAt.ne {S : Sto} {nb ms c w : Nat} {sts : List Stp} (h : BAt S nb ms c w sts) : nb ≠ ms := fun e => by
  have h1 := h.1
  rw [e, h.2] at h1
  cases h1
theorem BAt.grow {S : Sto} {nb ms c w : Nat} {sts : List Stp} (h : BAt S nb ms c w sts) (s : Stp) : BAt (S.set ms (.lst ((sts.map fun s => SV.dat (stpD s)) ++ [.dat (stpD s)]))) nb ms c w (sts ++ [s]) := by
  have hl : ms < S.length := (List.getElem?_eq_some_iff.mp h.2).1
  refine ⟨by rw [List.getElem?_set_ne (Ne.symm h.ne)]; exact h.1, ?_⟩
  rw [List.getElem?_set_self hl, List.map_append]
  rfl
theorem SOkS.app {n w c : Nat} {sts : List Stp} {s : Stp} (h : SOkS n w c sts) (h2 : s.row.length = w ∧ s.marks.length = c + 1 ∧ s.at_ < w ∧ Bits (bt n sts.length) s.row ∧ Bits (bt n sts.length) s.marks) : SOkS n w c (sts ++ [s]) := fun i t e => by
  by_cases hi : i < sts.length
  · rw [List.getElem?_append_left hi] at e
    exact h i t e
  · rw [List.getElem?_append_right (by omega)] at e
    have : i - sts.length = 0 := by
      by_cases hz : i - sts.length = 0
      · exact hz
      · rw [List.getElem?_eq_none (by simp; omega)] at e; cases e
    rw [this] at e
    cases e
    have : i = sts.length := by omega
    subst this
    exact h2
theorem add_ok {S : Sto} {nb ms c w n at_ : Nat} {sts : List Stp} {dr : D} {row : List Int} (h : BAt S nb ms c w sts) (ok : SOkS n w c sts) (hn : bt n sts.length < 40000000) (h1 : 1 ≤ n) (hz : w + c + 1 ≤ sizeLine) (hst : sts.length < 1000) (hr : IsZ dr row) (lr : row.length = w) (br : Bits n row) :
    ∃ S', F_Basis_add [.ref nb, .val (.int (at_ : Int)), .val dr] S = some (.dat (.bool (!(addP w c sts at_ row).isEmpty)), S') ∧ BAt S' nb ms c w (sts ++ addP w c sts at_ row) ∧ SOkS n w c (sts ++ addP w c sts at_ row) := by
  have hsz : sizeLine = 16777216 := sizeLine_eq
  have ul := unit_length (c := c + 1) (a := at_)
  obtain ⟨tk, l1, l2, b1, b2⟩ := taken_ok h ok hn hz hr (.inl rfl) lr ul br (unit_bits h1)
  have tk' := tk
  unfold addP
  generalize eT : takeAll w sts row (unitV (c + 1) at_) = T at *
  have st1 : ∀ c5 c6, sAsg (xMeth "Basis" 0 "taken" F_Basis_taken [.ev (qx (eVar 2)), .ev (qx (eLc (iRange [(op2 addD (eFld "Basis" 0 "count") (eC (.int 1)))]) (bName 5) [5] tYesQ (eCall intD1 [(op2 eqD (eVar 5) (eVar 1))])))]) (bTup 2 (bCons (bName 3) (bCons (bName 4) bNil)))
      [.ref nb, .val (.int (at_ : Int)), .val dr, .no, .no, c5, c6] S = some (.nx [.ref nb, .val (.int (at_ : Int)), .val dr, .val (ZL T.1), .val (ZL T.2), c5, c6] S) := fun c5 c6 =>
    asg_s (meth_s (insOf_of h.1) rfl (eva_s (qx_s rfl) (eva_s (qx_s (elc_s (lc_s (range_s (evs1_s (op2_s h.count rfl ap_addI) rfl) (rangeOf_nat (m := c + 1) (by omega))) (unit_lc (fun _ => rfl) (fun _ => rfl)) (by rw [List.length_map, unit_length]; omega)))) rfl)) rfl tk') rfl
  have st2 : ∀ c5 c6, sValF 6 (qy (yLc (iRange [(eFld "Basis" 0 "width")]) (bName 5) [5] (tOf (op2 neD (op2 ixD (eVar 3) (eVar 5)) (eC (.int 0))) boolD) (eVar 5))) [.ref nb, .val (.int (at_ : Int)), .val dr, .val (ZL T.1), .val (ZL T.2), c5, c6] S
      = some (.nx [.ref nb, .val (.int (at_ : Int)), .val dr, .val (ZL T.1), .val (ZL T.2), c5, .val (.list ((placesP w T.1).map fun k : Nat => PyData.int (k : Int)))] S) := fun c5 c6 =>
    valF_s (qy_s (lc_s (range1_s h.width (by omega)) (places_lc l1 (fun _ => rfl) (fun _ => rfl)) (by rw [List.length_map]; have := places_len (w := w) (l := T.1); omega)))
  cases hp : placesP w T.1 with
  | nil =>
    refine ⟨S, ?_, by rw [List.append_nil]; exact h, by rw [List.append_nil]; exact ok⟩
    refine fnF_s ?_
    unfold t_Basis_add
    refine seq_s (st1 _ _) (seq_s (st2 _ _) ?_)
    rw [hp]
    exact seq_rt (if_t (qt_s (tOf_s (op2_s (call1_s rfl ap_lenL) rfl ap_eqI) rfl)) (ret_s (qx_s rfl)))
  | cons k ks =>
    have hk : k < w := by
      have := List.mem_filter.mp (show k ∈ placesP w T.1 by rw [hp]; exact List.mem_cons_self)
      exact List.mem_range.mp this.1
    refine ⟨_, ?_, h.grow ⟨k, T.1, T.2⟩, ok.app ⟨l1, l2, hk, b1, b2⟩⟩
    refine fnF_s ?_
    unfold t_Basis_add
    refine seq_s (st1 _ _) (seq_s (st2 _ _) ?_)
    rw [hp]
    refine seq_s (if_f (ρ1 := [.ref nb, .val (.int (at_ : Int)), .val dr, .val (ZL T.1), .val (ZL T.2), .no, .val (.list ((k :: ks).map fun k : Nat => PyData.int (k : Int)))]) (S1 := S) (qt_s (tOf_s (op2_s (call1_s rfl ap_lenL) rfl ap_eqI) ?_)) rfl) ?_
    · show some _ = some false
      congr 1
    have ix0 : ixD (.list ((k :: ks).map fun k : Nat => PyData.int (k : Int))) (.int 0) = some (.int (k : Int)) := by
      rw [ap_ixL]
      exact atI_nat' (m := 0) (by simp)
    refine seq_s (expr_s (appS_s h.stepsF h.2 (qx_s (tup_s (evs1_s (op2_s rfl rfl ix0) (evs1_s rfl (evs1_s rfl rfl))))) h.2 (by rw [List.length_map]; omega))) ?_
    exact ret_s (qx_s rfl)
end K21
namespace K21
open PySem PySem.Spec PyProof.Rows L2 DL
theorem ixOf_s {fx : XF} {ρ ρ1 : En} {S S1 : Sto} {d : D} {ds : List D} (h : fx ρ S = some (.dat d, ρ1, S1)) (h2 : itemsD d = some ds) : ixOf fx ρ S = some (ds, ρ1, S1) := by
  show (fx ρ S).bind _ = _
  rw [h]
  show (itemsD d).map _ = _
  rw [h2]
  rfl
/-! ### shift -/
def restP (w at_ : Nat) (s f : List Int) : Int := (((List.range w).filter fun k : Nat => !((k : Int) == (at_ : Int))).map fun k => nth s k * nth f k).sum
def shP (w : Nat) (f : List Int) (s : Stp) : List Int := short ((f.map (nth s.row s.at_ * ·)).set s.at_ (-(restP w s.at_ s.row f)))
def shiftAll (w : Nat) (sts : List Stp) (place : Nat) : List Int := sts.reverse.foldl (shP w) (unitV w place)
theorem sum_bits {α : Type} {g : α → Int} {b : Nat} : ∀ {xs : List α}, (∀ x ∈ xs, (g x).natAbs < 2 ^ b) → ((xs.map g).sum).natAbs ≤ xs.length * 2 ^ b
  | [], _ => by simp
  | x :: xs, h => by
    have h1 := h x List.mem_cons_self
    have h2 := sum_bits fun y hy => h y (List.mem_cons_of_mem _ hy)
    rw [List.map_cons, List.sum_cons, List.length_cons, Nat.succ_mul]
    omega
theorem mul_bits {a b : Int} {n m : Nat} (ha : a.natAbs < 2 ^ n) (hb : b.natAbs < 2 ^ m) : (a * b).natAbs < 2 ^ (n + m) := by
  rw [Int.natAbs_mul, Nat.pow_add]
  exact Nat.mul_lt_mul'' ha hb
theorem shP_len {w : Nat} {f : List Int} {s : Stp} (hf : f.length = w) : (shP w f s).length = w := by
  unfold shP
  rw [short_length, List.length_set, List.length_map, hf]
theorem rest_bits {w at_ n m : Nat} {s f : List Int} (hw : w ≤ 16) (hs : Bits m s) (hf : Bits n f) : (restP w at_ s f).natAbs < 2 ^ (n + m + 5) := by
  unfold restP
  have h := sum_bits (g := fun k => nth s k * nth f k) (b := m + n) (xs := (List.range w).filter fun k : Nat => !((k : Int) == (at_ : Int))) fun k _ => mul_bits hs.get hf.get
  have hl := List.length_filter_le (fun k : Nat => !((k : Int) == (at_ : Int))) (List.range w)
  rw [List.length_range] at hl
  have h2 : ((List.range w).filter fun k : Nat => !((k : Int) == (at_ : Int))).length * 2 ^ (m + n) ≤ 16 * 2 ^ (m + n) := Nat.mul_le_mul_right _ (by omega)
  have e : 2 ^ (n + m + 5) = 32 * 2 ^ (m + n) := by rw [Nat.pow_add, Nat.add_comm n m, Nat.mul_comm]
  have hp : 0 < 2 ^ (m + n) := Nat.pow_pos (by omega)
  rw [e]
  omega
theorem shP_bits {w n m : Nat} {f : List Int} {s : Stp} (hw : w ≤ 16) (hf : Bits n f) (hs : Bits m s.row) : Bits (n + m + 5) (shP w f s) := by
  unfold shP
  refine short_bits fun x hx => ?_
  rcases List.mem_or_eq_of_mem_set hx with h | h
  · obtain ⟨y, hy, rfl⟩ := List.mem_map.mp h
    have h1 := mul_bits (hs.get (k := s.at_)) (hf y hy)
    have h2 : 2 ^ (m + n) ≤ 2 ^ (n + m + 5) := Nat.pow_le_pow_right (by omega) (by omega)
    omega
  · subst h
    rw [Int.natAbs_neg]
    exact rest_bits hw hs hf
def Rd2 (c : Cel) (d : D) : Prop := c = .val d ∨ c = .own d
theorem shift_step {S : Sto} {nb ms c w n m : Nat} {sts : List Stp} {f : List Int} {s : Stp} {cf c1 c3 c6 c7 c8 : Cel} (h : BAt S nb ms c w sts) (hf : f.length = w) (hr : s.row.length = w) (ha : s.at_ < w) (bf : Bits n f) (bs : Bits m s.row) (hn : m + n < 100000000) (hw : w ≤ 16) (hc : Rd2 cf (ZL f)) :
    ∃ c3' c7' c8', b_Basis_shift_1 [.ref nb, c1, cf, c3, .val (.int (s.at_ : Int)), .val (ZL s.row), c6, c7, c8] S = some (.nx [.ref nb, c1, .val (ZL (shP w f s)), c3', .val (.int (s.at_ : Int)), .val (ZL s.row), c6, c7', c8'] S) := by
  have hsz : sizeLine = 16777216 := sizeLine_eq
  have bv : ∀ {ρ : En}, bVar 2 (.ref nb :: c1 :: cf :: ρ) S = some (ZL f) := fun {ρ} => by rcases hc with rfl | rfl <;> rfl
  have bl : ∀ {ρ : En}, bVar 2 (.ref nb :: lendC c1 :: lendC cf :: ρ) S = some (ZL f) := fun {ρ} => by rcases hc with rfl | rfl <;> rfl
  have g2 : atI (s.row.map PyData.int) (s.at_ : Int) = some (.int (nth s.row s.at_)) := at_getD (by omega)
  have lc1 : ∀ c7 c8, lcQ (bName 3) (tOf (op2 neD (eVar 3) (eVar 4)) boolD) (op2 mulD (op2 ixD (eVar 5) (eVar 3)) (op2 ixD (bVar 2) (eVar 3))) [.ref nb, lendC c1, lendC cf, .no, .val (.int (s.at_ : Int)), .val (ZL s.row), lendC c6, c7, c8] S
      ((List.range w).map fun k : Nat => PyData.int (k : Int)) = some ((((List.range w).filter fun k : Nat => !((k : Int) == (s.at_ : Int))).map fun k => nth s.row k * nth f k).map .int) := fun c7 c8 => by
    rw [List.map_map]
    refine lc_filter fun k hk => ⟨_, rfl, tOf_s (op2_s rfl rfl ap_neI) rfl, fun _ => ?_⟩
    have hk := List.mem_range.mp hk
    exact op2_s (op2_s rfl rfl (at_getD (ns := s.row) (by omega))) (op2_s (a := ZL f) bl rfl (at_getD (ns := f) (by omega))) (mul_ok bs.get bf.get hn)
  have lc2 : ∀ c3 c7, lcQ (bName 8) tYesQ (op2 mulD (op2 ixD (eVar 5) (eVar 4)) (eVar 8)) [.ref nb, lendC c1, lendC cf, c3, .val (.int (s.at_ : Int)), .val (ZL s.row), lendC c6, c7, .no] S (f.map .int) = some ((f.map (nth s.row s.at_ * ·)).map .int) := fun c3 c7 => by
    rw [List.map_map]
    exact lc_map fun x hx => ⟨_, rfl, op2_s (op2_s rfl rfl g2) rfl (mul_ok bs.get (bf x hx) hn)⟩
  have hfl : ((List.range w).filter fun k : Nat => !((k : Int) == (s.at_ : Int))).length ≤ w := by
    have := List.length_filter_le (fun k : Nat => !((k : Int) == (s.at_ : Int))) (List.range w)
    rw [List.length_range] at this
    exact this
  refine ⟨c3, .val (.int (restP w s.at_ s.row f)), c8, ?_⟩
  unfold b_Basis_shift_1
  refine seq_s (set_s (qx_s (call1_s (elc_s (lc_s (range1_s h.width (by omega)) (lc1 _ _) (by rw [List.length_map, List.length_map]; omega))) ap_sum))) ?_
  refine seq_s (ownF_s (qy_s (lc_s (iOf_s bv rfl) (lc2 _ _) (by rw [List.length_map, List.length_map]; omega)))) ?_
  refine seq_s (ρ' := [.ref nb, c1, .own (ZL ((f.map (nth s.row s.at_ * ·)).set s.at_ (-(restP w s.at_ s.row f)))), c3, .val (.int (s.at_ : Int)), .val (ZL s.row), c6, .val (.int (restP w s.at_ s.row f)), c8]) (S' := S) ?_ ?_
  · have hx : ixN ((f.map (nth s.row s.at_ * ·)).map PyData.int).length (s.at_ : Int) = some s.at_ := by
      unfold ixN
      rw [if_pos (by omega), if_pos (by rw [List.length_map, List.length_map]; omega)]
      simp
    show sSetIx 2 (qx (eVar 4)) (qx (op1 negD (eVar 7))) [.ref nb, c1, .own (ZL (f.map (nth s.row s.at_ * ·))), c3, .val (.int (s.at_ : Int)), .val (ZL s.row), c6, .val (.int (restP w s.at_ s.row f)), c8] S = _
    unfold sSetIx
    rw [qx_s (op1_s rfl ap_negI)]
    show (ixN _ _).map _ = _
    rw [hx]
    show some (Rs.nx _ _) = _
    rw [show (((f.map (nth s.row s.at_ * ·)).map PyData.int).set s.at_ (.int (-(restP w s.at_ s.row f)))) = ((f.map (nth s.row s.at_ * ·)).set s.at_ (-(restP w s.at_ s.row f))).map PyData.int by rw [List.map_set]]
    rfl
  · exact set_s (qx_s (callF_s (evm1_s (d := ZL ((f.map (nth s.row s.at_ * ·)).set s.at_ (-(restP w s.at_ s.row f)))) rfl rfl) (shortened_ok (S := []) (.inr rfl) (by rw [List.length_set, List.length_map]; omega))))
theorem shift_loop {S : Sto} {nb ms c w m : Nat} {sts : List Stp} (h : BAt S nb ms c w sts) (hw : w ≤ 16) (c1 : Cel) : ∀ (rs : List Stp) (n : Nat) (f : List Int) (cf c3 c4 c5 c6 c7 c8 : Cel), (∀ s ∈ rs, s.row.length = w ∧ s.at_ < w ∧ Bits m s.row) → f.length = w → Bits n f → n + rs.length * (m + 5) + m < 100000000 → Rd2 cf (ZL f) →
    ∃ cf' d3 d4 d5 d6 d7 d8, sFor (bTup 3 (bCons (bName 4) (bCons (bName 5) (bCons (bName 6) bNil)))) b_Basis_shift_1 (rs.map stpD) [.ref nb, c1, cf, c3, c4, c5, c6, c7, c8] S = some (.nx [.ref nb, c1, cf', d3, d4, d5, d6, d7, d8] S)
      ∧ Rd2 cf' (ZL (rs.foldl (shP w) f)) ∧ (rs.foldl (shP w) f).length = w ∧ Bits (n + rs.length * (m + 5)) (rs.foldl (shP w) f)
  | [], n, f, cf, c3, c4, c5, c6, c7, c8, hs, hf, bf, hn, hc => ⟨cf, c3, c4, c5, c6, c7, c8, rfl, hc, hf, by simpa using bf⟩
  | s :: rs, n, f, cf, c3, c4, c5, c6, c7, c8, hs, hf, bf, hn, hc => by
    obtain ⟨h1, h2, h3⟩ := hs s List.mem_cons_self
    rw [List.length_cons, Nat.succ_mul] at hn
    obtain ⟨c3', c7', c8', st⟩ := shift_step (c1 := c1) (c3 := c3) (c6 := .val (ZL s.marks)) (c7 := c7) (c8 := c8) h hf h1 h2 bf h3 (by omega) hw hc
    obtain ⟨cf', d3, d4, d5, d6, d7, d8, lp, r1, r2, r3⟩ := shift_loop h hw c1 rs (n + m + 5) (shP w f s) (.val (ZL (shP w f s))) c3' (.val (.int (s.at_ : Int))) (.val (ZL s.row)) (.val (ZL s.marks)) c7' c8' (fun t ht => hs t (List.mem_cons_of_mem _ ht)) (shP_len hf) (shP_bits hw bf h3) (by omega) (.inl rfl)
    refine ⟨cf', d3, d4, d5, d6, d7, d8, for_s rfl st lp, r1, r2, ?_⟩
    rw [List.length_cons, Nat.succ_mul]
    exact r3.mono (by omega)
theorem shift_ok {S : Sto} {nb ms c w m place : Nat} {sts : List Stp} (h : BAt S nb ms c w sts) (hw : w ≤ 16) (hs : ∀ s ∈ sts, s.row.length = w ∧ s.at_ < w ∧ Bits m s.row) (hn : 1 + sts.length * (m + 5) + m < 100000000) :
    F_Basis_shift [.ref nb, .val (.int (place : Int))] S = some (.dat (ZL (shiftAll w sts place)), S) ∧ (shiftAll w sts place).length = w ∧ Bits (1 + sts.length * (m + 5)) (shiftAll w sts place) := by
  have hsz : sizeLine = 16777216 := sizeLine_eq
  obtain ⟨cf', d3, d4, d5, d6, d7, d8, lp, r1, r2, r3⟩ := shift_loop h hw (.val (.int (place : Int))) sts.reverse 1 (unitV w place) (.own (ZL (unitV w place))) .no .no .no .no .no .no (fun s hs' => hs s (List.mem_reverse.mp hs')) unit_length (unit_bits (by omega)) (by rw [List.length_reverse]; exact hn) (.inr rfl)
  rw [List.length_reverse] at r3
  refine ⟨?_, r2, r3⟩
  refine fnF_s ?_
  unfold t_Basis_shift
  refine seq_s (ownF_s (qy_s (lc_s (range1_s h.width (by omega)) (unit_lc (fun _ => rfl) (fun _ => rfl)) (by rw [List.length_map, unit_length]; omega)))) ?_
  have fld : bFld "Basis" 0 "steps" [.ref nb, .val (.int (place : Int)), .own (ZL (unitV w place)), .no, .no, .no, .no, .no, .no] S = some (.list (sts.map stpD)) := by
    unfold bFld
    rw [h.stepsF]
    show (DL.stoL S (.ref ms)).map _ = _
    rw [h.stoL]
    rfl
  refine seq_s (forI_s (ρ1 := [.ref nb, .val (.int (place : Int)), .own (ZL (unitV w place)), .no, .no, .no, .no, .no, .no]) (S1 := S) (ds := (sts.reverse).map stpD) ?_ lp) ?_
  · have e : revD (.list (sts.map stpD)) = some (.list (sts.reverse.map stpD)) := by
      show some (PyData.list _) = _
      rw [List.map_reverse]
    exact ixOf_s (qx_s (op1_s fld e)) rfl
  · rcases r1 with rfl | rfl <;> exact ret_s (qx_s rfl)
end K21
namespace K21
open PySem PySem.Spec PyProof.Rows L2 DL
/-! ### the basis of some rows -/
abbrev RL (rows : List (List Int)) : D := .list (rows.map ZT)
theorem init_ok (c w : Int) : F_Basis___init__ [.ref 0, .val (.int c), .val (.int w)] [.ins "Basis" []] = some (.dat .none, [.ins "Basis" [("count", .dat (.int c)), ("width", .dat (.int w)), ("steps", .ref 1)], .lst []]) := by rfl
def build (w c : Nat) : List Stp → Nat → List (List Int) → List Stp
  | sts, _, [] => sts
  | sts, i, r :: rs => build w c (sts ++ addP w c sts i r) (i + 1) rs
theorem addP_len {w c i : Nat} {sts : List Stp} {r : List Int} : (addP w c sts i r).length ≤ 1 := by
  unfold addP
  split <;> simp
/-- sizes that are small enough -/
structure Small (n w c : Nat) : Prop where
  n1 : 1 ≤ n
  n2 : n ≤ 1000
  w2 : w ≤ 16
  c2 : c ≤ 12
theorem bt_val : ∀ n i, bt n i + 1 = 2 ^ i * (n + 1)
  | n, 0 => by simp [bt]
  | n, i + 1 => by
    have := bt_val n i
    show bt n i + bt n i + 1 + 1 = _
    rw [Nat.pow_succ, Nat.mul_assoc, Nat.mul_comm 2, ← Nat.mul_assoc]
    omega
theorem Small.bt {n w c i : Nat} (h : Small n w c) (hi : i ≤ 12) : K21.bt n i < 5000000 := by
  have h1 := bt_mono (n := n) hi
  have h2 := bt_val n 12
  have := h.n2
  have e : (2 : Nat) ^ 12 = 4096 := by decide
  rw [e] at h2
  omega
theorem Small.z {n w c : Nat} (h : Small n w c) : w + c + 1 ≤ sizeLine := by
  have hsz : sizeLine = 16777216 := sizeLine_eq
  have := h.w2
  have := h.c2
  omega
theorem basis_loop {n w c : Nat} (sm : Small n w c) (c0 c1 : Cel) : ∀ (rs : List (List Int)) (i : Nat) (S : Sto) (sts : List Stp) (c3 c4 : Cel), BAt S 0 1 c w sts → SOkS n w c sts → sts.length ≤ i → i + rs.length ≤ 12 → (∀ r ∈ rs, r.length = w ∧ Bits n r) →
    ∃ S' d3 d4, sFor (bTup 2 (bCons (bName 3) (bCons (bName 4) bNil))) b_basis_of_1 (enumD i (rs.map ZT)) [c0, c1, .ref 0, c3, c4] S = some (.nx [c0, c1, .ref 0, d3, d4] S') ∧ BAt S' 0 1 c w (build w c sts i rs) ∧ SOkS n w c (build w c sts i rs) ∧ (build w c sts i rs).length ≤ i + rs.length
  | [], i, S, sts, c3, c4, h, ok, hl, hi, hr => ⟨S, c3, c4, rfl, h, ok, hl⟩
  | r :: rs, i, S, sts, c3, c4, h, ok, hl, hi, hr => by
    rw [List.length_cons] at hi
    obtain ⟨l1, b1⟩ := hr r List.mem_cons_self
    obtain ⟨S1, e1, h1, ok1⟩ := add_ok (at_ := i) h ok (by have := sm.bt (i := sts.length) (by omega); omega) sm.n1 sm.z (by omega) (.inr rfl : IsZ (ZT r) r) l1 b1
    have hl1 : (sts ++ addP w c sts i r).length ≤ i + 1 := by
      have := addP_len (w := w) (c := c) (i := i) (sts := sts) (r := r)
      rw [List.length_append]
      omega
    obtain ⟨S', d3, d4, lp, h2, ok2, hl2⟩ := basis_loop sm c0 c1 rs (i + 1) S1 (sts ++ addP w c sts i r) (.val (.int (i : Int))) (.val (ZT r)) h1 ok1 hl1 (by omega) fun r' hr' => hr r' (List.mem_cons_of_mem _ hr')
    refine ⟨S', d3, d4, ?_, h2, ok2, by rw [List.length_cons]; show (build w c (sts ++ addP w c sts i r) (i + 1) rs).length ≤ _; omega⟩
    have ins : insOf "Basis" [c0, c1, .ref 0, .val (.int (i : Int)), .val (ZT r)] S 2 = some (0, ([("count", .dat (.int c)), ("width", .dat (.int w)), ("steps", .ref 1)] : List (Str × SV))) := by
      unfold insOf
      simp [h.1]
    exact for_s rfl (expr_s (meth_s ins rfl (eva_s (qx_s rfl) (eva_s (qx_s rfl) rfl)) rfl e1)) lp
theorem basis_of_ok {n w : Nat} {rows : List (List Int)} (sm : Small n w rows.length) (hr : ∀ r ∈ rows, r.length = w ∧ Bits n r) :
    ∃ S', F_basis_of [.val (RL rows), .val (.int (w : Int))] [] = some (.ref 0, S') ∧ BAt S' 0 1 rows.length w (build w rows.length [] 0 rows) ∧ SOkS n w rows.length (build w rows.length [] 0 rows) ∧ (build w rows.length [] 0 rows).length ≤ rows.length := by
  have h0 : BAt [.ins "Basis" [("count", .dat (.int (rows.length : Int))), ("width", .dat (.int (w : Int))), ("steps", .ref 1)], .lst []] 0 1 rows.length w [] := ⟨rfl, rfl⟩
  obtain ⟨S', d3, d4, lp, h2, ok2, hl2⟩ := basis_loop sm (.val (RL rows)) (.val (.int (w : Int))) rows 0 _ [] .no .no h0 (fun i s e => by simp at e) (by simp) (by have := sm.c2; omega) hr
  refine ⟨S', ?_, h2, ok2, by omega⟩
  refine fnF_s ?_
  unfold t_basis_of
  refine seq_s (set_s (make_s (S1 := []) (eva_s (qx_s (call1_s rfl ap_lenL)) (eva_s (qx_s rfl) rfl)) rfl (init_ok ((rows.map ZT).length : Int) w))) ?_
  rw [List.length_map]
  refine seq_s (forI_s (ρ1 := [.val (RL rows), .val (.int (w : Int)), .ref 0, .no, .no]) (ds := enumD 0 (rows.map ZT)) rfl lp) ?_
  exact ret_s rfl
end K21
namespace K21
open PySem PySem.Spec PyProof.Rows L2 DL
theorem ylcX_s {it : IX} {bd : BF} {ws : List Nat} {t : XT} {fx : XF} {ρ ρ1 : En} {S S1 S' : Sto} {ds zs : List D} (h1 : it ρ S = some (ds, ρ1, S1)) (h2 : lcX bd t fx (blkE ρ1 ws) ds S1 = some (zs, S')) (h3 : zs.length ≤ sizeLine) :
    yLcX it bd ws t fx ρ S = some (.list zs, ρ1, S') := by
  unfold yLcX
  rw [h1]
  show (lcX _ _ _ _ _ _).bind _ = _
  rw [h2]
  exact if_pos h3
theorem xF_s {y : YF} {ρ ρ1 : En} {S S1 : Sto} {d : D} (h : y ρ S = some (d, ρ1, S1)) : xF y ρ S = some (.dat d, ρ1, S1) := by
  show (y ρ S).map _ = _
  rw [h]
  rfl
theorem len_L {α : Type} {xs : List α} {c : α → D} : lenD [.list (xs.map c)] = some (.int xs.length) := by rw [ap_lenL, List.length_map]
theorem len_T {α : Type} {xs : List α} {c : α → D} : lenD [.tuple (xs.map c)] = some (.int xs.length) := by rw [ap_lenT, List.length_map]
/-! ### independent, weights -/
def indepP (w c : Nat) : List Stp → Nat → List (List Int) → List Nat
  | _, _, [] => []
  | sts, i, r :: rs => (if (addP w c sts i r).isEmpty = true then [] else [i]) ++ indepP w c (sts ++ addP w c sts i r) (i + 1) rs
theorem indep_loop {n w c : Nat} (sm : Small n w c) (c0 : Cel) : ∀ (rs : List (List Int)) (i : Nat) (S : Sto) (sts : List Stp), BAt S 0 1 c w sts → SOkS n w c sts → sts.length ≤ i → i + rs.length ≤ 12 → (∀ r ∈ rs, r.length = w ∧ Bits n r) →
    ∃ S', lcX (bTup 2 (bCons (bName 2) (bCons (bName 3) bNil))) (xtOf (xMeth "Basis" 1 "add" F_Basis_add [.ev (qx (eVar 2)), .ev (qx (eVar 3))]) boolD) (qx (eVar 2)) [c0, .ref 0, .no, .no] (enumD i (rs.map ZT)) S
      = some ((indepP w c sts i rs).map (fun k : Nat => PyData.int (k : Int)), S')
  | [], i, S, sts, h, ok, hl, hi, hr => ⟨S, rfl⟩
  | r :: rs, i, S, sts, h, ok, hl, hi, hr => by
    rw [List.length_cons] at hi
    obtain ⟨l1, b1⟩ := hr r List.mem_cons_self
    obtain ⟨S1, e1, h1, ok1⟩ := add_ok (at_ := i) h ok (by have := sm.bt (i := sts.length) (by omega); omega) sm.n1 sm.z (by omega) (.inr rfl : IsZ (ZT r) r) l1 b1
    have hl1 : (sts ++ addP w c sts i r).length ≤ i + 1 := by
      have := addP_len (w := w) (c := c) (i := i) (sts := sts) (r := r)
      rw [List.length_append]
      omega
    obtain ⟨S', lp⟩ := indep_loop sm c0 rs (i + 1) S1 (sts ++ addP w c sts i r) h1 ok1 hl1 (by omega) fun r' hr' => hr r' (List.mem_cons_of_mem _ hr')
    refine ⟨S', ?_⟩
    have ins : insOf "Basis" [c0, .ref 0, .val (.int (i : Int)), .val (ZT r)] S 1 = some (0, ([("count", .dat (.int c)), ("width", .dat (.int w)), ("steps", .ref 1)] : List (Str × SV))) := by
      unfold insOf
      simp [h.1]
    have mt : xMeth "Basis" 1 "add" F_Basis_add [.ev (qx (eVar 2)), .ev (qx (eVar 3))] [c0, .ref 0, .val (.int (i : Int)), .val (ZT r)] S = some (.dat (.bool (!(addP w c sts i r).isEmpty)), [c0, .ref 0, .val (.int (i : Int)), .val (ZT r)], S1) :=
      meth_s ins rfl (eva_s (qx_s rfl) (eva_s (qx_s rfl) rfl)) rfl e1
    have tt : xtOf (xMeth "Basis" 1 "add" F_Basis_add [.ev (qx (eVar 2)), .ev (qx (eVar 3))]) boolD [c0, .ref 0, .val (.int (i : Int)), .val (ZT r)] S = some (!(addP w c sts i r).isEmpty, [c0, .ref 0, .val (.int (i : Int)), .val (ZT r)], S1) := by
      rw [ap_xtOf, mt]
      rfl
    show (some [c0, .ref 0, .val (.int (i : Int)), .val (ZT r)]).bind _ = _
    show (xtOf _ boolD [c0, .ref 0, .val (.int (i : Int)), .val (ZT r)] S).bind _ = _
    rw [tt]
    show (if (!(addP w c sts i r).isEmpty) = true then _ else _) = _
    rw [indepP]
    by_cases he : (addP w c sts i r).isEmpty = true
    · rw [if_neg (by rw [he]; decide), if_pos he]
      exact lp
    · rw [if_pos (by simpa using he), if_neg he]
      show (lcX _ _ _ _ (enumD (i + 1) (rs.map ZT)) S1).map _ = _
      rw [lp]
      rfl
theorem independent_ok {n w : Nat} {rows : List (List Int)} (sm : Small n w rows.length) (hr : ∀ r ∈ rows, r.length = w ∧ Bits n r) :
    ∃ S', F_independent [.val (RL rows)] [] = some (.dat (.list ((indepP w rows.length [] 0 rows).map fun k : Nat => PyData.int (k : Int))), S') := by
  cases rows with
  | nil => exact ⟨[], rfl⟩
  | cons r0 rs0 =>
    obtain ⟨l0, _⟩ := hr r0 List.mem_cons_self
    generalize hrows : r0 :: rs0 = rows at *
    have h0 : BAt [.ins "Basis" [("count", .dat (.int (rows.length : Int))), ("width", .dat (.int (w : Int))), ("steps", .ref 1)], .lst []] 0 1 rows.length w [] := ⟨rfl, rfl⟩
    obtain ⟨S', lp⟩ := indep_loop sm (.val (RL rows)) rows 0 _ [] h0 (fun i s e => by simp at e) (by simp) (by have := sm.c2; omega) hr
    refine ⟨S', fnF_s ?_⟩
    unfold t_independent
    have hne : rows.length ≠ 0 := by rw [← hrows]; simp
    refine seq_s (if_f (ρ1 := [.val (RL rows), .no, .no, .no]) (S1 := []) (qt_s (tOf_s (op2_s (call1_s rfl ap_lenL) rfl ap_eqI) ?_)) rfl) ?_
    · show some _ = some false
      congr 1
      rw [List.length_map]
      simp [hne]
    have ix0 : ixD (RL rows) (.int 0) = some (ZT r0) := by
      rw [← hrows, ap_ixL]
      exact atI_nat' (m := 0) (by simp)
    refine seq_s (set_s (make_s (S1 := []) (eva_s (qx_s (call1_s rfl ap_lenL)) (eva_s (qx_s (call1_s (op2_s rfl rfl ix0) ap_lenT)) rfl)) rfl (init_ok ((rows.map ZT).length : Int) ((r0.map PyData.int).length : Int)))) ?_
    rw [List.length_map, List.length_map, l0]
    have hz : ((indepP w rows.length [] 0 rows).map fun k : Nat => PyData.int (k : Int)).length ≤ sizeLine := by
      rw [List.length_map]
      have : ∀ (rs : List (List Int)) (sts : List Stp) (i : Nat), (indepP w rows.length sts i rs).length ≤ rs.length := by
        intro rs
        induction rs with
        | nil => intro sts i; exact Nat.le_refl _
        | cons r rs ih =>
          intro sts i
          rw [indepP, List.length_append, List.length_cons]
          have := ih (sts ++ addP w rows.length sts i r) (i + 1)
          split <;> simp <;> omega
      have := this rows [] 0
      have := sm.c2
      have := sizeLine_eq
      omega
    exact ret_s (xF_s (ylcX_s (ρ := [.val (RL rows), .ref 0, .no, .no]) (ρ1 := [.val (RL rows), .ref 0, .no, .no]) (ds := enumD 0 (rows.map ZT)) rfl lp hz))
/-! weights -/
theorem at_last {xs : List Int} {c : Nat} (h : xs.length = c + 1) : atI (xs.map PyData.int) (-1) = some (.int (nth xs c)) := by
  unfold atI ixN
  rw [List.length_map, h, if_neg (by omega), if_pos (by omega)]
  show (xs.map PyData.int)[(-1 + ((c + 1 : Nat) : Int)).toNat]? = _
  rw [show (-1 + ((c + 1 : Nat) : Int)).toNat = c by omega, nth_eq (by omega)]
  simp [h]
theorem slice_init {xs : List Int} {c : Nat} (h : xs.length = c + 1) : sliceD (ZL xs) none (some (-1)) = some (ZL (xs.take c)) := by
  show some (PyData.list (DL.cutD _ _ _)) = _
  unfold DL.cutD
  rw [HT.sIx_none, List.length_map, h]
  have : HT.sIx (c + 1) (c + 1) (some (-1)) = c := by
    show (if (-1 : Int) < 0 then (-1 + ((c + 1 : Nat) : Int)).toNat else min (-1 : Int).toNat (c + 1)) = c
    rw [if_pos (by omega)]
    omega
  rw [this, List.drop_zero, Nat.sub_zero, ← List.map_take]
def wv (c : Nat) : List Int := List.replicate c 0 ++ [1]
theorem wv_ok {c : Nat} (hc : c ≤ 12) : (mulD (.list [.int 0]) (.int (c : Int))).bind (fun a => addD a (.list [.int 1])) = some (ZL (wv c)) := by
  have hsz : sizeLine = 16777216 := sizeLine_eq
  have h3 : ([PyData.int 0] : List D).length * (c : Int).toNat ≤ sizeLine := by
    rw [Int.toNat_natCast]
    show 1 * c ≤ _
    omega
  have e : mulD (.list [.int 0]) (.int (c : Int)) = some (.list (List.replicate c (PyData.int 0))) := by
    unfold mulD
    dsimp only
    rw [if_pos ⟨by omega, by omega, h3⟩]
    simp
  rw [e]
  rw [Option.bind_some, add_lists (by simp; omega)]
  simp [wv]
def sgnI (x : Int) : Int := if x > 0 then 1 else -1
/-- what weights tells -/
inductive Told where
  | inn (parts : List Int) (divisor : Int)
  | out (shift : List Int)
def toldD : Told → D
  | .inn p d => .tuple [.str "in", ZT p, .int d]
  | .out s => .tuple [.str "out", ZT s]
def weightsP (w : Nat) (rows : List (List Int)) (goal : List Int) : Told :=
  match placesP w (takeAll w (build w rows.length [] 0 rows) goal (wv rows.length)).1 with
  | [] => .inn (((short ((takeAll w (build w rows.length [] 0 rows) goal (wv rows.length)).2.map (sgnI (nth (takeAll w (build w rows.length [] 0 rows) goal (wv rows.length)).2 rows.length) * ·))).take rows.length).map (- ·))
      (nth (short ((takeAll w (build w rows.length [] 0 rows) goal (wv rows.length)).2.map (sgnI (nth (takeAll w (build w rows.length [] 0 rows) goal (wv rows.length)).2 rows.length) * ·))) rows.length)
  | k :: _ => .out (if dot goal (shiftAll w (build w rows.length [] 0 rows) k) < 0 then (shiftAll w (build w rows.length [] 0 rows) k).map (- ·) else shiftAll w (build w rows.length [] 0 rows) k)
theorem if_s {t : TF} {f g : EF} {ρ : En} {S : Sto} {b : Bool} {d : D} (h : t ρ S = some b) (h1 : b = true → f ρ S = some d) (h2 : b = false → g ρ S = some d) : eIf t f g ρ S = some d := by
  rw [ap_eIf, h]
  show (if b = true then _ else _) = _
  cases b with
  | true => exact h1 rfl
  | false => exact h2 rfl
theorem sgn_bits {x : Int} : (sgnI x).natAbs < 2 ^ 1 := by unfold sgnI; split <;> decide
theorem map_bits {s : Int} {n m : Nat} {ns : List Int} (hs : s.natAbs < 2 ^ m) (h : Bits n ns) : Bits (m + n) (ns.map (s * ·)) := fun x hx => by
  obtain ⟨y, hy, rfl⟩ := List.mem_map.mp hx
  exact mul_bits hs (h y hy)
theorem neg_bits {n : Nat} {ns : List Int} (h : Bits n ns) : Bits n (ns.map (- ·)) := fun x hx => by
  obtain ⟨y, hy, rfl⟩ := List.mem_map.mp hx
  rw [Int.natAbs_neg]
  exact h y hy
theorem neg_lc {S : Sto} {ρ : En} {x : Nat} {ns : List Int} (h1 : ∀ k : Int, eVar x (ρ.set x (.val (.int k))) S = some (.int k)) : lcQ (bName x) tYesQ (op1 negD (eVar x)) ρ S (ns.map .int) = some ((ns.map (- ·)).map .int) := by
  rw [List.map_map]
  exact lc_map fun k _ => ⟨_, rfl, op1_s (h1 k) ap_negI⟩
theorem weights_ok {n : Nat} {rows : List (List Int)} {goal : List Int} (sm : Small n goal.length rows.length) (hr : ∀ r ∈ rows, r.length = goal.length ∧ Bits n r) (hg : Bits n goal) :
    ∃ S', F_weights [.val (RL rows), .val (ZT goal)] [] = some (.dat (toldD (weightsP goal.length rows goal)), S') := by
  have hsz : sizeLine = 16777216 := sizeLine_eq
  obtain ⟨S', e1, h, ok, hl⟩ := basis_of_ok sm hr
  have hc := sm.c2
  have hw := sm.w2
  have lw : (wv rows.length).length = rows.length + 1 := by simp [wv]
  have bw : Bits n (wv rows.length) := fun x hx => by
    have := sm.n1
    have p2 : 2 ^ 1 ≤ 2 ^ n := Nat.pow_le_pow_right (by omega) sm.n1
    unfold wv at hx
    rcases List.mem_append.mp hx with hx | hx
    · rw [(List.mem_replicate.mp hx).2]; simp; omega
    · rw [List.mem_singleton.mp hx]; simp; omega
  have hbt := sm.bt (i := (build goal.length rows.length [] 0 rows).length) (by omega)
  obtain ⟨tk, l1, l2, b1, b2⟩ := taken_ok h ok (by omega) sm.z (.inr rfl : IsZ (ZT goal) goal) (.inl rfl : IsZ (ZL (wv rows.length)) _) rfl lw hg bw
  have hst : ∀ s ∈ build goal.length rows.length [] 0 rows, s.row.length = goal.length ∧ s.at_ < goal.length ∧ Bits (bt n (build goal.length rows.length [] 0 rows).length) s.row := fun s hs => by
    obtain ⟨i, hi⟩ := List.mem_iff_getElem?.mp hs
    obtain ⟨a1, a2, a3, a4, a5⟩ := ok i s hi
    exact ⟨a1, a3, a4.mono (bt_mono (Nat.le_of_lt (List.getElem?_eq_some_iff.mp hi).1))⟩
  unfold weightsP
  generalize build goal.length rows.length [] 0 rows = sts at *
  generalize takeAll goal.length sts goal (wv rows.length) = T at *
  have st1 : sSet 2 (xCallS F_basis_of [.ev (qx (eVar 0)), .ev (qx (eCall lenD [(eVar 1)]))]) [.val (RL rows), .val (ZT goal), .no, .no, .no, .no, .no, .no, .no, .no] []
      = some (.nx [.val (RL rows), .val (ZT goal), .ref 0, .no, .no, .no, .no, .no, .no, .no] S') :=
    set_s (ρ1 := [.val (RL rows), .val (ZT goal), .no, .no, .no, .no, .no, .no, .no, .no]) (callS_s (eva_s (qx_s rfl) (eva_s (qx_s (call1_s rfl len_T)) rfl)) rfl e1)
  have ins : insOf "Basis" [.val (RL rows), .val (ZT goal), .ref 0, .no, .no, .no, .no, .no, .no, .no] S' 2 = some (0, ([("count", .dat (.int rows.length)), ("width", .dat (.int goal.length)), ("steps", .ref 1)] : List (Str × SV))) := by
    unfold insOf
    simp [h.1]
  have wvE : op2 addD (op2 mulD (eLst [(eC (.int 0))]) (eCall lenD [(eVar 0)])) (eLst [(eC (.int 1))]) [.val (RL rows), .val (ZT goal), .ref 0, .no, .no, .no, .no, .no, .no, .no] S' = some (ZL (wv rows.length)) := by
    have k := wv_ok hc
    cases q : mulD (.list [.int 0]) (.int (rows.length : Int)) with
    | none => rw [q] at k; cases k
    | some a =>
      rw [q] at k
      exact op2_s (op2_s rfl (call1_s rfl len_L) q) rfl k
  have st2 : sAsg (xMeth "Basis" 2 "taken" F_Basis_taken [.ev (qx (eVar 1)), .ev (qx (op2 addD (op2 mulD (eLst [(eC (.int 0))]) (eCall lenD [(eVar 0)])) (eLst [(eC (.int 1))])))]) (bTup 2 (bCons (bName 3) (bCons (bName 4) bNil)))
      [.val (RL rows), .val (ZT goal), .ref 0, .no, .no, .no, .no, .no, .no, .no] S' = some (.nx [.val (RL rows), .val (ZT goal), .ref 0, .val (ZL T.1), .val (ZL T.2), .no, .no, .no, .no, .no] S') :=
    asg_s (meth_s ins rfl (eva_s (qx_s rfl) (eva_s (qx_s wvE) rfl)) rfl tk) rfl
  have st3 : sValF 5 (qy (yLc (iRange [(eCall lenD [(eVar 1)])]) (bName 6) [6] (tOf (op2 neD (op2 ixD (eVar 3) (eVar 6)) (eC (.int 0))) boolD) (eVar 6))) [.val (RL rows), .val (ZT goal), .ref 0, .val (ZL T.1), .val (ZL T.2), .no, .no, .no, .no, .no] S'
      = some (.nx [.val (RL rows), .val (ZT goal), .ref 0, .val (ZL T.1), .val (ZL T.2), .val (.list ((placesP goal.length T.1).map fun k : Nat => PyData.int (k : Int))), .no, .no, .no, .no] S') :=
    valF_s (qy_s (lc_s (range1_s (n := goal.length) (call1_s rfl len_T) (by omega)) (places_lc l1 (fun _ => rfl) (fun _ => rfl)) (by rw [List.length_map]; have := places_len (w := goal.length) (l := T.1); omega)))
  cases hp : placesP goal.length T.1 with
  | nil =>
    rw [hp] at st3
    have hsg : eIf (tOf (op2 gtD (op2 ixD (eVar 4) (op1 negD (eC (.int 1)))) (eC (.int 0))) boolD) (eC (.int 1)) (op1 negD (eC (.int 1))) [.val (RL rows), .val (ZT goal), .ref 0, .val (ZL T.1), .val (ZL T.2), .val (.list []), .no, .no, .no, .no] S' = some (.int (sgnI (nth T.2 rows.length))) := by
      refine if_s (tOf_s (op2_s (op2_s rfl (op1_s rfl ap_negI) (at_last l2)) rfl ap_gt) rfl) (fun hb => ?_) (fun hb => ?_)
      · unfold sgnI
        rw [if_pos (of_decide_eq_true hb)]
        rfl
      · unfold sgnI
        rw [if_neg (of_decide_eq_false hb)]
        rfl
    have bb : Bits (1 + bt n sts.length) (T.2.map (sgnI (nth T.2 rows.length) * ·)) := map_bits sgn_bits b2
    have lc8 : lcQ (bName 8) tYesQ (op2 mulD (eVar 7) (eVar 8)) [.val (RL rows), .val (ZT goal), .ref 0, .val (ZL T.1), .val (ZL T.2), .val (.list []), .no, .val (.int (sgnI (nth T.2 rows.length))), .no, .no] S' (T.2.map .int)
        = some ((T.2.map (sgnI (nth T.2 rows.length) * ·)).map .int) := by
      rw [List.map_map]
      exact lc_map fun x hx => ⟨_, rfl, op2_s rfl rfl (mul_ok sgn_bits (b2 x hx) (by omega))⟩
    have sh := shortened_ok (c := .val (ZL (T.2.map (sgnI (nth T.2 rows.length) * ·)))) (S := []) (.inl rfl) (by rw [List.length_map]; omega)
    have lP : (short (T.2.map (sgnI (nth T.2 rows.length) * ·))).length = rows.length + 1 := by rw [short_length, List.length_map, l2]
    generalize hP : short (T.2.map (sgnI (nth T.2 rows.length) * ·)) = P at *
    refine ⟨S', fnF_s ?_⟩
    unfold t_weights
    refine seq_s st1 (seq_s st2 (seq_s st3 ?_))
    refine seq_rt (if_t (qt_s (tOf_s (op2_s (call1_s rfl ap_lenL) rfl ap_eqI) rfl)) ?_)
    refine seq_s (set_s (qx_s hsg)) ?_
    refine seq_s (set_s (qx_s (callF_s (evm1_s (elc_s (lc_s (iOf_s rfl rfl) lc8 (by rw [List.length_map, List.length_map]; omega))) rfl) sh))) ?_
    refine ret_s (qx_s (tup_s (evs1_s rfl (evs1_s (call1_s (elc_s (lc_s (iOf_s (slice_s rfl rfl (oSome_s (op1_s rfl ap_negI)) (slice_init lP)) rfl) (neg_lc fun _ => rfl) (by rw [List.length_map, List.length_map, List.length_take]; omega))) ap_tupL) (evs1_s (op2_s rfl (op1_s rfl ap_negI) (at_last lP)) rfl)))))
  | cons k ks =>
    rw [hp] at st3
    dsimp only
    have ix0 : ixD (.list ((k :: ks).map fun k : Nat => PyData.int (k : Int))) (.int 0) = some (.int (k : Int)) := by
      rw [ap_ixL]
      exact atI_nat' (m := 0) (by simp)
    have hm : sts.length * (bt n sts.length + 5) ≤ 12 * (bt n sts.length + 5) := Nat.mul_le_mul_right _ (by omega)
    obtain ⟨se, sl, sb⟩ := shift_ok (place := k) h sm.w2 hst (by omega)
    have e5 : op2 ixD (eVar 5) (eC (.int 0)) [.val (RL rows), .val (ZT goal), .ref 0, .val (ZL T.1), .val (ZL T.2), .val (.list ((k :: ks).map fun k : Nat => PyData.int (k : Int))), .no, .no, .no, .no] S' = some (.int (k : Int)) := op2_s rfl rfl ix0
    generalize shiftAll goal.length sts k = sh at *
    have ins2 : insOf "Basis" [.val (RL rows), .val (ZT goal), .ref 0, .val (ZL T.1), .val (ZL T.2), .val (.list ((k :: ks).map fun k : Nat => PyData.int (k : Int))), .no, .no, .no, .no] S' 2 = some (0, ([("count", .dat (.int rows.length)), ("width", .dat (.int goal.length)), ("steps", .ref 1)] : List (Str × SV))) := by
      unfold insOf
      simp [h.1]
    have pr := product_ok (S := []) (.inr rfl : IsZ (ZT goal) goal) (.inl rfl : IsZ (ZL sh) sh) hg sb (by have := sm.n2; omega) (by omega)
    have st4 : sSet 9 (xMeth "Basis" 2 "shift" F_Basis_shift [.ev (qx (op2 ixD (eVar 5) (eC (.int 0))))]) [.val (RL rows), .val (ZT goal), .ref 0, .val (ZL T.1), .val (ZL T.2), .val (.list ((k :: ks).map fun k : Nat => PyData.int (k : Int))), .no, .no, .no, .no] S'
        = some (.nx [.val (RL rows), .val (ZT goal), .ref 0, .val (ZL T.1), .val (ZL T.2), .val (.list ((k :: ks).map fun k : Nat => PyData.int (k : Int))), .no, .no, .no, .val (ZL sh)] S') :=
      set_s (ρ1 := [.val (RL rows), .val (ZT goal), .ref 0, .val (ZL T.1), .val (ZL T.2), .val (.list ((k :: ks).map fun k : Nat => PyData.int (k : Int))), .no, .no, .no, .no]) (meth_s ins2 rfl (eva_s (qx_s e5) rfl) rfl se)
    have pE : op2 ltD (eCallF F_product [(true, (eVar 1)), (true, (eVar 9))]) (eC (.int 0)) [.val (RL rows), .val (ZT goal), .ref 0, .val (ZL T.1), .val (ZL T.2), .val (.list ((k :: ks).map fun k : Nat => PyData.int (k : Int))), .no, .no, .no, .val (ZL sh)] S' = some (.bool (decide (dot goal sh < 0))) :=
      op2_s (callF_s (evm1_s rfl (evm1_s rfl rfl)) pr) rfl ap_lt
    refine ⟨S', fnF_s ?_⟩
    unfold t_weights
    refine seq_s st1 (seq_s st2 (seq_s st3 ?_))
    refine seq_s (if_f (ρ1 := [.val (RL rows), .val (ZT goal), .ref 0, .val (ZL T.1), .val (ZL T.2), .val (.list ((k :: ks).map fun k : Nat => PyData.int (k : Int))), .no, .no, .no, .no]) (S1 := S') (qt_s (tOf_s (op2_s (call1_s rfl len_L) rfl ap_eqI) (by show some _ = some false; congr 1))) rfl) ?_
    refine seq_s st4 ?_
    by_cases hd : dot goal sh < 0
    · rw [if_pos hd]
      refine seq_s (if_t (qt_s (tOf_s pE (by rw [decide_eq_true hd]; rfl))) (valF_s (qy_s (lc_s (iOf_s rfl rfl) (neg_lc fun _ => rfl) (by rw [List.length_map, List.length_map]; omega))))) ?_
      exact ret_s (qx_s (tup_s (evs1_s rfl (evs1_s (call1_s rfl ap_tupL) rfl))))
    · rw [if_neg hd]
      refine seq_s (if_f (ρ1 := [.val (RL rows), .val (ZT goal), .ref 0, .val (ZL T.1), .val (ZL T.2), .val (.list ((k :: ks).map fun k : Nat => PyData.int (k : Int))), .no, .no, .no, .val (ZL sh)]) (S1 := S') (qt_s (tOf_s pE (by rw [decide_eq_false hd]; rfl))) rfl) ?_
      exact ret_s (qx_s (tup_s (evs1_s rfl (evs1_s (call1_s rfl ap_tupL) rfl))))
end K21
namespace K21
/-! ### sums and dot products -/
def sumN : Nat → (Nat → Int) → Int
  | 0, _ => 0
  | n + 1, f => sumN n f + f n
theorem sumN_congr {f g : Nat → Int} : ∀ {n : Nat}, (∀ k, k < n → f k = g k) → sumN n f = sumN n g
  | 0, _ => rfl
  | n + 1, h => by
    show sumN n f + f n = sumN n g + g n
    rw [sumN_congr fun k hk => h k (by omega), h n (by omega)]
theorem sumN_add {f g : Nat → Int} : ∀ n : Nat, sumN n (fun k => f k + g k) = sumN n f + sumN n g
  | 0 => rfl
  | n + 1 => by
    show sumN n (fun k => f k + g k) + (f n + g n) = (sumN n f + f n) + (sumN n g + g n)
    rw [sumN_add n]
    omega
theorem sumN_mul {f : Nat → Int} (a : Int) : ∀ n : Nat, sumN n (fun k => a * f k) = a * sumN n f
  | 0 => by show (0 : Int) = a * 0; rw [Int.mul_zero]
  | n + 1 => by
    show sumN n (fun k => a * f k) + a * f n = a * (sumN n f + f n)
    rw [sumN_mul a n, Int.mul_add]
theorem sumN_zero {f : Nat → Int} {n : Nat} (h : ∀ k, k < n → f k = 0) : sumN n f = 0 := by
  rw [sumN_congr (g := fun _ => 0) h]
  have := sumN_mul (f := fun _ => (0 : Int)) 0 n
  simpa using this
theorem sumN_sub {f g : Nat → Int} (n : Nat) : sumN n (fun k => f k - g k) = sumN n f - sumN n g := by
  have h := sumN_add (f := f) (g := fun k => (-1) * g k) n
  rw [sumN_mul] at h
  have e : sumN n (fun k => f k - g k) = sumN n (fun k => f k + (-1) * g k) := sumN_congr fun k _ => by omega
  rw [e, h]
  omega
theorem sumN_swap {f : Nat → Nat → Int} (m : Nat) : ∀ n : Nat, sumN n (fun i => sumN m (fun k => f i k)) = sumN m (fun k => sumN n (fun i => f i k))
  | 0 => by
    show (0 : Int) = _
    rw [sumN_zero]
    intro k _
    rfl
  | n + 1 => by
    show sumN n (fun i => sumN m (fun k => f i k)) + sumN m (fun k => f n k) = sumN m (fun k => sumN n (fun i => f i k) + f n k)
    rw [sumN_swap m n, sumN_add]
theorem sumN_one {f : Nat → Int} {n j : Nat} (hj : j < n) (h : ∀ k, k < n → k ≠ j → f k = 0) : sumN n f = f j := by
  induction n with
  | zero => omega
  | succ n ih =>
    show sumN n f + f n = f j
    by_cases hn : j = n
    · subst hn
      rw [sumN_zero fun k hk => h k (by omega) (by omega)]
      omega
    · rw [ih (by omega) fun k hk hne => h k (by omega) hne, h n (by omega) (by omega)]
      omega
/-- the product of two rows -/
def dt (w : Nat) (f g : Nat → Int) : Int := sumN w fun k => f k * g k
theorem sum_map_range (f : Nat → Int) : ∀ n : Nat, ((List.range n).map f).sum = sumN n f
  | 0 => rfl
  | n + 1 => by
    rw [List.range_succ, List.map_append, List.sum_append, sum_map_range f n]
    show _ + (f n + 0) = _
    rw [Int.add_zero]
    rfl
theorem dot_dt {l v : List Int} {w : Nat} (hl : l.length = w) (hv : v.length = w) : dot l v = dt w (nth l) (nth v) := by
  unfold dt
  rw [← sum_map_range]
  unfold dot
  congr 1
  refine List.ext_getElem (by simp; omega) fun k h1 h2 => ?_
  have hk : k < w := by simpa using h2
  simp [nth_eq (show k < l.length by omega), nth_eq (show k < v.length by omega)]
/-! ### what shortened keeps -/
theorem foldl_gcd_dvd : ∀ (ns : List Int) (g : Int), (ns.foldl (fun g n => (Int.gcd g n : Int)) g) ∣ g ∧ ∀ x ∈ ns, (ns.foldl (fun g n => (Int.gcd g n : Int)) g) ∣ x
  | [], g => ⟨Int.dvd_refl _, fun x h => by cases h⟩
  | n :: ns, g => by
    obtain ⟨h1, h2⟩ := foldl_gcd_dvd ns (Int.gcd g n)
    refine ⟨Int.dvd_trans h1 (Int.gcd_dvd_left ..), fun x hx => ?_⟩
    rcases List.mem_cons.mp hx with e | hx
    · rw [e]
      exact Int.dvd_trans h1 (Int.gcd_dvd_right ..)
    · exact h2 x hx
theorem short_eq (ns : List Int) : ∃ g : Int, 1 ≤ g ∧ ∀ k, k < ns.length → nth ns k = g * nth (short ns) k := by
  unfold short
  split
  · rename_i hg
    refine ⟨gcdL ns, by omega, fun k hk => ?_⟩
    rw [nth_eq hk, nth_eq (by rw [List.length_map]; exact hk), List.getElem_map]
    have hd := (foldl_gcd_dvd ns 0).2 ns[k] (List.getElem_mem hk)
    rw [Int.fdiv_eq_ediv_of_nonneg _ (by omega)]
    exact (Int.mul_ediv_cancel' hd).symm
  · exact ⟨1, by omega, fun k _ => by rw [Int.one_mul]⟩
theorem nth_out {l : List Int} {k : Nat} (h : l.length ≤ k) : nth l k = 0 := by
  unfold nth
  rw [List.getD_eq_getElem?_getD, List.getElem?_eq_none h]
  rfl
theorem nth_append_left {a b : List Int} {k : Nat} (h : k < a.length) : nth (a ++ b) k = nth a k := by
  rw [nth_eq (by rw [List.length_append]; omega), nth_eq h, List.getElem_append_left h]
theorem nth_append_right {a b : List Int} {k : Nat} (h : k < b.length) : nth (a ++ b) (a.length + k) = nth b k := by
  rw [nth_eq (by rw [List.length_append]; omega), nth_eq h, List.getElem_append_right (by omega)]
  simp
theorem nth_take {a : List Int} {k w : Nat} (h : k < w) (h2 : k < a.length) : nth (a.take w) k = nth a k := by
  rw [nth_eq (by rw [List.length_take]; omega), nth_eq h2, List.getElem_take]
theorem nth_drop {a : List Int} {k w : Nat} (h2 : w + k < a.length) : nth (a.drop w) k = nth a (w + k) := by
  rw [nth_eq (by rw [List.length_drop]; omega), nth_eq h2, List.getElem_drop]
theorem nth_lin {a b : Int} {l s : List Int} {w k : Nat} (hl : l.length = w) (hs : s.length = w) (hk : k < w) : nth (lin a l b s) k = a * nth l k - b * nth s k := by
  rw [nth_eq (by rw [lin_length hl hs]; exact hk), nth_eq (show k < l.length by omega), nth_eq (show k < s.length by omega)]
  simp [lin]
theorem nth_map {f : Int → Int} {l : List Int} {k : Nat} (hk : k < l.length) : nth (l.map f) k = f (nth l k) := by
  rw [nth_eq (by rw [List.length_map]; exact hk), nth_eq hk, List.getElem_map]
theorem nth_set {l : List Int} {j k : Nat} {x : Int} (hk : k < l.length) : nth (l.set j x) k = if k = j then x else nth l k := by
  rw [nth_eq (by rw [List.length_set]; exact hk), nth_eq hk, List.getElem_set]
  by_cases h : j = k
  · rw [if_pos h, if_pos h.symm]
  · rw [if_neg h, if_neg fun e => h e.symm]
/-- one step of taken -/
theorem red_eq {w c : Nat} {l p : List Int} {s : Stp} (hl : l.length = w) (hp : p.length = c) (hr : s.row.length = w) (hm : s.marks.length = c) (ha : s.at_ < w) (h0 : nth s.row s.at_ ≠ 0) :
    ∃ g m t : Int, g ≠ 0 ∧ m ≠ 0 ∧ (∀ k, k < w → g * nth (red w (l, p) s).1 k = m * nth l k - t * nth s.row k) ∧ (∀ i, i < c → g * nth (red w (l, p) s).2 i = m * nth p i - t * nth s.marks i) ∧ nth (red w (l, p) s).1 s.at_ = 0 := by
  unfold red
  dsimp only
  by_cases hb : nth l s.at_ = 0
  · rw [if_pos hb]
    exact ⟨1, 1, 0, by omega, by omega, fun k _ => by show (1 : Int) * nth l k = 1 * nth l k - 0 * nth s.row k; omega, fun k _ => by show (1 : Int) * nth p k = 1 * nth p k - 0 * nth s.marks k; omega, hb⟩
  · rw [if_neg hb]
    dsimp only
    generalize ea : nth s.row s.at_ = a at *
    generalize eb : nth l s.at_ = b at *
    have l1 := lin_length (a := a) (b := b) hl hr
    have l2 := lin_length (a := a) (b := b) hp hm
    obtain ⟨g, hg, e⟩ := short_eq (lin a l b s.row ++ lin a p b s.marks)
    have sl := short_length (lin a l b s.row ++ lin a p b s.marks)
    rw [List.length_append, l1, l2] at e sl
    have f1 : ∀ k, k < w → g * nth ((short (lin a l b s.row ++ lin a p b s.marks)).take w) k = a * nth l k - b * nth s.row k := fun k hk => by
      rw [nth_take hk (by omega), ← e k (by omega), nth_append_left (by omega), nth_lin hl hr hk]
    refine ⟨g, a, b, by omega, h0, f1, fun i hi => ?_, ?_⟩
    · rw [nth_drop (by omega), ← e (w + i) (by omega)]
      have := nth_append_right (a := lin a l b s.row) (b := lin a p b s.marks) (k := i) (by omega)
      rw [l1] at this
      rw [this, nth_lin hp hm hi]
    · have h := f1 s.at_ ha
      rw [ea, eb, Int.mul_comm b a, Int.sub_self] at h
      rcases Int.mul_eq_zero.mp h with h | h
      · omega
      · exact h
end K21
namespace K21
/-! ### the basis: what holds of its steps. E: the rows by number, done: how many are in -/
structure Inv (w c : Nat) (E : Nat → Nat → Int) (dn : Nat) (sts : List Stp) : Prop where
  len : ∀ s ∈ sts, s.row.length = w ∧ s.marks.length = c + 1 ∧ s.at_ < w
  comb : ∀ s ∈ sts, ∀ k, k < w → nth s.row k = sumN (c + 1) fun i => nth s.marks i * E i k
  piv : ∀ s ∈ sts, nth s.row s.at_ ≠ 0
  zero : sts.Pairwise fun s t => nth t.row s.at_ = 0
  rows : ∀ v : Nat → Int, (∀ s ∈ sts, dt w (nth s.row) v = 0) → ∀ i, i < dn → dt w (E i) v = 0
  mark : ∀ s ∈ sts, ∀ j, dn ≤ j → j < c + 1 → nth s.marks j = 0
structure Took (w c : Nat) (E : Nat → Nat → Int) (sts : List Stp) (l p l' p' : List Int) : Prop where
  len : l'.length = w ∧ p'.length = c + 1
  dots : ∃ g m : Int, g ≠ 0 ∧ m ≠ 0 ∧ ∀ v : Nat → Int, (∀ s ∈ sts, dt w (nth s.row) v = 0) → g * dt w (nth l') v = m * dt w (nth l) v
  zero : ∀ s ∈ sts, nth l' s.at_ = 0
  comb : (∀ k, k < w → nth l k = sumN (c + 1) fun i => nth p i * E i k) → ∀ k, k < w → nth l' k = sumN (c + 1) fun i => nth p' i * E i k
  mark : ∀ j, j < c + 1 → (∀ s ∈ sts, nth s.marks j = 0) → (nth p j = 0 ↔ nth p' j = 0)
theorem eq_of_mul {g x y : Int} (hg : g ≠ 0) (h : g * x = g * y) : x = y := Int.eq_of_mul_eq_mul_left hg h
theorem took {w c : Nat} {E : Nat → Nat → Int} : ∀ (sts : List Stp) (l p : List Int), l.length = w → p.length = c + 1 → (∀ s ∈ sts, s.row.length = w ∧ s.marks.length = c + 1 ∧ s.at_ < w) → (∀ s ∈ sts, nth s.row s.at_ ≠ 0) → sts.Pairwise (fun s t => nth t.row s.at_ = 0) →
    (∀ s ∈ sts, ∀ k, k < w → nth s.row k = sumN (c + 1) fun i => nth s.marks i * E i k) → Took w c E sts l p (takeAll w sts l p).1 (takeAll w sts l p).2
  | [], l, p, hl, hp, h1, h2, h3, h4 => ⟨⟨hl, hp⟩, ⟨1, 1, by omega, by omega, fun v _ => rfl⟩, fun s hs => (by cases hs), fun h => h, fun j _ _ => Iff.rfl⟩
  | s :: sts, l, p, hl, hp, h1, h2, h3, h4 => by
    obtain ⟨a1, a2, a3⟩ := h1 s List.mem_cons_self
    obtain ⟨g, m, t, hg, hm, e1, e2, e3⟩ := red_eq hl hp a1 a2 a3 (h2 s List.mem_cons_self)
    obtain ⟨r1, r2⟩ := red_len hl hp a1 a2
    have hz := List.pairwise_cons.mp h3
    have ih := took (E := E) sts (red w (l, p) s).1 (red w (l, p) s).2 r1 r2 (fun s' hs => h1 s' (List.mem_cons_of_mem _ hs)) (fun s' hs => h2 s' (List.mem_cons_of_mem _ hs)) hz.2 (fun s' hs => h4 s' (List.mem_cons_of_mem _ hs))
    have eT : takeAll w (s :: sts) l p = takeAll w sts (red w (l, p) s).1 (red w (l, p) s).2 := rfl
    rw [eT]
    refine ⟨ih.len, ?_, fun s' hs => ?_, fun hc => ?_, fun j hj hmk => ?_⟩
    · obtain ⟨g', m', hg', hm', ed⟩ := ih.dots
      refine ⟨g' * g, m' * m, Int.mul_ne_zero hg' hg, Int.mul_ne_zero hm' hm, fun v hv => ?_⟩
      have d1 := ed v fun s' hs => hv s' (List.mem_cons_of_mem _ hs)
      have d2 : g * dt w (nth (red w (l, p) s).1) v = m * dt w (nth l) v - t * dt w (nth s.row) v := by
        unfold dt
        rw [← sumN_mul, ← sumN_mul, ← sumN_mul, ← sumN_sub]
        refine sumN_congr fun k hk => ?_
        rw [← Int.mul_assoc, e1 k hk, Int.sub_mul, Int.mul_assoc, Int.mul_assoc]
      rw [hv s List.mem_cons_self, Int.mul_zero, Int.sub_zero] at d2
      calc g' * g * dt w (nth (takeAll w sts (red w (l, p) s).1 (red w (l, p) s).2).1) v = g * (g' * dt w (nth (takeAll w sts (red w (l, p) s).1 (red w (l, p) s).2).1) v) := by rw [Int.mul_comm g' g, Int.mul_assoc]
        _ = g * (m' * dt w (nth (red w (l, p) s).1) v) := by rw [d1]
        _ = m' * (g * dt w (nth (red w (l, p) s).1) v) := by rw [← Int.mul_assoc, Int.mul_comm g m', Int.mul_assoc]
        _ = m' * m * dt w (nth l) v := by rw [d2, Int.mul_assoc]
    · rcases List.mem_cons.mp hs with e | hs
      · rw [e]
        -- the place of an earlier step stays zero
        have key : ∀ (ts : List Stp) (x y : List Int), x.length = w → y.length = c + 1 → (∀ s' ∈ ts, s'.row.length = w ∧ s'.marks.length = c + 1 ∧ s'.at_ < w) → (∀ s' ∈ ts, nth s'.row s'.at_ ≠ 0) → (∀ s' ∈ ts, nth s'.row s'.at_ ≠ 0 ∧ nth s'.row s.at_ = 0) → nth x s.at_ = 0 → nth (takeAll w ts x y).1 s.at_ = 0 := by
          intro ts
          induction ts with
          | nil => intro x y _ _ _ _ _ hx; exact hx
          | cons u ts ih2 =>
            intro x y hx hy q1 q2 q3 q4
            obtain ⟨b1, b2, b3⟩ := q1 u List.mem_cons_self
            obtain ⟨g2, m2, t2, hg2, _, f1, _, _⟩ := red_eq hx hy b1 b2 b3 (q2 u List.mem_cons_self)
            obtain ⟨r3, r4⟩ := red_len hx hy b1 b2
            refine ih2 _ _ r3 r4 (fun s' hs => q1 s' (List.mem_cons_of_mem _ hs)) (fun s' hs => q2 s' (List.mem_cons_of_mem _ hs)) (fun s' hs => q3 s' (List.mem_cons_of_mem _ hs)) ?_
            have h := f1 s.at_ a3
            rw [q4, (q3 u List.mem_cons_self).2, Int.mul_zero, Int.mul_zero, Int.sub_self] at h
            rcases Int.mul_eq_zero.mp h with h | h
            · exact absurd h hg2
            · exact h
        exact key sts _ _ r1 r2 (fun s' hs => h1 s' (List.mem_cons_of_mem _ hs)) (fun s' hs => h2 s' (List.mem_cons_of_mem _ hs)) (fun s' hs => ⟨h2 s' (List.mem_cons_of_mem _ hs), hz.1 s' hs⟩) e3
      · exact ih.zero s' hs
    · refine ih.comb fun k hk => ?_
      refine eq_of_mul hg ?_
      rw [e1 k hk, hc k hk, h4 s List.mem_cons_self k hk, ← sumN_mul, ← sumN_mul, ← sumN_mul, ← sumN_sub]
      refine sumN_congr fun i hi => ?_
      rw [← Int.mul_assoc, ← Int.mul_assoc, ← Int.mul_assoc, e2 i hi, Int.sub_mul]
    · refine Iff.trans ?_ (ih.mark j hj fun s' hs => hmk s' (List.mem_cons_of_mem _ hs))
      have h := e2 j hj
      rw [hmk s List.mem_cons_self, Int.mul_zero, Int.sub_zero] at h
      constructor
      · intro hp0
        rw [hp0, Int.mul_zero] at h
        exact (Int.mul_eq_zero.mp h).resolve_left hg
      · intro hp0
        rw [hp0, Int.mul_zero] at h
        exact (Int.mul_eq_zero.mp h.symm).resolve_left hm
end K21
namespace K21
theorem nth_unit {c a j : Nat} (hj : j < c) : nth (unitV c a) j = if j = a then 1 else 0 := by
  unfold unitV
  rw [nth_eq (by simpa using hj)]
  simp
theorem places_nil {w : Nat} {l : List Int} (h : placesP w l = []) : ∀ k, k < w → nth l k = 0 := fun k hk => by
  have := List.filter_eq_nil_iff.mp h k (List.mem_range.mpr hk)
  simpa using this
theorem places_cons {w k : Nat} {l : List Int} {ks : List Nat} (h : placesP w l = k :: ks) : k < w ∧ nth l k ≠ 0 := by
  have := List.mem_filter.mp (show k ∈ placesP w l by rw [h]; exact List.mem_cons_self)
  exact ⟨List.mem_range.mp this.1, by simpa using this.2⟩
theorem dt_zero {w : Nat} {l v : Nat → Int} (h : ∀ k, k < w → l k = 0) : dt w l v = 0 := sumN_zero fun k hk => by rw [h k hk, Int.zero_mul]
theorem dt_congr {w : Nat} {l l' v : Nat → Int} (h : ∀ k, k < w → l k = l' k) : dt w l v = dt w l' v := sumN_congr fun k hk => by rw [h k hk]
section
variable {w c : Nat} {E : Nat → Nat → Int} {i : Nat} {sts : List Stp} {r : List Int}
theorem Inv.took (I : Inv w c E i sts) {l p : List Int} (hl : l.length = w) (hp : p.length = c + 1) : Took w c E sts l p (takeAll w sts l p).1 (takeAll w sts l p).2 := K21.took sts l p hl hp I.len I.piv I.zero I.comb
theorem Inv.add (I : Inv w c E i sts) (hi : i < c + 1) (hr : r.length = w) (hE : ∀ k, k < w → E i k = nth r k) : Inv w c E (i + 1) (sts ++ addP w c sts i r) := by
  have T := I.took (l := r) (p := unitV (c + 1) i) hr unit_length
  have cm := T.comb fun k hk => by
    rw [sumN_one hi fun j hj hne => by rw [nth_unit hj, if_neg hne, Int.zero_mul], nth_unit hi, if_pos rfl, Int.one_mul, hE k hk]
  have mk : ∀ j, i + 1 ≤ j → j < c + 1 → nth (takeAll w sts r (unitV (c + 1) i)).2 j = 0 := fun j h1 h2 =>
    (T.mark j h2 fun s hs => I.mark s hs j (by omega) h2).mp (by rw [nth_unit h2, if_neg (by omega)])
  obtain ⟨g, m, hg, hm, ed⟩ := T.dots
  have rowE : ∀ v, dt w (E i) v = dt w (nth r) v := fun v => dt_congr hE
  unfold addP
  cases hp : placesP w (takeAll w sts r (unitV (c + 1) i)).1 with
  | nil =>
    dsimp only
    rw [List.append_nil]
    refine ⟨I.len, I.comb, I.piv, I.zero, fun v hv j hj => ?_, fun s hs j h1 h2 => I.mark s hs j (by omega) h2⟩
    by_cases hj2 : j < i
    · exact I.rows v hv j hj2
    · have : j = i := by omega
      subst this
      have h := ed v hv
      rw [dt_zero (places_nil hp), Int.mul_zero] at h
      rw [rowE]
      exact (Int.mul_eq_zero.mp h.symm).resolve_left hm
  | cons k ks =>
    dsimp only
    obtain ⟨hk, hne⟩ := places_cons hp
    have all : ∀ {P : Stp → Prop}, (∀ s ∈ sts, P s) → P ⟨k, (takeAll w sts r (unitV (c + 1) i)).1, (takeAll w sts r (unitV (c + 1) i)).2⟩ → ∀ s ∈ sts ++ [⟨k, (takeAll w sts r (unitV (c + 1) i)).1, (takeAll w sts r (unitV (c + 1) i)).2⟩], P s := fun {P} h1 h2 s hs => by
      rcases List.mem_append.mp hs with hs | hs
      · exact h1 s hs
      · rw [List.mem_singleton.mp hs]; exact h2
    refine ⟨all I.len ⟨T.len.1, T.len.2, hk⟩, all I.comb cm, all I.piv hne, ?_, fun v hv j hj => ?_, all (fun s hs j h1 h2 => I.mark s hs j (by omega) h2) mk⟩
    · refine List.pairwise_append.mpr ⟨I.zero, List.pairwise_singleton .., fun s hs t ht => ?_⟩
      rw [List.mem_singleton.mp ht]
      exact T.zero s hs
    · have hv1 : ∀ s ∈ sts, dt w (nth s.row) v = 0 := fun s hs => hv s (List.mem_append_left _ hs)
      by_cases hj2 : j < i
      · exact I.rows v hv1 j hj2
      · have : j = i := by omega
        subst this
        have h := ed v hv1
        have h0 := hv _ (List.mem_append_right _ (List.mem_singleton.mpr rfl))
        dsimp only at h0
        rw [h0, Int.mul_zero] at h
        rw [rowE]
        exact (Int.mul_eq_zero.mp h.symm).resolve_left hm
theorem Inv.build : ∀ (rs : List (List Int)) (i : Nat) (sts : List Stp), Inv w c E i sts → i + rs.length ≤ c + 1 → (∀ j, j < rs.length → (rs.getD j []).length = w ∧ ∀ k, k < w → E (i + j) k = nth (rs.getD j []) k) → Inv w c E (i + rs.length) (build w c sts i rs)
  | [], i, sts, I, _, _ => I
  | r :: rs, i, sts, I, hi, h => by
    rw [List.length_cons] at hi
    obtain ⟨h1, h2⟩ := h 0 (by simp)
    have J := I.add (r := r) (by omega) (by simpa using h1) (by simpa using h2)
    have K := Inv.build rs (i + 1) (sts ++ addP w c sts i r) J (by omega) fun j hj => by
      obtain ⟨h3, h4⟩ := h (j + 1) (by simpa using hj)
      refine ⟨by simpa using h3, fun k hk => ?_⟩
      have := h4 k hk
      rw [show i + 1 + j = i + (j + 1) by omega]
      simpa using this
    rw [List.length_cons, show i + (rs.length + 1) = i + 1 + rs.length by omega]
    exact K
end
/-! ### the shift -/
theorem filter_sum {α : Type} {p : α → Bool} {g : α → Int} : ∀ xs : List α, ((xs.filter p).map g).sum = (xs.map fun x => if p x = true then g x else 0).sum
  | [] => rfl
  | x :: xs => by
    rw [List.map_cons, List.sum_cons, ← filter_sum xs]
    by_cases h : p x = true
    · rw [List.filter_cons, if_pos h, if_pos h, List.map_cons, List.sum_cons]
    · rw [List.filter_cons, if_neg h, if_neg h, Int.zero_add]
theorem rest_eq {w a : Nat} {s f : List Int} (ha : a < w) : restP w a s f = dt w (nth s) (nth f) - nth s a * nth f a := by
  unfold restP
  rw [filter_sum, sum_map_range]
  have h : sumN w (fun k => nth s k * nth f k - (if k = a then nth s k * nth f k else 0)) = dt w (nth s) (nth f) - sumN w (fun k => if k = a then nth s k * nth f k else 0) := sumN_sub w
  rw [sumN_one ha fun k hk hne => if_neg hne, if_pos rfl] at h
  rw [← h]
  refine sumN_congr fun k hk => ?_
  by_cases e : k = a
  · subst e
    simp
  · have : ¬ (k : Int) = (a : Int) := by omega
    simp [e, this]
theorem shP_dot {w : Nat} {f : List Int} {s : Stp} (hf : f.length = w) (ha : s.at_ < w) : ∃ g : Int, 1 ≤ g ∧ ∀ x : Nat → Int, g * dt w x (nth (shP w f s)) = nth s.row s.at_ * dt w x (nth f) - nth s.row s.at_ * (x s.at_ * nth f s.at_) - x s.at_ * restP w s.at_ s.row f := by
  unfold shP
  obtain ⟨g, hg, e⟩ := short_eq ((f.map (nth s.row s.at_ * ·)).set s.at_ (-(restP w s.at_ s.row f)))
  rw [List.length_set, List.length_map, hf] at e
  refine ⟨g, hg, fun x => ?_⟩
  have h1 : g * dt w x (nth (short ((f.map (nth s.row s.at_ * ·)).set s.at_ (-(restP w s.at_ s.row f))))) = sumN w (fun k => nth s.row s.at_ * (x k * nth f k) - (if k = s.at_ then nth s.row s.at_ * (x k * nth f k) + x k * restP w s.at_ s.row f else 0)) := by
    unfold dt
    rw [← sumN_mul]
    refine sumN_congr fun k hk => ?_
    rw [show ∀ y : Int, g * (x k * y) = x k * (g * y) from fun y => by rw [← Int.mul_assoc, Int.mul_comm g, Int.mul_assoc], ← e k hk, nth_set (by rw [List.length_map]; omega)]
    by_cases he : k = s.at_
    · rw [if_pos he, if_pos he, Int.mul_neg]
      omega
    · rw [if_neg he, if_neg he, nth_map (by omega), Int.sub_zero, ← Int.mul_assoc, Int.mul_comm (x k), Int.mul_assoc]
  rw [h1, sumN_sub, sumN_mul, sumN_one ha fun k hk hne => if_neg hne, if_pos rfl]
  show _ = nth s.row s.at_ * sumN w _ - _ - _
  omega
theorem shift_loop2 {w : Nat} : ∀ (rs dn : List Stp) (f : List Int), f.length = w → (∀ s ∈ rs, s.at_ < w ∧ nth s.row s.at_ ≠ 0) → rs.Pairwise (fun t s => nth t.row s.at_ = 0) → (∀ t ∈ dn, dt w (nth t.row) (nth f) = 0) → (∀ t ∈ dn, ∀ s ∈ rs, nth t.row s.at_ = 0) →
    (∀ t, t ∈ dn ∨ t ∈ rs → dt w (nth t.row) (nth (rs.foldl (shP w) f)) = 0) ∧ ∀ x : Nat → Int, (∀ s ∈ rs, x s.at_ = 0) → dt w x (nth f) ≠ 0 → dt w x (nth (rs.foldl (shP w) f)) ≠ 0
  | [], dn, f, hf, h1, h2, h3, h4 => ⟨fun t ht => h3 t (ht.resolve_right (by simp)), fun x _ h => h⟩
  | s :: rs, dn, f, hf, h1, h2, h3, h4 => by
    obtain ⟨ha, hp⟩ := h1 s List.mem_cons_self
    obtain ⟨g, hg, ed⟩ := shP_dot (w := w) (f := f) (s := s) hf ha
    have hg0 : g ≠ 0 := by omega
    have hz := List.pairwise_cons.mp h2
    have own : dt w (nth s.row) (nth (shP w f s)) = 0 := by
      have h := ed (nth s.row)
      rw [rest_eq ha, Int.mul_sub] at h
      have : g * dt w (nth s.row) (nth (shP w f s)) = 0 := by rw [h]; omega
      exact (Int.mul_eq_zero.mp this).resolve_left hg0
    have others : ∀ t ∈ dn, dt w (nth t.row) (nth (shP w f s)) = 0 := fun t ht => by
      have h := ed (nth t.row)
      rw [h3 t ht, h4 t ht s List.mem_cons_self, Int.zero_mul, Int.zero_mul, Int.mul_zero, Int.sub_zero, Int.sub_zero] at h
      exact (Int.mul_eq_zero.mp h).resolve_left hg0
    obtain ⟨r1, r2⟩ := shift_loop2 rs (s :: dn) (shP w f s) (shP_len hf) (fun s' hs => h1 s' (List.mem_cons_of_mem _ hs)) hz.2 (fun t ht => by
      rcases List.mem_cons.mp ht with e | ht
      · rw [e]; exact own
      · exact others t ht) fun t ht s' hs => by
      rcases List.mem_cons.mp ht with e | ht
      · rw [e]; exact hz.1 s' hs
      · exact h4 t ht s' (List.mem_cons_of_mem _ hs)
    refine ⟨fun t ht => r1 t ?_, fun x hx hne => r2 x (fun s' hs => hx s' (List.mem_cons_of_mem _ hs)) ?_⟩
    · rcases ht with ht | ht
      · exact .inl (List.mem_cons_of_mem _ ht)
      · rcases List.mem_cons.mp ht with e | ht
        · exact .inl (by rw [e]; exact List.mem_cons_self)
        · exact .inr ht
    · intro h0
      have h := ed x
      rw [h0, hx s List.mem_cons_self, Int.zero_mul, Int.zero_mul, Int.mul_zero, Int.mul_zero, Int.sub_zero, Int.sub_zero] at h
      rcases Int.mul_eq_zero.mp h.symm with h | h
      · exact hp h
      · exact hne h
theorem shift_props {w place : Nat} {sts : List Stp} (hl : ∀ s ∈ sts, s.at_ < w) (hp : ∀ s ∈ sts, nth s.row s.at_ ≠ 0) (hz : sts.Pairwise fun s t => nth t.row s.at_ = 0) (hw : place < w) :
    (∀ s ∈ sts, dt w (nth s.row) (nth (shiftAll w sts place)) = 0) ∧ ∀ x : Nat → Int, (∀ s ∈ sts, x s.at_ = 0) → x place ≠ 0 → dt w x (nth (shiftAll w sts place)) ≠ 0 := by
  obtain ⟨r1, r2⟩ := shift_loop2 (w := w) sts.reverse [] (unitV w place) unit_length (fun s hs => ⟨hl s (List.mem_reverse.mp hs), hp s (List.mem_reverse.mp hs)⟩) (List.pairwise_reverse.mpr hz) (fun t ht => by cases ht) (fun t ht => by cases ht)
  refine ⟨fun s hs => r1 s (.inr (List.mem_reverse.mpr hs)), fun x hx hne => r2 x (fun s hs => hx s (List.mem_reverse.mp hs)) ?_⟩
  unfold dt
  rw [sumN_one hw fun k hk hne => by rw [nth_unit hk, if_neg hne, Int.mul_zero], nth_unit hw, if_pos rfl, Int.mul_one]
  exact hne
end K21
namespace K21
/-- v tells that goal does not follow from the rows -/
def Sep (w : Nat) (rows : List (List Int)) (goal : List Int) : Prop := ∃ v : Nat → Int, (∀ r ∈ rows, dt w (nth r) v = 0) ∧ dt w (nth goal) v ≠ 0
def E0 (rows : List (List Int)) (goal : List Int) (i k : Nat) : Int := nth ((rows ++ [goal]).getD i []) k
theorem E0_row {rows : List (List Int)} {goal : List Int} {i : Nat} (h : i < rows.length) : E0 rows goal i = nth rows[i] := by
  funext k
  unfold E0
  rw [List.getD_eq_getElem?_getD, List.getElem?_append_left h, List.getElem?_eq_getElem h]
  rfl
theorem E0_goal {rows : List (List Int)} {goal : List Int} : E0 rows goal rows.length = nth goal := by
  funext k
  unfold E0
  rw [List.getD_eq_getElem?_getD, List.getElem?_append_right (Nat.le_refl _), Nat.sub_self]
  rfl
theorem inv0 {w c : Nat} {E : Nat → Nat → Int} : Inv w c E 0 [] := ⟨fun s h => (by cases h), fun s h => (by cases h), fun s h => (by cases h), .nil, fun v _ i hi => (by omega), fun s h => (by cases h)⟩
theorem inv_all {w : Nat} {rows : List (List Int)} {goal : List Int} (hr : ∀ r ∈ rows, r.length = w) : Inv w rows.length (E0 rows goal) rows.length (build w rows.length [] 0 rows) := by
  have h := Inv.build (w := w) (c := rows.length) (E := E0 rows goal) rows 0 [] inv0 (by omega) fun j hj => by
    have e : rows.getD j [] = rows[j] := by rw [List.getD_eq_getElem?_getD, List.getElem?_eq_getElem hj]; rfl
    rw [e]
    refine ⟨hr _ (List.getElem_mem hj), fun k _ => ?_⟩
    rw [Nat.zero_add, E0_row hj]
  rw [Nat.zero_add] at h
  exact h
theorem nth_wv {c j : Nat} (hj : j < c + 1) : nth (wv c) j = if j = c then 1 else 0 := by
  unfold wv
  by_cases h : j = c
  · subst h
    have := nth_append_right (a := List.replicate j (0 : Int)) (b := [1]) (k := 0) (by simp)
    rw [List.length_replicate, Nat.add_zero] at this
    rw [this, if_pos rfl]
    rfl
  · rw [nth_append_left (by rw [List.length_replicate]; omega), if_neg h, nth_eq (by rw [List.length_replicate]; omega), List.getElem_replicate]
def Follows (w : Nat) (rows : List (List Int)) (goal p : List Int) (d : Int) : Prop := 1 ≤ d ∧ p.length = rows.length ∧ ∀ k, k < w → sumN rows.length (fun i => nth p i * nth (rows.getD i []) k) = d * nth goal k
def Moves (w : Nat) (rows : List (List Int)) (goal s : List Int) : Prop := s.length = w ∧ dt w (nth goal) (nth s) ≠ 0 ∧ ∀ r ∈ rows, dt w (nth r) (nth s) = 0
theorem rows_orth {w : Nat} {rows : List (List Int)} {goal : List Int} {v : Nat → Int} (h : ∀ i, i < rows.length → dt w (E0 rows goal i) v = 0) : ∀ r ∈ rows, dt w (nth r) v = 0 := fun r hr => by
  obtain ⟨i, hi, e⟩ := List.getElem_of_mem hr
  have := h i hi
  rw [E0_row hi, e] at this
  exact this
theorem weights_told {w : Nat} {rows : List (List Int)} {goal : List Int} (hr : ∀ r ∈ rows, r.length = w) (hg : goal.length = w) :
    match weightsP w rows goal with
    | .inn p d => Follows w rows goal p d
    | .out s => Moves w rows goal s := by
  have I := inv_all (goal := goal) hr
  have lw : (wv rows.length).length = rows.length + 1 := by simp [wv]
  have T := I.took (l := goal) (p := wv rows.length) hg lw
  unfold weightsP
  generalize build w rows.length [] 0 rows = sts at *
  have cm := T.comb fun k hk => by
    rw [sumN_one (show rows.length < rows.length + 1 by omega) fun j hj hne => by rw [nth_wv hj, if_neg hne, Int.zero_mul], nth_wv (by omega), if_pos rfl, Int.one_mul, E0_goal]
  have mk : nth (takeAll w sts goal (wv rows.length)).2 rows.length ≠ 0 := fun h0 => by
    have := (T.mark rows.length (by omega) fun s hs => I.mark s hs _ (Nat.le_refl _) (by omega)).mpr h0
    rw [nth_wv (by omega), if_pos rfl] at this
    omega
  obtain ⟨g, m, hg0, hm0, ed⟩ := T.dots
  obtain ⟨t1, t2⟩ := T.len
  have tz := T.zero
  generalize takeAll w sts goal (wv rows.length) = T0 at *
  cases hp : placesP w T0.1 with
  | nil =>
    dsimp only
    have z := places_nil hp
    obtain ⟨q, hq, e⟩ := short_eq (T0.2.map (sgnI (nth T0.2 rows.length) * ·))
    have sl := short_length (T0.2.map (sgnI (nth T0.2 rows.length) * ·))
    rw [List.length_map, t2] at e sl
    generalize hP : short (T0.2.map (sgnI (nth T0.2 rows.length) * ·)) = P at *
    have eP : ∀ i, i < rows.length + 1 → q * nth P i = sgnI (nth T0.2 rows.length) * nth T0.2 i := fun i hi => by
      rw [← e i hi, nth_map (by omega)]
    have sg : sgnI (nth T0.2 rows.length) * nth T0.2 rows.length ≥ 1 := by
      unfold sgnI
      split <;> omega
    have hd : 1 ≤ nth P rows.length := by
      have h := eP rows.length (by omega)
      by_cases h1 : 1 ≤ nth P rows.length
      · exact h1
      · have : q * nth P rows.length ≤ 0 := Int.mul_nonpos_of_nonneg_of_nonpos (by omega) (by omega)
        omega
    refine ⟨hd, by rw [List.length_map, List.length_take]; omega, fun k hk => ?_⟩
    have h0 : sumN (rows.length + 1) (fun i => nth P i * E0 rows goal i k) = 0 := by
      have h1 : q * sumN (rows.length + 1) (fun i => nth P i * E0 rows goal i k) = 0 := by
        rw [← sumN_mul]
        have h2 : sumN (rows.length + 1) (fun i => q * (nth P i * E0 rows goal i k)) = sumN (rows.length + 1) (fun i => sgnI (nth T0.2 rows.length) * (nth T0.2 i * E0 rows goal i k)) :=
          sumN_congr fun i hi => by rw [← Int.mul_assoc, eP i hi, Int.mul_assoc]
        rw [h2, sumN_mul, ← cm k hk, z k hk, Int.mul_zero]
      exact (Int.mul_eq_zero.mp h1).resolve_left (by omega)
    have h3 : sumN rows.length (fun i => nth P i * E0 rows goal i k) + nth P rows.length * E0 rows goal rows.length k = 0 := h0
    rw [E0_goal] at h3
    have h4 : sumN rows.length (fun i => nth ((P.take rows.length).map (- ·)) i * nth (rows.getD i []) k) = (-1) * sumN rows.length (fun i => nth P i * E0 rows goal i k) := by
      rw [← sumN_mul]
      refine sumN_congr fun i hi => ?_
      rw [nth_map (by rw [List.length_take]; omega), nth_take hi (by omega), E0_row hi, List.getD_eq_getElem?_getD, List.getElem?_eq_getElem hi, Option.getD_some, ← Int.mul_assoc]
      congr 1
      omega
    rw [h4]
    omega
  | cons k ks =>
    dsimp only
    obtain ⟨hk, hne⟩ := places_cons hp
    obtain ⟨s1, s2⟩ := shift_props (w := w) (place := k) (fun s hs => (I.len s hs).2.2) I.piv I.zero hk
    have sl : (shiftAll w sts k).length = w := by
      unfold shiftAll
      have : ∀ (rs : List Stp) (f : List Int), f.length = w → (rs.foldl (shP w) f).length = w := by
        intro rs
        induction rs with
        | nil => intro f h; exact h
        | cons s rs ih => intro f h; exact ih _ (shP_len h)
      exact this _ _ unit_length
    have n1 := s2 (nth T0.1) tz hne
    have n2 : dt w (nth goal) (nth (shiftAll w sts k)) ≠ 0 := fun h0 => by
      have h := ed _ s1
      rw [h0, Int.mul_zero] at h
      rcases Int.mul_eq_zero.mp h with h | h
      · exact hg0 h
      · exact n1 h
    have rr := rows_orth (goal := goal) (fun i hi => I.rows _ s1 i hi)
    split
    · have ng : ∀ x : Nat → Int, dt w x (nth ((shiftAll w sts k).map (- ·))) = (-1) * dt w x (nth (shiftAll w sts k)) := fun x => by
        unfold dt
        rw [← sumN_mul]
        refine sumN_congr fun i hi => ?_
        rw [nth_map (by omega), Int.mul_neg]
        omega
      refine ⟨by rw [List.length_map, sl], ?_, fun r hr' => ?_⟩
      · rw [ng]; omega
      · rw [ng, rr r hr']; rfl
    · exact ⟨sl, n2, rr⟩
theorem told_sep {w : Nat} {rows : List (List Int)} {goal : List Int} (hr : ∀ r ∈ rows, r.length = w) (hg : goal.length = w) : (∃ s, weightsP w rows goal = .out s) ↔ Sep w rows goal := by
  have h := weights_told hr hg
  cases e : weightsP w rows goal with
  | out s =>
    rw [e] at h
    exact ⟨fun _ => ⟨nth s, h.2.2, h.2.1⟩, fun _ => ⟨s, rfl⟩⟩
  | inn p d =>
    rw [e] at h
    refine ⟨fun ⟨s, z⟩ => (by cases z), fun ⟨v, h1, h2⟩ => ?_⟩
    obtain ⟨hd, _, hk⟩ := h
    have e1 : d * dt w (nth goal) v = sumN rows.length (fun i => nth p i * dt w (nth (rows.getD i [])) v) := by
      unfold dt
      rw [← sumN_mul]
      have : sumN rows.length (fun i => nth p i * sumN w fun k => nth (rows.getD i []) k * v k) = sumN rows.length (fun i => sumN w fun k => nth p i * (nth (rows.getD i []) k * v k)) := sumN_congr fun i _ => (sumN_mul _ w).symm
      rw [this, sumN_swap]
      refine sumN_congr fun k hk' => ?_
      rw [← Int.mul_assoc, ← hk k hk', Int.mul_comm, ← sumN_mul]
      refine sumN_congr fun i _ => ?_
      rw [Int.mul_comm, Int.mul_assoc]
    rw [sumN_zero fun i hi => by
      rw [List.getD_eq_getElem?_getD, List.getElem?_eq_getElem hi, Option.getD_some, h1 _ (List.getElem_mem hi), Int.mul_zero]] at e1
    rcases Int.mul_eq_zero.mp e1 with e1 | e1
    · omega
    · exact absurd e1 h2
/-- .. and so does add -/
theorem addP_sep {w c i : Nat} {E : Nat → Nat → Int} {sts : List Stp} {r : List Int} {rows : List (List Int)} (I : Inv w c E i sts) (hi : i < c + 1) (hr : r.length = w) (hrows : ∀ v, (∀ r' ∈ rows, dt w (nth r') v = 0) ↔ ∀ j, j < i → dt w (E j) v = 0) : (addP w c sts i r).isEmpty = false ↔ Sep w rows r := by
  have T := I.took (l := r) (p := unitV (c + 1) i) hr unit_length
  obtain ⟨g, m, hg, hm, ed⟩ := T.dots
  unfold addP
  cases hp : placesP w (takeAll w sts r (unitV (c + 1) i)).1 with
  | nil =>
    refine ⟨fun z => (by cases z), fun ⟨v, h1, h2⟩ => ?_⟩
    -- v is orthogonal to the steps
    have hv : ∀ s ∈ sts, dt w (nth s.row) v = 0 := fun s hs => by
      have hj := (hrows v).mp h1
      have e1 : dt w (nth s.row) v = sumN (c + 1) (fun j => nth s.marks j * dt w (E j) v) := by
        unfold dt
        have : sumN (c + 1) (fun j => nth s.marks j * sumN w fun k => E j k * v k) = sumN (c + 1) (fun j => sumN w fun k => nth s.marks j * (E j k * v k)) := sumN_congr fun j _ => (sumN_mul _ w).symm
        rw [this, sumN_swap]
        refine sumN_congr fun k hk => ?_
        rw [I.comb s hs k hk, Int.mul_comm, ← sumN_mul]
        refine sumN_congr fun j _ => ?_
        rw [Int.mul_comm, Int.mul_assoc]
      rw [e1]
      refine sumN_zero fun j hj2 => ?_
      by_cases h : j < i
      · rw [hj j h, Int.mul_zero]
      · rw [I.mark s hs j (by omega) hj2, Int.zero_mul]
    have h := ed v hv
    rw [dt_zero (places_nil hp), Int.mul_zero] at h
    rcases Int.mul_eq_zero.mp h.symm with h | h
    · exact absurd h hm
    · exact absurd h h2
  | cons k ks =>
    refine ⟨fun _ => ?_, fun _ => rfl⟩
    obtain ⟨hk, hne⟩ := places_cons hp
    obtain ⟨s1, s2⟩ := shift_props (w := w) (place := k) (fun s hs => (I.len s hs).2.2) I.piv I.zero hk
    refine ⟨nth (shiftAll w sts k), (hrows _).mpr fun j hj => I.rows _ s1 j hj, fun h0 => ?_⟩
    have h := ed _ s1
    rw [h0, Int.mul_zero] at h
    rcases Int.mul_eq_zero.mp h with h | h
    · exact hg h
    · exact s2 _ T.zero hne h
open Classical in
theorem indep_sep {w : Nat} {rows : List (List Int)} (hr : ∀ r ∈ rows, r.length = w) : ∀ (rs : List (List Int)) (i : Nat) (sts : List Stp), rows.drop i = rs → Inv w rows.length (E0 rows []) i sts → ∀ k, k ∈ indepP w rows.length sts i rs ↔ (i ≤ k ∧ k < i + rs.length ∧ Sep w (rows.take k) (rows.getD k []))
  | [], i, sts, hd, I, k => by
    simp [indepP]
    omega
  | r :: rs, i, sts, hd, I, k => by
    have hi : i < rows.length := by
      have := congrArg List.length hd
      rw [List.length_drop, List.length_cons] at this
      omega
    rw [List.drop_eq_getElem_cons hi] at hd
    obtain ⟨e1, e2⟩ := List.cons.inj hd
    have lr : r.length = w := by rw [← e1]; exact hr _ (List.getElem_mem hi)
    have J := I.add (r := r) (by omega) lr fun k _ => by rw [E0_row hi, e1]
    have ih := indep_sep hr rs (i + 1) _ e2 J k
    have sp := addP_sep (rows := rows.take i) I (by omega) lr fun v => by
      constructor
      · intro h j hj
        rw [E0_row (by omega)]
        exact h _ (List.mem_take_iff_getElem.mpr ⟨j, by omega, rfl⟩)
      · intro h r' hr'
        obtain ⟨j, hj, e⟩ := List.mem_take_iff_getElem.mp hr'
        have := h j (by omega)
        rw [E0_row (by omega), e] at this
        exact this
    have eg : rows.getD i [] = r := by rw [List.getD_eq_getElem?_getD, List.getElem?_eq_getElem hi, e1]; rfl
    rw [indepP, List.mem_append, ih, List.length_cons]
    constructor
    · rintro (h | ⟨h1, h2, h3⟩)
      · split at h
        · cases h
        · rename_i hne
          have : k = i := by simpa using h
          subst this
          refine ⟨Nat.le_refl _, by omega, ?_⟩
          rw [eg]
          exact sp.mp (by simpa using hne)
      · exact ⟨by omega, by omega, h3⟩
    · rintro ⟨h1, h2, h3⟩
      by_cases hk : k = i
      · subst hk
        rw [eg] at h3
        left
        rw [if_neg (by rw [sp.mpr h3]; decide)]
        exact List.mem_singleton.mpr rfl
      · exact .inr ⟨by omega, by omega, h3⟩
theorem indep_sorted {w c : Nat} : ∀ (rs : List (List Int)) (i : Nat) (sts : List Stp), (indepP w c sts i rs).Pairwise (· < ·) ∧ ∀ k ∈ indepP w c sts i rs, i ≤ k
  | [], _, _ => ⟨.nil, fun k h => (by cases h)⟩
  | r :: rs, i, sts => by
    obtain ⟨h1, h2⟩ := indep_sorted (w := w) (c := c) rs (i + 1) (sts ++ addP w c sts i r)
    rw [indepP]
    split
    · exact ⟨h1, fun k hk => by have := h2 k hk; omega⟩
    · refine ⟨List.pairwise_append.mpr ⟨List.pairwise_singleton .., h1, fun a ha b hb => ?_⟩, fun k hk => ?_⟩
      · rw [List.mem_singleton.mp ha]
        have := h2 b hb
        omega
      · rcases List.mem_append.mp hk with hk | hk
        · rw [List.mem_singleton.mp hk]; exact Nat.le_refl _
        · have := h2 k hk; omega
end K21
namespace K21
open PySem PySem.Spec PyProof.Rows L2 DL
/-! ### more steps -/
section
variable {ρ ρ1 ρ2 : En} {S S1 S2 : Sto} {a b d : D} {f g : EF} {fx gx : XF} {t u : TF} {tx ux : XT} {v w : SV} {i n : Nat} {x y : Bool} {s : SF}
theorem and_t (h : t ρ S = some true) (h2 : u ρ S = some x) : tAndQ t u ρ S = some x := by
  show (t ρ S).bind _ = _
  rw [h]
  exact h2
theorem and_f (h : t ρ S = some false) : tAndQ t u ρ S = some false := by
  show (t ρ S).bind _ = _
  rw [h]
  rfl
theorem or_t (h : t ρ S = some true) : tOrQ t u ρ S = some true := by
  show (t ρ S).bind _ = _
  rw [h]
  rfl
theorem or_f (h : t ρ S = some false) (h2 : u ρ S = some x) : tOrQ t u ρ S = some x := by
  show (t ρ S).bind _ = _
  rw [h]
  exact h2
theorem not_s (h : t ρ S = some x) : tNotQ t ρ S = some (!x) := by
  show (t ρ S).map _ = _
  rw [h]
  rfl
theorem xop2_s {F : D → D → Option D} (h1 : fx ρ S = some (.dat a, ρ1, S1)) (h2 : gx ρ1 S1 = some (.dat b, ρ2, S2)) (h : F a b = some d) : xop2 F fx gx ρ S = some (.dat d, ρ2, S2) := by
  show (fx ρ S).bind _ = _
  rw [h1]
  show (gx ρ1 S1).bind _ = _
  rw [h2]
  show (F a b).map _ = _
  rw [h]
  rfl
theorem xcall1_s {F : List D → Option D} (h1 : fx ρ S = some (.dat a, ρ1, S1)) (h : F [a] = some d) : xCall F [fx] ρ S = some (.dat d, ρ1, S1) := by
  show (xevs [fx] ρ S).bind _ = _
  rw [show xevs [fx] ρ S = some ([a], ρ1, S1) by
    show (fx ρ S).bind _ = _
    rw [h1]
    rfl]
  show (F [a]).map _ = _
  rw [h]
  rfl
theorem xtOf_s {T : D → Option Bool} (h1 : fx ρ S = some (.dat a, ρ1, S1)) (h : T a = some x) : xtOf fx T ρ S = some (x, ρ1, S1) := by
  show (fx ρ S).bind _ = _
  rw [h1]
  show (T a).map _ = _
  rw [h]
  rfl
theorem ixS_s {xs : List SV} {j : Int} {m : Nat} (h1 : refL ρ S i = some (n, xs)) (h2 : fx ρ S = some (.dat (.int j), ρ1, S1)) (h3 : refL ρ1 S1 i = some (m, xs)) (h4 : atI xs j = some v) : xIxS i fx ρ S = some (v, ρ1, S1) := by
  show (refL ρ S i).bind _ = _
  rw [h1]
  show (fx ρ S).bind _ = _
  rw [h2]
  show (refL ρ1 S1 i).bind _ = _
  rw [h3]
  show (atI xs j).map _ = _
  rw [h4]
  rfl
theorem setIxS_s {xs ys : List SV} {j : Int} {m k : Nat} {fi : XF} (h1 : fx ρ S = some (v, ρ1, S1)) (h2 : refL ρ1 S1 i = some (n, xs)) (h3 : fi ρ1 S1 = some (.dat (.int j), ρ2, S2)) (h4 : refL ρ2 S2 i = some (m, ys)) (h5 : ixN ys.length j = some k) :
    sSetIxS i fi fx ρ S = some (.nx ρ2 (S2.set m (.lst (ys.set k v)))) := by
  show (fx ρ S).bind _ = _
  rw [h1]
  show (refL ρ1 S1 i).bind _ = _
  rw [h2]
  show (fi ρ1 S1).bind _ = _
  rw [h3]
  show (refL ρ2 S2 i).bind _ = _
  rw [h4]
  show (ixN ys.length j).map _ = _
  rw [h5]
  rfl
theorem popS_s {xs ys : List SV} {j : Int} {m k : Nat} (h1 : refL ρ S i = some (n, xs)) (h2 : fx ρ S = some (.dat (.int j), ρ1, S1)) (hj : -(2 ^ 63) ≤ j ∧ j < 2 ^ 63) (h4 : refL ρ1 S1 i = some (m, ys)) (h5 : ixN ys.length j = some k) (h6 : ys[k]? = some v) :
    xPopS i fx ρ S = some (v, ρ1, S1.set m (.lst (ys.eraseIdx k))) := by
  show (refL ρ S i).bind _ = _
  rw [h1]
  show (fx ρ S).bind _ = _
  rw [h2]
  show (if -(2 ^ 63) ≤ j ∧ j < 2 ^ 63 then (refL ρ1 S1 i).bind fun p => (ixN p.2.length j).bind fun k => (p.2[k]?).map fun z => (z, ρ1, S1.set p.1 (.lst (p.2.eraseIdx k))) else none) = _
  rw [if_pos hj, h4]
  show (ixN ys.length j).bind _ = _
  rw [h5]
  show (ys[k]?).map _ = _
  rw [h6]
  rfl
theorem while_t (h : tx ρ S = some (true, ρ1, S1)) (h2 : s ρ1 S1 = some (.nx ρ2 S2)) {r : Rs} (h3 : sWhileN tx s n ρ2 S2 = some r) : sWhileN tx s (n + 1) ρ S = some r := by
  rw [ap_while1, h]
  show (s ρ1 S1).bind _ = _
  rw [h2]
  exact h3
theorem while_f (h : tx ρ S = some (false, ρ1, S1)) : sWhileN tx s (n + 1) ρ S = some (.nx ρ1 S1) := by
  rw [ap_while1, h]
  rfl
theorem xif_s (h : tx ρ S = some (x, ρ1, S1)) {r : SV × En × Sto} (h1 : x = true → fx ρ1 S1 = some r) (h2 : x = false → gx ρ1 S1 = some r) : xIf tx fx gx ρ S = some r := by
  show (tx ρ S).bind _ = _
  rw [h]
  cases x with
  | true => exact h1 rfl
  | false => exact h2 rfl
theorem xand_t (h : tx ρ S = some (true, ρ1, S1)) {r : Bool × En × Sto} (h2 : ux ρ1 S1 = some r) : xtAnd tx ux ρ S = some r := by
  show (tx ρ S).bind _ = _
  rw [h]
  exact h2
theorem xand_f (h : tx ρ S = some (false, ρ1, S1)) : xtAnd tx ux ρ S = some (false, ρ1, S1) := by
  show (tx ρ S).bind _ = _
  rw [h]
  rfl
theorem xor_t (h : tx ρ S = some (true, ρ1, S1)) : xtOr tx ux ρ S = some (true, ρ1, S1) := by
  show (tx ρ S).bind _ = _
  rw [h]
  rfl
theorem xor_f (h : tx ρ S = some (false, ρ1, S1)) {r : Bool × En × Sto} (h2 : ux ρ1 S1 = some r) : xtOr tx ux ρ S = some r := by
  show (tx ρ S).bind _ = _
  rw [h]
  exact h2
theorem xnot_s (h : tx ρ S = some (x, ρ1, S1)) : xtNot tx ρ S = some (!x, ρ1, S1) := by
  show (tx ρ S).map _ = _
  rw [h]
  rfl
end
/-! ### draws -/
def S2 (cells : List Int) (seed : Int) : Sto := [.lst (cells.map fun c => .dat (.int c)), .lst [.ref 0, .dat (.int seed)]]
theorem ref0 {cells : List Int} {seed : Int} {c0 c1 : Cel} {ρ : En} : refL (c0 :: c1 :: .ref 0 :: ρ) (S2 cells seed) 2 = some (0, cells.map fun c => SV.dat (.int c)) := rfl
theorem bref0 {cells : List Int} {seed : Int} {c0 c1 : Cel} {ρ : En} : bRef 2 (c0 :: c1 :: .ref 0 :: ρ) (S2 cells seed) = some (ZL cells) := by
  show (datsOf (cells.map fun c => SV.dat (.int c))).map _ = _
  rw [show (cells.map fun c => SV.dat (PyData.int c)) = (cells.map PyData.int).map SV.dat by rw [List.map_map]; rfl, datsOf_map]
  rfl
abbrev tDraw : XT := qt (tAndQ (tOf (op2 gtD (eCall lenD [(bRef 2)]) (eC (.int 0))) boolD) (tOf (op2 eqD (op2 ixD (bRef 2) (eC (.int 0))) (eC (.int 0))) boolD))
theorem draw_loop {seed : Int} {c0 c1 c3 c4 : Cel} : ∀ (cells : List Int) (n : Nat), cells.length < n → ∃ cells', sWhileN tDraw b__law_draw_1 n [c0, c1, .ref 0, c3, c4] (S2 cells seed) = some (.nx [c0, c1, .ref 0, c3, c4] (S2 cells' seed))
  | _, 0, h => by omega
  | [], n + 1, h => ⟨[], while_f (qt_s (and_f (tOf_s (op2_s (call1_s bref0 len_L) rfl ap_gt) rfl)))⟩
  | c :: cells, n + 1, h => by
    rw [List.length_cons] at h
    have t1 : tOf (op2 gtD (eCall lenD [(bRef 2)]) (eC (.int 0))) boolD [c0, c1, .ref 0, c3, c4] (S2 (c :: cells) seed) = some true := tOf_s (op2_s (call1_s bref0 len_L) rfl ap_gt) (by
      show some _ = _
      rw [List.length_cons, decide_eq_true (by omega)])
    have ix : op2 ixD (bRef 2) (eC (.int 0)) [c0, c1, .ref 0, c3, c4] (S2 (c :: cells) seed) = some (.int c) := op2_s bref0 rfl (atI_nat' (m := 0) (by simp))
    by_cases hc : c = 0
    · obtain ⟨cells', e⟩ := draw_loop (seed := seed) (c0 := c0) (c1 := c1) (c3 := c3) (c4 := c4) cells n (by omega)
      refine ⟨cells', while_t (qt_s (and_t t1 (tOf_s (op2_s ix rfl ap_eqI) (by rw [hc]; rfl)))) (expr_s (popS_s ref0 (qx_s rfl) ⟨by omega, by omega⟩ ref0 (k := 0) ?_ rfl)) e⟩
      unfold ixN
      rw [if_pos (by omega), if_pos (by simp)]
      rfl
    · exact ⟨c :: cells, while_f (qt_s (and_t t1 (tOf_s (op2_s ix rfl ap_eqI) (by
        show some _ = _
        simp [hc]))))⟩
def SeedOk (seed : Int) : Prop := seed.natAbs < 2 ^ 32
theorem fmod_in {a m : Int} (h : 0 < m) : 0 ≤ a.fmod m ∧ a.fmod m < m := by
  rw [Int.fmod_eq_emod_of_nonneg a (by omega)]
  exact ⟨Int.emod_nonneg a (by omega), Int.emod_lt_of_pos a h⟩
theorem draw_ok {cells : List Int} {seed many : Int} (hs : SeedOk seed) (hm : 1 ≤ many) : ∃ v cells' seed', F__law_draw [.ref 1, .val (.int many)] (S2 cells seed) = some (.dat (.int v), S2 cells' seed') ∧ SeedOk seed' ∧ 0 ≤ v ∧ v < many := by
  obtain ⟨cs, lp⟩ := draw_loop (seed := seed) (c0 := .ref 1) (c1 := .val (.int many)) (c3 := .no) (c4 := .no) cells (cells.length + 1) (by omega)
  have st1 : sIf (qt (tOf (op2 ltD (eVar 1) (eC (.int 1))) boolD)) (sRet (qx (eC (.int 0)))) sNil [.ref 1, .val (.int many), .no, .no, .no] (S2 cells seed) = some (.nx [.ref 1, .val (.int many), .no, .no, .no] (S2 cells seed)) :=
    if_f (qt_s (tOf_s (op2_s rfl rfl ap_lt) (by show some _ = _; rw [decide_eq_false (by omega)]))) rfl
  have st2 : sSet 2 (xIxS 0 (qx (eC (.int 0)))) [.ref 1, .val (.int many), .no, .no, .no] (S2 cells seed) = some (.nx [.ref 1, .val (.int many), .ref 0, .no, .no] (S2 cells seed)) :=
    set_s (v := .ref 0) (ρ1 := [.ref 1, .val (.int many), .no, .no, .no]) (ixS_s (n := 1) (m := 1) (xs := [.ref 0, .dat (.int seed)]) rfl (qx_s rfl) rfl (atI_nat' (m := 0) (by simp)))
  have mne : many ≠ 0 := by omega
  cases cs with
  | nil =>
    have hm2 := fmod_in (a := seed * 48271 + 12345) (m := 2147483647) (by omega)
    have e1 : mulD (.int seed) (.int 48271) = some (.int (seed * 48271)) := mul_ok (n := 32) (m := 16) hs (by decide) (by omega)
    refine ⟨(((seed * 48271 + 12345).fmod 2147483647).fdiv 64).fmod many, [], (seed * 48271 + 12345).fmod 2147483647, fnF_s ?_, ?_, fmod_in (by omega)⟩
    · unfold t__law_draw
      refine seq_s st1 (seq_s st2 (seq_s (sWhile_of lp) ?_))
      refine seq_s (if_f (ρ1 := [.ref 1, .val (.int many), .ref 0, .no, .no]) (S1 := S2 [] seed) (qt_s (tOf_s (op2_s (call1_s bref0 len_L) rfl ap_gt) rfl)) rfl) ?_
      refine seq_s (set_s (ρ1 := [.ref 1, .val (.int many), .ref 0, .no, .no]) (S1 := S2 [] seed) (xop2_s (xcall1_s (xop2_s (xop2_s (ixS_s (n := 1) (m := 1) (v := .dat (.int seed)) (xs := [.ref 0, .dat (.int seed)]) rfl (qx_s rfl) rfl (atI_nat' (m := 1) (by simp))) (qx_s rfl) e1) (qx_s rfl) ap_addI) ap_intI) (qx_s rfl) (ap_modI (by omega)))) ?_
      refine seq_s (ρ' := [.ref 1, .val (.int many), .ref 0, .no, .val (.int ((seed * 48271 + 12345).fmod 2147483647))]) (S' := S2 [] ((seed * 48271 + 12345).fmod 2147483647)) (setIxS_s (n := 1) (m := 1) (k := 1) (v := .dat (.int ((seed * 48271 + 12345).fmod 2147483647))) (xs := [.ref 0, .dat (.int seed)]) (ys := [.ref 0, .dat (.int seed)]) (qx_s rfl) rfl (qx_s rfl) rfl rfl) ?_
      exact ret_s (qx_s (op2_s (call1_s (op2_s rfl rfl (ap_fdivI (by omega))) ap_intI) rfl (ap_modI mne)))
    · unfold SeedOk
      have : (2 : Nat) ^ 32 = 4294967296 := by decide
      omega
  | cons c cs =>
    refine ⟨c.fmod many, c.fdiv many :: cs, seed, fnF_s ?_, hs, fmod_in (by omega)⟩
    unfold t__law_draw
    refine seq_s st1 (seq_s st2 (seq_s (sWhile_of lp) ?_))
    refine seq_rt (if_t (qt_s (tOf_s (op2_s (call1_s bref0 len_L) rfl ap_gt) (by
      show some _ = _
      rw [List.length_cons, decide_eq_true (by omega)]))) ?_)
    refine seq_s (set_s (v := .dat (.int c)) (ρ1 := [.ref 1, .val (.int many), .ref 0, .no, .no]) (qx_s (op2_s bref0 rfl (atI_nat' (m := 0) (by simp))))) ?_
    refine seq_s (ρ' := [.ref 1, .val (.int many), .ref 0, .val (.int c), .no]) (S' := S2 (c.fdiv many :: cs) seed) (setIxS_s (n := 0) (m := 0) (k := 0) (v := .dat (.int (c.fdiv many))) (xs := (c :: cs).map fun c => SV.dat (.int c)) (ys := (c :: cs).map fun c => SV.dat (.int c)) (qx_s (op2_s rfl rfl (ap_fdivI mne))) rfl (qx_s rfl) rfl ?_) ?_
    · unfold ixN
      rw [if_pos (by omega), if_pos (by simp)]
      rfl
    · exact ret_s (qx_s (op2_s (call1_s rfl ap_intI) rfl (ap_modI mne)))
theorem pick_ok {α : Type} {cells : List Int} {seed : Int} {xs : List α} {c : α → D} (hs : SeedOk seed) (h : 0 < xs.length) : ∃ x cells' seed', x ∈ xs ∧ F__law_pick [.ref 1, .val (.list (xs.map c))] (S2 cells seed) = some (.dat (c x), S2 cells' seed') ∧ SeedOk seed' := by
  obtain ⟨v, cells', seed', e, h1, h2, h3⟩ := draw_ok (cells := cells) hs (many := xs.length) (by omega)
  obtain ⟨m, rfl⟩ := Int.eq_ofNat_of_zero_le h2
  have hm : m < xs.length := by omega
  refine ⟨xs[m], cells', seed', List.getElem_mem hm, fnF_s ?_, h1⟩
  unfold t__law_pick
  refine ret_s (xop2_s (qx_s rfl) (callS_s (eva_s rfl (eva_s (qx_s (call1_s rfl len_L)) rfl)) rfl e) ?_)
  rw [ap_ixL, atI_nat' (by simpa using hm)]
  simp
end K21
namespace K21
open PySem PySem.Spec PyProof.Rows L2 DL
theorem lcx_ok {bd : BF} {f : XF} {ρ : En} {P : Int → Prop} : ∀ (ds : List D) (cells : List Int) (seed : Int), SeedOk seed →
    (∀ d ∈ ds, ∀ (cells : List Int) (seed : Int), SeedOk seed → ∃ ρ1, bd d ρ = some ρ1 ∧ ∃ x ρ2 cells' seed', f ρ1 (S2 cells seed) = some (.dat (.int x), ρ2, S2 cells' seed') ∧ P x ∧ SeedOk seed') →
    ∃ (xs : List Int) (cells' : List Int) (seed' : Int), lcX bd tYesX f ρ ds (S2 cells seed) = some (xs.map .int, S2 cells' seed') ∧ xs.length = ds.length ∧ (∀ x ∈ xs, P x) ∧ SeedOk seed'
  | [], cells, seed, hs, _ => ⟨[], cells, seed, rfl, rfl, fun x h => (by cases h), hs⟩
  | d :: ds, cells, seed, hs, h => by
    obtain ⟨ρ1, e1, x, ρ2, c1, s1, e2, hx, hs1⟩ := h d List.mem_cons_self cells seed hs
    obtain ⟨xs, c2, s2, e3, hl, hp, hs2⟩ := lcx_ok ds c1 s1 hs1 fun d' hd => h d' (List.mem_cons_of_mem _ hd)
    refine ⟨x :: xs, c2, s2, ?_, by rw [List.length_cons, List.length_cons, hl], fun y hy => ?_, hs2⟩
    · show (bd d ρ).bind _ = _
      rw [e1, Option.bind_some, show tYesX ρ1 (S2 cells seed) = some (true, ρ1, S2 cells seed) from rfl, Option.bind_some, if_pos rfl]
      show (f ρ1 (S2 cells seed)).bind _ = _
      rw [e2, Option.bind_some]
      show (lcX bd tYesX f ρ ds (S2 c1 s1)).map _ = _
      rw [e3]
      rfl
    · rcases List.mem_cons.mp hy with e | hy
      · rw [e]; exact hx
      · exact hp y hy
theorem pow_s {a : Int} {k : Nat} (hk : k ≤ 1000000) (ha : a.natAbs < 2 ^ 64) : powD (.int a) (.int (k : Int)) = some (.int (a ^ k)) := by
  unfold powD
  dsimp only
  rw [if_pos ⟨by omega, by omega, ha⟩]
  simp
theorem number_ok {cells : List Int} {seed : Int} {great : Bool} (hs : SeedOk seed) : ∃ x cells' seed', F__law_number [.ref 1, .val (.bool great)] (S2 cells seed) = some (.dat (.int x), S2 cells' seed') ∧ SeedOk seed' ∧ x.natAbs < 2 ^ 134 := by
  have small : ∀ {cells : List Int} {seed : Int}, SeedOk seed → ∃ x cells' seed', xCallS F__law_pick [.ev (xVar 0), .ev (qx (eLst [(eC (.int 0)), (eC (.int 0)), (eC (.int 0)), (eC (.int 1)), (eC (.int 1)), (eC (.int 1)), (op1 negD (eC (.int 1))), (eC (.int 2)), (op1 negD (eC (.int 2))), (eC (.int 3)), (op1 negD (eC (.int 7))), (eC (.int 10000))]))] [.ref 1, .val (.bool great)] (S2 cells seed) = some (.dat (.int x), [.ref 1, .val (.bool great)], S2 cells' seed') ∧ SeedOk seed' ∧ x.natAbs < 2 ^ 134 := fun {cells seed} hs => by
    obtain ⟨x, c1, s1, hx, e, hs1⟩ := pick_ok (cells := cells) (c := PyData.int) (xs := [0, 0, 0, 1, 1, 1, -1, 2, -2, 3, -7, 10000]) hs (by decide)
    refine ⟨x, c1, s1, callS_s (eva_s rfl (eva_s (qx_s rfl) rfl)) rfl e, hs1, ?_⟩
    have : ∀ y ∈ ([0, 0, 0, 1, 1, 1, -1, 2, -2, 3, -7, 10000] : List Int), y.natAbs < 2 ^ 134 := by decide
    exact this x hx
  cases great with
  | false =>
    obtain ⟨x, c1, s1, e, h1, h2⟩ := small (cells := cells) hs
    refine ⟨x, c1, s1, fnF_s ?_, h1, h2⟩
    unfold t__law_number
    exact seq_s (if_f (xand_f (qt_s (tOf_s rfl rfl))) rfl) (ret_s e)
  | true =>
    obtain ⟨v, c1, s1, e1, hs1, hv0, hv3⟩ := draw_ok (cells := cells) (many := 3) hs (by omega)
    have tt : xtAnd (qt (tOf (eVar 1) truD)) (xtOf (xop2 eqD (xCallS F__law_draw [.ev (xVar 0), .ev (qx (eC (.int 3)))]) (qx (eC (.int 0)))) boolD) [.ref 1, .val (.bool true)] (S2 cells seed) = some (v == 0, [.ref 1, .val (.bool true)], S2 c1 s1) :=
      xand_t (qt_s (tOf_s rfl rfl)) (xtOf_s (xop2_s (callS_s (eva_s rfl (eva_s (qx_s rfl) rfl)) rfl e1) (qx_s rfl) ap_eqI) rfl)
    by_cases h0 : v = 0
    · have p40 : powD (.int 10) (.int 40) = some (.int (10 ^ 40)) := pow_s (a := 10) (k := 40) (by omega) (by decide)
      have m40 : mulD (.int 2) (.int (10 ^ 40)) = some (.int (2 * 10 ^ 40)) := mul_ok (n := 2) (m := 134) (by decide) (by decide) (by omega)
      obtain ⟨u, c2, s2, e2, hs2, hu0, hu1⟩ := draw_ok (cells := c1) (many := 2 * 10 ^ 40) hs1 (by decide)
      refine ⟨u - 10 ^ 40, c2, s2, fnF_s ?_, hs2, ?_⟩
      · unfold t__law_number
        have t0 := tt
        rw [h0] at t0
        refine seq_rt (if_t t0 (ret_s (xop2_s (callS_s (eva_s rfl (eva_s (qx_s (op2_s rfl (op2_s rfl rfl p40) m40)) rfl)) rfl e2) (qx_s (op2_s rfl rfl p40)) ap_subI)))
      · have a1 : (2 : Nat) ^ 134 = 21778071482940061661655974875633165533184 := by decide
        have a2 : (10 : Int) ^ 40 = 10000000000000000000000000000000000000000 := by decide
        rw [a2] at hu1 ⊢
        omega
    · obtain ⟨x, c2, s2, e, h1, h2⟩ := small (cells := c1) hs1
      refine ⟨x, c2, s2, fnF_s ?_, h1, h2⟩
      unfold t__law_number
      have t0 := tt
      rw [show (v == 0) = false by simpa using h0] at t0
      exact seq_s (if_f t0 rfl) (ret_s e)
/-! mixed rows -/
def mixedP (rows : List (List Int)) (parts : List Int) (w : Nat) : List Int := (List.range w).map fun k => ((parts.zip rows).map fun q => q.1 * nth q.2 k).sum
def RdC (c : Cel) (d : D) : Prop := c = .val d ∨ c = .bor d
theorem RdC.lend {c : Cel} {d : D} (h : RdC c d) : RdC (lendC c) d := by rcases h with rfl | rfl <;> simp [RdC]
theorem RdC.b0 {c : Cel} {d : D} {ρ : En} {S : Sto} (h : RdC c d) : bVar 0 (c :: ρ) S = some d := by rcases h with rfl | rfl <;> rfl
theorem RdC.b1 {c c0 : Cel} {d : D} {ρ : En} {S : Sto} (h : RdC c d) : bVar 1 (c0 :: c :: ρ) S = some d := by rcases h with rfl | rfl <;> rfl
theorem zipD_rows (ps : List Int) (rows : List (List Int)) : zipD (ps.map .int) (rows.map ZT) = (ps.zip rows).map fun q => .tuple [.int q.1, ZT q.2] := by
  unfold zipD
  rw [List.zip_map, List.map_map]
  rfl
theorem mixed_ok {c0 c1 : Cel} {dp : D} {rows : List (List Int)} {parts : List Int} {w n m : Nat} {S : Sto} (h0 : RdC c0 (RL rows)) (h1 : RdC c1 dp) (hp : IsZ dp parts) (hr : ∀ r ∈ rows, r.length = w ∧ Bits n r) (hb : Bits m parts) (hn : m + n < 100000000) (hw : w ≤ 16) (hl : parts.length ≤ sizeLine) :
    F__law_mixed [c0, c1, .val (.int (w : Int))] S = some (.dat (ZT (mixedP rows parts w)), S) := by
  have hsz : sizeLine = 16777216 := sizeLine_eq
  have inner : ∀ k : Nat, k < w → lcQ (bTup 2 (bCons (bName 3) (bCons (bName 4) bNil))) tYesQ (op2 mulD (eVar 3) (op2 ixD (eVar 4) (eVar 5))) [lendC (lendC c0), lendC (lendC c1), .val (.int (w : Int)), .no, .no, .val (.int (k : Int))] S
      ((parts.zip rows).map fun q => .tuple [.int q.1, ZT q.2]) = some (((parts.zip rows).map fun q => q.1 * nth q.2 k).map .int) := fun k hk => by
    rw [List.map_map]
    refine lc_map fun q hq => ⟨_, rfl, ?_⟩
    obtain ⟨a1, a2⟩ := List.of_mem_zip (show (q.1, q.2) ∈ parts.zip rows from hq)
    obtain ⟨l1, b1⟩ := hr q.2 a2
    have i1 : ixD (ZT q.2) (.int (k : Int)) = some (.int (nth q.2 k)) := by rw [ap_ixT]; exact at_getD (by omega)
    exact op2_s rfl (op2_s rfl rfl i1) (mul_ok (hb _ a1) b1.get hn)
  have outer : lcQ (bName 5) tYesQ (eCall sumD [(eLc (iZipQ [(bVar 1), (bVar 0)]) (bTup 2 (bCons (bName 3) (bCons (bName 4) bNil))) [3, 4] tYesQ (op2 mulD (eVar 3) (op2 ixD (eVar 4) (eVar 5))))]) [lendC c0, lendC c1, .val (.int (w : Int)), .no, .no, .no] S ((List.range w).map fun k : Nat => PyData.int (k : Int))
      = some ((mixedP rows parts w).map .int) := by
    unfold mixedP
    rw [List.map_map]
    refine lc_map fun k hk => ⟨_, rfl, ?_⟩
    have hk := List.mem_range.mp hk
    refine call1_s (elc_s (lc_s (zip_s h1.lend.b1 h0.lend.b0 hp.seq rfl) ?_ ?_)) ap_sum
    · rw [zipD_rows]
      exact inner k hk
    · rw [List.length_map, List.length_map, List.length_zip]
      omega
  unfold F__law_mixed t__law_mixed
  refine fnF_s (ret_s (qx_s (call1_s (elc_s (lc_s (range1_s rfl (by omega)) outer ?_)) ap_tupL)))
  rw [List.length_map]
  unfold mixedP
  rw [List.length_map, List.length_range]
  omega
theorem mixed_length {rows : List (List Int)} {parts : List Int} {w : Nat} : (mixedP rows parts w).length = w := by unfold mixedP; rw [List.length_map, List.length_range]
theorem mixed_bits {rows : List (List Int)} {parts : List Int} {w n m : Nat} (hr : ∀ r ∈ rows, Bits n r) (hb : Bits m parts) (hl : rows.length ≤ 12) : Bits (m + n + 4) (mixedP rows parts w) := fun x hx => by
  unfold mixedP at hx
  obtain ⟨k, _, rfl⟩ := List.mem_map.mp hx
  have h := sum_bits (g := fun q : Int × List Int => q.1 * nth q.2 k) (b := m + n) (xs := parts.zip rows) fun q hq => by
    obtain ⟨a1, a2⟩ := List.of_mem_zip (show (q.1, q.2) ∈ parts.zip rows from hq)
    exact mul_bits (hb _ a1) (hr _ a2).get
  have hz : (parts.zip rows).length ≤ 12 := by rw [List.length_zip]; omega
  have h2 : (parts.zip rows).length * 2 ^ (m + n) ≤ 12 * 2 ^ (m + n) := Nat.mul_le_mul_right _ hz
  have hp : 0 < 2 ^ (m + n) := Nat.pow_pos (by omega)
  rw [Nat.pow_add]
  omega
end K21
namespace K21
open PySem PySem.Spec PyProof.Rows L2 DL
section
variable {ρ ρ1 ρ' : En} {S S1 S' S'' : Sto} {d : D} {fx : XF} {i : Nat} {F : FF} {as : List AX} {vs : List AV} {cs : En} {ds ds0 : List D}
theorem evb_s (h : bVar i ρ S = some d) (h2 : eva as ρ S = some (vs, ρ', S')) : eva (.bo i :: as) ρ S = some (.sl i :: vs, ρ', S') := by
  show (bVar i ρ S).bind _ = _
  rw [h]
  show (eva as ρ S).map _ = _
  rw [h2]
  rfl
theorem callP_s (h3 : eva as ρ S = some (vs, ρ1, S1)) (h4 : celsA ρ1 vs = some cs) (hn : noRef vs = true) (h5 : F cs [] = some (.dat d, S'')) : xCallP F as ρ S = some (.dat d, ρ1, S1) := by
  show (eva as ρ S).bind _ = _
  rw [h3]
  show (celsA ρ1 vs).bind _ = _
  rw [h4]
  show (if noRef vs = true then _ else _) = _
  rw [if_pos hn]
  show ((F cs []).bind _).map _ = _
  rw [h5]
  rfl
theorem app_s (h1 : ownL ρ i = some ds0) (h2 : fx ρ S = some (.dat d, ρ1, S1)) (h3 : ownL ρ1 i = some ds) (h4 : ds.length < sizeLine) : xApp i fx ρ S = some (.dat .none, ρ1.set i (.own (.list (ds ++ [d]))), S1) := by
  show (ownL ρ i).bind _ = _
  rw [h1]
  show (fx ρ S).bind _ = _
  rw [h2]
  show (ownL ρ1 i).bind _ = _
  rw [h3]
  exact if_pos h4
theorem ixRange1_s {v : Nat} (h : fx ρ S = some (.dat (.int (v : Int)), ρ1, S1)) (hv : v < 2 ^ 62) : ixRange [fx] ρ S = some ((List.range v).map (fun k : Nat => PyData.int (k : Int)), ρ1, S1) := by
  show (xevs [fx] ρ S).bind _ = _
  rw [show xevs [fx] ρ S = some ([.int (v : Int)], ρ1, S1) by
    show (fx ρ S).bind _ = _
    rw [h]
    rfl]
  rw [Option.bind_some, rangeOf_nat hv]
  rfl
end
/-- draw as a call in an expression -/
theorem xdraw_s {ρ : En} {c : Cel} {cells : List Int} {seed many v : Int} {S' : Sto} {f : EF} {i : Nat} {ρ0 : En} (hv : xVar i ρ0 (S2 cells seed) = some (.ref 1, ρ0, S2 cells seed)) (hf : f ρ0 (S2 cells seed) = some (.int many)) (e : F__law_draw [.ref 1, .val (.int many)] (S2 cells seed) = some (.dat (.int v), S')) :
    xCallS F__law_draw [.ev (xVar i), .ev (qx f)] ρ0 (S2 cells seed) = some (.dat (.int v), ρ0, S') := callS_s (eva_s hv (eva_s (qx_s hf) rfl)) rfl e
def RowsOk (w : Nat) (rows : List (List Int)) : Prop := rows.length ≤ 12 ∧ ∀ r ∈ rows, r.length = w ∧ Bits (140 + 8 * rows.length) r
theorem RowsOk.app {w : Nat} {rows : List (List Int)} {r : List Int} (h : RowsOk w rows) (hl : rows.length < 12) (h1 : r.length = w) (h2 : Bits (148 + 8 * rows.length) r) : RowsOk w (rows ++ [r]) := by
  refine ⟨by rw [List.length_append, List.length_singleton]; omega, fun r' hr => ?_⟩
  rw [List.length_append, List.length_singleton]
  rcases List.mem_append.mp hr with hr | hr
  · exact ⟨(h.2 r' hr).1, (h.2 r' hr).2.mono (by omega)⟩
  · rw [List.mem_singleton.mp hr]
    exact ⟨h1, h2.mono (by omega)⟩
theorem rows_step {w turn : Nat} {great : Bool} {rows : List (List Int)} {cells : List Int} {seed : Int} {c5 c6 c7 : Cel} (hs : SeedOk seed) (hr : RowsOk w rows) (hl : rows.length < 12) (hw : w ≤ 16) :
    ∃ r d5 cells' seed', b__law_rows_1 [.ref 1, .val (.int (w : Int)), .val (.bool great), .own (RL rows), .val (.int (turn : Int)), c5, c6, c7] (S2 cells seed) = some (.nx [.ref 1, .val (.int (w : Int)), .val (.bool great), .own (RL (rows ++ [r])), .val (.int (turn : Int)), d5, c6, c7] (S2 cells' seed')) ∧ SeedOk seed' ∧ RowsOk w (rows ++ [r]) := by
  have hsz : sizeLine = 16777216 := sizeLine_eq
  obtain ⟨kd, c1, s1, e1, hs1, hk0, hk4⟩ := draw_ok (cells := cells) (many := 4) hs (by omega)
  have st1 : sSet 5 (xCallS F__law_draw [.ev (xVar 0), .ev (qx (eC (.int 4)))]) [.ref 1, .val (.int (w : Int)), .val (.bool great), .own (RL rows), .val (.int (turn : Int)), c5, c6, c7] (S2 cells seed)
      = some (.nx [.ref 1, .val (.int (w : Int)), .val (.bool great), .own (RL rows), .val (.int (turn : Int)), .val (.int kd), c6, c7] (S2 c1 s1)) :=
    set_s (ρ1 := [.ref 1, .val (.int (w : Int)), .val (.bool great), .own (RL rows), .val (.int (turn : Int)), c5, c6, c7]) (xdraw_s (c := .no) (ρ := []) rfl rfl e1)
  have t1 : tOf (op2 eqD (eVar 5) (eC (.int 0))) boolD [.ref 1, .val (.int (w : Int)), .val (.bool great), .own (RL rows), .val (.int (turn : Int)), .val (.int kd), c6, c7] (S2 c1 s1) = some (kd == 0) := tOf_s (op2_s rfl rfl ap_eqI) rfl
  have t2 : tOf (op2 gtD (eCall lenD [(bVar 3)]) (eC (.int 0))) boolD [.ref 1, .val (.int (w : Int)), .val (.bool great), .own (RL rows), .val (.int (turn : Int)), .val (.int kd), c6, c7] (S2 c1 s1) = some (decide ((0 : Int) < rows.length)) := tOf_s (op2_s (call1_s rfl len_L) rfl ap_gt) rfl
  have t3 : tOf (op2 eqD (eVar 5) (eC (.int 1))) boolD [.ref 1, .val (.int (w : Int)), .val (.bool great), .own (RL rows), .val (.int (turn : Int)), .val (.int kd), c6, c7] (S2 c1 s1) = some (kd == 1) := tOf_s (op2_s rfl rfl ap_eqI) rfl
  have lR : (rows.map ZT).length < sizeLine := by rw [List.length_map]; omega
  have fin : ∀ {r : List Int} {c2 : List Int} {s2 : Int} {fx : XF}, fx [.ref 1, .val (.int (w : Int)), .val (.bool great), .own (RL rows), .val (.int (turn : Int)), .val (.int kd), c6, c7] (S2 c1 s1) = some (.dat (ZT r), [.ref 1, .val (.int (w : Int)), .val (.bool great), .own (RL rows), .val (.int (turn : Int)), .val (.int kd), c6, c7], S2 c2 s2) →
      sExpr (xApp 3 fx) [.ref 1, .val (.int (w : Int)), .val (.bool great), .own (RL rows), .val (.int (turn : Int)), .val (.int kd), c6, c7] (S2 c1 s1) = some (.nx [.ref 1, .val (.int (w : Int)), .val (.bool great), .own (RL (rows ++ [r])), .val (.int (turn : Int)), .val (.int kd), c6, c7] (S2 c2 s2)) := fun {r c2 s2 fx} e => by
    have h := expr_s (app_s (i := 3) rfl e rfl lR)
    rw [h]
    show some (Rs.nx [.ref 1, .val (.int (w : Int)), .val (.bool great), .own (.list (rows.map ZT ++ [ZT r])), .val (.int (turn : Int)), .val (.int kd), c6, c7] _) = _
    rw [show rows.map ZT ++ [ZT r] = (rows ++ [r]).map ZT by rw [List.map_append]; rfl]
  by_cases hmix : kd = 0 ∧ 0 < rows.length
  · obtain ⟨h0, hpos⟩ := hmix
    obtain ⟨ps, c2, s2, e2, pl, pp, hs2⟩ := lcx_ok (bd := bName 6) (f := xCallS F__law_pick [.ev (xVar 0), .ev (qx (eLst [(eC (.int 0)), (eC (.int 0)), (eC (.int 1)), (op1 negD (eC (.int 1))), (eC (.int 2))]))]) (ρ := [.ref 1, .val (.int (w : Int)), .val (.bool great), .bor (RL rows), .val (.int (turn : Int)), .val (.int kd), .no, lendC c7]) (P := fun x => x.natAbs < 2 ^ 2) (rows.map ZT) c1 s1 hs1 fun d hd cells seed hs => by
      obtain ⟨x, c1', s1', hx, e, hs'⟩ := pick_ok (cells := cells) (c := PyData.int) (xs := [0, 0, 1, -1, 2]) hs (by decide)
      have : ∀ y ∈ ([0, 0, 1, -1, 2] : List Int), y.natAbs < 2 ^ 2 := by decide
      exact ⟨_, rfl, x, _, c1', s1', callS_s (eva_s rfl (eva_s (qx_s rfl) rfl)) rfl e, this x hx, hs'⟩
    have hl2 : (ps.map PyData.int).length ≤ sizeLine := by rw [List.length_map, pl, List.length_map]; omega
    have mx := mixed_ok (S := []) (c0 := .bor (RL rows)) (c1 := .val (ZL ps)) (.inr rfl) (.inl rfl) (.inl rfl : IsZ (ZL ps) ps) hr.2 (m := 2) (fun x hx => pp x hx) (by omega) hw (by rw [List.length_map] at hl2; exact hl2)
    refine ⟨mixedP rows ps w, .val (.int kd), c2, s2, ?_, hs2, hr.app hl mixed_length ((mixed_bits (fun r h => (hr.2 r h).2) (m := 2) (fun x hx => pp x hx) hr.1).mono (by omega))⟩
    unfold b__law_rows_1
    refine seq_s st1 (if_t (qt_s (and_t (by rw [t1, h0]; rfl) (by rw [t2, decide_eq_true (by omega)]))) (fin ?_))
    exact callP_s (evb_s rfl (eva_s (xF_s (ylcX_s (ρ1 := [.ref 1, .val (.int (w : Int)), .val (.bool great), .own (RL rows), .val (.int (turn : Int)), .val (.int kd), c6, c7]) (ds := rows.map ZT) rfl e2 hl2)) (eva_s (qx_s rfl) rfl))) rfl rfl mx
  · have tand : tAndQ (tOf (op2 eqD (eVar 5) (eC (.int 0))) boolD) (tOf (op2 gtD (eCall lenD [(bVar 3)]) (eC (.int 0))) boolD) [.ref 1, .val (.int (w : Int)), .val (.bool great), .own (RL rows), .val (.int (turn : Int)), .val (.int kd), c6, c7] (S2 c1 s1) = some false := by
      by_cases h0 : kd = 0
      · refine and_t (by rw [t1, h0]; rfl) ?_
        rw [t2, decide_eq_false (by omega)]
      · exact and_f (by rw [t1]; simp [h0])
    by_cases h1 : kd = 1
    · obtain ⟨xs, c2, s2, e2, pl, pp, hs2⟩ := lcx_ok (bd := bName 7) (f := xCall intD1 [(xop2 eqD (xCallS F__law_draw [.ev (xVar 0), .ev (qx (eC (.int 2)))]) (qx (eC (.int 0))))]) (ρ := [.ref 1, .val (.int (w : Int)), .val (.bool great), .bor (RL rows), .val (.int (turn : Int)), .val (.int kd), lendC c6, .no]) (P := fun x => x.natAbs < 2 ^ 134) ((List.range w).map fun k : Nat => PyData.int (k : Int)) c1 s1 hs1 fun d hd cells seed hs => by
        obtain ⟨v, c1', s1', e, hs', _, _⟩ := draw_ok (cells := cells) (many := 2) hs (by omega)
        refine ⟨_, rfl, _, _, c1', s1', xcall1_s (xop2_s (xdraw_s (c := .no) (ρ := []) rfl rfl e) (qx_s rfl) ap_eqI) ap_intB, ?_, hs'⟩
        split <;> decide
      have pl' : xs.length = w := by rw [pl, List.length_map, List.length_range]
      refine ⟨xs, .val (.int kd), c2, s2, ?_, hs2, hr.app hl pl' ((show Bits 134 xs from pp).mono (by omega))⟩
      unfold b__law_rows_1
      refine seq_s st1 (if_f (qt_s tand) (if_t (qt_s (by rw [t3, h1]; rfl)) (fin ?_)))
      exact xcall1_s (xF_s (ylcX_s (ρ1 := [.ref 1, .val (.int (w : Int)), .val (.bool great), .own (RL rows), .val (.int (turn : Int)), .val (.int kd), c6, c7]) (ixRange1_s (qx_s rfl) (by omega)) e2 (by rw [List.length_map]; omega))) ap_tupL
    · obtain ⟨xs, c2, s2, e2, pl, pp, hs2⟩ := lcx_ok (bd := bName 7) (f := xCallS F__law_number [.ev (xVar 0), .ev (qx (eVar 2))]) (ρ := [.ref 1, .val (.int (w : Int)), .val (.bool great), .bor (RL rows), .val (.int (turn : Int)), .val (.int kd), lendC c6, .no]) (P := fun x => x.natAbs < 2 ^ 134) ((List.range w).map fun k : Nat => PyData.int (k : Int)) c1 s1 hs1 fun d hd cells seed hs => by
        obtain ⟨x, c1', s1', e, hs', hx⟩ := number_ok (cells := cells) (great := great) hs
        exact ⟨_, rfl, x, _, c1', s1', callS_s (eva_s rfl (eva_s (qx_s rfl) rfl)) rfl e, hx, hs'⟩
      have pl' : xs.length = w := by rw [pl, List.length_map, List.length_range]
      refine ⟨xs, .val (.int kd), c2, s2, ?_, hs2, hr.app hl pl' ((show Bits 134 xs from pp).mono (by omega))⟩
      unfold b__law_rows_1
      refine seq_s st1 (if_f (qt_s tand) (if_f (qt_s (by rw [t3]; simp [h1])) (fin ?_)))
      exact xcall1_s (xF_s (ylcX_s (ρ1 := [.ref 1, .val (.int (w : Int)), .val (.bool great), .own (RL rows), .val (.int (turn : Int)), .val (.int kd), c6, c7]) (ixRange1_s (qx_s rfl) (by omega)) e2 (by rw [List.length_map]; omega))) ap_tupL
theorem rows_loop {w : Nat} {great : Bool} (hw : w ≤ 16) : ∀ (ts : List Nat) (rows : List (List Int)) (cells : List Int) (seed : Int) (c4 c5 c6 c7 : Cel), SeedOk seed → RowsOk w rows → rows.length + ts.length ≤ 12 →
    ∃ rows' d4 d5 cells' seed', sFor (bName 4) b__law_rows_1 (ts.map fun k : Nat => PyData.int (k : Int)) [.ref 1, .val (.int (w : Int)), .val (.bool great), .own (RL rows), c4, c5, c6, c7] (S2 cells seed)
      = some (.nx [.ref 1, .val (.int (w : Int)), .val (.bool great), .own (RL rows'), d4, d5, c6, c7] (S2 cells' seed')) ∧ SeedOk seed' ∧ RowsOk w rows'
  | [], rows, cells, seed, c4, c5, c6, c7, hs, hr, _ => ⟨rows, c4, c5, cells, seed, rfl, hs, hr⟩
  | t :: ts, rows, cells, seed, c4, c5, c6, c7, hs, hr, hl => by
    rw [List.length_cons] at hl
    obtain ⟨r, d5, c1, s1, e1, hs1, hr1⟩ := rows_step (turn := t) (great := great) (cells := cells) (c5 := c5) (c6 := c6) (c7 := c7) hs hr (by omega) hw
    obtain ⟨rows', d4, d5', c2, s2, e2, hs2, hr2⟩ := rows_loop hw ts (rows ++ [r]) c1 s1 (.val (.int (t : Int))) d5 c6 c7 hs1 hr1 (by rw [List.length_append, List.length_singleton]; omega)
    exact ⟨rows', d4, d5', c2, s2, for_s rfl e1 e2, hs2, hr2⟩
theorem rows_ok {cells : List Int} {seed : Int} (hs : SeedOk seed) : ∃ (w : Nat) (rows : List (List Int)) (cells' : List Int) (seed' : Int), F__law_rows [.ref 1] (S2 cells seed) = some (.dat (.tuple [RL rows, .int (w : Int)]), S2 cells' seed') ∧ SeedOk seed' ∧ RowsOk w rows ∧ 1 ≤ w ∧ w ≤ 10 := by
  obtain ⟨v, c1, s1, e1, hs1, h0, h10⟩ := draw_ok (cells := cells) (many := 10) hs (by omega)
  obtain ⟨u, c2, s2, e2, hs2, _, _⟩ := draw_ok (cells := c1) (many := 6) hs1 (by omega)
  obtain ⟨x, c3, s3, e3, hs3, hx0, hx13⟩ := draw_ok (cells := c2) (many := 13) hs2 (by omega)
  obtain ⟨v, rfl⟩ := Int.eq_ofNat_of_zero_le h0
  obtain ⟨x, rfl⟩ := Int.eq_ofNat_of_zero_le hx0
  obtain ⟨rows, d4, d5, c4, s4, e4, hs4, hr⟩ := rows_loop (w := 1 + v) (great := u == 0) (by omega) (List.range x) [] c3 s3 .no .no .no .no hs3 ⟨by simp, fun r h => by cases h⟩ (by rw [List.length_range]; simp; omega)
  refine ⟨1 + v, rows, c4, s4, fnF_s ?_, hs4, hr, by omega, by omega⟩
  unfold t__law_rows
  refine seq_s (ρ' := [.ref 1, .val (.int ((1 + v : Nat) : Int)), .no, .no, .no, .no, .no, .no]) (S' := S2 c1 s1) (by
    have h := set_s (i := 1) (ρ := [.ref 1, .no, .no, .no, .no, .no, .no, .no]) (xop2_s (F := addD) (qx_s (f := eC (.int 1)) rfl) (xdraw_s (i := 0) (c := .no) (ρ := []) (f := eC (.int 10)) rfl rfl e1) ap_addI)
    rw [show ((1 + v : Nat) : Int) = 1 + (v : Int) by omega]
    exact h) ?_
  refine seq_s (set_s (ρ1 := [.ref 1, .val (.int ((1 + v : Nat) : Int)), .no, .no, .no, .no, .no, .no]) (xop2_s (xdraw_s (i := 0) (c := .no) (ρ := []) rfl rfl e2) (qx_s rfl) ap_eqI)) ?_
  refine seq_s (ownF_s (d := .list []) (ρ1 := [.ref 1, .val (.int ((1 + v : Nat) : Int)), .val (.bool (u == 0)), .no, .no, .no, .no, .no]) (S1 := S2 c2 s2) rfl) ?_
  refine seq_s (forI_s (ρ1 := [.ref 1, .val (.int ((1 + v : Nat) : Int)), .val (.bool (u == 0)), .own (.list []), .no, .no, .no, .no]) (S1 := S2 c3 s3) (ixRange1_s (xdraw_s (i := 0) (c := .no) (ρ := []) rfl rfl e3) (by omega)) e4) ?_
  exact ret_s (ρ1 := [.ref 1, .val (.int ((1 + v : Nat) : Int)), .val (.bool (u == 0)), .val (RL rows), d4, d5, .no, .no]) (qx_s (tup_s (evs1_s rfl (evs1_s rfl rfl))))
end K21
namespace K21
open PySem PySem.Spec PyProof.Rows L2 DL
section
variable {ρ ρ1 ρ2 ρ3 : En} {S S1 S2' S3 : Sto} {d d0 z : D} {fi fv : XF} {i k : Nat} {j : Int} {F : D → D → Option D} {ds ds0 ds1 : List D}
theorem augIx_s (h1 : ownL ρ i = some ds) (h2 : fi ρ S = some (.dat (.int j), ρ1, S1)) (h3 : ownL ρ1 i = some ds0) (h4 : atI ds0 j = some d0) (h5 : fv ρ1 S1 = some (.dat d, ρ2, S2')) (h6 : F d0 d = some z) (h7 : ownL ρ2 i = some ds1) (h8 : ixN ds1.length j = some k) :
    sAugIx i F fi fv ρ S = some (.nx (ρ2.set i (.own (.list (ds1.set k z)))) S2') := by
  show (ownL ρ i).bind _ = _
  rw [h1]
  show (fi ρ S).bind _ = _
  rw [h2]
  show (ownL ρ1 i).bind _ = _
  rw [h3]
  show (atI ds0 j).bind _ = _
  rw [h4]
  show (fv ρ1 S1).bind _ = _
  rw [h5]
  show (F d0 d).bind _ = _
  rw [h6]
  show (ownL ρ2 i).bind _ = _
  rw [h7]
  show (ixN ds1.length j).map _ = _
  rw [h8]
  rfl
theorem yList_s {fx : XF} (h : fx ρ S = some (.dat d, ρ1, S1)) (h2 : seqOf d = some ds) : yList fx ρ S = some (.list ds, ρ1, S1) := by
  show (fx ρ S).bind _ = _
  rw [h]
  show (seqOf d).map _ = _
  rw [h2]
  rfl
end
theorem ixN_nat {n m : Nat} (h : m < n) : ixN n (m : Int) = some m := by
  unfold ixN
  rw [if_pos (by omega), if_pos (by omega)]
  simp
theorem goal_ok {w : Nat} {rows : List (List Int)} {cells : List Int} {seed : Int} (hs : SeedOk seed) (hr : RowsOk w rows) (h1 : 1 ≤ w) (hw : w ≤ 10) :
    ∃ (goal : List Int) (cells' : List Int) (seed' : Int), F__law_goal [.ref 1, .val (RL rows), .val (.int (w : Int))] (S2 cells seed) = some (.dat (ZT goal), S2 cells' seed') ∧ SeedOk seed' ∧ goal.length = w ∧ Bits 260 goal := by
  have hsz : sizeLine = 16777216 := sizeLine_eq
  obtain ⟨kd, c1, s1, e1, hs1, hk0, hk4⟩ := draw_ok (cells := cells) (many := 4) hs (by omega)
  have st1 : sSet 3 (xCallS F__law_draw [.ev (xVar 0), .ev (qx (eC (.int 4)))]) [.ref 1, .val (RL rows), .val (.int (w : Int)), .no, .no, .no, .no, .no] (S2 cells seed)
      = some (.nx [.ref 1, .val (RL rows), .val (.int (w : Int)), .val (.int kd), .no, .no, .no, .no] (S2 c1 s1)) :=
    set_s (ρ1 := [.ref 1, .val (RL rows), .val (.int (w : Int)), .no, .no, .no, .no, .no]) (xdraw_s (c := .no) (ρ := []) rfl rfl e1)
  have tk : ∀ (m : Int) (c6 : Cel) (S : Sto), tOf (op2 eqD (eVar 3) (eC (.int m))) boolD [.ref 1, .val (RL rows), .val (.int (w : Int)), .val (.int kd), .no, .no, c6, .no] S = some (kd == m) := fun m c6 S => tOf_s (op2_s rfl rfl ap_eqI) rfl
  by_cases k0 : kd = 0
  · obtain ⟨v, c2, s2, e2, hs2, hv0, hv1⟩ := draw_ok (cells := c1) (many := w) hs1 (by omega)
    obtain ⟨v, rfl⟩ := Int.eq_ofNat_of_zero_le hv0
    refine ⟨unitV w v, c2, s2, fnF_s ?_, hs2, unit_length, (unit_bits (n := 1) (Nat.le_refl _)).mono (by omega)⟩
    unfold t__law_goal
    refine seq_s st1 (seq_rt (if_t (qt_s (by rw [tk, k0]; rfl)) (seq_s (set_s (ρ1 := [.ref 1, .val (RL rows), .val (.int (w : Int)), .val (.int kd), .no, .no, .no, .no]) (xdraw_s (c := .no) (ρ := []) rfl rfl e2)) ?_)))
    exact ret_s (qx_s (call1_s (elc_s (lc_s (range1_s rfl (by omega)) (unit_lc (fun _ => rfl) (fun _ => rfl)) (by rw [List.length_map, unit_length]; omega))) ap_tupL))
  · have f0 : sIf (qt (tOf (op2 eqD (eVar 3) (eC (.int 0))) boolD)) (sSeq (sSet 4 (xCallS F__law_draw [.ev (xVar 0), .ev (qx (eVar 2))])) (sRet (qx (eCall tupleC [(eLc (iRange [(eVar 2)]) (bName 5) [5] tYesQ (eCall intD1 [(op2 eqD (eVar 5) (eVar 4))]))])))) sNil [.ref 1, .val (RL rows), .val (.int (w : Int)), .val (.int kd), .no, .no, .no, .no] (S2 c1 s1)
        = some (.nx [.ref 1, .val (RL rows), .val (.int (w : Int)), .val (.int kd), .no, .no, .no, .no] (S2 c1 s1)) := if_f (qt_s (by rw [tk]; simp [k0])) rfl
    by_cases k1 : kd = 1
    · obtain ⟨xs, c2, s2, e2, pl, pp, hs2⟩ := lcx_ok (bd := bName 5) (f := xCallS F__law_number [.ev (xVar 0), .ev (qx (eC (.bool false)))]) (ρ := [.ref 1, .val (RL rows), .val (.int (w : Int)), .val (.int kd), .no, .no, .no, .no]) (P := fun x => x.natAbs < 2 ^ 134) ((List.range w).map fun k : Nat => PyData.int (k : Int)) c1 s1 hs1 fun d hd cells seed hs => by
        obtain ⟨x, c1', s1', e, hs', hx⟩ := number_ok (cells := cells) (great := false) hs
        exact ⟨_, rfl, x, _, c1', s1', callS_s (eva_s rfl (eva_s (qx_s rfl) rfl)) rfl e, hx, hs'⟩
      have pl' : xs.length = w := by rw [pl, List.length_map, List.length_range]
      refine ⟨xs, c2, s2, fnF_s ?_, hs2, pl', (show Bits 134 xs from pp).mono (by omega)⟩
      unfold t__law_goal
      refine seq_s st1 (seq_s f0 (seq_rt (if_t (qt_s (by rw [tk, k1]; rfl)) ?_)))
      exact ret_s (xcall1_s (xF_s (ylcX_s (ρ1 := [.ref 1, .val (RL rows), .val (.int (w : Int)), .val (.int kd), .no, .no, .no, .no]) (ixRange1_s (qx_s rfl) (by omega)) e2 (by rw [List.length_map]; omega))) ap_tupL)
    · obtain ⟨ps, c2, s2, e2, pl, pp, hs2⟩ := lcx_ok (bd := bName 7) (f := xCallS F__law_pick [.ev (xVar 0), .ev (qx (eLst [(eC (.int 0)), (eC (.int 1)), (op1 negD (eC (.int 1))), (eC (.int 3)), (eC (.int 12))]))]) (ρ := [.ref 1, .val (RL rows), .val (.int (w : Int)), .val (.int kd), .no, .no, .no, .no]) (P := fun x => x.natAbs < 2 ^ 4) (rows.map ZT) c1 s1 hs1 fun d hd cells seed hs => by
        obtain ⟨x, c1', s1', hx, e, hs'⟩ := pick_ok (cells := cells) (c := PyData.int) (xs := [0, 1, -1, 3, 12]) hs (by decide)
        have : ∀ y ∈ ([0, 1, -1, 3, 12] : List Int), y.natAbs < 2 ^ 4 := by decide
        exact ⟨_, rfl, x, _, c1', s1', callS_s (eva_s rfl (eva_s (qx_s rfl) rfl)) rfl e, this x hx, hs'⟩
      have hrl := hr.1
      have hl2 : (ps.map PyData.int).length ≤ sizeLine := by rw [List.length_map, pl, List.length_map]; omega
      have mx := mixed_ok (S := []) (c0 := .val (RL rows)) (c1 := .val (ZL ps)) (.inl rfl) (.inl rfl) (.inl rfl : IsZ (ZL ps) ps) hr.2 (m := 4) (fun x hx => pp x hx) (by omega) (by omega) (by rw [List.length_map] at hl2; exact hl2)
      have bM : Bits 250 (mixedP rows ps w) := (mixed_bits (fun r h => (hr.2 r h).2) (m := 4) (fun x hx => pp x hx) hr.1).mono (by omega)
      have st3 : sOwnF 6 (yList (xCallP F__law_mixed [.ev (qx (eVar 1)), .ev (xF (yLcX (ixBor 1) (bName 7) [7] tYesX (xCallS F__law_pick [.ev (xVar 0), .ev (qx (eLst [(eC (.int 0)), (eC (.int 1)), (op1 negD (eC (.int 1))), (eC (.int 3)), (eC (.int 12))]))]))), .ev (qx (eVar 2))])) [.ref 1, .val (RL rows), .val (.int (w : Int)), .val (.int kd), .no, .no, .no, .no] (S2 c1 s1)
          = some (.nx [.ref 1, .val (RL rows), .val (.int (w : Int)), .val (.int kd), .no, .no, .own (ZL (mixedP rows ps w)), .no] (S2 c2 s2)) :=
        ownF_s (ρ1 := [.ref 1, .val (RL rows), .val (.int (w : Int)), .val (.int kd), .no, .no, .no, .no]) (yList_s (callP_s (eva_s (qx_s rfl) (eva_s (xF_s (ylcX_s (ρ1 := [.ref 1, .val (RL rows), .val (.int (w : Int)), .val (.int kd), .no, .no, .no, .no]) (ds := rows.map ZT) rfl e2 hl2)) (eva_s (qx_s rfl) rfl))) rfl rfl mx) rfl)
      have f1 : sIf (qt (tOf (op2 eqD (eVar 3) (eC (.int 1))) boolD)) (sRet (xCall tupleC [(xF (yLcX (ixRange [(qx (eVar 2))]) (bName 5) [5] tYesX (xCallS F__law_number [.ev (xVar 0), .ev (qx (eC (.bool false)))])))])) sNil [.ref 1, .val (RL rows), .val (.int (w : Int)), .val (.int kd), .no, .no, .no, .no] (S2 c1 s1)
          = some (.nx [.ref 1, .val (RL rows), .val (.int (w : Int)), .val (.int kd), .no, .no, .no, .no] (S2 c1 s1)) := if_f (qt_s (by rw [tk]; simp [k1])) rfl
      have ml := mixed_length (rows := rows) (parts := ps) (w := w)
      by_cases k2 : kd = 2
      · obtain ⟨v, c3, s3, e3, hs3, hv0, hv1⟩ := draw_ok (cells := c2) (many := w) hs2 (by omega)
        obtain ⟨v, rfl⟩ := Int.eq_ofNat_of_zero_le hv0
        have p30 : powD (.int 10) (.int 30) = some (.int (10 ^ 30)) := pow_s (a := 10) (k := 30) (by omega) (by decide)
        obtain ⟨x, c4, s4, hx, e4, hs4⟩ := pick_ok (cells := c3) (c := PyData.int) (xs := [1, -1, 10 ^ 30]) hs3 (by decide)
        have bx : x.natAbs < 2 ^ 134 := by
          have : ∀ y ∈ ([1, -1, 10 ^ 30] : List Int), y.natAbs < 2 ^ 134 := by decide
          exact this x hx
        have hv : v < w := by omega
        have sv : (mixedP rows ps w).length = w := ml
        refine ⟨(mixedP rows ps w).set v (nth (mixedP rows ps w) v + x), c4, s4, fnF_s ?_, hs4, by rw [List.length_set, ml], fun y hy => ?_⟩
        · unfold t__law_goal
          refine seq_s st1 (seq_s f0 (seq_s f1 (seq_s st3 ?_)))
          refine seq_s (ρ' := [.ref 1, .val (RL rows), .val (.int (w : Int)), .val (.int kd), .no, .no, .own (ZL ((mixedP rows ps w).set v (nth (mixedP rows ps w) v + x))), .no]) (S' := S2 c4 s4) (if_t (qt_s (by rw [tk, k2]; rfl)) ?_) ?_
          · have h := augIx_s (i := 6) (F := iaddD) (ρ := [.ref 1, .val (RL rows), .val (.int (w : Int)), .val (.int kd), .no, .no, .own (ZL (mixedP rows ps w)), .no]) (S := S2 c2 s2) (fv := xCallS F__law_pick [.ev (xVar 0), .ev (qx (eLst [(eC (.int 1)), (op1 negD (eC (.int 1))), (op2 powD (eC (.int 10)) (eC (.int 30)))]))]) rfl (xdraw_s (i := 0) (c := .no) (ρ := []) (f := eVar 2) rfl rfl e3) rfl (at_getD (ns := mixedP rows ps w) (by omega)) (callS_s (eva_s rfl (eva_s (qx_s (lst_s (evs1_s rfl (evs1_s rfl (evs1_s (op2_s rfl rfl p30) rfl))))) rfl)) rfl e4) (z := .int (nth (mixedP rows ps w) v + x)) rfl rfl (ixN_nat (m := v) (by rw [List.length_map]; omega))
            rw [h]
            show some (Rs.nx [.ref 1, .val (RL rows), .val (.int (w : Int)), .val (.int kd), .no, .no, .own (.list (((mixedP rows ps w).map PyData.int).set v (.int (nth (mixedP rows ps w) v + x)))), .no] _) = _
            rw [← List.map_set]
          · exact ret_s (qx_s (call1_s rfl ap_tupL))
        · rcases List.mem_or_eq_of_mem_set hy with hy | hy
          · exact Nat.lt_of_lt_of_le (bM y hy) (Nat.pow_le_pow_right (by omega) (by omega))
          · subst hy
            have b1 := bM.get (k := v)
            have b2 : 2 ^ 134 ≤ 2 ^ 250 := Nat.pow_le_pow_right (by omega) (by omega)
            have b3 : 2 ^ 260 = 1024 * 2 ^ 250 := by rw [show 260 = 10 + 250 by rfl, Nat.pow_add]
            have b4 : (nth (mixedP rows ps w) v + x).natAbs ≤ (nth (mixedP rows ps w) v).natAbs + x.natAbs := Int.natAbs_add_le _ _
            rw [b3]
            generalize 2 ^ 250 = B at *
            omega
      · refine ⟨mixedP rows ps w, c2, s2, fnF_s ?_, hs2, ml, bM.mono (by omega)⟩
        unfold t__law_goal
        refine seq_s st1 (seq_s f0 (seq_s f1 (seq_s st3 (seq_s (if_f (ρ1 := [.ref 1, .val (RL rows), .val (.int (w : Int)), .val (.int kd), .no, .no, .own (ZL (mixedP rows ps w)), .no]) (S1 := S2 c2 s2) (qt_s (by rw [tk]; simp [k2])) rfl) ?_))))
        exact ret_s (qx_s (call1_s rfl ap_tupL))
end K21
namespace K21
open PySem PySem.Spec PyProof.Rows L2 DL
/-! ### equality of rows, kinds -/
theorem lay_ints : ∀ ns : List Int, PyData.canLayAll0 (ns.map .int) = true ∧ PyData.depthAll (ns.map .int) = 0
  | [] => ⟨rfl, rfl⟩
  | n :: ns => by
    obtain ⟨h1, h2⟩ := lay_ints ns
    exact ⟨by show (true && PyData.canLayAll0 (ns.map .int)) = true; rw [h1]; rfl, by show max 0 (PyData.depthAll (ns.map .int)) = 0; rw [h2]; rfl⟩
theorem shaped_ZT (ns : List Int) : SeqAt.shaped (ZT ns) = true := by
  obtain ⟨h1, h2⟩ := lay_ints ns
  show (PyData.canLayAll0 (ns.map .int) && decide (PyData.depthAll (ns.map .int) + 1 ≤ 64)) = true
  rw [h1, h2]
  rfl
theorem eqv_ints : ∀ xs ys : List Int, PyData.eqvAll (xs.map .int) (ys.map .int) = decide (xs = ys)
  | [], [] => rfl
  | [], y :: ys => rfl
  | x :: xs, [] => rfl
  | x :: xs, y :: ys => by
    show ((x == y) && PyData.eqvAll (xs.map .int) (ys.map .int)) = _
    rw [eqv_ints xs ys]
    by_cases h : x = y
    · subst h
      simp
    · simp [h]
theorem eq_ZT (xs ys : List Int) : eqD (ZT xs) (ZT ys) = some (.bool (decide (xs = ys))) := by
  unfold eqD
  rw [if_pos ⟨shaped_ZT xs, shaped_ZT ys⟩]
  show some (PyData.bool (PyData.eqvAll (xs.map .int) (ys.map .int))) = _
  rw [eqv_ints]
theorem kit_int_int : kitB "int" "int" = some true := by decide +kernel
theorem kit_int_bool : kitB "int" "bool" = some false := by decide +kernel
theorem kit_int_tuple : kitB "int" "tuple" = some false := by decide +kernel
theorem kit_int_list : kitB "int" "list" = some false := by decide +kernel
theorem kit_bool_tuple : kitB "bool" "tuple" = some false := by decide +kernel
theorem kit_bool_list : kitB "bool" "list" = some false := by decide +kernel
theorem kit_bool_bool : kitB "bool" "bool" = some true := by decide +kernel
theorem kit_tuple_tuple : kitB "tuple" "tuple" = some true := by decide +kernel
theorem kit_list_tuple : kitB "list" "tuple" = some false := by decide +kernel
theorem kit_list_list : kitB "list" "list" = some true := by decide +kernel
theorem kit_int_str : kitB "int" "str" = some false := by decide +kernel
theorem isi_s {T : String} {f : EF} {ρ : En} {S : Sto} {d : D} {b : Bool} (h : f ρ S = some d) (k : kitB (tyD d) T = some b) : eIsi T f ρ S = some (.bool b) := by
  show (f ρ S).bind _ = _
  rw [h]
  show (kitB (tyD d) T).map _ = _
  rw [k]
  rfl
theorem whole_ok {d : D} {ns : List Int} {S : Sto} (h : IsZ d ns) (hl : ns.length ≤ sizeLine) : F__law_whole [.val d] S = some (.dat (.bool true), S) := by
  have lc : lcQ (bName 1) (tOrQ (tNotQ (tOf (eIsi "int" (eVar 1)) truD)) (tOf (eIsi "bool" (eVar 1)) truD)) (eVar 1) [.val d, .no] S (ns.map .int) = some ([] : List D) := by
    have := lc_filter (S := S) (t := tOrQ (tNotQ (tOf (eIsi "int" (eVar 1)) truD)) (tOf (eIsi "bool" (eVar 1)) truD)) (f := eVar 1) (bd := bName 1) (ρ := [.val d, .no]) (c := PyData.int) (F := PyData.int) (p := fun _ => false) (ds := ns) fun x hx =>
      ⟨_, rfl, or_f (not_s (x := true) (tOf_s (isi_s (d := .int x) rfl kit_int_int) rfl)) (tOf_s (isi_s (d := .int x) rfl kit_int_bool) rfl), fun z => (by cases z)⟩
    rw [this]
    simp
  have hi : itemsD d = some (ns.map .int) := by rcases h with rfl | rfl <;> rfl
  unfold F__law_whole t__law_whole
  exact fnF_s (ret_s (qx_s (op2_s (call1_s (elc_s (lc_s (iOf_s rfl hi) lc (Nat.zero_le _))) ap_lenL) rfl ap_eqI)))
/-! ### the state -/
theorem small21 {s : Int} (h0 : 0 ≤ s) (h1 : s < 1000010) : s.natAbs < 2 ^ 21 := by
  have : (2 : Nat) ^ 21 = 2097152 := by decide
  omega
theorem state_loop {d : D} : ∀ (ns : List Int) (seed : Int) (c2 : Cel), ∃ c2', sFor (bName 2) b__law_state_1 (ns.map .int) [.val d, .val (.int seed), c2] [] = some (.nx [.val d, .val (.int (ns.foldl (fun s c => (s * 31 + c).fmod 1000003) seed)), c2'] []) ∨ ¬ seed.natAbs < 2 ^ 21
  | [], seed, c2 => ⟨c2, .inl rfl⟩
  | n :: ns, seed, c2 => by
    by_cases hs : seed.natAbs < 2 ^ 21
    · have hm := fmod_in (a := seed * 31 + n) (m := 1000003) (by omega)
      obtain ⟨c2', e⟩ := state_loop ns ((seed * 31 + n).fmod 1000003) (.val (.int n))
      refine ⟨c2', .inl ?_⟩
      have e := e.resolve_right (fun z => z (small21 (by omega) (by omega)))
      have b : b__law_state_1 [.val d, .val (.int seed), .val (.int n)] [] = some (.nx [.val d, .val (.int ((seed * 31 + n).fmod 1000003)), .val (.int n)] []) :=
        set_s (ρ1 := [.val d, .val (.int seed), .val (.int n)]) (qx_s (op2_s (call1_s (op2_s (op2_s rfl rfl (mul_ok (n := 21) (m := 5) hs (by decide) (by omega))) rfl ap_addI) ap_intI) rfl (ap_modI (by omega))))
      exact for_s rfl b e
    · exact ⟨c2, .inr hs⟩
theorem fold_bound : ∀ (ns : List Int) (seed : Int), 0 ≤ seed ∧ seed < 1000003 → 0 ≤ ns.foldl (fun s c => (s * 31 + c).fmod 1000003) seed ∧ ns.foldl (fun s c => (s * 31 + c).fmod 1000003) seed < 1000003
  | [], seed, h => h
  | n :: ns, seed, h => fold_bound ns _ (fmod_in (by omega))
theorem seed_small {s : Int} (h0 : 0 ≤ s) (h1 : s < 1000010) : SeedOk s := by
  unfold SeedOk
  have : (2 : Nat) ^ 32 = 4294967296 := by decide
  omega
theorem state_ok (ns : List Int) (hl : ns.length ≤ 63) : ∃ cells seed, F__law_state [.val (ZL ns)] [] = some (.ref 1, S2 cells seed) ∧ SeedOk seed := by
  have hsz : sizeLine = 16777216 := sizeLine_eq
  obtain ⟨c2', e⟩ := state_loop (d := ZL ns) ns 7 .no
  have e := e.resolve_right (fun z => z (by decide))
  have fb := fold_bound ns 7 (by omega)
  generalize ns.foldl (fun s c => (s * 31 + c).fmod 1000003) 7 = sd at *
  refine ⟨ns.map fun c => if c < 0 then -c else c, sd + 1, fnF_s ?_, seed_small (by omega) (by omega)⟩
  unfold t__law_state
  refine seq_s (set_s (ρ1 := [.val (ZL ns), .no, .no]) (qx_s (d := .int 7) rfl)) ?_
  refine seq_s (forI_s (ρ1 := [.val (ZL ns), .val (.int 7), .no]) (S1 := []) (ds := ns.map .int) rfl e) ?_
  have lc : lcQ (bName 2) tYesQ (eCall absD [(eVar 2)]) [.val (ZL ns), .val (.int sd), .no] [] (ns.map .int) = some (ns.map fun c => PyData.int (if c < 0 then -c else c)) :=
    lc_map fun x _ => ⟨_, rfl, call1_s rfl ap_abs⟩
  have y : qy (yLc (iOf (eVar 0)) (bName 2) [2] tYesQ (eCall absD [(eVar 2)])) [.val (ZL ns), .val (.int sd), c2'] [] = some (.list (ns.map fun c => PyData.int (if c < 0 then -c else c)), [.val (ZL ns), .val (.int sd), c2'], []) :=
    qy_s (lc_s (iOf_s rfl rfl) lc (by rw [List.length_map]; omega))
  have xr : xRef (qy (yLc (iOf (eVar 0)) (bName 2) [2] tYesQ (eCall absD [(eVar 2)]))) [.val (ZL ns), .val (.int sd), c2'] [] = some (.ref 0, [.val (ZL ns), .val (.int sd), c2'], [SO.lst ((ns.map fun c => PyData.int (if c < 0 then -c else c)).map SV.dat)]) := by
    show (qy _ _ _).bind _ = _
    rw [y]
    rfl
  refine ret_s (ρ1 := [.val (ZL ns), .val (.int sd), c2']) ?_
  show (eva _ _ _).bind _ = _
  rw [eva_s xr (eva_s (qx_s (op2_s rfl rfl ap_addI)) rfl)]
  show some _ = some _
  congr 1
  show (SV.ref 1, _, [SO.lst ((ns.map fun c => PyData.int (if c < 0 then -c else c)).map SV.dat), SO.lst [.ref 0, .dat (.int (sd + 1))]]) = (SV.ref 1, _, S2 _ _)
  unfold S2
  rw [List.map_map, List.map_map]
  rfl
end K21
namespace K21
open PySem PySem.Spec PyProof.Rows L2 DL
/-! ### the judges -/
theorem RdC.b2 {c c0 c1 : Cel} {d : D} {ρ : En} {S : Sto} (h : RdC c d) : bVar 2 (c0 :: c1 :: c :: ρ) S = some d := by rcases h with rfl | rfl <;> rfl
/-- rows and goal as the law makes them -/
structure Good (n : Nat) (rows : List (List Int)) (goal : List Int) : Prop where
  few : rows.length ≤ 12
  wid : goal.length ≤ 16
  n2 : n ≤ 40000000
  rows : ∀ r ∈ rows, r.length = goal.length ∧ Bits n r
  goal : Bits n goal
def followsB (rows : List (List Int)) (goal parts : List Int) (dv : Int) : Bool := decide (parts.length = rows.length ∧ 1 ≤ dv ∧ mixedP rows parts goal.length = goal.map (dv * ·))
theorem follows_ok {n m : Nat} {rows : List (List Int)} {goal parts : List Int} {dv : Int} {cp : Cel} {dp : D} {S : Sto} (G : Good n rows goal) (hc : RdC cp dp) (hp : IsZ dp parts) (bp : Bits m parts) (bd : dv.natAbs < 2 ^ m) (hm : m ≤ 50000000) (hl : parts.length ≤ 1000) :
    F__law_follows [.val (RL rows), .val (ZT goal), cp, .val (.int dv)] S = some (.dat (.bool (followsB rows goal parts dv)), S) := by
  have hsz : sizeLine = 16777216 := sizeLine_eq
  have g1 := G.n2
  have g2 := G.wid
  have t1 : tOf (op2 neD (eCall lenD [(bVar 2)]) (eCall lenD [(eVar 0)])) boolD [.val (RL rows), .val (ZT goal), cp, .val (.int dv), .no] S = some (!((parts.length : Int) == (rows.length : Int))) := tOf_s (op2_s (call1_s hc.b2 hp.len) (call1_s rfl len_L) ap_neI) rfl
  have t2 : tOf (op2 ltD (eVar 3) (eC (.int 1))) boolD [.val (RL rows), .val (ZT goal), cp, .val (.int dv), .no] S = some (decide (dv < 1)) := tOf_s (op2_s rfl rfl ap_lt) rfl
  unfold F__law_follows t__law_follows followsB
  by_cases h1 : parts.length = rows.length
  · have e1 : (!((parts.length : Int) == (rows.length : Int))) = false := by simp [h1]
    rw [e1] at t1
    by_cases h2 : dv < 1
    · rw [decide_eq_true h2] at t2
      rw [decide_eq_false (by omega)]
      exact fnF_s (seq_rt (if_t (qt_s (or_f t1 t2)) (ret_s (qx_s rfl))))
    · rw [decide_eq_false h2] at t2
      have mx := mixed_ok (S := []) (c0 := .val (RL rows)) (c1 := .bor dp) (.inl rfl) (.inr rfl) hp G.rows bp (by omega) G.wid (by omega)
      have lc : lcQ (bName 4) tYesQ (op2 mulD (eVar 3) (eVar 4)) [.val (RL rows), .val (ZT goal), lendC cp, .val (.int dv), .no] S (goal.map .int) = some ((goal.map (dv * ·)).map .int) := by
        rw [List.map_map]
        exact lc_map fun x hx => ⟨_, rfl, op2_s rfl rfl (mul_ok bd (G.goal x hx) (by omega))⟩
      have ee := eq_ZT (mixedP rows parts goal.length) (goal.map (dv * ·))
      rw [show decide (parts.length = rows.length ∧ 1 ≤ dv ∧ mixedP rows parts goal.length = goal.map (dv * ·)) = decide (mixedP rows parts goal.length = goal.map (dv * ·)) by
        have : 1 ≤ dv := by omega
        simp [h1, this]]
      exact fnF_s (seq_s (if_f (qt_s (or_f t1 t2)) rfl) (ret_s (qx_s (op2_s (callF_s (evm1_s rfl (evm1_s hc.b2 (evm1_s (call1_s rfl len_T) rfl))) mx) (call1_s (elc_s (lc_s (iOf_s rfl rfl) lc (by rw [List.length_map, List.length_map]; omega))) ap_tupL) ee))))
  · have e1 : (!((parts.length : Int) == (rows.length : Int))) = true := by
      have : ¬ (parts.length : Int) = (rows.length : Int) := by omega
      simp [this]
    rw [e1] at t1
    rw [decide_eq_false (fun z => h1 z.1)]
    exact fnF_s (seq_rt (if_t (qt_s (or_t t1)) (ret_s (qx_s rfl))))
theorem nth_mixed {rows : List (List Int)} {parts : List Int} {w k : Nat} (hk : k < w) : nth (mixedP rows parts w) k = ((parts.zip rows).map fun q => q.1 * nth q.2 k).sum := by
  rw [nth_eq (by rw [mixed_length]; exact hk)]
  unfold mixedP
  simp
theorem right_loop {n m : Nat} {rows : List (List Int)} {goal parts : List Int} {dv : Int} {S : Sto} (G : Good n rows goal) (bp : Bits m parts) (bd : dv.natAbs < 2 ^ m) (hm : m ≤ 50000000) (hl : parts.length ≤ 1000) : ∀ (ks : List Nat) (c4 c5 c6 : Cel), (∀ k ∈ ks, k < goal.length) →
    ∃ d4, sFor (bName 4) b_weights_right_1 (ks.map fun k : Nat => PyData.int (k : Int)) [.val (RL rows), .val (ZT goal), .val (ZT parts), .val (.int dv), c4, c5, c6] S
      = if (∀ k ∈ ks, nth (mixedP rows parts goal.length) k = dv * nth goal k) then some (.nx [.val (RL rows), .val (ZT goal), .val (ZT parts), .val (.int dv), d4, c5, c6] S) else some (.rt (.dat (.bool false)) S)
  | [], c4, c5, c6, _ => ⟨c4, by rw [if_pos (by intro k h; cases h)]; rfl⟩
  | k :: ks, c4, c5, c6, hk => by
    have hsz : sizeLine = 16777216 := sizeLine_eq
    have g1 := G.n2
    have hk0 := hk k List.mem_cons_self
    obtain ⟨d4, ih⟩ := right_loop G bp bd hm hl ks (.val (.int (k : Int))) c5 c6 fun k' h => hk k' (List.mem_cons_of_mem _ h)
    refine ⟨d4, ?_⟩
    have inner : lcQ (bTup 2 (bCons (bName 5) (bCons (bName 6) bNil))) tYesQ (op2 mulD (eVar 5) (op2 ixD (eVar 6) (eVar 4))) [.val (RL rows), .val (ZT goal), .val (ZT parts), .val (.int dv), .val (.int (k : Int)), .no, .no] S
        ((parts.zip rows).map fun q => .tuple [.int q.1, ZT q.2]) = some (((parts.zip rows).map fun q => q.1 * nth q.2 k).map .int) := by
      rw [List.map_map]
      refine lc_map fun q hq => ⟨_, rfl, ?_⟩
      obtain ⟨a1, a2⟩ := List.of_mem_zip (show (q.1, q.2) ∈ parts.zip rows from hq)
      obtain ⟨l1, b1⟩ := G.rows q.2 a2
      have i1 : ixD (ZT q.2) (.int (k : Int)) = some (.int (nth q.2 k)) := by rw [ap_ixT]; exact at_getD (by omega)
      exact op2_s rfl (op2_s rfl rfl i1) (mul_ok (bp _ a1) b1.get (by omega))
    have hs : eCall sumD [(eLc (iZipQ [(eVar 2), (eVar 0)]) (bTup 2 (bCons (bName 5) (bCons (bName 6) bNil))) [5, 6] tYesQ (op2 mulD (eVar 5) (op2 ixD (eVar 6) (eVar 4))))] [.val (RL rows), .val (ZT goal), .val (ZT parts), .val (.int dv), .val (.int (k : Int)), c5, c6] S = some (.int (nth (mixedP rows parts goal.length) k)) := by
      rw [nth_mixed hk0]
      refine call1_s (elc_s (lc_s (zip_s rfl rfl rfl rfl) ?_ ?_)) ap_sum
      · rw [zipD_rows]
        exact inner
      · rw [List.length_map, List.length_map, List.length_zip]
        omega
    have i2 : ixD (ZT goal) (.int (k : Int)) = some (.int (nth goal k)) := by rw [ap_ixT]; exact at_getD hk0
    have tt : tOf (op2 neD (eCall sumD [(eLc (iZipQ [(eVar 2), (eVar 0)]) (bTup 2 (bCons (bName 5) (bCons (bName 6) bNil))) [5, 6] tYesQ (op2 mulD (eVar 5) (op2 ixD (eVar 6) (eVar 4))))]) (op2 mulD (eVar 3) (op2 ixD (eVar 1) (eVar 4)))) boolD [.val (RL rows), .val (ZT goal), .val (ZT parts), .val (.int dv), .val (.int (k : Int)), c5, c6] S
        = some (!(nth (mixedP rows parts goal.length) k == dv * nth goal k)) := tOf_s (op2_s hs (op2_s rfl (op2_s rfl rfl i2) (mul_ok bd G.goal.get (by omega))) ap_neI) rfl
    by_cases he : nth (mixedP rows parts goal.length) k = dv * nth goal k
    · have e0 : (!(nth (mixedP rows parts goal.length) k == dv * nth goal k)) = false := by simp [he]
      rw [e0] at tt
      have all : (∀ k' ∈ k :: ks, nth (mixedP rows parts goal.length) k' = dv * nth goal k') ↔ ∀ k' ∈ ks, nth (mixedP rows parts goal.length) k' = dv * nth goal k' := by
        constructor
        · intro h k' hk'; exact h k' (List.mem_cons_of_mem _ hk')
        · intro h k' hk'
          rcases List.mem_cons.mp hk' with z | z
          · rw [z]; exact he
          · exact h k' z
      have b1 : b_weights_right_1 [.val (RL rows), .val (ZT goal), .val (ZT parts), .val (.int dv), .val (.int (k : Int)), c5, c6] S = some (.nx [.val (RL rows), .val (ZT goal), .val (ZT parts), .val (.int dv), .val (.int (k : Int)), c5, c6] S) := if_f (qt_s tt) rfl
      by_cases ha : ∀ k' ∈ ks, nth (mixedP rows parts goal.length) k' = dv * nth goal k'
      · rw [if_pos (all.mpr ha)]
        rw [if_pos ha] at ih
        exact for_s rfl b1 ih
      · rw [if_neg (fun z => ha (all.mp z))]
        rw [if_neg ha] at ih
        exact for_s rfl b1 ih
    · have e0 : (!(nth (mixedP rows parts goal.length) k == dv * nth goal k)) = true := by simp [he]
      rw [e0] at tt
      rw [if_neg (fun z => he (z k List.mem_cons_self))]
      exact for_rt rfl (if_t (qt_s tt) (ret_s (qx_s rfl)))
end K21
namespace K21
open PySem PySem.Spec PyProof.Rows L2 DL
theorem mixed_eq {rows : List (List Int)} {goal parts : List Int} {dv : Int} : mixedP rows parts goal.length = goal.map (dv * ·) ↔ ∀ k, k < goal.length → nth (mixedP rows parts goal.length) k = dv * nth goal k := by
  constructor
  · intro h k hk
    rw [h, nth_map hk]
  · intro h
    refine List.ext_getElem (by rw [mixed_length, List.length_map]) fun k h1 h2 => ?_
    rw [mixed_length] at h1
    have e := h k h1
    rw [nth_eq (by rw [mixed_length]; exact h1), nth_eq h1] at e
    rw [List.getElem_map]
    exact e
theorem weights_right_ok {n m : Nat} {rows : List (List Int)} {goal parts : List Int} {dv : Int} {S : Sto} (G : Good n rows goal) (bp : Bits m parts) (bd : dv.natAbs < 2 ^ m) (hm : m ≤ 50000000) (hl : parts.length ≤ 1000) :
    F_weights_right [.val (RL rows), .val (ZT goal), .val (ZT parts), .val (.int dv)] S = some (.dat (.bool (followsB rows goal parts dv)), S) := by
  have g2 := G.wid
  have t1 : tOf (op2 neD (eCall lenD [(eVar 2)]) (eCall lenD [(eVar 0)])) boolD [.val (RL rows), .val (ZT goal), .val (ZT parts), .val (.int dv), .no, .no, .no] S = some (!((parts.length : Int) == (rows.length : Int))) := tOf_s (op2_s (call1_s rfl len_T) (call1_s rfl len_L) ap_neI) rfl
  have t2 : tOf (op2 ltD (eVar 3) (eC (.int 1))) boolD [.val (RL rows), .val (ZT goal), .val (ZT parts), .val (.int dv), .no, .no, .no] S = some (decide (dv < 1)) := tOf_s (op2_s rfl rfl ap_lt) rfl
  unfold F_weights_right t_weights_right followsB
  by_cases h1 : parts.length = rows.length
  · have e1 : (!((parts.length : Int) == (rows.length : Int))) = false := by simp [h1]
    rw [e1] at t1
    by_cases h2 : dv < 1
    · rw [decide_eq_true h2] at t2
      rw [decide_eq_false (by omega)]
      exact fnF_s (seq_rt (if_t (qt_s (or_f t1 t2)) (ret_s (qx_s rfl))))
    · rw [decide_eq_false h2] at t2
      obtain ⟨d4, lp⟩ := right_loop (S := S) G bp bd hm hl (List.range goal.length) .no .no .no fun k hk => List.mem_range.mp hk
      have iff : (∀ k ∈ List.range goal.length, nth (mixedP rows parts goal.length) k = dv * nth goal k) ↔ mixedP rows parts goal.length = goal.map (dv * ·) := by
        rw [mixed_eq]
        exact ⟨fun h k hk => h k (List.mem_range.mpr hk), fun h k hk => h k (List.mem_range.mp hk)⟩
      have it : ixRange [(qx (eCall lenD [(eVar 1)]))] [.val (RL rows), .val (ZT goal), .val (ZT parts), .val (.int dv), .no, .no, .no] S = some ((List.range goal.length).map (fun k : Nat => PyData.int (k : Int)), [.val (RL rows), .val (ZT goal), .val (ZT parts), .val (.int dv), .no, .no, .no], S) :=
        ixRange1_s (qx_s (call1_s rfl len_T)) (by omega)
      by_cases he : mixedP rows parts goal.length = goal.map (dv * ·)
      · rw [if_pos (iff.mpr he)] at lp
        rw [decide_eq_true ⟨h1, by omega, he⟩]
        exact fnF_s (seq_s (if_f (qt_s (or_f t1 t2)) rfl) (seq_s (forI_s it lp) (ret_s (qx_s rfl))))
      · rw [if_neg (fun z => he (iff.mp z))] at lp
        rw [decide_eq_false (fun z => he z.2.2)]
        exact fnF_s (seq_s (if_f (qt_s (or_f t1 t2)) rfl) (seq_rt (forI_s it lp)))
  · have e1 : (!((parts.length : Int) == (rows.length : Int))) = true := by
      have : ¬ (parts.length : Int) = (rows.length : Int) := by omega
      simp [this]
    rw [e1] at t1
    rw [decide_eq_false (fun z => h1 z.1)]
    exact fnF_s (seq_rt (if_t (qt_s (or_t t1)) (ret_s (qx_s rfl))))
/-! shifts -/
def movesB (rows : List (List Int)) (goal shift : List Int) : Bool := decide (dot goal shift ≠ 0 ∧ ∀ r ∈ rows, dot r shift = 0)
theorem dot_lc {n m x y : Nat} {a b : List Int} {S : Sto} {ρ : En} (ba : Bits n a) (bb : Bits m b) (h : n + m < 100000000)
    (h1 : ∀ p q : Int, eVar x ((ρ.set x (.val (.int p))).set y (.val (.int q))) S = some (.int p)) (h2 : ∀ p q : Int, eVar y ((ρ.set x (.val (.int p))).set y (.val (.int q))) S = some (.int q)) :
    lcQ (bTup 2 (bCons (bName x) (bCons (bName y) bNil))) tYesQ (op2 mulD (eVar x) (eVar y)) ρ S ((a.zip b).map fun p => .tuple [.int p.1, .int p.2]) = some (((a.zip b).map fun p => p.1 * p.2).map .int) := by
  rw [List.map_map]
  exact lc_map fun p hp => ⟨_, rfl, op2_s (h1 _ _) (h2 _ _) (mul_ok (ba _ (List.of_mem_zip (show (p.1, p.2) ∈ a.zip b from hp)).1) (bb _ (List.of_mem_zip (show (p.1, p.2) ∈ a.zip b from hp)).2) h)⟩
theorem moves_ok {n m : Nat} {rows : List (List Int)} {goal shift : List Int} {cp : Cel} {dp : D} {S : Sto} (G : Good n rows goal) (hc : RdC cp dp) (hp : IsZ dp shift) (bp : Bits m shift) (hm : m ≤ 50000000) :
    F__law_moves [.val (RL rows), .val (ZT goal), cp] S = some (.dat (.bool (movesB rows goal shift)), S) := by
  have hsz : sizeLine = 16777216 := sizeLine_eq
  have g1 := G.n2
  have g2 := G.wid
  have g3 := G.few
  have sumOf : ∀ (a : List Int) (c0 c1 : Cel) (ρ5 : Cel) (i : Nat) (c3 c4 : Cel) (cq : Cel), RdC cq dp → Bits n a → a.length ≤ 16 → eVar i [c0, c1, cq, c3, c4, ρ5] S = some (ZT a) →
      eCall sumD [(eLc (iZipQ [(eVar i), (bVar 2)]) (bTup 2 (bCons (bName 3) (bCons (bName 4) bNil))) [3, 4] tYesQ (op2 mulD (eVar 3) (eVar 4)))] [c0, c1, cq, c3, c4, ρ5] S = some (.int (dot a shift)) := fun a c0 c1 ρ5 i c3 c4 cq hq ba la e => by
    refine call1_s (elc_s (lc_s (zip_s e hq.b2 rfl hp.seq) ?_ ?_)) ap_sum
    · rw [zipD_map]
      exact dot_lc (ρ := [lendC c0, lendC c1, lendC cq, .no, .no, lendC ρ5]) ba bp (by omega) (fun _ _ => rfl) (fun _ _ => rfl)
    · rw [List.length_map, List.length_map, List.length_zip]
      omega
  have s1 := sumOf goal (.val (RL rows)) (.val (ZT goal)) .no 1 .no .no cp hc G.goal g2 rfl
  have t1 : tOf (op2 eqD (eCall sumD [(eLc (iZipQ [(eVar 1), (bVar 2)]) (bTup 2 (bCons (bName 3) (bCons (bName 4) bNil))) [3, 4] tYesQ (op2 mulD (eVar 3) (eVar 4)))]) (eC (.int 0))) boolD [.val (RL rows), .val (ZT goal), cp, .no, .no, .no] S = some (dot goal shift == 0) := tOf_s (op2_s s1 rfl ap_eqI) rfl
  have lc : lcQ (bName 5) (tOf (op2 neD (eCall sumD [(eLc (iZipQ [(eVar 5), (bVar 2)]) (bTup 2 (bCons (bName 3) (bCons (bName 4) bNil))) [3, 4] tYesQ (op2 mulD (eVar 3) (eVar 4)))]) (eC (.int 0))) boolD) (eVar 5) [.val (RL rows), .val (ZT goal), lendC cp, .no, .no, .no] S (rows.map ZT)
      = some ((rows.filter fun r => !(dot r shift == 0)).map ZT) := by
    refine lc_filter fun r hr => ⟨_, rfl, ?_, fun _ => rfl⟩
    obtain ⟨l1, b1⟩ := G.rows r hr
    exact tOf_s (op2_s (sumOf r _ _ _ 5 _ _ _ hc.lend b1 (by omega) rfl) rfl ap_neI) rfl
  unfold F__law_moves t__law_moves movesB
  by_cases h0 : dot goal shift = 0
  · have e0 : (dot goal shift == 0) = true := by simp [h0]
    rw [e0] at t1
    rw [decide_eq_false (fun z => z.1 h0)]
    exact fnF_s (seq_rt (if_t (qt_s t1) (ret_s (qx_s rfl))))
  · have e0 : (dot goal shift == 0) = false := by simp [h0]
    rw [e0] at t1
    have hfl := List.length_filter_le (fun r => !(dot r shift == 0)) rows
    have fin : ((((rows.filter fun r => !(dot r shift == 0)).length : Nat) : Int) == 0) = decide (dot goal shift ≠ 0 ∧ ∀ r ∈ rows, dot r shift = 0) := by
      by_cases ha : ∀ r ∈ rows, dot r shift = 0
      · rw [decide_eq_true ⟨h0, ha⟩, List.filter_eq_nil_iff.mpr fun r hr => by simp [ha r hr]]
        rfl
      · rw [decide_eq_false (fun z => ha z.2)]
        have : (rows.filter fun r => !(dot r shift == 0)) ≠ [] := fun z => ha fun r hr => by
          have := List.filter_eq_nil_iff.mp z r hr
          simpa using this
        have : (rows.filter fun r => !(dot r shift == 0)).length ≠ 0 := fun z => this (List.length_eq_zero_iff.mp z)
        simp only [beq_eq_false_iff_ne]
        omega
    rw [← fin]
    exact fnF_s (seq_s (if_f (qt_s t1) rfl) (ret_s (qx_s (op2_s (call1_s (elc_s (lc_s (iOf_s rfl rfl) lc (by rw [List.length_map]; omega))) len_L) rfl ap_eqI))))
theorem shift_right_ok {n m : Nat} {rows : List (List Int)} {goal shift : List Int} {S : Sto} (G : Good n rows goal) (bp : Bits m shift) (hm : m ≤ 50000000) (hl : shift.length = goal.length) :
    F_shift_right [.val (RL rows), .val (ZT goal), .val (ZT shift)] S = some (.dat (.bool (movesB rows goal shift)), S) := by
  have hsz : sizeLine = 16777216 := sizeLine_eq
  have g1 := G.n2
  have g2 := G.wid
  have g3 := G.few
  have t1 : tOf (op2 neD (eCall lenD [(eVar 2)]) (eCall lenD [(eVar 1)])) boolD [.val (RL rows), .val (ZT goal), .val (ZT shift), .no] S = some false := tOf_s (op2_s (call1_s rfl len_T) (call1_s rfl len_T) ap_neI) (by
    show some _ = some _
    simp [hl])
  have pr : ∀ a : List Int, Bits n a → a.length ≤ 16 → F_product [.val (ZT a), .val (ZT shift)] [] = some (.dat (.int (dot a shift)), []) := fun a ba la => product_ok (.inr rfl) (.inr rfl) ba bp (by omega) (by omega)
  have t2 : tOf (op2 eqD (eCallF F_product [(true, (eVar 1)), (true, (eVar 2))]) (eC (.int 0))) boolD [.val (RL rows), .val (ZT goal), .val (ZT shift), .no] S = some (dot goal shift == 0) := tOf_s (op2_s (callF_s (evm1_s rfl (evm1_s rfl rfl)) (pr goal G.goal g2)) rfl ap_eqI) rfl
  have lc : lcQ (bName 3) tYesQ (op2 eqD (eCallF F_product [(true, (eVar 3)), (true, (eVar 2))]) (eC (.int 0))) [.val (RL rows), .val (ZT goal), .val (ZT shift), .no] S (rows.map ZT) = some ((rows.map fun r => dot r shift == 0).map .bool) := by
    rw [List.map_map]
    refine lc_map fun r hr => ⟨_, rfl, ?_⟩
    obtain ⟨l1, b1⟩ := G.rows r hr
    exact op2_s (callF_s (evm1_s rfl (evm1_s rfl rfl)) (pr r b1 (by omega))) rfl ap_eqI
  unfold F_shift_right t_shift_right movesB
  by_cases h0 : dot goal shift = 0
  · have e0 : (dot goal shift == 0) = true := by simp [h0]
    rw [e0] at t2
    rw [decide_eq_false (fun z => z.1 h0)]
    exact fnF_s (seq_rt (if_t (qt_s (or_f t1 t2)) (ret_s (qx_s rfl))))
  · have e0 : (dot goal shift == 0) = false := by simp [h0]
    rw [e0] at t2
    have al : allD [.list ((rows.map fun r => dot r shift == 0).map .bool)] = some (.bool (decide (dot goal shift ≠ 0 ∧ ∀ r ∈ rows, dot r shift = 0))) := by
      show (boolsOf ((rows.map fun r => dot r shift == 0).map .bool)).map _ = _
      rw [boolsOf_map]
      show some (PyData.bool _) = _
      congr 2
      by_cases ha : ∀ r ∈ rows, dot r shift = 0
      · rw [decide_eq_true ⟨h0, ha⟩]
        simpa using ha
      · rw [decide_eq_false (fun z => ha z.2)]
        simpa using ha
    exact fnF_s (seq_s (if_f (qt_s (or_f t1 t2)) rfl) (ret_s (qx_s (call1_s (elc_s (lc_s (iOf_s rfl rfl) lc (by rw [List.length_map, List.length_map]; omega))) al))))
end K21
namespace K21
open PySem PySem.Spec PyProof.Rows L2 DL
/-! ### told -/
abbrev M0 : Nat := 13000000
theorem bt260 {i : Nat} (hi : i ≤ 12) : bt 260 i < 1070000 := by
  have h1 := bt_mono (n := 260) hi
  have h2 := bt_val 260 12
  have e : (2 : Nat) ^ 12 = 4096 := by decide
  rw [e] at h2
  omega
theorem weights_bits {rows : List (List Int)} {goal : List Int} (G : Good 260 rows goal) :
    match weightsP goal.length rows goal with
    | .inn p d => Bits M0 p ∧ d.natAbs < 2 ^ M0 ∧ p.length = rows.length
    | .out s => Bits M0 s ∧ s.length = goal.length := by
  have sm : Small 260 goal.length rows.length := ⟨by omega, by omega, G.wid, G.few⟩
  obtain ⟨S', e1, h, ok, hl⟩ := basis_of_ok sm G.rows
  have hc := G.few
  have lw : (wv rows.length).length = rows.length + 1 := by simp [wv]
  have bw : Bits 260 (wv rows.length) := fun x hx => by
    have p2 : 2 ^ 1 ≤ 2 ^ 260 := Nat.pow_le_pow_right (by omega) (by omega)
    unfold wv at hx
    generalize 2 ^ 260 = B at *
    rcases List.mem_append.mp hx with hx | hx
    · rw [(List.mem_replicate.mp hx).2]; show 0 < B; omega
    · rw [List.mem_singleton.mp hx]; show 1 < B; omega
  have hbt := bt260 (i := (build goal.length rows.length [] 0 rows).length) (by omega)
  obtain ⟨tk, l1, l2, b1, b2⟩ := taken_ok h ok (by omega) sm.z (.inr rfl : IsZ (ZT goal) goal) (.inl rfl : IsZ (ZL (wv rows.length)) _) rfl lw G.goal bw
  have hst : ∀ s ∈ build goal.length rows.length [] 0 rows, s.row.length = goal.length ∧ s.at_ < goal.length ∧ Bits (bt 260 (build goal.length rows.length [] 0 rows).length) s.row := fun s hs => by
    obtain ⟨i, hi⟩ := List.mem_iff_getElem?.mp hs
    obtain ⟨a1, a2, a3, a4, a5⟩ := ok i s hi
    exact ⟨a1, a3, a4.mono (bt_mono (Nat.le_of_lt (List.getElem?_eq_some_iff.mp hi).1))⟩
  unfold weightsP
  generalize build goal.length rows.length [] 0 rows = sts at *
  generalize takeAll goal.length sts goal (wv rows.length) = T at *
  cases hp : placesP goal.length T.1 with
  | nil =>
    dsimp only
    have bb : Bits (1 + bt 260 sts.length) (T.2.map (sgnI (nth T.2 rows.length) * ·)) := map_bits sgn_bits b2
    have bP := (short_bits bb).mono (show 1 + bt 260 sts.length ≤ M0 by show _ ≤ 13000000; omega)
    have lP : (short (T.2.map (sgnI (nth T.2 rows.length) * ·))).length = rows.length + 1 := by rw [short_length, List.length_map, l2]
    generalize short (T.2.map (sgnI (nth T.2 rows.length) * ·)) = P at *
    exact ⟨neg_bits fun x hx => bP x (List.mem_of_mem_take hx), bP.get, by rw [List.length_map, List.length_take]; omega⟩
  | cons k ks =>
    dsimp only
    have hm : sts.length * (bt 260 sts.length + 5) ≤ 12 * (bt 260 sts.length + 5) := Nat.mul_le_mul_right _ (by omega)
    obtain ⟨se, sl, sb⟩ := shift_ok (place := k) h sm.w2 hst (by omega)
    have sb := sb.mono (show 1 + sts.length * (bt 260 sts.length + 5) ≤ M0 by show _ ≤ 13000000; omega)
    split
    · exact ⟨neg_bits sb, by rw [List.length_map, sl]⟩
    · exact ⟨sb, sl⟩
theorem eq_str {x y : Str} {b : Bool} (h1 : SeqAt.shaped (.str x) = true) (h2 : SeqAt.shaped (.str y) = true) (h : (x == y) = b) : eqD (.str x) (.str y) = some (.bool b) := by
  unfold eqD
  rw [if_pos ⟨h1, h2⟩, ← h]
  rfl
theorem eq_in_in : eqD (.str "in") (.str "in") = some (.bool true) := eq_str (by decide +kernel) (by decide +kernel) (by decide +kernel)
theorem eq_out_in : eqD (.str "out") (.str "in") = some (.bool false) := eq_str (by decide +kernel) (by decide +kernel) (by decide +kernel)
theorem eq_out_out : eqD (.str "out") (.str "out") = some (.bool true) := eq_str (by decide +kernel) (by decide +kernel) (by decide +kernel)
theorem eq_in_out : eqD (.str "in") (.str "out") = some (.bool false) := eq_str (by decide +kernel) (by decide +kernel) (by decide +kernel)
/-- the papers are right -/
theorem follows_true {rows : List (List Int)} {goal p : List Int} {d : Int} (G : Good 260 rows goal) (h : Follows goal.length rows goal p d) : followsB rows goal p d = true := by
  obtain ⟨h1, h2, h3⟩ := h
  refine decide_eq_true ⟨h2, h1, mixed_eq.mpr fun k hk => ?_⟩
  rw [nth_mixed hk, ← h3 k hk, ← sum_map_range]
  congr 1
  refine List.ext_getElem (by rw [List.length_map, List.length_map, List.length_zip, List.length_range]; omega) fun i a b => ?_
  have hi : i < rows.length := by simpa using b
  simp [nth_eq (show i < p.length by omega), hi]
theorem moves_true {rows : List (List Int)} {goal s : List Int} (G : Good 260 rows goal) (h : Moves goal.length rows goal s) : movesB rows goal s = true := by
  obtain ⟨h1, h2, h3⟩ := h
  refine decide_eq_true ⟨by rw [dot_dt rfl h1]; exact h2, fun r hr => ?_⟩
  rw [dot_dt (G.rows r hr).1 h1]
  exact h3 r hr
def toldW : Told → Str
  | .inn _ _ => "in"
  | .out _ => "out"
theorem ix1 {a b : D} {ds : List D} : ixD (.tuple (a :: b :: ds)) (.int 1) = some b := by
  rw [ap_ixT]
  exact atI_nat' (m := 1) (by simp)
theorem ix0 {a : D} {ds : List D} : ixD (.tuple (a :: ds)) (.int 0) = some a := by
  rw [ap_ixT]
  exact atI_nat' (m := 0) (by simp)
theorem ix2 {a b c : D} {ds : List D} : ixD (.tuple (a :: b :: c :: ds)) (.int 2) = some c := by
  rw [ap_ixT]
  exact atI_nat' (m := 2) (by simp)
theorem told_ok {rows : List (List Int)} {goal : List Int} {S : Sto} (G : Good 260 rows goal) : F__law_told [.val (RL rows), .val (ZT goal)] S = some (.dat (.str (toldW (weightsP goal.length rows goal))), S) := by
  have hsz : sizeLine = 16777216 := sizeLine_eq
  have sm : Small 260 goal.length rows.length := ⟨by omega, by omega, G.wid, G.few⟩
  obtain ⟨S', e1⟩ := weights_ok sm G.rows G.goal
  have hb := weights_bits G
  have ht := weights_told (fun r hr => (G.rows r hr).1) (rfl : goal.length = goal.length)
  have hc := G.few
  have hw := G.wid
  unfold F__law_told t__law_told
  have st1 : sSet 2 (qx (eCallF F_weights [(true, (eVar 0)), (true, (eVar 1))])) [.val (RL rows), .val (ZT goal), .no] S = some (.nx [.val (RL rows), .val (ZT goal), .val (toldD (weightsP goal.length rows goal))] S) :=
    set_s (ρ1 := [.val (RL rows), .val (ZT goal), .no]) (qx_s (callF_s (evm1_s rfl (evm1_s rfl rfl)) e1))
  cases e : weightsP goal.length rows goal with
  | inn p d =>
    rw [e] at hb ht st1
    obtain ⟨b1, b2, b3⟩ := hb
    have hf := follows_ok (S := []) G (.inl rfl) (.inr rfl : IsZ (ZT p) p) b1 b2 (by decide) (by omega)
    rw [follows_true G ht] at hf
    have wh := whole_ok (S := []) (.inr rfl : IsZ (ZT p) p) (by omega)
    have wh2 := whole_ok (S := []) (.inl rfl : IsZ (ZL [d]) [d]) (by show 1 ≤ _; omega)
    refine fnF_s (seq_s st1 ?_)
    refine seq_s (if_f (ρ1 := [.val (RL rows), .val (ZT goal), .val (toldD (.inn p d))]) (S1 := S) (qt_s (or_f (not_s (x := true) (tOf_s (isi_s (d := toldD (.inn p d)) rfl kit_tuple_tuple) rfl)) (or_f (tOf_s (op2_s (call1_s rfl ap_lenT) rfl ap_lt) rfl) (or_f (not_s (x := true) (tOf_s (isi_s (d := ZT p) (op2_s rfl rfl ix1) kit_tuple_tuple) rfl)) (not_s (x := true) (tOf_s (callF_s (evm1_s (op2_s rfl rfl ix1) rfl) wh) rfl)))))) rfl) ?_
    refine seq_rt (if_t (qt_s (and_t (tOf_s (op2_s (op2_s rfl rfl ix0) rfl eq_in_in) rfl) (and_t (tOf_s (op2_s (call1_s rfl ap_lenT) rfl ap_eqI) rfl) (and_t (tOf_s (callF_s (evm1_s (lst_s (evs1_s (op2_s rfl rfl ix2) rfl)) rfl) wh2) rfl) (tOf_s (callF_s (evm1_s rfl (evm1_s rfl (evm1_s (op2_s rfl rfl ix1) (evm1_s (op2_s rfl rfl ix2) rfl)))) hf) rfl))))) (ret_s (qx_s rfl)))
  | out s =>
    rw [e] at hb ht st1
    obtain ⟨b1, b3⟩ := hb
    have hf := moves_ok (S := []) G (.inl rfl) (.inr rfl : IsZ (ZT s) s) b1 (by decide)
    rw [moves_true G ht] at hf
    have wh := whole_ok (S := []) (.inr rfl : IsZ (ZT s) s) (by omega)
    refine fnF_s (seq_s st1 ?_)
    refine seq_s (if_f (ρ1 := [.val (RL rows), .val (ZT goal), .val (toldD (.out s))]) (S1 := S) (qt_s (or_f (not_s (x := true) (tOf_s (isi_s (d := toldD (.out s)) rfl kit_tuple_tuple) rfl)) (or_f (tOf_s (op2_s (call1_s rfl ap_lenT) rfl ap_lt) rfl) (or_f (not_s (x := true) (tOf_s (isi_s (d := ZT s) (op2_s rfl rfl ix1) kit_tuple_tuple) rfl)) (not_s (x := true) (tOf_s (callF_s (evm1_s (op2_s rfl rfl ix1) rfl) wh) rfl)))))) rfl) ?_
    refine seq_s (if_f (ρ1 := [.val (RL rows), .val (ZT goal), .val (toldD (.out s))]) (S1 := S) (qt_s (and_f (tOf_s (op2_s (op2_s rfl rfl ix0) rfl eq_out_in) rfl))) rfl) ?_
    have lens : op2 eqD (eCall lenD [(op2 ixD (eVar 2) (eC (.int 1)))]) (eCall lenD [(eVar 1)]) [.val (RL rows), .val (ZT goal), .val (toldD (.out s))] S = some (.bool true) := by
      refine op2_s (a := .int s.length) (b := .int goal.length) (call1_s (op2_s rfl rfl ix1) len_T) (call1_s rfl len_T) ?_
      rw [b3, ap_eqI]
      simp
    refine seq_rt (if_t (qt_s (and_t (tOf_s (op2_s (op2_s rfl rfl ix0) rfl eq_out_out) rfl) (and_t (tOf_s (op2_s (call1_s rfl ap_lenT) rfl ap_eqI) rfl) (and_t (tOf_s lens rfl) (tOf_s (callF_s (evm1_s rfl (evm1_s rfl (evm1_s (op2_s rfl rfl ix1) rfl))) hf) rfl))))) (ret_s (qx_s rfl)))
end K21
namespace K21
open PySem PySem.Spec PyProof.Rows L2 DL
theorem eand_s {f g : EF} {ρ : En} {S : Sto} {d : D} (h : f ρ S = some (.bool true)) (h2 : g ρ S = some d) : eAnd f g ρ S = some d := by
  show (f ρ S).bind _ = _
  rw [h]
  exact h2
theorem kit_bool_str : kitB "bool" "str" = some false := by decide +kernel
theorem same_bool {n : Nat} {a b : Bool} {S : Sto} : F__law_same (n + 1) [.val (.bool a), .val (.bool b)] S = some (.dat (.bool (a == b)), S) := by
  have iT : ∀ {f : EF} {c : Bool} {T : String} {r : Bool}, f [.val (.bool a), .val (.bool b), .no] S = some (.bool c) → kitB "bool" T = some r → tOf (eIsi T f) truD [.val (.bool a), .val (.bool b), .no] S = some r := fun {f c T r} h k => tOf_s (isi_s (d := .bool c) h k) rfl
  have ee : eqD (.bool a) (.bool b) = some (.bool (a == b)) := by cases a <;> cases b <;> rfl
  show fnF 3 (t__law_same (F__law_same n)) _ _ = _
  unfold t__law_same
  refine fnF_s (seq_s (if_f (ρ1 := [.val (.bool a), .val (.bool b), .no]) (S1 := S) (qt_s (or_f (iT (c := b) rfl kit_bool_tuple) (iT (c := b) rfl kit_bool_list))) rfl) ?_)
  refine seq_rt (if_t (qt_s (or_t (iT (c := b) rfl kit_bool_bool))) (ret_s (qx_s ?_)))
  have k1 : eIsi "bool" (bVar 1) [.val (.bool a), .val (.bool b), .no] S = some (.bool true) := isi_s (d := .bool b) rfl kit_bool_bool
  have k2 : eIsi "bool" (eVar 0) [.val (.bool a), .val (.bool b), .no] S = some (.bool true) := isi_s (d := .bool a) rfl kit_bool_bool
  exact eand_s k1 (eand_s k2 (op2_s rfl rfl ee))
theorem same_int {n : Nat} {a : Int} {S : Sto} : F__law_same (n + 1) [.val (.int a), .val (.int a)] S = some (.dat (.bool true), S) := by
  have iT : ∀ {f : EF} {T : String} {r : Bool}, f [.val (.int a), .val (.int a), .no] S = some (.int a) → kitB "int" T = some r → tOf (eIsi T f) truD [.val (.int a), .val (.int a), .no] S = some r := fun {f T r} h k => tOf_s (isi_s (d := .int a) h k) rfl
  show fnF 3 (t__law_same (F__law_same n)) _ _ = _
  unfold t__law_same
  refine fnF_s (seq_s (if_f (ρ1 := [.val (.int a), .val (.int a), .no]) (S1 := S) (qt_s (or_f (iT rfl kit_int_tuple) (iT rfl kit_int_list))) rfl) ?_)
  refine seq_s (if_f (ρ1 := [.val (.int a), .val (.int a), .no]) (S1 := S) (qt_s (or_f (iT rfl kit_int_bool) (iT rfl kit_int_bool))) rfl) ?_
  refine seq_s (if_f (ρ1 := [.val (.int a), .val (.int a), .no]) (S1 := S) (qt_s (or_f (tOf_s (op2_s rfl rfl rfl) rfl) (tOf_s (op2_s rfl rfl rfl) rfl))) rfl) ?_
  refine seq_s (if_f (ρ1 := [.val (.int a), .val (.int a), .no]) (S1 := S) (qt_s (or_f (iT rfl kit_int_str) (iT rfl kit_int_str))) rfl) ?_
  refine ret_s (qx_s ?_)
  have k1 : eIsi "int" (eVar 0) [.val (.int a), .val (.int a), .no] S = some (.bool true) := isi_s (d := .int a) rfl kit_int_int
  have k2 : eIsi "int" (bVar 1) [.val (.int a), .val (.int a), .no] S = some (.bool true) := isi_s (d := .int a) rfl kit_int_int
  exact eand_s k1 (eand_s k2 (op2_s rfl rfl (by rw [ap_eqI]; simp)))
theorem same_list {n : Nat} {xs : List Int} {S : Sto} (hl : xs.length ≤ 1000) : F__law_same (n + 2) [.val (ZL xs), .bor (ZL xs)] S = some (.dat (.bool true), S) := by
  have hsz : sizeLine = 16777216 := sizeLine_eq
  show fnF 3 (t__law_same (F__law_same (n + 1))) _ _ = _
  have iT : ∀ {f : EF} {T : String} {r : Bool}, f [.val (ZL xs), .bor (ZL xs), .no] S = some (ZL xs) → kitB "list" T = some r → eIsi T f [.val (ZL xs), .bor (ZL xs), .no] S = some (.bool r) := fun {f T r} h k => isi_s (d := ZL xs) h k
  have lc : lcQ (bName 2) (tNotQ (tOf (eCallF (F__law_same (n + 1)) [(true, (op2 ixD (eVar 0) (eVar 2))), (true, (op2 ixD (bVar 1) (eVar 2)))]) truD)) (eVar 2) [.val (ZL xs), .bor (ZL xs), .no] S ((List.range xs.length).map fun k : Nat => PyData.int (k : Int)) = some ([] : List D) := by
    have h := lc_filter (S := S) (t := tNotQ (tOf (eCallF (F__law_same (n + 1)) [(true, (op2 ixD (eVar 0) (eVar 2))), (true, (op2 ixD (bVar 1) (eVar 2)))]) truD)) (f := eVar 2) (bd := bName 2) (ρ := [.val (ZL xs), .bor (ZL xs), .no]) (c := fun k : Nat => PyData.int (k : Int)) (F := fun k : Nat => PyData.int (k : Int)) (p := fun _ => false) (ds := List.range xs.length) fun k hk => by
      have hk := List.mem_range.mp hk
      have i1 : ixD (ZL xs) (.int (k : Int)) = some (.int (nth xs k)) := by rw [ap_ixL]; exact at_getD hk
      exact ⟨_, rfl, not_s (x := true) (tOf_s (callF_s (evm1_s (op2_s rfl rfl i1) (evm1_s (op2_s rfl rfl i1) rfl)) (same_int (S := []))) rfl), fun z => (by cases z)⟩
    rw [h]
    simp
  unfold t__law_same
  refine fnF_s (seq_rt (if_t (qt_s (or_f (tOf_s (iT rfl kit_list_tuple) rfl) (tOf_s (iT rfl kit_list_list) rfl))) ?_))
  refine seq_s (if_f (ρ1 := [.val (ZL xs), .bor (ZL xs), .no]) (S1 := S) (qt_s (or_f (tOf_s (op2_s (iT rfl kit_list_tuple) (iT rfl kit_list_tuple) rfl) rfl) (tOf_s (op2_s (iT rfl kit_list_list) (iT rfl kit_list_list) rfl) rfl))) rfl) ?_
  refine seq_s (if_f (ρ1 := [.val (ZL xs), .bor (ZL xs), .no]) (S1 := S) (qt_s (tOf_s (op2_s (call1_s rfl len_L) (call1_s rfl len_L) ap_neI) (by show some _ = some _; simp))) rfl) ?_
  exact ret_s (qx_s (op2_s (call1_s (elc_s (lc_s (range1_s (call1_s rfl len_L) (by omega)) lc (Nat.zero_le _))) ap_lenL) rfl ap_eqI))
end K21
namespace K21
open PySem PySem.Spec PyProof.Rows L2 DL
/-! ### repr of rows and goal -/
theorem show_int {n : Int} {b : Nat} (hb : 0 < b) (h : n.natAbs < 2 ^ b) : (PyData.int n).shown.length ≤ b + 1 := by
  have hl : n.natAbs.log2 < b := by
    by_cases h0 : n.natAbs = 0
    · rw [h0]
      simpa using hb
    · exact (Nat.log2_lt h0).mpr h
  have h1 := int_text_length_le hb hl
  show (Str.ofString (toString n)).length ≤ b + 1
  rw [PySem.ofString_length]
  exact h1
theorem show_ints {b : Nat} (hb : 0 < b) : ∀ ns : List Int, Bits b ns → ((PyData.shownAll (ns.map .int)).map (·.length)).sum ≤ ns.length * (b + 1) ∧ (PyData.shownAll (ns.map .int)).length = ns.length
  | [], _ => ⟨Nat.zero_le _, rfl⟩
  | n :: ns, h => by
    obtain ⟨h1, h2⟩ := show_ints hb ns fun x hx => h x (List.mem_cons_of_mem _ hx)
    have h3 := show_int hb (h n List.mem_cons_self)
    rw [List.map_cons, PyData.shownAll, List.map_cons, List.sum_cons, List.length_cons, List.length_cons, Nat.succ_mul]
    exact ⟨by omega, by omega⟩
theorem showable_ints {b : Nat} (hb : b < 1920) : ∀ ns : List Int, Bits b ns → PyData.showableAll (ns.map .int) = true ∧ PyData.hasDictAll (ns.map .int) = false
  | [], _ => ⟨rfl, rfl⟩
  | n :: ns, h => by
    obtain ⟨h1, h2⟩ := showable_ints hb ns fun x hx => h x (List.mem_cons_of_mem _ hx)
    have hl := log2_le (h n List.mem_cons_self)
    refine ⟨?_, ?_⟩
    · show (decide (n.natAbs.log2 < 1920) && PyData.showableAll (ns.map .int)) = true
      rw [h1, decide_eq_true (by omega)]
      rfl
    · show (false || PyData.hasDictAll (ns.map .int)) = false
      rw [h2]
      rfl
theorem show_row {ns : List Int} (h : Bits 260 ns) (hl : ns.length ≤ 16) : (ZT ns).shown.length ≤ 4300 := by
  obtain ⟨h1, h2⟩ := show_ints (by omega) ns h
  have h3 := tupleText_len_le (PyData.shownAll (ns.map .int))
  show (tupleText (PyData.shownAll (ns.map .int))).length ≤ 4300
  have h4 : ns.length * (260 + 1) ≤ 16 * (260 + 1) := Nat.mul_le_mul_right _ hl
  omega
theorem show_rows : ∀ rows : List (List Int), (∀ r ∈ rows, r.length ≤ 16 ∧ Bits 260 r) → ((PyData.shownAll (rows.map ZT)).map (·.length)).sum ≤ rows.length * 4300 ∧ (PyData.shownAll (rows.map ZT)).length = rows.length ∧ PyData.showableAll (rows.map ZT) = true ∧ PyData.hasDictAll (rows.map ZT) = false ∧ PyData.depthAll (rows.map ZT) ≤ 1
  | [], _ => ⟨Nat.zero_le _, rfl, rfl, rfl, Nat.zero_le _⟩
  | r :: rows, h => by
    obtain ⟨i1, i2, i3, i4, i5⟩ := show_rows rows fun x hx => h x (List.mem_cons_of_mem _ hx)
    obtain ⟨l, b⟩ := h r List.mem_cons_self
    have s1 := show_row b l
    obtain ⟨s2, s3⟩ := showable_ints (by omega) r b
    obtain ⟨_, s4⟩ := lay_ints r
    rw [List.map_cons, PyData.shownAll, List.map_cons, List.sum_cons, List.length_cons, List.length_cons, Nat.succ_mul]
    refine ⟨by omega, by omega, ?_, ?_, ?_⟩
    · show (PyData.showableAll (r.map .int) && PyData.showableAll (rows.map ZT)) = true
      rw [s2, i3]
      rfl
    · show (PyData.hasDictAll (r.map .int) || PyData.hasDictAll (rows.map ZT)) = false
      rw [s3, i4]
      rfl
    · show max (PyData.depthAll (r.map .int) + 1) (PyData.depthAll (rows.map ZT)) ≤ 1
      rw [s4]
      omega
theorem repr_ok {rows : List (List Int)} {goal : List Int} (G : Good 260 rows goal) : ∃ t, reprD [.list [RL rows, ZT goal]] = some (.str t) := by
  have hsz : sizeLine = 16777216 := sizeLine_eq
  have g1 := G.few
  have g2 := G.wid
  obtain ⟨i1, i2, i3, i4, i5⟩ := show_rows rows fun r hr => ⟨by rw [(G.rows r hr).1]; exact g2, (G.rows r hr).2⟩
  have s1 := show_row G.goal g2
  obtain ⟨s2, s3⟩ := showable_ints (by omega) goal G.goal
  obtain ⟨_, s4⟩ := lay_ints goal
  have l1 := listText_len_le (PyData.shownAll (rows.map ZT))
  have l2 := listText_len_le (PyData.shownAll [RL rows, ZT goal])
  have e : (PyData.shownAll [RL rows, ZT goal]) = [(RL rows).shown, (ZT goal).shown] := rfl
  refine ⟨_, if_pos ⟨?_, ?_, ?_, ?_⟩⟩
  · show (PyData.showableAll (rows.map ZT) && (PyData.showableAll (goal.map .int) && true)) = true
    rw [i3, s2]
    rfl
  · show (PyData.hasDictAll (rows.map ZT) || (PyData.hasDictAll (goal.map .int) || false)) = false
    rw [i4, s3]
    rfl
  · show max (PyData.depthAll (rows.map ZT) + 1) (max (PyData.depthAll (goal.map .int) + 1) 0) + 1 ≤ 60
    rw [s4]
    omega
  · show (listText (PyData.shownAll [RL rows, ZT goal])).length ≤ sizeLine
    rw [e] at l2 ⊢
    have hR : (RL rows).shown.length ≤ rows.length * 4300 + 2 * rows.length + 3 := by
      show (listText (PyData.shownAll (rows.map ZT))).length ≤ _
      omega
    have hm : rows.length * 4300 ≤ 12 * 4300 := Nat.mul_le_mul_right _ g1
    simp only [List.map_cons, List.map_nil, List.sum_cons, List.sum_nil, List.length_cons, List.length_nil] at l2
    omega
theorem ne_str_self (t : Str) : neD (.str t) (.str t) = some (.bool false) := by
  unfold neD
  split
  · show some (PyData.bool (!(t == t))) = _
    simp
  · show some (PyData.bool (!(t == t))) = _
    simp
end K21
namespace K21
open PySem PySem.Spec PyProof.Rows L2 DL
/-! ### judged -/
abbrev jE (rows : List (List Int)) (goal : List Int) (td : Told) (nums : List Int) (fc t : Int) (c7 c8 c9 : Cel) : En := [.ref 1, .val (RL rows), .val (ZT goal), .val (toldD td), .val (ZL nums), .val (.int fc), .val (.int t), c7, c8, c9]
theorem b7 {c0 c1 c2 c3 c4 c5 c6 c : Cel} {ρ : En} {S : Sto} {d : D} (h : Rd2 c d) : bVar 7 (c0 :: c1 :: c2 :: c3 :: c4 :: c5 :: c6 :: c :: ρ) S = some d := by rcases h with rfl | rfl <;> rfl
noncomputable abbrev jB : SF := sIf (qt (tAndQ (tOf (op2 eqD (eVar 6) (eC (.int 1))) boolD) (tOf (op2 gtD (eCall lenD [(bVar 7)]) (eC (.int 0))) boolD))) (sAugIx 7 iaddD (xCallS F__law_draw [.ev (xVar 0), .ev (qx (eCall lenD [(bVar 7)]))]) (xCallS F__law_pick [.ev (xVar 0), .ev (qx (eLst [(eC (.int 1)), (op1 negD (eC (.int 1))), (eC (.int 2))]))])) sNil
noncomputable abbrev jC : SF := sIf (qt (tOf (op2 eqD (eVar 6) (eC (.int 2))) boolD)) (sSet 7 (xIf (xtOf (xop2 eqD (xCallS F__law_draw [.ev (xVar 0), .ev (qx (eC (.int 2)))]) (qx (eC (.int 0)))) boolD) (qx (eLc (iOf (bVar 7)) (bName 8) [8] tYesQ (op1 negD (eVar 8)))) (qx (eSlice (bVar 7) (oSome (eC (.int 1))) oNone)))) sNil
section
variable {rows : List (List Int)} {goal nums P : List Int} {td : Told} {fc t : Int} {cells : List Int} {seed : Int} {c7 c8 c9 : Cel}
theorem judge_B (hs : SeedOk seed) (bP : Bits (M0 + 40) P) (hl : P.length ≤ 100) : ∃ (P' cells' : List Int) (seed' : Int), jB (jE rows goal td nums fc t (.own (ZL P)) c8 c9) (S2 cells seed) = some (.nx (jE rows goal td nums fc t (.own (ZL P')) c8 c9) (S2 cells' seed')) ∧ SeedOk seed' ∧ Bits (M0 + 41) P' ∧ P'.length ≤ 100 := by
  have t1 : tOf (op2 eqD (eVar 6) (eC (.int 1))) boolD (jE rows goal td nums fc t (.own (ZL P)) c8 c9) (S2 cells seed) = some (t == 1) := tOf_s (op2_s rfl rfl ap_eqI) rfl
  have t2 : tOf (op2 gtD (eCall lenD [(bVar 7)]) (eC (.int 0))) boolD (jE rows goal td nums fc t (.own (ZL P)) c8 c9) (S2 cells seed) = some (decide ((0 : Int) < P.length)) := tOf_s (op2_s (call1_s rfl len_L) rfl ap_gt) rfl
  by_cases h : t = 1 ∧ 0 < P.length
  · obtain ⟨h1, h2⟩ := h
    obtain ⟨v, c1, s1, e1, hs1, hv0, hv1⟩ := draw_ok (cells := cells) (many := P.length) hs (by omega)
    obtain ⟨v, rfl⟩ := Int.eq_ofNat_of_zero_le hv0
    obtain ⟨x, c2, s2, hx, e2, hs2⟩ := pick_ok (cells := c1) (c := PyData.int) (xs := [1, -1, 2]) hs1 (by decide)
    have bx : x.natAbs ≤ 2 := by
      have : ∀ y ∈ ([1, -1, 2] : List Int), y.natAbs ≤ 2 := by decide
      exact this x hx
    have hv : v < P.length := by omega
    refine ⟨P.set v (nth P v + x), c2, s2, ?_, hs2, fun y hy => ?_, by rw [List.length_set]; exact hl⟩
    · refine if_t (qt_s (and_t (by rw [t1, h1]; rfl) (by rw [t2, decide_eq_true (by omega)]))) ?_
      have h := augIx_s (i := 7) (F := iaddD) (ρ := jE rows goal td nums fc t (.own (ZL P)) c8 c9) (S := S2 cells seed) (fv := xCallS F__law_pick [.ev (xVar 0), .ev (qx (eLst [(eC (.int 1)), (op1 negD (eC (.int 1))), (eC (.int 2))]))]) rfl (xdraw_s (i := 0) (c := .no) (ρ := []) (f := eCall lenD [(bVar 7)]) rfl (call1_s rfl len_L) e1) rfl (at_getD (ns := P) hv) (callS_s (eva_s rfl (eva_s (qx_s rfl) rfl)) rfl e2) (z := .int (nth P v + x)) rfl rfl (ixN_nat (m := v) (by rw [List.length_map]; exact hv))
      rw [h]
      show some (Rs.nx (jE rows goal td nums fc t (.own (.list ((P.map PyData.int).set v (.int (nth P v + x))))) c8 c9) _) = _
      rw [← List.map_set]
    · have e : 2 ^ (M0 + 41) = 2 * 2 ^ (M0 + 40) := by rw [show M0 + 41 = (M0 + 40) + 1 from rfl, Nat.pow_succ, Nat.mul_comm]
      have e4 : 2 ^ 2 ≤ 2 ^ (M0 + 40) := Nat.pow_le_pow_right (by omega) (by omega)
      rw [e]
      have b := bP.get (k := v)
      rcases List.mem_or_eq_of_mem_set hy with hy | hy
      · have := bP y hy
        generalize 2 ^ (M0 + 40) = B at *
        omega
      · subst hy
        have := Int.natAbs_add_le (nth P v) x
        generalize 2 ^ (M0 + 40) = B at *
        omega
  · refine ⟨P, cells, seed, if_f (qt_s ?_) rfl, hs, bP.mono (by omega), hl⟩
    by_cases h1 : t = 1
    · refine and_t (by rw [t1, h1]; rfl) ?_
      rw [t2, decide_eq_false (by omega)]
    · exact and_f (by rw [t1]; simp [h1])
theorem judge_C (hs : SeedOk seed) (bP : Bits (M0 + 41) P) (hl : P.length ≤ 100) : ∃ (P' cells' : List Int) (seed' : Int) (c7' : Cel), jC (jE rows goal td nums fc t (.own (ZL P)) c8 c9) (S2 cells seed) = some (.nx (jE rows goal td nums fc t c7' c8 c9) (S2 cells' seed')) ∧ SeedOk seed' ∧ Rd2 c7' (ZL P') ∧ Bits (M0 + 41) P' ∧ P'.length ≤ 100 := by
  have hsz : sizeLine = 16777216 := sizeLine_eq
  have t1 : tOf (op2 eqD (eVar 6) (eC (.int 2))) boolD (jE rows goal td nums fc t (.own (ZL P)) c8 c9) (S2 cells seed) = some (t == 2) := tOf_s (op2_s rfl rfl ap_eqI) rfl
  by_cases h1 : t = 2
  · obtain ⟨v, c1, s1, e1, hs1, hv0, hv1⟩ := draw_ok (cells := cells) (many := 2) hs (by omega)
    have tt : xtOf (xop2 eqD (xCallS F__law_draw [.ev (xVar 0), .ev (qx (eC (.int 2)))]) (qx (eC (.int 0)))) boolD (jE rows goal td nums fc t (.own (ZL P)) c8 c9) (S2 cells seed) = some (v == 0, jE rows goal td nums fc t (.own (ZL P)) c8 c9, S2 c1 s1) :=
      xtOf_s (xop2_s (xdraw_s (i := 0) (c := .no) (ρ := []) (f := eC (.int 2)) rfl rfl e1) (qx_s rfl) ap_eqI) rfl
    by_cases h0 : v = 0
    · refine ⟨P.map (- ·), c1, s1, .val (ZL (P.map (- ·))), if_t (qt_s (by rw [t1, h1]; rfl)) (set_s (ρ1 := jE rows goal td nums fc t (.own (ZL P)) c8 c9) (xif_s tt (fun _ => qx_s (elc_s (lc_s (iOf_s rfl rfl) (neg_lc fun _ => rfl) (by rw [List.length_map, List.length_map]; omega)))) (fun z => by simp [h0] at z))), hs1, .inl rfl, neg_bits bP, by rw [List.length_map]; exact hl⟩
    · refine ⟨P.drop 1, c1, s1, .val (ZL (P.drop 1)), if_t (qt_s (by rw [t1, h1]; rfl)) (set_s (ρ1 := jE rows goal td nums fc t (.own (ZL P)) c8 c9) (xif_s tt (fun z => by simp [h0] at z) (fun _ => qx_s (slice_s rfl (oSome_s rfl) rfl (slice_lo P 1))))), hs1, .inl rfl, fun x hx => bP x (List.mem_of_mem_drop hx), by rw [List.length_drop]; omega⟩
  · exact ⟨P, cells, seed, .own (ZL P), if_f (qt_s (by rw [t1]; simp [h1])) rfl, hs, .inr rfl, bP, hl⟩
end
end K21
namespace K21
open PySem PySem.Spec PyProof.Rows L2 DL
noncomputable abbrev jD1 : SF := sSet 9 (xop2 addD (qx (op2 mulD (eVar 5) (op2 ixD (eVar 3) (eC (.int 2))))) (xCallS F__law_pick [.ev (xVar 0), .ev (qx (eLst [(eC (.int 0)), (eC (.int 0)), (eC (.int 1)), (op2 mulD (op1 negD (eVar 5)) (op2 ixD (eVar 3) (eC (.int 2)))), (op2 mulD (op2 mulD (op1 negD (eC (.int 2))) (eVar 5)) (op2 ixD (eVar 3) (eC (.int 2))))]))]))
noncomputable abbrev jD2 : SF := sIf (qt (tNotQ (tOf (eCallF (F__law_same 3) [(true, (eCallF F_weights_right [(true, (eVar 1)), (true, (eVar 2)), (true, (eCall tupleC [(bVar 7)])), (true, (eVar 9))])), (true, (eCallF F__law_follows [(true, (eVar 1)), (true, (eVar 2)), (false, (bVar 7)), (true, (eVar 9))]))]) truD))) (sRet (qx (eC (.bool false)))) sNil
noncomputable abbrev jD3 : SF := sIf (qt (tAndQ (tOf (op2 eqD (eCall lenD [(bVar 7)]) (eCall lenD [(eVar 2)])) boolD) (tNotQ (tOf (eCallF (F__law_same 3) [(true, (eCallF F_shift_right [(true, (eVar 1)), (true, (eVar 2)), (true, (eCall tupleC [(bVar 7)]))])), (true, (eCallF F__law_moves [(true, (eVar 1)), (true, (eVar 2)), (false, (bVar 7))]))]) truD)))) (sRet (qx (eC (.bool false)))) sNil
noncomputable abbrev jD : SF := sIf (qt (tOf (op2 eqD (op2 ixD (eVar 3) (eC (.int 0))) (eC (.str "in"))) boolD)) (sSeq jD1 jD2) jD3
noncomputable abbrev jA : SF := sOwnF 7 (qy (yLc (iOf (eVar 4)) (bName 8) [8] tYesQ (op2 mulD (eVar 5) (eVar 8))))
theorem judged_body : b__law_judged_1 = sSeq jA (sSeq jB (sSeq jC jD)) := rfl
section
variable {rows : List (List Int)} {goal nums P : List Int} {fc t : Int} {cells : List Int} {seed : Int} {c7 c8 c9 : Cel}
theorem judge_D_out {s : List Int} (G : Good 260 rows goal) (hc : Rd2 c7 (ZL P)) (bP : Bits (M0 + 41) P) : jD (jE rows goal (.out s) nums fc t c7 c8 c9) (S2 cells seed) = some (.nx (jE rows goal (.out s) nums fc t c7 c8 c9) (S2 cells seed)) := by
  have t0 : tOf (op2 eqD (op2 ixD (eVar 3) (eC (.int 0))) (eC (.str "in"))) boolD (jE rows goal (.out s) nums fc t c7 c8 c9) (S2 cells seed) = some false := tOf_s (op2_s (op2_s rfl rfl ix0) rfl eq_out_in) rfl
  refine if_f (qt_s t0) ?_
  have t1 : tOf (op2 eqD (eCall lenD [(bVar 7)]) (eCall lenD [(eVar 2)])) boolD (jE rows goal (.out s) nums fc t c7 c8 c9) (S2 cells seed) = some ((P.length : Int) == (goal.length : Int)) := tOf_s (op2_s (call1_s (b7 hc) len_L) (call1_s rfl len_T) ap_eqI) rfl
  by_cases h : P.length = goal.length
  · have sr := shift_right_ok (S := []) G bP (by decide) h
    have mv := moves_ok (S := []) G (.inr rfl) (.inl rfl : IsZ (ZL P) P) bP (by decide)
    have sm := same_bool (n := 2) (a := movesB rows goal P) (b := movesB rows goal P) (S := [])
    rw [beq_self_eq_true] at sm
    refine if_f (qt_s (and_t (by rw [t1, h]; simp) (not_s (x := true) (tOf_s (callF_s (evm1_s (callF_s (evm1_s rfl (evm1_s rfl (evm1_s (call1_s (b7 hc) ap_tupL) rfl))) sr) (evm1_s (callF_s (evm1_s rfl (evm1_s rfl (evm1_s (b7 hc) rfl))) mv) rfl)) sm) rfl)))) rfl
  · refine if_f (qt_s (and_f ?_)) rfl
    rw [t1]
    have : ¬ (P.length : Int) = (goal.length : Int) := by omega
    simp [this]
theorem judge_D_in {p : List Int} {d : Int} (G : Good 260 rows goal) (hs : SeedOk seed) (hc : Rd2 c7 (ZL P)) (bP : Bits (M0 + 41) P) (hl : P.length ≤ 100) (bf : fc.natAbs < 2 ^ 40) (bd : d.natAbs < 2 ^ M0) :
    ∃ (cells' : List Int) (seed' : Int) (c9' : Cel), jD (jE rows goal (.inn p d) nums fc t c7 c8 c9) (S2 cells seed) = some (.nx (jE rows goal (.inn p d) nums fc t c7 c8 c9') (S2 cells' seed')) ∧ SeedOk seed' := by
  have t0 : tOf (op2 eqD (op2 ixD (eVar 3) (eC (.int 0))) (eC (.str "in"))) boolD (jE rows goal (.inn p d) nums fc t c7 c8 c9) (S2 cells seed) = some true := tOf_s (op2_s (op2_s rfl rfl ix0) rfl eq_in_in) rfl
  have m1 : mulD (.int fc) (.int d) = some (.int (fc * d)) := mul_ok bf bd (by decide)
  have m2 : mulD (.int (-fc)) (.int d) = some (.int (-fc * d)) := mul_ok (n := 40) (by rw [Int.natAbs_neg]; exact bf) bd (by decide)
  have m3 : mulD (.int (-2)) (.int fc) = some (.int (-2 * fc)) := mul_ok (n := 2) (by decide) bf (by decide)
  have b3 : (-2 * fc).natAbs < 2 ^ (2 + 40) := mul_bits (n := 2) (by decide) bf
  have m4 : mulD (.int (-2 * fc)) (.int d) = some (.int (-2 * fc * d)) := mul_ok b3 bd (by decide)
  obtain ⟨x, c1, s1, hx, e1, hs1⟩ := pick_ok (cells := cells) (c := PyData.int) (xs := [0, 0, 1, -fc * d, -2 * fc * d]) hs (by show 0 < 5; omega)
  have q1 : (fc * d).natAbs < 2 ^ (40 + M0) := mul_bits bf bd
  have q2 : (-2 * fc * d).natAbs < 2 ^ (2 + 40 + M0) := mul_bits b3 bd
  have bdv : (fc * d + x).natAbs < 2 ^ (M0 + 44) := by
    have u1 : 2 ^ (40 + M0) ≤ 2 ^ (M0 + 42) := Nat.pow_le_pow_right (by omega) (by omega)
    have u2 : 2 ^ (2 + 40 + M0) ≤ 2 ^ (M0 + 42) := Nat.pow_le_pow_right (by omega) (by omega)
    have u3 : 2 ^ (M0 + 44) = 4 * 2 ^ (M0 + 42) := by rw [show M0 + 44 = (M0 + 42) + 2 from rfl, Nat.pow_add, Nat.mul_comm]
    have u4 : 2 ^ 2 ≤ 2 ^ (M0 + 42) := Nat.pow_le_pow_right (by omega) (by omega)
    have u5 := Int.natAbs_add_le (fc * d) x
    have q3 : (-fc * d).natAbs < 2 ^ (40 + M0) := mul_bits (by rw [Int.natAbs_neg]; exact bf) bd
    rw [u3]
    have bx : x.natAbs < 2 ^ (M0 + 42) := by
      simp only [List.mem_cons, List.not_mem_nil, or_false] at hx
      rcases hx with h | h | h | h | h
      · rw [h]; show 0 < _; generalize 2 ^ (M0 + 42) = B at *; omega
      · rw [h]; show 0 < _; generalize 2 ^ (M0 + 42) = B at *; omega
      · rw [h]; show 1 < _; generalize 2 ^ (M0 + 42) = B at *; omega
      · rw [h]; exact Nat.lt_of_lt_of_le q3 u1
      · rw [h]; exact Nat.lt_of_lt_of_le q2 u2
    have := Nat.lt_of_lt_of_le q1 u1
    generalize 2 ^ (M0 + 42) = B at *
    omega
  have bP' : Bits (M0 + 44) P := bP.mono (by omega)
  have wr := weights_right_ok (S := []) G bP' bdv (by decide) (by omega)
  have fo := follows_ok (S := []) G (.inr rfl) (.inl rfl : IsZ (ZL P) P) bP' bdv (by decide) (by omega)
  have sm := same_bool (n := 2) (a := followsB rows goal P (fc * d + x)) (b := followsB rows goal P (fc * d + x)) (S := [])
  rw [beq_self_eq_true] at sm
  refine ⟨c1, s1, .val (.int (fc * d + x)), if_t (qt_s t0) (seq_s (ρ' := jE rows goal (.inn p d) nums fc t c7 c8 (.val (.int (fc * d + x)))) (S' := S2 c1 s1) ?_ (if_f (qt_s (not_s (x := true) (tOf_s (callF_s (evm1_s (callF_s (evm1_s rfl (evm1_s rfl (evm1_s (call1_s (b7 hc) ap_tupL) (evm1_s rfl rfl)))) wr) (evm1_s (callF_s (evm1_s rfl (evm1_s rfl (evm1_s (b7 hc) (evm1_s rfl rfl)))) fo) rfl)) sm) rfl))) rfl)), hs1⟩
  exact set_s (ρ1 := jE rows goal (.inn p d) nums fc t c7 c8 c9) (xop2_s (qx_s (op2_s rfl (op2_s rfl rfl ix2) m1)) (callS_s (eva_s rfl (eva_s (qx_s (lst_s (evs1_s rfl (evs1_s rfl (evs1_s rfl (evs1_s (op2_s rfl (op2_s rfl rfl ix2) m2) (evs1_s (op2_s (op2_s rfl rfl m3) (op2_s rfl rfl ix2) m4) rfl))))))) rfl)) rfl e1) ap_addI)
end
end K21
namespace K21
open PySem PySem.Spec PyProof.Rows L2 DL
/-- the numbers of a paper -/
def numsP : Told → List Int
  | .inn p _ => p
  | .out s => s
theorem told_ix1 {td : Told} : ixD (toldD td) (.int 1) = some (ZT (numsP td)) := by cases td <;> exact ix1
section
variable {rows : List (List Int)} {goal : List Int} {fc t : Int} {cells : List Int} {seed : Int} {c7 c8 c9 : Cel}
theorem judge_step {td : Told} (G : Good 260 rows goal) (hs : SeedOk seed) (bn : Bits M0 (numsP td)) (hd : ∀ p d, td = .inn p d → d.natAbs < 2 ^ M0) (bf : fc.natAbs < 2 ^ 40) (hl : (numsP td).length ≤ 100) :
    ∃ (cells' : List Int) (seed' : Int) (c7' c9' : Cel), b__law_judged_1 (jE rows goal td (numsP td) fc t c7 c8 c9) (S2 cells seed) = some (.nx (jE rows goal td (numsP td) fc t c7' c8 c9') (S2 cells' seed')) ∧ SeedOk seed' := by
  have hsz : sizeLine = 16777216 := sizeLine_eq
  have lc : lcQ (bName 8) tYesQ (op2 mulD (eVar 5) (eVar 8)) [lendC (.ref 1), lendC (.val (RL rows)), lendC (.val (ZT goal)), lendC (.val (toldD td)), lendC (.val (ZL (numsP td))), lendC (.val (.int fc)), lendC (.val (.int t)), lendC c7, .no, lendC c9] (S2 cells seed) ((numsP td).map .int) = some (((numsP td).map (fc * ·)).map .int) := by
    rw [List.map_map]
    exact lc_map fun x hx => ⟨_, rfl, op2_s rfl rfl (mul_ok bf (bn x hx) (by decide))⟩
  have eA : jA (jE rows goal td (numsP td) fc t c7 c8 c9) (S2 cells seed) = some (.nx (jE rows goal td (numsP td) fc t (.own (ZL ((numsP td).map (fc * ·)))) c8 c9) (S2 cells seed)) :=
    ownF_s (ρ1 := jE rows goal td (numsP td) fc t c7 c8 c9) (qy_s (lc_s (iOf_s rfl rfl) lc (by rw [List.length_map, List.length_map]; omega)))
  have bA : Bits (M0 + 40) ((numsP td).map (fc * ·)) := (map_bits bf bn).mono (by omega)
  obtain ⟨P1, c1, s1, eB, hs1, bB, lB⟩ := judge_B (rows := rows) (goal := goal) (nums := numsP td) (td := td) (fc := fc) (t := t) (c8 := c8) (c9 := c9) (cells := cells) hs bA (by rw [List.length_map]; exact hl)
  obtain ⟨P2, c2, s2, c7', eC, hs2, hc, bC, lC⟩ := judge_C (rows := rows) (goal := goal) (nums := numsP td) (td := td) (fc := fc) (t := t) (c8 := c8) (c9 := c9) (cells := c1) hs1 bB lB
  rw [judged_body]
  cases td with
  | inn p d =>
    obtain ⟨c3, s3, c9', eD, hs3⟩ := judge_D_in (rows := rows) (nums := numsP (.inn p d)) (t := t) (c8 := c8) (c9 := c9) (cells := c2) (p := p) G hs2 hc bC lC bf (hd p d rfl)
    exact ⟨c3, s3, c7', c9', seq_s eA (seq_s eB (seq_s eC eD)), hs3⟩
  | out s =>
    have eD := judge_D_out (rows := rows) (nums := numsP (.out s)) (fc := fc) (t := t) (c8 := c8) (c9 := c9) (cells := c2) (seed := s2) (s := s) G hc bC
    exact ⟨c2, s2, c7', c9, seq_s eA (seq_s eB (seq_s eC eD)), hs2⟩
theorem judge_loop {td : Told} (G : Good 260 rows goal) (bn : Bits M0 (numsP td)) (hd : ∀ p d, td = .inn p d → d.natAbs < 2 ^ M0) (bf : fc.natAbs < 2 ^ 40) (hl : (numsP td).length ≤ 100) : ∀ (ts : List Nat) (cells : List Int) (seed : Int) (c6 c7 c9 : Cel), SeedOk seed →
    ∃ (cells' : List Int) (seed' : Int) (d6 c7' c9' : Cel), sFor (bName 6) b__law_judged_1 (ts.map fun k : Nat => PyData.int (k : Int)) [.ref 1, .val (RL rows), .val (ZT goal), .val (toldD td), .val (ZL (numsP td)), .val (.int fc), c6, c7, c8, c9] (S2 cells seed)
      = some (.nx [.ref 1, .val (RL rows), .val (ZT goal), .val (toldD td), .val (ZL (numsP td)), .val (.int fc), d6, c7', c8, c9'] (S2 cells' seed')) ∧ SeedOk seed'
  | [], cells, seed, c6, c7, c9, hs => ⟨cells, seed, c6, c7, c9, rfl, hs⟩
  | t :: ts, cells, seed, c6, c7, c9, hs => by
    obtain ⟨c1, s1, c7', c9', e1, hs1⟩ := judge_step (t := (t : Int)) (c7 := c7) (c8 := c8) (c9 := c9) (cells := cells) G hs bn hd bf hl
    obtain ⟨c2, s2, d6, c7'', c9'', e2, hs2⟩ := judge_loop G bn hd bf hl ts c1 s1 (.val (.int (t : Int))) c7' c9' hs1
    exact ⟨c2, s2, d6, c7'', c9'', for_s rfl e1 e2, hs2⟩
theorem judged_ok {td : Told} (G : Good 260 rows goal) (hs : SeedOk seed) (bn : Bits M0 (numsP td)) (hd : ∀ p d, td = .inn p d → d.natAbs < 2 ^ M0) (hl : (numsP td).length ≤ 100) :
    ∃ (cells' : List Int) (seed' : Int), F__law_judged [.ref 1, .val (RL rows), .val (ZT goal), .val (toldD td)] (S2 cells seed) = some (.dat (.bool true), S2 cells' seed') ∧ SeedOk seed' := by
  obtain ⟨fc, c1, s1, hx, e1, hs1⟩ := pick_ok (cells := cells) (c := PyData.int) (xs := [1, 2, 5, 10 ^ 12]) hs (by decide)
  have bf : fc.natAbs < 2 ^ 40 := by
    have : ∀ y ∈ ([1, 2, 5, 10 ^ 12] : List Int), y.natAbs < 2 ^ 40 := by decide
    exact this fc hx
  have p12 : powD (.int 10) (.int 12) = some (.int (10 ^ 12)) := pow_s (a := 10) (k := 12) (by omega) (by decide)
  obtain ⟨c2, s2, d6, c7', c9', e2, hs2⟩ := judge_loop (c8 := .no) G bn hd bf hl (List.range 3) c1 s1 .no .no .no hs1
  refine ⟨c2, s2, fnF_s ?_, hs2⟩
  unfold t__law_judged
  refine seq_s (set_s (ρ1 := [.ref 1, .val (RL rows), .val (ZT goal), .val (toldD td), .no, .no, .no, .no, .no, .no]) (qx_s (call1_s (op2_s rfl rfl told_ix1) ap_listT))) ?_
  refine seq_s (set_s (ρ1 := [.ref 1, .val (RL rows), .val (ZT goal), .val (toldD td), .val (ZL (numsP td)), .no, .no, .no, .no, .no]) (callS_s (eva_s rfl (eva_s (qx_s (lst_s (evs1_s rfl (evs1_s rfl (evs1_s rfl (evs1_s (op2_s rfl rfl p12) rfl)))))) rfl)) rfl e1)) ?_
  refine seq_s (forI_s (ρ1 := [.ref 1, .val (RL rows), .val (ZT goal), .val (toldD td), .val (ZL (numsP td)), .val (.int fc), .no, .no, .no, .no]) (S1 := S2 c1 s1) (ixRange1_s (v := 3) (qx_s rfl) (by omega)) e2) ?_
  exact ret_s (qx_s rfl)
end
end K21
namespace K21
open PySem PySem.Spec PyProof.Rows L2 DL
/-! ### the law -/
theorem good_of {w : Nat} {rows : List (List Int)} {goal : List Int} (hr : RowsOk w rows) (hw : w ≤ 10) (hg : goal.length = w) (bg : Bits 260 goal) : Good 260 rows goal := by
  have h12 := hr.1
  exact ⟨h12, by omega, by omega, fun r h => ⟨by rw [(hr.2 r h).1, hg], (hr.2 r h).2.mono (by omega)⟩, bg⟩
theorem is_str_none {t : Str} : isD (.str t) .none = some (.bool false) := rfl
abbrev lE (sc : D) (rows : List (List Int)) (w : Nat) (c4 c5 c6 c7 c8 c9 : Cel) : En := [.val sc, .ref 1, .val (RL rows), .val (.int (w : Int)), c4, c5, c6, c7, c8, c9]
section
variable {rows : List (List Int)} {w : Nat} {sc : D} {c4 c5 c6 c7 c8 c9 : Cel} {cells : List Int} {seed : Int}
theorem law_step (hs : SeedOk seed) (hr : RowsOk w rows) (h1 : 1 ≤ w) (hw : w ≤ 10) :
    ∃ (goal : List Int) (t : Str) (cells' : List Int) (seed' : Int), b_law_1 (lE sc rows w c4 c5 c6 c7 c8 c9) (S2 cells seed) = some (.nx (lE sc rows w c4 (.val (ZT goal)) (.val (.str t)) c7 c8 c9) (S2 cells' seed')) ∧ SeedOk seed' := by
  obtain ⟨goal, ca, sa, eg, hsa, hg, bg⟩ := goal_ok (cells := cells) hs hr h1 hw
  have G := good_of hr hw hg bg
  obtain ⟨t, et⟩ := repr_ok G
  have sm : Small 260 goal.length rows.length := ⟨by omega, by omega, G.wid, G.few⟩
  obtain ⟨Sw, ew⟩ := weights_ok sm G.rows G.goal
  have wb := weights_bits G
  have hwid := G.wid
  have hfew := G.few
  have to := told_ok (S := []) G
  generalize weightsP goal.length rows goal = td at *
  have bn : Bits M0 (numsP td) := by cases td <;> first | exact wb.1
  have hd : ∀ p d, td = .inn p d → d.natAbs < 2 ^ M0 := by
    intro p d e
    subst e
    exact wb.2.1
  have hl : (numsP td).length ≤ 100 := by
    cases td with
    | inn p d => have := wb.2.2; show p.length ≤ 100; omega
    | out s => have := wb.2; show s.length ≤ 100; omega
  obtain ⟨cb, sb, ej, hsb⟩ := judged_ok (cells := ca) G hsa bn hd hl
  refine ⟨goal, t, cb, sb, ?_, hsb⟩
  unfold b_law_1
  refine seq_s (set_s (ρ1 := lE sc rows w c4 c5 c6 c7 c8 c9) (callS_s (eva_s rfl (eva_s (qx_s rfl) (eva_s (qx_s rfl) rfl))) rfl eg)) ?_
  refine seq_s (set_s (ρ1 := lE sc rows w c4 (.val (ZT goal)) c6 c7 c8 c9) (qx_s (call1_s (lst_s (evs1_s rfl (evs1_s rfl rfl))) et))) ?_
  refine if_f (ρ1 := lE sc rows w c4 (.val (ZT goal)) (.val (.str t)) c7 c8 c9) (S1 := S2 cb sb) (xor_f (qt_s (tOf_s (op2_s (callF_s (evm1_s rfl (evm1_s rfl rfl)) to) rfl is_str_none) rfl)) (xor_f ?_ (qt_s (tOf_s (op2_s (call1_s (lst_s (evs1_s rfl (evs1_s rfl rfl))) et) rfl (ne_str_self t)) rfl)))) rfl
  exact xnot_s (x := true) (xtOf_s (callS_s (eva_s rfl (eva_s (qx_s rfl) (eva_s (qx_s rfl) (eva_s (qx_s (callF_s (evm1_s rfl (evm1_s rfl rfl)) ew)) rfl)))) rfl ej) rfl)
theorem law_loop (hr : RowsOk w rows) (h1 : 1 ≤ w) (hw : w ≤ 10) : ∀ (ts : List Nat) (cells : List Int) (seed : Int) (c4 c5 c6 : Cel), SeedOk seed →
    ∃ (cells' : List Int) (seed' : Int) (d4 d5 d6 : Cel), sFor (bName 4) b_law_1 (ts.map fun k : Nat => PyData.int (k : Int)) (lE sc rows w c4 c5 c6 c7 c8 c9) (S2 cells seed)
      = some (.nx (lE sc rows w d4 d5 d6 c7 c8 c9) (S2 cells' seed'))
  | [], cells, seed, c4, c5, c6, hs => ⟨cells, seed, c4, c5, c6, rfl⟩
  | t :: ts, cells, seed, c4, c5, c6, hs => by
    obtain ⟨goal, tx, ca, sa, e1, hsa⟩ := law_step (sc := sc) (c4 := .val (.int (t : Int))) (c5 := c5) (c6 := c6) (c7 := c7) (c8 := c8) (c9 := c9) (cells := cells) hs hr h1 hw
    obtain ⟨cb, sb, d4, d5, d6, e2⟩ := law_loop hr h1 hw ts ca sa (.val (.int (t : Int))) (.val (ZT goal)) (.val (.str tx)) hsa
    exact ⟨cb, sb, d4, d5, d6, for_s rfl e1 e2⟩
def isOut : Told → Bool
  | .inn _ _ => false
  | .out _ => true
/-- is the k-th row outside the rows before it -/
def outAt (w : Nat) (rows : List (List Int)) (k : Nat) : Bool := isOut (weightsP w (rows.take k) (rows.getD k []))
theorem slice_rows (rows : List (List Int)) (k : Nat) : sliceD (RL rows) none (some (k : Int)) = some (RL (rows.take k)) := by
  show some (PyData.list (DL.cutD _ _ _)) = _
  rw [cut_hi, ← List.map_take]
theorem ix_rows {k : Nat} (hk : k < rows.length) : ixD (RL rows) (.int (k : Int)) = some (ZT (rows.getD k [])) := by
  rw [ap_ixL]
  have h := atI_nat' (xs := rows.map ZT) (m := k) (by rw [List.length_map]; exact hk)
  rw [h]
  simp [hk]
theorem due_step {dues : List Int} {k : Nat} {S : Sto} (hr : RowsOk w rows) (h1 : 1 ≤ w) (hw : w ≤ 10) (hk : k < rows.length) (hd : dues.length < 1000) :
    ∃ d9, b_law_2 (lE sc rows w c4 c5 c6 (.own (ZL dues)) (.val (.int (k : Int))) c9) S = some (.nx (lE sc rows w c4 c5 c6 (.own (ZL (dues ++ if outAt w rows k = true then [(k : Int)] else []))) (.val (.int (k : Int))) d9) S) := by
  have hsz : sizeLine = 16777216 := sizeLine_eq
  have h12 := hr.1
  have hm : rows.getD k [] ∈ rows := by
    rw [List.getD_eq_getElem?_getD, List.getElem?_eq_getElem hk]
    exact List.getElem_mem hk
  obtain ⟨hgl, hgb⟩ := hr.2 _ hm
  have G : Good 260 (rows.take k) (rows.getD k []) := ⟨by rw [List.length_take]; omega, by omega, by omega, fun r h => by
    obtain ⟨a, b⟩ := hr.2 r (List.mem_of_mem_take h)
    exact ⟨by omega, b.mono (by omega)⟩, hgb.mono (by omega)⟩
  have to := told_ok (S := []) G
  rw [hgl] at to
  unfold outAt
  generalize weightsP w (rows.take k) (rows.getD k []) = td at *
  refine ⟨.val (.str (toldW td)), ?_⟩
  unfold b_law_2
  refine seq_s (set_s (ρ1 := lE sc rows w c4 c5 c6 (.own (ZL dues)) (.val (.int (k : Int))) c9) (qx_s (callF_s (evm1_s (slice_s rfl rfl (oSome_s rfl) (slice_rows rows k)) (evm1_s (op2_s rfl rfl (ix_rows hk)) rfl)) to))) ?_
  refine seq_s (if_f (ρ1 := lE sc rows w c4 c5 c6 (.own (ZL dues)) (.val (.int (k : Int))) (.val (.str (toldW td)))) (S1 := S) (qt_s (tOf_s (op2_s rfl rfl is_str_none) rfl)) rfl) ?_
  cases td with
  | inn p d =>
    refine if_f (qt_s (tOf_s (op2_s rfl rfl eq_in_out) rfl)) ?_
    show some (Rs.nx (lE sc rows w c4 c5 c6 (.own (ZL dues)) _ _) S) = some (Rs.nx (lE sc rows w c4 c5 c6 (.own (ZL (dues ++ []))) _ _) S)
    rw [List.append_nil]
  | out s =>
    refine if_t (qt_s (tOf_s (op2_s rfl rfl eq_out_out) rfl)) ?_
    have ha := app_s (i := 7) (fx := qx (eVar 8)) (ρ := lE sc rows w c4 c5 c6 (.own (ZL dues)) (.val (.int (k : Int))) (.val (.str (toldW (.out s))))) (S := S) rfl (qx_s rfl) rfl (by rw [List.length_map]; omega)
    rw [expr_s ha]
    show some (Rs.nx (lE sc rows w c4 c5 c6 (.own (.list (dues.map PyData.int ++ [.int (k : Int)]))) _ _) S) = some (Rs.nx (lE sc rows w c4 c5 c6 (.own (ZL (dues ++ [(k : Int)]))) _ _) S)
    unfold ZL
    rw [List.map_append]
    rfl
theorem due_loop (hr : RowsOk w rows) (h1 : 1 ≤ w) (hw : w ≤ 10) {S : Sto} : ∀ (ks : List Nat) (dues : List Int) (c8 c9 : Cel), (∀ k ∈ ks, k < rows.length) → dues.length + ks.length ≤ 1000 →
    ∃ d8 d9, sFor (bName 8) b_law_2 (ks.map fun k : Nat => PyData.int (k : Int)) (lE sc rows w c4 c5 c6 (.own (ZL dues)) c8 c9) S
      = some (.nx (lE sc rows w c4 c5 c6 (.own (ZL (dues ++ (ks.filter (outAt w rows)).map fun k : Nat => (k : Int)))) d8 d9) S)
  | [], dues, c8, c9, _, _ => ⟨c8, c9, by
    simp only [List.filter_nil, List.map_nil, List.append_nil]
    rfl⟩
  | k :: ks, dues, c8, c9, hk, hl => by
    rw [List.length_cons] at hl
    obtain ⟨e9, e1⟩ := due_step (sc := sc) (c4 := c4) (c5 := c5) (c6 := c6) (c9 := c9) (dues := dues) (S := S) hr h1 hw (hk k List.mem_cons_self) (by omega)
    obtain ⟨d8, d9, e2⟩ := due_loop hr h1 hw ks (dues ++ if outAt w rows k = true then [(k : Int)] else []) (.val (.int (k : Int))) e9 (fun k' h => hk k' (List.mem_cons_of_mem _ h)) (by
      rw [List.length_append]
      split <;> simp <;> omega)
    refine ⟨d8, d9, ?_⟩
    rw [show dues ++ ((k :: ks).filter (outAt w rows)).map (fun k : Nat => (k : Int)) = (dues ++ if outAt w rows k = true then [(k : Int)] else []) ++ (ks.filter (outAt w rows)).map fun k : Nat => (k : Int) by
      rw [List.filter_cons]
      split <;> simp]
    exact for_s rfl e1 e2
end
theorem sorted_eq : ∀ (xs ys : List Nat), xs.Pairwise (· < ·) → ys.Pairwise (· < ·) → (∀ k, k ∈ xs ↔ k ∈ ys) → xs = ys
  | [], [], _, _, _ => rfl
  | [], y :: ys, _, _, h => by have := (h y).mpr List.mem_cons_self; cases this
  | x :: xs, [], _, _, h => by have := (h x).mp List.mem_cons_self; cases this
  | x :: xs, y :: ys, hx, hy, h => by
    obtain ⟨hx1, hx2⟩ := List.pairwise_cons.mp hx
    obtain ⟨hy1, hy2⟩ := List.pairwise_cons.mp hy
    have e : x = y := by
      rcases List.mem_cons.mp ((h x).mp List.mem_cons_self) with a | a
      · exact a
      · rcases List.mem_cons.mp ((h y).mpr List.mem_cons_self) with b | b
        · exact b.symm
        · have := hx1 y b
          have := hy1 x a
          omega
    subst e
    congr 1
    refine sorted_eq xs ys hx2 hy2 fun k => ⟨fun hk => ?_, fun hk => ?_⟩
    · rcases List.mem_cons.mp ((h k).mp (List.mem_cons_of_mem _ hk)) with a | a
      · subst a
        have := hx1 k hk
        omega
      · exact a
    · rcases List.mem_cons.mp ((h k).mpr (List.mem_cons_of_mem _ hk)) with a | a
      · subst a
        have := hy1 k hk
        omega
      · exact a
theorem due_eq {w : Nat} {rows : List (List Int)} (hr : ∀ r ∈ rows, r.length = w) : (List.range rows.length).filter (outAt w rows) = indepP w rows.length [] 0 rows := by
  refine sorted_eq _ _ (List.Pairwise.filter _ List.pairwise_lt_range) (indep_sorted rows 0 []).1 fun k => ?_
  rw [indep_sep hr rows 0 [] rfl inv0 k, List.mem_filter, List.mem_range]
  have key : k < rows.length → (outAt w rows k = true ↔ Sep w (rows.take k) (rows.getD k [])) := fun hk => by
    have hm : rows.getD k [] ∈ rows := by
      rw [List.getD_eq_getElem?_getD, List.getElem?_eq_getElem hk]
      exact List.getElem_mem hk
    rw [← told_sep (fun r h => hr r (List.mem_of_mem_take h)) (hr _ hm)]
    unfold outAt
    cases weightsP w (rows.take k) (rows.getD k []) with
    | inn p d => exact ⟨fun z => (by cases z), fun ⟨s, z⟩ => (by cases z)⟩
    | out s => exact ⟨fun _ => ⟨s, rfl⟩, fun _ => rfl⟩
  constructor
  · rintro ⟨a, b⟩
    exact ⟨Nat.zero_le _, by omega, (key a).mp b⟩
  · rintro ⟨_, a, b⟩
    have a : k < rows.length := by omega
    exact ⟨a, (key a).mpr b⟩
theorem law_true (ns : List Int) (h : ns.length ≤ 63) : ∃ S', F_law [.val (.list (ns.map PyData.int))] [] = some (.dat (.bool true), S') := by
  have hsz : sizeLine = 16777216 := sizeLine_eq
  obtain ⟨ca, sa, es, hsa⟩ := state_ok ns h
  obtain ⟨w, rows, cb, sb, er, hsb, hr, h1, hw⟩ := rows_ok (cells := ca) hsa
  have h12 := hr.1
  obtain ⟨cc, sc, d4, d5, d6, el⟩ := law_loop (sc := ZL ns) (c7 := .no) (c8 := .no) (c9 := .no) hr h1 hw (List.range 2) cb sb .no .no .no hsb
  obtain ⟨d8, d9, ed⟩ := due_loop (sc := ZL ns) (c4 := d4) (c5 := d5) (c6 := d6) (S := S2 cc sc) hr h1 hw (List.range rows.length) [] .no .no (fun k hk => List.mem_range.mp hk) (by rw [List.length_range]; show 0 + _ ≤ _; omega)
  obtain ⟨Si, ei⟩ := independent_ok (n := 260) (w := w) (rows := rows) ⟨by omega, by omega, by omega, h12⟩ fun r hr' => ⟨(hr.2 r hr').1, (hr.2 r hr').2.mono (by omega)⟩
  rw [due_eq (fun r h => (hr.2 r h).1), List.nil_append] at ed
  have hlen : ((indepP w rows.length [] 0 rows).map fun k : Nat => (k : Int)).length ≤ 1000 := by
    rw [List.length_map, ← due_eq (fun r h => (hr.2 r h).1)]
    have := List.length_filter_le (outAt w rows) (List.range rows.length)
    rw [List.length_range] at this
    omega
  have e2 : (PyData.list ((indepP w rows.length [] 0 rows).map fun k : Nat => PyData.int (k : Int))) = ZL ((indepP w rows.length [] 0 rows).map fun k : Nat => (k : Int)) := by
    unfold ZL
    rw [List.map_map]
    rfl
  rw [e2] at ei
  generalize (indepP w rows.length [] 0 rows).map (fun k : Nat => (k : Int)) = dues at *
  have sl := same_list (n := 1) (S := []) hlen
  refine ⟨S2 cc sc, fnF_s ?_⟩
  unfold t_law
  refine seq_s (set_s (ρ1 := [.val (ZL ns), .no, .no, .no, .no, .no, .no, .no, .no, .no]) (callS_s (eva_s (qx_s rfl) rfl) rfl es)) ?_
  refine seq_s (asg_s (ρ1 := [.val (ZL ns), .ref 1, .no, .no, .no, .no, .no, .no, .no, .no]) (ρ' := lE (ZL ns) rows w .no .no .no .no .no .no) (callS_s (eva_s rfl rfl) rfl er) rfl) ?_
  refine seq_s (forI_s (ρ1 := lE (ZL ns) rows w .no .no .no .no .no .no) (S1 := S2 cb sb) (ixRange1_s (v := 2) (qx_s rfl) (by omega)) el) ?_
  refine seq_s (ownF_s (d := .list []) (ρ1 := lE (ZL ns) rows w d4 d5 d6 .no .no .no) (S1 := S2 cc sc) rfl) ?_
  refine seq_s (forI_s (ρ1 := lE (ZL ns) rows w d4 d5 d6 (.own (ZL [])) .no .no) (S1 := S2 cc sc) (ixRange1_s (v := rows.length) (qx_s (call1_s rfl len_L)) (by omega)) ed) ?_
  exact ret_s (qx_s (callF_s (evm1_s (callF_s (evm1_s rfl rfl) ei) (evm1_s rfl rfl)) sl))
end K21
open PySem PySem.W PyProof.Rows in
set_option maxRecDepth 100000 in
set_option maxHeartbeats 0 in
theorem PySem.Challenge.cw_whosees_k21_whole_rows_that_follow_holds : PySem.Challenge.rw_whosees_k21_whole_rows_that_follow.Holds := by
  w_on; o_law; k_head; (case hw => w_witness2)
  k_fill
  refine DL.walkG_of (l := PySem.Challenge.rw_whosees_k21_whole_rows_that_follow) (n := 63) (k := 49) (x := "script") (FL := K21.F_law) rfl (by decide) rfl ⟨rfl, by decide, by decide⟩ (by decide +kernel) (fun w h Y => PySem.W.kIn_of Y) ?F K21.law_true
  case F =>
    intro w mg fa h KX G hmg
    refine' K21.all_mk KX G hmg rfl ?aC_Basis ?a_divisor_of ?l_divisor_of ?c_divisor_of ?k_divisor_of ?a_shortened ?l_shortened ?c_shortened ?k_shortened ?a_product ?l_product ?c_product ?k_product ?a_Basis___init__ ?i_Basis___init__ ?l_Basis___init__ ?c_Basis___init__ ?k_Basis___init__ ?a_Basis_taken ?i_Basis_taken ?l_Basis_taken ?c_Basis_taken ?k_Basis_taken ?a_Basis_add ?i_Basis_add ?l_Basis_add ?c_Basis_add ?k_Basis_add ?a_Basis_shift ?i_Basis_shift ?l_Basis_shift ?c_Basis_shift ?k_Basis_shift ?a_basis_of ?l_basis_of ?c_basis_of ?k_basis_of ?a_independent ?l_independent ?c_independent ?k_independent ?a_weights ?l_weights ?c_weights ?k_weights ?a_weights_right ?l_weights_right ?c_weights_right ?k_weights_right ?a_shift_right ?l_shift_right ?c_shift_right ?k_shift_right ?a__law_state ?l__law_state ?c__law_state ?k__law_state ?a__law_draw ?l__law_draw ?c__law_draw ?k__law_draw ?a__law_pick ?l__law_pick ?c__law_pick ?k__law_pick ?a__law_same ?l__law_same ?c__law_same ?k__law_same ?a__law_number ?l__law_number ?c__law_number ?k__law_number ?a__law_mixed ?l__law_mixed ?c__law_mixed ?k__law_mixed ?a__law_rows ?l__law_rows ?c__law_rows ?k__law_rows ?a__law_goal ?l__law_goal ?c__law_goal ?k__law_goal ?a__law_follows ?l__law_follows ?c__law_follows ?k__law_follows ?a__law_moves ?l__law_moves ?c__law_moves ?k__law_moves ?a__law_whole ?l__law_whole ?c__law_whole ?k__law_whole ?a__law_told ?l__law_told ?c__law_told ?k__law_told ?a__law_judged ?l__law_judged ?c__law_judged ?k__law_judged ?a_law ?l_law ?c_law ?k_law ?pg_Basis ?hd_Basis ?po_Basis ?sa_Basis ?mk_Basis ?kc_Basis ?n_Basis_count ?n_Basis_width ?n_Basis_steps ?z_abs ?z_list ?z_zip ?z_sum ?z_range ?z_int ?z_len ?z_enumerate ?z_tuple ?z_all ?z_isinstance ?z_bool ?z_str ?z_repr
    (case aC_Basis => k_is)
    (case a_divisor_of => k_is)
    (case l_divisor_of => k_is)
    (case c_divisor_of => k_is)
    (case k_divisor_of => k_is)
    (case a_shortened => k_is)
    (case l_shortened => k_is)
    (case c_shortened => k_is)
    (case k_shortened => k_is)
    (case a_product => k_is)
    (case l_product => k_is)
    (case c_product => k_is)
    (case k_product => k_is)
    (case a_Basis___init__ => k_is)
    (case i_Basis___init__ => k_is)
    (case l_Basis___init__ => k_is)
    (case c_Basis___init__ => k_is)
    (case k_Basis___init__ => k_is)
    (case a_Basis_taken => k_is)
    (case i_Basis_taken => k_is)
    (case l_Basis_taken => k_is)
    (case c_Basis_taken => k_is)
    (case k_Basis_taken => k_is)
    (case a_Basis_add => k_is)
    (case i_Basis_add => k_is)
    (case l_Basis_add => k_is)
    (case c_Basis_add => k_is)
    (case k_Basis_add => k_is)
    (case a_Basis_shift => k_is)
    (case i_Basis_shift => k_is)
    (case l_Basis_shift => k_is)
    (case c_Basis_shift => k_is)
    (case k_Basis_shift => k_is)
    (case a_basis_of => k_is)
    (case l_basis_of => k_is)
    (case c_basis_of => k_is)
    (case k_basis_of => k_is)
    (case a_independent => k_is)
    (case l_independent => k_is)
    (case c_independent => k_is)
    (case k_independent => k_is)
    (case a_weights => k_is)
    (case l_weights => k_is)
    (case c_weights => k_is)
    (case k_weights => k_is)
    (case a_weights_right => k_is)
    (case l_weights_right => k_is)
    (case c_weights_right => k_is)
    (case k_weights_right => k_is)
    (case a_shift_right => k_is)
    (case l_shift_right => k_is)
    (case c_shift_right => k_is)
    (case k_shift_right => k_is)
    (case a__law_state => k_is)
    (case l__law_state => k_is)
    (case c__law_state => k_is)
    (case k__law_state => k_is)
    (case a__law_draw => k_is)
    (case l__law_draw => k_is)
    (case c__law_draw => k_is)
    (case k__law_draw => k_is)
    (case a__law_pick => k_is)
    (case l__law_pick => k_is)
    (case c__law_pick => k_is)
    (case k__law_pick => k_is)
    (case a__law_same => k_is)
    (case l__law_same => k_is)
    (case c__law_same => k_is)
    (case k__law_same => k_is)
    (case a__law_number => k_is)
    (case l__law_number => k_is)
    (case c__law_number => k_is)
    (case k__law_number => k_is)
    (case a__law_mixed => k_is)
    (case l__law_mixed => k_is)
    (case c__law_mixed => k_is)
    (case k__law_mixed => k_is)
    (case a__law_rows => k_is)
    (case l__law_rows => k_is)
    (case c__law_rows => k_is)
    (case k__law_rows => k_is)
    (case a__law_goal => k_is)
    (case l__law_goal => k_is)
    (case c__law_goal => k_is)
    (case k__law_goal => k_is)
    (case a__law_follows => k_is)
    (case l__law_follows => k_is)
    (case c__law_follows => k_is)
    (case k__law_follows => k_is)
    (case a__law_moves => k_is)
    (case l__law_moves => k_is)
    (case c__law_moves => k_is)
    (case k__law_moves => k_is)
    (case a__law_whole => k_is)
    (case l__law_whole => k_is)
    (case c__law_whole => k_is)
    (case k__law_whole => k_is)
    (case a__law_told => k_is)
    (case l__law_told => k_is)
    (case c__law_told => k_is)
    (case k__law_told => k_is)
    (case a__law_judged => k_is)
    (case l__law_judged => k_is)
    (case c__law_judged => k_is)
    (case k__law_judged => k_is)
    (case a_law => k_is)
    (case l_law => k_is)
    (case c_law => k_is)
    (case k_law => k_is)
    (case pg_Basis => k_is)
    (case hd_Basis => k_is)
    (case po_Basis => k_is)
    (case sa_Basis => k_is)
    (case mk_Basis => k_is)
    (case kc_Basis => k_is)
    (case n_Basis_count => k_is)
    (case n_Basis_width => k_is)
    (case n_Basis_steps => k_is)
    (case z_abs => k_is)
    (case z_list => k_is)
    (case z_zip => k_is)
    (case z_sum => k_is)
    (case z_range => k_is)
    (case z_int => k_is)
    (case z_len => k_is)
    (case z_enumerate => k_is)
    (case z_tuple => k_is)
    (case z_all => k_is)
    (case z_isinstance => k_is)
    (case z_bool => k_is)
    (case z_str => k_is)
    (case z_repr => k_is)
